/-
  The types and models of the functions of a volume and an index, printed by a program of ours; contracts of library functions.
-/
import Derived.Shelf.Strings.Trim
import Derived.Shelf.Strings.Cut
import Derived.Shelf.Strings.Search3
import Derived.Shelf.Strings.Prefix
import Derived.Shelf.Strings.Runes
import Derived.Shelf.Small.Strs
import Derived.Shelf.Small.Wraps
import Derived.Shelf.Strconv.AtoiAll
import Derived.Shelf.Strconv.Itoa3
import Derived.Shelf.SlSortCmp.NoneTotal
import Derived.Shelf.LaysM
import Derived.Shelf.LaysC
import Derived.Test.YtjehjogdlamghaaGreatDoorKitSix
import Derived.Test.YtjehjogdlamghaaGreatDoorProg
import Derived.Recover
import Derived.Tactics
import Derived.Tactics2
import Derived.Shelf.Spec.SlicesInsert
import Derived.Lib.AppendZerosOnto
import Derived.Laws.NewBlocks
import Derived.Laws.CopyRow
set_option linter.all false
set_option maxHeartbeats 4000000
namespace Go.Proofs
open Go.Shelf Go.RowKit
def Tryz.laysC172_ren : Go.Shelf.Ren := ⟨fun | 172 => 104 | 244 => 143 | 245 => 144 | 247 => 182 | 279 => 183 | 280 => 184 | 281 => 185 | 282 => 186 | 287 => 215 | 316 => 216 | 171 => 59 | 205 => 217 | 321 => 229 | 322 => 230 | 243 => 94 | 246 => 134 | 283 => 173 | 284 => 174 | 285 => 175 | 286 => 176 | 129 => 170 | 317 => 207 | 318 => 208 | 319 => 209 | 320 => 210 | 337 => 225 | 338 => 226 | n => n, fun | 9 => 9 | 3 => 3 | 75 => 177 | 76 => 178 | 4 => 4 | 5 => 5 | 167 => 263 | 37 => 147 | 0 => 0 | 85 => 264 | 2 => 2 | 168 => 266 | 53 => 255 | 175 => 292 | 46 => 230 | 210 => 295 | 127 => 205 | 145 => 308 | 143 => 306 | 21 => 21 | 171 => 256 | 173 => 258 | 212 => 289 | 51 => 253 | 20 => 20 | 213 => 290 | 232 => 309 | 233 => 310 | 80 => 181 | n => n, fun | 15 => 2 | 16 => 3 | 17 => 0 | 18 => 4 | 19 => 5 | n => n⟩
theorem Tryz.laysC172 : Go.Proofs.LaysC.n172 Tryz.prog Tryz.laysC172_ren := {
 mixed := by kernel_rfl
 f129 := Tryz.func170.trans (congrArg some (by kernel_rfl))
 f171 := Tryz.func59.trans (congrArg some (by kernel_rfl))
 f172 := Tryz.func104.trans (congrArg some (by kernel_rfl))
 f205 := Tryz.func217.trans (congrArg some (by kernel_rfl))
 f243 := Tryz.func94.trans (congrArg some (by kernel_rfl))
 f244 := Tryz.func143.trans (congrArg some (by kernel_rfl))
 f245 := Tryz.func144.trans (congrArg some (by kernel_rfl))
 f246 := Tryz.func134.trans (congrArg some (by kernel_rfl))
 f247 := Tryz.func182.trans (congrArg some (by kernel_rfl))
 f279 := Tryz.func183.trans (congrArg some (by kernel_rfl))
 f280 := Tryz.func184.trans (congrArg some (by kernel_rfl))
 f281 := Tryz.func185.trans (congrArg some (by kernel_rfl))
 f282 := Tryz.func186.trans (congrArg some (by kernel_rfl))
 f283 := Tryz.func173.trans (congrArg some (by kernel_rfl))
 f284 := Tryz.func174.trans (congrArg some (by kernel_rfl))
 f285 := Tryz.func175.trans (congrArg some (by kernel_rfl))
 f286 := Tryz.func176.trans (congrArg some (by kernel_rfl))
 f287 := Tryz.func215.trans (congrArg some (by kernel_rfl))
 f316 := Tryz.func216.trans (congrArg some (by kernel_rfl))
 f317 := Tryz.func207.trans (congrArg some (by kernel_rfl))
 f318 := Tryz.func208.trans (congrArg some (by kernel_rfl))
 f319 := Tryz.func209.trans (congrArg some (by kernel_rfl))
 f320 := Tryz.func210.trans (congrArg some (by kernel_rfl))
 f321 := Tryz.func229.trans (congrArg some (by kernel_rfl))
 f322 := Tryz.func230.trans (congrArg some (by kernel_rfl))
 f337 := Tryz.func225.trans (congrArg some (by kernel_rfl))
 f338 := Tryz.func226.trans (congrArg some (by kernel_rfl))
 t0 := Tryz.underlying0
 a0 := Tryz.isAgg0
 z0 := Tryz.sizeOf0
 v0 := Tryz.zeroValue0
 t2 := Tryz.underlying2
 a2 := Tryz.isAgg2
 z2 := Tryz.sizeOf2
 v2 := Tryz.zeroValue2
 t3 := Tryz.underlying3
 a3 := Tryz.isAgg3
 z3 := Tryz.sizeOf3
 v3 := Tryz.zeroValue3
 t4 := Tryz.underlying4
 a4 := Tryz.isAgg4
 z4 := Tryz.sizeOf4
 v4 := Tryz.zeroValue4
 t5 := Tryz.underlying5
 a5 := Tryz.isAgg5
 z5 := Tryz.sizeOf5
 v5 := Tryz.zeroValue5
 t9 := Tryz.underlying9
 a9 := Tryz.isAgg9
 z9 := Tryz.sizeOf9
 v9 := Tryz.zeroValue9
 t20 := Tryz.underlying20
 a20 := Tryz.isAgg20
 z20 := Tryz.sizeOf20
 v20 := Tryz.zeroValue20
 t21 := Tryz.underlying21
 a21 := Tryz.isAgg21
 z21 := Tryz.sizeOf21
 v21 := Tryz.zeroValue21
 t37 := Tryz.underlying147
 a37 := Tryz.isAgg147
 z37 := Tryz.sizeOf147
 v37 := Tryz.zeroValue147
 t46 := Tryz.underlying230
 a46 := Tryz.isAgg230
 z46 := Tryz.sizeOf230
 v46 := Tryz.zeroValue230
 t51 := Tryz.underlying253
 a51 := Tryz.isAgg253
 z51 := Tryz.sizeOf253
 v51 := Tryz.zeroValue253
 t53 := Tryz.underlying255
 a53 := Tryz.isAgg255
 z53 := Tryz.sizeOf255
 v53 := Tryz.zeroValue255
 t75 := Tryz.underlying177
 a75 := Tryz.isAgg177
 z75 := Tryz.sizeOf177
 v75 := Tryz.zeroValue177
 t76 := Tryz.underlying178
 a76 := Tryz.isAgg178
 z76 := Tryz.sizeOf178
 v76 := Tryz.zeroValue178
 t85 := Tryz.underlying264
 a85 := Tryz.isAgg264
 z85 := Tryz.sizeOf264
 v85 := Tryz.zeroValue264
 t127 := Tryz.underlying205
 a127 := Tryz.isAgg205
 z127 := Tryz.sizeOf205
 v127 := Tryz.zeroValue205
 t143 := Tryz.underlying306
 a143 := Tryz.isAgg306
 z143 := Tryz.sizeOf306
 v143 := Tryz.zeroValue306
 t145 := Tryz.underlying308
 a145 := Tryz.isAgg308
 z145 := Tryz.sizeOf308
 v145 := Tryz.zeroValue308
 t167 := Tryz.underlying263
 a167 := Tryz.isAgg263
 z167 := Tryz.sizeOf263
 v167 := Tryz.zeroValue263
 t168 := Tryz.underlying266
 a168 := Tryz.isAgg266
 z168 := Tryz.sizeOf266
 v168 := Tryz.zeroValue266
 t171 := Tryz.underlying256
 a171 := Tryz.isAgg256
 z171 := Tryz.sizeOf256
 v171 := Tryz.zeroValue256
 t173 := Tryz.underlying258
 a173 := Tryz.isAgg258
 z173 := Tryz.sizeOf258
 v173 := Tryz.zeroValue258
 t175 := Tryz.underlying292
 a175 := Tryz.isAgg292
 z175 := Tryz.sizeOf292
 v175 := Tryz.zeroValue292
 t210 := Tryz.underlying295
 a210 := Tryz.isAgg295
 z210 := Tryz.sizeOf295
 v210 := Tryz.zeroValue295
 t212 := Tryz.underlying289
 a212 := Tryz.isAgg289
 z212 := Tryz.sizeOf289
 v212 := Tryz.zeroValue289
 t213 := Tryz.underlying290
 a213 := Tryz.isAgg290
 z213 := Tryz.sizeOf290
 t232 := Tryz.underlying309
 a232 := Tryz.isAgg309
 z232 := Tryz.sizeOf309
 v232 := Tryz.zeroValue309
 t233 := Tryz.underlying310
 a233 := Tryz.isAgg310
 z233 := Tryz.sizeOf310
 v233 := Tryz.zeroValue310
 g15 := by kernel_rfl
 g16 := by kernel_rfl
 g17 := by kernel_rfl
 g18 := by kernel_rfl
 g19 := by kernel_rfl
 t80 := Tryz.underlying181
 a80 := Tryz.isAgg181
 z80 := Tryz.sizeOf181
 v80 := Tryz.zeroValue181
 i0 := by kernel_rfl
 i2 := by kernel_rfl
 i3 := by kernel_rfl
 i4 := by kernel_rfl
 i5 := by kernel_rfl
 i9 := by kernel_rfl
 i20 := by kernel_rfl
 i21 := by kernel_rfl
 i37 := by kernel_rfl
 i46 := by kernel_rfl
 i51 := by kernel_rfl
 i53 := by kernel_rfl
 i75 := by kernel_rfl
 i76 := by kernel_rfl
 i80 := by kernel_rfl
 i85 := by kernel_rfl
 i127 := by kernel_rfl
 i143 := by kernel_rfl
 i145 := by kernel_rfl
 i167 := by kernel_rfl
 i168 := by kernel_rfl
 i171 := by kernel_rfl
 i173 := by kernel_rfl
 i175 := by kernel_rfl
 i210 := by kernel_rfl
 i212 := by kernel_rfl
 i232 := by kernel_rfl
 i233 := by kernel_rfl
 m15 := by kernel_rfl
 m16 := by kernel_rfl
 m17 := by kernel_rfl
 m18 := by kernel_rfl
 m19 := by kernel_rfl
 c0 := by kernel_rfl
 c2 := by kernel_rfl
 c3 := by kernel_rfl
 c4 := by kernel_rfl
 c5 := by kernel_rfl
 c9 := by kernel_rfl
 c20 := by kernel_rfl
 c21 := by kernel_rfl
 c37 := by kernel_rfl
 c46 := by kernel_rfl
 c51 := by kernel_rfl
 c53 := by kernel_rfl
 c75 := by kernel_rfl
 c76 := by kernel_rfl
 c80 := by kernel_rfl
 c85 := by kernel_rfl
 c127 := by kernel_rfl
 c143 := by kernel_rfl
 c145 := by kernel_rfl
 c167 := by kernel_rfl
 c168 := by kernel_rfl
 c171 := by kernel_rfl
 c173 := by kernel_rfl
 c175 := by kernel_rfl
 c210 := by kernel_rfl
 c212 := by kernel_rfl
 c213 := by kernel_rfl
 c232 := by kernel_rfl
 c233 := by kernel_rfl }
def Tryz.laysM171_ren : Go.Shelf.Ren := ⟨fun | 171 => 59 | 243 => 94 | 246 => 134 | 283 => 173 | 284 => 174 | 285 => 175 | 286 => 176 | 129 => 170 | 317 => 207 | 318 => 208 | 319 => 209 | 320 => 210 | 337 => 225 | 338 => 226 | n => n, fun | 3 => 3 | 9 => 9 | 2 => 2 | 4 => 4 | 171 => 256 | 0 => 0 | 53 => 255 | 37 => 147 | 5 => 5 | 173 => 258 | 212 => 289 | 51 => 253 | 20 => 20 | 213 => 290 | 46 => 230 | 232 => 309 | 233 => 310 | n => n, fun | 17 => 0 | 18 => 4 | 19 => 5 | n => n⟩
theorem Tryz.laysM171 : Go.Proofs.LaysM.n171 Tryz.prog Tryz.laysM171_ren := {
 mixed := by kernel_rfl
 f129 := Tryz.func170.trans (congrArg some (by kernel_rfl))
 f171 := Tryz.func59.trans (congrArg some (by kernel_rfl))
 f243 := Tryz.func94.trans (congrArg some (by kernel_rfl))
 f246 := Tryz.func134.trans (congrArg some (by kernel_rfl))
 f283 := Tryz.func173.trans (congrArg some (by kernel_rfl))
 f284 := Tryz.func174.trans (congrArg some (by kernel_rfl))
 f285 := Tryz.func175.trans (congrArg some (by kernel_rfl))
 f286 := Tryz.func176.trans (congrArg some (by kernel_rfl))
 f317 := Tryz.func207.trans (congrArg some (by kernel_rfl))
 f318 := Tryz.func208.trans (congrArg some (by kernel_rfl))
 f319 := Tryz.func209.trans (congrArg some (by kernel_rfl))
 f320 := Tryz.func210.trans (congrArg some (by kernel_rfl))
 f337 := Tryz.func225.trans (congrArg some (by kernel_rfl))
 f338 := Tryz.func226.trans (congrArg some (by kernel_rfl))
 t0 := Tryz.underlying0
 a0 := Tryz.isAgg0
 z0 := Tryz.sizeOf0
 v0 := Tryz.zeroValue0
 t2 := Tryz.underlying2
 a2 := Tryz.isAgg2
 z2 := Tryz.sizeOf2
 v2 := Tryz.zeroValue2
 t3 := Tryz.underlying3
 a3 := Tryz.isAgg3
 z3 := Tryz.sizeOf3
 v3 := Tryz.zeroValue3
 t4 := Tryz.underlying4
 a4 := Tryz.isAgg4
 z4 := Tryz.sizeOf4
 v4 := Tryz.zeroValue4
 t5 := Tryz.underlying5
 a5 := Tryz.isAgg5
 z5 := Tryz.sizeOf5
 v5 := Tryz.zeroValue5
 t9 := Tryz.underlying9
 a9 := Tryz.isAgg9
 z9 := Tryz.sizeOf9
 v9 := Tryz.zeroValue9
 t20 := Tryz.underlying20
 a20 := Tryz.isAgg20
 z20 := Tryz.sizeOf20
 v20 := Tryz.zeroValue20
 t37 := Tryz.underlying147
 a37 := Tryz.isAgg147
 z37 := Tryz.sizeOf147
 v37 := Tryz.zeroValue147
 t46 := Tryz.underlying230
 a46 := Tryz.isAgg230
 z46 := Tryz.sizeOf230
 v46 := Tryz.zeroValue230
 t51 := Tryz.underlying253
 a51 := Tryz.isAgg253
 z51 := Tryz.sizeOf253
 v51 := Tryz.zeroValue253
 t53 := Tryz.underlying255
 a53 := Tryz.isAgg255
 z53 := Tryz.sizeOf255
 v53 := Tryz.zeroValue255
 t171 := Tryz.underlying256
 a171 := Tryz.isAgg256
 z171 := Tryz.sizeOf256
 v171 := Tryz.zeroValue256
 t173 := Tryz.underlying258
 a173 := Tryz.isAgg258
 z173 := Tryz.sizeOf258
 v173 := Tryz.zeroValue258
 t212 := Tryz.underlying289
 a212 := Tryz.isAgg289
 z212 := Tryz.sizeOf289
 v212 := Tryz.zeroValue289
 t213 := Tryz.underlying290
 a213 := Tryz.isAgg290
 z213 := Tryz.sizeOf290
 t232 := Tryz.underlying309
 a232 := Tryz.isAgg309
 z232 := Tryz.sizeOf309
 v232 := Tryz.zeroValue309
 t233 := Tryz.underlying310
 a233 := Tryz.isAgg310
 z233 := Tryz.sizeOf310
 v233 := Tryz.zeroValue310
 g17 := by kernel_rfl
 g18 := by kernel_rfl
 g19 := by kernel_rfl
 i0 := by kernel_rfl
 i2 := by kernel_rfl
 i3 := by kernel_rfl
 i4 := by kernel_rfl
 i5 := by kernel_rfl
 i9 := by kernel_rfl
 i20 := by kernel_rfl
 i37 := by kernel_rfl
 i46 := by kernel_rfl
 i51 := by kernel_rfl
 i53 := by kernel_rfl
 i171 := by kernel_rfl
 i173 := by kernel_rfl
 i212 := by kernel_rfl
 i232 := by kernel_rfl
 i233 := by kernel_rfl
 m17 := by kernel_rfl
 m18 := by kernel_rfl
 m19 := by kernel_rfl }
def Tryz.lays103_ren : Go.Shelf.Ren := ⟨fun | 103 => 105 | 210 => 145 | 206 => 187 | n => n, fun | 9 => 9 | 4 => 4 | 24 => 180 | 3 => 3 | n => n, fun | n => n⟩
theorem Tryz.lays103 : Go.Proofs.Lays.n103 Tryz.prog Tryz.lays103_ren := {
 mixed := by kernel_rfl
 f103 := Tryz.func105.trans (congrArg some (by kernel_rfl))
 f206 := Tryz.func187.trans (congrArg some (by kernel_rfl))
 f210 := Tryz.func145.trans (congrArg some (by kernel_rfl))
 t3 := Tryz.underlying3
 a3 := Tryz.isAgg3
 z3 := Tryz.sizeOf3
 v3 := Tryz.zeroValue3
 t4 := Tryz.underlying4
 a4 := Tryz.isAgg4
 z4 := Tryz.sizeOf4
 v4 := Tryz.zeroValue4
 t9 := Tryz.underlying9
 a9 := Tryz.isAgg9
 z9 := Tryz.sizeOf9
 v9 := Tryz.zeroValue9
 t24 := Tryz.underlying180
 a24 := Tryz.isAgg180
 z24 := Tryz.sizeOf180
 v24 := Tryz.zeroValue180 }
def Tryz.lays145_ren : Go.Shelf.Ren := ⟨fun | 145 => 103 | 220 => 142 | 219 => 181 | 217 => 211 | 225 => 212 | 224 => 213 | 267 => 214 | 266 => 227 | 314 => 228 | n => n, fun | 9 => 9 | 4 => 4 | 59 => 210 | 3 => 3 | 5 => 5 | 46 => 230 | 146 => 303 | 51 => 253 | n => n, fun | 1 => 1 | n => n⟩
theorem Tryz.lays145 : Go.Proofs.Lays.n145 Tryz.prog Tryz.lays145_ren := {
 mixed := by kernel_rfl
 f145 := Tryz.func103.trans (congrArg some (by kernel_rfl))
 f217 := Tryz.func211.trans (congrArg some (by kernel_rfl))
 f219 := Tryz.func181.trans (congrArg some (by kernel_rfl))
 f220 := Tryz.func142.trans (congrArg some (by kernel_rfl))
 f224 := Tryz.func213.trans (congrArg some (by kernel_rfl))
 f225 := Tryz.func212.trans (congrArg some (by kernel_rfl))
 f266 := Tryz.func227.trans (congrArg some (by kernel_rfl))
 f267 := Tryz.func214.trans (congrArg some (by kernel_rfl))
 f314 := Tryz.func228.trans (congrArg some (by kernel_rfl))
 t3 := Tryz.underlying3
 a3 := Tryz.isAgg3
 z3 := Tryz.sizeOf3
 v3 := Tryz.zeroValue3
 t4 := Tryz.underlying4
 a4 := Tryz.isAgg4
 z4 := Tryz.sizeOf4
 v4 := Tryz.zeroValue4
 t5 := Tryz.underlying5
 a5 := Tryz.isAgg5
 z5 := Tryz.sizeOf5
 v5 := Tryz.zeroValue5
 t9 := Tryz.underlying9
 a9 := Tryz.isAgg9
 z9 := Tryz.sizeOf9
 v9 := Tryz.zeroValue9
 t46 := Tryz.underlying230
 a46 := Tryz.isAgg230
 z46 := Tryz.sizeOf230
 v46 := Tryz.zeroValue230
 t51 := Tryz.underlying253
 a51 := Tryz.isAgg253
 z51 := Tryz.sizeOf253
 v51 := Tryz.zeroValue253
 t59 := Tryz.underlying210
 a59 := Tryz.isAgg210
 z59 := Tryz.sizeOf210
 v59 := Tryz.zeroValue210
 t146 := Tryz.underlying303
 a146 := Tryz.isAgg303
 z146 := Tryz.sizeOf303
 v146 := Tryz.zeroValue303
 g1 := by kernel_rfl }
def Tryz.lays144_ren : Go.Shelf.Ren := ⟨fun | 144 => 106 | 143 => 146 | 219 => 181 | 217 => 211 | 225 => 212 | 224 => 213 | 267 => 214 | 266 => 227 | 314 => 228 | n => n, fun | 9 => 9 | 4 => 4 | 3 => 3 | 5 => 5 | 46 => 230 | 146 => 303 | 51 => 253 | n => n, fun | 1 => 1 | n => n⟩
theorem Tryz.lays144 : Go.Proofs.Lays.n144 Tryz.prog Tryz.lays144_ren := {
 mixed := by kernel_rfl
 f143 := Tryz.func146.trans (congrArg some (by kernel_rfl))
 f144 := Tryz.func106.trans (congrArg some (by kernel_rfl))
 f217 := Tryz.func211.trans (congrArg some (by kernel_rfl))
 f219 := Tryz.func181.trans (congrArg some (by kernel_rfl))
 f224 := Tryz.func213.trans (congrArg some (by kernel_rfl))
 f225 := Tryz.func212.trans (congrArg some (by kernel_rfl))
 f266 := Tryz.func227.trans (congrArg some (by kernel_rfl))
 f267 := Tryz.func214.trans (congrArg some (by kernel_rfl))
 f314 := Tryz.func228.trans (congrArg some (by kernel_rfl))
 t3 := Tryz.underlying3
 a3 := Tryz.isAgg3
 z3 := Tryz.sizeOf3
 v3 := Tryz.zeroValue3
 t4 := Tryz.underlying4
 a4 := Tryz.isAgg4
 z4 := Tryz.sizeOf4
 v4 := Tryz.zeroValue4
 t5 := Tryz.underlying5
 a5 := Tryz.isAgg5
 z5 := Tryz.sizeOf5
 v5 := Tryz.zeroValue5
 t9 := Tryz.underlying9
 a9 := Tryz.isAgg9
 z9 := Tryz.sizeOf9
 v9 := Tryz.zeroValue9
 t46 := Tryz.underlying230
 a46 := Tryz.isAgg230
 z46 := Tryz.sizeOf230
 v46 := Tryz.zeroValue230
 t51 := Tryz.underlying253
 a51 := Tryz.isAgg253
 z51 := Tryz.sizeOf253
 v51 := Tryz.zeroValue253
 t146 := Tryz.underlying303
 a146 := Tryz.isAgg303
 z146 := Tryz.sizeOf303
 v146 := Tryz.zeroValue303
 g1 := by kernel_rfl }
def Tryz.lays151_ren : Go.Shelf.Ren := ⟨fun | 151 => 149 | 152 => 188 | 137 => 218 | 119 => 219 | 224 => 213 | 225 => 212 | 217 => 211 | 266 => 227 | n => n, fun | 9 => 9 | 21 => 21 | 4 => 4 | 3 => 3 | 5 => 5 | 0 => 0 | 46 => 230 | n => n, fun | n => n⟩
theorem Tryz.lays151 : Go.Proofs.Lays.n151 Tryz.prog Tryz.lays151_ren := {
 mixed := by kernel_rfl
 f119 := Tryz.func219.trans (congrArg some (by kernel_rfl))
 f137 := Tryz.func218.trans (congrArg some (by kernel_rfl))
 f151 := Tryz.func149.trans (congrArg some (by kernel_rfl))
 f152 := Tryz.func188.trans (congrArg some (by kernel_rfl))
 f217 := Tryz.func211.trans (congrArg some (by kernel_rfl))
 f224 := Tryz.func213.trans (congrArg some (by kernel_rfl))
 f225 := Tryz.func212.trans (congrArg some (by kernel_rfl))
 f266 := Tryz.func227.trans (congrArg some (by kernel_rfl))
 t0 := Tryz.underlying0
 a0 := Tryz.isAgg0
 z0 := Tryz.sizeOf0
 v0 := Tryz.zeroValue0
 t3 := Tryz.underlying3
 a3 := Tryz.isAgg3
 z3 := Tryz.sizeOf3
 v3 := Tryz.zeroValue3
 t4 := Tryz.underlying4
 a4 := Tryz.isAgg4
 z4 := Tryz.sizeOf4
 v4 := Tryz.zeroValue4
 t5 := Tryz.underlying5
 a5 := Tryz.isAgg5
 z5 := Tryz.sizeOf5
 v5 := Tryz.zeroValue5
 t9 := Tryz.underlying9
 a9 := Tryz.isAgg9
 z9 := Tryz.sizeOf9
 v9 := Tryz.zeroValue9
 t21 := Tryz.underlying21
 a21 := Tryz.isAgg21
 z21 := Tryz.sizeOf21
 v21 := Tryz.zeroValue21
 t46 := Tryz.underlying230
 a46 := Tryz.isAgg230
 z46 := Tryz.sizeOf230
 v46 := Tryz.zeroValue230 }
def Tryz.lays160_ren : Go.Shelf.Ren := ⟨fun | 160 => 151 | 232 => 191 | 231 => 190 | 227 => 192 | 234 => 194 | 233 => 193 | 236 => 196 | 235 => 195 | 228 => 220 | 271 => 222 | 151 => 149 | 197 => 221 | 120 => 232 | 152 => 188 | 260 => 231 | 137 => 218 | 119 => 219 | 224 => 213 | 225 => 212 | 217 => 211 | 266 => 227 | n => n, fun | 9 => 9 | 4 => 4 | 3 => 3 | 5 => 5 | 117 => 273 | 116 => 272 | 0 => 0 | 124 => 276 | 21 => 21 | 105 => 298 | 46 => 230 | 119 => 311 | 139 => 314 | 138 => 313 | n => n, fun | 3 => 6 | 4 => 7 | n => n⟩
theorem Tryz.lays160 : Go.Proofs.Lays.n160 Tryz.prog Tryz.lays160_ren := {
 mixed := by kernel_rfl
 f119 := Tryz.func219.trans (congrArg some (by kernel_rfl))
 f120 := Tryz.func232.trans (congrArg some (by kernel_rfl))
 f137 := Tryz.func218.trans (congrArg some (by kernel_rfl))
 f151 := Tryz.func149.trans (congrArg some (by kernel_rfl))
 f152 := Tryz.func188.trans (congrArg some (by kernel_rfl))
 f160 := Tryz.func151.trans (congrArg some (by kernel_rfl))
 f197 := Tryz.func221.trans (congrArg some (by kernel_rfl))
 f217 := Tryz.func211.trans (congrArg some (by kernel_rfl))
 f224 := Tryz.func213.trans (congrArg some (by kernel_rfl))
 f225 := Tryz.func212.trans (congrArg some (by kernel_rfl))
 f227 := Tryz.func192.trans (congrArg some (by kernel_rfl))
 f228 := Tryz.func220.trans (congrArg some (by kernel_rfl))
 f231 := Tryz.func190.trans (congrArg some (by kernel_rfl))
 f232 := Tryz.func191.trans (congrArg some (by kernel_rfl))
 f233 := Tryz.func193.trans (congrArg some (by kernel_rfl))
 f234 := Tryz.func194.trans (congrArg some (by kernel_rfl))
 f235 := Tryz.func195.trans (congrArg some (by kernel_rfl))
 f236 := Tryz.func196.trans (congrArg some (by kernel_rfl))
 f260 := Tryz.func231.trans (congrArg some (by kernel_rfl))
 f266 := Tryz.func227.trans (congrArg some (by kernel_rfl))
 f271 := Tryz.func222.trans (congrArg some (by kernel_rfl))
 t0 := Tryz.underlying0
 a0 := Tryz.isAgg0
 z0 := Tryz.sizeOf0
 v0 := Tryz.zeroValue0
 t3 := Tryz.underlying3
 a3 := Tryz.isAgg3
 z3 := Tryz.sizeOf3
 v3 := Tryz.zeroValue3
 t4 := Tryz.underlying4
 a4 := Tryz.isAgg4
 z4 := Tryz.sizeOf4
 v4 := Tryz.zeroValue4
 t5 := Tryz.underlying5
 a5 := Tryz.isAgg5
 z5 := Tryz.sizeOf5
 v5 := Tryz.zeroValue5
 t9 := Tryz.underlying9
 a9 := Tryz.isAgg9
 z9 := Tryz.sizeOf9
 v9 := Tryz.zeroValue9
 t21 := Tryz.underlying21
 a21 := Tryz.isAgg21
 z21 := Tryz.sizeOf21
 v21 := Tryz.zeroValue21
 t46 := Tryz.underlying230
 a46 := Tryz.isAgg230
 z46 := Tryz.sizeOf230
 v46 := Tryz.zeroValue230
 t105 := Tryz.underlying298
 a105 := Tryz.isAgg298
 z105 := Tryz.sizeOf298
 v105 := Tryz.zeroValue298
 t116 := Tryz.underlying272
 a116 := Tryz.isAgg272
 z116 := Tryz.sizeOf272
 t117 := Tryz.underlying273
 a117 := Tryz.isAgg273
 z117 := Tryz.sizeOf273
 v117 := Tryz.zeroValue273
 t119 := Tryz.underlying311
 a119 := Tryz.isAgg311
 z119 := Tryz.sizeOf311
 t124 := Tryz.underlying276
 a124 := Tryz.isAgg276
 z124 := Tryz.sizeOf276
 v124 := Tryz.zeroValue276
 t138 := Tryz.underlying313
 a138 := Tryz.isAgg313
 z138 := Tryz.sizeOf313
 v138 := Tryz.zeroValue313
 t139 := Tryz.underlying314
 a139 := Tryz.isAgg314
 z139 := Tryz.sizeOf314
 v139 := Tryz.zeroValue314
 g3 := by kernel_rfl
 g4 := by kernel_rfl }
def Tryz.lays106_ren : Go.Shelf.Ren := ⟨fun | 106 => 155 | 213 => 198 | 265 => 223 | n => n, fun | 9 => 9 | 3 => 3 | n => n, fun | n => n⟩
theorem Tryz.lays106 : Go.Proofs.Lays.n106 Tryz.prog Tryz.lays106_ren := {
 mixed := by kernel_rfl
 f106 := Tryz.func155.trans (congrArg some (by kernel_rfl))
 f213 := Tryz.func198.trans (congrArg some (by kernel_rfl))
 f265 := Tryz.func223.trans (congrArg some (by kernel_rfl))
 t3 := Tryz.underlying3
 a3 := Tryz.isAgg3
 z3 := Tryz.sizeOf3
 v3 := Tryz.zeroValue3
 t9 := Tryz.underlying9
 a9 := Tryz.isAgg9
 z9 := Tryz.sizeOf9
 v9 := Tryz.zeroValue9 }
def Tryz.laysF87_ren : Go.Shelf.Ren := ⟨fun | 6 => 87 | 15 => 128 | 14 => 127 | 28 => 169 | 29 => 170 | 20 => 161 | 21 => 162 | 22 => 163 | 23 => 164 | 24 => 165 | 25 => 166 | 26 => 167 | 27 => 168 | 46 => 201 | 47 => 202 | 48 => 203 | 49 => 204 | 50 => 205 | 57 => 224 | n => n, fun | 22 => 44 | 24 => 116 | 25 => 202 | 3 => 3 | 39 => 230 | 0 => 0 | 53 => 253 | 55 => 255 | 4 => 4 | 46 => 247 | 45 => 246 | 50 => 175 | 5 => 5 | 9 => 9 | 66 => 280 | 70 => 284 | 76 => 300 | 77 => 301 | n => n, fun | n => n⟩
theorem Tryz.laysF87 : Go.Proofs.SlLaysF0.n6 Tryz.prog Tryz.laysF87_ren := {
 mixed := by kernel_rfl
 f6 := ⟨Tryz.f87.name, by decide, Tryz.func87.trans (congrArg some (by kernel_rfl))⟩
 f14 := ⟨Tryz.f127.name, by decide, Tryz.func127.trans (congrArg some (by kernel_rfl))⟩
 f15 := Tryz.func128.trans (congrArg some (by kernel_rfl))
 f20 := ⟨Tryz.f161.name, by decide, Tryz.func161.trans (congrArg some (by kernel_rfl))⟩
 f21 := ⟨Tryz.f162.name, by decide, Tryz.func162.trans (congrArg some (by kernel_rfl))⟩
 f22 := ⟨Tryz.f163.name, by decide, Tryz.func163.trans (congrArg some (by kernel_rfl))⟩
 f23 := ⟨Tryz.f164.name, by decide, Tryz.func164.trans (congrArg some (by kernel_rfl))⟩
 f24 := ⟨Tryz.f165.name, by decide, Tryz.func165.trans (congrArg some (by kernel_rfl))⟩
 f25 := ⟨Tryz.f166.name, by decide, Tryz.func166.trans (congrArg some (by kernel_rfl))⟩
 f26 := ⟨Tryz.f167.name, by decide, Tryz.func167.trans (congrArg some (by kernel_rfl))⟩
 f27 := ⟨Tryz.f168.name, by decide, Tryz.func168.trans (congrArg some (by kernel_rfl))⟩
 f28 := Tryz.func169.trans (congrArg some (by kernel_rfl))
 f29 := Tryz.func170.trans (congrArg some (by kernel_rfl))
 f46 := ⟨Tryz.f201.name, by decide, Tryz.func201.trans (congrArg some (by kernel_rfl))⟩
 f47 := Tryz.func202.trans (congrArg some (by kernel_rfl))
 f48 := Tryz.func203.trans (congrArg some (by kernel_rfl))
 f49 := ⟨Tryz.f204.name, by decide, Tryz.func204.trans (congrArg some (by kernel_rfl))⟩
 f50 := ⟨Tryz.f205.name, by decide, Tryz.func205.trans (congrArg some (by kernel_rfl))⟩
 f57 := ⟨Tryz.f224.name, by decide, Tryz.func224.trans (congrArg some (by kernel_rfl))⟩
 t0 := Tryz.underlying0
 a0 := Tryz.isAgg0
 z0 := Tryz.sizeOf0
 v0 := Tryz.zeroValue0
 t3 := Tryz.underlying3
 a3 := Tryz.isAgg3
 z3 := Tryz.sizeOf3
 v3 := Tryz.zeroValue3
 t4 := Tryz.underlying4
 a4 := Tryz.isAgg4
 z4 := Tryz.sizeOf4
 v4 := Tryz.zeroValue4
 t5 := Tryz.underlying5
 a5 := Tryz.isAgg5
 z5 := Tryz.sizeOf5
 v5 := Tryz.zeroValue5
 t9 := Tryz.underlying9
 a9 := Tryz.isAgg9
 z9 := Tryz.sizeOf9
 v9 := Tryz.zeroValue9
 t22 := Tryz.underlying44
 a22 := Tryz.isAgg44
 z22 := Tryz.sizeOf44
 v22 := Tryz.zeroValue44
 t25 := Tryz.underlying202
 a25 := Tryz.isAgg202
 z25 := Tryz.sizeOf202
 v25 := Tryz.zeroValue202
 t39 := Tryz.underlying230
 a39 := Tryz.isAgg230
 z39 := Tryz.sizeOf230
 v39 := Tryz.zeroValue230
 t45 := Tryz.underlying246
 a45 := Tryz.isAgg246
 z45 := Tryz.sizeOf246
 v45 := Tryz.zeroValue246
 t46 := Tryz.underlying247
 a46 := Tryz.isAgg247
 z46 := Tryz.sizeOf247
 v46 := Tryz.zeroValue247
 t50 := Tryz.underlying175
 a50 := Tryz.isAgg175
 z50 := Tryz.sizeOf175
 v50 := Tryz.zeroValue175
 t53 := Tryz.underlying253
 a53 := Tryz.isAgg253
 z53 := Tryz.sizeOf253
 v53 := Tryz.zeroValue253
 t55 := Tryz.underlying255
 a55 := Tryz.isAgg255
 z55 := Tryz.sizeOf255
 v55 := Tryz.zeroValue255
 t66 := Tryz.underlying280
 a66 := Tryz.isAgg280
 z66 := Tryz.sizeOf280
 v66 := Tryz.zeroValue280
 t70 := Tryz.underlying284
 a70 := Tryz.isAgg284
 z70 := Tryz.sizeOf284
 v70 := Tryz.zeroValue284
 t76 := Tryz.underlying300
 a76 := Tryz.isAgg300
 z76 := Tryz.sizeOf300
 v76 := Tryz.zeroValue300
 t77 := Tryz.underlying301
 a77 := Tryz.isAgg301
 z77 := Tryz.sizeOf301
 v77 := Tryz.zeroValue301 }
end Go.Proofs
namespace Go.Proofs
open Go Pk
theorem Tryz.srt87 : SrtK Tryz.prog 87 6 :=
  ⟨fun p cap fv w => AnyF.slices_SortFunc_none Tryz.laysF87 p cap fv w,
   fun α _ enc hk h1 cf hO g cb blk off cap d w eg hc hH hb hs hT => AnyQ.slices_SortFunc_total Tryz.laysF87 6 Tryz.isAgg116 Tryz.sizeOf116 enc hk h1 cf hO g cb blk off cap d w eg hc hH hb hs hT⟩
end Go.Proofs
set_option maxHeartbeats 4000000
namespace T10
open Go Go.Proofs Pk Go.RowKit
structure Gv (M : Prop) (H : Hp) : Prop where
 gl : Gl M 2 3 0 H
 mx : ∃ m, CellsAt H ⟨1, 0, none⟩ [.int .i64 m]
theorem Gv.mono {M : Prop} {H K : Hp} (h : Gv M H) (hk : H.le K) : Gv M K := ⟨h.gl.mono hk, h.mx.imp fun _ hm => hm.mono hk⟩
noncomputable def m104 (s : Bytes) : Option (Int × Bool) := atoiM s
noncomputable def m59 (n : Int) : Option Bytes := itoaM n
noncomputable def m103 (s t : Bytes) : Option (Bytes × Bytes × Bool) := chk (s.length ≤ 1073741824) (some (Lib.cut s t))
noncomputable def m105 (s t : Bytes) : Option (Bytes × Bool) := some (Lib.trimPrefix s t, Lib.hasPrefix s t)
noncomputable def m106 (s t : Bytes) : Option Bool := chk (s.length ≤ 1073741824) (some (Lib.contains s t))
theorem bsd (s : Bytes) : (bs s).data.toList = s := by simp [bs]
theorem w104 {M : Prop} {W : World} {H : Hp} (hH : H.le (hp W)) (hg : Gv M H) (s : Bytes) {r : Int × Bool} (hr : m104 s = some r) : Calls Tryz.prog 104 [.string (bs s)].toArray W (RetK M H W (fun v K => ∃ (er1 : Value), v = .tuple [.int .i64 r.1, er1].toArray ∧ Er er1 r.2)) := by
 unfold m104 atoiM at hr
 obtain ⟨hl, hr⟩ := chk_some hr
 obtain rfl := Option.some.inj hr
 have hz : (bs s).size = s.length := bs_size s
 obtain ⟨e0, h0, i0⟩ := hg.gl.syn
 obtain ⟨e1, h1, i1⟩ := hg.gl.rng
 cases h : Lib.atoiAll s with
 | ok v =>
  refine (Any.strconv_Atoi_ok Tryz.laysC172 (bs s) (by omega) v (by rw [bsd]; exact h) W).mono ?_
  rintro e w' ⟨rfl, hw⟩
  refine ⟨⟨_, by simp [atoiR, h], .inl ⟨by simp [atoiR, h], rfl⟩⟩, ?_⟩
  rcases hw with rfl | ⟨t, rfl⟩
  ·exact Ext.refl _ _
  ·exact Ext.of_below hg.gl.nq (Lib.bytesWorld_below _ _ _)
 | range =>
  refine (Any.strconv_Atoi_range Tryz.laysC172 (bs s) (by omega) (by rw [bsd]; exact h) e1 W (cell_of hH h1) i1).mono ?_
  rintro e w' ⟨N, rfl, _, _, hb⟩
  have hr1 : atoiR s = (Lib.atoiSat s, true) := by simp [atoiR, h]
  rw [hr1, bsd]
  exact ⟨⟨_, rfl, .inr ⟨rfl, _, _, rfl⟩⟩, Ext.of_below hg.gl.nq hb⟩
 | _ =>
  refine (Any.strconv_Atoi_syntax Tryz.laysC172 (bs s) (by omega) (by rw [bsd]; exact h) e0 W (cell_of hH h0) i0).mono ?_
  rintro e w' ⟨N, rfl, _, _, hb⟩
  have hr1 : atoiR s = (0, true) := by simp [atoiR, h]
  rw [hr1]
  exact ⟨⟨_, rfl, .inr ⟨rfl, _, _, rfl⟩⟩, Ext.of_below hg.gl.nq hb⟩
theorem itoaC {W : World} {H : Hp} (hH : H.le (hp W)) {M : Prop} (hg : Gv M H) (n : Int) (h1 : -9223372036854775808 ≤ n) (h2 : n ≤ 9223372036854775807) : Calls Tryz.prog 59 #[.int .i64 n] W fun e w' => e = .returned (.string (bs (Lib.itoa n))) ∧ ∃ k os, w' = Sort.grow (W.drewN k) os := by
 refine (Any.strconv_Itoa Tryz.laysM171 n h1 h2 W (tabIs_of (by kernel_rfl) hH hg.gl.tab)).mono ?_
 rintro e w' ⟨rfl, k, os, rfl⟩
 exact ⟨rfl, k, os, rfl⟩
theorem ext_of_grow (M : Prop) (W : World) (k : Nat) (os : Array Obj) : Ext M W (Sort.grow (W.drewN k) os) :=
 ⟨rfl, rfl, rfl, (by show W.heap.size ≤ (W.heap ++ os).size; rw [Array.size_append]; omega), fun b hb => Array.getElem?_append_left hb, fun _ => Nat.le_add_right _ _⟩
theorem w59 {M : Prop} {W : World} {H : Hp} (hH : H.le (hp W)) (hg : Gv M H) (n : Int) {r : Bytes} (hr : m59 n = some r) : Calls Tryz.prog 59 [.int .i64 n].toArray W (RetS M W (.string (bs r))) := by
 unfold m59 itoaM at hr
 obtain ⟨hl, hr⟩ := chk_some hr
 obtain rfl := Option.some.inj hr
 refine (itoaC hH hg n hl.1 hl.2).mono ?_
 rintro e w' ⟨rfl, k, os, rfl⟩
 exact ⟨rfl, ext_of_grow M W k os⟩
theorem w103 {M : Prop} {W : World} {H : Hp} (hH : H.le (hp W)) (hg : Gv M H) (s t : Bytes) {r : Bytes × Bytes × Bool} (hr : m103 s t = some r) : Calls Tryz.prog 103 [.string (bs s), .string (bs t)].toArray W (RetS M W (.tuple [.string (bs r.1), .string (bs r.2.1), .bool r.2.2].toArray)) := by
 unfold m103 at hr
 obtain ⟨hl, hr⟩ := chk_some hr
 obtain rfl := Option.some.inj hr
 obtain ⟨m, hm⟩ := hg.mx
 refine (Any.strings_Cut Tryz.lays145 (bs s) (bs t) m W (by rw [bs_size]; omega) (cell_of hH hm)).mono ?_
 rintro e w' ⟨rfl, k, rfl⟩
 refine ⟨by simp [bs], ?_⟩
 exact ⟨rfl, rfl, rfl, Nat.le_refl _, fun _ _ => rfl, fun _ => Nat.le_add_right _ _⟩
theorem w105 {M : Prop} {W : World} {H : Hp} (hH : H.le (hp W)) (hg : Gv M H) (s t : Bytes) {r : Bytes × Bool} (hr : m105 s t = some r) : Calls Tryz.prog 105 [.string (bs s), .string (bs t)].toArray W (RetS M W (.tuple [.string (bs r.1), .bool r.2].toArray)) := by
 obtain rfl := Option.some.inj hr
 refine (Any.strings_CutPrefix Tryz.lays103 (bs s) (bs t) W).mono ?_
 rintro e w' ⟨rfl, rfl⟩
 exact ⟨by simp [bs], Ext.refl _ _⟩
theorem w106 {M : Prop} {W : World} {H : Hp} (hH : H.le (hp W)) (hg : Gv M H) (s t : Bytes) {r : Bool} (hr : m106 s t = some r) : Calls Tryz.prog 106 [.string (bs s), .string (bs t)].toArray W (RetS M W (.bool r)) := by
 unfold m106 at hr
 obtain ⟨hl, hr⟩ := chk_some hr
 obtain rfl := Option.some.inj hr
 obtain ⟨m, hm⟩ := hg.mx
 refine (Any.strings_Contains Tryz.lays144 (bs s) (bs t) m W (by rw [bs_size]; omega) (cell_of hH hm)).mono ?_
 rintro e w' ⟨rfl, rfl⟩
 exact ⟨by simp [bs], Ext.refl _ _⟩
noncomputable def m155 (a b : Bytes) : Option Int := some (Lib.compareBytes a b)
noncomputable def m149 (s : Bytes) (r : Int) : Option Bool := chk (0 ≤ r ∧ r < 128) (some (decide (0 ≤ Lib.indexByte s r.toNat.toUInt8)))
noncomputable def m151 (s t : Bytes) : Option Bytes := match t with
 | [c] => chk (s.length ≤ 1073741824 ∧ c.toNat < 128) (some (Lib.trimB s c))
 | _ => none
theorem ext_drewN (M : Prop) (W : World) (k : Nat) : Ext M W (W.drewN k) := ⟨rfl, rfl, rfl, Nat.le_refl _, fun _ _ => rfl, fun _ => Nat.le_add_right _ _⟩
theorem w155 {M : Prop} {W : World} (a b : Bytes) {r : Int} (hr : m155 a b = some r) : Calls Tryz.prog 155 [.string (bs a), .string (bs b)].toArray W (RetS M W (.int .i64 r)) := by
 obtain rfl := Option.some.inj hr
 refine (Any.strings_Compare Tryz.lays106 (bs a) (bs b) W).mono ?_
 rintro e w' ⟨rfl, rfl⟩
 exact ⟨by simp [bs], Ext.refl _ _⟩
theorem w149 {M : Prop} {W : World} (s : Bytes) (k : Int) {r : Bool} (hr : m149 s k = some r) : Calls Tryz.prog 149 [.string (bs s), .int .i32 k].toArray W (RetS M W (.bool r)) := by
 unfold m149 at hr
 obtain ⟨hl, hr⟩ := chk_some hr
 obtain rfl := Option.some.inj hr
 refine (Any.strings_ContainsRune_ascii Tryz.lays151 (bs s) k W hl.1 hl.2).mono ?_
 rintro e w' ⟨rfl, rfl⟩
 exact ⟨by simp [bs], Ext.refl _ _⟩
theorem w151 {M : Prop} {W : World} (s t : Bytes) {r : Bytes} (hr : m151 s t = some r) : Calls Tryz.prog 151 [.string (bs s), .string (bs t)].toArray W (RetS M W (.string (bs r))) := by
 unfold m151 at hr
 split at hr
 ·rename_i c
  obtain ⟨hl, hr⟩ := chk_some hr
  obtain rfl := Option.some.inj hr
  refine (Any.strings_Trim_one Tryz.lays160 (bs s) c hl.2 W (by rw [bs_size]; omega)).mono ?_
  rintro e w' ⟨rfl, hw⟩
  refine ⟨by simp [bs], ?_⟩
  rcases hw with rfl | rfl
  ·exact Ext.refl _ _
  ·exact ext_drewN M W 1
 ·cases hr
end T10
namespace T10
open Go Go.Proofs Pk
structure Paragraph where
 anchor : Int
 text : Bytes
 deriving DecidableEq, Inhabited
def encParagraph (x : Paragraph) : List Value := [.int .i64 x.anchor, .string (bs x.text)]
structure Part where
 day : Int
 paragraphs : List Paragraph
 deriving DecidableEq, Inhabited
def RPart : Hp → List Value → Part → Prop := fun H cs x => ∃ (ad0 : Option Addr) (cap0 : Nat), cs = [.int .i64 x.day, .slice ad0 x.paragraphs.length cap0] ∧ Sl (Flat encParagraph) 2 H ad0 cap0 x.paragraphs
theorem RPart.mono : Mono RPart := fun _ _ _ _ hk ⟨a0, c0, h, f0⟩ => ⟨a0, c0, h, f0.mono (Flat.mono _) hk⟩
structure Volume where
 number : Int
 bound : Int
 height : Int
 width : Int
 parts : List Part
 deriving DecidableEq, Inhabited
def RVolume : Hp → List Value → Volume → Prop := fun H cs x => ∃ (ad0 : Option Addr) (cap0 : Nat), cs = [.int .i64 x.number, .int .i64 x.bound, .int .i64 x.height, .int .i64 x.width, .slice ad0 x.parts.length cap0] ∧ Sl (RPart) 2 H ad0 cap0 x.parts
theorem RVolume.mono : Mono RVolume := fun _ _ _ _ hk ⟨a0, c0, h, f0⟩ => ⟨a0, c0, h, f0.mono (RPart.mono) hk⟩
structure Erratum where
 number : Int
 day : Int
 kind : Int
 anchor : Int
 text : Bytes
 new_ : Int
 deriving DecidableEq, Inhabited
def encErratum (x : Erratum) : List Value := [.int .i64 x.number, .int .i64 x.day, .int .u8 x.kind, .int .i64 x.anchor, .string (bs x.text), .int .i64 x.new_]
structure IPlace where
 volume : Int
 from_ : Int
 to_ : Int
 deriving DecidableEq, Inhabited
def encIPlace (x : IPlace) : List Value := [.int .i64 x.volume, .int .i64 x.from_, .int .i64 x.to_]
structure Heading where
 name : Bytes
 variants : List Bytes
 also : List Bytes
 places : List IPlace
 deriving DecidableEq, Inhabited
def RHeading : Hp → List Value → Heading → Prop := fun H cs x => ∃ (ad0 : Option Addr) (cap0 : Nat) (ad1 : Option Addr) (cap1 : Nat) (ad2 : Option Addr) (cap2 : Nat), cs = [.string (bs x.name), .slice ad0 x.variants.length cap0, .slice ad1 x.also.length cap1, .slice ad2 x.places.length cap2] ∧ Sl (Flat encS) 1 H ad0 cap0 x.variants ∧ Sl (Flat encS) 1 H ad1 cap1 x.also ∧ Sl (Flat encIPlace) 3 H ad2 cap2 x.places
theorem RHeading.one : OneR RHeading := fun _ _ _ ⟨_, _, _, _, _, _, h, _⟩ => by subst h; rfl
theorem RHeading.mono : Mono RHeading := fun _ _ _ _ hk ⟨a0, c0, a1, c1, a2, c2, h, f0, f1, f2⟩ => ⟨a0, c0, a1, c1, a2, c2, h, f0.mono (Flat.mono _) hk, f1.mono (Flat.mono _) hk, f2.mono (Flat.mono _) hk⟩
structure entry where
 paragraph : Paragraph
 removed : Bool
 deriving DecidableEq, Inhabited
def encentry (x : entry) : List Value := [.int .i64 x.paragraph.anchor, .string (bs x.paragraph.text), .bool x.removed]
structure edition where
 volume : Volume
 parts : List (List entry)
 deriving DecidableEq, Inhabited
def Redition : Hp → List Value → edition → Prop := fun H cs x => ∃ (ad0 : Option Addr) (cap0 : Nat) (ad1 : Option Addr) (cap1 : Nat), cs = [.int .i64 x.volume.number, .int .i64 x.volume.bound, .int .i64 x.volume.height, .int .i64 x.volume.width, .slice ad0 x.volume.parts.length cap0, .slice ad1 x.parts.length cap1] ∧ Sl (RPart) 2 H ad0 cap0 x.volume.parts ∧ Sl (RSl (Flat encentry) 3) 1 H ad1 cap1 x.parts
structure Place where
 anchor : Int
 column : Int
 line : Int
 lines : Int
 deriving DecidableEq, Inhabited
def encPlace (x : Place) : List Value := [.int .i64 x.anchor, .int .i64 x.column, .int .i64 x.line, .int .i64 x.lines]
structure printed where
 place : Place
 day : Int
 number : Int
 deriving DecidableEq, Inhabited
def encprinted (x : printed) : List Value := [.int .i64 x.place.anchor, .int .i64 x.place.column, .int .i64 x.place.line, .int .i64 x.place.lines, .int .i64 x.day, .int .i64 x.number]
structure A2_Int where
 e0 : Int
 e1 : Int
 deriving DecidableEq, Inhabited
def encA2_Int (x : A2_Int) : List Value := [.int .i64 x.e0, .int .i64 x.e1]
structure A3_Int where
 e0 : Int
 e1 : Int
 e2 : Int
 deriving DecidableEq, Inhabited
structure cited where
 style : Int
 numbers : A3_Int
 deriving DecidableEq, Inhabited
def enccited (x : cited) : List Value := [.int .u8 x.style, .int .i64 x.numbers.e0, .int .i64 x.numbers.e1, .int .i64 x.numbers.e2]
theorem mixed : Tryz.prog.follows .mixedOrders = true := by kernel_rfl
theorem B42 : BuildAt Tryz.prog 42 [.int .i64 0, .int .i64 0, .int .i64 0, .int .i64 0, .slice none 0 0] #[(0, 1), (1, 1), (2, 1), (3, 1), (4, 1)] := ⟨⟨.agg [.int .i64 0, .int .i64 0, .int .i64 0, .int .i64 0, .slice none 0 0].toArray, rfl, Tryz.zeroValue42⟩, ⟨_, Tryz.underlying42, fun _ => by kernel_rfl⟩⟩
theorem B52 : BuildAt Tryz.prog 52 [.int .i64 0, .string (bs [])] #[(0, 1), (1, 1)] := ⟨⟨.agg [.int .i64 0, .string (bs [])].toArray, rfl, Tryz.zeroValue52⟩, ⟨_, Tryz.underlying52, fun _ => by kernel_rfl⟩⟩
theorem B81 : BuildAt Tryz.prog 81 [.int .i64 0, .int .i64 0, .int .i64 0, .int .i64 0] #[(0, 1), (1, 1), (2, 1), (3, 1)] := ⟨⟨.agg [.int .i64 0, .int .i64 0, .int .i64 0, .int .i64 0].toArray, rfl, Tryz.zeroValue81⟩, ⟨_, Tryz.underlying81, fun _ => by kernel_rfl⟩⟩
theorem B83 : BuildAt Tryz.prog 83 [.int .i64 0, .int .i64 0, .int .i64 0] #[(0, 1), (1, 1), (2, 1)] := ⟨⟨.agg [.int .i64 0, .int .i64 0, .int .i64 0].toArray, rfl, Tryz.zeroValue83⟩, ⟨_, Tryz.underlying83, fun _ => by kernel_rfl⟩⟩
theorem B86 : BuildAt Tryz.prog 86 [.string (bs []), .slice none 0 0, .slice none 0 0, .slice none 0 0] #[(0, 1), (1, 1), (2, 1), (3, 1)] := ⟨⟨.agg [.string (bs []), .slice none 0 0, .slice none 0 0, .slice none 0 0].toArray, rfl, Tryz.zeroValue86⟩, ⟨_, Tryz.underlying86, fun _ => by kernel_rfl⟩⟩
theorem B105 : BuildAt Tryz.prog 105 [.int .i64 0, .slice none 0 0] #[(0, 1), (1, 1)] := ⟨⟨.agg [.int .i64 0, .slice none 0 0].toArray, rfl, Tryz.zeroValue105⟩, ⟨_, Tryz.underlying105, fun _ => by kernel_rfl⟩⟩
theorem B110 : BuildAt Tryz.prog 110 [.int .i64 0, .int .i64 0, .int .i64 0, .int .i64 0, .slice none 0 0, .slice none 0 0] #[(0, 5), (5, 1)] := ⟨⟨.agg [.int .i64 0, .int .i64 0, .int .i64 0, .int .i64 0, .slice none 0 0, .slice none 0 0].toArray, rfl, Tryz.zeroValue110⟩, ⟨_, Tryz.underlying110, fun _ => by kernel_rfl⟩⟩
theorem B115 : BuildAt Tryz.prog 115 [.int .i64 0, .string (bs []), .bool false] #[(0, 2), (2, 1)] := ⟨⟨.agg [.int .i64 0, .string (bs []), .bool false].toArray, rfl, Tryz.zeroValue115⟩, ⟨_, Tryz.underlying115, fun _ => by kernel_rfl⟩⟩
theorem B116 : BuildAt Tryz.prog 116 [.int .i64 0, .int .i64 0, .int .u8 0, .int .i64 0, .string (bs []), .int .i64 0] #[(0, 1), (1, 1), (2, 1), (3, 1), (4, 1), (5, 1)] := ⟨⟨.agg [.int .i64 0, .int .i64 0, .int .u8 0, .int .i64 0, .string (bs []), .int .i64 0].toArray, rfl, Tryz.zeroValue116⟩, ⟨_, Tryz.underlying116, fun _ => by kernel_rfl⟩⟩
theorem B124 : BuildAt Tryz.prog 124 [.int .i64 0, .int .i64 0, .int .i64 0, .int .i64 0, .int .i64 0, .int .i64 0] #[(0, 4), (4, 1), (5, 1)] := ⟨⟨.agg [.int .i64 0, .int .i64 0, .int .i64 0, .int .i64 0, .int .i64 0, .int .i64 0].toArray, rfl, Tryz.zeroValue124⟩, ⟨_, Tryz.underlying124, fun _ => by kernel_rfl⟩⟩
theorem B139 : BuildArr Tryz.prog 139 3 [.int .i64 0, .int .i64 0, .int .i64 0] 1 := ⟨⟨.agg [.int .i64 0, .int .i64 0, .int .i64 0].toArray, rfl, Tryz.zeroValue139⟩, ⟨_, Tryz.underlying139⟩, Tryz.sizeOf3⟩
theorem B141 : BuildAt Tryz.prog 141 [.int .u8 0, .int .i64 0, .int .i64 0, .int .i64 0] #[(0, 1), (1, 3)] := ⟨⟨.agg [.int .u8 0, .int .i64 0, .int .i64 0, .int .i64 0].toArray, rfl, Tryz.zeroValue141⟩, ⟨_, Tryz.underlying141, fun _ => by kernel_rfl⟩⟩
theorem B153 : BuildArr Tryz.prog 153 3 [.int .i64 0, .int .i64 0] 1 := ⟨⟨.agg [.int .i64 0, .int .i64 0].toArray, rfl, Tryz.zeroValue153⟩, ⟨_, Tryz.underlying153⟩, Tryz.sizeOf3⟩
theorem B168 : BuildAt Tryz.prog 168 [.nilFunc] #[(0, 1)] := ⟨⟨.agg [.nilFunc].toArray, rfl, Tryz.zeroValue168⟩, ⟨_, Tryz.underlying168, fun _ => by kernel_rfl⟩⟩
theorem B187 : BuildAt Tryz.prog 187 [.string (bs [])] #[(0, 1)] := ⟨⟨.agg [.string (bs [])].toArray, rfl, Tryz.zeroValue187⟩, ⟨_, Tryz.underlying187, fun _ => by kernel_rfl⟩⟩
theorem E28 : ElemAt Tryz.prog 28 3 [.int .i64 0] 1 8 := ⟨Tryz.underlying28, ⟨_, .int .i64 0, info_of Tryz.type3, rfl, rfl, rfl, rfl⟩, rfl, by decide⟩
theorem E36 : ElemAt Tryz.prog 36 52 [.int .i64 0, .string (bs [])] 2 24 := ⟨Tryz.underlying36, ⟨_, .agg [.int .i64 0, .string (bs [])].toArray, info_of Tryz.type52, rfl, rfl, rfl, rfl⟩, rfl, by decide⟩
theorem E40 : ElemAt Tryz.prog 40 105 [.int .i64 0, .slice none 0 0] 2 32 := ⟨Tryz.underlying40, ⟨_, .agg [.int .i64 0, .slice none 0 0].toArray, info_of Tryz.type105, rfl, rfl, rfl, rfl⟩, rfl, by decide⟩
theorem E44 : ElemAt Tryz.prog 44 116 [.int .i64 0, .int .i64 0, .int .u8 0, .int .i64 0, .string (bs []), .int .i64 0] 6 56 := ⟨Tryz.underlying44, ⟨_, .agg [.int .i64 0, .int .i64 0, .int .u8 0, .int .i64 0, .string (bs []), .int .i64 0].toArray, info_of Tryz.type116, rfl, rfl, rfl, rfl⟩, rfl, by decide⟩
theorem E74 : ElemAt Tryz.prog 74 81 [.int .i64 0, .int .i64 0, .int .i64 0, .int .i64 0] 4 32 := ⟨Tryz.underlying74, ⟨_, .agg [.int .i64 0, .int .i64 0, .int .i64 0, .int .i64 0].toArray, info_of Tryz.type81, rfl, rfl, rfl, rfl⟩, rfl, by decide⟩
theorem E77 : ElemAt Tryz.prog 77 9 [.string (bs [])] 1 16 := ⟨Tryz.underlying77, ⟨_, .string (bs []), info_of Tryz.type9, rfl, rfl, rfl, rfl⟩, rfl, by decide⟩
theorem E79 : ElemAt Tryz.prog 79 86 [.string (bs []), .slice none 0 0, .slice none 0 0, .slice none 0 0] 4 88 := ⟨Tryz.underlying79, ⟨_, .agg [.string (bs []), .slice none 0 0, .slice none 0 0, .slice none 0 0].toArray, info_of Tryz.type86, rfl, rfl, rfl, rfl⟩, rfl, by decide⟩
theorem E84 : ElemAt Tryz.prog 84 83 [.int .i64 0, .int .i64 0, .int .i64 0] 3 24 := ⟨Tryz.underlying84, ⟨_, .agg [.int .i64 0, .int .i64 0, .int .i64 0].toArray, info_of Tryz.type83, rfl, rfl, rfl, rfl⟩, rfl, by decide⟩
theorem E89 : ElemAt Tryz.prog 89 4 [.bool false] 1 1 := ⟨Tryz.underlying89, ⟨_, .bool false, info_of Tryz.type4, rfl, rfl, rfl, rfl⟩, rfl, by decide⟩
theorem E92 : ElemAt Tryz.prog 92 95 [.int .i64 0, .string (bs [])] 2 24 := ⟨Tryz.underlying92, ⟨_, .agg [.int .i64 0, .string (bs [])].toArray, info_of Tryz.type95, rfl, rfl, rfl, rfl⟩, rfl, by decide⟩
theorem E108 : ElemAt Tryz.prog 108 113 [.slice none 0 0] 1 24 := ⟨Tryz.underlying108, ⟨_, .slice none 0 0, info_of Tryz.type113, rfl, rfl, rfl, rfl⟩, rfl, by decide⟩
theorem E113 : ElemAt Tryz.prog 113 115 [.int .i64 0, .string (bs []), .bool false] 3 32 := ⟨Tryz.underlying113, ⟨_, .agg [.int .i64 0, .string (bs []), .bool false].toArray, info_of Tryz.type115, rfl, rfl, rfl, rfl⟩, rfl, by decide⟩
theorem E121 : ElemAt Tryz.prog 121 124 [.int .i64 0, .int .i64 0, .int .i64 0, .int .i64 0, .int .i64 0, .int .i64 0] 6 48 := ⟨Tryz.underlying121, ⟨_, .agg [.int .i64 0, .int .i64 0, .int .i64 0, .int .i64 0, .int .i64 0, .int .i64 0].toArray, info_of Tryz.type124, rfl, rfl, rfl, rfl⟩, rfl, by decide⟩
theorem E147 : ElemAt Tryz.prog 147 5 [.int .u8 0] 1 1 := ⟨Tryz.underlying147, ⟨_, .int .u8 0, info_of Tryz.type5, rfl, rfl, rfl, rfl⟩, rfl, by decide⟩
theorem E169 : ElemAt Tryz.prog 169 168 [.nilFunc] 1 8 := ⟨Tryz.underlying169, ⟨_, .agg [.nilFunc].toArray, info_of Tryz.type168, rfl, rfl, rfl, rfl⟩, rfl, by decide⟩
end T10
set_option maxHeartbeats 4000000
namespace T10
open Go Go.Proofs Pk Go.RowKit
section
variable {P : Program} {r : Option Nat} {n : Cont} {p : List PanicEntry → Cont} {a : Act} {w : World} {D : List Deferred} {k : Nat} {L : Env} {ops : Array Oper} {rest : List Oper} {d : Nat} {ty : TypeId} {pos : String} {af : Array Edge}
theorem o_taY {y : Operand} {xT t : TypeId} {v : Value} {ds : TypeDesc} (hA : Has D k a L) (hd : Nat.blt d k = true) (hu : P.underlying t = some ds) (hds : (match ds with | .interface _ => false | _ => true) = true) (hy : ev L y = some (.iface t v))
  (h : ∀ a, Has D k a ((d, .tuple #[v, .bool true]) :: L) → O P r ops n p rest a w) : O P r ops n p (⟨some d, .typeAssert y xT t true, ty, pos, af, none⟩ :: rest) a w :=
 O_run rfl (fun _ h => by cases h) (w' := w) (v := .tuple #[v, .bool true]) (by
  simp only [execOp, Instr.typeAssert, hA.eval hy]
  cases ds <;> simp at hds <;> simp [run_underlying hu, Result.andThen]) (h _ (hA.put hd _))
end
theorem read_idle (p q : Addr) (w : World) : CallsD Tryz.prog 67 #[.pointer (some p), .pointer (some q)] .returning w fun e u' w' => e = .returned (.tuple #[]) ∧ u' = .returning ∧ w' = w := by
 refine callsD_of_wpS Tryz.func67 rfl fun c₀ cs hu => ?_
 apply wpS_seq
 apply wpS_region
 simp [wpOpsS, go_sem, recoverD, hu, Tryz.ntmps67, Exit.thenS]
 apply wpS_seq
 apply wpS_seq
 apply wpS_region
 simp [wpOpsS, go_sem, Exit.thenS]
 refine wpS_cond (t := true) (by simp [Act.eval, Array.replicate]) ?_
 simp only [if_true]
 refine wpS_of_wp (wp_ret ?_)
 cases c₀
 simp_all [Exit.thenS, bodyPostS, results, Tryz.results67]
section
variable {P : Program} {f : FuncId} {fn : Func} {c : Code} {nt : Nat} {w : World} {R : Ending → World → Prop}
theorem enterD {l : List Value} (hf : P.funcs[f]? = some fn) (hb : fn.body = some c) (hn : fn.ntmps = nt) (hl : Nat.ble l.length nt = true)
  (h : ∀ a, Has [] nt a (envOf 0 l) → Pk.W P none c (fun _ _ => False) (fun a w => Leaves P fn a.tmps R a.defers .returning w) [] (fun _ _ _ => False) a w) : Calls P f l.toArray w R := by
 have hl' : l.length ≤ nt := by simpa using hl
 have h1 := h { tmps := l.toArray ++ Array.replicate (fn.ntmps - l.toArray.size) undef, defers := [] } ⟨rfl, by simp [hn]; omega, fun i v hi => by
  obtain ⟨_, h2⟩ := lk_envOf l 0 i v hi
  simp only [Nat.sub_zero] at h2
  have hlt : i < l.length := (List.getElem?_eq_some_iff.1 h2).1
  rw [Array.getElem?_append_left (by simpa using hlt)]
  simpa using h2⟩
 refine calls_of_wp_defers hf hb ((wpIn_wide (n := 0)).1 (wpIn_mono h1 ?_))
 intro z a w hz
 cases z with
 | normal => exact hz.elim
 | ret => exact hz
 | panic ch => exact hz.elim
 | exit id => obtain ⟨K, hK, _⟩ := hz; simp [lkE] at hK
 | goto l => exact hz
 | outgrown => exact hz.elim
variable {n : Cont} {p : List PanicEntry → Cont} {a : Act} {D : List Deferred} {k : Nat} {L : Env} {ops : Array Oper} {rest : List Oper} {ty : TypeId} {pos : String} {af : Array Edge}
theorem o_defer {x : Operand} {g : FuncId} {us vs : Array Value} (hA : Has D k a L) (hx : ev L x = some (.func (.func g) us vs)) (h : ∀ a, Has (⟨.fn (.func g) vs, us⟩ :: D) k a L → O P none ops n p rest a w) : O P none ops n p (⟨none, .defer ⟨.value x, #[], #[]⟩, ty, pos, af, none⟩ :: rest) a w := by
 simp only [O, Region.wanted, if_true]
 refine ⟨fun _ _ => trivial, ?_⟩
 rw [show (FW none).round = none from rfl, Oper.semAt_none]
 have hr : (execOp a.eval ⟨none, .defer ⟨.value x, #[], #[]⟩, ty, pos, af, none⟩).run P w = .ok (.defer ⟨.fn (.func g) vs, us⟩) w := by
  simp [execOp, resolve, hA.eval hx, Deferred.ofValue]
 rw [hr]
 show O P none ops n p rest _ w
 refine h _ ⟨?_, ?_, ?_⟩
 ·simp [Act.put, hA.defers]
 ·simpa [Act.put] using hA.size
 ·intro i v hi; simpa [Act.put] using hA.get i v hi
end
theorem read43 {M : Prop} {W : World} {H : Hp} (hH : H.le (hp W)) (s : Bytes) (c : cited) (hc : ∀ (w : World) (K : Hp), K.le (hp w) → H.le K → Calls Tryz.prog 68 [.string (bs s)].toArray w (RetS M w (.agg (enccited c).toArray))) : Calls Tryz.prog 43 [.string (bs s)].toArray W (RetS M W (.tuple [.agg (enccited c).toArray, .bool true].toArray)) := by
 refine enterD Tryz.func43 rfl Tryz.ntmps43 rfl ?_
 intro a hA
 have hS := St.start M W hH
 refine W_seq (W_region (o_alloc 1 hA rfl hS Tryz.zeroValue141 rfl fun b w hS hb a hA => o_alloc 2 hA rfl hS Tryz.zeroValue4 rfl fun b2 w hS hb2 a hA => O_nil ?_))
 refine W_seq (W_region (o_func (f := .func 67) (xs := []) (ys := [.tmp 2, .tmp 3]) hA rfl rfl rfl fun a hA => o_defer hA rfl fun a hA => O_nil ?_))
 refine W_seq (W_region (o_move hA rfl rfl fun a hA => o_callS (x := .func 68) (xs := [.tmp 5]) hA rfl hS rfl rfl Tryz.call68 rfl (hc _ _ hS.vis_le (hS.at 0 rfl)) fun w hS a hA => ?_))
 refine o_store 1 (cs := enccited c) hA hS rfl rfl Tryz.sizeOf141 rfl rfl rfl rfl rfl fun w hS a hA => ?_
 refine o_store 2 (cs := [.bool true]) hA hS rfl rfl Tryz.sizeOf4 rfl rfl rfl rfl rfl fun w hS a hA => O_nil (W_ret ?_)
 rw [hA.defers]
 refine leaves_cons (f := 67) (args := #[.pointer (some ⟨b, 0, none⟩), .pointer (some ⟨b2, 0, none⟩)]) (by simp) (by simp [go_sem]) ?_
 refine (read_idle ⟨b, 0, none⟩ ⟨b2, 0, none⟩ w).mono ?_
 rintro e u' w'' ⟨rfl, rfl, rfl⟩
 show ∃ v, (results Tryz.f43 a.tmps).run Tryz.prog w'' = .ok v w'' ∧ RetS M W (.tuple [.agg (enccited c).toArray, .bool true].toArray) (.returned v) w''
 have h2 := hA.tmp (i := 2) rfl
 have h3 := hA.tmp (i := 3) rfl
 have c1 : CellsAt (hp w'') ⟨b, 0, none⟩ (enccited c) := cell_at (hS.get (t := 1) rfl)
 have c2 : CellsAt (hp w'') ⟨b2, 0, none⟩ [.bool true] := cell_at (hS.get (t := 2) rfl)
 have l1 : (loadVar 141 ⟨b, 0, none⟩).run Tryz.prog w'' = .ok (.agg (enccited c).toArray) w'' := by
  have h0 : (loadCells ⟨b, 0, none⟩ (enccited c).length).run Tryz.prog w'' = .ok (enccited c).toArray w'' := run_loadCells_list (P := Tryz.prog) (w := w'') _ (enccited c) (fun j v hv => c1.cell hv)
  have h1 : (enccited c).length = 4 := rfl
  rw [h1] at h0
  simp [loadVar, Tryz.isAgg141, Tryz.sizeOf141, h0]
 have l2 : (loadVar 4 ⟨b2, 0, none⟩).run Tryz.prog w'' = .ok (.bool true) w'' := by
  have h0 := c2.cell (j := 0) rfl
  rw [show (⟨b2, 0, none⟩ : Addr).add 0 = ⟨b2, 0, none⟩ from rfl] at h0
  simp [loadVar, Tryz.isAgg4, h0]
 refine ⟨_, ?_, rfl, hS.ext⟩
 rw [Array.getD_eq_getD_getElem?] at h2 h3
 simp [results, Tryz.results43, h2, h3, l1, l2, asAddr]
end T10
set_option maxHeartbeats 4000000
namespace T10
open Go Go.Proofs Pk Go.RowKit
section
variable {P : Program} {r : Option Nat} {n : Cont} {p : List PanicEntry → Cont} {a : Act} {w : World} {D : List Deferred} {k : Nat} {L : Env} {ops : Array Oper} {rest : List Oper} {d : Nat} {ty : TypeId} {pos : String} {af : Array Edge}
theorem o_eqN {y : Operand} {t u te : TypeId} {pe : Value} {ms : _} (hA : Has D k a L) (hu' : P.underlying t = some (.interface ms)) (hd : Nat.blt d k = true) (hy : ev L y = some (.iface te pe)) (h : ∀ a, Has D k a ((d, .bool false) :: L) → O P r ops n p rest a w) : O P r ops n p (⟨some d, .binOp .eql t y (.const .nilIface) u, ty, pos, af, none⟩ :: rest) a w := by
 have hu : P.underlying t = some (.interface (P.methodsAt t)) := by rw [hu']; simp [Program.methodsAt, hu']
 refine O_run rfl (fun _ h => by cases h) (w' := w) (v := .bool false) ?_ (h _ (hA.put hd _))
 simp [execOp, hA.eval hy, show a.eval (.const .nilIface) = .nilIface from rfl, eqGuard, run_eql_held_nil w t _ _ hu, Result.andThen]
end
theorem read_back {M : Prop} {W w : World} {H : Hp} {b b2 : Nat} {s : Bytes} (hS : St M W H [H] [(2, cel b2 4 [.bool false]), (1, cel b 141 [.int .u8 0, .int .i64 0, .int .i64 0, .int .i64 0])] w) :
  CallsD Tryz.prog 67 #[.pointer (some ⟨b, 0, none⟩), .pointer (some ⟨b2, 0, none⟩)] (.panicking (thr (.iface 187 (.agg [.string (bs s)].toArray)))) w fun e u' w' => e = .returned (.tuple #[]) ∧ u' = .panicking [{ v := .iface 187 (.agg [.string (bs s)].toArray), recovered := true }] ∧
   ∃ b3 cs3, St M W H [H] [(3, cel b3 187 cs3), (2, cel b2 4 [.bool false]), (1, cel b 141 (enccited ⟨0, ⟨0, 0, 0⟩⟩))] w' := by
 refine callsD_of_wpS Tryz.func67 rfl fun c₀ cs hu => ?_
 apply wpS_seq
 apply wpS_region
 obtain ⟨v, hv⟩ : ∃ v : Value, v = .agg [.string (bs s)].toArray := ⟨_, rfl⟩
 rw [← hv] at hu ⊢
 simp [wpOpsS, go_sem, recoverD, hu, Tryz.ntmps67, Exit.thenS, thr]
 refine wpS_of_wp ?_
 refine (wpIn_wide (n := 0)).1 (wpIn_mono (show Pk.W Tryz.prog none _ (fun a w => a.defers = [] ∧ ∃ b3 cs3, St M W H [H] [(3, cel b3 187 cs3), (2, cel b2 4 [.bool false]), (1, cel b 141 (enccited ⟨0, ⟨0, 0, 0⟩⟩))] w) (fun _ _ => False) [] (fun _ _ _ => False) _ w from ?_) ?_)
 ·have hA : Has [] 17 { tmps := #[.pointer (some ⟨b, 0, none⟩), .pointer (some ⟨b2, 0, none⟩)] ++ ((Array.replicate 15 undef).setIfInBounds 3 (.iface 187 v)).setIfInBounds 0 (.iface 187 v), defers := [] } [(0, .pointer (some ⟨b, 0, none⟩)), (1, .pointer (some ⟨b2, 0, none⟩)), (2, .iface 187 v)] := by
   refine ⟨rfl, by simp, fun i u h => ?_⟩
   rcases i with _ | _ | _ | i
   ·exact h
   ·exact h
   ·exact h
   ·cases (show (none : Option Value) = some u from h)
  revert hA
  generalize ({ tmps := _, defers := [] } : Act) = a
  intro hA
  subst hv
  refine W_seq (W_seq (W_region ?_))
  refine o_move hA rfl rfl fun a hA => ?_
  refine o_eqN hA Tryz.underlying20 rfl rfl fun a hA => O_nil (W_cond hA rfl (fun h => by cases h) (fun _ => W_skip ?_))
  refine W_seq (W_seq (W_region (o_move hA rfl rfl fun a hA => o_taY hA rfl Tryz.underlying187 rfl rfl fun a hA => o_move hA rfl rfl fun a hA => o_ext (vs := [.agg [.string (bs s)].toArray, .bool true]) hA rfl rfl rfl fun a hA => o_ext (vs := [.agg [.string (bs s)].toArray, .bool true]) hA rfl rfl rfl fun a hA => o_alloc 3 hA rfl hS Tryz.zeroValue187 rfl fun b3 w hS hb a hA => ?_)))
  refine o_store 3 (cs := [.string (bs s)]) hA hS rfl rfl Tryz.sizeOf187 rfl rfl rfl rfl rfl fun w hS a hA => o_assign hA rfl rfl fun a hA => O_nil ?_
  refine W_seq (W_region (o_move hA rfl rfl fun a hA => o_not hA rfl rfl fun a hA => O_nil (W_cond hA rfl (fun h => by cases h) (fun _ => W_skip ?_))))
  refine W_region (o_build (cs := enccited ⟨0, ⟨0, 0, 0⟩⟩) hA rfl T10.B141 rfl rfl fun a hA => ?_)
  refine o_store 1 (cs := enccited ⟨0, ⟨0, 0, 0⟩⟩) hA hS rfl rfl Tryz.sizeOf141 rfl rfl rfl rfl rfl fun w hS a hA => ?_
  refine o_store 2 (cs := [.bool false]) hA hS rfl rfl Tryz.sizeOf4 rfl rfl rfl rfl rfl fun w hS a hA => O_nil ?_
  exact ⟨hA.defers, b3, _, hS⟩
 ·intro z a w' hz
  cases z with
  | normal =>
   obtain ⟨hd, h⟩ := hz
   subst hv
   exact ⟨hd, .panicking [{ v := .iface 187 (.agg [.string (bs s)].toArray), recovered := true }], rfl, .tuple #[], by simp [results, Tryz.results67], rfl, rfl, h⟩
  | ret => exact hz.elim
  | panic ch => exact hz.elim
  | exit id => obtain ⟨K, hK, _⟩ := hz; simp [lkE] at hK
  | goto l => exact hz
  | outgrown => exact hz.elim
section
variable {P : Program} {f : FuncId} {fn : Func} {c : Code} {nt : Nat} {w : World} {R : Ending → World → Prop}
theorem enterDT {l : List Value} (hf : P.funcs[f]? = some fn) (hb : fn.body = some c) (hn : fn.ntmps = nt) (hl : Nat.ble l.length nt = true)
  (h : ∀ a, Has [] nt a (envOf 0 l) → Pk.W P none c (fun _ _ => False) (fun a w => Leaves P fn a.tmps R a.defers .returning w) [] (fun ch a w => Leaves P fn a.tmps R a.defers (.panicking ch) w) a w) : Calls P f l.toArray w R := by
 have hl' : l.length ≤ nt := by simpa using hl
 have h1 := h { tmps := l.toArray ++ Array.replicate (fn.ntmps - l.toArray.size) undef, defers := [] } ⟨rfl, by simp [hn]; omega, fun i v hi => by
  obtain ⟨_, h2⟩ := lk_envOf l 0 i v hi
  simp only [Nat.sub_zero] at h2
  have hlt : i < l.length := (List.getElem?_eq_some_iff.1 h2).1
  rw [Array.getElem?_append_left (by simpa using hlt)]
  simpa using h2⟩
 refine calls_of_wp_defers hf hb ((wpIn_wide (n := 0)).1 (wpIn_mono h1 ?_))
 intro z a w hz
 cases z with
 | normal => exact hz.elim
 | ret => exact hz
 | panic ch => exact hz
 | exit id => obtain ⟨K, hK, _⟩ := hz; simp [lkE] at hK
 | goto l => exact hz
 | outgrown => exact hz.elim
end
theorem readT {M : Prop} {W : World} {H : Hp} (hH : H.le (hp W)) (s : Bytes) (hc : ∀ (w : World) (K : Hp), K.le (hp w) → H.le K → Calls Tryz.prog 68 [.string (bs s)].toArray w (RetT M w (fun c => .agg (enccited c).toArray) (.iface 187 (.agg [.string (bs s)].toArray)) (.inr ()))) : Calls Tryz.prog 43 [.string (bs s)].toArray W (RetS M W (.tuple [.agg (enccited ⟨0, ⟨0, 0, 0⟩⟩).toArray, .bool false].toArray)) := by
 refine enterDT Tryz.func43 rfl Tryz.ntmps43 rfl ?_
 intro a hA
 have hS := St.start M W hH
 refine W_seq (W_region (o_alloc 1 hA rfl hS Tryz.zeroValue141 rfl fun b w hS hb a hA => o_alloc 2 hA rfl hS Tryz.zeroValue4 rfl fun b2 w hS hb2 a hA => O_nil ?_))
 refine W_seq (W_region (o_func (f := .func 67) (xs := []) (ys := [.tmp 2, .tmp 3]) hA rfl rfl rfl fun a hA => o_defer hA rfl fun a hA => O_nil ?_))
 refine W_seq (W_region (o_move hA rfl rfl fun a hA => ?_))
 have hcc := hc w _ hS.vis_le (hS.at 0 rfl)
 refine O_enter rfl (fun _ h => by cases h) (run_call (xs := [.tmp 5]) (first := #[]) (cap := #[]) hA (x := .func 68) rfl rfl Tryz.call68) (by simpa using hcc) ?_ ?_ ?_
 ·rintro v w' ⟨h, _⟩; cases h
 ·rintro ch w' ⟨h, hE⟩
  cases h
  have hS2 := hS.ext' hE
  rw [hA.defers]
  refine leaves_cons (f := 67) (args := #[.pointer (some ⟨b, 0, none⟩), .pointer (some ⟨b2, 0, none⟩)]) (by simp) (by simp [go_sem]) ?_
  refine (read_back (s := s) hS2).mono ?_
  rintro e u' w'' ⟨rfl, rfl, b3, cs3, hS3⟩
  show ∃ v, (results Tryz.f43 a.tmps).run Tryz.prog w'' = .ok v w'' ∧ RetS M W (.tuple [.agg (enccited ⟨0, ⟨0, 0, 0⟩⟩).toArray, .bool false].toArray) (.returned v) w''
  have h2 := hA.tmp (i := 2) rfl
  have h3 := hA.tmp (i := 3) rfl
  have c1 : CellsAt (hp w'') ⟨b, 0, none⟩ (enccited ⟨0, ⟨0, 0, 0⟩⟩) := cell_at (hS3.get (t := 1) rfl)
  have c2 : CellsAt (hp w'') ⟨b2, 0, none⟩ [.bool false] := cell_at (hS3.get (t := 2) rfl)
  have l1 : (loadVar 141 ⟨b, 0, none⟩).run Tryz.prog w'' = .ok (.agg (enccited ⟨0, ⟨0, 0, 0⟩⟩).toArray) w'' := by
   have h0 : (loadCells ⟨b, 0, none⟩ (enccited ⟨0, ⟨0, 0, 0⟩⟩).length).run Tryz.prog w'' = .ok (enccited ⟨0, ⟨0, 0, 0⟩⟩).toArray w'' := run_loadCells_list (P := Tryz.prog) (w := w'') _ (enccited ⟨0, ⟨0, 0, 0⟩⟩) (fun j v hv => c1.cell hv)
   have h1 : (enccited ⟨0, ⟨0, 0, 0⟩⟩).length = 4 := rfl
   rw [h1] at h0
   simp [loadVar, Tryz.isAgg141, Tryz.sizeOf141, h0]
  have l2 : (loadVar 4 ⟨b2, 0, none⟩).run Tryz.prog w'' = .ok (.bool false) w'' := by
   have h0 := c2.cell (j := 0) rfl
   rw [show (⟨b2, 0, none⟩ : Addr).add 0 = ⟨b2, 0, none⟩ from rfl] at h0
   simp [loadVar, Tryz.isAgg4, h0]
  refine ⟨_, ?_, rfl, hS3.ext⟩
  rw [Array.getD_eq_getD_getElem?] at h2 h3
  simp [results, Tryz.results43, h2, h3, l1, l2, asAddr]
 ·rintro w' ⟨h, _⟩; cases h
end T10
namespace Go.Proofs
open Go Go.Shelf Go.RowKit Pk
theorem hp_cells {w : World} {q : Addr} {vs : List Value} (h : CellsAt (hp w) q vs) (hv : 0 < vs.length) : ∃ cs t z, w.heap[q.block]? = some (.cells cs t z) ∧ cs.size ≠ 0 := by
 obtain ⟨c, t, z, h3, h4⟩ := h.2 0 _ (List.getElem?_eq_getElem hv)
 refine ⟨c, t, z, h3, fun h0 => ?_⟩
 have := (Array.getElem?_eq_some_iff.1 h4).1
 omega
theorem overlaps_own {P : Program} (w : World) (tS tR e : TypeId) (ht : P.underlying tS = some (.slice e)) (size : Nat) (hz : ∀ w, (Go.sizeOf e).run P w = .ok size w) (a b : Addr) (la ca lb cb : Nat) (hne : a.block ≠ b.block)
  {ca' : Array Value} {ta : TypeId} {za : Nat × Nat} (ha : w.heap[a.block]? = some (.cells ca' ta za)) (ha0 : ca'.size ≠ 0) {cur : Array Value} {te : TypeId} (hb : w.heap[b.block]? = some (.cells cur te (0, 0))) (hc : cur.size ≠ 0) :
  (Extern.SlicesOverlaps.overlaps #[tS, tS] #[tR] #[.slice (some a) la ca, .slice (some b) lb cb]).run P w = .ok (.bool false) w := by
 have hnb : (a.block != b.block) = true := by simpa using hne
 have hnb' : (a.block == b.block) = false := by simpa using hne
 have hf : ∀ x : Addr, x.block = b.block → w.frozen? x = false := fun x hx => by simp [World.frozen?, hx, hb]
 have hsb : w.shape? b.block = some (te, cur.size) := by simp [World.shape?, hb]
 have hva : w.shape? a.block = some (ta, ca'.size) := by simp [World.shape?, ha]
 change Sem.run P (α := Value) (do
  let some t := (#[tS, tS] : Array TypeId)[0]? | stuck "slices.overlaps: no parameter types"
  let .slice elem ← underlying t | stuck "slices.overlaps: slice type expected"
  let size ← sizeOf elem
  match (some a : Option Addr), (some b : Option Addr) with
  | some a, some b =>
   if la = 0 ∨ lb = 0 ∨ size = 0 then pure (Value.bool false)
   else if a.block != b.block && (← frozen a) && (← frozen b) then unsupported .addressObserved
   else do
    if a.block != b.block then do
     noView a; noView b
     if ← mayBeOne a b then return Value.bool ((← choose (.extern "sameAddr.stringBytes" 2)) == 1)
    pure (Value.bool (a.block == b.block && a.off < b.off + lb * size && b.off < a.off + la * size))
  | _, _ => pure (Value.bool false)) w = _
 by_cases h0 : la = 0 ∨ lb = 0 ∨ size = 0
 ·simp [run_underlying ht, hz, h0]
 ·have e1 := hf b rfl
  have e2 := hf { block := b.block, off := cur.size } rfl
  have e3 : (match some (te, cur.size) with | some (_, 0) => true | _ => false) = false := by
   cases h : cur.size with
   | zero => exact absurd h hc
   | succ n => rfl
  have e4 : (match some (ta, ca'.size) with | some (_, 0) => true | _ => false) = false := by
   cases h : ca'.size with
   | zero => exact absurd h ha0
   | succ n => rfl
  cases hfa : w.frozen? a <;> cases hfe : w.frozen? { block := a.block, off := ca'.size } <;>
   simp [run_underlying ht, hz, h0, hnb, hnb', frozen, noView, viewAt, mayBeOne, stringish, shape, Sem.run, hva, hsb, e1, e2, hfa, hfe, hc, e4, ha0]
theorem run_copyK {P : Program} (w : World) (t ty el k : Nat) (hu : P.underlying t = some (.slice el)) (hz : ∀ w, (Go.sizeOf el).run P w = .ok k w) (b o dLen dCap : Nat) (a : Addr) (sLen sCap : Nat) (cs : List Value) {cur : Array Value} {te : TypeId} (hb : w.heap[b]? = some (.cells cur te (0, 0)))
  (hn : cs.length = Nat.min sLen dLen * k) (hsrc : ∀ j v, cs[j]? = some v → w.cell? (a.add j) = some v) (hfit : o + cs.length ≤ cur.size) (h1 : ∀ v ∈ cs, v.oneCell' = true) :
  (Builtin.copy_ #[t, t] ty #[.slice (some ⟨b, o, none⟩) dLen dCap, .slice (some a) sLen sCap]).run P w = .ok (goInt (Nat.min sLen dLen)) (w.setRow b (cur.toList.take o ++ cs ++ cur.toList.drop (o + cs.length)).toArray) := by
 have hl := run_loadCells_list (P := P) (w := w) a cs hsrc
 have hst := run_storeCells_at P b o te cs 0 cur w hb (by simpa using hfit) h1
 rw [hn] at hl
 simp [Builtin.copy_, run_underlying hu, Builtin.lenOf, Builtin.firstCells, hz, hl]
 simp at hst
 rw [hst]; rfl
set_option maxHeartbeats 4000000 in
set_option maxRecDepth 100000 in
theorem Tryz.ins_end {w : World} {ad : Option Addr} {cap nn : Nat} {cs : List Value} {q : Addr} {vcap : Nat} {vs : List Value} (hr : (Own.row ad cap 115 3 nn cs).holds w) (hb : nn + 1 ≤ 1073741824) (hv : CellsAt (hp w) q vs) (hvl : vs.length = 3) (h1 : vs.all (·.oneCell') = true) :
  Calls Tryz.prog 92 #[.slice ad nn cap, .int .i64 nn, .slice (some q) 1 vcap] w fun e w' => ∃ ad' cap', e = .returned (.slice ad' (nn + 1) cap') ∧ (Own.row ad' cap' 115 3 (nn + 1) (cs ++ vs)).holds w' ∧ Grown w w' (ad.map (·.block)) ∧ ∀ b, ad'.map (·.block) = some b → ad.map (·.block) = some b ∨ w.heap.size ≤ b := by
 obtain ⟨ad', cap', w', hrun, hh, hg, hf⟩ := run_append (P := Tryz.prog) 113 T10.E113 hr (sad := some q) (m := 1) (c := vcap) (news := vs) ⟨by omega, h1, .inr ⟨q, rfl, hv⟩⟩ (by unfold maxLen; omega) (by omega)
 have hd := run_drawn _ hrun
 have hcap := (row_len hr).2
 refine Calls.mono (R := fun e w'' => e = .returned (.slice ad' (nn + 1) cap') ∧ w'' = w') ?_ fun e w'' hw => by
  obtain ⟨rfl, rfl⟩ := hw
  exact ⟨ad', cap', rfl, hh, ⟨hg, hd⟩, hf⟩
 clear hf hh hg hd hr hv h1
 by_cases hc : cap = nn
 ·subst hc
  go_enter Tryz.func92, Tryz.ntmps92
  go_wp2_with (at_builtin; refine Lib.wpList_append_run _ rfl _ _ _ _ rfl _ _ rfl rfl _ _ hrun ?_)
  go_ret
  exact ⟨rfl, rfl⟩
 ·go_enter Tryz.func92, Tryz.ntmps92
  go_wp2_with (at_builtin; refine Lib.wpList_append_run _ rfl _ _ _ _ rfl _ _ rfl rfl _ _ hrun ?_)
  go_ret
  exact ⟨rfl, rfl⟩
theorem cell_of_row {w : World} {b : Nat} {cur : Array Value} {t : TypeId} {z : Nat × Nat} (h : w.heap[b]? = some (.cells cur t z)) {j : Nat} {v : Value} (hv : cur.toList[j]? = some v) : w.cell? ⟨b, j, none⟩ = some v := by
 rw [Array.getElem?_toList] at hv
 simp [World.cell?, h, hv]
theorem add_lit0 (b o i : Nat) : (⟨b, o, none⟩ : Addr).add i = ⟨b, o + i, none⟩ := addr_add (ad := ⟨b, o, none⟩) rfl i
set_option maxHeartbeats 4000000 in
set_option maxRecDepth 100000 in
theorem Tryz.ins_room {w : World} {b cap nn j : Nat} {cs : List Value} {q : Addr} {vcap : Nat} {vs : List Value} {cur : Array Value} (hw : w.heap[b]? = some (.cells cur 115 (0, 0))) (hcs : cur.size = cap * 3) (ht : cur.toList.take (nn * 3) = cs) (hcm : cap ≤ 9223372036854775807) (hj : j < nn) (hroom : nn + 1 ≤ cap) (hb : nn + 1 ≤ 1073741824) (hv : CellsAt (hp w) q vs) (hvl : vs.length = 3) (h1 : vs.all (·.oneCell') = true) (h2 : cs.all (·.oneCell') = true) (hne : b ≠ q.block) :
  Calls Tryz.prog 92 #[.slice (some ⟨b, 0, none⟩) nn cap, .int .i64 j, .slice (some q) 1 vcap] w fun e w' => e = .returned (.slice (some ⟨b, 0, none⟩) (nn + 1) cap) ∧ w' = (w.drew.setRow b (cur.toList.take ((j + 1) * 3) ++ cs.drop (j * 3) ++ cur.toList.drop ((nn + 1) * 3)).toArray).setRow b (cs.take (j * 3) ++ vs ++ cs.drop (j * 3) ++ cur.toList.drop ((nn + 1) * 3)).toArray := by
 obtain ⟨c0, t0, z0, hq0, hq1⟩ := hp_cells hv (by omega)
 have hcl : cs.length = nn * 3 := by rw [← ht, List.length_take, Array.length_toList, hcs]; omega
 have hcur : cur.toList = cs ++ cur.toList.drop (nn * 3) := by rw [← ht, List.take_append_drop]
 have hov : ∀ lb cb, (callFunc 131 #[.slice (some q) 1 vcap, .slice (some ⟨b, (j + 1) * 3, none⟩) lb cb]).run Tryz.prog w = .ok (.value (.bool false)) w := fun lb cb => by
  rw [run_callFunc_extern Tryz.func131 (by kernel_rfl) (by kernel_rfl) (by kernel_rfl) (e := Extern.SlicesOverlaps.overlaps #[113, 113] #[4]) (by kernel_rfl),
   overlaps_own w 113 4 115 Tryz.underlying113 3 Tryz.sizeOf115 q ⟨b, (j + 1) * 3, none⟩ 1 vcap lb cb (fun e => hne e.symm) hq0 hq1 hw (by omega)]
  rfl
 have hcp1 : ∀ ty dc sc, (Builtin.copy_ #[113, 113] ty #[.slice (some ⟨b, (j + 1) * 3, none⟩) (nn - j) dc, .slice (some ⟨b, j * 3, none⟩) (nn + 1 - j) sc]).run Tryz.prog w.drew = .ok (goInt (Nat.min (nn + 1 - j) (nn - j))) (w.drew.setRow b (cur.toList.take ((j + 1) * 3) ++ cs.drop (j * 3) ++ cur.toList.drop ((nn + 1) * 3)).toArray) := fun ty dc sc => by
  have hl : (cs.drop (j * 3)).length = Nat.min (nn + 1 - j) (nn - j) * 3 := by
   rw [List.length_drop, hcl, show Nat.min (nn + 1 - j) (nn - j) = nn - j by simp only [Nat.min_def]; split <;> omega, Nat.sub_mul]
  have := run_copyK (P := Tryz.prog) w.drew 113 ty 115 3 Tryz.underlying113 Tryz.sizeOf115 b ((j + 1) * 3) (nn - j) dc ⟨b, j * 3, none⟩ (nn + 1 - j) sc (cs.drop (j * 3)) (cur := cur) hw hl (fun i v hi => by
   rw [add_lit0]
   refine cell_of_row (w := w.drew) hw ?_
   rw [hcur, List.getElem?_append_left (by rw [List.getElem?_drop] at hi; exact (List.getElem?_eq_some_iff.1 hi).1)]
   rwa [List.getElem?_drop] at hi) (by rw [List.length_drop, hcl, hcs]; omega) (fun v hv => List.all_eq_true.1 h2 v (List.mem_of_mem_drop hv))
  rw [this, show (j + 1) * 3 + (cs.drop (j * 3)).length = (nn + 1) * 3 by rw [List.length_drop, hcl]; omega]
 obtain ⟨X1, hX1⟩ : ∃ X1 : List Value, X1 = cur.toList.take ((j + 1) * 3) ++ cs.drop (j * 3) ++ cur.toList.drop ((nn + 1) * 3) := ⟨_, rfl⟩
 rw [← hX1] at hcp1 ⊢
 obtain ⟨W1, hW1⟩ : ∃ W1, W1 = w.drew.setRow b X1.toArray := ⟨_, rfl⟩
 rw [← hW1] at hcp1 ⊢
 have hw1 : W1.heap[b]? = some (.cells X1.toArray 115 (0, 0)) := by rw [hW1]; exact setRow_heap w.drew b cur X1.toArray 115 (0, 0) hw
 have hX1l : X1.length = cap * 3 := by rw [hX1]; simp only [List.length_append, List.length_take, List.length_drop, Array.length_toList, hcs, hcl]; omega
 have hlen1 : (cur.toList.take ((j + 1) * 3)).length = (j + 1) * 3 := by rw [List.length_take, Array.length_toList, hcs]; omega
 have hcp2 : ∀ ty dc, (Builtin.copy_ #[113, 113] ty #[.slice (some ⟨b, j * 3, none⟩) (nn + 1 - j) dc, .slice (some q) 1 vcap]).run Tryz.prog W1 = .ok (goInt (Nat.min 1 (nn + 1 - j))) (W1.setRow b (cs.take (j * 3) ++ vs ++ cs.drop (j * 3) ++ cur.toList.drop ((nn + 1) * 3)).toArray) := fun ty dc => by
  have hm : Nat.min 1 (nn + 1 - j) = 1 := by simp only [Nat.min_def]; split <;> omega
  have := run_copyK (P := Tryz.prog) W1 113 ty 115 3 Tryz.underlying113 Tryz.sizeOf115 b (j * 3) (nn + 1 - j) dc q 1 vcap vs (cur := X1.toArray) hw1 (by rw [hvl, hm]) (fun i v hi => by
   have h0 := hv.cell hi
   have hsp : (q.add i).block = q.block := by unfold Addr.add; split <;> rfl
   rw [hW1]
   unfold World.cell? at h0 ⊢
   rw [show (w.drew.setRow b X1.toArray).heap[(q.add i).block]? = w.heap[(q.add i).block]? from setRow_other w.drew b _ _ (by rw [hsp]; exact fun e => hne e.symm)]
   exact h0) (by rw [hvl, List.size_toArray, hX1l]; omega) (fun v hv => List.all_eq_true.1 h1 v hv)
  rw [this, hvl]
  congr 3
  have e1 : X1.take (j * 3) = cs.take (j * 3) := by
   rw [hX1, List.append_assoc, List.take_append_of_le_length (by rw [hlen1]; omega), List.take_take, show min (j * 3) ((j + 1) * 3) = j * 3 by omega, ← ht, List.take_take, show min (j * 3) (nn * 3) = j * 3 by omega]
  have e2 : X1.drop (j * 3 + 3) = cs.drop (j * 3) ++ cur.toList.drop ((nn + 1) * 3) := by
   rw [hX1, show j * 3 + 3 = (j + 1) * 3 by omega, List.append_assoc, List.drop_append_of_le_length (by rw [hlen1]; omega), List.drop_of_length_le (by rw [hlen1]; omega), List.nil_append]
  simp only [List.toList_toArray, e1, e2, List.append_assoc]
 have hz2 : ¬ ((j : Int) = (nn : Int)) := by omega
 have hw2 : IntKind.i64.wrap ((j : Int) + 1) = (j : Int) + 1 := by rw [IntKind.wrap_i64]; omega
 have hw3 : IntKind.i64.wrap ((nn : Int) + 1) = (nn : Int) + 1 := by rw [IntKind.wrap_i64]; omega
 have htn : ((j : Int) + 1).toNat = j + 1 := by omega
 have htn2 : ((nn : Int) + 1).toNat = nn + 1 := by omega
 have hb1 : (0 : Int) ≤ (j : Int) + 1 := by omega
 have hb2 : ¬ (cap = j + 1) := by omega
 have hb4 : ¬ (cap = j) := by omega
 have hb3 : (j : Int) ≤ (nn : Int) + 1 := by omega
 have hin : j ≤ nn := by omega
 have hro : ¬ ((cap : Int) < (nn : Int) + 1) := by omega
 clear hX1 hcur ht
 have mixed := T10.mixed
 clear hw1
 subst hW1
 go_enter Tryz.func92, Tryz.ntmps92
 go_wp2_with (simp only [hov])
 go_region_law_o (refine step_copy_runI rfl _ _ 113 113 rfl _ _ (by simp [Act.eval, Act.put]) (by simp [Act.eval, Act.put]) (hcp1 _ _ _) ?_)
 go_wp2_with (at_builtin; refine wpList_copy_runI _ rfl _ _ 113 113 rfl _ _ rfl rfl (hcp2 _ _) ?_)
 go_ret
 exact ⟨rfl, by simp only [List.append_assoc]⟩
set_option maxHeartbeats 4000000 in
set_option maxRecDepth 100000 in
theorem Tryz.ins_grow {w : World} {b cap nn j : Nat} {cs : List Value} {q : Addr} {vcap : Nat} {vs : List Value} {cur : Array Value} (hw : w.heap[b]? = some (.cells cur 115 (0, 0))) (hcs : cur.size = cap * 3) (ht : cur.toList.take (nn * 3) = cs) (hnc : nn ≤ cap) (hj : j < nn) (hroom : cap < nn + 1) (hb : nn + 1 ≤ 1073741824) (hv : CellsAt (hp w) q vs) (hvl : vs.length = 3) (h1 : vs.all (·.oneCell') = true) (h2 : cs.all (·.oneCell') = true) :
  Calls Tryz.prog 92 #[.slice (some ⟨b, 0, none⟩) nn cap, .int .i64 j, .slice (some q) 1 vcap] w fun e w' => ∃ (G : Nat) (X : List Value), nn + 1 ≤ G ∧ G ≤ maxLen ∧ X.length = G * 3 ∧ X.take ((nn + 1) * 3) = cs.take (j * 3) ++ vs ++ cs.drop (j * 3) ∧ e = .returned (.slice (some ⟨w.heap.size, 0, none⟩) (nn + 1) G) ∧ ∃ Y Z m, w' = (((w.alloc (.cells Y 115)).drewN m).setRow w.heap.size Z).setRow w.heap.size X.toArray := by
 obtain ⟨i0, v0, hi0, hz0, hzv, hzs, hzb⟩ := T10.E113.info
 have hzc : v0.cells.size = 3 := by rw [cells_L, hzv]; rfl
 have hcl : cs.length = nn * 3 := by rw [← ht, List.length_take, Array.length_toList, hcs]; omega
 have hcur : cur.toList = cs ++ cur.toList.drop (nn * 3) := by rw [← ht, List.take_append_drop]
 have hold : (Builtin.firstCells i0.size j (.slice (some ⟨b, 0, none⟩) j cap)).run Tryz.prog w.drew = .ok (cs.take (j * 3)).toArray w.drew := by
  rw [hzs]
  refine run_firstCells_some (w := w.drew) 3 j ⟨b, 0, none⟩ j cap (cs.take (j * 3)) (by rw [List.length_take, hcl]; omega) (fun i v hi => ?_)
  rw [add_lit0, Nat.zero_add]
  refine cell_of_row (w := w.drew) hw ?_
  rw [List.getElem?_take] at hi
  split at hi
  ·rw [hcur, List.getElem?_append_left (by rw [hcl]; omega)]; exact hi
  ·cases hi
 have hik : j + (nn + 1 - j) = nn + 1 := by omega
 have hkk : (nn : Int) + 1 - (j : Int) = ((nn + 1 - j : Nat) : Int) := by omega
 obtain ⟨G, hG⟩ : ∃ G, G = grownCap w (nn + 1) cap 115 := ⟨_, rfl⟩
 have hGn : nn + 1 ≤ G := by rw [hG]; exact grownCap_ge w _ _ _
 have hGm : G ≤ maxLen := by rw [hG]; exact grownCap_le_maxLen w (nn + 1) cap 115 (by unfold maxLen; omega)
 obtain ⟨R, hR⟩ : ∃ R : Array Value, R = (cs.take (j * 3)).toArray ++ Builtin.zeroCells v0.cells (nn + 1 - j) ++ Builtin.zeroCells v0.cells (G - (nn + 1)) := ⟨_, rfl⟩
 have hRs : R.size = G * 3 := by
  rw [hR]
  simp only [Array.size_append, List.size_toArray, List.length_take, hcl, Builtin.zeroCells, Array.size_map, Array.size_range, hzc]
  omega
 have hRt : R.toList.take (j * 3) = cs.take (j * 3) := by
  rw [hR, Array.toList_append, Array.toList_append, List.append_assoc, List.take_append_of_le_length (by simp [hcl]; omega)]
  simp only [List.toList_toArray, List.take_take, Nat.min_self]
 have hrz : ∀ ty, (Builtin.append_ #[113, 3] ty #[.slice (some ⟨b, 0, none⟩) j cap, .int .i64 ((nn : Int) + 1 - (j : Int))]).run Tryz.prog w = .ok (.slice (some ⟨w.heap.size, 0, none⟩) (nn + 1) G) (w.drew.alloc (.cells R 115)) := fun ty => by
  have h := Lib.run_append_grow_zeros w 113 3 ty 115 i0 _ .i64 .i64 Tryz.underlying113 Tryz.underlying3 hi0 hz0 (some ⟨b, 0, none⟩) j cap (cs.take (j * 3)) hold (nn + 1 - j) (by omega) (by rw [hzs]; decide) (by omega) (by omega) (by rw [hzb]; omega) (by rw [hzb, hik]; exact growslice_fits hroom (by omega))
  rw [hik] at h
  rw [hkk, hR, hG]
  exact h
 have hN : (w.drew.alloc (.cells R 115)).heap[w.heap.size]? = some (.cells R 115 (0, 0)) := alloc_new w.drew _
 have hbw : b < w.heap.size := (Array.getElem?_eq_some_iff.1 hw).1
 obtain ⟨X1, hX1⟩ : ∃ X1 : List Value, X1 = cs.take (j * 3) ++ vs ++ R.toList.drop ((j + 1) * 3) := ⟨_, rfl⟩
 obtain ⟨X2, hX2⟩ : ∃ X2 : List Value, X2 = cs.take (j * 3) ++ vs ++ cs.drop (j * 3) ++ R.toList.drop ((nn + 1) * 3) := ⟨_, rfl⟩
 have hct : (cs.take (j * 3)).length = j * 3 := by rw [List.length_take, hcl]; omega
 have hX1l : X1.length = G * 3 := by rw [hX1]; simp only [List.length_append, hct, hvl, List.length_drop, Array.length_toList, hRs]; omega
 have hX2l : X2.length = G * 3 := by rw [hX2]; simp only [List.length_append, hct, hvl, List.length_drop, Array.length_toList, hRs, hcl]; omega
 have hqn : ∀ i, (q.add i).block = q.block := fun i => by unfold Addr.add; split <;> rfl
 obtain ⟨c0, t0, z0, hq0, _⟩ := hp_cells hv (by omega)
 have hqw : q.block < w.heap.size := (Array.getElem?_eq_some_iff.1 hq0).1
 have hcpA : ∀ (m : Nat) ty dc, (Builtin.copy_ #[113, 113] ty #[.slice (some ⟨w.heap.size, j * 3, none⟩) (nn + 1 - j) dc, .slice (some q) 1 vcap]).run Tryz.prog ((w.alloc (.cells R 115)).drewN m) = .ok (goInt (Nat.min 1 (nn + 1 - j))) (((w.alloc (.cells R 115)).drewN m).setRow w.heap.size X1.toArray) := fun m ty dc => by
  have hm : Nat.min 1 (nn + 1 - j) = 1 := by simp only [Nat.min_def]; split <;> omega
  have := run_copyK (P := Tryz.prog) ((w.alloc (.cells R 115)).drewN m) 113 ty 115 3 Tryz.underlying113 Tryz.sizeOf115 w.heap.size (j * 3) (nn + 1 - j) dc q 1 vcap vs (cur := R) (te := 115) (alloc_new w _) (by rw [hvl, hm]) (fun i v hi => by
   have h0 := hv.cell hi
   unfold World.cell? at h0 ⊢
   rw [show ((w.alloc (.cells R 115)).drewN m).heap[(q.add i).block]? = w.heap[(q.add i).block]? from (Ext.alloc True w (.cells R 115)).keep _ (by rw [hqn]; exact hqw)]
   exact h0) (by rw [hvl, hRs]; omega) (fun v hv => List.all_eq_true.1 h1 v hv)
  rw [this, hvl, hRt, hX1, show j * 3 + 3 = (j + 1) * 3 by omega]
 have hcpB : ∀ (m : Nat) ty dc sc, (Builtin.copy_ #[113, 113] ty #[.slice (some ⟨w.heap.size, (j + 1) * 3, none⟩) (nn - j) dc, .slice (some ⟨b, j * 3, none⟩) (nn - j) sc]).run Tryz.prog (((w.alloc (.cells R 115)).drewN m).setRow w.heap.size X1.toArray) = .ok (goInt (Nat.min (nn - j) (nn - j))) ((((w.alloc (.cells R 115)).drewN m).setRow w.heap.size X1.toArray).setRow w.heap.size X2.toArray) := fun m ty dc sc => by
  have hm : Nat.min (nn - j) (nn - j) = nn - j := Nat.min_self _
  have hl : (cs.drop (j * 3)).length = Nat.min (nn - j) (nn - j) * 3 := by rw [hm, List.length_drop, hcl, Nat.sub_mul]
  have := run_copyK (P := Tryz.prog) (((w.alloc (.cells R 115)).drewN m).setRow w.heap.size X1.toArray) 113 ty 115 3 Tryz.underlying113 Tryz.sizeOf115 w.heap.size ((j + 1) * 3) (nn - j) dc ⟨b, j * 3, none⟩ (nn - j) sc (cs.drop (j * 3)) (cur := X1.toArray) (te := 115) (setRow_heap _ _ R X1.toArray 115 (0, 0) (alloc_new w _)) hl (fun i v hi => by
   rw [add_lit0]
   have hcell : w.cell? ⟨b, j * 3 + i, none⟩ = some v := by
    refine cell_of_row hw ?_
    rw [hcur, List.getElem?_append_left (by rw [List.getElem?_drop] at hi; exact (List.getElem?_eq_some_iff.1 hi).1)]
    rwa [List.getElem?_drop] at hi
   unfold World.cell? at hcell ⊢
   rw [show (((w.alloc (.cells R 115)).drewN m).setRow w.heap.size X1.toArray).heap[(⟨b, j * 3 + i, none⟩ : Addr).block]? = w.heap[(⟨b, j * 3 + i, none⟩ : Addr).block]? from (setRow_other _ _ _ _ (by show b ≠ w.heap.size; omega)).trans ((Ext.alloc True w (.cells R 115)).keep _ hbw)]
   exact hcell) (by rw [List.length_drop, hcl, List.size_toArray, hX1l]; omega) (fun v hv => List.all_eq_true.1 h2 v (List.mem_of_mem_drop hv))
  rw [this, show (j + 1) * 3 + (cs.drop (j * 3)).length = (nn + 1) * 3 by rw [List.length_drop, hcl]; omega]
  congr 3
  have e1 : X1.take ((j + 1) * 3) = cs.take (j * 3) ++ vs := by
   rw [hX1, List.take_append_of_le_length (by rw [List.length_append, hct, hvl]; omega), List.take_of_length_le (by rw [List.length_append, hct, hvl]; omega)]
  have e2 : X1.drop ((nn + 1) * 3) = R.toList.drop ((nn + 1) * 3) := by
   rw [hX1, List.drop_append, List.drop_of_length_le (by rw [List.length_append, hct, hvl]; omega), List.nil_append, List.drop_drop, List.length_append, hct, hvl, show (j + 1) * 3 + ((nn + 1) * 3 - (j * 3 + 3)) = (nn + 1) * 3 by omega]
  simp only [List.toList_toArray, e1, e2, hX2, List.append_assoc]
 have hX2t : X2.take ((nn + 1) * 3) = cs.take (j * 3) ++ vs ++ cs.drop (j * 3) := by
  rw [hX2, List.take_append_of_le_length (by simp only [List.length_append, hct, hvl, List.length_drop, hcl]; omega), List.take_of_length_le (by simp only [List.length_append, hct, hvl, List.length_drop, hcl]; omega)]
 refine Calls.mono (R := fun e w'' => e = .returned (.slice (some ⟨w.heap.size, 0, none⟩) (nn + 1) G) ∧ ∃ m, w'' = (((w.alloc (.cells R 115)).drewN m).setRow w.heap.size X1.toArray).setRow w.heap.size X2.toArray) ?_ fun e w'' hw => by
  obtain ⟨rfl, m, rfl⟩ := hw
  exact ⟨G, X2, hGn, hGm, hX2l, hX2t, rfl, R, X1.toArray, m, rfl⟩
 have mixed := T10.mixed
 have hz2 : ¬ ((j : Int) = (nn : Int)) := by omega
 have hw2 : IntKind.i64.wrap ((j : Int) + 1) = (j : Int) + 1 := by rw [IntKind.wrap_i64]; omega
 have hw3 : IntKind.i64.wrap ((nn : Int) + 1) = (nn : Int) + 1 := by rw [IntKind.wrap_i64]; omega
 have htn : ((j : Int) + 1).toNat = j + 1 := by omega
 have hb1 : (0 : Int) ≤ (j : Int) + 1 := by omega
 have hro : (cap : Int) < (nn : Int) + 1 := by omega
 have hGi : ¬ (G = j) := by omega
 have hGim : ¬ (G = j + 1) := by omega
 have hci : ¬ (cap = j) := by omega
 have hin : j ≤ nn := by omega
 have hb3 : (j : Int) ≤ (nn : Int) := by omega
 have hcpA0 : ∀ ty dc, (Builtin.copy_ #[113, 113] ty #[.slice (some ⟨w.heap.size, j * 3, none⟩) (nn + 1 - j) dc, .slice (some q) 1 vcap]).run Tryz.prog (w.drew.alloc (.cells R 115)) = .ok (goInt (Nat.min 1 (nn + 1 - j))) ((w.drew.alloc (.cells R 115)).setRow w.heap.size X1.toArray) := fun ty dc => hcpA 1 ty dc
 have hcpA1 : ∀ ty dc, (Builtin.copy_ #[113, 113] ty #[.slice (some ⟨w.heap.size, j * 3, none⟩) (nn + 1 - j) dc, .slice (some q) 1 vcap]).run Tryz.prog ((w.alloc (.cells R 115)).drew) = .ok (goInt (Nat.min 1 (nn + 1 - j))) (((w.alloc (.cells R 115)).drew).setRow w.heap.size X1.toArray) := fun ty dc => hcpA 1 ty dc
 have hcpB0 : ∀ ty dc sc, (Builtin.copy_ #[113, 113] ty #[.slice (some ⟨w.heap.size, (j + 1) * 3, none⟩) (nn - j) dc, .slice (some ⟨b, j * 3, none⟩) (nn - j) sc]).run Tryz.prog (((w.alloc (.cells R 115)).drew.setRow w.heap.size X1.toArray).drew) = .ok (goInt (Nat.min (nn - j) (nn - j))) ((((w.alloc (.cells R 115)).drew.setRow w.heap.size X1.toArray).drew).setRow w.heap.size X2.toArray) := fun ty dc sc => hcpB 2 ty dc sc
 clear hG hcpA hcpB hR hold hkk hik hcur hRt hX1 hX2 hX2t hN hq0 hv ht
 go_enter Tryz.func92, Tryz.ntmps92
 go_wp2_with (first
  | (at_builtin; refine Lib.wpList_append_run _ rfl _ _ _ _ rfl _ _ rfl rfl _ _ (hrz _) ?_)
  | (at_builtin; refine wpList_copy_runI _ rfl _ _ 113 113 rfl _ _ rfl rfl (hcpA1 _ _) ?_)
  | (at_builtin; refine wpList_copy_runI _ rfl _ _ 113 113 rfl _ _ rfl rfl (hcpA0 _ _) ?_))
 go_region_law_o (refine step_copy_runI rfl _ _ 113 113 rfl (.slice (some ⟨w.heap.size, (j + 1) * 3, none⟩) (nn - j) (G - (j + 1))) (.slice (some ⟨b, j * 3, none⟩) (nn - j) (cap - j)) (by simp [Act.eval, Act.put]) (by simp [Act.eval, Act.put]) (hcpB0 3 (G - (j + 1)) (cap - j)) ?_)
 go_wp2
 go_ret
 exact ⟨rfl, 2, rfl⟩
theorem grown_row {w w' : World} {b : Nat} (h : ∀ k, k < w.heap.size → k ≠ b → w'.heap[k]? = w.heap[k]?) (ho : w'.os = w.os) (ht : w'.tape = w.tape) (hu : w'.output = w.output) (hs : w.heap.size ≤ w'.heap.size) (hd : w.drawn ≤ w'.drawn) : Grown w w' (some b) :=
 ⟨⟨ho, ht, hu, hs, fun k hk hne => h k hk (fun e => hne (by rw [e]))⟩, hd⟩
theorem setRow_size (w : World) (b : Nat) (X : Array Value) : (w.setRow b X).heap.size = w.heap.size := by simp [World.setRow]
theorem Tryz.ins92 : Ins1 Tryz.prog 92 115 3 := by
 intro w ad cap nn cs j q vcap vs hr hj hb hv hvl h1 h2 hne _
 have hcl := (row_len hr).1
 by_cases hjn : j = nn
 ·subst hjn
  refine (Tryz.ins_end hr hb hv hvl h1).mono fun e w' h => ?_
  rw [List.take_of_length_le (by omega), List.drop_of_length_le (by omega), List.append_nil]
  exact h
 ·have hlt : j < nn := by omega
  rcases hr.2 with ⟨_, h0⟩ | ⟨b, cap', cur, he, hbb, hw, hnc, hcm, hcs, ht⟩
  ·omega
  ·simp only [Value.slice.injEq] at he
   obtain ⟨rfl, _, rfl⟩ := he
   have hbw : b < w.heap.size := (Array.getElem?_eq_some_iff.1 hw).1
   have hc63 : cap ≤ 9223372036854775807 := by unfold maxLen at hcm; omega
   have hln : (cs.take (j * 3) ++ vs ++ cs.drop (j * 3)).length = (nn + 1) * 3 := by
    simp only [List.length_append, List.length_take, List.length_drop, hvl, hcl]; omega
   by_cases hroom : nn + 1 ≤ cap
   ·refine (Tryz.ins_room hw hcs ht hc63 hlt hroom hb hv hvl h1 h2 (hne b rfl)).mono fun e w' h => ?_
    obtain ⟨rfl, rfl⟩ := h
    refine ⟨_, _, rfl, ?_, ?_, fun b' hb' => .inl hb'⟩
    ·refine ⟨hln, .inr ⟨b, cap, _, rfl, hbb, setRow_heap _ b _ _ 115 (0, 0) (setRow_heap w.drew b cur _ 115 (0, 0) hw), hroom, hcm, ?_, ?_⟩⟩
     ·have : (cur.toList.drop ((nn + 1) * 3)).length = cap * 3 - (nn + 1) * 3 := by rw [List.length_drop, Array.length_toList, hcs]
      rw [List.size_toArray, List.length_append, hln, this]; omega
     ·rw [List.toList_toArray, List.take_append_of_le_length (by rw [hln]; exact Nat.le_refl _), List.take_of_length_le (by rw [hln]; exact Nat.le_refl _)]
    ·exact grown_row (fun k hk hkb => (setRow_other _ _ _ _ hkb).trans (setRow_other _ _ _ _ hkb)) rfl rfl rfl (by rw [setRow_size, setRow_size]; exact Nat.le_refl _) (Nat.le_succ _)
   ·refine (Tryz.ins_grow hw hcs ht hnc hlt (by omega) hb hv hvl h1 h2).mono fun e w' h => ?_
    obtain ⟨G, X, hG1, hG2, hXl, hXt, rfl, Y, Z, m, rfl⟩ := h
    refine ⟨_, _, rfl, ?_, ?_, fun b' hb' => .inr (by simp at hb'; omega)⟩
    ·refine ⟨hln, .inr ⟨w.heap.size, G, X.toArray, rfl, Nat.zero_le _, setRow_heap _ _ Z _ 115 (0, 0) (setRow_heap _ _ Y _ 115 (0, 0) (alloc_new w _)), hG1, hG2, by rw [List.size_toArray, hXl], by rw [List.toList_toArray]; exact hXt⟩⟩
    ·refine grown_row (fun k hk hkb => ?_) rfl rfl rfl ?_ ?_
     ·have hkn : k ≠ w.heap.size := by omega
      exact (setRow_other _ _ _ _ hkn).trans ((setRow_other _ _ _ _ hkn).trans ((Ext.alloc True w (.cells Y 115)).keep k hk))
     ·rw [setRow_size, setRow_size]
      exact (Ext.alloc True w (.cells Y 115)).size
     ·exact Nat.le_add_right _ _
end Go.Proofs
set_option maxHeartbeats 4000000
namespace T10
open Go Go.Proofs Pk
noncomputable def m5_2 (x86 : Part) (s123 : Nat) : Option ((Nat) ⊕ ((Unit) ⊕ ((Nat) ⊕ ((Unit) ⊕ Bool)))) :=
 if (s123 : Int) < (x86.paragraphs.length : Int) then (
  (x86.paragraphs[s123]?).bind fun x143 =>
  if 210 < (x143.text.length : Int) then (
   some (.inr (.inr (.inr (.inr false)))))
  else
  some (.inl (s123 + 1)))
 else
 some (.inr (.inl ()))
noncomputable def m5_1 (v_0 : Volume) (s46 : Nat) : Option ((Nat) ⊕ ((Unit) ⊕ Bool)) :=
 if (s46 : Int) < (v_0.parts.length : Int) then (
  (v_0.parts[s46]?).bind fun x86 =>
  if 35 < (x86.paragraphs.length : Int) then (
   some (.inr (.inr false)))
  else
  (loopO (m5_2 x86) 0).bind fun e119 => match e119 with
  | .inr z => some z
  | .inl t122 =>
  some (.inl (s46 + 1)))
 else
 some (.inr (.inl ()))
noncomputable def m5_3 (errata : List Erratum) (s178 : Nat) : Option ((Nat) ⊕ ((Unit) ⊕ Bool)) :=
 if (s178 : Int) < (errata.length : Int) then (
  (errata[s178]?).bind fun x198 =>
  if 210 < (x198.text.length : Int) then (
   some (.inr (.inr false)))
  else
  some (.inl (s178 + 1)))
 else
 some (.inr (.inl ()))
noncomputable def m5 (v_0 : Volume) (errata : List Erratum) : Option (Bool) :=
 (loopO (m5_1 v_0) 0).bind fun e42 => match e42 with
 | .inr z => some z
 | .inl t45 =>
 (loopO (m5_3 errata) 0).bind fun e174 => match e174 with
 | .inr z => some z
 | .inl t177 =>
 ((
  if (v_0.parts.length : Int) ≤ 8 then (
   some (decide ((errata.length : Int) ≤ 25)))
  else
  some false
 ) : Option (Bool)).bind fun t216 =>
 some t216
noncomputable def m26_1 (v_0 : Volume) (s78 : Nat × List Paragraph) : Option ((Nat × List Paragraph) ⊕ (List Paragraph)) :=
 if (s78.1 : Int) < (v_0.parts.length : Int) then (
  (v_0.parts[s78.1]?).bind fun x105 =>
  chk (s78.2.length + x105.paragraphs.length ≤ 1073741824) <|
  some (.inl ((s78.1 + 1), (s78.2 ++ x105.paragraphs))))
 else
 some (.inr s78.2)
noncomputable def m26 (v_0 : Volume) : Option (List Paragraph) :=
 (loopO (m26_1 v_0) (0, ([] : List Paragraph))).bind fun e73 =>
 some e73
noncomputable def m27 (n_0 : Int) (low : Int) (high : Int) : Option (Bool) :=
 ((
  if low ≤ n_0 then (
   some (decide (n_0 ≤ high)))
  else
  some false
 ) : Option (Bool)).bind fun t4 =>
 some t4
noncomputable def m28_1 (s_0 : Bytes) (s21 : Nat) : Option ((Nat) ⊕ ((Unit) ⊕ Bool)) :=
 if (s21 : Int) < (s_0.length : Int) then (
  ((
   (s_0[s21]?).bind fun x49 =>
   if (x49.toNat : Int) < 32 then (
    some true)
   else
   some (decide (126 < (x49.toNat : Int)))
  ) : Option (Bool)).bind fun t46 =>
  if t46 then (
   some (.inr (.inr false)))
  else
  chk (-9223372036854775808 ≤ ((s21 : Int) + 1) ∧ ((s21 : Int) + 1) ≤ 9223372036854775807) <|
  some (.inl (s21 + 1)))
 else
 some (.inr (.inl ()))
noncomputable def m28 (s_0 : Bytes) : Option (Bool) :=
 (loopO (m28_1 s_0) 0).bind fun e17 => match e17 with
 | .inr z => some z
 | .inl t20 =>
 (m27 (s_0.length : Int) 1 200).bind fun r64 =>
 some r64
noncomputable def m6_1 (v_0 : Volume) (s127 : Nat) : Option ((Nat) ⊕ ((Unit) ⊕ Int)) :=
 if (s127 : Int) < (v_0.parts.length : Int) then (
  ((
   (v_0.parts[s127]?).bind fun x213 =>
   (m27 x213.day 0 v_0.bound).bind fun r225 =>
   if r225 then (
    if 0 < (s127 : Int) then (
     (v_0.parts[((s127 : Int) - 1).toNat]?).bind fun x232 =>
     some (decide (x213.day ≤ x232.day)))
    else
    some false)
   else
   some true
  ) : Option (Bool)).bind fun t210 =>
  if t210 then (
   some (.inr (.inr 1)))
  else
  some (.inl (s127 + 1)))
 else
 some (.inr (.inl ()))
noncomputable def m6_2 (r7 : List Paragraph) (s284 : Nat) : Option ((Nat) ⊕ ((Unit) ⊕ Int)) :=
 if (s284 : Int) < (r7.length : Int) then (
  ((
   (r7[s284]?).bind fun x334 =>
   (m27 x334.anchor 1 999).bind fun r342 =>
   if r342 then (
    (m28 x334.text).bind fun r347 =>
    some (!r347))
   else
   some true
  ) : Option (Bool)).bind fun t331 =>
  if t331 then (
   some (.inr (.inr 1)))
  else
  some (.inl (s284 + 1)))
 else
 some (.inr (.inl ()))
noncomputable def m6_4 (s392 : Nat) (r7 : List Paragraph) (s456 : Nat) : Option ((Nat) ⊕ ((Unit) ⊕ ((Nat) ⊕ ((Unit) ⊕ Int)))) :=
 if (s456 : Int) < (s392 : Int) then (
  (r7[s456]?).bind fun x484 =>
  (r7[s392]?).bind fun x492 =>
  if x484.anchor = x492.anchor then (
   some (.inr (.inr (.inr (.inr 6)))))
  else
  chk (-9223372036854775808 ≤ ((s456 : Int) + 1) ∧ ((s456 : Int) + 1) ≤ 9223372036854775807) <|
  some (.inl (s456 + 1)))
 else
 some (.inr (.inl ()))
noncomputable def m6_3 (r7 : List Paragraph) (s392 : Nat) : Option ((Nat) ⊕ ((Unit) ⊕ Int)) :=
 if (s392 : Int) < (r7.length : Int) then (
  (loopO (m6_4 s392 r7) 0).bind fun e452 => match e452 with
  | .inr z => some z
  | .inl t455 =>
  some (.inl (s392 + 1)))
 else
 some (.inr (.inl ()))
noncomputable def m6 (v_0 : Volume) : Option (Int) :=
 (m26 v_0).bind fun r7 =>
 ((
  if 6 < (v_0.parts.length : Int) then (
   some true)
  else
  some (decide (30 < (r7.length : Int)))
 ) : Option (Bool)).bind fun t17 =>
 if t17 then (
  some 3)
 else
 ((
  (m27 v_0.number 1 99).bind fun r53 =>
  if r53 then (
   (m27 v_0.bound 0 99999).bind fun r58 =>
   if r58 then (
    (m27 v_0.height 1 60).bind fun r63 =>
    if r63 then (
     (m27 v_0.width 10 80).bind fun r68 =>
     some (!r68))
    else
    some true)
   else
   some true)
  else
  some true
 ) : Option (Bool)).bind fun t50 =>
 if t50 then (
  some 1)
 else
 (loopO (m6_1 v_0) 0).bind fun e123 => match e123 with
 | .inr z => some z
 | .inl t126 =>
 (loopO (m6_2 r7) 0).bind fun e280 => match e280 with
 | .inr z => some z
 | .inl t283 =>
 (loopO (m6_3 r7) 0).bind fun e388 => match e388 with
 | .inr z => some z
 | .inl t391 =>
 some 0
noncomputable def m29 (x_0 : Erratum) : Option (Bool) :=
 ((
  (m27 x_0.number 1 999).bind fun r22 =>
  if r22 then (
   (m27 x_0.day 0 99999).bind fun r27 =>
   if r27 then (
    (m27 x_0.anchor 1 999).bind fun r32 =>
    some (!r32))
   else
   some true)
  else
  some true
 ) : Option (Bool)).bind fun t19 =>
 if t19 then (
  some false)
 else
 if x_0.kind = 0 then (
  ((
   (m28 x_0.text).bind fun r88 =>
   if r88 then (
    some (decide (x_0.new_ = 0)))
   else
   some false
  ) : Option (Bool)).bind fun t85 =>
  some t85)
 else
 if x_0.kind = 1 then (
  ((
   if x_0.text = [] then (
    some (decide (x_0.new_ = 0)))
   else
   some false
  ) : Option (Bool)).bind fun t107 =>
  some t107)
 else
 ((
  if x_0.kind = 2 then (
   (m28 x_0.text).bind fun r131 =>
   if r131 then (
    (m27 x_0.new_ 1 999).bind fun r136 =>
    some r136)
   else
   some false)
  else
  some false
 ) : Option (Bool)).bind fun t126 =>
 some t126
noncomputable def m30 (a_0 : Erratum) (b_1 : Erratum) : Option (Bool) :=
 ((
  if a_0.day < b_1.day then (
   some true)
  else
  if a_0.day = b_1.day then (
   some (decide (a_0.number < b_1.number)))
  else
  some false
 ) : Option (Bool)).bind fun t13 =>
 some t13
noncomputable def m7_1 (errata : List Erratum) (s35 : Nat) : Option ((Nat) ⊕ ((Unit) ⊕ Int)) :=
 if (s35 : Int) < (errata.length : Int) then (
  (errata[s35]?).bind fun x58 =>
  (m29 x58).bind fun r66 =>
  if r66 then (
   some (.inl (s35 + 1)))
  else
  some (.inr (.inr 1)))
 else
 some (.inr (.inl ()))
noncomputable def m7_3 (errata : List Erratum) (s162 : Nat) (s286 : Nat) : Option ((Nat) ⊕ ((Unit) ⊕ ((Nat) ⊕ ((Unit) ⊕ Int)))) :=
 if (s286 : Int) < (errata.length : Int) then (
  ((
   if (s286 : Int) ≠ (s162 : Int) then (
    (errata[s286]?).bind fun x368 =>
    (errata[s162]?).bind fun x376 =>
    if x368.number = x376.number then (
     some true)
    else
    if x376.kind = 2 then (
     if x368.kind = 2 then (
      some (decide (x368.new_ = x376.new_)))
     else
     some false)
    else
    some false)
   else
   some false
  ) : Option (Bool)).bind fun t363 =>
  if t363 then (
   some (.inr (.inr (.inr (.inr 6)))))
  else
  some (.inl (s286 + 1)))
 else
 some (.inr (.inl ()))
noncomputable def m7_4 (r76 : List Paragraph) (errata : List Erratum) (s162 : Nat) (s438 : Nat) : Option ((Nat) ⊕ ((Unit) ⊕ ((Nat) ⊕ ((Unit) ⊕ Int)))) :=
 if (s438 : Int) < (r76.length : Int) then (
  ((
   (errata[s162]?).bind fun x496 =>
   if x496.kind = 2 then (
    (r76[s438]?).bind fun x506 =>
    some (decide (x506.anchor = x496.new_)))
   else
   some false
  ) : Option (Bool)).bind fun t493 =>
  if t493 then (
   some (.inr (.inr (.inr (.inr 6)))))
  else
  some (.inl (s438 + 1)))
 else
 some (.inr (.inl ()))
noncomputable def m7_2 (errata : List Erratum) (r76 : List Paragraph) (s162 : Nat) : Option ((Nat) ⊕ ((Unit) ⊕ Int)) :=
 if (s162 : Int) < (errata.length : Int) then (
  (loopO (m7_3 errata s162) 0).bind fun e282 => match e282 with
  | .inr z => some z
  | .inl t285 =>
  (loopO (m7_4 r76 errata s162) 0).bind fun e434 => match e434 with
  | .inr z => some z
  | .inl t437 =>
  some (.inl (s162 + 1)))
 else
 some (.inr (.inl ()))
noncomputable def m7_6 (r76 : List Paragraph) (errata : List Erratum) (s600 : Nat) (s705 : Nat × Bool) : Option ((Nat × Bool) ⊕ (Bool)) :=
 if (s705.1 : Int) < (r76.length : Int) then (
  ((
   if s705.2 then (
    some true)
   else
   (r76[s705.1]?).bind fun x764 =>
   (errata[s600]?).bind fun x772 =>
   some (decide (x764.anchor = x772.anchor))
  ) : Option (Bool)).bind fun t757 =>
  some (.inl ((s705.1 + 1), t757)))
 else
 some (.inr s705.2)
noncomputable def m7_7 (errata : List Erratum) (s600 : Nat) (s821 : Nat × Bool) : Option ((Nat × Bool) ⊕ (Bool)) :=
 if (s821.1 : Int) < (errata.length : Int) then (
  ((
   if s821.2 then (
    some true)
   else
   (errata[s821.1]?).bind fun x900 =>
   if x900.kind = 2 then (
    (errata[s600]?).bind fun x910 =>
    if x900.new_ = x910.anchor then (
     (m30 x900 x910).bind fun r920 =>
     some r920)
    else
    some false)
   else
   some false
  ) : Option (Bool)).bind fun t893 =>
  some (.inl ((s821.1 + 1), t893)))
 else
 some (.inr s821.2)
noncomputable def m7_5 (errata : List Erratum) (r76 : List Paragraph) (s600 : Nat) : Option ((Nat) ⊕ ((Unit) ⊕ Int)) :=
 if (s600 : Int) < (errata.length : Int) then (
  (loopO (m7_6 r76 errata s600) (0, false)).bind fun e702 =>
  (loopO (m7_7 errata s600) (0, e702)).bind fun e818 =>
  if e818 then (
   some (.inl (s600 + 1)))
  else
  some (.inr (.inr 7)))
 else
 some (.inr (.inl ()))
noncomputable def m7 (v_0 : Volume) (errata : List Erratum) : Option (Int) :=
 if 20 < (errata.length : Int) then (
  some 3)
 else
 (loopO (m7_1 errata) 0).bind fun e31 => match e31 with
 | .inr z => some z
 | .inl t34 =>
 (m26 v_0).bind fun r76 =>
 (loopO (m7_2 errata r76) 0).bind fun e158 => match e158 with
 | .inr z => some z
 | .inl t161 =>
 (loopO (m7_5 errata r76) 0).bind fun e596 => match e596 with
 | .inr z => some z
 | .inl t599 =>
 some 0
noncomputable def m110 (x_0 : Heading) (f0_ : Heading → Option Bool) : Option (Bool) :=
 (f0_ x_0).bind fun r13 =>
 some (!r13)
noncomputable def m147_1 (s_0 : List Heading) (f_1 : Heading → Option Bool) (s33 : Nat) : Option ((Nat) ⊕ ((Unit) ⊕ Int)) :=
 if (s33 : Int) < (s_0.length : Int) then (
  (s_0[s33]?).bind fun x66 =>
  (f_1 x66).bind fun r84 =>
  if r84 then (
   some (.inr (.inr (s33 : Int))))
  else
  some (.inl (s33 + 1)))
 else
 some (.inr (.inl ()))
noncomputable def m147 (s_0 : List Heading) (f_1 : Heading → Option Bool) : Option (Int) :=
 (loopO (m147_1 s_0 f_1) 0).bind fun e29 => match e29 with
 | .inr z => some z
 | .inl t32 =>
 some (-1)
noncomputable def m109 (s_0 : List Heading) (f_1 : Heading → Option Bool) : Option (Bool) :=
 (m147 s_0 f_1).bind fun r1 =>
 some (decide (0 ≤ r1))
noncomputable def m71 (l_0 : List Heading) (right : Heading → Option Bool) : Option (Bool) :=
 (m109 l_0 (fun x0_ => m110 x0_ right)).bind fun r5 =>
 some (!r5)
noncomputable def m120 (x_0 : Bytes) (f0_ : Bytes → Option Bool) : Option (Bool) :=
 (f0_ x_0).bind fun r1 =>
 some (!r1)
noncomputable def m154_1 (s_0 : List Bytes) (f_1 : Bytes → Option Bool) (s23 : Nat) : Option ((Nat) ⊕ ((Unit) ⊕ Int)) :=
 if (s23 : Int) < (s_0.length : Int) then (
  (s_0[s23]?).bind fun x46 =>
  (f_1 x46).bind fun r54 =>
  if r54 then (
   some (.inr (.inr (s23 : Int))))
  else
  some (.inl (s23 + 1)))
 else
 some (.inr (.inl ()))
noncomputable def m154 (s_0 : List Bytes) (f_1 : Bytes → Option Bool) : Option (Int) :=
 (loopO (m154_1 s_0 f_1) 0).bind fun e19 => match e19 with
 | .inr z => some z
 | .inl t22 =>
 some (-1)
noncomputable def m119 (s_0 : List Bytes) (f_1 : Bytes → Option Bool) : Option (Bool) :=
 (m154 s_0 f_1).bind fun r1 =>
 some (decide (0 ≤ r1))
noncomputable def m75 (l_0 : List Bytes) (right : Bytes → Option Bool) : Option (Bool) :=
 (m119 l_0 (fun x0_ => m120 x0_ right)).bind fun r5 =>
 some (!r5)
noncomputable def m148 (b_0 : Int) : Option (Bool) :=
 ((
  if (32 : Int) ≤ b_0 then (
   if b_0 ≤ 126 then (
    (m149 [44, 58, 59, 61] b_0).bind fun r17 =>
    some (!r17))
   else
   some false)
  else
  some false
 ) : Option (Bool)).bind fun t10 =>
 some t10
noncomputable def m48 (n_0 : Int) (low : Int) (high : Int) : Option (Bool) :=
 ((
  if low ≤ n_0 then (
   some (decide (n_0 ≤ high)))
  else
  some false
 ) : Option (Bool)).bind fun t4 =>
 some t4
noncomputable def m189 (x_0 : Int) (f0_ : Int → Option Bool) : Option (Bool) :=
 (f0_ x_0).bind fun r1 =>
 some (!r1)
noncomputable def m200_1 (s_0 : List UInt8) (f_1 : Int → Option Bool) (s23 : Nat) : Option ((Nat) ⊕ ((Unit) ⊕ Int)) :=
 if (s23 : Int) < (s_0.length : Int) then (
  (s_0[s23]?).bind fun x46 =>
  (f_1 (x46.toNat : Int)).bind fun r54 =>
  if r54 then (
   some (.inr (.inr (s23 : Int))))
  else
  some (.inl (s23 + 1)))
 else
 some (.inr (.inl ()))
noncomputable def m200 (s_0 : List UInt8) (f_1 : Int → Option Bool) : Option (Int) :=
 (loopO (m200_1 s_0 f_1) 0).bind fun e19 => match e19 with
 | .inr z => some z
 | .inl t22 =>
 some (-1)
noncomputable def m159 (s_0 : List UInt8) (f_1 : Int → Option Bool) : Option (Bool) :=
 (m200 s_0 f_1).bind fun r1 =>
 some (decide (0 ≤ r1))
noncomputable def m150 (l_0 : List UInt8) (right : Int → Option Bool) : Option (Bool) :=
 (m159 l_0 (fun x0_ => m189 x0_ right)).bind fun r5 =>
 some (!r5)
noncomputable def m112 (s_0 : Bytes) : Option (Bool) :=
 ((
  (m48 (s_0.length : Int) 1 40).bind fun r32 =>
  if r32 then (
   chk (s_0.length ≤ 1073741824) <|
   (m150 s_0 (m148)).bind fun r44 =>
   if r44 then (
    (m151 s_0 [32]).bind fun r49 =>
    if r49 = s_0 then (
     (m106 s_0 [32, 32]).bind fun r54 =>
     some (!r54))
    else
    some false)
   else
   some false)
  else
  some false
 ) : Option (Bool)).bind fun t29 =>
 some t29
noncomputable def m113_1 (l_0 : List Bytes) (before : Bytes → Bytes → Option Bool) (s36 : Nat) : Option ((Nat) ⊕ ((Unit) ⊕ Bool)) :=
 if (s36 : Int) < (l_0.length : Int) then (
  ((
   if 0 < (s36 : Int) then (
    (l_0[((s36 : Int) - 1).toNat]?).bind fun x100 =>
    (l_0[s36]?).bind fun x108 =>
    (before x100 x108).bind fun r116 =>
    some (!r116))
   else
   some false
  ) : Option (Bool)).bind fun t95 =>
  if t95 then (
   some (.inr (.inr false)))
  else
  some (.inl (s36 + 1)))
 else
 some (.inr (.inl ()))
noncomputable def m113 (l_0 : List Bytes) (before : Bytes → Bytes → Option Bool) : Option (Bool) :=
 (loopO (m113_1 l_0 before) 0).bind fun e32 => match e32 with
 | .inr z => some z
 | .inl t35 =>
 some true
noncomputable def m156_1 (s_0 : Bytes) (s229 : Nat × List UInt8) : Option ((Nat × List UInt8) ⊕ (List UInt8)) :=
 if (s229.1 : Int) < (s_0.length : Int) then (
  (s_0[s229.1]?).bind fun x291 =>
  ((
   if (65 : Int) ≤ (x291.toNat : Int) then (
    some (decide ((x291.toNat : Int) ≤ 90)))
   else
   some false
  ) : Option (Bool)).bind fun t345 =>
  ((
   if t345 then (
    chk (0 ≤ ((x291.toNat : Int) - 65) ∧ ((x291.toNat : Int) - 65) ≤ 255) <|
    chk (0 ≤ (((x291.toNat : Int) - 65) + 97) ∧ (((x291.toNat : Int) - 65) + 97) ≤ 255) <|
    chk (s229.2.length + 1 ≤ 1073741824) <|
    some (s229.2 ++ [(UInt8.ofNat (((x291.toNat : Int) - 65) + 97).toNat)]))
   else
   ((
    if (97 : Int) ≤ (x291.toNat : Int) then (
     if (x291.toNat : Int) ≤ 122 then (
      some true)
     else
     if (48 : Int) ≤ (x291.toNat : Int) then (
      some (decide ((x291.toNat : Int) ≤ 57)))
     else
     some false)
    else
    if (48 : Int) ≤ (x291.toNat : Int) then (
     some (decide ((x291.toNat : Int) ≤ 57)))
    else
    some false
   ) : Option (Bool)).bind fun t416 =>
   ((
    if t416 then (
     chk (s229.2.length + 1 ≤ 1073741824) <|
     some (s229.2 ++ [x291]))
    else
    some s229.2
   ) : Option (List UInt8)).bind fun t439 =>
   some t439
  ) : Option (List UInt8)).bind fun t387 =>
  some (.inl ((s229.1 + 1), t387)))
 else
 some (.inr s229.2)
noncomputable def m156 (s_0 : Bytes) : Option (Bytes) :=
 chk (s_0.length ≤ 1073741824) <|
 (loopO (m156_1 s_0) (0, ([] : List UInt8))).bind fun e224 =>
 some e224
noncomputable def m129_1 (vals : List Int) (s20 : Nat) : Option ((Nat) ⊕ ((Unit) ⊕ Int)) :=
 if (s20 : Int) < (vals.length : Int) then (
  (vals[s20]?).bind fun x40 =>
  if x40 ≠ 0 then (
   some (.inr (.inr x40)))
  else
  some (.inl (s20 + 1)))
 else
 some (.inr (.inl ()))
noncomputable def m129 (vals : List Int) : Option (Int) :=
 (loopO (m129_1 vals) 0).bind fun e16 => match e16 with
 | .inr z => some z
 | .inl t19 =>
 some 0
noncomputable def m121 (a_0 : Bytes) (b_1 : Bytes) : Option (Int) :=
 (m156 a_0).bind fun r1 =>
 (m156 b_1).bind fun r4 =>
 (m155 r1 r4).bind fun r7 =>
 (m155 a_0 b_1).bind fun r10 =>
 (m129 ([r7, r10] : List Int)).bind fun r18 =>
 some r18
noncomputable def m79 (a_0 : Bytes) (b_1 : Bytes) : Option (Bool) :=
 (m121 a_0 b_1).bind fun r1 =>
 some (decide (r1 < 0))
noncomputable def m111 (l_0 : List Bytes) : Option (Bool) :=
 ((
  if (l_0.length : Int) ≤ 8 then (
   (m75 l_0 (m112)).bind fun r21 =>
   if r21 then (
    (m113 l_0 (m79)).bind fun r27 =>
    some r27)
   else
   some false)
  else
  some false
 ) : Option (Bool)).bind fun t15 =>
 some t15
noncomputable def m153 (x_0 : IPlace) (f0_ : IPlace → Option Bool) : Option (Bool) :=
 (f0_ x_0).bind fun r4 =>
 some (!r4)
noncomputable def m197_1 (s_0 : List IPlace) (f_1 : IPlace → Option Bool) (s23 : Nat) : Option ((Nat) ⊕ ((Unit) ⊕ Int)) :=
 if (s23 : Int) < (s_0.length : Int) then (
  (s_0[s23]?).bind fun x46 =>
  (f_1 x46).bind fun r54 =>
  if r54 then (
   some (.inr (.inr (s23 : Int))))
  else
  some (.inl (s23 + 1)))
 else
 some (.inr (.inl ()))
noncomputable def m197 (s_0 : List IPlace) (f_1 : IPlace → Option Bool) : Option (Int) :=
 (loopO (m197_1 s_0 f_1) 0).bind fun e19 => match e19 with
 | .inr z => some z
 | .inl t22 =>
 some (-1)
noncomputable def m152 (s_0 : List IPlace) (f_1 : IPlace → Option Bool) : Option (Bool) :=
 (m197 s_0 f_1).bind fun r1 =>
 some (decide (0 ≤ r1))
noncomputable def m114 (l_0 : List IPlace) (right : IPlace → Option Bool) : Option (Bool) :=
 (m152 l_0 (fun x0_ => m153 x0_ right)).bind fun r5 =>
 some (!r5)
noncomputable def m115 (p_0 : IPlace) : Option (Bool) :=
 ((
  (m48 p_0.volume 1 999).bind fun r19 =>
  if r19 then (
   (m48 p_0.from_ 1 p_0.to_).bind fun r24 =>
   if r24 then (
    some (decide (p_0.to_ ≤ 9999)))
   else
   some false)
  else
  some false
 ) : Option (Bool)).bind fun t16 =>
 some t16
noncomputable def m116_1 (l_0 : List IPlace) (before : IPlace → IPlace → Option Bool) (s36 : Nat) : Option ((Nat) ⊕ ((Unit) ⊕ Bool)) :=
 if (s36 : Int) < (l_0.length : Int) then (
  ((
   if 0 < (s36 : Int) then (
    (l_0[((s36 : Int) - 1).toNat]?).bind fun x100 =>
    (l_0[s36]?).bind fun x108 =>
    (before x100 x108).bind fun r116 =>
    some (!r116))
   else
   some false
  ) : Option (Bool)).bind fun t95 =>
  if t95 then (
   some (.inr (.inr false)))
  else
  some (.inl (s36 + 1)))
 else
 some (.inr (.inl ()))
noncomputable def m116 (l_0 : List IPlace) (before : IPlace → IPlace → Option Bool) : Option (Bool) :=
 (loopO (m116_1 l_0 before) 0).bind fun e32 => match e32 with
 | .inr z => some z
 | .inl t35 =>
 some true
noncomputable def m117 (p_0 : IPlace) (o_1 : IPlace) : Option (Bool) :=
 ((
  if p_0.volume < o_1.volume then (
   some true)
  else
  if p_0.volume = o_1.volume then (
   chk (-9223372036854775808 ≤ (p_0.to_ + 1) ∧ (p_0.to_ + 1) ≤ 9223372036854775807) <|
   some (decide ((p_0.to_ + 1) < o_1.from_)))
  else
  some false
 ) : Option (Bool)).bind fun t15 =>
 some t15
noncomputable def m72 (h_0 : Heading) : Option (Bool) :=
 ((
  (m112 h_0.name).bind fun r48 =>
  if r48 then (
   (m111 h_0.variants).bind fun r53 =>
   if r53 then (
    (m111 h_0.also).bind fun r58 =>
    if r58 then (
     if (h_0.places.length : Int) ≤ 30 then (
      (m114 h_0.places (m115)).bind fun r66 =>
      if r66 then (
       (m116 h_0.places (m117)).bind fun r72 =>
       some r72)
      else
      some false)
     else
     some false)
    else
    some false)
   else
   some false)
  else
  some false
 ) : Option (Bool)).bind fun t45 =>
 some t45
noncomputable def m118_1 (f0_ : Heading) (yield : Bytes → Option Bool) (s41 : Nat) : Option ((Nat) ⊕ ((Unit) ⊕ Unit)) :=
 if (s41 : Int) < (f0_.variants.length : Int) then (
  (f0_.variants[s41]?).bind fun x64 =>
  (yield x64).bind fun r72 =>
  if r72 then (
   some (.inl (s41 + 1)))
  else
  some (.inr (.inr ())))
 else
 some (.inr (.inl ()))
noncomputable def m118 (yield : Bytes → Option Bool) (f0_ : Heading) : Option (Unit) :=
 (yield f0_.name).bind fun r10 =>
 if r10 then (
  (loopO (m118_1 f0_ yield) 0).bind fun e37 => match e37 with
  | .inr z => some z
  | .inl t40 =>
  some ())
 else
 some ()
noncomputable def m76 (s_0 : Bytes) (f0_ : List (Bytes × Int)) (f1_ : List Heading) (f2_ : Heading) : Option (Bool) :=
 ((
  if (lkp f0_ s_0).isSome then (
   chk (0 ≤ ((lkp f0_ s_0).getD (0 : Int))) <|
   (f1_[((lkp f0_ s_0).getD (0 : Int)).toNat]?).bind fun x43 =>
   if x43.name = s_0 then (
    some (decide (s_0 ≠ f2_.name)))
   else
   some false)
  else
  some false
 ) : Option (Bool)).bind fun t36 =>
 some t36
noncomputable def m74 (h_0 : Heading) (f0_ : List (Bytes × Int)) (f1_ : List Heading) : Option (Bool) :=
 (m75 h_0.also (fun x0_ => m76 x0_ f0_ f1_ h_0)).bind fun r14 =>
 some r14
noncomputable def m77_1 (l_0 : List Heading) (before : Heading → Heading → Option Bool) (s56 : Nat) : Option ((Nat) ⊕ ((Unit) ⊕ Bool)) :=
 if (s56 : Int) < (l_0.length : Int) then (
  ((
   if 0 < (s56 : Int) then (
    (l_0[((s56 : Int) - 1).toNat]?).bind fun x160 =>
    (l_0[s56]?).bind fun x178 =>
    (before x160 x178).bind fun r196 =>
    some (!r196))
   else
   some false
  ) : Option (Bool)).bind fun t155 =>
  if t155 then (
   some (.inr (.inr false)))
  else
  some (.inl (s56 + 1)))
 else
 some (.inr (.inl ()))
noncomputable def m77 (l_0 : List Heading) (before : Heading → Heading → Option Bool) : Option (Bool) :=
 (loopO (m77_1 l_0 before) 0).bind fun e52 => match e52 with
 | .inr z => some z
 | .inl t55 =>
 some true
noncomputable def m78 (a_0 : Heading) (b_1 : Heading) : Option (Bool) :=
 (m79 a_0.name b_1.name).bind fun r25 =>
 some r25
noncomputable def m47_2 (x316 : Heading) (s223 : Nat × (List (Bytes × Int))) (s523 : Nat × (List (Bytes × Int))) : Option ((Nat × (List (Bytes × Int))) ⊕ (((List (Bytes × Int))) ⊕ ((Nat × (List (Bytes × Int))) ⊕ ((List (Bytes × Int)))))) :=
 if (s523.1 : Int) < (x316.variants.length : Int) then (
  (x316.variants[s523.1]?).bind fun x548 =>
  ((
   if (lkp s523.2 x548).isSome then (
    some (.inl 6))
   else
   some (.inr (put s523.2 x548 (s223.1 : Int)))
  ) : Option ((Nat) ⊕ ((List (Bytes × Int))))).bind fun t559 => match t559 with
  | .inl t562 => (
   some (.inr (.inr (.inl (t562, s523.2)))))
  | .inr t563 => (
   some (.inl ((s523.1 + 1), t563))))
 else
 some (.inr (.inl s523.2))
noncomputable def m47_1 (l_0 : List Heading) (s223 : Nat × (List (Bytes × Int))) : Option ((Nat × (List (Bytes × Int))) ⊕ (((List (Bytes × Int))) ⊕ ((List (Bytes × Int)) × Int))) :=
 if (s223.1 : Int) < (l_0.length : Int) then (
  (l_0[s223.1]?).bind fun x316 =>
  ((
   ((
    if (lkp s223.2 x316.name).isSome then (
     some (.inl 6))
    else
    some (.inr (put s223.2 x316.name (s223.1 : Int)))
   ) : Option ((Nat) ⊕ ((List (Bytes × Int))))).bind fun t465 => match t465 with
   | .inl t468 => (
    some (.inl (t468, s223.2)))
   | .inr t469 => (
    (loopO (m47_2 x316 s223) (0, t469)).bind fun e519 => match e519 with
    | .inr z => some z
    | .inl t522 =>
    some (.inr t522))
  ) : Option ((Nat × (List (Bytes × Int))) ⊕ ((List (Bytes × Int))))).bind fun t457 => match t457 with
  | .inl t460 => (
   some (.inr (.inr ([], (t460.1 : Int)))))
  | .inr t461 => (
   some (.inl ((s223.1 + 1), t461))))
 else
 some (.inr (.inl s223.2))
noncomputable def m47 (l_0 : List Heading) : Option ((List (Bytes × Int)) × Int) :=
 if 60 < (l_0.length : Int) then (
  some ([], 3))
 else
 (m71 l_0 (m72)).bind fun r30 =>
 if r30 then (
  (loopO (m47_1 l_0) (0, ([] : List (Bytes × Int)))).bind fun e218 => match e218 with
  | .inr z => some z
  | .inl t221 =>
  ((
   (m71 l_0 (fun x0_ => m74 x0_ t221 l_0)).bind fun r590 =>
   if r590 then (
    (m77 l_0 (m78)).bind fun r596 =>
    some (!r596))
   else
   some true
  ) : Option (Bool)).bind fun t586 =>
  if t586 then (
   some ([], 1))
  else
  some (t221, 0))
 else
 some ([], 1)
noncomputable def m107 (s_0 : List Bytes) : Option (List Bytes) :=
 chk (([] : List Bytes).length + s_0.length ≤ 1073741824) <|
 some (([] : List Bytes) ++ s_0)
noncomputable def m108 (s_0 : List IPlace) : Option (List IPlace) :=
 chk (([] : List IPlace).length + s_0.length ≤ 1073741824) <|
 some (([] : List IPlace) ++ s_0)
noncomputable def m70 (h_0 : Heading) : Option (Heading) :=
 (m107 h_0.variants).bind fun r14 =>
 (m107 h_0.also).bind fun r24 =>
 (m108 h_0.places).bind fun r34 =>
 some (⟨h_0.name, r14, r24, r34⟩ : Heading)
noncomputable def m46 (l_0 : List Heading) (name : Bytes) : Option (Heading × Int) :=
 (m47 l_0).bind fun r2 =>
 if r2.2 ≠ 0 then (
  some ((⟨[], ([] : List Bytes), ([] : List Bytes), ([] : List IPlace)⟩ : Heading), r2.2))
 else
 if (lkp r2.1 name).isSome then (
  chk (0 ≤ ((lkp r2.1 name).getD (0 : Int))) <|
  (l_0[((lkp r2.1 name).getD (0 : Int)).toNat]?).bind fun x22 =>
  (m70 x22).bind fun r40 =>
  some (r40, 0))
 else
 some ((⟨[], ([] : List Bytes), ([] : List Bytes), ([] : List IPlace)⟩ : Heading), 7)
noncomputable def m21  : Option (Bool) :=
 (m46 ([(⟨[97], ([[98]] : List Bytes), ([] : List Bytes), ([] : List IPlace)⟩ : Heading)] : List Heading) [98]).bind fun r12 =>
 ((
  if r12.2 = 0 then (
   some (decide (r12.1.name = [97])))
  else
  some false
 ) : Option (Bool)).bind fun t34 =>
 some t34
noncomputable def m11_2 (x424 : Part) (s508 : Nat × List Paragraph) : Option ((Nat × List Paragraph) ⊕ (List Paragraph)) :=
 if (s508.1 : Int) < (x424.paragraphs.length : Int) then (
  (x424.paragraphs[s508.1]?).bind fun x535 =>
  chk (s508.2.length + 1 ≤ 1073741824) <|
  some (.inl ((s508.1 + 1), (s508.2 ++ [x535]))))
 else
 some (.inr s508.2)
noncomputable def m11_1 (v_0 : Volume) (s319 : Nat × List Part) : Option ((Nat × List Part) ⊕ (List Part)) :=
 if (s319.1 : Int) < (v_0.parts.length : Int) then (
  (v_0.parts[s319.1]?).bind fun x424 =>
  (loopO (m11_2 x424) (0, ([] : List Paragraph))).bind fun e503 =>
  chk (s319.2.length + 1 ≤ 1073741824) <|
  some (.inl ((s319.1 + 1), (s319.2 ++ [(⟨x424.day, e503⟩ : Part)]))))
 else
 some (.inr s319.2)
noncomputable def m11 (v_0 : Volume) : Option (Volume) :=
 (loopO (m11_1 v_0) (0, ([] : List Part))).bind fun e311 =>
 some (⟨v_0.number, v_0.bound, v_0.height, v_0.width, e311⟩ : Volume)
noncomputable def m36 (x_0 : Erratum) : Option (Erratum) :=
 some x_0
noncomputable def m12_1 (l_0 : List Erratum) (s72 : Nat × List Erratum) : Option ((Nat × List Erratum) ⊕ (List Erratum)) :=
 if (s72.1 : Int) < (l_0.length : Int) then (
  (l_0[s72.1]?).bind fun x99 =>
  (m36 x99).bind fun r107 =>
  chk (s72.2.length + 1 ≤ 1073741824) <|
  some (.inl ((s72.1 + 1), (s72.2 ++ [r107]))))
 else
 some (.inr s72.2)
noncomputable def m12 (l_0 : List Erratum) : Option (List Erratum) :=
 (loopO (m12_1 l_0) (0, ([] : List Erratum))).bind fun e67 =>
 some e67
noncomputable def m53_1 (v_0 : Volume) (s87 : Nat × List Paragraph) : Option ((Nat × List Paragraph) ⊕ (List Paragraph)) :=
 if (s87.1 : Int) < (v_0.parts.length : Int) then (
  (v_0.parts[s87.1]?).bind fun x117 =>
  chk (s87.2.length + x117.paragraphs.length ≤ 1073741824) <|
  some (.inl ((s87.1 + 1), (s87.2 ++ x117.paragraphs))))
 else
 some (.inr s87.2)
noncomputable def m53 (v_0 : Volume) : Option (List Paragraph) :=
 (loopO (m53_1 v_0) (0, ([] : List Paragraph))).bind fun e82 =>
 some e82
noncomputable def m44 (n_0 : Int) (low : Int) (high : Int) : Option (Bool) :=
 ((
  if low ≤ n_0 then (
   some (decide (n_0 ≤ high)))
  else
  some false
 ) : Option (Bool)).bind fun t4 =>
 some t4
noncomputable def m34 (n_0 : Int) : Option (Bool) :=
 (m44 n_0 0 99999).bind fun r1 =>
 some r1
noncomputable def m158 (x_0 : Paragraph) (f0_ : Paragraph → Option Bool) : Option (Bool) :=
 (f0_ x_0).bind fun r4 =>
 some (!r4)
noncomputable def m199_1 (s_0 : List Paragraph) (f_1 : Paragraph → Option Bool) (s23 : Nat) : Option ((Nat) ⊕ ((Unit) ⊕ Int)) :=
 if (s23 : Int) < (s_0.length : Int) then (
  (s_0[s23]?).bind fun x46 =>
  (f_1 x46).bind fun r54 =>
  if r54 then (
   some (.inr (.inr (s23 : Int))))
  else
  some (.inl (s23 + 1)))
 else
 some (.inr (.inl ()))
noncomputable def m199 (s_0 : List Paragraph) (f_1 : Paragraph → Option Bool) : Option (Int) :=
 (loopO (m199_1 s_0 f_1) 0).bind fun e19 => match e19 with
 | .inr z => some z
 | .inl t22 =>
 some (-1)
noncomputable def m157 (s_0 : List Paragraph) (f_1 : Paragraph → Option Bool) : Option (Bool) :=
 (m199 s_0 f_1).bind fun r1 =>
 some (decide (0 ≤ r1))
noncomputable def m122 (l_0 : List Paragraph) (right : Paragraph → Option Bool) : Option (Bool) :=
 (m157 l_0 (fun x0_ => m158 x0_ right)).bind fun r5 =>
 some (!r5)
noncomputable def m83 (n_0 : Int) : Option (Bool) :=
 (m44 n_0 1 999).bind fun r1 =>
 some r1
noncomputable def m160 (x_0 : Int) (f0_ : Int → Option Bool) : Option (Bool) :=
 (f0_ x_0).bind fun r1 =>
 some (!r1)
noncomputable def m125 (l_0 : List UInt8) (right : Int → Option Bool) : Option (Bool) :=
 (m159 l_0 (fun x0_ => m160 x0_ right)).bind fun r5 =>
 some (!r5)
noncomputable def m126 (c_0 : Int) : Option (Bool) :=
 ((
  if (32 : Int) ≤ c_0 then (
   some (decide (c_0 ≤ 126)))
  else
  some false
 ) : Option (Bool)).bind fun t4 =>
 some t4
noncomputable def m84 (s_0 : Bytes) : Option (Bool) :=
 ((
  (m44 (s_0.length : Int) 1 200).bind fun r20 =>
  if r20 then (
   chk (s_0.length ≤ 1073741824) <|
   (m125 s_0 (m126)).bind fun r32 =>
   some r32)
  else
  some false
 ) : Option (Bool)).bind fun t17 =>
 some t17
noncomputable def m123 (p_0 : Paragraph) : Option (Bool) :=
 ((
  (m83 p_0.anchor).bind fun r16 =>
  if r16 then (
   (m84 p_0.text).bind fun r21 =>
   some r21)
  else
  some false
 ) : Option (Bool)).bind fun t13 =>
 some t13
noncomputable def m80_1 (v_0 : Volume) (s59 : Nat) : Option ((Nat) ⊕ ((Unit) ⊕ Bool)) :=
 if (s59 : Int) < (v_0.parts.length : Int) then (
  (v_0.parts[s59]?).bind fun x112 =>
  ((
   (m34 x112.day).bind fun r155 =>
   if r155 then (
    if v_0.bound < x112.day then (
     some true)
    else
    if 0 < (s59 : Int) then (
     (v_0.parts[((s59 : Int) - 1).toNat]?).bind fun x166 =>
     some (decide (x112.day ≤ x166.day)))
    else
    some false)
   else
   some true
  ) : Option (Bool)).bind fun t152 =>
  if t152 then (
   some (.inr (.inr false)))
  else
  some (.inl (s59 + 1)))
 else
 some (.inr (.inl ()))
noncomputable def m80 (v_0 : Volume) : Option (Bool) :=
 (loopO (m80_1 v_0) 0).bind fun e55 => match e55 with
 | .inr z => some z
 | .inl t58 =>
 ((
  (m44 v_0.number 1 99).bind fun r227 =>
  if r227 then (
   (m34 v_0.bound).bind fun r232 =>
   if r232 then (
    (m44 v_0.height 1 60).bind fun r237 =>
    if r237 then (
     (m44 v_0.width 10 80).bind fun r242 =>
     if r242 then (
      (m53 v_0).bind fun r247 =>
      (m122 r247 (m123)).bind fun r255 =>
      some r255)
     else
     some false)
    else
    some false)
   else
   some false)
  else
  some false
 ) : Option (Bool)).bind fun t224 =>
 some t224
noncomputable def m50_1 (r7 : List Paragraph) (s98 : Nat × (List (Int × Bool))) : Option ((Nat × (List (Int × Bool))) ⊕ (((List (Int × Bool))) ⊕ Int)) :=
 if (s98.1 : Int) < (r7.length : Int) then (
  (r7[s98.1]?).bind fun x121 =>
  if (lkp s98.2 x121.anchor).getD false then (
   some (.inr (.inr 6)))
  else
  some (.inl ((s98.1 + 1), (put s98.2 x121.anchor true))))
 else
 some (.inr (.inl s98.2))
noncomputable def m50 (v_0 : Volume) : Option (Int) :=
 (m53 v_0).bind fun r7 =>
 ((
  if 6 < (v_0.parts.length : Int) then (
   some true)
  else
  some (decide (30 < (r7.length : Int)))
 ) : Option (Bool)).bind fun t30 =>
 if t30 then (
  some 3)
 else
 (m80 v_0).bind fun r48 =>
 if r48 then (
  (loopO (m50_1 r7) (0, ([] : List (Int × Bool)))).bind fun e94 => match e94 with
  | .inr z => some z
  | .inl t97 =>
  some 0)
 else
 some 1
noncomputable def m82 (x_0 : Erratum) (f0_ : Erratum → Option Bool) : Option (Bool) :=
 (f0_ x_0).bind fun r4 =>
 some (!r4)
noncomputable def m124_1 (s_0 : List Erratum) (f_1 : Erratum → Option Bool) (s23 : Nat) : Option ((Nat) ⊕ ((Unit) ⊕ Int)) :=
 if (s23 : Int) < (s_0.length : Int) then (
  (s_0[s23]?).bind fun x46 =>
  (f_1 x46).bind fun r54 =>
  if r54 then (
   some (.inr (.inr (s23 : Int))))
  else
  some (.inl (s23 + 1)))
 else
 some (.inr (.inl ()))
noncomputable def m124 (s_0 : List Erratum) (f_1 : Erratum → Option Bool) : Option (Int) :=
 (loopO (m124_1 s_0 f_1) 0).bind fun e19 => match e19 with
 | .inr z => some z
 | .inl t22 =>
 some (-1)
noncomputable def m81 (s_0 : List Erratum) (f_1 : Erratum → Option Bool) : Option (Bool) :=
 (m124 s_0 f_1).bind fun r1 =>
 some (decide (0 ≤ r1))
noncomputable def m51 (l_0 : List Erratum) (right : Erratum → Option Bool) : Option (Bool) :=
 (m81 l_0 (fun x0_ => m82 x0_ right)).bind fun r5 =>
 some (!r5)
noncomputable def m52 (x_0 : Erratum) : Option (Bool) :=
 ((
  (m44 x_0.number 1 999).bind fun r22 =>
  if r22 then (
   (m34 x_0.day).bind fun r27 =>
   if r27 then (
    (m83 x_0.anchor).bind fun r32 =>
    some (!r32))
   else
   some true)
  else
  some true
 ) : Option (Bool)).bind fun t19 =>
 if t19 then (
  some false)
 else
 if x_0.kind = 0 then (
  ((
   (m84 x_0.text).bind fun r114 =>
   if r114 then (
    some (decide (x_0.new_ = 0)))
   else
   some false
  ) : Option (Bool)).bind fun t111 =>
  some t111)
 else
 if x_0.kind = 1 then (
  ((
   if x_0.text = [] then (
    some (decide (x_0.new_ = 0)))
   else
   some false
  ) : Option (Bool)).bind fun t146 =>
  some t146)
 else
 if x_0.kind = 2 then (
  ((
   (m84 x_0.text).bind fun r180 =>
   if r180 then (
    (m83 x_0.new_).bind fun r185 =>
    some r185)
   else
   some false
  ) : Option (Bool)).bind fun t177 =>
  some t177)
 else
 some false
noncomputable def m86 (s_0 : List Erratum) : Option (List Erratum) :=
 chk (([] : List Erratum).length + s_0.length ≤ 1073741824) <|
 some (([] : List Erratum) ++ s_0)
noncomputable def m171 (x_0 : Int) : Option (Bool) :=
 some (decide (x_0 ≠ x_0))
noncomputable def m130 (x_0 : Int) (y_1 : Int) : Option (Int) :=
 (m171 x_0).bind fun r1 =>
 (m171 y_1).bind fun r4 =>
 if r1 then (
  if r4 then (
   some 0)
  else
  some (-1))
 else
 if r4 then (
  some 1)
 else
 if x_0 < y_1 then (
  some (-1))
 else
 if y_1 < x_0 then (
  some 1)
 else
 some 0
noncomputable def m88 (a_0 : Erratum) (b_1 : Erratum) : Option (Int) :=
 (m130 a_0.day b_1.day).bind fun r7 =>
 (m130 a_0.number b_1.number).bind fun r11 =>
 (m129 ([r7, r11] : List Int)).bind fun r19 =>
 some r19
noncomputable def m85_1 (t8 : List Erratum) (l22 : List Erratum) (f1_ : Int) (yield : Erratum → Option Bool) (s51 : Nat) : Option ((Nat) ⊕ ((Unit) ⊕ Unit)) :=
 if (s51 : Int) < (t8.length : Int) then (
  (l22[s51]?).bind fun x77 =>
  ((
   if f1_ < x77.day then (
    some true)
   else
   (yield x77).bind fun r96 =>
   some (!r96)
  ) : Option (Bool)).bind fun t90 =>
  if t90 then (
   some (.inr (.inr ())))
  else
  some (.inl (s51 + 1)))
 else
 some (.inr (.inl ()))
noncomputable def m85 (yield : Erratum → Option Bool) (f0_ : List Erratum) (f1_ : Int) : Option (Unit) :=
 ((
  chk (([] : List Erratum).length + f0_.length ≤ 1073741824) <|
  some (([] : List Erratum) ++ f0_)
 ) : Option (List Erratum)).bind fun t8 =>
 (sortO (m88) t8).bind fun l22 =>
 (loopO (m85_1 t8 l22 f1_ yield) 0).bind fun e47 => match e47 with
 | .inr z => some z
 | .inl t50 =>
 some ()
noncomputable def m54_1 (r10 : List Paragraph) (s50 : Nat × (List (Int × Bool))) : Option ((Nat × (List (Int × Bool))) ⊕ ((List (Int × Bool)))) :=
 if (s50.1 : Int) < (r10.length : Int) then (
  (r10[s50.1]?).bind fun x70 =>
  some (.inl ((s50.1 + 1), (put s50.2 x70.anchor true))))
 else
 some (.inr s50.2)
noncomputable def m54_2 (t273 : List Erratum) (l287 : List Erratum) (s353 : Nat × (List (Int × Bool))) : Option ((Nat × (List (Int × Bool))) ⊕ (((List (Int × Bool))) ⊕ (((List (Int × Bool))) ⊕ (Nat × (List (Int × Bool)))))) :=
 if (s353.1 : Int) < (t273.length : Int) then (
  (l287[s353.1]?).bind fun x387 =>
  if 99999 < x387.day then (
   some (.inr (.inr (.inl s353.2))))
  else
  ((
   if (lkp s353.2 x387.anchor).getD false then (
    ((
     if x387.kind = 2 then (
      some (put s353.2 x387.new_ true))
     else
     some s353.2
    ) : Option ((List (Int × Bool)))).bind fun t449 =>
    some (.inr t449))
   else
   some (.inl 7)
  ) : Option ((Nat) ⊕ ((List (Int × Bool))))).bind fun t425 => match t425 with
  | .inl t428 => (
   some (.inr (.inr (.inr (t428, s353.2)))))
  | .inr t429 => (
   some (.inl ((s353.1 + 1), t429))))
 else
 some (.inr (.inl s353.2))
noncomputable def m54 (v_0 : Volume) (errata : List Erratum) : Option (Int) :=
 (m53 v_0).bind fun r10 =>
 (loopO (m54_1 r10) (0, ([] : List (Int × Bool)))).bind fun e47 =>
 ((
  ((
   chk (([] : List Erratum).length + errata.length ≤ 1073741824) <|
   some (([] : List Erratum) ++ errata)
  ) : Option (List Erratum)).bind fun t273 =>
  (sortO (m88) t273).bind fun l287 =>
  (loopO (m54_2 t273 l287) (0, e47)).bind fun e349 => match e349 with
  | .inr z => some z
  | .inl t352 =>
  some (.inl t352)
 ) : Option (((List (Int × Bool))) ⊕ (Nat × (List (Int × Bool))))).bind fun t261 => match t261 with
 | .inl t264 => (
  some 0)
 | .inr t265 => (
  some (t265.1 : Int))
noncomputable def m33_1 (r51 : List Paragraph) (s91 : Nat × (List (Int × Bool))) : Option ((Nat × (List (Int × Bool))) ⊕ ((List (Int × Bool)))) :=
 if (s91.1 : Int) < (r51.length : Int) then (
  (r51[s91.1]?).bind fun x111 =>
  some (.inl ((s91.1 + 1), (put s91.2 x111.anchor true))))
 else
 some (.inr s91.2)
noncomputable def m33_2 (errata : List Erratum) (s185 : Nat × (List (Int × Bool)) × (List (Int × Bool))) : Option ((Nat × (List (Int × Bool)) × (List (Int × Bool))) ⊕ (((List (Int × Bool)) × (List (Int × Bool))) ⊕ Int)) :=
 if (s185.1 : Int) < (errata.length : Int) then (
  (errata[s185.1]?).bind fun x219 =>
  ((
   if (lkp s185.2.1 x219.number).getD false then (
    some true)
   else
   if x219.kind = 2 then (
    some ((lkp s185.2.2 x219.new_).getD false))
   else
   some false
  ) : Option (Bool)).bind fun t236 =>
  if t236 then (
   some (.inr (.inr 6)))
  else
  ((
   if x219.kind = 2 then (
    some (put s185.2.2 x219.new_ true))
   else
   some s185.2.2
  ) : Option ((List (Int × Bool)))).bind fun t254 =>
  some (.inl ((s185.1 + 1), (put s185.2.1 x219.number true), t254)))
 else
 some (.inr (.inl (s185.2.1, s185.2.2)))
noncomputable def m33 (v_0 : Volume) (errata : List Erratum) : Option (Int) :=
 (m50 v_0).bind fun r7 =>
 if r7 ≠ 0 then (
  some r7)
 else
 if 20 < (errata.length : Int) then (
  some 3)
 else
 (m51 errata (m52)).bind fun r40 =>
 if r40 then (
  (m53 v_0).bind fun r51 =>
  (loopO (m33_1 r51) (0, ([] : List (Int × Bool)))).bind fun e88 =>
  (loopO (m33_2 errata) (0, ([] : List (Int × Bool)), e88)).bind fun e181 => match e181 with
  | .inr z => some z
  | .inl t184 =>
  (m54 v_0 errata).bind fun r261 =>
  some r261)
 else
 some 1
noncomputable def m56_2 (x81 : List entry) (anchor : Int) (s43 : Nat × Nat × Nat × Bool) (s113 : Nat × Nat × Nat × Bool) : Option ((Nat × Nat × Nat × Bool) ⊕ ((Nat × Nat × Bool) ⊕ ((Nat × Nat × Nat × Bool) ⊕ (Nat × Nat × Bool)))) :=
 if (s113.2.2.1 : Int) < (x81.length : Int) then (
  (x81[s113.2.2.1]?).bind fun x134 =>
  if x134.paragraph.anchor = anchor then (
   Option.map (fun z => .inr (.inr z)) (
   some (.inr (s43.2.2.1, s113.2.2.1, true))))
  else
  some (.inl (s113.1, s113.2.1, (s113.2.2.1 + 1), s113.2.2.2)))
 else
 some (.inr (.inl (s113.1, s113.2.1, s113.2.2.2)))
noncomputable def m56_1 (b_0 : edition) (anchor : Int) (s43 : Nat × Nat × Nat × Bool) : Option ((Nat × Nat × Nat × Bool) ⊕ (Nat × Nat × Bool)) :=
 if (s43.2.2.1 : Int) < (b_0.parts.length : Int) then (
  (b_0.parts[s43.2.2.1]?).bind fun x81 =>
  (loopO (m56_2 x81 anchor s43) (s43.1, s43.2.1, 0, s43.2.2.2)).bind fun e109 => match e109 with
  | .inr z => some z
  | .inl t112 =>
  some (.inl (t112.1, t112.2.1, (s43.2.2.1 + 1), t112.2.2)))
 else
 some (.inr (s43.1, s43.2.1, s43.2.2.2))
noncomputable def m56 (b_0 : edition) (anchor : Int) : Option (Int × Int × Bool) :=
 (loopO (m56_1 b_0 anchor) (0, 0, 0, false)).bind fun e40 =>
 some ((e40.1 : Int), (e40.2.1 : Int), e40.2.2)
noncomputable def m57  : Option (Unit) :=
 some ()
noncomputable def m35_2 (x559 : Part) (s645 : Nat × List entry) : Option ((Nat × List entry) ⊕ (List entry)) :=
 if (s645.1 : Int) < (x559.paragraphs.length : Int) then (
  (x559.paragraphs[s645.1]?).bind fun x672 =>
  chk (s645.2.length + 1 ≤ 1073741824) <|
  some (.inl ((s645.1 + 1), (s645.2 ++ [(⟨x672, false⟩ : entry)]))))
 else
 some (.inr s645.2)
noncomputable def m35_1 (v_0 : Volume) (s446 : Nat × List (List entry)) : Option ((Nat × List (List entry)) ⊕ (List (List entry))) :=
 if (s446.1 : Int) < (v_0.parts.length : Int) then (
  (v_0.parts[s446.1]?).bind fun x559 =>
  (loopO (m35_2 x559) (0, ([] : List entry))).bind fun e640 =>
  chk (s446.2.length + 1 ≤ 1073741824) <|
  some (.inl ((s446.1 + 1), (s446.2 ++ [e640]))))
 else
 some (.inr s446.2)
noncomputable def m35_5 (x3142 : List entry) (x2432 : Erratum) (s3110 : Nat × Nat × Nat × Bool) (s3168 : Nat × Nat × Nat × Bool) : Option ((Nat × Nat × Nat × Bool) ⊕ ((Nat × Nat × Bool) ⊕ ((Nat × Nat × Nat × Bool) ⊕ (Nat × Nat × Bool)))) :=
 if (s3168.2.2.1 : Int) < (x3142.length : Int) then (
  (x3142[s3168.2.2.1]?).bind fun x3185 =>
  if x3185.paragraph.anchor = x2432.anchor then (
   Option.map (fun z => .inr (.inr z)) (
   some (.inr (s3110.2.2.1, s3168.2.2.1, true))))
  else
  chk (-9223372036854775808 ≤ ((s3168.2.2.1 : Int) + 1) ∧ ((s3168.2.2.1 : Int) + 1) ≤ 9223372036854775807) <|
  some (.inl (s3168.1, s3168.2.1, (s3168.2.2.1 + 1), s3168.2.2.2)))
 else
 some (.inr (.inl (s3168.1, s3168.2.1, s3168.2.2.2)))
noncomputable def m35_4 (s2201 : Nat × List (List entry)) (x2432 : Erratum) (s3110 : Nat × Nat × Nat × Bool) : Option ((Nat × Nat × Nat × Bool) ⊕ (Nat × Nat × Bool)) :=
 if (s3110.2.2.1 : Int) < (s2201.2.length : Int) then (
  (s2201.2[s3110.2.2.1]?).bind fun x3142 =>
  (loopO (m35_5 x3142 x2432 s3110) (s3110.1, s3110.2.1, 0, s3110.2.2.2)).bind fun e3164 => match e3164 with
  | .inr z => some z
  | .inl t3167 =>
  chk (-9223372036854775808 ≤ ((s3110.2.2.1 : Int) + 1) ∧ ((s3110.2.2.1 : Int) + 1) ≤ 9223372036854775807) <|
  some (.inl (t3167.1, t3167.2.1, (s3110.2.2.1 + 1), t3167.2.2)))
 else
 some (.inr (s3110.1, s3110.2.1, s3110.2.2.2))
noncomputable def m35_3 (t1715 : List Erratum) (l1729 : List Erratum) (to_2 : Int) (s2201 : Nat × List (List entry)) : Option ((Nat × List (List entry)) ⊕ ((List (List entry)) ⊕ (List (List entry)))) :=
 if (s2201.1 : Int) < (t1715.length : Int) then (
  (l1729[s2201.1]?).bind fun x2432 =>
  ((
   if to_2 < x2432.day then (
    some (true, s2201.2))
   else
   ((
    ((
     (loopO (m35_4 s2201 x2432) (0, 0, 0, false)).bind fun e3107 =>
     some (e3107.2.1, e3107.1, e3107.2.2)
    ) : Option (Nat × Nat × Bool)).bind fun t3075 =>
    ((
     if t3075.2.2 then (
      (m57).bind fun r3365 =>
      chk (0 ≤ x2432.kind) <|
      if x2432.kind = 0 then (
       ((
        (s2201.2[t3075.2.1]?).bind fun x3419 =>
        (x3419[t3075.1]?).bind fun x3427 =>
        ((
         if x3427.removed then (
          some s2201.2)
         else
         some (s2201.2.set t3075.2.1 (x3419.set t3075.1 (⟨(⟨x3427.paragraph.anchor, x2432.text⟩ : Paragraph), x3427.removed⟩ : entry)))
        ) : Option (List (List entry))).bind fun t3435 =>
        some t3435
       ) : Option (List (List entry))).bind fun t3409 =>
       some t3409)
      else
      if x2432.kind = 1 then (
       ((
        (s2201.2[t3075.2.1]?).bind fun x3488 =>
        (x3488[t3075.1]?).bind fun x3496 =>
        some (s2201.2.set t3075.2.1 (x3488.set t3075.1 (⟨x3496.paragraph, true⟩ : entry)))
       ) : Option (List (List entry))).bind fun t3478 =>
       some t3478)
      else
      if x2432.kind = 2 then (
       ((
        (s2201.2[t3075.2.1]?).bind fun x3557 =>
        chk (-9223372036854775808 ≤ ((t3075.1 : Int) + 1) ∧ ((t3075.1 : Int) + 1) ≤ 9223372036854775807) <|
        chk (x3557.length + 1 ≤ 1073741824) <|
        chk (((t3075.1 : Int) + 1).toNat ≤ x3557.length) <|
        some (s2201.2.set t3075.2.1 (x3557.take (((t3075.1 : Int) + 1).toNat) ++ [(⟨(⟨x2432.new_, x2432.text⟩ : Paragraph), false⟩ : entry)] ++ x3557.drop (((t3075.1 : Int) + 1).toNat)))
       ) : Option (List (List entry))).bind fun t3547 =>
       some t3547)
      else
      none)
     else
     some s2201.2
    ) : Option (List (List entry))).bind fun t3356 =>
    some t3356
   ) : Option (List (List entry))).bind fun t2845 =>
   some (false, t2845)
  ) : Option (Bool × List (List entry))).bind fun t2642 =>
  if t2642.1 then (
   some (.inr (.inr t2642.2)))
  else
  some (.inl ((s2201.1 + 1), t2642.2)))
 else
 some (.inr (.inl s2201.2))
noncomputable def m35 (v_0 : Volume) (errata : List Erratum) (to_2 : Int) : Option (edition) :=
 (loopO (m35_1 v_0) (0, ([] : List (List entry)))).bind fun e437 =>
 ((
  ((
   chk (([] : List Erratum).length + errata.length ≤ 1073741824) <|
   some (([] : List Erratum) ++ errata)
  ) : Option (List Erratum)).bind fun t1715 =>
  (sortO (m88) t1715).bind fun l1729 =>
  (loopO (m35_3 t1715 l1729 to_2) (0, e437)).bind fun e2193 => match e2193 with
  | .inr z => some z
  | .inl t2196 =>
  some t2196
 ) : Option (List (List entry))).bind fun t1701 =>
 some (⟨v_0, t1701⟩ : edition)
noncomputable def m39_2 (x994 : List entry) (v_0 : Volume) (s763 : Nat × Int × List printed) (s1208 : Nat × Nat × Int × List printed) : Option ((Nat × Nat × Int × List printed) ⊕ (Int × List printed)) :=
 if (s1208.2.1 : Int) < (x994.length : Int) then (
  ((
   (x994[s1208.2.1]?).bind fun x1281 =>
   if x1281.removed then (
    some (s1208.1, s1208.2.2.1, s1208.2.2.2))
   else
   chk (-9223372036854775808 ≤ ((s1208.1 : Int) + 1) ∧ ((s1208.1 : Int) + 1) ≤ 9223372036854775807) <|
   chk (-9223372036854775808 ≤ ((x1281.paragraph.text.length : Int) + v_0.width) ∧ ((x1281.paragraph.text.length : Int) + v_0.width) ≤ 9223372036854775807) <|
   chk (-9223372036854775808 ≤ (((x1281.paragraph.text.length : Int) + v_0.width) - 1) ∧ (((x1281.paragraph.text.length : Int) + v_0.width) - 1) ≤ 9223372036854775807) <|
   chk (0 ≤ (((x1281.paragraph.text.length : Int) + v_0.width) - 1) ∧ (((x1281.paragraph.text.length : Int) + v_0.width) - 1) ≤ 9223372036854775807 ∧ 0 < v_0.width) <|
   chk (0 ≤ s1208.2.2.1 ∧ s1208.2.2.1 ≤ 9223372036854775807 ∧ 0 < v_0.height) <|
   chk (-9223372036854775808 ≤ (s763.2.1 + (s1208.2.2.1 / v_0.height)) ∧ (s763.2.1 + (s1208.2.2.1 / v_0.height)) ≤ 9223372036854775807) <|
   chk (0 ≤ s1208.2.2.1 ∧ 0 < v_0.height) <|
   chk (-9223372036854775808 ≤ ((s1208.2.2.1 % v_0.height) + 1) ∧ ((s1208.2.2.1 % v_0.height) + 1) ≤ 9223372036854775807) <|
   (v_0.parts[s763.1]?).bind fun x1314 =>
   chk (s1208.2.2.2.length + ([(⟨(⟨x1281.paragraph.anchor, (s763.2.1 + (s1208.2.2.1 / v_0.height)), ((s1208.2.2.1 % v_0.height) + 1), ((((x1281.paragraph.text.length : Int) + v_0.width) - 1) / v_0.width)⟩ : Place), x1314.day, ((s1208.1 : Int) + 1)⟩ : printed)] : List printed).length ≤ 1073741824) <|
   chk (-9223372036854775808 ≤ (s1208.2.2.1 + ((((x1281.paragraph.text.length : Int) + v_0.width) - 1) / v_0.width)) ∧ (s1208.2.2.1 + ((((x1281.paragraph.text.length : Int) + v_0.width) - 1) / v_0.width)) ≤ 9223372036854775807) <|
   some ((s1208.1 + 1), (s1208.2.2.1 + ((((x1281.paragraph.text.length : Int) + v_0.width) - 1) / v_0.width)), (s1208.2.2.2 ++ ([(⟨(⟨x1281.paragraph.anchor, (s763.2.1 + (s1208.2.2.1 / v_0.height)), ((s1208.2.2.1 % v_0.height) + 1), ((((x1281.paragraph.text.length : Int) + v_0.width) - 1) / v_0.width)⟩ : Place), x1314.day, ((s1208.1 : Int) + 1)⟩ : printed)] : List printed)))
  ) : Option (Nat × Int × List printed)).bind fun t1276 =>
  some (.inl (t1276.1, (s1208.2.1 + 1), t1276.2.1, t1276.2.2)))
 else
 some (.inr (s1208.2.2.1, s1208.2.2.2))
noncomputable def m39_1 (r7 : edition) (v_0 : Volume) (s763 : Nat × Int × List printed) : Option ((Nat × Int × List printed) ⊕ (List printed)) :=
 if (s763.1 : Int) < (r7.parts.length : Int) then (
  (r7.parts[s763.1]?).bind fun x994 =>
  (loopO (m39_2 x994 v_0 s763) (0, 0, 0, s763.2.2)).bind fun e1203 =>
  chk (-9223372036854775808 ≤ (e1203.1 + v_0.height) ∧ (e1203.1 + v_0.height) ≤ 9223372036854775807) <|
  chk (-9223372036854775808 ≤ ((e1203.1 + v_0.height) - 1) ∧ ((e1203.1 + v_0.height) - 1) ≤ 9223372036854775807) <|
  chk (0 ≤ ((e1203.1 + v_0.height) - 1) ∧ ((e1203.1 + v_0.height) - 1) ≤ 9223372036854775807 ∧ 0 < v_0.height) <|
  chk (-9223372036854775808 ≤ (s763.2.1 + (((e1203.1 + v_0.height) - 1) / v_0.height)) ∧ (s763.2.1 + (((e1203.1 + v_0.height) - 1) / v_0.height)) ≤ 9223372036854775807) <|
  some (.inl ((s763.1 + 1), (s763.2.1 + (((e1203.1 + v_0.height) - 1) / v_0.height)), e1203.2)))
 else
 some (.inr s763.2.2)
noncomputable def m39 (v_0 : Volume) (errata : List Erratum) : Option (List printed) :=
 (m35 v_0 errata v_0.bound).bind fun r7 =>
 (loopO (m39_1 r7 v_0) (0, 1, ([] : List printed))).bind fun e758 =>
 some e758
noncomputable def m22_1 (r16 : List printed) (s94 : Nat × List Place) : Option ((Nat × List Place) ⊕ (List Place)) :=
 if (s94.1 : Int) < (r16.length : Int) then (
  (r16[s94.1]?).bind fun x121 =>
  chk (s94.2.length + 1 ≤ 1073741824) <|
  some (.inl ((s94.1 + 1), (s94.2 ++ [x121.place]))))
 else
 some (.inr s94.2)
noncomputable def m22 (v_0 : Volume) (errata : List Erratum) : Option (List Place × Int) :=
 (m33 v_0 errata).bind fun r7 =>
 if r7 ≠ 0 then (
  some (([] : List Place), r7))
 else
 (m39 v_0 errata).bind fun r16 =>
 (loopO (m22_1 r16) (0, ([] : List Place))).bind fun e89 =>
 some (e89, 0)
noncomputable def m23F : Nat → Int → Option (Bytes)
 | 0, _ => none
 | n_ + 1, n_0 =>
 if n_0 < 10 then (
  chk (0 ≤ n_0 ∧ 0 < (10 : Int)) <|
  chk (0 ≤ (48 + (n_0 % 10)) ∧ (48 + (n_0 % 10)) ≤ 255) <|
  some ([(UInt8.ofNat (48 + (n_0 % 10)).toNat)] : List UInt8))
 else
 chk (0 ≤ n_0 ∧ n_0 ≤ 9223372036854775807 ∧ 0 < (10 : Int)) <|
 (m23F n_ (n_0 / 10)).bind fun r27 =>
 chk (0 ≤ n_0 ∧ 0 < (10 : Int)) <|
 (m23F n_ (n_0 % 10)).bind fun r32 =>
 chk (r27.length + r32.length ≤ 1073741824) <|
 some (r27 ++ r32)
noncomputable def m23 (n_0 : Int) : Option (Bytes) := recO (fun n_ => m23F n_ n_0)
noncomputable def m49 (p_0 : IPlace) (c_1 : A2_Int) : Option (Bool) :=
 ((
  if p_0.volume = c_1.e0 then (
   (m48 c_1.e1 p_0.from_ p_0.to_).bind fun r18 =>
   some r18)
  else
  some false
 ) : Option (Bool)).bind fun t13 =>
 some t13
noncomputable def m24_2 (x337 : Heading) (volume : Int) (number : Int) (s273 : Nat × List Bytes) (s388 : Nat) : Option ((Nat) ⊕ ((Unit) ⊕ (List Bytes))) :=
 if (s388 : Int) < (x337.places.length : Int) then (
  (x337.places[s388]?).bind fun x419 =>
  (m49 x419 (⟨volume, number⟩ : A2_Int)).bind fun r430 =>
  if r430 then (
   chk (s273.2.length + 1 ≤ 1073741824) <|
   Option.map (fun z => .inr (.inr z)) (
   some (s273.2 ++ [x337.name])))
  else
  some (.inl (s388 + 1)))
 else
 some (.inr (.inl ()))
noncomputable def m24_1 (l_0 : List Heading) (volume : Int) (number : Int) (s273 : Nat × List Bytes) : Option ((Nat × List Bytes) ⊕ (List Bytes)) :=
 if (s273.1 : Int) < (l_0.length : Int) then (
  ((
   (l_0[s273.1]?).bind fun x337 =>
   (loopO (m24_2 x337 volume number s273) 0).bind fun e384 => match e384 with
   | .inr z => some z
   | .inl t387 =>
   some s273.2
  ) : Option (List Bytes)).bind fun t332 =>
  some (.inl ((s273.1 + 1), t332)))
 else
 some (.inr s273.2)
noncomputable def m24 (l_0 : List Heading) (volume : Int) (number : Int) : Option (List Bytes × Int) :=
 (m47 l_0).bind fun r1 =>
 if r1.2 ≠ 0 then (
  some (([] : List Bytes), r1.2))
 else
 ((
  (m48 volume 1 999).bind fun r25 =>
  if r25 then (
   (m48 number 1 9999).bind fun r30 =>
   some (!r30))
  else
  some true
 ) : Option (Bool)).bind fun t22 =>
 if t22 then (
  some (([] : List Bytes), 2))
 else
 (loopO (m24_1 l_0 volume number) (0, ([] : List Bytes))).bind fun e268 =>
 some (e268, 0)
noncomputable def m68 (cite : Bytes) : Option (cited ⊕ Unit) :=
 (m105 cite [118, 111, 108, 46, 32]).bind fun r6 =>
 ((
  if r6.2 then (
   (m106 cite [99, 111, 108, 46, 32]).bind fun r658 =>
   ((
    if r658 then (
     ((
      (m103 r6.1 [44, 32, 99, 111, 108, 46, 32]).bind fun r882 =>
      if r882.2.2 then (
       (m104 r882.1).bind fun r891 =>
       ((
        if r891.2 then (
         some true)
        else
        (m59 r891.1).bind fun r915 =>
        if r915 ≠ r882.1 then (
         some true)
        else
        (m44 r891.1 0 999999).bind fun r921 =>
        some (!r921)
       ) : Option (Bool)).bind fun t909 =>
       if t909 then (
        some (.inr (.inr (.inr (.inr ())))))
       else
       some (.inl (r891.1, r882.2.1)))
      else
      some (.inr (.inr (.inr (.inr ()))))
     ) : Option ((Int × Bytes) ⊕ ((Int × Int × Int × Int × Bytes) ⊕ ((Int × Int × Int × Int × Bytes) ⊕ (cited ⊕ Unit))))).bind fun t878 => match t878 with
     | .inr z => some z
     | .inl t881 =>
     ((
      (m103 t881.2 [44, 32, 108, 46, 32]).bind fun r962 =>
      if r962.2.2 then (
       (m104 r962.1).bind fun r971 =>
       ((
        if r971.2 then (
         some true)
        else
        (m59 r971.1).bind fun r995 =>
        if r995 ≠ r962.1 then (
         some true)
        else
        (m44 r971.1 0 999999).bind fun r1001 =>
        some (!r1001)
       ) : Option (Bool)).bind fun t989 =>
       if t989 then (
        some (.inr (.inr (.inr (.inr ())))))
       else
       some (.inl (r971.1, r962.2.1)))
      else
      some (.inr (.inr (.inr (.inr ()))))
     ) : Option ((Int × Bytes) ⊕ ((Int × Int × Int × Int × Bytes) ⊕ ((Int × Int × Int × Int × Bytes) ⊕ (cited ⊕ Unit))))).bind fun t958 => match t958 with
     | .inr z => some z
     | .inl t961 =>
     ((
      (m104 t961.2).bind fun r1036 =>
      ((
       if r1036.2 then (
        some true)
       else
       (m59 r1036.1).bind fun r1060 =>
       if r1060 ≠ t961.2 then (
        some true)
       else
       (m44 r1036.1 0 999999).bind fun r1066 =>
       some (!r1066)
      ) : Option (Bool)).bind fun t1054 =>
      if t1054 then (
       some (.inr (.inr (.inr (.inr ())))))
      else
      some (.inl r1036.1)
     ) : Option ((Int) ⊕ ((Int × Int × Int × Int × Bytes) ⊕ ((Int × Int × Int × Int × Bytes) ⊕ (cited ⊕ Unit))))).bind fun t1032 => match t1032 with
     | .inr z => some z
     | .inl t1035 =>
     some (.inl (0, t881.1, t961.1, t1035, t961.2)))
    else
    ((
     (m103 r6.1 [44, 32]).bind fun r1108 =>
     if r1108.2.2 then (
      (m104 r1108.1).bind fun r1117 =>
      ((
       if r1117.2 then (
        some true)
       else
       (m59 r1117.1).bind fun r1141 =>
       if r1141 ≠ r1108.1 then (
        some true)
       else
       (m44 r1117.1 0 999999).bind fun r1147 =>
       some (!r1147)
      ) : Option (Bool)).bind fun t1135 =>
      if t1135 then (
       some (.inr (.inr (.inr (.inr ())))))
      else
      some (.inl (r1117.1, r1108.2.1)))
     else
     some (.inr (.inr (.inr (.inr ()))))
    ) : Option ((Int × Bytes) ⊕ ((Int × Int × Int × Int × Bytes) ⊕ ((Int × Int × Int × Int × Bytes) ⊕ (cited ⊕ Unit))))).bind fun t1104 => match t1104 with
    | .inr z => some z
    | .inl t1107 =>
    ((
     (m103 t1107.2 [44, 32, 112, 97, 114, 46, 32]).bind fun r1188 =>
     if r1188.2.2 then (
      (m104 r1188.1).bind fun r1197 =>
      ((
       if r1197.2 then (
        some true)
       else
       (m59 r1197.1).bind fun r1221 =>
       if r1221 ≠ r1188.1 then (
        some true)
       else
       (m44 r1197.1 0 999999).bind fun r1227 =>
       some (!r1227)
      ) : Option (Bool)).bind fun t1215 =>
      if t1215 then (
       some (.inr (.inr (.inr (.inr ())))))
      else
      some (.inl (r1197.1, r1188.2.1)))
     else
     some (.inr (.inr (.inr (.inr ()))))
    ) : Option ((Int × Bytes) ⊕ ((Int × Int × Int × Int × Bytes) ⊕ ((Int × Int × Int × Int × Bytes) ⊕ (cited ⊕ Unit))))).bind fun t1184 => match t1184 with
    | .inr z => some z
    | .inl t1187 =>
    ((
     (m104 t1187.2).bind fun r1262 =>
     ((
      if r1262.2 then (
       some true)
      else
      (m59 r1262.1).bind fun r1286 =>
      if r1286 ≠ t1187.2 then (
       some true)
      else
      (m44 r1262.1 0 999999).bind fun r1292 =>
      some (!r1292)
     ) : Option (Bool)).bind fun t1280 =>
     if t1280 then (
      some (.inr (.inr (.inr (.inr ())))))
     else
     some (.inl r1262.1)
    ) : Option ((Int) ⊕ ((Int × Int × Int × Int × Bytes) ⊕ ((Int × Int × Int × Int × Bytes) ⊕ (cited ⊕ Unit))))).bind fun t1258 => match t1258 with
    | .inr z => some z
    | .inl t1261 =>
    some (.inl (1, t1107.1, t1187.1, t1261, t1187.2))
   ) : Option ((Int × Int × Int × Int × Bytes) ⊕ ((Int × Int × Int × Int × Bytes) ⊕ (cited ⊕ Unit)))).bind fun t844 => match t844 with
   | .inr z => some z
   | .inl t847 =>
   some (.inl (t847.1, t847.2.1, t847.2.2.1, t847.2.2.2.1, t847.2.2.2.2)))
  else
  ((
   (m103 cite [64]).bind fun r544 =>
   if r544.2.2 then (
    (m104 r544.1).bind fun r553 =>
    ((
     if r553.2 then (
      some true)
     else
     (m59 r553.1).bind fun r577 =>
     if r577 ≠ r544.1 then (
      some true)
     else
     (m44 r553.1 0 999999).bind fun r583 =>
     some (!r583)
    ) : Option (Bool)).bind fun t571 =>
    if t571 then (
     some (.inr (.inr (.inr ()))))
    else
    some (.inl (r553.1, r544.2.1)))
   else
   some (.inr (.inr (.inr ())))
  ) : Option ((Int × Bytes) ⊕ ((Int × Int × Int × Int × Bytes) ⊕ (cited ⊕ Unit)))).bind fun t540 => match t540 with
  | .inr z => some z
  | .inl t543 =>
  ((
   (m104 t543.2).bind fun r618 =>
   ((
    if r618.2 then (
     some true)
    else
    (m59 r618.1).bind fun r642 =>
    if r642 ≠ t543.2 then (
     some true)
    else
    (m44 r618.1 0 999999).bind fun r648 =>
    some (!r648)
   ) : Option (Bool)).bind fun t636 =>
   if t636 then (
    some (.inr (.inr (.inr ()))))
   else
   some (.inl r618.1)
  ) : Option ((Int) ⊕ ((Int × Int × Int × Int × Bytes) ⊕ (cited ⊕ Unit)))).bind fun t614 => match t614 with
  | .inr z => some z
  | .inl t617 =>
  some (.inl (2, t543.1, t617, 0, t543.2))
 ) : Option ((Int × Int × Int × Int × Bytes) ⊕ (cited ⊕ Unit))).bind fun t506 => match t506 with
 | .inr z => some z
 | .inl t509 =>
 ((
  if t509.1 ≠ 0 then (
   (m34 t509.2.2.1).bind fun r1312 =>
   some (!r1312))
  else
  some false
 ) : Option (Bool)).bind fun t1307 =>
 if t1307 then (
  some (.inr ()))
 else
 some (.inl (⟨t509.1, (⟨t509.2.1, t509.2.2.1, t509.2.2.2.1⟩ : A3_Int)⟩ : cited))
noncomputable def m43 (s : Bytes) : Option (cited × Bool) := (m68 s).map fun o => match o with
 | .inl c => (c, true)
 | .inr _ => (⟨0, ⟨0, 0, 0⟩⟩, false)
noncomputable def m37_2 (x151 : List entry) (anchor : Int) (s113 : Nat × Nat × Nat × Bool) (s183 : Nat × Nat × Nat × Bool) : Option ((Nat × Nat × Nat × Bool) ⊕ ((Nat × Nat × Bool) ⊕ ((Nat × Nat × Nat × Bool) ⊕ (Nat × Nat × Bool)))) :=
 if (s183.2.2.1 : Int) < (x151.length : Int) then (
  (x151[s183.2.2.1]?).bind fun x204 =>
  if x204.paragraph.anchor = anchor then (
   Option.map (fun z => .inr (.inr z)) (
   some (.inr (s113.2.2.1, s183.2.2.1, true))))
  else
  some (.inl (s183.1, s183.2.1, (s183.2.2.1 + 1), s183.2.2.2)))
 else
 some (.inr (.inl (s183.1, s183.2.1, s183.2.2.2)))
noncomputable def m37_1 (r25 : edition) (anchor : Int) (s113 : Nat × Nat × Nat × Bool) : Option ((Nat × Nat × Nat × Bool) ⊕ (Nat × Nat × Bool)) :=
 if (s113.2.2.1 : Int) < (r25.parts.length : Int) then (
  (r25.parts[s113.2.2.1]?).bind fun x151 =>
  (loopO (m37_2 x151 anchor s113) (s113.1, s113.2.1, 0, s113.2.2.2)).bind fun e179 => match e179 with
  | .inr z => some z
  | .inl t182 =>
  some (.inl (t182.1, t182.2.1, (s113.2.2.1 + 1), t182.2.2)))
 else
 some (.inr (s113.1, s113.2.1, s113.2.2.2))
noncomputable def m37 (v_0 : Volume) (errata : List Erratum) (anchor : Int) (to_3 : Int) : Option (Bytes × Bool × Int) :=
 (m33 v_0 errata).bind fun r7 =>
 if r7 ≠ 0 then (
  some ([], false, r7))
 else
 (m34 to_3).bind fun r16 =>
 if r16 then (
  (m35 v_0 errata to_3).bind fun r25 =>
  ((
   (loopO (m37_1 r25 anchor) (0, 0, 0, false)).bind fun e110 =>
   some (e110.2.1, e110.1, e110.2.2)
  ) : Option (Nat × Nat × Bool)).bind fun t74 =>
  if t74.2.2 then (
   (r25.parts[t74.2.1]?).bind fun x229 =>
   (x229[t74.1]?).bind fun x241 =>
   some (x241.paragraph.text, x241.removed, 0))
  else
  some ([], false, 7))
 else
 some ([], false, 2)
noncomputable def m19_1 (r54 : List printed) (r16 : cited × Bool) (v_0 : Volume) (s116 : Nat) : Option ((Nat) ⊕ ((Unit) ⊕ (Int × Int × Int))) :=
 if (s116 : Int) < (r54.length : Int) then (
  (r54[s116]?).bind fun x172 =>
  chk (-9223372036854775808 ≤ (r16.1.numbers.e1 - x172.place.column) ∧ (r16.1.numbers.e1 - x172.place.column) ≤ 9223372036854775807) <|
  chk (-9223372036854775808 ≤ ((r16.1.numbers.e1 - x172.place.column) * v_0.height) ∧ ((r16.1.numbers.e1 - x172.place.column) * v_0.height) ≤ 9223372036854775807) <|
  chk (-9223372036854775808 ≤ (((r16.1.numbers.e1 - x172.place.column) * v_0.height) + r16.1.numbers.e2) ∧ (((r16.1.numbers.e1 - x172.place.column) * v_0.height) + r16.1.numbers.e2) ≤ 9223372036854775807) <|
  chk (-9223372036854775808 ≤ ((((r16.1.numbers.e1 - x172.place.column) * v_0.height) + r16.1.numbers.e2) - x172.place.line) ∧ ((((r16.1.numbers.e1 - x172.place.column) * v_0.height) + r16.1.numbers.e2) - x172.place.line) ≤ 9223372036854775807) <|
  ((
   if x172.day = r16.1.numbers.e1 then (
    some (decide (x172.number = r16.1.numbers.e2)))
   else
   some false
  ) : Option (Bool)).bind fun t194 =>
  ((
   if r16.1.style = 0 then (
    ((
     (m44 r16.1.numbers.e2 1 v_0.height).bind fun r234 =>
     if r234 then (
      chk (-9223372036854775808 ≤ (x172.place.lines - 1) ∧ (x172.place.lines - 1) ≤ 9223372036854775807) <|
      (m44 ((((r16.1.numbers.e1 - x172.place.column) * v_0.height) + r16.1.numbers.e2) - x172.place.line) 0 (x172.place.lines - 1)).bind fun r241 =>
      some r241)
     else
     some false
    ) : Option (Bool)).bind fun t231 =>
    some t231)
   else
   some t194
  ) : Option (Bool)).bind fun t215 =>
  ((
   if t215 then (
    some (decide (r16.1.numbers.e0 = v_0.number)))
   else
   some false
  ) : Option (Bool)).bind fun t249 =>
  if t249 then (
   some (.inr (.inr (x172.place.anchor, v_0.bound, 0))))
  else
  some (.inl (s116 + 1)))
 else
 some (.inr (.inl ()))
noncomputable def m19 (v_0 : Volume) (errata : List Erratum) (cite : Bytes) : Option (Int × Int × Int) :=
 (m33 v_0 errata).bind fun r7 =>
 if r7 ≠ 0 then (
  some (0, 0, r7))
 else
 (m43 cite).bind fun r16 =>
 if r16.2 then (
  if r16.1.style = 2 then (
   (m37 v_0 errata r16.1.numbers.e0 r16.1.numbers.e1).bind fun r43 =>
   if r43.2.2 ≠ 0 then (
    some (0, 0, r43.2.2))
   else
   some (r16.1.numbers.e0, r16.1.numbers.e1, 0))
  else
  (m39 v_0 errata).bind fun r54 =>
  (loopO (m19_1 r54 r16 v_0) 0).bind fun e112 => match e112 with
  | .inr z => some z
  | .inl t115 =>
  some (0, 0, 7))
 else
 some (0, 0, 4)
noncomputable def m25_1 (l_0 : List Bytes) (s_1 : Bytes) (s20 : Nat) : Option ((Nat) ⊕ ((Unit) ⊕ Bool)) :=
 if (s20 : Int) < (l_0.length : Int) then (
  (l_0[s20]?).bind fun x40 =>
  if x40 = s_1 then (
   some (.inr (.inr true)))
  else
  some (.inl (s20 + 1)))
 else
 some (.inr (.inl ()))
noncomputable def m25 (l_0 : List Bytes) (s_1 : Bytes) : Option (Bool) :=
 (loopO (m25_1 l_0 s_1) 0).bind fun e16 => match e16 with
 | .inr z => some z
 | .inl t19 =>
 some false
noncomputable def m4_1  (s117 : Nat × List Bytes) : Option ((Nat × List Bytes) ⊕ (List Bytes)) :=
 if (s117.1 : Int) < 1000 then (
  (m23 (1000 + (s117.1 : Int))).bind fun r136 =>
  chk (1 ≤ r136.length) <|
  (s117.2[s117.1]?).bind fun x141 =>
  some (.inl ((s117.1 + 1), (s117.2.set s117.1 (r136.drop 1)))))
 else
 some (.inr s117.2)
noncomputable def m4_3 (r69 : List Place × Int) (s721 : Nat × List Heading) (e113 : List Bytes) (v_0 : Volume) (column : Int) (s1021 : Nat × List Heading) : Option ((Nat × List Heading) ⊕ (List Heading)) :=
 if (s1021.1 : Int) < (r69.1.length : Int) then (
  (r69.1[s1021.1]?).bind fun x1094 =>
  ((
   if x1094.anchor = (s721.1 : Int) then (
    (e113[s721.1]?).bind fun x1157 =>
    chk (-9223372036854775808 ≤ (x1094.line + x1094.lines) ∧ (x1094.line + x1094.lines) ≤ 9223372036854775807) <|
    chk (-9223372036854775808 ≤ ((x1094.line + x1094.lines) - 2) ∧ ((x1094.line + x1094.lines) - 2) ≤ 9223372036854775807) <|
    chk (0 ≤ ((x1094.line + x1094.lines) - 2) ∧ ((x1094.line + x1094.lines) - 2) ≤ 9223372036854775807 ∧ 0 < v_0.height) <|
    chk (-9223372036854775808 ≤ (x1094.column + (((x1094.line + x1094.lines) - 2) / v_0.height)) ∧ (x1094.column + (((x1094.line + x1094.lines) - 2) / v_0.height)) ≤ 9223372036854775807) <|
    chk (s1021.2.length + ([(⟨x1157, ([] : List Bytes), ([] : List Bytes), ([(⟨v_0.number, x1094.column, (x1094.column + (((x1094.line + x1094.lines) - 2) / v_0.height))⟩ : IPlace)] : List IPlace)⟩ : Heading)] : List Heading).length ≤ 1073741824) <|
    some (s1021.2 ++ ([(⟨x1157, ([] : List Bytes), ([] : List Bytes), ([(⟨v_0.number, x1094.column, (x1094.column + (((x1094.line + x1094.lines) - 2) / v_0.height))⟩ : IPlace)] : List IPlace)⟩ : Heading)] : List Heading)))
   else
   some s1021.2
  ) : Option (List Heading)).bind fun t1147 =>
  some (.inl ((s1021.1 + 1), t1147)))
 else
 some (.inr s1021.2)
noncomputable def m4_2 (r69 : List Place × Int) (e113 : List Bytes) (v_0 : Volume) (column : Int) (s721 : Nat × List Heading) : Option ((Nat × List Heading) ⊕ (List Heading)) :=
 if (s721.1 : Int) < 1000 then (
  (loopO (m4_3 r69 s721 e113 v_0 column) (0, s721.2)).bind fun e1013 =>
  some (.inl ((s721.1 + 1), e1013)))
 else
 some (.inr s721.2)
noncomputable def m4_4 (v_0 : Volume) (column : Int) (r52 : Volume) (r62 : List Erratum) (e113 : List Bytes) (r1220 : List Bytes × Int) (s1411 : Nat × Nat × List Bool) : Option ((Nat × Nat × List Bool) ⊕ ((Nat × List Bool) ⊕ Bool)) :=
 if (s1411.2.1 : Int) ≤ v_0.height then (
  ((
   (m23 v_0.number).bind fun r1515 =>
   chk ([118, 111, 108, 46, 32].length + r1515.length ≤ 1073741824) <|
   chk (([118, 111, 108, 46, 32] ++ r1515).length + [44, 32, 99, 111, 108, 46, 32].length ≤ 1073741824) <|
   (m23 (1 + (column % 60))).bind fun r1522 =>
   chk ((([118, 111, 108, 46, 32] ++ r1515) ++ [44, 32, 99, 111, 108, 46, 32]).length + r1522.length ≤ 1073741824) <|
   chk (((([118, 111, 108, 46, 32] ++ r1515) ++ [44, 32, 99, 111, 108, 46, 32]) ++ r1522).length + [44, 32, 108, 46, 32].length ≤ 1073741824) <|
   (m23 (s1411.2.1 : Int)).bind fun r1529 =>
   chk ((((([118, 111, 108, 46, 32] ++ r1515) ++ [44, 32, 99, 111, 108, 46, 32]) ++ r1522) ++ [44, 32, 108, 46, 32]).length + r1529.length ≤ 1073741824) <|
   (m19 r52 r62 ((((([118, 111, 108, 46, 32] ++ r1515) ++ [44, 32, 99, 111, 108, 46, 32]) ++ r1522) ++ [44, 32, 108, 46, 32]) ++ r1529)).bind fun r1534 =>
   if r1534.2.2 ≠ 0 then (
    if r1534.2.2 ≠ 7 then (
     some (.inr (.inr (.inr false))))
    else
    some (.inl (s1411.1, s1411.2.2)))
   else
   ((
    if r1534.2.1 ≠ v_0.bound then (
     some true)
    else
    if r1534.1 < 1 then (
     some true)
    else
    some (decide (999 < r1534.1))
   ) : Option (Bool)).bind fun t1563 =>
   if t1563 then (
    some (.inr (.inr (.inr false))))
   else
   chk (0 ≤ r1534.1) <|
   (s1411.2.2[r1534.1.toNat]?).bind fun x1580 =>
   ((
    if x1580 then (
     some (s1411.1, s1411.2.2))
    else
    chk (-9223372036854775808 ≤ ((s1411.1 : Int) + 1) ∧ ((s1411.1 : Int) + 1) ≤ 9223372036854775807) <|
    some ((s1411.1 + 1), (s1411.2.2.set r1534.1.toNat true))
   ) : Option (Nat × List Bool)).bind fun t1589 =>
   (e113[r1534.1.toNat]?).bind fun x1599 =>
   (m25 r1220.1 x1599).bind fun r1602 =>
   if r1602 then (
    some (.inl (t1589.1, t1589.2)))
   else
   some (.inr (.inr (.inr false)))
  ) : Option ((Nat × List Bool) ⊕ ((Nat × Nat × List Bool) ⊕ ((Nat × List Bool) ⊕ Bool)))).bind fun t1498 => match t1498 with
  | .inr z => some z
  | .inl t1501 =>
  chk (-9223372036854775808 ≤ ((s1411.2.1 : Int) + 1) ∧ ((s1411.2.1 : Int) + 1) ≤ 9223372036854775807) <|
  some (.inl (t1501.1, (s1411.2.1 + 1), t1501.2)))
 else
 some (.inr (.inl (s1411.1, s1411.2.2)))
noncomputable def m4 (v_0 : Volume) (errata : List Erratum) (column : Int) : Option (Bool) :=
 ((
  (m5 v_0 errata).bind fun r25 =>
  if r25 then (
   (m6 v_0).bind fun r30 =>
   if r30 ≠ 0 then (
    some true)
   else
   (m7 v_0 errata).bind fun r36 =>
   some (decide (r36 ≠ 0)))
  else
  some true
 ) : Option (Bool)).bind fun t22 =>
 if t22 then (
  (m21).bind fun r48 =>
  some r48)
 else
 (m11 v_0).bind fun r52 =>
 (m12 errata).bind fun r62 =>
 (m22 r52 r62).bind fun r69 =>
 if r69.2 ≠ 0 then (
  some false)
 else
 chk (1000 ≤ 1073741824) <|
 (loopO m4_1 (1, (List.replicate 1000 ([] : Bytes)))).bind fun e113 =>
 (loopO (m4_2 r69 e113 v_0 column) (1, ([] : List Heading))).bind fun e713 =>
 ((
  if (e713.length : Int) ≠ (r69.1.length : Int) then (
   some true)
  else
  some (decide (60 < (e713.length : Int)))
 ) : Option (Bool)).bind fun t1202 =>
 if t1202 then (
  some false)
 else
 chk (-9223372036854775808 ≤ column ∧ column ≤ 9223372036854775807) <|
 chk (0 ≤ column ∧ 0 < (60 : Int)) <|
 (m24 e713 v_0.number (1 + (column % 60))).bind fun r1220 =>
 if r1220.2 ≠ 0 then (
  some false)
 else
 (loopO (m4_4 v_0 column r52 r62 e113 r1220) (0, 1, (List.replicate 1000 false))).bind fun e1406 => match e1406 with
 | .inr z => some z
 | .inl t1409 =>
 ((
  if (t1409.1 : Int) = (r1220.1.length : Int) then (
   (m21).bind fun r1625 =>
   some r1625)
  else
  some false
 ) : Option (Bool)).bind fun t1620 =>
 some t1620
end T10
namespace T10
open Go.Proofs
abbrev C102 := @Tryz.call102
abbrev C103 := @Tryz.call103
abbrev C104 := @Tryz.call104
abbrev C105 := @Tryz.call105
abbrev C106 := @Tryz.call106
abbrev C107 := @Tryz.call107
abbrev C108 := @Tryz.call108
abbrev C109 := @Tryz.call109
abbrev C11 := @Tryz.call11
abbrev C110 := @Tryz.call110
abbrev C111 := @Tryz.call111
abbrev C112 := @Tryz.call112
abbrev C113 := @Tryz.call113
abbrev C114 := @Tryz.call114
abbrev C115 := @Tryz.call115
abbrev C116 := @Tryz.call116
abbrev C117 := @Tryz.call117
abbrev C118 := @Tryz.call118
abbrev C119 := @Tryz.call119
abbrev C12 := @Tryz.call12
abbrev C120 := @Tryz.call120
abbrev C121 := @Tryz.call121
abbrev C122 := @Tryz.call122
abbrev C123 := @Tryz.call123
abbrev C124 := @Tryz.call124
abbrev C125 := @Tryz.call125
abbrev C126 := @Tryz.call126
abbrev C129 := @Tryz.call129
abbrev C130 := @Tryz.call130
abbrev C147 := @Tryz.call147
abbrev C148 := @Tryz.call148
abbrev C149 := @Tryz.call149
abbrev C150 := @Tryz.call150
abbrev C151 := @Tryz.call151
abbrev C152 := @Tryz.call152
abbrev C153 := @Tryz.call153
abbrev C154 := @Tryz.call154
abbrev C155 := @Tryz.call155
abbrev C156 := @Tryz.call156
abbrev C157 := @Tryz.call157
abbrev C158 := @Tryz.call158
abbrev C159 := @Tryz.call159
abbrev C160 := @Tryz.call160
abbrev C171 := @Tryz.call171
abbrev C189 := @Tryz.call189
abbrev C19 := @Tryz.call19
abbrev C197 := @Tryz.call197
abbrev C199 := @Tryz.call199
abbrev C200 := @Tryz.call200
abbrev C21 := @Tryz.call21
abbrev C22 := @Tryz.call22
abbrev C23 := @Tryz.call23
abbrev C24 := @Tryz.call24
abbrev C25 := @Tryz.call25
abbrev C26 := @Tryz.call26
abbrev C27 := @Tryz.call27
abbrev C28 := @Tryz.call28
abbrev C29 := @Tryz.call29
abbrev C30 := @Tryz.call30
abbrev C33 := @Tryz.call33
abbrev C34 := @Tryz.call34
abbrev C35 := @Tryz.call35
abbrev C36 := @Tryz.call36
abbrev C37 := @Tryz.call37
abbrev C39 := @Tryz.call39
abbrev C43 := @Tryz.call43
abbrev C44 := @Tryz.call44
abbrev C46 := @Tryz.call46
abbrev C47 := @Tryz.call47
abbrev C48 := @Tryz.call48
abbrev C49 := @Tryz.call49
abbrev C5 := @Tryz.call5
abbrev C50 := @Tryz.call50
abbrev C51 := @Tryz.call51
abbrev C52 := @Tryz.call52
abbrev C53 := @Tryz.call53
abbrev C54 := @Tryz.call54
abbrev C55 := @Tryz.call55
abbrev C56 := @Tryz.call56
abbrev C57 := @Tryz.call57
abbrev C59 := @Tryz.call59
abbrev C6 := @Tryz.call6
abbrev C7 := @Tryz.call7
abbrev C70 := @Tryz.call70
abbrev C71 := @Tryz.call71
abbrev C72 := @Tryz.call72
abbrev C73 := @Tryz.call73
abbrev C74 := @Tryz.call74
abbrev C75 := @Tryz.call75
abbrev C76 := @Tryz.call76
abbrev C77 := @Tryz.call77
abbrev C78 := @Tryz.call78
abbrev C79 := @Tryz.call79
abbrev C80 := @Tryz.call80
abbrev C81 := @Tryz.call81
abbrev C82 := @Tryz.call82
abbrev C83 := @Tryz.call83
abbrev C84 := @Tryz.call84
abbrev C85 := @Tryz.call85
abbrev C86 := @Tryz.call86
abbrev C87 := @Tryz.call87
abbrev C88 := @Tryz.call88
abbrev C89 := @Tryz.call89
abbrev C90 := @Tryz.call90
abbrev C91 := @Tryz.call91
abbrev C92 := @Tryz.call92
abbrev G100 := @Tryz.isAgg100
abbrev G105 := @Tryz.isAgg105
abbrev G108 := @Tryz.isAgg108
abbrev G111 := @Tryz.isAgg111
abbrev G113 := @Tryz.isAgg113
abbrev G115 := @Tryz.isAgg115
abbrev G116 := @Tryz.isAgg116
abbrev G124 := @Tryz.isAgg124
abbrev G139 := @Tryz.isAgg139
abbrev G141 := @Tryz.isAgg141
abbrev G149 := @Tryz.isAgg149
abbrev G153 := @Tryz.isAgg153
abbrev G157 := @Tryz.isAgg157
abbrev G158 := @Tryz.isAgg158
abbrev G166 := @Tryz.isAgg166
abbrev G192 := @Tryz.isAgg192
abbrev G219 := @Tryz.isAgg219
abbrev G22 := @Tryz.isAgg22
abbrev G224 := @Tryz.isAgg224
abbrev G227 := @Tryz.isAgg227
abbrev G24 := @Tryz.isAgg24
abbrev G3 := @Tryz.isAgg3
abbrev G36 := @Tryz.isAgg36
abbrev G37 := @Tryz.isAgg37
abbrev G4 := @Tryz.isAgg4
abbrev G40 := @Tryz.isAgg40
abbrev G42 := @Tryz.isAgg42
abbrev G44 := @Tryz.isAgg44
abbrev G5 := @Tryz.isAgg5
abbrev G52 := @Tryz.isAgg52
abbrev G77 := @Tryz.isAgg77
abbrev G79 := @Tryz.isAgg79
abbrev G81 := @Tryz.isAgg81
abbrev G83 := @Tryz.isAgg83
abbrev G84 := @Tryz.isAgg84
abbrev G86 := @Tryz.isAgg86
abbrev G9 := @Tryz.isAgg9
abbrev G92 := @Tryz.isAgg92
abbrev G95 := @Tryz.isAgg95
abbrev G97 := @Tryz.isAgg97
abbrev Z105 := @Tryz.sizeOf105
abbrev Z108 := @Tryz.sizeOf108
abbrev Z111 := @Tryz.sizeOf111
abbrev Z113 := @Tryz.sizeOf113
abbrev Z115 := @Tryz.sizeOf115
abbrev Z116 := @Tryz.sizeOf116
abbrev Z124 := @Tryz.sizeOf124
abbrev Z139 := @Tryz.sizeOf139
abbrev Z141 := @Tryz.sizeOf141
abbrev Z149 := @Tryz.sizeOf149
abbrev Z153 := @Tryz.sizeOf153
abbrev Z158 := @Tryz.sizeOf158
abbrev Z166 := @Tryz.sizeOf166
abbrev Z168 := @Tryz.sizeOf168
abbrev Z22 := @Tryz.sizeOf22
abbrev Z24 := @Tryz.sizeOf24
abbrev Z3 := @Tryz.sizeOf3
abbrev Z36 := @Tryz.sizeOf36
abbrev Z37 := @Tryz.sizeOf37
abbrev Z4 := @Tryz.sizeOf4
abbrev Z40 := @Tryz.sizeOf40
abbrev Z42 := @Tryz.sizeOf42
abbrev Z5 := @Tryz.sizeOf5
abbrev Z52 := @Tryz.sizeOf52
abbrev Z77 := @Tryz.sizeOf77
abbrev Z81 := @Tryz.sizeOf81
abbrev Z83 := @Tryz.sizeOf83
abbrev Z84 := @Tryz.sizeOf84
abbrev Z86 := @Tryz.sizeOf86
abbrev Z9 := @Tryz.sizeOf9
abbrev Z92 := @Tryz.sizeOf92
abbrev Z94 := @Tryz.sizeOf94
abbrev Z95 := @Tryz.sizeOf95
abbrev Z97 := @Tryz.sizeOf97
abbrev U105 := @Tryz.underlying105
abbrev U108 := @Tryz.underlying108
abbrev U110 := @Tryz.underlying110
abbrev U113 := @Tryz.underlying113
abbrev U115 := @Tryz.underlying115
abbrev U116 := @Tryz.underlying116
abbrev U121 := @Tryz.underlying121
abbrev U124 := @Tryz.underlying124
abbrev U139 := @Tryz.underlying139
abbrev U141 := @Tryz.underlying141
abbrev U147 := @Tryz.underlying147
abbrev U149 := @Tryz.underlying149
abbrev U153 := @Tryz.underlying153
abbrev U158 := @Tryz.underlying158
abbrev U168 := @Tryz.underlying168
abbrev U169 := @Tryz.underlying169
abbrev U177 := @Tryz.underlying177
abbrev U187 := @Tryz.underlying187
abbrev U21 := @Tryz.underlying21
abbrev U22 := @Tryz.underlying22
abbrev U24 := @Tryz.underlying24
abbrev U25 := @Tryz.underlying25
abbrev U28 := @Tryz.underlying28
abbrev U3 := @Tryz.underlying3
abbrev U36 := @Tryz.underlying36
abbrev U40 := @Tryz.underlying40
abbrev U42 := @Tryz.underlying42
abbrev U44 := @Tryz.underlying44
abbrev U5 := @Tryz.underlying5
abbrev U52 := @Tryz.underlying52
abbrev U74 := @Tryz.underlying74
abbrev U77 := @Tryz.underlying77
abbrev U79 := @Tryz.underlying79
abbrev U81 := @Tryz.underlying81
abbrev U83 := @Tryz.underlying83
abbrev U84 := @Tryz.underlying84
abbrev U86 := @Tryz.underlying86
abbrev U89 := @Tryz.underlying89
abbrev U9 := @Tryz.underlying9
abbrev U92 := @Tryz.underlying92
abbrev U94 := @Tryz.underlying94
abbrev U95 := @Tryz.underlying95
abbrev U97 := @Tryz.underlying97
end T10
