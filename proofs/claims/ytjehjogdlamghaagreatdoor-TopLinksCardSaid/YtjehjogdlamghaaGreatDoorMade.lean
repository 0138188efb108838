/-
  The types and models of the functions of a volume and an index, printed by a program of ours; contracts of library functions.
-/
import Derived.Shelf.Strings.Trim
import Derived.Shelf.Strings.Cut
import Derived.Shelf.Strings.Search3
import Derived.Shelf.Strings.Prefix
import Derived.Shelf.Strings.Runes
import Derived.Shelf.Small.Strs
import Derived.Shelf.Small.Wraps
import Derived.Shelf.Strconv.AtoiAll
import Derived.Shelf.Strconv.Itoa3
import Derived.Shelf.SlSortCmp.NoneTotal
import Derived.Shelf.LaysM
import Derived.Shelf.LaysC
import Derived.Shelf.Strings.BuilderF
import Derived.Test.YtjehjogdlamghaaGreatDoorKitSix
import Derived.Test.YtjehjogdlamghaaGreatDoorProg
import Derived.Recover
import Derived.Tactics
import Derived.Tactics2
import Derived.Shelf.Spec.SlicesInsert
import Derived.Lib.AppendZerosOnto
import Derived.Laws.NewBlocks
import Derived.Laws.CopyRow
set_option linter.all false
set_option maxHeartbeats 4000000
namespace Go.Proofs
open Go.Shelf Go.RowKit
def Tryz.laysC172_ren : Go.Shelf.Ren := ⟨fun | 172 => 104 | 244 => 143 | 245 => 144 | 247 => 182 | 279 => 183 | 280 => 184 | 281 => 185 | 282 => 186 | 287 => 215 | 316 => 216 | 171 => 59 | 205 => 217 | 321 => 229 | 322 => 230 | 243 => 94 | 246 => 134 | 283 => 173 | 284 => 174 | 285 => 175 | 286 => 176 | 129 => 170 | 317 => 207 | 318 => 208 | 319 => 209 | 320 => 210 | 337 => 225 | 338 => 226 | n => n, fun | 9 => 9 | 3 => 3 | 75 => 177 | 76 => 178 | 4 => 4 | 5 => 5 | 167 => 263 | 37 => 147 | 0 => 0 | 85 => 264 | 2 => 2 | 168 => 266 | 53 => 255 | 175 => 292 | 46 => 230 | 210 => 295 | 127 => 205 | 145 => 308 | 143 => 306 | 21 => 21 | 171 => 256 | 173 => 258 | 212 => 289 | 51 => 253 | 20 => 20 | 213 => 290 | 232 => 309 | 233 => 310 | 80 => 181 | n => n, fun | 15 => 2 | 16 => 3 | 17 => 0 | 18 => 4 | 19 => 5 | n => n⟩
theorem Tryz.laysC172 : Go.Proofs.LaysC.n172 Tryz.prog Tryz.laysC172_ren := {
 mixed := by kernel_rfl
 f129 := Tryz.func170.trans (congrArg some (by kernel_rfl))
 f171 := Tryz.func59.trans (congrArg some (by kernel_rfl))
 f172 := Tryz.func104.trans (congrArg some (by kernel_rfl))
 f205 := Tryz.func217.trans (congrArg some (by kernel_rfl))
 f243 := Tryz.func94.trans (congrArg some (by kernel_rfl))
 f244 := Tryz.func143.trans (congrArg some (by kernel_rfl))
 f245 := Tryz.func144.trans (congrArg some (by kernel_rfl))
 f246 := Tryz.func134.trans (congrArg some (by kernel_rfl))
 f247 := Tryz.func182.trans (congrArg some (by kernel_rfl))
 f279 := Tryz.func183.trans (congrArg some (by kernel_rfl))
 f280 := Tryz.func184.trans (congrArg some (by kernel_rfl))
 f281 := Tryz.func185.trans (congrArg some (by kernel_rfl))
 f282 := Tryz.func186.trans (congrArg some (by kernel_rfl))
 f283 := Tryz.func173.trans (congrArg some (by kernel_rfl))
 f284 := Tryz.func174.trans (congrArg some (by kernel_rfl))
 f285 := Tryz.func175.trans (congrArg some (by kernel_rfl))
 f286 := Tryz.func176.trans (congrArg some (by kernel_rfl))
 f287 := Tryz.func215.trans (congrArg some (by kernel_rfl))
 f316 := Tryz.func216.trans (congrArg some (by kernel_rfl))
 f317 := Tryz.func207.trans (congrArg some (by kernel_rfl))
 f318 := Tryz.func208.trans (congrArg some (by kernel_rfl))
 f319 := Tryz.func209.trans (congrArg some (by kernel_rfl))
 f320 := Tryz.func210.trans (congrArg some (by kernel_rfl))
 f321 := Tryz.func229.trans (congrArg some (by kernel_rfl))
 f322 := Tryz.func230.trans (congrArg some (by kernel_rfl))
 f337 := Tryz.func225.trans (congrArg some (by kernel_rfl))
 f338 := Tryz.func226.trans (congrArg some (by kernel_rfl))
 t0 := Tryz.underlying0
 a0 := Tryz.isAgg0
 z0 := Tryz.sizeOf0
 v0 := Tryz.zeroValue0
 t2 := Tryz.underlying2
 a2 := Tryz.isAgg2
 z2 := Tryz.sizeOf2
 v2 := Tryz.zeroValue2
 t3 := Tryz.underlying3
 a3 := Tryz.isAgg3
 z3 := Tryz.sizeOf3
 v3 := Tryz.zeroValue3
 t4 := Tryz.underlying4
 a4 := Tryz.isAgg4
 z4 := Tryz.sizeOf4
 v4 := Tryz.zeroValue4
 t5 := Tryz.underlying5
 a5 := Tryz.isAgg5
 z5 := Tryz.sizeOf5
 v5 := Tryz.zeroValue5
 t9 := Tryz.underlying9
 a9 := Tryz.isAgg9
 z9 := Tryz.sizeOf9
 v9 := Tryz.zeroValue9
 t20 := Tryz.underlying20
 a20 := Tryz.isAgg20
 z20 := Tryz.sizeOf20
 v20 := Tryz.zeroValue20
 t21 := Tryz.underlying21
 a21 := Tryz.isAgg21
 z21 := Tryz.sizeOf21
 v21 := Tryz.zeroValue21
 t37 := Tryz.underlying147
 a37 := Tryz.isAgg147
 z37 := Tryz.sizeOf147
 v37 := Tryz.zeroValue147
 t46 := Tryz.underlying230
 a46 := Tryz.isAgg230
 z46 := Tryz.sizeOf230
 v46 := Tryz.zeroValue230
 t51 := Tryz.underlying253
 a51 := Tryz.isAgg253
 z51 := Tryz.sizeOf253
 v51 := Tryz.zeroValue253
 t53 := Tryz.underlying255
 a53 := Tryz.isAgg255
 z53 := Tryz.sizeOf255
 v53 := Tryz.zeroValue255
 t75 := Tryz.underlying177
 a75 := Tryz.isAgg177
 z75 := Tryz.sizeOf177
 v75 := Tryz.zeroValue177
 t76 := Tryz.underlying178
 a76 := Tryz.isAgg178
 z76 := Tryz.sizeOf178
 v76 := Tryz.zeroValue178
 t85 := Tryz.underlying264
 a85 := Tryz.isAgg264
 z85 := Tryz.sizeOf264
 v85 := Tryz.zeroValue264
 t127 := Tryz.underlying205
 a127 := Tryz.isAgg205
 z127 := Tryz.sizeOf205
 v127 := Tryz.zeroValue205
 t143 := Tryz.underlying306
 a143 := Tryz.isAgg306
 z143 := Tryz.sizeOf306
 v143 := Tryz.zeroValue306
 t145 := Tryz.underlying308
 a145 := Tryz.isAgg308
 z145 := Tryz.sizeOf308
 v145 := Tryz.zeroValue308
 t167 := Tryz.underlying263
 a167 := Tryz.isAgg263
 z167 := Tryz.sizeOf263
 v167 := Tryz.zeroValue263
 t168 := Tryz.underlying266
 a168 := Tryz.isAgg266
 z168 := Tryz.sizeOf266
 v168 := Tryz.zeroValue266
 t171 := Tryz.underlying256
 a171 := Tryz.isAgg256
 z171 := Tryz.sizeOf256
 v171 := Tryz.zeroValue256
 t173 := Tryz.underlying258
 a173 := Tryz.isAgg258
 z173 := Tryz.sizeOf258
 v173 := Tryz.zeroValue258
 t175 := Tryz.underlying292
 a175 := Tryz.isAgg292
 z175 := Tryz.sizeOf292
 v175 := Tryz.zeroValue292
 t210 := Tryz.underlying295
 a210 := Tryz.isAgg295
 z210 := Tryz.sizeOf295
 v210 := Tryz.zeroValue295
 t212 := Tryz.underlying289
 a212 := Tryz.isAgg289
 z212 := Tryz.sizeOf289
 v212 := Tryz.zeroValue289
 t213 := Tryz.underlying290
 a213 := Tryz.isAgg290
 z213 := Tryz.sizeOf290
 t232 := Tryz.underlying309
 a232 := Tryz.isAgg309
 z232 := Tryz.sizeOf309
 v232 := Tryz.zeroValue309
 t233 := Tryz.underlying310
 a233 := Tryz.isAgg310
 z233 := Tryz.sizeOf310
 v233 := Tryz.zeroValue310
 g15 := by kernel_rfl
 g16 := by kernel_rfl
 g17 := by kernel_rfl
 g18 := by kernel_rfl
 g19 := by kernel_rfl
 t80 := Tryz.underlying181
 a80 := Tryz.isAgg181
 z80 := Tryz.sizeOf181
 v80 := Tryz.zeroValue181
 i0 := by kernel_rfl
 i2 := by kernel_rfl
 i3 := by kernel_rfl
 i4 := by kernel_rfl
 i5 := by kernel_rfl
 i9 := by kernel_rfl
 i20 := by kernel_rfl
 i21 := by kernel_rfl
 i37 := by kernel_rfl
 i46 := by kernel_rfl
 i51 := by kernel_rfl
 i53 := by kernel_rfl
 i75 := by kernel_rfl
 i76 := by kernel_rfl
 i80 := by kernel_rfl
 i85 := by kernel_rfl
 i127 := by kernel_rfl
 i143 := by kernel_rfl
 i145 := by kernel_rfl
 i167 := by kernel_rfl
 i168 := by kernel_rfl
 i171 := by kernel_rfl
 i173 := by kernel_rfl
 i175 := by kernel_rfl
 i210 := by kernel_rfl
 i212 := by kernel_rfl
 i232 := by kernel_rfl
 i233 := by kernel_rfl
 m15 := by kernel_rfl
 m16 := by kernel_rfl
 m17 := by kernel_rfl
 m18 := by kernel_rfl
 m19 := by kernel_rfl
 c0 := by kernel_rfl
 c2 := by kernel_rfl
 c3 := by kernel_rfl
 c4 := by kernel_rfl
 c5 := by kernel_rfl
 c9 := by kernel_rfl
 c20 := by kernel_rfl
 c21 := by kernel_rfl
 c37 := by kernel_rfl
 c46 := by kernel_rfl
 c51 := by kernel_rfl
 c53 := by kernel_rfl
 c75 := by kernel_rfl
 c76 := by kernel_rfl
 c80 := by kernel_rfl
 c85 := by kernel_rfl
 c127 := by kernel_rfl
 c143 := by kernel_rfl
 c145 := by kernel_rfl
 c167 := by kernel_rfl
 c168 := by kernel_rfl
 c171 := by kernel_rfl
 c173 := by kernel_rfl
 c175 := by kernel_rfl
 c210 := by kernel_rfl
 c212 := by kernel_rfl
 c213 := by kernel_rfl
 c232 := by kernel_rfl
 c233 := by kernel_rfl }
def Tryz.laysM171_ren : Go.Shelf.Ren := ⟨fun | 171 => 59 | 243 => 94 | 246 => 134 | 283 => 173 | 284 => 174 | 285 => 175 | 286 => 176 | 129 => 170 | 317 => 207 | 318 => 208 | 319 => 209 | 320 => 210 | 337 => 225 | 338 => 226 | n => n, fun | 3 => 3 | 9 => 9 | 2 => 2 | 4 => 4 | 171 => 256 | 0 => 0 | 53 => 255 | 37 => 147 | 5 => 5 | 173 => 258 | 212 => 289 | 51 => 253 | 20 => 20 | 213 => 290 | 46 => 230 | 232 => 309 | 233 => 310 | n => n, fun | 17 => 0 | 18 => 4 | 19 => 5 | n => n⟩
theorem Tryz.laysM171 : Go.Proofs.LaysM.n171 Tryz.prog Tryz.laysM171_ren := {
 mixed := by kernel_rfl
 f129 := Tryz.func170.trans (congrArg some (by kernel_rfl))
 f171 := Tryz.func59.trans (congrArg some (by kernel_rfl))
 f243 := Tryz.func94.trans (congrArg some (by kernel_rfl))
 f246 := Tryz.func134.trans (congrArg some (by kernel_rfl))
 f283 := Tryz.func173.trans (congrArg some (by kernel_rfl))
 f284 := Tryz.func174.trans (congrArg some (by kernel_rfl))
 f285 := Tryz.func175.trans (congrArg some (by kernel_rfl))
 f286 := Tryz.func176.trans (congrArg some (by kernel_rfl))
 f317 := Tryz.func207.trans (congrArg some (by kernel_rfl))
 f318 := Tryz.func208.trans (congrArg some (by kernel_rfl))
 f319 := Tryz.func209.trans (congrArg some (by kernel_rfl))
 f320 := Tryz.func210.trans (congrArg some (by kernel_rfl))
 f337 := Tryz.func225.trans (congrArg some (by kernel_rfl))
 f338 := Tryz.func226.trans (congrArg some (by kernel_rfl))
 t0 := Tryz.underlying0
 a0 := Tryz.isAgg0
 z0 := Tryz.sizeOf0
 v0 := Tryz.zeroValue0
 t2 := Tryz.underlying2
 a2 := Tryz.isAgg2
 z2 := Tryz.sizeOf2
 v2 := Tryz.zeroValue2
 t3 := Tryz.underlying3
 a3 := Tryz.isAgg3
 z3 := Tryz.sizeOf3
 v3 := Tryz.zeroValue3
 t4 := Tryz.underlying4
 a4 := Tryz.isAgg4
 z4 := Tryz.sizeOf4
 v4 := Tryz.zeroValue4
 t5 := Tryz.underlying5
 a5 := Tryz.isAgg5
 z5 := Tryz.sizeOf5
 v5 := Tryz.zeroValue5
 t9 := Tryz.underlying9
 a9 := Tryz.isAgg9
 z9 := Tryz.sizeOf9
 v9 := Tryz.zeroValue9
 t20 := Tryz.underlying20
 a20 := Tryz.isAgg20
 z20 := Tryz.sizeOf20
 v20 := Tryz.zeroValue20
 t37 := Tryz.underlying147
 a37 := Tryz.isAgg147
 z37 := Tryz.sizeOf147
 v37 := Tryz.zeroValue147
 t46 := Tryz.underlying230
 a46 := Tryz.isAgg230
 z46 := Tryz.sizeOf230
 v46 := Tryz.zeroValue230
 t51 := Tryz.underlying253
 a51 := Tryz.isAgg253
 z51 := Tryz.sizeOf253
 v51 := Tryz.zeroValue253
 t53 := Tryz.underlying255
 a53 := Tryz.isAgg255
 z53 := Tryz.sizeOf255
 v53 := Tryz.zeroValue255
 t171 := Tryz.underlying256
 a171 := Tryz.isAgg256
 z171 := Tryz.sizeOf256
 v171 := Tryz.zeroValue256
 t173 := Tryz.underlying258
 a173 := Tryz.isAgg258
 z173 := Tryz.sizeOf258
 v173 := Tryz.zeroValue258
 t212 := Tryz.underlying289
 a212 := Tryz.isAgg289
 z212 := Tryz.sizeOf289
 v212 := Tryz.zeroValue289
 t213 := Tryz.underlying290
 a213 := Tryz.isAgg290
 z213 := Tryz.sizeOf290
 t232 := Tryz.underlying309
 a232 := Tryz.isAgg309
 z232 := Tryz.sizeOf309
 v232 := Tryz.zeroValue309
 t233 := Tryz.underlying310
 a233 := Tryz.isAgg310
 z233 := Tryz.sizeOf310
 v233 := Tryz.zeroValue310
 g17 := by kernel_rfl
 g18 := by kernel_rfl
 g19 := by kernel_rfl
 i0 := by kernel_rfl
 i2 := by kernel_rfl
 i3 := by kernel_rfl
 i4 := by kernel_rfl
 i5 := by kernel_rfl
 i9 := by kernel_rfl
 i20 := by kernel_rfl
 i37 := by kernel_rfl
 i46 := by kernel_rfl
 i51 := by kernel_rfl
 i53 := by kernel_rfl
 i171 := by kernel_rfl
 i173 := by kernel_rfl
 i212 := by kernel_rfl
 i232 := by kernel_rfl
 i233 := by kernel_rfl
 m17 := by kernel_rfl
 m18 := by kernel_rfl
 m19 := by kernel_rfl }
def Tryz.lays103_ren : Go.Shelf.Ren := ⟨fun | 103 => 105 | 210 => 145 | 206 => 187 | n => n, fun | 9 => 9 | 4 => 4 | 24 => 180 | 3 => 3 | n => n, fun | n => n⟩
theorem Tryz.lays103 : Go.Proofs.Lays.n103 Tryz.prog Tryz.lays103_ren := {
 mixed := by kernel_rfl
 f103 := Tryz.func105.trans (congrArg some (by kernel_rfl))
 f206 := Tryz.func187.trans (congrArg some (by kernel_rfl))
 f210 := Tryz.func145.trans (congrArg some (by kernel_rfl))
 t3 := Tryz.underlying3
 a3 := Tryz.isAgg3
 z3 := Tryz.sizeOf3
 v3 := Tryz.zeroValue3
 t4 := Tryz.underlying4
 a4 := Tryz.isAgg4
 z4 := Tryz.sizeOf4
 v4 := Tryz.zeroValue4
 t9 := Tryz.underlying9
 a9 := Tryz.isAgg9
 z9 := Tryz.sizeOf9
 v9 := Tryz.zeroValue9
 t24 := Tryz.underlying180
 a24 := Tryz.isAgg180
 z24 := Tryz.sizeOf180
 v24 := Tryz.zeroValue180 }
def Tryz.lays145_ren : Go.Shelf.Ren := ⟨fun | 145 => 103 | 220 => 142 | 219 => 181 | 217 => 211 | 225 => 212 | 224 => 213 | 267 => 214 | 266 => 227 | 314 => 228 | n => n, fun | 9 => 9 | 4 => 4 | 59 => 210 | 3 => 3 | 5 => 5 | 46 => 230 | 146 => 303 | 51 => 253 | n => n, fun | 1 => 1 | n => n⟩
theorem Tryz.lays145 : Go.Proofs.Lays.n145 Tryz.prog Tryz.lays145_ren := {
 mixed := by kernel_rfl
 f145 := Tryz.func103.trans (congrArg some (by kernel_rfl))
 f217 := Tryz.func211.trans (congrArg some (by kernel_rfl))
 f219 := Tryz.func181.trans (congrArg some (by kernel_rfl))
 f220 := Tryz.func142.trans (congrArg some (by kernel_rfl))
 f224 := Tryz.func213.trans (congrArg some (by kernel_rfl))
 f225 := Tryz.func212.trans (congrArg some (by kernel_rfl))
 f266 := Tryz.func227.trans (congrArg some (by kernel_rfl))
 f267 := Tryz.func214.trans (congrArg some (by kernel_rfl))
 f314 := Tryz.func228.trans (congrArg some (by kernel_rfl))
 t3 := Tryz.underlying3
 a3 := Tryz.isAgg3
 z3 := Tryz.sizeOf3
 v3 := Tryz.zeroValue3
 t4 := Tryz.underlying4
 a4 := Tryz.isAgg4
 z4 := Tryz.sizeOf4
 v4 := Tryz.zeroValue4
 t5 := Tryz.underlying5
 a5 := Tryz.isAgg5
 z5 := Tryz.sizeOf5
 v5 := Tryz.zeroValue5
 t9 := Tryz.underlying9
 a9 := Tryz.isAgg9
 z9 := Tryz.sizeOf9
 v9 := Tryz.zeroValue9
 t46 := Tryz.underlying230
 a46 := Tryz.isAgg230
 z46 := Tryz.sizeOf230
 v46 := Tryz.zeroValue230
 t51 := Tryz.underlying253
 a51 := Tryz.isAgg253
 z51 := Tryz.sizeOf253
 v51 := Tryz.zeroValue253
 t59 := Tryz.underlying210
 a59 := Tryz.isAgg210
 z59 := Tryz.sizeOf210
 v59 := Tryz.zeroValue210
 t146 := Tryz.underlying303
 a146 := Tryz.isAgg303
 z146 := Tryz.sizeOf303
 v146 := Tryz.zeroValue303
 g1 := by kernel_rfl }
def Tryz.lays144_ren : Go.Shelf.Ren := ⟨fun | 144 => 106 | 143 => 146 | 219 => 181 | 217 => 211 | 225 => 212 | 224 => 213 | 267 => 214 | 266 => 227 | 314 => 228 | n => n, fun | 9 => 9 | 4 => 4 | 3 => 3 | 5 => 5 | 46 => 230 | 146 => 303 | 51 => 253 | n => n, fun | 1 => 1 | n => n⟩
theorem Tryz.lays144 : Go.Proofs.Lays.n144 Tryz.prog Tryz.lays144_ren := {
 mixed := by kernel_rfl
 f143 := Tryz.func146.trans (congrArg some (by kernel_rfl))
 f144 := Tryz.func106.trans (congrArg some (by kernel_rfl))
 f217 := Tryz.func211.trans (congrArg some (by kernel_rfl))
 f219 := Tryz.func181.trans (congrArg some (by kernel_rfl))
 f224 := Tryz.func213.trans (congrArg some (by kernel_rfl))
 f225 := Tryz.func212.trans (congrArg some (by kernel_rfl))
 f266 := Tryz.func227.trans (congrArg some (by kernel_rfl))
 f267 := Tryz.func214.trans (congrArg some (by kernel_rfl))
 f314 := Tryz.func228.trans (congrArg some (by kernel_rfl))
 t3 := Tryz.underlying3
 a3 := Tryz.isAgg3
 z3 := Tryz.sizeOf3
 v3 := Tryz.zeroValue3
 t4 := Tryz.underlying4
 a4 := Tryz.isAgg4
 z4 := Tryz.sizeOf4
 v4 := Tryz.zeroValue4
 t5 := Tryz.underlying5
 a5 := Tryz.isAgg5
 z5 := Tryz.sizeOf5
 v5 := Tryz.zeroValue5
 t9 := Tryz.underlying9
 a9 := Tryz.isAgg9
 z9 := Tryz.sizeOf9
 v9 := Tryz.zeroValue9
 t46 := Tryz.underlying230
 a46 := Tryz.isAgg230
 z46 := Tryz.sizeOf230
 v46 := Tryz.zeroValue230
 t51 := Tryz.underlying253
 a51 := Tryz.isAgg253
 z51 := Tryz.sizeOf253
 v51 := Tryz.zeroValue253
 t146 := Tryz.underlying303
 a146 := Tryz.isAgg303
 z146 := Tryz.sizeOf303
 v146 := Tryz.zeroValue303
 g1 := by kernel_rfl }
def Tryz.laysF87_ren : Go.Shelf.Ren := ⟨fun | 6 => 87 | 15 => 128 | 14 => 127 | 28 => 169 | 29 => 170 | 20 => 161 | 21 => 162 | 22 => 163 | 23 => 164 | 24 => 165 | 25 => 166 | 26 => 167 | 27 => 168 | 46 => 201 | 47 => 202 | 48 => 203 | 49 => 204 | 50 => 205 | 57 => 224 | n => n, fun | 22 => 44 | 24 => 116 | 25 => 202 | 3 => 3 | 39 => 230 | 0 => 0 | 53 => 253 | 55 => 255 | 4 => 4 | 46 => 247 | 45 => 246 | 50 => 175 | 5 => 5 | 9 => 9 | 66 => 280 | 70 => 284 | 76 => 300 | 77 => 301 | n => n, fun | n => n⟩
theorem Tryz.laysF87 : Go.Proofs.SlLaysF0.n6 Tryz.prog Tryz.laysF87_ren := {
 mixed := by kernel_rfl
 f6 := ⟨Tryz.f87.name, by decide, Tryz.func87.trans (congrArg some (by kernel_rfl))⟩
 f14 := ⟨Tryz.f127.name, by decide, Tryz.func127.trans (congrArg some (by kernel_rfl))⟩
 f15 := Tryz.func128.trans (congrArg some (by kernel_rfl))
 f20 := ⟨Tryz.f161.name, by decide, Tryz.func161.trans (congrArg some (by kernel_rfl))⟩
 f21 := ⟨Tryz.f162.name, by decide, Tryz.func162.trans (congrArg some (by kernel_rfl))⟩
 f22 := ⟨Tryz.f163.name, by decide, Tryz.func163.trans (congrArg some (by kernel_rfl))⟩
 f23 := ⟨Tryz.f164.name, by decide, Tryz.func164.trans (congrArg some (by kernel_rfl))⟩
 f24 := ⟨Tryz.f165.name, by decide, Tryz.func165.trans (congrArg some (by kernel_rfl))⟩
 f25 := ⟨Tryz.f166.name, by decide, Tryz.func166.trans (congrArg some (by kernel_rfl))⟩
 f26 := ⟨Tryz.f167.name, by decide, Tryz.func167.trans (congrArg some (by kernel_rfl))⟩
 f27 := ⟨Tryz.f168.name, by decide, Tryz.func168.trans (congrArg some (by kernel_rfl))⟩
 f28 := Tryz.func169.trans (congrArg some (by kernel_rfl))
 f29 := Tryz.func170.trans (congrArg some (by kernel_rfl))
 f46 := ⟨Tryz.f201.name, by decide, Tryz.func201.trans (congrArg some (by kernel_rfl))⟩
 f47 := Tryz.func202.trans (congrArg some (by kernel_rfl))
 f48 := Tryz.func203.trans (congrArg some (by kernel_rfl))
 f49 := ⟨Tryz.f204.name, by decide, Tryz.func204.trans (congrArg some (by kernel_rfl))⟩
 f50 := ⟨Tryz.f205.name, by decide, Tryz.func205.trans (congrArg some (by kernel_rfl))⟩
 f57 := ⟨Tryz.f224.name, by decide, Tryz.func224.trans (congrArg some (by kernel_rfl))⟩
 t0 := Tryz.underlying0
 a0 := Tryz.isAgg0
 z0 := Tryz.sizeOf0
 v0 := Tryz.zeroValue0
 t3 := Tryz.underlying3
 a3 := Tryz.isAgg3
 z3 := Tryz.sizeOf3
 v3 := Tryz.zeroValue3
 t4 := Tryz.underlying4
 a4 := Tryz.isAgg4
 z4 := Tryz.sizeOf4
 v4 := Tryz.zeroValue4
 t5 := Tryz.underlying5
 a5 := Tryz.isAgg5
 z5 := Tryz.sizeOf5
 v5 := Tryz.zeroValue5
 t9 := Tryz.underlying9
 a9 := Tryz.isAgg9
 z9 := Tryz.sizeOf9
 v9 := Tryz.zeroValue9
 t22 := Tryz.underlying44
 a22 := Tryz.isAgg44
 z22 := Tryz.sizeOf44
 v22 := Tryz.zeroValue44
 t25 := Tryz.underlying202
 a25 := Tryz.isAgg202
 z25 := Tryz.sizeOf202
 v25 := Tryz.zeroValue202
 t39 := Tryz.underlying230
 a39 := Tryz.isAgg230
 z39 := Tryz.sizeOf230
 v39 := Tryz.zeroValue230
 t45 := Tryz.underlying246
 a45 := Tryz.isAgg246
 z45 := Tryz.sizeOf246
 v45 := Tryz.zeroValue246
 t46 := Tryz.underlying247
 a46 := Tryz.isAgg247
 z46 := Tryz.sizeOf247
 v46 := Tryz.zeroValue247
 t50 := Tryz.underlying175
 a50 := Tryz.isAgg175
 z50 := Tryz.sizeOf175
 v50 := Tryz.zeroValue175
 t53 := Tryz.underlying253
 a53 := Tryz.isAgg253
 z53 := Tryz.sizeOf253
 v53 := Tryz.zeroValue253
 t55 := Tryz.underlying255
 a55 := Tryz.isAgg255
 z55 := Tryz.sizeOf255
 v55 := Tryz.zeroValue255
 t66 := Tryz.underlying280
 a66 := Tryz.isAgg280
 z66 := Tryz.sizeOf280
 v66 := Tryz.zeroValue280
 t70 := Tryz.underlying284
 a70 := Tryz.isAgg284
 z70 := Tryz.sizeOf284
 v70 := Tryz.zeroValue284
 t76 := Tryz.underlying300
 a76 := Tryz.isAgg300
 z76 := Tryz.sizeOf300
 v76 := Tryz.zeroValue300
 t77 := Tryz.underlying301
 a77 := Tryz.isAgg301
 z77 := Tryz.sizeOf301
 v77 := Tryz.zeroValue301 }
def Tryz.lays169_ren : Go.Shelf.Ren := ⟨fun | 169 => 60 | n => n, fun | 70 => 172 | 9 => 9 | 0 => 0 | 72 => 174 | 37 => 147 | 127 => 205 | 3 => 3 | 5 => 5 | n => n, fun | n => n⟩
theorem Tryz.lays169 : Go.Proofs.Lays.n169 Tryz.prog Tryz.lays169_ren := {
 mixed := by kernel_rfl
 f169 := Tryz.func60.trans (congrArg some (by kernel_rfl))
 t0 := Tryz.underlying0
 a0 := Tryz.isAgg0
 z0 := Tryz.sizeOf0
 v0 := Tryz.zeroValue0
 t3 := Tryz.underlying3
 a3 := Tryz.isAgg3
 z3 := Tryz.sizeOf3
 v3 := Tryz.zeroValue3
 t9 := Tryz.underlying9
 a9 := Tryz.isAgg9
 z9 := Tryz.sizeOf9
 v9 := Tryz.zeroValue9
 t37 := Tryz.underlying147
 a37 := Tryz.isAgg147
 z37 := Tryz.sizeOf147
 v37 := Tryz.zeroValue147
 t70 := Tryz.underlying172
 a70 := Tryz.isAgg172
 z70 := Tryz.sizeOf172
 v70 := Tryz.zeroValue172
 t72 := Tryz.underlying174
 a72 := Tryz.isAgg174
 z72 := Tryz.sizeOf174
 v72 := Tryz.zeroValue174
 t127 := Tryz.underlying205
 a127 := Tryz.isAgg205
 z127 := Tryz.sizeOf205
 v127 := Tryz.zeroValue205 }
theorem Tryz.Builder_Extra_169 : Builder.Extra Tryz.prog Tryz.lays169_ren := {
 sizeBuilder := by kernel_rfl
 liesBuilder := by kernel_rfl
 t5 := Tryz.underlying5
 a5 := Tryz.isAgg5
 z5 := Tryz.sizeOf5
 v5 := Tryz.zeroValue5
 infoByte := by kernel_rfl
 cellsByte := by kernel_rfl
 sizeByte := by kernel_rfl
 neB5 := by decide }
theorem Tryz.szB : (Tryz.prog.info? 174).map (·.size) = some 2 := by kernel_rfl
theorem Tryz.liesB : liesAt Tryz.prog Tryz.prog.depth 174 (2 / Tryz.prog.cellsOf 174) 0 174 1 = true := by kernel_rfl
theorem Tryz.infoU8 : (Tryz.prog.info? 5).map (fun i => (i.zero, i.size, i.bytes)) = some (some (.int .u8 0), 1, 1) := by kernel_rfl
set_option maxHeartbeats 1000000 in
set_option maxRecDepth 100000 in
theorem Tryz.cc_used (b : Nat) (w : World) (h0 : w.cell? ⟨b, 0, none⟩ = some (.pointer (some ⟨b, 0, none⟩))) : Calls Tryz.prog 93 #[.pointer (some ⟨b, 0, none⟩)] w fun e w' => e = .returned (.tuple #[]) ∧ w' = w := by
 obtain ⟨j, hj, _⟩ := Option.map_eq_some_iff.1 Tryz.szB
 go_enter Tryz.func93, Tryz.ntmps93
 go_wp2
 rw [Lib.run_neq_ptr_same w _ Tryz.underlying172 hj]
 go_wp2
 go_end0
 exact ⟨rfl, rfl⟩
set_option maxHeartbeats 1000000 in
set_option maxRecDepth 100000 in
theorem Tryz.cc_new (b : Nat) (w : World) (h0 : w.cell? ⟨b, 0, none⟩ = some (.pointer none)) (hs : w.shape? b = some (174, 2)) (hz : w.frozen? ⟨b, 0, none⟩ = false) : Calls Tryz.prog 93 #[.pointer (some ⟨b, 0, none⟩)] w fun e w' => e = .returned (.tuple #[]) ∧ w' = w.setCell ⟨b, 0, none⟩ (.pointer (some ⟨b, 0, none⟩)) := by
 obtain ⟨j, hj, hjs⟩ := Option.map_eq_some_iff.1 Tryz.szB
 go_enter Tryz.func93, Tryz.ntmps93
 go_wp2
 rw [Lib.run_to_unsafe w ⟨b, 0, none⟩ Tryz.underlying172 Tryz.underlying236 hj (by rw [hjs]; decide) hs (Nat.zero_lt_succ 1)]
 simp only [Result.andThen]
 rw [Oper.upon_value]
 go_wp2
 rw [run_callFunc_extern Tryz.func133 (by kernel_rfl) (by kernel_rfl) (by kernel_rfl) (e := Extern.AbiNoEscape.same) (by kernel_rfl)]
 rw [Lib.run_noEscape]
 simp only [Result.andThen]
 rw [Oper.upon_value]
 go_wp2
 rw [Lib.run_from_unsafe w ⟨b, 0, none⟩ Tryz.underlying236 Tryz.underlying172 hj hs Tryz.liesB]
 simp only [Result.andThen]
 rw [Oper.upon_value]
 go_wp2
 go_end0
 exact ⟨rfl, rfl⟩
theorem Tryz.cc_any (B b : Nat) (l : List Value) (w : World) (h : Lib.IsBuilderF 174 5 B b l w) : Calls Tryz.prog 93 #[.pointer (some ⟨b, 0, none⟩)] w fun e w' => e = .returned (.tuple #[]) ∧ Lib.BuilderAtF 174 5 B b (.pointer (some ⟨b, 0, none⟩)) l w' ∧ Below B w w' := by
 rcases h with h | h
 ·exact (Tryz.cc_new b w h.cell0 h.shape h.frozen0).mono fun e w' hw => by
   obtain ⟨rfl, rfl⟩ := hw
   exact ⟨rfl, h.used _, (Below.refl B w).setCell (p := ⟨b, 0, none⟩) h.1 _⟩
 ·exact (Tryz.cc_used b w h.cell0).mono fun e w' hw => by
   obtain ⟨rfl, rfl⟩ := hw
   exact ⟨rfl, h, Below.refl B _⟩
set_option maxHeartbeats 2000000 in
set_option maxRecDepth 100000 in
theorem Tryz.bWrite (B b : Nat) (l : List Value) (s : ByteArray) (w : World) (h : Lib.IsBuilderF 174 5 B b l w) (hl : l.length + s.size ≤ 140737488355328) (hB : B ≤ w.heap.size) :
  Calls Tryz.prog 58 #[.pointer (some ⟨b, 0, none⟩), .string s] w fun e w' => e = .returned (.tuple #[.int .i64 s.size, .nilIface]) ∧ Lib.BuilderAtF 174 5 B b (.pointer (some ⟨b, 0, none⟩)) (l ++ Lib.strCells s) w' ∧ Below B w w' := by
 obtain ⟨i0, hi, hz0, hz1, hz2⟩ := info_parts Tryz.infoU8
 have e93 : ∀ args w, (callFunc 93 args).run Tryz.prog w = .ok (.enter 93 args) w := enters_of Tryz.func93 (by kernel_rfl) rfl
 go_enter Tryz.func58, Tryz.ntmps58
 go_wp2_with (go_at_fn 93; refine (Tryz.cc_any B b l _ h).mono ?_)
 rintro e w1 ⟨rfl, ⟨hBb, v, hbk, hown, hne⟩, hb1⟩
 have c0 : w1.cell? ⟨b, 0, none⟩ = some (.pointer (some ⟨b, 0, none⟩)) := by rw [Lib.cell_of_heap hbk]; rfl
 have c1 : w1.cell? ⟨b, 1, none⟩ = some v := by rw [Lib.cell_of_heap hbk]; rfl
 go_wp2_with (at_builtin; refine Lib.wpList_append_own_stringF _ rfl _ _ 147 9 rfl B 5 i0 Tryz.underlying147 Tryz.underlying9 hi hz0 hz1 hz2 _ _ _ rfl hown s rfl ?c3 ?c4 ?c5 ?_)
 case c3 => unfold maxLen; omega
 case c4 => omega
 case c5 => have := hb1.size; omega
 intro v' w2 hown' hgrow _
 have hlt : b < w1.heap.size := (Array.getElem?_eq_some_iff.1 hbk).1
 have hb2 : w2.heap[b]? = some (.cells #[.pointer (some ⟨b, 0, none⟩), v] 174 (0, 0)) := by
  rw [hgrow.block b hlt (fun e => hne e.symm)]; exact hbk
 have d0 : w2.cell? ⟨b, 0, none⟩ = some (.pointer (some ⟨b, 0, none⟩)) := by rw [Lib.cell_of_heap hb2]; rfl
 have d1 : w2.cell? ⟨b, 1, none⟩ = some v := by rw [Lib.cell_of_heap hb2]; rfl
 have f1 : w2.frozen? ⟨b, 1, none⟩ = false := Lib.frozen_of_heap hb2 1
 obtain ⟨ao, n', cap, rfl⟩ : ∃ ao n' cap, v' = .slice ao n' cap := by
  rcases hown'.2 with ⟨hv, _⟩ | ⟨g, cap, cur, fz, hv, _⟩
  ·exact ⟨_, _, _, hv⟩
  ·exact ⟨_, _, _, hv⟩
 go_wp2
 go_ret2
 exact ⟨rfl, Lib.BuilderAtF.put (T := 174) (e := 5) hBb hb2 (bs' := l ++ Lib.strCells s) (by simpa [Lib.strCells_length] using hown') (by decide), (hb1.grown hgrow (by have := hb1.size; omega) (fun k hk => (hown.lt k hk).1)).setCell (p := ⟨b, 1, none⟩) hBb _⟩
end Go.Proofs
namespace Go.Proofs
open Go Pk
theorem Tryz.srt87 : SrtK Tryz.prog 87 6 :=
  ⟨fun p cap fv w => AnyF.slices_SortFunc_none Tryz.laysF87 p cap fv w,
   fun α _ enc hk h1 cf hO g cb blk off cap d w eg hc hH hb hs hT => AnyQ.slices_SortFunc_total Tryz.laysF87 6 Tryz.isAgg116 Tryz.sizeOf116 enc hk h1 cf hO g cb blk off cap d w eg hc hH hb hs hT⟩
end Go.Proofs
set_option maxHeartbeats 4000000
namespace T10
open Go Go.Proofs Pk Go.RowKit
structure Gv (M : Prop) (H : Hp) : Prop where
 gl : Gl M 2 3 0 H
 mx : ∃ m, CellsAt H ⟨1, 0, none⟩ [.int .i64 m]
theorem Gv.mono {M : Prop} {H K : Hp} (h : Gv M H) (hk : H.le K) : Gv M K := ⟨h.gl.mono hk, h.mx.imp fun _ hm => hm.mono hk⟩
noncomputable def m104 (s : Bytes) : Option (Int × Bool) := atoiM s
noncomputable def m59 (n : Int) : Option Bytes := itoaM n
noncomputable def m103 (s t : Bytes) : Option (Bytes × Bytes × Bool) := chk (s.length ≤ 1073741824) (some (Lib.cut s t))
noncomputable def m105 (s t : Bytes) : Option (Bytes × Bool) := some (Lib.trimPrefix s t, Lib.hasPrefix s t)
noncomputable def m106 (s t : Bytes) : Option Bool := chk (s.length ≤ 1073741824) (some (Lib.contains s t))
theorem bsd (s : Bytes) : (bs s).data.toList = s := by simp [bs]
theorem w104 {M : Prop} {W : World} {H : Hp} (hH : H.le (hp W)) (hg : Gv M H) (s : Bytes) {r : Int × Bool} (hr : m104 s = some r) : Calls Tryz.prog 104 [.string (bs s)].toArray W (RetK M H W (fun v K => ∃ (er1 : Value), v = .tuple [.int .i64 r.1, er1].toArray ∧ Er er1 r.2)) := by
 unfold m104 atoiM at hr
 obtain ⟨hl, hr⟩ := chk_some hr
 obtain rfl := Option.some.inj hr
 have hz : (bs s).size = s.length := bs_size s
 obtain ⟨e0, h0, i0⟩ := hg.gl.syn
 obtain ⟨e1, h1, i1⟩ := hg.gl.rng
 cases h : Lib.atoiAll s with
 | ok v =>
  refine (Any.strconv_Atoi_ok Tryz.laysC172 (bs s) (by omega) v (by rw [bsd]; exact h) W).mono ?_
  rintro e w' ⟨rfl, hw⟩
  refine ⟨⟨_, by simp [atoiR, h], .inl ⟨by simp [atoiR, h], rfl⟩⟩, ?_⟩
  rcases hw with rfl | ⟨t, rfl⟩
  ·exact Ext.refl _ _
  ·exact Ext.of_below hg.gl.nq (Lib.bytesWorld_below _ _ _)
 | range =>
  refine (Any.strconv_Atoi_range Tryz.laysC172 (bs s) (by omega) (by rw [bsd]; exact h) e1 W (cell_of hH h1) i1).mono ?_
  rintro e w' ⟨N, rfl, _, _, hb⟩
  have hr1 : atoiR s = (Lib.atoiSat s, true) := by simp [atoiR, h]
  rw [hr1, bsd]
  exact ⟨⟨_, rfl, .inr ⟨rfl, _, _, rfl⟩⟩, Ext.of_below hg.gl.nq hb⟩
 | _ =>
  refine (Any.strconv_Atoi_syntax Tryz.laysC172 (bs s) (by omega) (by rw [bsd]; exact h) e0 W (cell_of hH h0) i0).mono ?_
  rintro e w' ⟨N, rfl, _, _, hb⟩
  have hr1 : atoiR s = (0, true) := by simp [atoiR, h]
  rw [hr1]
  exact ⟨⟨_, rfl, .inr ⟨rfl, _, _, rfl⟩⟩, Ext.of_below hg.gl.nq hb⟩
theorem itoaC {W : World} {H : Hp} (hH : H.le (hp W)) {M : Prop} (hg : Gv M H) (n : Int) (h1 : -9223372036854775808 ≤ n) (h2 : n ≤ 9223372036854775807) : Calls Tryz.prog 59 #[.int .i64 n] W fun e w' => e = .returned (.string (bs (Lib.itoa n))) ∧ ∃ k os, w' = Sort.grow (W.drewN k) os := by
 refine (Any.strconv_Itoa Tryz.laysM171 n h1 h2 W (tabIs_of (by kernel_rfl) hH hg.gl.tab)).mono ?_
 rintro e w' ⟨rfl, k, os, rfl⟩
 exact ⟨rfl, k, os, rfl⟩
theorem ext_of_grow (M : Prop) (W : World) (k : Nat) (os : Array Obj) : Ext M W (Sort.grow (W.drewN k) os) :=
 ⟨rfl, rfl, rfl, (by show W.heap.size ≤ (W.heap ++ os).size; rw [Array.size_append]; omega), fun b hb => Array.getElem?_append_left hb, fun _ => Nat.le_add_right _ _⟩
theorem w59 {M : Prop} {W : World} {H : Hp} (hH : H.le (hp W)) (hg : Gv M H) (n : Int) {r : Bytes} (hr : m59 n = some r) : Calls Tryz.prog 59 [.int .i64 n].toArray W (RetS M W (.string (bs r))) := by
 unfold m59 itoaM at hr
 obtain ⟨hl, hr⟩ := chk_some hr
 obtain rfl := Option.some.inj hr
 refine (itoaC hH hg n hl.1 hl.2).mono ?_
 rintro e w' ⟨rfl, k, os, rfl⟩
 exact ⟨rfl, ext_of_grow M W k os⟩
theorem w103 {M : Prop} {W : World} {H : Hp} (hH : H.le (hp W)) (hg : Gv M H) (s t : Bytes) {r : Bytes × Bytes × Bool} (hr : m103 s t = some r) : Calls Tryz.prog 103 [.string (bs s), .string (bs t)].toArray W (RetS M W (.tuple [.string (bs r.1), .string (bs r.2.1), .bool r.2.2].toArray)) := by
 unfold m103 at hr
 obtain ⟨hl, hr⟩ := chk_some hr
 obtain rfl := Option.some.inj hr
 obtain ⟨m, hm⟩ := hg.mx
 refine (Any.strings_Cut Tryz.lays145 (bs s) (bs t) m W (by rw [bs_size]; omega) (cell_of hH hm)).mono ?_
 rintro e w' ⟨rfl, k, rfl⟩
 refine ⟨by simp [bs], ?_⟩
 exact ⟨rfl, rfl, rfl, Nat.le_refl _, fun _ _ => rfl, fun _ => Nat.le_add_right _ _⟩
theorem w105 {M : Prop} {W : World} {H : Hp} (hH : H.le (hp W)) (hg : Gv M H) (s t : Bytes) {r : Bytes × Bool} (hr : m105 s t = some r) : Calls Tryz.prog 105 [.string (bs s), .string (bs t)].toArray W (RetS M W (.tuple [.string (bs r.1), .bool r.2].toArray)) := by
 obtain rfl := Option.some.inj hr
 refine (Any.strings_CutPrefix Tryz.lays103 (bs s) (bs t) W).mono ?_
 rintro e w' ⟨rfl, rfl⟩
 exact ⟨by simp [bs], Ext.refl _ _⟩
theorem w106 {M : Prop} {W : World} {H : Hp} (hH : H.le (hp W)) (hg : Gv M H) (s t : Bytes) {r : Bool} (hr : m106 s t = some r) : Calls Tryz.prog 106 [.string (bs s), .string (bs t)].toArray W (RetS M W (.bool r)) := by
 unfold m106 at hr
 obtain ⟨hl, hr⟩ := chk_some hr
 obtain rfl := Option.some.inj hr
 obtain ⟨m, hm⟩ := hg.mx
 refine (Any.strings_Contains Tryz.lays144 (bs s) (bs t) m W (by rw [bs_size]; omega) (cell_of hH hm)).mono ?_
 rintro e w' ⟨rfl, rfl⟩
 exact ⟨by simp [bs], Ext.refl _ _⟩
end T10
set_option maxHeartbeats 4000000
namespace T10
open Go Go.Proofs Pk Go.RowKit
def anyB : Any → Bytes
 | .i n => Lib.itoa n
 | .s b => b
def anyOk : Any → Prop
 | .i n => -9223372036854775808 ≤ n ∧ n ≤ 9223372036854775807
 | .s _ => True
def spell (l : List Any) : Bytes := l.flatMap anyB
noncomputable def m38 (l : List Any) : Option Bytes := chk ((∀ x ∈ l, anyOk x) ∧ (spell l).length ≤ 1073741824) (some (spell l))
theorem atF_below {T e : TypeId} {B b : Nat} {p : Value} {l : List Value} {W W' : World} (h : Lib.BuilderAtF T e B b p l W) (hb : Below W.heap.size W W') : Lib.BuilderAtF T e B b p l W' := by
 have hlt := h.lt
 obtain ⟨hB, v, hv, hown, hne⟩ := h
 exact ⟨hB, v, (hb.block b hlt).trans hv, hown.kept (row := none) ⟨hb.os, hb.tape, hb.output, hb.size, fun k hk _ => hb.block k hk⟩ (Classical.em _), hne⟩
theorem isF_below {T e : TypeId} {B b : Nat} {l : List Value} {W W' : World} (h : Lib.IsBuilderF T e B b l W) (hb : Below W.heap.size W W') : Lib.IsBuilderF T e B b l W' :=
 h.elim (fun x => .inl (atF_below x hb)) (fun x => .inr (atF_below x hb))
theorem below_grow (W : World) (k : Nat) (os : Array Obj) : Below W.heap.size W (Sort.grow (W.drewN k) os) :=
 ⟨rfl, rfl, rfl, (by show W.heap.size ≤ (W.heap ++ os).size; rw [Array.size_append]; omega), fun b hb => Array.getElem?_append_left hb⟩
theorem spell_take {l : List Any} {i : Nat} {x : Any} (h : l[i]? = some x) : spell (l.take (i + 1)) = spell (l.take i) ++ anyB x := by
 unfold spell; rw [List.take_succ, h]; simp
theorem spell_le {l : List Any} (i : Nat) : (spell (l.take i)).length ≤ (spell l).length := by
 have : spell l = spell (l.take i) ++ spell (l.drop i) := by unfold spell; rw [← List.flatMap_append, List.take_append_drop]
 rw [this]; simp
section
variable {P : Program} {r : Option Nat} {n : Cont} {p : List PanicEntry → Cont} {a : Act} {w : World} {D : List Deferred} {k : Nat} {L : Env} {ops : Array Oper} {rest : List Oper} {d : Nat} {ty : TypeId} {pos : String} {af : Array Edge}
theorem o_taY {y : Operand} {xT t : TypeId} {v : Value} {ds : TypeDesc} (hA : Has D k a L) (hd : Nat.blt d k = true) (hu : P.underlying t = some ds) (hds : (match ds with | .interface _ => false | _ => true) = true) (hy : ev L y = some (.iface t v))
  (h : ∀ a, Has D k a ((d, .tuple #[v, .bool true]) :: L) → O P r ops n p rest a w) : O P r ops n p (⟨some d, .typeAssert y xT t true, ty, pos, af, none⟩ :: rest) a w :=
 O_run rfl (fun _ h => by cases h) (w' := w) (v := .tuple #[v, .bool true]) (by
  simp only [execOp, Instr.typeAssert, hA.eval hy]
  cases ds <;> simp at hds <;> simp [run_underlying hu, Result.andThen]) (h _ (hA.put hd _))
theorem o_taN {y : Operand} {xT t t' : TypeId} {v z : Value} {ds : TypeDesc} (hA : Has D k a L) (hd : Nat.blt d k = true) (hu : P.underlying t = some ds) (hds : (match ds with | .interface _ => false | _ => true) = true) (hz : ∀ w, (zeroValue t).run P w = .ok z w) (hne : Nat.beq t' t = false) (hy : ev L y = some (.iface t' v))
  (h : ∀ a, Has D k a ((d, .tuple #[z, .bool false]) :: L) → O P r ops n p rest a w) : O P r ops n p (⟨some d, .typeAssert y xT t true, ty, pos, af, none⟩ :: rest) a w := by
 have hn : ¬ t' = t := neq_of hne
 exact O_run rfl (fun _ h => by cases h) (w' := w) (v := .tuple #[z, .bool false]) (by
  simp only [execOp, Instr.typeAssert, hA.eval hy]
  cases ds <;> simp at hds <;> simp [run_underlying hu, Result.andThen, hn, hz]) (h _ (hA.put hd _))
theorem o_call {x : Operand} {xs : List Operand} {ats : Array TypeId} {f : FuncId} {vs : List Value} {v : Value} {R : World → Prop} (hA : Has D k a L) (hd : Nat.blt d k = true) (hf : ev L x = some (.func (.func f) #[] #[])) (hxs : evs L xs = some vs)
  (hcall : ∀ args w, (callFunc f args).run P w = .ok (.enter f args) w) (hc : Calls P f vs.toArray w fun e w' => e = .returned v ∧ R w') (h : ∀ w', R w' → ∀ a, Has D k a ((d, v) :: L) → O P r ops n p rest a w') :
  O P r ops n p (⟨some d, .call ⟨.value x, xs.toArray, ats⟩, ty, pos, af, none⟩ :: rest) a w := by
 refine O_enter rfl (fun _ h => by cases h) (run_call (first := #[]) (cap := #[]) hA hf hxs hcall) (by simpa using hc) ?_ ?_ ?_
 ·intro v' w' hv
  obtain ⟨e, hR⟩ := hv
  cases e
  exact h w' hR _ (hA.put hd _)
 ·intro ch w' hv; cases hv.1
 ·intro w' hv; cases hv.1
end
theorem w38 {M : Prop} {W : World} {H : Hp} (hH : H.le (hp W)) (hg : Gv M H) {ad_p0_ : Option Addr} {cap_p0_ : Nat} {p0_ : List Any} (h_p0_ : Sl (Flat encAny) 1 H ad_p0_ cap_p0_ p0_) {r : Bytes} (hr : m38 p0_ = some r) : Calls Tryz.prog 38 [.slice ad_p0_ p0_.length cap_p0_].toArray W (RetS M W (.string (bs r))) := by
 unfold m38 at hr
 obtain ⟨⟨hok, hlen⟩, hr⟩ := chk_some hr
 obtain rfl := Option.some.inj hr
 refine enter Tryz.func38 rfl Tryz.ntmps38 rfl ?_
 intro a hA
 refine W_seq (W_region (o_assign hA rfl rfl fun a hA => ?_))
 refine O_nil (W_seq (W_region (O_run rfl (fun _ h => by cases h) (w' := W.alloc (.cells #[.pointer none, .slice none 0 0] 174)) (v := .pointer (some ⟨W.heap.size, 0, none⟩)) (by simp [execOp, Instr.alloc, Tryz.zeroValue174, run_newVar, Value.cells]) ?_)))
 have hA1 := hA.put (d := 3) rfl (.pointer (some ⟨W.heap.size, 0, none⟩))
 have hB1 : Lib.IsBuilderF 174 5 W.heap.size W.heap.size (Lib.byteCells (spell (p0_.take 0))) (W.alloc (.cells #[.pointer none, .slice none 0 0] 174)) := (Lib.fresh_isBuilder 174 5 W).elim (fun h => .inl (.of h)) (fun h => .inr (.of h))
 have hW1 : Below W.heap.size W (W.alloc (.cells #[.pointer none, .slice none 0 0] 174)) := (Below.refl _ _).alloc (Nat.le_refl _) _
 generalize (a.put (some 3) (.pointer (some ⟨W.heap.size, 0, none⟩))) = a1 at hA1 ⊢
 generalize (W.alloc (.cells #[.pointer none, .slice none 0 0] 174)) = w1 at hB1 hW1 ⊢
 refine O_nil (W_seq (W_seq (W_region (o_move hA1 rfl rfl fun a hA => o_len hA rfl rfl Tryz.underlying171 fun a hA => o_move hA rfl rfl fun a hA => ?_))))
 refine O_nil (W_block (W_loop (fun j a w => ∃ i, i ≤ p0_.length ∧ j = p0_.length - i ∧ Has [] 35 a [(3, .pointer (some ⟨W.heap.size, 0, none⟩)), (10, .slice ad_p0_ p0_.length cap_p0_), (11, .int .i64 p0_.length), (12, .int .i64 i)] ∧ Lib.IsBuilderF 174 5 W.heap.size W.heap.size (Lib.byteCells (spell (p0_.take i))) w ∧ Below W.heap.size W w) (j := p0_.length) ⟨0, Nat.zero_le _, rfl, hA.cut ⟨rfl, rfl, rfl, rfl, trivial⟩, hB1, hW1⟩ ?_))
 rintro j a w ⟨i, hil, rfl, hA, hB, hW⟩
 have hll := h_p0_.len
 refine W_seq (W_region (o_lt hA rfl rfl rfl fun a hA => O_nil (W_seq (W_if hA rfl (fun hc => W_skip ?_) (fun hc => W_exit rfl ?_)))))
 ·have hi : i < p0_.length := by omega
  obtain ⟨x, hx⟩ : ∃ x, p0_[i]? = some x := ⟨_, List.getElem?_eq_getElem hi⟩
  have hxok := hok x (List.mem_of_getElem? hx)
  have hHw : H.le (hp w) := hH.trans (Ext.of_below hg.gl.nq hW).le
  have hlen2 : (spell (p0_.take (i + 1))).length ≤ 1073741824 := Nat.le_trans (spell_le _) hlen
  have hst := spell_take hx
  have hcnt : (spell (p0_.take i)).length + (anyB x).length ≤ 1073741824 := by rw [hst, List.length_append] at hlen2; exact hlen2
  have hBle : W.heap.size ≤ w.heap.size := hW.size
  refine W_seq (W_mono (n := fun a w' => Has [] 35 a [(3, .pointer (some ⟨W.heap.size, 0, none⟩)), (10, .slice ad_p0_ p0_.length cap_p0_), (11, .int .i64 p0_.length), (12, .int .i64 i)] ∧ Lib.BuilderAtF 174 5 W.heap.size W.heap.size (.pointer (some ⟨W.heap.size, 0, none⟩)) (Lib.byteCells (spell (p0_.take i)) ++ Lib.strCells (bs (anyB x))) w' ∧ Below W.heap.size W w') ?_ (fun _ _ h => h) (fun _ K _ _ hK h => ⟨K, hK, h⟩) (fun _ _ _ h => h) ?_)
  ·rintro a w' ⟨hA, hB, hW⟩
   exact W_region (o_add hA rfl rfl rfl (by omega) (by omega) fun a hA => o_move hA rfl rfl fun a hA => O_nil ⟨p0_.length - (i + 1), by omega, i + 1, by omega, rfl, hA.cut ⟨rfl, rfl, rfl, by simp [lk], trivial⟩, .inr (by rw [hst]; unfold Lib.byteCells at *; rw [List.map_append]; exact hB), hW⟩)
  refine W_block (W_seq (W_region (o_ia hA rfl rfl rfl Tryz.underlying171 Tryz.sizeOf20 (h_p0_.mono (Flat.mono _) hHw) rfl rfl hx fun q cs hq hcs hf a hA => o_load (v := anyV x) hA rfl rfl Tryz.isAgg20 hq (by rw [show cs = encAny x from hf]; rfl) fun a hA => o_assign hA rfl rfl fun a hA => O_nil ?_)))
  clear hf hq hcs
  cases x with
  | i z =>
   refine W_seq (W_region (o_move hA rfl rfl fun a hA => o_taY hA rfl Tryz.underlying3 rfl rfl fun a hA => o_move hA rfl rfl fun a hA => o_ext (vs := [.int .i64 z, .bool true]) hA rfl rfl rfl fun a hA => o_ext (vs := [.int .i64 z, .bool true]) hA rfl rfl rfl fun a hA => o_assign hA rfl rfl fun a hA => o_assign hA rfl rfl fun a hA => O_nil ?_))
   refine W_seq (W_region (o_move hA rfl rfl fun a hA => O_nil (W_cond hA rfl (fun _ => ?_) (fun h => by cases h))))
   refine W_region (o_move hA rfl rfl fun a hA => o_call (x := .func 59) (xs := [.tmp 22]) hA rfl rfl rfl Tryz.call59 (itoaC hHw hg z hxok.1 hxok.2) ?_)
   rintro w' ⟨k, os, rfl⟩ a hA
   have hb := below_grow w k os
   have hW' := hW.trans (hb.mono hBle)
   refine o_call (x := .func 58) (xs := [.tmp 3, .tmp 23]) hA rfl rfl rfl Tryz.call58 (Tryz.bWrite W.heap.size W.heap.size _ (bs (Lib.itoa z)) _ (isF_below hB hb) ?_ hW'.size) ?_
   ·rw [Lib.byteCells_length, bs_size]; have : (Lib.itoa z).length = (anyB (.i z)).length := rfl; omega
   rintro w' ⟨hB', hW2⟩ a hA
   exact O_nil ⟨hA.cut ⟨rfl, rfl, rfl, rfl, trivial⟩, hB', hW'.trans hW2⟩
  | s z =>
   refine W_seq (W_region (o_move hA rfl rfl fun a hA => o_taN hA rfl Tryz.underlying3 rfl Tryz.zeroValue3 rfl rfl fun a hA => o_move hA rfl rfl fun a hA => o_ext (vs := [.int .i64 0, .bool false]) hA rfl rfl rfl fun a hA => o_ext (vs := [.int .i64 0, .bool false]) hA rfl rfl rfl fun a hA => o_assign hA rfl rfl fun a hA => o_assign hA rfl rfl fun a hA => O_nil ?_))
   refine W_seq (W_region (o_move hA rfl rfl fun a hA => O_nil (W_cond hA rfl (fun h => by cases h) (fun _ => ?_))))
   refine W_seq (W_region (o_move hA rfl rfl fun a hA => o_taY hA rfl Tryz.underlying9 rfl rfl fun a hA => o_move hA rfl rfl fun a hA => o_ext (vs := [.string (bs z), .bool true]) hA rfl rfl rfl fun a hA => o_ext (vs := [.string (bs z), .bool true]) hA rfl rfl rfl fun a hA => o_assign hA rfl rfl fun a hA => o_assign hA rfl rfl fun a hA => O_nil ?_))
   refine W_seq (W_region (o_move hA rfl rfl fun a hA => O_nil (W_cond hA rfl (fun _ => ?_) (fun h => by cases h))))
   refine W_region (o_move hA rfl rfl fun a hA => o_call (x := .func 58) (xs := [.tmp 3, .tmp 31]) hA rfl rfl rfl Tryz.call58 (Tryz.bWrite W.heap.size W.heap.size _ (bs z) _ hB ?_ hBle) ?_)
   ·rw [Lib.byteCells_length, bs_size]; have : z.length = (anyB (.s z)).length := rfl; omega
   rintro w' ⟨hB', hW2⟩ a hA
   exact O_nil ⟨hA.cut ⟨rfl, rfl, rfl, rfl, trivial⟩, hB', hW.trans hW2⟩
 ·have hi : i = p0_.length := by omega
  subst hi
  rw [List.take_length] at hB
  refine W_seq (W_region (o_call (x := .func 60) (xs := [.tmp 3]) hA rfl rfl rfl Tryz.call60 (Any.Builder_String_any_f Tryz.lays169 Tryz.Builder_Extra_169 W.heap.size W.heap.size (spell p0_) w hB hW.size) ?_))
  rintro w' ⟨hB', hW'⟩ a hA
  refine o_assign hA rfl rfl fun a hA => O_nil (W_ret (ret1 hA rfl rfl ?_))
  exact ⟨rfl, Ext.of_below hg.gl.nq (hW.trans hW')⟩
end T10
namespace T10
open Go Go.Proofs Pk
structure Paragraph where
 anchor : Int
 text : Bytes
 deriving DecidableEq, Inhabited
def encParagraph (x : Paragraph) : List Value := [.int .i64 x.anchor, .string (bs x.text)]
structure Part where
 day : Int
 paragraphs : List Paragraph
 deriving DecidableEq, Inhabited
def RPart : Hp → List Value → Part → Prop := fun H cs x => ∃ (ad0 : Option Addr) (cap0 : Nat), cs = [.int .i64 x.day, .slice ad0 x.paragraphs.length cap0] ∧ Sl (Flat encParagraph) 2 H ad0 cap0 x.paragraphs
theorem RPart.mono : Mono RPart := fun _ _ _ _ hk ⟨a0, c0, h, f0⟩ => ⟨a0, c0, h, f0.mono (Flat.mono _) hk⟩
structure Volume where
 number : Int
 bound : Int
 height : Int
 width : Int
 parts : List Part
 deriving DecidableEq, Inhabited
def RVolume : Hp → List Value → Volume → Prop := fun H cs x => ∃ (ad0 : Option Addr) (cap0 : Nat), cs = [.int .i64 x.number, .int .i64 x.bound, .int .i64 x.height, .int .i64 x.width, .slice ad0 x.parts.length cap0] ∧ Sl (RPart) 2 H ad0 cap0 x.parts
theorem RVolume.mono : Mono RVolume := fun _ _ _ _ hk ⟨a0, c0, h, f0⟩ => ⟨a0, c0, h, f0.mono (RPart.mono) hk⟩
structure Erratum where
 number : Int
 day : Int
 kind : Int
 anchor : Int
 text : Bytes
 new_ : Int
 deriving DecidableEq, Inhabited
def encErratum (x : Erratum) : List Value := [.int .i64 x.number, .int .i64 x.day, .int .u8 x.kind, .int .i64 x.anchor, .string (bs x.text), .int .i64 x.new_]
structure Reader where
 year : Int
 may : List Int
 deriving DecidableEq, Inhabited
def RReader : Hp → List Value → Reader → Prop := fun H cs x => ∃ (ad0 : Option Addr) (cap0 : Nat), cs = [.int .i64 x.year, .slice ad0 x.may.length cap0] ∧ Sl (Flat (encI .i64)) 1 H ad0 cap0 x.may
theorem RReader.mono : Mono RReader := fun _ _ _ _ hk ⟨a0, c0, h, f0⟩ => ⟨a0, c0, h, f0.mono (Flat.mono _) hk⟩
structure entry where
 paragraph : Paragraph
 removed : Bool
 deriving DecidableEq, Inhabited
def encentry (x : entry) : List Value := [.int .i64 x.paragraph.anchor, .string (bs x.paragraph.text), .bool x.removed]
structure edition where
 volume : Volume
 parts : List (List entry)
 deriving DecidableEq, Inhabited
def Redition : Hp → List Value → edition → Prop := fun H cs x => ∃ (ad0 : Option Addr) (cap0 : Nat) (ad1 : Option Addr) (cap1 : Nat), cs = [.int .i64 x.volume.number, .int .i64 x.volume.bound, .int .i64 x.volume.height, .int .i64 x.volume.width, .slice ad0 x.volume.parts.length cap0, .slice ad1 x.parts.length cap1] ∧ Sl (RPart) 2 H ad0 cap0 x.volume.parts ∧ Sl (RSl (Flat encentry) 3) 1 H ad1 cap1 x.parts
structure Place where
 anchor : Int
 column : Int
 line : Int
 lines : Int
 deriving DecidableEq, Inhabited
def encPlace (x : Place) : List Value := [.int .i64 x.anchor, .int .i64 x.column, .int .i64 x.line, .int .i64 x.lines]
structure printed where
 place : Place
 day : Int
 number : Int
 deriving DecidableEq, Inhabited
def encprinted (x : printed) : List Value := [.int .i64 x.place.anchor, .int .i64 x.place.column, .int .i64 x.place.line, .int .i64 x.place.lines, .int .i64 x.day, .int .i64 x.number]
structure Word where
 text : Bytes
 heads : List Int
 deriving DecidableEq, Inhabited
def RWord : Hp → List Value → Word → Prop := fun H cs x => ∃ (ad0 : Option Addr) (cap0 : Nat), cs = [.string (bs x.text), .slice ad0 x.heads.length cap0] ∧ Sl (Flat (encI .i64)) 1 H ad0 cap0 x.heads
theorem RWord.one : OneR RWord := fun _ _ _ ⟨_, _, h, _⟩ => by subst h; rfl
theorem RWord.mono : Mono RWord := fun _ _ _ _ hk ⟨a0, c0, h, f0⟩ => ⟨a0, c0, h, f0.mono (Flat.mono _) hk⟩
structure Order where
 from_ : Int
 to_ : Int
 kind : Int
 until_ : Int
 deriving DecidableEq, Inhabited
def encOrder (x : Order) : List Value := [.int .i64 x.from_, .int .i64 x.to_, .int .i64 x.kind, .int .i64 x.until_]
structure Report where
 words : List Word
 orders : List Order
 columns : Int
 deriving DecidableEq, Inhabited
def RReport : Hp → List Value → Report → Prop := fun H cs x => ∃ (ad0 : Option Addr) (cap0 : Nat) (ad1 : Option Addr) (cap1 : Nat), cs = [.slice ad0 x.words.length cap0, .slice ad1 x.orders.length cap1, .int .i64 x.columns] ∧ Sl (RWord) 2 H ad0 cap0 x.words ∧ Sl (Flat encOrder) 4 H ad1 cap1 x.orders
theorem RReport.mono : Mono RReport := fun _ _ _ _ hk ⟨a0, c0, a1, c1, h, f0, f1⟩ => ⟨a0, c0, a1, c1, h, f0.mono (RWord.mono) hk, f1.mono (Flat.mono _) hk⟩
structure A60_Bool where
 e0 : Bool
 e1 : Bool
 e2 : Bool
 e3 : Bool
 e4 : Bool
 e5 : Bool
 e6 : Bool
 e7 : Bool
 e8 : Bool
 e9 : Bool
 e10 : Bool
 e11 : Bool
 e12 : Bool
 e13 : Bool
 e14 : Bool
 e15 : Bool
 e16 : Bool
 e17 : Bool
 e18 : Bool
 e19 : Bool
 e20 : Bool
 e21 : Bool
 e22 : Bool
 e23 : Bool
 e24 : Bool
 e25 : Bool
 e26 : Bool
 e27 : Bool
 e28 : Bool
 e29 : Bool
 e30 : Bool
 e31 : Bool
 e32 : Bool
 e33 : Bool
 e34 : Bool
 e35 : Bool
 e36 : Bool
 e37 : Bool
 e38 : Bool
 e39 : Bool
 e40 : Bool
 e41 : Bool
 e42 : Bool
 e43 : Bool
 e44 : Bool
 e45 : Bool
 e46 : Bool
 e47 : Bool
 e48 : Bool
 e49 : Bool
 e50 : Bool
 e51 : Bool
 e52 : Bool
 e53 : Bool
 e54 : Bool
 e55 : Bool
 e56 : Bool
 e57 : Bool
 e58 : Bool
 e59 : Bool
 deriving Inhabited
def encA60_Bool (x : A60_Bool) : List Value := [.bool x.e0, .bool x.e1, .bool x.e2, .bool x.e3, .bool x.e4, .bool x.e5, .bool x.e6, .bool x.e7, .bool x.e8, .bool x.e9, .bool x.e10, .bool x.e11, .bool x.e12, .bool x.e13, .bool x.e14, .bool x.e15, .bool x.e16, .bool x.e17, .bool x.e18, .bool x.e19, .bool x.e20, .bool x.e21, .bool x.e22, .bool x.e23, .bool x.e24, .bool x.e25, .bool x.e26, .bool x.e27, .bool x.e28, .bool x.e29, .bool x.e30, .bool x.e31, .bool x.e32, .bool x.e33, .bool x.e34, .bool x.e35, .bool x.e36, .bool x.e37, .bool x.e38, .bool x.e39, .bool x.e40, .bool x.e41, .bool x.e42, .bool x.e43, .bool x.e44, .bool x.e45, .bool x.e46, .bool x.e47, .bool x.e48, .bool x.e49, .bool x.e50, .bool x.e51, .bool x.e52, .bool x.e53, .bool x.e54, .bool x.e55, .bool x.e56, .bool x.e57, .bool x.e58, .bool x.e59]
def A60_Bool.vals (x : A60_Bool) : List Bool := [x.e0, x.e1, x.e2, x.e3, x.e4, x.e5, x.e6, x.e7, x.e8, x.e9, x.e10, x.e11, x.e12, x.e13, x.e14, x.e15, x.e16, x.e17, x.e18, x.e19, x.e20, x.e21, x.e22, x.e23, x.e24, x.e25, x.e26, x.e27, x.e28, x.e29, x.e30, x.e31, x.e32, x.e33, x.e34, x.e35, x.e36, x.e37, x.e38, x.e39, x.e40, x.e41, x.e42, x.e43, x.e44, x.e45, x.e46, x.e47, x.e48, x.e49, x.e50, x.e51, x.e52, x.e53, x.e54, x.e55, x.e56, x.e57, x.e58, x.e59]
def A60_Bool.get (x : A60_Bool) (j : Nat) : Bool := x.vals.getD j default
def A60_Bool.set (x : A60_Bool) (j : Nat) (v : Bool) : A60_Bool := ⟨if j = 0 then v else x.e0, if j = 1 then v else x.e1, if j = 2 then v else x.e2, if j = 3 then v else x.e3, if j = 4 then v else x.e4, if j = 5 then v else x.e5, if j = 6 then v else x.e6, if j = 7 then v else x.e7, if j = 8 then v else x.e8, if j = 9 then v else x.e9, if j = 10 then v else x.e10, if j = 11 then v else x.e11, if j = 12 then v else x.e12, if j = 13 then v else x.e13, if j = 14 then v else x.e14, if j = 15 then v else x.e15, if j = 16 then v else x.e16, if j = 17 then v else x.e17, if j = 18 then v else x.e18, if j = 19 then v else x.e19, if j = 20 then v else x.e20, if j = 21 then v else x.e21, if j = 22 then v else x.e22, if j = 23 then v else x.e23, if j = 24 then v else x.e24, if j = 25 then v else x.e25, if j = 26 then v else x.e26, if j = 27 then v else x.e27, if j = 28 then v else x.e28, if j = 29 then v else x.e29, if j = 30 then v else x.e30, if j = 31 then v else x.e31, if j = 32 then v else x.e32, if j = 33 then v else x.e33, if j = 34 then v else x.e34, if j = 35 then v else x.e35, if j = 36 then v else x.e36, if j = 37 then v else x.e37, if j = 38 then v else x.e38, if j = 39 then v else x.e39, if j = 40 then v else x.e40, if j = 41 then v else x.e41, if j = 42 then v else x.e42, if j = 43 then v else x.e43, if j = 44 then v else x.e44, if j = 45 then v else x.e45, if j = 46 then v else x.e46, if j = 47 then v else x.e47, if j = 48 then v else x.e48, if j = 49 then v else x.e49, if j = 50 then v else x.e50, if j = 51 then v else x.e51, if j = 52 then v else x.e52, if j = 53 then v else x.e53, if j = 54 then v else x.e54, if j = 55 then v else x.e55, if j = 56 then v else x.e56, if j = 57 then v else x.e57, if j = 58 then v else x.e58, if j = 59 then v else x.e59⟩
def A60_Bool.zero : A60_Bool := ⟨false, false, false, false, false, false, false, false, false, false, false, false, false, false, false, false, false, false, false, false, false, false, false, false, false, false, false, false, false, false, false, false, false, false, false, false, false, false, false, false, false, false, false, false, false, false, false, false, false, false, false, false, false, false, false, false, false, false, false, false⟩
theorem A60_Bool.vset (x : A60_Bool) (v : Bool) : ∀ (j : Nat), j < 60 → (x.set j v).vals = x.vals.set j v
 | 0, _ => rfl
 | 1, _ => rfl
 | 2, _ => rfl
 | 3, _ => rfl
 | 4, _ => rfl
 | 5, _ => rfl
 | 6, _ => rfl
 | 7, _ => rfl
 | 8, _ => rfl
 | 9, _ => rfl
 | 10, _ => rfl
 | 11, _ => rfl
 | 12, _ => rfl
 | 13, _ => rfl
 | 14, _ => rfl
 | 15, _ => rfl
 | 16, _ => rfl
 | 17, _ => rfl
 | 18, _ => rfl
 | 19, _ => rfl
 | 20, _ => rfl
 | 21, _ => rfl
 | 22, _ => rfl
 | 23, _ => rfl
 | 24, _ => rfl
 | 25, _ => rfl
 | 26, _ => rfl
 | 27, _ => rfl
 | 28, _ => rfl
 | 29, _ => rfl
 | 30, _ => rfl
 | 31, _ => rfl
 | 32, _ => rfl
 | 33, _ => rfl
 | 34, _ => rfl
 | 35, _ => rfl
 | 36, _ => rfl
 | 37, _ => rfl
 | 38, _ => rfl
 | 39, _ => rfl
 | 40, _ => rfl
 | 41, _ => rfl
 | 42, _ => rfl
 | 43, _ => rfl
 | 44, _ => rfl
 | 45, _ => rfl
 | 46, _ => rfl
 | 47, _ => rfl
 | 48, _ => rfl
 | 49, _ => rfl
 | 50, _ => rfl
 | 51, _ => rfl
 | 52, _ => rfl
 | 53, _ => rfl
 | 54, _ => rfl
 | 55, _ => rfl
 | 56, _ => rfl
 | 57, _ => rfl
 | 58, _ => rfl
 | 59, _ => rfl
 | n + 60, h => absurd h (by omega)
theorem A60_Bool.em (x : A60_Bool) : encA60_Bool x = x.vals.map (fun v => Value.bool v) := rfl
theorem A60_Bool.st {x : A60_Bool} {j : Nat} {v : Bool} (h : j < 60) : (encA60_Bool x).set j (Value.bool v) = encA60_Bool (x.set j v) := by rw [A60_Bool.em, A60_Bool.em, A60_Bool.vset x v j h, List.map_set]
theorem A60_Bool.at {x : A60_Bool} {j : Nat} (h : j < 60) : (encA60_Bool x)[j]? = some (Value.bool (x.get j)) := by
 have h2 : x.vals[j]? = some (x.get j) := by unfold A60_Bool.get; rw [List.getD_eq_getElem?_getD, List.getElem?_eq_getElem (show j < x.vals.length from h)]; rfl
 rw [A60_Bool.em, List.getElem?_map, h2]; rfl
structure reading where
 report : Report
 reader : Reader
 veil : A60_Bool
 deriving Inhabited
def Rreading : Hp → List Value → reading → Prop := fun H cs x => ∃ (ad0 : Option Addr) (cap0 : Nat) (ad1 : Option Addr) (cap1 : Nat) (ad2 : Option Addr) (cap2 : Nat), cs = [.slice ad0 x.report.words.length cap0, .slice ad1 x.report.orders.length cap1, .int .i64 x.report.columns, .int .i64 x.reader.year, .slice ad2 x.reader.may.length cap2, .bool x.veil.e0, .bool x.veil.e1, .bool x.veil.e2, .bool x.veil.e3, .bool x.veil.e4, .bool x.veil.e5, .bool x.veil.e6, .bool x.veil.e7, .bool x.veil.e8, .bool x.veil.e9, .bool x.veil.e10, .bool x.veil.e11, .bool x.veil.e12, .bool x.veil.e13, .bool x.veil.e14, .bool x.veil.e15, .bool x.veil.e16, .bool x.veil.e17, .bool x.veil.e18, .bool x.veil.e19, .bool x.veil.e20, .bool x.veil.e21, .bool x.veil.e22, .bool x.veil.e23, .bool x.veil.e24, .bool x.veil.e25, .bool x.veil.e26, .bool x.veil.e27, .bool x.veil.e28, .bool x.veil.e29, .bool x.veil.e30, .bool x.veil.e31, .bool x.veil.e32, .bool x.veil.e33, .bool x.veil.e34, .bool x.veil.e35, .bool x.veil.e36, .bool x.veil.e37, .bool x.veil.e38, .bool x.veil.e39, .bool x.veil.e40, .bool x.veil.e41, .bool x.veil.e42, .bool x.veil.e43, .bool x.veil.e44, .bool x.veil.e45, .bool x.veil.e46, .bool x.veil.e47, .bool x.veil.e48, .bool x.veil.e49, .bool x.veil.e50, .bool x.veil.e51, .bool x.veil.e52, .bool x.veil.e53, .bool x.veil.e54, .bool x.veil.e55, .bool x.veil.e56, .bool x.veil.e57, .bool x.veil.e58, .bool x.veil.e59] ∧ Sl (RWord) 2 H ad0 cap0 x.report.words ∧ Sl (Flat encOrder) 4 H ad1 cap1 x.report.orders ∧ Sl (Flat (encI .i64)) 1 H ad2 cap2 x.reader.may
theorem Rreading.mono : Mono Rreading := fun _ _ _ _ hk ⟨a0, c0, a1, c1, a2, c2, h, f0, f1, f2⟩ => ⟨a0, c0, a1, c1, a2, c2, h, f0.mono (RWord.mono) hk, f1.mono (Flat.mono _) hk, f2.mono (Flat.mono _) hk⟩
structure Piece where
 text : Bytes
 column : Int
 deriving DecidableEq, Inhabited
def encPiece (x : Piece) : List Value := [.string (bs x.text), .int .i64 x.column]
structure A3_Int where
 e0 : Int
 e1 : Int
 e2 : Int
 deriving DecidableEq, Inhabited
structure cited where
 style : Int
 numbers : A3_Int
 deriving DecidableEq, Inhabited
def enccited (x : cited) : List Value := [.int .u8 x.style, .int .i64 x.numbers.e0, .int .i64 x.numbers.e1, .int .i64 x.numbers.e2]
theorem mixed : Tryz.prog.follows .mixedOrders = true := by kernel_rfl
theorem B42 : BuildAt Tryz.prog 42 [.int .i64 0, .int .i64 0, .int .i64 0, .int .i64 0, .slice none 0 0] #[(0, 1), (1, 1), (2, 1), (3, 1), (4, 1)] := ⟨⟨.agg [.int .i64 0, .int .i64 0, .int .i64 0, .int .i64 0, .slice none 0 0].toArray, rfl, Tryz.zeroValue42⟩, ⟨_, Tryz.underlying42, fun _ => by kernel_rfl⟩⟩
theorem B48 : BuildAt Tryz.prog 48 [.slice none 0 0, .slice none 0 0, .int .i64 0] #[(0, 1), (1, 1), (2, 1)] := ⟨⟨.agg [.slice none 0 0, .slice none 0 0, .int .i64 0].toArray, rfl, Tryz.zeroValue48⟩, ⟨_, Tryz.underlying48, fun _ => by kernel_rfl⟩⟩
theorem B52 : BuildAt Tryz.prog 52 [.int .i64 0, .string (bs [])] #[(0, 1), (1, 1)] := ⟨⟨.agg [.int .i64 0, .string (bs [])].toArray, rfl, Tryz.zeroValue52⟩, ⟨_, Tryz.underlying52, fun _ => by kernel_rfl⟩⟩
theorem B54 : BuildAt Tryz.prog 54 [.string (bs []), .slice none 0 0] #[(0, 1), (1, 1)] := ⟨⟨.agg [.string (bs []), .slice none 0 0].toArray, rfl, Tryz.zeroValue54⟩, ⟨_, Tryz.underlying54, fun _ => by kernel_rfl⟩⟩
theorem B62 : BuildAt Tryz.prog 62 [.slice none 0 0, .slice none 0 0, .int .i64 0] #[(0, 1), (1, 1), (2, 1)] := ⟨⟨.agg [.slice none 0 0, .slice none 0 0, .int .i64 0].toArray, rfl, Tryz.zeroValue62⟩, ⟨_, Tryz.underlying62, fun _ => by kernel_rfl⟩⟩
theorem B64 : BuildAt Tryz.prog 64 [.int .i64 0, .slice none 0 0] #[(0, 1), (1, 1)] := ⟨⟨.agg [.int .i64 0, .slice none 0 0].toArray, rfl, Tryz.zeroValue64⟩, ⟨_, Tryz.underlying64, fun _ => by kernel_rfl⟩⟩
theorem B67 : BuildAt Tryz.prog 67 [.string (bs []), .int .i64 0] #[(0, 1), (1, 1)] := ⟨⟨.agg [.string (bs []), .int .i64 0].toArray, rfl, Tryz.zeroValue67⟩, ⟨_, Tryz.underlying67, fun _ => by kernel_rfl⟩⟩
theorem B81 : BuildAt Tryz.prog 81 [.int .i64 0, .int .i64 0, .int .i64 0, .int .i64 0] #[(0, 1), (1, 1), (2, 1), (3, 1)] := ⟨⟨.agg [.int .i64 0, .int .i64 0, .int .i64 0, .int .i64 0].toArray, rfl, Tryz.zeroValue81⟩, ⟨_, Tryz.underlying81, fun _ => by kernel_rfl⟩⟩
theorem B105 : BuildAt Tryz.prog 105 [.int .i64 0, .slice none 0 0] #[(0, 1), (1, 1)] := ⟨⟨.agg [.int .i64 0, .slice none 0 0].toArray, rfl, Tryz.zeroValue105⟩, ⟨_, Tryz.underlying105, fun _ => by kernel_rfl⟩⟩
theorem B110 : BuildAt Tryz.prog 110 [.int .i64 0, .int .i64 0, .int .i64 0, .int .i64 0, .slice none 0 0, .slice none 0 0] #[(0, 5), (5, 1)] := ⟨⟨.agg [.int .i64 0, .int .i64 0, .int .i64 0, .int .i64 0, .slice none 0 0, .slice none 0 0].toArray, rfl, Tryz.zeroValue110⟩, ⟨_, Tryz.underlying110, fun _ => by kernel_rfl⟩⟩
theorem B115 : BuildAt Tryz.prog 115 [.int .i64 0, .string (bs []), .bool false] #[(0, 2), (2, 1)] := ⟨⟨.agg [.int .i64 0, .string (bs []), .bool false].toArray, rfl, Tryz.zeroValue115⟩, ⟨_, Tryz.underlying115, fun _ => by kernel_rfl⟩⟩
theorem B116 : BuildAt Tryz.prog 116 [.int .i64 0, .int .i64 0, .int .u8 0, .int .i64 0, .string (bs []), .int .i64 0] #[(0, 1), (1, 1), (2, 1), (3, 1), (4, 1), (5, 1)] := ⟨⟨.agg [.int .i64 0, .int .i64 0, .int .u8 0, .int .i64 0, .string (bs []), .int .i64 0].toArray, rfl, Tryz.zeroValue116⟩, ⟨_, Tryz.underlying116, fun _ => by kernel_rfl⟩⟩
theorem B124 : BuildAt Tryz.prog 124 [.int .i64 0, .int .i64 0, .int .i64 0, .int .i64 0, .int .i64 0, .int .i64 0] #[(0, 4), (4, 1), (5, 1)] := ⟨⟨.agg [.int .i64 0, .int .i64 0, .int .i64 0, .int .i64 0, .int .i64 0, .int .i64 0].toArray, rfl, Tryz.zeroValue124⟩, ⟨_, Tryz.underlying124, fun _ => by kernel_rfl⟩⟩
theorem B128 : BuildArr Tryz.prog 128 4 (encA60_Bool A60_Bool.zero) 1 := ⟨⟨.agg (encA60_Bool A60_Bool.zero).toArray, rfl, Tryz.zeroValue128⟩, ⟨_, Tryz.underlying128⟩, Tryz.sizeOf4⟩
theorem B130 : BuildAt Tryz.prog 130 (apV [.slice none 0 0, .slice none 0 0, .int .i64 0, .int .i64 0, .slice none 0 0] (encA60_Bool A60_Bool.zero)) #[(0, 3), (3, 2), (5, 60)] := ⟨⟨.agg (apV [.slice none 0 0, .slice none 0 0, .int .i64 0, .int .i64 0, .slice none 0 0] (encA60_Bool A60_Bool.zero)).toArray, rfl, Tryz.zeroValue130⟩, ⟨_, Tryz.underlying130, fun _ => by kernel_rfl⟩⟩
theorem B137 : BuildAt Tryz.prog 137 [.string (bs []), .slice none 0 0] #[(0, 1), (1, 1)] := ⟨⟨.agg [.string (bs []), .slice none 0 0].toArray, rfl, Tryz.zeroValue137⟩, ⟨_, Tryz.underlying137, fun _ => by kernel_rfl⟩⟩
theorem B138 : BuildAt Tryz.prog 138 [.int .i64 0, .int .i64 0, .int .i64 0, .int .i64 0] #[(0, 1), (1, 1), (2, 1), (3, 1)] := ⟨⟨.agg [.int .i64 0, .int .i64 0, .int .i64 0, .int .i64 0].toArray, rfl, Tryz.zeroValue138⟩, ⟨_, Tryz.underlying138, fun _ => by kernel_rfl⟩⟩
theorem B139 : BuildArr Tryz.prog 139 3 [.int .i64 0, .int .i64 0, .int .i64 0] 1 := ⟨⟨.agg [.int .i64 0, .int .i64 0, .int .i64 0].toArray, rfl, Tryz.zeroValue139⟩, ⟨_, Tryz.underlying139⟩, Tryz.sizeOf3⟩
theorem B141 : BuildAt Tryz.prog 141 [.int .u8 0, .int .i64 0, .int .i64 0, .int .i64 0] #[(0, 1), (1, 3)] := ⟨⟨.agg [.int .u8 0, .int .i64 0, .int .i64 0, .int .i64 0].toArray, rfl, Tryz.zeroValue141⟩, ⟨_, Tryz.underlying141, fun _ => by kernel_rfl⟩⟩
theorem B168 : BuildAt Tryz.prog 168 [.nilFunc] #[(0, 1)] := ⟨⟨.agg [.nilFunc].toArray, rfl, Tryz.zeroValue168⟩, ⟨_, Tryz.underlying168, fun _ => by kernel_rfl⟩⟩
theorem B187 : BuildAt Tryz.prog 187 [.string (bs [])] #[(0, 1)] := ⟨⟨.agg [.string (bs [])].toArray, rfl, Tryz.zeroValue187⟩, ⟨_, Tryz.underlying187, fun _ => by kernel_rfl⟩⟩
theorem E28 : ElemAt Tryz.prog 28 3 [.int .i64 0] 1 8 := ⟨Tryz.underlying28, ⟨_, .int .i64 0, info_of Tryz.type3, rfl, rfl, rfl, rfl⟩, rfl, by decide⟩
theorem E36 : ElemAt Tryz.prog 36 52 [.int .i64 0, .string (bs [])] 2 24 := ⟨Tryz.underlying36, ⟨_, .agg [.int .i64 0, .string (bs [])].toArray, info_of Tryz.type52, rfl, rfl, rfl, rfl⟩, rfl, by decide⟩
theorem E40 : ElemAt Tryz.prog 40 105 [.int .i64 0, .slice none 0 0] 2 32 := ⟨Tryz.underlying40, ⟨_, .agg [.int .i64 0, .slice none 0 0].toArray, info_of Tryz.type105, rfl, rfl, rfl, rfl⟩, rfl, by decide⟩
theorem E44 : ElemAt Tryz.prog 44 116 [.int .i64 0, .int .i64 0, .int .u8 0, .int .i64 0, .string (bs []), .int .i64 0] 6 56 := ⟨Tryz.underlying44, ⟨_, .agg [.int .i64 0, .int .i64 0, .int .u8 0, .int .i64 0, .string (bs []), .int .i64 0].toArray, info_of Tryz.type116, rfl, rfl, rfl, rfl⟩, rfl, by decide⟩
theorem E46 : ElemAt Tryz.prog 46 54 [.string (bs []), .slice none 0 0] 2 40 := ⟨Tryz.underlying46, ⟨_, .agg [.string (bs []), .slice none 0 0].toArray, info_of Tryz.type54, rfl, rfl, rfl, rfl⟩, rfl, by decide⟩
theorem E56 : ElemAt Tryz.prog 56 67 [.string (bs []), .int .i64 0] 2 24 := ⟨Tryz.underlying56, ⟨_, .agg [.string (bs []), .int .i64 0].toArray, info_of Tryz.type67, rfl, rfl, rfl, rfl⟩, rfl, by decide⟩
theorem E59 : ElemAt Tryz.prog 59 137 [.string (bs []), .slice none 0 0] 2 40 := ⟨Tryz.underlying59, ⟨_, .agg [.string (bs []), .slice none 0 0].toArray, info_of Tryz.type137, rfl, rfl, rfl, rfl⟩, rfl, by decide⟩
theorem E60 : ElemAt Tryz.prog 60 138 [.int .i64 0, .int .i64 0, .int .i64 0, .int .i64 0] 4 32 := ⟨Tryz.underlying60, ⟨_, .agg [.int .i64 0, .int .i64 0, .int .i64 0, .int .i64 0].toArray, info_of Tryz.type138, rfl, rfl, rfl, rfl⟩, rfl, by decide⟩
theorem E74 : ElemAt Tryz.prog 74 81 [.int .i64 0, .int .i64 0, .int .i64 0, .int .i64 0] 4 32 := ⟨Tryz.underlying74, ⟨_, .agg [.int .i64 0, .int .i64 0, .int .i64 0, .int .i64 0].toArray, info_of Tryz.type81, rfl, rfl, rfl, rfl⟩, rfl, by decide⟩
theorem E92 : ElemAt Tryz.prog 92 95 [.int .i64 0, .string (bs [])] 2 24 := ⟨Tryz.underlying92, ⟨_, .agg [.int .i64 0, .string (bs [])].toArray, info_of Tryz.type95, rfl, rfl, rfl, rfl⟩, rfl, by decide⟩
theorem E108 : ElemAt Tryz.prog 108 113 [.slice none 0 0] 1 24 := ⟨Tryz.underlying108, ⟨_, .slice none 0 0, info_of Tryz.type113, rfl, rfl, rfl, rfl⟩, rfl, by decide⟩
theorem E113 : ElemAt Tryz.prog 113 115 [.int .i64 0, .string (bs []), .bool false] 3 32 := ⟨Tryz.underlying113, ⟨_, .agg [.int .i64 0, .string (bs []), .bool false].toArray, info_of Tryz.type115, rfl, rfl, rfl, rfl⟩, rfl, by decide⟩
theorem E121 : ElemAt Tryz.prog 121 124 [.int .i64 0, .int .i64 0, .int .i64 0, .int .i64 0, .int .i64 0, .int .i64 0] 6 48 := ⟨Tryz.underlying121, ⟨_, .agg [.int .i64 0, .int .i64 0, .int .i64 0, .int .i64 0, .int .i64 0, .int .i64 0].toArray, info_of Tryz.type124, rfl, rfl, rfl, rfl⟩, rfl, by decide⟩
theorem E169 : ElemAt Tryz.prog 169 168 [.nilFunc] 1 8 := ⟨Tryz.underlying169, ⟨_, .agg [.nilFunc].toArray, info_of Tryz.type168, rfl, rfl, rfl, rfl⟩, rfl, by decide⟩
theorem E171 : ElemAt Tryz.prog 171 20 [.nilIface] 1 16 := ⟨Tryz.underlying171, ⟨_, .nilIface, info_of Tryz.type20, rfl, rfl, rfl, rfl⟩, rfl, by decide⟩
theorem Q81 : EqAt Tryz.prog 81 encPlace := ⟨fun x y w => by
 have h0 : Tryz.prog.underlying 81 = some (.struct (Tryz.prog.fieldsOf 81)) := by kernel_rfl
 rw [run_equalIn_struct w 9999 81 _ _ h0 (by kernel_rfl)]
 simp only [Program.fieldsOf, Tryz.underlying81]
 have e : (x = y) = (x.anchor = y.anchor ∧ x.column = y.column ∧ x.line = y.line ∧ x.lines = y.lines) := by cases x; cases y; simp
 simp only [e]
 simp [Op.eqFields, encPlace, part, Tryz.isAgg3, eqI9 Tryz.underlying3, eqI9 Tryz.underlying3, eqI9 Tryz.underlying3, eqI9 Tryz.underlying3]
 by_cases h0 : x.anchor = y.anchor <;> by_cases h1 : x.column = y.column <;> by_cases h2 : x.line = y.line <;> by_cases h3 : x.lines = y.lines <;> simp [h0, h1, h2, h3], by kernel_rfl⟩
end T10
set_option maxHeartbeats 4000000
namespace T10
open Go Go.Proofs Pk Go.RowKit
theorem read_idle (p q : Addr) (w : World) : CallsD Tryz.prog 67 #[.pointer (some p), .pointer (some q)] .returning w fun e u' w' => e = .returned (.tuple #[]) ∧ u' = .returning ∧ w' = w := by
 refine callsD_of_wpS Tryz.func67 rfl fun c₀ cs hu => ?_
 apply wpS_seq
 apply wpS_region
 simp [wpOpsS, go_sem, recoverD, hu, Tryz.ntmps67, Exit.thenS]
 apply wpS_seq
 apply wpS_seq
 apply wpS_region
 simp [wpOpsS, go_sem, Exit.thenS]
 refine wpS_cond (t := true) (by simp [Act.eval, Array.replicate]) ?_
 simp only [if_true]
 refine wpS_of_wp (wp_ret ?_)
 cases c₀
 simp_all [Exit.thenS, bodyPostS, results, Tryz.results67]
section
variable {P : Program} {f : FuncId} {fn : Func} {c : Code} {nt : Nat} {w : World} {R : Ending → World → Prop}
theorem enterD {l : List Value} (hf : P.funcs[f]? = some fn) (hb : fn.body = some c) (hn : fn.ntmps = nt) (hl : Nat.ble l.length nt = true)
  (h : ∀ a, Has [] nt a (envOf 0 l) → Pk.W P none c (fun _ _ => False) (fun a w => Leaves P fn a.tmps R a.defers .returning w) [] (fun _ _ _ => False) a w) : Calls P f l.toArray w R := by
 have hl' : l.length ≤ nt := by simpa using hl
 have h1 := h { tmps := l.toArray ++ Array.replicate (fn.ntmps - l.toArray.size) undef, defers := [] } ⟨rfl, by simp [hn]; omega, fun i v hi => by
  obtain ⟨_, h2⟩ := lk_envOf l 0 i v hi
  simp only [Nat.sub_zero] at h2
  have hlt : i < l.length := (List.getElem?_eq_some_iff.1 h2).1
  rw [Array.getElem?_append_left (by simpa using hlt)]
  simpa using h2⟩
 refine calls_of_wp_defers hf hb ((wpIn_wide (n := 0)).1 (wpIn_mono h1 ?_))
 intro z a w hz
 cases z with
 | normal => exact hz.elim
 | ret => exact hz
 | panic ch => exact hz.elim
 | exit id => obtain ⟨K, hK, _⟩ := hz; simp [lkE] at hK
 | goto l => exact hz
 | outgrown => exact hz.elim
variable {n : Cont} {p : List PanicEntry → Cont} {a : Act} {D : List Deferred} {k : Nat} {L : Env} {ops : Array Oper} {rest : List Oper} {ty : TypeId} {pos : String} {af : Array Edge}
theorem o_defer {x : Operand} {g : FuncId} {us vs : Array Value} (hA : Has D k a L) (hx : ev L x = some (.func (.func g) us vs)) (h : ∀ a, Has (⟨.fn (.func g) vs, us⟩ :: D) k a L → O P none ops n p rest a w) : O P none ops n p (⟨none, .defer ⟨.value x, #[], #[]⟩, ty, pos, af, none⟩ :: rest) a w := by
 simp only [O, Region.wanted, if_true]
 refine ⟨fun _ _ => trivial, ?_⟩
 rw [show (FW none).round = none from rfl, Oper.semAt_none]
 have hr : (execOp a.eval ⟨none, .defer ⟨.value x, #[], #[]⟩, ty, pos, af, none⟩).run P w = .ok (.defer ⟨.fn (.func g) vs, us⟩) w := by
  simp [execOp, resolve, hA.eval hx, Deferred.ofValue]
 rw [hr]
 show O P none ops n p rest _ w
 refine h _ ⟨?_, ?_, ?_⟩
 ·simp [Act.put, hA.defers]
 ·simpa [Act.put] using hA.size
 ·intro i v hi; simpa [Act.put] using hA.get i v hi
end
theorem read43 {M : Prop} {W : World} {H : Hp} (hH : H.le (hp W)) (s : Bytes) (c : cited) (hc : ∀ (w : World) (K : Hp), K.le (hp w) → H.le K → Calls Tryz.prog 68 [.string (bs s)].toArray w (RetS M w (.agg (enccited c).toArray))) : Calls Tryz.prog 43 [.string (bs s)].toArray W (RetS M W (.tuple [.agg (enccited c).toArray, .bool true].toArray)) := by
 refine enterD Tryz.func43 rfl Tryz.ntmps43 rfl ?_
 intro a hA
 have hS := St.start M W hH
 refine W_seq (W_region (o_alloc 1 hA rfl hS Tryz.zeroValue141 rfl fun b w hS hb a hA => o_alloc 2 hA rfl hS Tryz.zeroValue4 rfl fun b2 w hS hb2 a hA => O_nil ?_))
 refine W_seq (W_region (o_func (f := .func 67) (xs := []) (ys := [.tmp 2, .tmp 3]) hA rfl rfl rfl fun a hA => o_defer hA rfl fun a hA => O_nil ?_))
 refine W_seq (W_region (o_move hA rfl rfl fun a hA => o_callS (x := .func 68) (xs := [.tmp 5]) hA rfl hS rfl rfl Tryz.call68 rfl (hc _ _ hS.vis_le (hS.at 0 rfl)) fun w hS a hA => ?_))
 refine o_store 1 (cs := enccited c) hA hS rfl rfl Tryz.sizeOf141 rfl rfl rfl rfl rfl fun w hS a hA => ?_
 refine o_store 2 (cs := [.bool true]) hA hS rfl rfl Tryz.sizeOf4 rfl rfl rfl rfl rfl fun w hS a hA => O_nil (W_ret ?_)
 rw [hA.defers]
 refine leaves_cons (f := 67) (args := #[.pointer (some ⟨b, 0, none⟩), .pointer (some ⟨b2, 0, none⟩)]) (by simp) (by simp [go_sem]) ?_
 refine (read_idle ⟨b, 0, none⟩ ⟨b2, 0, none⟩ w).mono ?_
 rintro e u' w'' ⟨rfl, rfl, rfl⟩
 show ∃ v, (results Tryz.f43 a.tmps).run Tryz.prog w'' = .ok v w'' ∧ RetS M W (.tuple [.agg (enccited c).toArray, .bool true].toArray) (.returned v) w''
 have h2 := hA.tmp (i := 2) rfl
 have h3 := hA.tmp (i := 3) rfl
 have c1 : CellsAt (hp w'') ⟨b, 0, none⟩ (enccited c) := cell_at (hS.get (t := 1) rfl)
 have c2 : CellsAt (hp w'') ⟨b2, 0, none⟩ [.bool true] := cell_at (hS.get (t := 2) rfl)
 have l1 : (loadVar 141 ⟨b, 0, none⟩).run Tryz.prog w'' = .ok (.agg (enccited c).toArray) w'' := by
  have h0 : (loadCells ⟨b, 0, none⟩ (enccited c).length).run Tryz.prog w'' = .ok (enccited c).toArray w'' := run_loadCells_list (P := Tryz.prog) (w := w'') _ (enccited c) (fun j v hv => c1.cell hv)
  have h1 : (enccited c).length = 4 := rfl
  rw [h1] at h0
  simp [loadVar, Tryz.isAgg141, Tryz.sizeOf141, h0]
 have l2 : (loadVar 4 ⟨b2, 0, none⟩).run Tryz.prog w'' = .ok (.bool true) w'' := by
  have h0 := c2.cell (j := 0) rfl
  rw [show (⟨b2, 0, none⟩ : Addr).add 0 = ⟨b2, 0, none⟩ from rfl] at h0
  simp [loadVar, Tryz.isAgg4, h0]
 refine ⟨_, ?_, rfl, hS.ext⟩
 rw [Array.getD_eq_getD_getElem?] at h2 h3
 simp [results, Tryz.results43, h2, h3, l1, l2, asAddr]
end T10
set_option maxHeartbeats 4000000
namespace T10
open Go Go.Proofs Pk Go.RowKit
section
variable {P : Program} {r : Option Nat} {n : Cont} {p : List PanicEntry → Cont} {a : Act} {w : World} {D : List Deferred} {k : Nat} {L : Env} {ops : Array Oper} {rest : List Oper} {d : Nat} {ty : TypeId} {pos : String} {af : Array Edge}
theorem o_eqN {y : Operand} {t u te : TypeId} {pe : Value} {ms : _} (hA : Has D k a L) (hu' : P.underlying t = some (.interface ms)) (hd : Nat.blt d k = true) (hy : ev L y = some (.iface te pe)) (h : ∀ a, Has D k a ((d, .bool false) :: L) → O P r ops n p rest a w) : O P r ops n p (⟨some d, .binOp .eql t y (.const .nilIface) u, ty, pos, af, none⟩ :: rest) a w := by
 have hu : P.underlying t = some (.interface (P.methodsAt t)) := by rw [hu']; simp [Program.methodsAt, hu']
 refine O_run rfl (fun _ h => by cases h) (w' := w) (v := .bool false) ?_ (h _ (hA.put hd _))
 simp [execOp, hA.eval hy, show a.eval (.const .nilIface) = .nilIface from rfl, eqGuard, run_eql_held_nil w t _ _ hu, Result.andThen]
end
theorem read_back {M : Prop} {W w : World} {H : Hp} {b b2 : Nat} {s : Bytes} (hS : St M W H [H] [(2, cel b2 4 [.bool false]), (1, cel b 141 [.int .u8 0, .int .i64 0, .int .i64 0, .int .i64 0])] w) :
  CallsD Tryz.prog 67 #[.pointer (some ⟨b, 0, none⟩), .pointer (some ⟨b2, 0, none⟩)] (.panicking (thr (.iface 187 (.agg [.string (bs s)].toArray)))) w fun e u' w' => e = .returned (.tuple #[]) ∧ u' = .panicking [{ v := .iface 187 (.agg [.string (bs s)].toArray), recovered := true }] ∧
   ∃ b3 cs3, St M W H [H] [(3, cel b3 187 cs3), (2, cel b2 4 [.bool false]), (1, cel b 141 (enccited ⟨0, ⟨0, 0, 0⟩⟩))] w' := by
 refine callsD_of_wpS Tryz.func67 rfl fun c₀ cs hu => ?_
 apply wpS_seq
 apply wpS_region
 obtain ⟨v, hv⟩ : ∃ v : Value, v = .agg [.string (bs s)].toArray := ⟨_, rfl⟩
 rw [← hv] at hu ⊢
 simp [wpOpsS, go_sem, recoverD, hu, Tryz.ntmps67, Exit.thenS, thr]
 refine wpS_of_wp ?_
 refine (wpIn_wide (n := 0)).1 (wpIn_mono (show Pk.W Tryz.prog none _ (fun a w => a.defers = [] ∧ ∃ b3 cs3, St M W H [H] [(3, cel b3 187 cs3), (2, cel b2 4 [.bool false]), (1, cel b 141 (enccited ⟨0, ⟨0, 0, 0⟩⟩))] w) (fun _ _ => False) [] (fun _ _ _ => False) _ w from ?_) ?_)
 ·have hA : Has [] 17 { tmps := #[.pointer (some ⟨b, 0, none⟩), .pointer (some ⟨b2, 0, none⟩)] ++ ((Array.replicate 15 undef).setIfInBounds 3 (.iface 187 v)).setIfInBounds 0 (.iface 187 v), defers := [] } [(0, .pointer (some ⟨b, 0, none⟩)), (1, .pointer (some ⟨b2, 0, none⟩)), (2, .iface 187 v)] := by
   refine ⟨rfl, by simp, fun i u h => ?_⟩
   rcases i with _ | _ | _ | i
   ·exact h
   ·exact h
   ·exact h
   ·cases (show (none : Option Value) = some u from h)
  revert hA
  generalize ({ tmps := _, defers := [] } : Act) = a
  intro hA
  subst hv
  refine W_seq (W_seq (W_region ?_))
  refine o_move hA rfl rfl fun a hA => ?_
  refine o_eqN hA Tryz.underlying20 rfl rfl fun a hA => O_nil (W_cond hA rfl (fun h => by cases h) (fun _ => W_skip ?_))
  refine W_seq (W_seq (W_region (o_move hA rfl rfl fun a hA => o_taY hA rfl Tryz.underlying187 rfl rfl fun a hA => o_move hA rfl rfl fun a hA => o_ext (vs := [.agg [.string (bs s)].toArray, .bool true]) hA rfl rfl rfl fun a hA => o_ext (vs := [.agg [.string (bs s)].toArray, .bool true]) hA rfl rfl rfl fun a hA => o_alloc 3 hA rfl hS Tryz.zeroValue187 rfl fun b3 w hS hb a hA => ?_)))
  refine o_store 3 (cs := [.string (bs s)]) hA hS rfl rfl Tryz.sizeOf187 rfl rfl rfl rfl rfl fun w hS a hA => o_assign hA rfl rfl fun a hA => O_nil ?_
  refine W_seq (W_region (o_move hA rfl rfl fun a hA => o_not hA rfl rfl fun a hA => O_nil (W_cond hA rfl (fun h => by cases h) (fun _ => W_skip ?_))))
  refine W_region (o_build (cs := enccited ⟨0, ⟨0, 0, 0⟩⟩) hA rfl T10.B141 rfl rfl fun a hA => ?_)
  refine o_store 1 (cs := enccited ⟨0, ⟨0, 0, 0⟩⟩) hA hS rfl rfl Tryz.sizeOf141 rfl rfl rfl rfl rfl fun w hS a hA => ?_
  refine o_store 2 (cs := [.bool false]) hA hS rfl rfl Tryz.sizeOf4 rfl rfl rfl rfl rfl fun w hS a hA => O_nil ?_
  exact ⟨hA.defers, b3, _, hS⟩
 ·intro z a w' hz
  cases z with
  | normal =>
   obtain ⟨hd, h⟩ := hz
   subst hv
   exact ⟨hd, .panicking [{ v := .iface 187 (.agg [.string (bs s)].toArray), recovered := true }], rfl, .tuple #[], by simp [results, Tryz.results67], rfl, rfl, h⟩
  | ret => exact hz.elim
  | panic ch => exact hz.elim
  | exit id => obtain ⟨K, hK, _⟩ := hz; simp [lkE] at hK
  | goto l => exact hz
  | outgrown => exact hz.elim
section
variable {P : Program} {f : FuncId} {fn : Func} {c : Code} {nt : Nat} {w : World} {R : Ending → World → Prop}
theorem enterDT {l : List Value} (hf : P.funcs[f]? = some fn) (hb : fn.body = some c) (hn : fn.ntmps = nt) (hl : Nat.ble l.length nt = true)
  (h : ∀ a, Has [] nt a (envOf 0 l) → Pk.W P none c (fun _ _ => False) (fun a w => Leaves P fn a.tmps R a.defers .returning w) [] (fun ch a w => Leaves P fn a.tmps R a.defers (.panicking ch) w) a w) : Calls P f l.toArray w R := by
 have hl' : l.length ≤ nt := by simpa using hl
 have h1 := h { tmps := l.toArray ++ Array.replicate (fn.ntmps - l.toArray.size) undef, defers := [] } ⟨rfl, by simp [hn]; omega, fun i v hi => by
  obtain ⟨_, h2⟩ := lk_envOf l 0 i v hi
  simp only [Nat.sub_zero] at h2
  have hlt : i < l.length := (List.getElem?_eq_some_iff.1 h2).1
  rw [Array.getElem?_append_left (by simpa using hlt)]
  simpa using h2⟩
 refine calls_of_wp_defers hf hb ((wpIn_wide (n := 0)).1 (wpIn_mono h1 ?_))
 intro z a w hz
 cases z with
 | normal => exact hz.elim
 | ret => exact hz
 | panic ch => exact hz
 | exit id => obtain ⟨K, hK, _⟩ := hz; simp [lkE] at hK
 | goto l => exact hz
 | outgrown => exact hz.elim
end
theorem readT {M : Prop} {W : World} {H : Hp} (hH : H.le (hp W)) (s : Bytes) (hc : ∀ (w : World) (K : Hp), K.le (hp w) → H.le K → Calls Tryz.prog 68 [.string (bs s)].toArray w (RetT M w (fun c => .agg (enccited c).toArray) (.iface 187 (.agg [.string (bs s)].toArray)) (.inr ()))) : Calls Tryz.prog 43 [.string (bs s)].toArray W (RetS M W (.tuple [.agg (enccited ⟨0, ⟨0, 0, 0⟩⟩).toArray, .bool false].toArray)) := by
 refine enterDT Tryz.func43 rfl Tryz.ntmps43 rfl ?_
 intro a hA
 have hS := St.start M W hH
 refine W_seq (W_region (o_alloc 1 hA rfl hS Tryz.zeroValue141 rfl fun b w hS hb a hA => o_alloc 2 hA rfl hS Tryz.zeroValue4 rfl fun b2 w hS hb2 a hA => O_nil ?_))
 refine W_seq (W_region (o_func (f := .func 67) (xs := []) (ys := [.tmp 2, .tmp 3]) hA rfl rfl rfl fun a hA => o_defer hA rfl fun a hA => O_nil ?_))
 refine W_seq (W_region (o_move hA rfl rfl fun a hA => ?_))
 have hcc := hc w _ hS.vis_le (hS.at 0 rfl)
 refine O_enter rfl (fun _ h => by cases h) (run_call (xs := [.tmp 5]) (first := #[]) (cap := #[]) hA (x := .func 68) rfl rfl Tryz.call68) (by simpa using hcc) ?_ ?_ ?_
 ·rintro v w' ⟨h, _⟩; cases h
 ·rintro ch w' ⟨h, hE⟩
  cases h
  have hS2 := hS.ext' hE
  rw [hA.defers]
  refine leaves_cons (f := 67) (args := #[.pointer (some ⟨b, 0, none⟩), .pointer (some ⟨b2, 0, none⟩)]) (by simp) (by simp [go_sem]) ?_
  refine (read_back (s := s) hS2).mono ?_
  rintro e u' w'' ⟨rfl, rfl, b3, cs3, hS3⟩
  show ∃ v, (results Tryz.f43 a.tmps).run Tryz.prog w'' = .ok v w'' ∧ RetS M W (.tuple [.agg (enccited ⟨0, ⟨0, 0, 0⟩⟩).toArray, .bool false].toArray) (.returned v) w''
  have h2 := hA.tmp (i := 2) rfl
  have h3 := hA.tmp (i := 3) rfl
  have c1 : CellsAt (hp w'') ⟨b, 0, none⟩ (enccited ⟨0, ⟨0, 0, 0⟩⟩) := cell_at (hS3.get (t := 1) rfl)
  have c2 : CellsAt (hp w'') ⟨b2, 0, none⟩ [.bool false] := cell_at (hS3.get (t := 2) rfl)
  have l1 : (loadVar 141 ⟨b, 0, none⟩).run Tryz.prog w'' = .ok (.agg (enccited ⟨0, ⟨0, 0, 0⟩⟩).toArray) w'' := by
   have h0 : (loadCells ⟨b, 0, none⟩ (enccited ⟨0, ⟨0, 0, 0⟩⟩).length).run Tryz.prog w'' = .ok (enccited ⟨0, ⟨0, 0, 0⟩⟩).toArray w'' := run_loadCells_list (P := Tryz.prog) (w := w'') _ (enccited ⟨0, ⟨0, 0, 0⟩⟩) (fun j v hv => c1.cell hv)
   have h1 : (enccited ⟨0, ⟨0, 0, 0⟩⟩).length = 4 := rfl
   rw [h1] at h0
   simp [loadVar, Tryz.isAgg141, Tryz.sizeOf141, h0]
  have l2 : (loadVar 4 ⟨b2, 0, none⟩).run Tryz.prog w'' = .ok (.bool false) w'' := by
   have h0 := c2.cell (j := 0) rfl
   rw [show (⟨b2, 0, none⟩ : Addr).add 0 = ⟨b2, 0, none⟩ from rfl] at h0
   simp [loadVar, Tryz.isAgg4, h0]
  refine ⟨_, ?_, rfl, hS3.ext⟩
  rw [Array.getD_eq_getD_getElem?] at h2 h3
  simp [results, Tryz.results43, h2, h3, l1, l2, asAddr]
 ·rintro w' ⟨h, _⟩; cases h
end T10
namespace Go.Proofs
open Go Go.Shelf Go.RowKit Pk
theorem hp_cells {w : World} {q : Addr} {vs : List Value} (h : CellsAt (hp w) q vs) (hv : 0 < vs.length) : ∃ cs t z, w.heap[q.block]? = some (.cells cs t z) ∧ cs.size ≠ 0 := by
 obtain ⟨c, t, z, h3, h4⟩ := h.2 0 _ (List.getElem?_eq_getElem hv)
 refine ⟨c, t, z, h3, fun h0 => ?_⟩
 have := (Array.getElem?_eq_some_iff.1 h4).1
 omega
theorem overlaps_own {P : Program} (w : World) (tS tR e : TypeId) (ht : P.underlying tS = some (.slice e)) (size : Nat) (hz : ∀ w, (Go.sizeOf e).run P w = .ok size w) (a b : Addr) (la ca lb cb : Nat) (hne : a.block ≠ b.block)
  {ca' : Array Value} {ta : TypeId} {za : Nat × Nat} (ha : w.heap[a.block]? = some (.cells ca' ta za)) (ha0 : ca'.size ≠ 0) {cur : Array Value} {te : TypeId} (hb : w.heap[b.block]? = some (.cells cur te (0, 0))) (hc : cur.size ≠ 0) :
  (Extern.SlicesOverlaps.overlaps #[tS, tS] #[tR] #[.slice (some a) la ca, .slice (some b) lb cb]).run P w = .ok (.bool false) w := by
 have hnb : (a.block != b.block) = true := by simpa using hne
 have hnb' : (a.block == b.block) = false := by simpa using hne
 have hf : ∀ x : Addr, x.block = b.block → w.frozen? x = false := fun x hx => by simp [World.frozen?, hx, hb]
 have hsb : w.shape? b.block = some (te, cur.size) := by simp [World.shape?, hb]
 have hva : w.shape? a.block = some (ta, ca'.size) := by simp [World.shape?, ha]
 change Sem.run P (α := Value) (do
  let some t := (#[tS, tS] : Array TypeId)[0]? | stuck "slices.overlaps: no parameter types"
  let .slice elem ← underlying t | stuck "slices.overlaps: slice type expected"
  let size ← sizeOf elem
  match (some a : Option Addr), (some b : Option Addr) with
  | some a, some b =>
   if la = 0 ∨ lb = 0 ∨ size = 0 then pure (Value.bool false)
   else if a.block != b.block && (← frozen a) && (← frozen b) then unsupported .addressObserved
   else do
    if a.block != b.block then do
     noView a; noView b
     if ← mayBeOne a b then return Value.bool ((← choose (.extern "sameAddr.stringBytes" 2)) == 1)
    pure (Value.bool (a.block == b.block && a.off < b.off + lb * size && b.off < a.off + la * size))
  | _, _ => pure (Value.bool false)) w = _
 by_cases h0 : la = 0 ∨ lb = 0 ∨ size = 0
 ·simp [run_underlying ht, hz, h0]
 ·have e1 := hf b rfl
  have e2 := hf { block := b.block, off := cur.size } rfl
  have e3 : (match some (te, cur.size) with | some (_, 0) => true | _ => false) = false := by
   cases h : cur.size with
   | zero => exact absurd h hc
   | succ n => rfl
  have e4 : (match some (ta, ca'.size) with | some (_, 0) => true | _ => false) = false := by
   cases h : ca'.size with
   | zero => exact absurd h ha0
   | succ n => rfl
  cases hfa : w.frozen? a <;> cases hfe : w.frozen? { block := a.block, off := ca'.size } <;>
   simp [run_underlying ht, hz, h0, hnb, hnb', frozen, noView, viewAt, mayBeOne, stringish, shape, Sem.run, hva, hsb, e1, e2, hfa, hfe, hc, e4, ha0]
theorem run_copyK {P : Program} (w : World) (t ty el k : Nat) (hu : P.underlying t = some (.slice el)) (hz : ∀ w, (Go.sizeOf el).run P w = .ok k w) (b o dLen dCap : Nat) (a : Addr) (sLen sCap : Nat) (cs : List Value) {cur : Array Value} {te : TypeId} (hb : w.heap[b]? = some (.cells cur te (0, 0)))
  (hn : cs.length = Nat.min sLen dLen * k) (hsrc : ∀ j v, cs[j]? = some v → w.cell? (a.add j) = some v) (hfit : o + cs.length ≤ cur.size) (h1 : ∀ v ∈ cs, v.oneCell' = true) :
  (Builtin.copy_ #[t, t] ty #[.slice (some ⟨b, o, none⟩) dLen dCap, .slice (some a) sLen sCap]).run P w = .ok (goInt (Nat.min sLen dLen)) (w.setRow b (cur.toList.take o ++ cs ++ cur.toList.drop (o + cs.length)).toArray) := by
 have hl := run_loadCells_list (P := P) (w := w) a cs hsrc
 have hst := run_storeCells_at P b o te cs 0 cur w hb (by simpa using hfit) h1
 rw [hn] at hl
 simp [Builtin.copy_, run_underlying hu, Builtin.lenOf, Builtin.firstCells, hz, hl]
 simp at hst
 rw [hst]; rfl
set_option maxHeartbeats 4000000 in
set_option maxRecDepth 100000 in
theorem Tryz.ins_end {w : World} {ad : Option Addr} {cap nn : Nat} {cs : List Value} {q : Addr} {vcap : Nat} {vs : List Value} (hr : (Own.row ad cap 115 3 nn cs).holds w) (hb : nn + 1 ≤ 1073741824) (hv : CellsAt (hp w) q vs) (hvl : vs.length = 3) (h1 : vs.all (·.oneCell') = true) :
  Calls Tryz.prog 92 #[.slice ad nn cap, .int .i64 nn, .slice (some q) 1 vcap] w fun e w' => ∃ ad' cap', e = .returned (.slice ad' (nn + 1) cap') ∧ (Own.row ad' cap' 115 3 (nn + 1) (cs ++ vs)).holds w' ∧ Grown w w' (ad.map (·.block)) ∧ ∀ b, ad'.map (·.block) = some b → ad.map (·.block) = some b ∨ w.heap.size ≤ b := by
 obtain ⟨ad', cap', w', hrun, hh, hg, hf⟩ := run_append (P := Tryz.prog) 113 T10.E113 hr (sad := some q) (m := 1) (c := vcap) (news := vs) ⟨by omega, h1, .inr ⟨q, rfl, hv⟩⟩ (by unfold maxLen; omega) (by omega)
 have hd := run_drawn _ hrun
 have hcap := (row_len hr).2
 refine Calls.mono (R := fun e w'' => e = .returned (.slice ad' (nn + 1) cap') ∧ w'' = w') ?_ fun e w'' hw => by
  obtain ⟨rfl, rfl⟩ := hw
  exact ⟨ad', cap', rfl, hh, ⟨hg, hd⟩, hf⟩
 clear hf hh hg hd hr hv h1
 by_cases hc : cap = nn
 ·subst hc
  go_enter Tryz.func92, Tryz.ntmps92
  go_wp2_with (at_builtin; refine Lib.wpList_append_run _ rfl _ _ _ _ rfl _ _ rfl rfl _ _ hrun ?_)
  go_ret
  exact ⟨rfl, rfl⟩
 ·go_enter Tryz.func92, Tryz.ntmps92
  go_wp2_with (at_builtin; refine Lib.wpList_append_run _ rfl _ _ _ _ rfl _ _ rfl rfl _ _ hrun ?_)
  go_ret
  exact ⟨rfl, rfl⟩
theorem cell_of_row {w : World} {b : Nat} {cur : Array Value} {t : TypeId} {z : Nat × Nat} (h : w.heap[b]? = some (.cells cur t z)) {j : Nat} {v : Value} (hv : cur.toList[j]? = some v) : w.cell? ⟨b, j, none⟩ = some v := by
 rw [Array.getElem?_toList] at hv
 simp [World.cell?, h, hv]
theorem add_lit0 (b o i : Nat) : (⟨b, o, none⟩ : Addr).add i = ⟨b, o + i, none⟩ := addr_add (ad := ⟨b, o, none⟩) rfl i
set_option maxHeartbeats 4000000 in
set_option maxRecDepth 100000 in
theorem Tryz.ins_room {w : World} {b cap nn j : Nat} {cs : List Value} {q : Addr} {vcap : Nat} {vs : List Value} {cur : Array Value} (hw : w.heap[b]? = some (.cells cur 115 (0, 0))) (hcs : cur.size = cap * 3) (ht : cur.toList.take (nn * 3) = cs) (hcm : cap ≤ 9223372036854775807) (hj : j < nn) (hroom : nn + 1 ≤ cap) (hb : nn + 1 ≤ 1073741824) (hv : CellsAt (hp w) q vs) (hvl : vs.length = 3) (h1 : vs.all (·.oneCell') = true) (h2 : cs.all (·.oneCell') = true) (hne : b ≠ q.block) :
  Calls Tryz.prog 92 #[.slice (some ⟨b, 0, none⟩) nn cap, .int .i64 j, .slice (some q) 1 vcap] w fun e w' => e = .returned (.slice (some ⟨b, 0, none⟩) (nn + 1) cap) ∧ w' = (w.drew.setRow b (cur.toList.take ((j + 1) * 3) ++ cs.drop (j * 3) ++ cur.toList.drop ((nn + 1) * 3)).toArray).setRow b (cs.take (j * 3) ++ vs ++ cs.drop (j * 3) ++ cur.toList.drop ((nn + 1) * 3)).toArray := by
 obtain ⟨c0, t0, z0, hq0, hq1⟩ := hp_cells hv (by omega)
 have hcl : cs.length = nn * 3 := by rw [← ht, List.length_take, Array.length_toList, hcs]; omega
 have hcur : cur.toList = cs ++ cur.toList.drop (nn * 3) := by rw [← ht, List.take_append_drop]
 have hov : ∀ lb cb, (callFunc 131 #[.slice (some q) 1 vcap, .slice (some ⟨b, (j + 1) * 3, none⟩) lb cb]).run Tryz.prog w = .ok (.value (.bool false)) w := fun lb cb => by
  rw [run_callFunc_extern Tryz.func131 (by kernel_rfl) (by kernel_rfl) (by kernel_rfl) (e := Extern.SlicesOverlaps.overlaps #[113, 113] #[4]) (by kernel_rfl),
   overlaps_own w 113 4 115 Tryz.underlying113 3 Tryz.sizeOf115 q ⟨b, (j + 1) * 3, none⟩ 1 vcap lb cb (fun e => hne e.symm) hq0 hq1 hw (by omega)]
  rfl
 have hcp1 : ∀ ty dc sc, (Builtin.copy_ #[113, 113] ty #[.slice (some ⟨b, (j + 1) * 3, none⟩) (nn - j) dc, .slice (some ⟨b, j * 3, none⟩) (nn + 1 - j) sc]).run Tryz.prog w.drew = .ok (goInt (Nat.min (nn + 1 - j) (nn - j))) (w.drew.setRow b (cur.toList.take ((j + 1) * 3) ++ cs.drop (j * 3) ++ cur.toList.drop ((nn + 1) * 3)).toArray) := fun ty dc sc => by
  have hl : (cs.drop (j * 3)).length = Nat.min (nn + 1 - j) (nn - j) * 3 := by
   rw [List.length_drop, hcl, show Nat.min (nn + 1 - j) (nn - j) = nn - j by simp only [Nat.min_def]; split <;> omega, Nat.sub_mul]
  have := run_copyK (P := Tryz.prog) w.drew 113 ty 115 3 Tryz.underlying113 Tryz.sizeOf115 b ((j + 1) * 3) (nn - j) dc ⟨b, j * 3, none⟩ (nn + 1 - j) sc (cs.drop (j * 3)) (cur := cur) hw hl (fun i v hi => by
   rw [add_lit0]
   refine cell_of_row (w := w.drew) hw ?_
   rw [hcur, List.getElem?_append_left (by rw [List.getElem?_drop] at hi; exact (List.getElem?_eq_some_iff.1 hi).1)]
   rwa [List.getElem?_drop] at hi) (by rw [List.length_drop, hcl, hcs]; omega) (fun v hv => List.all_eq_true.1 h2 v (List.mem_of_mem_drop hv))
  rw [this, show (j + 1) * 3 + (cs.drop (j * 3)).length = (nn + 1) * 3 by rw [List.length_drop, hcl]; omega]
 obtain ⟨X1, hX1⟩ : ∃ X1 : List Value, X1 = cur.toList.take ((j + 1) * 3) ++ cs.drop (j * 3) ++ cur.toList.drop ((nn + 1) * 3) := ⟨_, rfl⟩
 rw [← hX1] at hcp1 ⊢
 obtain ⟨W1, hW1⟩ : ∃ W1, W1 = w.drew.setRow b X1.toArray := ⟨_, rfl⟩
 rw [← hW1] at hcp1 ⊢
 have hw1 : W1.heap[b]? = some (.cells X1.toArray 115 (0, 0)) := by rw [hW1]; exact setRow_heap w.drew b cur X1.toArray 115 (0, 0) hw
 have hX1l : X1.length = cap * 3 := by rw [hX1]; simp only [List.length_append, List.length_take, List.length_drop, Array.length_toList, hcs, hcl]; omega
 have hlen1 : (cur.toList.take ((j + 1) * 3)).length = (j + 1) * 3 := by rw [List.length_take, Array.length_toList, hcs]; omega
 have hcp2 : ∀ ty dc, (Builtin.copy_ #[113, 113] ty #[.slice (some ⟨b, j * 3, none⟩) (nn + 1 - j) dc, .slice (some q) 1 vcap]).run Tryz.prog W1 = .ok (goInt (Nat.min 1 (nn + 1 - j))) (W1.setRow b (cs.take (j * 3) ++ vs ++ cs.drop (j * 3) ++ cur.toList.drop ((nn + 1) * 3)).toArray) := fun ty dc => by
  have hm : Nat.min 1 (nn + 1 - j) = 1 := by simp only [Nat.min_def]; split <;> omega
  have := run_copyK (P := Tryz.prog) W1 113 ty 115 3 Tryz.underlying113 Tryz.sizeOf115 b (j * 3) (nn + 1 - j) dc q 1 vcap vs (cur := X1.toArray) hw1 (by rw [hvl, hm]) (fun i v hi => by
   have h0 := hv.cell hi
   have hsp : (q.add i).block = q.block := by unfold Addr.add; split <;> rfl
   rw [hW1]
   unfold World.cell? at h0 ⊢
   rw [show (w.drew.setRow b X1.toArray).heap[(q.add i).block]? = w.heap[(q.add i).block]? from setRow_other w.drew b _ _ (by rw [hsp]; exact fun e => hne e.symm)]
   exact h0) (by rw [hvl, List.size_toArray, hX1l]; omega) (fun v hv => List.all_eq_true.1 h1 v hv)
  rw [this, hvl]
  congr 3
  have e1 : X1.take (j * 3) = cs.take (j * 3) := by
   rw [hX1, List.append_assoc, List.take_append_of_le_length (by rw [hlen1]; omega), List.take_take, show min (j * 3) ((j + 1) * 3) = j * 3 by omega, ← ht, List.take_take, show min (j * 3) (nn * 3) = j * 3 by omega]
  have e2 : X1.drop (j * 3 + 3) = cs.drop (j * 3) ++ cur.toList.drop ((nn + 1) * 3) := by
   rw [hX1, show j * 3 + 3 = (j + 1) * 3 by omega, List.append_assoc, List.drop_append_of_le_length (by rw [hlen1]; omega), List.drop_of_length_le (by rw [hlen1]; omega), List.nil_append]
  simp only [List.toList_toArray, e1, e2, List.append_assoc]
 have hz2 : ¬ ((j : Int) = (nn : Int)) := by omega
 have hw2 : IntKind.i64.wrap ((j : Int) + 1) = (j : Int) + 1 := by rw [IntKind.wrap_i64]; omega
 have hw3 : IntKind.i64.wrap ((nn : Int) + 1) = (nn : Int) + 1 := by rw [IntKind.wrap_i64]; omega
 have htn : ((j : Int) + 1).toNat = j + 1 := by omega
 have htn2 : ((nn : Int) + 1).toNat = nn + 1 := by omega
 have hb1 : (0 : Int) ≤ (j : Int) + 1 := by omega
 have hb2 : ¬ (cap = j + 1) := by omega
 have hb4 : ¬ (cap = j) := by omega
 have hb3 : (j : Int) ≤ (nn : Int) + 1 := by omega
 have hin : j ≤ nn := by omega
 have hro : ¬ ((cap : Int) < (nn : Int) + 1) := by omega
 clear hX1 hcur ht
 have mixed := T10.mixed
 clear hw1
 subst hW1
 go_enter Tryz.func92, Tryz.ntmps92
 go_wp2_with (simp only [hov])
 go_region_law_o (refine step_copy_runI rfl _ _ 113 113 rfl _ _ (by simp [Act.eval, Act.put]) (by simp [Act.eval, Act.put]) (hcp1 _ _ _) ?_)
 go_wp2_with (at_builtin; refine wpList_copy_runI _ rfl _ _ 113 113 rfl _ _ rfl rfl (hcp2 _ _) ?_)
 go_ret
 exact ⟨rfl, by simp only [List.append_assoc]⟩
set_option maxHeartbeats 4000000 in
set_option maxRecDepth 100000 in
theorem Tryz.ins_grow {w : World} {b cap nn j : Nat} {cs : List Value} {q : Addr} {vcap : Nat} {vs : List Value} {cur : Array Value} (hw : w.heap[b]? = some (.cells cur 115 (0, 0))) (hcs : cur.size = cap * 3) (ht : cur.toList.take (nn * 3) = cs) (hnc : nn ≤ cap) (hj : j < nn) (hroom : cap < nn + 1) (hb : nn + 1 ≤ 1073741824) (hv : CellsAt (hp w) q vs) (hvl : vs.length = 3) (h1 : vs.all (·.oneCell') = true) (h2 : cs.all (·.oneCell') = true) :
  Calls Tryz.prog 92 #[.slice (some ⟨b, 0, none⟩) nn cap, .int .i64 j, .slice (some q) 1 vcap] w fun e w' => ∃ (G : Nat) (X : List Value), nn + 1 ≤ G ∧ G ≤ maxLen ∧ X.length = G * 3 ∧ X.take ((nn + 1) * 3) = cs.take (j * 3) ++ vs ++ cs.drop (j * 3) ∧ e = .returned (.slice (some ⟨w.heap.size, 0, none⟩) (nn + 1) G) ∧ ∃ Y Z m, w' = (((w.alloc (.cells Y 115)).drewN m).setRow w.heap.size Z).setRow w.heap.size X.toArray := by
 obtain ⟨i0, v0, hi0, hz0, hzv, hzs, hzb⟩ := T10.E113.info
 have hzc : v0.cells.size = 3 := by rw [cells_L, hzv]; rfl
 have hcl : cs.length = nn * 3 := by rw [← ht, List.length_take, Array.length_toList, hcs]; omega
 have hcur : cur.toList = cs ++ cur.toList.drop (nn * 3) := by rw [← ht, List.take_append_drop]
 have hold : (Builtin.firstCells i0.size j (.slice (some ⟨b, 0, none⟩) j cap)).run Tryz.prog w.drew = .ok (cs.take (j * 3)).toArray w.drew := by
  rw [hzs]
  refine run_firstCells_some (w := w.drew) 3 j ⟨b, 0, none⟩ j cap (cs.take (j * 3)) (by rw [List.length_take, hcl]; omega) (fun i v hi => ?_)
  rw [add_lit0, Nat.zero_add]
  refine cell_of_row (w := w.drew) hw ?_
  rw [List.getElem?_take] at hi
  split at hi
  ·rw [hcur, List.getElem?_append_left (by rw [hcl]; omega)]; exact hi
  ·cases hi
 have hik : j + (nn + 1 - j) = nn + 1 := by omega
 have hkk : (nn : Int) + 1 - (j : Int) = ((nn + 1 - j : Nat) : Int) := by omega
 obtain ⟨G, hG⟩ : ∃ G, G = grownCap w (nn + 1) cap 115 := ⟨_, rfl⟩
 have hGn : nn + 1 ≤ G := by rw [hG]; exact grownCap_ge w _ _ _
 have hGm : G ≤ maxLen := by rw [hG]; exact grownCap_le_maxLen w (nn + 1) cap 115 (by unfold maxLen; omega)
 obtain ⟨R, hR⟩ : ∃ R : Array Value, R = (cs.take (j * 3)).toArray ++ Builtin.zeroCells v0.cells (nn + 1 - j) ++ Builtin.zeroCells v0.cells (G - (nn + 1)) := ⟨_, rfl⟩
 have hRs : R.size = G * 3 := by
  rw [hR]
  simp only [Array.size_append, List.size_toArray, List.length_take, hcl, Builtin.zeroCells, Array.size_map, Array.size_range, hzc]
  omega
 have hRt : R.toList.take (j * 3) = cs.take (j * 3) := by
  rw [hR, Array.toList_append, Array.toList_append, List.append_assoc, List.take_append_of_le_length (by simp [hcl]; omega)]
  simp only [List.toList_toArray, List.take_take, Nat.min_self]
 have hrz : ∀ ty, (Builtin.append_ #[113, 3] ty #[.slice (some ⟨b, 0, none⟩) j cap, .int .i64 ((nn : Int) + 1 - (j : Int))]).run Tryz.prog w = .ok (.slice (some ⟨w.heap.size, 0, none⟩) (nn + 1) G) (w.drew.alloc (.cells R 115)) := fun ty => by
  have h := Lib.run_append_grow_zeros w 113 3 ty 115 i0 _ .i64 .i64 Tryz.underlying113 Tryz.underlying3 hi0 hz0 (some ⟨b, 0, none⟩) j cap (cs.take (j * 3)) hold (nn + 1 - j) (by omega) (by rw [hzs]; decide) (by omega) (by omega) (by rw [hzb]; omega) (by rw [hzb, hik]; exact growslice_fits hroom (by omega))
  rw [hik] at h
  rw [hkk, hR, hG]
  exact h
 have hN : (w.drew.alloc (.cells R 115)).heap[w.heap.size]? = some (.cells R 115 (0, 0)) := alloc_new w.drew _
 have hbw : b < w.heap.size := (Array.getElem?_eq_some_iff.1 hw).1
 obtain ⟨X1, hX1⟩ : ∃ X1 : List Value, X1 = cs.take (j * 3) ++ vs ++ R.toList.drop ((j + 1) * 3) := ⟨_, rfl⟩
 obtain ⟨X2, hX2⟩ : ∃ X2 : List Value, X2 = cs.take (j * 3) ++ vs ++ cs.drop (j * 3) ++ R.toList.drop ((nn + 1) * 3) := ⟨_, rfl⟩
 have hct : (cs.take (j * 3)).length = j * 3 := by rw [List.length_take, hcl]; omega
 have hX1l : X1.length = G * 3 := by rw [hX1]; simp only [List.length_append, hct, hvl, List.length_drop, Array.length_toList, hRs]; omega
 have hX2l : X2.length = G * 3 := by rw [hX2]; simp only [List.length_append, hct, hvl, List.length_drop, Array.length_toList, hRs, hcl]; omega
 have hqn : ∀ i, (q.add i).block = q.block := fun i => by unfold Addr.add; split <;> rfl
 obtain ⟨c0, t0, z0, hq0, _⟩ := hp_cells hv (by omega)
 have hqw : q.block < w.heap.size := (Array.getElem?_eq_some_iff.1 hq0).1
 have hcpA : ∀ (m : Nat) ty dc, (Builtin.copy_ #[113, 113] ty #[.slice (some ⟨w.heap.size, j * 3, none⟩) (nn + 1 - j) dc, .slice (some q) 1 vcap]).run Tryz.prog ((w.alloc (.cells R 115)).drewN m) = .ok (goInt (Nat.min 1 (nn + 1 - j))) (((w.alloc (.cells R 115)).drewN m).setRow w.heap.size X1.toArray) := fun m ty dc => by
  have hm : Nat.min 1 (nn + 1 - j) = 1 := by simp only [Nat.min_def]; split <;> omega
  have := run_copyK (P := Tryz.prog) ((w.alloc (.cells R 115)).drewN m) 113 ty 115 3 Tryz.underlying113 Tryz.sizeOf115 w.heap.size (j * 3) (nn + 1 - j) dc q 1 vcap vs (cur := R) (te := 115) (alloc_new w _) (by rw [hvl, hm]) (fun i v hi => by
   have h0 := hv.cell hi
   unfold World.cell? at h0 ⊢
   rw [show ((w.alloc (.cells R 115)).drewN m).heap[(q.add i).block]? = w.heap[(q.add i).block]? from (Ext.alloc True w (.cells R 115)).keep _ (by rw [hqn]; exact hqw)]
   exact h0) (by rw [hvl, hRs]; omega) (fun v hv => List.all_eq_true.1 h1 v hv)
  rw [this, hvl, hRt, hX1, show j * 3 + 3 = (j + 1) * 3 by omega]
 have hcpB : ∀ (m : Nat) ty dc sc, (Builtin.copy_ #[113, 113] ty #[.slice (some ⟨w.heap.size, (j + 1) * 3, none⟩) (nn - j) dc, .slice (some ⟨b, j * 3, none⟩) (nn - j) sc]).run Tryz.prog (((w.alloc (.cells R 115)).drewN m).setRow w.heap.size X1.toArray) = .ok (goInt (Nat.min (nn - j) (nn - j))) ((((w.alloc (.cells R 115)).drewN m).setRow w.heap.size X1.toArray).setRow w.heap.size X2.toArray) := fun m ty dc sc => by
  have hm : Nat.min (nn - j) (nn - j) = nn - j := Nat.min_self _
  have hl : (cs.drop (j * 3)).length = Nat.min (nn - j) (nn - j) * 3 := by rw [hm, List.length_drop, hcl, Nat.sub_mul]
  have := run_copyK (P := Tryz.prog) (((w.alloc (.cells R 115)).drewN m).setRow w.heap.size X1.toArray) 113 ty 115 3 Tryz.underlying113 Tryz.sizeOf115 w.heap.size ((j + 1) * 3) (nn - j) dc ⟨b, j * 3, none⟩ (nn - j) sc (cs.drop (j * 3)) (cur := X1.toArray) (te := 115) (setRow_heap _ _ R X1.toArray 115 (0, 0) (alloc_new w _)) hl (fun i v hi => by
   rw [add_lit0]
   have hcell : w.cell? ⟨b, j * 3 + i, none⟩ = some v := by
    refine cell_of_row hw ?_
    rw [hcur, List.getElem?_append_left (by rw [List.getElem?_drop] at hi; exact (List.getElem?_eq_some_iff.1 hi).1)]
    rwa [List.getElem?_drop] at hi
   unfold World.cell? at hcell ⊢
   rw [show (((w.alloc (.cells R 115)).drewN m).setRow w.heap.size X1.toArray).heap[(⟨b, j * 3 + i, none⟩ : Addr).block]? = w.heap[(⟨b, j * 3 + i, none⟩ : Addr).block]? from (setRow_other _ _ _ _ (by show b ≠ w.heap.size; omega)).trans ((Ext.alloc True w (.cells R 115)).keep _ hbw)]
   exact hcell) (by rw [List.length_drop, hcl, List.size_toArray, hX1l]; omega) (fun v hv => List.all_eq_true.1 h2 v (List.mem_of_mem_drop hv))
  rw [this, show (j + 1) * 3 + (cs.drop (j * 3)).length = (nn + 1) * 3 by rw [List.length_drop, hcl]; omega]
  congr 3
  have e1 : X1.take ((j + 1) * 3) = cs.take (j * 3) ++ vs := by
   rw [hX1, List.take_append_of_le_length (by rw [List.length_append, hct, hvl]; omega), List.take_of_length_le (by rw [List.length_append, hct, hvl]; omega)]
  have e2 : X1.drop ((nn + 1) * 3) = R.toList.drop ((nn + 1) * 3) := by
   rw [hX1, List.drop_append, List.drop_of_length_le (by rw [List.length_append, hct, hvl]; omega), List.nil_append, List.drop_drop, List.length_append, hct, hvl, show (j + 1) * 3 + ((nn + 1) * 3 - (j * 3 + 3)) = (nn + 1) * 3 by omega]
  simp only [List.toList_toArray, e1, e2, hX2, List.append_assoc]
 have hX2t : X2.take ((nn + 1) * 3) = cs.take (j * 3) ++ vs ++ cs.drop (j * 3) := by
  rw [hX2, List.take_append_of_le_length (by simp only [List.length_append, hct, hvl, List.length_drop, hcl]; omega), List.take_of_length_le (by simp only [List.length_append, hct, hvl, List.length_drop, hcl]; omega)]
 refine Calls.mono (R := fun e w'' => e = .returned (.slice (some ⟨w.heap.size, 0, none⟩) (nn + 1) G) ∧ ∃ m, w'' = (((w.alloc (.cells R 115)).drewN m).setRow w.heap.size X1.toArray).setRow w.heap.size X2.toArray) ?_ fun e w'' hw => by
  obtain ⟨rfl, m, rfl⟩ := hw
  exact ⟨G, X2, hGn, hGm, hX2l, hX2t, rfl, R, X1.toArray, m, rfl⟩
 have mixed := T10.mixed
 have hz2 : ¬ ((j : Int) = (nn : Int)) := by omega
 have hw2 : IntKind.i64.wrap ((j : Int) + 1) = (j : Int) + 1 := by rw [IntKind.wrap_i64]; omega
 have hw3 : IntKind.i64.wrap ((nn : Int) + 1) = (nn : Int) + 1 := by rw [IntKind.wrap_i64]; omega
 have htn : ((j : Int) + 1).toNat = j + 1 := by omega
 have hb1 : (0 : Int) ≤ (j : Int) + 1 := by omega
 have hro : (cap : Int) < (nn : Int) + 1 := by omega
 have hGi : ¬ (G = j) := by omega
 have hGim : ¬ (G = j + 1) := by omega
 have hci : ¬ (cap = j) := by omega
 have hin : j ≤ nn := by omega
 have hb3 : (j : Int) ≤ (nn : Int) := by omega
 have hcpA0 : ∀ ty dc, (Builtin.copy_ #[113, 113] ty #[.slice (some ⟨w.heap.size, j * 3, none⟩) (nn + 1 - j) dc, .slice (some q) 1 vcap]).run Tryz.prog (w.drew.alloc (.cells R 115)) = .ok (goInt (Nat.min 1 (nn + 1 - j))) ((w.drew.alloc (.cells R 115)).setRow w.heap.size X1.toArray) := fun ty dc => hcpA 1 ty dc
 have hcpA1 : ∀ ty dc, (Builtin.copy_ #[113, 113] ty #[.slice (some ⟨w.heap.size, j * 3, none⟩) (nn + 1 - j) dc, .slice (some q) 1 vcap]).run Tryz.prog ((w.alloc (.cells R 115)).drew) = .ok (goInt (Nat.min 1 (nn + 1 - j))) (((w.alloc (.cells R 115)).drew).setRow w.heap.size X1.toArray) := fun ty dc => hcpA 1 ty dc
 have hcpB0 : ∀ ty dc sc, (Builtin.copy_ #[113, 113] ty #[.slice (some ⟨w.heap.size, (j + 1) * 3, none⟩) (nn - j) dc, .slice (some ⟨b, j * 3, none⟩) (nn - j) sc]).run Tryz.prog (((w.alloc (.cells R 115)).drew.setRow w.heap.size X1.toArray).drew) = .ok (goInt (Nat.min (nn - j) (nn - j))) ((((w.alloc (.cells R 115)).drew.setRow w.heap.size X1.toArray).drew).setRow w.heap.size X2.toArray) := fun ty dc sc => hcpB 2 ty dc sc
 clear hG hcpA hcpB hR hold hkk hik hcur hRt hX1 hX2 hX2t hN hq0 hv ht
 go_enter Tryz.func92, Tryz.ntmps92
 go_wp2_with (first
  | (at_builtin; refine Lib.wpList_append_run _ rfl _ _ _ _ rfl _ _ rfl rfl _ _ (hrz _) ?_)
  | (at_builtin; refine wpList_copy_runI _ rfl _ _ 113 113 rfl _ _ rfl rfl (hcpA1 _ _) ?_)
  | (at_builtin; refine wpList_copy_runI _ rfl _ _ 113 113 rfl _ _ rfl rfl (hcpA0 _ _) ?_))
 go_region_law_o (refine step_copy_runI rfl _ _ 113 113 rfl (.slice (some ⟨w.heap.size, (j + 1) * 3, none⟩) (nn - j) (G - (j + 1))) (.slice (some ⟨b, j * 3, none⟩) (nn - j) (cap - j)) (by simp [Act.eval, Act.put]) (by simp [Act.eval, Act.put]) (hcpB0 3 (G - (j + 1)) (cap - j)) ?_)
 go_wp2
 go_ret
 exact ⟨rfl, 2, rfl⟩
theorem grown_row {w w' : World} {b : Nat} (h : ∀ k, k < w.heap.size → k ≠ b → w'.heap[k]? = w.heap[k]?) (ho : w'.os = w.os) (ht : w'.tape = w.tape) (hu : w'.output = w.output) (hs : w.heap.size ≤ w'.heap.size) (hd : w.drawn ≤ w'.drawn) : Grown w w' (some b) :=
 ⟨⟨ho, ht, hu, hs, fun k hk hne => h k hk (fun e => hne (by rw [e]))⟩, hd⟩
theorem setRow_size (w : World) (b : Nat) (X : Array Value) : (w.setRow b X).heap.size = w.heap.size := by simp [World.setRow]
theorem Tryz.ins92 : Ins1 Tryz.prog 92 115 3 := by
 intro w ad cap nn cs j q vcap vs hr hj hb hv hvl h1 h2 hne _
 have hcl := (row_len hr).1
 by_cases hjn : j = nn
 ·subst hjn
  refine (Tryz.ins_end hr hb hv hvl h1).mono fun e w' h => ?_
  rw [List.take_of_length_le (by omega), List.drop_of_length_le (by omega), List.append_nil]
  exact h
 ·have hlt : j < nn := by omega
  rcases hr.2 with ⟨_, h0⟩ | ⟨b, cap', cur, he, hbb, hw, hnc, hcm, hcs, ht⟩
  ·omega
  ·simp only [Value.slice.injEq] at he
   obtain ⟨rfl, _, rfl⟩ := he
   have hbw : b < w.heap.size := (Array.getElem?_eq_some_iff.1 hw).1
   have hc63 : cap ≤ 9223372036854775807 := by unfold maxLen at hcm; omega
   have hln : (cs.take (j * 3) ++ vs ++ cs.drop (j * 3)).length = (nn + 1) * 3 := by
    simp only [List.length_append, List.length_take, List.length_drop, hvl, hcl]; omega
   by_cases hroom : nn + 1 ≤ cap
   ·refine (Tryz.ins_room hw hcs ht hc63 hlt hroom hb hv hvl h1 h2 (hne b rfl)).mono fun e w' h => ?_
    obtain ⟨rfl, rfl⟩ := h
    refine ⟨_, _, rfl, ?_, ?_, fun b' hb' => .inl hb'⟩
    ·refine ⟨hln, .inr ⟨b, cap, _, rfl, hbb, setRow_heap _ b _ _ 115 (0, 0) (setRow_heap w.drew b cur _ 115 (0, 0) hw), hroom, hcm, ?_, ?_⟩⟩
     ·have : (cur.toList.drop ((nn + 1) * 3)).length = cap * 3 - (nn + 1) * 3 := by rw [List.length_drop, Array.length_toList, hcs]
      rw [List.size_toArray, List.length_append, hln, this]; omega
     ·rw [List.toList_toArray, List.take_append_of_le_length (by rw [hln]; exact Nat.le_refl _), List.take_of_length_le (by rw [hln]; exact Nat.le_refl _)]
    ·exact grown_row (fun k hk hkb => (setRow_other _ _ _ _ hkb).trans (setRow_other _ _ _ _ hkb)) rfl rfl rfl (by rw [setRow_size, setRow_size]; exact Nat.le_refl _) (Nat.le_succ _)
   ·refine (Tryz.ins_grow hw hcs ht hnc hlt (by omega) hb hv hvl h1 h2).mono fun e w' h => ?_
    obtain ⟨G, X, hG1, hG2, hXl, hXt, rfl, Y, Z, m, rfl⟩ := h
    refine ⟨_, _, rfl, ?_, ?_, fun b' hb' => .inr (by simp at hb'; omega)⟩
    ·refine ⟨hln, .inr ⟨w.heap.size, G, X.toArray, rfl, Nat.zero_le _, setRow_heap _ _ Z _ 115 (0, 0) (setRow_heap _ _ Y _ 115 (0, 0) (alloc_new w _)), hG1, hG2, by rw [List.size_toArray, hXl], by rw [List.toList_toArray]; exact hXt⟩⟩
    ·refine grown_row (fun k hk hkb => ?_) rfl rfl rfl ?_ ?_
     ·have hkn : k ≠ w.heap.size := by omega
      exact (setRow_other _ _ _ _ hkn).trans ((setRow_other _ _ _ _ hkn).trans ((Ext.alloc True w (.cells Y 115)).keep k hk))
     ·rw [setRow_size, setRow_size]
      exact (Ext.alloc True w (.cells Y 115)).size
     ·exact Nat.le_add_right _ _
end Go.Proofs
set_option maxHeartbeats 4000000
namespace T10
open Go Go.Proofs Pk
noncomputable def m5_2 (x86 : Part) (s123 : Nat) : Option ((Nat) ⊕ ((Unit) ⊕ ((Nat) ⊕ ((Unit) ⊕ Bool)))) :=
 if (s123 : Int) < (x86.paragraphs.length : Int) then (
  (x86.paragraphs[s123]?).bind fun x143 =>
  if 210 < (x143.text.length : Int) then (
   some (.inr (.inr (.inr (.inr false)))))
  else
  some (.inl (s123 + 1)))
 else
 some (.inr (.inl ()))
noncomputable def m5_1 (v_0 : Volume) (s46 : Nat) : Option ((Nat) ⊕ ((Unit) ⊕ Bool)) :=
 if (s46 : Int) < (v_0.parts.length : Int) then (
  (v_0.parts[s46]?).bind fun x86 =>
  if 35 < (x86.paragraphs.length : Int) then (
   some (.inr (.inr false)))
  else
  (loopO (m5_2 x86) 0).bind fun e119 => match e119 with
  | .inr z => some z
  | .inl t122 =>
  some (.inl (s46 + 1)))
 else
 some (.inr (.inl ()))
noncomputable def m5_3 (errata : List Erratum) (s178 : Nat) : Option ((Nat) ⊕ ((Unit) ⊕ Bool)) :=
 if (s178 : Int) < (errata.length : Int) then (
  (errata[s178]?).bind fun x198 =>
  if 210 < (x198.text.length : Int) then (
   some (.inr (.inr false)))
  else
  some (.inl (s178 + 1)))
 else
 some (.inr (.inl ()))
noncomputable def m5 (v_0 : Volume) (errata : List Erratum) : Option (Bool) :=
 (loopO (m5_1 v_0) 0).bind fun e42 => match e42 with
 | .inr z => some z
 | .inl t45 =>
 (loopO (m5_3 errata) 0).bind fun e174 => match e174 with
 | .inr z => some z
 | .inl t177 =>
 ((
  if (v_0.parts.length : Int) ≤ 8 then (
   some (decide ((errata.length : Int) ≤ 25)))
  else
  some false
 ) : Option (Bool)).bind fun t216 =>
 some t216
noncomputable def m26_1 (v_0 : Volume) (s78 : Nat × List Paragraph) : Option ((Nat × List Paragraph) ⊕ (List Paragraph)) :=
 if (s78.1 : Int) < (v_0.parts.length : Int) then (
  (v_0.parts[s78.1]?).bind fun x105 =>
  chk (s78.2.length + x105.paragraphs.length ≤ 1073741824) <|
  some (.inl ((s78.1 + 1), (s78.2 ++ x105.paragraphs))))
 else
 some (.inr s78.2)
noncomputable def m26 (v_0 : Volume) : Option (List Paragraph) :=
 (loopO (m26_1 v_0) (0, ([] : List Paragraph))).bind fun e73 =>
 some e73
noncomputable def m27 (n_0 : Int) (low : Int) (high : Int) : Option (Bool) :=
 ((
  if low ≤ n_0 then (
   some (decide (n_0 ≤ high)))
  else
  some false
 ) : Option (Bool)).bind fun t4 =>
 some t4
noncomputable def m28_1 (s_0 : Bytes) (s21 : Nat) : Option ((Nat) ⊕ ((Unit) ⊕ Bool)) :=
 if (s21 : Int) < (s_0.length : Int) then (
  ((
   (s_0[s21]?).bind fun x49 =>
   if (x49.toNat : Int) < 32 then (
    some true)
   else
   some (decide (126 < (x49.toNat : Int)))
  ) : Option (Bool)).bind fun t46 =>
  if t46 then (
   some (.inr (.inr false)))
  else
  chk (-9223372036854775808 ≤ ((s21 : Int) + 1) ∧ ((s21 : Int) + 1) ≤ 9223372036854775807) <|
  some (.inl (s21 + 1)))
 else
 some (.inr (.inl ()))
noncomputable def m28 (s_0 : Bytes) : Option (Bool) :=
 (loopO (m28_1 s_0) 0).bind fun e17 => match e17 with
 | .inr z => some z
 | .inl t20 =>
 (m27 (s_0.length : Int) 1 200).bind fun r64 =>
 some r64
noncomputable def m6_1 (v_0 : Volume) (s127 : Nat) : Option ((Nat) ⊕ ((Unit) ⊕ Int)) :=
 if (s127 : Int) < (v_0.parts.length : Int) then (
  ((
   (v_0.parts[s127]?).bind fun x213 =>
   (m27 x213.day 0 v_0.bound).bind fun r225 =>
   if r225 then (
    if 0 < (s127 : Int) then (
     (v_0.parts[((s127 : Int) - 1).toNat]?).bind fun x232 =>
     some (decide (x213.day ≤ x232.day)))
    else
    some false)
   else
   some true
  ) : Option (Bool)).bind fun t210 =>
  if t210 then (
   some (.inr (.inr 1)))
  else
  some (.inl (s127 + 1)))
 else
 some (.inr (.inl ()))
noncomputable def m6_2 (r7 : List Paragraph) (s284 : Nat) : Option ((Nat) ⊕ ((Unit) ⊕ Int)) :=
 if (s284 : Int) < (r7.length : Int) then (
  ((
   (r7[s284]?).bind fun x334 =>
   (m27 x334.anchor 1 999).bind fun r342 =>
   if r342 then (
    (m28 x334.text).bind fun r347 =>
    some (!r347))
   else
   some true
  ) : Option (Bool)).bind fun t331 =>
  if t331 then (
   some (.inr (.inr 1)))
  else
  some (.inl (s284 + 1)))
 else
 some (.inr (.inl ()))
noncomputable def m6_4 (s392 : Nat) (r7 : List Paragraph) (s456 : Nat) : Option ((Nat) ⊕ ((Unit) ⊕ ((Nat) ⊕ ((Unit) ⊕ Int)))) :=
 if (s456 : Int) < (s392 : Int) then (
  (r7[s456]?).bind fun x484 =>
  (r7[s392]?).bind fun x492 =>
  if x484.anchor = x492.anchor then (
   some (.inr (.inr (.inr (.inr 6)))))
  else
  chk (-9223372036854775808 ≤ ((s456 : Int) + 1) ∧ ((s456 : Int) + 1) ≤ 9223372036854775807) <|
  some (.inl (s456 + 1)))
 else
 some (.inr (.inl ()))
noncomputable def m6_3 (r7 : List Paragraph) (s392 : Nat) : Option ((Nat) ⊕ ((Unit) ⊕ Int)) :=
 if (s392 : Int) < (r7.length : Int) then (
  (loopO (m6_4 s392 r7) 0).bind fun e452 => match e452 with
  | .inr z => some z
  | .inl t455 =>
  some (.inl (s392 + 1)))
 else
 some (.inr (.inl ()))
noncomputable def m6 (v_0 : Volume) : Option (Int) :=
 (m26 v_0).bind fun r7 =>
 ((
  if 6 < (v_0.parts.length : Int) then (
   some true)
  else
  some (decide (30 < (r7.length : Int)))
 ) : Option (Bool)).bind fun t17 =>
 if t17 then (
  some 3)
 else
 ((
  (m27 v_0.number 1 99).bind fun r53 =>
  if r53 then (
   (m27 v_0.bound 0 99999).bind fun r58 =>
   if r58 then (
    (m27 v_0.height 1 60).bind fun r63 =>
    if r63 then (
     (m27 v_0.width 10 80).bind fun r68 =>
     some (!r68))
    else
    some true)
   else
   some true)
  else
  some true
 ) : Option (Bool)).bind fun t50 =>
 if t50 then (
  some 1)
 else
 (loopO (m6_1 v_0) 0).bind fun e123 => match e123 with
 | .inr z => some z
 | .inl t126 =>
 (loopO (m6_2 r7) 0).bind fun e280 => match e280 with
 | .inr z => some z
 | .inl t283 =>
 (loopO (m6_3 r7) 0).bind fun e388 => match e388 with
 | .inr z => some z
 | .inl t391 =>
 some 0
noncomputable def m29 (x_0 : Erratum) : Option (Bool) :=
 ((
  (m27 x_0.number 1 999).bind fun r22 =>
  if r22 then (
   (m27 x_0.day 0 99999).bind fun r27 =>
   if r27 then (
    (m27 x_0.anchor 1 999).bind fun r32 =>
    some (!r32))
   else
   some true)
  else
  some true
 ) : Option (Bool)).bind fun t19 =>
 if t19 then (
  some false)
 else
 if x_0.kind = 0 then (
  ((
   (m28 x_0.text).bind fun r88 =>
   if r88 then (
    some (decide (x_0.new_ = 0)))
   else
   some false
  ) : Option (Bool)).bind fun t85 =>
  some t85)
 else
 if x_0.kind = 1 then (
  ((
   if x_0.text = [] then (
    some (decide (x_0.new_ = 0)))
   else
   some false
  ) : Option (Bool)).bind fun t107 =>
  some t107)
 else
 ((
  if x_0.kind = 2 then (
   (m28 x_0.text).bind fun r131 =>
   if r131 then (
    (m27 x_0.new_ 1 999).bind fun r136 =>
    some r136)
   else
   some false)
  else
  some false
 ) : Option (Bool)).bind fun t126 =>
 some t126
noncomputable def m30 (a_0 : Erratum) (b_1 : Erratum) : Option (Bool) :=
 ((
  if a_0.day < b_1.day then (
   some true)
  else
  if a_0.day = b_1.day then (
   some (decide (a_0.number < b_1.number)))
  else
  some false
 ) : Option (Bool)).bind fun t13 =>
 some t13
noncomputable def m7_1 (errata : List Erratum) (s35 : Nat) : Option ((Nat) ⊕ ((Unit) ⊕ Int)) :=
 if (s35 : Int) < (errata.length : Int) then (
  (errata[s35]?).bind fun x58 =>
  (m29 x58).bind fun r66 =>
  if r66 then (
   some (.inl (s35 + 1)))
  else
  some (.inr (.inr 1)))
 else
 some (.inr (.inl ()))
noncomputable def m7_3 (errata : List Erratum) (s162 : Nat) (s286 : Nat) : Option ((Nat) ⊕ ((Unit) ⊕ ((Nat) ⊕ ((Unit) ⊕ Int)))) :=
 if (s286 : Int) < (errata.length : Int) then (
  ((
   if (s286 : Int) ≠ (s162 : Int) then (
    (errata[s286]?).bind fun x368 =>
    (errata[s162]?).bind fun x376 =>
    if x368.number = x376.number then (
     some true)
    else
    if x376.kind = 2 then (
     if x368.kind = 2 then (
      some (decide (x368.new_ = x376.new_)))
     else
     some false)
    else
    some false)
   else
   some false
  ) : Option (Bool)).bind fun t363 =>
  if t363 then (
   some (.inr (.inr (.inr (.inr 6)))))
  else
  some (.inl (s286 + 1)))
 else
 some (.inr (.inl ()))
noncomputable def m7_4 (r76 : List Paragraph) (errata : List Erratum) (s162 : Nat) (s438 : Nat) : Option ((Nat) ⊕ ((Unit) ⊕ ((Nat) ⊕ ((Unit) ⊕ Int)))) :=
 if (s438 : Int) < (r76.length : Int) then (
  ((
   (errata[s162]?).bind fun x496 =>
   if x496.kind = 2 then (
    (r76[s438]?).bind fun x506 =>
    some (decide (x506.anchor = x496.new_)))
   else
   some false
  ) : Option (Bool)).bind fun t493 =>
  if t493 then (
   some (.inr (.inr (.inr (.inr 6)))))
  else
  some (.inl (s438 + 1)))
 else
 some (.inr (.inl ()))
noncomputable def m7_2 (errata : List Erratum) (r76 : List Paragraph) (s162 : Nat) : Option ((Nat) ⊕ ((Unit) ⊕ Int)) :=
 if (s162 : Int) < (errata.length : Int) then (
  (loopO (m7_3 errata s162) 0).bind fun e282 => match e282 with
  | .inr z => some z
  | .inl t285 =>
  (loopO (m7_4 r76 errata s162) 0).bind fun e434 => match e434 with
  | .inr z => some z
  | .inl t437 =>
  some (.inl (s162 + 1)))
 else
 some (.inr (.inl ()))
noncomputable def m7_6 (r76 : List Paragraph) (errata : List Erratum) (s600 : Nat) (s705 : Nat × Bool) : Option ((Nat × Bool) ⊕ (Bool)) :=
 if (s705.1 : Int) < (r76.length : Int) then (
  ((
   if s705.2 then (
    some true)
   else
   (r76[s705.1]?).bind fun x764 =>
   (errata[s600]?).bind fun x772 =>
   some (decide (x764.anchor = x772.anchor))
  ) : Option (Bool)).bind fun t757 =>
  some (.inl ((s705.1 + 1), t757)))
 else
 some (.inr s705.2)
noncomputable def m7_7 (errata : List Erratum) (s600 : Nat) (s821 : Nat × Bool) : Option ((Nat × Bool) ⊕ (Bool)) :=
 if (s821.1 : Int) < (errata.length : Int) then (
  ((
   if s821.2 then (
    some true)
   else
   (errata[s821.1]?).bind fun x900 =>
   if x900.kind = 2 then (
    (errata[s600]?).bind fun x910 =>
    if x900.new_ = x910.anchor then (
     (m30 x900 x910).bind fun r920 =>
     some r920)
    else
    some false)
   else
   some false
  ) : Option (Bool)).bind fun t893 =>
  some (.inl ((s821.1 + 1), t893)))
 else
 some (.inr s821.2)
noncomputable def m7_5 (errata : List Erratum) (r76 : List Paragraph) (s600 : Nat) : Option ((Nat) ⊕ ((Unit) ⊕ Int)) :=
 if (s600 : Int) < (errata.length : Int) then (
  (loopO (m7_6 r76 errata s600) (0, false)).bind fun e702 =>
  (loopO (m7_7 errata s600) (0, e702)).bind fun e818 =>
  if e818 then (
   some (.inl (s600 + 1)))
  else
  some (.inr (.inr 7)))
 else
 some (.inr (.inl ()))
noncomputable def m7 (v_0 : Volume) (errata : List Erratum) : Option (Int) :=
 if 20 < (errata.length : Int) then (
  some 3)
 else
 (loopO (m7_1 errata) 0).bind fun e31 => match e31 with
 | .inr z => some z
 | .inl t34 =>
 (m26 v_0).bind fun r76 =>
 (loopO (m7_2 errata r76) 0).bind fun e158 => match e158 with
 | .inr z => some z
 | .inl t161 =>
 (loopO (m7_5 errata r76) 0).bind fun e596 => match e596 with
 | .inr z => some z
 | .inl t599 =>
 some 0
noncomputable def m31 (n_0 : Int) (low : Int) (high : Int) : Option (Bool) :=
 ((
  if low ≤ n_0 then (
   some (decide (n_0 ≤ high)))
  else
  some false
 ) : Option (Bool)).bind fun t4 =>
 some t4
noncomputable def m32_1 (l_0 : List Int) (most : Int) (s40 : Nat) : Option ((Nat) ⊕ ((Unit) ⊕ Bool)) :=
 if (s40 : Int) < (l_0.length : Int) then (
  ((
   (l_0[s40]?).bind fun x110 =>
   (m31 x110 0 most).bind fun r118 =>
   if r118 then (
    if 0 < (s40 : Int) then (
     (l_0[((s40 : Int) - 1).toNat]?).bind fun x125 =>
     some (decide (x110 ≤ x125)))
    else
    some false)
   else
   some true
  ) : Option (Bool)).bind fun t107 =>
  if t107 then (
   some (.inr (.inr false)))
  else
  some (.inl (s40 + 1)))
 else
 some (.inr (.inl ()))
noncomputable def m32 (l_0 : List Int) (most : Int) : Option (Bool) :=
 (loopO (m32_1 l_0 most) 0).bind fun e36 => match e36 with
 | .inr z => some z
 | .inl t39 =>
 some true
noncomputable def m8 (x_0 : Reader) : Option (Bool) :=
 ((
  (m31 x_0.year 0 9999).bind fun r19 =>
  if r19 then (
   (m32 x_0.may 7).bind fun r24 =>
   some r24)
  else
  some false
 ) : Option (Bool)).bind fun t16 =>
 some t16
noncomputable def m53_1 (v_0 : Volume) (s87 : Nat × List Paragraph) : Option ((Nat × List Paragraph) ⊕ (List Paragraph)) :=
 if (s87.1 : Int) < (v_0.parts.length : Int) then (
  (v_0.parts[s87.1]?).bind fun x117 =>
  chk (s87.2.length + x117.paragraphs.length ≤ 1073741824) <|
  some (.inl ((s87.1 + 1), (s87.2 ++ x117.paragraphs))))
 else
 some (.inr s87.2)
noncomputable def m53 (v_0 : Volume) : Option (List Paragraph) :=
 (loopO (m53_1 v_0) (0, ([] : List Paragraph))).bind fun e82 =>
 some e82
noncomputable def m44 (n_0 : Int) (low : Int) (high : Int) : Option (Bool) :=
 ((
  if low ≤ n_0 then (
   some (decide (n_0 ≤ high)))
  else
  some false
 ) : Option (Bool)).bind fun t4 =>
 some t4
noncomputable def m34 (n_0 : Int) : Option (Bool) :=
 (m44 n_0 0 99999).bind fun r1 =>
 some r1
noncomputable def m158 (x_0 : Paragraph) (f0_ : Paragraph → Option Bool) : Option (Bool) :=
 (f0_ x_0).bind fun r4 =>
 some (!r4)
noncomputable def m199_1 (s_0 : List Paragraph) (f_1 : Paragraph → Option Bool) (s23 : Nat) : Option ((Nat) ⊕ ((Unit) ⊕ Int)) :=
 if (s23 : Int) < (s_0.length : Int) then (
  (s_0[s23]?).bind fun x46 =>
  (f_1 x46).bind fun r54 =>
  if r54 then (
   some (.inr (.inr (s23 : Int))))
  else
  some (.inl (s23 + 1)))
 else
 some (.inr (.inl ()))
noncomputable def m199 (s_0 : List Paragraph) (f_1 : Paragraph → Option Bool) : Option (Int) :=
 (loopO (m199_1 s_0 f_1) 0).bind fun e19 => match e19 with
 | .inr z => some z
 | .inl t22 =>
 some (-1)
noncomputable def m157 (s_0 : List Paragraph) (f_1 : Paragraph → Option Bool) : Option (Bool) :=
 (m199 s_0 f_1).bind fun r1 =>
 some (decide (0 ≤ r1))
noncomputable def m122 (l_0 : List Paragraph) (right : Paragraph → Option Bool) : Option (Bool) :=
 (m157 l_0 (fun x0_ => m158 x0_ right)).bind fun r5 =>
 some (!r5)
noncomputable def m83 (n_0 : Int) : Option (Bool) :=
 (m44 n_0 1 999).bind fun r1 =>
 some r1
noncomputable def m160 (x_0 : Int) (f0_ : Int → Option Bool) : Option (Bool) :=
 (f0_ x_0).bind fun r1 =>
 some (!r1)
noncomputable def m200_1 (s_0 : List UInt8) (f_1 : Int → Option Bool) (s23 : Nat) : Option ((Nat) ⊕ ((Unit) ⊕ Int)) :=
 if (s23 : Int) < (s_0.length : Int) then (
  (s_0[s23]?).bind fun x46 =>
  (f_1 (x46.toNat : Int)).bind fun r54 =>
  if r54 then (
   some (.inr (.inr (s23 : Int))))
  else
  some (.inl (s23 + 1)))
 else
 some (.inr (.inl ()))
noncomputable def m200 (s_0 : List UInt8) (f_1 : Int → Option Bool) : Option (Int) :=
 (loopO (m200_1 s_0 f_1) 0).bind fun e19 => match e19 with
 | .inr z => some z
 | .inl t22 =>
 some (-1)
noncomputable def m159 (s_0 : List UInt8) (f_1 : Int → Option Bool) : Option (Bool) :=
 (m200 s_0 f_1).bind fun r1 =>
 some (decide (0 ≤ r1))
noncomputable def m125 (l_0 : List UInt8) (right : Int → Option Bool) : Option (Bool) :=
 (m159 l_0 (fun x0_ => m160 x0_ right)).bind fun r5 =>
 some (!r5)
noncomputable def m126 (c_0 : Int) : Option (Bool) :=
 ((
  if (32 : Int) ≤ c_0 then (
   some (decide (c_0 ≤ 126)))
  else
  some false
 ) : Option (Bool)).bind fun t4 =>
 some t4
noncomputable def m84 (s_0 : Bytes) : Option (Bool) :=
 ((
  (m44 (s_0.length : Int) 1 200).bind fun r20 =>
  if r20 then (
   chk (s_0.length ≤ 1073741824) <|
   (m125 s_0 (m126)).bind fun r32 =>
   some r32)
  else
  some false
 ) : Option (Bool)).bind fun t17 =>
 some t17
noncomputable def m123 (p_0 : Paragraph) : Option (Bool) :=
 ((
  (m83 p_0.anchor).bind fun r16 =>
  if r16 then (
   (m84 p_0.text).bind fun r21 =>
   some r21)
  else
  some false
 ) : Option (Bool)).bind fun t13 =>
 some t13
noncomputable def m80_1 (v_0 : Volume) (s59 : Nat) : Option ((Nat) ⊕ ((Unit) ⊕ Bool)) :=
 if (s59 : Int) < (v_0.parts.length : Int) then (
  (v_0.parts[s59]?).bind fun x112 =>
  ((
   (m34 x112.day).bind fun r155 =>
   if r155 then (
    if v_0.bound < x112.day then (
     some true)
    else
    if 0 < (s59 : Int) then (
     (v_0.parts[((s59 : Int) - 1).toNat]?).bind fun x166 =>
     some (decide (x112.day ≤ x166.day)))
    else
    some false)
   else
   some true
  ) : Option (Bool)).bind fun t152 =>
  if t152 then (
   some (.inr (.inr false)))
  else
  some (.inl (s59 + 1)))
 else
 some (.inr (.inl ()))
noncomputable def m80 (v_0 : Volume) : Option (Bool) :=
 (loopO (m80_1 v_0) 0).bind fun e55 => match e55 with
 | .inr z => some z
 | .inl t58 =>
 ((
  (m44 v_0.number 1 99).bind fun r227 =>
  if r227 then (
   (m34 v_0.bound).bind fun r232 =>
   if r232 then (
    (m44 v_0.height 1 60).bind fun r237 =>
    if r237 then (
     (m44 v_0.width 10 80).bind fun r242 =>
     if r242 then (
      (m53 v_0).bind fun r247 =>
      (m122 r247 (m123)).bind fun r255 =>
      some r255)
     else
     some false)
    else
    some false)
   else
   some false)
  else
  some false
 ) : Option (Bool)).bind fun t224 =>
 some t224
noncomputable def m50_1 (r7 : List Paragraph) (s98 : Nat × (List (Int × Bool))) : Option ((Nat × (List (Int × Bool))) ⊕ (((List (Int × Bool))) ⊕ Int)) :=
 if (s98.1 : Int) < (r7.length : Int) then (
  (r7[s98.1]?).bind fun x121 =>
  if (lkp s98.2 x121.anchor).getD false then (
   some (.inr (.inr 6)))
  else
  some (.inl ((s98.1 + 1), (put s98.2 x121.anchor true))))
 else
 some (.inr (.inl s98.2))
noncomputable def m50 (v_0 : Volume) : Option (Int) :=
 (m53 v_0).bind fun r7 =>
 ((
  if 6 < (v_0.parts.length : Int) then (
   some true)
  else
  some (decide (30 < (r7.length : Int)))
 ) : Option (Bool)).bind fun t30 =>
 if t30 then (
  some 3)
 else
 (m80 v_0).bind fun r48 =>
 if r48 then (
  (loopO (m50_1 r7) (0, ([] : List (Int × Bool)))).bind fun e94 => match e94 with
  | .inr z => some z
  | .inl t97 =>
  some 0)
 else
 some 1
noncomputable def m82 (x_0 : Erratum) (f0_ : Erratum → Option Bool) : Option (Bool) :=
 (f0_ x_0).bind fun r4 =>
 some (!r4)
noncomputable def m124_1 (s_0 : List Erratum) (f_1 : Erratum → Option Bool) (s23 : Nat) : Option ((Nat) ⊕ ((Unit) ⊕ Int)) :=
 if (s23 : Int) < (s_0.length : Int) then (
  (s_0[s23]?).bind fun x46 =>
  (f_1 x46).bind fun r54 =>
  if r54 then (
   some (.inr (.inr (s23 : Int))))
  else
  some (.inl (s23 + 1)))
 else
 some (.inr (.inl ()))
noncomputable def m124 (s_0 : List Erratum) (f_1 : Erratum → Option Bool) : Option (Int) :=
 (loopO (m124_1 s_0 f_1) 0).bind fun e19 => match e19 with
 | .inr z => some z
 | .inl t22 =>
 some (-1)
noncomputable def m81 (s_0 : List Erratum) (f_1 : Erratum → Option Bool) : Option (Bool) :=
 (m124 s_0 f_1).bind fun r1 =>
 some (decide (0 ≤ r1))
noncomputable def m51 (l_0 : List Erratum) (right : Erratum → Option Bool) : Option (Bool) :=
 (m81 l_0 (fun x0_ => m82 x0_ right)).bind fun r5 =>
 some (!r5)
noncomputable def m52 (x_0 : Erratum) : Option (Bool) :=
 ((
  (m44 x_0.number 1 999).bind fun r22 =>
  if r22 then (
   (m34 x_0.day).bind fun r27 =>
   if r27 then (
    (m83 x_0.anchor).bind fun r32 =>
    some (!r32))
   else
   some true)
  else
  some true
 ) : Option (Bool)).bind fun t19 =>
 if t19 then (
  some false)
 else
 if x_0.kind = 0 then (
  ((
   (m84 x_0.text).bind fun r114 =>
   if r114 then (
    some (decide (x_0.new_ = 0)))
   else
   some false
  ) : Option (Bool)).bind fun t111 =>
  some t111)
 else
 if x_0.kind = 1 then (
  ((
   if x_0.text = [] then (
    some (decide (x_0.new_ = 0)))
   else
   some false
  ) : Option (Bool)).bind fun t146 =>
  some t146)
 else
 if x_0.kind = 2 then (
  ((
   (m84 x_0.text).bind fun r180 =>
   if r180 then (
    (m83 x_0.new_).bind fun r185 =>
    some r185)
   else
   some false
  ) : Option (Bool)).bind fun t177 =>
  some t177)
 else
 some false
noncomputable def m86 (s_0 : List Erratum) : Option (List Erratum) :=
 chk (([] : List Erratum).length + s_0.length ≤ 1073741824) <|
 some (([] : List Erratum) ++ s_0)
noncomputable def m171 (x_0 : Int) : Option (Bool) :=
 some (decide (x_0 ≠ x_0))
noncomputable def m130 (x_0 : Int) (y_1 : Int) : Option (Int) :=
 (m171 x_0).bind fun r1 =>
 (m171 y_1).bind fun r4 =>
 if r1 then (
  if r4 then (
   some 0)
  else
  some (-1))
 else
 if r4 then (
  some 1)
 else
 if x_0 < y_1 then (
  some (-1))
 else
 if y_1 < x_0 then (
  some 1)
 else
 some 0
noncomputable def m129_1 (vals : List Int) (s20 : Nat) : Option ((Nat) ⊕ ((Unit) ⊕ Int)) :=
 if (s20 : Int) < (vals.length : Int) then (
  (vals[s20]?).bind fun x40 =>
  if x40 ≠ 0 then (
   some (.inr (.inr x40)))
  else
  some (.inl (s20 + 1)))
 else
 some (.inr (.inl ()))
noncomputable def m129 (vals : List Int) : Option (Int) :=
 (loopO (m129_1 vals) 0).bind fun e16 => match e16 with
 | .inr z => some z
 | .inl t19 =>
 some 0
noncomputable def m88 (a_0 : Erratum) (b_1 : Erratum) : Option (Int) :=
 (m130 a_0.day b_1.day).bind fun r7 =>
 (m130 a_0.number b_1.number).bind fun r11 =>
 (m129 ([r7, r11] : List Int)).bind fun r19 =>
 some r19
noncomputable def m85_1 (t8 : List Erratum) (l22 : List Erratum) (f1_ : Int) (yield : Erratum → Option Bool) (s51 : Nat) : Option ((Nat) ⊕ ((Unit) ⊕ Unit)) :=
 if (s51 : Int) < (t8.length : Int) then (
  (l22[s51]?).bind fun x77 =>
  ((
   if f1_ < x77.day then (
    some true)
   else
   (yield x77).bind fun r96 =>
   some (!r96)
  ) : Option (Bool)).bind fun t90 =>
  if t90 then (
   some (.inr (.inr ())))
  else
  some (.inl (s51 + 1)))
 else
 some (.inr (.inl ()))
noncomputable def m85 (yield : Erratum → Option Bool) (f0_ : List Erratum) (f1_ : Int) : Option (Unit) :=
 ((
  chk (([] : List Erratum).length + f0_.length ≤ 1073741824) <|
  some (([] : List Erratum) ++ f0_)
 ) : Option (List Erratum)).bind fun t8 =>
 (sortO (m88) t8).bind fun l22 =>
 (loopO (m85_1 t8 l22 f1_ yield) 0).bind fun e47 => match e47 with
 | .inr z => some z
 | .inl t50 =>
 some ()
noncomputable def m54_1 (r10 : List Paragraph) (s50 : Nat × (List (Int × Bool))) : Option ((Nat × (List (Int × Bool))) ⊕ ((List (Int × Bool)))) :=
 if (s50.1 : Int) < (r10.length : Int) then (
  (r10[s50.1]?).bind fun x70 =>
  some (.inl ((s50.1 + 1), (put s50.2 x70.anchor true))))
 else
 some (.inr s50.2)
noncomputable def m54_2 (t273 : List Erratum) (l287 : List Erratum) (s353 : Nat × (List (Int × Bool))) : Option ((Nat × (List (Int × Bool))) ⊕ (((List (Int × Bool))) ⊕ (((List (Int × Bool))) ⊕ (Nat × (List (Int × Bool)))))) :=
 if (s353.1 : Int) < (t273.length : Int) then (
  (l287[s353.1]?).bind fun x387 =>
  if 99999 < x387.day then (
   some (.inr (.inr (.inl s353.2))))
  else
  ((
   if (lkp s353.2 x387.anchor).getD false then (
    ((
     if x387.kind = 2 then (
      some (put s353.2 x387.new_ true))
     else
     some s353.2
    ) : Option ((List (Int × Bool)))).bind fun t449 =>
    some (.inr t449))
   else
   some (.inl 7)
  ) : Option ((Nat) ⊕ ((List (Int × Bool))))).bind fun t425 => match t425 with
  | .inl t428 => (
   some (.inr (.inr (.inr (t428, s353.2)))))
  | .inr t429 => (
   some (.inl ((s353.1 + 1), t429))))
 else
 some (.inr (.inl s353.2))
noncomputable def m54 (v_0 : Volume) (errata : List Erratum) : Option (Int) :=
 (m53 v_0).bind fun r10 =>
 (loopO (m54_1 r10) (0, ([] : List (Int × Bool)))).bind fun e47 =>
 ((
  ((
   chk (([] : List Erratum).length + errata.length ≤ 1073741824) <|
   some (([] : List Erratum) ++ errata)
  ) : Option (List Erratum)).bind fun t273 =>
  (sortO (m88) t273).bind fun l287 =>
  (loopO (m54_2 t273 l287) (0, e47)).bind fun e349 => match e349 with
  | .inr z => some z
  | .inl t352 =>
  some (.inl t352)
 ) : Option (((List (Int × Bool))) ⊕ (Nat × (List (Int × Bool))))).bind fun t261 => match t261 with
 | .inl t264 => (
  some 0)
 | .inr t265 => (
  some (t265.1 : Int))
noncomputable def m33_1 (r51 : List Paragraph) (s91 : Nat × (List (Int × Bool))) : Option ((Nat × (List (Int × Bool))) ⊕ ((List (Int × Bool)))) :=
 if (s91.1 : Int) < (r51.length : Int) then (
  (r51[s91.1]?).bind fun x111 =>
  some (.inl ((s91.1 + 1), (put s91.2 x111.anchor true))))
 else
 some (.inr s91.2)
noncomputable def m33_2 (errata : List Erratum) (s185 : Nat × (List (Int × Bool)) × (List (Int × Bool))) : Option ((Nat × (List (Int × Bool)) × (List (Int × Bool))) ⊕ (((List (Int × Bool)) × (List (Int × Bool))) ⊕ Int)) :=
 if (s185.1 : Int) < (errata.length : Int) then (
  (errata[s185.1]?).bind fun x219 =>
  ((
   if (lkp s185.2.1 x219.number).getD false then (
    some true)
   else
   if x219.kind = 2 then (
    some ((lkp s185.2.2 x219.new_).getD false))
   else
   some false
  ) : Option (Bool)).bind fun t236 =>
  if t236 then (
   some (.inr (.inr 6)))
  else
  ((
   if x219.kind = 2 then (
    some (put s185.2.2 x219.new_ true))
   else
   some s185.2.2
  ) : Option ((List (Int × Bool)))).bind fun t254 =>
  some (.inl ((s185.1 + 1), (put s185.2.1 x219.number true), t254)))
 else
 some (.inr (.inl (s185.2.1, s185.2.2)))
noncomputable def m33 (v_0 : Volume) (errata : List Erratum) : Option (Int) :=
 (m50 v_0).bind fun r7 =>
 if r7 ≠ 0 then (
  some r7)
 else
 if 20 < (errata.length : Int) then (
  some 3)
 else
 (m51 errata (m52)).bind fun r40 =>
 if r40 then (
  (m53 v_0).bind fun r51 =>
  (loopO (m33_1 r51) (0, ([] : List (Int × Bool)))).bind fun e88 =>
  (loopO (m33_2 errata) (0, ([] : List (Int × Bool)), e88)).bind fun e181 => match e181 with
  | .inr z => some z
  | .inl t184 =>
  (m54 v_0 errata).bind fun r261 =>
  some r261)
 else
 some 1
noncomputable def m56_2 (x81 : List entry) (anchor : Int) (s43 : Nat × Nat × Nat × Bool) (s113 : Nat × Nat × Nat × Bool) : Option ((Nat × Nat × Nat × Bool) ⊕ ((Nat × Nat × Bool) ⊕ ((Nat × Nat × Nat × Bool) ⊕ (Nat × Nat × Bool)))) :=
 if (s113.2.2.1 : Int) < (x81.length : Int) then (
  (x81[s113.2.2.1]?).bind fun x134 =>
  if x134.paragraph.anchor = anchor then (
   Option.map (fun z => .inr (.inr z)) (
   some (.inr (s43.2.2.1, s113.2.2.1, true))))
  else
  some (.inl (s113.1, s113.2.1, (s113.2.2.1 + 1), s113.2.2.2)))
 else
 some (.inr (.inl (s113.1, s113.2.1, s113.2.2.2)))
noncomputable def m56_1 (b_0 : edition) (anchor : Int) (s43 : Nat × Nat × Nat × Bool) : Option ((Nat × Nat × Nat × Bool) ⊕ (Nat × Nat × Bool)) :=
 if (s43.2.2.1 : Int) < (b_0.parts.length : Int) then (
  (b_0.parts[s43.2.2.1]?).bind fun x81 =>
  (loopO (m56_2 x81 anchor s43) (s43.1, s43.2.1, 0, s43.2.2.2)).bind fun e109 => match e109 with
  | .inr z => some z
  | .inl t112 =>
  some (.inl (t112.1, t112.2.1, (s43.2.2.1 + 1), t112.2.2)))
 else
 some (.inr (s43.1, s43.2.1, s43.2.2.2))
noncomputable def m56 (b_0 : edition) (anchor : Int) : Option (Int × Int × Bool) :=
 (loopO (m56_1 b_0 anchor) (0, 0, 0, false)).bind fun e40 =>
 some ((e40.1 : Int), (e40.2.1 : Int), e40.2.2)
noncomputable def m57  : Option (Unit) :=
 some ()
noncomputable def m35_2 (x559 : Part) (s645 : Nat × List entry) : Option ((Nat × List entry) ⊕ (List entry)) :=
 if (s645.1 : Int) < (x559.paragraphs.length : Int) then (
  (x559.paragraphs[s645.1]?).bind fun x672 =>
  chk (s645.2.length + 1 ≤ 1073741824) <|
  some (.inl ((s645.1 + 1), (s645.2 ++ [(⟨x672, false⟩ : entry)]))))
 else
 some (.inr s645.2)
noncomputable def m35_1 (v_0 : Volume) (s446 : Nat × List (List entry)) : Option ((Nat × List (List entry)) ⊕ (List (List entry))) :=
 if (s446.1 : Int) < (v_0.parts.length : Int) then (
  (v_0.parts[s446.1]?).bind fun x559 =>
  (loopO (m35_2 x559) (0, ([] : List entry))).bind fun e640 =>
  chk (s446.2.length + 1 ≤ 1073741824) <|
  some (.inl ((s446.1 + 1), (s446.2 ++ [e640]))))
 else
 some (.inr s446.2)
noncomputable def m35_5 (x3142 : List entry) (x2432 : Erratum) (s3110 : Nat × Nat × Nat × Bool) (s3168 : Nat × Nat × Nat × Bool) : Option ((Nat × Nat × Nat × Bool) ⊕ ((Nat × Nat × Bool) ⊕ ((Nat × Nat × Nat × Bool) ⊕ (Nat × Nat × Bool)))) :=
 if (s3168.2.2.1 : Int) < (x3142.length : Int) then (
  (x3142[s3168.2.2.1]?).bind fun x3185 =>
  if x3185.paragraph.anchor = x2432.anchor then (
   Option.map (fun z => .inr (.inr z)) (
   some (.inr (s3110.2.2.1, s3168.2.2.1, true))))
  else
  chk (-9223372036854775808 ≤ ((s3168.2.2.1 : Int) + 1) ∧ ((s3168.2.2.1 : Int) + 1) ≤ 9223372036854775807) <|
  some (.inl (s3168.1, s3168.2.1, (s3168.2.2.1 + 1), s3168.2.2.2)))
 else
 some (.inr (.inl (s3168.1, s3168.2.1, s3168.2.2.2)))
noncomputable def m35_4 (s2201 : Nat × List (List entry)) (x2432 : Erratum) (s3110 : Nat × Nat × Nat × Bool) : Option ((Nat × Nat × Nat × Bool) ⊕ (Nat × Nat × Bool)) :=
 if (s3110.2.2.1 : Int) < (s2201.2.length : Int) then (
  (s2201.2[s3110.2.2.1]?).bind fun x3142 =>
  (loopO (m35_5 x3142 x2432 s3110) (s3110.1, s3110.2.1, 0, s3110.2.2.2)).bind fun e3164 => match e3164 with
  | .inr z => some z
  | .inl t3167 =>
  chk (-9223372036854775808 ≤ ((s3110.2.2.1 : Int) + 1) ∧ ((s3110.2.2.1 : Int) + 1) ≤ 9223372036854775807) <|
  some (.inl (t3167.1, t3167.2.1, (s3110.2.2.1 + 1), t3167.2.2)))
 else
 some (.inr (s3110.1, s3110.2.1, s3110.2.2.2))
noncomputable def m35_3 (t1715 : List Erratum) (l1729 : List Erratum) (to_2 : Int) (s2201 : Nat × List (List entry)) : Option ((Nat × List (List entry)) ⊕ ((List (List entry)) ⊕ (List (List entry)))) :=
 if (s2201.1 : Int) < (t1715.length : Int) then (
  (l1729[s2201.1]?).bind fun x2432 =>
  ((
   if to_2 < x2432.day then (
    some (true, s2201.2))
   else
   ((
    ((
     (loopO (m35_4 s2201 x2432) (0, 0, 0, false)).bind fun e3107 =>
     some (e3107.2.1, e3107.1, e3107.2.2)
    ) : Option (Nat × Nat × Bool)).bind fun t3075 =>
    ((
     if t3075.2.2 then (
      (m57).bind fun r3365 =>
      chk (0 ≤ x2432.kind) <|
      if x2432.kind = 0 then (
       ((
        (s2201.2[t3075.2.1]?).bind fun x3419 =>
        (x3419[t3075.1]?).bind fun x3427 =>
        ((
         if x3427.removed then (
          some s2201.2)
         else
         some (s2201.2.set t3075.2.1 (x3419.set t3075.1 (⟨(⟨x3427.paragraph.anchor, x2432.text⟩ : Paragraph), x3427.removed⟩ : entry)))
        ) : Option (List (List entry))).bind fun t3435 =>
        some t3435
       ) : Option (List (List entry))).bind fun t3409 =>
       some t3409)
      else
      if x2432.kind = 1 then (
       ((
        (s2201.2[t3075.2.1]?).bind fun x3488 =>
        (x3488[t3075.1]?).bind fun x3496 =>
        some (s2201.2.set t3075.2.1 (x3488.set t3075.1 (⟨x3496.paragraph, true⟩ : entry)))
       ) : Option (List (List entry))).bind fun t3478 =>
       some t3478)
      else
      if x2432.kind = 2 then (
       ((
        (s2201.2[t3075.2.1]?).bind fun x3557 =>
        chk (-9223372036854775808 ≤ ((t3075.1 : Int) + 1) ∧ ((t3075.1 : Int) + 1) ≤ 9223372036854775807) <|
        chk (x3557.length + 1 ≤ 1073741824) <|
        chk (((t3075.1 : Int) + 1).toNat ≤ x3557.length) <|
        some (s2201.2.set t3075.2.1 (x3557.take (((t3075.1 : Int) + 1).toNat) ++ [(⟨(⟨x2432.new_, x2432.text⟩ : Paragraph), false⟩ : entry)] ++ x3557.drop (((t3075.1 : Int) + 1).toNat)))
       ) : Option (List (List entry))).bind fun t3547 =>
       some t3547)
      else
      none)
     else
     some s2201.2
    ) : Option (List (List entry))).bind fun t3356 =>
    some t3356
   ) : Option (List (List entry))).bind fun t2845 =>
   some (false, t2845)
  ) : Option (Bool × List (List entry))).bind fun t2642 =>
  if t2642.1 then (
   some (.inr (.inr t2642.2)))
  else
  some (.inl ((s2201.1 + 1), t2642.2)))
 else
 some (.inr (.inl s2201.2))
noncomputable def m35 (v_0 : Volume) (errata : List Erratum) (to_2 : Int) : Option (edition) :=
 (loopO (m35_1 v_0) (0, ([] : List (List entry)))).bind fun e437 =>
 ((
  ((
   chk (([] : List Erratum).length + errata.length ≤ 1073741824) <|
   some (([] : List Erratum) ++ errata)
  ) : Option (List Erratum)).bind fun t1715 =>
  (sortO (m88) t1715).bind fun l1729 =>
  (loopO (m35_3 t1715 l1729 to_2) (0, e437)).bind fun e2193 => match e2193 with
  | .inr z => some z
  | .inl t2196 =>
  some t2196
 ) : Option (List (List entry))).bind fun t1701 =>
 some (⟨v_0, t1701⟩ : edition)
noncomputable def m39_2 (x994 : List entry) (v_0 : Volume) (s763 : Nat × Int × List printed) (s1208 : Nat × Nat × Int × List printed) : Option ((Nat × Nat × Int × List printed) ⊕ (Int × List printed)) :=
 if (s1208.2.1 : Int) < (x994.length : Int) then (
  ((
   (x994[s1208.2.1]?).bind fun x1281 =>
   if x1281.removed then (
    some (s1208.1, s1208.2.2.1, s1208.2.2.2))
   else
   chk (-9223372036854775808 ≤ ((s1208.1 : Int) + 1) ∧ ((s1208.1 : Int) + 1) ≤ 9223372036854775807) <|
   chk (-9223372036854775808 ≤ ((x1281.paragraph.text.length : Int) + v_0.width) ∧ ((x1281.paragraph.text.length : Int) + v_0.width) ≤ 9223372036854775807) <|
   chk (-9223372036854775808 ≤ (((x1281.paragraph.text.length : Int) + v_0.width) - 1) ∧ (((x1281.paragraph.text.length : Int) + v_0.width) - 1) ≤ 9223372036854775807) <|
   chk (0 ≤ (((x1281.paragraph.text.length : Int) + v_0.width) - 1) ∧ (((x1281.paragraph.text.length : Int) + v_0.width) - 1) ≤ 9223372036854775807 ∧ 0 < v_0.width) <|
   chk (0 ≤ s1208.2.2.1 ∧ s1208.2.2.1 ≤ 9223372036854775807 ∧ 0 < v_0.height) <|
   chk (-9223372036854775808 ≤ (s763.2.1 + (s1208.2.2.1 / v_0.height)) ∧ (s763.2.1 + (s1208.2.2.1 / v_0.height)) ≤ 9223372036854775807) <|
   chk (0 ≤ s1208.2.2.1 ∧ 0 < v_0.height) <|
   chk (-9223372036854775808 ≤ ((s1208.2.2.1 % v_0.height) + 1) ∧ ((s1208.2.2.1 % v_0.height) + 1) ≤ 9223372036854775807) <|
   (v_0.parts[s763.1]?).bind fun x1314 =>
   chk (s1208.2.2.2.length + ([(⟨(⟨x1281.paragraph.anchor, (s763.2.1 + (s1208.2.2.1 / v_0.height)), ((s1208.2.2.1 % v_0.height) + 1), ((((x1281.paragraph.text.length : Int) + v_0.width) - 1) / v_0.width)⟩ : Place), x1314.day, ((s1208.1 : Int) + 1)⟩ : printed)] : List printed).length ≤ 1073741824) <|
   chk (-9223372036854775808 ≤ (s1208.2.2.1 + ((((x1281.paragraph.text.length : Int) + v_0.width) - 1) / v_0.width)) ∧ (s1208.2.2.1 + ((((x1281.paragraph.text.length : Int) + v_0.width) - 1) / v_0.width)) ≤ 9223372036854775807) <|
   some ((s1208.1 + 1), (s1208.2.2.1 + ((((x1281.paragraph.text.length : Int) + v_0.width) - 1) / v_0.width)), (s1208.2.2.2 ++ ([(⟨(⟨x1281.paragraph.anchor, (s763.2.1 + (s1208.2.2.1 / v_0.height)), ((s1208.2.2.1 % v_0.height) + 1), ((((x1281.paragraph.text.length : Int) + v_0.width) - 1) / v_0.width)⟩ : Place), x1314.day, ((s1208.1 : Int) + 1)⟩ : printed)] : List printed)))
  ) : Option (Nat × Int × List printed)).bind fun t1276 =>
  some (.inl (t1276.1, (s1208.2.1 + 1), t1276.2.1, t1276.2.2)))
 else
 some (.inr (s1208.2.2.1, s1208.2.2.2))
noncomputable def m39_1 (r7 : edition) (v_0 : Volume) (s763 : Nat × Int × List printed) : Option ((Nat × Int × List printed) ⊕ (List printed)) :=
 if (s763.1 : Int) < (r7.parts.length : Int) then (
  (r7.parts[s763.1]?).bind fun x994 =>
  (loopO (m39_2 x994 v_0 s763) (0, 0, 0, s763.2.2)).bind fun e1203 =>
  chk (-9223372036854775808 ≤ (e1203.1 + v_0.height) ∧ (e1203.1 + v_0.height) ≤ 9223372036854775807) <|
  chk (-9223372036854775808 ≤ ((e1203.1 + v_0.height) - 1) ∧ ((e1203.1 + v_0.height) - 1) ≤ 9223372036854775807) <|
  chk (0 ≤ ((e1203.1 + v_0.height) - 1) ∧ ((e1203.1 + v_0.height) - 1) ≤ 9223372036854775807 ∧ 0 < v_0.height) <|
  chk (-9223372036854775808 ≤ (s763.2.1 + (((e1203.1 + v_0.height) - 1) / v_0.height)) ∧ (s763.2.1 + (((e1203.1 + v_0.height) - 1) / v_0.height)) ≤ 9223372036854775807) <|
  some (.inl ((s763.1 + 1), (s763.2.1 + (((e1203.1 + v_0.height) - 1) / v_0.height)), e1203.2)))
 else
 some (.inr s763.2.2)
noncomputable def m39 (v_0 : Volume) (errata : List Erratum) : Option (List printed) :=
 (m35 v_0 errata v_0.bound).bind fun r7 =>
 (loopO (m39_1 r7 v_0) (0, 1, ([] : List printed))).bind fun e758 =>
 some e758
noncomputable def m22_1 (r16 : List printed) (s94 : Nat × List Place) : Option ((Nat × List Place) ⊕ (List Place)) :=
 if (s94.1 : Int) < (r16.length : Int) then (
  (r16[s94.1]?).bind fun x121 =>
  chk (s94.2.length + 1 ≤ 1073741824) <|
  some (.inl ((s94.1 + 1), (s94.2 ++ [x121.place]))))
 else
 some (.inr s94.2)
noncomputable def m22 (v_0 : Volume) (errata : List Erratum) : Option (List Place × Int) :=
 (m33 v_0 errata).bind fun r7 =>
 if r7 ≠ 0 then (
  some (([] : List Place), r7))
 else
 (m39 v_0 errata).bind fun r16 =>
 (loopO (m22_1 r16) (0, ([] : List Place))).bind fun e89 =>
 some (e89, 0)
noncomputable def m9  : Option (Bool) :=
 (m22 (⟨1, 0, 2, 10, ([(⟨0, ([(⟨4, [80, 114, 97, 121, 101, 114, 115, 46]⟩ : Paragraph)] : List Paragraph)⟩ : Part)] : List Part)⟩ : Volume) ([] : List Erratum)).bind fun r12 =>
 ((
  if r12.2 = 0 then (
   if (r12.1.length : Int) = 1 then (
    (r12.1[0]?).bind fun x40 =>
    some (decide (x40 = (⟨4, 1, 1, 1⟩ : Place))))
   else
   some false)
  else
  some false
 ) : Option (Bool)).bind fun t33 =>
 some t33
noncomputable def m11_2 (x424 : Part) (s508 : Nat × List Paragraph) : Option ((Nat × List Paragraph) ⊕ (List Paragraph)) :=
 if (s508.1 : Int) < (x424.paragraphs.length : Int) then (
  (x424.paragraphs[s508.1]?).bind fun x535 =>
  chk (s508.2.length + 1 ≤ 1073741824) <|
  some (.inl ((s508.1 + 1), (s508.2 ++ [x535]))))
 else
 some (.inr s508.2)
noncomputable def m11_1 (v_0 : Volume) (s319 : Nat × List Part) : Option ((Nat × List Part) ⊕ (List Part)) :=
 if (s319.1 : Int) < (v_0.parts.length : Int) then (
  (v_0.parts[s319.1]?).bind fun x424 =>
  (loopO (m11_2 x424) (0, ([] : List Paragraph))).bind fun e503 =>
  chk (s319.2.length + 1 ≤ 1073741824) <|
  some (.inl ((s319.1 + 1), (s319.2 ++ [(⟨x424.day, e503⟩ : Part)]))))
 else
 some (.inr s319.2)
noncomputable def m11 (v_0 : Volume) : Option (Volume) :=
 (loopO (m11_1 v_0) (0, ([] : List Part))).bind fun e311 =>
 some (⟨v_0.number, v_0.bound, v_0.height, v_0.width, e311⟩ : Volume)
noncomputable def m36 (x_0 : Erratum) : Option (Erratum) :=
 some x_0
noncomputable def m12_1 (l_0 : List Erratum) (s72 : Nat × List Erratum) : Option ((Nat × List Erratum) ⊕ (List Erratum)) :=
 if (s72.1 : Int) < (l_0.length : Int) then (
  (l_0[s72.1]?).bind fun x99 =>
  (m36 x99).bind fun r107 =>
  chk (s72.2.length + 1 ≤ 1073741824) <|
  some (.inl ((s72.1 + 1), (s72.2 ++ [r107]))))
 else
 some (.inr s72.2)
noncomputable def m12 (l_0 : List Erratum) : Option (List Erratum) :=
 (loopO (m12_1 l_0) (0, ([] : List Erratum))).bind fun e67 =>
 some e67
noncomputable def m10_2 (x475 : List entry) (s575 : Nat × List Paragraph) : Option ((Nat × List Paragraph) ⊕ (List Paragraph)) :=
 if (s575.1 : Int) < (x475.length : Int) then (
  (x475[s575.1]?).bind fun x608 =>
  ((
   if x608.removed then (
    some s575.2)
   else
   chk (s575.2.length + 1 ≤ 1073741824) <|
   some (s575.2 ++ [x608.paragraph])
  ) : Option (List Paragraph)).bind fun t627 =>
  some (.inl ((s575.1 + 1), t627)))
 else
 some (.inr s575.2)
noncomputable def m10_1 (r25 : edition) (s366 : Nat × List Paragraph) : Option ((Nat × List Paragraph) ⊕ (List Paragraph)) :=
 if (s366.1 : Int) < (r25.parts.length : Int) then (
  (r25.parts[s366.1]?).bind fun x475 =>
  (loopO (m10_2 x475) (0, s366.2)).bind fun e570 =>
  some (.inl ((s366.1 + 1), e570)))
 else
 some (.inr s366.2)
noncomputable def m10 (v_0 : Volume) (errata : List Erratum) (to_2 : Int) : Option (List Paragraph × Int) :=
 (m33 v_0 errata).bind fun r7 =>
 if r7 ≠ 0 then (
  some (([] : List Paragraph), r7))
 else
 (m34 to_2).bind fun r16 =>
 if r16 then (
  (m35 v_0 errata to_2).bind fun r25 =>
  (loopO (m10_1 r25) (0, ([] : List Paragraph))).bind fun e361 =>
  some (e361, 0))
 else
 some (([] : List Paragraph), 2)
noncomputable def m37_2 (x151 : List entry) (anchor : Int) (s113 : Nat × Nat × Nat × Bool) (s183 : Nat × Nat × Nat × Bool) : Option ((Nat × Nat × Nat × Bool) ⊕ ((Nat × Nat × Bool) ⊕ ((Nat × Nat × Nat × Bool) ⊕ (Nat × Nat × Bool)))) :=
 if (s183.2.2.1 : Int) < (x151.length : Int) then (
  (x151[s183.2.2.1]?).bind fun x204 =>
  if x204.paragraph.anchor = anchor then (
   Option.map (fun z => .inr (.inr z)) (
   some (.inr (s113.2.2.1, s183.2.2.1, true))))
  else
  some (.inl (s183.1, s183.2.1, (s183.2.2.1 + 1), s183.2.2.2)))
 else
 some (.inr (.inl (s183.1, s183.2.1, s183.2.2.2)))
noncomputable def m37_1 (r25 : edition) (anchor : Int) (s113 : Nat × Nat × Nat × Bool) : Option ((Nat × Nat × Nat × Bool) ⊕ (Nat × Nat × Bool)) :=
 if (s113.2.2.1 : Int) < (r25.parts.length : Int) then (
  (r25.parts[s113.2.2.1]?).bind fun x151 =>
  (loopO (m37_2 x151 anchor s113) (s113.1, s113.2.1, 0, s113.2.2.2)).bind fun e179 => match e179 with
  | .inr z => some z
  | .inl t182 =>
  some (.inl (t182.1, t182.2.1, (s113.2.2.1 + 1), t182.2.2)))
 else
 some (.inr (s113.1, s113.2.1, s113.2.2.2))
noncomputable def m37 (v_0 : Volume) (errata : List Erratum) (anchor : Int) (to_3 : Int) : Option (Bytes × Bool × Int) :=
 (m33 v_0 errata).bind fun r7 =>
 if r7 ≠ 0 then (
  some ([], false, r7))
 else
 (m34 to_3).bind fun r16 =>
 if r16 then (
  (m35 v_0 errata to_3).bind fun r25 =>
  ((
   (loopO (m37_1 r25 anchor) (0, 0, 0, false)).bind fun e110 =>
   some (e110.2.1, e110.1, e110.2.2)
  ) : Option (Nat × Nat × Bool)).bind fun t74 =>
  if t74.2.2 then (
   (r25.parts[t74.2.1]?).bind fun x229 =>
   (x229[t74.1]?).bind fun x241 =>
   some (x241.paragraph.text, x241.removed, 0))
  else
  some ([], false, 7))
 else
 some ([], false, 2)
noncomputable def m13_1 (r80 : List printed) (anchor : Int) (style : Int) (v_0 : Volume) (s128 : Nat) : Option ((Nat) ⊕ ((Unit) ⊕ (Bytes × Int))) :=
 if (s128 : Int) < (r80.length : Int) then (
  (r80[s128]?).bind fun x170 =>
  if x170.place.anchor ≠ anchor then (
   some (.inl (s128 + 1)))
  else
  if style = 0 then (
   (m38 ([(.s [118, 111, 108, 46, 32] : Any), (.i v_0.number : Any), (.s [44, 32, 99, 111, 108, 46, 32] : Any), (.i x170.place.column : Any), (.s [44, 32, 108, 46, 32] : Any), (.i x170.place.line : Any)] : List Any)).bind fun r254 =>
   some (.inr (.inr (r254, 0))))
  else
  (m38 ([(.s [118, 111, 108, 46, 32] : Any), (.i v_0.number : Any), (.s [44, 32] : Any), (.i x170.day : Any), (.s [44, 32, 112, 97, 114, 46, 32] : Any), (.i x170.number : Any)] : List Any)).bind fun r263 =>
  some (.inr (.inr (r263, 0))))
 else
 some (.inr (.inl ()))
noncomputable def m13 (v_0 : Volume) (errata : List Erratum) (anchor : Int) (style : Int) (to_4 : Int) : Option (Bytes × Int) :=
 (m33 v_0 errata).bind fun r7 =>
 if r7 ≠ 0 then (
  some ([], r7))
 else
 ((
  if 2 < style then (
   some true)
  else
  if style = 2 then (
   (m34 to_4).bind fun r33 =>
   some (!r33))
  else
  some false
 ) : Option (Bool)).bind fun t25 =>
 if t25 then (
  some ([], 2))
 else
 if style = 2 then (
  (m37 v_0 errata anchor to_4).bind fun r62 =>
  if r62.2.2 ≠ 0 then (
   some ([], r62.2.2))
  else
  (m38 ([(.i anchor : Any), (.s [64] : Any), (.i to_4 : Any)] : List Any)).bind fun r76 =>
  some (r76, 0))
 else
 (m39 v_0 errata).bind fun r80 =>
 (loopO (m13_1 r80 anchor style v_0) 0).bind fun e124 => match e124 with
 | .inr z => some z
 | .inl t127 =>
 some ([], 7)
noncomputable def m14_1 (r_0 : Report) (s48 : Nat) : Option ((Nat) ⊕ ((Unit) ⊕ Int)) :=
 if (s48 : Int) < (r_0.words.length : Int) then (
  (r_0.words[s48]?).bind fun x72 =>
  if 5 < (x72.heads.length : Int) then (
   some (.inr (.inr 3)))
  else
  some (.inl (s48 + 1)))
 else
 some (.inr (.inl ()))
noncomputable def m14_3 (x198 : Word) (s260 : Nat) : Option ((Nat) ⊕ ((Unit) ⊕ ((Nat) ⊕ ((Unit) ⊕ Int)))) :=
 if (s260 : Int) < (x198.text.length : Int) then (
  ((
   (x198.text[s260]?).bind fun x288 =>
   if (x288.toNat : Int) < 33 then (
    some true)
   else
   some (decide (126 < (x288.toNat : Int)))
  ) : Option (Bool)).bind fun t285 =>
  if t285 then (
   some (.inr (.inr (.inr (.inr 1)))))
  else
  chk (-9223372036854775808 ≤ ((s260 : Int) + 1) ∧ ((s260 : Int) + 1) ≤ 9223372036854775807) <|
  some (.inl (s260 + 1)))
 else
 some (.inr (.inl ()))
noncomputable def m14_2 (r_0 : Report) (s144 : Nat) : Option ((Nat) ⊕ ((Unit) ⊕ Int)) :=
 if (s144 : Int) < (r_0.words.length : Int) then (
  (r_0.words[s144]?).bind fun x198 =>
  ((
   (m31 (x198.text.length : Int) 1 20).bind fun r225 =>
   if r225 then (
    (m32 x198.heads 99).bind fun r230 =>
    some (!r230))
   else
   some true
  ) : Option (Bool)).bind fun t222 =>
  if t222 then (
   some (.inr (.inr 1)))
  else
  (loopO (m14_3 x198) 0).bind fun e256 => match e256 with
  | .inr z => some z
  | .inl t259 =>
  some (.inl (s144 + 1)))
 else
 some (.inr (.inl ()))
noncomputable def m14_4 (r_0 : Report) (s350 : Nat) : Option ((Nat) ⊕ ((Unit) ⊕ Int)) :=
 if (s350 : Int) < (r_0.orders.length : Int) then (
  (r_0.orders[s350]?).bind fun x397 =>
  ((
   (m31 x397.to_ 1 (r_0.words.length : Int)).bind fun r434 =>
   if r434 then (
    chk (-9223372036854775808 ≤ (x397.to_ - 1) ∧ (x397.to_ - 1) ≤ 9223372036854775807) <|
    (m31 x397.from_ 0 (x397.to_ - 1)).bind fun r441 =>
    if r441 then (
     (m31 x397.kind 0 7).bind fun r446 =>
     if r446 then (
      (m31 x397.until_ 0 9999).bind fun r451 =>
      some (!r451))
     else
     some true)
    else
    some true)
   else
   some true
  ) : Option (Bool)).bind fun t431 =>
  if t431 then (
   some (.inr (.inr 1)))
  else
  some (.inl (s350 + 1)))
 else
 some (.inr (.inl ()))
noncomputable def m14 (r_0 : Report) : Option (Int) :=
 ((
  if 60 < (r_0.words.length : Int) then (
   some true)
  else
  some (decide (12 < (r_0.orders.length : Int)))
 ) : Option (Bool)).bind fun t13 =>
 if t13 then (
  some 3)
 else
 (loopO (m14_1 r_0) 0).bind fun e44 => match e44 with
 | .inr z => some z
 | .inl t47 =>
 (loopO (m14_2 r_0) 0).bind fun e140 => match e140 with
 | .inr z => some z
 | .inl t143 =>
 (loopO (m14_4 r_0) 0).bind fun e346 => match e346 with
 | .inr z => some z
 | .inl t349 =>
 (m31 r_0.columns 1 20).bind fun r464 =>
 if r464 then (
  some 0)
 else
 some 1
noncomputable def m42 (l_0 : List Int) : Option (List Int) :=
 chk (([] : List Int).length + l_0.length ≤ 1073741824) <|
 some (([] : List Int) ++ l_0)
noncomputable def m16_1 (r_0 : Report) (s175 : Nat × List Word) : Option ((Nat × List Word) ⊕ (List Word)) :=
 if (s175.1 : Int) < (r_0.words.length : Int) then (
  (r_0.words[s175.1]?).bind fun x231 =>
  (m42 x231.heads).bind fun r243 =>
  chk (s175.2.length + ([(⟨x231.text, r243⟩ : Word)] : List Word).length ≤ 1073741824) <|
  some (.inl ((s175.1 + 1), (s175.2 ++ ([(⟨x231.text, r243⟩ : Word)] : List Word)))))
 else
 some (.inr s175.2)
noncomputable def m16_2 (r_0 : Report) (s345 : Nat × List Order) : Option ((Nat × List Order) ⊕ (List Order)) :=
 if (s345.1 : Int) < (r_0.orders.length : Int) then (
  (r_0.orders[s345.1]?).bind fun x372 =>
  chk (s345.2.length + 1 ≤ 1073741824) <|
  some (.inl ((s345.1 + 1), (s345.2 ++ [x372]))))
 else
 some (.inr s345.2)
noncomputable def m16 (r_0 : Report) : Option (Report) :=
 (loopO (m16_1 r_0) (0, ([] : List Word))).bind fun e167 =>
 (loopO (m16_2 r_0) (0, ([] : List Order))).bind fun e340 =>
 some (⟨e167, e340, r_0.columns⟩ : Report)
noncomputable def m17 (x_0 : Reader) : Option (Reader) :=
 (m42 x_0.may).bind fun r8 =>
 some (⟨x_0.year, r8⟩ : Reader)
noncomputable def m96 (n_0 : Int) (low : Int) (high : Int) : Option (Bool) :=
 ((
  if low ≤ n_0 then (
   some (decide (n_0 ≤ high)))
  else
  some false
 ) : Option (Bool)).bind fun t4 =>
 some t4
noncomputable def m62 (n_0 : Int) : Option (Bool) :=
 (m96 n_0 0 9999).bind fun r1 =>
 some r1
noncomputable def m95 (o_0 : Order) (f0_ : Report) : Option (Bool) :=
 ((
  if (0 : Int) ≤ o_0.from_ then (
   if o_0.from_ < o_0.to_ then (
    if o_0.to_ ≤ (f0_.words.length : Int) then (
     (m96 o_0.kind 0 7).bind fun r37 =>
     if r37 then (
      (m62 o_0.until_).bind fun r42 =>
      some r42)
     else
     some false)
    else
    some false)
   else
   some false)
  else
  some false
 ) : Option (Bool)).bind fun t28 =>
 some t28
noncomputable def m136 (x_0 : Word) (f0_ : Word → Option Bool) : Option (Bool) :=
 (f0_ x_0).bind fun r7 =>
 some (!r7)
noncomputable def m177_1 (s_0 : List Word) (f_1 : Word → Option Bool) (s27 : Nat) : Option ((Nat) ⊕ ((Unit) ⊕ Int)) :=
 if (s27 : Int) < (s_0.length : Int) then (
  (s_0[s27]?).bind fun x54 =>
  (f_1 x54).bind fun r66 =>
  if r66 then (
   some (.inr (.inr (s27 : Int))))
  else
  some (.inl (s27 + 1)))
 else
 some (.inr (.inl ()))
noncomputable def m177 (s_0 : List Word) (f_1 : Word → Option Bool) : Option (Int) :=
 (loopO (m177_1 s_0 f_1) 0).bind fun e23 => match e23 with
 | .inr z => some z
 | .inl t26 =>
 some (-1)
noncomputable def m135 (s_0 : List Word) (f_1 : Word → Option Bool) : Option (Bool) :=
 (m177 s_0 f_1).bind fun r1 =>
 some (decide (0 ≤ r1))
noncomputable def m97 (l_0 : List Word) (right : Word → Option Bool) : Option (Bool) :=
 (m135 l_0 (fun x0_ => m136 x0_ right)).bind fun r5 =>
 some (!r5)
noncomputable def m98 (w_0 : Word) : Option (Bool) :=
 some (decide ((w_0.heads.length : Int) ≤ 5))
noncomputable def m178 (x_0 : Int) (f0_ : Int → Option Bool) : Option (Bool) :=
 (f0_ x_0).bind fun r1 =>
 some (!r1)
noncomputable def m137 (l_0 : List UInt8) (right : Int → Option Bool) : Option (Bool) :=
 (m159 l_0 (fun x0_ => m178 x0_ right)).bind fun r5 =>
 some (!r5)
noncomputable def m138 (c_0 : Int) : Option (Bool) :=
 ((
  if (33 : Int) ≤ c_0 then (
   some (decide (c_0 ≤ 126)))
  else
  some false
 ) : Option (Bool)).bind fun t4 =>
 some t4
noncomputable def m63_1 (l_0 : List Int) (most : Int) (s37 : Nat) : Option ((Nat) ⊕ ((Unit) ⊕ Bool)) :=
 if (s37 : Int) < (l_0.length : Int) then (
  (l_0[s37]?).bind fun x74 =>
  ((
   (m96 x74 0 most).bind fun r101 =>
   if r101 then (
    if 0 < (s37 : Int) then (
     (l_0[((s37 : Int) - 1).toNat]?).bind fun x108 =>
     some (decide (x74 ≤ x108)))
    else
    some false)
   else
   some true
  ) : Option (Bool)).bind fun t98 =>
  if t98 then (
   some (.inr (.inr false)))
  else
  some (.inl (s37 + 1)))
 else
 some (.inr (.inl ()))
noncomputable def m63 (l_0 : List Int) (most : Int) : Option (Bool) :=
 (loopO (m63_1 l_0 most) 0).bind fun e33 => match e33 with
 | .inr z => some z
 | .inl t36 =>
 some true
noncomputable def m99 (w_0 : Word) : Option (Bool) :=
 ((
  (m96 (w_0.text.length : Int) 1 20).bind fun r32 =>
  if r32 then (
   chk (w_0.text.length ≤ 1073741824) <|
   (m137 w_0.text (m138)).bind fun r44 =>
   if r44 then (
    (m63 w_0.heads 99).bind fun r49 =>
    some r49)
   else
   some false)
  else
  some false
 ) : Option (Bool)).bind fun t29 =>
 some t29
noncomputable def m140 (x_0 : Order) (f0_ : Order → Option Bool) : Option (Bool) :=
 (f0_ x_0).bind fun r4 =>
 some (!r4)
noncomputable def m179_1 (s_0 : List Order) (f_1 : Order → Option Bool) (s23 : Nat) : Option ((Nat) ⊕ ((Unit) ⊕ Int)) :=
 if (s23 : Int) < (s_0.length : Int) then (
  (s_0[s23]?).bind fun x46 =>
  (f_1 x46).bind fun r54 =>
  if r54 then (
   some (.inr (.inr (s23 : Int))))
  else
  some (.inl (s23 + 1)))
 else
 some (.inr (.inl ()))
noncomputable def m179 (s_0 : List Order) (f_1 : Order → Option Bool) : Option (Int) :=
 (loopO (m179_1 s_0 f_1) 0).bind fun e19 => match e19 with
 | .inr z => some z
 | .inl t22 =>
 some (-1)
noncomputable def m139 (s_0 : List Order) (f_1 : Order → Option Bool) : Option (Bool) :=
 (m179 s_0 f_1).bind fun r1 =>
 some (decide (0 ≤ r1))
noncomputable def m100 (l_0 : List Order) (right : Order → Option Bool) : Option (Bool) :=
 (m139 l_0 (fun x0_ => m140 x0_ right)).bind fun r5 =>
 some (!r5)
noncomputable def m61 (r_0 : Report) : Option (Int) :=
 ((
  if 60 < (r_0.words.length : Int) then (
   some true)
  else
  if 12 < (r_0.orders.length : Int) then (
   some true)
  else
  (m97 r_0.words (m98)).bind fun r65 =>
  some (!r65)
 ) : Option (Bool)).bind fun t55 =>
 if t55 then (
  some 3)
 else
 ((
  (m97 r_0.words (m99)).bind fun r116 =>
  if r116 then (
   (m100 r_0.orders (fun x0_ => m95 x0_ r_0)).bind fun r122 =>
   if r122 then (
    (m96 r_0.columns 1 20).bind fun r127 =>
    some (!r127))
   else
   some true)
  else
  some true
 ) : Option (Bool)).bind fun t112 =>
 if t112 then (
  some 1)
 else
 some 0
noncomputable def m180_1 (s_0 : List Int) (v_1 : Int) (s20 : Nat) : Option ((Nat) ⊕ ((Unit) ⊕ Int)) :=
 if (s20 : Int) < (s_0.length : Int) then (
  (s_0[s20]?).bind fun x40 =>
  if v_1 = x40 then (
   some (.inr (.inr (s20 : Int))))
  else
  some (.inl (s20 + 1)))
 else
 some (.inr (.inl ()))
noncomputable def m180 (s_0 : List Int) (v_1 : Int) : Option (Int) :=
 (loopO (m180_1 s_0 v_1) 0).bind fun e16 => match e16 with
 | .inr z => some z
 | .inl t19 =>
 some (-1)
noncomputable def m141 (s_0 : List Int) (v_1 : Int) : Option (Bool) :=
 (m180 s_0 v_1).bind fun r1 =>
 some (decide (0 ≤ r1))
noncomputable def m101 (b_0 : reading) (o_1 : Order) : Option (Bool) :=
 (m141 b_0.reader.may o_1.kind).bind fun r16 =>
 some (!r16)
noncomputable def m64 (b_0 : reading) (o_1 : Order) : Option (Bool) :=
 ((
  if b_0.reader.year < o_1.until_ then (
   (m101 b_0 o_1).bind fun r27 =>
   some r27)
  else
  some false
 ) : Option (Bool)).bind fun t22 =>
 some t22
noncomputable def m40_2 (x215 : Order) (s323 : Int × A60_Bool) : Option ((Int × A60_Bool) ⊕ (A60_Bool)) :=
 if s323.1 < x215.to_ then (
  chk (0 ≤ s323.1) <|
  chk (s323.1 < 60) <|
  chk (-9223372036854775808 ≤ (s323.1 + 1) ∧ (s323.1 + 1) ≤ 9223372036854775807) <|
  some (.inl ((s323.1 + 1), (A60_Bool.set s323.2 s323.1.toNat true))))
 else
 some (.inr s323.2)
noncomputable def m40_1 (r_0 : Report) (x_1 : Reader) (s159 : Nat × A60_Bool) : Option ((Nat × A60_Bool) ⊕ (A60_Bool)) :=
 if (s159.1 : Int) < (r_0.orders.length : Int) then (
  (r_0.orders[s159.1]?).bind fun x215 =>
  (m64 (⟨r_0, x_1, s159.2⟩ : reading) x215).bind fun r226 =>
  ((
   if r226 then (
    ((
     (loopO (m40_2 x215) (x215.from_, s159.2)).bind fun e320 =>
     some e320
    ) : Option (A60_Bool)).bind fun t292 =>
    some t292)
   else
   some s159.2
  ) : Option (A60_Bool)).bind fun t261 =>
  some (.inl ((s159.1 + 1), t261)))
 else
 some (.inr s159.2)
noncomputable def m40 (r_0 : Report) (x_1 : Reader) : Option (reading × Int) :=
 (m61 r_0).bind fun r17 =>
 if r17 ≠ 0 then (
  some ((⟨(⟨([] : List Word), ([] : List Order), 0⟩ : Report), (⟨0, ([] : List Int)⟩ : Reader), A60_Bool.zero⟩ : reading), r17))
 else
 ((
  (m62 x_1.year).bind fun r38 =>
  if r38 then (
   (m63 x_1.may 7).bind fun r43 =>
   some (!r43))
  else
  some true
 ) : Option (Bool)).bind fun t35 =>
 if t35 then (
  some ((⟨(⟨([] : List Word), ([] : List Order), 0⟩ : Report), (⟨0, ([] : List Int)⟩ : Reader), A60_Bool.zero⟩ : reading), 2))
 else
 (loopO (m40_1 r_0 x_1) (0, A60_Bool.zero)).bind fun e156 =>
 some ((⟨r_0, x_1, e156⟩ : reading), 0)
noncomputable def m66_1 (f0_ : reading) (yield : Int → Piece → Option Bool) (s65 : Nat × Nat) : Option ((Nat × Nat) ⊕ ((Unit) ⊕ Unit)) :=
 if (s65.2 : Int) < (f0_.report.words.length : Int) then (
  ((
   (f0_.report.words[s65.2]?).bind fun x124 =>
   chk (0 ≤ (s65.1 : Int) ∧ (s65.1 : Int) ≤ 9223372036854775807 ∧ 0 < f0_.report.columns) <|
   chk (-9223372036854775808 ≤ (((s65.1 : Int) / f0_.report.columns) + 1) ∧ (((s65.1 : Int) / f0_.report.columns) + 1) ≤ 9223372036854775807) <|
   chk ((s65.2 : Int) < 60) <|
   ((
    if A60_Bool.get f0_.veil s65.2 then (
     ((
      if 0 < (s65.2 : Int) then (
       chk (((s65.2 : Int) - 1) < 60) <|
       some (A60_Bool.get f0_.veil (((s65.2 : Int) - 1).toNat)))
      else
      some false
     ) : Option (Bool)).bind fun t173 =>
     if t173 then (
      Option.map (fun z => .inr z) (
      some (.inl s65.1)))
     else
     some (.inl ((-1), [])))
    else
    some (.inl ((s65.2 : Int), x124.text))
   ) : Option ((Int × Bytes) ⊕ ((Nat) ⊕ ((Nat × Nat) ⊕ ((Unit) ⊕ Unit))))).bind fun t161 => match t161 with
   | .inr z => some z
   | .inl t164 =>
   (yield t164.1 (⟨t164.2, (((s65.1 : Int) / f0_.report.columns) + 1)⟩ : Piece)).bind fun r191 =>
   if r191 then (
    chk (-9223372036854775808 ≤ ((s65.1 : Int) + 1) ∧ ((s65.1 : Int) + 1) ≤ 9223372036854775807) <|
    some (.inl (s65.1 + 1)))
   else
   some (.inr (.inr (.inr ())))
  ) : Option ((Nat) ⊕ ((Nat × Nat) ⊕ ((Unit) ⊕ Unit)))).bind fun t120 => match t120 with
  | .inr z => some z
  | .inl t123 =>
  some (.inl (t123, (s65.2 + 1))))
 else
 some (.inr (.inl ()))
noncomputable def m66 (yield : Int → Piece → Option Bool) (f0_ : reading) : Option (Unit) :=
 (loopO (m66_1 f0_ yield) (0, 0)).bind fun e61 => match e61 with
 | .inr z => some z
 | .inl t64 =>
 some ()
noncomputable def m15_1 (r16 : reading × Int) (s967 : Nat × Nat × List Piece) : Option ((Nat × Nat × List Piece) ⊕ (List Piece)) :=
 if (s967.2.1 : Int) < (r16.1.report.words.length : Int) then (
  ((
   (r16.1.report.words[s967.2.1]?).bind fun x1036 =>
   chk (0 ≤ (s967.1 : Int) ∧ (s967.1 : Int) ≤ 9223372036854775807 ∧ 0 < r16.1.report.columns) <|
   chk (-9223372036854775808 ≤ (((s967.1 : Int) / r16.1.report.columns) + 1) ∧ (((s967.1 : Int) / r16.1.report.columns) + 1) ≤ 9223372036854775807) <|
   chk ((s967.2.1 : Int) < 60) <|
   ((
    if A60_Bool.get r16.1.veil s967.2.1 then (
     ((
      if 0 < (s967.2.1 : Int) then (
       chk (((s967.2.1 : Int) - 1) < 60) <|
       some (A60_Bool.get r16.1.veil (((s967.2.1 : Int) - 1).toNat)))
      else
      some false
     ) : Option (Bool)).bind fun t1085 =>
     if t1085 then (
      Option.map (fun z => .inr z) (
      some (s967.1, s967.2.2)))
     else
     some (.inl ((-1), [])))
    else
    some (.inl ((s967.2.1 : Int), x1036.text))
   ) : Option ((Int × Bytes) ⊕ (Nat × List Piece))).bind fun t1073 => match t1073 with
   | .inr z => some z
   | .inl t1076 =>
   ((
    chk (s967.2.2.length + 1 ≤ 1073741824) <|
    some (s967.2.2 ++ [(⟨t1076.2, (((s967.1 : Int) / r16.1.report.columns) + 1)⟩ : Piece)])
   ) : Option (List Piece)).bind fun t1111 =>
   chk (-9223372036854775808 ≤ ((s967.1 : Int) + 1) ∧ ((s967.1 : Int) + 1) ≤ 9223372036854775807) <|
   some ((s967.1 + 1), t1111)
  ) : Option (Nat × List Piece)).bind fun t1031 =>
  some (.inl (t1031.1, (s967.2.1 + 1), t1031.2)))
 else
 some (.inr s967.2.2)
noncomputable def m15 (r_0 : Report) (x_1 : Reader) : Option (List Piece × Int) :=
 (m40 r_0 x_1).bind fun r16 =>
 if r16.2 ≠ 0 then (
  some (([] : List Piece), r16.2))
 else
 ((
  (loopO (m15_1 r16) (0, 0, ([] : List Piece))).bind fun e962 =>
  some e962
 ) : Option (List Piece)).bind fun t831 =>
 some (t831, 0)
noncomputable def m18_1 (r19 : reading × Int) (piece : Int) (s404 : Nat × Nat × Nat) : Option ((Nat × Nat × Nat) ⊕ ((Nat) ⊕ ((Nat × Int) ⊕ (Nat)))) :=
 if (s404.2.1 : Int) < (r19.1.report.words.length : Int) then (
  ((
   (r19.1.report.words[s404.2.1]?).bind fun x467 =>
   chk (0 ≤ (s404.1 : Int) ∧ (s404.1 : Int) ≤ 9223372036854775807 ∧ 0 < r19.1.report.columns) <|
   chk (-9223372036854775808 ≤ (((s404.1 : Int) / r19.1.report.columns) + 1) ∧ (((s404.1 : Int) / r19.1.report.columns) + 1) ≤ 9223372036854775807) <|
   chk ((s404.2.1 : Int) < 60) <|
   ((
    if A60_Bool.get r19.1.veil s404.2.1 then (
     ((
      if 0 < (s404.2.1 : Int) then (
       chk (((s404.2.1 : Int) - 1) < 60) <|
       some (A60_Bool.get r19.1.veil (((s404.2.1 : Int) - 1).toNat)))
      else
      some false
     ) : Option (Bool)).bind fun t516 =>
     if t516 then (
      Option.map (fun z => .inr z) (
      some (.inl (s404.1, s404.2.2))))
     else
     some (.inl ((-1), [])))
    else
    some (.inl ((s404.2.1 : Int), x467.text))
   ) : Option ((Int × Bytes) ⊕ ((Nat × Nat) ⊕ ((Nat × Nat × Nat) ⊕ ((Nat) ⊕ ((Nat × Int) ⊕ (Nat))))))).bind fun t504 => match t504 with
   | .inr z => some z
   | .inl t507 =>
   ((
    if (s404.2.2 : Int) = piece then (
     some (.inl t507.1))
    else
    chk (-9223372036854775808 ≤ ((s404.2.2 : Int) + 1) ∧ ((s404.2.2 : Int) + 1) ≤ 9223372036854775807) <|
    some (.inr (s404.2.2 + 1))
   ) : Option ((Int) ⊕ (Nat))).bind fun t539 => match t539 with
   | .inl t542 => (
    some (.inr (.inr (.inr (.inl (s404.2.2, t542))))))
   | .inr t543 => (
    chk (-9223372036854775808 ≤ ((s404.1 : Int) + 1) ∧ ((s404.1 : Int) + 1) ≤ 9223372036854775807) <|
    some (.inl ((s404.1 + 1), t543)))
  ) : Option ((Nat × Nat) ⊕ ((Nat × Nat × Nat) ⊕ ((Nat) ⊕ ((Nat × Int) ⊕ (Nat)))))).bind fun t463 => match t463 with
  | .inr z => some z
  | .inl t466 =>
  some (.inl (t466.1, (s404.2.1 + 1), t466.2)))
 else
 some (.inr (.inl s404.2.2))
noncomputable def m18 (r_0 : Report) (x_1 : Reader) (piece : Int) : Option (Int × Int) :=
 (m40 r_0 x_1).bind fun r19 =>
 if r19.2 ≠ 0 then (
  some (0, r19.2))
 else
 ((
  (loopO (m18_1 r19 piece) (0, 0, 0)).bind fun e400 => match e400 with
  | .inr z => some z
  | .inl t403 =>
  some (.inr t403)
 ) : Option ((Nat × Int) ⊕ (Nat))).bind fun t287 => match t287 with
 | .inl t290 => (
  if t290.2 = (-1) then (
   some (0, 7))
  else
  some (t290.2, 0))
 | .inr t291 => (
  some (0, 7))
noncomputable def m68 (cite : Bytes) : Option (cited ⊕ Unit) :=
 (m105 cite [118, 111, 108, 46, 32]).bind fun r6 =>
 ((
  if r6.2 then (
   (m106 cite [99, 111, 108, 46, 32]).bind fun r658 =>
   ((
    if r658 then (
     ((
      (m103 r6.1 [44, 32, 99, 111, 108, 46, 32]).bind fun r882 =>
      if r882.2.2 then (
       (m104 r882.1).bind fun r891 =>
       ((
        if r891.2 then (
         some true)
        else
        (m59 r891.1).bind fun r915 =>
        if r915 ≠ r882.1 then (
         some true)
        else
        (m44 r891.1 0 999999).bind fun r921 =>
        some (!r921)
       ) : Option (Bool)).bind fun t909 =>
       if t909 then (
        some (.inr (.inr (.inr (.inr ())))))
       else
       some (.inl (r891.1, r882.2.1)))
      else
      some (.inr (.inr (.inr (.inr ()))))
     ) : Option ((Int × Bytes) ⊕ ((Int × Int × Int × Int × Bytes) ⊕ ((Int × Int × Int × Int × Bytes) ⊕ (cited ⊕ Unit))))).bind fun t878 => match t878 with
     | .inr z => some z
     | .inl t881 =>
     ((
      (m103 t881.2 [44, 32, 108, 46, 32]).bind fun r962 =>
      if r962.2.2 then (
       (m104 r962.1).bind fun r971 =>
       ((
        if r971.2 then (
         some true)
        else
        (m59 r971.1).bind fun r995 =>
        if r995 ≠ r962.1 then (
         some true)
        else
        (m44 r971.1 0 999999).bind fun r1001 =>
        some (!r1001)
       ) : Option (Bool)).bind fun t989 =>
       if t989 then (
        some (.inr (.inr (.inr (.inr ())))))
       else
       some (.inl (r971.1, r962.2.1)))
      else
      some (.inr (.inr (.inr (.inr ()))))
     ) : Option ((Int × Bytes) ⊕ ((Int × Int × Int × Int × Bytes) ⊕ ((Int × Int × Int × Int × Bytes) ⊕ (cited ⊕ Unit))))).bind fun t958 => match t958 with
     | .inr z => some z
     | .inl t961 =>
     ((
      (m104 t961.2).bind fun r1036 =>
      ((
       if r1036.2 then (
        some true)
       else
       (m59 r1036.1).bind fun r1060 =>
       if r1060 ≠ t961.2 then (
        some true)
       else
       (m44 r1036.1 0 999999).bind fun r1066 =>
       some (!r1066)
      ) : Option (Bool)).bind fun t1054 =>
      if t1054 then (
       some (.inr (.inr (.inr (.inr ())))))
      else
      some (.inl r1036.1)
     ) : Option ((Int) ⊕ ((Int × Int × Int × Int × Bytes) ⊕ ((Int × Int × Int × Int × Bytes) ⊕ (cited ⊕ Unit))))).bind fun t1032 => match t1032 with
     | .inr z => some z
     | .inl t1035 =>
     some (.inl (0, t881.1, t961.1, t1035, t961.2)))
    else
    ((
     (m103 r6.1 [44, 32]).bind fun r1108 =>
     if r1108.2.2 then (
      (m104 r1108.1).bind fun r1117 =>
      ((
       if r1117.2 then (
        some true)
       else
       (m59 r1117.1).bind fun r1141 =>
       if r1141 ≠ r1108.1 then (
        some true)
       else
       (m44 r1117.1 0 999999).bind fun r1147 =>
       some (!r1147)
      ) : Option (Bool)).bind fun t1135 =>
      if t1135 then (
       some (.inr (.inr (.inr (.inr ())))))
      else
      some (.inl (r1117.1, r1108.2.1)))
     else
     some (.inr (.inr (.inr (.inr ()))))
    ) : Option ((Int × Bytes) ⊕ ((Int × Int × Int × Int × Bytes) ⊕ ((Int × Int × Int × Int × Bytes) ⊕ (cited ⊕ Unit))))).bind fun t1104 => match t1104 with
    | .inr z => some z
    | .inl t1107 =>
    ((
     (m103 t1107.2 [44, 32, 112, 97, 114, 46, 32]).bind fun r1188 =>
     if r1188.2.2 then (
      (m104 r1188.1).bind fun r1197 =>
      ((
       if r1197.2 then (
        some true)
       else
       (m59 r1197.1).bind fun r1221 =>
       if r1221 ≠ r1188.1 then (
        some true)
       else
       (m44 r1197.1 0 999999).bind fun r1227 =>
       some (!r1227)
      ) : Option (Bool)).bind fun t1215 =>
      if t1215 then (
       some (.inr (.inr (.inr (.inr ())))))
      else
      some (.inl (r1197.1, r1188.2.1)))
     else
     some (.inr (.inr (.inr (.inr ()))))
    ) : Option ((Int × Bytes) ⊕ ((Int × Int × Int × Int × Bytes) ⊕ ((Int × Int × Int × Int × Bytes) ⊕ (cited ⊕ Unit))))).bind fun t1184 => match t1184 with
    | .inr z => some z
    | .inl t1187 =>
    ((
     (m104 t1187.2).bind fun r1262 =>
     ((
      if r1262.2 then (
       some true)
      else
      (m59 r1262.1).bind fun r1286 =>
      if r1286 ≠ t1187.2 then (
       some true)
      else
      (m44 r1262.1 0 999999).bind fun r1292 =>
      some (!r1292)
     ) : Option (Bool)).bind fun t1280 =>
     if t1280 then (
      some (.inr (.inr (.inr (.inr ())))))
     else
     some (.inl r1262.1)
    ) : Option ((Int) ⊕ ((Int × Int × Int × Int × Bytes) ⊕ ((Int × Int × Int × Int × Bytes) ⊕ (cited ⊕ Unit))))).bind fun t1258 => match t1258 with
    | .inr z => some z
    | .inl t1261 =>
    some (.inl (1, t1107.1, t1187.1, t1261, t1187.2))
   ) : Option ((Int × Int × Int × Int × Bytes) ⊕ ((Int × Int × Int × Int × Bytes) ⊕ (cited ⊕ Unit)))).bind fun t844 => match t844 with
   | .inr z => some z
   | .inl t847 =>
   some (.inl (t847.1, t847.2.1, t847.2.2.1, t847.2.2.2.1, t847.2.2.2.2)))
  else
  ((
   (m103 cite [64]).bind fun r544 =>
   if r544.2.2 then (
    (m104 r544.1).bind fun r553 =>
    ((
     if r553.2 then (
      some true)
     else
     (m59 r553.1).bind fun r577 =>
     if r577 ≠ r544.1 then (
      some true)
     else
     (m44 r553.1 0 999999).bind fun r583 =>
     some (!r583)
    ) : Option (Bool)).bind fun t571 =>
    if t571 then (
     some (.inr (.inr (.inr ()))))
    else
    some (.inl (r553.1, r544.2.1)))
   else
   some (.inr (.inr (.inr ())))
  ) : Option ((Int × Bytes) ⊕ ((Int × Int × Int × Int × Bytes) ⊕ (cited ⊕ Unit)))).bind fun t540 => match t540 with
  | .inr z => some z
  | .inl t543 =>
  ((
   (m104 t543.2).bind fun r618 =>
   ((
    if r618.2 then (
     some true)
    else
    (m59 r618.1).bind fun r642 =>
    if r642 ≠ t543.2 then (
     some true)
    else
    (m44 r618.1 0 999999).bind fun r648 =>
    some (!r648)
   ) : Option (Bool)).bind fun t636 =>
   if t636 then (
    some (.inr (.inr (.inr ()))))
   else
   some (.inl r618.1)
  ) : Option ((Int) ⊕ ((Int × Int × Int × Int × Bytes) ⊕ (cited ⊕ Unit)))).bind fun t614 => match t614 with
  | .inr z => some z
  | .inl t617 =>
  some (.inl (2, t543.1, t617, 0, t543.2))
 ) : Option ((Int × Int × Int × Int × Bytes) ⊕ (cited ⊕ Unit))).bind fun t506 => match t506 with
 | .inr z => some z
 | .inl t509 =>
 ((
  if t509.1 ≠ 0 then (
   (m34 t509.2.2.1).bind fun r1312 =>
   some (!r1312))
  else
  some false
 ) : Option (Bool)).bind fun t1307 =>
 if t1307 then (
  some (.inr ()))
 else
 some (.inl (⟨t509.1, (⟨t509.2.1, t509.2.2.1, t509.2.2.2.1⟩ : A3_Int)⟩ : cited))
noncomputable def m43 (s : Bytes) : Option (cited × Bool) := (m68 s).map fun o => match o with
 | .inl c => (c, true)
 | .inr _ => (⟨0, ⟨0, 0, 0⟩⟩, false)
noncomputable def m19_1 (r54 : List printed) (r16 : cited × Bool) (v_0 : Volume) (s116 : Nat) : Option ((Nat) ⊕ ((Unit) ⊕ (Int × Int × Int))) :=
 if (s116 : Int) < (r54.length : Int) then (
  (r54[s116]?).bind fun x172 =>
  chk (-9223372036854775808 ≤ (r16.1.numbers.e1 - x172.place.column) ∧ (r16.1.numbers.e1 - x172.place.column) ≤ 9223372036854775807) <|
  chk (-9223372036854775808 ≤ ((r16.1.numbers.e1 - x172.place.column) * v_0.height) ∧ ((r16.1.numbers.e1 - x172.place.column) * v_0.height) ≤ 9223372036854775807) <|
  chk (-9223372036854775808 ≤ (((r16.1.numbers.e1 - x172.place.column) * v_0.height) + r16.1.numbers.e2) ∧ (((r16.1.numbers.e1 - x172.place.column) * v_0.height) + r16.1.numbers.e2) ≤ 9223372036854775807) <|
  chk (-9223372036854775808 ≤ ((((r16.1.numbers.e1 - x172.place.column) * v_0.height) + r16.1.numbers.e2) - x172.place.line) ∧ ((((r16.1.numbers.e1 - x172.place.column) * v_0.height) + r16.1.numbers.e2) - x172.place.line) ≤ 9223372036854775807) <|
  ((
   if x172.day = r16.1.numbers.e1 then (
    some (decide (x172.number = r16.1.numbers.e2)))
   else
   some false
  ) : Option (Bool)).bind fun t194 =>
  ((
   if r16.1.style = 0 then (
    ((
     (m44 r16.1.numbers.e2 1 v_0.height).bind fun r234 =>
     if r234 then (
      chk (-9223372036854775808 ≤ (x172.place.lines - 1) ∧ (x172.place.lines - 1) ≤ 9223372036854775807) <|
      (m44 ((((r16.1.numbers.e1 - x172.place.column) * v_0.height) + r16.1.numbers.e2) - x172.place.line) 0 (x172.place.lines - 1)).bind fun r241 =>
      some r241)
     else
     some false
    ) : Option (Bool)).bind fun t231 =>
    some t231)
   else
   some t194
  ) : Option (Bool)).bind fun t215 =>
  ((
   if t215 then (
    some (decide (r16.1.numbers.e0 = v_0.number)))
   else
   some false
  ) : Option (Bool)).bind fun t249 =>
  if t249 then (
   some (.inr (.inr (x172.place.anchor, v_0.bound, 0))))
  else
  some (.inl (s116 + 1)))
 else
 some (.inr (.inl ()))
noncomputable def m19 (v_0 : Volume) (errata : List Erratum) (cite : Bytes) : Option (Int × Int × Int) :=
 (m33 v_0 errata).bind fun r7 =>
 if r7 ≠ 0 then (
  some (0, 0, r7))
 else
 (m43 cite).bind fun r16 =>
 if r16.2 then (
  if r16.1.style = 2 then (
   (m37 v_0 errata r16.1.numbers.e0 r16.1.numbers.e1).bind fun r43 =>
   if r43.2.2 ≠ 0 then (
    some (0, 0, r43.2.2))
   else
   some (r16.1.numbers.e0, r16.1.numbers.e1, 0))
  else
  (m39 v_0 errata).bind fun r54 =>
  (loopO (m19_1 r54 r16 v_0) 0).bind fun e112 => match e112 with
  | .inr z => some z
  | .inl t115 =>
  some (0, 0, 7))
 else
 some (0, 0, 4)
noncomputable def m69_1 (l_0 : List Int) (n_1 : Int) (s20 : Nat) : Option ((Nat) ⊕ ((Unit) ⊕ Bool)) :=
 if (s20 : Int) < (l_0.length : Int) then (
  (l_0[s20]?).bind fun x40 =>
  if x40 = n_1 then (
   some (.inr (.inr true)))
  else
  some (.inl (s20 + 1)))
 else
 some (.inr (.inl ()))
noncomputable def m69 (l_0 : List Int) (n_1 : Int) : Option (Bool) :=
 (loopO (m69_1 l_0 n_1) 0).bind fun e16 => match e16 with
 | .inr z => some z
 | .inl t19 =>
 some false
noncomputable def m45 (o_0 : Order) (x_1 : Reader) : Option (Bool) :=
 ((
  if x_1.year < o_0.until_ then (
   (m69 x_1.may o_0.kind).bind fun r21 =>
   some (!r21))
  else
  some false
 ) : Option (Bool)).bind fun t16 =>
 some t16
noncomputable def m20_1 (r_0 : Report) (x_1 : Reader) (word : Int) (s49 : Nat) : Option ((Nat) ⊕ ((Unit) ⊕ Bool)) :=
 if (s49 : Int) < (r_0.orders.length : Int) then (
  ((
   (r_0.orders[s49]?).bind fun x107 =>
   (m45 x107 x_1).bind fun r115 =>
   if r115 then (
    chk (-9223372036854775808 ≤ (x107.to_ - 1) ∧ (x107.to_ - 1) ≤ 9223372036854775807) <|
    (m31 word x107.from_ (x107.to_ - 1)).bind fun r123 =>
    some r123)
   else
   some false
  ) : Option (Bool)).bind fun t104 =>
  if t104 then (
   some (.inr (.inr true)))
  else
  some (.inl (s49 + 1)))
 else
 some (.inr (.inl ()))
noncomputable def m20 (r_0 : Report) (x_1 : Reader) (word : Int) : Option (Bool) :=
 (loopO (m20_1 r_0 x_1 word) 0).bind fun e45 => match e45 with
 | .inr z => some z
 | .inl t48 =>
 some false
noncomputable def m3_1 (r101 : List Paragraph × Int) (r82 : Volume) (r92 : List Erratum) (day : Int) (s276 : Nat × List Word) : Option ((Nat × List Word) ⊕ ((List Word) ⊕ Bool)) :=
 if (s276.1 : Int) < (r101.1.length : Int) then (
  (r101.1[s276.1]?).bind fun x340 =>
  (m13 r82 r92 x340.anchor 2 day).bind fun r348 =>
  if r348.2 ≠ 0 then (
   some (.inr (.inr false)))
  else
  chk (s276.2.length + 1 ≤ 1073741824) <|
  some (.inl ((s276.1 + 1), (s276.2 ++ [(⟨r348.1, ([] : List Int)⟩ : Word)]))))
 else
 some (.inr (.inl s276.2))
noncomputable def m3_2 (r403 : List Piece × Int) (r387 : Report) (r395 : Reader) (r82 : Volume) (r92 : List Erratum) (r101 : List Paragraph × Int) (day : Int) (t270 : List Word) (orders : List Order) (x_4 : Reader) (s534 : Nat) : Option ((Nat) ⊕ ((Unit) ⊕ Bool)) :=
 if (s534 : Int) < (r403.1.length : Int) then (
  ((
   (r403.1[s534]?).bind fun x638 =>
   if x638.text = [] then (
    some (.inl ()))
   else
   (m18 r387 r395 (s534 : Int)).bind fun r662 =>
   (m19 r82 r92 x638.text).bind fun r689 =>
   ((
    if r662.2 ≠ 0 then (
     some true)
    else
    if r689.2.2 ≠ 0 then (
     some true)
    else
    if r662.1 < 0 then (
     some true)
    else
    if (r101.1.length : Int) ≤ r662.1 then (
     some true)
    else
    if r689.2.1 ≠ day then (
     some true)
    else
    chk (0 ≤ r662.1) <|
    (r101.1[r662.1.toNat]?).bind fun x748 =>
    if r689.1 ≠ x748.anchor then (
     some true)
    else
    (m20 (⟨t270, orders, 3⟩ : Report) x_4 r662.1).bind fun r759 =>
    some r759
   ) : Option (Bool)).bind fun t728 =>
   if t728 then (
    some (.inr (.inr (.inr false))))
   else
   some (.inl ())
  ) : Option ((Unit) ⊕ ((Nat) ⊕ ((Unit) ⊕ Bool)))).bind fun t634 => match t634 with
  | .inr z => some z
  | .inl t637 =>
  some (.inl (s534 + 1)))
 else
 some (.inr (.inl ()))
noncomputable def m3 (v_0 : Volume) (errata : List Erratum) (day : Int) (orders : List Order) (x_4 : Reader) : Option (Bool) :=
 ((
  (m5 v_0 errata).bind fun r43 =>
  if r43 then (
   (m6 v_0).bind fun r48 =>
   if r48 ≠ 0 then (
    some true)
   else
   (m7 v_0 errata).bind fun r54 =>
   if r54 ≠ 0 then (
    some true)
   else
   if 12 < (orders.length : Int) then (
    some true)
   else
   if 8 < (x_4.may.length : Int) then (
    some true)
   else
   (m8 x_4).bind fun r66 =>
   some (!r66))
  else
  some true
 ) : Option (Bool)).bind fun t40 =>
 if t40 then (
  (m9).bind fun r78 =>
  some r78)
 else
 (m11 v_0).bind fun r82 =>
 (m12 errata).bind fun r92 =>
 chk (-9223372036854775808 ≤ day ∧ day ≤ 9223372036854775807) <|
 (m10 r82 r92 day).bind fun r101 =>
 ((
  if r101.2 ≠ 0 then (
   some true)
  else
  some (decide (50 < (r101.1.length : Int)))
 ) : Option (Bool)).bind fun t111 =>
 if t111 then (
  some false)
 else
 (loopO (m3_1 r101 r82 r92 day) (0, ([] : List Word))).bind fun e267 => match e267 with
 | .inr z => some z
 | .inl t270 =>
 (m14 (⟨t270, orders, 3⟩ : Report)).bind fun r370 =>
 if r370 ≠ 0 then (
  (m9).bind fun r381 =>
  some r381)
 else
 (m16 (⟨t270, orders, 3⟩ : Report)).bind fun r387 =>
 (m17 x_4).bind fun r395 =>
 (m15 r387 r395).bind fun r403 =>
 if r403.2 ≠ 0 then (
  some false)
 else
 (loopO (m3_2 r403 r387 r395 r82 r92 r101 day t270 orders x_4) 0).bind fun e530 => match e530 with
 | .inr z => some z
 | .inl t533 =>
 (m9).bind fun r769 =>
 some r769
end T10
namespace T10
open Go.Proofs
abbrev C10 := @Tryz.call10
abbrev C100 := @Tryz.call100
abbrev C101 := @Tryz.call101
abbrev C102 := @Tryz.call102
abbrev C103 := @Tryz.call103
abbrev C104 := @Tryz.call104
abbrev C105 := @Tryz.call105
abbrev C106 := @Tryz.call106
abbrev C11 := @Tryz.call11
abbrev C12 := @Tryz.call12
abbrev C122 := @Tryz.call122
abbrev C123 := @Tryz.call123
abbrev C124 := @Tryz.call124
abbrev C125 := @Tryz.call125
abbrev C126 := @Tryz.call126
abbrev C129 := @Tryz.call129
abbrev C13 := @Tryz.call13
abbrev C130 := @Tryz.call130
abbrev C135 := @Tryz.call135
abbrev C136 := @Tryz.call136
abbrev C137 := @Tryz.call137
abbrev C138 := @Tryz.call138
abbrev C139 := @Tryz.call139
abbrev C14 := @Tryz.call14
abbrev C140 := @Tryz.call140
abbrev C141 := @Tryz.call141
abbrev C15 := @Tryz.call15
abbrev C157 := @Tryz.call157
abbrev C158 := @Tryz.call158
abbrev C159 := @Tryz.call159
abbrev C16 := @Tryz.call16
abbrev C160 := @Tryz.call160
abbrev C17 := @Tryz.call17
abbrev C171 := @Tryz.call171
abbrev C177 := @Tryz.call177
abbrev C178 := @Tryz.call178
abbrev C179 := @Tryz.call179
abbrev C18 := @Tryz.call18
abbrev C180 := @Tryz.call180
abbrev C19 := @Tryz.call19
abbrev C199 := @Tryz.call199
abbrev C20 := @Tryz.call20
abbrev C200 := @Tryz.call200
abbrev C22 := @Tryz.call22
abbrev C26 := @Tryz.call26
abbrev C27 := @Tryz.call27
abbrev C28 := @Tryz.call28
abbrev C29 := @Tryz.call29
abbrev C30 := @Tryz.call30
abbrev C31 := @Tryz.call31
abbrev C32 := @Tryz.call32
abbrev C33 := @Tryz.call33
abbrev C34 := @Tryz.call34
abbrev C35 := @Tryz.call35
abbrev C36 := @Tryz.call36
abbrev C37 := @Tryz.call37
abbrev C38 := @Tryz.call38
abbrev C39 := @Tryz.call39
abbrev C40 := @Tryz.call40
abbrev C41 := @Tryz.call41
abbrev C42 := @Tryz.call42
abbrev C43 := @Tryz.call43
abbrev C44 := @Tryz.call44
abbrev C45 := @Tryz.call45
abbrev C5 := @Tryz.call5
abbrev C50 := @Tryz.call50
abbrev C51 := @Tryz.call51
abbrev C52 := @Tryz.call52
abbrev C53 := @Tryz.call53
abbrev C54 := @Tryz.call54
abbrev C55 := @Tryz.call55
abbrev C56 := @Tryz.call56
abbrev C57 := @Tryz.call57
abbrev C59 := @Tryz.call59
abbrev C6 := @Tryz.call6
abbrev C61 := @Tryz.call61
abbrev C62 := @Tryz.call62
abbrev C63 := @Tryz.call63
abbrev C64 := @Tryz.call64
abbrev C65 := @Tryz.call65
abbrev C66 := @Tryz.call66
abbrev C69 := @Tryz.call69
abbrev C7 := @Tryz.call7
abbrev C8 := @Tryz.call8
abbrev C80 := @Tryz.call80
abbrev C81 := @Tryz.call81
abbrev C82 := @Tryz.call82
abbrev C83 := @Tryz.call83
abbrev C84 := @Tryz.call84
abbrev C85 := @Tryz.call85
abbrev C86 := @Tryz.call86
abbrev C87 := @Tryz.call87
abbrev C88 := @Tryz.call88
abbrev C89 := @Tryz.call89
abbrev C9 := @Tryz.call9
abbrev C90 := @Tryz.call90
abbrev C91 := @Tryz.call91
abbrev C92 := @Tryz.call92
abbrev C95 := @Tryz.call95
abbrev C96 := @Tryz.call96
abbrev C97 := @Tryz.call97
abbrev C98 := @Tryz.call98
abbrev C99 := @Tryz.call99
abbrev G105 := @Tryz.isAgg105
abbrev G108 := @Tryz.isAgg108
abbrev G111 := @Tryz.isAgg111
abbrev G113 := @Tryz.isAgg113
abbrev G115 := @Tryz.isAgg115
abbrev G116 := @Tryz.isAgg116
abbrev G124 := @Tryz.isAgg124
abbrev G126 := @Tryz.isAgg126
abbrev G130 := @Tryz.isAgg130
abbrev G137 := @Tryz.isAgg137
abbrev G138 := @Tryz.isAgg138
abbrev G139 := @Tryz.isAgg139
abbrev G141 := @Tryz.isAgg141
abbrev G157 := @Tryz.isAgg157
abbrev G158 := @Tryz.isAgg158
abbrev G166 := @Tryz.isAgg166
abbrev G183 := @Tryz.isAgg183
abbrev G207 := @Tryz.isAgg207
abbrev G22 := @Tryz.isAgg22
abbrev G224 := @Tryz.isAgg224
abbrev G227 := @Tryz.isAgg227
abbrev G24 := @Tryz.isAgg24
abbrev G27 := @Tryz.isAgg27
abbrev G28 := @Tryz.isAgg28
abbrev G3 := @Tryz.isAgg3
abbrev G30 := @Tryz.isAgg30
abbrev G36 := @Tryz.isAgg36
abbrev G37 := @Tryz.isAgg37
abbrev G4 := @Tryz.isAgg4
abbrev G40 := @Tryz.isAgg40
abbrev G42 := @Tryz.isAgg42
abbrev G44 := @Tryz.isAgg44
abbrev G46 := @Tryz.isAgg46
abbrev G48 := @Tryz.isAgg48
abbrev G5 := @Tryz.isAgg5
abbrev G52 := @Tryz.isAgg52
abbrev G54 := @Tryz.isAgg54
abbrev G56 := @Tryz.isAgg56
abbrev G59 := @Tryz.isAgg59
abbrev G60 := @Tryz.isAgg60
abbrev G62 := @Tryz.isAgg62
abbrev G64 := @Tryz.isAgg64
abbrev G67 := @Tryz.isAgg67
abbrev G81 := @Tryz.isAgg81
abbrev G9 := @Tryz.isAgg9
abbrev G92 := @Tryz.isAgg92
abbrev G95 := @Tryz.isAgg95
abbrev G97 := @Tryz.isAgg97
abbrev Z105 := @Tryz.sizeOf105
abbrev Z108 := @Tryz.sizeOf108
abbrev Z111 := @Tryz.sizeOf111
abbrev Z113 := @Tryz.sizeOf113
abbrev Z115 := @Tryz.sizeOf115
abbrev Z116 := @Tryz.sizeOf116
abbrev Z124 := @Tryz.sizeOf124
abbrev Z126 := @Tryz.sizeOf126
abbrev Z128 := @Tryz.sizeOf128
abbrev Z130 := @Tryz.sizeOf130
abbrev Z137 := @Tryz.sizeOf137
abbrev Z138 := @Tryz.sizeOf138
abbrev Z139 := @Tryz.sizeOf139
abbrev Z141 := @Tryz.sizeOf141
abbrev Z158 := @Tryz.sizeOf158
abbrev Z166 := @Tryz.sizeOf166
abbrev Z168 := @Tryz.sizeOf168
abbrev Z22 := @Tryz.sizeOf22
abbrev Z24 := @Tryz.sizeOf24
abbrev Z27 := @Tryz.sizeOf27
abbrev Z28 := @Tryz.sizeOf28
abbrev Z3 := @Tryz.sizeOf3
abbrev Z30 := @Tryz.sizeOf30
abbrev Z36 := @Tryz.sizeOf36
abbrev Z37 := @Tryz.sizeOf37
abbrev Z4 := @Tryz.sizeOf4
abbrev Z40 := @Tryz.sizeOf40
abbrev Z42 := @Tryz.sizeOf42
abbrev Z46 := @Tryz.sizeOf46
abbrev Z48 := @Tryz.sizeOf48
abbrev Z5 := @Tryz.sizeOf5
abbrev Z52 := @Tryz.sizeOf52
abbrev Z54 := @Tryz.sizeOf54
abbrev Z56 := @Tryz.sizeOf56
abbrev Z59 := @Tryz.sizeOf59
abbrev Z60 := @Tryz.sizeOf60
abbrev Z62 := @Tryz.sizeOf62
abbrev Z64 := @Tryz.sizeOf64
abbrev Z67 := @Tryz.sizeOf67
abbrev Z81 := @Tryz.sizeOf81
abbrev Z9 := @Tryz.sizeOf9
abbrev Z92 := @Tryz.sizeOf92
abbrev Z94 := @Tryz.sizeOf94
abbrev Z95 := @Tryz.sizeOf95
abbrev Z97 := @Tryz.sizeOf97
abbrev U105 := @Tryz.underlying105
abbrev U108 := @Tryz.underlying108
abbrev U110 := @Tryz.underlying110
abbrev U113 := @Tryz.underlying113
abbrev U115 := @Tryz.underlying115
abbrev U116 := @Tryz.underlying116
abbrev U121 := @Tryz.underlying121
abbrev U124 := @Tryz.underlying124
abbrev U126 := @Tryz.underlying126
abbrev U128 := @Tryz.underlying128
abbrev U130 := @Tryz.underlying130
abbrev U137 := @Tryz.underlying137
abbrev U138 := @Tryz.underlying138
abbrev U139 := @Tryz.underlying139
abbrev U141 := @Tryz.underlying141
abbrev U147 := @Tryz.underlying147
abbrev U158 := @Tryz.underlying158
abbrev U168 := @Tryz.underlying168
abbrev U169 := @Tryz.underlying169
abbrev U177 := @Tryz.underlying177
abbrev U187 := @Tryz.underlying187
abbrev U22 := @Tryz.underlying22
abbrev U24 := @Tryz.underlying24
abbrev U25 := @Tryz.underlying25
abbrev U26 := @Tryz.underlying26
abbrev U27 := @Tryz.underlying27
abbrev U28 := @Tryz.underlying28
abbrev U3 := @Tryz.underlying3
abbrev U30 := @Tryz.underlying30
abbrev U36 := @Tryz.underlying36
abbrev U40 := @Tryz.underlying40
abbrev U42 := @Tryz.underlying42
abbrev U44 := @Tryz.underlying44
abbrev U46 := @Tryz.underlying46
abbrev U48 := @Tryz.underlying48
abbrev U5 := @Tryz.underlying5
abbrev U52 := @Tryz.underlying52
abbrev U54 := @Tryz.underlying54
abbrev U56 := @Tryz.underlying56
abbrev U59 := @Tryz.underlying59
abbrev U60 := @Tryz.underlying60
abbrev U62 := @Tryz.underlying62
abbrev U64 := @Tryz.underlying64
abbrev U67 := @Tryz.underlying67
abbrev U74 := @Tryz.underlying74
abbrev U81 := @Tryz.underlying81
abbrev U9 := @Tryz.underlying9
abbrev U92 := @Tryz.underlying92
abbrev U94 := @Tryz.underlying94
abbrev U95 := @Tryz.underlying95
abbrev U97 := @Tryz.underlying97
end T10
