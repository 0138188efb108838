/-
  The types and models of the functions of layer 10, printed by a program of ours; contracts of library functions.
-/
import Derived.Shelf.Strings.BuilderF
import Derived.Shelf.Small.Wraps
import Derived.Shelf.Strings.Cut
import Derived.Shelf.Strings.Search3
import Derived.Shelf.SlSortCmp.NoneTotal
import Derived.Shelf.LaysM
import Derived.Shelf.LaysC
import Derived.Test.YtfdcbjoihcdneaaGreatDoorKitSix
import Derived.Test.YtfdcbjoihcdneaaGreatDoorProg
import Derived.Recover
import Derived.Tactics
import Derived.Tactics2
import Derived.Shelf.Spec.SlicesInsert
import Derived.Lib.AppendZerosOnto
import Derived.Laws.NewBlocks
import Derived.Laws.CopyRow
set_option linter.all false
set_option maxHeartbeats 4000000
namespace Go.Proofs
open Go.Shelf Go.RowKit
def Tryz.laysC172_ren : Go.Shelf.Ren := ⟨fun | 172 => 87 | 244 => 111 | 245 => 112 | 247 => 129 | 279 => 130 | 280 => 131 | 281 => 132 | 282 => 133 | 287 => 146 | 316 => 147 | 171 => 58 | 205 => 148 | 321 => 153 | 322 => 154 | 243 => 84 | 246 => 109 | 283 => 124 | 284 => 125 | 285 => 126 | 286 => 127 | 129 => 99 | 317 => 138 | 318 => 139 | 319 => 140 | 320 => 141 | 337 => 149 | 338 => 150 | n => n, fun | 9 => 9 | 3 => 3 | 75 => 146 | 76 => 147 | 4 => 4 | 5 => 5 | 167 => 210 | 37 => 141 | 0 => 0 | 85 => 211 | 2 => 2 | 168 => 213 | 53 => 187 | 175 => 225 | 46 => 160 | 210 => 229 | 127 => 171 | 145 => 236 | 143 => 234 | 21 => 21 | 171 => 206 | 173 => 208 | 212 => 222 | 51 => 185 | 20 => 20 | 213 => 223 | 232 => 237 | 233 => 238 | 80 => 151 | n => n, fun | 15 => 2 | 16 => 3 | 17 => 0 | 18 => 4 | 19 => 5 | n => n⟩
theorem Tryz.laysC172 : Go.Proofs.LaysC.n172 Tryz.prog Tryz.laysC172_ren := {
 mixed := by kernel_rfl
 f129 := Tryz.func99.trans (congrArg some (by kernel_rfl))
 f171 := Tryz.func58.trans (congrArg some (by kernel_rfl))
 f172 := Tryz.func87.trans (congrArg some (by kernel_rfl))
 f205 := Tryz.func148.trans (congrArg some (by kernel_rfl))
 f243 := Tryz.func84.trans (congrArg some (by kernel_rfl))
 f244 := Tryz.func111.trans (congrArg some (by kernel_rfl))
 f245 := Tryz.func112.trans (congrArg some (by kernel_rfl))
 f246 := Tryz.func109.trans (congrArg some (by kernel_rfl))
 f247 := Tryz.func129.trans (congrArg some (by kernel_rfl))
 f279 := Tryz.func130.trans (congrArg some (by kernel_rfl))
 f280 := Tryz.func131.trans (congrArg some (by kernel_rfl))
 f281 := Tryz.func132.trans (congrArg some (by kernel_rfl))
 f282 := Tryz.func133.trans (congrArg some (by kernel_rfl))
 f283 := Tryz.func124.trans (congrArg some (by kernel_rfl))
 f284 := Tryz.func125.trans (congrArg some (by kernel_rfl))
 f285 := Tryz.func126.trans (congrArg some (by kernel_rfl))
 f286 := Tryz.func127.trans (congrArg some (by kernel_rfl))
 f287 := Tryz.func146.trans (congrArg some (by kernel_rfl))
 f316 := Tryz.func147.trans (congrArg some (by kernel_rfl))
 f317 := Tryz.func138.trans (congrArg some (by kernel_rfl))
 f318 := Tryz.func139.trans (congrArg some (by kernel_rfl))
 f319 := Tryz.func140.trans (congrArg some (by kernel_rfl))
 f320 := Tryz.func141.trans (congrArg some (by kernel_rfl))
 f321 := Tryz.func153.trans (congrArg some (by kernel_rfl))
 f322 := Tryz.func154.trans (congrArg some (by kernel_rfl))
 f337 := Tryz.func149.trans (congrArg some (by kernel_rfl))
 f338 := Tryz.func150.trans (congrArg some (by kernel_rfl))
 t0 := Tryz.underlying0
 a0 := Tryz.isAgg0
 z0 := Tryz.sizeOf0
 v0 := Tryz.zeroValue0
 t2 := Tryz.underlying2
 a2 := Tryz.isAgg2
 z2 := Tryz.sizeOf2
 v2 := Tryz.zeroValue2
 t3 := Tryz.underlying3
 a3 := Tryz.isAgg3
 z3 := Tryz.sizeOf3
 v3 := Tryz.zeroValue3
 t4 := Tryz.underlying4
 a4 := Tryz.isAgg4
 z4 := Tryz.sizeOf4
 v4 := Tryz.zeroValue4
 t5 := Tryz.underlying5
 a5 := Tryz.isAgg5
 z5 := Tryz.sizeOf5
 v5 := Tryz.zeroValue5
 t9 := Tryz.underlying9
 a9 := Tryz.isAgg9
 z9 := Tryz.sizeOf9
 v9 := Tryz.zeroValue9
 t20 := Tryz.underlying20
 a20 := Tryz.isAgg20
 z20 := Tryz.sizeOf20
 v20 := Tryz.zeroValue20
 t21 := Tryz.underlying21
 a21 := Tryz.isAgg21
 z21 := Tryz.sizeOf21
 v21 := Tryz.zeroValue21
 t37 := Tryz.underlying141
 a37 := Tryz.isAgg141
 z37 := Tryz.sizeOf141
 v37 := Tryz.zeroValue141
 t46 := Tryz.underlying160
 a46 := Tryz.isAgg160
 z46 := Tryz.sizeOf160
 v46 := Tryz.zeroValue160
 t51 := Tryz.underlying185
 a51 := Tryz.isAgg185
 z51 := Tryz.sizeOf185
 v51 := Tryz.zeroValue185
 t53 := Tryz.underlying187
 a53 := Tryz.isAgg187
 z53 := Tryz.sizeOf187
 v53 := Tryz.zeroValue187
 t75 := Tryz.underlying146
 a75 := Tryz.isAgg146
 z75 := Tryz.sizeOf146
 v75 := Tryz.zeroValue146
 t76 := Tryz.underlying147
 a76 := Tryz.isAgg147
 z76 := Tryz.sizeOf147
 v76 := Tryz.zeroValue147
 t85 := Tryz.underlying211
 a85 := Tryz.isAgg211
 z85 := Tryz.sizeOf211
 v85 := Tryz.zeroValue211
 t127 := Tryz.underlying171
 a127 := Tryz.isAgg171
 z127 := Tryz.sizeOf171
 v127 := Tryz.zeroValue171
 t143 := Tryz.underlying234
 a143 := Tryz.isAgg234
 z143 := Tryz.sizeOf234
 v143 := Tryz.zeroValue234
 t145 := Tryz.underlying236
 a145 := Tryz.isAgg236
 z145 := Tryz.sizeOf236
 v145 := Tryz.zeroValue236
 t167 := Tryz.underlying210
 a167 := Tryz.isAgg210
 z167 := Tryz.sizeOf210
 v167 := Tryz.zeroValue210
 t168 := Tryz.underlying213
 a168 := Tryz.isAgg213
 z168 := Tryz.sizeOf213
 v168 := Tryz.zeroValue213
 t171 := Tryz.underlying206
 a171 := Tryz.isAgg206
 z171 := Tryz.sizeOf206
 v171 := Tryz.zeroValue206
 t173 := Tryz.underlying208
 a173 := Tryz.isAgg208
 z173 := Tryz.sizeOf208
 v173 := Tryz.zeroValue208
 t175 := Tryz.underlying225
 a175 := Tryz.isAgg225
 z175 := Tryz.sizeOf225
 v175 := Tryz.zeroValue225
 t210 := Tryz.underlying229
 a210 := Tryz.isAgg229
 z210 := Tryz.sizeOf229
 v210 := Tryz.zeroValue229
 t212 := Tryz.underlying222
 a212 := Tryz.isAgg222
 z212 := Tryz.sizeOf222
 v212 := Tryz.zeroValue222
 t213 := Tryz.underlying223
 a213 := Tryz.isAgg223
 z213 := Tryz.sizeOf223
 t232 := Tryz.underlying237
 a232 := Tryz.isAgg237
 z232 := Tryz.sizeOf237
 v232 := Tryz.zeroValue237
 t233 := Tryz.underlying238
 a233 := Tryz.isAgg238
 z233 := Tryz.sizeOf238
 v233 := Tryz.zeroValue238
 g15 := by kernel_rfl
 g16 := by kernel_rfl
 g17 := by kernel_rfl
 g18 := by kernel_rfl
 g19 := by kernel_rfl
 t80 := Tryz.underlying151
 a80 := Tryz.isAgg151
 z80 := Tryz.sizeOf151
 v80 := Tryz.zeroValue151
 i0 := by kernel_rfl
 i2 := by kernel_rfl
 i3 := by kernel_rfl
 i4 := by kernel_rfl
 i5 := by kernel_rfl
 i9 := by kernel_rfl
 i20 := by kernel_rfl
 i21 := by kernel_rfl
 i37 := by kernel_rfl
 i46 := by kernel_rfl
 i51 := by kernel_rfl
 i53 := by kernel_rfl
 i75 := by kernel_rfl
 i76 := by kernel_rfl
 i80 := by kernel_rfl
 i85 := by kernel_rfl
 i127 := by kernel_rfl
 i143 := by kernel_rfl
 i145 := by kernel_rfl
 i167 := by kernel_rfl
 i168 := by kernel_rfl
 i171 := by kernel_rfl
 i173 := by kernel_rfl
 i175 := by kernel_rfl
 i210 := by kernel_rfl
 i212 := by kernel_rfl
 i232 := by kernel_rfl
 i233 := by kernel_rfl
 m15 := by kernel_rfl
 m16 := by kernel_rfl
 m17 := by kernel_rfl
 m18 := by kernel_rfl
 m19 := by kernel_rfl
 c0 := by kernel_rfl
 c2 := by kernel_rfl
 c3 := by kernel_rfl
 c4 := by kernel_rfl
 c5 := by kernel_rfl
 c9 := by kernel_rfl
 c20 := by kernel_rfl
 c21 := by kernel_rfl
 c37 := by kernel_rfl
 c46 := by kernel_rfl
 c51 := by kernel_rfl
 c53 := by kernel_rfl
 c75 := by kernel_rfl
 c76 := by kernel_rfl
 c80 := by kernel_rfl
 c85 := by kernel_rfl
 c127 := by kernel_rfl
 c143 := by kernel_rfl
 c145 := by kernel_rfl
 c167 := by kernel_rfl
 c168 := by kernel_rfl
 c171 := by kernel_rfl
 c173 := by kernel_rfl
 c175 := by kernel_rfl
 c210 := by kernel_rfl
 c212 := by kernel_rfl
 c213 := by kernel_rfl
 c232 := by kernel_rfl
 c233 := by kernel_rfl }
def Tryz.laysM171_ren : Go.Shelf.Ren := ⟨fun | 171 => 58 | 243 => 84 | 246 => 109 | 283 => 124 | 284 => 125 | 285 => 126 | 286 => 127 | 129 => 99 | 317 => 138 | 318 => 139 | 319 => 140 | 320 => 141 | 337 => 149 | 338 => 150 | n => n, fun | 3 => 3 | 9 => 9 | 2 => 2 | 4 => 4 | 171 => 206 | 0 => 0 | 53 => 187 | 37 => 141 | 5 => 5 | 173 => 208 | 212 => 222 | 51 => 185 | 20 => 20 | 213 => 223 | 46 => 160 | 232 => 237 | 233 => 238 | n => n, fun | 17 => 0 | 18 => 4 | 19 => 5 | n => n⟩
theorem Tryz.laysM171 : Go.Proofs.LaysM.n171 Tryz.prog Tryz.laysM171_ren := {
 mixed := by kernel_rfl
 f129 := Tryz.func99.trans (congrArg some (by kernel_rfl))
 f171 := Tryz.func58.trans (congrArg some (by kernel_rfl))
 f243 := Tryz.func84.trans (congrArg some (by kernel_rfl))
 f246 := Tryz.func109.trans (congrArg some (by kernel_rfl))
 f283 := Tryz.func124.trans (congrArg some (by kernel_rfl))
 f284 := Tryz.func125.trans (congrArg some (by kernel_rfl))
 f285 := Tryz.func126.trans (congrArg some (by kernel_rfl))
 f286 := Tryz.func127.trans (congrArg some (by kernel_rfl))
 f317 := Tryz.func138.trans (congrArg some (by kernel_rfl))
 f318 := Tryz.func139.trans (congrArg some (by kernel_rfl))
 f319 := Tryz.func140.trans (congrArg some (by kernel_rfl))
 f320 := Tryz.func141.trans (congrArg some (by kernel_rfl))
 f337 := Tryz.func149.trans (congrArg some (by kernel_rfl))
 f338 := Tryz.func150.trans (congrArg some (by kernel_rfl))
 t0 := Tryz.underlying0
 a0 := Tryz.isAgg0
 z0 := Tryz.sizeOf0
 v0 := Tryz.zeroValue0
 t2 := Tryz.underlying2
 a2 := Tryz.isAgg2
 z2 := Tryz.sizeOf2
 v2 := Tryz.zeroValue2
 t3 := Tryz.underlying3
 a3 := Tryz.isAgg3
 z3 := Tryz.sizeOf3
 v3 := Tryz.zeroValue3
 t4 := Tryz.underlying4
 a4 := Tryz.isAgg4
 z4 := Tryz.sizeOf4
 v4 := Tryz.zeroValue4
 t5 := Tryz.underlying5
 a5 := Tryz.isAgg5
 z5 := Tryz.sizeOf5
 v5 := Tryz.zeroValue5
 t9 := Tryz.underlying9
 a9 := Tryz.isAgg9
 z9 := Tryz.sizeOf9
 v9 := Tryz.zeroValue9
 t20 := Tryz.underlying20
 a20 := Tryz.isAgg20
 z20 := Tryz.sizeOf20
 v20 := Tryz.zeroValue20
 t37 := Tryz.underlying141
 a37 := Tryz.isAgg141
 z37 := Tryz.sizeOf141
 v37 := Tryz.zeroValue141
 t46 := Tryz.underlying160
 a46 := Tryz.isAgg160
 z46 := Tryz.sizeOf160
 v46 := Tryz.zeroValue160
 t51 := Tryz.underlying185
 a51 := Tryz.isAgg185
 z51 := Tryz.sizeOf185
 v51 := Tryz.zeroValue185
 t53 := Tryz.underlying187
 a53 := Tryz.isAgg187
 z53 := Tryz.sizeOf187
 v53 := Tryz.zeroValue187
 t171 := Tryz.underlying206
 a171 := Tryz.isAgg206
 z171 := Tryz.sizeOf206
 v171 := Tryz.zeroValue206
 t173 := Tryz.underlying208
 a173 := Tryz.isAgg208
 z173 := Tryz.sizeOf208
 v173 := Tryz.zeroValue208
 t212 := Tryz.underlying222
 a212 := Tryz.isAgg222
 z212 := Tryz.sizeOf222
 v212 := Tryz.zeroValue222
 t213 := Tryz.underlying223
 a213 := Tryz.isAgg223
 z213 := Tryz.sizeOf223
 t232 := Tryz.underlying237
 a232 := Tryz.isAgg237
 z232 := Tryz.sizeOf237
 v232 := Tryz.zeroValue237
 t233 := Tryz.underlying238
 a233 := Tryz.isAgg238
 z233 := Tryz.sizeOf238
 v233 := Tryz.zeroValue238
 g17 := by kernel_rfl
 g18 := by kernel_rfl
 g19 := by kernel_rfl
 i0 := by kernel_rfl
 i2 := by kernel_rfl
 i3 := by kernel_rfl
 i4 := by kernel_rfl
 i5 := by kernel_rfl
 i9 := by kernel_rfl
 i20 := by kernel_rfl
 i37 := by kernel_rfl
 i46 := by kernel_rfl
 i51 := by kernel_rfl
 i53 := by kernel_rfl
 i171 := by kernel_rfl
 i173 := by kernel_rfl
 i212 := by kernel_rfl
 i232 := by kernel_rfl
 i233 := by kernel_rfl
 m17 := by kernel_rfl
 m18 := by kernel_rfl
 m19 := by kernel_rfl }
def Tryz.lays169_ren : Go.Shelf.Ren := ⟨fun | 169 => 59 | n => n, fun | 70 => 140 | 9 => 9 | 0 => 0 | 72 => 143 | 37 => 141 | 127 => 171 | 3 => 3 | 5 => 5 | n => n, fun | n => n⟩
theorem Tryz.lays169 : Go.Proofs.Lays.n169 Tryz.prog Tryz.lays169_ren := {
 mixed := by kernel_rfl
 f169 := Tryz.func59.trans (congrArg some (by kernel_rfl))
 t0 := Tryz.underlying0
 a0 := Tryz.isAgg0
 z0 := Tryz.sizeOf0
 v0 := Tryz.zeroValue0
 t3 := Tryz.underlying3
 a3 := Tryz.isAgg3
 z3 := Tryz.sizeOf3
 v3 := Tryz.zeroValue3
 t9 := Tryz.underlying9
 a9 := Tryz.isAgg9
 z9 := Tryz.sizeOf9
 v9 := Tryz.zeroValue9
 t37 := Tryz.underlying141
 a37 := Tryz.isAgg141
 z37 := Tryz.sizeOf141
 v37 := Tryz.zeroValue141
 t70 := Tryz.underlying140
 a70 := Tryz.isAgg140
 z70 := Tryz.sizeOf140
 v70 := Tryz.zeroValue140
 t72 := Tryz.underlying143
 a72 := Tryz.isAgg143
 z72 := Tryz.sizeOf143
 v72 := Tryz.zeroValue143
 t127 := Tryz.underlying171
 a127 := Tryz.isAgg171
 z127 := Tryz.sizeOf171
 v127 := Tryz.zeroValue171 }
theorem Tryz.Builder_Extra_169 : Builder.Extra Tryz.prog Tryz.lays169_ren := {
 sizeBuilder := by kernel_rfl
 liesBuilder := by kernel_rfl
 t5 := Tryz.underlying5
 a5 := Tryz.isAgg5
 z5 := Tryz.sizeOf5
 v5 := Tryz.zeroValue5
 infoByte := by kernel_rfl
 cellsByte := by kernel_rfl
 sizeByte := by kernel_rfl
 neB5 := by decide }
def Tryz.lays103_ren : Go.Shelf.Ren := ⟨fun | 103 => 88 | 210 => 113 | 206 => 134 | n => n, fun | 9 => 9 | 4 => 4 | 24 => 150 | 3 => 3 | n => n, fun | n => n⟩
theorem Tryz.lays103 : Go.Proofs.Lays.n103 Tryz.prog Tryz.lays103_ren := {
 mixed := by kernel_rfl
 f103 := Tryz.func88.trans (congrArg some (by kernel_rfl))
 f206 := Tryz.func134.trans (congrArg some (by kernel_rfl))
 f210 := Tryz.func113.trans (congrArg some (by kernel_rfl))
 t3 := Tryz.underlying3
 a3 := Tryz.isAgg3
 z3 := Tryz.sizeOf3
 v3 := Tryz.zeroValue3
 t4 := Tryz.underlying4
 a4 := Tryz.isAgg4
 z4 := Tryz.sizeOf4
 v4 := Tryz.zeroValue4
 t9 := Tryz.underlying9
 a9 := Tryz.isAgg9
 z9 := Tryz.sizeOf9
 v9 := Tryz.zeroValue9
 t24 := Tryz.underlying150
 a24 := Tryz.isAgg150
 z24 := Tryz.sizeOf150
 v24 := Tryz.zeroValue150 }
def Tryz.lays145_ren : Go.Shelf.Ren := ⟨fun | 145 => 86 | 220 => 110 | 219 => 128 | 217 => 142 | 225 => 143 | 224 => 144 | 267 => 145 | 266 => 151 | 314 => 152 | n => n, fun | 9 => 9 | 4 => 4 | 59 => 172 | 3 => 3 | 5 => 5 | 46 => 160 | 146 => 231 | 51 => 185 | n => n, fun | 1 => 1 | n => n⟩
theorem Tryz.lays145 : Go.Proofs.Lays.n145 Tryz.prog Tryz.lays145_ren := {
 mixed := by kernel_rfl
 f145 := Tryz.func86.trans (congrArg some (by kernel_rfl))
 f217 := Tryz.func142.trans (congrArg some (by kernel_rfl))
 f219 := Tryz.func128.trans (congrArg some (by kernel_rfl))
 f220 := Tryz.func110.trans (congrArg some (by kernel_rfl))
 f224 := Tryz.func144.trans (congrArg some (by kernel_rfl))
 f225 := Tryz.func143.trans (congrArg some (by kernel_rfl))
 f266 := Tryz.func151.trans (congrArg some (by kernel_rfl))
 f267 := Tryz.func145.trans (congrArg some (by kernel_rfl))
 f314 := Tryz.func152.trans (congrArg some (by kernel_rfl))
 t3 := Tryz.underlying3
 a3 := Tryz.isAgg3
 z3 := Tryz.sizeOf3
 v3 := Tryz.zeroValue3
 t4 := Tryz.underlying4
 a4 := Tryz.isAgg4
 z4 := Tryz.sizeOf4
 v4 := Tryz.zeroValue4
 t5 := Tryz.underlying5
 a5 := Tryz.isAgg5
 z5 := Tryz.sizeOf5
 v5 := Tryz.zeroValue5
 t9 := Tryz.underlying9
 a9 := Tryz.isAgg9
 z9 := Tryz.sizeOf9
 v9 := Tryz.zeroValue9
 t46 := Tryz.underlying160
 a46 := Tryz.isAgg160
 z46 := Tryz.sizeOf160
 v46 := Tryz.zeroValue160
 t51 := Tryz.underlying185
 a51 := Tryz.isAgg185
 z51 := Tryz.sizeOf185
 v51 := Tryz.zeroValue185
 t59 := Tryz.underlying172
 a59 := Tryz.isAgg172
 z59 := Tryz.sizeOf172
 v59 := Tryz.zeroValue172
 t146 := Tryz.underlying231
 a146 := Tryz.isAgg231
 z146 := Tryz.sizeOf231
 v146 := Tryz.zeroValue231
 g1 := by kernel_rfl }
def Tryz.lays144_ren : Go.Shelf.Ren := ⟨fun | 144 => 89 | 143 => 114 | 219 => 128 | 217 => 142 | 225 => 143 | 224 => 144 | 267 => 145 | 266 => 151 | 314 => 152 | n => n, fun | 9 => 9 | 4 => 4 | 3 => 3 | 5 => 5 | 46 => 160 | 146 => 231 | 51 => 185 | n => n, fun | 1 => 1 | n => n⟩
theorem Tryz.lays144 : Go.Proofs.Lays.n144 Tryz.prog Tryz.lays144_ren := {
 mixed := by kernel_rfl
 f143 := Tryz.func114.trans (congrArg some (by kernel_rfl))
 f144 := Tryz.func89.trans (congrArg some (by kernel_rfl))
 f217 := Tryz.func142.trans (congrArg some (by kernel_rfl))
 f219 := Tryz.func128.trans (congrArg some (by kernel_rfl))
 f224 := Tryz.func144.trans (congrArg some (by kernel_rfl))
 f225 := Tryz.func143.trans (congrArg some (by kernel_rfl))
 f266 := Tryz.func151.trans (congrArg some (by kernel_rfl))
 f267 := Tryz.func145.trans (congrArg some (by kernel_rfl))
 f314 := Tryz.func152.trans (congrArg some (by kernel_rfl))
 t3 := Tryz.underlying3
 a3 := Tryz.isAgg3
 z3 := Tryz.sizeOf3
 v3 := Tryz.zeroValue3
 t4 := Tryz.underlying4
 a4 := Tryz.isAgg4
 z4 := Tryz.sizeOf4
 v4 := Tryz.zeroValue4
 t5 := Tryz.underlying5
 a5 := Tryz.isAgg5
 z5 := Tryz.sizeOf5
 v5 := Tryz.zeroValue5
 t9 := Tryz.underlying9
 a9 := Tryz.isAgg9
 z9 := Tryz.sizeOf9
 v9 := Tryz.zeroValue9
 t46 := Tryz.underlying160
 a46 := Tryz.isAgg160
 z46 := Tryz.sizeOf160
 v46 := Tryz.zeroValue160
 t51 := Tryz.underlying185
 a51 := Tryz.isAgg185
 z51 := Tryz.sizeOf185
 v51 := Tryz.zeroValue185
 t146 := Tryz.underlying231
 a146 := Tryz.isAgg231
 z146 := Tryz.sizeOf231
 v146 := Tryz.zeroValue231
 g1 := by kernel_rfl }
def Tryz.laysF45_ren : Go.Shelf.Ren := ⟨fun | 6 => 45 | 15 => 64 | 14 => 63 | 28 => 98 | 29 => 99 | 20 => 90 | 21 => 91 | 22 => 92 | 23 => 93 | 24 => 94 | 25 => 95 | 26 => 96 | 27 => 97 | 46 => 115 | 47 => 116 | 48 => 117 | 49 => 118 | 50 => 119 | 57 => 135 | n => n, fun | 22 => 39 | 24 => 77 | 25 => 122 | 3 => 3 | 39 => 160 | 0 => 0 | 53 => 185 | 55 => 187 | 4 => 4 | 46 => 179 | 45 => 178 | 50 => 144 | 5 => 5 | 9 => 9 | 66 => 199 | 70 => 203 | 76 => 216 | 77 => 116 | n => n, fun | n => n⟩
theorem Tryz.laysF45 : Go.Proofs.SlLaysF0.n6 Tryz.prog Tryz.laysF45_ren := {
 mixed := by kernel_rfl
 f6 := ⟨Tryz.f45.name, by decide, Tryz.func45.trans (congrArg some (by kernel_rfl))⟩
 f14 := ⟨Tryz.f63.name, by decide, Tryz.func63.trans (congrArg some (by kernel_rfl))⟩
 f15 := Tryz.func64.trans (congrArg some (by kernel_rfl))
 f20 := ⟨Tryz.f90.name, by decide, Tryz.func90.trans (congrArg some (by kernel_rfl))⟩
 f21 := ⟨Tryz.f91.name, by decide, Tryz.func91.trans (congrArg some (by kernel_rfl))⟩
 f22 := ⟨Tryz.f92.name, by decide, Tryz.func92.trans (congrArg some (by kernel_rfl))⟩
 f23 := ⟨Tryz.f93.name, by decide, Tryz.func93.trans (congrArg some (by kernel_rfl))⟩
 f24 := ⟨Tryz.f94.name, by decide, Tryz.func94.trans (congrArg some (by kernel_rfl))⟩
 f25 := ⟨Tryz.f95.name, by decide, Tryz.func95.trans (congrArg some (by kernel_rfl))⟩
 f26 := ⟨Tryz.f96.name, by decide, Tryz.func96.trans (congrArg some (by kernel_rfl))⟩
 f27 := ⟨Tryz.f97.name, by decide, Tryz.func97.trans (congrArg some (by kernel_rfl))⟩
 f28 := Tryz.func98.trans (congrArg some (by kernel_rfl))
 f29 := Tryz.func99.trans (congrArg some (by kernel_rfl))
 f46 := ⟨Tryz.f115.name, by decide, Tryz.func115.trans (congrArg some (by kernel_rfl))⟩
 f47 := Tryz.func116.trans (congrArg some (by kernel_rfl))
 f48 := Tryz.func117.trans (congrArg some (by kernel_rfl))
 f49 := ⟨Tryz.f118.name, by decide, Tryz.func118.trans (congrArg some (by kernel_rfl))⟩
 f50 := ⟨Tryz.f119.name, by decide, Tryz.func119.trans (congrArg some (by kernel_rfl))⟩
 f57 := ⟨Tryz.f135.name, by decide, Tryz.func135.trans (congrArg some (by kernel_rfl))⟩
 t0 := Tryz.underlying0
 a0 := Tryz.isAgg0
 z0 := Tryz.sizeOf0
 v0 := Tryz.zeroValue0
 t3 := Tryz.underlying3
 a3 := Tryz.isAgg3
 z3 := Tryz.sizeOf3
 v3 := Tryz.zeroValue3
 t4 := Tryz.underlying4
 a4 := Tryz.isAgg4
 z4 := Tryz.sizeOf4
 v4 := Tryz.zeroValue4
 t5 := Tryz.underlying5
 a5 := Tryz.isAgg5
 z5 := Tryz.sizeOf5
 v5 := Tryz.zeroValue5
 t9 := Tryz.underlying9
 a9 := Tryz.isAgg9
 z9 := Tryz.sizeOf9
 v9 := Tryz.zeroValue9
 t22 := Tryz.underlying39
 a22 := Tryz.isAgg39
 z22 := Tryz.sizeOf39
 v22 := Tryz.zeroValue39
 t25 := Tryz.underlying122
 a25 := Tryz.isAgg122
 z25 := Tryz.sizeOf122
 v25 := Tryz.zeroValue122
 t39 := Tryz.underlying160
 a39 := Tryz.isAgg160
 z39 := Tryz.sizeOf160
 v39 := Tryz.zeroValue160
 t45 := Tryz.underlying178
 a45 := Tryz.isAgg178
 z45 := Tryz.sizeOf178
 v45 := Tryz.zeroValue178
 t46 := Tryz.underlying179
 a46 := Tryz.isAgg179
 z46 := Tryz.sizeOf179
 v46 := Tryz.zeroValue179
 t50 := Tryz.underlying144
 a50 := Tryz.isAgg144
 z50 := Tryz.sizeOf144
 v50 := Tryz.zeroValue144
 t53 := Tryz.underlying185
 a53 := Tryz.isAgg185
 z53 := Tryz.sizeOf185
 v53 := Tryz.zeroValue185
 t55 := Tryz.underlying187
 a55 := Tryz.isAgg187
 z55 := Tryz.sizeOf187
 v55 := Tryz.zeroValue187
 t66 := Tryz.underlying199
 a66 := Tryz.isAgg199
 z66 := Tryz.sizeOf199
 v66 := Tryz.zeroValue199
 t70 := Tryz.underlying203
 a70 := Tryz.isAgg203
 z70 := Tryz.sizeOf203
 v70 := Tryz.zeroValue203
 t76 := Tryz.underlying216
 a76 := Tryz.isAgg216
 z76 := Tryz.sizeOf216
 v76 := Tryz.zeroValue216
 t77 := Tryz.underlying116
 a77 := Tryz.isAgg116
 z77 := Tryz.sizeOf116
 v77 := Tryz.zeroValue116 }
theorem Tryz.szB : (Tryz.prog.info? 143).map (·.size) = some 2 := by kernel_rfl
theorem Tryz.liesB : liesAt Tryz.prog Tryz.prog.depth 143 (2 / Tryz.prog.cellsOf 143) 0 143 1 = true := by kernel_rfl
theorem Tryz.infoU8 : (Tryz.prog.info? 5).map (fun i => (i.zero, i.size, i.bytes)) = some (some (.int .u8 0), 1, 1) := by kernel_rfl
set_option maxHeartbeats 1000000 in
set_option maxRecDepth 100000 in
theorem Tryz.cc_used (b : Nat) (w : World) (h0 : w.cell? ⟨b, 0, none⟩ = some (.pointer (some ⟨b, 0, none⟩))) : Calls Tryz.prog 83 #[.pointer (some ⟨b, 0, none⟩)] w fun e w' => e = .returned (.tuple #[]) ∧ w' = w := by
 obtain ⟨j, hj, _⟩ := Option.map_eq_some_iff.1 Tryz.szB
 go_enter Tryz.func83, Tryz.ntmps83
 go_wp2
 rw [Lib.run_neq_ptr_same w _ Tryz.underlying140 hj]
 go_wp2
 go_end0
 exact ⟨rfl, rfl⟩
set_option maxHeartbeats 1000000 in
set_option maxRecDepth 100000 in
theorem Tryz.cc_new (b : Nat) (w : World) (h0 : w.cell? ⟨b, 0, none⟩ = some (.pointer none)) (hs : w.shape? b = some (143, 2)) (hz : w.frozen? ⟨b, 0, none⟩ = false) : Calls Tryz.prog 83 #[.pointer (some ⟨b, 0, none⟩)] w fun e w' => e = .returned (.tuple #[]) ∧ w' = w.setCell ⟨b, 0, none⟩ (.pointer (some ⟨b, 0, none⟩)) := by
 obtain ⟨j, hj, hjs⟩ := Option.map_eq_some_iff.1 Tryz.szB
 go_enter Tryz.func83, Tryz.ntmps83
 go_wp2
 rw [Lib.run_to_unsafe w ⟨b, 0, none⟩ Tryz.underlying140 Tryz.underlying194 hj (by rw [hjs]; decide) hs (Nat.zero_lt_succ 1)]
 simp only [Result.andThen]
 rw [Oper.upon_value]
 go_wp2
 rw [run_callFunc_extern Tryz.func108 (by kernel_rfl) (by kernel_rfl) (by kernel_rfl) (e := Extern.AbiNoEscape.same) (by kernel_rfl)]
 rw [Lib.run_noEscape]
 simp only [Result.andThen]
 rw [Oper.upon_value]
 go_wp2
 rw [Lib.run_from_unsafe w ⟨b, 0, none⟩ Tryz.underlying194 Tryz.underlying140 hj hs Tryz.liesB]
 simp only [Result.andThen]
 rw [Oper.upon_value]
 go_wp2
 go_end0
 exact ⟨rfl, rfl⟩
theorem Tryz.cc_any (B b : Nat) (l : List Value) (w : World) (h : Lib.IsBuilderF 143 5 B b l w) : Calls Tryz.prog 83 #[.pointer (some ⟨b, 0, none⟩)] w fun e w' => e = .returned (.tuple #[]) ∧ Lib.BuilderAtF 143 5 B b (.pointer (some ⟨b, 0, none⟩)) l w' ∧ Below B w w' := by
 rcases h with h | h
 ·exact (Tryz.cc_new b w h.cell0 h.shape h.frozen0).mono fun e w' hw => by
   obtain ⟨rfl, rfl⟩ := hw
   exact ⟨rfl, h.used _, (Below.refl B w).setCell (p := ⟨b, 0, none⟩) h.1 _⟩
 ·exact (Tryz.cc_used b w h.cell0).mono fun e w' hw => by
   obtain ⟨rfl, rfl⟩ := hw
   exact ⟨rfl, h, Below.refl B _⟩
set_option maxHeartbeats 2000000 in
set_option maxRecDepth 100000 in
theorem Tryz.bWrite (B b : Nat) (l : List Value) (s : ByteArray) (w : World) (h : Lib.IsBuilderF 143 5 B b l w) (hl : l.length + s.size ≤ 140737488355328) (hB : B ≤ w.heap.size) :
  Calls Tryz.prog 57 #[.pointer (some ⟨b, 0, none⟩), .string s] w fun e w' => e = .returned (.tuple #[.int .i64 s.size, .nilIface]) ∧ Lib.BuilderAtF 143 5 B b (.pointer (some ⟨b, 0, none⟩)) (l ++ Lib.strCells s) w' ∧ Below B w w' := by
 obtain ⟨i0, hi, hz0, hz1, hz2⟩ := info_parts Tryz.infoU8
 have e83 : ∀ args w, (callFunc 83 args).run Tryz.prog w = .ok (.enter 83 args) w := enters_of Tryz.func83 (by kernel_rfl) rfl
 go_enter Tryz.func57, Tryz.ntmps57
 go_wp2_with (go_at_fn 83; refine (Tryz.cc_any B b l _ h).mono ?_)
 rintro e w1 ⟨rfl, ⟨hBb, v, hbk, hown, hne⟩, hb1⟩
 have c0 : w1.cell? ⟨b, 0, none⟩ = some (.pointer (some ⟨b, 0, none⟩)) := by rw [Lib.cell_of_heap hbk]; rfl
 have c1 : w1.cell? ⟨b, 1, none⟩ = some v := by rw [Lib.cell_of_heap hbk]; rfl
 go_wp2_with (at_builtin; refine Lib.wpList_append_own_stringF _ rfl _ _ 141 9 rfl B 5 i0 Tryz.underlying141 Tryz.underlying9 hi hz0 hz1 hz2 _ _ _ rfl hown s rfl ?c3 ?c4 ?c5 ?_)
 case c3 => unfold maxLen; omega
 case c4 => omega
 case c5 => have := hb1.size; omega
 intro v' w2 hown' hgrow _
 have hlt : b < w1.heap.size := (Array.getElem?_eq_some_iff.1 hbk).1
 have hb2 : w2.heap[b]? = some (.cells #[.pointer (some ⟨b, 0, none⟩), v] 143 (0, 0)) := by
  rw [hgrow.block b hlt (fun e => hne e.symm)]; exact hbk
 have d0 : w2.cell? ⟨b, 0, none⟩ = some (.pointer (some ⟨b, 0, none⟩)) := by rw [Lib.cell_of_heap hb2]; rfl
 have d1 : w2.cell? ⟨b, 1, none⟩ = some v := by rw [Lib.cell_of_heap hb2]; rfl
 have f1 : w2.frozen? ⟨b, 1, none⟩ = false := Lib.frozen_of_heap hb2 1
 obtain ⟨ao, n', cap, rfl⟩ : ∃ ao n' cap, v' = .slice ao n' cap := by
  rcases hown'.2 with ⟨hv, _⟩ | ⟨g, cap, cur, fz, hv, _⟩
  ·exact ⟨_, _, _, hv⟩
  ·exact ⟨_, _, _, hv⟩
 go_wp2
 go_ret2
 exact ⟨rfl, Lib.BuilderAtF.put (T := 143) (e := 5) hBb hb2 (bs' := l ++ Lib.strCells s) (by simpa [Lib.strCells_length] using hown') (by decide), (hb1.grown hgrow (by have := hb1.size; omega) (fun k hk => (hown.lt k hk).1)).setCell (p := ⟨b, 1, none⟩) hBb _⟩
end Go.Proofs
namespace Go.Proofs
open Go Pk
theorem Tryz.srt45 : SrtK Tryz.prog 45 6 :=
  ⟨fun p cap fv w => AnyF.slices_SortFunc_none Tryz.laysF45 p cap fv w,
   fun α _ enc hk h1 cf hO g cb blk off cap d w eg hc hH hb hs hT => AnyQ.slices_SortFunc_total Tryz.laysF45 6 Tryz.isAgg77 Tryz.sizeOf77 enc hk h1 cf hO g cb blk off cap d w eg hc hH hb hs hT⟩
end Go.Proofs
set_option maxHeartbeats 4000000
namespace T10
open Go Go.Proofs Pk Go.RowKit
structure Gv (M : Prop) (H : Hp) : Prop where
 gl : Gl M 2 3 0 H
 mx : ∃ m, CellsAt H ⟨1, 0, none⟩ [.int .i64 m]
theorem Gv.mono {M : Prop} {H K : Hp} (h : Gv M H) (hk : H.le K) : Gv M K := ⟨h.gl.mono hk, h.mx.imp fun _ hm => hm.mono hk⟩
noncomputable def m87 (s : Bytes) : Option (Int × Bool) := atoiM s
noncomputable def m58 (n : Int) : Option Bytes := itoaM n
noncomputable def m86 (s t : Bytes) : Option (Bytes × Bytes × Bool) := chk (s.length ≤ 1073741824) (some (Lib.cut s t))
noncomputable def m88 (s t : Bytes) : Option (Bytes × Bool) := some (Lib.trimPrefix s t, Lib.hasPrefix s t)
noncomputable def m89 (s t : Bytes) : Option Bool := chk (s.length ≤ 1073741824) (some (Lib.contains s t))
theorem bsd (s : Bytes) : (bs s).data.toList = s := by simp [bs]
theorem w87 {M : Prop} {W : World} {H : Hp} (hH : H.le (hp W)) (hg : Gv M H) (s : Bytes) {r : Int × Bool} (hr : m87 s = some r) : Calls Tryz.prog 87 [.string (bs s)].toArray W (RetK M H W (fun v K => ∃ (er1 : Value), v = .tuple [.int .i64 r.1, er1].toArray ∧ Er er1 r.2)) := by
 unfold m87 atoiM at hr
 obtain ⟨hl, hr⟩ := chk_some hr
 obtain rfl := Option.some.inj hr
 have hz : (bs s).size = s.length := bs_size s
 obtain ⟨e0, h0, i0⟩ := hg.gl.syn
 obtain ⟨e1, h1, i1⟩ := hg.gl.rng
 cases h : Lib.atoiAll s with
 | ok v =>
  refine (Any.strconv_Atoi_ok Tryz.laysC172 (bs s) (by omega) v (by rw [bsd]; exact h) W).mono ?_
  rintro e w' ⟨rfl, hw⟩
  refine ⟨⟨_, by simp [atoiR, h], .inl ⟨by simp [atoiR, h], rfl⟩⟩, ?_⟩
  rcases hw with rfl | ⟨t, rfl⟩
  ·exact Ext.refl _ _
  ·exact Ext.of_below hg.gl.nq (Lib.bytesWorld_below _ _ _)
 | range =>
  refine (Any.strconv_Atoi_range Tryz.laysC172 (bs s) (by omega) (by rw [bsd]; exact h) e1 W (cell_of hH h1) i1).mono ?_
  rintro e w' ⟨N, rfl, _, _, hb⟩
  have hr1 : atoiR s = (Lib.atoiSat s, true) := by simp [atoiR, h]
  rw [hr1, bsd]
  exact ⟨⟨_, rfl, .inr ⟨rfl, _, _, rfl⟩⟩, Ext.of_below hg.gl.nq hb⟩
 | _ =>
  refine (Any.strconv_Atoi_syntax Tryz.laysC172 (bs s) (by omega) (by rw [bsd]; exact h) e0 W (cell_of hH h0) i0).mono ?_
  rintro e w' ⟨N, rfl, _, _, hb⟩
  have hr1 : atoiR s = (0, true) := by simp [atoiR, h]
  rw [hr1]
  exact ⟨⟨_, rfl, .inr ⟨rfl, _, _, rfl⟩⟩, Ext.of_below hg.gl.nq hb⟩
theorem itoaC {W : World} {H : Hp} (hH : H.le (hp W)) {M : Prop} (hg : Gv M H) (n : Int) (h1 : -9223372036854775808 ≤ n) (h2 : n ≤ 9223372036854775807) : Calls Tryz.prog 58 #[.int .i64 n] W fun e w' => e = .returned (.string (bs (Lib.itoa n))) ∧ ∃ k os, w' = Sort.grow (W.drewN k) os := by
 refine (Any.strconv_Itoa Tryz.laysM171 n h1 h2 W (tabIs_of (by kernel_rfl) hH hg.gl.tab)).mono ?_
 rintro e w' ⟨rfl, k, os, rfl⟩
 exact ⟨rfl, k, os, rfl⟩
theorem ext_of_grow (M : Prop) (W : World) (k : Nat) (os : Array Obj) : Ext M W (Sort.grow (W.drewN k) os) :=
 ⟨rfl, rfl, rfl, (by show W.heap.size ≤ (W.heap ++ os).size; rw [Array.size_append]; omega), fun b hb => Array.getElem?_append_left hb, fun _ => Nat.le_add_right _ _⟩
theorem w58 {M : Prop} {W : World} {H : Hp} (hH : H.le (hp W)) (hg : Gv M H) (n : Int) {r : Bytes} (hr : m58 n = some r) : Calls Tryz.prog 58 [.int .i64 n].toArray W (RetS M W (.string (bs r))) := by
 unfold m58 itoaM at hr
 obtain ⟨hl, hr⟩ := chk_some hr
 obtain rfl := Option.some.inj hr
 refine (itoaC hH hg n hl.1 hl.2).mono ?_
 rintro e w' ⟨rfl, k, os, rfl⟩
 exact ⟨rfl, ext_of_grow M W k os⟩
theorem w86 {M : Prop} {W : World} {H : Hp} (hH : H.le (hp W)) (hg : Gv M H) (s t : Bytes) {r : Bytes × Bytes × Bool} (hr : m86 s t = some r) : Calls Tryz.prog 86 [.string (bs s), .string (bs t)].toArray W (RetS M W (.tuple [.string (bs r.1), .string (bs r.2.1), .bool r.2.2].toArray)) := by
 unfold m86 at hr
 obtain ⟨hl, hr⟩ := chk_some hr
 obtain rfl := Option.some.inj hr
 obtain ⟨m, hm⟩ := hg.mx
 refine (Any.strings_Cut Tryz.lays145 (bs s) (bs t) m W (by rw [bs_size]; omega) (cell_of hH hm)).mono ?_
 rintro e w' ⟨rfl, k, rfl⟩
 refine ⟨by simp [bs], ?_⟩
 exact ⟨rfl, rfl, rfl, Nat.le_refl _, fun _ _ => rfl, fun _ => Nat.le_add_right _ _⟩
theorem w88 {M : Prop} {W : World} {H : Hp} (hH : H.le (hp W)) (hg : Gv M H) (s t : Bytes) {r : Bytes × Bool} (hr : m88 s t = some r) : Calls Tryz.prog 88 [.string (bs s), .string (bs t)].toArray W (RetS M W (.tuple [.string (bs r.1), .bool r.2].toArray)) := by
 obtain rfl := Option.some.inj hr
 refine (Any.strings_CutPrefix Tryz.lays103 (bs s) (bs t) W).mono ?_
 rintro e w' ⟨rfl, rfl⟩
 exact ⟨by simp [bs], Ext.refl _ _⟩
theorem w89 {M : Prop} {W : World} {H : Hp} (hH : H.le (hp W)) (hg : Gv M H) (s t : Bytes) {r : Bool} (hr : m89 s t = some r) : Calls Tryz.prog 89 [.string (bs s), .string (bs t)].toArray W (RetS M W (.bool r)) := by
 unfold m89 at hr
 obtain ⟨hl, hr⟩ := chk_some hr
 obtain rfl := Option.some.inj hr
 obtain ⟨m, hm⟩ := hg.mx
 refine (Any.strings_Contains Tryz.lays144 (bs s) (bs t) m W (by rw [bs_size]; omega) (cell_of hH hm)).mono ?_
 rintro e w' ⟨rfl, rfl⟩
 exact ⟨by simp [bs], Ext.refl _ _⟩
end T10
set_option maxHeartbeats 4000000
namespace T10
open Go Go.Proofs Pk Go.RowKit
def anyB : Any → Bytes
 | .i n => Lib.itoa n
 | .s b => b
def anyOk : Any → Prop
 | .i n => -9223372036854775808 ≤ n ∧ n ≤ 9223372036854775807
 | .s _ => True
def spell (l : List Any) : Bytes := l.flatMap anyB
noncomputable def m38 (l : List Any) : Option Bytes := chk ((∀ x ∈ l, anyOk x) ∧ (spell l).length ≤ 1073741824) (some (spell l))
theorem atF_below {T e : TypeId} {B b : Nat} {p : Value} {l : List Value} {W W' : World} (h : Lib.BuilderAtF T e B b p l W) (hb : Below W.heap.size W W') : Lib.BuilderAtF T e B b p l W' := by
 have hlt := h.lt
 obtain ⟨hB, v, hv, hown, hne⟩ := h
 exact ⟨hB, v, (hb.block b hlt).trans hv, hown.kept (row := none) ⟨hb.os, hb.tape, hb.output, hb.size, fun k hk _ => hb.block k hk⟩ (Classical.em _), hne⟩
theorem isF_below {T e : TypeId} {B b : Nat} {l : List Value} {W W' : World} (h : Lib.IsBuilderF T e B b l W) (hb : Below W.heap.size W W') : Lib.IsBuilderF T e B b l W' :=
 h.elim (fun x => .inl (atF_below x hb)) (fun x => .inr (atF_below x hb))
theorem below_grow (W : World) (k : Nat) (os : Array Obj) : Below W.heap.size W (Sort.grow (W.drewN k) os) :=
 ⟨rfl, rfl, rfl, (by show W.heap.size ≤ (W.heap ++ os).size; rw [Array.size_append]; omega), fun b hb => Array.getElem?_append_left hb⟩
theorem spell_take {l : List Any} {i : Nat} {x : Any} (h : l[i]? = some x) : spell (l.take (i + 1)) = spell (l.take i) ++ anyB x := by
 unfold spell; rw [List.take_succ, h]; simp
theorem spell_le {l : List Any} (i : Nat) : (spell (l.take i)).length ≤ (spell l).length := by
 have : spell l = spell (l.take i) ++ spell (l.drop i) := by unfold spell; rw [← List.flatMap_append, List.take_append_drop]
 rw [this]; simp
section
variable {P : Program} {r : Option Nat} {n : Cont} {p : List PanicEntry → Cont} {a : Act} {w : World} {D : List Deferred} {k : Nat} {L : Env} {ops : Array Oper} {rest : List Oper} {d : Nat} {ty : TypeId} {pos : String} {af : Array Edge}
theorem o_taY {y : Operand} {xT t : TypeId} {v : Value} {ds : TypeDesc} (hA : Has D k a L) (hd : Nat.blt d k = true) (hu : P.underlying t = some ds) (hds : (match ds with | .interface _ => false | _ => true) = true) (hy : ev L y = some (.iface t v))
  (h : ∀ a, Has D k a ((d, .tuple #[v, .bool true]) :: L) → O P r ops n p rest a w) : O P r ops n p (⟨some d, .typeAssert y xT t true, ty, pos, af, none⟩ :: rest) a w :=
 O_run rfl (fun _ h => by cases h) (w' := w) (v := .tuple #[v, .bool true]) (by
  simp only [execOp, Instr.typeAssert, hA.eval hy]
  cases ds <;> simp at hds <;> simp [run_underlying hu, Result.andThen]) (h _ (hA.put hd _))
theorem o_taN {y : Operand} {xT t t' : TypeId} {v z : Value} {ds : TypeDesc} (hA : Has D k a L) (hd : Nat.blt d k = true) (hu : P.underlying t = some ds) (hds : (match ds with | .interface _ => false | _ => true) = true) (hz : ∀ w, (zeroValue t).run P w = .ok z w) (hne : Nat.beq t' t = false) (hy : ev L y = some (.iface t' v))
  (h : ∀ a, Has D k a ((d, .tuple #[z, .bool false]) :: L) → O P r ops n p rest a w) : O P r ops n p (⟨some d, .typeAssert y xT t true, ty, pos, af, none⟩ :: rest) a w := by
 have hn : ¬ t' = t := neq_of hne
 exact O_run rfl (fun _ h => by cases h) (w' := w) (v := .tuple #[z, .bool false]) (by
  simp only [execOp, Instr.typeAssert, hA.eval hy]
  cases ds <;> simp at hds <;> simp [run_underlying hu, Result.andThen, hn, hz]) (h _ (hA.put hd _))
theorem o_call {x : Operand} {xs : List Operand} {ats : Array TypeId} {f : FuncId} {vs : List Value} {v : Value} {R : World → Prop} (hA : Has D k a L) (hd : Nat.blt d k = true) (hf : ev L x = some (.func (.func f) #[] #[])) (hxs : evs L xs = some vs)
  (hcall : ∀ args w, (callFunc f args).run P w = .ok (.enter f args) w) (hc : Calls P f vs.toArray w fun e w' => e = .returned v ∧ R w') (h : ∀ w', R w' → ∀ a, Has D k a ((d, v) :: L) → O P r ops n p rest a w') :
  O P r ops n p (⟨some d, .call ⟨.value x, xs.toArray, ats⟩, ty, pos, af, none⟩ :: rest) a w := by
 refine O_enter rfl (fun _ h => by cases h) (run_call (first := #[]) (cap := #[]) hA hf hxs hcall) (by simpa using hc) ?_ ?_ ?_
 ·intro v' w' hv
  obtain ⟨e, hR⟩ := hv
  cases e
  exact h w' hR _ (hA.put hd _)
 ·intro ch w' hv; cases hv.1
 ·intro w' hv; cases hv.1
end
theorem w38 {M : Prop} {W : World} {H : Hp} (hH : H.le (hp W)) (hg : Gv M H) {ad_p0_ : Option Addr} {cap_p0_ : Nat} {p0_ : List Any} (h_p0_ : Sl (Flat encAny) 1 H ad_p0_ cap_p0_ p0_) {r : Bytes} (hr : m38 p0_ = some r) : Calls Tryz.prog 38 [.slice ad_p0_ p0_.length cap_p0_].toArray W (RetS M W (.string (bs r))) := by
 unfold m38 at hr
 obtain ⟨⟨hok, hlen⟩, hr⟩ := chk_some hr
 obtain rfl := Option.some.inj hr
 refine enter Tryz.func38 rfl Tryz.ntmps38 rfl ?_
 intro a hA
 refine W_seq (W_region (o_assign hA rfl rfl fun a hA => ?_))
 refine O_nil (W_seq (W_region (O_run rfl (fun _ h => by cases h) (w' := W.alloc (.cells #[.pointer none, .slice none 0 0] 143)) (v := .pointer (some ⟨W.heap.size, 0, none⟩)) (by simp [execOp, Instr.alloc, Tryz.zeroValue143, run_newVar, Value.cells]) ?_)))
 have hA1 := hA.put (d := 3) rfl (.pointer (some ⟨W.heap.size, 0, none⟩))
 have hB1 : Lib.IsBuilderF 143 5 W.heap.size W.heap.size (Lib.byteCells (spell (p0_.take 0))) (W.alloc (.cells #[.pointer none, .slice none 0 0] 143)) := (Lib.fresh_isBuilder 143 5 W).elim (fun h => .inl (.of h)) (fun h => .inr (.of h))
 have hW1 : Below W.heap.size W (W.alloc (.cells #[.pointer none, .slice none 0 0] 143)) := (Below.refl _ _).alloc (Nat.le_refl _) _
 generalize (a.put (some 3) (.pointer (some ⟨W.heap.size, 0, none⟩))) = a1 at hA1 ⊢
 generalize (W.alloc (.cells #[.pointer none, .slice none 0 0] 143)) = w1 at hB1 hW1 ⊢
 refine O_nil (W_seq (W_seq (W_region (o_move hA1 rfl rfl fun a hA => o_len hA rfl rfl Tryz.underlying139 fun a hA => o_move hA rfl rfl fun a hA => ?_))))
 refine O_nil (W_block (W_loop (fun j a w => ∃ i, i ≤ p0_.length ∧ j = p0_.length - i ∧ Has [] 35 a [(3, .pointer (some ⟨W.heap.size, 0, none⟩)), (10, .slice ad_p0_ p0_.length cap_p0_), (11, .int .i64 p0_.length), (12, .int .i64 i)] ∧ Lib.IsBuilderF 143 5 W.heap.size W.heap.size (Lib.byteCells (spell (p0_.take i))) w ∧ Below W.heap.size W w) (j := p0_.length) ⟨0, Nat.zero_le _, rfl, hA.cut ⟨rfl, rfl, rfl, rfl, trivial⟩, hB1, hW1⟩ ?_))
 rintro j a w ⟨i, hil, rfl, hA, hB, hW⟩
 have hll := h_p0_.len
 refine W_seq (W_region (o_lt hA rfl rfl rfl fun a hA => O_nil (W_seq (W_if hA rfl (fun hc => W_skip ?_) (fun hc => W_exit rfl ?_)))))
 ·have hi : i < p0_.length := by omega
  obtain ⟨x, hx⟩ : ∃ x, p0_[i]? = some x := ⟨_, List.getElem?_eq_getElem hi⟩
  have hxok := hok x (List.mem_of_getElem? hx)
  have hHw : H.le (hp w) := hH.trans (Ext.of_below hg.gl.nq hW).le
  have hlen2 : (spell (p0_.take (i + 1))).length ≤ 1073741824 := Nat.le_trans (spell_le _) hlen
  have hst := spell_take hx
  have hcnt : (spell (p0_.take i)).length + (anyB x).length ≤ 1073741824 := by rw [hst, List.length_append] at hlen2; exact hlen2
  have hBle : W.heap.size ≤ w.heap.size := hW.size
  refine W_seq (W_mono (n := fun a w' => Has [] 35 a [(3, .pointer (some ⟨W.heap.size, 0, none⟩)), (10, .slice ad_p0_ p0_.length cap_p0_), (11, .int .i64 p0_.length), (12, .int .i64 i)] ∧ Lib.BuilderAtF 143 5 W.heap.size W.heap.size (.pointer (some ⟨W.heap.size, 0, none⟩)) (Lib.byteCells (spell (p0_.take i)) ++ Lib.strCells (bs (anyB x))) w' ∧ Below W.heap.size W w') ?_ (fun _ _ h => h) (fun _ K _ _ hK h => ⟨K, hK, h⟩) (fun _ _ _ h => h) ?_)
  ·rintro a w' ⟨hA, hB, hW⟩
   exact W_region (o_add hA rfl rfl rfl (by omega) (by omega) fun a hA => o_move hA rfl rfl fun a hA => O_nil ⟨p0_.length - (i + 1), by omega, i + 1, by omega, rfl, hA.cut ⟨rfl, rfl, rfl, by simp [lk], trivial⟩, .inr (by rw [hst]; unfold Lib.byteCells at *; rw [List.map_append]; exact hB), hW⟩)
  refine W_block (W_seq (W_region (o_ia hA rfl rfl rfl Tryz.underlying139 Tryz.sizeOf20 (h_p0_.mono (Flat.mono _) hHw) rfl rfl hx fun q cs hq hcs hf a hA => o_load (v := anyV x) hA rfl rfl Tryz.isAgg20 hq (by rw [show cs = encAny x from hf]; rfl) fun a hA => o_assign hA rfl rfl fun a hA => O_nil ?_)))
  clear hf hq hcs
  cases x with
  | i z =>
   refine W_seq (W_region (o_move hA rfl rfl fun a hA => o_taY hA rfl Tryz.underlying3 rfl rfl fun a hA => o_move hA rfl rfl fun a hA => o_ext (vs := [.int .i64 z, .bool true]) hA rfl rfl rfl fun a hA => o_ext (vs := [.int .i64 z, .bool true]) hA rfl rfl rfl fun a hA => o_assign hA rfl rfl fun a hA => o_assign hA rfl rfl fun a hA => O_nil ?_))
   refine W_seq (W_region (o_move hA rfl rfl fun a hA => O_nil (W_cond hA rfl (fun _ => ?_) (fun h => by cases h))))
   refine W_region (o_move hA rfl rfl fun a hA => o_call (x := .func 58) (xs := [.tmp 22]) hA rfl rfl rfl Tryz.call58 (itoaC hHw hg z hxok.1 hxok.2) ?_)
   rintro w' ⟨k, os, rfl⟩ a hA
   have hb := below_grow w k os
   have hW' := hW.trans (hb.mono hBle)
   refine o_call (x := .func 57) (xs := [.tmp 3, .tmp 23]) hA rfl rfl rfl Tryz.call57 (Tryz.bWrite W.heap.size W.heap.size _ (bs (Lib.itoa z)) _ (isF_below hB hb) ?_ hW'.size) ?_
   ·rw [Lib.byteCells_length, bs_size]; have : (Lib.itoa z).length = (anyB (.i z)).length := rfl; omega
   rintro w' ⟨hB', hW2⟩ a hA
   exact O_nil ⟨hA.cut ⟨rfl, rfl, rfl, rfl, trivial⟩, hB', hW'.trans hW2⟩
  | s z =>
   refine W_seq (W_region (o_move hA rfl rfl fun a hA => o_taN hA rfl Tryz.underlying3 rfl Tryz.zeroValue3 rfl rfl fun a hA => o_move hA rfl rfl fun a hA => o_ext (vs := [.int .i64 0, .bool false]) hA rfl rfl rfl fun a hA => o_ext (vs := [.int .i64 0, .bool false]) hA rfl rfl rfl fun a hA => o_assign hA rfl rfl fun a hA => o_assign hA rfl rfl fun a hA => O_nil ?_))
   refine W_seq (W_region (o_move hA rfl rfl fun a hA => O_nil (W_cond hA rfl (fun h => by cases h) (fun _ => ?_))))
   refine W_seq (W_region (o_move hA rfl rfl fun a hA => o_taY hA rfl Tryz.underlying9 rfl rfl fun a hA => o_move hA rfl rfl fun a hA => o_ext (vs := [.string (bs z), .bool true]) hA rfl rfl rfl fun a hA => o_ext (vs := [.string (bs z), .bool true]) hA rfl rfl rfl fun a hA => o_assign hA rfl rfl fun a hA => o_assign hA rfl rfl fun a hA => O_nil ?_))
   refine W_seq (W_region (o_move hA rfl rfl fun a hA => O_nil (W_cond hA rfl (fun _ => ?_) (fun h => by cases h))))
   refine W_region (o_move hA rfl rfl fun a hA => o_call (x := .func 57) (xs := [.tmp 3, .tmp 31]) hA rfl rfl rfl Tryz.call57 (Tryz.bWrite W.heap.size W.heap.size _ (bs z) _ hB ?_ hBle) ?_)
   ·rw [Lib.byteCells_length, bs_size]; have : z.length = (anyB (.s z)).length := rfl; omega
   rintro w' ⟨hB', hW2⟩ a hA
   exact O_nil ⟨hA.cut ⟨rfl, rfl, rfl, rfl, trivial⟩, hB', hW.trans hW2⟩
 ·have hi : i = p0_.length := by omega
  subst hi
  rw [List.take_length] at hB
  refine W_seq (W_region (o_call (x := .func 59) (xs := [.tmp 3]) hA rfl rfl rfl Tryz.call59 (Any.Builder_String_any_f Tryz.lays169 Tryz.Builder_Extra_169 W.heap.size W.heap.size (spell p0_) w hB hW.size) ?_))
  rintro w' ⟨hB', hW'⟩ a hA
  refine o_assign hA rfl rfl fun a hA => O_nil (W_ret (ret1 hA rfl rfl ?_))
  exact ⟨rfl, Ext.of_below hg.gl.nq (hW.trans hW')⟩
end T10
namespace T10
open Go Go.Proofs Pk
structure Paragraph where
 anchor : Int
 text : Bytes
 deriving DecidableEq, Inhabited
def encParagraph (x : Paragraph) : List Value := [.int .i64 x.anchor, .string (bs x.text)]
structure Part where
 day : Int
 paragraphs : List Paragraph
 deriving DecidableEq, Inhabited
def RPart : Hp → List Value → Part → Prop := fun H cs x => ∃ (ad0 : Option Addr) (cap0 : Nat), cs = [.int .i64 x.day, .slice ad0 x.paragraphs.length cap0] ∧ Sl (Flat encParagraph) 2 H ad0 cap0 x.paragraphs
theorem RPart.mono : Mono RPart := fun _ _ _ _ hk ⟨a0, c0, h, f0⟩ => ⟨a0, c0, h, f0.mono (Flat.mono _) hk⟩
structure Volume where
 number : Int
 bound : Int
 height : Int
 width : Int
 parts : List Part
 deriving DecidableEq, Inhabited
def RVolume : Hp → List Value → Volume → Prop := fun H cs x => ∃ (ad0 : Option Addr) (cap0 : Nat), cs = [.int .i64 x.number, .int .i64 x.bound, .int .i64 x.height, .int .i64 x.width, .slice ad0 x.parts.length cap0] ∧ Sl (RPart) 2 H ad0 cap0 x.parts
theorem RVolume.mono : Mono RVolume := fun _ _ _ _ hk ⟨a0, c0, h, f0⟩ => ⟨a0, c0, h, f0.mono (RPart.mono) hk⟩
structure Erratum where
 number : Int
 day : Int
 kind : Int
 anchor : Int
 text : Bytes
 new_ : Int
 deriving DecidableEq, Inhabited
def encErratum (x : Erratum) : List Value := [.int .i64 x.number, .int .i64 x.day, .int .u8 x.kind, .int .i64 x.anchor, .string (bs x.text), .int .i64 x.new_]
structure entry where
 paragraph : Paragraph
 removed : Bool
 deriving DecidableEq, Inhabited
def encentry (x : entry) : List Value := [.int .i64 x.paragraph.anchor, .string (bs x.paragraph.text), .bool x.removed]
structure edition where
 volume : Volume
 parts : List (List entry)
 deriving DecidableEq, Inhabited
def Redition : Hp → List Value → edition → Prop := fun H cs x => ∃ (ad0 : Option Addr) (cap0 : Nat) (ad1 : Option Addr) (cap1 : Nat), cs = [.int .i64 x.volume.number, .int .i64 x.volume.bound, .int .i64 x.volume.height, .int .i64 x.volume.width, .slice ad0 x.volume.parts.length cap0, .slice ad1 x.parts.length cap1] ∧ Sl (RPart) 2 H ad0 cap0 x.volume.parts ∧ Sl (RSl (Flat encentry) 3) 1 H ad1 cap1 x.parts
structure Place where
 anchor : Int
 column : Int
 line : Int
 lines : Int
 deriving DecidableEq, Inhabited
def encPlace (x : Place) : List Value := [.int .i64 x.anchor, .int .i64 x.column, .int .i64 x.line, .int .i64 x.lines]
structure printed where
 place : Place
 day : Int
 number : Int
 deriving DecidableEq, Inhabited
def encprinted (x : printed) : List Value := [.int .i64 x.place.anchor, .int .i64 x.place.column, .int .i64 x.place.line, .int .i64 x.place.lines, .int .i64 x.day, .int .i64 x.number]
structure A3_Int where
 e0 : Int
 e1 : Int
 e2 : Int
 deriving DecidableEq, Inhabited
structure cited where
 style : Int
 numbers : A3_Int
 deriving DecidableEq, Inhabited
def enccited (x : cited) : List Value := [.int .u8 x.style, .int .i64 x.numbers.e0, .int .i64 x.numbers.e1, .int .i64 x.numbers.e2]
structure Entry where
 paragraph : Paragraph
 part : Int
 removed : Bool
 deriving DecidableEq, Inhabited
theorem mixed : Tryz.prog.follows .mixedOrders = true := by kernel_rfl
theorem B37 : BuildAt Tryz.prog 37 [.int .i64 0, .int .i64 0, .int .i64 0, .int .i64 0, .slice none 0 0] #[(0, 1), (1, 1), (2, 1), (3, 1), (4, 1)] := ⟨⟨.agg [.int .i64 0, .int .i64 0, .int .i64 0, .int .i64 0, .slice none 0 0].toArray, rfl, Tryz.zeroValue37⟩, ⟨_, Tryz.underlying37, fun _ => by kernel_rfl⟩⟩
theorem B63 : BuildAt Tryz.prog 63 [.int .i64 0, .int .i64 0, .int .i64 0, .int .i64 0] #[(0, 1), (1, 1), (2, 1), (3, 1)] := ⟨⟨.agg [.int .i64 0, .int .i64 0, .int .i64 0, .int .i64 0].toArray, rfl, Tryz.zeroValue63⟩, ⟨_, Tryz.underlying63, fun _ => by kernel_rfl⟩⟩
theorem B67 : BuildAt Tryz.prog 67 [.int .i64 0, .string (bs [])] #[(0, 1), (1, 1)] := ⟨⟨.agg [.int .i64 0, .string (bs [])].toArray, rfl, Tryz.zeroValue67⟩, ⟨_, Tryz.underlying67, fun _ => by kernel_rfl⟩⟩
theorem B69 : BuildArr Tryz.prog 69 3 [.int .i64 0, .int .i64 0, .int .i64 0] 1 := ⟨⟨.agg [.int .i64 0, .int .i64 0, .int .i64 0].toArray, rfl, Tryz.zeroValue69⟩, ⟨_, Tryz.underlying69⟩, Tryz.sizeOf3⟩
theorem B77 : BuildAt Tryz.prog 77 [.int .i64 0, .int .i64 0, .int .u8 0, .int .i64 0, .string (bs []), .int .i64 0] #[(0, 1), (1, 1), (2, 1), (3, 1), (4, 1), (5, 1)] := ⟨⟨.agg [.int .i64 0, .int .i64 0, .int .u8 0, .int .i64 0, .string (bs []), .int .i64 0].toArray, rfl, Tryz.zeroValue77⟩, ⟨_, Tryz.underlying77, fun _ => by kernel_rfl⟩⟩
theorem B79 : BuildAt Tryz.prog 79 [.int .i64 0, .slice none 0 0] #[(0, 1), (1, 1)] := ⟨⟨.agg [.int .i64 0, .slice none 0 0].toArray, rfl, Tryz.zeroValue79⟩, ⟨_, Tryz.underlying79, fun _ => by kernel_rfl⟩⟩
theorem B90 : BuildAt Tryz.prog 90 [.int .i64 0, .int .i64 0, .int .i64 0, .int .i64 0, .slice none 0 0, .slice none 0 0] #[(0, 5), (5, 1)] := ⟨⟨.agg [.int .i64 0, .int .i64 0, .int .i64 0, .int .i64 0, .slice none 0 0, .slice none 0 0].toArray, rfl, Tryz.zeroValue90⟩, ⟨_, Tryz.underlying90, fun _ => by kernel_rfl⟩⟩
theorem B95 : BuildAt Tryz.prog 95 [.int .i64 0, .string (bs []), .bool false] #[(0, 2), (2, 1)] := ⟨⟨.agg [.int .i64 0, .string (bs []), .bool false].toArray, rfl, Tryz.zeroValue95⟩, ⟨_, Tryz.underlying95, fun _ => by kernel_rfl⟩⟩
theorem B103 : BuildAt Tryz.prog 103 [.int .i64 0, .int .i64 0, .int .i64 0, .int .i64 0, .int .i64 0, .int .i64 0] #[(0, 4), (4, 1), (5, 1)] := ⟨⟨.agg [.int .i64 0, .int .i64 0, .int .i64 0, .int .i64 0, .int .i64 0, .int .i64 0].toArray, rfl, Tryz.zeroValue103⟩, ⟨_, Tryz.underlying103, fun _ => by kernel_rfl⟩⟩
theorem B106 : BuildAt Tryz.prog 106 [.int .u8 0, .int .i64 0, .int .i64 0, .int .i64 0] #[(0, 1), (1, 3)] := ⟨⟨.agg [.int .u8 0, .int .i64 0, .int .i64 0, .int .i64 0].toArray, rfl, Tryz.zeroValue106⟩, ⟨_, Tryz.underlying106, fun _ => by kernel_rfl⟩⟩
theorem B136 : BuildAt Tryz.prog 136 [.nilFunc] #[(0, 1)] := ⟨⟨.agg [.nilFunc].toArray, rfl, Tryz.zeroValue136⟩, ⟨_, Tryz.underlying136, fun _ => by kernel_rfl⟩⟩
theorem B153 : BuildAt Tryz.prog 153 [.string (bs [])] #[(0, 1)] := ⟨⟨.agg [.string (bs [])].toArray, rfl, Tryz.zeroValue153⟩, ⟨_, Tryz.underlying153, fun _ => by kernel_rfl⟩⟩
theorem E31 : ElemAt Tryz.prog 31 67 [.int .i64 0, .string (bs [])] 2 24 := ⟨Tryz.underlying31, ⟨_, .agg [.int .i64 0, .string (bs [])].toArray, info_of Tryz.type67, rfl, rfl, rfl, rfl⟩, rfl, by decide⟩
theorem E35 : ElemAt Tryz.prog 35 79 [.int .i64 0, .slice none 0 0] 2 32 := ⟨Tryz.underlying35, ⟨_, .agg [.int .i64 0, .slice none 0 0].toArray, info_of Tryz.type79, rfl, rfl, rfl, rfl⟩, rfl, by decide⟩
theorem E39 : ElemAt Tryz.prog 39 77 [.int .i64 0, .int .i64 0, .int .u8 0, .int .i64 0, .string (bs []), .int .i64 0] 6 56 := ⟨Tryz.underlying39, ⟨_, .agg [.int .i64 0, .int .i64 0, .int .u8 0, .int .i64 0, .string (bs []), .int .i64 0].toArray, info_of Tryz.type77, rfl, rfl, rfl, rfl⟩, rfl, by decide⟩
theorem E42 : ElemAt Tryz.prog 42 63 [.int .i64 0, .int .i64 0, .int .i64 0, .int .i64 0] 4 32 := ⟨Tryz.underlying42, ⟨_, .agg [.int .i64 0, .int .i64 0, .int .i64 0, .int .i64 0].toArray, info_of Tryz.type63, rfl, rfl, rfl, rfl⟩, rfl, by decide⟩
theorem E59 : ElemAt Tryz.prog 59 3 [.int .i64 0] 1 8 := ⟨Tryz.underlying59, ⟨_, .int .i64 0, info_of Tryz.type3, rfl, rfl, rfl, rfl⟩, rfl, by decide⟩
theorem E88 : ElemAt Tryz.prog 88 93 [.slice none 0 0] 1 24 := ⟨Tryz.underlying88, ⟨_, .slice none 0 0, info_of Tryz.type93, rfl, rfl, rfl, rfl⟩, rfl, by decide⟩
theorem E93 : ElemAt Tryz.prog 93 95 [.int .i64 0, .string (bs []), .bool false] 3 32 := ⟨Tryz.underlying93, ⟨_, .agg [.int .i64 0, .string (bs []), .bool false].toArray, info_of Tryz.type95, rfl, rfl, rfl, rfl⟩, rfl, by decide⟩
theorem E100 : ElemAt Tryz.prog 100 103 [.int .i64 0, .int .i64 0, .int .i64 0, .int .i64 0, .int .i64 0, .int .i64 0] 6 48 := ⟨Tryz.underlying100, ⟨_, .agg [.int .i64 0, .int .i64 0, .int .i64 0, .int .i64 0, .int .i64 0, .int .i64 0].toArray, info_of Tryz.type103, rfl, rfl, rfl, rfl⟩, rfl, by decide⟩
theorem E137 : ElemAt Tryz.prog 137 136 [.nilFunc] 1 8 := ⟨Tryz.underlying137, ⟨_, .agg [.nilFunc].toArray, info_of Tryz.type136, rfl, rfl, rfl, rfl⟩, rfl, by decide⟩
theorem E139 : ElemAt Tryz.prog 139 20 [.nilIface] 1 16 := ⟨Tryz.underlying139, ⟨_, .nilIface, info_of Tryz.type20, rfl, rfl, rfl, rfl⟩, rfl, by decide⟩
theorem E156 : ElemAt Tryz.prog 156 39 [.slice none 0 0] 1 24 := ⟨Tryz.underlying156, ⟨_, .slice none 0 0, info_of Tryz.type39, rfl, rfl, rfl, rfl⟩, rfl, by decide⟩
theorem Q63 : EqAt Tryz.prog 63 encPlace := ⟨fun x y w => by
 have h0 : Tryz.prog.underlying 63 = some (.struct (Tryz.prog.fieldsOf 63)) := by kernel_rfl
 rw [run_equalIn_struct w 9999 63 _ _ h0 (by kernel_rfl)]
 simp only [Program.fieldsOf, Tryz.underlying63]
 have e : (x = y) = (x.anchor = y.anchor ∧ x.column = y.column ∧ x.line = y.line ∧ x.lines = y.lines) := by cases x; cases y; simp
 simp only [e]
 simp [Op.eqFields, encPlace, part, Tryz.isAgg3, eqI9 Tryz.underlying3, eqI9 Tryz.underlying3, eqI9 Tryz.underlying3, eqI9 Tryz.underlying3]
 by_cases h0 : x.anchor = y.anchor <;> by_cases h1 : x.column = y.column <;> by_cases h2 : x.line = y.line <;> by_cases h3 : x.lines = y.lines <;> simp [h0, h1, h2, h3], by kernel_rfl⟩
theorem Q67 : EqAt Tryz.prog 67 encParagraph := ⟨fun x y w => by
 have h0 : Tryz.prog.underlying 67 = some (.struct (Tryz.prog.fieldsOf 67)) := by kernel_rfl
 rw [run_equalIn_struct w 9999 67 _ _ h0 (by kernel_rfl)]
 simp only [Program.fieldsOf, Tryz.underlying67]
 have e : (x = y) = (x.anchor = y.anchor ∧ x.text = y.text) := by cases x; cases y; simp
 simp only [e]
 simp [Op.eqFields, encParagraph, part, Tryz.isAgg3, Tryz.isAgg9, eqI9 Tryz.underlying3, eqS9 Tryz.underlying9]
 by_cases h0 : x.anchor = y.anchor <;> by_cases h1 : x.text = y.text <;> simp [h0, h1], by kernel_rfl⟩
theorem Q77 : EqAt Tryz.prog 77 encErratum := ⟨fun x y w => by
 have h0 : Tryz.prog.underlying 77 = some (.struct (Tryz.prog.fieldsOf 77)) := by kernel_rfl
 rw [run_equalIn_struct w 9999 77 _ _ h0 (by kernel_rfl)]
 simp only [Program.fieldsOf, Tryz.underlying77]
 have e : (x = y) = (x.number = y.number ∧ x.day = y.day ∧ x.kind = y.kind ∧ x.anchor = y.anchor ∧ x.text = y.text ∧ x.new_ = y.new_) := by cases x; cases y; simp
 simp only [e]
 simp [Op.eqFields, encErratum, part, Tryz.isAgg3, Tryz.isAgg5, Tryz.isAgg9, eqI9 Tryz.underlying3, eqI9 Tryz.underlying3, eqI9 Tryz.underlying5, eqI9 Tryz.underlying3, eqS9 Tryz.underlying9, eqI9 Tryz.underlying3]
 by_cases h0 : x.number = y.number <;> by_cases h1 : x.day = y.day <;> by_cases h2 : x.kind = y.kind <;> by_cases h3 : x.anchor = y.anchor <;> by_cases h4 : x.text = y.text <;> by_cases h5 : x.new_ = y.new_ <;> simp [h0, h1, h2, h3, h4, h5], by kernel_rfl⟩
end T10
set_option maxHeartbeats 4000000
namespace T10
open Go Go.Proofs Pk Go.RowKit
theorem read_idle (p q : Addr) (w : World) : CallsD Tryz.prog 60 #[.pointer (some p), .pointer (some q)] .returning w fun e u' w' => e = .returned (.tuple #[]) ∧ u' = .returning ∧ w' = w := by
 refine callsD_of_wpS Tryz.func60 rfl fun c₀ cs hu => ?_
 apply wpS_seq
 apply wpS_region
 simp [wpOpsS, go_sem, recoverD, hu, Tryz.ntmps60, Exit.thenS]
 apply wpS_seq
 apply wpS_seq
 apply wpS_region
 simp [wpOpsS, go_sem, Exit.thenS]
 refine wpS_cond (t := true) (by simp [Act.eval, Array.replicate]) ?_
 simp only [if_true]
 refine wpS_of_wp (wp_ret ?_)
 cases c₀
 simp_all [Exit.thenS, bodyPostS, results, Tryz.results60]
section
variable {P : Program} {f : FuncId} {fn : Func} {c : Code} {nt : Nat} {w : World} {R : Ending → World → Prop}
theorem enterD {l : List Value} (hf : P.funcs[f]? = some fn) (hb : fn.body = some c) (hn : fn.ntmps = nt) (hl : Nat.ble l.length nt = true)
  (h : ∀ a, Has [] nt a (envOf 0 l) → Pk.W P none c (fun _ _ => False) (fun a w => Leaves P fn a.tmps R a.defers .returning w) [] (fun _ _ _ => False) a w) : Calls P f l.toArray w R := by
 have hl' : l.length ≤ nt := by simpa using hl
 have h1 := h { tmps := l.toArray ++ Array.replicate (fn.ntmps - l.toArray.size) undef, defers := [] } ⟨rfl, by simp [hn]; omega, fun i v hi => by
  obtain ⟨_, h2⟩ := lk_envOf l 0 i v hi
  simp only [Nat.sub_zero] at h2
  have hlt : i < l.length := (List.getElem?_eq_some_iff.1 h2).1
  rw [Array.getElem?_append_left (by simpa using hlt)]
  simpa using h2⟩
 refine calls_of_wp_defers hf hb ((wpIn_wide (n := 0)).1 (wpIn_mono h1 ?_))
 intro z a w hz
 cases z with
 | normal => exact hz.elim
 | ret => exact hz
 | panic ch => exact hz.elim
 | exit id => obtain ⟨K, hK, _⟩ := hz; simp [lkE] at hK
 | goto l => exact hz
 | outgrown => exact hz.elim
variable {n : Cont} {p : List PanicEntry → Cont} {a : Act} {D : List Deferred} {k : Nat} {L : Env} {ops : Array Oper} {rest : List Oper} {ty : TypeId} {pos : String} {af : Array Edge}
theorem o_defer {x : Operand} {g : FuncId} {us vs : Array Value} (hA : Has D k a L) (hx : ev L x = some (.func (.func g) us vs)) (h : ∀ a, Has (⟨.fn (.func g) vs, us⟩ :: D) k a L → O P none ops n p rest a w) : O P none ops n p (⟨none, .defer ⟨.value x, #[], #[]⟩, ty, pos, af, none⟩ :: rest) a w := by
 simp only [O, Region.wanted, if_true]
 refine ⟨fun _ _ => trivial, ?_⟩
 rw [show (FW none).round = none from rfl, Oper.semAt_none]
 have hr : (execOp a.eval ⟨none, .defer ⟨.value x, #[], #[]⟩, ty, pos, af, none⟩).run P w = .ok (.defer ⟨.fn (.func g) vs, us⟩) w := by
  simp [execOp, resolve, hA.eval hx, Deferred.ofValue]
 rw [hr]
 show O P none ops n p rest _ w
 refine h _ ⟨?_, ?_, ?_⟩
 ·simp [Act.put, hA.defers]
 ·simpa [Act.put] using hA.size
 ·intro i v hi; simpa [Act.put] using hA.get i v hi
end
theorem read39 {M : Prop} {W : World} {H : Hp} (hH : H.le (hp W)) (s : Bytes) (c : cited) (hc : ∀ (w : World) (K : Hp), K.le (hp w) → H.le K → Calls Tryz.prog 61 [.string (bs s)].toArray w (RetS M w (.agg (enccited c).toArray))) : Calls Tryz.prog 39 [.string (bs s)].toArray W (RetS M W (.tuple [.agg (enccited c).toArray, .bool true].toArray)) := by
 refine enterD Tryz.func39 rfl Tryz.ntmps39 rfl ?_
 intro a hA
 have hS := St.start M W hH
 refine W_seq (W_region (o_alloc 1 hA rfl hS Tryz.zeroValue106 rfl fun b w hS hb a hA => o_alloc 2 hA rfl hS Tryz.zeroValue4 rfl fun b2 w hS hb2 a hA => O_nil ?_))
 refine W_seq (W_region (o_func (f := .func 60) (xs := []) (ys := [.tmp 2, .tmp 3]) hA rfl rfl rfl fun a hA => o_defer hA rfl fun a hA => O_nil ?_))
 refine W_seq (W_region (o_move hA rfl rfl fun a hA => o_callS (x := .func 61) (xs := [.tmp 5]) hA rfl hS rfl rfl Tryz.call61 rfl (hc _ _ hS.vis_le (hS.at 0 rfl)) fun w hS a hA => ?_))
 refine o_store 1 (cs := enccited c) hA hS rfl rfl Tryz.sizeOf106 rfl rfl rfl rfl rfl fun w hS a hA => ?_
 refine o_store 2 (cs := [.bool true]) hA hS rfl rfl Tryz.sizeOf4 rfl rfl rfl rfl rfl fun w hS a hA => O_nil (W_ret ?_)
 rw [hA.defers]
 refine leaves_cons (f := 60) (args := #[.pointer (some ⟨b, 0, none⟩), .pointer (some ⟨b2, 0, none⟩)]) (by simp) (by simp [go_sem]) ?_
 refine (read_idle ⟨b, 0, none⟩ ⟨b2, 0, none⟩ w).mono ?_
 rintro e u' w'' ⟨rfl, rfl, rfl⟩
 show ∃ v, (results Tryz.f39 a.tmps).run Tryz.prog w'' = .ok v w'' ∧ RetS M W (.tuple [.agg (enccited c).toArray, .bool true].toArray) (.returned v) w''
 have h2 := hA.tmp (i := 2) rfl
 have h3 := hA.tmp (i := 3) rfl
 have c1 : CellsAt (hp w'') ⟨b, 0, none⟩ (enccited c) := cell_at (hS.get (t := 1) rfl)
 have c2 : CellsAt (hp w'') ⟨b2, 0, none⟩ [.bool true] := cell_at (hS.get (t := 2) rfl)
 have l1 : (loadVar 106 ⟨b, 0, none⟩).run Tryz.prog w'' = .ok (.agg (enccited c).toArray) w'' := by
  have h0 : (loadCells ⟨b, 0, none⟩ (enccited c).length).run Tryz.prog w'' = .ok (enccited c).toArray w'' := run_loadCells_list (P := Tryz.prog) (w := w'') _ (enccited c) (fun j v hv => c1.cell hv)
  have h1 : (enccited c).length = 4 := rfl
  rw [h1] at h0
  simp [loadVar, Tryz.isAgg106, Tryz.sizeOf106, h0]
 have l2 : (loadVar 4 ⟨b2, 0, none⟩).run Tryz.prog w'' = .ok (.bool true) w'' := by
  have h0 := c2.cell (j := 0) rfl
  rw [show (⟨b2, 0, none⟩ : Addr).add 0 = ⟨b2, 0, none⟩ from rfl] at h0
  simp [loadVar, Tryz.isAgg4, h0]
 refine ⟨_, ?_, rfl, hS.ext⟩
 rw [Array.getD_eq_getD_getElem?] at h2 h3
 simp [results, Tryz.results39, h2, h3, l1, l2, asAddr]
end T10
set_option maxHeartbeats 4000000
namespace T10
open Go Go.Proofs Pk Go.RowKit
section
variable {P : Program} {r : Option Nat} {n : Cont} {p : List PanicEntry → Cont} {a : Act} {w : World} {D : List Deferred} {k : Nat} {L : Env} {ops : Array Oper} {rest : List Oper} {d : Nat} {ty : TypeId} {pos : String} {af : Array Edge}
theorem o_eqN {y : Operand} {t u te : TypeId} {pe : Value} {ms : _} (hA : Has D k a L) (hu' : P.underlying t = some (.interface ms)) (hd : Nat.blt d k = true) (hy : ev L y = some (.iface te pe)) (h : ∀ a, Has D k a ((d, .bool false) :: L) → O P r ops n p rest a w) : O P r ops n p (⟨some d, .binOp .eql t y (.const .nilIface) u, ty, pos, af, none⟩ :: rest) a w := by
 have hu : P.underlying t = some (.interface (P.methodsAt t)) := by rw [hu']; simp [Program.methodsAt, hu']
 refine O_run rfl (fun _ h => by cases h) (w' := w) (v := .bool false) ?_ (h _ (hA.put hd _))
 simp [execOp, hA.eval hy, show a.eval (.const .nilIface) = .nilIface from rfl, eqGuard, run_eql_held_nil w t _ _ hu, Result.andThen]
end
theorem read_back {M : Prop} {W w : World} {H : Hp} {b b2 : Nat} {s : Bytes} (hS : St M W H [H] [(2, cel b2 4 [.bool false]), (1, cel b 106 [.int .u8 0, .int .i64 0, .int .i64 0, .int .i64 0])] w) :
  CallsD Tryz.prog 60 #[.pointer (some ⟨b, 0, none⟩), .pointer (some ⟨b2, 0, none⟩)] (.panicking (thr (.iface 153 (.agg [.string (bs s)].toArray)))) w fun e u' w' => e = .returned (.tuple #[]) ∧ u' = .panicking [{ v := .iface 153 (.agg [.string (bs s)].toArray), recovered := true }] ∧
   ∃ b3 cs3, St M W H [H] [(3, cel b3 153 cs3), (2, cel b2 4 [.bool false]), (1, cel b 106 (enccited ⟨0, ⟨0, 0, 0⟩⟩))] w' := by
 refine callsD_of_wpS Tryz.func60 rfl fun c₀ cs hu => ?_
 apply wpS_seq
 apply wpS_region
 obtain ⟨v, hv⟩ : ∃ v : Value, v = .agg [.string (bs s)].toArray := ⟨_, rfl⟩
 rw [← hv] at hu ⊢
 simp [wpOpsS, go_sem, recoverD, hu, Tryz.ntmps60, Exit.thenS, thr]
 refine wpS_of_wp ?_
 refine (wpIn_wide (n := 0)).1 (wpIn_mono (show Pk.W Tryz.prog none _ (fun a w => a.defers = [] ∧ ∃ b3 cs3, St M W H [H] [(3, cel b3 153 cs3), (2, cel b2 4 [.bool false]), (1, cel b 106 (enccited ⟨0, ⟨0, 0, 0⟩⟩))] w) (fun _ _ => False) [] (fun _ _ _ => False) _ w from ?_) ?_)
 ·have hA : Has [] 17 { tmps := #[.pointer (some ⟨b, 0, none⟩), .pointer (some ⟨b2, 0, none⟩)] ++ ((Array.replicate 15 undef).setIfInBounds 3 (.iface 153 v)).setIfInBounds 0 (.iface 153 v), defers := [] } [(0, .pointer (some ⟨b, 0, none⟩)), (1, .pointer (some ⟨b2, 0, none⟩)), (2, .iface 153 v)] := by
   refine ⟨rfl, by simp, fun i u h => ?_⟩
   rcases i with _ | _ | _ | i
   ·exact h
   ·exact h
   ·exact h
   ·cases (show (none : Option Value) = some u from h)
  revert hA
  generalize ({ tmps := _, defers := [] } : Act) = a
  intro hA
  subst hv
  refine W_seq (W_seq (W_region ?_))
  refine o_move hA rfl rfl fun a hA => ?_
  refine o_eqN hA Tryz.underlying20 rfl rfl fun a hA => O_nil (W_cond hA rfl (fun h => by cases h) (fun _ => W_skip ?_))
  refine W_seq (W_seq (W_region (o_move hA rfl rfl fun a hA => o_taY hA rfl Tryz.underlying153 rfl rfl fun a hA => o_move hA rfl rfl fun a hA => o_ext (vs := [.agg [.string (bs s)].toArray, .bool true]) hA rfl rfl rfl fun a hA => o_ext (vs := [.agg [.string (bs s)].toArray, .bool true]) hA rfl rfl rfl fun a hA => o_alloc 3 hA rfl hS Tryz.zeroValue153 rfl fun b3 w hS hb a hA => ?_)))
  refine o_store 3 (cs := [.string (bs s)]) hA hS rfl rfl Tryz.sizeOf153 rfl rfl rfl rfl rfl fun w hS a hA => o_assign hA rfl rfl fun a hA => O_nil ?_
  refine W_seq (W_region (o_move hA rfl rfl fun a hA => o_not hA rfl rfl fun a hA => O_nil (W_cond hA rfl (fun h => by cases h) (fun _ => W_skip ?_))))
  refine W_region (o_build (cs := enccited ⟨0, ⟨0, 0, 0⟩⟩) hA rfl T10.B106 rfl rfl fun a hA => ?_)
  refine o_store 1 (cs := enccited ⟨0, ⟨0, 0, 0⟩⟩) hA hS rfl rfl Tryz.sizeOf106 rfl rfl rfl rfl rfl fun w hS a hA => ?_
  refine o_store 2 (cs := [.bool false]) hA hS rfl rfl Tryz.sizeOf4 rfl rfl rfl rfl rfl fun w hS a hA => O_nil ?_
  exact ⟨hA.defers, b3, _, hS⟩
 ·intro z a w' hz
  cases z with
  | normal =>
   obtain ⟨hd, h⟩ := hz
   subst hv
   exact ⟨hd, .panicking [{ v := .iface 153 (.agg [.string (bs s)].toArray), recovered := true }], rfl, .tuple #[], by simp [results, Tryz.results60], rfl, rfl, h⟩
  | ret => exact hz.elim
  | panic ch => exact hz.elim
  | exit id => obtain ⟨K, hK, _⟩ := hz; simp [lkE] at hK
  | goto l => exact hz
  | outgrown => exact hz.elim
section
variable {P : Program} {f : FuncId} {fn : Func} {c : Code} {nt : Nat} {w : World} {R : Ending → World → Prop}
theorem enterDT {l : List Value} (hf : P.funcs[f]? = some fn) (hb : fn.body = some c) (hn : fn.ntmps = nt) (hl : Nat.ble l.length nt = true)
  (h : ∀ a, Has [] nt a (envOf 0 l) → Pk.W P none c (fun _ _ => False) (fun a w => Leaves P fn a.tmps R a.defers .returning w) [] (fun ch a w => Leaves P fn a.tmps R a.defers (.panicking ch) w) a w) : Calls P f l.toArray w R := by
 have hl' : l.length ≤ nt := by simpa using hl
 have h1 := h { tmps := l.toArray ++ Array.replicate (fn.ntmps - l.toArray.size) undef, defers := [] } ⟨rfl, by simp [hn]; omega, fun i v hi => by
  obtain ⟨_, h2⟩ := lk_envOf l 0 i v hi
  simp only [Nat.sub_zero] at h2
  have hlt : i < l.length := (List.getElem?_eq_some_iff.1 h2).1
  rw [Array.getElem?_append_left (by simpa using hlt)]
  simpa using h2⟩
 refine calls_of_wp_defers hf hb ((wpIn_wide (n := 0)).1 (wpIn_mono h1 ?_))
 intro z a w hz
 cases z with
 | normal => exact hz.elim
 | ret => exact hz
 | panic ch => exact hz
 | exit id => obtain ⟨K, hK, _⟩ := hz; simp [lkE] at hK
 | goto l => exact hz
 | outgrown => exact hz.elim
end
theorem readT {M : Prop} {W : World} {H : Hp} (hH : H.le (hp W)) (s : Bytes) (hc : ∀ (w : World) (K : Hp), K.le (hp w) → H.le K → Calls Tryz.prog 61 [.string (bs s)].toArray w (RetT M w (fun c => .agg (enccited c).toArray) (.iface 153 (.agg [.string (bs s)].toArray)) (.inr ()))) : Calls Tryz.prog 39 [.string (bs s)].toArray W (RetS M W (.tuple [.agg (enccited ⟨0, ⟨0, 0, 0⟩⟩).toArray, .bool false].toArray)) := by
 refine enterDT Tryz.func39 rfl Tryz.ntmps39 rfl ?_
 intro a hA
 have hS := St.start M W hH
 refine W_seq (W_region (o_alloc 1 hA rfl hS Tryz.zeroValue106 rfl fun b w hS hb a hA => o_alloc 2 hA rfl hS Tryz.zeroValue4 rfl fun b2 w hS hb2 a hA => O_nil ?_))
 refine W_seq (W_region (o_func (f := .func 60) (xs := []) (ys := [.tmp 2, .tmp 3]) hA rfl rfl rfl fun a hA => o_defer hA rfl fun a hA => O_nil ?_))
 refine W_seq (W_region (o_move hA rfl rfl fun a hA => ?_))
 have hcc := hc w _ hS.vis_le (hS.at 0 rfl)
 refine O_enter rfl (fun _ h => by cases h) (run_call (xs := [.tmp 5]) (first := #[]) (cap := #[]) hA (x := .func 61) rfl rfl Tryz.call61) (by simpa using hcc) ?_ ?_ ?_
 ·rintro v w' ⟨h, _⟩; cases h
 ·rintro ch w' ⟨h, hE⟩
  cases h
  have hS2 := hS.ext' hE
  rw [hA.defers]
  refine leaves_cons (f := 60) (args := #[.pointer (some ⟨b, 0, none⟩), .pointer (some ⟨b2, 0, none⟩)]) (by simp) (by simp [go_sem]) ?_
  refine (read_back (s := s) hS2).mono ?_
  rintro e u' w'' ⟨rfl, rfl, b3, cs3, hS3⟩
  show ∃ v, (results Tryz.f39 a.tmps).run Tryz.prog w'' = .ok v w'' ∧ RetS M W (.tuple [.agg (enccited ⟨0, ⟨0, 0, 0⟩⟩).toArray, .bool false].toArray) (.returned v) w''
  have h2 := hA.tmp (i := 2) rfl
  have h3 := hA.tmp (i := 3) rfl
  have c1 : CellsAt (hp w'') ⟨b, 0, none⟩ (enccited ⟨0, ⟨0, 0, 0⟩⟩) := cell_at (hS3.get (t := 1) rfl)
  have c2 : CellsAt (hp w'') ⟨b2, 0, none⟩ [.bool false] := cell_at (hS3.get (t := 2) rfl)
  have l1 : (loadVar 106 ⟨b, 0, none⟩).run Tryz.prog w'' = .ok (.agg (enccited ⟨0, ⟨0, 0, 0⟩⟩).toArray) w'' := by
   have h0 : (loadCells ⟨b, 0, none⟩ (enccited ⟨0, ⟨0, 0, 0⟩⟩).length).run Tryz.prog w'' = .ok (enccited ⟨0, ⟨0, 0, 0⟩⟩).toArray w'' := run_loadCells_list (P := Tryz.prog) (w := w'') _ (enccited ⟨0, ⟨0, 0, 0⟩⟩) (fun j v hv => c1.cell hv)
   have h1 : (enccited ⟨0, ⟨0, 0, 0⟩⟩).length = 4 := rfl
   rw [h1] at h0
   simp [loadVar, Tryz.isAgg106, Tryz.sizeOf106, h0]
  have l2 : (loadVar 4 ⟨b2, 0, none⟩).run Tryz.prog w'' = .ok (.bool false) w'' := by
   have h0 := c2.cell (j := 0) rfl
   rw [show (⟨b2, 0, none⟩ : Addr).add 0 = ⟨b2, 0, none⟩ from rfl] at h0
   simp [loadVar, Tryz.isAgg4, h0]
  refine ⟨_, ?_, rfl, hS3.ext⟩
  rw [Array.getD_eq_getD_getElem?] at h2 h3
  simp [results, Tryz.results39, h2, h3, l1, l2, asAddr]
 ·rintro w' ⟨h, _⟩; cases h
end T10
namespace Go.Proofs
open Go Go.Shelf Go.RowKit Pk
theorem hp_cells {w : World} {q : Addr} {vs : List Value} (h : CellsAt (hp w) q vs) (hv : 0 < vs.length) : ∃ cs t z, w.heap[q.block]? = some (.cells cs t z) ∧ cs.size ≠ 0 := by
 obtain ⟨c, t, z, h3, h4⟩ := h.2 0 _ (List.getElem?_eq_getElem hv)
 refine ⟨c, t, z, h3, fun h0 => ?_⟩
 have := (Array.getElem?_eq_some_iff.1 h4).1
 omega
theorem overlaps_own {P : Program} (w : World) (tS tR e : TypeId) (ht : P.underlying tS = some (.slice e)) (size : Nat) (hz : ∀ w, (Go.sizeOf e).run P w = .ok size w) (a b : Addr) (la ca lb cb : Nat) (hne : a.block ≠ b.block)
  {ca' : Array Value} {ta : TypeId} {za : Nat × Nat} (ha : w.heap[a.block]? = some (.cells ca' ta za)) (ha0 : ca'.size ≠ 0) {cur : Array Value} {te : TypeId} (hb : w.heap[b.block]? = some (.cells cur te (0, 0))) (hc : cur.size ≠ 0) :
  (Extern.SlicesOverlaps.overlaps #[tS, tS] #[tR] #[.slice (some a) la ca, .slice (some b) lb cb]).run P w = .ok (.bool false) w := by
 have hnb : (a.block != b.block) = true := by simpa using hne
 have hnb' : (a.block == b.block) = false := by simpa using hne
 have hf : ∀ x : Addr, x.block = b.block → w.frozen? x = false := fun x hx => by simp [World.frozen?, hx, hb]
 have hsb : w.shape? b.block = some (te, cur.size) := by simp [World.shape?, hb]
 have hva : w.shape? a.block = some (ta, ca'.size) := by simp [World.shape?, ha]
 change Sem.run P (α := Value) (do
  let some t := (#[tS, tS] : Array TypeId)[0]? | stuck "slices.overlaps: no parameter types"
  let .slice elem ← underlying t | stuck "slices.overlaps: slice type expected"
  let size ← sizeOf elem
  match (some a : Option Addr), (some b : Option Addr) with
  | some a, some b =>
   if la = 0 ∨ lb = 0 ∨ size = 0 then pure (Value.bool false)
   else if a.block != b.block && (← frozen a) && (← frozen b) then unsupported .addressObserved
   else do
    if a.block != b.block then do
     noView a; noView b
     if ← mayBeOne a b then return Value.bool ((← choose (.extern "sameAddr.stringBytes" 2)) == 1)
    pure (Value.bool (a.block == b.block && a.off < b.off + lb * size && b.off < a.off + la * size))
  | _, _ => pure (Value.bool false)) w = _
 by_cases h0 : la = 0 ∨ lb = 0 ∨ size = 0
 ·simp [run_underlying ht, hz, h0]
 ·have e1 := hf b rfl
  have e2 := hf { block := b.block, off := cur.size } rfl
  have e3 : (match some (te, cur.size) with | some (_, 0) => true | _ => false) = false := by
   cases h : cur.size with
   | zero => exact absurd h hc
   | succ n => rfl
  have e4 : (match some (ta, ca'.size) with | some (_, 0) => true | _ => false) = false := by
   cases h : ca'.size with
   | zero => exact absurd h ha0
   | succ n => rfl
  cases hfa : w.frozen? a <;> cases hfe : w.frozen? { block := a.block, off := ca'.size } <;>
   simp [run_underlying ht, hz, h0, hnb, hnb', frozen, noView, viewAt, mayBeOne, stringish, shape, Sem.run, hva, hsb, e1, e2, hfa, hfe, hc, e4, ha0]
theorem run_copyK {P : Program} (w : World) (t ty el k : Nat) (hu : P.underlying t = some (.slice el)) (hz : ∀ w, (Go.sizeOf el).run P w = .ok k w) (b o dLen dCap : Nat) (a : Addr) (sLen sCap : Nat) (cs : List Value) {cur : Array Value} {te : TypeId} (hb : w.heap[b]? = some (.cells cur te (0, 0)))
  (hn : cs.length = Nat.min sLen dLen * k) (hsrc : ∀ j v, cs[j]? = some v → w.cell? (a.add j) = some v) (hfit : o + cs.length ≤ cur.size) (h1 : ∀ v ∈ cs, v.oneCell' = true) :
  (Builtin.copy_ #[t, t] ty #[.slice (some ⟨b, o, none⟩) dLen dCap, .slice (some a) sLen sCap]).run P w = .ok (goInt (Nat.min sLen dLen)) (w.setRow b (cur.toList.take o ++ cs ++ cur.toList.drop (o + cs.length)).toArray) := by
 have hl := run_loadCells_list (P := P) (w := w) a cs hsrc
 have hst := run_storeCells_at P b o te cs 0 cur w hb (by simpa using hfit) h1
 rw [hn] at hl
 simp [Builtin.copy_, run_underlying hu, Builtin.lenOf, Builtin.firstCells, hz, hl]
 simp at hst
 rw [hst]; rfl
set_option maxHeartbeats 4000000 in
set_option maxRecDepth 100000 in
theorem Tryz.ins_end {w : World} {ad : Option Addr} {cap nn : Nat} {cs : List Value} {q : Addr} {vcap : Nat} {vs : List Value} (hr : (Own.row ad cap 95 3 nn cs).holds w) (hb : nn + 1 ≤ 1073741824) (hv : CellsAt (hp w) q vs) (hvl : vs.length = 3) (h1 : vs.all (·.oneCell') = true) :
  Calls Tryz.prog 82 #[.slice ad nn cap, .int .i64 nn, .slice (some q) 1 vcap] w fun e w' => ∃ ad' cap', e = .returned (.slice ad' (nn + 1) cap') ∧ (Own.row ad' cap' 95 3 (nn + 1) (cs ++ vs)).holds w' ∧ Grown w w' (ad.map (·.block)) ∧ ∀ b, ad'.map (·.block) = some b → ad.map (·.block) = some b ∨ w.heap.size ≤ b := by
 obtain ⟨ad', cap', w', hrun, hh, hg, hf⟩ := run_append (P := Tryz.prog) 93 T10.E93 hr (sad := some q) (m := 1) (c := vcap) (news := vs) ⟨by omega, h1, .inr ⟨q, rfl, hv⟩⟩ (by unfold maxLen; omega) (by omega)
 have hd := run_drawn _ hrun
 have hcap := (row_len hr).2
 refine Calls.mono (R := fun e w'' => e = .returned (.slice ad' (nn + 1) cap') ∧ w'' = w') ?_ fun e w'' hw => by
  obtain ⟨rfl, rfl⟩ := hw
  exact ⟨ad', cap', rfl, hh, ⟨hg, hd⟩, hf⟩
 clear hf hh hg hd hr hv h1
 by_cases hc : cap = nn
 ·subst hc
  go_enter Tryz.func82, Tryz.ntmps82
  go_wp2_with (at_builtin; refine Lib.wpList_append_run _ rfl _ _ _ _ rfl _ _ rfl rfl _ _ hrun ?_)
  go_ret
  exact ⟨rfl, rfl⟩
 ·go_enter Tryz.func82, Tryz.ntmps82
  go_wp2_with (at_builtin; refine Lib.wpList_append_run _ rfl _ _ _ _ rfl _ _ rfl rfl _ _ hrun ?_)
  go_ret
  exact ⟨rfl, rfl⟩
theorem cell_of_row {w : World} {b : Nat} {cur : Array Value} {t : TypeId} {z : Nat × Nat} (h : w.heap[b]? = some (.cells cur t z)) {j : Nat} {v : Value} (hv : cur.toList[j]? = some v) : w.cell? ⟨b, j, none⟩ = some v := by
 rw [Array.getElem?_toList] at hv
 simp [World.cell?, h, hv]
theorem add_lit0 (b o i : Nat) : (⟨b, o, none⟩ : Addr).add i = ⟨b, o + i, none⟩ := addr_add (ad := ⟨b, o, none⟩) rfl i
set_option maxHeartbeats 4000000 in
set_option maxRecDepth 100000 in
theorem Tryz.ins_room {w : World} {b cap nn j : Nat} {cs : List Value} {q : Addr} {vcap : Nat} {vs : List Value} {cur : Array Value} (hw : w.heap[b]? = some (.cells cur 95 (0, 0))) (hcs : cur.size = cap * 3) (ht : cur.toList.take (nn * 3) = cs) (hcm : cap ≤ 9223372036854775807) (hj : j < nn) (hroom : nn + 1 ≤ cap) (hb : nn + 1 ≤ 1073741824) (hv : CellsAt (hp w) q vs) (hvl : vs.length = 3) (h1 : vs.all (·.oneCell') = true) (h2 : cs.all (·.oneCell') = true) (hne : b ≠ q.block) :
  Calls Tryz.prog 82 #[.slice (some ⟨b, 0, none⟩) nn cap, .int .i64 j, .slice (some q) 1 vcap] w fun e w' => e = .returned (.slice (some ⟨b, 0, none⟩) (nn + 1) cap) ∧ w' = (w.drew.setRow b (cur.toList.take ((j + 1) * 3) ++ cs.drop (j * 3) ++ cur.toList.drop ((nn + 1) * 3)).toArray).setRow b (cs.take (j * 3) ++ vs ++ cs.drop (j * 3) ++ cur.toList.drop ((nn + 1) * 3)).toArray := by
 obtain ⟨c0, t0, z0, hq0, hq1⟩ := hp_cells hv (by omega)
 have hcl : cs.length = nn * 3 := by rw [← ht, List.length_take, Array.length_toList, hcs]; omega
 have hcur : cur.toList = cs ++ cur.toList.drop (nn * 3) := by rw [← ht, List.take_append_drop]
 have hov : ∀ lb cb, (callFunc 106 #[.slice (some q) 1 vcap, .slice (some ⟨b, (j + 1) * 3, none⟩) lb cb]).run Tryz.prog w = .ok (.value (.bool false)) w := fun lb cb => by
  rw [run_callFunc_extern Tryz.func106 (by kernel_rfl) (by kernel_rfl) (by kernel_rfl) (e := Extern.SlicesOverlaps.overlaps #[93, 93] #[4]) (by kernel_rfl),
   overlaps_own w 93 4 95 Tryz.underlying93 3 Tryz.sizeOf95 q ⟨b, (j + 1) * 3, none⟩ 1 vcap lb cb (fun e => hne e.symm) hq0 hq1 hw (by omega)]
  rfl
 have hcp1 : ∀ ty dc sc, (Builtin.copy_ #[93, 93] ty #[.slice (some ⟨b, (j + 1) * 3, none⟩) (nn - j) dc, .slice (some ⟨b, j * 3, none⟩) (nn + 1 - j) sc]).run Tryz.prog w.drew = .ok (goInt (Nat.min (nn + 1 - j) (nn - j))) (w.drew.setRow b (cur.toList.take ((j + 1) * 3) ++ cs.drop (j * 3) ++ cur.toList.drop ((nn + 1) * 3)).toArray) := fun ty dc sc => by
  have hl : (cs.drop (j * 3)).length = Nat.min (nn + 1 - j) (nn - j) * 3 := by
   rw [List.length_drop, hcl, show Nat.min (nn + 1 - j) (nn - j) = nn - j by simp only [Nat.min_def]; split <;> omega, Nat.sub_mul]
  have := run_copyK (P := Tryz.prog) w.drew 93 ty 95 3 Tryz.underlying93 Tryz.sizeOf95 b ((j + 1) * 3) (nn - j) dc ⟨b, j * 3, none⟩ (nn + 1 - j) sc (cs.drop (j * 3)) (cur := cur) hw hl (fun i v hi => by
   rw [add_lit0]
   refine cell_of_row (w := w.drew) hw ?_
   rw [hcur, List.getElem?_append_left (by rw [List.getElem?_drop] at hi; exact (List.getElem?_eq_some_iff.1 hi).1)]
   rwa [List.getElem?_drop] at hi) (by rw [List.length_drop, hcl, hcs]; omega) (fun v hv => List.all_eq_true.1 h2 v (List.mem_of_mem_drop hv))
  rw [this, show (j + 1) * 3 + (cs.drop (j * 3)).length = (nn + 1) * 3 by rw [List.length_drop, hcl]; omega]
 obtain ⟨X1, hX1⟩ : ∃ X1 : List Value, X1 = cur.toList.take ((j + 1) * 3) ++ cs.drop (j * 3) ++ cur.toList.drop ((nn + 1) * 3) := ⟨_, rfl⟩
 rw [← hX1] at hcp1 ⊢
 obtain ⟨W1, hW1⟩ : ∃ W1, W1 = w.drew.setRow b X1.toArray := ⟨_, rfl⟩
 rw [← hW1] at hcp1 ⊢
 have hw1 : W1.heap[b]? = some (.cells X1.toArray 95 (0, 0)) := by rw [hW1]; exact setRow_heap w.drew b cur X1.toArray 95 (0, 0) hw
 have hX1l : X1.length = cap * 3 := by rw [hX1]; simp only [List.length_append, List.length_take, List.length_drop, Array.length_toList, hcs, hcl]; omega
 have hlen1 : (cur.toList.take ((j + 1) * 3)).length = (j + 1) * 3 := by rw [List.length_take, Array.length_toList, hcs]; omega
 have hcp2 : ∀ ty dc, (Builtin.copy_ #[93, 93] ty #[.slice (some ⟨b, j * 3, none⟩) (nn + 1 - j) dc, .slice (some q) 1 vcap]).run Tryz.prog W1 = .ok (goInt (Nat.min 1 (nn + 1 - j))) (W1.setRow b (cs.take (j * 3) ++ vs ++ cs.drop (j * 3) ++ cur.toList.drop ((nn + 1) * 3)).toArray) := fun ty dc => by
  have hm : Nat.min 1 (nn + 1 - j) = 1 := by simp only [Nat.min_def]; split <;> omega
  have := run_copyK (P := Tryz.prog) W1 93 ty 95 3 Tryz.underlying93 Tryz.sizeOf95 b (j * 3) (nn + 1 - j) dc q 1 vcap vs (cur := X1.toArray) hw1 (by rw [hvl, hm]) (fun i v hi => by
   have h0 := hv.cell hi
   have hsp : (q.add i).block = q.block := by unfold Addr.add; split <;> rfl
   rw [hW1]
   unfold World.cell? at h0 ⊢
   rw [show (w.drew.setRow b X1.toArray).heap[(q.add i).block]? = w.heap[(q.add i).block]? from setRow_other w.drew b _ _ (by rw [hsp]; exact fun e => hne e.symm)]
   exact h0) (by rw [hvl, List.size_toArray, hX1l]; omega) (fun v hv => List.all_eq_true.1 h1 v hv)
  rw [this, hvl]
  congr 3
  have e1 : X1.take (j * 3) = cs.take (j * 3) := by
   rw [hX1, List.append_assoc, List.take_append_of_le_length (by rw [hlen1]; omega), List.take_take, show min (j * 3) ((j + 1) * 3) = j * 3 by omega, ← ht, List.take_take, show min (j * 3) (nn * 3) = j * 3 by omega]
  have e2 : X1.drop (j * 3 + 3) = cs.drop (j * 3) ++ cur.toList.drop ((nn + 1) * 3) := by
   rw [hX1, show j * 3 + 3 = (j + 1) * 3 by omega, List.append_assoc, List.drop_append_of_le_length (by rw [hlen1]; omega), List.drop_of_length_le (by rw [hlen1]; omega), List.nil_append]
  simp only [List.toList_toArray, e1, e2, List.append_assoc]
 have hz2 : ¬ ((j : Int) = (nn : Int)) := by omega
 have hw2 : IntKind.i64.wrap ((j : Int) + 1) = (j : Int) + 1 := by rw [IntKind.wrap_i64]; omega
 have hw3 : IntKind.i64.wrap ((nn : Int) + 1) = (nn : Int) + 1 := by rw [IntKind.wrap_i64]; omega
 have htn : ((j : Int) + 1).toNat = j + 1 := by omega
 have htn2 : ((nn : Int) + 1).toNat = nn + 1 := by omega
 have hb1 : (0 : Int) ≤ (j : Int) + 1 := by omega
 have hb2 : ¬ (cap = j + 1) := by omega
 have hb4 : ¬ (cap = j) := by omega
 have hb3 : (j : Int) ≤ (nn : Int) + 1 := by omega
 have hin : j ≤ nn := by omega
 have hro : ¬ ((cap : Int) < (nn : Int) + 1) := by omega
 clear hX1 hcur ht
 have mixed := T10.mixed
 clear hw1
 subst hW1
 go_enter Tryz.func82, Tryz.ntmps82
 go_wp2_with (simp only [hov])
 go_region_law_o (refine step_copy_runI rfl _ _ 93 93 rfl _ _ (by simp [Act.eval, Act.put]) (by simp [Act.eval, Act.put]) (hcp1 _ _ _) ?_)
 go_wp2_with (at_builtin; refine wpList_copy_runI _ rfl _ _ 93 93 rfl _ _ rfl rfl (hcp2 _ _) ?_)
 go_ret
 exact ⟨rfl, by simp only [List.append_assoc]⟩
set_option maxHeartbeats 4000000 in
set_option maxRecDepth 100000 in
theorem Tryz.ins_grow {w : World} {b cap nn j : Nat} {cs : List Value} {q : Addr} {vcap : Nat} {vs : List Value} {cur : Array Value} (hw : w.heap[b]? = some (.cells cur 95 (0, 0))) (hcs : cur.size = cap * 3) (ht : cur.toList.take (nn * 3) = cs) (hnc : nn ≤ cap) (hj : j < nn) (hroom : cap < nn + 1) (hb : nn + 1 ≤ 1073741824) (hv : CellsAt (hp w) q vs) (hvl : vs.length = 3) (h1 : vs.all (·.oneCell') = true) (h2 : cs.all (·.oneCell') = true) :
  Calls Tryz.prog 82 #[.slice (some ⟨b, 0, none⟩) nn cap, .int .i64 j, .slice (some q) 1 vcap] w fun e w' => ∃ (G : Nat) (X : List Value), nn + 1 ≤ G ∧ G ≤ maxLen ∧ X.length = G * 3 ∧ X.take ((nn + 1) * 3) = cs.take (j * 3) ++ vs ++ cs.drop (j * 3) ∧ e = .returned (.slice (some ⟨w.heap.size, 0, none⟩) (nn + 1) G) ∧ ∃ Y Z m, w' = (((w.alloc (.cells Y 95)).drewN m).setRow w.heap.size Z).setRow w.heap.size X.toArray := by
 obtain ⟨i0, v0, hi0, hz0, hzv, hzs, hzb⟩ := T10.E93.info
 have hzc : v0.cells.size = 3 := by rw [cells_L, hzv]; rfl
 have hcl : cs.length = nn * 3 := by rw [← ht, List.length_take, Array.length_toList, hcs]; omega
 have hcur : cur.toList = cs ++ cur.toList.drop (nn * 3) := by rw [← ht, List.take_append_drop]
 have hold : (Builtin.firstCells i0.size j (.slice (some ⟨b, 0, none⟩) j cap)).run Tryz.prog w.drew = .ok (cs.take (j * 3)).toArray w.drew := by
  rw [hzs]
  refine run_firstCells_some (w := w.drew) 3 j ⟨b, 0, none⟩ j cap (cs.take (j * 3)) (by rw [List.length_take, hcl]; omega) (fun i v hi => ?_)
  rw [add_lit0, Nat.zero_add]
  refine cell_of_row (w := w.drew) hw ?_
  rw [List.getElem?_take] at hi
  split at hi
  ·rw [hcur, List.getElem?_append_left (by rw [hcl]; omega)]; exact hi
  ·cases hi
 have hik : j + (nn + 1 - j) = nn + 1 := by omega
 have hkk : (nn : Int) + 1 - (j : Int) = ((nn + 1 - j : Nat) : Int) := by omega
 obtain ⟨G, hG⟩ : ∃ G, G = grownCap w (nn + 1) cap 95 := ⟨_, rfl⟩
 have hGn : nn + 1 ≤ G := by rw [hG]; exact grownCap_ge w _ _ _
 have hGm : G ≤ maxLen := by rw [hG]; exact grownCap_le_maxLen w (nn + 1) cap 95 (by unfold maxLen; omega)
 obtain ⟨R, hR⟩ : ∃ R : Array Value, R = (cs.take (j * 3)).toArray ++ Builtin.zeroCells v0.cells (nn + 1 - j) ++ Builtin.zeroCells v0.cells (G - (nn + 1)) := ⟨_, rfl⟩
 have hRs : R.size = G * 3 := by
  rw [hR]
  simp only [Array.size_append, List.size_toArray, List.length_take, hcl, Builtin.zeroCells, Array.size_map, Array.size_range, hzc]
  omega
 have hRt : R.toList.take (j * 3) = cs.take (j * 3) := by
  rw [hR, Array.toList_append, Array.toList_append, List.append_assoc, List.take_append_of_le_length (by simp [hcl]; omega)]
  simp only [List.toList_toArray, List.take_take, Nat.min_self]
 have hrz : ∀ ty, (Builtin.append_ #[93, 3] ty #[.slice (some ⟨b, 0, none⟩) j cap, .int .i64 ((nn : Int) + 1 - (j : Int))]).run Tryz.prog w = .ok (.slice (some ⟨w.heap.size, 0, none⟩) (nn + 1) G) (w.drew.alloc (.cells R 95)) := fun ty => by
  have h := Lib.run_append_grow_zeros w 93 3 ty 95 i0 _ .i64 .i64 Tryz.underlying93 Tryz.underlying3 hi0 hz0 (some ⟨b, 0, none⟩) j cap (cs.take (j * 3)) hold (nn + 1 - j) (by omega) (by rw [hzs]; decide) (by omega) (by omega) (by rw [hzb]; omega) (by rw [hzb, hik]; exact growslice_fits hroom (by omega))
  rw [hik] at h
  rw [hkk, hR, hG]
  exact h
 have hN : (w.drew.alloc (.cells R 95)).heap[w.heap.size]? = some (.cells R 95 (0, 0)) := alloc_new w.drew _
 have hbw : b < w.heap.size := (Array.getElem?_eq_some_iff.1 hw).1
 obtain ⟨X1, hX1⟩ : ∃ X1 : List Value, X1 = cs.take (j * 3) ++ vs ++ R.toList.drop ((j + 1) * 3) := ⟨_, rfl⟩
 obtain ⟨X2, hX2⟩ : ∃ X2 : List Value, X2 = cs.take (j * 3) ++ vs ++ cs.drop (j * 3) ++ R.toList.drop ((nn + 1) * 3) := ⟨_, rfl⟩
 have hct : (cs.take (j * 3)).length = j * 3 := by rw [List.length_take, hcl]; omega
 have hX1l : X1.length = G * 3 := by rw [hX1]; simp only [List.length_append, hct, hvl, List.length_drop, Array.length_toList, hRs]; omega
 have hX2l : X2.length = G * 3 := by rw [hX2]; simp only [List.length_append, hct, hvl, List.length_drop, Array.length_toList, hRs, hcl]; omega
 have hqn : ∀ i, (q.add i).block = q.block := fun i => by unfold Addr.add; split <;> rfl
 obtain ⟨c0, t0, z0, hq0, _⟩ := hp_cells hv (by omega)
 have hqw : q.block < w.heap.size := (Array.getElem?_eq_some_iff.1 hq0).1
 have hcpA : ∀ (m : Nat) ty dc, (Builtin.copy_ #[93, 93] ty #[.slice (some ⟨w.heap.size, j * 3, none⟩) (nn + 1 - j) dc, .slice (some q) 1 vcap]).run Tryz.prog ((w.alloc (.cells R 95)).drewN m) = .ok (goInt (Nat.min 1 (nn + 1 - j))) (((w.alloc (.cells R 95)).drewN m).setRow w.heap.size X1.toArray) := fun m ty dc => by
  have hm : Nat.min 1 (nn + 1 - j) = 1 := by simp only [Nat.min_def]; split <;> omega
  have := run_copyK (P := Tryz.prog) ((w.alloc (.cells R 95)).drewN m) 93 ty 95 3 Tryz.underlying93 Tryz.sizeOf95 w.heap.size (j * 3) (nn + 1 - j) dc q 1 vcap vs (cur := R) (te := 95) (alloc_new w _) (by rw [hvl, hm]) (fun i v hi => by
   have h0 := hv.cell hi
   unfold World.cell? at h0 ⊢
   rw [show ((w.alloc (.cells R 95)).drewN m).heap[(q.add i).block]? = w.heap[(q.add i).block]? from (Ext.alloc True w (.cells R 95)).keep _ (by rw [hqn]; exact hqw)]
   exact h0) (by rw [hvl, hRs]; omega) (fun v hv => List.all_eq_true.1 h1 v hv)
  rw [this, hvl, hRt, hX1, show j * 3 + 3 = (j + 1) * 3 by omega]
 have hcpB : ∀ (m : Nat) ty dc sc, (Builtin.copy_ #[93, 93] ty #[.slice (some ⟨w.heap.size, (j + 1) * 3, none⟩) (nn - j) dc, .slice (some ⟨b, j * 3, none⟩) (nn - j) sc]).run Tryz.prog (((w.alloc (.cells R 95)).drewN m).setRow w.heap.size X1.toArray) = .ok (goInt (Nat.min (nn - j) (nn - j))) ((((w.alloc (.cells R 95)).drewN m).setRow w.heap.size X1.toArray).setRow w.heap.size X2.toArray) := fun m ty dc sc => by
  have hm : Nat.min (nn - j) (nn - j) = nn - j := Nat.min_self _
  have hl : (cs.drop (j * 3)).length = Nat.min (nn - j) (nn - j) * 3 := by rw [hm, List.length_drop, hcl, Nat.sub_mul]
  have := run_copyK (P := Tryz.prog) (((w.alloc (.cells R 95)).drewN m).setRow w.heap.size X1.toArray) 93 ty 95 3 Tryz.underlying93 Tryz.sizeOf95 w.heap.size ((j + 1) * 3) (nn - j) dc ⟨b, j * 3, none⟩ (nn - j) sc (cs.drop (j * 3)) (cur := X1.toArray) (te := 95) (setRow_heap _ _ R X1.toArray 95 (0, 0) (alloc_new w _)) hl (fun i v hi => by
   rw [add_lit0]
   have hcell : w.cell? ⟨b, j * 3 + i, none⟩ = some v := by
    refine cell_of_row hw ?_
    rw [hcur, List.getElem?_append_left (by rw [List.getElem?_drop] at hi; exact (List.getElem?_eq_some_iff.1 hi).1)]
    rwa [List.getElem?_drop] at hi
   unfold World.cell? at hcell ⊢
   rw [show (((w.alloc (.cells R 95)).drewN m).setRow w.heap.size X1.toArray).heap[(⟨b, j * 3 + i, none⟩ : Addr).block]? = w.heap[(⟨b, j * 3 + i, none⟩ : Addr).block]? from (setRow_other _ _ _ _ (by show b ≠ w.heap.size; omega)).trans ((Ext.alloc True w (.cells R 95)).keep _ hbw)]
   exact hcell) (by rw [List.length_drop, hcl, List.size_toArray, hX1l]; omega) (fun v hv => List.all_eq_true.1 h2 v (List.mem_of_mem_drop hv))
  rw [this, show (j + 1) * 3 + (cs.drop (j * 3)).length = (nn + 1) * 3 by rw [List.length_drop, hcl]; omega]
  congr 3
  have e1 : X1.take ((j + 1) * 3) = cs.take (j * 3) ++ vs := by
   rw [hX1, List.take_append_of_le_length (by rw [List.length_append, hct, hvl]; omega), List.take_of_length_le (by rw [List.length_append, hct, hvl]; omega)]
  have e2 : X1.drop ((nn + 1) * 3) = R.toList.drop ((nn + 1) * 3) := by
   rw [hX1, List.drop_append, List.drop_of_length_le (by rw [List.length_append, hct, hvl]; omega), List.nil_append, List.drop_drop, List.length_append, hct, hvl, show (j + 1) * 3 + ((nn + 1) * 3 - (j * 3 + 3)) = (nn + 1) * 3 by omega]
  simp only [List.toList_toArray, e1, e2, hX2, List.append_assoc]
 have hX2t : X2.take ((nn + 1) * 3) = cs.take (j * 3) ++ vs ++ cs.drop (j * 3) := by
  rw [hX2, List.take_append_of_le_length (by simp only [List.length_append, hct, hvl, List.length_drop, hcl]; omega), List.take_of_length_le (by simp only [List.length_append, hct, hvl, List.length_drop, hcl]; omega)]
 refine Calls.mono (R := fun e w'' => e = .returned (.slice (some ⟨w.heap.size, 0, none⟩) (nn + 1) G) ∧ ∃ m, w'' = (((w.alloc (.cells R 95)).drewN m).setRow w.heap.size X1.toArray).setRow w.heap.size X2.toArray) ?_ fun e w'' hw => by
  obtain ⟨rfl, m, rfl⟩ := hw
  exact ⟨G, X2, hGn, hGm, hX2l, hX2t, rfl, R, X1.toArray, m, rfl⟩
 have mixed := T10.mixed
 have hz2 : ¬ ((j : Int) = (nn : Int)) := by omega
 have hw2 : IntKind.i64.wrap ((j : Int) + 1) = (j : Int) + 1 := by rw [IntKind.wrap_i64]; omega
 have hw3 : IntKind.i64.wrap ((nn : Int) + 1) = (nn : Int) + 1 := by rw [IntKind.wrap_i64]; omega
 have htn : ((j : Int) + 1).toNat = j + 1 := by omega
 have hb1 : (0 : Int) ≤ (j : Int) + 1 := by omega
 have hro : (cap : Int) < (nn : Int) + 1 := by omega
 have hGi : ¬ (G = j) := by omega
 have hGim : ¬ (G = j + 1) := by omega
 have hci : ¬ (cap = j) := by omega
 have hin : j ≤ nn := by omega
 have hb3 : (j : Int) ≤ (nn : Int) := by omega
 have hcpA0 : ∀ ty dc, (Builtin.copy_ #[93, 93] ty #[.slice (some ⟨w.heap.size, j * 3, none⟩) (nn + 1 - j) dc, .slice (some q) 1 vcap]).run Tryz.prog (w.drew.alloc (.cells R 95)) = .ok (goInt (Nat.min 1 (nn + 1 - j))) ((w.drew.alloc (.cells R 95)).setRow w.heap.size X1.toArray) := fun ty dc => hcpA 1 ty dc
 have hcpA1 : ∀ ty dc, (Builtin.copy_ #[93, 93] ty #[.slice (some ⟨w.heap.size, j * 3, none⟩) (nn + 1 - j) dc, .slice (some q) 1 vcap]).run Tryz.prog ((w.alloc (.cells R 95)).drew) = .ok (goInt (Nat.min 1 (nn + 1 - j))) (((w.alloc (.cells R 95)).drew).setRow w.heap.size X1.toArray) := fun ty dc => hcpA 1 ty dc
 have hcpB0 : ∀ ty dc sc, (Builtin.copy_ #[93, 93] ty #[.slice (some ⟨w.heap.size, (j + 1) * 3, none⟩) (nn - j) dc, .slice (some ⟨b, j * 3, none⟩) (nn - j) sc]).run Tryz.prog (((w.alloc (.cells R 95)).drew.setRow w.heap.size X1.toArray).drew) = .ok (goInt (Nat.min (nn - j) (nn - j))) ((((w.alloc (.cells R 95)).drew.setRow w.heap.size X1.toArray).drew).setRow w.heap.size X2.toArray) := fun ty dc sc => hcpB 2 ty dc sc
 clear hG hcpA hcpB hR hold hkk hik hcur hRt hX1 hX2 hX2t hN hq0 hv ht
 go_enter Tryz.func82, Tryz.ntmps82
 go_wp2_with (first
  | (at_builtin; refine Lib.wpList_append_run _ rfl _ _ _ _ rfl _ _ rfl rfl _ _ (hrz _) ?_)
  | (at_builtin; refine wpList_copy_runI _ rfl _ _ 93 93 rfl _ _ rfl rfl (hcpA1 _ _) ?_)
  | (at_builtin; refine wpList_copy_runI _ rfl _ _ 93 93 rfl _ _ rfl rfl (hcpA0 _ _) ?_))
 go_region_law_o (refine step_copy_runI rfl _ _ 93 93 rfl (.slice (some ⟨w.heap.size, (j + 1) * 3, none⟩) (nn - j) (G - (j + 1))) (.slice (some ⟨b, j * 3, none⟩) (nn - j) (cap - j)) (by simp [Act.eval, Act.put]) (by simp [Act.eval, Act.put]) (hcpB0 3 (G - (j + 1)) (cap - j)) ?_)
 go_wp2
 go_ret
 exact ⟨rfl, 2, rfl⟩
theorem grown_row {w w' : World} {b : Nat} (h : ∀ k, k < w.heap.size → k ≠ b → w'.heap[k]? = w.heap[k]?) (ho : w'.os = w.os) (ht : w'.tape = w.tape) (hu : w'.output = w.output) (hs : w.heap.size ≤ w'.heap.size) (hd : w.drawn ≤ w'.drawn) : Grown w w' (some b) :=
 ⟨⟨ho, ht, hu, hs, fun k hk hne => h k hk (fun e => hne (by rw [e]))⟩, hd⟩
theorem setRow_size (w : World) (b : Nat) (X : Array Value) : (w.setRow b X).heap.size = w.heap.size := by simp [World.setRow]
theorem Tryz.ins82 : Ins1 Tryz.prog 82 95 3 := by
 intro w ad cap nn cs j q vcap vs hr hj hb hv hvl h1 h2 hne _
 have hcl := (row_len hr).1
 by_cases hjn : j = nn
 ·subst hjn
  refine (Tryz.ins_end hr hb hv hvl h1).mono fun e w' h => ?_
  rw [List.take_of_length_le (by omega), List.drop_of_length_le (by omega), List.append_nil]
  exact h
 ·have hlt : j < nn := by omega
  rcases hr.2 with ⟨_, h0⟩ | ⟨b, cap', cur, he, hbb, hw, hnc, hcm, hcs, ht⟩
  ·omega
  ·simp only [Value.slice.injEq] at he
   obtain ⟨rfl, _, rfl⟩ := he
   have hbw : b < w.heap.size := (Array.getElem?_eq_some_iff.1 hw).1
   have hc63 : cap ≤ 9223372036854775807 := by unfold maxLen at hcm; omega
   have hln : (cs.take (j * 3) ++ vs ++ cs.drop (j * 3)).length = (nn + 1) * 3 := by
    simp only [List.length_append, List.length_take, List.length_drop, hvl, hcl]; omega
   by_cases hroom : nn + 1 ≤ cap
   ·refine (Tryz.ins_room hw hcs ht hc63 hlt hroom hb hv hvl h1 h2 (hne b rfl)).mono fun e w' h => ?_
    obtain ⟨rfl, rfl⟩ := h
    refine ⟨_, _, rfl, ?_, ?_, fun b' hb' => .inl hb'⟩
    ·refine ⟨hln, .inr ⟨b, cap, _, rfl, hbb, setRow_heap _ b _ _ 95 (0, 0) (setRow_heap w.drew b cur _ 95 (0, 0) hw), hroom, hcm, ?_, ?_⟩⟩
     ·have : (cur.toList.drop ((nn + 1) * 3)).length = cap * 3 - (nn + 1) * 3 := by rw [List.length_drop, Array.length_toList, hcs]
      rw [List.size_toArray, List.length_append, hln, this]; omega
     ·rw [List.toList_toArray, List.take_append_of_le_length (by rw [hln]; exact Nat.le_refl _), List.take_of_length_le (by rw [hln]; exact Nat.le_refl _)]
    ·exact grown_row (fun k hk hkb => (setRow_other _ _ _ _ hkb).trans (setRow_other _ _ _ _ hkb)) rfl rfl rfl (by rw [setRow_size, setRow_size]; exact Nat.le_refl _) (Nat.le_succ _)
   ·refine (Tryz.ins_grow hw hcs ht hnc hlt (by omega) hb hv hvl h1 h2).mono fun e w' h => ?_
    obtain ⟨G, X, hG1, hG2, hXl, hXt, rfl, Y, Z, m, rfl⟩ := h
    refine ⟨_, _, rfl, ?_, ?_, fun b' hb' => .inr (by simp at hb'; omega)⟩
    ·refine ⟨hln, .inr ⟨w.heap.size, G, X.toArray, rfl, Nat.zero_le _, setRow_heap _ _ Z _ 95 (0, 0) (setRow_heap _ _ Y _ 95 (0, 0) (alloc_new w _)), hG1, hG2, by rw [List.size_toArray, hXl], by rw [List.toList_toArray]; exact hXt⟩⟩
    ·refine grown_row (fun k hk hkb => ?_) rfl rfl rfl ?_ ?_
     ·have hkn : k ≠ w.heap.size := by omega
      exact (setRow_other _ _ _ _ hkn).trans ((setRow_other _ _ _ _ hkn).trans ((Ext.alloc True w (.cells Y 95)).keep k hk))
     ·rw [setRow_size, setRow_size]
      exact (Ext.alloc True w (.cells Y 95)).size
     ·exact Nat.le_add_right _ _
end Go.Proofs
set_option maxHeartbeats 4000000
namespace Go.Proofs
open Go Go.Shelf Go.RowKit Pk
set_option maxRecDepth 100000 in
theorem Tryz.grow62 : GrowC Tryz.prog 62 77 6 := by
 intro w n hn
 by_cases h0 : n = 0
 ·subst h0
  refine Calls.mono (R := fun e w' => e = .returned (.slice none 0 0) ∧ w' = w) ?_ fun e w' h => by
   obtain ⟨rfl, rfl⟩ := h
   exact ⟨none, 0, rfl, ⟨by simp, .inl ⟨rfl, rfl⟩⟩, fun M => Ext.refl M _, fun b hb => by cases hb⟩
  go_enter Tryz.func62, Tryz.ntmps62
  go_wp2
  go_ret
  exact ⟨rfl, rfl⟩
 ·obtain ⟨i, z, hi, hz, hc, hs, hb⟩ := T10.E39.info
  have hzs : z.cells.size = 6 := by
   have := congrArg List.length hc
   rw [T10.E39.zl] at this
   rw [cells_L]; simpa using this
  obtain ⟨Y, hY⟩ : ∃ Y, Y = Builtin.zeroCells z.cells n ++ Builtin.zeroCells z.cells (grownCap w n 0 77 - n) := ⟨_, rfl⟩
  have hrun : ∀ ty, (Builtin.append_ #[39, 3] ty #[.slice none 0 0, .int .i64 n]).run Tryz.prog w = .ok (.slice (some ⟨w.heap.size, 0, none⟩) n (grownCap w n 0 77)) (w.drew.alloc (.cells Y 77)) := fun ty => by
   rw [hY]; exact Lib.run_append_nil_zeros (P := Tryz.prog) w 39 3 ty 77 i z .i64 .i64 Tryz.underlying39 Tryz.underlying3 hi hz n (by omega) (by omega) (by omega) (by rw [hb]; omega)
  obtain ⟨G, hG⟩ : ∃ G, G = grownCap w n 0 77 := ⟨_, rfl⟩
  have hgr := grow_row (w := w) (el := 77) hzs hn
  rw [← hY] at hgr
  rw [← hG] at hrun hgr
  obtain ⟨W1, hW1⟩ : ∃ W1, W1 = w.drew.alloc (.cells Y 77) := ⟨_, rfl⟩
  have hE : ∀ M, Ext M w W1 := fun M => by rw [hW1]; exact ext_drew M w _
  rw [← hW1] at hrun hgr
  clear hW1 hY hG hzs hb hs hc hz hi
  refine Calls.mono (R := fun e w' => e = .returned (.slice (some ⟨w.heap.size, 0, none⟩) 0 G) ∧ w' = W1) ?_ fun e w' h => by
   obtain ⟨rfl, rfl⟩ := h
   exact ⟨_, _, rfl, hgr, hE, fun b hb => by simp at hb; omega⟩
  clear hgr hE
  have h1 : ¬ ((n : Int) < 0) := by omega
  have h4 : (0 : Int) < (n : Int) := by omega
  have h3 : IntKind.i64.wrap (n : Int) = (n : Int) := by rw [IntKind.wrap_i64]; omega
  go_enter Tryz.func62, Tryz.ntmps62
  go_wp2_with (at_builtin; refine Lib.wpList_append_run _ rfl _ _ _ _ rfl _ _ rfl rfl _ _ (hrun _) ?_)
  go_ret
  exact ⟨rfl, rfl⟩
end Go.Proofs
set_option maxHeartbeats 4000000
namespace T10
open Go Go.Proofs Pk
noncomputable def m31_2 (x86 : Part) (s123 : Nat) : Option ((Nat) ⊕ ((Unit) ⊕ ((Nat) ⊕ ((Unit) ⊕ Bool)))) :=
 if (s123 : Int) < (x86.paragraphs.length : Int) then (
  (x86.paragraphs[s123]?).bind fun x143 =>
  if 210 < (x143.text.length : Int) then (
   some (.inr (.inr (.inr (.inr false)))))
  else
  some (.inl (s123 + 1)))
 else
 some (.inr (.inl ()))
noncomputable def m31_1 (v_0 : Volume) (s46 : Nat) : Option ((Nat) ⊕ ((Unit) ⊕ Bool)) :=
 if (s46 : Int) < (v_0.parts.length : Int) then (
  (v_0.parts[s46]?).bind fun x86 =>
  if 35 < (x86.paragraphs.length : Int) then (
   some (.inr (.inr false)))
  else
  (loopO (m31_2 x86) 0).bind fun e119 => match e119 with
  | .inr z => some z
  | .inl t122 =>
  some (.inl (s46 + 1)))
 else
 some (.inr (.inl ()))
noncomputable def m31_3 (errata : List Erratum) (s178 : Nat) : Option ((Nat) ⊕ ((Unit) ⊕ Bool)) :=
 if (s178 : Int) < (errata.length : Int) then (
  (errata[s178]?).bind fun x198 =>
  if 210 < (x198.text.length : Int) then (
   some (.inr (.inr false)))
  else
  some (.inl (s178 + 1)))
 else
 some (.inr (.inl ()))
noncomputable def m31 (v_0 : Volume) (errata : List Erratum) : Option (Bool) :=
 (loopO (m31_1 v_0) 0).bind fun e42 => match e42 with
 | .inr z => some z
 | .inl t45 =>
 (loopO (m31_3 errata) 0).bind fun e174 => match e174 with
 | .inr z => some z
 | .inl t177 =>
 ((
  if (v_0.parts.length : Int) ≤ 8 then (
   some (decide ((errata.length : Int) ≤ 25)))
  else
  some false
 ) : Option (Bool)).bind fun t216 =>
 some t216
noncomputable def m71_1 (v_0 : Volume) (s78 : Nat × List Paragraph) : Option ((Nat × List Paragraph) ⊕ (List Paragraph)) :=
 if (s78.1 : Int) < (v_0.parts.length : Int) then (
  (v_0.parts[s78.1]?).bind fun x105 =>
  chk (s78.2.length + x105.paragraphs.length ≤ 1073741824) <|
  some (.inl ((s78.1 + 1), (s78.2 ++ x105.paragraphs))))
 else
 some (.inr s78.2)
noncomputable def m71 (v_0 : Volume) : Option (List Paragraph) :=
 (loopO (m71_1 v_0) (0, ([] : List Paragraph))).bind fun e73 =>
 some e73
noncomputable def m72 (n_0 : Int) (low : Int) (high : Int) : Option (Bool) :=
 ((
  if low ≤ n_0 then (
   some (decide (n_0 ≤ high)))
  else
  some false
 ) : Option (Bool)).bind fun t4 =>
 some t4
noncomputable def m73_1 (s_0 : Bytes) (s21 : Nat) : Option ((Nat) ⊕ ((Unit) ⊕ Bool)) :=
 if (s21 : Int) < (s_0.length : Int) then (
  ((
   (s_0[s21]?).bind fun x49 =>
   if (x49.toNat : Int) < 32 then (
    some true)
   else
   some (decide (126 < (x49.toNat : Int)))
  ) : Option (Bool)).bind fun t46 =>
  if t46 then (
   some (.inr (.inr false)))
  else
  chk (-9223372036854775808 ≤ ((s21 : Int) + 1) ∧ ((s21 : Int) + 1) ≤ 9223372036854775807) <|
  some (.inl (s21 + 1)))
 else
 some (.inr (.inl ()))
noncomputable def m73 (s_0 : Bytes) : Option (Bool) :=
 (loopO (m73_1 s_0) 0).bind fun e17 => match e17 with
 | .inr z => some z
 | .inl t20 =>
 (m72 (s_0.length : Int) 1 200).bind fun r64 =>
 some r64
noncomputable def m50_1 (v_0 : Volume) (s127 : Nat) : Option ((Nat) ⊕ ((Unit) ⊕ Int)) :=
 if (s127 : Int) < (v_0.parts.length : Int) then (
  ((
   (v_0.parts[s127]?).bind fun x213 =>
   (m72 x213.day 0 v_0.bound).bind fun r225 =>
   if r225 then (
    if 0 < (s127 : Int) then (
     (v_0.parts[((s127 : Int) - 1).toNat]?).bind fun x232 =>
     some (decide (x213.day ≤ x232.day)))
    else
    some false)
   else
   some true
  ) : Option (Bool)).bind fun t210 =>
  if t210 then (
   some (.inr (.inr 1)))
  else
  some (.inl (s127 + 1)))
 else
 some (.inr (.inl ()))
noncomputable def m50_2 (r7 : List Paragraph) (s284 : Nat) : Option ((Nat) ⊕ ((Unit) ⊕ Int)) :=
 if (s284 : Int) < (r7.length : Int) then (
  ((
   (r7[s284]?).bind fun x334 =>
   (m72 x334.anchor 1 999).bind fun r342 =>
   if r342 then (
    (m73 x334.text).bind fun r347 =>
    some (!r347))
   else
   some true
  ) : Option (Bool)).bind fun t331 =>
  if t331 then (
   some (.inr (.inr 1)))
  else
  some (.inl (s284 + 1)))
 else
 some (.inr (.inl ()))
noncomputable def m50_4 (s392 : Nat) (r7 : List Paragraph) (s456 : Nat) : Option ((Nat) ⊕ ((Unit) ⊕ ((Nat) ⊕ ((Unit) ⊕ Int)))) :=
 if (s456 : Int) < (s392 : Int) then (
  (r7[s456]?).bind fun x484 =>
  (r7[s392]?).bind fun x492 =>
  if x484.anchor = x492.anchor then (
   some (.inr (.inr (.inr (.inr 6)))))
  else
  chk (-9223372036854775808 ≤ ((s456 : Int) + 1) ∧ ((s456 : Int) + 1) ≤ 9223372036854775807) <|
  some (.inl (s456 + 1)))
 else
 some (.inr (.inl ()))
noncomputable def m50_3 (r7 : List Paragraph) (s392 : Nat) : Option ((Nat) ⊕ ((Unit) ⊕ Int)) :=
 if (s392 : Int) < (r7.length : Int) then (
  (loopO (m50_4 s392 r7) 0).bind fun e452 => match e452 with
  | .inr z => some z
  | .inl t455 =>
  some (.inl (s392 + 1)))
 else
 some (.inr (.inl ()))
noncomputable def m50 (v_0 : Volume) : Option (Int) :=
 (m71 v_0).bind fun r7 =>
 ((
  if 6 < (v_0.parts.length : Int) then (
   some true)
  else
  some (decide (30 < (r7.length : Int)))
 ) : Option (Bool)).bind fun t17 =>
 if t17 then (
  some 3)
 else
 ((
  (m72 v_0.number 1 99).bind fun r53 =>
  if r53 then (
   (m72 v_0.bound 0 99999).bind fun r58 =>
   if r58 then (
    (m72 v_0.height 1 60).bind fun r63 =>
    if r63 then (
     (m72 v_0.width 10 80).bind fun r68 =>
     some (!r68))
    else
    some true)
   else
   some true)
  else
  some true
 ) : Option (Bool)).bind fun t50 =>
 if t50 then (
  some 1)
 else
 (loopO (m50_1 v_0) 0).bind fun e123 => match e123 with
 | .inr z => some z
 | .inl t126 =>
 (loopO (m50_2 r7) 0).bind fun e280 => match e280 with
 | .inr z => some z
 | .inl t283 =>
 (loopO (m50_3 r7) 0).bind fun e388 => match e388 with
 | .inr z => some z
 | .inl t391 =>
 some 0
noncomputable def m49 (a_0 : Erratum) (b_1 : Erratum) : Option (Bool) :=
 ((
  if a_0.day < b_1.day then (
   some true)
  else
  if a_0.day = b_1.day then (
   some (decide (a_0.number < b_1.number)))
  else
  some false
 ) : Option (Bool)).bind fun t13 =>
 some t13
noncomputable def m25  : Option (Volume × List Erratum) :=
 some ((⟨3, 50, 3, 10, ([(⟨40, ([(⟨11, [84, 104, 101, 32, 72, 111, 117, 115, 101, 32, 109, 101, 116, 32, 97, 116, 32, 116, 119, 111, 46]⟩ : Paragraph), (⟨12, [80, 114, 97, 121, 101, 114, 115, 46]⟩ : Paragraph)] : List Paragraph)⟩ : Part), (⟨44, ([(⟨15, [65, 32, 98, 105, 108, 108, 32, 119, 97, 115, 32, 114, 101, 97, 100, 46]⟩ : Paragraph)] : List Paragraph)⟩ : Part)] : List Part)⟩ : Volume), ([(⟨1, 45, 0, 12, [80, 114, 97, 121, 101, 114, 115, 32, 119, 101, 114, 101, 32, 115, 97, 105, 100, 46], 0⟩ : Erratum), (⟨2, 60, 1, 11, [], 0⟩ : Erratum), (⟨3, 60, 2, 11, [84, 104, 101, 32, 83, 112, 101, 97, 107, 101, 114, 32, 116, 111, 111, 107, 32, 116, 104, 101, 32, 99, 104, 97, 105, 114, 46], 20⟩ : Erratum)] : List Erratum))
noncomputable def m47_1 (v_0 : Volume) (s87 : Nat × List Paragraph) : Option ((Nat × List Paragraph) ⊕ (List Paragraph)) :=
 if (s87.1 : Int) < (v_0.parts.length : Int) then (
  (v_0.parts[s87.1]?).bind fun x117 =>
  chk (s87.2.length + x117.paragraphs.length ≤ 1073741824) <|
  some (.inl ((s87.1 + 1), (s87.2 ++ x117.paragraphs))))
 else
 some (.inr s87.2)
noncomputable def m47 (v_0 : Volume) : Option (List Paragraph) :=
 (loopO (m47_1 v_0) (0, ([] : List Paragraph))).bind fun e82 =>
 some e82
noncomputable def m40 (n_0 : Int) (low : Int) (high : Int) : Option (Bool) :=
 ((
  if low ≤ n_0 then (
   some (decide (n_0 ≤ high)))
  else
  some false
 ) : Option (Bool)).bind fun t4 =>
 some t4
noncomputable def m34 (n_0 : Int) : Option (Bool) :=
 (m40 n_0 0 99999).bind fun r1 =>
 some r1
noncomputable def m102 (x_0 : Paragraph) (f0_ : Paragraph → Option Bool) : Option (Bool) :=
 (f0_ x_0).bind fun r4 =>
 some (!r4)
noncomputable def m120_1 (s_0 : List Paragraph) (f_1 : Paragraph → Option Bool) (s23 : Nat) : Option ((Nat) ⊕ ((Unit) ⊕ Int)) :=
 if (s23 : Int) < (s_0.length : Int) then (
  (s_0[s23]?).bind fun x46 =>
  (f_1 x46).bind fun r54 =>
  if r54 then (
   some (.inr (.inr (s23 : Int))))
  else
  some (.inl (s23 + 1)))
 else
 some (.inr (.inl ()))
noncomputable def m120 (s_0 : List Paragraph) (f_1 : Paragraph → Option Bool) : Option (Int) :=
 (loopO (m120_1 s_0 f_1) 0).bind fun e19 => match e19 with
 | .inr z => some z
 | .inl t22 =>
 some (-1)
noncomputable def m101 (s_0 : List Paragraph) (f_1 : Paragraph → Option Bool) : Option (Bool) :=
 (m120 s_0 f_1).bind fun r1 =>
 some (decide (0 ≤ r1))
noncomputable def m67 (l_0 : List Paragraph) (right : Paragraph → Option Bool) : Option (Bool) :=
 (m101 l_0 (fun x0_ => m102 x0_ right)).bind fun r5 =>
 some (!r5)
noncomputable def m69 (n_0 : Int) : Option (Bool) :=
 (m40 n_0 1 999).bind fun r1 =>
 some r1
noncomputable def m122 (x_0 : Int) (f0_ : Int → Option Bool) : Option (Bool) :=
 (f0_ x_0).bind fun r1 =>
 some (!r1)
noncomputable def m136_1 (s_0 : List UInt8) (f_1 : Int → Option Bool) (s23 : Nat) : Option ((Nat) ⊕ ((Unit) ⊕ Int)) :=
 if (s23 : Int) < (s_0.length : Int) then (
  (s_0[s23]?).bind fun x46 =>
  (f_1 (x46.toNat : Int)).bind fun r54 =>
  if r54 then (
   some (.inr (.inr (s23 : Int))))
  else
  some (.inl (s23 + 1)))
 else
 some (.inr (.inl ()))
noncomputable def m136 (s_0 : List UInt8) (f_1 : Int → Option Bool) : Option (Int) :=
 (loopO (m136_1 s_0 f_1) 0).bind fun e19 => match e19 with
 | .inr z => some z
 | .inl t22 =>
 some (-1)
noncomputable def m121 (s_0 : List UInt8) (f_1 : Int → Option Bool) : Option (Bool) :=
 (m136 s_0 f_1).bind fun r1 =>
 some (decide (0 ≤ r1))
noncomputable def m103 (l_0 : List UInt8) (right : Int → Option Bool) : Option (Bool) :=
 (m121 l_0 (fun x0_ => m122 x0_ right)).bind fun r5 =>
 some (!r5)
noncomputable def m104 (c_0 : Int) : Option (Bool) :=
 ((
  if (32 : Int) ≤ c_0 then (
   some (decide (c_0 ≤ 126)))
  else
  some false
 ) : Option (Bool)).bind fun t4 =>
 some t4
noncomputable def m70 (s_0 : Bytes) : Option (Bool) :=
 ((
  (m40 (s_0.length : Int) 1 200).bind fun r20 =>
  if r20 then (
   chk (s_0.length ≤ 1073741824) <|
   (m103 s_0 (m104)).bind fun r32 =>
   some r32)
  else
  some false
 ) : Option (Bool)).bind fun t17 =>
 some t17
noncomputable def m68 (p_0 : Paragraph) : Option (Bool) :=
 ((
  (m69 p_0.anchor).bind fun r16 =>
  if r16 then (
   (m70 p_0.text).bind fun r21 =>
   some r21)
  else
  some false
 ) : Option (Bool)).bind fun t13 =>
 some t13
noncomputable def m48_1 (v_0 : Volume) (s59 : Nat) : Option ((Nat) ⊕ ((Unit) ⊕ Bool)) :=
 if (s59 : Int) < (v_0.parts.length : Int) then (
  (v_0.parts[s59]?).bind fun x112 =>
  ((
   (m34 x112.day).bind fun r155 =>
   if r155 then (
    if v_0.bound < x112.day then (
     some true)
    else
    if 0 < (s59 : Int) then (
     (v_0.parts[((s59 : Int) - 1).toNat]?).bind fun x166 =>
     some (decide (x112.day ≤ x166.day)))
    else
    some false)
   else
   some true
  ) : Option (Bool)).bind fun t152 =>
  if t152 then (
   some (.inr (.inr false)))
  else
  some (.inl (s59 + 1)))
 else
 some (.inr (.inl ()))
noncomputable def m48 (v_0 : Volume) : Option (Bool) :=
 (loopO (m48_1 v_0) 0).bind fun e55 => match e55 with
 | .inr z => some z
 | .inl t58 =>
 ((
  (m40 v_0.number 1 99).bind fun r227 =>
  if r227 then (
   (m34 v_0.bound).bind fun r232 =>
   if r232 then (
    (m40 v_0.height 1 60).bind fun r237 =>
    if r237 then (
     (m40 v_0.width 10 80).bind fun r242 =>
     if r242 then (
      (m47 v_0).bind fun r247 =>
      (m67 r247 (m68)).bind fun r255 =>
      some r255)
     else
     some false)
    else
    some false)
   else
   some false)
  else
  some false
 ) : Option (Bool)).bind fun t224 =>
 some t224
noncomputable def m27_1 (r7 : List Paragraph) (s98 : Nat × (List (Int × Bool))) : Option ((Nat × (List (Int × Bool))) ⊕ (((List (Int × Bool))) ⊕ Int)) :=
 if (s98.1 : Int) < (r7.length : Int) then (
  (r7[s98.1]?).bind fun x121 =>
  if (lkp s98.2 x121.anchor).getD false then (
   some (.inr (.inr 6)))
  else
  some (.inl ((s98.1 + 1), (put s98.2 x121.anchor true))))
 else
 some (.inr (.inl s98.2))
noncomputable def m27 (v_0 : Volume) : Option (Int) :=
 (m47 v_0).bind fun r7 =>
 ((
  if 6 < (v_0.parts.length : Int) then (
   some true)
  else
  some (decide (30 < (r7.length : Int)))
 ) : Option (Bool)).bind fun t30 =>
 if t30 then (
  some 3)
 else
 (m48 v_0).bind fun r48 =>
 if r48 then (
  (loopO (m27_1 r7) (0, ([] : List (Int × Bool)))).bind fun e94 => match e94 with
  | .inr z => some z
  | .inl t97 =>
  some 0)
 else
 some 1
noncomputable def m76 (x_0 : Erratum) (f0_ : Erratum → Option Bool) : Option (Bool) :=
 (f0_ x_0).bind fun r4 =>
 some (!r4)
noncomputable def m105_1 (s_0 : List Erratum) (f_1 : Erratum → Option Bool) (s23 : Nat) : Option ((Nat) ⊕ ((Unit) ⊕ Int)) :=
 if (s23 : Int) < (s_0.length : Int) then (
  (s_0[s23]?).bind fun x46 =>
  (f_1 x46).bind fun r54 =>
  if r54 then (
   some (.inr (.inr (s23 : Int))))
  else
  some (.inl (s23 + 1)))
 else
 some (.inr (.inl ()))
noncomputable def m105 (s_0 : List Erratum) (f_1 : Erratum → Option Bool) : Option (Int) :=
 (loopO (m105_1 s_0 f_1) 0).bind fun e19 => match e19 with
 | .inr z => some z
 | .inl t22 =>
 some (-1)
noncomputable def m75 (s_0 : List Erratum) (f_1 : Erratum → Option Bool) : Option (Bool) :=
 (m105 s_0 f_1).bind fun r1 =>
 some (decide (0 ≤ r1))
noncomputable def m52 (l_0 : List Erratum) (right : Erratum → Option Bool) : Option (Bool) :=
 (m75 l_0 (fun x0_ => m76 x0_ right)).bind fun r5 =>
 some (!r5)
noncomputable def m53 (x_0 : Erratum) : Option (Bool) :=
 ((
  (m40 x_0.number 1 999).bind fun r22 =>
  if r22 then (
   (m34 x_0.day).bind fun r27 =>
   if r27 then (
    (m69 x_0.anchor).bind fun r32 =>
    some (!r32))
   else
   some true)
  else
  some true
 ) : Option (Bool)).bind fun t19 =>
 if t19 then (
  some false)
 else
 if x_0.kind = 0 then (
  ((
   (m70 x_0.text).bind fun r114 =>
   if r114 then (
    some (decide (x_0.new_ = 0)))
   else
   some false
  ) : Option (Bool)).bind fun t111 =>
  some t111)
 else
 if x_0.kind = 1 then (
  ((
   if x_0.text = [] then (
    some (decide (x_0.new_ = 0)))
   else
   some false
  ) : Option (Bool)).bind fun t146 =>
  some t146)
 else
 if x_0.kind = 2 then (
  ((
   (m70 x_0.text).bind fun r180 =>
   if r180 then (
    (m69 x_0.new_).bind fun r185 =>
    some r185)
   else
   some false
  ) : Option (Bool)).bind fun t177 =>
  some t177)
 else
 some false
noncomputable def m78 (s_0 : List Erratum) : Option (List Erratum) :=
 chk (([] : List Erratum).length + s_0.length ≤ 1073741824) <|
 some (([] : List Erratum) ++ s_0)
noncomputable def m100 (x_0 : Int) : Option (Bool) :=
 some (decide (x_0 ≠ x_0))
noncomputable def m66 (x_0 : Int) (y_1 : Int) : Option (Int) :=
 (m100 x_0).bind fun r1 =>
 (m100 y_1).bind fun r4 =>
 if r1 then (
  if r4 then (
   some 0)
  else
  some (-1))
 else
 if r4 then (
  some 1)
 else
 if x_0 < y_1 then (
  some (-1))
 else
 if y_1 < x_0 then (
  some 1)
 else
 some 0
noncomputable def m65_1 (vals : List Int) (s20 : Nat) : Option ((Nat) ⊕ ((Unit) ⊕ Int)) :=
 if (s20 : Int) < (vals.length : Int) then (
  (vals[s20]?).bind fun x40 =>
  if x40 ≠ 0 then (
   some (.inr (.inr x40)))
  else
  some (.inl (s20 + 1)))
 else
 some (.inr (.inl ()))
noncomputable def m65 (vals : List Int) : Option (Int) :=
 (loopO (m65_1 vals) 0).bind fun e16 => match e16 with
 | .inr z => some z
 | .inl t19 =>
 some 0
noncomputable def m46 (a_0 : Erratum) (b_1 : Erratum) : Option (Int) :=
 (m66 a_0.day b_1.day).bind fun r7 =>
 (m66 a_0.number b_1.number).bind fun r11 =>
 (m65 ([r7, r11] : List Int)).bind fun r19 =>
 some r19
noncomputable def m77_1 (t8 : List Erratum) (l22 : List Erratum) (f1_ : Int) (yield : Erratum → Option Bool) (s51 : Nat) : Option ((Nat) ⊕ ((Unit) ⊕ Unit)) :=
 if (s51 : Int) < (t8.length : Int) then (
  (l22[s51]?).bind fun x77 =>
  ((
   if f1_ < x77.day then (
    some true)
   else
   (yield x77).bind fun r96 =>
   some (!r96)
  ) : Option (Bool)).bind fun t90 =>
  if t90 then (
   some (.inr (.inr ())))
  else
  some (.inl (s51 + 1)))
 else
 some (.inr (.inl ()))
noncomputable def m77 (yield : Erratum → Option Bool) (f0_ : List Erratum) (f1_ : Int) : Option (Unit) :=
 ((
  chk (([] : List Erratum).length + f0_.length ≤ 1073741824) <|
  some (([] : List Erratum) ++ f0_)
 ) : Option (List Erratum)).bind fun t8 =>
 (sortO (m46) t8).bind fun l22 =>
 (loopO (m77_1 t8 l22 f1_ yield) 0).bind fun e47 => match e47 with
 | .inr z => some z
 | .inl t50 =>
 some ()
noncomputable def m54_1 (r10 : List Paragraph) (s50 : Nat × (List (Int × Bool))) : Option ((Nat × (List (Int × Bool))) ⊕ ((List (Int × Bool)))) :=
 if (s50.1 : Int) < (r10.length : Int) then (
  (r10[s50.1]?).bind fun x70 =>
  some (.inl ((s50.1 + 1), (put s50.2 x70.anchor true))))
 else
 some (.inr s50.2)
noncomputable def m54_2 (t273 : List Erratum) (l287 : List Erratum) (s353 : Nat × (List (Int × Bool))) : Option ((Nat × (List (Int × Bool))) ⊕ (((List (Int × Bool))) ⊕ (((List (Int × Bool))) ⊕ (Nat × (List (Int × Bool)))))) :=
 if (s353.1 : Int) < (t273.length : Int) then (
  (l287[s353.1]?).bind fun x387 =>
  if 99999 < x387.day then (
   some (.inr (.inr (.inl s353.2))))
  else
  ((
   if (lkp s353.2 x387.anchor).getD false then (
    ((
     if x387.kind = 2 then (
      some (put s353.2 x387.new_ true))
     else
     some s353.2
    ) : Option ((List (Int × Bool)))).bind fun t449 =>
    some (.inr t449))
   else
   some (.inl 7)
  ) : Option ((Nat) ⊕ ((List (Int × Bool))))).bind fun t425 => match t425 with
  | .inl t428 => (
   some (.inr (.inr (.inr (t428, s353.2)))))
  | .inr t429 => (
   some (.inl ((s353.1 + 1), t429))))
 else
 some (.inr (.inl s353.2))
noncomputable def m54 (v_0 : Volume) (errata : List Erratum) : Option (Int) :=
 (m47 v_0).bind fun r10 =>
 (loopO (m54_1 r10) (0, ([] : List (Int × Bool)))).bind fun e47 =>
 ((
  ((
   chk (([] : List Erratum).length + errata.length ≤ 1073741824) <|
   some (([] : List Erratum) ++ errata)
  ) : Option (List Erratum)).bind fun t273 =>
  (sortO (m46) t273).bind fun l287 =>
  (loopO (m54_2 t273 l287) (0, e47)).bind fun e349 => match e349 with
  | .inr z => some z
  | .inl t352 =>
  some (.inl t352)
 ) : Option (((List (Int × Bool))) ⊕ (Nat × (List (Int × Bool))))).bind fun t261 => match t261 with
 | .inl t264 => (
  some 0)
 | .inr t265 => (
  some (t265.1 : Int))
noncomputable def m33_1 (r51 : List Paragraph) (s91 : Nat × (List (Int × Bool))) : Option ((Nat × (List (Int × Bool))) ⊕ ((List (Int × Bool)))) :=
 if (s91.1 : Int) < (r51.length : Int) then (
  (r51[s91.1]?).bind fun x111 =>
  some (.inl ((s91.1 + 1), (put s91.2 x111.anchor true))))
 else
 some (.inr s91.2)
noncomputable def m33_2 (errata : List Erratum) (s185 : Nat × (List (Int × Bool)) × (List (Int × Bool))) : Option ((Nat × (List (Int × Bool)) × (List (Int × Bool))) ⊕ (((List (Int × Bool)) × (List (Int × Bool))) ⊕ Int)) :=
 if (s185.1 : Int) < (errata.length : Int) then (
  (errata[s185.1]?).bind fun x219 =>
  ((
   if (lkp s185.2.1 x219.number).getD false then (
    some true)
   else
   if x219.kind = 2 then (
    some ((lkp s185.2.2 x219.new_).getD false))
   else
   some false
  ) : Option (Bool)).bind fun t236 =>
  if t236 then (
   some (.inr (.inr 6)))
  else
  ((
   if x219.kind = 2 then (
    some (put s185.2.2 x219.new_ true))
   else
   some s185.2.2
  ) : Option ((List (Int × Bool)))).bind fun t254 =>
  some (.inl ((s185.1 + 1), (put s185.2.1 x219.number true), t254)))
 else
 some (.inr (.inl (s185.2.1, s185.2.2)))
noncomputable def m33 (v_0 : Volume) (errata : List Erratum) : Option (Int) :=
 (m27 v_0).bind fun r7 =>
 if r7 ≠ 0 then (
  some r7)
 else
 if 20 < (errata.length : Int) then (
  some 3)
 else
 (m52 errata (m53)).bind fun r40 =>
 if r40 then (
  (m47 v_0).bind fun r51 =>
  (loopO (m33_1 r51) (0, ([] : List (Int × Bool)))).bind fun e88 =>
  (loopO (m33_2 errata) (0, ([] : List (Int × Bool)), e88)).bind fun e181 => match e181 with
  | .inr z => some z
  | .inl t184 =>
  (m54 v_0 errata).bind fun r261 =>
  some r261)
 else
 some 1
noncomputable def m41_2 (x81 : List entry) (anchor : Int) (s43 : Nat × Nat × Nat × Bool) (s113 : Nat × Nat × Nat × Bool) : Option ((Nat × Nat × Nat × Bool) ⊕ ((Nat × Nat × Bool) ⊕ ((Nat × Nat × Nat × Bool) ⊕ (Nat × Nat × Bool)))) :=
 if (s113.2.2.1 : Int) < (x81.length : Int) then (
  (x81[s113.2.2.1]?).bind fun x134 =>
  if x134.paragraph.anchor = anchor then (
   Option.map (fun z => .inr (.inr z)) (
   some (.inr (s43.2.2.1, s113.2.2.1, true))))
  else
  some (.inl (s113.1, s113.2.1, (s113.2.2.1 + 1), s113.2.2.2)))
 else
 some (.inr (.inl (s113.1, s113.2.1, s113.2.2.2)))
noncomputable def m41_1 (b_0 : edition) (anchor : Int) (s43 : Nat × Nat × Nat × Bool) : Option ((Nat × Nat × Nat × Bool) ⊕ (Nat × Nat × Bool)) :=
 if (s43.2.2.1 : Int) < (b_0.parts.length : Int) then (
  (b_0.parts[s43.2.2.1]?).bind fun x81 =>
  (loopO (m41_2 x81 anchor s43) (s43.1, s43.2.1, 0, s43.2.2.2)).bind fun e109 => match e109 with
  | .inr z => some z
  | .inl t112 =>
  some (.inl (t112.1, t112.2.1, (s43.2.2.1 + 1), t112.2.2)))
 else
 some (.inr (s43.1, s43.2.1, s43.2.2.2))
noncomputable def m41 (b_0 : edition) (anchor : Int) : Option (Int × Int × Bool) :=
 (loopO (m41_1 b_0 anchor) (0, 0, 0, false)).bind fun e40 =>
 some ((e40.1 : Int), (e40.2.1 : Int), e40.2.2)
noncomputable def m56  : Option (Unit) :=
 some ()
noncomputable def m35_2 (x559 : Part) (s645 : Nat × List entry) : Option ((Nat × List entry) ⊕ (List entry)) :=
 if (s645.1 : Int) < (x559.paragraphs.length : Int) then (
  (x559.paragraphs[s645.1]?).bind fun x672 =>
  chk (s645.2.length + 1 ≤ 1073741824) <|
  some (.inl ((s645.1 + 1), (s645.2 ++ [(⟨x672, false⟩ : entry)]))))
 else
 some (.inr s645.2)
noncomputable def m35_1 (v_0 : Volume) (s446 : Nat × List (List entry)) : Option ((Nat × List (List entry)) ⊕ (List (List entry))) :=
 if (s446.1 : Int) < (v_0.parts.length : Int) then (
  (v_0.parts[s446.1]?).bind fun x559 =>
  (loopO (m35_2 x559) (0, ([] : List entry))).bind fun e640 =>
  chk (s446.2.length + 1 ≤ 1073741824) <|
  some (.inl ((s446.1 + 1), (s446.2 ++ [e640]))))
 else
 some (.inr s446.2)
noncomputable def m35_5 (x3142 : List entry) (x2432 : Erratum) (s3110 : Nat × Nat × Nat × Bool) (s3168 : Nat × Nat × Nat × Bool) : Option ((Nat × Nat × Nat × Bool) ⊕ ((Nat × Nat × Bool) ⊕ ((Nat × Nat × Nat × Bool) ⊕ (Nat × Nat × Bool)))) :=
 if (s3168.2.2.1 : Int) < (x3142.length : Int) then (
  (x3142[s3168.2.2.1]?).bind fun x3185 =>
  if x3185.paragraph.anchor = x2432.anchor then (
   Option.map (fun z => .inr (.inr z)) (
   some (.inr (s3110.2.2.1, s3168.2.2.1, true))))
  else
  chk (-9223372036854775808 ≤ ((s3168.2.2.1 : Int) + 1) ∧ ((s3168.2.2.1 : Int) + 1) ≤ 9223372036854775807) <|
  some (.inl (s3168.1, s3168.2.1, (s3168.2.2.1 + 1), s3168.2.2.2)))
 else
 some (.inr (.inl (s3168.1, s3168.2.1, s3168.2.2.2)))
noncomputable def m35_4 (s2201 : Nat × List (List entry)) (x2432 : Erratum) (s3110 : Nat × Nat × Nat × Bool) : Option ((Nat × Nat × Nat × Bool) ⊕ (Nat × Nat × Bool)) :=
 if (s3110.2.2.1 : Int) < (s2201.2.length : Int) then (
  (s2201.2[s3110.2.2.1]?).bind fun x3142 =>
  (loopO (m35_5 x3142 x2432 s3110) (s3110.1, s3110.2.1, 0, s3110.2.2.2)).bind fun e3164 => match e3164 with
  | .inr z => some z
  | .inl t3167 =>
  chk (-9223372036854775808 ≤ ((s3110.2.2.1 : Int) + 1) ∧ ((s3110.2.2.1 : Int) + 1) ≤ 9223372036854775807) <|
  some (.inl (t3167.1, t3167.2.1, (s3110.2.2.1 + 1), t3167.2.2)))
 else
 some (.inr (s3110.1, s3110.2.1, s3110.2.2.2))
noncomputable def m35_3 (t1715 : List Erratum) (l1729 : List Erratum) (to_2 : Int) (s2201 : Nat × List (List entry)) : Option ((Nat × List (List entry)) ⊕ ((List (List entry)) ⊕ (List (List entry)))) :=
 if (s2201.1 : Int) < (t1715.length : Int) then (
  (l1729[s2201.1]?).bind fun x2432 =>
  ((
   if to_2 < x2432.day then (
    some (true, s2201.2))
   else
   ((
    ((
     (loopO (m35_4 s2201 x2432) (0, 0, 0, false)).bind fun e3107 =>
     some (e3107.2.1, e3107.1, e3107.2.2)
    ) : Option (Nat × Nat × Bool)).bind fun t3075 =>
    ((
     if t3075.2.2 then (
      (m56).bind fun r3365 =>
      chk (0 ≤ x2432.kind) <|
      if x2432.kind = 0 then (
       ((
        (s2201.2[t3075.2.1]?).bind fun x3419 =>
        (x3419[t3075.1]?).bind fun x3427 =>
        ((
         if x3427.removed then (
          some s2201.2)
         else
         some (s2201.2.set t3075.2.1 (x3419.set t3075.1 (⟨(⟨x3427.paragraph.anchor, x2432.text⟩ : Paragraph), x3427.removed⟩ : entry)))
        ) : Option (List (List entry))).bind fun t3435 =>
        some t3435
       ) : Option (List (List entry))).bind fun t3409 =>
       some t3409)
      else
      if x2432.kind = 1 then (
       ((
        (s2201.2[t3075.2.1]?).bind fun x3488 =>
        (x3488[t3075.1]?).bind fun x3496 =>
        some (s2201.2.set t3075.2.1 (x3488.set t3075.1 (⟨x3496.paragraph, true⟩ : entry)))
       ) : Option (List (List entry))).bind fun t3478 =>
       some t3478)
      else
      if x2432.kind = 2 then (
       ((
        (s2201.2[t3075.2.1]?).bind fun x3557 =>
        chk (-9223372036854775808 ≤ ((t3075.1 : Int) + 1) ∧ ((t3075.1 : Int) + 1) ≤ 9223372036854775807) <|
        chk (x3557.length + 1 ≤ 1073741824) <|
        chk (((t3075.1 : Int) + 1).toNat ≤ x3557.length) <|
        some (s2201.2.set t3075.2.1 (x3557.take (((t3075.1 : Int) + 1).toNat) ++ [(⟨(⟨x2432.new_, x2432.text⟩ : Paragraph), false⟩ : entry)] ++ x3557.drop (((t3075.1 : Int) + 1).toNat)))
       ) : Option (List (List entry))).bind fun t3547 =>
       some t3547)
      else
      none)
     else
     some s2201.2
    ) : Option (List (List entry))).bind fun t3356 =>
    some t3356
   ) : Option (List (List entry))).bind fun t2845 =>
   some (false, t2845)
  ) : Option (Bool × List (List entry))).bind fun t2642 =>
  if t2642.1 then (
   some (.inr (.inr t2642.2)))
  else
  some (.inl ((s2201.1 + 1), t2642.2)))
 else
 some (.inr (.inl s2201.2))
noncomputable def m35 (v_0 : Volume) (errata : List Erratum) (to_2 : Int) : Option (edition) :=
 (loopO (m35_1 v_0) (0, ([] : List (List entry)))).bind fun e437 =>
 ((
  ((
   chk (([] : List Erratum).length + errata.length ≤ 1073741824) <|
   some (([] : List Erratum) ++ errata)
  ) : Option (List Erratum)).bind fun t1715 =>
  (sortO (m46) t1715).bind fun l1729 =>
  (loopO (m35_3 t1715 l1729 to_2) (0, e437)).bind fun e2193 => match e2193 with
  | .inr z => some z
  | .inl t2196 =>
  some t2196
 ) : Option (List (List entry))).bind fun t1701 =>
 some (⟨v_0, t1701⟩ : edition)
noncomputable def m13_2 (x475 : List entry) (s575 : Nat × List Paragraph) : Option ((Nat × List Paragraph) ⊕ (List Paragraph)) :=
 if (s575.1 : Int) < (x475.length : Int) then (
  (x475[s575.1]?).bind fun x608 =>
  ((
   if x608.removed then (
    some s575.2)
   else
   chk (s575.2.length + 1 ≤ 1073741824) <|
   some (s575.2 ++ [x608.paragraph])
  ) : Option (List Paragraph)).bind fun t627 =>
  some (.inl ((s575.1 + 1), t627)))
 else
 some (.inr s575.2)
noncomputable def m13_1 (r25 : edition) (s366 : Nat × List Paragraph) : Option ((Nat × List Paragraph) ⊕ (List Paragraph)) :=
 if (s366.1 : Int) < (r25.parts.length : Int) then (
  (r25.parts[s366.1]?).bind fun x475 =>
  (loopO (m13_2 x475) (0, s366.2)).bind fun e570 =>
  some (.inl ((s366.1 + 1), e570)))
 else
 some (.inr s366.2)
noncomputable def m13 (v_0 : Volume) (errata : List Erratum) (to_2 : Int) : Option (List Paragraph × Int) :=
 (m33 v_0 errata).bind fun r7 =>
 if r7 ≠ 0 then (
  some (([] : List Paragraph), r7))
 else
 (m34 to_2).bind fun r16 =>
 if r16 then (
  (m35 v_0 errata to_2).bind fun r25 =>
  (loopO (m13_1 r25) (0, ([] : List Paragraph))).bind fun e361 =>
  some (e361, 0))
 else
 some (([] : List Paragraph), 2)
noncomputable def m37_2 (x994 : List entry) (v_0 : Volume) (s763 : Nat × Int × List printed) (s1208 : Nat × Nat × Int × List printed) : Option ((Nat × Nat × Int × List printed) ⊕ (Int × List printed)) :=
 if (s1208.2.1 : Int) < (x994.length : Int) then (
  ((
   (x994[s1208.2.1]?).bind fun x1281 =>
   if x1281.removed then (
    some (s1208.1, s1208.2.2.1, s1208.2.2.2))
   else
   chk (-9223372036854775808 ≤ ((s1208.1 : Int) + 1) ∧ ((s1208.1 : Int) + 1) ≤ 9223372036854775807) <|
   chk (-9223372036854775808 ≤ ((x1281.paragraph.text.length : Int) + v_0.width) ∧ ((x1281.paragraph.text.length : Int) + v_0.width) ≤ 9223372036854775807) <|
   chk (-9223372036854775808 ≤ (((x1281.paragraph.text.length : Int) + v_0.width) - 1) ∧ (((x1281.paragraph.text.length : Int) + v_0.width) - 1) ≤ 9223372036854775807) <|
   chk (0 ≤ (((x1281.paragraph.text.length : Int) + v_0.width) - 1) ∧ (((x1281.paragraph.text.length : Int) + v_0.width) - 1) ≤ 9223372036854775807 ∧ 0 < v_0.width) <|
   chk (0 ≤ s1208.2.2.1 ∧ s1208.2.2.1 ≤ 9223372036854775807 ∧ 0 < v_0.height) <|
   chk (-9223372036854775808 ≤ (s763.2.1 + (s1208.2.2.1 / v_0.height)) ∧ (s763.2.1 + (s1208.2.2.1 / v_0.height)) ≤ 9223372036854775807) <|
   chk (0 ≤ s1208.2.2.1 ∧ 0 < v_0.height) <|
   chk (-9223372036854775808 ≤ ((s1208.2.2.1 % v_0.height) + 1) ∧ ((s1208.2.2.1 % v_0.height) + 1) ≤ 9223372036854775807) <|
   (v_0.parts[s763.1]?).bind fun x1314 =>
   chk (s1208.2.2.2.length + ([(⟨(⟨x1281.paragraph.anchor, (s763.2.1 + (s1208.2.2.1 / v_0.height)), ((s1208.2.2.1 % v_0.height) + 1), ((((x1281.paragraph.text.length : Int) + v_0.width) - 1) / v_0.width)⟩ : Place), x1314.day, ((s1208.1 : Int) + 1)⟩ : printed)] : List printed).length ≤ 1073741824) <|
   chk (-9223372036854775808 ≤ (s1208.2.2.1 + ((((x1281.paragraph.text.length : Int) + v_0.width) - 1) / v_0.width)) ∧ (s1208.2.2.1 + ((((x1281.paragraph.text.length : Int) + v_0.width) - 1) / v_0.width)) ≤ 9223372036854775807) <|
   some ((s1208.1 + 1), (s1208.2.2.1 + ((((x1281.paragraph.text.length : Int) + v_0.width) - 1) / v_0.width)), (s1208.2.2.2 ++ ([(⟨(⟨x1281.paragraph.anchor, (s763.2.1 + (s1208.2.2.1 / v_0.height)), ((s1208.2.2.1 % v_0.height) + 1), ((((x1281.paragraph.text.length : Int) + v_0.width) - 1) / v_0.width)⟩ : Place), x1314.day, ((s1208.1 : Int) + 1)⟩ : printed)] : List printed)))
  ) : Option (Nat × Int × List printed)).bind fun t1276 =>
  some (.inl (t1276.1, (s1208.2.1 + 1), t1276.2.1, t1276.2.2)))
 else
 some (.inr (s1208.2.2.1, s1208.2.2.2))
noncomputable def m37_1 (r7 : edition) (v_0 : Volume) (s763 : Nat × Int × List printed) : Option ((Nat × Int × List printed) ⊕ (List printed)) :=
 if (s763.1 : Int) < (r7.parts.length : Int) then (
  (r7.parts[s763.1]?).bind fun x994 =>
  (loopO (m37_2 x994 v_0 s763) (0, 0, 0, s763.2.2)).bind fun e1203 =>
  chk (-9223372036854775808 ≤ (e1203.1 + v_0.height) ∧ (e1203.1 + v_0.height) ≤ 9223372036854775807) <|
  chk (-9223372036854775808 ≤ ((e1203.1 + v_0.height) - 1) ∧ ((e1203.1 + v_0.height) - 1) ≤ 9223372036854775807) <|
  chk (0 ≤ ((e1203.1 + v_0.height) - 1) ∧ ((e1203.1 + v_0.height) - 1) ≤ 9223372036854775807 ∧ 0 < v_0.height) <|
  chk (-9223372036854775808 ≤ (s763.2.1 + (((e1203.1 + v_0.height) - 1) / v_0.height)) ∧ (s763.2.1 + (((e1203.1 + v_0.height) - 1) / v_0.height)) ≤ 9223372036854775807) <|
  some (.inl ((s763.1 + 1), (s763.2.1 + (((e1203.1 + v_0.height) - 1) / v_0.height)), e1203.2)))
 else
 some (.inr s763.2.2)
noncomputable def m37 (v_0 : Volume) (errata : List Erratum) : Option (List printed) :=
 (m35 v_0 errata v_0.bound).bind fun r7 =>
 (loopO (m37_1 r7 v_0) (0, 1, ([] : List printed))).bind fun e758 =>
 some e758
noncomputable def m17_1 (r16 : List printed) (s94 : Nat × List Place) : Option ((Nat × List Place) ⊕ (List Place)) :=
 if (s94.1 : Int) < (r16.length : Int) then (
  (r16[s94.1]?).bind fun x121 =>
  chk (s94.2.length + 1 ≤ 1073741824) <|
  some (.inl ((s94.1 + 1), (s94.2 ++ [x121.place]))))
 else
 some (.inr s94.2)
noncomputable def m17 (v_0 : Volume) (errata : List Erratum) : Option (List Place × Int) :=
 (m33 v_0 errata).bind fun r7 =>
 if r7 ≠ 0 then (
  some (([] : List Place), r7))
 else
 (m37 v_0 errata).bind fun r16 =>
 (loopO (m17_1 r16) (0, ([] : List Place))).bind fun e89 =>
 some (e89, 0)
noncomputable def m23_2 (x151 : List entry) (anchor : Int) (s113 : Nat × Nat × Nat × Bool) (s183 : Nat × Nat × Nat × Bool) : Option ((Nat × Nat × Nat × Bool) ⊕ ((Nat × Nat × Bool) ⊕ ((Nat × Nat × Nat × Bool) ⊕ (Nat × Nat × Bool)))) :=
 if (s183.2.2.1 : Int) < (x151.length : Int) then (
  (x151[s183.2.2.1]?).bind fun x204 =>
  if x204.paragraph.anchor = anchor then (
   Option.map (fun z => .inr (.inr z)) (
   some (.inr (s113.2.2.1, s183.2.2.1, true))))
  else
  some (.inl (s183.1, s183.2.1, (s183.2.2.1 + 1), s183.2.2.2)))
 else
 some (.inr (.inl (s183.1, s183.2.1, s183.2.2.2)))
noncomputable def m23_1 (r25 : edition) (anchor : Int) (s113 : Nat × Nat × Nat × Bool) : Option ((Nat × Nat × Nat × Bool) ⊕ (Nat × Nat × Bool)) :=
 if (s113.2.2.1 : Int) < (r25.parts.length : Int) then (
  (r25.parts[s113.2.2.1]?).bind fun x151 =>
  (loopO (m23_2 x151 anchor s113) (s113.1, s113.2.1, 0, s113.2.2.2)).bind fun e179 => match e179 with
  | .inr z => some z
  | .inl t182 =>
  some (.inl (t182.1, t182.2.1, (s113.2.2.1 + 1), t182.2.2)))
 else
 some (.inr (s113.1, s113.2.1, s113.2.2.2))
noncomputable def m23 (v_0 : Volume) (errata : List Erratum) (anchor : Int) (to_3 : Int) : Option (Bytes × Bool × Int) :=
 (m33 v_0 errata).bind fun r7 =>
 if r7 ≠ 0 then (
  some ([], false, r7))
 else
 (m34 to_3).bind fun r16 =>
 if r16 then (
  (m35 v_0 errata to_3).bind fun r25 =>
  ((
   (loopO (m23_1 r25 anchor) (0, 0, 0, false)).bind fun e110 =>
   some (e110.2.1, e110.1, e110.2.2)
  ) : Option (Nat × Nat × Bool)).bind fun t74 =>
  if t74.2.2 then (
   (r25.parts[t74.2.1]?).bind fun x229 =>
   (x229[t74.1]?).bind fun x241 =>
   some (x241.paragraph.text, x241.removed, 0))
  else
  some ([], false, 7))
 else
 some ([], false, 2)
noncomputable def m20_1 (r80 : List printed) (anchor : Int) (style : Int) (v_0 : Volume) (s128 : Nat) : Option ((Nat) ⊕ ((Unit) ⊕ (Bytes × Int))) :=
 if (s128 : Int) < (r80.length : Int) then (
  (r80[s128]?).bind fun x170 =>
  if x170.place.anchor ≠ anchor then (
   some (.inl (s128 + 1)))
  else
  if style = 0 then (
   (m38 ([(.s [118, 111, 108, 46, 32] : Any), (.i v_0.number : Any), (.s [44, 32, 99, 111, 108, 46, 32] : Any), (.i x170.place.column : Any), (.s [44, 32, 108, 46, 32] : Any), (.i x170.place.line : Any)] : List Any)).bind fun r254 =>
   some (.inr (.inr (r254, 0))))
  else
  (m38 ([(.s [118, 111, 108, 46, 32] : Any), (.i v_0.number : Any), (.s [44, 32] : Any), (.i x170.day : Any), (.s [44, 32, 112, 97, 114, 46, 32] : Any), (.i x170.number : Any)] : List Any)).bind fun r263 =>
  some (.inr (.inr (r263, 0))))
 else
 some (.inr (.inl ()))
noncomputable def m20 (v_0 : Volume) (errata : List Erratum) (anchor : Int) (style : Int) (to_4 : Int) : Option (Bytes × Int) :=
 (m33 v_0 errata).bind fun r7 =>
 if r7 ≠ 0 then (
  some ([], r7))
 else
 ((
  if 2 < style then (
   some true)
  else
  if style = 2 then (
   (m34 to_4).bind fun r33 =>
   some (!r33))
  else
  some false
 ) : Option (Bool)).bind fun t25 =>
 if t25 then (
  some ([], 2))
 else
 if style = 2 then (
  (m23 v_0 errata anchor to_4).bind fun r62 =>
  if r62.2.2 ≠ 0 then (
   some ([], r62.2.2))
  else
  (m38 ([(.i anchor : Any), (.s [64] : Any), (.i to_4 : Any)] : List Any)).bind fun r76 =>
  some (r76, 0))
 else
 (m37 v_0 errata).bind fun r80 =>
 (loopO (m20_1 r80 anchor style v_0) 0).bind fun e124 => match e124 with
 | .inr z => some z
 | .inl t127 =>
 some ([], 7)
noncomputable def m61 (cite : Bytes) : Option (cited ⊕ Unit) :=
 (m88 cite [118, 111, 108, 46, 32]).bind fun r6 =>
 ((
  if r6.2 then (
   (m89 cite [99, 111, 108, 46, 32]).bind fun r658 =>
   ((
    if r658 then (
     ((
      (m86 r6.1 [44, 32, 99, 111, 108, 46, 32]).bind fun r882 =>
      if r882.2.2 then (
       (m87 r882.1).bind fun r891 =>
       ((
        if r891.2 then (
         some true)
        else
        (m58 r891.1).bind fun r915 =>
        if r915 ≠ r882.1 then (
         some true)
        else
        (m40 r891.1 0 999999).bind fun r921 =>
        some (!r921)
       ) : Option (Bool)).bind fun t909 =>
       if t909 then (
        some (.inr (.inr (.inr (.inr ())))))
       else
       some (.inl (r891.1, r882.2.1)))
      else
      some (.inr (.inr (.inr (.inr ()))))
     ) : Option ((Int × Bytes) ⊕ ((Int × Int × Int × Int × Bytes) ⊕ ((Int × Int × Int × Int × Bytes) ⊕ (cited ⊕ Unit))))).bind fun t878 => match t878 with
     | .inr z => some z
     | .inl t881 =>
     ((
      (m86 t881.2 [44, 32, 108, 46, 32]).bind fun r962 =>
      if r962.2.2 then (
       (m87 r962.1).bind fun r971 =>
       ((
        if r971.2 then (
         some true)
        else
        (m58 r971.1).bind fun r995 =>
        if r995 ≠ r962.1 then (
         some true)
        else
        (m40 r971.1 0 999999).bind fun r1001 =>
        some (!r1001)
       ) : Option (Bool)).bind fun t989 =>
       if t989 then (
        some (.inr (.inr (.inr (.inr ())))))
       else
       some (.inl (r971.1, r962.2.1)))
      else
      some (.inr (.inr (.inr (.inr ()))))
     ) : Option ((Int × Bytes) ⊕ ((Int × Int × Int × Int × Bytes) ⊕ ((Int × Int × Int × Int × Bytes) ⊕ (cited ⊕ Unit))))).bind fun t958 => match t958 with
     | .inr z => some z
     | .inl t961 =>
     ((
      (m87 t961.2).bind fun r1036 =>
      ((
       if r1036.2 then (
        some true)
       else
       (m58 r1036.1).bind fun r1060 =>
       if r1060 ≠ t961.2 then (
        some true)
       else
       (m40 r1036.1 0 999999).bind fun r1066 =>
       some (!r1066)
      ) : Option (Bool)).bind fun t1054 =>
      if t1054 then (
       some (.inr (.inr (.inr (.inr ())))))
      else
      some (.inl r1036.1)
     ) : Option ((Int) ⊕ ((Int × Int × Int × Int × Bytes) ⊕ ((Int × Int × Int × Int × Bytes) ⊕ (cited ⊕ Unit))))).bind fun t1032 => match t1032 with
     | .inr z => some z
     | .inl t1035 =>
     some (.inl (0, t881.1, t961.1, t1035, t961.2)))
    else
    ((
     (m86 r6.1 [44, 32]).bind fun r1108 =>
     if r1108.2.2 then (
      (m87 r1108.1).bind fun r1117 =>
      ((
       if r1117.2 then (
        some true)
       else
       (m58 r1117.1).bind fun r1141 =>
       if r1141 ≠ r1108.1 then (
        some true)
       else
       (m40 r1117.1 0 999999).bind fun r1147 =>
       some (!r1147)
      ) : Option (Bool)).bind fun t1135 =>
      if t1135 then (
       some (.inr (.inr (.inr (.inr ())))))
      else
      some (.inl (r1117.1, r1108.2.1)))
     else
     some (.inr (.inr (.inr (.inr ()))))
    ) : Option ((Int × Bytes) ⊕ ((Int × Int × Int × Int × Bytes) ⊕ ((Int × Int × Int × Int × Bytes) ⊕ (cited ⊕ Unit))))).bind fun t1104 => match t1104 with
    | .inr z => some z
    | .inl t1107 =>
    ((
     (m86 t1107.2 [44, 32, 112, 97, 114, 46, 32]).bind fun r1188 =>
     if r1188.2.2 then (
      (m87 r1188.1).bind fun r1197 =>
      ((
       if r1197.2 then (
        some true)
       else
       (m58 r1197.1).bind fun r1221 =>
       if r1221 ≠ r1188.1 then (
        some true)
       else
       (m40 r1197.1 0 999999).bind fun r1227 =>
       some (!r1227)
      ) : Option (Bool)).bind fun t1215 =>
      if t1215 then (
       some (.inr (.inr (.inr (.inr ())))))
      else
      some (.inl (r1197.1, r1188.2.1)))
     else
     some (.inr (.inr (.inr (.inr ()))))
    ) : Option ((Int × Bytes) ⊕ ((Int × Int × Int × Int × Bytes) ⊕ ((Int × Int × Int × Int × Bytes) ⊕ (cited ⊕ Unit))))).bind fun t1184 => match t1184 with
    | .inr z => some z
    | .inl t1187 =>
    ((
     (m87 t1187.2).bind fun r1262 =>
     ((
      if r1262.2 then (
       some true)
      else
      (m58 r1262.1).bind fun r1286 =>
      if r1286 ≠ t1187.2 then (
       some true)
      else
      (m40 r1262.1 0 999999).bind fun r1292 =>
      some (!r1292)
     ) : Option (Bool)).bind fun t1280 =>
     if t1280 then (
      some (.inr (.inr (.inr (.inr ())))))
     else
     some (.inl r1262.1)
    ) : Option ((Int) ⊕ ((Int × Int × Int × Int × Bytes) ⊕ ((Int × Int × Int × Int × Bytes) ⊕ (cited ⊕ Unit))))).bind fun t1258 => match t1258 with
    | .inr z => some z
    | .inl t1261 =>
    some (.inl (1, t1107.1, t1187.1, t1261, t1187.2))
   ) : Option ((Int × Int × Int × Int × Bytes) ⊕ ((Int × Int × Int × Int × Bytes) ⊕ (cited ⊕ Unit)))).bind fun t844 => match t844 with
   | .inr z => some z
   | .inl t847 =>
   some (.inl (t847.1, t847.2.1, t847.2.2.1, t847.2.2.2.1, t847.2.2.2.2)))
  else
  ((
   (m86 cite [64]).bind fun r544 =>
   if r544.2.2 then (
    (m87 r544.1).bind fun r553 =>
    ((
     if r553.2 then (
      some true)
     else
     (m58 r553.1).bind fun r577 =>
     if r577 ≠ r544.1 then (
      some true)
     else
     (m40 r553.1 0 999999).bind fun r583 =>
     some (!r583)
    ) : Option (Bool)).bind fun t571 =>
    if t571 then (
     some (.inr (.inr (.inr ()))))
    else
    some (.inl (r553.1, r544.2.1)))
   else
   some (.inr (.inr (.inr ())))
  ) : Option ((Int × Bytes) ⊕ ((Int × Int × Int × Int × Bytes) ⊕ (cited ⊕ Unit)))).bind fun t540 => match t540 with
  | .inr z => some z
  | .inl t543 =>
  ((
   (m87 t543.2).bind fun r618 =>
   ((
    if r618.2 then (
     some true)
    else
    (m58 r618.1).bind fun r642 =>
    if r642 ≠ t543.2 then (
     some true)
    else
    (m40 r618.1 0 999999).bind fun r648 =>
    some (!r648)
   ) : Option (Bool)).bind fun t636 =>
   if t636 then (
    some (.inr (.inr (.inr ()))))
   else
   some (.inl r618.1)
  ) : Option ((Int) ⊕ ((Int × Int × Int × Int × Bytes) ⊕ (cited ⊕ Unit)))).bind fun t614 => match t614 with
  | .inr z => some z
  | .inl t617 =>
  some (.inl (2, t543.1, t617, 0, t543.2))
 ) : Option ((Int × Int × Int × Int × Bytes) ⊕ (cited ⊕ Unit))).bind fun t506 => match t506 with
 | .inr z => some z
 | .inl t509 =>
 ((
  if t509.1 ≠ 0 then (
   (m34 t509.2.2.1).bind fun r1312 =>
   some (!r1312))
  else
  some false
 ) : Option (Bool)).bind fun t1307 =>
 if t1307 then (
  some (.inr ()))
 else
 some (.inl (⟨t509.1, (⟨t509.2.1, t509.2.2.1, t509.2.2.2.1⟩ : A3_Int)⟩ : cited))
noncomputable def m39 (s : Bytes) : Option (cited × Bool) := (m61 s).map fun o => match o with
 | .inl c => (c, true)
 | .inr _ => (⟨0, ⟨0, 0, 0⟩⟩, false)
noncomputable def m21_1 (r54 : List printed) (r16 : cited × Bool) (v_0 : Volume) (s116 : Nat) : Option ((Nat) ⊕ ((Unit) ⊕ (Int × Int × Int))) :=
 if (s116 : Int) < (r54.length : Int) then (
  (r54[s116]?).bind fun x172 =>
  chk (-9223372036854775808 ≤ (r16.1.numbers.e1 - x172.place.column) ∧ (r16.1.numbers.e1 - x172.place.column) ≤ 9223372036854775807) <|
  chk (-9223372036854775808 ≤ ((r16.1.numbers.e1 - x172.place.column) * v_0.height) ∧ ((r16.1.numbers.e1 - x172.place.column) * v_0.height) ≤ 9223372036854775807) <|
  chk (-9223372036854775808 ≤ (((r16.1.numbers.e1 - x172.place.column) * v_0.height) + r16.1.numbers.e2) ∧ (((r16.1.numbers.e1 - x172.place.column) * v_0.height) + r16.1.numbers.e2) ≤ 9223372036854775807) <|
  chk (-9223372036854775808 ≤ ((((r16.1.numbers.e1 - x172.place.column) * v_0.height) + r16.1.numbers.e2) - x172.place.line) ∧ ((((r16.1.numbers.e1 - x172.place.column) * v_0.height) + r16.1.numbers.e2) - x172.place.line) ≤ 9223372036854775807) <|
  ((
   if x172.day = r16.1.numbers.e1 then (
    some (decide (x172.number = r16.1.numbers.e2)))
   else
   some false
  ) : Option (Bool)).bind fun t194 =>
  ((
   if r16.1.style = 0 then (
    ((
     (m40 r16.1.numbers.e2 1 v_0.height).bind fun r234 =>
     if r234 then (
      chk (-9223372036854775808 ≤ (x172.place.lines - 1) ∧ (x172.place.lines - 1) ≤ 9223372036854775807) <|
      (m40 ((((r16.1.numbers.e1 - x172.place.column) * v_0.height) + r16.1.numbers.e2) - x172.place.line) 0 (x172.place.lines - 1)).bind fun r241 =>
      some r241)
     else
     some false
    ) : Option (Bool)).bind fun t231 =>
    some t231)
   else
   some t194
  ) : Option (Bool)).bind fun t215 =>
  ((
   if t215 then (
    some (decide (r16.1.numbers.e0 = v_0.number)))
   else
   some false
  ) : Option (Bool)).bind fun t249 =>
  if t249 then (
   some (.inr (.inr (x172.place.anchor, v_0.bound, 0))))
  else
  some (.inl (s116 + 1)))
 else
 some (.inr (.inl ()))
noncomputable def m21 (v_0 : Volume) (errata : List Erratum) (cite : Bytes) : Option (Int × Int × Int) :=
 (m33 v_0 errata).bind fun r7 =>
 if r7 ≠ 0 then (
  some (0, 0, r7))
 else
 (m39 cite).bind fun r16 =>
 if r16.2 then (
  if r16.1.style = 2 then (
   (m23 v_0 errata r16.1.numbers.e0 r16.1.numbers.e1).bind fun r43 =>
   if r43.2.2 ≠ 0 then (
    some (0, 0, r43.2.2))
   else
   some (r16.1.numbers.e0, r16.1.numbers.e1, 0))
  else
  (m37 v_0 errata).bind fun r54 =>
  (loopO (m21_1 r54 r16 v_0) 0).bind fun e112 => match e112 with
  | .inr z => some z
  | .inl t115 =>
  some (0, 0, 7))
 else
 some (0, 0, 4)
noncomputable def m16_1 (a_0 : List Paragraph) (b_1 : List Paragraph) (s35 : Nat) : Option ((Nat) ⊕ ((Unit) ⊕ Bool)) :=
 if (s35 : Int) < (a_0.length : Int) then (
  (a_0[s35]?).bind fun x64 =>
  (b_1[s35]?).bind fun x72 =>
  if x64 = x72 then (
   some (.inl (s35 + 1)))
  else
  some (.inr (.inr false)))
 else
 some (.inr (.inl ()))
noncomputable def m16 (a_0 : List Paragraph) (b_1 : List Paragraph) : Option (Bool) :=
 if (a_0.length : Int) ≠ (b_1.length : Int) then (
  some false)
 else
 (loopO (m16_1 a_0 b_1) 0).bind fun e31 => match e31 with
 | .inr z => some z
 | .inl t34 =>
 some true
noncomputable def m18_1 (a_0 : List Place) (b_1 : List Place) (s35 : Nat) : Option ((Nat) ⊕ ((Unit) ⊕ Bool)) :=
 if (s35 : Int) < (a_0.length : Int) then (
  (a_0[s35]?).bind fun x64 =>
  (b_1[s35]?).bind fun x72 =>
  if x64 = x72 then (
   some (.inl (s35 + 1)))
  else
  some (.inr (.inr false)))
 else
 some (.inr (.inl ()))
noncomputable def m18 (a_0 : List Place) (b_1 : List Place) : Option (Bool) :=
 if (a_0.length : Int) ≠ (b_1.length : Int) then (
  some false)
 else
 (loopO (m18_1 a_0 b_1) 0).bind fun e31 => match e31 with
 | .inr z => some z
 | .inl t34 =>
 some true
noncomputable def m12  : Option (Bool) :=
 (m25).bind fun r1 =>
 (m13 r1.1 r1.2 60).bind fun r17 =>
 (m17 r1.1 r1.2).bind fun r24 =>
 (m20 r1.1 r1.2 12 0 0).bind fun r31 =>
 (m20 r1.1 r1.2 12 1 0).bind fun r34 =>
 (m21 r1.1 r1.2 [118, 111, 108, 46, 32, 51, 44, 32, 99, 111, 108, 46, 32, 49, 44, 32, 108, 46, 32, 51]).bind fun r37 =>
 ((
  if r17.2 = 0 then (
   if r24.2 = 0 then (
    if r31.2 = 0 then (
     if r34.2 = 0 then (
      if r37.2.2 = 0 then (
       (m16 r17.1 ([(⟨20, [84, 104, 101, 32, 83, 112, 101, 97, 107, 101, 114, 32, 116, 111, 111, 107, 32, 116, 104, 101, 32, 99, 104, 97, 105, 114, 46]⟩ : Paragraph), (⟨12, [80, 114, 97, 121, 101, 114, 115, 32, 119, 101, 114, 101, 32, 115, 97, 105, 100, 46]⟩ : Paragraph), (⟨15, [65, 32, 98, 105, 108, 108, 32, 119, 97, 115, 32, 114, 101, 97, 100, 46]⟩ : Paragraph)] : List Paragraph)).bind fun r104 =>
       if r104 then (
        (m18 r24.1 ([(⟨11, 1, 1, 3⟩ : Place), (⟨12, 2, 1, 2⟩ : Place), (⟨15, 3, 1, 2⟩ : Place)] : List Place)).bind fun r114 =>
        if r114 then (
         if r31.1 = [118, 111, 108, 46, 32, 51, 44, 32, 99, 111, 108, 46, 32, 50, 44, 32, 108, 46, 32, 49] then (
          if r34.1 = [118, 111, 108, 46, 32, 51, 44, 32, 52, 48, 44, 32, 112, 97, 114, 46, 32, 50] then (
           if r37.1 = 11 then (
            some (decide (r37.2.1 = 50)))
           else
           some false)
          else
          some false)
         else
         some false)
        else
        some false)
       else
       some false)
      else
      some false)
     else
     some false)
    else
    some false)
   else
   some false)
  else
  some false
 ) : Option (Bool)).bind fun t86 =>
 some t86
noncomputable def m36 (x_0 : Erratum) : Option (Erratum) :=
 some x_0
noncomputable def m15_1 (l_0 : List Erratum) (s72 : Nat × List Erratum) : Option ((Nat × List Erratum) ⊕ (List Erratum)) :=
 if (s72.1 : Int) < (l_0.length : Int) then (
  (l_0[s72.1]?).bind fun x99 =>
  (m36 x99).bind fun r107 =>
  chk (s72.2.length + 1 ≤ 1073741824) <|
  some (.inl ((s72.1 + 1), (s72.2 ++ [r107]))))
 else
 some (.inr s72.2)
noncomputable def m15 (l_0 : List Erratum) : Option (List Erratum) :=
 (loopO (m15_1 l_0) (0, ([] : List Erratum))).bind fun e67 =>
 some e67
noncomputable def m29_2  (s374 : Int × List Erratum) : Option ((Int × List Erratum) ⊕ (List Erratum)) :=
 ((
  if 0 < s374.1 then (
   (s374.2[s374.1.toNat]?).bind fun x401 =>
   chk (-9223372036854775808 ≤ (s374.1 - 1) ∧ (s374.1 - 1) ≤ 9223372036854775807) <|
   (s374.2[(s374.1 - 1).toNat]?).bind fun x407 =>
   (m49 x401 x407).bind fun r411 =>
   some r411)
  else
  some false
 ) : Option (Bool)).bind fun t396 =>
 if t396 then (
  chk (-9223372036854775808 ≤ (s374.1 - 1) ∧ (s374.1 - 1) ≤ 9223372036854775807) <|
  chk (0 ≤ (s374.1 - 1)) <|
  (s374.2[(s374.1 - 1).toNat]?).bind fun x444 =>
  chk (0 ≤ s374.1) <|
  (s374.2[s374.1.toNat]?).bind fun x450 =>
  ((s374.2.set s374.1.toNat x444)[(s374.1 - 1).toNat]?).bind fun x455 =>
  some (.inl ((s374.1 - 1), ((s374.2.set s374.1.toNat x444).set ((s374.1 - 1).toNat) x450))))
 else
 some (.inr s374.2)
noncomputable def m29_1 (l_0 : List Erratum) (s190 : Nat × List Erratum) : Option ((Nat × List Erratum) ⊕ (List Erratum)) :=
 if (s190.1 : Int) < ((([] : List Erratum) ++ l_0).length : Int) then (
  (loopO m29_2 ((s190.1 : Int), s190.2)).bind fun e370 =>
  some (.inl ((s190.1 + 1), e370)))
 else
 some (.inr s190.2)
noncomputable def m29 (l_0 : List Erratum) : Option (List Erratum) :=
 chk (([] : List Erratum).length + l_0.length ≤ 1073741824) <|
 (loopO (m29_1 l_0) (1, (([] : List Erratum) ++ l_0))).bind fun e186 =>
 some e186
noncomputable def m19_2 (v_0 : Volume) (s316 : Nat × List Entry) (s519 : Nat × List Entry) : Option ((Nat × List Entry) ⊕ (List Entry)) :=
 (v_0.parts[s316.1]?).bind fun x525 =>
 if (s519.1 : Int) < (x525.paragraphs.length : Int) then (
  (x525.paragraphs[s519.1]?).bind fun x555 =>
  chk (s519.2.length + 1 ≤ 1073741824) <|
  some (.inl ((s519.1 + 1), (s519.2 ++ [(⟨x555, (s316.1 : Int), false⟩ : Entry)]))))
 else
 some (.inr s519.2)
noncomputable def m19_1 (v_0 : Volume) (s316 : Nat × List Entry) : Option ((Nat × List Entry) ⊕ (List Entry)) :=
 if (s316.1 : Int) < (v_0.parts.length : Int) then (
  (loopO (m19_2 v_0 s316) (0, s316.2)).bind fun e514 =>
  some (.inl ((s316.1 + 1), e514)))
 else
 some (.inr s316.2)
noncomputable def m19_4 (s970 : Nat × List Entry) (x1184 : Erratum) (s1362 : Nat × List Entry) : Option ((Nat × List Entry) ⊕ (List Entry)) :=
 if (s1362.1 : Int) < (s970.2.length : Int) then (
  (s970.2[s1362.1]?).bind fun x1421 =>
  ((
   if x1421.paragraph.anchor = x1184.anchor then (
    if x1184.kind = 0 then (
     some (!x1421.removed))
    else
    some false)
   else
   some false
  ) : Option (Bool)).bind fun t1436 =>
  ((
   if t1436 then (
    some x1184.text)
   else
   some x1421.paragraph.text
  ) : Option (Bytes)).bind fun t1448 =>
  ((
   if x1421.paragraph.anchor = x1184.anchor then (
    some (decide (x1184.kind = 1)))
   else
   some false
  ) : Option (Bool)).bind fun t1457 =>
  ((
   if t1457 then (
    some true)
   else
   some x1421.removed
  ) : Option (Bool)).bind fun t1466 =>
  chk (s1362.2.length + 1 ≤ 1073741824) <|
  ((
   if x1421.paragraph.anchor = x1184.anchor then (
    some (decide (x1184.kind = 2)))
   else
   some false
  ) : Option (Bool)).bind fun t1480 =>
  ((
   if t1480 then (
    chk ((s1362.2 ++ [(⟨(⟨x1421.paragraph.anchor, t1448⟩ : Paragraph), x1421.part, t1466⟩ : Entry)]).length + 1 ≤ 1073741824) <|
    some ((s1362.2 ++ [(⟨(⟨x1421.paragraph.anchor, t1448⟩ : Paragraph), x1421.part, t1466⟩ : Entry)]) ++ [(⟨(⟨x1184.new_, x1184.text⟩ : Paragraph), x1421.part, false⟩ : Entry)]))
   else
   some (s1362.2 ++ [(⟨(⟨x1421.paragraph.anchor, t1448⟩ : Paragraph), x1421.part, t1466⟩ : Entry)])
  ) : Option (List Entry)).bind fun t1494 =>
  some (.inl ((s1362.1 + 1), t1494)))
 else
 some (.inr s1362.2)
noncomputable def m19_3 (r570 : List Erratum) (day : Int) (s970 : Nat × List Entry) : Option ((Nat × List Entry) ⊕ (List Entry)) :=
 ((
  if (s970.1 : Int) < (r570.length : Int) then (
   (r570[s970.1]?).bind fun x994 =>
   some (decide (x994.day ≤ day)))
  else
  some false
 ) : Option (Bool)).bind fun t989 =>
 if t989 then (
  (r570[s970.1]?).bind fun x1184 =>
  (loopO (m19_4 s970 x1184) (0, ([] : List Entry))).bind fun e1357 =>
  chk (-9223372036854775808 ≤ ((s970.1 : Int) + 1) ∧ ((s970.1 : Int) + 1) ≤ 9223372036854775807) <|
  some (.inl ((s970.1 + 1), e1357)))
 else
 some (.inr s970.2)
noncomputable def m19 (v_0 : Volume) (errata : List Erratum) (day : Int) : Option (List Entry) :=
 (loopO (m19_1 v_0) (0, ([] : List Entry))).bind fun e311 =>
 (m29 errata).bind fun r570 =>
 (loopO (m19_3 r570 day) (0, e311)).bind fun e963 =>
 some e963
noncomputable def m44_1 (slices : List (List Erratum)) (s25 : Nat × Nat) : Option ((Nat × Nat) ⊕ (Nat)) :=
 if (s25.2 : Int) < (slices.length : Int) then (
  (slices[s25.2]?).bind fun x51 =>
  chk (-9223372036854775808 ≤ ((s25.1 : Int) + (x51.length : Int)) ∧ ((s25.1 : Int) + (x51.length : Int)) ≤ 9223372036854775807) <|
  if ((s25.1 : Int) + (x51.length : Int)) < 0 then (
   none)
  else
  some (.inl ((s25.1 + x51.length), (s25.2 + 1))))
 else
 some (.inr s25.1)
noncomputable def m44_2 (slices : List (List Erratum)) (s146 : Nat × List Erratum) : Option ((Nat × List Erratum) ⊕ (List Erratum)) :=
 if (s146.1 : Int) < (slices.length : Int) then (
  (slices[s146.1]?).bind fun x173 =>
  chk (s146.2.length + x173.length ≤ 1073741824) <|
  some (.inl ((s146.1 + 1), (s146.2 ++ x173))))
 else
 some (.inr s146.2)
noncomputable def m44 (slices : List (List Erratum)) : Option (List Erratum) :=
 (loopO (m44_1 slices) (0, 0)).bind fun e22 =>
 chk (e22 ≤ 1073741824) <|
 (loopO (m44_2 slices) (0, ([] : List Erratum))).bind fun e141 =>
 some e141
noncomputable def m26_1 (a_0 : List Erratum) (b_1 : List Erratum) (s126 : Nat × Nat) : Option ((Nat × Nat) ⊕ (Nat)) :=
 if (s126.2 : Int) < 2 then (
  (([a_0, b_1] : List (List Erratum))[s126.2]?).bind fun x151 =>
  chk (-9223372036854775808 ≤ ((s126.1 : Int) + (x151.length : Int)) ∧ ((s126.1 : Int) + (x151.length : Int)) ≤ 9223372036854775807) <|
  if ((s126.1 : Int) + (x151.length : Int)) < 0 then (
   none)
  else
  some (.inl ((s126.1 + x151.length), (s126.2 + 1))))
 else
 some (.inr s126.1)
noncomputable def m26_2 (a_0 : List Erratum) (b_1 : List Erratum) (s242 : Nat × List Erratum) : Option ((Nat × List Erratum) ⊕ (List Erratum)) :=
 if (s242.1 : Int) < 2 then (
  (([a_0, b_1] : List (List Erratum))[s242.1]?).bind fun x268 =>
  chk (s242.2.length + x268.length ≤ 1073741824) <|
  some (.inl ((s242.1 + 1), (s242.2 ++ x268))))
 else
 some (.inr s242.2)
noncomputable def m26_3 (t98 : List Erratum) (s400 : Nat × List Erratum × (List (Int × Erratum))) : Option ((Nat × List Erratum × (List (Int × Erratum))) ⊕ ((List Erratum × (List (Int × Erratum))) ⊕ (List Erratum × Int))) :=
 if (s400.1 : Int) < (t98.length : Int) then (
  (t98[s400.1]?).bind fun x439 =>
  ((
   if (lkp s400.2.2 x439.number).isSome then (
    some (!(decide (x439 = ((lkp s400.2.2 x439.number).getD (⟨0, 0, 0, 0, [], 0⟩ : Erratum))))))
   else
   some false
  ) : Option (Bool)).bind fun t452 =>
  if t452 then (
   some (.inr (.inr (([] : List Erratum), 6))))
  else
  ((
   if (lkp s400.2.2 x439.number).isSome then (
    some (s400.2.1, s400.2.2))
   else
   chk (s400.2.1.length + 1 ≤ 1073741824) <|
   some ((s400.2.1 ++ [x439]), (put s400.2.2 x439.number x439))
  ) : Option (List Erratum × (List (Int × Erratum)))).bind fun t472 =>
  some (.inl ((s400.1 + 1), t472.1, t472.2)))
 else
 some (.inr (.inl (s400.2.1, s400.2.2)))
noncomputable def m26 (a_0 : List Erratum) (b_1 : List Erratum) : Option (List Erratum × Int) :=
 ((
  (loopO (m26_1 a_0 b_1) (0, 0)).bind fun e123 =>
  chk (e123 ≤ 1073741824) <|
  (loopO (m26_2 a_0 b_1) (0, ([] : List Erratum))).bind fun e237 =>
  some e237
 ) : Option (List Erratum)).bind fun t98 =>
 (loopO (m26_3 t98) (0, ([] : List Erratum), ([] : List (Int × Erratum)))).bind fun e394 => match e394 with
 | .inr z => some z
 | .inl t397 =>
 (sortO (m46) t397.1).bind fun l486 =>
 some (l486, 0)
noncomputable def m9  : Option (Bool) :=
 (m25).bind fun r1 =>
 (m13 r1.1 r1.2 44).bind fun r17 =>
 (m23 r1.1 r1.2 11 60).bind fun r24 =>
 (m23 r1.1 r1.2 20 59).bind fun r27 =>
 (m20 r1.1 r1.2 12 2 44).bind fun r30 =>
 (m21 r1.1 r1.2 [49, 50, 64, 52, 52]).bind fun r33 =>
 ((
  if r17.2 ≠ 0 then (
   some true)
  else
  if r24.2.2 ≠ 0 then (
   some true)
  else
  if r30.2 ≠ 0 then (
   some true)
  else
  if r33.2.2 ≠ 0 then (
   some true)
  else
  (m16 r17.1 ([(⟨11, [84, 104, 101, 32, 72, 111, 117, 115, 101, 32, 109, 101, 116, 32, 97, 116, 32, 116, 119, 111, 46]⟩ : Paragraph), (⟨12, [80, 114, 97, 121, 101, 114, 115, 46]⟩ : Paragraph), (⟨15, [65, 32, 98, 105, 108, 108, 32, 119, 97, 115, 32, 114, 101, 97, 100, 46]⟩ : Paragraph)] : List Paragraph)).bind fun r94 =>
  if r94 then (
   if r24.1 ≠ [84, 104, 101, 32, 72, 111, 117, 115, 101, 32, 109, 101, 116, 32, 97, 116, 32, 116, 119, 111, 46] then (
    some true)
   else
   if r24.2.1 then (
    if r27.2.2 ≠ 7 then (
     some true)
    else
    if r30.1 ≠ [49, 50, 64, 52, 52] then (
     some true)
    else
    if r33.1 ≠ 12 then (
     some true)
    else
    some (decide (r33.2.1 ≠ 44)))
   else
   some true)
  else
  some true
 ) : Option (Bool)).bind fun t74 =>
 if t74 then (
  some false)
 else
 (m26 r1.2 ([(⟨2, 0, 0, 0, [], 0⟩ : Erratum)] : List Erratum)).bind fun r126 =>
 (m13 r1.1 r1.2 (-1)).bind fun r133 =>
 chk (([] : List Erratum).length + r1.2.length ≤ 1073741824) <|
 (r1.2[0]?).bind fun x145 =>
 chk ((([] : List Erratum) ++ r1.2).length + ([x145] : List Erratum).length ≤ 1073741824) <|
 (m13 r1.1 ((([] : List Erratum) ++ r1.2) ++ ([x145] : List Erratum)) 0).bind fun r167 =>
 chk ((([] : List Erratum) ++ r1.2).length + ([(⟨4, 59, 0, 20, [120], 0⟩ : Erratum)] : List Erratum).length ≤ 1073741824) <|
 (m13 r1.1 ((([] : List Erratum) ++ r1.2) ++ ([(⟨4, 59, 0, 20, [120], 0⟩ : Erratum)] : List Erratum)) 0).bind fun r213 =>
 (m20 r1.1 r1.2 20 0 0).bind fun r227 =>
 (m20 r1.1 r1.2 12 3 0).bind fun r230 =>
 (m21 r1.1 r1.2 [118, 111, 108, 46, 32, 51, 44, 32, 99, 111, 108, 46, 32, 50, 44, 32, 108, 46, 32, 51]).bind fun r233 =>
 (m21 r1.1 r1.2 [118, 111, 108, 46, 32, 51, 44, 32, 99, 111, 108, 46, 32, 48, 50, 44, 32, 108, 46, 32, 49]).bind fun r236 =>
 (m21 r1.1 r1.2 [118, 111, 108, 46, 32, 52, 44, 32, 52, 48, 44, 32, 112, 97, 114, 46, 32, 50]).bind fun r239 =>
 ((
  if r126.2 = 6 then (
   if r133.2 = 2 then (
    if r167.2 = 6 then (
     if r213.2 = 7 then (
      if r227.2 = 7 then (
       if r230.2 = 2 then (
        if r233.2.2 = 7 then (
         if r236.2.2 = 4 then (
          if r239.2.2 = 7 then (
           (m27 (⟨r1.1.number, r1.1.bound, r1.1.height, r1.1.width, ([(⟨40, ([(⟨1, [97]⟩ : Paragraph), (⟨1, [97]⟩ : Paragraph)] : List Paragraph)⟩ : Part)] : List Part)⟩ : Volume)).bind fun r330 =>
           if r330 = 6 then (
            (m27 (⟨r1.1.number, 43, r1.1.height, r1.1.width, r1.1.parts⟩ : Volume)).bind fun r335 =>
            if r335 = 1 then (
             chk (7 ≤ 1073741824) <|
             (m27 (⟨0, 0, 0, 0, (List.replicate 7 (⟨0, ([] : List Paragraph)⟩ : Part))⟩ : Volume)).bind fun r346 =>
             if r346 = 3 then (
              (m12).bind fun r351 =>
              some r351)
             else
             some false)
            else
            some false)
           else
           some false)
          else
          some false)
         else
         some false)
        else
        some false)
       else
       some false)
      else
      some false)
     else
     some false)
    else
    some false)
   else
   some false)
  else
  some false
 ) : Option (Bool)).bind fun t309 =>
 some t309
end T10
namespace T10
open Go.Proofs
abbrev C100 := @Tryz.call100
abbrev C101 := @Tryz.call101
abbrev C102 := @Tryz.call102
abbrev C103 := @Tryz.call103
abbrev C104 := @Tryz.call104
abbrev C105 := @Tryz.call105
abbrev C12 := @Tryz.call12
abbrev C120 := @Tryz.call120
abbrev C121 := @Tryz.call121
abbrev C122 := @Tryz.call122
abbrev C13 := @Tryz.call13
abbrev C136 := @Tryz.call136
abbrev C16 := @Tryz.call16
abbrev C17 := @Tryz.call17
abbrev C18 := @Tryz.call18
abbrev C20 := @Tryz.call20
abbrev C21 := @Tryz.call21
abbrev C23 := @Tryz.call23
abbrev C25 := @Tryz.call25
abbrev C26 := @Tryz.call26
abbrev C27 := @Tryz.call27
abbrev C33 := @Tryz.call33
abbrev C34 := @Tryz.call34
abbrev C35 := @Tryz.call35
abbrev C37 := @Tryz.call37
abbrev C38 := @Tryz.call38
abbrev C39 := @Tryz.call39
abbrev C40 := @Tryz.call40
abbrev C41 := @Tryz.call41
abbrev C44 := @Tryz.call44
abbrev C45 := @Tryz.call45
abbrev C46 := @Tryz.call46
abbrev C47 := @Tryz.call47
abbrev C48 := @Tryz.call48
abbrev C52 := @Tryz.call52
abbrev C53 := @Tryz.call53
abbrev C54 := @Tryz.call54
abbrev C55 := @Tryz.call55
abbrev C56 := @Tryz.call56
abbrev C58 := @Tryz.call58
abbrev C62 := @Tryz.call62
abbrev C65 := @Tryz.call65
abbrev C66 := @Tryz.call66
abbrev C67 := @Tryz.call67
abbrev C68 := @Tryz.call68
abbrev C69 := @Tryz.call69
abbrev C70 := @Tryz.call70
abbrev C75 := @Tryz.call75
abbrev C76 := @Tryz.call76
abbrev C77 := @Tryz.call77
abbrev C78 := @Tryz.call78
abbrev C79 := @Tryz.call79
abbrev C80 := @Tryz.call80
abbrev C81 := @Tryz.call81
abbrev C82 := @Tryz.call82
abbrev C85 := @Tryz.call85
abbrev C86 := @Tryz.call86
abbrev C87 := @Tryz.call87
abbrev C88 := @Tryz.call88
abbrev C89 := @Tryz.call89
abbrev G103 := @Tryz.isAgg103
abbrev G106 := @Tryz.isAgg106
abbrev G124 := @Tryz.isAgg124
abbrev G129 := @Tryz.isAgg129
abbrev G134 := @Tryz.isAgg134
abbrev G165 := @Tryz.isAgg165
abbrev G189 := @Tryz.isAgg189
abbrev G3 := @Tryz.isAgg3
abbrev G31 := @Tryz.isAgg31
abbrev G32 := @Tryz.isAgg32
abbrev G35 := @Tryz.isAgg35
abbrev G37 := @Tryz.isAgg37
abbrev G39 := @Tryz.isAgg39
abbrev G4 := @Tryz.isAgg4
abbrev G5 := @Tryz.isAgg5
abbrev G63 := @Tryz.isAgg63
abbrev G67 := @Tryz.isAgg67
abbrev G69 := @Tryz.isAgg69
abbrev G77 := @Tryz.isAgg77
abbrev G79 := @Tryz.isAgg79
abbrev G88 := @Tryz.isAgg88
abbrev G9 := @Tryz.isAgg9
abbrev G91 := @Tryz.isAgg91
abbrev G93 := @Tryz.isAgg93
abbrev G95 := @Tryz.isAgg95
abbrev Z103 := @Tryz.sizeOf103
abbrev Z106 := @Tryz.sizeOf106
abbrev Z124 := @Tryz.sizeOf124
abbrev Z134 := @Tryz.sizeOf134
abbrev Z136 := @Tryz.sizeOf136
abbrev Z3 := @Tryz.sizeOf3
abbrev Z31 := @Tryz.sizeOf31
abbrev Z32 := @Tryz.sizeOf32
abbrev Z35 := @Tryz.sizeOf35
abbrev Z37 := @Tryz.sizeOf37
abbrev Z39 := @Tryz.sizeOf39
abbrev Z4 := @Tryz.sizeOf4
abbrev Z5 := @Tryz.sizeOf5
abbrev Z63 := @Tryz.sizeOf63
abbrev Z67 := @Tryz.sizeOf67
abbrev Z69 := @Tryz.sizeOf69
abbrev Z77 := @Tryz.sizeOf77
abbrev Z79 := @Tryz.sizeOf79
abbrev Z88 := @Tryz.sizeOf88
abbrev Z9 := @Tryz.sizeOf9
abbrev Z91 := @Tryz.sizeOf91
abbrev Z93 := @Tryz.sizeOf93
abbrev Z95 := @Tryz.sizeOf95
abbrev U100 := @Tryz.underlying100
abbrev U103 := @Tryz.underlying103
abbrev U106 := @Tryz.underlying106
abbrev U118 := @Tryz.underlying118
abbrev U124 := @Tryz.underlying124
abbrev U136 := @Tryz.underlying136
abbrev U137 := @Tryz.underlying137
abbrev U141 := @Tryz.underlying141
abbrev U146 := @Tryz.underlying146
abbrev U153 := @Tryz.underlying153
abbrev U156 := @Tryz.underlying156
abbrev U3 := @Tryz.underlying3
abbrev U31 := @Tryz.underlying31
abbrev U35 := @Tryz.underlying35
abbrev U37 := @Tryz.underlying37
abbrev U39 := @Tryz.underlying39
abbrev U42 := @Tryz.underlying42
abbrev U5 := @Tryz.underlying5
abbrev U59 := @Tryz.underlying59
abbrev U63 := @Tryz.underlying63
abbrev U67 := @Tryz.underlying67
abbrev U69 := @Tryz.underlying69
abbrev U77 := @Tryz.underlying77
abbrev U79 := @Tryz.underlying79
abbrev U88 := @Tryz.underlying88
abbrev U9 := @Tryz.underlying9
abbrev U90 := @Tryz.underlying90
abbrev U93 := @Tryz.underlying93
abbrev U95 := @Tryz.underlying95
end T10
