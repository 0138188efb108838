/-
  The types and models of the functions of a session,printed by a program of ours;contracts of library functions.
-/
import Derived.Shelf.Strings.Cut
import Derived.Shelf.Strings.Search3
import Derived.Shelf.Strings.Prefix
import Derived.Shelf.Strings.Runes
import Derived.Shelf.Strings.OnBuilder
import Derived.Shelf.Strings.FieldsFuncAny
import Derived.Shelf.Strings.BuilderF
import Derived.Shelf.Small.Strs
import Derived.Shelf.Small.Wraps
import Derived.Shelf.Strconv.AtoiAll
import Derived.Shelf.Strconv.Itoa3
import Derived.Shelf.SlSortCmp.NoneTotal
import Derived.Shelf.LaysM
import Derived.Shelf.LaysC
import Derived.Test.YtaandmcgkjciiaaGreatDoorKitSix
import Derived.Test.YtaandmcgkjciiaaGreatDoorProg
import Derived.Shelf.Spec.SlicesInsert
import Derived.Lib.AppendZerosOnto
import Derived.Laws.NewBlocks
import Derived.Laws.CopyRow
import Derived.Recover
import Derived.Tactics
import Derived.Tactics2
import Derived.Shelf.Slices.Delete
import Derived.Shelf.Slices.Empties
set_option linter.all false
set_option maxHeartbeats 4000000
namespace Go.Proofs
open Go.Shelf Go.RowKit
def Tryz.laysC172_ren:Go.Shelf.Ren:=⟨fun | 172=>127 | 244=>186 | 245=>187 | 247=>229 | 279=>230 | 280=>231 | 281=>232 | 282=>233 | 287=>255 | 316=>256 | 171=>128 | 205=>257 | 321=>278 | 322=>279 | 243=>188 | 246=>234 | 283=>258 | 284=>259 | 285=>260 | 286=>261 | 129=>98 | 317=>280 | 318=>281 | 319=>282 | 320=>283 | 337=>292 | 338=>293 | n=>n,fun | 9=>9 | 3=>3 | 75=>190 | 76=>191 | 4=>4 | 5=>5 | 167=>284 | 37=>39 | 0=>0 | 85=>285 | 2=>2 | 168=>287 | 53=>178 | 175=>315 | 46=>64 | 210=>318 | 127=>314 | 145=>334 | 143=>332 | 21=>21 | 171=>320 | 173=>322 | 212=>336 | 51=>60 | 20=>20 | 213=>337 | 232=>350 | 233=>351 | 80=>283 | n=>n,fun | 15=>1 | 16=>2 | 17=>3 | 18=>4 | 19=>5 | n=>n⟩
theorem Tryz.laysC172:Go.Proofs.LaysC.n172 Tryz.prog Tryz.laysC172_ren:={
 mixed:=by kernel_rfl
 f129:=Tryz.func98.trans (congrArg some (by kernel_rfl))
 f171:=Tryz.func128.trans (congrArg some (by kernel_rfl))
 f172:=Tryz.func127.trans (congrArg some (by kernel_rfl))
 f205:=Tryz.func257.trans (congrArg some (by kernel_rfl))
 f243:=Tryz.func188.trans (congrArg some (by kernel_rfl))
 f244:=Tryz.func186.trans (congrArg some (by kernel_rfl))
 f245:=Tryz.func187.trans (congrArg some (by kernel_rfl))
 f246:=Tryz.func234.trans (congrArg some (by kernel_rfl))
 f247:=Tryz.func229.trans (congrArg some (by kernel_rfl))
 f279:=Tryz.func230.trans (congrArg some (by kernel_rfl))
 f280:=Tryz.func231.trans (congrArg some (by kernel_rfl))
 f281:=Tryz.func232.trans (congrArg some (by kernel_rfl))
 f282:=Tryz.func233.trans (congrArg some (by kernel_rfl))
 f283:=Tryz.func258.trans (congrArg some (by kernel_rfl))
 f284:=Tryz.func259.trans (congrArg some (by kernel_rfl))
 f285:=Tryz.func260.trans (congrArg some (by kernel_rfl))
 f286:=Tryz.func261.trans (congrArg some (by kernel_rfl))
 f287:=Tryz.func255.trans (congrArg some (by kernel_rfl))
 f316:=Tryz.func256.trans (congrArg some (by kernel_rfl))
 f317:=Tryz.func280.trans (congrArg some (by kernel_rfl))
 f318:=Tryz.func281.trans (congrArg some (by kernel_rfl))
 f319:=Tryz.func282.trans (congrArg some (by kernel_rfl))
 f320:=Tryz.func283.trans (congrArg some (by kernel_rfl))
 f321:=Tryz.func278.trans (congrArg some (by kernel_rfl))
 f322:=Tryz.func279.trans (congrArg some (by kernel_rfl))
 f337:=Tryz.func292.trans (congrArg some (by kernel_rfl))
 f338:=Tryz.func293.trans (congrArg some (by kernel_rfl))
 t0:=Tryz.underlying0
 a0:=Tryz.isAgg0
 z0:=Tryz.sizeOf0
 v0:=Tryz.zeroValue0
 t2:=Tryz.underlying2
 a2:=Tryz.isAgg2
 z2:=Tryz.sizeOf2
 v2:=Tryz.zeroValue2
 t3:=Tryz.underlying3
 a3:=Tryz.isAgg3
 z3:=Tryz.sizeOf3
 v3:=Tryz.zeroValue3
 t4:=Tryz.underlying4
 a4:=Tryz.isAgg4
 z4:=Tryz.sizeOf4
 v4:=Tryz.zeroValue4
 t5:=Tryz.underlying5
 a5:=Tryz.isAgg5
 z5:=Tryz.sizeOf5
 v5:=Tryz.zeroValue5
 t9:=Tryz.underlying9
 a9:=Tryz.isAgg9
 z9:=Tryz.sizeOf9
 v9:=Tryz.zeroValue9
 t20:=Tryz.underlying20
 a20:=Tryz.isAgg20
 z20:=Tryz.sizeOf20
 v20:=Tryz.zeroValue20
 t21:=Tryz.underlying21
 a21:=Tryz.isAgg21
 z21:=Tryz.sizeOf21
 v21:=Tryz.zeroValue21
 t37:=Tryz.underlying39
 a37:=Tryz.isAgg39
 z37:=Tryz.sizeOf39
 v37:=Tryz.zeroValue39
 t46:=Tryz.underlying64
 a46:=Tryz.isAgg64
 z46:=Tryz.sizeOf64
 v46:=Tryz.zeroValue64
 t51:=Tryz.underlying60
 a51:=Tryz.isAgg60
 z51:=Tryz.sizeOf60
 v51:=Tryz.zeroValue60
 t53:=Tryz.underlying178
 a53:=Tryz.isAgg178
 z53:=Tryz.sizeOf178
 v53:=Tryz.zeroValue178
 t75:=Tryz.underlying190
 a75:=Tryz.isAgg190
 z75:=Tryz.sizeOf190
 v75:=Tryz.zeroValue190
 t76:=Tryz.underlying191
 a76:=Tryz.isAgg191
 z76:=Tryz.sizeOf191
 v76:=Tryz.zeroValue191
 t85:=Tryz.underlying285
 a85:=Tryz.isAgg285
 z85:=Tryz.sizeOf285
 v85:=Tryz.zeroValue285
 t127:=Tryz.underlying314
 a127:=Tryz.isAgg314
 z127:=Tryz.sizeOf314
 v127:=Tryz.zeroValue314
 t143:=Tryz.underlying332
 a143:=Tryz.isAgg332
 z143:=Tryz.sizeOf332
 v143:=Tryz.zeroValue332
 t145:=Tryz.underlying334
 a145:=Tryz.isAgg334
 z145:=Tryz.sizeOf334
 v145:=Tryz.zeroValue334
 t167:=Tryz.underlying284
 a167:=Tryz.isAgg284
 z167:=Tryz.sizeOf284
 v167:=Tryz.zeroValue284
 t168:=Tryz.underlying287
 a168:=Tryz.isAgg287
 z168:=Tryz.sizeOf287
 v168:=Tryz.zeroValue287
 t171:=Tryz.underlying320
 a171:=Tryz.isAgg320
 z171:=Tryz.sizeOf320
 v171:=Tryz.zeroValue320
 t173:=Tryz.underlying322
 a173:=Tryz.isAgg322
 z173:=Tryz.sizeOf322
 v173:=Tryz.zeroValue322
 t175:=Tryz.underlying315
 a175:=Tryz.isAgg315
 z175:=Tryz.sizeOf315
 v175:=Tryz.zeroValue315
 t210:=Tryz.underlying318
 a210:=Tryz.isAgg318
 z210:=Tryz.sizeOf318
 v210:=Tryz.zeroValue318
 t212:=Tryz.underlying336
 a212:=Tryz.isAgg336
 z212:=Tryz.sizeOf336
 v212:=Tryz.zeroValue336
 t213:=Tryz.underlying337
 a213:=Tryz.isAgg337
 z213:=Tryz.sizeOf337
 t232:=Tryz.underlying350
 a232:=Tryz.isAgg350
 z232:=Tryz.sizeOf350
 v232:=Tryz.zeroValue350
 t233:=Tryz.underlying351
 a233:=Tryz.isAgg351
 z233:=Tryz.sizeOf351
 v233:=Tryz.zeroValue351
 g15:=by kernel_rfl
 g16:=by kernel_rfl
 g17:=by kernel_rfl
 g18:=by kernel_rfl
 g19:=by kernel_rfl
 t80:=Tryz.underlying283
 a80:=Tryz.isAgg283
 z80:=Tryz.sizeOf283
 v80:=Tryz.zeroValue283
 i0:=by kernel_rfl
 i2:=by kernel_rfl
 i3:=by kernel_rfl
 i4:=by kernel_rfl
 i5:=by kernel_rfl
 i9:=by kernel_rfl
 i20:=by kernel_rfl
 i21:=by kernel_rfl
 i37:=by kernel_rfl
 i46:=by kernel_rfl
 i51:=by kernel_rfl
 i53:=by kernel_rfl
 i75:=by kernel_rfl
 i76:=by kernel_rfl
 i80:=by kernel_rfl
 i85:=by kernel_rfl
 i127:=by kernel_rfl
 i143:=by kernel_rfl
 i145:=by kernel_rfl
 i167:=by kernel_rfl
 i168:=by kernel_rfl
 i171:=by kernel_rfl
 i173:=by kernel_rfl
 i175:=by kernel_rfl
 i210:=by kernel_rfl
 i212:=by kernel_rfl
 i232:=by kernel_rfl
 i233:=by kernel_rfl
 m15:=by kernel_rfl
 m16:=by kernel_rfl
 m17:=by kernel_rfl
 m18:=by kernel_rfl
 m19:=by kernel_rfl
 c0:=by kernel_rfl
 c2:=by kernel_rfl
 c3:=by kernel_rfl
 c4:=by kernel_rfl
 c5:=by kernel_rfl
 c9:=by kernel_rfl
 c20:=by kernel_rfl
 c21:=by kernel_rfl
 c37:=by kernel_rfl
 c46:=by kernel_rfl
 c51:=by kernel_rfl
 c53:=by kernel_rfl
 c75:=by kernel_rfl
 c76:=by kernel_rfl
 c80:=by kernel_rfl
 c85:=by kernel_rfl
 c127:=by kernel_rfl
 c143:=by kernel_rfl
 c145:=by kernel_rfl
 c167:=by kernel_rfl
 c168:=by kernel_rfl
 c171:=by kernel_rfl
 c173:=by kernel_rfl
 c175:=by kernel_rfl
 c210:=by kernel_rfl
 c212:=by kernel_rfl
 c213:=by kernel_rfl
 c232:=by kernel_rfl
 c233:=by kernel_rfl }
def Tryz.laysM171_ren:Go.Shelf.Ren:=⟨fun | 171=>128 | 243=>188 | 246=>234 | 283=>258 | 284=>259 | 285=>260 | 286=>261 | 129=>98 | 317=>280 | 318=>281 | 319=>282 | 320=>283 | 337=>292 | 338=>293 | n=>n,fun | 3=>3 | 9=>9 | 2=>2 | 4=>4 | 171=>320 | 0=>0 | 53=>178 | 37=>39 | 5=>5 | 173=>322 | 212=>336 | 51=>60 | 20=>20 | 213=>337 | 46=>64 | 232=>350 | 233=>351 | n=>n,fun | 17=>3 | 18=>4 | 19=>5 | n=>n⟩
theorem Tryz.laysM171:Go.Proofs.LaysM.n171 Tryz.prog Tryz.laysM171_ren:={
 mixed:=by kernel_rfl
 f129:=Tryz.func98.trans (congrArg some (by kernel_rfl))
 f171:=Tryz.func128.trans (congrArg some (by kernel_rfl))
 f243:=Tryz.func188.trans (congrArg some (by kernel_rfl))
 f246:=Tryz.func234.trans (congrArg some (by kernel_rfl))
 f283:=Tryz.func258.trans (congrArg some (by kernel_rfl))
 f284:=Tryz.func259.trans (congrArg some (by kernel_rfl))
 f285:=Tryz.func260.trans (congrArg some (by kernel_rfl))
 f286:=Tryz.func261.trans (congrArg some (by kernel_rfl))
 f317:=Tryz.func280.trans (congrArg some (by kernel_rfl))
 f318:=Tryz.func281.trans (congrArg some (by kernel_rfl))
 f319:=Tryz.func282.trans (congrArg some (by kernel_rfl))
 f320:=Tryz.func283.trans (congrArg some (by kernel_rfl))
 f337:=Tryz.func292.trans (congrArg some (by kernel_rfl))
 f338:=Tryz.func293.trans (congrArg some (by kernel_rfl))
 t0:=Tryz.underlying0
 a0:=Tryz.isAgg0
 z0:=Tryz.sizeOf0
 v0:=Tryz.zeroValue0
 t2:=Tryz.underlying2
 a2:=Tryz.isAgg2
 z2:=Tryz.sizeOf2
 v2:=Tryz.zeroValue2
 t3:=Tryz.underlying3
 a3:=Tryz.isAgg3
 z3:=Tryz.sizeOf3
 v3:=Tryz.zeroValue3
 t4:=Tryz.underlying4
 a4:=Tryz.isAgg4
 z4:=Tryz.sizeOf4
 v4:=Tryz.zeroValue4
 t5:=Tryz.underlying5
 a5:=Tryz.isAgg5
 z5:=Tryz.sizeOf5
 v5:=Tryz.zeroValue5
 t9:=Tryz.underlying9
 a9:=Tryz.isAgg9
 z9:=Tryz.sizeOf9
 v9:=Tryz.zeroValue9
 t20:=Tryz.underlying20
 a20:=Tryz.isAgg20
 z20:=Tryz.sizeOf20
 v20:=Tryz.zeroValue20
 t37:=Tryz.underlying39
 a37:=Tryz.isAgg39
 z37:=Tryz.sizeOf39
 v37:=Tryz.zeroValue39
 t46:=Tryz.underlying64
 a46:=Tryz.isAgg64
 z46:=Tryz.sizeOf64
 v46:=Tryz.zeroValue64
 t51:=Tryz.underlying60
 a51:=Tryz.isAgg60
 z51:=Tryz.sizeOf60
 v51:=Tryz.zeroValue60
 t53:=Tryz.underlying178
 a53:=Tryz.isAgg178
 z53:=Tryz.sizeOf178
 v53:=Tryz.zeroValue178
 t171:=Tryz.underlying320
 a171:=Tryz.isAgg320
 z171:=Tryz.sizeOf320
 v171:=Tryz.zeroValue320
 t173:=Tryz.underlying322
 a173:=Tryz.isAgg322
 z173:=Tryz.sizeOf322
 v173:=Tryz.zeroValue322
 t212:=Tryz.underlying336
 a212:=Tryz.isAgg336
 z212:=Tryz.sizeOf336
 v212:=Tryz.zeroValue336
 t213:=Tryz.underlying337
 a213:=Tryz.isAgg337
 z213:=Tryz.sizeOf337
 t232:=Tryz.underlying350
 a232:=Tryz.isAgg350
 z232:=Tryz.sizeOf350
 v232:=Tryz.zeroValue350
 t233:=Tryz.underlying351
 a233:=Tryz.isAgg351
 z233:=Tryz.sizeOf351
 v233:=Tryz.zeroValue351
 g17:=by kernel_rfl
 g18:=by kernel_rfl
 g19:=by kernel_rfl
 i0:=by kernel_rfl
 i2:=by kernel_rfl
 i3:=by kernel_rfl
 i4:=by kernel_rfl
 i5:=by kernel_rfl
 i9:=by kernel_rfl
 i20:=by kernel_rfl
 i37:=by kernel_rfl
 i46:=by kernel_rfl
 i51:=by kernel_rfl
 i53:=by kernel_rfl
 i171:=by kernel_rfl
 i173:=by kernel_rfl
 i212:=by kernel_rfl
 i232:=by kernel_rfl
 i233:=by kernel_rfl
 m17:=by kernel_rfl
 m18:=by kernel_rfl
 m19:=by kernel_rfl }
def Tryz.lays145_ren:Go.Shelf.Ren:=⟨fun | 145=>77 | 220=>109 | 219=>165 | 217=>200 | 225=>201 | 224=>202 | 267=>203 | 266=>238 | 314=>239 | n=>n,fun | 9=>9 | 4=>4 | 59=>150 | 3=>3 | 5=>5 | 46=>64 | 146=>293 | 51=>60 | n=>n,fun | 1=>0 | n=>n⟩
theorem Tryz.lays145:Go.Proofs.Lays.n145 Tryz.prog Tryz.lays145_ren:={
 mixed:=by kernel_rfl
 f145:=Tryz.func77.trans (congrArg some (by kernel_rfl))
 f217:=Tryz.func200.trans (congrArg some (by kernel_rfl))
 f219:=Tryz.func165.trans (congrArg some (by kernel_rfl))
 f220:=Tryz.func109.trans (congrArg some (by kernel_rfl))
 f224:=Tryz.func202.trans (congrArg some (by kernel_rfl))
 f225:=Tryz.func201.trans (congrArg some (by kernel_rfl))
 f266:=Tryz.func238.trans (congrArg some (by kernel_rfl))
 f267:=Tryz.func203.trans (congrArg some (by kernel_rfl))
 f314:=Tryz.func239.trans (congrArg some (by kernel_rfl))
 t3:=Tryz.underlying3
 a3:=Tryz.isAgg3
 z3:=Tryz.sizeOf3
 v3:=Tryz.zeroValue3
 t4:=Tryz.underlying4
 a4:=Tryz.isAgg4
 z4:=Tryz.sizeOf4
 v4:=Tryz.zeroValue4
 t5:=Tryz.underlying5
 a5:=Tryz.isAgg5
 z5:=Tryz.sizeOf5
 v5:=Tryz.zeroValue5
 t9:=Tryz.underlying9
 a9:=Tryz.isAgg9
 z9:=Tryz.sizeOf9
 v9:=Tryz.zeroValue9
 t46:=Tryz.underlying64
 a46:=Tryz.isAgg64
 z46:=Tryz.sizeOf64
 v46:=Tryz.zeroValue64
 t51:=Tryz.underlying60
 a51:=Tryz.isAgg60
 z51:=Tryz.sizeOf60
 v51:=Tryz.zeroValue60
 t59:=Tryz.underlying150
 a59:=Tryz.isAgg150
 z59:=Tryz.sizeOf150
 v59:=Tryz.zeroValue150
 t146:=Tryz.underlying293
 a146:=Tryz.isAgg293
 z146:=Tryz.sizeOf293
 v146:=Tryz.zeroValue293
 g1:=by kernel_rfl }
def Tryz.lays229_ren:Go.Shelf.Ren:=⟨fun | 229=>223 | n=>n,fun | 9=>9 | 40=>278 | 31=>22 | 152=>311 | 3=>3 | 0=>0 | 4=>4 | 21=>21 | 154=>313 | n=>n,fun | n=>n⟩
theorem Tryz.lays229:Go.Proofs.Lays.n229 Tryz.prog Tryz.lays229_ren:={
 mixed:=by kernel_rfl
 f229:=Tryz.func223.trans (congrArg some (by kernel_rfl))
 t0:=Tryz.underlying0
 a0:=Tryz.isAgg0
 z0:=Tryz.sizeOf0
 v0:=Tryz.zeroValue0
 t3:=Tryz.underlying3
 a3:=Tryz.isAgg3
 z3:=Tryz.sizeOf3
 v3:=Tryz.zeroValue3
 t4:=Tryz.underlying4
 a4:=Tryz.isAgg4
 z4:=Tryz.sizeOf4
 v4:=Tryz.zeroValue4
 t9:=Tryz.underlying9
 a9:=Tryz.isAgg9
 z9:=Tryz.sizeOf9
 v9:=Tryz.zeroValue9
 t21:=Tryz.underlying21
 a21:=Tryz.isAgg21
 z21:=Tryz.sizeOf21
 v21:=Tryz.zeroValue21
 t31:=Tryz.underlying22
 a31:=Tryz.isAgg22
 z31:=Tryz.sizeOf22
 v31:=Tryz.zeroValue22
 t40:=Tryz.underlying278
 a40:=Tryz.isAgg278
 z40:=Tryz.sizeOf278
 v40:=Tryz.zeroValue278
 t152:=Tryz.underlying311
 a152:=Tryz.isAgg311
 z152:=Tryz.sizeOf311
 v152:=Tryz.zeroValue311
 t154:=Tryz.underlying313
 a154:=Tryz.isAgg313
 z154:=Tryz.sizeOf313
 v154:=Tryz.zeroValue313 }
def Tryz.laysF269_ren:Go.Shelf.Ren:=⟨fun | 6=>269 | 15=>65 | 14=>287 | 28=>97 | 29=>98 | 20=>294 | 21=>295 | 22=>296 | 23=>297 | 24=>298 | 25=>299 | 26=>300 | 27=>301 | 46=>303 | 47=>154 | 48=>155 | 49=>304 | 50=>305 | 57=>307 | n=>n,fun | 22=>28 | 24=>217 | 25=>325 | 3=>3 | 39=>64 | 0=>0 | 53=>60 | 55=>178 | 4=>4 | 46=>170 | 45=>169 | 50=>83 | 5=>5 | 9=>9 | 66=>200 | 70=>204 | 76=>240 | 77=>241 | n=>n,fun | n=>n⟩
theorem Tryz.laysF269:Go.Proofs.SlLaysF0.n6 Tryz.prog Tryz.laysF269_ren:={
 mixed:=by kernel_rfl
 f6:=⟨Tryz.f269.name,by decide,Tryz.func269.trans (congrArg some (by kernel_rfl))⟩
 f14:=⟨Tryz.f287.name,by decide,Tryz.func287.trans (congrArg some (by kernel_rfl))⟩
 f15:=Tryz.func65.trans (congrArg some (by kernel_rfl))
 f20:=⟨Tryz.f294.name,by decide,Tryz.func294.trans (congrArg some (by kernel_rfl))⟩
 f21:=⟨Tryz.f295.name,by decide,Tryz.func295.trans (congrArg some (by kernel_rfl))⟩
 f22:=⟨Tryz.f296.name,by decide,Tryz.func296.trans (congrArg some (by kernel_rfl))⟩
 f23:=⟨Tryz.f297.name,by decide,Tryz.func297.trans (congrArg some (by kernel_rfl))⟩
 f24:=⟨Tryz.f298.name,by decide,Tryz.func298.trans (congrArg some (by kernel_rfl))⟩
 f25:=⟨Tryz.f299.name,by decide,Tryz.func299.trans (congrArg some (by kernel_rfl))⟩
 f26:=⟨Tryz.f300.name,by decide,Tryz.func300.trans (congrArg some (by kernel_rfl))⟩
 f27:=⟨Tryz.f301.name,by decide,Tryz.func301.trans (congrArg some (by kernel_rfl))⟩
 f28:=Tryz.func97.trans (congrArg some (by kernel_rfl))
 f29:=Tryz.func98.trans (congrArg some (by kernel_rfl))
 f46:=⟨Tryz.f303.name,by decide,Tryz.func303.trans (congrArg some (by kernel_rfl))⟩
 f47:=Tryz.func154.trans (congrArg some (by kernel_rfl))
 f48:=Tryz.func155.trans (congrArg some (by kernel_rfl))
 f49:=⟨Tryz.f304.name,by decide,Tryz.func304.trans (congrArg some (by kernel_rfl))⟩
 f50:=⟨Tryz.f305.name,by decide,Tryz.func305.trans (congrArg some (by kernel_rfl))⟩
 f57:=⟨Tryz.f307.name,by decide,Tryz.func307.trans (congrArg some (by kernel_rfl))⟩
 t0:=Tryz.underlying0
 a0:=Tryz.isAgg0
 z0:=Tryz.sizeOf0
 v0:=Tryz.zeroValue0
 t3:=Tryz.underlying3
 a3:=Tryz.isAgg3
 z3:=Tryz.sizeOf3
 v3:=Tryz.zeroValue3
 t4:=Tryz.underlying4
 a4:=Tryz.isAgg4
 z4:=Tryz.sizeOf4
 v4:=Tryz.zeroValue4
 t5:=Tryz.underlying5
 a5:=Tryz.isAgg5
 z5:=Tryz.sizeOf5
 v5:=Tryz.zeroValue5
 t9:=Tryz.underlying9
 a9:=Tryz.isAgg9
 z9:=Tryz.sizeOf9
 v9:=Tryz.zeroValue9
 t22:=Tryz.underlying28
 a22:=Tryz.isAgg28
 z22:=Tryz.sizeOf28
 v22:=Tryz.zeroValue28
 t25:=Tryz.underlying325
 a25:=Tryz.isAgg325
 z25:=Tryz.sizeOf325
 v25:=Tryz.zeroValue325
 t39:=Tryz.underlying64
 a39:=Tryz.isAgg64
 z39:=Tryz.sizeOf64
 v39:=Tryz.zeroValue64
 t45:=Tryz.underlying169
 a45:=Tryz.isAgg169
 z45:=Tryz.sizeOf169
 v45:=Tryz.zeroValue169
 t46:=Tryz.underlying170
 a46:=Tryz.isAgg170
 z46:=Tryz.sizeOf170
 v46:=Tryz.zeroValue170
 t50:=Tryz.underlying83
 a50:=Tryz.isAgg83
 z50:=Tryz.sizeOf83
 v50:=Tryz.zeroValue83
 t53:=Tryz.underlying60
 a53:=Tryz.isAgg60
 z53:=Tryz.sizeOf60
 v53:=Tryz.zeroValue60
 t55:=Tryz.underlying178
 a55:=Tryz.isAgg178
 z55:=Tryz.sizeOf178
 v55:=Tryz.zeroValue178
 t66:=Tryz.underlying200
 a66:=Tryz.isAgg200
 z66:=Tryz.sizeOf200
 v66:=Tryz.zeroValue200
 t70:=Tryz.underlying204
 a70:=Tryz.isAgg204
 z70:=Tryz.sizeOf204
 v70:=Tryz.zeroValue204
 t76:=Tryz.underlying240
 a76:=Tryz.isAgg240
 z76:=Tryz.sizeOf240
 v76:=Tryz.zeroValue240
 t77:=Tryz.underlying241
 a77:=Tryz.isAgg241
 z77:=Tryz.sizeOf241
 v77:=Tryz.zeroValue241 }
def Tryz.laysF54_ren:Go.Shelf.Ren:=⟨fun | 6=>54 | 15=>65 | 14=>83 | 28=>97 | 29=>98 | 20=>145 | 21=>146 | 22=>147 | 23=>148 | 24=>149 | 25=>150 | 26=>151 | 27=>152 | 46=>194 | 47=>154 | 48=>155 | 49=>195 | 50=>196 | 57=>237 | n=>n,fun | 22=>30 | 24=>92 | 25=>125 | 3=>3 | 39=>64 | 0=>0 | 53=>60 | 55=>178 | 4=>4 | 46=>170 | 45=>169 | 50=>83 | 5=>5 | 9=>9 | 66=>200 | 70=>204 | 76=>240 | 77=>241 | n=>n,fun | n=>n⟩
theorem Tryz.laysF54:Go.Proofs.SlLaysF0.n6 Tryz.prog Tryz.laysF54_ren:={
 mixed:=by kernel_rfl
 f6:=⟨Tryz.f54.name,by decide,Tryz.func54.trans (congrArg some (by kernel_rfl))⟩
 f14:=⟨Tryz.f83.name,by decide,Tryz.func83.trans (congrArg some (by kernel_rfl))⟩
 f15:=Tryz.func65.trans (congrArg some (by kernel_rfl))
 f20:=⟨Tryz.f145.name,by decide,Tryz.func145.trans (congrArg some (by kernel_rfl))⟩
 f21:=⟨Tryz.f146.name,by decide,Tryz.func146.trans (congrArg some (by kernel_rfl))⟩
 f22:=⟨Tryz.f147.name,by decide,Tryz.func147.trans (congrArg some (by kernel_rfl))⟩
 f23:=⟨Tryz.f148.name,by decide,Tryz.func148.trans (congrArg some (by kernel_rfl))⟩
 f24:=⟨Tryz.f149.name,by decide,Tryz.func149.trans (congrArg some (by kernel_rfl))⟩
 f25:=⟨Tryz.f150.name,by decide,Tryz.func150.trans (congrArg some (by kernel_rfl))⟩
 f26:=⟨Tryz.f151.name,by decide,Tryz.func151.trans (congrArg some (by kernel_rfl))⟩
 f27:=⟨Tryz.f152.name,by decide,Tryz.func152.trans (congrArg some (by kernel_rfl))⟩
 f28:=Tryz.func97.trans (congrArg some (by kernel_rfl))
 f29:=Tryz.func98.trans (congrArg some (by kernel_rfl))
 f46:=⟨Tryz.f194.name,by decide,Tryz.func194.trans (congrArg some (by kernel_rfl))⟩
 f47:=Tryz.func154.trans (congrArg some (by kernel_rfl))
 f48:=Tryz.func155.trans (congrArg some (by kernel_rfl))
 f49:=⟨Tryz.f195.name,by decide,Tryz.func195.trans (congrArg some (by kernel_rfl))⟩
 f50:=⟨Tryz.f196.name,by decide,Tryz.func196.trans (congrArg some (by kernel_rfl))⟩
 f57:=⟨Tryz.f237.name,by decide,Tryz.func237.trans (congrArg some (by kernel_rfl))⟩
 t0:=Tryz.underlying0
 a0:=Tryz.isAgg0
 z0:=Tryz.sizeOf0
 v0:=Tryz.zeroValue0
 t3:=Tryz.underlying3
 a3:=Tryz.isAgg3
 z3:=Tryz.sizeOf3
 v3:=Tryz.zeroValue3
 t4:=Tryz.underlying4
 a4:=Tryz.isAgg4
 z4:=Tryz.sizeOf4
 v4:=Tryz.zeroValue4
 t5:=Tryz.underlying5
 a5:=Tryz.isAgg5
 z5:=Tryz.sizeOf5
 v5:=Tryz.zeroValue5
 t9:=Tryz.underlying9
 a9:=Tryz.isAgg9
 z9:=Tryz.sizeOf9
 v9:=Tryz.zeroValue9
 t22:=Tryz.underlying30
 a22:=Tryz.isAgg30
 z22:=Tryz.sizeOf30
 v22:=Tryz.zeroValue30
 t25:=Tryz.underlying125
 a25:=Tryz.isAgg125
 z25:=Tryz.sizeOf125
 v25:=Tryz.zeroValue125
 t39:=Tryz.underlying64
 a39:=Tryz.isAgg64
 z39:=Tryz.sizeOf64
 v39:=Tryz.zeroValue64
 t45:=Tryz.underlying169
 a45:=Tryz.isAgg169
 z45:=Tryz.sizeOf169
 v45:=Tryz.zeroValue169
 t46:=Tryz.underlying170
 a46:=Tryz.isAgg170
 z46:=Tryz.sizeOf170
 v46:=Tryz.zeroValue170
 t50:=Tryz.underlying83
 a50:=Tryz.isAgg83
 z50:=Tryz.sizeOf83
 v50:=Tryz.zeroValue83
 t53:=Tryz.underlying60
 a53:=Tryz.isAgg60
 z53:=Tryz.sizeOf60
 v53:=Tryz.zeroValue60
 t55:=Tryz.underlying178
 a55:=Tryz.isAgg178
 z55:=Tryz.sizeOf178
 v55:=Tryz.zeroValue178
 t66:=Tryz.underlying200
 a66:=Tryz.isAgg200
 z66:=Tryz.sizeOf200
 v66:=Tryz.zeroValue200
 t70:=Tryz.underlying204
 a70:=Tryz.isAgg204
 z70:=Tryz.sizeOf204
 v70:=Tryz.zeroValue204
 t76:=Tryz.underlying240
 a76:=Tryz.isAgg240
 z76:=Tryz.sizeOf240
 v76:=Tryz.zeroValue240
 t77:=Tryz.underlying241
 a77:=Tryz.isAgg241
 z77:=Tryz.sizeOf241
 v77:=Tryz.zeroValue241 }
def Tryz.lays169_ren:Go.Shelf.Ren:=⟨fun | 169=>228 | n=>n,fun | 70=>280 | 9=>9 | 0=>0 | 72=>282 | 37=>39 | 127=>314 | 3=>3 | 5=>5 | n=>n,fun | n=>n⟩
theorem Tryz.lays169:Go.Proofs.Lays.n169 Tryz.prog Tryz.lays169_ren:={
 mixed:=by kernel_rfl
 f169:=Tryz.func228.trans (congrArg some (by kernel_rfl))
 t0:=Tryz.underlying0
 a0:=Tryz.isAgg0
 z0:=Tryz.sizeOf0
 v0:=Tryz.zeroValue0
 t3:=Tryz.underlying3
 a3:=Tryz.isAgg3
 z3:=Tryz.sizeOf3
 v3:=Tryz.zeroValue3
 t9:=Tryz.underlying9
 a9:=Tryz.isAgg9
 z9:=Tryz.sizeOf9
 v9:=Tryz.zeroValue9
 t37:=Tryz.underlying39
 a37:=Tryz.isAgg39
 z37:=Tryz.sizeOf39
 v37:=Tryz.zeroValue39
 t70:=Tryz.underlying280
 a70:=Tryz.isAgg280
 z70:=Tryz.sizeOf280
 v70:=Tryz.zeroValue280
 t72:=Tryz.underlying282
 a72:=Tryz.isAgg282
 z72:=Tryz.sizeOf282
 v72:=Tryz.zeroValue282
 t127:=Tryz.underlying314
 a127:=Tryz.isAgg314
 z127:=Tryz.sizeOf314
 v127:=Tryz.zeroValue314 }
theorem Tryz.Builder_Extra_169:Builder.Extra Tryz.prog Tryz.lays169_ren:={
 sizeBuilder:=by kernel_rfl
 liesBuilder:=by kernel_rfl
 t5:=Tryz.underlying5
 a5:=Tryz.isAgg5
 z5:=Tryz.sizeOf5
 v5:=Tryz.zeroValue5
 infoByte:=by kernel_rfl
 cellsByte:=by kernel_rfl
 sizeByte:=by kernel_rfl
 neB5:=by decide }
def Tryz.lays156_ren:Go.Shelf.Ren:=⟨fun | 156=>185 | 165=>226 | 166=>227 | 169=>228 | 240=>253 | 241=>254 | 276=>276 | 277=>277 | n=>n,fun | 31=>22 | 9=>9 | 3=>3 | 4=>4 | 0=>0 | 20=>20 | 72=>282 | 76=>191 | 70=>280 | 37=>39 | 75=>190 | 127=>314 | 164=>329 | 5=>5 | 80=>283 | n=>n,fun | n=>n⟩
theorem Tryz.lays156:Go.Proofs.Lays.n156 Tryz.prog Tryz.lays156_ren:={
 mixed:=by kernel_rfl
 f156:=Tryz.func185.trans (congrArg some (by kernel_rfl))
 f165:=Tryz.func226.trans (congrArg some (by kernel_rfl))
 f166:=Tryz.func227.trans (congrArg some (by kernel_rfl))
 f169:=Tryz.func228.trans (congrArg some (by kernel_rfl))
 f240:=Tryz.func253.trans (congrArg some (by kernel_rfl))
 f241:=Tryz.func254.trans (congrArg some (by kernel_rfl))
 f276:=Tryz.func276.trans (congrArg some (by kernel_rfl))
 f277:=Tryz.func277.trans (congrArg some (by kernel_rfl))
 t0:=Tryz.underlying0
 a0:=Tryz.isAgg0
 z0:=Tryz.sizeOf0
 v0:=Tryz.zeroValue0
 t3:=Tryz.underlying3
 a3:=Tryz.isAgg3
 z3:=Tryz.sizeOf3
 v3:=Tryz.zeroValue3
 t4:=Tryz.underlying4
 a4:=Tryz.isAgg4
 z4:=Tryz.sizeOf4
 v4:=Tryz.zeroValue4
 t9:=Tryz.underlying9
 a9:=Tryz.isAgg9
 z9:=Tryz.sizeOf9
 v9:=Tryz.zeroValue9
 t20:=Tryz.underlying20
 a20:=Tryz.isAgg20
 z20:=Tryz.sizeOf20
 v20:=Tryz.zeroValue20
 t31:=Tryz.underlying22
 a31:=Tryz.isAgg22
 z31:=Tryz.sizeOf22
 v31:=Tryz.zeroValue22
 t37:=Tryz.underlying39
 a37:=Tryz.isAgg39
 z37:=Tryz.sizeOf39
 v37:=Tryz.zeroValue39
 t70:=Tryz.underlying280
 a70:=Tryz.isAgg280
 z70:=Tryz.sizeOf280
 v70:=Tryz.zeroValue280
 t72:=Tryz.underlying282
 a72:=Tryz.isAgg282
 z72:=Tryz.sizeOf282
 v72:=Tryz.zeroValue282
 t75:=Tryz.underlying190
 a75:=Tryz.isAgg190
 z75:=Tryz.sizeOf190
 v75:=Tryz.zeroValue190
 t76:=Tryz.underlying191
 a76:=Tryz.isAgg191
 z76:=Tryz.sizeOf191
 v76:=Tryz.zeroValue191
 t127:=Tryz.underlying314
 a127:=Tryz.isAgg314
 z127:=Tryz.sizeOf314
 v127:=Tryz.zeroValue314
 t164:=Tryz.underlying329
 a164:=Tryz.isAgg329
 z164:=Tryz.sizeOf329
 v164:=Tryz.zeroValue329 }
theorem Tryz.Builder_Extra_156:Builder.Extra Tryz.prog Tryz.lays156_ren:={
 sizeBuilder:=by kernel_rfl
 liesBuilder:=by kernel_rfl
 t5:=Tryz.underlying5
 a5:=Tryz.isAgg5
 z5:=Tryz.sizeOf5
 v5:=Tryz.zeroValue5
 infoByte:=by kernel_rfl
 cellsByte:=by kernel_rfl
 sizeByte:=by kernel_rfl
 neB5:=by decide }
end Go.Proofs
namespace Go.Proofs
open Go Pk Go.RowKit
theorem Tryz.srt269:IE Tryz.prog 269 6 :=
  ⟨fun p cap fv w=>AnyF.slices_SortFunc_none Tryz.laysF269 p cap fv w,
   fun α _ enc hk h1 cf hO g cb blk off cap d w eg hc hH hb hs hT=>AnyQ.slices_SortFunc_total Tryz.laysF269 6 Tryz.isAgg217 Tryz.sizeOf217 enc hk h1 cf hO g cb blk off cap d w eg hc hH hb hs hT⟩
theorem Tryz.srt54:IE Tryz.prog 54 5 :=
  ⟨fun p cap fv w=>AnyF.slices_SortFunc_none Tryz.laysF54 p cap fv w,
   fun α _ enc hk h1 cf hO g cb blk off cap d w eg hc hH hb hs hT=>AnyQ.slices_SortFunc_total Tryz.laysF54 5 Tryz.isAgg92 Tryz.sizeOf92 enc hk h1 cf hO g cb blk off cap d w eg hc hH hb hs hT⟩
theorem Tryz.szB:(Tryz.prog.info? 282).map (·.size)=some 2:=by kernel_rfl
theorem Tryz.liesB:liesAt Tryz.prog Tryz.prog.depth 282 (2/Tryz.prog.cellsOf 282) 0 282 1=true:=by kernel_rfl
theorem Tryz.infoU8:(Tryz.prog.info? 5).map (fun i=>(i.zero,i.size,i.bytes))=some (some (.int .u8 0),1,1):=by kernel_rfl
set_option maxHeartbeats 1000000 in
set_option maxRecDepth 100000 in
theorem Tryz.cc_used (b:Nat) (w:World) (h0:w.cell? ⟨b,0,none⟩=some (.pointer (some ⟨b,0,none⟩))):Calls Tryz.prog 253 #[.pointer (some ⟨b,0,none⟩)] w fun e w'=>e=.returned (.tuple #[])∧w'=w:=by
 obtain ⟨j,hj,_⟩:=Option.map_eq_some_iff.1 Tryz.szB
 go_enter Tryz.func253,Tryz.ntmps253
 go_wp2
 rw [Lib.run_neq_ptr_same w _ Tryz.underlying280 hj]
 go_wp2
 go_end0
 exact ⟨rfl,rfl⟩
set_option maxHeartbeats 1000000 in
set_option maxRecDepth 100000 in
theorem Tryz.cc_new (b:Nat) (w:World) (h0:w.cell? ⟨b,0,none⟩=some (.pointer none)) (hs:w.shape? b=some (282,2)) (hz:w.frozen? ⟨b,0,none⟩=false):Calls Tryz.prog 253 #[.pointer (some ⟨b,0,none⟩)] w fun e w'=>e=.returned (.tuple #[])∧w'=w.setCell ⟨b,0,none⟩ (.pointer (some ⟨b,0,none⟩)):=by
 obtain ⟨j,hj,hjs⟩:=Option.map_eq_some_iff.1 Tryz.szB
 go_enter Tryz.func253,Tryz.ntmps253
 go_wp2
 rw [Lib.run_to_unsafe w ⟨b,0,none⟩ Tryz.underlying280 Tryz.underlying329 hj (by rw [hjs];decide) hs (Nat.zero_lt_succ 1)];simp only [Result.andThen];rw [Oper.upon_value]
 go_wp2
 rw [run_callFunc_extern Tryz.func276 (by kernel_rfl) (by kernel_rfl) (by kernel_rfl) (e:=Extern.AbiNoEscape.same) (by kernel_rfl)];rw [Lib.run_noEscape];simp only [Result.andThen];rw [Oper.upon_value]
 go_wp2
 rw [Lib.run_from_unsafe w ⟨b,0,none⟩ Tryz.underlying329 Tryz.underlying280 hj hs Tryz.liesB];simp only [Result.andThen];rw [Oper.upon_value]
 go_wp2
 go_end0
 exact ⟨rfl,rfl⟩
theorem Tryz.cc_any (B b:Nat) (l:List Value) (w:World) (h:Lib.IsBuilderF 282 5 B b l w):Calls Tryz.prog 253 #[.pointer (some ⟨b,0,none⟩)] w fun e w'=>e=.returned (.tuple #[])∧Lib.BuilderAtF 282 5 B b (.pointer (some ⟨b,0,none⟩)) l w'∧Below B w w':=by
 rcases h with h | h
 ·exact (Tryz.cc_new b w h.cell0 h.shape h.frozen0).mono fun e w' hw=>by
   obtain ⟨rfl,rfl⟩:=hw;exact ⟨rfl,h.used _,(Below.refl B w).setCell (p:=⟨b,0,none⟩) h.1 _⟩
 exact (Tryz.cc_used b w h.cell0).mono fun e w' hw=>by
  obtain ⟨rfl,rfl⟩:=hw;exact ⟨rfl,h,Below.refl B _⟩
set_option maxHeartbeats 2000000 in
set_option maxRecDepth 100000 in
theorem Tryz.bWrite (B b:Nat) (l:List Value) (s:ByteArray) (w:World) (h:Lib.IsBuilderF 282 5 B b l w) (hl:l.length+s.size≤140737488355328) (hB:B≤w.heap.size) :
  Calls Tryz.prog 227 #[.pointer (some ⟨b,0,none⟩),.string s] w fun e w'=>e=.returned (.tuple #[.int .i64 s.size,.nilIface])∧Lib.BuilderAtF 282 5 B b (.pointer (some ⟨b,0,none⟩)) (l++Lib.strCells s) w'∧Below B w w':=by
 obtain ⟨i0,hi,hz0,hz1,hz2⟩:=info_parts Tryz.infoU8;have eA1:∀ args w,(callFunc 253 args).run Tryz.prog w=.ok (.enter 253 args) w:=enters_of Tryz.func253 (by kernel_rfl) rfl
 go_enter Tryz.func227,Tryz.ntmps227
 go_wp2_with (go_at_fn 253;refine (Tryz.cc_any B b l _ h).mono ?_)
 rintro e w1 ⟨rfl,⟨hBb,v,hbk,hown,hne⟩,hb1⟩;have c0:w1.cell? ⟨b,0,none⟩=some (.pointer (some ⟨b,0,none⟩)):=by rw [Lib.cell_of_heap hbk];rfl
 have c1:w1.cell? ⟨b,1,none⟩=some v:=by rw [Lib.cell_of_heap hbk];rfl
 go_wp2_with (at_builtin;refine Lib.wpList_append_own_stringF _ rfl _ _ 39 9 rfl B 5 i0 Tryz.underlying39 Tryz.underlying9 hi hz0 hz1 hz2 _ _ _ rfl hown s rfl ?c3 ?c4 ?c5 ?_)
 case c3=>unfold maxLen;omega
 case c4=>omega
 case c5=>have:=hb1.size;omega
 intro v' w2 hown' hgrow _;have hlt:b < w1.heap.size:=(Array.getElem?_eq_some_iff.1 hbk).1;have hb2:w2.heap[b]?=some (.cells #[.pointer (some ⟨b,0,none⟩),v] 282 (0,0)):=by
  rw [hgrow.block b hlt (fun e=>hne e.symm)];exact hbk
 have d0:w2.cell? ⟨b,0,none⟩=some (.pointer (some ⟨b,0,none⟩)):=by rw [Lib.cell_of_heap hb2];rfl
 have d1:w2.cell? ⟨b,1,none⟩=some v:=by rw [Lib.cell_of_heap hb2];rfl
 have f1:w2.frozen? ⟨b,1,none⟩=false:=Lib.frozen_of_heap hb2 1;obtain ⟨ao,n',cap,rfl⟩:∃ ao n' cap,v'=.slice ao n' cap:=by
  rcases hown'.2 with ⟨hv,_⟩ | ⟨g,cap,cur,fz,hv,_⟩
  ·exact ⟨_,_,_,hv⟩
  exact ⟨_,_,_,hv⟩
 go_wp2
 go_ret2
 exact ⟨rfl,Lib.BuilderAtF.put (T:=282) (e:=5) hBb hb2 (bs':=l++Lib.strCells s) (by simpa [Lib.strCells_length] using hown') (by decide),(hb1.grown hgrow (by have:=hb1.size;omega) (fun k hk=>(hown.lt k hk).1)).setCell (p:=⟨b,1,none⟩) hBb _⟩
end Go.Proofs
set_option maxHeartbeats 4000000
namespace T12
open Go Go.Proofs Pk Go.RowKit
structure Gv (M:Prop) (H:Hp):Prop where
 gl:Gl M 1 2 3 H
 mx:∃ m,aL H ⟨0,0,none⟩ [.int .i64 m]
theorem Gv.mono {M:Prop} {H K:Hp} (h:Gv M H) (hk:H.le K):Gv M K:=⟨h.gl.mono hk,h.mx.imp fun _ hm=>hm.mono hk⟩
noncomputable def IJ (s:aF):Option (Int×Bool):=BS s
noncomputable def IK (n:Int):Option aF:=BT n
noncomputable def PT (s t:aF):Option (aF×aF×Bool):=bY (s.length≤1073741824) (some (Lib.cut s t))
theorem WM (s:aF):(bs s).data.toList=s:=by simp [bs]
theorem YT {M:Prop} {W:World} {H:Hp} (hH:H.le (hp W)) (hg:Gv M H) (s:aF) {r:Int×Bool} (hr:IJ s=some r):Calls Tryz.prog 127 #[.string (bs s)] W (eU M H W (fun v K=>∃ (er1:Value),v=.tuple #[.int .i64 r.1,er1]∧Er er1 r.2)):=by
 unfold IJ BS at hr;obtain ⟨hl,hr⟩:=aE hr;obtain rfl:=Option.some.inj hr;have hz:(bs s).size=s.length:=fK s;obtain ⟨e0,h0,i0⟩:=hg.gl.syn;obtain ⟨e1,h1,i1⟩:=hg.gl.rng
 cases h:Lib.atoiAll s with
 | ok v =>
  refine (Any.strconv_Atoi_ok Tryz.laysC172 (bs s) (by omega) v (by rw [WM];exact h) W).mono ?_;rintro e w' ⟨rfl,hw⟩;refine ⟨⟨_,by simp [jS,h],.inl ⟨by simp [jS,h],rfl⟩⟩,?_⟩;rcases hw with rfl | ⟨t,rfl⟩
  ·exact fX.refl _ _
  exact fX.of_below hg.gl.nq (Lib.bytesWorld_below _ _ _)
 | range =>
  refine (Any.strconv_Atoi_range Tryz.laysC172 (bs s) (by omega) (by rw [WM];exact h) e1 W (rA hH h1) i1).mono ?_;rintro e w' ⟨N,rfl,_,_,hb⟩;have hr1:jS s=(Lib.atoiSat s,true):=by simp [jS,h]
  rw [hr1,WM];exact ⟨⟨_,rfl,.inr ⟨rfl,_,_,rfl⟩⟩,fX.of_below hg.gl.nq hb⟩
 | _ =>
  refine (Any.strconv_Atoi_syntax Tryz.laysC172 (bs s) (by omega) (by rw [WM];exact h) e0 W (rA hH h0) i0).mono ?_;rintro e w' ⟨N,rfl,_,_,hb⟩;have hr1:jS s=(0,true):=by simp [jS,h]
  rw [hr1];exact ⟨⟨_,rfl,.inr ⟨rfl,_,_,rfl⟩⟩,fX.of_below hg.gl.nq hb⟩
theorem KV {W:World} {H:Hp} (hH:H.le (hp W)) {M:Prop} (hg:Gv M H) (n:Int) (h1 : -9223372036854775808≤n) (h2:n≤9223372036854775807):Calls Tryz.prog 128 #[.int .i64 n] W fun e w'=>e=.returned (.string (bs (Lib.itoa n)))∧∃ k os,w'=Sort.grow (W.drewN k) os:=by
 refine (Any.strconv_Itoa Tryz.laysM171 n h1 h2 W (BQ (by kernel_rfl) hH hg.gl.tab)).mono ?_;rintro e w' ⟨rfl,k,os,rfl⟩;exact ⟨rfl,k,os,rfl⟩
theorem tF (M:Prop) (W:World) (k:Nat) (os:Array Obj):fX M W (Sort.grow (W.drewN k) os) :=
 ⟨rfl,rfl,rfl,(by show W.heap.size≤(W.heap++os).size;rw [Array.size_append];omega),fun b hb=>Array.getElem?_append_left hb,fun _=>Nat.le_add_right _ _⟩
theorem YU {M:Prop} {W:World} {H:Hp} (hH:H.le (hp W)) (hg:Gv M H) (n:Int) {r:aF} (hr:IK n=some r):Calls Tryz.prog 128 #[.int .i64 n] W (bP M W (.string (bs r))):=by
 unfold IK BT at hr;obtain ⟨hl,hr⟩:=aE hr;obtain rfl:=Option.some.inj hr;refine (KV hH hg n hl.1 hl.2).mono ?_;rintro e w' ⟨rfl,k,os,rfl⟩;exact ⟨rfl,tF M W k os⟩
theorem w77 {M:Prop} {W:World} {H:Hp} (hH:H.le (hp W)) (hg:Gv M H) (s t:aF) {r:aF×aF×Bool} (hr:PT s t=some r):Calls Tryz.prog 77 #[.string (bs s),.string (bs t)] W (bP M W (.tuple #[.string (bs r.1),.string (bs r.2.1),.bool r.2.2])):=by
 unfold PT at hr;obtain ⟨hl,hr⟩:=aE hr;obtain rfl:=Option.some.inj hr;obtain ⟨m,hm⟩:=hg.mx;refine (Any.strings_Cut Tryz.lays145 (bs s) (bs t) m W (by rw [fK];omega) (rA hH hm)).mono ?_;rintro e w' ⟨rfl,k,rfl⟩;refine ⟨by simp [bs],?_⟩;exact ⟨rfl,rfl,rfl,Nat.le_refl _,fun _ _=>rfl,fun _=>Nat.le_add_right _ _⟩
noncomputable def CJ (l:List aF) (sep:aF):Option aF:=bY (l.length≤1073741824∧(Lib.join l sep).length≤1073741824) (some (Lib.join l sep))
theorem YV {M:Prop} {W:World} {H:Hp} (hH:H.le (hp W)) (hg:Gv M H) {ad:Option Addr} {cap:Nat} {l:List aF} (hl:Sl (aG cE) 1 H ad cap l) (sep:aF) {r:aF} (hr:CJ l sep=some r):Calls Tryz.prog 185 #[.slice ad l.length cap,.string (bs sep)] W (bP M W (.string (bs r))):=by
 unfold CJ at hr;obtain ⟨hb,hr⟩:=aE hr;obtain rfl:=Option.some.inj hr;have hx:(l.map bs).map (·.data.toList)=l:=by
  rw [List.map_map]
  conv=>rhs;rw [← List.map_id l]
  exact List.map_congr_left fun x _=>by simp [bs]
 cases l with
 | nil =>
  refine (Any.strings_Join_none Tryz.lays156 Tryz.Builder_Extra_156 ad cap (bs sep) W).mono ?_;rintro e w' ⟨rfl,rfl⟩;exact ⟨by simp [bs,Lib.join_nil],fX.refl _ _⟩
 | cons x l =>
  obtain ⟨p,cs,rfl,hp0,h2,h3,h4⟩:=hl.2 0 x rfl;obtain ⟨b,o,sp⟩:=p;obtain rfl:sp=none:=hp0;have hcell:∀ (j:Nat) y,((x::l).map bs)[j]?=some y→W.cell? ⟨b,o+j,none⟩=some (.string y):=fun j y hy=>by
   rw [List.getElem?_map,Option.map_eq_some_iff] at hy;obtain ⟨z,hz,rfl⟩:=hy;obtain ⟨p,cs,h1,_,_,h3,h4⟩:=hl.2 j z hz;cases h1;have h4:cs=cE z:=h4;subst h4;have:=(h3.mono hH).cell (j:=0) (v:=.string (bs z)) rfl;have e:((⟨b,o,none⟩:Addr).add (j*1)).add 0=⟨b,o+j,none⟩:=by rw [Nat.mul_one,dJ (i:=j) rfl];rfl
   rwa [e] at this
  have hlt:b < W.heap.size:=by
   have h4:cs=cE x:=h4;subst h4;obtain ⟨c,ty,fz,h5,_⟩:=h3.2 0 (.string (bs x)) rfl;have h6:=hH _ _ h5;rw [Nat.zero_mul,dJ rfl] at h6;exact (Array.getElem?_eq_some_iff.1 h6).1
  have hn:((x::l).map bs).length=(x::l).length:=List.length_map _;have:=Any.strings_Join Tryz.lays156 Tryz.Builder_Extra_156 b o cap ((x::l).map bs) (bs sep) W hcell hlt (by rw [hn];omega) (by rw [hn];exact hl.1.1) (by rw [hx,show (bs sep).data.toList=sep by simp [bs]];omega);rw [hx,hn] at this;refine this.mono ?_;rintro e w' ⟨rfl,hw⟩;exact ⟨by simp [bs],fX.of_below hg.gl.nq hw⟩
end T12
set_option maxHeartbeats 4000000
namespace T12
open Go Go.Proofs Pk Go.RowKit
def tG:Any→aF
 | .i n=>Lib.itoa n
 | .s b=>b
def KW:Any→Prop
 | .i n=>-9223372036854775808≤n∧n≤9223372036854775807
 | .s _=>True
instance:(x:Any)→Decidable (KW x)
 | .i _=>inferInstanceAs (Decidable (_∧_))
 | .s _=>inferInstanceAs (Decidable True)
def fV (l:List Any):aF:=l.flatMap tG
noncomputable def vG (l:List Any):Option aF:=bY ((∀ x∈l,KW x)∧(fV l).length≤1073741824) (some (fV l))
theorem qN {T e:TypeId} {B b:Nat} {p:Value} {l:List Value} {W W':World} (h:Lib.BuilderAtF T e B b p l W) (hb:Below W.heap.size W W'):Lib.BuilderAtF T e B b p l W':=by
 have hlt:=h.lt;obtain ⟨hB,v,hv,hown,hne⟩:=h;exact ⟨hB,v,(hb.block b hlt).trans hv,hown.kept (row:=none) ⟨hb.os,hb.tape,hb.output,hb.size,fun k hk _=>hb.block k hk⟩ (Classical.em _),hne⟩
theorem zN {T e:TypeId} {B b:Nat} {l:List Value} {W W':World} (h:Lib.IsBuilderF T e B b l W) (hb:Below W.heap.size W W'):Lib.IsBuilderF T e B b l W' :=
 h.elim (fun x=>.inl (qN x hb)) (fun x=>.inr (qN x hb))
theorem vH (W:World) (k:Nat) (os:Array Obj):Below W.heap.size W (Sort.grow (W.drewN k) os) :=
 ⟨rfl,rfl,rfl,(by show W.heap.size≤(W.heap++os).size;rw [Array.size_append];omega),fun b hb=>Array.getElem?_append_left hb⟩
theorem vI {l:List Any} {i:Nat} {x:Any} (h:l[i]?=some x):fV (l.take (i+1))=fV (l.take i)++tG x:=by
 unfold fV;rw [List.take_succ,h];simp
theorem CK {l:List Any} (i:Nat):(fV (l.take i)).length≤(fV l).length:=by
 have:fV l=fV (l.take i)++fV (l.drop i):=by unfold fV;rw [← List.flatMap_append,List.take_append_drop]
 rw [this];simp
section
variable {P:Program} {r:Option Nat} {n:aR} {p:List PanicEntry→aR} {a:Act} {w:World} {D:List Deferred} {k:Nat} {L:cA} {ops:Array Oper} {rest:List Oper} {d:Nat} {ty:TypeId} {pos:String} {af:Array Edge}
theorem KX {y:Operand} {xT t:TypeId} {v:Value} {ds:TypeDesc} (hA:aT D k a L) (hd:Nat.blt d k=true) (hu:P.underlying t=some ds) (hds:(match ds with | .interface _=>false | _=>true)=true) (hy:ev L y=some (.iface t v))
  (h:∀ a,aT D k a ((d,.tuple #[v,.bool true])::L)→O P r ops n p rest a w):O P r ops n p (⟨some d,.typeAssert y xT t true,ty,pos,af,none⟩::rest) a w :=
 cM rfl (fun _ h=>by cases h) (w':=w) (v:=.tuple #[v,.bool true]) (by
  simp only [execOp,Instr.typeAssert,hA.eval hy]
  cases ds <;> simp at hds <;> simp [run_underlying hu,Result.andThen]) (h _ (hA.put hd _))
theorem SL {y:Operand} {xT t t':TypeId} {v z:Value} {ds:TypeDesc} (hA:aT D k a L) (hd:Nat.blt d k=true) (hu:P.underlying t=some ds) (hds:(match ds with | .interface _=>false | _=>true)=true) (hz:∀ w,(zeroValue t).run P w=.ok z w) (hne:Nat.beq t' t=false) (hy:ev L y=some (.iface t' v))
  (h:∀ a,aT D k a ((d,.tuple #[z,.bool false])::L)→O P r ops n p rest a w):O P r ops n p (⟨some d,.typeAssert y xT t true,ty,pos,af,none⟩::rest) a w:=by
 have hn:¬t'=t:=MQ hne
 exact cM rfl (fun _ h=>by cases h) (w':=w) (v:=.tuple #[z,.bool false]) (by
  simp only [execOp,Instr.typeAssert,hA.eval hy]
  cases ds <;> simp at hds <;> simp [run_underlying hu,Result.andThen,hn,hz]) (h _ (hA.put hd _))
theorem rI {x:Operand} {xs:List Operand} {ats:Array TypeId} {f:FuncId} {vs:List Value} {v:Value} {R:World→Prop} (hA:aT D k a L) (hd:Nat.blt d k=true) (hf:ev L x=some (.func (.func f) #[] #[])) (hxs:jZ L xs=some vs)
  (hcall:∀ args w,(callFunc f args).run P w=.ok (.enter f args) w) (hc:Calls P f vs.toArray w fun e w'=>e=.returned v∧R w') (h:∀ w',R w'→∀ a,aT D k a ((d,v)::L)→O P r ops n p rest a w') :
  O P r ops n p (⟨some d,.call ⟨.value x,xs.toArray,ats⟩,ty,pos,af,none⟩::rest) a w:=by
 refine gP rfl (fun _ h=>by cases h) (fG (first:=#[]) (cap:=#[]) hA hf hxs hcall) (by simpa using hc) ?_ ?_ ?_
 ·intro v' w' hv;obtain ⟨e,hR⟩:=hv;cases e;exact h w' hR _ (hA.put hd _)
 ·intro ch w' hv;cases hv.1
 intro w' hv;cases hv.1
end
theorem NG {M:Prop} {W:World} {H:Hp} (hH:H.le (hp W)) (hg:Gv M H) {ad_p0_:Option Addr} {cap_p0_:Nat} {p0_:List Any} (h_p0_:Sl (aG oT) 1 H ad_p0_ cap_p0_ p0_) {r:aF} (hr:vG p0_=some r):Calls Tryz.prog 211 #[.slice ad_p0_ p0_.length cap_p0_] W (bP M W (.string (bs r))):=by
 unfold vG at hr;obtain ⟨⟨hok,hlen⟩,hr⟩:=aE hr;obtain rfl:=Option.some.inj hr;refine enter Tryz.func211 rfl Tryz.ntmps211 rfl ?_;intro a hA;refine gE (dG (fF hA rfl rfl fun a hA=>?_));refine fQ (gE (dG (cM rfl (fun _ h=>by cases h) (w':=W.alloc (.cells #[.pointer none,.slice none 0 0] 282)) (v:=.pointer (some ⟨W.heap.size,0,none⟩)) (by simp [execOp,Instr.alloc,Tryz.zeroValue282,jK,Value.cells]) ?_)));have hA1:=hA.put (d:=3) rfl (.pointer (some ⟨W.heap.size,0,none⟩));have hB1:Lib.IsBuilderF 282 5 W.heap.size W.heap.size (Lib.byteCells (fV (p0_.take 0))) (W.alloc (.cells #[.pointer none,.slice none 0 0] 282)):=(Lib.fresh_isBuilder 282 5 W).elim (fun h=>.inl (.of h)) (fun h=>.inr (.of h));have hW1:Below W.heap.size W (W.alloc (.cells #[.pointer none,.slice none 0 0] 282)):=(Below.refl _ _).alloc (Nat.le_refl _) _;generalize (a.put (some 3) (.pointer (some ⟨W.heap.size,0,none⟩)))=a1 at hA1 ⊢;generalize (W.alloc (.cells #[.pointer none,.slice none 0 0] 282))=w1 at hB1 hW1 ⊢;refine fQ (gE (gE (dG (fZ hA1 rfl rfl fun a hA=>KK hA rfl rfl Tryz.underlying301 fun a hA=>fZ hA rfl rfl fun a hA=>?_))));refine fQ (lJ (AZ (fun j a w=>∃ i,i≤p0_.length∧j=p0_.length - i∧aT [] 35 a [(3,.pointer (some ⟨W.heap.size,0,none⟩)),(10,.slice ad_p0_ p0_.length cap_p0_),(11,.int .i64 p0_.length),(12,.int .i64 i)]∧Lib.IsBuilderF 282 5 W.heap.size W.heap.size (Lib.byteCells (fV (p0_.take i))) w∧Below W.heap.size W w) (j:=p0_.length) ⟨0,Nat.zero_le _,rfl,hA.cut ⟨rfl,rfl,rfl,rfl,trivial⟩,hB1,hW1⟩ ?_));rintro j a w ⟨i,hil,rfl,hA,hB,hW⟩;have hll:=h_p0_.len;refine gE (dG (QU hA rfl rfl rfl fun a hA=>fQ (gE (QN hA rfl (fun hc=>AX ?_) (fun hc=>AY rfl ?_)))))
 ·have hi:i < p0_.length:=by omega
  obtain ⟨x,hx⟩:∃ x,p0_[i]?=some x:=⟨_,List.getElem?_eq_getElem hi⟩;have hxok:=hok x (List.mem_of_getElem? hx);have hHw:H.le (hp w):=hH.trans (fX.of_below hg.gl.nq hW).le;have hlen2:(fV (p0_.take (i+1))).length≤1073741824:=Nat.le_trans (CK _) hlen;have hst:=vI hx;have hcnt:(fV (p0_.take i)).length+(tG x).length≤1073741824:=by rw [hst,List.length_append] at hlen2;exact hlen2
  have hBle:W.heap.size≤w.heap.size:=hW.size;refine gE (oH (n:=fun a w'=>aT [] 35 a [(3,.pointer (some ⟨W.heap.size,0,none⟩)),(10,.slice ad_p0_ p0_.length cap_p0_),(11,.int .i64 p0_.length),(12,.int .i64 i)]∧Lib.BuilderAtF 282 5 W.heap.size W.heap.size (.pointer (some ⟨W.heap.size,0,none⟩)) (Lib.byteCells (fV (p0_.take i))++Lib.strCells (bs (tG x))) w'∧Below W.heap.size W w') ?_ (fun _ _ h=>h) (fun _ K _ _ hK h=>⟨K,hK,h⟩) (fun _ _ _ h=>h) ?_)
  ·rintro a w' ⟨hA,hB,hW⟩;exact dG (KH hA rfl rfl rfl (by omega) (by omega) fun a hA=>fZ hA rfl rfl fun a hA=>fQ ⟨p0_.length - (i+1),by omega,i+1,by omega,rfl,hA.cut ⟨rfl,rfl,rfl,by simp [lk],trivial⟩,.inr (by rw [hst];unfold Lib.byteCells at *;rw [List.map_append];exact hB),hW⟩)
  refine lJ (gE (dG (XT hA rfl rfl rfl Tryz.underlying301 Tryz.sizeOf20 (h_p0_.mono (aG.mono _) hHw) rfl rfl hx fun q cs hq hcs hf a hA=>uQ (v:=RX x) hA rfl rfl Tryz.isAgg20 hq (by rw [show cs=oT x from hf];rfl) fun a hA=>fF hA rfl rfl fun a hA=>fQ ?_)));clear hf hq hcs
  cases x with
  | i z =>
   refine gE (dG (fZ hA rfl rfl fun a hA=>KX hA rfl Tryz.underlying3 rfl rfl fun a hA=>fZ hA rfl rfl fun a hA=>lM (vs:=[.int .i64 z,.bool true]) hA rfl rfl rfl fun a hA=>lM (vs:=[.int .i64 z,.bool true]) hA rfl rfl rfl fun a hA=>fF hA rfl rfl fun a hA=>fF hA rfl rfl fun a hA=>fQ ?_));refine gE (dG (fZ hA rfl rfl fun a hA=>fQ (iX hA rfl (fun _=>?_) (fun h=>by cases h))));refine dG (fZ hA rfl rfl fun a hA=>rI (x:=.func 128) (xs:=[.tmp 22]) hA rfl rfl rfl Tryz.call128 (KV hHw hg z hxok.1 hxok.2) ?_);rintro w' ⟨k,os,rfl⟩ a hA;have hb:=vH w k os;have hW':=hW.trans (hb.mono hBle);refine rI (x:=.func 227) (xs:=[.tmp 3,.tmp 23]) hA rfl rfl rfl Tryz.call227 (Tryz.bWrite W.heap.size W.heap.size _ (bs (Lib.itoa z)) _ (zN hB hb) ?_ hW'.size) ?_
   ·rw [Lib.byteCells_length,fK];have:(Lib.itoa z).length=(tG (.i z)).length:=rfl;omega
   rintro w' ⟨hB',hW2⟩ a hA;exact fQ ⟨hA.cut ⟨rfl,rfl,rfl,rfl,trivial⟩,hB',hW'.trans hW2⟩
  | s z =>
   refine gE (dG (fZ hA rfl rfl fun a hA=>SL hA rfl Tryz.underlying3 rfl Tryz.zeroValue3 rfl rfl fun a hA=>fZ hA rfl rfl fun a hA=>lM (vs:=[.int .i64 0,.bool false]) hA rfl rfl rfl fun a hA=>lM (vs:=[.int .i64 0,.bool false]) hA rfl rfl rfl fun a hA=>fF hA rfl rfl fun a hA=>fF hA rfl rfl fun a hA=>fQ ?_));refine gE (dG (fZ hA rfl rfl fun a hA=>fQ (iX hA rfl (fun h=>by cases h) (fun _=>?_))));refine gE (dG (fZ hA rfl rfl fun a hA=>KX hA rfl Tryz.underlying9 rfl rfl fun a hA=>fZ hA rfl rfl fun a hA=>lM (vs:=[.string (bs z),.bool true]) hA rfl rfl rfl fun a hA=>lM (vs:=[.string (bs z),.bool true]) hA rfl rfl rfl fun a hA=>fF hA rfl rfl fun a hA=>fF hA rfl rfl fun a hA=>fQ ?_));refine gE (dG (fZ hA rfl rfl fun a hA=>fQ (iX hA rfl (fun _=>?_) (fun h=>by cases h))));refine dG (fZ hA rfl rfl fun a hA=>rI (x:=.func 227) (xs:=[.tmp 3,.tmp 31]) hA rfl rfl rfl Tryz.call227 (Tryz.bWrite W.heap.size W.heap.size _ (bs z) _ hB ?_ hBle) ?_)
   ·rw [Lib.byteCells_length,fK];have:z.length=(tG (.s z)).length:=rfl;omega
   rintro w' ⟨hB',hW2⟩ a hA;exact fQ ⟨hA.cut ⟨rfl,rfl,rfl,rfl,trivial⟩,hB',hW.trans hW2⟩
 have hi:i=p0_.length:=by omega
 subst hi;rw [List.take_length] at hB;refine gE (dG (rI (x:=.func 228) (xs:=[.tmp 3]) hA rfl rfl rfl Tryz.call228 (Any.Builder_String_any_f Tryz.lays169 Tryz.Builder_Extra_169 W.heap.size W.heap.size (fV p0_) w hB hW.size) ?_));rintro w' ⟨hB',hW'⟩ a hA;refine fF hA rfl rfl fun a hA=>fQ (KG (dQ hA rfl rfl ?_));exact ⟨rfl,fX.of_below hg.gl.nq (hW.trans hW')⟩
end T12
namespace T12
open Go Go.Proofs Pk Tryz
theorem J.{u} {α:Sort u} {a:α}:a=a:=rfl
structure aH where
 anchor:Int
 text:aF
 deriving DecidableEq,Inhabited
def aY (x:aH):List Value:=[.int .i64 x.anchor,.string (bs x.text)]
structure dX where
 day:Int
 paragraphs:List aH
 deriving DecidableEq,Inhabited
def bV:Hp→List Value→dX→Prop:=fun H cs x=>∃ (ad0:Option Addr) (cap0:Nat),cs=[.int .i64 x.day,.slice ad0 x.paragraphs.length cap0]∧Sl (aG aY) 2 H ad0 cap0 x.paragraphs
theorem bV.one:nP bV:=fun _ _ _ ⟨_,_,h,_⟩=>by subst h;rfl
theorem bV.mono:gQ bV:=fun _ _ _ _ hk ⟨a0,c0,h,f0⟩=>⟨a0,c0,h,f0.mono (aG.mono _) hk⟩
structure bU where
 number:Int
 bound:Int
 height:Int
 width:Int
 parts:List dX
 deriving DecidableEq,Inhabited
def cC:Hp→List Value→bU→Prop:=fun H cs x=>∃ (ad0:Option Addr) (cap0:Nat),cs=[.int .i64 x.number,.int .i64 x.bound,.int .i64 x.height,.int .i64 x.width,.slice ad0 x.parts.length cap0]∧Sl (bV) 2 H ad0 cap0 x.parts
theorem cC.one:nP cC:=fun _ _ _ ⟨_,_,h,_⟩=>by subst h;rfl
theorem cC.mono:gQ cC:=fun _ _ _ _ hk ⟨a0,c0,h,f0⟩=>⟨a0,c0,h,f0.mono (bV.mono) hk⟩
structure aO where
 number:Int
 day:Int
 kind:Int
 anchor:Int
 text:aF
 new_:Int
 deriving DecidableEq,Inhabited
def aN (x:aO):List Value:=[.int .i64 x.number,.int .i64 x.day,.int .u8 x.kind,.int .i64 x.anchor,.string (bs x.text),.int .i64 x.new_]
structure gO where
 anchor:Int
 kind:Int
 until_:Int
 deriving DecidableEq,Inhabited
def eL (x:gO):List Value:=[.int .i64 x.anchor,.int .i64 x.kind,.int .i64 x.until_]
structure aQ where
 number:Int
 of:Int
 from_:Int
 to_:Int
 words:List aF
 deriving DecidableEq,Inhabited
def bB:Hp→List Value→aQ→Prop:=fun H cs x=>∃ (ad0:Option Addr) (cap0:Nat),cs=[.int .i64 x.number,.int .i64 x.of,.int .i64 x.from_,.int .i64 x.to_,.slice ad0 x.words.length cap0]∧Sl (aG cE) 1 H ad0 cap0 x.words
theorem bB.one:nP bB:=fun _ _ _ ⟨_,_,h,_⟩=>by subst h;rfl
theorem bB.mono:gQ bB:=fun _ _ _ _ hk ⟨a0,c0,h,f0⟩=>⟨a0,c0,h,f0.mono (aG.mono _) hk⟩
structure bL where
 words:List aF
 papers:List aQ
 deriving DecidableEq,Inhabited
def cJ:Hp→List Value→bL→Prop:=fun H cs x=>∃ (ad0:Option Addr) (cap0:Nat) (ad1:Option Addr) (cap1:Nat),cs=[.slice ad0 x.words.length cap0,.slice ad1 x.papers.length cap1]∧Sl (aG cE) 1 H ad0 cap0 x.words∧Sl (bB) 5 H ad1 cap1 x.papers
theorem cJ.one:nP cJ:=fun _ _ _ ⟨_,_,_,_,h,_⟩=>by subst h;rfl
theorem cJ.mono:gQ cJ:=fun _ _ _ _ hk ⟨a0,c0,a1,c1,h,f0,f1⟩=>⟨a0,c0,a1,c1,h,f0.mono (aG.mono _) hk,f1.mono (bB.mono) hk⟩
structure bJ where
 e0:List Int
 e1:List Int
 deriving DecidableEq,Inhabited
def iB:Hp→List Value→bJ→Prop:=fun H cs x=>∃ (ad0:Option Addr) (cap0:Nat) (ad1:Option Addr) (cap1:Nat),cs=[.slice ad0 x.e0.length cap0,.slice ad1 x.e1.length cap1]∧Sl (aG (bT .i64)) 1 H ad0 cap0 x.e0∧Sl (aG (bT .i64)) 1 H ad1 cap1 x.e1
theorem iB.one:nP iB:=fun _ _ _ ⟨_,_,_,_,h,_⟩=>by subst h;rfl
theorem iB.mono:gQ iB:=fun _ _ _ _ hk ⟨a0,c0,a1,c1,h,f0,f1⟩=>⟨a0,c0,a1,c1,h,f0.mono (aG.mono _) hk,f1.mono (aG.mono _) hk⟩
structure eY where
 a:Int
 b:Int
 deriving DecidableEq,Inhabited
def eH (x:eY):List Value:=[.int .i64 x.a,.int .i64 x.b]
structure dP where
 holder:Int
 for_:Int
 deriving DecidableEq,Inhabited
def eC (x:dP):List Value:=[.int .i64 x.holder,.int .i64 x.for_]
structure aW where
 members:Int
 ayes:bJ
 noes:bJ
 pairs:List eY
 proxies:List dP
 rule:Int
 need:Int
 quorum:Int
 tie:Int
 deriving DecidableEq,Inhabited
structure WN where
 a0:Option Addr
 c0:Nat
 a1:Option Addr
 c1:Nat
 a2:Option Addr
 c2:Nat
 a3:Option Addr
 c3:Nat
 a4:Option Addr
 c4:Nat
 a5:Option Addr
 c5:Nat
abbrev dD (x:aW) (z:WN):List Value:=[.int .i64 x.members,.slice z.a0 x.ayes.e0.length z.c0,.slice z.a1 x.ayes.e1.length z.c1,.slice z.a2 x.noes.e0.length z.c2,.slice z.a3 x.noes.e1.length z.c3,.slice z.a4 x.pairs.length z.c4,.slice z.a5 x.proxies.length z.c5,.int .u8 x.rule,.int .i64 x.need,.int .i64 x.quorum,.int .u8 x.tie]
structure iJ (H:Hp) (x:aW) (z:WN):Prop where
 f0:Sl (aG (bT .i64)) 1 H z.a0 z.c0 x.ayes.e0
 f1:Sl (aG (bT .i64)) 1 H z.a1 z.c1 x.ayes.e1
 f2:Sl (aG (bT .i64)) 1 H z.a2 z.c2 x.noes.e0
 f3:Sl (aG (bT .i64)) 1 H z.a3 z.c3 x.noes.e1
 f4:Sl (aG eH) 2 H z.a4 z.c4 x.pairs
 f5:Sl (aG eC) 2 H z.a5 z.c5 x.proxies
theorem iJ.mono {H K:Hp} {x:aW} {z:WN} (h:iJ H x z) (k:H.le K):iJ K x z:=⟨h.f0.mono (aG.mono _) k,h.f1.mono (aG.mono _) k,h.f2.mono (aG.mono _) k,h.f3.mono (aG.mono _) k,h.f4.mono (aG.mono _) k,h.f5.mono (aG.mono _) k⟩
theorem iJ.lens {H:Hp} {x:aW} {z:WN} (h:iJ H x z):x.ayes.e0.length≤9223372036854775807∧x.ayes.e1.length≤9223372036854775807∧x.noes.e0.length≤9223372036854775807∧x.noes.e1.length≤9223372036854775807∧x.pairs.length≤9223372036854775807∧x.proxies.length≤9223372036854775807:=⟨h.f0.len,h.f1.len,h.f2.len,h.f3.len,h.f4.len,h.f5.len⟩
def bN:Hp→List Value→aW→Prop:=fun H cs x=>∃ z,cs=dD x z∧iJ H x z
theorem bN.one:nP bN:=fun _ _ _ ⟨_,h,_⟩=>by subst h;rfl
theorem bN.mono:gQ bN:=fun _ _ _ _ hk ⟨z,h,f⟩=>⟨z,h,f.mono hk⟩
structure cY where
 day:Int
 house:Int
 volume:bU
 bound:Bool
 errata:List aO
 hides:List gO
 cites:List aF
 motion:bL
 moved:Bool
 choice:List Int
 division:aW
 open_:Bool
 results:List UInt8
 deriving DecidableEq,Inhabited
structure tH where
 a0:Option Addr
 c0:Nat
 a1:Option Addr
 c1:Nat
 a2:Option Addr
 c2:Nat
 a3:Option Addr
 c3:Nat
 a4:Option Addr
 c4:Nat
 a5:Option Addr
 c5:Nat
 a6:Option Addr
 c6:Nat
 a7:Option Addr
 c7:Nat
 a8:Option Addr
 c8:Nat
 a9:Option Addr
 c9:Nat
 a10:Option Addr
 c10:Nat
 a11:Option Addr
 c11:Nat
 a12:Option Addr
 c12:Nat
 a13:Option Addr
 c13:Nat
abbrev cB (x:cY) (z:tH):List Value:=[.int .i64 x.day,.int .i64 x.house,.int .i64 x.volume.number,.int .i64 x.volume.bound,.int .i64 x.volume.height,.int .i64 x.volume.width,.slice z.a0 x.volume.parts.length z.c0,.bool x.bound,.slice z.a1 x.errata.length z.c1,.slice z.a2 x.hides.length z.c2,.slice z.a3 x.cites.length z.c3,.slice z.a4 x.motion.words.length z.c4,.slice z.a5 x.motion.papers.length z.c5,.bool x.moved,.slice z.a6 x.choice.length z.c6,.int .i64 x.division.members,.slice z.a7 x.division.ayes.e0.length z.c7,.slice z.a8 x.division.ayes.e1.length z.c8,.slice z.a9 x.division.noes.e0.length z.c9,.slice z.a10 x.division.noes.e1.length z.c10,.slice z.a11 x.division.pairs.length z.c11,.slice z.a12 x.division.proxies.length z.c12,.int .u8 x.division.rule,.int .i64 x.division.need,.int .i64 x.division.quorum,.int .u8 x.division.tie,.bool x.open_,.slice z.a13 x.results.length z.c13]
structure nC (H:Hp) (x:cY) (z:tH):Prop where
 f0:Sl (bV) 2 H z.a0 z.c0 x.volume.parts
 f1:Sl (aG aN) 6 H z.a1 z.c1 x.errata
 f2:Sl (aG eL) 3 H z.a2 z.c2 x.hides
 f3:Sl (aG cE) 1 H z.a3 z.c3 x.cites
 f4:Sl (aG cE) 1 H z.a4 z.c4 x.motion.words
 f5:Sl (bB) 5 H z.a5 z.c5 x.motion.papers
 f6:Sl (aG (bT .i64)) 1 H z.a6 z.c6 x.choice
 f7:Sl (aG (bT .i64)) 1 H z.a7 z.c7 x.division.ayes.e0
 f8:Sl (aG (bT .i64)) 1 H z.a8 z.c8 x.division.ayes.e1
 f9:Sl (aG (bT .i64)) 1 H z.a9 z.c9 x.division.noes.e0
 f10:Sl (aG (bT .i64)) 1 H z.a10 z.c10 x.division.noes.e1
 f11:Sl (aG eH) 2 H z.a11 z.c11 x.division.pairs
 f12:Sl (aG eC) 2 H z.a12 z.c12 x.division.proxies
 f13:Sl (aG cD) 1 H z.a13 z.c13 x.results
theorem nC.mono {H K:Hp} {x:cY} {z:tH} (h:nC H x z) (k:H.le K):nC K x z:=⟨h.f0.mono (bV.mono) k,h.f1.mono (aG.mono _) k,h.f2.mono (aG.mono _) k,h.f3.mono (aG.mono _) k,h.f4.mono (aG.mono _) k,h.f5.mono (bB.mono) k,h.f6.mono (aG.mono _) k,h.f7.mono (aG.mono _) k,h.f8.mono (aG.mono _) k,h.f9.mono (aG.mono _) k,h.f10.mono (aG.mono _) k,h.f11.mono (aG.mono _) k,h.f12.mono (aG.mono _) k,h.f13.mono (aG.mono _) k⟩
theorem nC.lens {H:Hp} {x:cY} {z:tH} (h:nC H x z):x.volume.parts.length≤9223372036854775807∧x.errata.length≤9223372036854775807∧x.hides.length≤9223372036854775807∧x.cites.length≤9223372036854775807∧x.motion.words.length≤9223372036854775807∧x.motion.papers.length≤9223372036854775807∧x.choice.length≤9223372036854775807∧x.division.ayes.e0.length≤9223372036854775807∧x.division.ayes.e1.length≤9223372036854775807∧x.division.noes.e0.length≤9223372036854775807∧x.division.noes.e1.length≤9223372036854775807∧x.division.pairs.length≤9223372036854775807∧x.division.proxies.length≤9223372036854775807∧x.results.length≤9223372036854775807:=⟨h.f0.len,h.f1.len,h.f2.len,h.f3.len,h.f4.len,h.f5.len,h.f6.len,h.f7.len,h.f8.len,h.f9.len,h.f10.len,h.f11.len,h.f12.len,h.f13.len⟩
def oZ:Hp→List Value→cY→Prop:=fun H cs x=>∃ z,cs=cB x z∧nC H x z
theorem oZ.one:nP oZ:=fun _ _ _ ⟨_,h,_⟩=>by subst h;rfl
theorem oZ.mono:gQ oZ:=fun _ _ _ _ hk ⟨z,h,f⟩=>⟨z,h,f.mono hk⟩
structure aI where
 state:cY
 deriving DecidableEq,Inhabited
abbrev CL (x:aI) (z:tH):List Value:=[.int .i64 x.state.day,.int .i64 x.state.house,.int .i64 x.state.volume.number,.int .i64 x.state.volume.bound,.int .i64 x.state.volume.height,.int .i64 x.state.volume.width,.slice z.a0 x.state.volume.parts.length z.c0,.bool x.state.bound,.slice z.a1 x.state.errata.length z.c1,.slice z.a2 x.state.hides.length z.c2,.slice z.a3 x.state.cites.length z.c3,.slice z.a4 x.state.motion.words.length z.c4,.slice z.a5 x.state.motion.papers.length z.c5,.bool x.state.moved,.slice z.a6 x.state.choice.length z.c6,.int .i64 x.state.division.members,.slice z.a7 x.state.division.ayes.e0.length z.c7,.slice z.a8 x.state.division.ayes.e1.length z.c8,.slice z.a9 x.state.division.noes.e0.length z.c9,.slice z.a10 x.state.division.noes.e1.length z.c10,.slice z.a11 x.state.division.pairs.length z.c11,.slice z.a12 x.state.division.proxies.length z.c12,.int .u8 x.state.division.rule,.int .i64 x.state.division.need,.int .i64 x.state.division.quorum,.int .u8 x.state.division.tie,.bool x.state.open_,.slice z.a13 x.state.results.length z.c13]
structure jF (H:Hp) (x:aI) (z:tH):Prop where
 f0:Sl (bV) 2 H z.a0 z.c0 x.state.volume.parts
 f1:Sl (aG aN) 6 H z.a1 z.c1 x.state.errata
 f2:Sl (aG eL) 3 H z.a2 z.c2 x.state.hides
 f3:Sl (aG cE) 1 H z.a3 z.c3 x.state.cites
 f4:Sl (aG cE) 1 H z.a4 z.c4 x.state.motion.words
 f5:Sl (bB) 5 H z.a5 z.c5 x.state.motion.papers
 f6:Sl (aG (bT .i64)) 1 H z.a6 z.c6 x.state.choice
 f7:Sl (aG (bT .i64)) 1 H z.a7 z.c7 x.state.division.ayes.e0
 f8:Sl (aG (bT .i64)) 1 H z.a8 z.c8 x.state.division.ayes.e1
 f9:Sl (aG (bT .i64)) 1 H z.a9 z.c9 x.state.division.noes.e0
 f10:Sl (aG (bT .i64)) 1 H z.a10 z.c10 x.state.division.noes.e1
 f11:Sl (aG eH) 2 H z.a11 z.c11 x.state.division.pairs
 f12:Sl (aG eC) 2 H z.a12 z.c12 x.state.division.proxies
 f13:Sl (aG cD) 1 H z.a13 z.c13 x.state.results
theorem jF.mono {H K:Hp} {x:aI} {z:tH} (h:jF H x z) (k:H.le K):jF K x z:=⟨h.f0.mono (bV.mono) k,h.f1.mono (aG.mono _) k,h.f2.mono (aG.mono _) k,h.f3.mono (aG.mono _) k,h.f4.mono (aG.mono _) k,h.f5.mono (bB.mono) k,h.f6.mono (aG.mono _) k,h.f7.mono (aG.mono _) k,h.f8.mono (aG.mono _) k,h.f9.mono (aG.mono _) k,h.f10.mono (aG.mono _) k,h.f11.mono (aG.mono _) k,h.f12.mono (aG.mono _) k,h.f13.mono (aG.mono _) k⟩
theorem jF.lens {H:Hp} {x:aI} {z:tH} (h:jF H x z):x.state.volume.parts.length≤9223372036854775807∧x.state.errata.length≤9223372036854775807∧x.state.hides.length≤9223372036854775807∧x.state.cites.length≤9223372036854775807∧x.state.motion.words.length≤9223372036854775807∧x.state.motion.papers.length≤9223372036854775807∧x.state.choice.length≤9223372036854775807∧x.state.division.ayes.e0.length≤9223372036854775807∧x.state.division.ayes.e1.length≤9223372036854775807∧x.state.division.noes.e0.length≤9223372036854775807∧x.state.division.noes.e1.length≤9223372036854775807∧x.state.division.pairs.length≤9223372036854775807∧x.state.division.proxies.length≤9223372036854775807∧x.state.results.length≤9223372036854775807:=⟨h.f0.len,h.f1.len,h.f2.len,h.f3.len,h.f4.len,h.f5.len,h.f6.len,h.f7.len,h.f8.len,h.f9.len,h.f10.len,h.f11.len,h.f12.len,h.f13.len⟩
def aU:Hp→List Value→aI→Prop:=fun H cs x=>∃ z,cs=CL x z∧jF H x z
theorem aU.one:nP aU:=fun _ _ _ ⟨_,h,_⟩=>by subst h;rfl
theorem aU.mono:gQ aU:=fun _ _ _ _ hk ⟨z,h,f⟩=>⟨z,h,f.mono hk⟩
structure cL where
 paragraph:aH
 removed:Bool
 deriving DecidableEq,Inhabited
def bX (x:cL):List Value:=[.int .i64 x.paragraph.anchor,.string (bs x.paragraph.text),.bool x.removed]
structure gX where
 volume:bU
 parts:List (List cL)
 deriving DecidableEq,Inhabited
def jG:Hp→List Value→gX→Prop:=fun H cs x=>∃ (ad0:Option Addr) (cap0:Nat) (ad1:Option Addr) (cap1:Nat),cs=[.int .i64 x.volume.number,.int .i64 x.volume.bound,.int .i64 x.volume.height,.int .i64 x.volume.width,.slice ad0 x.volume.parts.length cap0,.slice ad1 x.parts.length cap1]∧Sl (bV) 2 H ad0 cap0 x.volume.parts∧Sl (sG (aG bX) 3) 1 H ad1 cap1 x.parts
theorem jG.one:nP jG:=fun _ _ _ ⟨_,_,_,_,h,_⟩=>by subst h;rfl
theorem jG.mono:gQ jG:=fun _ _ _ _ hk ⟨a0,c0,a1,c1,h,f0,f1⟩=>⟨a0,c0,a1,c1,h,f0.mono (bV.mono) hk,f1.mono (sG.mono (aG.mono _)) hk⟩
structure pA where
 anchor:Int
 column:Int
 line:Int
 lines:Int
 deriving DecidableEq,Inhabited
structure cV where
 place:pA
 day:Int
 number:Int
 deriving DecidableEq,Inhabited
def eK (x:cV):List Value:=[.int .i64 x.place.anchor,.int .i64 x.place.column,.int .i64 x.place.line,.int .i64 x.place.lines,.int .i64 x.day,.int .i64 x.number]
structure fD where
 ayes:Int
 noes:Int
 deriving DecidableEq,Inhabited
def iP (x:fD):List Value:=[.int .i64 x.ayes,.int .i64 x.noes]
structure bE where
 e0:Bool
 e1:Bool
 e2:Bool
 e3:Bool
 e4:Bool
 e5:Bool
 e6:Bool
 e7:Bool
 e8:Bool
 e9:Bool
 e10:Bool
 e11:Bool
 e12:Bool
 e13:Bool
 e14:Bool
 e15:Bool
 e16:Bool
 e17:Bool
 e18:Bool
 e19:Bool
 e20:Bool
 e21:Bool
 e22:Bool
 e23:Bool
 e24:Bool
 e25:Bool
 e26:Bool
 e27:Bool
 e28:Bool
 e29:Bool
 e30:Bool
 e31:Bool
 e32:Bool
 e33:Bool
 e34:Bool
 e35:Bool
 e36:Bool
 e37:Bool
 e38:Bool
 e39:Bool
 deriving Inhabited
def bC (x:bE):List Value:=[.bool x.e0,.bool x.e1,.bool x.e2,.bool x.e3,.bool x.e4,.bool x.e5,.bool x.e6,.bool x.e7,.bool x.e8,.bool x.e9,.bool x.e10,.bool x.e11,.bool x.e12,.bool x.e13,.bool x.e14,.bool x.e15,.bool x.e16,.bool x.e17,.bool x.e18,.bool x.e19,.bool x.e20,.bool x.e21,.bool x.e22,.bool x.e23,.bool x.e24,.bool x.e25,.bool x.e26,.bool x.e27,.bool x.e28,.bool x.e29,.bool x.e30,.bool x.e31,.bool x.e32,.bool x.e33,.bool x.e34,.bool x.e35,.bool x.e36,.bool x.e37,.bool x.e38,.bool x.e39]
def bE.vals (x:bE):List Bool:=[x.e0,x.e1,x.e2,x.e3,x.e4,x.e5,x.e6,x.e7,x.e8,x.e9,x.e10,x.e11,x.e12,x.e13,x.e14,x.e15,x.e16,x.e17,x.e18,x.e19,x.e20,x.e21,x.e22,x.e23,x.e24,x.e25,x.e26,x.e27,x.e28,x.e29,x.e30,x.e31,x.e32,x.e33,x.e34,x.e35,x.e36,x.e37,x.e38,x.e39]
def bE.get (x:bE) (j:Nat):Bool:=x.vals.getD j default
def bE.set (x:bE) (j:Nat) (v:Bool):bE:=⟨if j=0 then v else x.e0,if j=1 then v else x.e1,if j=2 then v else x.e2,if j=3 then v else x.e3,if j=4 then v else x.e4,if j=5 then v else x.e5,if j=6 then v else x.e6,if j=7 then v else x.e7,if j=8 then v else x.e8,if j=9 then v else x.e9,if j=10 then v else x.e10,if j=11 then v else x.e11,if j=12 then v else x.e12,if j=13 then v else x.e13,if j=14 then v else x.e14,if j=15 then v else x.e15,if j=16 then v else x.e16,if j=17 then v else x.e17,if j=18 then v else x.e18,if j=19 then v else x.e19,if j=20 then v else x.e20,if j=21 then v else x.e21,if j=22 then v else x.e22,if j=23 then v else x.e23,if j=24 then v else x.e24,if j=25 then v else x.e25,if j=26 then v else x.e26,if j=27 then v else x.e27,if j=28 then v else x.e28,if j=29 then v else x.e29,if j=30 then v else x.e30,if j=31 then v else x.e31,if j=32 then v else x.e32,if j=33 then v else x.e33,if j=34 then v else x.e34,if j=35 then v else x.e35,if j=36 then v else x.e36,if j=37 then v else x.e37,if j=38 then v else x.e38,if j=39 then v else x.e39⟩
def bE.zero:bE:=⟨false,false,false,false,false,false,false,false,false,false,false,false,false,false,false,false,false,false,false,false,false,false,false,false,false,false,false,false,false,false,false,false,false,false,false,false,false,false,false,false⟩
theorem bE.vset (x:bE) (v:Bool):∀ (j:Nat),j < 40→(x.set j v).vals=x.vals.set j v
 | 0,_=>rfl
 | 1,_=>rfl
 | 2,_=>rfl
 | 3,_=>rfl
 | 4,_=>rfl
 | 5,_=>rfl
 | 6,_=>rfl
 | 7,_=>rfl
 | 8,_=>rfl
 | 9,_=>rfl
 | 10,_=>rfl
 | 11,_=>rfl
 | 12,_=>rfl
 | 13,_=>rfl
 | 14,_=>rfl
 | 15,_=>rfl
 | 16,_=>rfl
 | 17,_=>rfl
 | 18,_=>rfl
 | 19,_=>rfl
 | 20,_=>rfl
 | 21,_=>rfl
 | 22,_=>rfl
 | 23,_=>rfl
 | 24,_=>rfl
 | 25,_=>rfl
 | 26,_=>rfl
 | 27,_=>rfl
 | 28,_=>rfl
 | 29,_=>rfl
 | 30,_=>rfl
 | 31,_=>rfl
 | 32,_=>rfl
 | 33,_=>rfl
 | 34,_=>rfl
 | 35,_=>rfl
 | 36,_=>rfl
 | 37,_=>rfl
 | 38,_=>rfl
 | 39,_=>rfl
 | n+40,h=>absurd h (by omega)
theorem bE.em (x:bE):bC x=x.vals.map (fun v=>Value.bool v):=rfl
theorem bE.st {x:bE} {j:Nat} {v:Bool} (h:j < 40):(bC x).set j (Value.bool v)=bC (x.set j v):=by rw [bE.em,bE.em,bE.vset x v j h,List.map_set]
theorem bE.at {x:bE} {j:Nat} (h:j < 40):(bC x)[j]?=some (Value.bool (x.get j)):=by
 have h2:x.vals[j]?=some (x.get j):=by unfold bE.get;rw [List.getD_eq_getElem?_getD,List.getElem?_eq_getElem (show j < x.vals.length from h)];rfl
 rw [bE.em,List.getElem?_map,h2];rfl
structure cZ where
 division:aW
 paired:bE
 may:List (List UInt8)
 deriving Inhabited
def eQ:Hp→List Value→cZ→Prop:=fun H cs x=>∃ (ad0:Option Addr) (cap0:Nat) (ad1:Option Addr) (cap1:Nat) (MY:Option Addr) (cap2:Nat) (WH:Option Addr) (cap3:Nat) (ad4:Option Addr) (cap4:Nat) (ad5:Option Addr) (cap5:Nat) (hs6:List fJ),cs=(eP (eP [.int .i64 x.division.members,.slice ad0 x.division.ayes.e0.length cap0,.slice ad1 x.division.ayes.e1.length cap1,.slice MY x.division.noes.e0.length cap2,.slice WH x.division.noes.e1.length cap3,.slice ad4 x.division.pairs.length cap4,.slice ad5 x.division.proxies.length cap5,.int .u8 x.division.rule,.int .i64 x.division.need,.int .i64 x.division.quorum,.int .u8 x.division.tie] (bC x.paired)) (iA hs6 x.may))∧Sl (aG (bT .i64)) 1 H ad0 cap0 x.division.ayes.e0∧Sl (aG (bT .i64)) 1 H ad1 cap1 x.division.ayes.e1∧Sl (aG (bT .i64)) 1 H MY cap2 x.division.noes.e0∧Sl (aG (bT .i64)) 1 H WH cap3 x.division.noes.e1∧Sl (aG eH) 2 H ad4 cap4 x.division.pairs∧Sl (aG eC) 2 H ad5 cap5 x.division.proxies∧jT (aG cD) 1 40 H hs6 x.may
theorem eQ.mono:gQ eQ:=fun _ _ _ _ hk ⟨a0,c0,a1,c1,a2,c2,a3,c3,a4,c4,a5,c5,s6,h,f0,f1,f2,f3,f4,f5,f6⟩=>⟨a0,c0,a1,c1,a2,c2,a3,c3,a4,c4,a5,c5,s6,h,f0.mono (aG.mono _) hk,f1.mono (aG.mono _) hk,f2.mono (aG.mono _) hk,f3.mono (aG.mono _) hk,f4.mono (aG.mono _) hk,f5.mono (aG.mono _) hk,f6.mono (aG.mono _) hk⟩
structure bA where
 e0:Int
 e1:Int
 e2:Int
 e3:Int
 e4:Int
 e5:Int
 e6:Int
 e7:Int
 e8:Int
 e9:Int
 e10:Int
 e11:Int
 e12:Int
 e13:Int
 e14:Int
 e15:Int
 e16:Int
 e17:Int
 e18:Int
 e19:Int
 e20:Int
 e21:Int
 e22:Int
 e23:Int
 e24:Int
 e25:Int
 e26:Int
 e27:Int
 e28:Int
 e29:Int
 e30:Int
 e31:Int
 e32:Int
 e33:Int
 e34:Int
 e35:Int
 e36:Int
 e37:Int
 e38:Int
 e39:Int
 deriving Inhabited
def bW (x:bA):List Value:=[.int .u8 x.e0,.int .u8 x.e1,.int .u8 x.e2,.int .u8 x.e3,.int .u8 x.e4,.int .u8 x.e5,.int .u8 x.e6,.int .u8 x.e7,.int .u8 x.e8,.int .u8 x.e9,.int .u8 x.e10,.int .u8 x.e11,.int .u8 x.e12,.int .u8 x.e13,.int .u8 x.e14,.int .u8 x.e15,.int .u8 x.e16,.int .u8 x.e17,.int .u8 x.e18,.int .u8 x.e19,.int .u8 x.e20,.int .u8 x.e21,.int .u8 x.e22,.int .u8 x.e23,.int .u8 x.e24,.int .u8 x.e25,.int .u8 x.e26,.int .u8 x.e27,.int .u8 x.e28,.int .u8 x.e29,.int .u8 x.e30,.int .u8 x.e31,.int .u8 x.e32,.int .u8 x.e33,.int .u8 x.e34,.int .u8 x.e35,.int .u8 x.e36,.int .u8 x.e37,.int .u8 x.e38,.int .u8 x.e39]
def bA.vals (x:bA):List Int:=[x.e0,x.e1,x.e2,x.e3,x.e4,x.e5,x.e6,x.e7,x.e8,x.e9,x.e10,x.e11,x.e12,x.e13,x.e14,x.e15,x.e16,x.e17,x.e18,x.e19,x.e20,x.e21,x.e22,x.e23,x.e24,x.e25,x.e26,x.e27,x.e28,x.e29,x.e30,x.e31,x.e32,x.e33,x.e34,x.e35,x.e36,x.e37,x.e38,x.e39]
def bA.get (x:bA) (j:Nat):Int:=x.vals.getD j default
def bA.set (x:bA) (j:Nat) (v:Int):bA:=⟨if j=0 then v else x.e0,if j=1 then v else x.e1,if j=2 then v else x.e2,if j=3 then v else x.e3,if j=4 then v else x.e4,if j=5 then v else x.e5,if j=6 then v else x.e6,if j=7 then v else x.e7,if j=8 then v else x.e8,if j=9 then v else x.e9,if j=10 then v else x.e10,if j=11 then v else x.e11,if j=12 then v else x.e12,if j=13 then v else x.e13,if j=14 then v else x.e14,if j=15 then v else x.e15,if j=16 then v else x.e16,if j=17 then v else x.e17,if j=18 then v else x.e18,if j=19 then v else x.e19,if j=20 then v else x.e20,if j=21 then v else x.e21,if j=22 then v else x.e22,if j=23 then v else x.e23,if j=24 then v else x.e24,if j=25 then v else x.e25,if j=26 then v else x.e26,if j=27 then v else x.e27,if j=28 then v else x.e28,if j=29 then v else x.e29,if j=30 then v else x.e30,if j=31 then v else x.e31,if j=32 then v else x.e32,if j=33 then v else x.e33,if j=34 then v else x.e34,if j=35 then v else x.e35,if j=36 then v else x.e36,if j=37 then v else x.e37,if j=38 then v else x.e38,if j=39 then v else x.e39⟩
def bA.zero:bA:=⟨0,0,0,0,0,0,0,0,0,0,0,0,0,0,0,0,0,0,0,0,0,0,0,0,0,0,0,0,0,0,0,0,0,0,0,0,0,0,0,0⟩
theorem bA.vset (x:bA) (v:Int):∀ (j:Nat),j < 40→(x.set j v).vals=x.vals.set j v
 | 0,_=>rfl
 | 1,_=>rfl
 | 2,_=>rfl
 | 3,_=>rfl
 | 4,_=>rfl
 | 5,_=>rfl
 | 6,_=>rfl
 | 7,_=>rfl
 | 8,_=>rfl
 | 9,_=>rfl
 | 10,_=>rfl
 | 11,_=>rfl
 | 12,_=>rfl
 | 13,_=>rfl
 | 14,_=>rfl
 | 15,_=>rfl
 | 16,_=>rfl
 | 17,_=>rfl
 | 18,_=>rfl
 | 19,_=>rfl
 | 20,_=>rfl
 | 21,_=>rfl
 | 22,_=>rfl
 | 23,_=>rfl
 | 24,_=>rfl
 | 25,_=>rfl
 | 26,_=>rfl
 | 27,_=>rfl
 | 28,_=>rfl
 | 29,_=>rfl
 | 30,_=>rfl
 | 31,_=>rfl
 | 32,_=>rfl
 | 33,_=>rfl
 | 34,_=>rfl
 | 35,_=>rfl
 | 36,_=>rfl
 | 37,_=>rfl
 | 38,_=>rfl
 | 39,_=>rfl
 | n+40,h=>absurd h (by omega)
theorem bA.em (x:bA):bW x=x.vals.map (fun v=>Value.int .u8 v):=rfl
theorem bA.st {x:bA} {j:Nat} {v:Int} (h:j < 40):(bW x).set j (Value.int .u8 v)=bW (x.set j v):=by rw [bA.em,bA.em,bA.vset x v j h,List.map_set]
theorem bA.at {x:bA} {j:Nat} (h:j < 40):(bW x)[j]?=some (Value.int .u8 (x.get j)):=by
 have h2:x.vals[j]?=some (x.get j):=by unfold bA.get;rw [List.getD_eq_getElem?_getD,List.getElem?_eq_getElem (show j < x.vals.length from h)];rfl
 rw [bA.em,List.getElem?_map,h2];rfl
structure bF where
 number:Int
 index:Int
 deriving DecidableEq,Inhabited
def bZ (x:bF):List Value:=[.int .i64 x.number,.int .i64 x.index]
structure cN where
 many:Int
 text:Bool
 do_:Option Nat
 deriving DecidableEq,Inhabited
def dT (x:cN):List Value:=[.int .i64 x.many,.bool x.text,qL x.do_]
structure dF where
 e0:Int
 e1:Int
 e2:Int
 e3:Int
 e4:Int
 e5:Int
 deriving Inhabited
def fN (x:dF):List Value:=[.int .u8 x.e0,.int .u8 x.e1,.int .u8 x.e2,.int .u8 x.e3,.int .u8 x.e4,.int .u8 x.e5]
def dF.vals (x:dF):List Int:=[x.e0,x.e1,x.e2,x.e3,x.e4,x.e5]
def dF.get (x:dF) (j:Nat):Int:=x.vals.getD j default
def dF.set (x:dF) (j:Nat) (v:Int):dF:=⟨if j=0 then v else x.e0,if j=1 then v else x.e1,if j=2 then v else x.e2,if j=3 then v else x.e3,if j=4 then v else x.e4,if j=5 then v else x.e5⟩
def dF.zero:dF:=⟨0,0,0,0,0,0⟩
theorem dF.vset (x:dF) (v:Int):∀ (j:Nat),j < 6→(x.set j v).vals=x.vals.set j v
 | 0,_=>rfl
 | 1,_=>rfl
 | 2,_=>rfl
 | 3,_=>rfl
 | 4,_=>rfl
 | 5,_=>rfl
 | n+6,h=>absurd h (by omega)
theorem dF.em (x:dF):fN x=x.vals.map (fun v=>Value.int .u8 v):=rfl
theorem dF.st {x:dF} {j:Nat} {v:Int} (h:j < 6):(fN x).set j (Value.int .u8 v)=fN (x.set j v):=by rw [dF.em,dF.em,dF.vset x v j h,List.map_set]
theorem dF.at {x:dF} {j:Nat} (h:j < 6):(fN x)[j]?=some (Value.int .u8 (x.get j)):=by
 have h2:x.vals[j]?=some (x.get j):=by unfold dF.get;rw [List.getD_eq_getElem?_getD,List.getElem?_eq_getElem (show j < x.vals.length from h)];rfl
 rw [dF.em,List.getElem?_map,h2];rfl
theorem mixed:prog.follows .mixedOrders=true:=by kernel_rfl
theorem B27:dM prog 27 [.int .i64 0,.int .i64 0,.int .i64 0,.int .i64 0,.slice none 0 0] #[(0,1),(1,1),(2,1),(3,1),(4,1)]:=⟨⟨.agg #[.int .i64 0,.int .i64 0,.int .i64 0,.int .i64 0,.slice none 0 0],rfl,zeroValue27⟩,⟨_,underlying27,fun _=>by kernel_rfl⟩⟩
theorem B32:dM prog 32 [.slice none 0 0,.slice none 0 0] #[(0,1),(1,1)]:=⟨⟨.agg #[.slice none 0 0,.slice none 0 0],rfl,zeroValue32⟩,⟨_,underlying32,fun _=>by kernel_rfl⟩⟩
theorem B38:dM prog 38 [.int .i64 0,.slice none 0 0,.slice none 0 0,.slice none 0 0,.slice none 0 0,.slice none 0 0,.slice none 0 0,.int .u8 0,.int .i64 0,.int .i64 0,.int .u8 0] #[(0,1),(1,2),(3,2),(5,1),(6,1),(7,1),(8,1),(9,1),(10,1)]:=⟨⟨.agg #[.int .i64 0,.slice none 0 0,.slice none 0 0,.slice none 0 0,.slice none 0 0,.slice none 0 0,.slice none 0 0,.int .u8 0,.int .i64 0,.int .i64 0,.int .u8 0],rfl,zeroValue38⟩,⟨_,underlying38,fun _=>by kernel_rfl⟩⟩
theorem B41:dM prog 41 [.int .i64 0,.int .i64 0,.int .i64 0,.int .i64 0,.int .i64 0,.int .i64 0,.slice none 0 0,.bool false,.slice none 0 0,.slice none 0 0,.slice none 0 0,.slice none 0 0,.slice none 0 0,.bool false,.slice none 0 0,.int .i64 0,.slice none 0 0,.slice none 0 0,.slice none 0 0,.slice none 0 0,.slice none 0 0,.slice none 0 0,.int .u8 0,.int .i64 0,.int .i64 0,.int .u8 0,.bool false,.slice none 0 0] #[(0,1),(1,1),(2,5),(7,1),(8,1),(9,1),(10,1),(11,2),(13,1),(14,1),(15,11),(26,1),(27,1)]:=⟨⟨.agg #[.int .i64 0,.int .i64 0,.int .i64 0,.int .i64 0,.int .i64 0,.int .i64 0,.slice none 0 0,.bool false,.slice none 0 0,.slice none 0 0,.slice none 0 0,.slice none 0 0,.slice none 0 0,.bool false,.slice none 0 0,.int .i64 0,.slice none 0 0,.slice none 0 0,.slice none 0 0,.slice none 0 0,.slice none 0 0,.slice none 0 0,.int .u8 0,.int .i64 0,.int .i64 0,.int .u8 0,.bool false,.slice none 0 0],rfl,zeroValue41⟩,⟨_,underlying41,fun _=>by kernel_rfl⟩⟩
theorem B54:dM prog 54 [.int .i64 0,.slice none 0 0] #[(0,1),(1,1)]:=⟨⟨.agg #[.int .i64 0,.slice none 0 0],rfl,zeroValue54⟩,⟨_,underlying54,fun _=>by kernel_rfl⟩⟩
theorem B56:dM prog 56 [.int .i64 0,.int .i64 0] #[(0,1),(1,1)]:=⟨⟨.agg #[.int .i64 0,.int .i64 0],rfl,zeroValue56⟩,⟨_,underlying56,fun _=>by kernel_rfl⟩⟩
theorem B58:dM prog 58 [.int .i64 0,.string (bs [])] #[(0,1),(1,1)]:=⟨⟨.agg #[.int .i64 0,.string (bs [])],rfl,zeroValue58⟩,⟨_,underlying58,fun _=>by kernel_rfl⟩⟩
theorem B81:dM prog 81 [.int .i64 0,.int .i64 0,.int .i64 0,.int .i64 0,.int .i64 0,.int .i64 0,.slice none 0 0,.bool false,.slice none 0 0,.slice none 0 0,.slice none 0 0,.slice none 0 0,.slice none 0 0,.bool false,.slice none 0 0,.int .i64 0,.slice none 0 0,.slice none 0 0,.slice none 0 0,.slice none 0 0,.slice none 0 0,.slice none 0 0,.int .u8 0,.int .i64 0,.int .i64 0,.int .u8 0,.bool false,.slice none 0 0] #[(0,28)]:=⟨⟨.agg #[.int .i64 0,.int .i64 0,.int .i64 0,.int .i64 0,.int .i64 0,.int .i64 0,.slice none 0 0,.bool false,.slice none 0 0,.slice none 0 0,.slice none 0 0,.slice none 0 0,.slice none 0 0,.bool false,.slice none 0 0,.int .i64 0,.slice none 0 0,.slice none 0 0,.slice none 0 0,.slice none 0 0,.slice none 0 0,.slice none 0 0,.int .u8 0,.int .i64 0,.int .i64 0,.int .u8 0,.bool false,.slice none 0 0],rfl,zeroValue81⟩,⟨_,underlying81,fun _=>by kernel_rfl⟩⟩
theorem B92:dM prog 92 [.int .i64 0,.int .i64 0,.int .i64 0,.int .i64 0,.slice none 0 0] #[(0,1),(1,1),(2,1),(3,1),(4,1)]:=⟨⟨.agg #[.int .i64 0,.int .i64 0,.int .i64 0,.int .i64 0,.slice none 0 0],rfl,zeroValue92⟩,⟨_,underlying92,fun _=>by kernel_rfl⟩⟩
theorem B97:dM prog 97 (eP (eP [.int .i64 0,.slice none 0 0,.slice none 0 0,.slice none 0 0,.slice none 0 0,.slice none 0 0,.slice none 0 0,.int .u8 0,.int .i64 0,.int .i64 0,.int .u8 0] (bC bE.zero)) (iA (List.replicate 40 ((none,0):fJ)) (List.replicate 40 ([]:List UInt8)))) #[(0,11),(11,40),(51,40)]:=⟨⟨.agg (eP (eP [.int .i64 0,.slice none 0 0,.slice none 0 0,.slice none 0 0,.slice none 0 0,.slice none 0 0,.slice none 0 0,.int .u8 0,.int .i64 0,.int .i64 0,.int .u8 0] (bC bE.zero)) (iA (List.replicate 40 ((none,0):fJ)) (List.replicate 40 ([]:List UInt8)))).toArray,rfl,zeroValue97⟩,⟨_,underlying97,fun _=>by kernel_rfl⟩⟩
theorem B104:sW prog 104 5 (bW bA.zero) 1:=⟨⟨.agg (bW bA.zero).toArray,rfl,zeroValue104⟩,⟨_,underlying104⟩,sizeOf5⟩
theorem B132:dM prog 132 [.nilFunc] #[(0,1)]:=⟨⟨.agg #[.nilFunc],rfl,zeroValue132⟩,⟨_,underlying132,fun _=>by kernel_rfl⟩⟩
theorem B149:dM prog 149 [.int .i64 0] #[(0,1)]:=⟨⟨.agg #[.int .i64 0],rfl,zeroValue149⟩,⟨_,underlying149,fun _=>by kernel_rfl⟩⟩
theorem B154:dM prog 154 [.int .i64 0,.bool false,.nilFunc] #[(0,1),(1,1),(2,1)]:=⟨⟨.agg #[.int .i64 0,.bool false,.nilFunc],rfl,zeroValue154⟩,⟨_,underlying154,fun _=>by kernel_rfl⟩⟩
theorem B164:dM prog 164 [.int .i64 0,.nilFunc] #[(0,1),(1,1)]:=⟨⟨.agg #[.int .i64 0,.nilFunc],rfl,zeroValue164⟩,⟨_,underlying164,fun _=>by kernel_rfl⟩⟩
theorem B182:dM prog 182 [.int .i64 0,.int .i64 0] #[(0,1),(1,1)]:=⟨⟨.agg #[.int .i64 0,.int .i64 0],rfl,zeroValue182⟩,⟨_,underlying182,fun _=>by kernel_rfl⟩⟩
theorem B217:dM prog 217 [.int .i64 0,.int .i64 0,.int .u8 0,.int .i64 0,.string (bs []),.int .i64 0] #[(0,1),(1,1),(2,1),(3,1),(4,1),(5,1)]:=⟨⟨.agg #[.int .i64 0,.int .i64 0,.int .u8 0,.int .i64 0,.string (bs []),.int .i64 0],rfl,zeroValue217⟩,⟨_,underlying217,fun _=>by kernel_rfl⟩⟩
theorem B226:dM prog 226 [.int .i64 0,.int .i64 0,.int .i64 0] #[(0,1),(1,1),(2,1)]:=⟨⟨.agg #[.int .i64 0,.int .i64 0,.int .i64 0],rfl,zeroValue226⟩,⟨_,underlying226,fun _=>by kernel_rfl⟩⟩
theorem B257:dM prog 257 [.int .i64 0,.int .i64 0,.int .i64 0,.int .i64 0] #[(0,1),(1,1),(2,1),(3,1)]:=⟨⟨.agg #[.int .i64 0,.int .i64 0,.int .i64 0,.int .i64 0],rfl,zeroValue257⟩,⟨_,underlying257,fun _=>by kernel_rfl⟩⟩
theorem B259:dM prog 259 [.int .i64 0,.int .i64 0,.int .i64 0,.int .i64 0,.int .i64 0,.int .i64 0] #[(0,4),(4,1),(5,1)]:=⟨⟨.agg #[.int .i64 0,.int .i64 0,.int .i64 0,.int .i64 0,.int .i64 0,.int .i64 0],rfl,zeroValue259⟩,⟨_,underlying259,fun _=>by kernel_rfl⟩⟩
theorem B265:dM prog 265 [.int .i64 0,.string (bs []),.bool false] #[(0,2),(2,1)]:=⟨⟨.agg #[.int .i64 0,.string (bs []),.bool false],rfl,zeroValue265⟩,⟨_,underlying265,fun _=>by kernel_rfl⟩⟩
theorem B269:dM prog 269 [.int .i64 0,.int .i64 0,.int .i64 0,.int .i64 0,.slice none 0 0,.slice none 0 0] #[(0,5),(5,1)]:=⟨⟨.agg #[.int .i64 0,.int .i64 0,.int .i64 0,.int .i64 0,.slice none 0 0,.slice none 0 0],rfl,zeroValue269⟩,⟨_,underlying269,fun _=>by kernel_rfl⟩⟩
theorem B308:dM prog 308 [.nilFunc] #[(0,1)]:=⟨⟨.agg #[.nilFunc],rfl,zeroValue308⟩,⟨_,underlying308,fun _=>by kernel_rfl⟩⟩
theorem E22:dE prog 22 9 [.string (bs [])] 1 16:=⟨underlying22,⟨_,.string (bs []),dY type9,rfl,rfl,rfl,rfl⟩,rfl,by decide⟩
theorem E25:dE prog 25 54 [.int .i64 0,.slice none 0 0] 2 32:=⟨underlying25,⟨_,.agg #[.int .i64 0,.slice none 0 0],dY type54,rfl,rfl,rfl,rfl⟩,rfl,by decide⟩
theorem E28:dE prog 28 217 [.int .i64 0,.int .i64 0,.int .u8 0,.int .i64 0,.string (bs []),.int .i64 0] 6 56:=⟨underlying28,⟨_,.agg #[.int .i64 0,.int .i64 0,.int .u8 0,.int .i64 0,.string (bs []),.int .i64 0],dY type217,rfl,rfl,rfl,rfl⟩,rfl,by decide⟩
theorem E29:dE prog 29 226 [.int .i64 0,.int .i64 0,.int .i64 0] 3 24:=⟨underlying29,⟨_,.agg #[.int .i64 0,.int .i64 0,.int .i64 0],dY type226,rfl,rfl,rfl,rfl⟩,rfl,by decide⟩
theorem E30:dE prog 30 92 [.int .i64 0,.int .i64 0,.int .i64 0,.int .i64 0,.slice none 0 0] 5 56:=⟨underlying30,⟨_,.agg #[.int .i64 0,.int .i64 0,.int .i64 0,.int .i64 0,.slice none 0 0],dY type92,rfl,rfl,rfl,rfl⟩,rfl,by decide⟩
theorem E33:dE prog 33 3 [.int .i64 0] 1 8:=⟨underlying33,⟨_,.int .i64 0,dY type3,rfl,rfl,rfl,rfl⟩,rfl,by decide⟩
theorem E35:dE prog 35 182 [.int .i64 0,.int .i64 0] 2 16:=⟨underlying35,⟨_,.agg #[.int .i64 0,.int .i64 0],dY type182,rfl,rfl,rfl,rfl⟩,rfl,by decide⟩
theorem E39:dE prog 39 5 [.int .u8 0] 1 1:=⟨underlying39,⟨_,.int .u8 0,dY type5,rfl,rfl,rfl,rfl⟩,rfl,by decide⟩
theorem E42:dE prog 42 43 [.int .i64 0] 1 8:=⟨underlying42,⟨_,.int .i64 0,dY type43,rfl,rfl,rfl,rfl⟩,rfl,by decide⟩
theorem E49:dE prog 49 56 [.int .i64 0,.int .i64 0] 2 16:=⟨underlying49,⟨_,.agg #[.int .i64 0,.int .i64 0],dY type56,rfl,rfl,rfl,rfl⟩,rfl,by decide⟩
theorem E52:dE prog 52 58 [.int .i64 0,.string (bs [])] 2 24:=⟨underlying52,⟨_,.agg #[.int .i64 0,.string (bs [])],dY type58,rfl,rfl,rfl,rfl⟩,rfl,by decide⟩
theorem E133:dE prog 133 132 [.nilFunc] 1 8:=⟨underlying133,⟨_,.agg #[.nilFunc],dY type132,rfl,rfl,rfl,rfl⟩,rfl,by decide⟩
theorem E160:dE prog 160 164 [.int .i64 0,.nilFunc] 2 16:=⟨underlying160,⟨_,.agg #[.int .i64 0,.nilFunc],dY type164,rfl,rfl,rfl,rfl⟩,rfl,by decide⟩
theorem E254:dE prog 254 259 [.int .i64 0,.int .i64 0,.int .i64 0,.int .i64 0,.int .i64 0,.int .i64 0] 6 48:=⟨underlying254,⟨_,.agg #[.int .i64 0,.int .i64 0,.int .i64 0,.int .i64 0,.int .i64 0,.int .i64 0],dY type259,rfl,rfl,rfl,rfl⟩,rfl,by decide⟩
theorem E266:dE prog 266 265 [.int .i64 0,.string (bs []),.bool false] 3 32:=⟨underlying266,⟨_,.agg #[.int .i64 0,.string (bs []),.bool false],dY type265,rfl,rfl,rfl,rfl⟩,rfl,by decide⟩
theorem E267:dE prog 267 266 [.slice none 0 0] 1 24:=⟨underlying267,⟨_,.slice none 0 0,dY type266,rfl,rfl,rfl,rfl⟩,rfl,by decide⟩
theorem E301:dE prog 301 20 [.nilIface] 1 16:=⟨underlying301,⟨_,.nilIface,dY type20,rfl,rfl,rfl,rfl⟩,rfl,by decide⟩
theorem E309:dE prog 309 308 [.nilFunc] 1 8:=⟨underlying309,⟨_,.agg #[.nilFunc],dY type308,rfl,rfl,rfl,rfl⟩,rfl,by decide⟩
end T12
namespace Go.Proofs
open Go Go.Shelf Go.RowKit Pk
theorem lZ {w:World} {q:Addr} {vs:List Value} (h:aL (hp w) q vs) (hv:0 < vs.length):∃ cs t z,w.heap[q.block]?=some (.cells cs t z)∧cs.size≠0:=by
 obtain ⟨c,t,z,h3,h4⟩:=h.2 0 _ (List.getElem?_eq_getElem hv);refine ⟨c,t,z,h3,fun h0=>?_⟩;have:=(Array.getElem?_eq_some_iff.1 h4).1;omega
theorem mA {P:Program} (w:World) (tS tR e:TypeId) (ht:P.underlying tS=some (.slice e)) (size:Nat) (hz:∀ w,(Go.sizeOf e).run P w=.ok size w) (a b:Addr) (la ca lb cb:Nat) (hne:a.block≠b.block)
  {ca':Array Value} {ta:TypeId} {za:Nat×Nat} (ha:w.heap[a.block]?=some (.cells ca' ta za)) (ha0:ca'.size≠0) {cur:Array Value} {te:TypeId} (hb:w.heap[b.block]?=some (.cells cur te (0,0))) (hc:cur.size≠0) :
  (Extern.SlicesOverlaps.overlaps #[tS,tS] #[tR] #[.slice (some a) la ca,.slice (some b) lb cb]).run P w=.ok (.bool false) w:=by
 have hnb:(a.block != b.block)=true:=by simpa using hne
 have hnb':(a.block==b.block)=false:=by simpa using hne
 have hf:∀ x:Addr,x.block=b.block→w.frozen? x=false:=fun x hx=>by simp [World.frozen?,hx,hb]
 have hsb:w.shape? b.block=some (te,cur.size):=by simp [World.shape?,hb]
 have hva:w.shape? a.block=some (ta,ca'.size):=by simp [World.shape?,ha]
 change Sem.run P (α:=Value) (do
  let some t := (#[tS, tS] : Array TypeId)[0]? | stuck "slices.overlaps: no parameter types"
  let .slice elem ← underlying t | stuck "slices.overlaps: slice type expected"
  let size ← sizeOf elem
  match (some a:Option Addr),(some b:Option Addr) with
  | some a,some b =>
   if la=0∨lb=0∨size=0 then pure (Value.bool false)
   else if a.block != b.block&&(← frozen a)&&(← frozen b) then unsupported .addressObserved
   else do
    if a.block != b.block then do
     noView a;noView b
     if ← mayBeOne a b then return Value.bool ((← choose (.extern "sameAddr.stringBytes" 2)) == 1)
    pure (Value.bool (a.block==b.block&&a.off < b.off+lb*size&&b.off < a.off+la*size))
  | _,_=>pure (Value.bool false)) w=_
 by_cases h0:la=0∨lb=0∨size=0
 ·simp [run_underlying ht,hz,h0]
 have e1:=hf b rfl;have e2:=hf { block:=b.block,off:=cur.size } rfl;have e3:(match some (te,cur.size) with | some (_,0)=>true | _=>false)=false:=by
  cases h:cur.size with
  | zero=>exact absurd h hc
  | succ n=>rfl
 have e4:(match some (ta,ca'.size) with | some (_,0)=>true | _=>false)=false:=by
  cases h:ca'.size with
  | zero=>exact absurd h ha0
  | succ n=>rfl
 cases hfa:w.frozen? a <;> cases hfe:w.frozen? { block:=a.block,off:=ca'.size } <;>
  simp [run_underlying ht,hz,h0,hnb,hnb',frozen,noView,viewAt,mayBeOne,stringish,shape,Sem.run,hva,hsb,e1,e2,hfa,hfe,hc,e4,ha0]
theorem gK {P:Program} (w:World) (t ty el k:Nat) (hu:P.underlying t=some (.slice el)) (hz:∀ w,(Go.sizeOf el).run P w=.ok k w) (b o dLen dCap:Nat) (a:Addr) (sLen sCap:Nat) (cs:List Value) {cur:Array Value} {te:TypeId} (hb:w.heap[b]?=some (.cells cur te (0,0)))
  (hn:cs.length=Nat.min sLen dLen*k) (hsrc:∀ j v,cs[j]?=some v→w.cell? (a.add j)=some v) (hfit:o+cs.length≤cur.size) (h1:∀ v∈cs,v.oneCell'=true) :
  (Builtin.copy_ #[t,t] ty #[.slice (some ⟨b,o,none⟩) dLen dCap,.slice (some a) sLen sCap]).run P w=.ok (goInt (Nat.min sLen dLen)) (w.setRow b (cur.toList.take o++cs++cur.toList.drop (o+cs.length)).toArray):=by
 have hl:=run_loadCells_list (P:=P) (w:=w) a cs hsrc;have hst:=run_storeCells_at P b o te cs 0 cur w hb (by simpa using hfit) h1;rw [hn] at hl;simp [Builtin.copy_,run_underlying hu,Builtin.lenOf,Builtin.firstCells,hz,hl];simp at hst;rw [hst];rfl
set_option maxHeartbeats 4000000 in
set_option maxRecDepth 100000 in
theorem Tryz.ins_end {w:World} {ad:Option Addr} {cap nn:Nat} {cs:List Value} {q:Addr} {vcap:Nat} {vs:List Value} (hr:(aP.row ad cap 265 3 nn cs).holds w) (hb:nn+1≤1073741824) (hv:aL (hp w) q vs) (hvl:vs.length=3) (h1:vs.all (·.oneCell')=true) :
  Calls Tryz.prog 274 #[.slice ad nn cap,.int .i64 nn,.slice (some q) 1 vcap] w fun e w'=>∃ ad' cap',e=.returned (.slice ad' (nn+1) cap')∧(aP.row ad' cap' 265 3 (nn+1) (cs++vs)).holds w'∧kA w w' (ad.map (·.block))∧∀ b,ad'.map (·.block)=some b→ad.map (·.block)=some b∨w.heap.size≤b:=by
 obtain ⟨ad',cap',w',hrun,hh,hg,hf⟩:=lC (P:=Tryz.prog) 266 T12.E266 hr (sad:=some q) (m:=1) (c:=vcap) (news:=vs) ⟨by omega,h1,.inr ⟨q,rfl,hv⟩⟩ (by unfold maxLen;omega) (by omega);have hd:=mM _ hrun;have hcap:=(iV hr).2;refine Calls.mono (R:=fun e w''=>e=.returned (.slice ad' (nn+1) cap')∧w''=w') ?_ fun e w'' hw=>by
  obtain ⟨rfl,rfl⟩:=hw;exact ⟨ad',cap',rfl,hh,⟨hg,hd⟩,hf⟩
 clear hf hh hg hd hr hv h1;by_cases hc:cap=nn
 ·subst hc
  go_enter Tryz.func274,Tryz.ntmps274
  go_wp2_with (at_builtin;refine Lib.wpList_append_run _ rfl _ _ _ _ rfl _ _ rfl rfl _ _ hrun ?_)
  go_ret
  exact ⟨rfl,rfl⟩
 go_enter Tryz.func274,Tryz.ntmps274
 go_wp2_with (at_builtin;refine Lib.wpList_append_run _ rfl _ _ _ _ rfl _ _ rfl rfl _ _ hrun ?_)
 go_ret
 exact ⟨rfl,rfl⟩
theorem gL {w:World} {b:Nat} {cur:Array Value} {t:TypeId} {z:Nat×Nat} (h:w.heap[b]?=some (.cells cur t z)) {j:Nat} {v:Value} (hv:cur.toList[j]?=some v):w.cell? ⟨b,j,none⟩=some v:=by
 rw [Array.getElem?_toList] at hv;simp [World.cell?,h,hv]
theorem jH (b o i:Nat):(⟨b,o,none⟩:Addr).add i=⟨b,o+i,none⟩:=dJ (ad:=⟨b,o,none⟩) rfl i
set_option maxHeartbeats 4000000 in
set_option maxRecDepth 100000 in
theorem Tryz.ins_room {w:World} {b cap nn j:Nat} {cs:List Value} {q:Addr} {vcap:Nat} {vs:List Value} {cur:Array Value} (hw:w.heap[b]?=some (.cells cur 265 (0,0))) (hcs:cur.size=cap*3) (ht:cur.toList.take (nn*3)=cs) (hcm:cap≤9223372036854775807) (hj:j < nn) (hroom:nn+1≤cap) (hb:nn+1≤1073741824) (hv:aL (hp w) q vs) (hvl:vs.length=3) (h1:vs.all (·.oneCell')=true) (h2:cs.all (·.oneCell')=true) (hne:b≠q.block) :
  Calls Tryz.prog 274 #[.slice (some ⟨b,0,none⟩) nn cap,.int .i64 j,.slice (some q) 1 vcap] w fun e w'=>e=.returned (.slice (some ⟨b,0,none⟩) (nn+1) cap)∧w'=(w.drew.setRow b (cur.toList.take ((j+1)*3)++cs.drop (j*3)++cur.toList.drop ((nn+1)*3)).toArray).setRow b (cs.take (j*3)++vs++cs.drop (j*3)++cur.toList.drop ((nn+1)*3)).toArray:=by
 obtain ⟨c0,t0,z0,hq0,hq1⟩:=lZ hv (by omega);have hcl:cs.length=nn*3:=by rw [← ht,List.length_take,Array.length_toList,hcs];omega
 have hcur:cur.toList=cs++cur.toList.drop (nn*3):=by rw [← ht,List.take_append_drop]
 have hov:∀ lb cb,(callFunc 290 #[.slice (some q) 1 vcap,.slice (some ⟨b,(j+1)*3,none⟩) lb cb]).run Tryz.prog w=.ok (.value (.bool false)) w:=fun lb cb=>by
  rw [run_callFunc_extern Tryz.func290 (by kernel_rfl) (by kernel_rfl) (by kernel_rfl) (e:=Extern.SlicesOverlaps.overlaps #[266,266] #[4]) (by kernel_rfl),
   mA w 266 4 265 Tryz.underlying266 3 Tryz.sizeOf265 q ⟨b,(j+1)*3,none⟩ 1 vcap lb cb (fun e=>hne e.symm) hq0 hq1 hw (by omega)]
  rfl
 have hcp1:∀ ty dc sc,(Builtin.copy_ #[266,266] ty #[.slice (some ⟨b,(j+1)*3,none⟩) (nn - j) dc,.slice (some ⟨b,j*3,none⟩) (nn+1 - j) sc]).run Tryz.prog w.drew=.ok (goInt (Nat.min (nn+1 - j) (nn - j))) (w.drew.setRow b (cur.toList.take ((j+1)*3)++cs.drop (j*3)++cur.toList.drop ((nn+1)*3)).toArray):=fun ty dc sc=>by
  have hl:(cs.drop (j*3)).length=Nat.min (nn+1 - j) (nn - j)*3:=by
   rw [List.length_drop,hcl,show Nat.min (nn+1 - j) (nn - j)=nn - j by simp only [Nat.min_def];split <;> omega,Nat.sub_mul]
  have:=gK (P:=Tryz.prog) w.drew 266 ty 265 3 Tryz.underlying266 Tryz.sizeOf265 b ((j+1)*3) (nn - j) dc ⟨b,j*3,none⟩ (nn+1 - j) sc (cs.drop (j*3)) (cur:=cur) hw hl (fun i v hi=>by
   rw [jH];refine gL (w:=w.drew) hw ?_;rw [hcur,List.getElem?_append_left (by rw [List.getElem?_drop] at hi;exact (List.getElem?_eq_some_iff.1 hi).1)]
   rwa [List.getElem?_drop] at hi) (by rw [List.length_drop,hcl,hcs];omega) (fun v hv=>List.all_eq_true.1 h2 v (List.mem_of_mem_drop hv))
  rw [this,show (j+1)*3+(cs.drop (j*3)).length=(nn+1)*3 by rw [List.length_drop,hcl];omega]
 obtain ⟨X1,hX1⟩:∃ X1:List Value,X1=cur.toList.take ((j+1)*3)++cs.drop (j*3)++cur.toList.drop ((nn+1)*3):=⟨_,rfl⟩;rw [← hX1] at hcp1 ⊢;obtain ⟨W1,hW1⟩:∃ W1,W1=w.drew.setRow b X1.toArray:=⟨_,rfl⟩;rw [← hW1] at hcp1 ⊢;have hw1:W1.heap[b]?=some (.cells X1.toArray 265 (0,0)):=by rw [hW1];exact setRow_heap w.drew b cur X1.toArray 265 (0,0) hw
 have hX1l:X1.length=cap*3:=by rw [hX1];simp only [List.length_append,List.length_take,List.length_drop,Array.length_toList,hcs,hcl];omega
 have hlen1:(cur.toList.take ((j+1)*3)).length=(j+1)*3:=by rw [List.length_take,Array.length_toList,hcs];omega
 have hcp2:∀ ty dc,(Builtin.copy_ #[266,266] ty #[.slice (some ⟨b,j*3,none⟩) (nn+1 - j) dc,.slice (some q) 1 vcap]).run Tryz.prog W1=.ok (goInt (Nat.min 1 (nn+1 - j))) (W1.setRow b (cs.take (j*3)++vs++cs.drop (j*3)++cur.toList.drop ((nn+1)*3)).toArray):=fun ty dc=>by
  have hm:Nat.min 1 (nn+1 - j)=1:=by simp only [Nat.min_def];split <;> omega
  have:=gK (P:=Tryz.prog) W1 266 ty 265 3 Tryz.underlying266 Tryz.sizeOf265 b (j*3) (nn+1 - j) dc q 1 vcap vs (cur:=X1.toArray) hw1 (by rw [hvl,hm]) (fun i v hi=>by
   have h0:=hv.cell hi;have hsp:(q.add i).block=q.block:=by unfold Addr.add;split <;> rfl
   rw [hW1];unfold World.cell? at h0 ⊢;rw [show (w.drew.setRow b X1.toArray).heap[(q.add i).block]?=w.heap[(q.add i).block]? from setRow_other w.drew b _ _ (by rw [hsp];exact fun e=>hne e.symm)]
   exact h0) (by rw [hvl,List.size_toArray,hX1l];omega) (fun v hv=>List.all_eq_true.1 h1 v hv)
  rw [this,hvl];congr 3;have e1:X1.take (j*3)=cs.take (j*3):=by
   rw [hX1,List.append_assoc,List.take_append_of_le_length (by rw [hlen1];omega),List.take_take,show min (j*3) ((j+1)*3)=j*3 by omega,← ht,List.take_take,show min (j*3) (nn*3)=j*3 by omega]
  have e2:X1.drop (j*3+3)=cs.drop (j*3)++cur.toList.drop ((nn+1)*3):=by
   rw [hX1,show j*3+3=(j+1)*3 by omega,List.append_assoc,List.drop_append_of_le_length (by rw [hlen1];omega),List.drop_of_length_le (by rw [hlen1];omega),List.nil_append]
  simp only [List.toList_toArray,e1,e2,List.append_assoc]
 have hz2:¬((j:Int)=(nn:Int)):=by omega
 have hw2:IntKind.i64.wrap ((j:Int)+1)=(j:Int)+1:=by rw [IntKind.wrap_i64];omega
 have hw3:IntKind.i64.wrap ((nn:Int)+1)=(nn:Int)+1:=by rw [IntKind.wrap_i64];omega
 have htn:((j:Int)+1).toNat=j+1:=by omega
 have htn2:((nn:Int)+1).toNat=nn+1:=by omega
 have hb1:(0:Int)≤(j:Int)+1:=by omega
 have hb2:¬(cap=j+1):=by omega
 have hb4:¬(cap=j):=by omega
 have hb3:(j:Int)≤(nn:Int)+1:=by omega
 have hin:j≤nn:=by omega
 have hro:¬((cap:Int) < (nn:Int)+1):=by omega
 clear hX1 hcur ht;have mixed:=T12.mixed;clear hw1;subst hW1
 go_enter Tryz.func274,Tryz.ntmps274
 go_wp2_with (simp only [hov])
 go_region_law_o (refine step_copy_runI rfl _ _ 266 266 rfl _ _ (by simp [Act.eval,Act.put]) (by simp [Act.eval,Act.put]) (hcp1 _ _ _) ?_)
 go_wp2_with (at_builtin;refine wpList_copy_runI _ rfl _ _ 266 266 rfl _ _ rfl rfl (hcp2 _ _) ?_)
 go_ret
 exact ⟨rfl,by simp only [List.append_assoc]⟩
set_option maxHeartbeats 4000000 in
set_option maxRecDepth 100000 in
theorem Tryz.ins_grow {w:World} {b cap nn j:Nat} {cs:List Value} {q:Addr} {vcap:Nat} {vs:List Value} {cur:Array Value} (hw:w.heap[b]?=some (.cells cur 265 (0,0))) (hcs:cur.size=cap*3) (ht:cur.toList.take (nn*3)=cs) (hnc:nn≤cap) (hj:j < nn) (hroom:cap < nn+1) (hb:nn+1≤1073741824) (hv:aL (hp w) q vs) (hvl:vs.length=3) (h1:vs.all (·.oneCell')=true) (h2:cs.all (·.oneCell')=true) :
  Calls Tryz.prog 274 #[.slice (some ⟨b,0,none⟩) nn cap,.int .i64 j,.slice (some q) 1 vcap] w fun e w'=>∃ (G:Nat) (X:List Value),nn+1≤G∧G≤maxLen∧X.length=G*3∧X.take ((nn+1)*3)=cs.take (j*3)++vs++cs.drop (j*3)∧e=.returned (.slice (some ⟨w.heap.size,0,none⟩) (nn+1) G)∧∃ Y Z m,w'=(((w.alloc (.cells Y 265)).drewN m).setRow w.heap.size Z).setRow w.heap.size X.toArray:=by
 obtain ⟨i0,v0,hi0,hz0,hzv,hzs,hzb⟩:=T12.E266.info;have hzc:v0.cells.size=3:=by rw [fY,hzv];rfl
 have hcl:cs.length=nn*3:=by rw [← ht,List.length_take,Array.length_toList,hcs];omega
 have hcur:cur.toList=cs++cur.toList.drop (nn*3):=by rw [← ht,List.take_append_drop]
 have hold:(Builtin.firstCells i0.size j (.slice (some ⟨b,0,none⟩) j cap)).run Tryz.prog w.drew=.ok (cs.take (j*3)).toArray w.drew:=by
  rw [hzs];refine run_firstCells_some (w:=w.drew) 3 j ⟨b,0,none⟩ j cap (cs.take (j*3)) (by rw [List.length_take,hcl];omega) (fun i v hi=>?_);rw [jH,Nat.zero_add];refine gL (w:=w.drew) hw ?_;rw [List.getElem?_take] at hi
  split at hi
  ·rw [hcur,List.getElem?_append_left (by rw [hcl];omega)];exact hi
  cases hi
 have hik:j+(nn+1 - j)=nn+1:=by omega
 have hkk:(nn:Int)+1 - (j:Int)=((nn+1 - j:Nat):Int):=by omega
 obtain ⟨G,hG⟩:∃ G,G=grownCap w (nn+1) cap 265:=⟨_,rfl⟩;have hGn:nn+1≤G:=by rw [hG];exact grownCap_ge w _ _ _
 have hGm:G≤maxLen:=by rw [hG];exact grownCap_le_maxLen w (nn+1) cap 265 (by unfold maxLen;omega)
 obtain ⟨R,hR⟩:∃ R:Array Value,R=(cs.take (j*3)).toArray++Builtin.zeroCells v0.cells (nn+1 - j)++Builtin.zeroCells v0.cells (G - (nn+1)):=⟨_,rfl⟩;have hRs:R.size=G*3:=by
  rw [hR];simp only [Array.size_append,List.size_toArray,List.length_take,hcl,Builtin.zeroCells,Array.size_map,Array.size_range,hzc];omega
 have hRt:R.toList.take (j*3)=cs.take (j*3):=by
  rw [hR,Array.toList_append,Array.toList_append,List.append_assoc,List.take_append_of_le_length (by simp [hcl];omega)];simp only [List.toList_toArray,List.take_take,Nat.min_self]
 have hrz:∀ ty,(Builtin.append_ #[266,3] ty #[.slice (some ⟨b,0,none⟩) j cap,.int .i64 ((nn:Int)+1 - (j:Int))]).run Tryz.prog w=.ok (.slice (some ⟨w.heap.size,0,none⟩) (nn+1) G) (w.drew.alloc (.cells R 265)):=fun ty=>by
  have h:=Lib.run_append_grow_zeros w 266 3 ty 265 i0 _ .i64 .i64 Tryz.underlying266 Tryz.underlying3 hi0 hz0 (some ⟨b,0,none⟩) j cap (cs.take (j*3)) hold (nn+1 - j) (by omega) (by rw [hzs];decide) (by omega) (by omega) (by rw [hzb];omega) (by rw [hzb,hik];exact growslice_fits hroom (by omega));rw [hik] at h;rw [hkk,hR,hG];exact h
 have hN:(w.drew.alloc (.cells R 265)).heap[w.heap.size]?=some (.cells R 265 (0,0)):=dL w.drew _;have hbw:b < w.heap.size:=(Array.getElem?_eq_some_iff.1 hw).1;obtain ⟨X1,hX1⟩:∃ X1:List Value,X1=cs.take (j*3)++vs++R.toList.drop ((j+1)*3):=⟨_,rfl⟩;obtain ⟨X2,hX2⟩:∃ X2:List Value,X2=cs.take (j*3)++vs++cs.drop (j*3)++R.toList.drop ((nn+1)*3):=⟨_,rfl⟩;have hct:(cs.take (j*3)).length=j*3:=by rw [List.length_take,hcl];omega
 have hX1l:X1.length=G*3:=by rw [hX1];simp only [List.length_append,hct,hvl,List.length_drop,Array.length_toList,hRs];omega
 have hX2l:X2.length=G*3:=by rw [hX2];simp only [List.length_append,hct,hvl,List.length_drop,Array.length_toList,hRs,hcl];omega
 have hqn:∀ i,(q.add i).block=q.block:=fun i=>by unfold Addr.add;split <;> rfl
 obtain ⟨c0,t0,z0,hq0,_⟩:=lZ hv (by omega);have hqw:q.block < w.heap.size:=(Array.getElem?_eq_some_iff.1 hq0).1;have hcpA:∀ (m:Nat) ty dc,(Builtin.copy_ #[266,266] ty #[.slice (some ⟨w.heap.size,j*3,none⟩) (nn+1 - j) dc,.slice (some q) 1 vcap]).run Tryz.prog ((w.alloc (.cells R 265)).drewN m)=.ok (goInt (Nat.min 1 (nn+1 - j))) (((w.alloc (.cells R 265)).drewN m).setRow w.heap.size X1.toArray):=fun m ty dc=>by
  have hm:Nat.min 1 (nn+1 - j)=1:=by simp only [Nat.min_def];split <;> omega
  have:=gK (P:=Tryz.prog) ((w.alloc (.cells R 265)).drewN m) 266 ty 265 3 Tryz.underlying266 Tryz.sizeOf265 w.heap.size (j*3) (nn+1 - j) dc q 1 vcap vs (cur:=R) (te:=265) (dL w _) (by rw [hvl,hm]) (fun i v hi=>by
   have h0:=hv.cell hi;unfold World.cell? at h0 ⊢;rw [show ((w.alloc (.cells R 265)).drewN m).heap[(q.add i).block]?=w.heap[(q.add i).block]? from (fX.alloc True w (.cells R 265)).keep _ (by rw [hqn];exact hqw)]
   exact h0) (by rw [hvl,hRs];omega) (fun v hv=>List.all_eq_true.1 h1 v hv)
  rw [this,hvl,hRt,hX1,show j*3+3=(j+1)*3 by omega]
 have hcpB:∀ (m:Nat) ty dc sc,(Builtin.copy_ #[266,266] ty #[.slice (some ⟨w.heap.size,(j+1)*3,none⟩) (nn - j) dc,.slice (some ⟨b,j*3,none⟩) (nn - j) sc]).run Tryz.prog (((w.alloc (.cells R 265)).drewN m).setRow w.heap.size X1.toArray)=.ok (goInt (Nat.min (nn - j) (nn - j))) ((((w.alloc (.cells R 265)).drewN m).setRow w.heap.size X1.toArray).setRow w.heap.size X2.toArray):=fun m ty dc sc=>by
  have hm:Nat.min (nn - j) (nn - j)=nn - j:=Nat.min_self _;have hl:(cs.drop (j*3)).length=Nat.min (nn - j) (nn - j)*3:=by rw [hm,List.length_drop,hcl,Nat.sub_mul]
  have:=gK (P:=Tryz.prog) (((w.alloc (.cells R 265)).drewN m).setRow w.heap.size X1.toArray) 266 ty 265 3 Tryz.underlying266 Tryz.sizeOf265 w.heap.size ((j+1)*3) (nn - j) dc ⟨b,j*3,none⟩ (nn - j) sc (cs.drop (j*3)) (cur:=X1.toArray) (te:=265) (setRow_heap _ _ R X1.toArray 265 (0,0) (dL w _)) hl (fun i v hi=>by
   rw [jH];have hcell:w.cell? ⟨b,j*3+i,none⟩=some v:=by
    refine gL hw ?_;rw [hcur,List.getElem?_append_left (by rw [List.getElem?_drop] at hi;exact (List.getElem?_eq_some_iff.1 hi).1)]
    rwa [List.getElem?_drop] at hi
   unfold World.cell? at hcell ⊢;rw [show (((w.alloc (.cells R 265)).drewN m).setRow w.heap.size X1.toArray).heap[(⟨b,j*3+i,none⟩:Addr).block]?=w.heap[(⟨b,j*3+i,none⟩:Addr).block]? from (setRow_other _ _ _ _ (by show b≠w.heap.size;omega)).trans ((fX.alloc True w (.cells R 265)).keep _ hbw)]
   exact hcell) (by rw [List.length_drop,hcl,List.size_toArray,hX1l];omega) (fun v hv=>List.all_eq_true.1 h2 v (List.mem_of_mem_drop hv))
  rw [this,show (j+1)*3+(cs.drop (j*3)).length=(nn+1)*3 by rw [List.length_drop,hcl];omega];congr 3;have e1:X1.take ((j+1)*3)=cs.take (j*3)++vs:=by
   rw [hX1,List.take_append_of_le_length (by rw [List.length_append,hct,hvl];omega),List.take_of_length_le (by rw [List.length_append,hct,hvl];omega)]
  have e2:X1.drop ((nn+1)*3)=R.toList.drop ((nn+1)*3):=by
   rw [hX1,List.drop_append,List.drop_of_length_le (by rw [List.length_append,hct,hvl];omega),List.nil_append,List.drop_drop,List.length_append,hct,hvl,show (j+1)*3+((nn+1)*3 - (j*3+3))=(nn+1)*3 by omega]
  simp only [List.toList_toArray,e1,e2,hX2,List.append_assoc]
 have hX2t:X2.take ((nn+1)*3)=cs.take (j*3)++vs++cs.drop (j*3):=by
  rw [hX2,List.take_append_of_le_length (by simp only [List.length_append,hct,hvl,List.length_drop,hcl];omega),List.take_of_length_le (by simp only [List.length_append,hct,hvl,List.length_drop,hcl];omega)]
 refine Calls.mono (R:=fun e w''=>e=.returned (.slice (some ⟨w.heap.size,0,none⟩) (nn+1) G)∧∃ m,w''=(((w.alloc (.cells R 265)).drewN m).setRow w.heap.size X1.toArray).setRow w.heap.size X2.toArray) ?_ fun e w'' hw=>by
  obtain ⟨rfl,m,rfl⟩:=hw;exact ⟨G,X2,hGn,hGm,hX2l,hX2t,rfl,R,X1.toArray,m,rfl⟩
 have mixed:=T12.mixed;have hz2:¬((j:Int)=(nn:Int)):=by omega
 have hw2:IntKind.i64.wrap ((j:Int)+1)=(j:Int)+1:=by rw [IntKind.wrap_i64];omega
 have hw3:IntKind.i64.wrap ((nn:Int)+1)=(nn:Int)+1:=by rw [IntKind.wrap_i64];omega
 have htn:((j:Int)+1).toNat=j+1:=by omega
 have hb1:(0:Int)≤(j:Int)+1:=by omega
 have hro:(cap:Int) < (nn:Int)+1:=by omega
 have hGi:¬(G=j):=by omega
 have hGim:¬(G=j+1):=by omega
 have hci:¬(cap=j):=by omega
 have hin:j≤nn:=by omega
 have hb3:(j:Int)≤(nn:Int):=by omega
 have hcpA0:∀ ty dc,(Builtin.copy_ #[266,266] ty #[.slice (some ⟨w.heap.size,j*3,none⟩) (nn+1 - j) dc,.slice (some q) 1 vcap]).run Tryz.prog (w.drew.alloc (.cells R 265))=.ok (goInt (Nat.min 1 (nn+1 - j))) ((w.drew.alloc (.cells R 265)).setRow w.heap.size X1.toArray):=fun ty dc=>hcpA 1 ty dc;have hcpA1:∀ ty dc,(Builtin.copy_ #[266,266] ty #[.slice (some ⟨w.heap.size,j*3,none⟩) (nn+1 - j) dc,.slice (some q) 1 vcap]).run Tryz.prog ((w.alloc (.cells R 265)).drew)=.ok (goInt (Nat.min 1 (nn+1 - j))) (((w.alloc (.cells R 265)).drew).setRow w.heap.size X1.toArray):=fun ty dc=>hcpA 1 ty dc;have hcpB0:∀ ty dc sc,(Builtin.copy_ #[266,266] ty #[.slice (some ⟨w.heap.size,(j+1)*3,none⟩) (nn - j) dc,.slice (some ⟨b,j*3,none⟩) (nn - j) sc]).run Tryz.prog (((w.alloc (.cells R 265)).drew.setRow w.heap.size X1.toArray).drew)=.ok (goInt (Nat.min (nn - j) (nn - j))) ((((w.alloc (.cells R 265)).drew.setRow w.heap.size X1.toArray).drew).setRow w.heap.size X2.toArray):=fun ty dc sc=>hcpB 2 ty dc sc;clear hG hcpA hcpB hR hold hkk hik hcur hRt hX1 hX2 hX2t hN hq0 hv ht
 go_enter Tryz.func274,Tryz.ntmps274
 go_wp2_with (first
  | (at_builtin;refine Lib.wpList_append_run _ rfl _ _ _ _ rfl _ _ rfl rfl _ _ (hrz _) ?_)
  | (at_builtin;refine wpList_copy_runI _ rfl _ _ 266 266 rfl _ _ rfl rfl (hcpA1 _ _) ?_)
  | (at_builtin;refine wpList_copy_runI _ rfl _ _ 266 266 rfl _ _ rfl rfl (hcpA0 _ _) ?_))
 go_region_law_o (refine step_copy_runI rfl _ _ 266 266 rfl (.slice (some ⟨w.heap.size,(j+1)*3,none⟩) (nn - j) (G - (j+1))) (.slice (some ⟨b,j*3,none⟩) (nn - j) (cap - j)) (by simp [Act.eval,Act.put]) (by simp [Act.eval,Act.put]) (hcpB0 3 (G - (j+1)) (cap - j)) ?_)
 go_wp2
 go_ret
 exact ⟨rfl,2,rfl⟩
theorem kV {w w':World} {b:Nat} (h:∀ k,k < w.heap.size→k≠b→w'.heap[k]?=w.heap[k]?) (ho:w'.os=w.os) (ht:w'.tape=w.tape) (hu:w'.output=w.output) (hs:w.heap.size≤w'.heap.size) (hd:w.drawn≤w'.drawn):kA w w' (some b) :=
 ⟨⟨ho,ht,hu,hs,fun k hk hne=>h k hk (fun e=>hne (by rw [e]))⟩,hd⟩
theorem eN (w:World) (b:Nat) (X:Array Value):(w.setRow b X).heap.size=w.heap.size:=by simp [World.setRow]
theorem Tryz.ins274:RW Tryz.prog 274 265 3:=by
 intro w ad cap nn cs j q vcap vs hr hj hb hv hvl h1 h2 hne _;have hcl:=(iV hr).1;by_cases hjn:j=nn
 ·subst hjn;refine (Tryz.ins_end hr hb hv hvl h1).mono fun e w' h=>?_;rw [List.take_of_length_le (by omega),List.drop_of_length_le (by omega),List.append_nil];exact h
 have hlt:j < nn:=by omega
 rcases hr.2 with ⟨_,h0⟩ | ⟨b,cap',cur,he,hbb,hw,hnc,hcm,hcs,ht⟩
 ·omega
 simp only [Value.slice.injEq] at he;obtain ⟨rfl,_,rfl⟩:=he;have hbw:b < w.heap.size:=(Array.getElem?_eq_some_iff.1 hw).1;have h3:cap≤9223372036854775807:=by unfold maxLen at hcm;omega
 have hln:(cs.take (j*3)++vs++cs.drop (j*3)).length=(nn+1)*3:=by
  simp only [List.length_append,List.length_take,List.length_drop,hvl,hcl];omega
 by_cases hroom:nn+1≤cap
 ·refine (Tryz.ins_room hw hcs ht h3 hlt hroom hb hv hvl h1 h2 (hne b rfl)).mono fun e w' h=>?_;obtain ⟨rfl,rfl⟩:=h;refine ⟨_,_,rfl,?_,?_,fun b' hb'=>.inl hb'⟩
  ·refine ⟨hln,.inr ⟨b,cap,_,rfl,hbb,setRow_heap _ b _ _ 265 (0,0) (setRow_heap w.drew b cur _ 265 (0,0) hw),hroom,hcm,?_,?_⟩⟩
   ·have:(cur.toList.drop ((nn+1)*3)).length=cap*3 - (nn+1)*3:=by rw [List.length_drop,Array.length_toList,hcs]
    rw [List.size_toArray,List.length_append,hln,this];omega
   rw [List.toList_toArray,List.take_append_of_le_length (by rw [hln];exact Nat.le_refl _),List.take_of_length_le (by rw [hln];exact Nat.le_refl _)]
  exact kV (fun k hk hkb=>(setRow_other _ _ _ _ hkb).trans (setRow_other _ _ _ _ hkb)) rfl rfl rfl (by rw [eN,eN];exact Nat.le_refl _) (Nat.le_succ _)
 refine (Tryz.ins_grow hw hcs ht hnc hlt (by omega) hb hv hvl h1 h2).mono fun e w' h=>?_;obtain ⟨G,X,hG1,hG2,hXl,hXt,rfl,Y,Z,m,rfl⟩:=h;refine ⟨_,_,rfl,?_,?_,fun b' hb'=>.inr (by simp at hb';omega)⟩
 ·refine ⟨hln,.inr ⟨w.heap.size,G,X.toArray,rfl,Nat.zero_le _,setRow_heap _ _ Z _ 265 (0,0) (setRow_heap _ _ Y _ 265 (0,0) (dL w _)),hG1,hG2,by rw [List.size_toArray,hXl],by rw [List.toList_toArray];exact hXt⟩⟩
 refine kV (fun k hk hkb=>?_) rfl rfl rfl ?_ ?_
 ·have hkn:k≠w.heap.size:=by omega
  exact (setRow_other _ _ _ _ hkn).trans ((setRow_other _ _ _ _ hkn).trans ((fX.alloc True w (.cells Y 265)).keep k hk))
 ·rw [eN,eN];exact (fX.alloc True w (.cells Y 265)).size
 exact Nat.le_add_right _ _
end Go.Proofs
namespace Go.Proofs
open Go Go.Shelf Go.RowKit Pk
set_option maxHeartbeats 4000000 in
set_option maxRecDepth 100000 in
theorem Tryz.ins_endM {w:World} {ad:Option Addr} {cap nn mv:Nat} (hm:1≤mv) {cs:List Value} {q:Addr} {vcap:Nat} {vs:List Value} (hr:(aP.row ad cap 3 1 nn cs).holds w) (hb:nn+mv≤1073741824) (hv:aL (hp w) q vs) (hvl:vs.length=mv) (h1:vs.all (·.oneCell')=true) :
  Calls Tryz.prog 179 #[.slice ad nn cap,.int .i64 nn,.slice (some q) mv vcap] w fun e w'=>∃ ad' cap',e=.returned (.slice ad' (nn+mv) cap')∧(aP.row ad' cap' 3 1 (nn+mv) (cs++vs)).holds w'∧kA w w' (ad.map (·.block))∧∀ b,ad'.map (·.block)=some b→ad.map (·.block)=some b∨w.heap.size≤b:=by
 obtain ⟨ad',cap',w',hrun,hh,hg,hf⟩:=lC (P:=Tryz.prog) 33 T12.E33 hr (sad:=some q) (m:=mv) (c:=vcap) (news:=vs) ⟨by omega,h1,.inr ⟨q,rfl,hv⟩⟩ (by unfold maxLen;omega) (by omega);have hd:=mM _ hrun;have hcap:=(iV hr).2;refine Calls.mono (R:=fun e w''=>e=.returned (.slice ad' (nn+mv) cap')∧w''=w') ?_ fun e w'' hw=>by
  obtain ⟨rfl,rfl⟩:=hw;exact ⟨ad',cap',rfl,hh,⟨hg,hd⟩,hf⟩
 clear hf hh hg hd hr hv h1;by_cases hc:cap=nn
 ·subst hc
  go_enter Tryz.func179,Tryz.ntmps179
  go_wp2_with (at_builtin;refine Lib.wpList_append_run _ rfl _ _ _ _ rfl _ _ rfl rfl _ _ hrun ?_)
  go_ret
  exact ⟨rfl,rfl⟩
 go_enter Tryz.func179,Tryz.ntmps179
 go_wp2_with (at_builtin;refine Lib.wpList_append_run _ rfl _ _ _ _ rfl _ _ rfl rfl _ _ hrun ?_)
 go_ret
 exact ⟨rfl,rfl⟩
set_option maxHeartbeats 4000000 in
set_option maxRecDepth 100000 in
theorem Tryz.ins_roomM {w:World} {b cap nn j mv:Nat} (hm:1≤mv) {cs:List Value} {q:Addr} {vcap:Nat} {vs:List Value} {cur:Array Value} (hw:w.heap[b]?=some (.cells cur 3 (0,0))) (hcs:cur.size=cap) (ht:cur.toList.take (nn)=cs) (hcm:cap≤9223372036854775807) (hj:j < nn) (hroom:nn+mv≤cap) (hb:nn+mv≤1073741824) (hv:aL (hp w) q vs) (hvl:vs.length=mv) (h1:vs.all (·.oneCell')=true) (h2:cs.all (·.oneCell')=true) (hne:b≠q.block) :
  Calls Tryz.prog 179 #[.slice (some ⟨b,0,none⟩) nn cap,.int .i64 j,.slice (some q) mv vcap] w fun e w'=>e=.returned (.slice (some ⟨b,0,none⟩) (nn+mv) cap)∧w'=(w.drew.setRow b (cur.toList.take ((j+mv))++cs.drop (j)++cur.toList.drop ((nn+mv))).toArray).setRow b (cs.take (j)++vs++cs.drop (j)++cur.toList.drop ((nn+mv))).toArray:=by
 obtain ⟨c0,t0,z0,hq0,hq1⟩:=lZ hv (by omega);have hcl:cs.length=nn:=by rw [← ht,List.length_take,Array.length_toList,hcs];omega
 have hcur:cur.toList=cs++cur.toList.drop (nn):=by rw [← ht,List.take_append_drop]
 have hov:∀ lb cb,(callFunc 219 #[.slice (some q) mv vcap,.slice (some ⟨b,(j+mv),none⟩) lb cb]).run Tryz.prog w=.ok (.value (.bool false)) w:=fun lb cb=>by
  rw [run_callFunc_extern Tryz.func219 (by kernel_rfl) (by kernel_rfl) (by kernel_rfl) (e:=Extern.SlicesOverlaps.overlaps #[33,33] #[4]) (by kernel_rfl),
   mA w 33 4 3 Tryz.underlying33 1 Tryz.sizeOf3 q ⟨b,(j+mv),none⟩ mv vcap lb cb (fun e=>hne e.symm) hq0 hq1 hw (by omega)]
  rfl
 have hcp1:∀ ty dc sc,(Builtin.copy_ #[33,33] ty #[.slice (some ⟨b,(j+mv),none⟩) (nn - j) dc,.slice (some ⟨b,j,none⟩) (nn+mv - j) sc]).run Tryz.prog w.drew=.ok (goInt (Nat.min (nn+mv - j) (nn - j))) (w.drew.setRow b (cur.toList.take ((j+mv))++cs.drop (j)++cur.toList.drop ((nn+mv))).toArray):=fun ty dc sc=>by
  have hl:(cs.drop (j)).length=Nat.min (nn+mv - j) (nn - j):=by
   rw [List.length_drop,hcl,show Nat.min (nn+mv - j) (nn - j)=nn - j by simp only [Nat.min_def];split <;> omega]
  have:=gK (P:=Tryz.prog) w.drew 33 ty 3 1 Tryz.underlying33 Tryz.sizeOf3 b ((j+mv)) (nn - j) dc ⟨b,j,none⟩ (nn+mv - j) sc (cs.drop (j)) (cur:=cur) hw (by rw [hl,Nat.mul_one]) (fun i v hi=>by
   rw [jH];refine gL (w:=w.drew) hw ?_;rw [hcur,List.getElem?_append_left (by rw [List.getElem?_drop] at hi;exact (List.getElem?_eq_some_iff.1 hi).1)]
   rwa [List.getElem?_drop] at hi) (by rw [List.length_drop,hcl,hcs];omega) (fun v hv=>List.all_eq_true.1 h2 v (List.mem_of_mem_drop hv))
  rw [this,show (j+mv)+(cs.drop (j)).length=(nn+mv) by rw [List.length_drop,hcl];omega]
 obtain ⟨X1,hX1⟩:∃ X1:List Value,X1=cur.toList.take ((j+mv))++cs.drop (j)++cur.toList.drop ((nn+mv)):=⟨_,rfl⟩;rw [← hX1] at hcp1 ⊢;obtain ⟨W1,hW1⟩:∃ W1,W1=w.drew.setRow b X1.toArray:=⟨_,rfl⟩;rw [← hW1] at hcp1 ⊢;have hw1:W1.heap[b]?=some (.cells X1.toArray 3 (0,0)):=by rw [hW1];exact setRow_heap w.drew b cur X1.toArray 3 (0,0) hw
 have hX1l:X1.length=cap:=by rw [hX1];simp only [List.length_append,List.length_take,List.length_drop,Array.length_toList,hcs,hcl];omega
 have hlen1:(cur.toList.take ((j+mv))).length=(j+mv):=by rw [List.length_take,Array.length_toList,hcs];omega
 have hcp2:∀ ty dc,(Builtin.copy_ #[33,33] ty #[.slice (some ⟨b,j,none⟩) (nn+mv - j) dc,.slice (some q) mv vcap]).run Tryz.prog W1=.ok (goInt (Nat.min mv (nn+mv - j))) (W1.setRow b (cs.take (j)++vs++cs.drop (j)++cur.toList.drop ((nn+mv))).toArray):=fun ty dc=>by
  have hm:Nat.min mv (nn+mv - j)=mv:=by simp only [Nat.min_def];split <;> omega
  have:=gK (P:=Tryz.prog) W1 33 ty 3 1 Tryz.underlying33 Tryz.sizeOf3 b (j) (nn+mv - j) dc q mv vcap vs (cur:=X1.toArray) hw1 (by rw [hvl,hm,Nat.mul_one]) (fun i v hi=>by
   have h0:=hv.cell hi;have hsp:(q.add i).block=q.block:=by unfold Addr.add;split <;> rfl
   rw [hW1];unfold World.cell? at h0 ⊢;rw [show (w.drew.setRow b X1.toArray).heap[(q.add i).block]?=w.heap[(q.add i).block]? from setRow_other w.drew b _ _ (by rw [hsp];exact fun e=>hne e.symm)]
   exact h0) (by rw [hvl,List.size_toArray,hX1l];omega) (fun v hv=>List.all_eq_true.1 h1 v hv)
  rw [this,hvl];congr 3;have e1:X1.take (j)=cs.take (j):=by
   rw [hX1,List.append_assoc,List.take_append_of_le_length (by rw [hlen1];omega),List.take_take,show min (j) ((j+mv))=j by omega,← ht,List.take_take,show min (j) (nn)=j by omega]
  have e2:X1.drop (j+mv)=cs.drop (j)++cur.toList.drop ((nn+mv)):=by
   rw [hX1,show j+mv=(j+mv) by omega,List.append_assoc,List.drop_append_of_le_length (by rw [hlen1];omega),List.drop_of_length_le (by rw [hlen1];omega),List.nil_append]
  simp only [List.toList_toArray,e1,e2,List.append_assoc]
 have hz2:¬((j:Int)=(nn:Int)):=by omega
 have hw2:IntKind.i64.wrap ((j:Int)+(mv:Int))=(j:Int)+(mv:Int):=by rw [IntKind.wrap_i64];omega
 have hw3:IntKind.i64.wrap ((nn:Int)+(mv:Int))=(nn:Int)+(mv:Int):=by rw [IntKind.wrap_i64];omega
 have htn:((j:Int)+(mv:Int)).toNat=j+mv:=by omega
 have htn2:((nn:Int)+(mv:Int)).toNat=nn+mv:=by omega
 have hb1:(0:Int)≤(j:Int)+(mv:Int):=by omega
 have hb2:¬(cap=j+mv):=by omega
 have hb4:¬(cap=j):=by omega
 have hb3:(j:Int)≤(nn:Int)+(mv:Int):=by omega
 have hin:j≤nn:=by omega
 have hro:¬((cap:Int) < (nn:Int)+(mv:Int)):=by omega
 clear hX1 hcur ht;have mixed:=T12.mixed;clear hw1;subst hW1
 go_enter Tryz.func179,Tryz.ntmps179
 go_wp2_with (simp only [hov])
 go_region_law_o (refine step_copy_runI rfl _ _ 33 33 rfl (.slice (some ⟨b,(j+mv),none⟩) (nn - j) (cap - (j+mv))) (.slice (some ⟨b,j,none⟩) (nn+mv - j) (cap - j)) (by first | (simp [Act.eval,Act.put];done) | (simp [Act.eval,Act.put];omega)) (by first | (simp [Act.eval,Act.put];done) | (simp [Act.eval,Act.put];omega)) (hcp1 3 (cap - (j+mv)) (cap - j)) ?_)
 go_wp2_with (at_builtin;refine wpList_copy_runI _ rfl _ _ 33 33 rfl _ _ rfl rfl (hcp2 _ _) ?_)
 go_ret
 exact ⟨rfl,by simp only [List.append_assoc]⟩
set_option maxHeartbeats 4000000 in
set_option maxRecDepth 100000 in
theorem Tryz.ins_growM {w:World} {b cap nn j mv:Nat} (hm:1≤mv) {cs:List Value} {q:Addr} {vcap:Nat} {vs:List Value} {cur:Array Value} (hw:w.heap[b]?=some (.cells cur 3 (0,0))) (hcs:cur.size=cap) (ht:cur.toList.take (nn)=cs) (hnc:nn≤cap) (hj:j < nn) (hroom:cap < nn+mv) (hb:nn+mv≤1073741824) (hv:aL (hp w) q vs) (hvl:vs.length=mv) (h1:vs.all (·.oneCell')=true) (h2:cs.all (·.oneCell')=true) :
  Calls Tryz.prog 179 #[.slice (some ⟨b,0,none⟩) nn cap,.int .i64 j,.slice (some q) mv vcap] w fun e w'=>∃ (G:Nat) (X:List Value),nn+mv≤G∧G≤maxLen∧X.length=G∧X.take ((nn+mv))=cs.take (j)++vs++cs.drop (j)∧e=.returned (.slice (some ⟨w.heap.size,0,none⟩) (nn+mv) G)∧∃ Y Z m,w'=(((w.alloc (.cells Y 3)).drewN m).setRow w.heap.size Z).setRow w.heap.size X.toArray:=by
 obtain ⟨i0,v0,hi0,hz0,hzv,hzs,hzb⟩:=T12.E33.info;have hzc:v0.cells.size=1:=by rw [fY,hzv];rfl
 have hcl:cs.length=nn:=by rw [← ht,List.length_take,Array.length_toList,hcs];omega
 have hcur:cur.toList=cs++cur.toList.drop (nn):=by rw [← ht,List.take_append_drop]
 have hold:(Builtin.firstCells i0.size j (.slice (some ⟨b,0,none⟩) j cap)).run Tryz.prog w.drew=.ok (cs.take (j)).toArray w.drew:=by
  rw [hzs];refine run_firstCells_some (w:=w.drew) 1 j ⟨b,0,none⟩ j cap (cs.take (j)) (by rw [List.length_take,hcl];omega) (fun i v hi=>?_);rw [jH,Nat.zero_add];refine gL (w:=w.drew) hw ?_;rw [List.getElem?_take] at hi
  split at hi
  ·rw [hcur,List.getElem?_append_left (by rw [hcl];omega)];exact hi
  cases hi
 have hik:j+(nn+mv - j)=nn+mv:=by omega
 have hkk:(nn:Int)+(mv:Int) - (j:Int)=((nn+mv - j:Nat):Int):=by omega
 obtain ⟨G,hG⟩:∃ G,G=grownCap w (nn+mv) cap 3:=⟨_,rfl⟩;have hGn:nn+mv≤G:=by rw [hG];exact grownCap_ge w _ _ _
 have hGm:G≤maxLen:=by rw [hG];exact grownCap_le_maxLen w (nn+mv) cap 3 (by unfold maxLen;omega)
 obtain ⟨R,hR⟩:∃ R:Array Value,R=(cs.take (j)).toArray++Builtin.zeroCells v0.cells (nn+mv - j)++Builtin.zeroCells v0.cells (G - (nn+mv)):=⟨_,rfl⟩;have hRs:R.size=G:=by
  rw [hR];simp only [Array.size_append,List.size_toArray,List.length_take,hcl,Builtin.zeroCells,Array.size_map,Array.size_range,hzc];omega
 have hRt:R.toList.take (j)=cs.take (j):=by
  rw [hR,Array.toList_append,Array.toList_append,List.append_assoc,List.take_append_of_le_length (by simp [hcl];omega)];simp only [List.toList_toArray,List.take_take,Nat.min_self]
 have hrz:∀ ty,(Builtin.append_ #[33,3] ty #[.slice (some ⟨b,0,none⟩) j cap,.int .i64 ((nn:Int)+(mv:Int) - (j:Int))]).run Tryz.prog w=.ok (.slice (some ⟨w.heap.size,0,none⟩) (nn+mv) G) (w.drew.alloc (.cells R 3)):=fun ty=>by
  have h:=Lib.run_append_grow_zeros w 33 3 ty 3 i0 _ .i64 .i64 Tryz.underlying33 Tryz.underlying3 hi0 hz0 (some ⟨b,0,none⟩) j cap (cs.take (j)) hold (nn+mv - j) (by omega) (by rw [hzs];decide) (by omega) (by omega) (by rw [hzb];omega) (by rw [hzb,hik];exact growslice_fits hroom (by omega));rw [hik] at h;rw [hkk,hR,hG];exact h
 have hN:(w.drew.alloc (.cells R 3)).heap[w.heap.size]?=some (.cells R 3 (0,0)):=dL w.drew _;have hbw:b < w.heap.size:=(Array.getElem?_eq_some_iff.1 hw).1;obtain ⟨X1,hX1⟩:∃ X1:List Value,X1=cs.take (j)++vs++R.toList.drop ((j+mv)):=⟨_,rfl⟩;obtain ⟨X2,hX2⟩:∃ X2:List Value,X2=cs.take (j)++vs++cs.drop (j)++R.toList.drop ((nn+mv)):=⟨_,rfl⟩;have hct:(cs.take (j)).length=j:=by rw [List.length_take,hcl];omega
 have hX1l:X1.length=G:=by rw [hX1];simp only [List.length_append,hct,hvl,List.length_drop,Array.length_toList,hRs];omega
 have hX2l:X2.length=G:=by rw [hX2];simp only [List.length_append,hct,hvl,List.length_drop,Array.length_toList,hRs,hcl];omega
 have hqn:∀ i,(q.add i).block=q.block:=fun i=>by unfold Addr.add;split <;> rfl
 obtain ⟨c0,t0,z0,hq0,_⟩:=lZ hv (by omega);have hqw:q.block < w.heap.size:=(Array.getElem?_eq_some_iff.1 hq0).1;have hcpA:∀ (m:Nat) ty dc,(Builtin.copy_ #[33,33] ty #[.slice (some ⟨w.heap.size,j,none⟩) (nn+mv - j) dc,.slice (some q) mv vcap]).run Tryz.prog ((w.alloc (.cells R 3)).drewN m)=.ok (goInt (Nat.min mv (nn+mv - j))) (((w.alloc (.cells R 3)).drewN m).setRow w.heap.size X1.toArray):=fun m ty dc=>by
  have hm:Nat.min mv (nn+mv - j)=mv:=by simp only [Nat.min_def];split <;> omega
  have:=gK (P:=Tryz.prog) ((w.alloc (.cells R 3)).drewN m) 33 ty 3 1 Tryz.underlying33 Tryz.sizeOf3 w.heap.size (j) (nn+mv - j) dc q mv vcap vs (cur:=R) (te:=3) (dL w _) (by rw [hvl,hm,Nat.mul_one]) (fun i v hi=>by
   have h0:=hv.cell hi;unfold World.cell? at h0 ⊢;rw [show ((w.alloc (.cells R 3)).drewN m).heap[(q.add i).block]?=w.heap[(q.add i).block]? from (fX.alloc True w (.cells R 3)).keep _ (by rw [hqn];exact hqw)]
   exact h0) (by rw [hvl,hRs];omega) (fun v hv=>List.all_eq_true.1 h1 v hv)
  rw [this,hvl,hRt,hX1,show j+mv=(j+mv) by omega]
 have hcpB:∀ (m:Nat) ty dc sc,(Builtin.copy_ #[33,33] ty #[.slice (some ⟨w.heap.size,(j+mv),none⟩) (nn - j) dc,.slice (some ⟨b,j,none⟩) (nn - j) sc]).run Tryz.prog (((w.alloc (.cells R 3)).drewN m).setRow w.heap.size X1.toArray)=.ok (goInt (Nat.min (nn - j) (nn - j))) ((((w.alloc (.cells R 3)).drewN m).setRow w.heap.size X1.toArray).setRow w.heap.size X2.toArray):=fun m ty dc sc=>by
  have hm:Nat.min (nn - j) (nn - j)=nn - j:=Nat.min_self _;have hl:(cs.drop (j)).length=Nat.min (nn - j) (nn - j):=by rw [hm,List.length_drop,hcl]
  have:=gK (P:=Tryz.prog) (((w.alloc (.cells R 3)).drewN m).setRow w.heap.size X1.toArray) 33 ty 3 1 Tryz.underlying33 Tryz.sizeOf3 w.heap.size ((j+mv)) (nn - j) dc ⟨b,j,none⟩ (nn - j) sc (cs.drop (j)) (cur:=X1.toArray) (te:=3) (setRow_heap _ _ R X1.toArray 3 (0,0) (dL w _)) (by rw [hl,Nat.mul_one]) (fun i v hi=>by
   rw [jH];have hcell:w.cell? ⟨b,j+i,none⟩=some v:=by
    refine gL hw ?_;rw [hcur,List.getElem?_append_left (by rw [List.getElem?_drop] at hi;exact (List.getElem?_eq_some_iff.1 hi).1)]
    rwa [List.getElem?_drop] at hi
   unfold World.cell? at hcell ⊢;rw [show (((w.alloc (.cells R 3)).drewN m).setRow w.heap.size X1.toArray).heap[(⟨b,j+i,none⟩:Addr).block]?=w.heap[(⟨b,j+i,none⟩:Addr).block]? from (setRow_other _ _ _ _ (by show b≠w.heap.size;omega)).trans ((fX.alloc True w (.cells R 3)).keep _ hbw)]
   exact hcell) (by rw [List.length_drop,hcl,List.size_toArray,hX1l];omega) (fun v hv=>List.all_eq_true.1 h2 v (List.mem_of_mem_drop hv))
  rw [this,show (j+mv)+(cs.drop (j)).length=(nn+mv) by rw [List.length_drop,hcl];omega];congr 3;have e1:X1.take ((j+mv))=cs.take (j)++vs:=by
   rw [hX1,List.take_append_of_le_length (by rw [List.length_append,hct,hvl];omega),List.take_of_length_le (by rw [List.length_append,hct,hvl];omega)]
  have e2:X1.drop ((nn+mv))=R.toList.drop ((nn+mv)):=by
   rw [hX1,List.drop_append,List.drop_of_length_le (by rw [List.length_append,hct,hvl];omega),List.nil_append,List.drop_drop,List.length_append,hct,hvl,show (j+mv)+((nn+mv) - (j+mv))=(nn+mv) by omega]
  simp only [List.toList_toArray,e1,e2,hX2,List.append_assoc]
 have hX2t:X2.take ((nn+mv))=cs.take (j)++vs++cs.drop (j):=by
  rw [hX2,List.take_append_of_le_length (by simp only [List.length_append,hct,hvl,List.length_drop,hcl];omega),List.take_of_length_le (by simp only [List.length_append,hct,hvl,List.length_drop,hcl];omega)]
 refine Calls.mono (R:=fun e w''=>e=.returned (.slice (some ⟨w.heap.size,0,none⟩) (nn+mv) G)∧∃ m,w''=(((w.alloc (.cells R 3)).drewN m).setRow w.heap.size X1.toArray).setRow w.heap.size X2.toArray) ?_ fun e w'' hw=>by
  obtain ⟨rfl,m,rfl⟩:=hw;exact ⟨G,X2,hGn,hGm,hX2l,hX2t,rfl,R,X1.toArray,m,rfl⟩
 have mixed:=T12.mixed;have hz2:¬((j:Int)=(nn:Int)):=by omega
 have hw2:IntKind.i64.wrap ((j:Int)+(mv:Int))=(j:Int)+(mv:Int):=by rw [IntKind.wrap_i64];omega
 have hw3:IntKind.i64.wrap ((nn:Int)+(mv:Int))=(nn:Int)+(mv:Int):=by rw [IntKind.wrap_i64];omega
 have htn:((j:Int)+(mv:Int)).toNat=j+mv:=by omega
 have hb1:(0:Int)≤(j:Int)+(mv:Int):=by omega
 have hro:(cap:Int) < (nn:Int)+(mv:Int):=by omega
 have hGi:¬(G=j):=by omega
 have hGim:¬(G=j+mv):=by omega
 have hci:¬(cap=j):=by omega
 have hin:j≤nn:=by omega
 have hb3:(j:Int)≤(nn:Int):=by omega
 have hcpA0:∀ ty dc,(Builtin.copy_ #[33,33] ty #[.slice (some ⟨w.heap.size,j,none⟩) (nn+mv - j) dc,.slice (some q) mv vcap]).run Tryz.prog (w.drew.alloc (.cells R 3))=.ok (goInt (Nat.min mv (nn+mv - j))) ((w.drew.alloc (.cells R 3)).setRow w.heap.size X1.toArray):=fun ty dc=>hcpA 1 ty dc;have hcpA1:∀ ty dc,(Builtin.copy_ #[33,33] ty #[.slice (some ⟨w.heap.size,j,none⟩) (nn+mv - j) dc,.slice (some q) mv vcap]).run Tryz.prog ((w.alloc (.cells R 3)).drew)=.ok (goInt (Nat.min mv (nn+mv - j))) (((w.alloc (.cells R 3)).drew).setRow w.heap.size X1.toArray):=fun ty dc=>hcpA 1 ty dc;have hcpB0:∀ ty dc sc,(Builtin.copy_ #[33,33] ty #[.slice (some ⟨w.heap.size,(j+mv),none⟩) (nn - j) dc,.slice (some ⟨b,j,none⟩) (nn - j) sc]).run Tryz.prog (((w.alloc (.cells R 3)).drew.setRow w.heap.size X1.toArray).drew)=.ok (goInt (Nat.min (nn - j) (nn - j))) ((((w.alloc (.cells R 3)).drew.setRow w.heap.size X1.toArray).drew).setRow w.heap.size X2.toArray):=fun ty dc sc=>hcpB 2 ty dc sc;clear hG hcpA hcpB hR hold hkk hik hcur hRt hX1 hX2 hX2t hN hq0 hv ht
 go_enter Tryz.func179,Tryz.ntmps179
 go_wp2_with (first
  | (at_builtin;refine Lib.wpList_append_run _ rfl _ _ _ _ rfl _ _ rfl rfl _ _ (hrz _) ?_)
  | (at_builtin;refine wpList_copy_runI _ rfl _ _ 33 33 rfl _ _ rfl rfl (hcpA1 _ _) ?_)
  | (at_builtin;refine wpList_copy_runI _ rfl _ _ 33 33 rfl _ _ rfl rfl (hcpA0 _ _) ?_))
 go_region_law_o (refine step_copy_runI rfl _ _ 33 33 rfl (.slice (some ⟨w.heap.size,(j+mv),none⟩) (nn - j) (G - (j+mv))) (.slice (some ⟨b,j,none⟩) (nn - j) (cap - j)) (by first | (simp [Act.eval,Act.put];done) | (simp [Act.eval,Act.put];omega)) (by first | (simp [Act.eval,Act.put];done) | (simp [Act.eval,Act.put];omega)) (hcpB0 3 (G - (j+mv)) (cap - j)) ?_)
 go_wp2
 go_ret
 exact ⟨rfl,2,rfl⟩
set_option maxHeartbeats 4000000 in
set_option maxRecDepth 100000 in
theorem Tryz.ins_none {w:World} {ad vad:Option Addr} {cap nn j vcap:Nat} (hj:j≤nn) (hc:nn≤cap) (hcm:cap≤9223372036854775807):Calls Tryz.prog 179 #[.slice ad nn cap,.int .i64 j,.slice vad 0 vcap] w fun e w'=>e=.returned (.slice ad nn cap)∧∃ n,w'=w.drewN n:=by
 have hb3:(j:Int)≤(nn:Int):=by omega
 by_cases hcj:cap=j
 ·subst hcj
  go_enter Tryz.func179,Tryz.ntmps179
  go_wp2
  go_ret
  exact ⟨rfl,0,rfl⟩
 go_enter Tryz.func179,Tryz.ntmps179
 go_wp2
 go_ret
 exact ⟨rfl,0,rfl⟩
theorem Tryz.insM179:SD Tryz.prog 179 3 1:=by
 intro w ad cap nn cs j vad vcap mv vs hr hj hb hvl hsrc h2 hne hvc;have hcl:=(iV hr).1;have hnc0:=(iV hr).2;rw [Nat.mul_one] at hvl;simp only [Nat.mul_one];rcases Nat.eq_zero_or_pos mv with h0 | hm
 ·subst h0;have hv0:vs=[]:=List.eq_nil_of_length_eq_zero (by omega);subst hv0;have hrow:nn≤cap∧cap≤9223372036854775807:=by
   rcases hr.2 with ⟨e0,h0⟩ | ⟨b,cap',cur,he,hbb,hw,hnc,hcm,hcs,ht⟩
   ·cases e0;omega
   cases he;unfold maxLen at hcm;omega
  refine (Tryz.ins_none hj hrow.1 hrow.2).mono fun e w' h=>?_;obtain ⟨rfl,n,rfl⟩:=h;refine ⟨ad,cap,rfl,?_,?_,fun b hb'=>.inl hb'⟩
  ·rw [List.append_nil,List.take_append_drop];exact hr
  exact ⟨⟨rfl,rfl,rfl,Nat.le_refl _,fun k hk hne=>rfl⟩,Nat.le_add_right _ _⟩
 rcases hsrc with h0 | ⟨_,h1,⟨_,h0,_⟩ | ⟨q,rfl,hv⟩⟩
 ·omega
 ·omega
 by_cases hjn:j=nn
 ·subst hjn;refine (Tryz.ins_endM hm hr hb hv hvl h1).mono fun e w' h=>?_;rw [List.take_of_length_le (by omega),List.drop_of_length_le (by omega),List.append_nil];exact h
 have hlt:j < nn:=by omega
 rcases hr.2 with ⟨_,h0⟩ | ⟨b,cap',cur,he,hbb,hw,hnc,hcm,hcs,ht⟩
 ·omega
 simp only [Value.slice.injEq] at he;obtain ⟨rfl,_,rfl⟩:=he;rw [Nat.mul_one] at hcs ht;have hbw:b < w.heap.size:=(Array.getElem?_eq_some_iff.1 hw).1;have h3:cap≤9223372036854775807:=by unfold maxLen at hcm;omega
 have hln:(cs.take (j)++vs++cs.drop (j)).length=(nn+mv):=by
  simp only [List.length_append,List.length_take,List.length_drop,hvl,hcl];omega
 by_cases hroom:nn+mv≤cap
 ·refine (Tryz.ins_roomM hm hw hcs ht h3 hlt hroom hb hv hvl h1 h2 (hne q rfl hm b rfl)).mono fun e w' h=>?_;obtain ⟨rfl,rfl⟩:=h;refine ⟨_,_,rfl,?_,?_,fun b' hb'=>.inl hb'⟩
  ·refine ⟨by rw [hln,Nat.mul_one],.inr ⟨b,cap,_,rfl,hbb,setRow_heap _ b _ _ 3 (0,0) (setRow_heap w.drew b cur _ 3 (0,0) hw),hroom,hcm,?_,?_⟩⟩
   ·have:(cur.toList.drop ((nn+mv))).length=cap - (nn+mv):=by rw [List.length_drop,Array.length_toList,hcs]
    rw [List.size_toArray,List.length_append,hln,this];omega
   rw [Nat.mul_one,List.toList_toArray,List.take_append_of_le_length (by rw [hln];exact Nat.le_refl _),List.take_of_length_le (by rw [hln];exact Nat.le_refl _)]
  exact kV (fun k hk hkb=>(setRow_other _ _ _ _ hkb).trans (setRow_other _ _ _ _ hkb)) rfl rfl rfl (by rw [eN,eN];exact Nat.le_refl _) (Nat.le_succ _)
 refine (Tryz.ins_growM hm hw hcs ht hnc hlt (by omega) hb hv hvl h1 h2).mono fun e w' h=>?_;obtain ⟨G,X,hG1,hG2,hXl,hXt,rfl,Y,Z,m,rfl⟩:=h;refine ⟨_,_,rfl,?_,?_,fun b' hb'=>.inr (by simp at hb';omega)⟩
 ·refine ⟨by rw [hln,Nat.mul_one],.inr ⟨w.heap.size,G,X.toArray,rfl,Nat.zero_le _,setRow_heap _ _ Z _ 3 (0,0) (setRow_heap _ _ Y _ 3 (0,0) (dL w _)),hG1,hG2,by rw [List.size_toArray,hXl,Nat.mul_one],by rw [List.toList_toArray,Nat.mul_one];exact hXt⟩⟩
 refine kV (fun k hk hkb=>?_) rfl rfl rfl ?_ ?_
 ·have hkn:k≠w.heap.size:=by omega
  exact (setRow_other _ _ _ _ hkn).trans ((setRow_other _ _ _ _ hkn).trans ((fX.alloc True w (.cells Y 3)).keep k hk))
 ·rw [eN,eN];exact (fX.alloc True w (.cells Y 3)).size
 exact Nat.le_add_right _ _
end Go.Proofs
set_option maxHeartbeats 4000000
namespace T12
open Go Go.Proofs Pk Go.RowKit
section
variable {P:Program} {r:Option Nat} {n:aR} {p:List PanicEntry→aR} {a:Act} {w:World} {D:List Deferred} {k:Nat} {L:cA} {ops:Array Oper} {rest:List Oper} {d:Nat} {ty:TypeId} {pos:String} {af:Array Edge}
theorem NH {y:Operand} {t u te:TypeId} {pe:Value} {ms:_} (hA:aT D k a L) (hu':P.underlying t=some (.interface ms)) (hd:Nat.blt d k=true) (hy:ev L y=some (.iface te pe)) (h:∀ a,aT D k a ((d,.bool false)::L)→O P r ops n p rest a w):O P r ops n p (⟨some d,.binOp .eql t y (.const .nilIface) u,ty,pos,af,none⟩::rest) a w:=by
 have hu:P.underlying t=some (.interface (P.methodsAt t)):=by rw [hu'];simp [Program.methodsAt,hu']
 refine cM rfl (fun _ h=>by cases h) (w':=w) (v:=.bool false) ?_ (h _ (hA.put hd _));simp [execOp,hA.eval hy,show a.eval (.const .nilIface)=.nilIface from rfl,eqGuard,run_eql_held_nil w t _ _ hu,Result.andThen]
theorem NI {y:Operand} {t u:TypeId} {ms:_} (hA:aT D k a L) (hu':P.underlying t=some (.interface ms)) (hd:Nat.blt d k=true) (hy:ev L y=some .nilIface) (h:∀ a,aT D k a ((d,.bool true)::L)→O P r ops n p rest a w):O P r ops n p (⟨some d,.binOp .eql t y (.const .nilIface) u,ty,pos,af,none⟩::rest) a w:=by
 have hu:P.underlying t=some (.interface (P.methodsAt t)):=by rw [hu'];simp [Program.methodsAt,hu']
 refine cM rfl (fun _ h=>by cases h) (w':=w) (v:=.bool true) ?_ (h _ (hA.put hd _));simp only [execOp,hA.eval hy,show a.eval (.const .nilIface)=.nilIface from rfl];simp [eqGuard,run_eql_nil_nil w t hu,Result.andThen]
theorem NJ {y:Operand} {xT t:TypeId} {v:Value} {ds:TypeDesc} (hA:aT D k a L) (hd:Nat.blt d k=true) (hu:P.underlying t=some ds) (hds:(match ds with | .interface _=>false | _=>true)=true) (hy:ev L y=some (.iface t v))
  (h:∀ a,aT D k a ((d,.tuple #[v,.bool true])::L)→O P r ops n p rest a w):O P r ops n p (⟨some d,.typeAssert y xT t true,ty,pos,af,none⟩::rest) a w :=
 cM rfl (fun _ h=>by cases h) (w':=w) (v:=.tuple #[v,.bool true]) (by
  simp only [execOp,Instr.typeAssert,hA.eval hy]
  cases ds <;> simp at hds <;> simp [run_underlying hu,Result.andThen]) (h _ (hA.put hd _))
end
theorem NK (q:Addr) (w:World):CallsD Tryz.prog 76 #[.pointer (some q)] .returning w fun e u' w'=>e=.returned (.tuple #[])∧u'=.returning∧w'=w:=by
 refine callsD_of_wpS Tryz.func76 rfl fun c₀ cs hu=>?_;apply wpS_seq;apply wpS_region;simp [wpOpsS,go_sem,recoverD,hu,Tryz.ntmps76,Exit.thenS];refine wpS_of_wp ?_;refine (wpIn_wide (n:=0)).1 (wpIn_mono (show Pk.W Tryz.prog none _ (fun a w'=>a.defers=[]∧w'=w) (fun _ _=>False) [] (fun _ _ _=>False) _ w from ?_) ?_)
 ·have hA:aT [] 12 { tmps:=#[.pointer (some q)]++((Array.replicate 11 undef).setIfInBounds 3 .nilIface),defers:=[] } [(0,.pointer (some q)),(4,.nilIface)]:=by
   refine ⟨rfl,by simp,fun i u h=>?_⟩;rcases i with _ | _ | _ | _ | _ | i
   ·exact h
   ·cases h
   ·cases h
   ·cases h
   ·exact h
   cases (show (none:Option Value)=some u from h)
  revert hA;generalize ({ tmps:=_,defers:=[] }:Act)=a;intro hA;refine lJ (gE (dG (NI hA Tryz.underlying20 rfl rfl fun a hA=>fQ (iX hA rfl (fun _=>?_) (fun h=>by cases h)))));exact dG (fF hA rfl rfl fun a hA=>fQ ⟨hA.defers,rfl⟩)
 intro z a w' hz
 cases z with
 | normal =>
  obtain ⟨hd,rfl⟩:=hz;exact ⟨hd,.returning,by cases c₀;simp_all,.tuple #[],by simp [results,Tryz.results76],rfl,rfl,rfl⟩
 | ret=>exact hz.elim
 | panic ch=>exact hz.elim
 | exit id=>obtain ⟨K,hK,_⟩:=hz;simp [sA] at hK
 | goto l=>exact hz
 | outgrown=>exact hz.elim
theorem NL {M:Prop} {W w:World} {H:Hp} {Hs:List Hp} {b tE:Nat} {z0:Value} {u:Int} {σr:aK} (hS:St M W H Hs ((tE,bH b 43 [z0])::σr) w) (hT:Nat.beq 999999 tE=false) :
  CallsD Tryz.prog 76 #[.pointer (some ⟨b,0,none⟩)] (.panicking (GS (.iface 149 (.agg #[.int .i64 u])))) w fun e u' w'=>(∃ v,e=.returned v)∧settle u'=.returning ∧
   ∃ b3 cs3,St M W H Hs ((999999,bH b3 149 cs3)::(tE,bH b 43 [.int .i64 u])::σr) w':=by
 refine callsD_of_wpS Tryz.func76 rfl fun c₀ cs hu=>?_;apply wpS_seq;apply wpS_region;obtain ⟨v,hv⟩:∃ v:Value,v=.agg #[.int .i64 u]:=⟨_,rfl⟩;rw [← hv] at hu;simp [wpOpsS,go_sem,recoverD,hu,Tryz.ntmps76,Exit.thenS,GS];refine wpS_of_wp ?_;refine (wpIn_wide (n:=0)).1 (wpIn_mono (show Pk.W Tryz.prog none _ (fun a w=>a.defers=[]∧∃ b3 cs3,St M W H Hs ((999999,bH b3 149 cs3)::(tE,bH b 43 [.int .i64 u])::σr) w) (fun _ _=>False) [] (fun _ _ _=>False) _ w from ?_) ?_)
 ·have hA:aT [] 12 { tmps:=#[.pointer (some ⟨b,0,none⟩)]++((Array.replicate 11 undef).setIfInBounds 3 (.iface 149 v)),defers:=[] } [(0,.pointer (some ⟨b,0,none⟩)),(4,.iface 149 v)]:=by
   refine ⟨rfl,by simp,fun i u h=>?_⟩;rcases i with _ | _ | _ | _ | _ | i
   ·exact h
   ·cases h
   ·cases h
   ·cases h
   ·exact h
   cases (show (none:Option Value)=some u from h)
  revert hA;generalize ({ tmps:=_,defers:=[] }:Act)=a;intro hA;subst hv;refine lJ (gE (dG (NH hA Tryz.underlying20 rfl rfl fun a hA=>fQ (iX hA rfl (fun h=>by cases h) (fun _=>?_)))));refine gE (dG (NJ hA rfl Tryz.underlying149 rfl rfl fun a hA=>lM (vs:=[.agg #[.int .i64 u],.bool true]) hA rfl rfl rfl fun a hA=>lM (vs:=[.agg #[.int .i64 u],.bool true]) hA rfl rfl rfl fun a hA=>fQ (iX hA rfl (fun _=>?_) (fun h=>by cases h))));refine gE (dG (qW 999999 hA rfl hS Tryz.zeroValue149 rfl fun b3 w hS hb a hA=>?_));refine lN 999999 (cs:=[.int .i64 u]) hA hS rfl rfl Tryz.sizeOf149 rfl rfl rfl rfl rfl fun w hS a hA=>fQ ?_;refine dG (XS (cs:=[.int .i64 u]) (v:=.int .i64 u) hA rfl rfl rfl Tryz.underlying149 rfl Tryz.sizeOf43 Tryz.isAgg43 ?_ rfl fun a hA=>?_)
  ·exact sO (x:=⟨[],12,M,W,H⟩) 999999 rfl w hS
  refine lN tE (t0:=43) (l:=[z0]) (cs:=[.int .i64 u]) hA hS rfl rfl Tryz.sizeOf43 (by simp [cI,dH,hT]) rfl rfl rfl rfl fun w hS a hA=>fQ ?_;refine ⟨hA.defers,b3,[.int .i64 u],?_⟩;simpa [dH,hT,kB,bQ] using hS
 intro z a w' hz
 cases z with
 | normal =>
  obtain ⟨hd,h⟩:=hz;subst hv;exact ⟨hd,.panicking [{ v:=.iface 149 (.agg #[.int .i64 u]),recovered:=true }],rfl,.tuple #[],by simp [results,Tryz.results76],⟨_,rfl⟩,rfl,h⟩
 | ret=>exact hz.elim
 | panic ch=>exact hz.elim
 | exit id=>obtain ⟨K,hK,_⟩:=hz;simp [sA] at hK
 | goto l=>exact hz
 | outgrown=>exact hz.elim
variable {R:Ending→World→Prop} {M:Prop} {W:World} {H:Hp} {Hs:List Hp} {σ:aK} {L:cA} {b:Nat}
theorem YW (h:TG ⟨[],56,M,W,H⟩ Hs σ L (Rt Tryz.prog Tryz.f49 R)):TG ⟨[KR 76 [.pointer (some ⟨b,0,none⟩)]],56,M,W,H⟩ Hs σ L (SA Tryz.prog Tryz.f49 R) :=
 rtF Tryz.call76 (fun w hS=>(NK ⟨b,0,none⟩ w).mono (by rintro e u w' ⟨rfl,rfl,rfl⟩;exact ⟨⟨_,rfl⟩,rfl,hS⟩)) h
theorem CM {tE:Nat} {u:Int} {z0:Value} {σr:aK} (hT:Nat.beq 999999 tE=false)
  (h:∀ b3 cs3,TG ⟨[],56,M,W,H⟩ Hs ((999999,bH b3 149 cs3)::(tE,bH b 43 [.int .i64 u])::σr) L (Rt Tryz.prog Tryz.f49 R)) :
  TG ⟨[KR 76 [.pointer (some ⟨b,0,none⟩)]],56,M,W,H⟩ Hs ((tE,bH b 43 [z0])::σr) L (SB Tryz.prog Tryz.f49 R (GS (.iface 149 (.agg #[.int .i64 u])))) :=
 pnF (σ':=fun b3 cs3=>(999999,bH b3 149 cs3)::(tE,bH b 43 [.int .i64 u])::σr) Tryz.call76 (fun w hS=>NL hS hT) h
section
open Go.Lib
theorem SM (w:World):PredAtRunes Tryz.prog 224 #[] (fun x=>x==32) w:=by
 intro W x hx hb;show Calls Tryz.prog 224 #[encR x] W _
 go_enter Tryz.func224,Tryz.ntmps224
 go_wp2
 first | go_ret | go_ret2
 exact ⟨by simp [encR];rw [Bool.eq_iff_iff];simp;omega,0,rfl⟩
noncomputable def IL (s:aF):Option (List aF):=bY (s.length≤1073741824) (some ((goFieldsP (fun x=>x==32) (bs s)).map (·.data.toList)))
theorem YX {M:Prop} {W:World} {H:Hp} (hH:H.le (hp W)) (hg:Gv M H) (s:aF) {r:List aF} (hr:IL s=some r):Calls Tryz.prog 223 #[.string (bs s),.func (.func 224) #[] #[]] W (eU M H W (fun v K=>∃ (ad0:Option Addr) (cap0:Nat),v=.slice ad0 r.length cap0∧Sl (aG cE) 1 K ad0 cap0 r)):=by
 unfold IL at hr;obtain ⟨hl,hr⟩:=aE hr;obtain rfl:=Option.some.inj hr;refine (Any.strings_FieldsFunc_runes Tryz.lays229 224 #[] Tryz.call224 (fun x=>x==32) (bs s) W (by rw [fK];omega) (SM W) (by kernel_rfl) (by kernel_rfl)).mono ?_;rintro e w' ⟨A,rfl,hA,ho,hb⟩;have hE:fX M W w':=fX.of_below hg.gl.nq hb;generalize goFieldsP (fun x=>x==32) (bs s)=l at ho;refine ⟨⟨some ⟨A,0,none⟩,l.length,by rw [List.length_map],?_⟩,hE⟩;rcases ho.2 with ⟨h,_⟩ | ⟨g,cap,cur,h,_,hg,h1,h2,h3,h4⟩
 ·cases h
 cases h;refine ⟨by rw [List.length_map];unfold maxLen at h2;omega,fun i x hx=>?_⟩;rw [List.getElem?_map,Option.map_eq_some_iff] at hx;obtain ⟨y,hy,rfl⟩:=hx;refine ⟨_,cE y.data.toList,rfl,rfl,rfl,⟨by rw [dJ rfl],fun j v hv=>?_⟩,rfl⟩;rw [dJ rfl]
 cases j with
 | succ j=>simp [cE] at hv
 | zero =>
  have hv:v=.string (bs y.data.toList):=by simpa [cE] using hv.symm
  subst hv;refine ⟨cur,9,(0,0),by show (if A < W.heap.size then _ else w'.heap[A]?)=_;rw [if_neg (by omega)];exact hg,?_⟩;have hi:i < l.length:=(List.getElem?_eq_some_iff.1 hy).1;have:(cur.toList.take (l.length*1))[i]?=some (.string y):=by rw [h4];simp [hy]
  rw [List.getElem?_take,if_pos (by omega)] at this;rw [← QP y];simpa using this
end
end T12
set_option maxHeartbeats 4000000
namespace Go.Proofs
open Go Go.Shelf Go.RowKit Pk Go.Sort
def Tryz.laysNm224_ren:Go.Shelf.Ren:=⟨fun | 24=>44 | n=>n,fun | 24=>22 | 9=>9 | 3=>3 | 4=>4 | 0=>0 | n=>n,fun | n=>n⟩
theorem Tryz.laysNm224:Go.Proofs.Lays2.n24 Tryz.prog Tryz.laysNm224_ren:={
 mixed:=by kernel_rfl
 f24:=Tryz.func44.trans (congrArg some (by kernel_rfl))
 t0:=Tryz.underlying0
 a0:=Tryz.isAgg0
 z0:=Tryz.sizeOf0
 v0:=Tryz.zeroValue0
 t3:=Tryz.underlying3
 a3:=Tryz.isAgg3
 z3:=Tryz.sizeOf3
 v3:=Tryz.zeroValue3
 t4:=Tryz.underlying4
 a4:=Tryz.isAgg4
 z4:=Tryz.sizeOf4
 v4:=Tryz.zeroValue4
 t9:=Tryz.underlying9
 a9:=Tryz.isAgg9
 z9:=Tryz.sizeOf9
 v9:=Tryz.zeroValue9
 t24:=Tryz.underlying22
 a24:=Tryz.isAgg22
 z24:=Tryz.sizeOf22
 v24:=Tryz.zeroValue22
 i9:=by kernel_rfl }
theorem IM (w:World):Sort.grow w #[]=w:=by
 show { w with heap:=w.heap ++ #[] }=w;simp
theorem Tryz.dlt44 (l:List aF) (hl:l.length≤9223372036854775807) (i j:Int) (h:0≤i∧i≤j∧j≤(l.length:Int)) (w:World) (V:Hp):RZ Tryz.prog 44 [.int .i64 i,.int .i64 j] l (l.take i.toNat++l.drop j.toNat) w V:=by
 obtain ⟨h1,h2,h3⟩:=h;obtain ⟨a,rfl⟩:=Int.eq_ofNat_of_zero_le h1;obtain ⟨b,rfl⟩:=Int.eq_ofNat_of_zero_le (Int.le_trans h1 h2);refine ⟨fun h ad cap=>?_,fun blk cap _ hH hc hm=>?_⟩
 ·subst h;obtain rfl:b=0:=by simp at h3;omega
  obtain rfl:a=0:=by omega
  exact Any.slices_Delete_string_empty Tryz.laysNm224 ad cap w
 have e1:(l.take (Int.toNat a)++l.drop (Int.toNat b)).length=l.length - (b - a):=by simp;omega
 rw [e1];refine (Any.slices_Delete_string Tryz.laysNm224 blk 0 cap a b l w hH hc hm (by omega) (by omega)).mono ?_;rintro e w' ⟨rfl,q,rfl⟩;refine ⟨rfl,q,#[],List.replicate (b - a) [],?_,?_⟩
 ·unfold sortWorld;rw [IM];rfl
 simp;omega
end Go.Proofs
set_option maxHeartbeats 4000000
namespace T12
open Go Go.Proofs Pk Tryz
noncomputable section
def CN (line:aF) (s1:Int):Option ((Int)⊕(Int)) :=
 ((
  if s1 < (line.length:Int) then (
   bY (0≤s1) <|
   (line[s1.toNat]?).bind fun x0 =>
   some (decide ((x0.toNat:Int)≠32)))
  else
  some false
 ):Option (Bool)).bind fun t31 =>
 if t31 then (
  bY (-9223372036854775808≤(s1+1)∧(s1+1)≤9223372036854775807) <|
  some (.inl (s1+1)))
 else
 some (.inr s1)
def PU (line:aF) (fq:Int):Option (Int) :=
 (bG (CN line) fq).bind fun e16 =>
 some e16
def PV (cN:aF):Option (Int×Bool) :=
 if cN=[114,101,115,117,108,116] then (
  some (0,false))
 else
 if cN=[109,111,118,101] then (
  some (0,true))
 else
 ((
  if cN=[100,97,121] then (
   some (decide (cN=[100,97,121])))
  else
  ((
   if cN=[104,111,117,115,101] then (
    some (decide (cN=[104,111,117,115,101])))
   else
   ((
    if cN=[97,100,111,112,116] then (
     some (decide (cN=[97,100,111,112,116])))
    else
    some (decide (cN=[111,114,100,101,114]))
   ):Option (Bool)).bind fun t0 =>
   some t0
  ):Option (Bool)).bind fun t1 =>
  some t1
 ):Option (Bool)).bind fun t2 =>
 if t2 then (
  some (1,false))
 else
 if cN=[115,97,121] then (
  some (1,true))
 else
 ((
  if cN=[114,101,109,111,118,101] then (
   some (decide (cN=[114,101,109,111,118,101])))
  else
  ((
   if cN=[99,105,116,101] then (
    some (decide (cN=[99,105,116,101])))
   else
   some (decide (cN=[112,97,105,114]))
  ):Option (Bool)).bind fun t3 =>
  some t3
 ):Option (Bool)).bind fun t4 =>
 if t4 then (
  some (2,false))
 else
 if cN=[99,104,97,110,103,101] then (
  some (2,true))
 else
 ((
  if cN=[98,105,110,100] then (
   some (decide (cN=[98,105,110,100])))
  else
  ((
   if cN=[104,105,100,101] then (
    some (decide (cN=[104,105,100,101])))
   else
   some (decide (cN=[116,101,108,108]))
  ):Option (Bool)).bind fun t5 =>
  some t5
 ):Option (Bool)).bind fun t6 =>
 if t6 then (
  some (3,false))
 else
 if cN=[97,100,100] then (
  some (3,true))
 else
 if cN=[100,105,118,105,100,101] then (
  some (4,false))
 else
 if cN=[112,97,112,101,114] then (
  some (4,true))
 else
 some ((-1),false)
def yC (t21:aF) (s1:Nat×Int):Option ((Nat×Int)⊕((Int)⊕(Int×Bool))) :=
 if (s1.1:Int) < (t21.length:Int) then (
  ((
   (t21[s1.1]?).bind fun x1 =>
   if (x1.toNat:Int) < 48 then (
    some true)
   else
   some (decide (57 < (x1.toNat:Int)))
  ):Option (Bool)).bind fun t0 =>
  if t0 then (
   some (.inr (.inr (0,false))))
  else
  bY (-9223372036854775808≤(10*s1.2)∧(10*s1.2)≤9223372036854775807) <|
  (t21[s1.1]?).bind fun x0 =>
  bY (-9223372036854775808≤((10*s1.2)+(((x0.toNat:Int) - 48)%256))∧((10*s1.2)+(((x0.toNat:Int) - 48)%256))≤9223372036854775807) <|
  bY (-9223372036854775808≤((s1.1:Int)+1)∧((s1.1:Int)+1)≤9223372036854775807) <|
  some (.inl ((s1.1+1),((10*s1.2)+(((x0.toNat:Int) - 48)%256)))))
 else
 some (.inr (.inl s1.2))
def KY (ai:aF):Option (Int×Bool) :=
 ((
  if 0 < (ai.length:Int) then (
   (ai[0]?).bind fun x0 =>
   some (decide ((x0.toNat:Int)=45)))
  else
  some false
 ):Option (Bool)).bind fun t7 =>
 ((
  if t7 then (
   bY (1≤ai.length) <|
   some (ai.drop 1))
  else
  some ai
 ):Option (aF)).bind fun t21 =>
 ((
  if (t21.length:Int)=0 then (
   some true)
  else
  if 9 < (t21.length:Int) then (
   some true)
  else
  (t21[0]?).bind fun x1 =>
  if (x1.toNat:Int)=48 then (
   if 1 < (t21.length:Int) then (
    some true)
   else
   some t7)
  else
  some false
 ):Option (Bool)).bind fun t44 =>
 if t44 then (
  some (0,false))
 else
 (bG (yC t21) (0,0)).bind fun eA1=>match eA1 with
 | .inr z=>some z
 | .inl t0 =>
 ((
  if t7 then (
   bY (-9223372036854775808≤(0 - t0)∧(0 - t0)≤9223372036854775807) <|
   some (0 - t0))
  else
  some t0
 ):Option (Int)).bind fun t1 =>
 some (t1,true)
def CO (r8:Int×Bool) (line:aF) (s1:Nat×Int×List Int):Option ((Nat×Int×List Int)⊕((Int×List Int)⊕(aF×List Int×aF×Bool))) :=
 if (s1.1:Int) < r8.1 then (
  if s1.2.1=(line.length:Int) then (
   some (.inr (.inr ([],([]:List Int),[],false))))
  else
  bY (-9223372036854775808≤(s1.2.1+1)∧(s1.2.1+1)≤9223372036854775807) <|
  (PU line (s1.2.1+1)).bind fun r0 =>
  bY (0≤(s1.2.1+1)) <|
  bY (0≤r0) <|
  bY ((s1.2.1+1).toNat≤r0.toNat∧r0.toNat≤line.length) <|
  (KY ((line.drop ((s1.2.1+1).toNat)).take (r0.toNat - ((s1.2.1+1).toNat)))).bind fun r1 =>
  if r1.2 then (
   bY (s1.2.2.length+1≤1073741824) <|
   bY (-9223372036854775808≤((s1.1:Int)+1)∧((s1.1:Int)+1)≤9223372036854775807) <|
   some (.inl ((s1.1+1),r0,(s1.2.2++[r1.1]))))
  else
  some (.inr (.inr ([],([]:List Int),[],false))))
 else
 some (.inr (.inl (s1.2.1,s1.2.2)))
def SN (line:aF):Option (aF×List Int×aF×Bool) :=
 (PU line 0).bind fun r1 =>
 bY (0≤r1) <|
 bY (r1.toNat≤line.length) <|
 (PV (line.take r1.toNat)).bind fun r8 =>
 if r8.1 < 0 then (
  some ([],([]:List Int),[],false))
 else
 (bG (CO r8 line) (0,r1,([]:List Int))).bind fun eA1=>match eA1 with
 | .inr z=>some z
 | .inl t0 =>
 if r8.2==decide (t0.1 < (line.length:Int)) then (
  if r8.2 then (
   bY (-9223372036854775808≤(t0.1+1)∧(t0.1+1)≤9223372036854775807) <|
   bY (0≤(t0.1+1)) <|
   bY ((t0.1+1).toNat≤line.length) <|
   some ((line.take r1.toNat),t0.2,(line.drop ((t0.1+1).toNat)),true))
  else
  some ((line.take r1.toNat),t0.2,[],true))
 else
 some ([],([]:List Int),[],false)
def NM (lines:List aF) (s1:Nat×Int×Int):Option ((Nat×Int×Int)⊕(Int×Int)) :=
 if (s1.1:Int) < (lines.length:Int) then (
  (lines[s1.1]?).bind fun x0 =>
  (SN x0).bind fun r0 =>
  ((
   if r0.2.2.2 then (
    some (decide (r0.1=[116,101,108,108])))
   else
   some false
  ):Option (Bool)).bind fun t0 =>
  ((
   if t0 then (
    some (IntKind.i64.wrap (s1.2.2+1)))
   else
   some s1.2.2
  ):Option (Int)).bind fun t1 =>
  some (.inl ((s1.1+1),(IntKind.i64.wrap (s1.2.1+(x0.length:Int))),t1)))
 else
 some (.inr (s1.2.1,s1.2.2))
def m6 (lines:List aF):Option (Bool) :=
 (bG (NM lines) (0,0,0)).bind fun e55 =>
 ((
  if e55.2≤8 then (
   if (lines.length:Int)≤40 then (
    if e55.1≤1500 then (
     some true)
    else
    if (lines.length:Int)≤62 then (
     if e55.1≤200 then (
      some true)
     else
     if (lines.length:Int)=1 then (
      some (decide (e55.1≤410)))
     else
     some false)
    else
    if (lines.length:Int)=1 then (
     some (decide (e55.1≤410)))
    else
    some false)
   else
   if (lines.length:Int)≤62 then (
    if e55.1≤200 then (
     some true)
    else
    if (lines.length:Int)=1 then (
     some (decide (e55.1≤410)))
    else
    some false)
   else
   if (lines.length:Int)=1 then (
    some (decide (e55.1≤410)))
   else
   some false)
  else
  some false
 ):Option (Bool)).bind fun t0 =>
 some t0
def NN (lines:List aF) (s1:Nat):Option ((Nat)⊕((Unit)⊕Bool)) :=
 if (s1:Int) < (lines.length:Int) then (
  (lines[s1]?).bind fun x0 =>
  if 400 < (x0.length:Int) then (
   some (.inr (.inr false)))
  else
  some (.inl (s1+1)))
 else
 some (.inr (.inl ()))
def m7 (lines:List aF):Option (Bool) :=
 (bG (NN lines) 0).bind fun e16=>match e16 with
 | .inr z=>some z
 | .inl t0 =>
 some (decide ((lines.length:Int)≤60))
def m17  : Option (List aF) :=
 some ([[104,111,117,115,101,32,53],[115,97,121,32,49,49,32,84,104,101,32,72,111,117,115,101,32,109,101,116,46],[109,111,118,101,32,116,104,105,115,32,72,111,117,115,101,32,110,111,116,101,115,32,116,104,101,32,114,101,112,111,114,116],[112,97,112,101,114,32,51,32,48,32,50,32,51,32,119,101,108,99,111,109,101,115],[97,100,111,112,116,32,51],[100,105,118,105,100,101,32,48,32,48,32,51,32,50],[116,101,108,108,32,49,32,48,32,48],[116,101,108,108,32,49,32,49,32,48],[116,101,108,108,32,49,32,48,32,49],[116,101,108,108,32,49,32,49,32,49],[116,101,108,108,32,50,32,48,32,52],[114,101,115,117,108,116],[116,101,108,108,32,50,32,49,32,52],[114,101,115,117,108,116],[111,114,100,101,114,32,49,50],[98,105,110,100,32,51,32,52,32,50,48],[104,105,100,101,32,49,49,32,50,32,49,57,57,48],[99,105,116,101,32,49,50,32,48]]:List aF)
def yD (ai:List aF) (cj:aF→Option Bool) (s1:Nat):Option ((Nat)⊕((Unit)⊕Int)) :=
 if (s1:Int) < (ai.length:Int) then (
  (ai[s1]?).bind fun x0 =>
  (cj x0).bind fun r0 =>
  if r0 then (
   some (.inr (.inr (s1:Int))))
  else
  some (.inl (s1+1)))
 else
 some (.inr (.inl ()))
def SO (ai:List aF) (cj:aF→Option Bool):Option (Int) :=
 (bG (yD ai cj) 0).bind fun e19=>match e19 with
 | .inr z=>some z
 | .inl t0 =>
 some (-1)
def NO (ai:List aF) (cj:aF→Option Bool):Option (Bool) :=
 (SO ai cj).bind fun r1 =>
 some (decide (0≤r1))
def KZ (ai:aF):Option (Bool) :=
 some (decide (400 < (ai.length:Int)))
def NP (lines:List aF):Option (Int) :=
 ((
  if 60 < (lines.length:Int) then (
   some true)
  else
  (NO lines (KZ)).bind fun r0 =>
  some r0
 ):Option (Bool)).bind fun t8 =>
 if t8 then (
  some 3)
 else
 some 0
def tI (ec:Int) (low:Int) (high:Int):Option (Bool) :=
 ((
  if low≤ec then (
   some (decide (ec≤high)))
  else
  some false
 ):Option (Bool)).bind fun t4 =>
 some t4
def jD (iq:Bool) (e:Int):Option (Unit⊕Unit) :=
 if iq then (
  some (.inl ()))
 else
 some (.inr ())
def CP (ac:aI) (bp:List Int) (cx:aF):Option (aI⊕Int) :=
 (bp[0]?).bind fun x3 =>
 (tI x3 ac.state.day 99999).bind fun r0 =>
 (jD r0 2).bind fun r1=>match r1 with
 | .inl y0=>(
  some (.inl (⟨({ac.state with day:=x3}:cY)⟩:aI)))
 | .inr _=>(
  some (.inr 2))
def CQ (ai:List dX):Option (List dX) :=
 bY (([]:List dX).length+ai.length≤1073741824) <|
 some (([]:List dX)++ai)
def IN (ai:List aH):Option (List aH) :=
 bY (([]:List aH).length+ai.length≤1073741824) <|
 some (([]:List aH)++ai)
def CR (bw:List aH) (cr:aH):Option (List aH) :=
 (IN bw).bind fun r4 =>
 bY (r4.length+([cr]:List aH).length≤1073741824) <|
 some (r4++([cr]:List aH))
def CS (ac:aI) (parts:List dX):Option (bU) :=
 some (⟨1,ac.state.day,1,10,parts⟩:bU)
def CT (ac:aI) (parts:List dX):Option (bU) :=
 some (⟨1,ac.state.day,1,10,parts⟩:bU)
def rJ (au:bU) (s1:Nat×List aH):Option ((Nat×List aH)⊕(List aH)) :=
 if (s1.1:Int) < (au.parts.length:Int) then (
  (au.parts[s1.1]?).bind fun x0 =>
  bY (s1.2.length+x0.paragraphs.length≤1073741824) <|
  some (.inl ((s1.1+1),(s1.2++x0.paragraphs))))
 else
 some (.inr s1.2)
def tJ (au:bU):Option (List aH) :=
 (bG (rJ au) (0,([]:List aH))).bind fun e82 =>
 some e82
def pB (ec:Int) (low:Int) (high:Int):Option (Bool) :=
 ((
  if low≤ec then (
   some (decide (ec≤high)))
  else
  some false
 ):Option (Bool)).bind fun t4 =>
 some t4
def pV (ec:Int):Option (Bool) :=
 (pB ec 0 99999).bind fun r1 =>
 some r1
def tK (ar:aH) (cc:aH→Option Bool):Option (Bool) :=
 (cc ar).bind fun r4 =>
 some (!r4)
def vJ (ai:List aH) (cj:aH→Option Bool) (s1:Nat):Option ((Nat)⊕((Unit)⊕Int)) :=
 if (s1:Int) < (ai.length:Int) then (
  (ai[s1]?).bind fun x0 =>
  (cj x0).bind fun r0 =>
  if r0 then (
   some (.inr (.inr (s1:Int))))
  else
  some (.inl (s1+1)))
 else
 some (.inr (.inl ()))
def IP (ai:List aH) (cj:aH→Option Bool):Option (Int) :=
 (bG (vJ ai cj) 0).bind fun e19=>match e19 with
 | .inr z=>some z
 | .inl t0 =>
 some (-1)
def IQ (ai:List aH) (cj:aH→Option Bool):Option (Bool) :=
 (IP ai cj).bind fun r1 =>
 some (decide (0≤r1))
def CU (bw:List aH) (right:aH→Option Bool):Option (Bool) :=
 (IQ bw (fun x0_=>tK x0_ right)).bind fun r5 =>
 some (!r5)
def vK (ec:Int):Option (Bool) :=
 (pB ec 1 999).bind fun r1 =>
 some r1
def tL (ar:Int) (cc:Int→Option Bool):Option (Bool) :=
 (cc ar).bind fun r1 =>
 some (!r1)
def rK (ai:List UInt8) (cj:Int→Option Bool) (s1:Nat):Option ((Nat)⊕((Unit)⊕Int)) :=
 if (s1:Int) < (ai.length:Int) then (
  (ai[s1]?).bind fun x0 =>
  (cj (x0.toNat:Int)).bind fun r0 =>
  if r0 then (
   some (.inr (.inr (s1:Int))))
  else
  some (.inl (s1+1)))
 else
 some (.inr (.inl ()))
def CV (ai:List UInt8) (cj:Int→Option Bool):Option (Int) :=
 (bG (rK ai cj) 0).bind fun e19=>match e19 with
 | .inr z=>some z
 | .inl t0 =>
 some (-1)
def PW (ai:List UInt8) (cj:Int→Option Bool):Option (Bool) :=
 (CV ai cj).bind fun r1 =>
 some (decide (0≤r1))
def CW (bw:List UInt8) (right:Int→Option Bool):Option (Bool) :=
 (PW bw (fun x0_=>tL x0_ right)).bind fun r5 =>
 some (!r5)
def vL (fx:Int):Option (Bool) :=
 ((
  if (32:Int)≤fx then (
   some (decide (fx≤126)))
  else
  some false
 ):Option (Bool)).bind fun t4 =>
 some t4
def vM (ai:aF):Option (Bool) :=
 ((
  (pB (ai.length:Int) 1 200).bind fun r0 =>
  if r0 then (
   bY (ai.length≤1073741824) <|
   (CW ai (vL)).bind fun r1 =>
   some r1)
  else
  some false
 ):Option (Bool)).bind fun t0 =>
 some t0
def tM (cz:aH):Option (Bool) :=
 ((
  (vK cz.anchor).bind fun r0 =>
  if r0 then (
   (vM cz.text).bind fun r1 =>
   some r1)
  else
  some false
 ):Option (Bool)).bind fun t0 =>
 some t0
def vN (au:bU) (s1:Nat):Option ((Nat)⊕((Unit)⊕Bool)) :=
 if (s1:Int) < (au.parts.length:Int) then (
  (au.parts[s1]?).bind fun x0 =>
  ((
   (pV x0.day).bind fun r0 =>
   if r0 then (
    if au.bound < x0.day then (
     some true)
    else
    if 0 < (s1:Int) then (
     (au.parts[((s1:Int) - 1).toNat]?).bind fun x1 =>
     some (decide (x0.day≤x1.day)))
    else
    some false)
   else
   some true
  ):Option (Bool)).bind fun t0 =>
  if t0 then (
   some (.inr (.inr false)))
  else
  some (.inl (s1+1)))
 else
 some (.inr (.inl ()))
def CX (au:bU):Option (Bool) :=
 (bG (vN au) 0).bind fun e55=>match e55 with
 | .inr z=>some z
 | .inl t58 =>
 ((
  (pB au.number 1 99).bind fun r0 =>
  if r0 then (
   (pV au.bound).bind fun r1 =>
   if r1 then (
    (pB au.height 1 60).bind fun r2 =>
    if r2 then (
     (pB au.width 10 80).bind fun r3 =>
     if r3 then (
      (tJ au).bind fun r4 =>
      (CU r4 (tM)).bind fun r5 =>
      some r5)
     else
     some false)
    else
    some false)
   else
   some false)
  else
  some false
 ):Option (Bool)).bind fun t0 =>
 some t0
def vO (r7:List aH) (s1:Nat×(List (Int×Bool))):Option ((Nat×(List (Int×Bool)))⊕(((List (Int×Bool)))⊕Int)) :=
 if (s1.1:Int) < (r7.length:Int) then (
  (r7[s1.1]?).bind fun x0 =>
  if (eE s1.2 x0.anchor).getD false then (
   some (.inr (.inr 6)))
  else
  some (.inl ((s1.1+1),(put s1.2 x0.anchor true))))
 else
 some (.inr (.inl s1.2))
def vP (au:bU):Option (Int) :=
 (tJ au).bind fun r7 =>
 ((
  if 6 < (au.parts.length:Int) then (
   some true)
  else
  some (decide (30 < (r7.length:Int)))
 ):Option (Bool)).bind fun t30 =>
 if t30 then (
  some 3)
 else
 (CX au).bind fun r0 =>
 if r0 then (
  (bG (vO r7) (0,([]:List (Int×Bool)))).bind fun e94=>match e94 with
  | .inr z=>some z
  | .inl t0 =>
  some 0)
 else
 some 1
def lH (e:Int):Option (Unit⊕Unit) :=
 (jD (decide (e=0)) e).bind fun r1=>match r1 with
 | .inl y4=>(
  some (.inl ()))
 | .inr _=>(
  some (.inr ()))
def zO (ac:aI) (bp:List Int) (text:aF):Option (aI⊕Int) :=
 (jD (!ac.state.bound) 8).bind fun r3=>match r3 with
 | .inl y6=>(
  (bp[0]?).bind fun x8 =>
  (CQ ac.state.volume.parts).bind fun r0 =>
  ((
   if 0≤((r0.length:Int) - 1) then (
    (r0[((r0.length:Int) - 1).toNat]?).bind fun x1 =>
    some (decide (x1.day=ac.state.day)))
   else
   some false
  ):Option (Bool)).bind fun t45 =>
  ((
   if t45 then (
    bY (0≤((r0.length:Int) - 1)) <|
    (r0[((r0.length:Int) - 1).toNat]?).bind fun x0 =>
    (CR x0.paragraphs (⟨x8,text⟩:aH)).bind fun r2 =>
    some (r0.set (((r0.length:Int) - 1).toNat) (⟨x0.day,r2⟩:dX)))
   else
   bY (r0.length+([(⟨ac.state.day,([(⟨x8,text⟩:aH)]:List aH)⟩:dX)]:List dX).length≤1073741824) <|
   some (r0++([(⟨ac.state.day,([(⟨x8,text⟩:aH)]:List aH)⟩:dX)]:List dX))
  ):Option (List dX)).bind fun t142 =>
  (CS ac t142).bind fun r4 =>
  (vP r4).bind fun r1 =>
  (lH r1).bind fun r5=>match r5 with
  | .inl y0=>(
   some (.inl (⟨({ac.state with volume:=({ac.state.volume with parts:=t142}:bU)}:cY)⟩:aI)))
  | .inr _=>(
   some (.inr r1)))
 | .inr _=>(
  some (.inr 8))
def CY (ac:aI) (bp:List Int) (cx:aF):Option (aI⊕Int) :=
 (jD (!ac.state.bound) 8).bind fun r3=>match r3 with
 | .inl y6=>(
  (bp[0]?).bind fun x8 =>
  (bp[1]?).bind fun x0 =>
  (bp[2]?).bind fun x1 =>
  (vP (⟨x8,ac.state.day,x0,x1,ac.state.volume.parts⟩:bU)).bind fun r0 =>
  (lH r0).bind fun r1=>match r1 with
  | .inl y0=>(
   some (.inl (⟨({ac.state with volume:=(⟨x8,ac.state.day,x0,x1,ac.state.volume.parts⟩:bU),bound:=true}:cY)⟩:aI)))
  | .inr _=>(
   some (.inr r0)))
 | .inr _=>(
  some (.inr 8))
def rL (ai:List aO):Option (List aO) :=
 bY (([]:List aO).length+ai.length≤1073741824) <|
 some (([]:List aO)++ai)
def CZ (bw:List aO) (cr:aO):Option (List aO) :=
 (rL bw).bind fun r4 =>
 bY (r4.length+([cr]:List aO).length≤1073741824) <|
 some (r4++([cr]:List aO))
def tN (ar:aO) (cc:aO→Option Bool):Option (Bool) :=
 (cc ar).bind fun r4 =>
 some (!r4)
def vQ (ai:List aO) (cj:aO→Option Bool) (s1:Nat):Option ((Nat)⊕((Unit)⊕Int)) :=
 if (s1:Int) < (ai.length:Int) then (
  (ai[s1]?).bind fun x0 =>
  (cj x0).bind fun r0 =>
  if r0 then (
   some (.inr (.inr (s1:Int))))
  else
  some (.inl (s1+1)))
 else
 some (.inr (.inl ()))
def IR (ai:List aO) (cj:aO→Option Bool):Option (Int) :=
 (bG (vQ ai cj) 0).bind fun e19=>match e19 with
 | .inr z=>some z
 | .inl t0 =>
 some (-1)
def IS (ai:List aO) (cj:aO→Option Bool):Option (Bool) :=
 (IR ai cj).bind fun r1 =>
 some (decide (0≤r1))
def DA (bw:List aO) (right:aO→Option Bool):Option (Bool) :=
 (IS bw (fun x0_=>tN x0_ right)).bind fun r5 =>
 some (!r5)
def tO (ar:aO):Option (Bool) :=
 ((
  (pB ar.number 1 999).bind fun r22 =>
  if r22 then (
   (pV ar.day).bind fun r0 =>
   if r0 then (
    (vK ar.anchor).bind fun r1 =>
    some (!r1))
   else
   some true)
  else
  some true
 ):Option (Bool)).bind fun t0 =>
 if t0 then (
  some false)
 else
 if ar.kind=0 then (
  ((
   (vM ar.text).bind fun r2 =>
   if r2 then (
    some (decide (ar.new_=0)))
   else
   some false
  ):Option (Bool)).bind fun t1 =>
  some t1)
 else
 if ar.kind=1 then (
  ((
   if ar.text=[] then (
    some (decide (ar.new_=0)))
   else
   some false
  ):Option (Bool)).bind fun t2 =>
  some t2)
 else
 if ar.kind=2 then (
  ((
   (vM ar.text).bind fun r3 =>
   if r3 then (
    (vK ar.new_).bind fun r4 =>
    some r4)
   else
   some false
  ):Option (Bool)).bind fun t3 =>
  some t3)
 else
 some false
def tP (ar:Int):Option (Bool) :=
 some (decide (ar≠ar))
def zP (ar:Int) (fg:Int):Option (Int) :=
 (tP ar).bind fun r1 =>
 (tP fg).bind fun r4 =>
 if r1 then (
  if r4 then (
   some 0)
  else
  some (-1))
 else
 if r4 then (
  some 1)
 else
 if ar < fg then (
  some (-1))
 else
 if fg < ar then (
  some 1)
 else
 some 0
def pC (vals:List Int) (s1:Nat):Option ((Nat)⊕((Unit)⊕Int)) :=
 if (s1:Int) < (vals.length:Int) then (
  (vals[s1]?).bind fun x0 =>
  if x0≠0 then (
   some (.inr (.inr x0)))
  else
  some (.inl (s1+1)))
 else
 some (.inr (.inl ()))
def DB (vals:List Int):Option (Int) :=
 (bG (pC vals) 0).bind fun e16=>match e16 with
 | .inr z=>some z
 | .inl t0 =>
 some 0
def rM (dh:aO) (dl:aO):Option (Int) :=
 (zP dh.day dl.day).bind fun r7 =>
 (zP dh.number dl.number).bind fun r11 =>
 (DB ([r7,r11]:List Int)).bind fun r0 =>
 some r0
def DD (r1:List aO) (l6:List aO) (ew:Int) (yield:aO→Option Bool) (s1:Nat):Option ((Nat)⊕((Unit)⊕Unit)) :=
 if (s1:Int) < (r1.length:Int) then (
  (l6[s1]?).bind fun x0 =>
  ((
   if ew < x0.day then (
    some true)
   else
   (yield x0).bind fun r0 =>
   some (!r0)
  ):Option (Bool)).bind fun t0 =>
  if t0 then (
   some (.inr (.inr ())))
  else
  some (.inl (s1+1)))
 else
 some (.inr (.inl ()))
def SP (yield:aO→Option Bool) (cc:List aO) (ew:Int):Option (Unit) :=
 (rL cc).bind fun r1 =>
 (iO (rM) r1).bind fun l6 =>
 (bG (DD r1 l6 ew yield) 0).bind fun e31=>match e31 with
 | .inr z=>some z
 | .inl t34 =>
 some ()
def vT (r10:List aH) (s1:Nat×(List (Int×Bool))):Option ((Nat×(List (Int×Bool)))⊕((List (Int×Bool)))) :=
 if (s1.1:Int) < (r10.length:Int) then (
  (r10[s1.1]?).bind fun x0 =>
  some (.inl ((s1.1+1),(put s1.2 x0.anchor true))))
 else
 some (.inr s1.2)
def vU (r0:List aO) (l0:List aO) (s1:Nat×(List (Int×Bool))):Option ((Nat×(List (Int×Bool)))⊕(((List (Int×Bool)))⊕(((List (Int×Bool)))⊕(Nat×(List (Int×Bool)))))) :=
 if (s1.1:Int) < (r0.length:Int) then (
  (l0[s1.1]?).bind fun x0 =>
  if 99999 < x0.day then (
   some (.inr (.inr (.inl s1.2))))
  else
  ((
   if (eE s1.2 x0.anchor).getD false then (
    ((
     if x0.kind=2 then (
      some (put s1.2 x0.new_ true))
     else
     some s1.2
    ):Option ((List (Int×Bool)))).bind fun t0 =>
    some (.inr t0))
   else
   some (.inl 7)
  ):Option ((Nat)⊕((List (Int×Bool))))).bind fun t1=>match t1 with
  | .inl t2=>(
   some (.inr (.inr (.inr (t2,s1.2)))))
  | .inr t3=>(
   some (.inl ((s1.1+1),t3))))
 else
 some (.inr (.inl s1.2))
def DE (au:bU) (errata:List aO):Option (Int) :=
 (tJ au).bind fun r10 =>
 (bG (vT r10) (0,([]:List (Int×Bool)))).bind fun e47 =>
 ((
  (rL errata).bind fun r0 =>
  (iO (rM) r0).bind fun l0 =>
  (bG (vU r0 l0) (0,e47)).bind fun eA1=>match eA1 with
  | .inr z=>some z
  | .inl t0 =>
  some (.inl t0)
 ):Option (((List (Int×Bool)))⊕(Nat×(List (Int×Bool))))).bind fun t1=>match t1 with
 | .inl t3=>(
  some 0)
 | .inr t2=>(
  some (t2.1:Int))
def vV (r0:List aH) (s1:Nat×(List (Int×Bool))):Option ((Nat×(List (Int×Bool)))⊕((List (Int×Bool)))) :=
 if (s1.1:Int) < (r0.length:Int) then (
  (r0[s1.1]?).bind fun x0 =>
  some (.inl ((s1.1+1),(put s1.2 x0.anchor true))))
 else
 some (.inr s1.2)
def vW (errata:List aO) (s1:Nat×(List (Int×Bool))×(List (Int×Bool))):Option ((Nat×(List (Int×Bool))×(List (Int×Bool)))⊕(((List (Int×Bool))×(List (Int×Bool)))⊕Int)) :=
 if (s1.1:Int) < (errata.length:Int) then (
  (errata[s1.1]?).bind fun x0 =>
  ((
   if (eE s1.2.1 x0.number).getD false then (
    some true)
   else
   if x0.kind=2 then (
    some ((eE s1.2.2 x0.new_).getD false))
   else
   some false
  ):Option (Bool)).bind fun t0 =>
  if t0 then (
   some (.inr (.inr 6)))
  else
  ((
   if x0.kind=2 then (
    some (put s1.2.2 x0.new_ true))
   else
   some s1.2.2
  ):Option ((List (Int×Bool)))).bind fun t1 =>
  some (.inl ((s1.1+1),(put s1.2.1 x0.number true),t1)))
 else
 some (.inr (.inl (s1.2.1,s1.2.2)))
def vX (au:bU) (errata:List aO):Option (Int) :=
 (vP au).bind fun r7 =>
 if r7≠0 then (
  some r7)
 else
 if 20 < (errata.length:Int) then (
  some 3)
 else
 (DA errata (tO)).bind fun r0 =>
 if r0 then (
  (tJ au).bind fun r1 =>
  (bG (vV r1) (0,([]:List (Int×Bool)))).bind fun e88 =>
  (bG (vW errata) (0,([]:List (Int×Bool)),e88)).bind fun eA1=>match eA1 with
  | .inr z=>some z
  | .inl t0 =>
  (DE au errata).bind fun r2 =>
  some r2)
 else
 some 1
def DG (x0:List cL) (anchor:Int) (s2:Nat×Nat×Nat×Bool) (s1:Nat×Nat×Nat×Bool):Option ((Nat×Nat×Nat×Bool)⊕((Nat×Nat×Bool)⊕((Nat×Nat×Nat×Bool)⊕(Nat×Nat×Bool)))) :=
 if (s1.2.2.1:Int) < (x0.length:Int) then (
  (x0[s1.2.2.1]?).bind fun x1 =>
  if x1.paragraph.anchor=anchor then (
   Option.map (fun z=>.inr (.inr z)) (
   some (.inr (s2.2.2.1,s1.2.2.1,true))))
  else
  some (.inl (s1.1,s1.2.1,(s1.2.2.1+1),s1.2.2.2)))
 else
 some (.inr (.inl (s1.1,s1.2.1,s1.2.2.2)))
def DH (ac:gX) (anchor:Int) (s1:Nat×Nat×Nat×Bool):Option ((Nat×Nat×Nat×Bool)⊕(Nat×Nat×Bool)) :=
 if (s1.2.2.1:Int) < (ac.parts.length:Int) then (
  (ac.parts[s1.2.2.1]?).bind fun x0 =>
  (bG (DG x0 anchor s1) (s1.1,s1.2.1,0,s1.2.2.2)).bind fun eA1=>match eA1 with
  | .inr z=>some z
  | .inl t0 =>
  some (.inl (t0.1,t0.2.1,(s1.2.2.1+1),t0.2.2)))
 else
 some (.inr (s1.1,s1.2.1,s1.2.2.2))
def SQ (ac:gX) (anchor:Int):Option (Int×Int×Bool) :=
 (bG (DH ac anchor) (0,0,0,false)).bind fun e40 =>
 some ((e40.1:Int),(e40.2.1:Int),e40.2.2)
def IT  : Option (Unit) :=
 some ()
def vY (x0:dX) (s1:Nat×List cL):Option ((Nat×List cL)⊕(List cL)) :=
 if (s1.1:Int) < (x0.paragraphs.length:Int) then (
  (x0.paragraphs[s1.1]?).bind fun x1 =>
  bY (s1.2.length+1≤1073741824) <|
  some (.inl ((s1.1+1),(s1.2++[(⟨x1,false⟩:cL)]))))
 else
 some (.inr s1.2)
def vZ (au:bU) (s1:Nat×List (List cL)):Option ((Nat×List (List cL))⊕(List (List cL))) :=
 if (s1.1:Int) < (au.parts.length:Int) then (
  (au.parts[s1.1]?).bind fun x0 =>
  (bG (vY x0) (0,([]:List cL))).bind fun eA1 =>
  bY (s1.2.length+1≤1073741824) <|
  some (.inl ((s1.1+1),(s1.2++[eA1]))))
 else
 some (.inr s1.2)
def wA (x0:List cL) (x1:aO) (s2:Nat×Nat×Nat×Bool) (s1:Nat×Nat×Nat×Bool):Option ((Nat×Nat×Nat×Bool)⊕((Nat×Nat×Bool)⊕((Nat×Nat×Nat×Bool)⊕(Nat×Nat×Bool)))) :=
 if (s1.2.2.1:Int) < (x0.length:Int) then (
  (x0[s1.2.2.1]?).bind fun x2 =>
  if x2.paragraph.anchor=x1.anchor then (
   Option.map (fun z=>.inr (.inr z)) (
   some (.inr (s2.2.2.1,s1.2.2.1,true))))
  else
  bY (-9223372036854775808≤((s1.2.2.1:Int)+1)∧((s1.2.2.1:Int)+1)≤9223372036854775807) <|
  some (.inl (s1.1,s1.2.1,(s1.2.2.1+1),s1.2.2.2)))
 else
 some (.inr (.inl (s1.1,s1.2.1,s1.2.2.2)))
def rN (s2:Nat×List (List cL)) (x0:aO) (s1:Nat×Nat×Nat×Bool):Option ((Nat×Nat×Nat×Bool)⊕(Nat×Nat×Bool)) :=
 if (s1.2.2.1:Int) < (s2.2.length:Int) then (
  (s2.2[s1.2.2.1]?).bind fun x1 =>
  (bG (wA x1 x0 s1) (s1.1,s1.2.1,0,s1.2.2.2)).bind fun eA1=>match eA1 with
  | .inr z=>some z
  | .inl t0 =>
  bY (-9223372036854775808≤((s1.2.2.1:Int)+1)∧((s1.2.2.1:Int)+1)≤9223372036854775807) <|
  some (.inl (t0.1,t0.2.1,(s1.2.2.1+1),t0.2.2)))
 else
 some (.inr (s1.1,s1.2.1,s1.2.2.2))
def wB (r0:List aO) (l0:List aO) (eh:Int) (s1:Nat×List (List cL)):Option ((Nat×List (List cL))⊕((List (List cL))⊕(List (List cL)))) :=
 if (s1.1:Int) < (r0.length:Int) then (
  (l0[s1.1]?).bind fun x0 =>
  ((
   if eh < x0.day then (
    some (true,s1.2))
   else
   ((
    ((
     (bG (rN s1 x0) (0,0,0,false)).bind fun eA1 =>
     some (eA1.2.1,eA1.1,eA1.2.2)
    ):Option (Nat×Nat×Bool)).bind fun t0 =>
    ((
     if t0.2.2 then (
      (IT).bind fun r1 =>
      bY (0≤x0.kind) <|
      if x0.kind=0 then (
       ((
        (s1.2[t0.2.1]?).bind fun x3 =>
        (x3[t0.1]?).bind fun x2 =>
        ((
         if x2.removed then (
          some s1.2)
         else
         some (s1.2.set t0.2.1 (x3.set t0.1 (⟨(⟨x2.paragraph.anchor,x0.text⟩:aH),x2.removed⟩:cL)))
        ):Option (List (List cL))).bind fun t2 =>
        some t2
       ):Option (List (List cL))).bind fun t3 =>
       some t3)
      else
      if x0.kind=1 then (
       ((
        (s1.2[t0.2.1]?).bind fun x4 =>
        (x4[t0.1]?).bind fun x5 =>
        some (s1.2.set t0.2.1 (x4.set t0.1 (⟨x5.paragraph,true⟩:cL)))
       ):Option (List (List cL))).bind fun t4 =>
       some t4)
      else
      if x0.kind=2 then (
       ((
        (s1.2[t0.2.1]?).bind fun x1 =>
        bY (-9223372036854775808≤((t0.1:Int)+1)∧((t0.1:Int)+1)≤9223372036854775807) <|
        bY (x1.length+1≤1073741824) <|
        bY (((t0.1:Int)+1).toNat≤x1.length) <|
        some (s1.2.set t0.2.1 (x1.take (((t0.1:Int)+1).toNat)++[(⟨(⟨x0.new_,x0.text⟩:aH),false⟩:cL)]++x1.drop (((t0.1:Int)+1).toNat)))
       ):Option (List (List cL))).bind fun t5 =>
       some t5)
      else
      none)
     else
     some s1.2
    ):Option (List (List cL))).bind fun t6 =>
    some t6
   ):Option (List (List cL))).bind fun t7 =>
   some (false,t7)
  ):Option (Bool×List (List cL))).bind fun t1 =>
  if t1.1 then (
   some (.inr (.inr t1.2)))
  else
  some (.inl ((s1.1+1),t1.2)))
 else
 some (.inr (.inl s1.2))
def wC (au:bU) (errata:List aO) (eh:Int):Option (gX) :=
 (bG (vZ au) (0,([]:List (List cL)))).bind fun eA1 =>
 ((
  (rL errata).bind fun r0 =>
  (iO (rM) r0).bind fun l0 =>
  (bG (wB r0 l0 eh) (0,eA1)).bind fun eB1=>match eB1 with
  | .inr z=>some z
  | .inl t0 =>
  some t0
 ):Option (List (List cL))).bind fun t1 =>
 some (⟨au,t1⟩:gX)
def wD (x0:List cL) (s1:Nat×List aH):Option ((Nat×List aH)⊕(List aH)) :=
 if (s1.1:Int) < (x0.length:Int) then (
  (x0[s1.1]?).bind fun x1 =>
  ((
   if x1.removed then (
    some s1.2)
   else
   bY (s1.2.length+1≤1073741824) <|
   some (s1.2++[x1.paragraph])
  ):Option (List aH)).bind fun t0 =>
  some (.inl ((s1.1+1),t0)))
 else
 some (.inr s1.2)
def wE (r0:gX) (s1:Nat×List aH):Option ((Nat×List aH)⊕(List aH)) :=
 if (s1.1:Int) < (r0.parts.length:Int) then (
  (r0.parts[s1.1]?).bind fun x0 =>
  (bG (wD x0) (0,s1.2)).bind fun eA1 =>
  some (.inl ((s1.1+1),eA1)))
 else
 some (.inr s1.2)
def DI (au:bU) (errata:List aO) (eh:Int):Option (List aH×Int) :=
 (vX au errata).bind fun r7 =>
 if r7≠0 then (
  some (([]:List aH),r7))
 else
 (pV eh).bind fun r0 =>
 if r0 then (
  (wC au errata eh).bind fun r1 =>
  (bG (wE r1) (0,([]:List aH))).bind fun eA1 =>
  some (eA1,0))
 else
 some (([]:List aH),2)
def wF (ac:aI) (cr:aO):Option (aI⊕Int) :=
 ((
  if ac.state.bound then (
   (jD (decide (ac.state.volume.bound < ac.state.day)) 8).bind fun r2=>match r2 with
   | .inl y0=>(
    some (.inl ()))
   | .inr _=>(
    some (.inr (.inr 8))))
  else
  (jD false 8).bind fun r3=>match r3 with
  | .inl y1=>(
   some (.inl ()))
  | .inr _=>(
   some (.inr (.inr 8)))
 ):Option ((Unit)⊕(aI⊕Int))).bind fun t0=>match t0 with
 | .inr z=>some z
 | .inl t1 =>
 (CZ ac.state.errata ({cr with day:=ac.state.day}:aO)).bind fun r0 =>
 (DI ac.state.volume r0 ac.state.day).bind fun r1 =>
 (lH r1.2).bind fun r4=>match r4 with
 | .inl y2=>(
  some (.inl (⟨({ac.state with errata:=r0}:cY)⟩:aI)))
 | .inr _=>(
  some (.inr r1.2))
def DJ (ac:aI) (bp:List Int) (text:aF):Option (aI⊕Int) :=
 (bp[0]?).bind fun x3 =>
 (bp[1]?).bind fun x0 =>
 (wF ac (⟨x3,0,0,x0,text,0⟩:aO)).bind fun r0=>match r0 with
 | .inl y0=>(
  some (.inl y0))
 | .inr y0=>(
  some (.inr y0))
def DK (ac:aI) (bp:List Int) (cx:aF):Option (aI⊕Int) :=
 (bp[0]?).bind fun x3 =>
 (bp[1]?).bind fun x0 =>
 (wF ac (⟨x3,0,1,x0,[],0⟩:aO)).bind fun r0=>match r0 with
 | .inl y0=>(
  some (.inl y0))
 | .inr y0=>(
  some (.inr y0))
def DL (ac:aI) (bp:List Int) (text:aF):Option (aI⊕Int) :=
 (bp[0]?).bind fun x3 =>
 (bp[1]?).bind fun x0 =>
 (bp[2]?).bind fun x1 =>
 (wF ac (⟨x3,0,2,x0,text,x1⟩:aO)).bind fun r0=>match r0 with
 | .inl y0=>(
  some (.inl y0))
 | .inr y0=>(
  some (.inr y0))
def wG (x0:List cL) (anchor:Int) (s2:Nat×Nat×Nat×Bool) (s1:Nat×Nat×Nat×Bool):Option ((Nat×Nat×Nat×Bool)⊕((Nat×Nat×Bool)⊕((Nat×Nat×Nat×Bool)⊕(Nat×Nat×Bool)))) :=
 if (s1.2.2.1:Int) < (x0.length:Int) then (
  (x0[s1.2.2.1]?).bind fun x1 =>
  if x1.paragraph.anchor=anchor then (
   Option.map (fun z=>.inr (.inr z)) (
   some (.inr (s2.2.2.1,s1.2.2.1,true))))
  else
  some (.inl (s1.1,s1.2.1,(s1.2.2.1+1),s1.2.2.2)))
 else
 some (.inr (.inl (s1.1,s1.2.1,s1.2.2.2)))
def rO (r0:gX) (anchor:Int) (s1:Nat×Nat×Nat×Bool):Option ((Nat×Nat×Nat×Bool)⊕(Nat×Nat×Bool)) :=
 if (s1.2.2.1:Int) < (r0.parts.length:Int) then (
  (r0.parts[s1.2.2.1]?).bind fun x0 =>
  (bG (wG x0 anchor s1) (s1.1,s1.2.1,0,s1.2.2.2)).bind fun eA1=>match eA1 with
  | .inr z=>some z
  | .inl t0 =>
  some (.inl (t0.1,t0.2.1,(s1.2.2.1+1),t0.2.2)))
 else
 some (.inr (s1.1,s1.2.1,s1.2.2.2))
def zQ (au:bU) (errata:List aO) (anchor:Int) (fo:Int):Option (aF×Bool×Int) :=
 (vX au errata).bind fun r7 =>
 if r7≠0 then (
  some ([],false,r7))
 else
 (pV fo).bind fun r1 =>
 if r1 then (
  (wC au errata fo).bind fun r0 =>
  ((
   (bG (rO r0 anchor) (0,0,0,false)).bind fun eA1 =>
   some (eA1.2.1,eA1.1,eA1.2.2)
  ):Option (Nat×Nat×Bool)).bind fun t0 =>
  if t0.2.2 then (
   (r0.parts[t0.2.1]?).bind fun x1 =>
   (x1[t0.1]?).bind fun x0 =>
   some (x0.paragraph.text,x0.removed,0))
  else
  some ([],false,7))
 else
 some ([],false,2)
def wH (x1:List cL) (au:bU) (s2:Nat×Int×List cV) (s1:Nat×Nat×Int×List cV):Option ((Nat×Nat×Int×List cV)⊕(Int×List cV)) :=
 if (s1.2.1:Int) < (x1.length:Int) then (
  ((
   (x1[s1.2.1]?).bind fun x0 =>
   if x0.removed then (
    some (s1.1,s1.2.2.1,s1.2.2.2))
   else
   bY (-9223372036854775808≤((s1.1:Int)+1)∧((s1.1:Int)+1)≤9223372036854775807) <|
   bY (-9223372036854775808≤((x0.paragraph.text.length:Int)+au.width)∧((x0.paragraph.text.length:Int)+au.width)≤9223372036854775807) <|
   bY (-9223372036854775808≤(((x0.paragraph.text.length:Int)+au.width) - 1)∧(((x0.paragraph.text.length:Int)+au.width) - 1)≤9223372036854775807) <|
   bY (0≤(((x0.paragraph.text.length:Int)+au.width) - 1)∧(((x0.paragraph.text.length:Int)+au.width) - 1)≤9223372036854775807∧0 < au.width) <|
   bY (0≤s1.2.2.1∧s1.2.2.1≤9223372036854775807∧0 < au.height) <|
   bY (-9223372036854775808≤(s2.2.1+(s1.2.2.1/au.height))∧(s2.2.1+(s1.2.2.1/au.height))≤9223372036854775807) <|
   bY (0≤s1.2.2.1∧0 < au.height) <|
   bY (-9223372036854775808≤((s1.2.2.1%au.height)+1)∧((s1.2.2.1%au.height)+1)≤9223372036854775807) <|
   (au.parts[s2.1]?).bind fun x2 =>
   bY (s1.2.2.2.length+([(⟨(⟨x0.paragraph.anchor,(s2.2.1+(s1.2.2.1/au.height)),((s1.2.2.1%au.height)+1),((((x0.paragraph.text.length:Int)+au.width) - 1)/au.width)⟩:pA),x2.day,((s1.1:Int)+1)⟩:cV)]:List cV).length≤1073741824) <|
   bY (-9223372036854775808≤(s1.2.2.1+((((x0.paragraph.text.length:Int)+au.width) - 1)/au.width))∧(s1.2.2.1+((((x0.paragraph.text.length:Int)+au.width) - 1)/au.width))≤9223372036854775807) <|
   some ((s1.1+1),(s1.2.2.1+((((x0.paragraph.text.length:Int)+au.width) - 1)/au.width)),(s1.2.2.2++([(⟨(⟨x0.paragraph.anchor,(s2.2.1+(s1.2.2.1/au.height)),((s1.2.2.1%au.height)+1),((((x0.paragraph.text.length:Int)+au.width) - 1)/au.width)⟩:pA),x2.day,((s1.1:Int)+1)⟩:cV)]:List cV)))
  ):Option (Nat×Int×List cV)).bind fun t0 =>
  some (.inl (t0.1,(s1.2.1+1),t0.2.1,t0.2.2)))
 else
 some (.inr (s1.2.2.1,s1.2.2.2))
def wI (r7:gX) (au:bU) (s1:Nat×Int×List cV):Option ((Nat×Int×List cV)⊕(List cV)) :=
 if (s1.1:Int) < (r7.parts.length:Int) then (
  (r7.parts[s1.1]?).bind fun x0 =>
  (bG (wH x0 au s1) (0,0,0,s1.2.2)).bind fun eA1 =>
  bY (-9223372036854775808≤(eA1.1+au.height)∧(eA1.1+au.height)≤9223372036854775807) <|
  bY (-9223372036854775808≤((eA1.1+au.height) - 1)∧((eA1.1+au.height) - 1)≤9223372036854775807) <|
  bY (0≤((eA1.1+au.height) - 1)∧((eA1.1+au.height) - 1)≤9223372036854775807∧0 < au.height) <|
  bY (-9223372036854775808≤(s1.2.1+(((eA1.1+au.height) - 1)/au.height))∧(s1.2.1+(((eA1.1+au.height) - 1)/au.height))≤9223372036854775807) <|
  some (.inl ((s1.1+1),(s1.2.1+(((eA1.1+au.height) - 1)/au.height)),eA1.2)))
 else
 some (.inr s1.2.2)
def DM (au:bU) (errata:List aO):Option (List cV) :=
 (wC au errata au.bound).bind fun r7 =>
 (bG (wI r7 au) (0,1,([]:List cV))).bind fun eA1 =>
 some eA1
def wJ (r0:List cV) (anchor:Int) (style:Int) (au:bU) (s1:Nat):Option ((Nat)⊕((Unit)⊕(aF×Int))) :=
 if (s1:Int) < (r0.length:Int) then (
  (r0[s1]?).bind fun x0 =>
  if x0.place.anchor≠anchor then (
   some (.inl (s1+1)))
  else
  if style=0 then (
   (vG ([(.s [118,111,108,46,32]:Any),(.i au.number:Any),(.s [44,32,99,111,108,46,32]:Any),(.i x0.place.column:Any),(.s [44,32,108,46,32]:Any),(.i x0.place.line:Any)]:List Any)).bind fun r1 =>
   some (.inr (.inr (r1,0))))
  else
  (vG ([(.s [118,111,108,46,32]:Any),(.i au.number:Any),(.s [44,32]:Any),(.i x0.day:Any),(.s [44,32,112,97,114,46,32]:Any),(.i x0.number:Any)]:List Any)).bind fun r2 =>
  some (.inr (.inr (r2,0))))
 else
 some (.inr (.inl ()))
def DN (au:bU) (errata:List aO) (anchor:Int) (style:Int) (fc:Int):Option (aF×Int) :=
 (vX au errata).bind fun r7 =>
 if r7≠0 then (
  some ([],r7))
 else
 ((
  if 2 < style then (
   some true)
  else
  if style=2 then (
   (pV fc).bind fun r1 =>
   some (!r1))
  else
  some false
 ):Option (Bool)).bind fun t25 =>
 if t25 then (
  some ([],2))
 else
 if style=2 then (
  (zQ au errata anchor fc).bind fun r0 =>
  if r0.2.2≠0 then (
   some ([],r0.2.2))
  else
  (vG ([(.i anchor:Any),(.s [64]:Any),(.i fc:Any)]:List Any)).bind fun r2 =>
  some (r2,0))
 else
 (DM au errata).bind fun r3 =>
 (bG (wJ r3 anchor style au) 0).bind fun eA1=>match eA1 with
 | .inr z=>some z
 | .inl t0 =>
 some ([],7)
def NQ (ai:List aF):Option (List aF) :=
 bY (([]:List aF).length+ai.length≤1073741824) <|
 some (([]:List aF)++ai)
def DO (bw:List aF) (cr:aF):Option (List aF) :=
 (NQ bw).bind fun r1 =>
 bY (r1.length+1≤1073741824) <|
 some (r1++[cr])
def DP (ac:aI) (bp:List Int) (cx:aF):Option (aI⊕Int) :=
 (jD ac.state.bound 8).bind fun r3=>match r3 with
 | .inl y6=>(
  (bp[1]?).bind fun x8 =>
  (tI x8 0 255).bind fun r1 =>
  (jD r1 2).bind fun r2=>match r2 with
  | .inl y0=>(
   (bp[0]?).bind fun x0 =>
   bY (0≤x8∧x8≤255) <|
   (DN ac.state.volume ac.state.errata x0 x8 ac.state.day).bind fun r0 =>
   (lH r0.2).bind fun r4=>match r4 with
   | .inl y1=>(
    (DO ac.state.cites r0.1).bind fun r5 =>
    some (.inl (⟨({ac.state with cites:=r5}:cY)⟩:aI)))
   | .inr _=>(
    some (.inr r0.2)))
  | .inr _=>(
   some (.inr 2)))
 | .inr _=>(
  some (.inr 8))
def DQ (ac:aI):Option (bU) :=
 if ac.state.bound then (
  some ac.state.volume)
 else
 (CS ac ac.state.volume.parts).bind fun r0 =>
 some r0
def LA (ac:aI):Option (bU) :=
 if ac.state.bound then (
  some ac.state.volume)
 else
 (CT ac ac.state.volume.parts).bind fun r10 =>
 some r10
def IU (ai:List gO):Option (List gO) :=
 bY (([]:List gO).length+ai.length≤1073741824) <|
 some (([]:List gO)++ai)
def DR (bw:List gO) (cr:gO):Option (List gO) :=
 (IU bw).bind fun r4 =>
 bY (r4.length+([cr]:List gO).length≤1073741824) <|
 some (r4++([cr]:List gO))
def DS (ac:aI) (bp:List Int) (cx:aF):Option (aI⊕Int) :=
 ((
  (bp[1]?).bind fun x1 =>
  (tI x1 0 7).bind fun r1 =>
  if r1 then (
   (bp[2]?).bind fun x2 =>
   (tI x2 0 9999).bind fun r2 =>
   (jD r2 1).bind fun r3=>match r3 with
   | .inl y0=>(
    some (.inl ()))
   | .inr _=>(
    some (.inr (.inr 1))))
  else
  (jD false 1).bind fun r4=>match r4 with
  | .inl y1=>(
   some (.inl ()))
  | .inr _=>(
   some (.inr (.inr 1)))
 ):Option ((Unit)⊕(aI⊕Int))).bind fun t37=>match t37 with
 | .inr z=>some z
 | .inl t40 =>
 (jD (decide ((ac.state.hides.length:Int) < 12)) 3).bind fun r5=>match r5 with
 | .inl y2=>(
  (DQ ac).bind fun r8 =>
  (bp[0]?).bind fun x0 =>
  (zQ r8 ac.state.errata x0 ac.state.day).bind fun r0 =>
  (lH r0.2.2).bind fun r9=>match r9 with
  | .inl y3=>(
   (bp[1]?).bind fun x3 =>
   (bp[2]?).bind fun x4 =>
   (DR ac.state.hides (⟨x0,x3,x4⟩:gO)).bind fun rA1 =>
   some (.inl (⟨({ac.state with hides:=rA1}:cY)⟩:aI)))
  | .inr _=>(
   some (.inr r0.2.2)))
 | .inr _=>(
  some (.inr 3))
def DT (ac:aI) (bp:List Int) (cx:aF):Option (aI⊕Int) :=
 (jD (!ac.state.open_) 8).bind fun r3=>match r3 with
 | .inl y6=>(
  (bp[0]?).bind fun x8 =>
  (tI x8 1 40).bind fun r0 =>
  (jD r0 2).bind fun r1=>match r1 with
  | .inl y0=>(
   some (.inl (⟨({ac.state with house:=x8}:cY)⟩:aI)))
  | .inr _=>(
   some (.inr 2)))
 | .inr _=>(
  some (.inr 8))
def LB (ec:Int) (low:Int) (high:Int):Option (Bool) :=
 ((
  if low≤ec then (
   some (decide (ec≤high)))
  else
  some false
 ):Option (Bool)).bind fun t4 =>
 some t4
def pD (be:aW) (de:Int):Option (Bool) :=
 bY (-9223372036854775808≤(be.members - 1)∧(be.members - 1)≤9223372036854775807) <|
 (LB de 0 (be.members - 1)).bind fun r8 =>
 some r8
def tQ (ar:Int) (cc:Int→Option Bool):Option (Bool) :=
 (cc ar).bind fun r1 =>
 some (!r1)
def wK (ai:List Int) (cj:Int→Option Bool) (s1:Nat):Option ((Nat)⊕((Unit)⊕Int)) :=
 if (s1:Int) < (ai.length:Int) then (
  (ai[s1]?).bind fun x0 =>
  (cj x0).bind fun r0 =>
  if r0 then (
   some (.inr (.inr (s1:Int))))
  else
  some (.inl (s1+1)))
 else
 some (.inr (.inl ()))
def IV (ai:List Int) (cj:Int→Option Bool):Option (Int) :=
 (bG (wK ai cj) 0).bind fun e19=>match e19 with
 | .inr z=>some z
 | .inl t0 =>
 some (-1)
def IW (ai:List Int) (cj:Int→Option Bool):Option (Bool) :=
 (IV ai cj).bind fun r1 =>
 some (decide (0≤r1))
def DU (bw:List Int) (right:Int→Option Bool):Option (Bool) :=
 (IW bw (fun x0_=>tQ x0_ right)).bind fun r5 =>
 some (!r5)
def wL (bw:List Int) (s1:Nat):Option ((Nat)⊕((Unit)⊕Bool)) :=
 if (s1:Int) < (bw.length:Int) then (
  ((
   if 0 < (s1:Int) then (
    (bw[s1]?).bind fun x0 =>
    (bw[((s1:Int) - 1).toNat]?).bind fun x1 =>
    some (decide (x0≤x1)))
   else
   some false
  ):Option (Bool)).bind fun t0 =>
  if t0 then (
   some (.inr (.inr false)))
  else
  some (.inl (s1+1)))
 else
 some (.inr (.inl ()))
def DV (bw:List Int):Option (Bool) :=
 (bG (wL bw) 0).bind fun e29=>match e29 with
 | .inr z=>some z
 | .inl t32 =>
 some true
def AQ (be:aW) (bp:List Int):Option (Bool) :=
 ((
  (DU bp (pD be)).bind fun r0 =>
  if r0 then (
   (DV bp).bind fun r1 =>
   some r1)
  else
  some false
 ):Option (Bool)).bind fun t0 =>
 some t0
def tT (ar:List Int) (cc:(List Int)→Option Bool):Option (Bool) :=
 (cc ar).bind fun r1 =>
 some (!r1)
def wM (ai:List (List Int)) (cj:(List Int)→Option Bool) (s1:Nat):Option ((Nat)⊕((Unit)⊕Int)) :=
 if (s1:Int) < (ai.length:Int) then (
  (ai[s1]?).bind fun x0 =>
  (cj x0).bind fun r0 =>
  if r0 then (
   some (.inr (.inr (s1:Int))))
  else
  some (.inl (s1+1)))
 else
 some (.inr (.inl ()))
def IX (ai:List (List Int)) (cj:(List Int)→Option Bool):Option (Int) :=
 (bG (wM ai cj) 0).bind fun e23=>match e23 with
 | .inr z=>some z
 | .inl t26 =>
 some (-1)
def WO (ai:List (List Int)) (cj:(List Int)→Option Bool):Option (Bool) :=
 (IX ai cj).bind fun r1 =>
 some (decide (0≤r1))
def PX (bw:List (List Int)) (right:(List Int)→Option Bool):Option (Bool) :=
 (WO bw (fun x0_=>tT x0_ right)).bind fun r5 =>
 some (!r5)
def DW (cz:dP) (cc:List (Int×Bool)):Option (Bool) :=
 some (!((eE cc cz.holder).getD false))
def tU (ar:dP) (cc:dP→Option Bool):Option (Bool) :=
 (cc ar).bind fun r4 =>
 some (!r4)
def wN (ai:List dP) (cj:dP→Option Bool) (s1:Nat):Option ((Nat)⊕((Unit)⊕Int)) :=
 if (s1:Int) < (ai.length:Int) then (
  (ai[s1]?).bind fun x0 =>
  (cj x0).bind fun r0 =>
  if r0 then (
   some (.inr (.inr (s1:Int))))
  else
  some (.inl (s1+1)))
 else
 some (.inr (.inl ()))
def IY (ai:List dP) (cj:dP→Option Bool):Option (Int) :=
 (bG (wN ai cj) 0).bind fun e19=>match e19 with
 | .inr z=>some z
 | .inl t0 =>
 some (-1)
def IZ (ai:List dP) (cj:dP→Option Bool):Option (Bool) :=
 (IY ai cj).bind fun r1 =>
 some (decide (0≤r1))
def DX (bw:List dP) (right:dP→Option Bool):Option (Bool) :=
 (IZ bw (fun x0_=>tU x0_ right)).bind fun r5 =>
 some (!r5)
def yE (be:aW) (s1:Nat×(List (Int×Bool))):Option ((Nat×(List (Int×Bool)))⊕(((List (Int×Bool)))⊕Bool)) :=
 if (s1.1:Int) < (be.pairs.length:Int) then (
  (be.pairs[s1.1]?).bind fun x0 =>
  ((
   (pD be x0.a).bind fun r0 =>
   if r0 then (
    (pD be x0.b).bind fun r1 =>
    if r1 then (
     if x0.a=x0.b then (
      some true)
     else
     if (eE s1.2 x0.a).getD false then (
      some true)
     else
     some ((eE s1.2 x0.b).getD false))
    else
    some true)
   else
   some true
  ):Option (Bool)).bind fun t0 =>
  if t0 then (
   some (.inr (.inr false)))
  else
  some (.inl ((s1.1+1),(put (put s1.2 x0.a true) x0.b true))))
 else
 some (.inr (.inl s1.2))
def yF (be:aW) (s1:Nat×(List (Int×Bool))):Option ((Nat×(List (Int×Bool)))⊕(((List (Int×Bool)))⊕Bool)) :=
 if (s1.1:Int) < (be.proxies.length:Int) then (
  (be.proxies[s1.1]?).bind fun x0 =>
  ((
   (pD be x0.holder).bind fun r0 =>
   if r0 then (
    (pD be x0.for_).bind fun r1 =>
    if r1 then (
     if x0.holder=x0.for_ then (
      some true)
     else
     some ((eE s1.2 x0.for_).getD false))
    else
    some true)
   else
   some true
  ):Option (Bool)).bind fun t0 =>
  if t0 then (
   some (.inr (.inr false)))
  else
  some (.inl ((s1.1+1),(put s1.2 x0.for_ true))))
 else
 some (.inr (.inl s1.2))
def SR (be:aW):Option (Bool) :=
 (bG (yE be) (0,([]:List (Int×Bool)))).bind fun eA1=>match eA1 with
 | .inr z=>some z
 | .inl t1 =>
 (bG (yF be) (0,([]:List (Int×Bool)))).bind fun eB1=>match eB1 with
 | .inr z=>some z
 | .inl t0 =>
 (DX be.proxies (fun x0_=>DW x0_ t0)).bind fun r0 =>
 some r0
def PY (be:aW):Option (Bool) :=
 some (decide (be.tie=1))
def YY (be:aW) (de:fD) (cc:aW→Option Bool):Option (Bool) :=
 ((
  if de.noes < de.ayes then (
   some true)
  else
  if de.ayes=de.noes then (
   (cc be).bind fun r0 =>
   some r0)
  else
  some false
 ):Option (Bool)).bind fun t0 =>
 some t0
def YZ (be:aW) (de:fD) (cc:aW→Option Bool):Option (Bool) :=
 ((
  if be.need≤de.ayes then (
   some true)
  else
  bY (-9223372036854775808≤(be.need - 1)∧(be.need - 1)≤9223372036854775807) <|
  if de.ayes=(be.need - 1) then (
   (cc be).bind fun r0 =>
   some r0)
  else
  some false
 ):Option (Bool)).bind fun t0 =>
 some t0
def ZA (ir:aW) (de:fD):Option (Bool) :=
 ((
  bY (-9223372036854775808≤(3*de.ayes)∧(3*de.ayes)≤9223372036854775807) <|
  bY (-9223372036854775808≤(de.ayes+de.noes)∧(de.ayes+de.noes)≤9223372036854775807) <|
  bY (-9223372036854775808≤(2*(de.ayes+de.noes))∧(2*(de.ayes+de.noes))≤9223372036854775807) <|
  if (2*(de.ayes+de.noes))≤(3*de.ayes) then (
   some (decide (1≤de.ayes)))
  else
  some false
 ):Option (Bool)).bind fun t0 =>
 some t0
def SS  : Option (Unit) :=
 some ()
def PZ (be:aW):Option (Bool) :=
 ((
  (LB be.members 1 40).bind fun r0 =>
  if r0 then (
   (PX ([be.ayes.e0,be.ayes.e1]:List (List Int)) (AQ be)).bind fun r1 =>
   if r1 then (
    (PX ([be.noes.e0,be.noes.e1]:List (List Int)) (AQ be)).bind fun r2 =>
    if r2 then (
     if (be.pairs.length:Int)≤10 then (
      if (be.proxies.length:Int)≤10 then (
       (SR be).bind fun r3 =>
       if r3 then (
        bY (-9223372036854775808≤be.rule∧be.rule≤9223372036854775807) <|
        (SS).bind fun r8 =>
        if be.rule < 3 then (
         (LB be.need 0 40).bind fun r4 =>
         if r4 then (
          (LB be.quorum 0 40).bind fun r5 =>
          if r5 then (
           if be.tie=1 then (
            some true)
           else
           some (decide (be.tie=2)))
          else
          some false)
         else
         some false)
        else
        some false)
       else
       some false)
      else
      some false)
     else
     some false)
    else
    some false)
   else
   some false)
  else
  some false
 ):Option (Bool)).bind fun t0 =>
 some t0
def DY (be:aW):Option (Int) :=
 (PZ be).bind fun r6 =>
 if r6 then (
  some 0)
 else
 some 1
def zR (ac:aI) (fp:aW):Option (aI⊕Int) :=
 (DY fp).bind fun r8 =>
 (lH r8).bind fun r11=>match r11 with
 | .inl y0=>(
  some (.inl (⟨({ac.state with division:=fp,open_:=true}:cY)⟩:aI)))
 | .inr _=>(
  some (.inr r8))
def DZ (ac:aI) (bp:List Int) (cx:aF):Option (aI⊕Int) :=
 (jD (!ac.state.open_) 8).bind fun r3=>match r3 with
 | .inl y6=>(
  ((
   (bp[0]?).bind fun x2 =>
   (tI x2 0 255).bind fun r0 =>
   if r0 then (
    (bp[3]?).bind fun x3 =>
    (tI x3 0 255).bind fun r1 =>
    (jD r1 2).bind fun r2=>match r2 with
    | .inl y1=>(
     some (.inl ()))
    | .inr _=>(
     some (.inr (.inr 2))))
   else
   (jD false 2).bind fun r4=>match r4 with
   | .inl y2=>(
    some (.inl ()))
   | .inr _=>(
    some (.inr (.inr 2)))
  ):Option ((Unit)⊕(aI⊕Int))).bind fun t42=>match t42 with
  | .inr z=>some z
  | .inl t45 =>
  (bp[0]?).bind fun x0 =>
  bY (0≤x0∧x0≤255) <|
  (bp[1]?).bind fun x4 =>
  (bp[2]?).bind fun x5 =>
  (bp[3]?).bind fun x1 =>
  bY (0≤x1∧x1≤255) <|
  (zR ac (⟨ac.state.house,(⟨([]:List Int),([]:List Int)⟩:bJ),(⟨([]:List Int),([]:List Int)⟩:bJ),([]:List eY),([]:List dP),x0,x4,x5,x1⟩:aW)).bind fun r5=>match r5 with
  | .inl y0=>(
   some (.inl y0))
  | .inr y0=>(
   some (.inr y0)))
 | .inr _=>(
  some (.inr 8))
def EA (ar:Int) (fg:Int):Option (Bool) :=
 ((
  (tP ar).bind fun r0 =>
  if r0 then (
   (tP fg).bind fun r1 =>
   if r1 then (
    some (decide (ar < fg)))
   else
   some true)
  else
  some (decide (ar < fg))
 ):Option (Bool)).bind fun t0 =>
 some t0
def JA (ar:Int):Option (Bool) :=
 some (decide (ar≠ar))
def wO (ar:List Int) (target:Int) (s1:Int×Int):Option ((Int×Int)⊕(Int)) :=
 if s1.1 < s1.2 then (
  bY (-9223372036854775808≤(s1.1+s1.2)∧(s1.1+s1.2)≤9223372036854775807) <|
  bY (0≤(s1.1+s1.2)∧(s1.1+s1.2)≤18446744073709551615) <|
  bY (0≤(s1.1+s1.2)) <|
  bY (-9223372036854775808≤((s1.1+s1.2)/2)∧((s1.1+s1.2)/2)≤9223372036854775807) <|
  (ar[((s1.1+s1.2)/2).toNat]?).bind fun x0 =>
  (EA x0 target).bind fun r0 =>
  ((
   if r0 then (
    bY (-9223372036854775808≤(((s1.1+s1.2)/2)+1)∧(((s1.1+s1.2)/2)+1)≤9223372036854775807) <|
    some ((((s1.1+s1.2)/2)+1),s1.2))
   else
   some (s1.1,((s1.1+s1.2)/2))
  ):Option (Int×Int)).bind fun t0 =>
  some (.inl (t0.1,t0.2)))
 else
 some (.inr s1.1)
def rP (ar:List Int) (target:Int):Option (Int×Bool) :=
 (bG (wO ar target) (0,(ar.length:Int))).bind fun e57 =>
 ((
  if e57 < (ar.length:Int) then (
   bY (0≤e57) <|
   (ar[e57.toNat]?).bind fun x0 =>
   if x0=target then (
    some (e57,true))
   else
   (JA x0).bind fun r0 =>
   if r0 then (
    (JA target).bind fun r1 =>
    some (e57,r1))
   else
   some (e57,false))
  else
  some (e57,false)
 ):Option (Int×Bool)).bind fun t0 =>
 some (t0.1,t0.2)
def pW (ai:List Int):Option (List Int) :=
 bY (([]:List Int).length+ai.length≤1073741824) <|
 some (([]:List Int)++ai)
def EB (ac:aI) (bp:List Int) (cx:aF):Option (aI⊕Int) :=
 (jD ac.state.open_ 8).bind fun r3=>match r3 with
 | .inl y6=>(
  ((
   (bp[0]?).bind fun x5 =>
   (tI x5 1 2).bind fun r77 =>
   if r77 then (
    (bp[1]?).bind fun x6 =>
    (tI x6 0 1).bind fun r89 =>
    if r89 then (
     (bp[2]?).bind fun x7 =>
     bY (-9223372036854775808≤(ac.state.division.members - 1)∧(ac.state.division.members - 1)≤9223372036854775807) <|
     (tI x7 0 (ac.state.division.members - 1)).bind fun rB1 =>
     (jD rB1 2).bind fun rC1=>match rC1 with
     | .inl y0=>(
      some (.inl ()))
     | .inr _=>(
      some (.inr (.inr 2))))
    else
    (jD false 2).bind fun rD1=>match rD1 with
    | .inl y1=>(
     some (.inl ()))
    | .inr _=>(
     some (.inr (.inr 2))))
   else
   (jD false 2).bind fun rE1=>match rE1 with
   | .inl y2=>(
    some (.inl ()))
   | .inr _=>(
    some (.inr (.inr 2)))
  ):Option ((Unit)⊕(aI⊕Int))).bind fun t0=>match t0 with
  | .inr z=>some z
  | .inl t68 =>
  (bp[1]?).bind fun x4 =>
  if x4=0 then (
   (bp[0]?).bind fun x8 =>
   if x8=2 then (
    (bp[2]?).bind fun x0 =>
    (rP ac.state.division.noes.e0 x0).bind fun r0 =>
    (jD (!r0.2) 6).bind fun rF1=>match rF1 with
    | .inl y3=>(
     (pW ac.state.division.noes.e0).bind fun r5 =>
     bY (0≤r0.1) <|
     bY (r0.1.toNat≤r5.length) <|
     bY (r5.length+([x0]:List Int).length≤1073741824) <|
     some (.inl (⟨({ac.state with division:=({ac.state.division with noes:=(⟨(r5.take r0.1.toNat++([x0]:List Int)++r5.drop r0.1.toNat),ac.state.division.noes.e1⟩:bJ)}:aW)}:cY)⟩:aI)))
    | .inr _=>(
     some (.inr 6)))
   else
   (bp[2]?).bind fun x1 =>
   (rP ac.state.division.ayes.e0 x1).bind fun r1 =>
   (jD (!r1.2) 6).bind fun rG1=>match rG1 with
   | .inl y4=>(
    (pW ac.state.division.ayes.e0).bind fun r8 =>
    bY (0≤r1.1) <|
    bY (r1.1.toNat≤r8.length) <|
    bY (r8.length+([x1]:List Int).length≤1073741824) <|
    some (.inl (⟨({ac.state with division:=({ac.state.division with ayes:=(⟨(r8.take r1.1.toNat++([x1]:List Int)++r8.drop r1.1.toNat),ac.state.division.ayes.e1⟩:bJ)}:aW)}:cY)⟩:aI)))
   | .inr _=>(
    some (.inr 6)))
  else
  if x4=1 then (
   (bp[0]?).bind fun x9 =>
   if x9=2 then (
    (bp[2]?).bind fun x2 =>
    (rP ac.state.division.noes.e1 x2).bind fun r2 =>
    (jD (!r2.2) 6).bind fun rH1=>match rH1 with
    | .inl y5=>(
     (pW ac.state.division.noes.e1).bind fun r9 =>
     bY (0≤r2.1) <|
     bY (r2.1.toNat≤r9.length) <|
     bY (r9.length+([x2]:List Int).length≤1073741824) <|
     some (.inl (⟨({ac.state with division:=({ac.state.division with noes:=(⟨ac.state.division.noes.e0,(r9.take r2.1.toNat++([x2]:List Int)++r9.drop r2.1.toNat)⟩:bJ)}:aW)}:cY)⟩:aI)))
    | .inr _=>(
     some (.inr 6)))
   else
   (bp[2]?).bind fun x3 =>
   (rP ac.state.division.ayes.e1 x3).bind fun r4 =>
   (jD (!r4.2) 6).bind fun rI1=>match rI1 with
   | .inl y7=>(
    (pW ac.state.division.ayes.e1).bind fun rA1 =>
    bY (0≤r4.1) <|
    bY (r4.1.toNat≤rA1.length) <|
    bY (rA1.length+([x3]:List Int).length≤1073741824) <|
    some (.inl (⟨({ac.state with division:=({ac.state.division with ayes:=(⟨ac.state.division.ayes.e0,(rA1.take r4.1.toNat++([x3]:List Int)++rA1.drop r4.1.toNat)⟩:bJ)}:aW)}:cY)⟩:aI)))
   | .inr _=>(
    some (.inr 6)))
  else
  none)
 | .inr _=>(
  some (.inr 8))
def JB (ai:List eY):Option (List eY) :=
 bY (([]:List eY).length+ai.length≤1073741824) <|
 some (([]:List eY)++ai)
def EC (bw:List eY) (cr:eY):Option (List eY) :=
 (JB bw).bind fun r4 =>
 bY (r4.length+([cr]:List eY).length≤1073741824) <|
 some (r4++([cr]:List eY))
def ED (ac:aI) (bp:List Int) (cx:aF):Option (aI⊕Int) :=
 (jD ac.state.open_ 8).bind fun r3=>match r3 with
 | .inl y6=>(
  (bp[0]?).bind fun x9 =>
  (bp[1]?).bind fun x0 =>
  (EC ac.state.division.pairs (⟨x9,x0⟩:eY)).bind fun r0 =>
  (zR ac ({ac.state.division with pairs:=r0}:aW)).bind fun r1=>match r1 with
  | .inl y0=>(
   some (.inl y0))
  | .inr y0=>(
   some (.inr y0)))
 | .inr _=>(
  some (.inr 8))
def tV (ai:List Int) (fe:Int) (s1:Nat):Option ((Nat)⊕((Unit)⊕Int)) :=
 if (s1:Int) < (ai.length:Int) then (
  (ai[s1]?).bind fun x0 =>
  if fe=x0 then (
   some (.inr (.inr (s1:Int))))
  else
  some (.inl (s1+1)))
 else
 some (.inr (.inl ()))
def WP (ai:List Int) (fe:Int):Option (Int) :=
 (bG (tV ai fe) 0).bind fun e16=>match e16 with
 | .inr z=>some z
 | .inl t0 =>
 some (-1)
def LC (ai:List Int) (fe:Int):Option (Bool) :=
 (WP ai fe).bind fun r1 =>
 some (decide (0≤r1))
def zS (lobby:bJ) (member:Int):Option (Int) :=
 (LC lobby.e0 member).bind fun r0 =>
 ((
  if r0 then (
   some 1)
  else
  some 0
 ):Option (Nat)).bind fun t39 =>
 (LC lobby.e1 member).bind fun r1 =>
 ((
  if r1 then (
   bY (-9223372036854775808≤((t39:Int)+1)∧((t39:Int)+1)≤9223372036854775807) <|
   some (t39+1))
  else
  some t39
 ):Option (Nat)).bind fun t62 =>
 some (t62:Int)
def EE (be:aW) (member:Int):Option (List UInt8) :=
 (zS be.ayes member).bind fun r6 =>
 (zS be.noes member).bind fun r10 =>
 ((
  if r6 < 2 then (
   some (decide (r10 < 2)))
  else
  some false
 ):Option (Bool)).bind fun t0 =>
 ((
  if t0 then (
   bY (([]:List UInt8).length+1≤1073741824) <|
   some (([]:List UInt8)++[(0:UInt8)]))
  else
  some ([]:List UInt8)
 ):Option (List UInt8)).bind fun t38 =>
 ((
  if 0 < r6 then (
   some (decide (r10 < 2)))
  else
  some false
 ):Option (Bool)).bind fun t1 =>
 ((
  if t1 then (
   bY (t38.length+1≤1073741824) <|
   some (t38++[(1:UInt8)]))
  else
  some t38
 ):Option (List UInt8)).bind fun t68 =>
 ((
  if 0 < r10 then (
   some (decide (r6 < 2)))
  else
  some false
 ):Option (Bool)).bind fun t84 =>
 ((
  if t84 then (
   bY (t68.length+1≤1073741824) <|
   some (t68++[(2:UInt8)]))
  else
  some t68
 ):Option (List UInt8)).bind fun t2 =>
 some t2
def EF (be:aW) (s1:Nat×bE):Option ((Nat×bE)⊕(bE)) :=
 if (s1.1:Int) < (be.pairs.length:Int) then (
  (be.pairs[s1.1]?).bind fun x0 =>
  bY (0≤x0.a) <|
  bY (x0.a < 40) <|
  bY (0≤x0.b) <|
  bY (x0.b < 40) <|
  some (.inl ((s1.1+1),(bE.set (bE.set s1.2 x0.a.toNat true) x0.b.toNat true))))
 else
 some (.inr s1.2)
def EG (be:aW) (s1:Nat×List (List UInt8)):Option ((Nat×List (List UInt8))⊕(List (List UInt8))) :=
 if (s1.1:Int) < be.members then (
  (EE be (s1.1:Int)).bind fun r0 =>
  (s1.2[s1.1]?).bind fun x0 =>
  bY (-9223372036854775808≤((s1.1:Int)+1)∧((s1.1:Int)+1)≤9223372036854775807) <|
  some (.inl ((s1.1+1),(s1.2.set s1.1 r0))))
 else
 some (.inr s1.2)
def SU (be:aW):Option (cZ) :=
 (bG (EF be) (0,bE.zero)).bind fun e76 =>
 (bG (EG be) (0,(List.replicate 40 ([]:List UInt8)))).bind fun eA1 =>
 some (⟨be,e76,eA1⟩:cZ)
def EH (ar:cZ) (s1:Nat×Nat×Bool):Option ((Nat×Nat×Bool)⊕(Nat×Bool)) :=
 if (s1.2.1:Int) < ar.division.members then (
  (ar.may[s1.2.1]?).bind fun x0 =>
  if (x0.length:Int)=0 then (
   some (.inr (s1.2.1,true)))
  else
  bY (-9223372036854775808≤((s1.2.1:Int)+1)∧((s1.2.1:Int)+1)≤9223372036854775807) <|
  some (.inl (s1.1,(s1.2.1+1),s1.2.2)))
 else
 some (.inr (s1.1,s1.2.2))
def SV (ar:cZ):Option (Int×Bool) :=
 (bG (EH ar) (0,0,false)).bind fun e41 =>
 some ((e41.1:Int),e41.2)
def SW (be:aW):Option (cZ×Int) :=
 (PZ be).bind fun r7 =>
 if r7 then (
  (SU be).bind fun r0 =>
  (SV r0).bind fun r1 =>
  if r1.2 then (
   some ((⟨(⟨0,(⟨([]:List Int),([]:List Int)⟩:bJ),(⟨([]:List Int),([]:List Int)⟩:bJ),([]:List eY),([]:List dP),0,0,0,0⟩:aW),bE.zero,(List.replicate 40 ([]:List UInt8))⟩:cZ),9))
  else
  some (r0,0))
 else
 some ((⟨(⟨0,(⟨([]:List Int),([]:List Int)⟩:bJ),(⟨([]:List Int),([]:List Int)⟩:bJ),([]:List eY),([]:List dP),0,0,0,0⟩:aW),bE.zero,(List.replicate 40 ([]:List UInt8))⟩:cZ),1)
def EI (ar:cZ) (s1:Nat×List Int):Option ((Nat×List Int)⊕(List Int)) :=
 if (s1.1:Int) < ar.division.members then (
  (ar.may[s1.1]?).bind fun x0 =>
  ((
   if 1 < (x0.length:Int) then (
    bY (s1.2.length+1≤1073741824) <|
    some (s1.2++[(s1.1:Int)]))
   else
   some s1.2
  ):Option (List Int)).bind fun t164 =>
  bY (-9223372036854775808≤((s1.1:Int)+1)∧((s1.1:Int)+1)≤9223372036854775807) <|
  some (.inl ((s1.1+1),t164)))
 else
 some (.inr s1.2)
def SX (ar:cZ):Option (List Int) :=
 (bG (EI ar) (0,([]:List Int))).bind fun eA1 =>
 some eA1
def SY (be:aW):Option (cZ×Int) :=
 (SW be).bind fun r7 =>
 ((
  if r7.2=0 then (
   (SX r7.1).bind fun r0 =>
   some (decide (8 < (r0.length:Int))))
  else
  some false
 ):Option (Bool)).bind fun t0 =>
 if t0 then (
  some ((⟨(⟨0,(⟨([]:List Int),([]:List Int)⟩:bJ),(⟨([]:List Int),([]:List Int)⟩:bJ),([]:List eY),([]:List dP),0,0,0,0⟩:aW),bE.zero,(List.replicate 40 ([]:List UInt8))⟩:cZ),3))
 else
 some (r7.1,r7.2)
def LD (x0:List UInt8) (fm:Int) (ik:bA→Int→Option Bool) (s1:Nat×bA):Option ((Nat×bA)⊕((bA)⊕Bool)) :=
 if (s1.1:Int) < (x0.length:Int) then (
  (x0[s1.1]?).bind fun x1 =>
  bY (fm < 40) <|
  bY (-9223372036854775808≤(fm+1)∧(fm+1)≤9223372036854775807) <|
  (ik (bA.set s1.2 fm.toNat (x1.toNat:Int)) (fm+1)).bind fun r0 =>
  if r0 then (
   some (.inl ((s1.1+1),(bA.set s1.2 fm.toNat (x1.toNat:Int)))))
  else
  some (.inr (.inr false)))
 else
 some (.inr (.inl s1.2))
def m60 (ij:bA) (fm:Int) (cc:cZ) (ew:bA→Option Bool) (ik:bA→Int→Option Bool):Option (Bool) :=
 if fm=cc.division.members then (
  (ew ij).bind fun r0 =>
  some r0)
 else
 bY (0≤fm) <|
 (cc.may[fm.toNat]?).bind fun x0 =>
 (bG (LD x0 fm ik) (0,ij)).bind fun e90=>match e90 with
 | .inr z=>some z
 | .inl t0 =>
 some true
def LE (x0:List UInt8) (s1:Nat×bA) (R0_:(Nat×bA)→Option (Bool)) (s2:Nat×bA):Option ((Nat×bA)⊕((bA)⊕Bool)) :=
 if (s2.1:Int) < (x0.length:Int) then (
  (x0[s2.1]?).bind fun x1 =>
  bY ((s1.1:Int) < 40) <|
  bY (-9223372036854775808≤((s1.1:Int)+1)∧((s1.1:Int)+1)≤9223372036854775807) <|
  (R0_ ((s1.1+1),(bA.set s2.2 s1.1 (x1.toNat:Int)))).bind fun r0 =>
  if r0 then (
   some (.inl ((s2.1+1),(bA.set s2.2 s1.1 (x1.toNat:Int)))))
  else
  some (.inr (.inr false)))
 else
 some (.inr (.inl s2.2))
def LF (cc:cZ) (yield:bA→Option Bool) (R0_:(Nat×bA)→Option (Bool)) (s1:Nat×bA):Option (Bool) :=
 if (s1.1:Int)=cc.division.members then (
  (yield s1.2).bind fun r0 =>
  some r0)
 else
 (cc.may[s1.1]?).bind fun x0 =>
 (bG (LE x0 s1 R0_) (0,s1.2)).bind fun eA1=>match eA1 with
 | .inr z=>some z
 | .inl t0 =>
 some true
def rQ (cc:cZ) (yield:bA→Option Bool):Nat→(Nat×bA)→Option (Bool)
 | 0,_=>none
 | n_+1,s1=>LF cc yield (rQ cc yield n_) s1
def m59 (yield:bA→Option Bool) (cc:cZ):Option (Unit) :=
 (uX (fun n_=>rQ cc yield n_ (0,bA.zero))).bind fun r0 =>
 some ()
def EJ (ar:cZ) (ga:bA) (s1:Nat×Nat×Nat):Option ((Nat×Nat×Nat)⊕(Nat×Nat)) :=
 if (s1.1:Int) < ar.division.members then (
  bY ((s1.1:Int) < 40) <|
  ((
   if bE.get ar.paired s1.1 then (
    some (s1.2.1,s1.2.2))
   else
   ((
    ((
     if (bA.get ga s1.1)=1 then (
      bY (-9223372036854775808≤((s1.2.1:Int)+1)∧((s1.2.1:Int)+1)≤9223372036854775807) <|
      some ((s1.2.1+1),s1.2.2))
     else
     ((
      if (bA.get ga s1.1)=2 then (
       bY (-9223372036854775808≤((s1.2.2:Int)+1)∧((s1.2.2:Int)+1)≤9223372036854775807) <|
       some (s1.2.2+1))
      else
      some s1.2.2
     ):Option (Nat)).bind fun t3 =>
     some (s1.2.1,t3)
    ):Option (Nat×Nat)).bind fun t0 =>
    some (t0.1,t0.2)
   ):Option (Nat×Nat)).bind fun t1 =>
   some (t1.1,t1.2)
  ):Option (Nat×Nat)).bind fun t2 =>
  bY (-9223372036854775808≤((s1.1:Int)+1)∧((s1.1:Int)+1)≤9223372036854775807) <|
  some (.inl ((s1.1+1),t2.1,t2.2)))
 else
 some (.inr (s1.2.1,s1.2.2))
def EK (ar:cZ) (ga:bA) (s1:Nat×Nat×Nat):Option ((Nat×Nat×Nat)⊕(Nat×Nat)) :=
 if (s1.1:Int) < (ar.division.proxies.length:Int) then (
  (ar.division.proxies[s1.1]?).bind fun x0 =>
  ((
   bY (0≤x0.for_) <|
   bY (x0.for_ < 40) <|
   if (bA.get ga x0.for_.toNat)=0 then (
    if bE.get ar.paired x0.for_.toNat then (
     some false)
    else
    bY (0≤x0.holder) <|
    bY (x0.holder < 40) <|
    some (!(bE.get ar.paired x0.holder.toNat)))
   else
   some false
  ):Option (Bool)).bind fun t3 =>
  ((
   if t3 then (
    bY (0≤x0.holder) <|
    bY (x0.holder < 40) <|
    ((
     ((
      if (bA.get ga x0.holder.toNat)=1 then (
       bY (-9223372036854775808≤((s1.2.1:Int)+1)∧((s1.2.1:Int)+1)≤9223372036854775807) <|
       some ((s1.2.1+1),s1.2.2))
      else
      ((
       if (bA.get ga x0.holder.toNat)=2 then (
        bY (-9223372036854775808≤((s1.2.2:Int)+1)∧((s1.2.2:Int)+1)≤9223372036854775807) <|
        some (s1.2.2+1))
       else
       some s1.2.2
      ):Option (Nat)).bind fun t4 =>
      some (s1.2.1,t4)
     ):Option (Nat×Nat)).bind fun t0 =>
     some (t0.1,t0.2)
    ):Option (Nat×Nat)).bind fun t1 =>
    some (t1.1,t1.2))
   else
   some (s1.2.1,s1.2.2)
  ):Option (Nat×Nat)).bind fun t2 =>
  some (.inl ((s1.1+1),t2.1,t2.2)))
 else
 some (.inr (s1.2.1,s1.2.2))
def SZ (ar:cZ) (ga:bA):Option (fD) :=
 (bG (EJ ar ga) (0,0,0)).bind fun e82 =>
 (bG (EK ar ga) (0,e82.1,e82.2)).bind fun eA1 =>
 some (⟨(eA1.1:Int),(eA1.2:Int)⟩:fD)
def TA (ar:cZ) (de:fD):Option (Int) :=
 bY (-9223372036854775808≤(de.ayes+de.noes)∧(de.ayes+de.noes)≤9223372036854775807) <|
 if (de.ayes+de.noes) < ar.division.quorum then (
  some 2)
 else
 (SS).bind fun r3 =>
 bY (0≤ar.division.rule) <|
 if ar.division.rule=0 then (
  (YY ar.division de (PY)).bind fun r0 =>
  if r0 then (
   some 1)
  else
  some 0)
 else
 if ar.division.rule=1 then (
  (YZ ar.division de (PY)).bind fun r1 =>
  if r1 then (
   some 1)
  else
  some 0)
 else
 if ar.division.rule=2 then (
  (ZA ar.division de).bind fun r2 =>
  if r2 then (
   some 1)
  else
  some 0)
 else
 none
def tW (ai:List UInt8) (fe:Int) (s1:Nat):Option ((Nat)⊕((Unit)⊕Int)) :=
 if (s1:Int) < (ai.length:Int) then (
  (ai[s1]?).bind fun x0 =>
  if fe=(x0.toNat:Int) then (
   some (.inr (.inr (s1:Int))))
  else
  some (.inl (s1+1)))
 else
 some (.inr (.inl ()))
def WQ (ai:List UInt8) (fe:Int):Option (Int) :=
 (bG (tW ai fe) 0).bind fun e16=>match e16 with
 | .inr z=>some z
 | .inl t0 =>
 some (-1)
def TB (ai:List UInt8) (fe:Int):Option (Bool) :=
 (WQ ai fe).bind fun r1 =>
 some (decide (0≤r1))
def ZB (ar:Int):Option (Int) :=
 ((
  if 4294967296≤ar then (
   some (32,(ar/4294967296)))
  else
  some (0,ar)
 ):Option (Nat×Int)).bind fun t4 =>
 ((
  if 65536≤t4.2 then (
   bY (-9223372036854775808≤((t4.1:Int)+16)∧((t4.1:Int)+16)≤9223372036854775807) <|
   some ((t4.1+16),(t4.2/65536)))
  else
  some (t4.1,t4.2)
 ):Option (Nat×Int)).bind fun t0 =>
 ((
  if 256≤t0.2 then (
   bY (-9223372036854775808≤((t0.1:Int)+8)∧((t0.1:Int)+8)≤9223372036854775807) <|
   some ((t0.1+8),(t0.2/256)))
  else
  some (t0.1,t0.2)
 ):Option (Nat×Int)).bind fun t28 =>
 bY (0≤t28.2∧t28.2≤255) <|
 bY (0≤t28.2) <|
 (([0,1,2,2,3,3,3,3,4,4,4,4,4,4,4,4,5,5,5,5,5,5,5,5,5,5,5,5,5,5,5,5,6,6,6,6,6,6,6,6,6,6,6,6,6,6,6,6,6,6,6,6,6,6,6,6,6,6,6,6,6,6,6,6,7,7,7,7,7,7,7,7,7,7,7,7,7,7,7,7,7,7,7,7,7,7,7,7,7,7,7,7,7,7,7,7,7,7,7,7,7,7,7,7,7,7,7,7,7,7,7,7,7,7,7,7,7,7,7,7,7,7,7,7,7,7,7,7,8,8,8,8,8,8,8,8,8,8,8,8,8,8,8,8,8,8,8,8,8,8,8,8,8,8,8,8,8,8,8,8,8,8,8,8,8,8,8,8,8,8,8,8,8,8,8,8,8,8,8,8,8,8,8,8,8,8,8,8,8,8,8,8,8,8,8,8,8,8,8,8,8,8,8,8,8,8,8,8,8,8,8,8,8,8,8,8,8,8,8,8,8,8,8,8,8,8,8,8,8,8,8,8,8,8,8,8,8,8,8,8,8,8,8,8,8,8,8,8,8,8,8,8,8,8,8,8]:aF)[t28.2.toNat]?).bind fun x0 =>
 bY (-9223372036854775808≤((t28.1:Int)+(x0.toNat:Int))∧((t28.1:Int)+(x0.toNat:Int))≤9223372036854775807) <|
 some ((t28.1:Int)+(x0.toNat:Int))
def WR (ar:Int):Option (Int) :=
 (ZB ar).bind fun r1 =>
 some r1
def EM (ar:Int):Option (Bool) :=
 some (decide (ar≠ar))
def TC (ar:Int) (fg:Int):Option (Bool) :=
 ((
  (EM ar).bind fun r0 =>
  if r0 then (
   (EM fg).bind fun r1 =>
   if r1 then (
    some (decide (ar < fg)))
   else
   some true)
  else
  some (decide (ar < fg))
 ):Option (Bool)).bind fun t0 =>
 some t0
def EN (x0:List UInt8) (s2:Nat×bA×List UInt8) (R0_:(Nat×bA×List UInt8)→Option (List UInt8)) (s1:Nat×bA×List UInt8):Option ((Nat×bA×List UInt8)⊕(bA×List UInt8)) :=
 if (s1.1:Int) < (x0.length:Int) then (
  (x0[s1.1]?).bind fun x1 =>
  bY ((s2.1:Int) < 40) <|
  bY (-9223372036854775808≤((s2.1:Int)+1)∧((s2.1:Int)+1)≤9223372036854775807) <|
  (R0_ ((s2.1+1),(bA.set s1.2.1 s2.1 (x1.toNat:Int)),s1.2.2)).bind fun r0 =>
  some (.inl ((s1.1+1),(bA.set s1.2.1 s2.1 (x1.toNat:Int)),r0)))
 else
 some (.inr (s1.2.1,s1.2.2))
def yG (r6:cZ×Int) (R0_:(Nat×bA×List UInt8)→Option (List UInt8)) (s1:Nat×bA×List UInt8):Option (List UInt8) :=
 if (s1.1:Int)=r6.1.division.members then (
  ((
   (SZ r6.1 s1.2.1).bind fun r1 =>
   (TA r6.1 r1).bind fun r0 =>
   (TB s1.2.2 r0).bind fun r2 =>
   ((
    if r2 then (
     some s1.2.2)
    else
    bY (s1.2.2.length+1≤1073741824) <|
    bY (0≤r0∧r0≤255) <|
    some (s1.2.2++[(UInt8.ofNat r0.toNat)])
   ):Option (List UInt8)).bind fun t0 =>
   some t0
  ):Option (List UInt8)).bind fun t1 =>
  some t1)
 else
 (r6.1.may[s1.1]?).bind fun x0 =>
 (bG (EN x0 s1 R0_) (0,s1.2.1,s1.2.2)).bind fun eA1 =>
 some eA1.2
def nD (r6:cZ×Int):Nat→(Nat×bA×List UInt8)→Option (List UInt8)
 | 0,_=>none
 | n_+1,s1=>yG r6 (nD r6 n_) s1
def EO (s2:Nat×Nat×Int×Bool×Bool) (s1:Int×List UInt8):Option ((Int×List UInt8)⊕(List UInt8)) :=
 ((
  if (s2.1:Int) < s1.1 then (
   bY (0≤s1.1) <|
   (s1.2[s1.1.toNat]?).bind fun x1 =>
   bY (-9223372036854775808≤(s1.1 - 1)∧(s1.1 - 1)≤9223372036854775807) <|
   bY (0≤(s1.1 - 1)) <|
   (s1.2[(s1.1 - 1).toNat]?).bind fun x2 =>
   (TC (x1.toNat:Int) (x2.toNat:Int)).bind fun r0 =>
   some r0)
  else
  some false
 ):Option (Bool)).bind fun t0 =>
 if t0 then (
  bY (-9223372036854775808≤(s1.1 - 1)∧(s1.1 - 1)≤9223372036854775807) <|
  bY (0≤(s1.1 - 1)) <|
  (s1.2[(s1.1 - 1).toNat]?).bind fun x0 =>
  bY (0≤s1.1) <|
  (s1.2[s1.1.toNat]?).bind fun x3 =>
  ((s1.2.set s1.1.toNat x0)[(s1.1 - 1).toNat]?).bind fun x4 =>
  some (.inl ((s1.1 - 1),((s1.2.set s1.1.toNat x0).set ((s1.1 - 1).toNat) x3))))
 else
 some (.inr s1.2)
def yH (s2:Nat×Nat×Int×Bool×Bool) (s1:Nat×List UInt8):Option ((Nat×List UInt8)⊕(List UInt8)) :=
 if (s1.1:Int) < (s2.2.1:Int) then (
  (bG (EO s2) ((s1.1:Int),s1.2)).bind fun eA1 =>
  bY (-9223372036854775808≤((s1.1:Int)+1)∧((s1.1:Int)+1)≤9223372036854775807) <|
  some (.inl ((s1.1+1),eA1)))
 else
 some (.inr s1.2)
def tX (t0:List UInt8) (s1:Nat×Nat×Int×Bool×Bool):Option ((Nat×Nat×Int×Bool×Bool)⊕(List UInt8)) :=
 bY (-9223372036854775808≤((s1.2.1:Int) - (s1.1:Int))∧((s1.2.1:Int) - (s1.1:Int))≤9223372036854775807) <|
 if ((s1.2.1:Int) - (s1.1:Int))≤12 then (
  ((
   bY (-9223372036854775808≤((s1.1:Int)+1)∧((s1.1:Int)+1)≤9223372036854775807) <|
   (bG (yH s1) ((s1.1+1),t0)).bind fun eA1 =>
   some eA1
  ):Option (List UInt8)).bind fun t1 =>
  some (.inr t1))
 else
 if s1.2.2.1=0 then (
  none)
 else
 if s1.2.2.2.1 then (
  none)
 else
 none
def TD (be:aW):Option (List UInt8×Int) :=
 (SY be).bind fun r6 =>
 if r6.2≠0 then (
  some (([]:List UInt8),r6.2))
 else
 ((
  (uX (fun n_=>nD r6 n_ (0,bA.zero,([]:List UInt8)))).bind fun r0 =>
  some r0
 ):Option (List UInt8)).bind fun t0 =>
 ((
  (WR (t0.length:Int)).bind fun r1 =>
  ((
   (bG (tX t0) (0,t0.length,r1,true,true)).bind fun eA1=>some eA1
  ):Option (List UInt8)).bind fun t1 =>
  some t1
 ):Option (List UInt8)).bind fun t2 =>
 some (t2,0)
def JC (ai:List UInt8):Option (List UInt8) :=
 bY (([]:List UInt8).length+ai.length≤1073741824) <|
 some (([]:List UInt8)++ai)
def EP (bw:List UInt8) (cr:Int):Option (List UInt8) :=
 (JC bw).bind fun r1 =>
 bY (r1.length+1≤1073741824) <|
 bY (0≤cr∧cr≤255) <|
 some (r1++[(UInt8.ofNat cr.toNat)])
def EQ (ac:aI) (cr:List Int) (iv:aF):Option (aI⊕Int) :=
 (jD ac.state.open_ 8).bind fun r3=>match r3 with
 | .inl y6=>(
  (TD ac.state.division).bind fun r8 =>
  (lH r8.2).bind fun r0=>match r0 with
  | .inl y0=>(
   (jD (decide ((r8.1.length:Int)=1)) 10).bind fun r1=>match r1 with
   | .inl y1=>(
    (r8.1[0]?).bind fun x0 =>
    (EP ac.state.results (x0.toNat:Int)).bind fun r2 =>
    some (.inl (⟨({ac.state with division:=(⟨0,(⟨([]:List Int),([]:List Int)⟩:bJ),(⟨([]:List Int),([]:List Int)⟩:bJ),([]:List eY),([]:List dP),0,0,0,0⟩:aW),open_:=false,results:=r2}:cY)⟩:aI)))
   | .inr _=>(
    some (.inr 10)))
  | .inr _=>(
   some (.inr r8.2)))
 | .inr _=>(
  some (.inr 8))
def TE (fx:Int):Option (Bool) :=
 some (decide (fx=32))
def zT (text:aF):Option (List aF) :=
 (IL text).bind fun r1 =>
 some r1
def tY (ar:aQ) (cc:aQ→Option Bool):Option (Bool) :=
 (cc ar).bind fun r7 =>
 some (!r7)
def wP (ai:List aQ) (cj:aQ→Option Bool) (s1:Nat):Option ((Nat)⊕((Unit)⊕Int)) :=
 if (s1:Int) < (ai.length:Int) then (
  (ai[s1]?).bind fun x0 =>
  (cj x0).bind fun r0 =>
  if r0 then (
   some (.inr (.inr (s1:Int))))
  else
  some (.inl (s1+1)))
 else
 some (.inr (.inl ()))
def JD (ai:List aQ) (cj:aQ→Option Bool):Option (Int) :=
 (bG (wP ai cj) 0).bind fun e23=>match e23 with
 | .inr z=>some z
 | .inl t26 =>
 some (-1)
def JE (ai:List aQ) (cj:aQ→Option Bool):Option (Bool) :=
 (JD ai cj).bind fun r1 =>
 some (decide (0≤r1))
def rR (bw:List aQ) (right:aQ→Option Bool):Option (Bool) :=
 (JE bw (fun x0_=>tY x0_ right)).bind fun r5 =>
 some (!r5)
def ER (cz:aQ):Option (Bool) :=
 some (decide ((cz.words.length:Int)≤60))
def ES (bo:bL):Option (Bool) :=
 ((
  if (bo.papers.length:Int)≤10 then (
   if (bo.words.length:Int)≤60 then (
    (rR bo.papers (ER)).bind fun r0 =>
    some r0)
   else
   some false)
  else
  some false
 ):Option (Bool)).bind fun t0 =>
 some t0
def tZ (ar:aF) (cc:aF→Option Bool):Option (Bool) :=
 (cc ar).bind fun r1 =>
 some (!r1)
def zU (bw:List aF) (right:aF→Option Bool):Option (Bool) :=
 (NO bw (fun x0_=>tZ x0_ right)).bind fun r5 =>
 some (!r5)
def zV (ec:Int) (low:Int) (high:Int):Option (Bool) :=
 ((
  if low≤ec then (
   some (decide (ec≤high)))
  else
  some false
 ):Option (Bool)).bind fun t4 =>
 some t4
def uA (ar:Int) (cc:Int→Option Bool):Option (Bool) :=
 (cc ar).bind fun r1 =>
 some (!r1)
def ET (bw:List UInt8) (right:Int→Option Bool):Option (Bool) :=
 (PW bw (fun x0_=>uA x0_ right)).bind fun r5 =>
 some (!r5)
def wQ (fx:Int):Option (Bool) :=
 ((
  if (33:Int)≤fx then (
   some (decide (fx≤126)))
  else
  some false
 ):Option (Bool)).bind fun t4 =>
 some t4
def mB (ai:aF):Option (Bool) :=
 ((
  (zV (ai.length:Int) 1 20).bind fun r0 =>
  if r0 then (
   bY (ai.length≤1073741824) <|
   (ET ai (wQ)).bind fun r1 =>
   some r1)
  else
  some false
 ):Option (Bool)).bind fun t0 =>
 some t0
def zW (cz:aQ):Option (Bool) :=
 (zU cz.words (mB)).bind fun r8 =>
 some r8
def EU (bo:bL):Option (Bool) :=
 ((
  (zU bo.words (mB)).bind fun r0 =>
  if r0 then (
   (rR bo.papers (zW)).bind fun r1 =>
   some r1)
  else
  some false
 ):Option (Bool)).bind fun t21 =>
 some t21
def zX (cz:aQ):Option (Bool) :=
 (zV cz.number 1 999).bind fun r7 =>
 some r7
def JF (bo:bL):Option (Bool) :=
 (rR bo.papers (zX)).bind fun r11 =>
 some r11
def yI (bo:bL) (s1:Nat×(List (Int×aQ))):Option ((Nat×(List (Int×aQ)))⊕((List (Int×aQ)))) :=
 if (s1.1:Int) < (bo.papers.length:Int) then (
  (bo.papers[s1.1]?).bind fun x0 =>
  some (.inl ((s1.1+1),(put s1.2 x0.number x0))))
 else
 some (.inr s1.2)
def GV (bo:bL):Option ((List (Int×aQ))) :=
 (bG (yI bo) (0,([]:List (Int×aQ)))).bind fun e60 =>
 some e60
def JG (bo:bL):Option (Bool) :=
 (GV bo).bind fun r10 =>
 some (decide ((r10.length:Int)=(bo.papers.length:Int)))
def zY (cz:aQ) (cc:List (Int×aQ)):Option (Bool) :=
 ((
  if cz.of=0 then (
   some true)
  else
  some (decide (((eE cc cz.of).getD (⟨0,0,0,0,([]:List aF)⟩:aQ)).number=cz.of))
 ):Option (Bool)).bind fun t0 =>
 some t0
def JH (bo:bL):Option (Bool) :=
 (GV bo).bind fun r10 =>
 (rR bo.papers (fun x0_=>zY x0_ r10)).bind fun r0 =>
 some r0
def wR (bo:bL) (r10:(List (Int×aQ))) (s1:Nat×Bool×Int×Int×Int×Int×List aF):Option ((Nat×Bool×Int×Int×Int×Int×List aF)⊕((Bool×Int×Int×Int×Int×List aF)⊕((Nat×Bool)⊕(Bool)))) :=
 if s1.2.2.2.1≠0 then (
  bY (-9223372036854775808≤((s1.1:Int)+1)∧((s1.1:Int)+1)≤9223372036854775807) <|
  if (bo.papers.length:Int) < ((s1.1:Int)+1) then (
   Option.map (fun z=>.inr (.inr z)) (
   some (.inr false)))
  else
  some (.inl ((s1.1+1),s1.2.1,((eE r10 s1.2.2.2.1).getD (⟨0,0,0,0,([]:List aF)⟩:aQ)).number,((eE r10 s1.2.2.2.1).getD (⟨0,0,0,0,([]:List aF)⟩:aQ)).of,((eE r10 s1.2.2.2.1).getD (⟨0,0,0,0,([]:List aF)⟩:aQ)).from_,((eE r10 s1.2.2.2.1).getD (⟨0,0,0,0,([]:List aF)⟩:aQ)).to_,((eE r10 s1.2.2.2.1).getD (⟨0,0,0,0,([]:List aF)⟩:aQ)).words)))
 else
 some (.inr (.inl (s1.2.1,s1.2.2.1,s1.2.2.2.1,s1.2.2.2.2.1,s1.2.2.2.2.2.1,s1.2.2.2.2.2.2)))
def wS (bo:bL) (r10:(List (Int×aQ))) (s1:Nat×Bool):Option ((Nat×Bool)⊕(Bool)) :=
 if (s1.1:Int) < (bo.papers.length:Int) then (
  (bo.papers[s1.1]?).bind fun x0 =>
  (bG (wR bo r10) (0,s1.2,x0.number,x0.of,x0.from_,x0.to_,x0.words)).bind fun eA1=>match eA1 with
  | .inr z=>some z
  | .inl t222 =>
  some (.inl ((s1.1+1),t222.1)))
 else
 some (.inr s1.2)
def EV (bo:bL):Option (Bool) :=
 (GV bo).bind fun r10 =>
 (bG (wS bo r10) (0,true)).bind fun e84 =>
 some e84
def QA (bo:bL) (number:Int):Option (List aF) :=
 if number=0 then (
  some bo.words)
 else
 (GV bo).bind fun r0 =>
 some (((eE r0 number).getD (⟨0,0,0,0,([]:List aF)⟩:aQ)).words)
def zZ (cz:aQ) (cc:bL):Option (Bool) :=
 ((
  if (0:Int)≤cz.from_ then (
   if cz.from_≤cz.to_ then (
    (QA cc cz.of).bind fun r0 =>
    some (decide (cz.to_≤(r0.length:Int))))
   else
   some false)
  else
  some false
 ):Option (Bool)).bind fun t32 =>
 some t32
def JI (bo:bL):Option (Bool) :=
 (rR bo.papers (fun x0_=>zZ x0_ bo)).bind fun r11 =>
 some r11
def WS  : Option (Unit) :=
 some ()
def NR (bo:bL):Option (Int) :=
 (WS).bind fun r10 =>
 (ES bo).bind fun r0 =>
 if r0 then (
  (EU bo).bind fun r1 =>
  if r1 then (
   (JF bo).bind fun r2 =>
   if r2 then (
    (JG bo).bind fun r3 =>
    if r3 then (
     (JH bo).bind fun r4 =>
     if r4 then (
      (EV bo).bind fun r5 =>
      if r5 then (
       (JI bo).bind fun r8 =>
       if r8 then (
        some 0)
       else
       some 1)
      else
      some 8)
     else
     some 7)
    else
    some 6)
   else
   some 2)
  else
  some 4)
 else
 some 3
def EW (ac:aI) (iu:List Int) (text:aF):Option (aI⊕Int) :=
 (jD (!ac.state.moved) 8).bind fun r3=>match r3 with
 | .inl y6=>(
  (zT text).bind fun r8 =>
  (NR (⟨r8,([]:List aQ)⟩:bL)).bind fun r0 =>
  (lH r0).bind fun r1=>match r1 with
  | .inl y0=>(
   some (.inl (⟨({ac.state with motion:=(⟨r8,([]:List aQ)⟩:bL),moved:=true}:cY)⟩:aI)))
  | .inr _=>(
   some (.inr r0)))
 | .inr _=>(
  some (.inr 8))
def JJ (ai:List aQ):Option (List aQ) :=
 bY (([]:List aQ).length+ai.length≤1073741824) <|
 some (([]:List aQ)++ai)
def EX (bw:List aQ) (cr:aQ):Option (List aQ) :=
 (JJ bw).bind fun r7 =>
 bY (r7.length+([cr]:List aQ).length≤1073741824) <|
 some (r7++([cr]:List aQ))
def EY (ac:aI) (bp:List Int) (text:aF):Option (aI⊕Int) :=
 (jD ac.state.moved 8).bind fun r3=>match r3 with
 | .inl y6=>(
  (bp[0]?).bind fun x9 =>
  (bp[1]?).bind fun x0 =>
  (bp[2]?).bind fun x1 =>
  (bp[3]?).bind fun x2 =>
  (zT text).bind fun r2 =>
  (EX ac.state.motion.papers (⟨x9,x0,x1,x2,r2⟩:aQ)).bind fun r0 =>
  (NR (⟨ac.state.motion.words,r0⟩:bL)).bind fun r1 =>
  (lH r1).bind fun r4=>match r4 with
  | .inl y0=>(
   some (.inl (⟨({ac.state with motion:=(⟨ac.state.motion.words,r0⟩:bL)}:cY)⟩:aI)))
  | .inr _=>(
   some (.inr r1)))
 | .inr _=>(
  some (.inr 8))
def TF (dh:aQ) (dl:aQ):Option (Bool) :=
 ((
  if dh.number≠dl.number then (
   if dh.of=dl.of then (
    if dh.from_ < dl.to_ then (
     some (decide (dl.from_ < dh.to_)))
    else
    some false)
   else
   some false)
  else
  some false
 ):Option (Bool)).bind fun t0 =>
 some t0
def EZ (choice:List Int) (r10:(List (Int×aQ))) (s1:Nat):Option ((Nat)⊕((Unit)⊕Int)) :=
 if (s1:Int) < (choice.length:Int) then (
  (choice[s1]?).bind fun x0 =>
  ((
   if ((eE r10 x0).getD (⟨0,0,0,0,([]:List aF)⟩:aQ)).of≠0 then (
    (LC choice (((eE r10 x0).getD (⟨0,0,0,0,([]:List aF)⟩:aQ)).of)).bind fun r0 =>
    some (!r0))
   else
   some false
  ):Option (Bool)).bind fun t0 =>
  if t0 then (
   some (.inr (.inr 10)))
  else
  some (.inl (s1+1)))
 else
 some (.inr (.inl ()))
def FA (choice:List Int) (r10:(List (Int×aQ))) (x0:Int) (s1:Nat):Option ((Nat)⊕((Unit)⊕((Nat)⊕((Unit)⊕Int)))) :=
 if (s1:Int) < (choice.length:Int) then (
  (choice[s1]?).bind fun x1 =>
  (TF ((eE r10 x0).getD (⟨0,0,0,0,([]:List aF)⟩:aQ)) ((eE r10 x1).getD (⟨0,0,0,0,([]:List aF)⟩:aQ))).bind fun r0 =>
  if r0 then (
   some (.inr (.inr (.inr (.inr 9)))))
  else
  some (.inl (s1+1)))
 else
 some (.inr (.inl ()))
def FB (choice:List Int) (r10:(List (Int×aQ))) (s1:Nat):Option ((Nat)⊕((Unit)⊕Int)) :=
 if (s1:Int) < (choice.length:Int) then (
  (choice[s1]?).bind fun x0 =>
  (bG (FA choice r10 x0) 0).bind fun eA1=>match eA1 with
  | .inr z=>some z
  | .inl t0 =>
  some (.inl (s1+1)))
 else
 some (.inr (.inl ()))
def TH (bo:bL) (choice:List Int):Option (Int) :=
 (GV bo).bind fun r10 =>
 (bG (EZ choice r10) 0).bind fun e48=>match e48 with
 | .inr z=>some z
 | .inl t0 =>
 (bG (FB choice r10) 0).bind fun eA1=>match eA1 with
 | .inr z=>some z
 | .inl t1 =>
 some 0
def yJ (choice:List Int) (r0:(List (Int×aQ))) (s1:Nat):Option ((Nat)⊕((Unit)⊕Int)) :=
 if (s1:Int) < (choice.length:Int) then (
  (choice[s1]?).bind fun x0 =>
  ((
   if ((eE r0 x0).getD (⟨0,0,0,0,([]:List aF)⟩:aQ)).number≠x0 then (
    some true)
   else
   if x0=0 then (
    some true)
   else
   if 0 < (s1:Int) then (
    (choice[((s1:Int) - 1).toNat]?).bind fun x1 =>
    some (decide (x0≤x1)))
   else
   some false
  ):Option (Bool)).bind fun t0 =>
  if t0 then (
   some (.inr (.inr 2)))
  else
  some (.inl (s1+1)))
 else
 some (.inr (.inl ()))
def TI (bo:bL) (choice:List Int):Option (Int) :=
 (NR bo).bind fun r10 =>
 if r10≠0 then (
  some r10)
 else
 (GV bo).bind fun r0 =>
 (bG (yJ choice r0) 0).bind fun e67=>match e67 with
 | .inr z=>some z
 | .inl t0 =>
 (TH bo choice).bind fun r1 =>
 some r1
def uB (bw:List Int) (s1:Nat):Option ((Nat)⊕((Unit)⊕Int)) :=
 if (s1:Int) < (bw.length:Int) then (
  (bw[s1]?).bind fun x0 =>
  if x0≠0 then (
   some (.inr (.inr x0)))
  else
  some (.inl (s1+1)))
 else
 some (.inr (.inl ()))
def TJ (bw:List Int):Option (Int) :=
 (bG (uB bw) 0).bind fun e16=>match e16 with
 | .inr z=>some z
 | .inl t0 =>
 some 0
def LG (dh:aQ) (dl:aQ):Option (Int) :=
 bY (-9223372036854775808≤(dh.from_ - dl.from_)∧(dh.from_ - dl.from_)≤9223372036854775807) <|
 bY (-9223372036854775808≤(dh.to_ - dl.to_)∧(dh.to_ - dl.to_)≤9223372036854775807) <|
 bY (-9223372036854775808≤(dh.number - dl.number)∧(dh.number - dl.number)≤9223372036854775807) <|
 (TJ ([(dh.from_ - dl.from_),(dh.to_ - dl.to_),(dh.number - dl.number)]:List Int)).bind fun r24 =>
 some r24
def LH (cc:bL) (ew:Int) (s1:Nat×List aQ):Option ((Nat×List aQ)⊕(List aQ)) :=
 if (s1.1:Int) < (cc.papers.length:Int) then (
  (cc.papers[s1.1]?).bind fun x0 =>
  ((
   if x0.of=ew then (
    bY (s1.2.length+1≤1073741824) <|
    some (s1.2++[x0]))
   else
   some s1.2
  ):Option (List aQ)).bind fun t0 =>
  some (.inl ((s1.1+1),t0)))
 else
 some (.inr s1.2)
def LI (eA1:List aQ) (l0:List aQ) (yield:aQ→Option Bool) (s1:Nat):Option ((Nat)⊕((Unit)⊕Unit)) :=
 if (s1:Int) < (eA1.length:Int) then (
  (l0[s1]?).bind fun x0 =>
  (yield x0).bind fun r0 =>
  if r0 then (
   some (.inl (s1+1)))
  else
  some (.inr (.inr ())))
 else
 some (.inr (.inl ()))
def m53 (yield:aQ→Option Bool) (cc:bL) (ew:Int):Option (Unit) :=
 (bG (LH cc ew) (0,([]:List aQ))).bind fun eA1 =>
 bY (eA1.Nodup) <|
 (iO (LG) eA1).bind fun l0 =>
 (bG (LI eA1 l0 yield) 0).bind fun eB1=>match eB1 with
 | .inr z=>some z
 | .inl t0 =>
 some ()
def yK (bo:bL) (s2:Int×List aF×List bF) (s1:Nat×List aQ):Option ((Nat×List aQ)⊕(List aQ)) :=
 if (s1.1:Int) < (bo.papers.length:Int) then (
  (bo.papers[s1.1]?).bind fun x0 =>
  ((
   if x0.of=s2.1 then (
    bY (s1.2.length+1≤1073741824) <|
    some (s1.2++[x0]))
   else
   some s1.2
  ):Option (List aQ)).bind fun t0 =>
  some (.inl ((s1.1+1),t0)))
 else
 some (.inr s1.2)
def FC (x1:aQ) (r0:List aF) (s2:Int×List aF×List bF) (s1:Int×List aF×List bF):Option ((Int×List aF×List bF)⊕(Int×List aF×List bF)) :=
 if s1.1 < x1.from_ then (
  bY (0≤s1.1) <|
  (r0[s1.1.toNat]?).bind fun x0 =>
  bY (s1.2.1.length+([x0]:List aF).length≤1073741824) <|
  bY (s1.2.2.length+([(⟨s2.1,s1.1⟩:bF)]:List bF).length≤1073741824) <|
  bY (-9223372036854775808≤(s1.1+1)∧(s1.1+1)≤9223372036854775807) <|
  some (.inl ((s1.1+1),(s1.2.1++([x0]:List aF)),(s1.2.2++([(⟨s2.1,s1.1⟩:bF)]:List bF)))))
 else
 some (.inr (s1.1,s1.2.1,s1.2.2))
def FD (eB1:List aQ) (l0:List aQ) (choice:List Int) (r1:List aF) (s2:Int×List aF×List bF) (R0_:(Int×List aF×List bF)→Option (List aF×List bF)) (s1:Nat×Int×List aF×List bF):Option ((Nat×Int×List aF×List bF)⊕(Int×List aF×List bF)) :=
 if (s1.1:Int) < (eB1.length:Int) then (
  (l0[s1.1]?).bind fun x0 =>
  ((
   (LC choice x0.number).bind fun r2 =>
   ((
    if r2 then (
     ((
      (bG (FC x0 r1 s2) (s1.2.1,s1.2.2.1,s1.2.2.2)).bind fun eA1 =>
      some (eA1.1,eA1.2.1,eA1.2.2)
     ):Option (Int×List aF×List bF)).bind fun t2 =>
     (R0_ (x0.number,t2.2.1,t2.2.2)).bind fun r0 =>
     some (x0.to_,r0.1,r0.2))
    else
    some (s1.2.1,s1.2.2.1,s1.2.2.2)
   ):Option (Int×List aF×List bF)).bind fun t0 =>
   some (t0.1,t0.2.1,t0.2.2)
  ):Option (Int×List aF×List bF)).bind fun t1 =>
  some (.inl ((s1.1+1),t1.1,t1.2.1,t1.2.2)))
 else
 some (.inr (s1.2.1,s1.2.2.1,s1.2.2.2))
def FE (r0:List aF) (s2:Int×List aF×List bF) (s1:Int×List aF×List bF):Option ((Int×List aF×List bF)⊕(Int×List aF×List bF)) :=
 if s1.1 < (r0.length:Int) then (
  bY (0≤s1.1) <|
  (r0[s1.1.toNat]?).bind fun x0 =>
  bY (s1.2.1.length+([x0]:List aF).length≤1073741824) <|
  bY (s1.2.2.length+([(⟨s2.1,s1.1⟩:bF)]:List bF).length≤1073741824) <|
  bY (-9223372036854775808≤(s1.1+1)∧(s1.1+1)≤9223372036854775807) <|
  some (.inl ((s1.1+1),(s1.2.1++([x0]:List aF)),(s1.2.2++([(⟨s2.1,s1.1⟩:bF)]:List bF)))))
 else
 some (.inr (s1.1,s1.2.1,s1.2.2))
def yL (bo:bL) (choice:List Int) (R0_:(Int×List aF×List bF)→Option (List aF×List bF)) (s1:Int×List aF×List bF):Option (List aF×List bF) :=
 (QA bo s1.1).bind fun r0 =>
 ((
  (bG (yK bo s1) (0,([]:List aQ))).bind fun eA1 =>
  bY (eA1.Nodup) <|
  (iO (LG) eA1).bind fun l0 =>
  (bG (FD eA1 l0 choice r0 s1 R0_) (0,0,s1.2.1,s1.2.2)).bind fun eB1 =>
  some (eB1.1,eB1.2.1,eB1.2.2)
 ):Option (Int×List aF×List bF)).bind fun t0 =>
 ((
  (bG (FE r0 s1) (t0.1,t0.2.1,t0.2.2)).bind fun eC1 =>
  some (eC1.1,eC1.2.1,eC1.2.2)
 ):Option (Int×List aF×List bF)).bind fun t1 =>
 some (t1.2.1,t1.2.2)
def nE (bo:bL) (choice:List Int):Nat→(Int×List aF×List bF)→Option (List aF×List bF)
 | 0,_=>none
 | n_+1,s1=>yL bo choice (nE bo choice n_) s1
def QB (bo:bL) (choice:List Int):Option (List aF×List bF×Int) :=
 (TI bo choice).bind fun r0 =>
 if r0≠0 then (
  some (([]:List aF),([]:List bF),r0))
 else
 (uX (fun n_=>nE bo choice n_ (0,([]:List aF),([]:List bF)))).bind fun r1 =>
 some (r1.1,r1.2,0)
def FF (ac:aI) (bp:List Int) (cx:aF):Option (aI⊕Int) :=
 (jD ac.state.moved 8).bind fun r3=>match r3 with
 | .inl y6=>(
  (bp[0]?).bind fun x8 =>
  (rP ac.state.choice x8).bind fun r0 =>
  (jD (!r0.2) 6).bind fun r4=>match r4 with
  | .inl y0=>(
   (pW ac.state.choice).bind fun r1 =>
   bY (0≤r0.1) <|
   bY (r0.1.toNat≤r1.length) <|
   bY (r1.length+([x8]:List Int).length≤1073741824) <|
   (QB ac.state.motion (r1.take r0.1.toNat++([x8]:List Int)++r1.drop r0.1.toNat)).bind fun r2 =>
   (lH r2.2.2).bind fun r5=>match r5 with
   | .inl y1=>(
    some (.inl (⟨({ac.state with choice:=(r1.take r0.1.toNat++([x8]:List Int)++r1.drop r0.1.toNat)}:cY)⟩:aI)))
   | .inr _=>(
    some (.inr r2.2.2)))
  | .inr _=>(
   some (.inr 6)))
 | .inr _=>(
  some (.inr 8))
def FG (ac:aI) (bp:List Int) (cx:aF):Option (aI⊕Int) :=
 ((
  if ac.state.moved then (
   (jD (!ac.state.bound) 8).bind fun r22=>match r22 with
   | .inl y1=>(
    some (.inl ()))
   | .inr _=>(
    some (.inr (.inr 8))))
  else
  (jD false 8).bind fun r1=>match r1 with
  | .inl y2=>(
   some (.inl ()))
  | .inr _=>(
   some (.inr (.inr 8)))
 ):Option ((Unit)⊕(aI⊕Int))).bind fun t0=>match t0 with
 | .inr z=>some z
 | .inl t1 =>
 (QB ac.state.motion ac.state.choice).bind fun r0 =>
 (lH r0.2.2).bind fun r2=>match r2 with
 | .inl y3=>(
  (CJ r0.1 [32]).bind fun r3 =>
  (zO ac bp r3).bind fun r4=>match r4 with
  | .inl y0=>(
   some (.inl (⟨({y0.state with motion:=(⟨([]:List aF),([]:List aQ)⟩:bL),moved:=false,choice:=([]:List Int)}:cY)⟩:aI)))
  | .inr y0=>(
   some (.inr y0)))
 | .inr _=>(
  some (.inr r0.2.2))
def TK  : Option ((List (aF×cN))) :=
 some (put (put (put (put (put (put (put (put (put (put (put (put (put (put (put (put (put ([]:List (aF×cN)) [100,97,121] (⟨1,false,(some 110)⟩:cN)) [115,97,121] (⟨1,true,(some 111)⟩:cN)) [98,105,110,100] (⟨3,false,(some 112)⟩:cN)) [99,104,97,110,103,101] (⟨2,true,(some 113)⟩:cN)) [114,101,109,111,118,101] (⟨2,false,(some 114)⟩:cN)) [97,100,100] (⟨3,true,(some 115)⟩:cN)) [99,105,116,101] (⟨2,false,(some 116)⟩:cN)) [104,105,100,101] (⟨3,false,(some 117)⟩:cN)) [104,111,117,115,101] (⟨1,false,(some 118)⟩:cN)) [100,105,118,105,100,101] (⟨4,false,(some 119)⟩:cN)) [116,101,108,108] (⟨3,false,(some 120)⟩:cN)) [112,97,105,114] (⟨2,false,(some 121)⟩:cN)) [114,101,115,117,108,116] (⟨0,false,(some 122)⟩:cN)) [109,111,118,101] (⟨0,true,(some 123)⟩:cN)) [112,97,112,101,114] (⟨4,true,(some 124)⟩:cN)) [97,100,111,112,116] (⟨1,false,(some 125)⟩:cN)) [111,114,100,101,114] (⟨1,false,(some 126)⟩:cN))
def TL (ai:aF):Option (Int⊕Unit) :=
 (IJ ai).bind fun r1 =>
 ((
  if r1.2 then (
   (jD false 4).bind fun r0=>match r0 with
   | .inl y0=>(
    some (.inl ()))
   | .inr _=>(
    some (.inr (.inr ()))))
  else
  (IK r1.1).bind fun r2 =>
  if r2=ai then (
   (tI r1.1 (-999999999) 999999999).bind fun r3 =>
   (jD r3 4).bind fun r4=>match r4 with
   | .inl y1=>(
    some (.inl ()))
   | .inr _=>(
    some (.inr (.inr ()))))
  else
  (jD false 4).bind fun r5=>match r5 with
  | .inl y2=>(
   some (.inl ()))
  | .inr _=>(
   some (.inr (.inr ())))
 ):Option ((Unit)⊕(Int⊕Unit))).bind fun t34=>match t34 with
 | .inr z=>some z
 | .inl t37 =>
 some (.inl r1.1)
def QC (q:Option Nat) (ac:aI) (bp:List Int) (cx:aF):Option (aI⊕Int) :=
 if q=some 110 then CP ac bp cx
 else if q=some 111 then zO ac bp cx
 else if q=some 112 then CY ac bp cx
 else if q=some 113 then DJ ac bp cx
 else if q=some 114 then DK ac bp cx
 else if q=some 115 then DL ac bp cx
 else if q=some 116 then DP ac bp cx
 else if q=some 117 then DS ac bp cx
 else if q=some 118 then DT ac bp cx
 else if q=some 119 then DZ ac bp cx
 else if q=some 120 then EB ac bp cx
 else if q=some 121 then ED ac bp cx
 else if q=some 122 then EQ ac bp cx
 else if q=some 123 then EW ac bp cx
 else if q=some 124 then EY ac bp cx
 else if q=some 125 then FF ac bp cx
 else if q=some 126 then FG ac bp cx
 else none
def FH (r7:(List (aF×cN))) (r4:aF×aF×Bool) (ac:aI) (s1:Nat×aF×Bool×List Int):Option ((Nat×aF×Bool×List Int)⊕((aF×Bool×List Int)⊕(aI×Int))) :=
 if (s1.1:Int) < ((eE r7 r4.1).getD (⟨0,false,(none:Option Nat)⟩:cN)).many then (
  (jD s1.2.2.1 4).bind fun r1=>match r1 with
  | .inl y1=>(
   (PT s1.2.1 [32]).bind fun r0 =>
   (TL r0.1).bind fun r2=>match r2 with
   | .inl y0=>(
    bY (s1.2.2.2.length+1≤1073741824) <|
    bY (-9223372036854775808≤((s1.1:Int)+1)∧((s1.1:Int)+1)≤9223372036854775807) <|
    some (.inl ((s1.1+1),r0.2.1,r0.2.2,(s1.2.2.2++[y0]))))
   | .inr _=>(
    some (.inr (.inr (ac,4)))))
  | .inr _=>(
   some (.inr (.inr (ac,4)))))
 else
 some (.inr (.inl (s1.2.1,s1.2.2.1,s1.2.2.2)))
def NS (ac:aI) (text:aF):Option (aI×Int) :=
 (PT text [32]).bind fun r4 =>
 (TK).bind fun r7 =>
 (jD ((eE r7 r4.1).isSome) 4).bind fun r0=>match r0 with
 | .inl y1=>(
  (bG (FH r7 r4 ac) (0,r4.2.1,r4.2.2,([]:List Int))).bind fun e99=>match e99 with
  | .inr z=>some z
  | .inl t102 =>
  (jD (t102.2.1==((eE r7 r4.1).getD (⟨0,false,(none:Option Nat)⟩:cN)).text) 4).bind fun r1=>match r1 with
  | .inl y2=>(
   (QC (((eE r7 r4.1).getD (⟨0,false,(none:Option Nat)⟩:cN)).do_) ac t102.2.2 t102.1).bind fun r2=>match r2 with
   | .inl y0=>(
    some (y0,0))
   | .inr y0=>(
    some (ac,y0)))
  | .inr _=>(
   some (ac,4)))
 | .inr _=>(
  some (ac,4))
def uD (lines:List aF) (s:Nat×aI×List Int):Option ((Nat×aI×List Int)⊕(aI×List Int)) :=
 if (s.1:Int) < (lines.length:Int) then (
  (lines[s.1]?).bind fun x =>
  (NS s.2.1 x).bind fun r =>
  bY (s.2.2.length+1≤1073741824) <|
  some (.inl ((s.1+1),r.1,(s.2.2++[r.2]))))
 else
 some (.inr s.2)
def NT (lines:List aF):Option (aI×List Int) :=
 (bG (uD lines) (0,(⟨(⟨0,0,(⟨0,0,0,0,([]:List dX)⟩:bU),false,([]:List aO),([]:List gO),([]:List aF),(⟨([]:List aF),([]:List aQ)⟩:bL),false,([]:List Int),(⟨0,(⟨([]:List Int),([]:List Int)⟩:bJ),(⟨([]:List Int),([]:List Int)⟩:bJ),([]:List eY),([]:List dP),0,0,0,0⟩:aW),false,([]:List UInt8)⟩:cY)⟩:aI),([]:List Int))).bind fun e =>
 some e
def m9 (lines:List aF):Option (cY×List Int×Int) :=
 (NP lines).bind fun r2 =>
 if r2≠0 then (
  some ((⟨0,0,(⟨0,0,0,0,([]:List dX)⟩:bU),false,([]:List aO),([]:List gO),([]:List aF),(⟨([]:List aF),([]:List aQ)⟩:bL),false,([]:List Int),(⟨0,(⟨([]:List Int),([]:List Int)⟩:bJ),(⟨([]:List Int),([]:List Int)⟩:bJ),([]:List eY),([]:List dP),0,0,0,0⟩:aW),false,([]:List UInt8)⟩:cY),([]:List Int),r2))
 else
 (NT lines).bind fun r11 =>
 some (r11.1.state,r11.2,0)
def FI (turned:Bool) (s1:Int×Int×dF):Option ((Int×Int×dF)⊕(dF)) :=
 if 0≤s1.2.1 then (
  bY (0≤s1.1∧0 < (8:Int)) <|
  ((
   if turned then (
    some (7 - (s1.1%8)))
   else
   some (s1.1%8)
  ):Option (Int)).bind fun t0 =>
  bY (-9223372036854775808≤(48+t0)∧(48+t0)≤9223372036854775807) <|
  bY (0≤(48+t0)∧(48+t0)≤255) <|
  bY (s1.2.1 < 6) <|
  bY (0≤s1.1∧s1.1≤9223372036854775807∧0 < (8:Int)) <|
  bY (-9223372036854775808≤(s1.2.1 - 1)∧(s1.2.1 - 1)≤9223372036854775807) <|
  some (.inl ((s1.1/8),(s1.2.1 - 1),(dF.set s1.2.2 s1.2.1.toNat (48+t0)))))
 else
 some (.inr s1.2.2)
def FJ (ec:Int) (many:Int) (turned:Bool):Option (aF) :=
 bY (-9223372036854775808≤(many - 1)∧(many - 1)≤9223372036854775807) <|
 (bG (FI turned) (ec,(many - 1),dF.zero)).bind fun e46 =>
 bY (∀ v∈dF.vals e46,0≤v∧v≤255) <|
 bY (0≤many) <|
 bY (many.toNat≤6) <|
 some (((dF.vals e46).map GT).take many.toNat)
def LJ (ai:aF) (s1:Nat×Int):Option ((Nat×Int)⊕(Int)) :=
 if (s1.1:Int) < (ai.length:Int) then (
  (ai[s1.1]?).bind fun x0 =>
  bY (-9223372036854775808≤(29*s1.2)∧(29*s1.2)≤9223372036854775807) <|
  bY (-9223372036854775808≤((29*s1.2)+(x0.toNat:Int))∧((29*s1.2)+(x0.toNat:Int))≤9223372036854775807) <|
  bY (-9223372036854775808≤(((29*s1.2)+(x0.toNat:Int))+3)∧(((29*s1.2)+(x0.toNat:Int))+3)≤9223372036854775807) <|
  bY (0≤(((29*s1.2)+(x0.toNat:Int))+3)∧0 < (262139:Int)) <|
  some (.inl ((s1.1+1),((((29*s1.2)+(x0.toNat:Int))+3)%262139))))
 else
 some (.inr s1.2)
def ZC (ai:aF):Option (aF) :=
 bY (ai.length≤1073741824) <|
 (bG (LJ ai) (0,11)).bind fun e47 =>
 (FJ (ai.length:Int) 4 false).bind fun r0 =>
 bY ([91].length+r0.length≤1073741824) <|
 (FJ (ai.length:Int) 4 true).bind fun r1 =>
 bY (([91]++r0).length+r1.length≤1073741824) <|
 (FJ e47 6 false).bind fun r2 =>
 bY ((([91]++r0)++r1).length+r2.length≤1073741824) <|
 bY (((([91]++r0)++r1)++r2).length+[93].length≤1073741824) <|
 bY ((((([91]++r0)++r1)++r2)++[93]).length+ai.length≤1073741824) <|
 bY (((((([91]++r0)++r1)++r2)++[93])++ai).length+[10].length≤1073741824) <|
 some (((((([91]++r0)++r1)++r2)++[93])++ai)++[10])
def LK (lines:List aF) (s1:Nat×List UInt8):Option ((Nat×List UInt8)⊕(List UInt8)) :=
 if (s1.1:Int) < (lines.length:Int) then (
  (lines[s1.1]?).bind fun x0 =>
  (ZC x0).bind fun r0 =>
  bY (s1.2.length+r0.length≤1073741824) <|
  some (.inl ((s1.1+1),(s1.2++r0))))
 else
 some (.inr s1.2)
def ZD (lines:List aF):Option (List UInt8) :=
 (bG (LK lines) (0,([]:List UInt8))).bind fun e64 =>
 some e64
def m18 (lines:List aF):Option (List UInt8×Int) :=
 (NP lines).bind fun r1 =>
 if r1≠0 then (
  some (([]:List UInt8),r1))
 else
 (ZD lines).bind fun r10 =>
 some (r10,0)
def LL (dh:List aF) (dl:List aF) (s1:Nat):Option ((Nat)⊕((Unit)⊕Bool)) :=
 if (s1:Int) < (dh.length:Int) then (
  (dh[s1]?).bind fun x0 =>
  (dl[s1]?).bind fun x1 =>
  if x0≠x1 then (
   some (.inr (.inr false)))
  else
  some (.inl (s1+1)))
 else
 some (.inr (.inl ()))
def m19 (dh:List aF) (dl:List aF):Option (Bool) :=
 if (dh.length:Int)≠(dl.length:Int) then (
  some false)
 else
 (bG (LL dh dl) 0).bind fun e31=>match e31 with
 | .inr z=>some z
 | .inl t34 =>
 some true
def m8  : Option (Bool) :=
 (m17).bind fun r1 =>
 (m9 r1).bind fun r8 =>
 (m18 ([[97]]:List aF)).bind fun r0 =>
 ((
  if r8.2.2=0 then (
   if r0.2=0 then (
    if (r8.2.1.length:Int)=18 then (
     (r8.2.1[11]?).bind fun x0 =>
     if x0=10 then (
      (r8.2.1[17]?).bind fun x1 =>
      if x1=0 then (
       if r8.1.bound then (
        if (r8.1.results.length:Int)=1 then (
         (r8.1.results[0]?).bind fun x2 =>
         if (x2.toNat:Int)=1 then (
          (m19 r8.1.cites ([[118,111,108,46,32,51,44,32,99,111,108,46,32,49,44,32,108,46,32,50]]:List aF)).bind fun r2 =>
          if r2 then (
           some (decide (r0.1=[91,48,48,48,49,55,55,55,54,48,48,48,54,52,51,93,97,10])))
          else
          some false)
         else
         some false)
        else
        some false)
       else
       some false)
      else
      some false)
     else
     some false)
    else
    some false)
   else
   some false)
  else
  some false
 ):Option (Bool)).bind fun t0 =>
 some t0
def QD (bw:List aF):Option (List aF) :=
 bY (([]:List aF).length+bw.length≤1073741824) <|
 some (([]:List aF)++bw)
def TM (gh:Int) (cc:List aF) (ew:Int):Option (Bool) :=
 bY (-9223372036854775808≤(ew+1)∧(ew+1)≤9223372036854775807) <|
 bY (0≤(ew+1)) <|
 bY ((ew+1).toNat≤cc.length) <|
 (NQ (cc.take ((ew+1).toNat))).bind fun r10 =>
 bY (-9223372036854775808≤(gh+1)∧(gh+1)≤9223372036854775807) <|
 bY (0≤gh∧gh≤(gh+1)∧(gh+1)≤(r10.length:Int)) <|
 (NT (r10.take gh.toNat++r10.drop ((gh+1).toNat))).bind fun r0 =>
 bY (-9223372036854775808≤(ew - 1)∧(ew - 1)≤9223372036854775807) <|
 bY (0≤(ew - 1)) <|
 (r0.2[(ew - 1).toNat]?).bind fun x0 =>
 some (decide (x0=0))
def yM (line:Int) (r0:aI×List Int) (lines:List aF) (s1:Nat×List Int):Option ((Nat×List Int)⊕(List Int)) :=
 if (s1.1:Int) < line then (
  ((
   bY (0≤line) <|
   (r0.2[line.toNat]?).bind fun x0 =>
   if x0≠0 then (
    (r0.2[s1.1]?).bind fun x1 =>
    if x1=0 then (
     (TM (s1.1:Int) lines line).bind fun r1 =>
     some r1)
    else
    some false)
   else
   some false
  ):Option (Bool)).bind fun t0 =>
  ((
   if t0 then (
    bY (s1.2.length+1≤1073741824) <|
    some (s1.2++[(s1.1:Int)]))
   else
   some s1.2
  ):Option (List Int)).bind fun t1 =>
  bY (-9223372036854775808≤((s1.1:Int)+1)∧((s1.1:Int)+1)≤9223372036854775807) <|
  some (.inl ((s1.1+1),t1)))
 else
 some (.inr s1.2)
def m16 (lines:List aF) (line:Int):Option (List Int×Int) :=
 (NP lines).bind fun r7 =>
 if r7≠0 then (
  some (([]:List Int),r7))
 else
 (tI line 0 ((lines.length:Int) - 1)).bind fun r0 =>
 if r0 then (
  bY (-9223372036854775808≤(line+1)∧(line+1)≤9223372036854775807) <|
  bY (0≤(line+1)) <|
  bY ((line+1).toNat≤lines.length) <|
  (NT (lines.take ((line+1).toNat))).bind fun r1 =>
  (bG (yM line r1 lines) (0,([]:List Int))).bind fun eA1 =>
  some (eA1,0))
 else
 some (([]:List Int),2)
def JK (r0:List Int×Int) (ce:Int) (lines:List aF) (r1:cY×List Int×Int) (s1:Nat):Option ((Nat)⊕((Unit)⊕Bool)) :=
 if (s1:Int) < (r0.1.length:Int) then (
  ((
   (r0.1[s1]?).bind fun x0 =>
   if x0 < 0 then (
    some true)
   else
   if (ce%(lines.length:Int))≤x0 then (
    some true)
   else
   bY (0≤x0) <|
   (r1.2.1[x0.toNat]?).bind fun x1 =>
   if x1≠0 then (
    some true)
   else
   if 0 < (s1:Int) then (
    (r0.1[((s1:Int) - 1).toNat]?).bind fun x2 =>
    some (decide (x0≤x2)))
   else
   some false
  ):Option (Bool)).bind fun t0 =>
  if t0 then (
   some (.inr (.inr false)))
  else
  some (.inl (s1+1)))
 else
 some (.inr (.inl ()))
def JL (r0:List Int×Int) (other:Int) (ce:Int) (lines:List aF) (s1:Nat×Bool):Option ((Nat×Bool)⊕(Bool)) :=
 if (s1.1:Int) < (r0.1.length:Int) then (
  ((
   if s1.2 then (
    some true)
   else
   (r0.1[s1.1]?).bind fun x0 =>
   some (decide (x0=(other%(ce%(lines.length:Int)))))
  ):Option (Bool)).bind fun t0 =>
  some (.inl ((s1.1+1),t0)))
 else
 some (.inr s1.2)
def m5 (lines:List aF) (ce:Int) (other:Int):Option (Bool) :=
 ((
  (m6 lines).bind fun r5 =>
  if r5 then (
   (m7 lines).bind fun r8 =>
   if r8 then (
    some (decide ((lines.length:Int)=0)))
   else
   some true)
  else
  some true
 ):Option (Bool)).bind fun t1 =>
 if t1 then (
  (m8).bind fun r9 =>
  some r9)
 else
 bY (-9223372036854775808≤ce∧ce≤9223372036854775807) <|
 bY (0≤ce∧0 < (lines.length:Int)) <|
 (QD lines).bind fun r2 =>
 (m9 r2).bind fun r0 =>
 (m16 r2 (ce%(lines.length:Int))).bind fun r1 =>
 ((
  if r0.2.2≠0 then (
   some true)
  else
  if r1.2≠0 then (
   some true)
  else
  if (r0.2.1.length:Int)≠(lines.length:Int) then (
   some true)
  else
  (r0.2.1[(ce%(lines.length:Int)).toNat]?).bind fun x0 =>
  if x0=0 then (
   some (decide ((r1.1.length:Int)≠0)))
  else
  some false
 ):Option (Bool)).bind fun t2 =>
 if t2 then (
  some false)
 else
 (bG (JK r1 ce lines r0) 0).bind fun eB1=>match eB1 with
 | .inr z=>some z
 | .inl t6 =>
 ((
  if (ce%(lines.length:Int))=0 then (
   some true)
  else
  (r0.2.1[(ce%(lines.length:Int)).toNat]?).bind fun x1 =>
  some (decide (x1=0))
 ):Option (Bool)).bind fun t3 =>
 if t3 then (
  (m8).bind fun rA1 =>
  some rA1)
 else
 bY (-9223372036854775808≤other∧other≤9223372036854775807) <|
 bY (0≤other∧0 < (ce%(lines.length:Int))) <|
 ((
  bY ((other%(ce%(lines.length:Int))).toNat≤lines.length) <|
  bY (((other%(ce%(lines.length:Int)))+1).toNat≤lines.length) <|
  (QD (lines.take ((other%(ce%(lines.length:Int))).toNat))).bind fun r3 =>
  bY (r3.length+(lines.drop (((other%(ce%(lines.length:Int)))+1).toNat)).length≤1073741824) <|
  (m9 (r3++(lines.drop (((other%(ce%(lines.length:Int)))+1).toNat)))).bind fun r4 =>
  some (r4.2.1,r4.2.2)
 ):Option (List Int×Int)).bind fun t0 =>
 ((
  if t0.2≠0 then (
   some true)
  else
  some (decide ((t0.1.length:Int)≠((lines.length:Int) - 1)))
 ):Option (Bool)).bind fun t4 =>
 if t4 then (
  some false)
 else
 (bG (JL r1 other ce lines) (0,false)).bind fun eA1 =>
 ((
  (r0.2.1[(other%(ce%(lines.length:Int))).toNat]?).bind fun x2 =>
  if x2=0 then (
   bY (0≤((ce%(lines.length:Int)) - 1)) <|
   (t0.1[((ce%(lines.length:Int)) - 1).toNat]?).bind fun x3 =>
   if eA1==decide (x3=0) then (
    (m8).bind fun rB1 =>
    some rB1)
   else
   some false)
  else
  if eA1==false then (
   (m8).bind fun rC1 =>
   some rC1)
  else
  some false
 ):Option (Bool)).bind fun t5 =>
 some t5
end
end T12
namespace T12
open Go.Proofs
abbrev WT:=@Tryz.call10
abbrev ZE:=@Tryz.call100
abbrev ZF:=@Tryz.call101
abbrev FK:=@Tryz.call102
abbrev ZG:=@Tryz.call103
abbrev ZH:=@Tryz.call104
abbrev ZI:=@Tryz.call105
abbrev ZJ:=@Tryz.call106
abbrev ZK:=@Tryz.call107
abbrev NU:=@Tryz.call108
abbrev C11:=@Tryz.call11
abbrev ZL:=@Tryz.call110
abbrev NV:=@Tryz.call111
abbrev ZM:=@Tryz.call112
abbrev ZN:=@Tryz.call113
abbrev ZO:=@Tryz.call114
abbrev ZP:=@Tryz.call115
abbrev ZQ:=@Tryz.call116
abbrev ZR:=@Tryz.call117
abbrev ZS:=@Tryz.call118
abbrev ZT:=@Tryz.call119
abbrev C12:=@Tryz.call12
abbrev ZU:=@Tryz.call120
abbrev ZV:=@Tryz.call121
abbrev ZW:=@Tryz.call122
abbrev ZX:=@Tryz.call123
abbrev ZY:=@Tryz.call124
abbrev ZZ:=@Tryz.call125
abbrev aAa:=@Tryz.call126
abbrev aAb:=@Tryz.call127
abbrev aAc:=@Tryz.call128
abbrev aAd:=@Tryz.call129
abbrev C13:=@Tryz.call13
abbrev FL:=@Tryz.call130
abbrev aAe:=@Tryz.call131
abbrev aAf:=@Tryz.call132
abbrev TN:=@Tryz.call133
abbrev TO:=@Tryz.call134
abbrev aAg:=@Tryz.call135
abbrev aAh:=@Tryz.call136
abbrev aAi:=@Tryz.call137
abbrev TP:=@Tryz.call138
abbrev aAj:=@Tryz.call139
abbrev aAk:=@Tryz.call140
abbrev aAl:=@Tryz.call141
abbrev aAm:=@Tryz.call142
abbrev aAn:=@Tryz.call143
abbrev aAo:=@Tryz.call144
abbrev TQ:=@Tryz.call158
abbrev aAp:=@Tryz.call159
abbrev C16:=@Tryz.call16
abbrev aAq:=@Tryz.call160
abbrev aAr:=@Tryz.call161
abbrev aAs:=@Tryz.call162
abbrev aAt:=@Tryz.call163
abbrev TR:=@Tryz.call164
abbrev aAu:=@Tryz.call166
abbrev aAv:=@Tryz.call167
abbrev iT:=@Tryz.call168
abbrev NW:=@Tryz.call169
abbrev C17:=@Tryz.call17
abbrev NX:=@Tryz.call170
abbrev AA:=@Tryz.call171
abbrev aAw:=@Tryz.call172
abbrev aAx:=@Tryz.call173
abbrev TS:=@Tryz.call174
abbrev aAy:=@Tryz.call175
abbrev aAz:=@Tryz.call176
abbrev JM:=@Tryz.call177
abbrev FM:=@Tryz.call178
abbrev FN:=@Tryz.call179
abbrev C18:=@Tryz.call18
abbrev FO:=@Tryz.call180
abbrev aA0:=@Tryz.call181
abbrev aA1:=@Tryz.call182
abbrev TT:=@Tryz.call183
abbrev aA2:=@Tryz.call184
abbrev aA3:=@Tryz.call185
abbrev aA4:=@Tryz.call189
abbrev C19:=@Tryz.call19
abbrev aA5:=@Tryz.call190
abbrev aA6:=@Tryz.call191
abbrev aA7:=@Tryz.call192
abbrev aA8:=@Tryz.call193
abbrev aA9:=@Tryz.call198
abbrev aBa:=@Tryz.call199
abbrev C20:=@Tryz.call20
abbrev aBc:=@Tryz.call204
abbrev JN:=@Tryz.call205
abbrev aBd:=@Tryz.call206
abbrev aBe:=@Tryz.call207
abbrev aBf:=@Tryz.call208
abbrev NY:=@Tryz.call209
abbrev C21:=@Tryz.call21
abbrev AB:=@Tryz.call210
abbrev NZ:=@Tryz.call211
abbrev aBh:=@Tryz.call212
abbrev OA:=@Tryz.call213
abbrev TU:=@Tryz.call214
abbrev aBi:=@Tryz.call215
abbrev aBj:=@Tryz.call216
abbrev aBk:=@Tryz.call217
abbrev TV:=@Tryz.call218
abbrev C22:=@Tryz.call22
abbrev aBl:=@Tryz.call221
abbrev aBm:=@Tryz.call222
abbrev aBn:=@Tryz.call223
abbrev aBo:=@Tryz.call225
abbrev C23:=@Tryz.call23
abbrev aBp:=@Tryz.call235
abbrev aBq:=@Tryz.call236
abbrev C24:=@Tryz.call24
abbrev wT:=@Tryz.call240
abbrev aBr:=@Tryz.call241
abbrev aBs:=@Tryz.call242
abbrev OB:=@Tryz.call243
abbrev OC:=@Tryz.call244
abbrev JO:=@Tryz.call245
abbrev aBt:=@Tryz.call246
abbrev aBu:=@Tryz.call247
abbrev aBv:=@Tryz.call248
abbrev TW:=@Tryz.call249
abbrev C25:=@Tryz.call25
abbrev aBw:=@Tryz.call250
abbrev JP:=@Tryz.call251
abbrev C26:=@Tryz.call26
abbrev aBx:=@Tryz.call262
abbrev aBy:=@Tryz.call263
abbrev aBz:=@Tryz.call264
abbrev aB0:=@Tryz.call265
abbrev aB1:=@Tryz.call266
abbrev aB2:=@Tryz.call267
abbrev TX:=@Tryz.call268
abbrev OD:=@Tryz.call269
abbrev C27:=@Tryz.call27
abbrev OE:=@Tryz.call270
abbrev aB3:=@Tryz.call271
abbrev aB4:=@Tryz.call272
abbrev aB5:=@Tryz.call273
abbrev aB6:=@Tryz.call274
abbrev C28:=@Tryz.call28
abbrev aB7:=@Tryz.call284
abbrev aB8:=@Tryz.call285
abbrev aB9:=@Tryz.call286
abbrev aCa:=@Tryz.call288
abbrev TY:=@Tryz.call289
abbrev C29:=@Tryz.call29
abbrev WU:=@Tryz.call30
abbrev C31:=@Tryz.call31
abbrev C32:=@Tryz.call32
abbrev C33:=@Tryz.call33
abbrev C34:=@Tryz.call34
abbrev C35:=@Tryz.call35
abbrev C36:=@Tryz.call36
abbrev C38:=@Tryz.call38
abbrev C41:=@Tryz.call41
abbrev AR:=@Tryz.call42
abbrev C43:=@Tryz.call43
abbrev C44:=@Tryz.call44
abbrev C45:=@Tryz.call45
abbrev C46:=@Tryz.call46
abbrev C47:=@Tryz.call47
abbrev C48:=@Tryz.call48
abbrev C49:=@Tryz.call49
abbrev C50:=@Tryz.call50
abbrev QE:=@Tryz.call51
abbrev C52:=@Tryz.call52
abbrev C53:=@Tryz.call53
abbrev C54:=@Tryz.call54
abbrev C55:=@Tryz.call55
abbrev C56:=@Tryz.call56
abbrev C57:=@Tryz.call57
abbrev C58:=@Tryz.call58
abbrev C59:=@Tryz.call59
abbrev C6:=@Tryz.call6
abbrev WV:=@Tryz.call60
abbrev WW:=@Tryz.call61
abbrev C62:=@Tryz.call62
abbrev C63:=@Tryz.call63
abbrev C64:=@Tryz.call64
abbrev C65:=@Tryz.call65
abbrev WX:=@Tryz.call66
abbrev C67:=@Tryz.call67
abbrev C68:=@Tryz.call68
abbrev C69:=@Tryz.call69
abbrev C7:=@Tryz.call7
abbrev C70:=@Tryz.call70
abbrev C72:=@Tryz.call72
abbrev C73:=@Tryz.call73
abbrev C74:=@Tryz.call74
abbrev C75:=@Tryz.call75
abbrev C77:=@Tryz.call77
abbrev C78:=@Tryz.call78
abbrev eS:=@Tryz.call79
abbrev C8:=@Tryz.call8
abbrev C80:=@Tryz.call80
abbrev C81:=@Tryz.call81
abbrev C82:=@Tryz.call82
abbrev C84:=@Tryz.call84
abbrev C85:=@Tryz.call85
abbrev C86:=@Tryz.call86
abbrev C87:=@Tryz.call87
abbrev C88:=@Tryz.call88
abbrev C9:=@Tryz.call9
abbrev C94:=@Tryz.call94
abbrev C98:=@Tryz.call98
abbrev C99:=@Tryz.call99
abbrev wU:=@Tryz.isAgg104
abbrev TZ:=@Tryz.isAgg110
abbrev aCc:=@Tryz.isAgg113
abbrev aCd:=@Tryz.isAgg116
abbrev aCe:=@Tryz.isAgg119
abbrev aCf:=@Tryz.isAgg122
abbrev OF:=@Tryz.isAgg128
abbrev FP:=@Tryz.isAgg129
abbrev OH:=@Tryz.isAgg130
abbrev JQ:=@Tryz.isAgg137
abbrev aCg:=@Tryz.isAgg143
abbrev aCh:=@Tryz.isAgg152
abbrev wV:=@Tryz.isAgg162
abbrev wW:=@Tryz.isAgg164
abbrev UA:=@Tryz.isAgg167
abbrev AC:=@Tryz.isAgg180
abbrev OI:=@Tryz.isAgg182
abbrev aCi:=@Tryz.isAgg184
abbrev mC:=@Tryz.isAgg217
abbrev qO:=@Tryz.isAgg22
abbrev aCj:=@Tryz.isAgg226
abbrev GW:=@Tryz.isAgg25
abbrev aCk:=@Tryz.isAgg259
abbrev wX:=@Tryz.isAgg260
abbrev AD:=@Tryz.isAgg265
abbrev rS:=@Tryz.isAgg266
abbrev pE:=@Tryz.isAgg267
abbrev mJ:=@Tryz.isAgg27
abbrev QF:=@Tryz.isAgg28
abbrev G29:=@Tryz.isAgg29
abbrev aCl:=@Tryz.isAgg296
abbrev aCm:=@Tryz.isAgg299
abbrev G3:=@Tryz.isAgg3
abbrev AE:=@Tryz.isAgg30
abbrev OJ:=@Tryz.isAgg306
abbrev nK:=@Tryz.isAgg32
abbrev uP:=@Tryz.isAgg33
abbrev G34:=@Tryz.isAgg34
abbrev WY:=@Tryz.isAgg35
abbrev WZ:=@Tryz.isAgg36
abbrev nU:=@Tryz.isAgg38
abbrev AS:=@Tryz.isAgg39
abbrev G4:=@Tryz.isAgg4
abbrev G41:=@Tryz.isAgg41
abbrev nV:=@Tryz.isAgg43
abbrev UB:=@Tryz.isAgg49
abbrev G5:=@Tryz.isAgg5
abbrev G52:=@Tryz.isAgg52
abbrev G54:=@Tryz.isAgg54
abbrev FQ:=@Tryz.isAgg58
abbrev UC:=@Tryz.isAgg66
abbrev XA:=@Tryz.isAgg86
abbrev G9:=@Tryz.isAgg9
abbrev yN:=@Tryz.isAgg92
abbrev yO:=@Tryz.isAgg97
abbrev uE:=@Tryz.sizeOf104
abbrev aCr:=@Tryz.sizeOf119
abbrev UD:=@Tryz.sizeOf129
abbrev OL:=@Tryz.sizeOf130
abbrev OM:=@Tryz.sizeOf132
abbrev rT:=@Tryz.sizeOf137
abbrev aCs:=@Tryz.sizeOf152
abbrev aCt:=@Tryz.sizeOf154
abbrev wY:=@Tryz.sizeOf162
abbrev jB:=@Tryz.sizeOf164
abbrev aCu:=@Tryz.sizeOf167
abbrev UE:=@Tryz.sizeOf180
abbrev wZ:=@Tryz.sizeOf182
abbrev iF:=@Tryz.sizeOf217
abbrev yP:=@Tryz.sizeOf22
abbrev aCv:=@Tryz.sizeOf226
abbrev AT:=@Tryz.sizeOf25
abbrev ON:=@Tryz.sizeOf257
abbrev OO:=@Tryz.sizeOf259
abbrev aCw:=@Tryz.sizeOf260
abbrev jI:=@Tryz.sizeOf265
abbrev pG:=@Tryz.sizeOf266
abbrev nF:=@Tryz.sizeOf267
abbrev iQ:=@Tryz.sizeOf27
abbrev UF:=@Tryz.sizeOf28
abbrev XB:=@Tryz.sizeOf29
abbrev Z3:=@Tryz.sizeOf3
abbrev xA:=@Tryz.sizeOf30
abbrev OP:=@Tryz.sizeOf306
abbrev OQ:=@Tryz.sizeOf308
abbrev jX:=@Tryz.sizeOf32
abbrev qP:=@Tryz.sizeOf33
abbrev GX:=@Tryz.sizeOf34
abbrev QG:=@Tryz.sizeOf35
abbrev XC:=@Tryz.sizeOf36
abbrev iH:=@Tryz.sizeOf38
abbrev AF:=@Tryz.sizeOf39
abbrev Z4:=@Tryz.sizeOf4
abbrev eJ:=@Tryz.sizeOf41
abbrev qQ:=@Tryz.sizeOf43
abbrev XD:=@Tryz.sizeOf49
abbrev Z5:=@Tryz.sizeOf5
abbrev UG:=@Tryz.sizeOf52
abbrev yQ:=@Tryz.sizeOf54
abbrev mD:=@Tryz.sizeOf58
abbrev QH:=@Tryz.sizeOf66
abbrev Z86:=@Tryz.sizeOf86
abbrev Z9:=@Tryz.sizeOf9
abbrev mE:=@Tryz.sizeOf92
abbrev UH:=@Tryz.sizeOf94
abbrev QI:=@Tryz.sizeOf95
abbrev oG:=@Tryz.sizeOf97
abbrev AG:=@Tryz.underlying104
abbrev rU:=@Tryz.underlying119
abbrev OR:=@Tryz.underlying132
abbrev JR:=@Tryz.underlying133
abbrev pH:=@Tryz.underlying137
abbrev UI:=@Tryz.underlying142
abbrev aCx:=@Tryz.underlying149
abbrev OS:=@Tryz.underlying154
abbrev jY:=@Tryz.underlying156
abbrev uG:=@Tryz.underlying160
abbrev mF:=@Tryz.underlying164
abbrev aCy:=@Tryz.underlying178
abbrev kN:=@Tryz.underlying180
abbrev pX:=@Tryz.underlying182
abbrev aCz:=@Tryz.underlying190
abbrev UJ:=@Tryz.underlying208
abbrev fW:=@Tryz.underlying217
abbrev jJ:=@Tryz.underlying22
abbrev yR:=@Tryz.underlying25
abbrev UK:=@Tryz.underlying254
abbrev OT:=@Tryz.underlying257
abbrev FR:=@Tryz.underlying259
abbrev nG:=@Tryz.underlying265
abbrev nH:=@Tryz.underlying266
abbrev lI:=@Tryz.underlying267
abbrev nW:=@Tryz.underlying269
abbrev nL:=@Tryz.underlying27
abbrev AU:=@Tryz.underlying28
abbrev U29:=@Tryz.underlying29
abbrev U3:=@Tryz.underlying3
abbrev rZ:=@Tryz.underlying30
abbrev OU:=@Tryz.underlying308
abbrev OV:=@Tryz.underlying309
abbrev uH:=@Tryz.underlying32
abbrev eI:=@Tryz.underlying33
abbrev LM:=@Tryz.underlying34
abbrev QJ:=@Tryz.underlying35
abbrev OW:=@Tryz.underlying36
abbrev jU:=@Tryz.underlying38
abbrev kZ:=@Tryz.underlying39
abbrev U4:=@Tryz.underlying4
abbrev eO:=@Tryz.underlying41
abbrev AH:=@Tryz.underlying42
abbrev U5:=@Tryz.underlying5
abbrev AV:=@Tryz.underlying52
abbrev GY:=@Tryz.underlying54
abbrev AI:=@Tryz.underlying58
abbrev U64:=@Tryz.underlying64
abbrev qR:=@Tryz.underlying66
abbrev eZ:=@Tryz.underlying81
abbrev U9:=@Tryz.underlying9
abbrev jV:=@Tryz.underlying92
abbrev UL:=@Tryz.underlying94
abbrev QK:=@Tryz.underlying95
abbrev nX:=@Tryz.underlying97
end T12
