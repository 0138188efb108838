/-
  The types and models of the functions of a session,printed by a program of ours;contracts of library functions.
-/
import Derived.Shelf.Strings.Cut
import Derived.Shelf.Strings.Search3
import Derived.Shelf.Strings.Prefix
import Derived.Shelf.Strings.Runes
import Derived.Shelf.Strings.OnBuilder
import Derived.Shelf.Strings.FieldsFuncAny
import Derived.Shelf.Strings.BuilderF
import Derived.Shelf.Small.Strs
import Derived.Shelf.Small.Wraps
import Derived.Shelf.Strconv.AtoiAll
import Derived.Shelf.Strconv.Itoa3
import Derived.Shelf.SlSortCmp.NoneTotal
import Derived.Shelf.LaysM
import Derived.Shelf.LaysC
import Derived.Test.YtaandmcgkjciiaaGreatDoorKitSix
import Derived.Test.YtaandmcgkjciiaaGreatDoorProg
import Derived.Shelf.Spec.SlicesInsert
import Derived.Lib.AppendZerosOnto
import Derived.Laws.NewBlocks
import Derived.Laws.CopyRow
import Derived.Recover
import Derived.Tactics
import Derived.Tactics2
import Derived.Shelf.Slices.Delete
import Derived.Shelf.Slices.Empties
set_option linter.all false
set_option maxHeartbeats 4000000
namespace Go.Proofs
open Go.Shelf Go.RowKit
def Tryz.laysC172_ren:Go.Shelf.Ren:=⟨fun | 172=>127 | 244=>186 | 245=>187 | 247=>229 | 279=>230 | 280=>231 | 281=>232 | 282=>233 | 287=>255 | 316=>256 | 171=>128 | 205=>257 | 321=>278 | 322=>279 | 243=>188 | 246=>234 | 283=>258 | 284=>259 | 285=>260 | 286=>261 | 129=>98 | 317=>280 | 318=>281 | 319=>282 | 320=>283 | 337=>292 | 338=>293 | n=>n,fun | 9=>9 | 3=>3 | 75=>190 | 76=>191 | 4=>4 | 5=>5 | 167=>284 | 37=>39 | 0=>0 | 85=>285 | 2=>2 | 168=>287 | 53=>178 | 175=>315 | 46=>64 | 210=>318 | 127=>314 | 145=>334 | 143=>332 | 21=>21 | 171=>320 | 173=>322 | 212=>336 | 51=>60 | 20=>20 | 213=>337 | 232=>350 | 233=>351 | 80=>283 | n=>n,fun | 15=>1 | 16=>2 | 17=>3 | 18=>4 | 19=>5 | n=>n⟩
theorem Tryz.laysC172:Go.Proofs.LaysC.n172 Tryz.prog Tryz.laysC172_ren:={
 mixed:=by kernel_rfl
 f129:=Tryz.func98.trans (congrArg some (by kernel_rfl))
 f171:=Tryz.func128.trans (congrArg some (by kernel_rfl))
 f172:=Tryz.func127.trans (congrArg some (by kernel_rfl))
 f205:=Tryz.func257.trans (congrArg some (by kernel_rfl))
 f243:=Tryz.func188.trans (congrArg some (by kernel_rfl))
 f244:=Tryz.func186.trans (congrArg some (by kernel_rfl))
 f245:=Tryz.func187.trans (congrArg some (by kernel_rfl))
 f246:=Tryz.func234.trans (congrArg some (by kernel_rfl))
 f247:=Tryz.func229.trans (congrArg some (by kernel_rfl))
 f279:=Tryz.func230.trans (congrArg some (by kernel_rfl))
 f280:=Tryz.func231.trans (congrArg some (by kernel_rfl))
 f281:=Tryz.func232.trans (congrArg some (by kernel_rfl))
 f282:=Tryz.func233.trans (congrArg some (by kernel_rfl))
 f283:=Tryz.func258.trans (congrArg some (by kernel_rfl))
 f284:=Tryz.func259.trans (congrArg some (by kernel_rfl))
 f285:=Tryz.func260.trans (congrArg some (by kernel_rfl))
 f286:=Tryz.func261.trans (congrArg some (by kernel_rfl))
 f287:=Tryz.func255.trans (congrArg some (by kernel_rfl))
 f316:=Tryz.func256.trans (congrArg some (by kernel_rfl))
 f317:=Tryz.func280.trans (congrArg some (by kernel_rfl))
 f318:=Tryz.func281.trans (congrArg some (by kernel_rfl))
 f319:=Tryz.func282.trans (congrArg some (by kernel_rfl))
 f320:=Tryz.func283.trans (congrArg some (by kernel_rfl))
 f321:=Tryz.func278.trans (congrArg some (by kernel_rfl))
 f322:=Tryz.func279.trans (congrArg some (by kernel_rfl))
 f337:=Tryz.func292.trans (congrArg some (by kernel_rfl))
 f338:=Tryz.func293.trans (congrArg some (by kernel_rfl))
 t0:=Tryz.underlying0
 a0:=Tryz.isAgg0
 z0:=Tryz.sizeOf0
 v0:=Tryz.zeroValue0
 t2:=Tryz.underlying2
 a2:=Tryz.isAgg2
 z2:=Tryz.sizeOf2
 v2:=Tryz.zeroValue2
 t3:=Tryz.underlying3
 a3:=Tryz.isAgg3
 z3:=Tryz.sizeOf3
 v3:=Tryz.zeroValue3
 t4:=Tryz.underlying4
 a4:=Tryz.isAgg4
 z4:=Tryz.sizeOf4
 v4:=Tryz.zeroValue4
 t5:=Tryz.underlying5
 a5:=Tryz.isAgg5
 z5:=Tryz.sizeOf5
 v5:=Tryz.zeroValue5
 t9:=Tryz.underlying9
 a9:=Tryz.isAgg9
 z9:=Tryz.sizeOf9
 v9:=Tryz.zeroValue9
 t20:=Tryz.underlying20
 a20:=Tryz.isAgg20
 z20:=Tryz.sizeOf20
 v20:=Tryz.zeroValue20
 t21:=Tryz.underlying21
 a21:=Tryz.isAgg21
 z21:=Tryz.sizeOf21
 v21:=Tryz.zeroValue21
 t37:=Tryz.underlying39
 a37:=Tryz.isAgg39
 z37:=Tryz.sizeOf39
 v37:=Tryz.zeroValue39
 t46:=Tryz.underlying64
 a46:=Tryz.isAgg64
 z46:=Tryz.sizeOf64
 v46:=Tryz.zeroValue64
 t51:=Tryz.underlying60
 a51:=Tryz.isAgg60
 z51:=Tryz.sizeOf60
 v51:=Tryz.zeroValue60
 t53:=Tryz.underlying178
 a53:=Tryz.isAgg178
 z53:=Tryz.sizeOf178
 v53:=Tryz.zeroValue178
 t75:=Tryz.underlying190
 a75:=Tryz.isAgg190
 z75:=Tryz.sizeOf190
 v75:=Tryz.zeroValue190
 t76:=Tryz.underlying191
 a76:=Tryz.isAgg191
 z76:=Tryz.sizeOf191
 v76:=Tryz.zeroValue191
 t85:=Tryz.underlying285
 a85:=Tryz.isAgg285
 z85:=Tryz.sizeOf285
 v85:=Tryz.zeroValue285
 t127:=Tryz.underlying314
 a127:=Tryz.isAgg314
 z127:=Tryz.sizeOf314
 v127:=Tryz.zeroValue314
 t143:=Tryz.underlying332
 a143:=Tryz.isAgg332
 z143:=Tryz.sizeOf332
 v143:=Tryz.zeroValue332
 t145:=Tryz.underlying334
 a145:=Tryz.isAgg334
 z145:=Tryz.sizeOf334
 v145:=Tryz.zeroValue334
 t167:=Tryz.underlying284
 a167:=Tryz.isAgg284
 z167:=Tryz.sizeOf284
 v167:=Tryz.zeroValue284
 t168:=Tryz.underlying287
 a168:=Tryz.isAgg287
 z168:=Tryz.sizeOf287
 v168:=Tryz.zeroValue287
 t171:=Tryz.underlying320
 a171:=Tryz.isAgg320
 z171:=Tryz.sizeOf320
 v171:=Tryz.zeroValue320
 t173:=Tryz.underlying322
 a173:=Tryz.isAgg322
 z173:=Tryz.sizeOf322
 v173:=Tryz.zeroValue322
 t175:=Tryz.underlying315
 a175:=Tryz.isAgg315
 z175:=Tryz.sizeOf315
 v175:=Tryz.zeroValue315
 t210:=Tryz.underlying318
 a210:=Tryz.isAgg318
 z210:=Tryz.sizeOf318
 v210:=Tryz.zeroValue318
 t212:=Tryz.underlying336
 a212:=Tryz.isAgg336
 z212:=Tryz.sizeOf336
 v212:=Tryz.zeroValue336
 t213:=Tryz.underlying337
 a213:=Tryz.isAgg337
 z213:=Tryz.sizeOf337
 t232:=Tryz.underlying350
 a232:=Tryz.isAgg350
 z232:=Tryz.sizeOf350
 v232:=Tryz.zeroValue350
 t233:=Tryz.underlying351
 a233:=Tryz.isAgg351
 z233:=Tryz.sizeOf351
 v233:=Tryz.zeroValue351
 g15:=by kernel_rfl
 g16:=by kernel_rfl
 g17:=by kernel_rfl
 g18:=by kernel_rfl
 g19:=by kernel_rfl
 t80:=Tryz.underlying283
 a80:=Tryz.isAgg283
 z80:=Tryz.sizeOf283
 v80:=Tryz.zeroValue283
 i0:=by kernel_rfl
 i2:=by kernel_rfl
 i3:=by kernel_rfl
 i4:=by kernel_rfl
 i5:=by kernel_rfl
 i9:=by kernel_rfl
 i20:=by kernel_rfl
 i21:=by kernel_rfl
 i37:=by kernel_rfl
 i46:=by kernel_rfl
 i51:=by kernel_rfl
 i53:=by kernel_rfl
 i75:=by kernel_rfl
 i76:=by kernel_rfl
 i80:=by kernel_rfl
 i85:=by kernel_rfl
 i127:=by kernel_rfl
 i143:=by kernel_rfl
 i145:=by kernel_rfl
 i167:=by kernel_rfl
 i168:=by kernel_rfl
 i171:=by kernel_rfl
 i173:=by kernel_rfl
 i175:=by kernel_rfl
 i210:=by kernel_rfl
 i212:=by kernel_rfl
 i232:=by kernel_rfl
 i233:=by kernel_rfl
 m15:=by kernel_rfl
 m16:=by kernel_rfl
 m17:=by kernel_rfl
 m18:=by kernel_rfl
 m19:=by kernel_rfl
 c0:=by kernel_rfl
 c2:=by kernel_rfl
 c3:=by kernel_rfl
 c4:=by kernel_rfl
 c5:=by kernel_rfl
 c9:=by kernel_rfl
 c20:=by kernel_rfl
 c21:=by kernel_rfl
 c37:=by kernel_rfl
 c46:=by kernel_rfl
 c51:=by kernel_rfl
 c53:=by kernel_rfl
 c75:=by kernel_rfl
 c76:=by kernel_rfl
 c80:=by kernel_rfl
 c85:=by kernel_rfl
 c127:=by kernel_rfl
 c143:=by kernel_rfl
 c145:=by kernel_rfl
 c167:=by kernel_rfl
 c168:=by kernel_rfl
 c171:=by kernel_rfl
 c173:=by kernel_rfl
 c175:=by kernel_rfl
 c210:=by kernel_rfl
 c212:=by kernel_rfl
 c213:=by kernel_rfl
 c232:=by kernel_rfl
 c233:=by kernel_rfl }
def Tryz.laysM171_ren:Go.Shelf.Ren:=⟨fun | 171=>128 | 243=>188 | 246=>234 | 283=>258 | 284=>259 | 285=>260 | 286=>261 | 129=>98 | 317=>280 | 318=>281 | 319=>282 | 320=>283 | 337=>292 | 338=>293 | n=>n,fun | 3=>3 | 9=>9 | 2=>2 | 4=>4 | 171=>320 | 0=>0 | 53=>178 | 37=>39 | 5=>5 | 173=>322 | 212=>336 | 51=>60 | 20=>20 | 213=>337 | 46=>64 | 232=>350 | 233=>351 | n=>n,fun | 17=>3 | 18=>4 | 19=>5 | n=>n⟩
theorem Tryz.laysM171:Go.Proofs.LaysM.n171 Tryz.prog Tryz.laysM171_ren:={
 mixed:=by kernel_rfl
 f129:=Tryz.func98.trans (congrArg some (by kernel_rfl))
 f171:=Tryz.func128.trans (congrArg some (by kernel_rfl))
 f243:=Tryz.func188.trans (congrArg some (by kernel_rfl))
 f246:=Tryz.func234.trans (congrArg some (by kernel_rfl))
 f283:=Tryz.func258.trans (congrArg some (by kernel_rfl))
 f284:=Tryz.func259.trans (congrArg some (by kernel_rfl))
 f285:=Tryz.func260.trans (congrArg some (by kernel_rfl))
 f286:=Tryz.func261.trans (congrArg some (by kernel_rfl))
 f317:=Tryz.func280.trans (congrArg some (by kernel_rfl))
 f318:=Tryz.func281.trans (congrArg some (by kernel_rfl))
 f319:=Tryz.func282.trans (congrArg some (by kernel_rfl))
 f320:=Tryz.func283.trans (congrArg some (by kernel_rfl))
 f337:=Tryz.func292.trans (congrArg some (by kernel_rfl))
 f338:=Tryz.func293.trans (congrArg some (by kernel_rfl))
 t0:=Tryz.underlying0
 a0:=Tryz.isAgg0
 z0:=Tryz.sizeOf0
 v0:=Tryz.zeroValue0
 t2:=Tryz.underlying2
 a2:=Tryz.isAgg2
 z2:=Tryz.sizeOf2
 v2:=Tryz.zeroValue2
 t3:=Tryz.underlying3
 a3:=Tryz.isAgg3
 z3:=Tryz.sizeOf3
 v3:=Tryz.zeroValue3
 t4:=Tryz.underlying4
 a4:=Tryz.isAgg4
 z4:=Tryz.sizeOf4
 v4:=Tryz.zeroValue4
 t5:=Tryz.underlying5
 a5:=Tryz.isAgg5
 z5:=Tryz.sizeOf5
 v5:=Tryz.zeroValue5
 t9:=Tryz.underlying9
 a9:=Tryz.isAgg9
 z9:=Tryz.sizeOf9
 v9:=Tryz.zeroValue9
 t20:=Tryz.underlying20
 a20:=Tryz.isAgg20
 z20:=Tryz.sizeOf20
 v20:=Tryz.zeroValue20
 t37:=Tryz.underlying39
 a37:=Tryz.isAgg39
 z37:=Tryz.sizeOf39
 v37:=Tryz.zeroValue39
 t46:=Tryz.underlying64
 a46:=Tryz.isAgg64
 z46:=Tryz.sizeOf64
 v46:=Tryz.zeroValue64
 t51:=Tryz.underlying60
 a51:=Tryz.isAgg60
 z51:=Tryz.sizeOf60
 v51:=Tryz.zeroValue60
 t53:=Tryz.underlying178
 a53:=Tryz.isAgg178
 z53:=Tryz.sizeOf178
 v53:=Tryz.zeroValue178
 t171:=Tryz.underlying320
 a171:=Tryz.isAgg320
 z171:=Tryz.sizeOf320
 v171:=Tryz.zeroValue320
 t173:=Tryz.underlying322
 a173:=Tryz.isAgg322
 z173:=Tryz.sizeOf322
 v173:=Tryz.zeroValue322
 t212:=Tryz.underlying336
 a212:=Tryz.isAgg336
 z212:=Tryz.sizeOf336
 v212:=Tryz.zeroValue336
 t213:=Tryz.underlying337
 a213:=Tryz.isAgg337
 z213:=Tryz.sizeOf337
 t232:=Tryz.underlying350
 a232:=Tryz.isAgg350
 z232:=Tryz.sizeOf350
 v232:=Tryz.zeroValue350
 t233:=Tryz.underlying351
 a233:=Tryz.isAgg351
 z233:=Tryz.sizeOf351
 v233:=Tryz.zeroValue351
 g17:=by kernel_rfl
 g18:=by kernel_rfl
 g19:=by kernel_rfl
 i0:=by kernel_rfl
 i2:=by kernel_rfl
 i3:=by kernel_rfl
 i4:=by kernel_rfl
 i5:=by kernel_rfl
 i9:=by kernel_rfl
 i20:=by kernel_rfl
 i37:=by kernel_rfl
 i46:=by kernel_rfl
 i51:=by kernel_rfl
 i53:=by kernel_rfl
 i171:=by kernel_rfl
 i173:=by kernel_rfl
 i212:=by kernel_rfl
 i232:=by kernel_rfl
 i233:=by kernel_rfl
 m17:=by kernel_rfl
 m18:=by kernel_rfl
 m19:=by kernel_rfl }
def Tryz.lays145_ren:Go.Shelf.Ren:=⟨fun | 145=>77 | 220=>109 | 219=>165 | 217=>200 | 225=>201 | 224=>202 | 267=>203 | 266=>238 | 314=>239 | n=>n,fun | 9=>9 | 4=>4 | 59=>150 | 3=>3 | 5=>5 | 46=>64 | 146=>293 | 51=>60 | n=>n,fun | 1=>0 | n=>n⟩
theorem Tryz.lays145:Go.Proofs.Lays.n145 Tryz.prog Tryz.lays145_ren:={
 mixed:=by kernel_rfl
 f145:=Tryz.func77.trans (congrArg some (by kernel_rfl))
 f217:=Tryz.func200.trans (congrArg some (by kernel_rfl))
 f219:=Tryz.func165.trans (congrArg some (by kernel_rfl))
 f220:=Tryz.func109.trans (congrArg some (by kernel_rfl))
 f224:=Tryz.func202.trans (congrArg some (by kernel_rfl))
 f225:=Tryz.func201.trans (congrArg some (by kernel_rfl))
 f266:=Tryz.func238.trans (congrArg some (by kernel_rfl))
 f267:=Tryz.func203.trans (congrArg some (by kernel_rfl))
 f314:=Tryz.func239.trans (congrArg some (by kernel_rfl))
 t3:=Tryz.underlying3
 a3:=Tryz.isAgg3
 z3:=Tryz.sizeOf3
 v3:=Tryz.zeroValue3
 t4:=Tryz.underlying4
 a4:=Tryz.isAgg4
 z4:=Tryz.sizeOf4
 v4:=Tryz.zeroValue4
 t5:=Tryz.underlying5
 a5:=Tryz.isAgg5
 z5:=Tryz.sizeOf5
 v5:=Tryz.zeroValue5
 t9:=Tryz.underlying9
 a9:=Tryz.isAgg9
 z9:=Tryz.sizeOf9
 v9:=Tryz.zeroValue9
 t46:=Tryz.underlying64
 a46:=Tryz.isAgg64
 z46:=Tryz.sizeOf64
 v46:=Tryz.zeroValue64
 t51:=Tryz.underlying60
 a51:=Tryz.isAgg60
 z51:=Tryz.sizeOf60
 v51:=Tryz.zeroValue60
 t59:=Tryz.underlying150
 a59:=Tryz.isAgg150
 z59:=Tryz.sizeOf150
 v59:=Tryz.zeroValue150
 t146:=Tryz.underlying293
 a146:=Tryz.isAgg293
 z146:=Tryz.sizeOf293
 v146:=Tryz.zeroValue293
 g1:=by kernel_rfl }
def Tryz.lays229_ren:Go.Shelf.Ren:=⟨fun | 229=>223 | n=>n,fun | 9=>9 | 40=>278 | 31=>22 | 152=>311 | 3=>3 | 0=>0 | 4=>4 | 21=>21 | 154=>313 | n=>n,fun | n=>n⟩
theorem Tryz.lays229:Go.Proofs.Lays.n229 Tryz.prog Tryz.lays229_ren:={
 mixed:=by kernel_rfl
 f229:=Tryz.func223.trans (congrArg some (by kernel_rfl))
 t0:=Tryz.underlying0
 a0:=Tryz.isAgg0
 z0:=Tryz.sizeOf0
 v0:=Tryz.zeroValue0
 t3:=Tryz.underlying3
 a3:=Tryz.isAgg3
 z3:=Tryz.sizeOf3
 v3:=Tryz.zeroValue3
 t4:=Tryz.underlying4
 a4:=Tryz.isAgg4
 z4:=Tryz.sizeOf4
 v4:=Tryz.zeroValue4
 t9:=Tryz.underlying9
 a9:=Tryz.isAgg9
 z9:=Tryz.sizeOf9
 v9:=Tryz.zeroValue9
 t21:=Tryz.underlying21
 a21:=Tryz.isAgg21
 z21:=Tryz.sizeOf21
 v21:=Tryz.zeroValue21
 t31:=Tryz.underlying22
 a31:=Tryz.isAgg22
 z31:=Tryz.sizeOf22
 v31:=Tryz.zeroValue22
 t40:=Tryz.underlying278
 a40:=Tryz.isAgg278
 z40:=Tryz.sizeOf278
 v40:=Tryz.zeroValue278
 t152:=Tryz.underlying311
 a152:=Tryz.isAgg311
 z152:=Tryz.sizeOf311
 v152:=Tryz.zeroValue311
 t154:=Tryz.underlying313
 a154:=Tryz.isAgg313
 z154:=Tryz.sizeOf313
 v154:=Tryz.zeroValue313 }
def Tryz.laysF269_ren:Go.Shelf.Ren:=⟨fun | 6=>269 | 15=>65 | 14=>287 | 28=>97 | 29=>98 | 20=>294 | 21=>295 | 22=>296 | 23=>297 | 24=>298 | 25=>299 | 26=>300 | 27=>301 | 46=>303 | 47=>154 | 48=>155 | 49=>304 | 50=>305 | 57=>307 | n=>n,fun | 22=>28 | 24=>217 | 25=>325 | 3=>3 | 39=>64 | 0=>0 | 53=>60 | 55=>178 | 4=>4 | 46=>170 | 45=>169 | 50=>83 | 5=>5 | 9=>9 | 66=>200 | 70=>204 | 76=>240 | 77=>241 | n=>n,fun | n=>n⟩
theorem Tryz.laysF269:Go.Proofs.SlLaysF0.n6 Tryz.prog Tryz.laysF269_ren:={
 mixed:=by kernel_rfl
 f6:=⟨Tryz.f269.name,by decide,Tryz.func269.trans (congrArg some (by kernel_rfl))⟩
 f14:=⟨Tryz.f287.name,by decide,Tryz.func287.trans (congrArg some (by kernel_rfl))⟩
 f15:=Tryz.func65.trans (congrArg some (by kernel_rfl))
 f20:=⟨Tryz.f294.name,by decide,Tryz.func294.trans (congrArg some (by kernel_rfl))⟩
 f21:=⟨Tryz.f295.name,by decide,Tryz.func295.trans (congrArg some (by kernel_rfl))⟩
 f22:=⟨Tryz.f296.name,by decide,Tryz.func296.trans (congrArg some (by kernel_rfl))⟩
 f23:=⟨Tryz.f297.name,by decide,Tryz.func297.trans (congrArg some (by kernel_rfl))⟩
 f24:=⟨Tryz.f298.name,by decide,Tryz.func298.trans (congrArg some (by kernel_rfl))⟩
 f25:=⟨Tryz.f299.name,by decide,Tryz.func299.trans (congrArg some (by kernel_rfl))⟩
 f26:=⟨Tryz.f300.name,by decide,Tryz.func300.trans (congrArg some (by kernel_rfl))⟩
 f27:=⟨Tryz.f301.name,by decide,Tryz.func301.trans (congrArg some (by kernel_rfl))⟩
 f28:=Tryz.func97.trans (congrArg some (by kernel_rfl))
 f29:=Tryz.func98.trans (congrArg some (by kernel_rfl))
 f46:=⟨Tryz.f303.name,by decide,Tryz.func303.trans (congrArg some (by kernel_rfl))⟩
 f47:=Tryz.func154.trans (congrArg some (by kernel_rfl))
 f48:=Tryz.func155.trans (congrArg some (by kernel_rfl))
 f49:=⟨Tryz.f304.name,by decide,Tryz.func304.trans (congrArg some (by kernel_rfl))⟩
 f50:=⟨Tryz.f305.name,by decide,Tryz.func305.trans (congrArg some (by kernel_rfl))⟩
 f57:=⟨Tryz.f307.name,by decide,Tryz.func307.trans (congrArg some (by kernel_rfl))⟩
 t0:=Tryz.underlying0
 a0:=Tryz.isAgg0
 z0:=Tryz.sizeOf0
 v0:=Tryz.zeroValue0
 t3:=Tryz.underlying3
 a3:=Tryz.isAgg3
 z3:=Tryz.sizeOf3
 v3:=Tryz.zeroValue3
 t4:=Tryz.underlying4
 a4:=Tryz.isAgg4
 z4:=Tryz.sizeOf4
 v4:=Tryz.zeroValue4
 t5:=Tryz.underlying5
 a5:=Tryz.isAgg5
 z5:=Tryz.sizeOf5
 v5:=Tryz.zeroValue5
 t9:=Tryz.underlying9
 a9:=Tryz.isAgg9
 z9:=Tryz.sizeOf9
 v9:=Tryz.zeroValue9
 t22:=Tryz.underlying28
 a22:=Tryz.isAgg28
 z22:=Tryz.sizeOf28
 v22:=Tryz.zeroValue28
 t25:=Tryz.underlying325
 a25:=Tryz.isAgg325
 z25:=Tryz.sizeOf325
 v25:=Tryz.zeroValue325
 t39:=Tryz.underlying64
 a39:=Tryz.isAgg64
 z39:=Tryz.sizeOf64
 v39:=Tryz.zeroValue64
 t45:=Tryz.underlying169
 a45:=Tryz.isAgg169
 z45:=Tryz.sizeOf169
 v45:=Tryz.zeroValue169
 t46:=Tryz.underlying170
 a46:=Tryz.isAgg170
 z46:=Tryz.sizeOf170
 v46:=Tryz.zeroValue170
 t50:=Tryz.underlying83
 a50:=Tryz.isAgg83
 z50:=Tryz.sizeOf83
 v50:=Tryz.zeroValue83
 t53:=Tryz.underlying60
 a53:=Tryz.isAgg60
 z53:=Tryz.sizeOf60
 v53:=Tryz.zeroValue60
 t55:=Tryz.underlying178
 a55:=Tryz.isAgg178
 z55:=Tryz.sizeOf178
 v55:=Tryz.zeroValue178
 t66:=Tryz.underlying200
 a66:=Tryz.isAgg200
 z66:=Tryz.sizeOf200
 v66:=Tryz.zeroValue200
 t70:=Tryz.underlying204
 a70:=Tryz.isAgg204
 z70:=Tryz.sizeOf204
 v70:=Tryz.zeroValue204
 t76:=Tryz.underlying240
 a76:=Tryz.isAgg240
 z76:=Tryz.sizeOf240
 v76:=Tryz.zeroValue240
 t77:=Tryz.underlying241
 a77:=Tryz.isAgg241
 z77:=Tryz.sizeOf241
 v77:=Tryz.zeroValue241 }
def Tryz.laysF54_ren:Go.Shelf.Ren:=⟨fun | 6=>54 | 15=>65 | 14=>83 | 28=>97 | 29=>98 | 20=>145 | 21=>146 | 22=>147 | 23=>148 | 24=>149 | 25=>150 | 26=>151 | 27=>152 | 46=>194 | 47=>154 | 48=>155 | 49=>195 | 50=>196 | 57=>237 | n=>n,fun | 22=>30 | 24=>92 | 25=>125 | 3=>3 | 39=>64 | 0=>0 | 53=>60 | 55=>178 | 4=>4 | 46=>170 | 45=>169 | 50=>83 | 5=>5 | 9=>9 | 66=>200 | 70=>204 | 76=>240 | 77=>241 | n=>n,fun | n=>n⟩
theorem Tryz.laysF54:Go.Proofs.SlLaysF0.n6 Tryz.prog Tryz.laysF54_ren:={
 mixed:=by kernel_rfl
 f6:=⟨Tryz.f54.name,by decide,Tryz.func54.trans (congrArg some (by kernel_rfl))⟩
 f14:=⟨Tryz.f83.name,by decide,Tryz.func83.trans (congrArg some (by kernel_rfl))⟩
 f15:=Tryz.func65.trans (congrArg some (by kernel_rfl))
 f20:=⟨Tryz.f145.name,by decide,Tryz.func145.trans (congrArg some (by kernel_rfl))⟩
 f21:=⟨Tryz.f146.name,by decide,Tryz.func146.trans (congrArg some (by kernel_rfl))⟩
 f22:=⟨Tryz.f147.name,by decide,Tryz.func147.trans (congrArg some (by kernel_rfl))⟩
 f23:=⟨Tryz.f148.name,by decide,Tryz.func148.trans (congrArg some (by kernel_rfl))⟩
 f24:=⟨Tryz.f149.name,by decide,Tryz.func149.trans (congrArg some (by kernel_rfl))⟩
 f25:=⟨Tryz.f150.name,by decide,Tryz.func150.trans (congrArg some (by kernel_rfl))⟩
 f26:=⟨Tryz.f151.name,by decide,Tryz.func151.trans (congrArg some (by kernel_rfl))⟩
 f27:=⟨Tryz.f152.name,by decide,Tryz.func152.trans (congrArg some (by kernel_rfl))⟩
 f28:=Tryz.func97.trans (congrArg some (by kernel_rfl))
 f29:=Tryz.func98.trans (congrArg some (by kernel_rfl))
 f46:=⟨Tryz.f194.name,by decide,Tryz.func194.trans (congrArg some (by kernel_rfl))⟩
 f47:=Tryz.func154.trans (congrArg some (by kernel_rfl))
 f48:=Tryz.func155.trans (congrArg some (by kernel_rfl))
 f49:=⟨Tryz.f195.name,by decide,Tryz.func195.trans (congrArg some (by kernel_rfl))⟩
 f50:=⟨Tryz.f196.name,by decide,Tryz.func196.trans (congrArg some (by kernel_rfl))⟩
 f57:=⟨Tryz.f237.name,by decide,Tryz.func237.trans (congrArg some (by kernel_rfl))⟩
 t0:=Tryz.underlying0
 a0:=Tryz.isAgg0
 z0:=Tryz.sizeOf0
 v0:=Tryz.zeroValue0
 t3:=Tryz.underlying3
 a3:=Tryz.isAgg3
 z3:=Tryz.sizeOf3
 v3:=Tryz.zeroValue3
 t4:=Tryz.underlying4
 a4:=Tryz.isAgg4
 z4:=Tryz.sizeOf4
 v4:=Tryz.zeroValue4
 t5:=Tryz.underlying5
 a5:=Tryz.isAgg5
 z5:=Tryz.sizeOf5
 v5:=Tryz.zeroValue5
 t9:=Tryz.underlying9
 a9:=Tryz.isAgg9
 z9:=Tryz.sizeOf9
 v9:=Tryz.zeroValue9
 t22:=Tryz.underlying30
 a22:=Tryz.isAgg30
 z22:=Tryz.sizeOf30
 v22:=Tryz.zeroValue30
 t25:=Tryz.underlying125
 a25:=Tryz.isAgg125
 z25:=Tryz.sizeOf125
 v25:=Tryz.zeroValue125
 t39:=Tryz.underlying64
 a39:=Tryz.isAgg64
 z39:=Tryz.sizeOf64
 v39:=Tryz.zeroValue64
 t45:=Tryz.underlying169
 a45:=Tryz.isAgg169
 z45:=Tryz.sizeOf169
 v45:=Tryz.zeroValue169
 t46:=Tryz.underlying170
 a46:=Tryz.isAgg170
 z46:=Tryz.sizeOf170
 v46:=Tryz.zeroValue170
 t50:=Tryz.underlying83
 a50:=Tryz.isAgg83
 z50:=Tryz.sizeOf83
 v50:=Tryz.zeroValue83
 t53:=Tryz.underlying60
 a53:=Tryz.isAgg60
 z53:=Tryz.sizeOf60
 v53:=Tryz.zeroValue60
 t55:=Tryz.underlying178
 a55:=Tryz.isAgg178
 z55:=Tryz.sizeOf178
 v55:=Tryz.zeroValue178
 t66:=Tryz.underlying200
 a66:=Tryz.isAgg200
 z66:=Tryz.sizeOf200
 v66:=Tryz.zeroValue200
 t70:=Tryz.underlying204
 a70:=Tryz.isAgg204
 z70:=Tryz.sizeOf204
 v70:=Tryz.zeroValue204
 t76:=Tryz.underlying240
 a76:=Tryz.isAgg240
 z76:=Tryz.sizeOf240
 v76:=Tryz.zeroValue240
 t77:=Tryz.underlying241
 a77:=Tryz.isAgg241
 z77:=Tryz.sizeOf241
 v77:=Tryz.zeroValue241 }
def Tryz.lays169_ren:Go.Shelf.Ren:=⟨fun | 169=>228 | n=>n,fun | 70=>280 | 9=>9 | 0=>0 | 72=>282 | 37=>39 | 127=>314 | 3=>3 | 5=>5 | n=>n,fun | n=>n⟩
theorem Tryz.lays169:Go.Proofs.Lays.n169 Tryz.prog Tryz.lays169_ren:={
 mixed:=by kernel_rfl
 f169:=Tryz.func228.trans (congrArg some (by kernel_rfl))
 t0:=Tryz.underlying0
 a0:=Tryz.isAgg0
 z0:=Tryz.sizeOf0
 v0:=Tryz.zeroValue0
 t3:=Tryz.underlying3
 a3:=Tryz.isAgg3
 z3:=Tryz.sizeOf3
 v3:=Tryz.zeroValue3
 t9:=Tryz.underlying9
 a9:=Tryz.isAgg9
 z9:=Tryz.sizeOf9
 v9:=Tryz.zeroValue9
 t37:=Tryz.underlying39
 a37:=Tryz.isAgg39
 z37:=Tryz.sizeOf39
 v37:=Tryz.zeroValue39
 t70:=Tryz.underlying280
 a70:=Tryz.isAgg280
 z70:=Tryz.sizeOf280
 v70:=Tryz.zeroValue280
 t72:=Tryz.underlying282
 a72:=Tryz.isAgg282
 z72:=Tryz.sizeOf282
 v72:=Tryz.zeroValue282
 t127:=Tryz.underlying314
 a127:=Tryz.isAgg314
 z127:=Tryz.sizeOf314
 v127:=Tryz.zeroValue314 }
theorem Tryz.Builder_Extra_169:Builder.Extra Tryz.prog Tryz.lays169_ren:={
 sizeBuilder:=by kernel_rfl
 liesBuilder:=by kernel_rfl
 t5:=Tryz.underlying5
 a5:=Tryz.isAgg5
 z5:=Tryz.sizeOf5
 v5:=Tryz.zeroValue5
 infoByte:=by kernel_rfl
 cellsByte:=by kernel_rfl
 sizeByte:=by kernel_rfl
 neB5:=by decide }
def Tryz.lays156_ren:Go.Shelf.Ren:=⟨fun | 156=>185 | 165=>226 | 166=>227 | 169=>228 | 240=>253 | 241=>254 | 276=>276 | 277=>277 | n=>n,fun | 31=>22 | 9=>9 | 3=>3 | 4=>4 | 0=>0 | 20=>20 | 72=>282 | 76=>191 | 70=>280 | 37=>39 | 75=>190 | 127=>314 | 164=>329 | 5=>5 | 80=>283 | n=>n,fun | n=>n⟩
theorem Tryz.lays156:Go.Proofs.Lays.n156 Tryz.prog Tryz.lays156_ren:={
 mixed:=by kernel_rfl
 f156:=Tryz.func185.trans (congrArg some (by kernel_rfl))
 f165:=Tryz.func226.trans (congrArg some (by kernel_rfl))
 f166:=Tryz.func227.trans (congrArg some (by kernel_rfl))
 f169:=Tryz.func228.trans (congrArg some (by kernel_rfl))
 f240:=Tryz.func253.trans (congrArg some (by kernel_rfl))
 f241:=Tryz.func254.trans (congrArg some (by kernel_rfl))
 f276:=Tryz.func276.trans (congrArg some (by kernel_rfl))
 f277:=Tryz.func277.trans (congrArg some (by kernel_rfl))
 t0:=Tryz.underlying0
 a0:=Tryz.isAgg0
 z0:=Tryz.sizeOf0
 v0:=Tryz.zeroValue0
 t3:=Tryz.underlying3
 a3:=Tryz.isAgg3
 z3:=Tryz.sizeOf3
 v3:=Tryz.zeroValue3
 t4:=Tryz.underlying4
 a4:=Tryz.isAgg4
 z4:=Tryz.sizeOf4
 v4:=Tryz.zeroValue4
 t9:=Tryz.underlying9
 a9:=Tryz.isAgg9
 z9:=Tryz.sizeOf9
 v9:=Tryz.zeroValue9
 t20:=Tryz.underlying20
 a20:=Tryz.isAgg20
 z20:=Tryz.sizeOf20
 v20:=Tryz.zeroValue20
 t31:=Tryz.underlying22
 a31:=Tryz.isAgg22
 z31:=Tryz.sizeOf22
 v31:=Tryz.zeroValue22
 t37:=Tryz.underlying39
 a37:=Tryz.isAgg39
 z37:=Tryz.sizeOf39
 v37:=Tryz.zeroValue39
 t70:=Tryz.underlying280
 a70:=Tryz.isAgg280
 z70:=Tryz.sizeOf280
 v70:=Tryz.zeroValue280
 t72:=Tryz.underlying282
 a72:=Tryz.isAgg282
 z72:=Tryz.sizeOf282
 v72:=Tryz.zeroValue282
 t75:=Tryz.underlying190
 a75:=Tryz.isAgg190
 z75:=Tryz.sizeOf190
 v75:=Tryz.zeroValue190
 t76:=Tryz.underlying191
 a76:=Tryz.isAgg191
 z76:=Tryz.sizeOf191
 v76:=Tryz.zeroValue191
 t127:=Tryz.underlying314
 a127:=Tryz.isAgg314
 z127:=Tryz.sizeOf314
 v127:=Tryz.zeroValue314
 t164:=Tryz.underlying329
 a164:=Tryz.isAgg329
 z164:=Tryz.sizeOf329
 v164:=Tryz.zeroValue329 }
theorem Tryz.Builder_Extra_156:Builder.Extra Tryz.prog Tryz.lays156_ren:={
 sizeBuilder:=by kernel_rfl
 liesBuilder:=by kernel_rfl
 t5:=Tryz.underlying5
 a5:=Tryz.isAgg5
 z5:=Tryz.sizeOf5
 v5:=Tryz.zeroValue5
 infoByte:=by kernel_rfl
 cellsByte:=by kernel_rfl
 sizeByte:=by kernel_rfl
 neB5:=by decide }
end Go.Proofs
namespace Go.Proofs
open Go Pk Go.RowKit
theorem Tryz.srt269:IA Tryz.prog 269 6 :=
  ⟨fun p cap fv w=>AnyF.slices_SortFunc_none Tryz.laysF269 p cap fv w,
   fun α _ enc hk h1 cf hO g cb blk off cap d w eg hc hH hb hs hT=>AnyQ.slices_SortFunc_total Tryz.laysF269 6 Tryz.isAgg217 Tryz.sizeOf217 enc hk h1 cf hO g cb blk off cap d w eg hc hH hb hs hT⟩
theorem Tryz.srt54:IA Tryz.prog 54 5 :=
  ⟨fun p cap fv w=>AnyF.slices_SortFunc_none Tryz.laysF54 p cap fv w,
   fun α _ enc hk h1 cf hO g cb blk off cap d w eg hc hH hb hs hT=>AnyQ.slices_SortFunc_total Tryz.laysF54 5 Tryz.isAgg92 Tryz.sizeOf92 enc hk h1 cf hO g cb blk off cap d w eg hc hH hb hs hT⟩
theorem Tryz.szB:(Tryz.prog.info? 282).map (·.size)=some 2:=by kernel_rfl
theorem Tryz.liesB:liesAt Tryz.prog Tryz.prog.depth 282 (2/Tryz.prog.cellsOf 282) 0 282 1=true:=by kernel_rfl
theorem Tryz.infoU8:(Tryz.prog.info? 5).map (fun i=>(i.zero,i.size,i.bytes))=some (some (.int .u8 0),1,1):=by kernel_rfl
set_option maxHeartbeats 1000000 in
set_option maxRecDepth 100000 in
theorem Tryz.cc_used (b:Nat) (w:World) (h0:w.cell? ⟨b,0,none⟩=some (.pointer (some ⟨b,0,none⟩))):Calls Tryz.prog 253 #[.pointer (some ⟨b,0,none⟩)] w fun e w'=>e=.returned (.tuple #[])∧w'=w:=by
 obtain ⟨j,hj,_⟩:=Option.map_eq_some_iff.1 Tryz.szB
 go_enter Tryz.func253,Tryz.ntmps253
 go_wp2
 rw [Lib.run_neq_ptr_same w _ Tryz.underlying280 hj]
 go_wp2
 go_end0
 exact ⟨rfl,rfl⟩
set_option maxHeartbeats 1000000 in
set_option maxRecDepth 100000 in
theorem Tryz.cc_new (b:Nat) (w:World) (h0:w.cell? ⟨b,0,none⟩=some (.pointer none)) (hs:w.shape? b=some (282,2)) (hz:w.frozen? ⟨b,0,none⟩=false):Calls Tryz.prog 253 #[.pointer (some ⟨b,0,none⟩)] w fun e w'=>e=.returned (.tuple #[])∧w'=w.setCell ⟨b,0,none⟩ (.pointer (some ⟨b,0,none⟩)):=by
 obtain ⟨j,hj,hjs⟩:=Option.map_eq_some_iff.1 Tryz.szB
 go_enter Tryz.func253,Tryz.ntmps253
 go_wp2
 rw [Lib.run_to_unsafe w ⟨b,0,none⟩ Tryz.underlying280 Tryz.underlying329 hj (by rw [hjs];decide) hs (Nat.zero_lt_succ 1)];simp only [Result.andThen];rw [Oper.upon_value]
 go_wp2
 rw [run_callFunc_extern Tryz.func276 (by kernel_rfl) (by kernel_rfl) (by kernel_rfl) (e:=Extern.AbiNoEscape.same) (by kernel_rfl)];rw [Lib.run_noEscape];simp only [Result.andThen];rw [Oper.upon_value]
 go_wp2
 rw [Lib.run_from_unsafe w ⟨b,0,none⟩ Tryz.underlying329 Tryz.underlying280 hj hs Tryz.liesB];simp only [Result.andThen];rw [Oper.upon_value]
 go_wp2
 go_end0
 exact ⟨rfl,rfl⟩
theorem Tryz.cc_any (B b:Nat) (l:List Value) (w:World) (h:Lib.IsBuilderF 282 5 B b l w):Calls Tryz.prog 253 #[.pointer (some ⟨b,0,none⟩)] w fun e w'=>e=.returned (.tuple #[])∧Lib.BuilderAtF 282 5 B b (.pointer (some ⟨b,0,none⟩)) l w'∧Below B w w':=by
 rcases h with h | h
 ·exact (Tryz.cc_new b w h.cell0 h.shape h.frozen0).mono fun e w' hw=>by
   obtain ⟨rfl,rfl⟩:=hw;exact ⟨rfl,h.used _,(Below.refl B w).setCell (p:=⟨b,0,none⟩) h.1 _⟩
 exact (Tryz.cc_used b w h.cell0).mono fun e w' hw=>by
  obtain ⟨rfl,rfl⟩:=hw;exact ⟨rfl,h,Below.refl B _⟩
set_option maxHeartbeats 2000000 in
set_option maxRecDepth 100000 in
theorem Tryz.bWrite (B b:Nat) (l:List Value) (s:ByteArray) (w:World) (h:Lib.IsBuilderF 282 5 B b l w) (hl:l.length+s.size≤140737488355328) (hB:B≤w.heap.size) :
  Calls Tryz.prog 227 #[.pointer (some ⟨b,0,none⟩),.string s] w fun e w'=>e=.returned (.tuple #[.int .i64 s.size,.nilIface])∧Lib.BuilderAtF 282 5 B b (.pointer (some ⟨b,0,none⟩)) (l++Lib.strCells s) w'∧Below B w w':=by
 obtain ⟨i0,hi,hz0,hz1,hz2⟩:=info_parts Tryz.infoU8;have eA1:∀ args w,(callFunc 253 args).run Tryz.prog w=.ok (.enter 253 args) w:=enters_of Tryz.func253 (by kernel_rfl) rfl
 go_enter Tryz.func227,Tryz.ntmps227
 go_wp2_with (go_at_fn 253;refine (Tryz.cc_any B b l _ h).mono ?_)
 rintro e w1 ⟨rfl,⟨hBb,v,hbk,hown,hne⟩,hb1⟩;have c0:w1.cell? ⟨b,0,none⟩=some (.pointer (some ⟨b,0,none⟩)):=by rw [Lib.cell_of_heap hbk];rfl
 have c1:w1.cell? ⟨b,1,none⟩=some v:=by rw [Lib.cell_of_heap hbk];rfl
 go_wp2_with (at_builtin;refine Lib.wpList_append_own_stringF _ rfl _ _ 39 9 rfl B 5 i0 Tryz.underlying39 Tryz.underlying9 hi hz0 hz1 hz2 _ _ _ rfl hown s rfl ?c3 ?c4 ?c5 ?_)
 case c3=>unfold maxLen;omega
 case c4=>omega
 case c5=>have:=hb1.size;omega
 intro v' w2 hown' hgrow _;have hlt:b < w1.heap.size:=(Array.getElem?_eq_some_iff.1 hbk).1;have hb2:w2.heap[b]?=some (.cells #[.pointer (some ⟨b,0,none⟩),v] 282 (0,0)):=by
  rw [hgrow.block b hlt (fun e=>hne e.symm)];exact hbk
 have d0:w2.cell? ⟨b,0,none⟩=some (.pointer (some ⟨b,0,none⟩)):=by rw [Lib.cell_of_heap hb2];rfl
 have d1:w2.cell? ⟨b,1,none⟩=some v:=by rw [Lib.cell_of_heap hb2];rfl
 have f1:w2.frozen? ⟨b,1,none⟩=false:=Lib.frozen_of_heap hb2 1;obtain ⟨ao,n',cap,rfl⟩:∃ ao n' cap,v'=.slice ao n' cap:=by
  rcases hown'.2 with ⟨hv,_⟩ | ⟨g,cap,cur,fz,hv,_⟩
  ·exact ⟨_,_,_,hv⟩
  exact ⟨_,_,_,hv⟩
 go_wp2
 go_ret2
 exact ⟨rfl,Lib.BuilderAtF.put (T:=282) (e:=5) hBb hb2 (bs':=l++Lib.strCells s) (by simpa [Lib.strCells_length] using hown') (by decide),(hb1.grown hgrow (by have:=hb1.size;omega) (fun k hk=>(hown.lt k hk).1)).setCell (p:=⟨b,1,none⟩) hBb _⟩
end Go.Proofs
set_option maxHeartbeats 4000000
namespace T12
open Go Go.Proofs Pk Go.RowKit
structure Gv (M:Prop) (H:Hp):Prop where
 gl:Gl M 1 2 3 H
 mx:∃ m,aL H ⟨0,0,none⟩ [.int .i64 m]
theorem Gv.mono {M:Prop} {H K:Hp} (h:Gv M H) (hk:H.le K):Gv M K:=⟨h.gl.mono hk,h.mx.imp fun _ hm=>hm.mono hk⟩
noncomputable def IH (s:aE):Option (Int×Bool):=BS s
noncomputable def II (n:Int):Option aE:=BT n
noncomputable def GP (s t:aE):Option (aE×aE×Bool):=bW (s.length≤1073741824) (some (Lib.cut s t))
theorem WG (s:aE):(bs s).data.toList=s:=by simp [bs]
theorem YE {M:Prop} {W:World} {H:Hp} (hH:H.le (hp W)) (hg:Gv M H) (s:aE) {r:Int×Bool} (hr:IH s=some r):Calls Tryz.prog 127 #[.string (bs s)] W (eU M H W (fun v K=>∃ (er1:Value),v=.tuple #[.int .i64 r.1,er1]∧Er er1 r.2)):=by
 unfold IH BS at hr;obtain ⟨hl,hr⟩:=aF hr;obtain rfl:=Option.some.inj hr;have hz:(bs s).size=s.length:=fG s;obtain ⟨e0,h0,i0⟩:=hg.gl.syn;obtain ⟨e1,h1,i1⟩:=hg.gl.rng
 cases h:Lib.atoiAll s with
 | ok v =>
  refine (Any.strconv_Atoi_ok Tryz.laysC172 (bs s) (by omega) v (by rw [WG];exact h) W).mono ?_;rintro e w' ⟨rfl,hw⟩;refine ⟨⟨_,by simp [jT,h],.inl ⟨by simp [jT,h],rfl⟩⟩,?_⟩;rcases hw with rfl | ⟨t,rfl⟩
  ·exact fX.refl _ _
  exact fX.of_below hg.gl.nq (Lib.bytesWorld_below _ _ _)
 | range =>
  refine (Any.strconv_Atoi_range Tryz.laysC172 (bs s) (by omega) (by rw [WG];exact h) e1 W (qX hH h1) i1).mono ?_;rintro e w' ⟨N,rfl,_,_,hb⟩;have hr1:jT s=(Lib.atoiSat s,true):=by simp [jT,h]
  rw [hr1,WG];exact ⟨⟨_,rfl,.inr ⟨rfl,_,_,rfl⟩⟩,fX.of_below hg.gl.nq hb⟩
 | _ =>
  refine (Any.strconv_Atoi_syntax Tryz.laysC172 (bs s) (by omega) (by rw [WG];exact h) e0 W (qX hH h0) i0).mono ?_;rintro e w' ⟨N,rfl,_,_,hb⟩;have hr1:jT s=(0,true):=by simp [jT,h]
  rw [hr1];exact ⟨⟨_,rfl,.inr ⟨rfl,_,_,rfl⟩⟩,fX.of_below hg.gl.nq hb⟩
theorem KQ {W:World} {H:Hp} (hH:H.le (hp W)) {M:Prop} (hg:Gv M H) (n:Int) (h1 : -9223372036854775808≤n) (h2:n≤9223372036854775807):Calls Tryz.prog 128 #[.int .i64 n] W fun e w'=>e=.returned (.string (bs (Lib.itoa n)))∧∃ k os,w'=Sort.grow (W.drewN k) os:=by
 refine (Any.strconv_Itoa Tryz.laysM171 n h1 h2 W (BQ (by kernel_rfl) hH hg.gl.tab)).mono ?_;rintro e w' ⟨rfl,k,os,rfl⟩;exact ⟨rfl,k,os,rfl⟩
theorem tJ (M:Prop) (W:World) (k:Nat) (os:Array Obj):fX M W (Sort.grow (W.drewN k) os) :=
 ⟨rfl,rfl,rfl,(by show W.heap.size≤(W.heap++os).size;rw [Array.size_append];omega),fun b hb=>Array.getElem?_append_left hb,fun _=>Nat.le_add_right _ _⟩
theorem YF {M:Prop} {W:World} {H:Hp} (hH:H.le (hp W)) (hg:Gv M H) (n:Int) {r:aE} (hr:II n=some r):Calls Tryz.prog 128 #[.int .i64 n] W (bN M W (.string (bs r))):=by
 unfold II BT at hr;obtain ⟨hl,hr⟩:=aF hr;obtain rfl:=Option.some.inj hr;refine (KQ hH hg n hl.1 hl.2).mono ?_;rintro e w' ⟨rfl,k,os,rfl⟩;exact ⟨rfl,tJ M W k os⟩
theorem w77 {M:Prop} {W:World} {H:Hp} (hH:H.le (hp W)) (hg:Gv M H) (s t:aE) {r:aE×aE×Bool} (hr:GP s t=some r):Calls Tryz.prog 77 #[.string (bs s),.string (bs t)] W (bN M W (.tuple #[.string (bs r.1),.string (bs r.2.1),.bool r.2.2])):=by
 unfold GP at hr;obtain ⟨hl,hr⟩:=aF hr;obtain rfl:=Option.some.inj hr;obtain ⟨m,hm⟩:=hg.mx;refine (Any.strings_Cut Tryz.lays145 (bs s) (bs t) m W (by rw [fG];omega) (qX hH hm)).mono ?_;rintro e w' ⟨rfl,k,rfl⟩;refine ⟨by simp [bs],?_⟩;exact ⟨rfl,rfl,rfl,Nat.le_refl _,fun _ _=>rfl,fun _=>Nat.le_add_right _ _⟩
noncomputable def vP (l:List aE) (sep:aE):Option aE:=bW (l.length≤1073741824∧(Lib.join l sep).length≤1073741824) (some (Lib.join l sep))
theorem YG {M:Prop} {W:World} {H:Hp} (hH:H.le (hp W)) (hg:Gv M H) {ad:Option Addr} {cap:Nat} {l:List aE} (hl:Sl (aG cE) 1 H ad cap l) (sep:aE) {r:aE} (hr:vP l sep=some r):Calls Tryz.prog 185 #[.slice ad l.length cap,.string (bs sep)] W (bN M W (.string (bs r))):=by
 unfold vP at hr;obtain ⟨hb,hr⟩:=aF hr;obtain rfl:=Option.some.inj hr;have hx:(l.map bs).map (·.data.toList)=l:=by
  rw [List.map_map]
  conv=>rhs;rw [← List.map_id l]
  exact List.map_congr_left fun x _=>by simp [bs]
 cases l with
 | nil =>
  refine (Any.strings_Join_none Tryz.lays156 Tryz.Builder_Extra_156 ad cap (bs sep) W).mono ?_;rintro e w' ⟨rfl,rfl⟩;exact ⟨by simp [bs,Lib.join_nil],fX.refl _ _⟩
 | cons x l =>
  obtain ⟨p,cs,rfl,hp0,h2,h3,h4⟩:=hl.2 0 x rfl;obtain ⟨b,o,sp⟩:=p;obtain rfl:sp=none:=hp0;have hcell:∀ (j:Nat) y,((x::l).map bs)[j]?=some y→W.cell? ⟨b,o+j,none⟩=some (.string y):=fun j y hy=>by
   rw [List.getElem?_map,Option.map_eq_some_iff] at hy;obtain ⟨z,hz,rfl⟩:=hy;obtain ⟨p,cs,h1,_,_,h3,h4⟩:=hl.2 j z hz;cases h1;have h4:cs=cE z:=h4;subst h4;have:=(h3.mono hH).cell (j:=0) (v:=.string (bs z)) rfl;have e:((⟨b,o,none⟩:Addr).add (j*1)).add 0=⟨b,o+j,none⟩:=by rw [Nat.mul_one,dH (i:=j) rfl];rfl
   rwa [e] at this
  have hlt:b < W.heap.size:=by
   have h4:cs=cE x:=h4;subst h4;obtain ⟨c,ty,fz,h5,_⟩:=h3.2 0 (.string (bs x)) rfl;have h6:=hH _ _ h5;rw [Nat.zero_mul,dH rfl] at h6;exact (Array.getElem?_eq_some_iff.1 h6).1
  have hn:((x::l).map bs).length=(x::l).length:=List.length_map _;have:=Any.strings_Join Tryz.lays156 Tryz.Builder_Extra_156 b o cap ((x::l).map bs) (bs sep) W hcell hlt (by rw [hn];omega) (by rw [hn];exact hl.1.1) (by rw [hx,show (bs sep).data.toList=sep by simp [bs]];omega);rw [hx,hn] at this;refine this.mono ?_;rintro e w' ⟨rfl,hw⟩;exact ⟨by simp [bs],fX.of_below hg.gl.nq hw⟩
end T12
set_option maxHeartbeats 4000000
namespace T12
open Go Go.Proofs Pk Go.RowKit
def tK:Any→aE
 | .i n=>Lib.itoa n
 | .s b=>b
def KR:Any→Prop
 | .i n=>-9223372036854775808≤n∧n≤9223372036854775807
 | .s _=>True
instance:(x:Any)→Decidable (KR x)
 | .i _=>inferInstanceAs (Decidable (_∧_))
 | .s _=>inferInstanceAs (Decidable True)
def fV (l:List Any):aE:=l.flatMap tK
noncomputable def vQ (l:List Any):Option aE:=bW ((∀ x∈l,KR x)∧(fV l).length≤1073741824) (some (fV l))
theorem qH {T e:TypeId} {B b:Nat} {p:Value} {l:List Value} {W W':World} (h:Lib.BuilderAtF T e B b p l W) (hb:Below W.heap.size W W'):Lib.BuilderAtF T e B b p l W':=by
 have hlt:=h.lt;obtain ⟨hB,v,hv,hown,hne⟩:=h;exact ⟨hB,v,(hb.block b hlt).trans hv,hown.kept (row:=none) ⟨hb.os,hb.tape,hb.output,hb.size,fun k hk _=>hb.block k hk⟩ (Classical.em _),hne⟩
theorem zQ {T e:TypeId} {B b:Nat} {l:List Value} {W W':World} (h:Lib.IsBuilderF T e B b l W) (hb:Below W.heap.size W W'):Lib.IsBuilderF T e B b l W' :=
 h.elim (fun x=>.inl (qH x hb)) (fun x=>.inr (qH x hb))
theorem vT (W:World) (k:Nat) (os:Array Obj):Below W.heap.size W (Sort.grow (W.drewN k) os) :=
 ⟨rfl,rfl,rfl,(by show W.heap.size≤(W.heap++os).size;rw [Array.size_append];omega),fun b hb=>Array.getElem?_append_left hb⟩
theorem vU {l:List Any} {i:Nat} {x:Any} (h:l[i]?=some x):fV (l.take (i+1))=fV (l.take i)++tK x:=by
 unfold fV;rw [List.take_succ,h];simp
theorem CJ {l:List Any} (i:Nat):(fV (l.take i)).length≤(fV l).length:=by
 have:fV l=fV (l.take i)++fV (l.drop i):=by unfold fV;rw [← List.flatMap_append,List.take_append_drop]
 rw [this];simp
section
variable {P:Program} {r:Option Nat} {n:aT} {p:List PanicEntry→aT} {a:Act} {w:World} {D:List Deferred} {k:Nat} {L:bY} {ops:Array Oper} {rest:List Oper} {d:Nat} {ty:TypeId} {pos:String} {af:Array Edge}
theorem KS {y:Operand} {xT t:TypeId} {v:Value} {ds:TypeDesc} (hA:aR D k a L) (hd:Nat.blt d k=true) (hu:P.underlying t=some ds) (hds:(match ds with | .interface _=>false | _=>true)=true) (hy:ev L y=some (.iface t v))
  (h:∀ a,aR D k a ((d,.tuple #[v,.bool true])::L)→O P r ops n p rest a w):O P r ops n p (⟨some d,.typeAssert y xT t true,ty,pos,af,none⟩::rest) a w :=
 cK rfl (fun _ h=>by cases h) (w':=w) (v:=.tuple #[v,.bool true]) (by
  simp only [execOp,Instr.typeAssert,hA.eval hy]
  cases ds <;> simp at hds <;> simp [run_underlying hu,Result.andThen]) (h _ (hA.put hd _))
theorem SG {y:Operand} {xT t t':TypeId} {v z:Value} {ds:TypeDesc} (hA:aR D k a L) (hd:Nat.blt d k=true) (hu:P.underlying t=some ds) (hds:(match ds with | .interface _=>false | _=>true)=true) (hz:∀ w,(zeroValue t).run P w=.ok z w) (hne:Nat.beq t' t=false) (hy:ev L y=some (.iface t' v))
  (h:∀ a,aR D k a ((d,.tuple #[z,.bool false])::L)→O P r ops n p rest a w):O P r ops n p (⟨some d,.typeAssert y xT t true,ty,pos,af,none⟩::rest) a w:=by
 have hn:¬t'=t:=MP hne
 exact cK rfl (fun _ h=>by cases h) (w':=w) (v:=.tuple #[z,.bool false]) (by
  simp only [execOp,Instr.typeAssert,hA.eval hy]
  cases ds <;> simp at hds <;> simp [run_underlying hu,Result.andThen,hn,hz]) (h _ (hA.put hd _))
theorem rD {x:Operand} {xs:List Operand} {ats:Array TypeId} {f:FuncId} {vs:List Value} {v:Value} {R:World→Prop} (hA:aR D k a L) (hd:Nat.blt d k=true) (hf:ev L x=some (.func (.func f) #[] #[])) (hxs:kU L xs=some vs)
  (hcall:∀ args w,(callFunc f args).run P w=.ok (.enter f args) w) (hc:Calls P f vs.toArray w fun e w'=>e=.returned v∧R w') (h:∀ w',R w'→∀ a,aR D k a ((d,v)::L)→O P r ops n p rest a w') :
  O P r ops n p (⟨some d,.call ⟨.value x,xs.toArray,ats⟩,ty,pos,af,none⟩::rest) a w:=by
 refine hQ rfl (fun _ h=>by cases h) (fQ (first:=#[]) (cap:=#[]) hA hf hxs hcall) (by simpa using hc) ?_ ?_ ?_
 ·intro v' w' hv;obtain ⟨e,hR⟩:=hv;cases e;exact h w' hR _ (hA.put hd _)
 ·intro ch w' hv;cases hv.1
 intro w' hv;cases hv.1
end
theorem NH {M:Prop} {W:World} {H:Hp} (hH:H.le (hp W)) (hg:Gv M H) {ad_p0_:Option Addr} {cap_p0_:Nat} {p0_:List Any} (h_p0_:Sl (aG oO) 1 H ad_p0_ cap_p0_ p0_) {r:aE} (hr:vQ p0_=some r):Calls Tryz.prog 211 #[.slice ad_p0_ p0_.length cap_p0_] W (bN M W (.string (bs r))):=by
 unfold vQ at hr;obtain ⟨⟨hok,hlen⟩,hr⟩:=aF hr;obtain rfl:=Option.some.inj hr;refine enter Tryz.func211 rfl Tryz.ntmps211 rfl ?_;intro a hA;refine gD (dE (fA hA rfl rfl fun a hA=>?_));refine fN (gD (dE (cK rfl (fun _ h=>by cases h) (w':=W.alloc (.cells #[.pointer none,.slice none 0 0] 282)) (v:=.pointer (some ⟨W.heap.size,0,none⟩)) (by simp [execOp,Instr.alloc,Tryz.zeroValue282,jN,Value.cells]) ?_)));have hA1:=hA.put (d:=3) rfl (.pointer (some ⟨W.heap.size,0,none⟩));have hB1:Lib.IsBuilderF 282 5 W.heap.size W.heap.size (Lib.byteCells (fV (p0_.take 0))) (W.alloc (.cells #[.pointer none,.slice none 0 0] 282)):=(Lib.fresh_isBuilder 282 5 W).elim (fun h=>.inl (.of h)) (fun h=>.inr (.of h));have hW1:Below W.heap.size W (W.alloc (.cells #[.pointer none,.slice none 0 0] 282)):=(Below.refl _ _).alloc (Nat.le_refl _) _;generalize (a.put (some 3) (.pointer (some ⟨W.heap.size,0,none⟩)))=a1 at hA1 ⊢;generalize (W.alloc (.cells #[.pointer none,.slice none 0 0] 282))=w1 at hB1 hW1 ⊢;refine fN (gD (gD (dE (fZ hA1 rfl rfl fun a hA=>KE hA rfl rfl Tryz.underlying301 fun a hA=>fZ hA rfl rfl fun a hA=>?_))));refine fN (lF (BB (fun j a w=>∃ i,i≤p0_.length∧j=p0_.length - i∧aR [] 35 a [(3,.pointer (some ⟨W.heap.size,0,none⟩)),(10,.slice ad_p0_ p0_.length cap_p0_),(11,.int .i64 p0_.length),(12,.int .i64 i)]∧Lib.IsBuilderF 282 5 W.heap.size W.heap.size (Lib.byteCells (fV (p0_.take i))) w∧Below W.heap.size W w) (j:=p0_.length) ⟨0,Nat.zero_le _,rfl,hA.cut ⟨rfl,rfl,rfl,rfl,trivial⟩,hB1,hW1⟩ ?_));rintro j a w ⟨i,hil,rfl,hA,hB,hW⟩;have hll:=h_p0_.len;refine gD (dE (QW hA rfl rfl rfl fun a hA=>fN (gD (QP hA rfl (fun hc=>AZ ?_) (fun hc=>BA rfl ?_)))))
 ·have hi:i < p0_.length:=by omega
  obtain ⟨x,hx⟩:∃ x,p0_[i]?=some x:=⟨_,List.getElem?_eq_getElem hi⟩;have hxok:=hok x (List.mem_of_getElem? hx);have hHw:H.le (hp w):=hH.trans (fX.of_below hg.gl.nq hW).le;have hlen2:(fV (p0_.take (i+1))).length≤1073741824:=Nat.le_trans (CJ _) hlen;have hst:=vU hx;have hcnt:(fV (p0_.take i)).length+(tK x).length≤1073741824:=by rw [hst,List.length_append] at hlen2;exact hlen2
  have hBle:W.heap.size≤w.heap.size:=hW.size;refine gD (oA (n:=fun a w'=>aR [] 35 a [(3,.pointer (some ⟨W.heap.size,0,none⟩)),(10,.slice ad_p0_ p0_.length cap_p0_),(11,.int .i64 p0_.length),(12,.int .i64 i)]∧Lib.BuilderAtF 282 5 W.heap.size W.heap.size (.pointer (some ⟨W.heap.size,0,none⟩)) (Lib.byteCells (fV (p0_.take i))++Lib.strCells (bs (tK x))) w'∧Below W.heap.size W w') ?_ (fun _ _ h=>h) (fun _ K _ _ hK h=>⟨K,hK,h⟩) (fun _ _ _ h=>h) ?_)
  ·rintro a w' ⟨hA,hB,hW⟩;exact dE (KB hA rfl rfl rfl (by omega) (by omega) fun a hA=>fZ hA rfl rfl fun a hA=>fN ⟨p0_.length - (i+1),by omega,i+1,by omega,rfl,hA.cut ⟨rfl,rfl,rfl,by simp [lk],trivial⟩,.inr (by rw [hst];unfold Lib.byteCells at *;rw [List.map_append];exact hB),hW⟩)
  refine lF (gD (dE (XN hA rfl rfl rfl Tryz.underlying301 Tryz.sizeOf20 (h_p0_.mono (aG.mono _) hHw) rfl rfl hx fun q cs hq hcs hf a hA=>vD (v:=RU x) hA rfl rfl Tryz.isAgg20 hq (by rw [show cs=oO x from hf];rfl) fun a hA=>fA hA rfl rfl fun a hA=>fN ?_)));clear hf hq hcs
  cases x with
  | i z =>
   refine gD (dE (fZ hA rfl rfl fun a hA=>KS hA rfl Tryz.underlying3 rfl rfl fun a hA=>fZ hA rfl rfl fun a hA=>lI (vs:=[.int .i64 z,.bool true]) hA rfl rfl rfl fun a hA=>lI (vs:=[.int .i64 z,.bool true]) hA rfl rfl rfl fun a hA=>fA hA rfl rfl fun a hA=>fA hA rfl rfl fun a hA=>fN ?_));refine gD (dE (fZ hA rfl rfl fun a hA=>fN (jB hA rfl (fun _=>?_) (fun h=>by cases h))));refine dE (fZ hA rfl rfl fun a hA=>rD (x:=.func 128) (xs:=[.tmp 22]) hA rfl rfl rfl Tryz.call128 (KQ hHw hg z hxok.1 hxok.2) ?_);rintro w' ⟨k,os,rfl⟩ a hA;have hb:=vT w k os;have hW':=hW.trans (hb.mono hBle);refine rD (x:=.func 227) (xs:=[.tmp 3,.tmp 23]) hA rfl rfl rfl Tryz.call227 (Tryz.bWrite W.heap.size W.heap.size _ (bs (Lib.itoa z)) _ (zQ hB hb) ?_ hW'.size) ?_
   ·rw [Lib.byteCells_length,fG];have:(Lib.itoa z).length=(tK (.i z)).length:=rfl;omega
   rintro w' ⟨hB',hW2⟩ a hA;exact fN ⟨hA.cut ⟨rfl,rfl,rfl,rfl,trivial⟩,hB',hW'.trans hW2⟩
  | s z =>
   refine gD (dE (fZ hA rfl rfl fun a hA=>SG hA rfl Tryz.underlying3 rfl Tryz.zeroValue3 rfl rfl fun a hA=>fZ hA rfl rfl fun a hA=>lI (vs:=[.int .i64 0,.bool false]) hA rfl rfl rfl fun a hA=>lI (vs:=[.int .i64 0,.bool false]) hA rfl rfl rfl fun a hA=>fA hA rfl rfl fun a hA=>fA hA rfl rfl fun a hA=>fN ?_));refine gD (dE (fZ hA rfl rfl fun a hA=>fN (jB hA rfl (fun h=>by cases h) (fun _=>?_))));refine gD (dE (fZ hA rfl rfl fun a hA=>KS hA rfl Tryz.underlying9 rfl rfl fun a hA=>fZ hA rfl rfl fun a hA=>lI (vs:=[.string (bs z),.bool true]) hA rfl rfl rfl fun a hA=>lI (vs:=[.string (bs z),.bool true]) hA rfl rfl rfl fun a hA=>fA hA rfl rfl fun a hA=>fA hA rfl rfl fun a hA=>fN ?_));refine gD (dE (fZ hA rfl rfl fun a hA=>fN (jB hA rfl (fun _=>?_) (fun h=>by cases h))));refine dE (fZ hA rfl rfl fun a hA=>rD (x:=.func 227) (xs:=[.tmp 3,.tmp 31]) hA rfl rfl rfl Tryz.call227 (Tryz.bWrite W.heap.size W.heap.size _ (bs z) _ hB ?_ hBle) ?_)
   ·rw [Lib.byteCells_length,fG];have:z.length=(tK (.s z)).length:=rfl;omega
   rintro w' ⟨hB',hW2⟩ a hA;exact fN ⟨hA.cut ⟨rfl,rfl,rfl,rfl,trivial⟩,hB',hW.trans hW2⟩
 have hi:i=p0_.length:=by omega
 subst hi;rw [List.take_length] at hB;refine gD (dE (rD (x:=.func 228) (xs:=[.tmp 3]) hA rfl rfl rfl Tryz.call228 (Any.Builder_String_any_f Tryz.lays169 Tryz.Builder_Extra_169 W.heap.size W.heap.size (fV p0_) w hB hW.size) ?_));rintro w' ⟨hB',hW'⟩ a hA;refine fA hA rfl rfl fun a hA=>fN (KA (dO hA rfl rfl ?_));exact ⟨rfl,fX.of_below hg.gl.nq (hW.trans hW')⟩
end T12
namespace T12
open Go Go.Proofs Pk Tryz
theorem J.{u} {α:Sort u} {a:α}:a=a:=rfl
structure aI where
 anchor:Int
 text:aE
 deriving DecidableEq,Inhabited
def aW (x:aI):List Value:=[.int .i64 x.anchor,.string (bs x.text)]
structure dR where
 day:Int
 paragraphs:List aI
 deriving DecidableEq,Inhabited
def bQ:Hp→List Value→dR→Prop:=fun H cs x=>∃ (ad0:Option Addr) (cap0:Nat),cs=[.int .i64 x.day,.slice ad0 x.paragraphs.length cap0]∧Sl (aG aW) 2 H ad0 cap0 x.paragraphs
theorem bQ.one:nI bQ:=fun _ _ _ ⟨_,_,h,_⟩=>by subst h;rfl
theorem bQ.mono:gM bQ:=fun _ _ _ _ hk ⟨a0,c0,h,f0⟩=>⟨a0,c0,h,f0.mono (aG.mono _) hk⟩
structure bT where
 number:Int
 bound:Int
 height:Int
 width:Int
 parts:List dR
 deriving DecidableEq,Inhabited
def cA:Hp→List Value→bT→Prop:=fun H cs x=>∃ (ad0:Option Addr) (cap0:Nat),cs=[.int .i64 x.number,.int .i64 x.bound,.int .i64 x.height,.int .i64 x.width,.slice ad0 x.parts.length cap0]∧Sl (bQ) 2 H ad0 cap0 x.parts
theorem cA.one:nI cA:=fun _ _ _ ⟨_,_,h,_⟩=>by subst h;rfl
theorem cA.mono:gM cA:=fun _ _ _ _ hk ⟨a0,c0,h,f0⟩=>⟨a0,c0,h,f0.mono (bQ.mono) hk⟩
structure aO where
 number:Int
 day:Int
 kind:Int
 anchor:Int
 text:aE
 new_:Int
 deriving DecidableEq,Inhabited
def aN (x:aO):List Value:=[.int .i64 x.number,.int .i64 x.day,.int .u8 x.kind,.int .i64 x.anchor,.string (bs x.text),.int .i64 x.new_]
structure gL where
 anchor:Int
 kind:Int
 until_:Int
 deriving DecidableEq,Inhabited
def eI (x:gL):List Value:=[.int .i64 x.anchor,.int .i64 x.kind,.int .i64 x.until_]
structure aQ where
 number:Int
 of:Int
 from_:Int
 to_:Int
 words:List aE
 deriving DecidableEq,Inhabited
def aZ:Hp→List Value→aQ→Prop:=fun H cs x=>∃ (ad0:Option Addr) (cap0:Nat),cs=[.int .i64 x.number,.int .i64 x.of,.int .i64 x.from_,.int .i64 x.to_,.slice ad0 x.words.length cap0]∧Sl (aG cE) 1 H ad0 cap0 x.words
theorem aZ.one:nI aZ:=fun _ _ _ ⟨_,_,h,_⟩=>by subst h;rfl
theorem aZ.mono:gM aZ:=fun _ _ _ _ hk ⟨a0,c0,h,f0⟩=>⟨a0,c0,h,f0.mono (aG.mono _) hk⟩
structure bJ where
 words:List aE
 papers:List aQ
 deriving DecidableEq,Inhabited
def cI:Hp→List Value→bJ→Prop:=fun H cs x=>∃ (ad0:Option Addr) (cap0:Nat) (ad1:Option Addr) (cap1:Nat),cs=[.slice ad0 x.words.length cap0,.slice ad1 x.papers.length cap1]∧Sl (aG cE) 1 H ad0 cap0 x.words∧Sl (aZ) 5 H ad1 cap1 x.papers
theorem cI.one:nI cI:=fun _ _ _ ⟨_,_,_,_,h,_⟩=>by subst h;rfl
theorem cI.mono:gM cI:=fun _ _ _ _ hk ⟨a0,c0,a1,c1,h,f0,f1⟩=>⟨a0,c0,a1,c1,h,f0.mono (aG.mono _) hk,f1.mono (aZ.mono) hk⟩
structure bE where
 e0:List Int
 e1:List Int
 deriving DecidableEq,Inhabited
def iB:Hp→List Value→bE→Prop:=fun H cs x=>∃ (ad0:Option Addr) (cap0:Nat) (ad1:Option Addr) (cap1:Nat),cs=[.slice ad0 x.e0.length cap0,.slice ad1 x.e1.length cap1]∧Sl (aG (bV .i64)) 1 H ad0 cap0 x.e0∧Sl (aG (bV .i64)) 1 H ad1 cap1 x.e1
theorem iB.one:nI iB:=fun _ _ _ ⟨_,_,_,_,h,_⟩=>by subst h;rfl
theorem iB.mono:gM iB:=fun _ _ _ _ hk ⟨a0,c0,a1,c1,h,f0,f1⟩=>⟨a0,c0,a1,c1,h,f0.mono (aG.mono _) hk,f1.mono (aG.mono _) hk⟩
structure eS where
 a:Int
 b:Int
 deriving DecidableEq,Inhabited
def eF (x:eS):List Value:=[.int .i64 x.a,.int .i64 x.b]
structure dN where
 holder:Int
 for_:Int
 deriving DecidableEq,Inhabited
def eB (x:dN):List Value:=[.int .i64 x.holder,.int .i64 x.for_]
structure aV where
 members:Int
 ayes:bE
 noes:bE
 pairs:List eS
 proxies:List dN
 rule:Int
 need:Int
 quorum:Int
 tie:Int
 deriving DecidableEq,Inhabited
structure WH where
 a0:Option Addr
 c0:Nat
 a1:Option Addr
 c1:Nat
 a2:Option Addr
 c2:Nat
 a3:Option Addr
 c3:Nat
 a4:Option Addr
 c4:Nat
 a5:Option Addr
 c5:Nat
abbrev cY (x:aV) (z:WH):List Value:=[.int .i64 x.members,.slice z.a0 x.ayes.e0.length z.c0,.slice z.a1 x.ayes.e1.length z.c1,.slice z.a2 x.noes.e0.length z.c2,.slice z.a3 x.noes.e1.length z.c3,.slice z.a4 x.pairs.length z.c4,.slice z.a5 x.proxies.length z.c5,.int .u8 x.rule,.int .i64 x.need,.int .i64 x.quorum,.int .u8 x.tie]
structure iM (H:Hp) (x:aV) (z:WH):Prop where
 f0:Sl (aG (bV .i64)) 1 H z.a0 z.c0 x.ayes.e0
 f1:Sl (aG (bV .i64)) 1 H z.a1 z.c1 x.ayes.e1
 f2:Sl (aG (bV .i64)) 1 H z.a2 z.c2 x.noes.e0
 f3:Sl (aG (bV .i64)) 1 H z.a3 z.c3 x.noes.e1
 f4:Sl (aG eF) 2 H z.a4 z.c4 x.pairs
 f5:Sl (aG eB) 2 H z.a5 z.c5 x.proxies
theorem iM.mono {H K:Hp} {x:aV} {z:WH} (h:iM H x z) (k:H.le K):iM K x z:=⟨h.f0.mono (aG.mono _) k,h.f1.mono (aG.mono _) k,h.f2.mono (aG.mono _) k,h.f3.mono (aG.mono _) k,h.f4.mono (aG.mono _) k,h.f5.mono (aG.mono _) k⟩
theorem iM.lens {H:Hp} {x:aV} {z:WH} (h:iM H x z):x.ayes.e0.length≤9223372036854775807∧x.ayes.e1.length≤9223372036854775807∧x.noes.e0.length≤9223372036854775807∧x.noes.e1.length≤9223372036854775807∧x.pairs.length≤9223372036854775807∧x.proxies.length≤9223372036854775807:=⟨h.f0.len,h.f1.len,h.f2.len,h.f3.len,h.f4.len,h.f5.len⟩
def bL:Hp→List Value→aV→Prop:=fun H cs x=>∃ z,cs=cY x z∧iM H x z
theorem bL.one:nI bL:=fun _ _ _ ⟨_,h,_⟩=>by subst h;rfl
theorem bL.mono:gM bL:=fun _ _ _ _ hk ⟨z,h,f⟩=>⟨z,h,f.mono hk⟩
structure cQ where
 day:Int
 house:Int
 volume:bT
 bound:Bool
 errata:List aO
 hides:List gL
 cites:List aE
 motion:bJ
 moved:Bool
 choice:List Int
 division:aV
 open_:Bool
 results:List UInt8
 deriving DecidableEq,Inhabited
structure tL where
 a0:Option Addr
 c0:Nat
 a1:Option Addr
 c1:Nat
 a2:Option Addr
 c2:Nat
 a3:Option Addr
 c3:Nat
 a4:Option Addr
 c4:Nat
 a5:Option Addr
 c5:Nat
 a6:Option Addr
 c6:Nat
 a7:Option Addr
 c7:Nat
 a8:Option Addr
 c8:Nat
 a9:Option Addr
 c9:Nat
 a10:Option Addr
 c10:Nat
 a11:Option Addr
 c11:Nat
 a12:Option Addr
 c12:Nat
 a13:Option Addr
 c13:Nat
abbrev cH (x:cQ) (z:tL):List Value:=[.int .i64 x.day,.int .i64 x.house,.int .i64 x.volume.number,.int .i64 x.volume.bound,.int .i64 x.volume.height,.int .i64 x.volume.width,.slice z.a0 x.volume.parts.length z.c0,.bool x.bound,.slice z.a1 x.errata.length z.c1,.slice z.a2 x.hides.length z.c2,.slice z.a3 x.cites.length z.c3,.slice z.a4 x.motion.words.length z.c4,.slice z.a5 x.motion.papers.length z.c5,.bool x.moved,.slice z.a6 x.choice.length z.c6,.int .i64 x.division.members,.slice z.a7 x.division.ayes.e0.length z.c7,.slice z.a8 x.division.ayes.e1.length z.c8,.slice z.a9 x.division.noes.e0.length z.c9,.slice z.a10 x.division.noes.e1.length z.c10,.slice z.a11 x.division.pairs.length z.c11,.slice z.a12 x.division.proxies.length z.c12,.int .u8 x.division.rule,.int .i64 x.division.need,.int .i64 x.division.quorum,.int .u8 x.division.tie,.bool x.open_,.slice z.a13 x.results.length z.c13]
structure mY (H:Hp) (x:cQ) (z:tL):Prop where
 f0:Sl (bQ) 2 H z.a0 z.c0 x.volume.parts
 f1:Sl (aG aN) 6 H z.a1 z.c1 x.errata
 f2:Sl (aG eI) 3 H z.a2 z.c2 x.hides
 f3:Sl (aG cE) 1 H z.a3 z.c3 x.cites
 f4:Sl (aG cE) 1 H z.a4 z.c4 x.motion.words
 f5:Sl (aZ) 5 H z.a5 z.c5 x.motion.papers
 f6:Sl (aG (bV .i64)) 1 H z.a6 z.c6 x.choice
 f7:Sl (aG (bV .i64)) 1 H z.a7 z.c7 x.division.ayes.e0
 f8:Sl (aG (bV .i64)) 1 H z.a8 z.c8 x.division.ayes.e1
 f9:Sl (aG (bV .i64)) 1 H z.a9 z.c9 x.division.noes.e0
 f10:Sl (aG (bV .i64)) 1 H z.a10 z.c10 x.division.noes.e1
 f11:Sl (aG eF) 2 H z.a11 z.c11 x.division.pairs
 f12:Sl (aG eB) 2 H z.a12 z.c12 x.division.proxies
 f13:Sl (aG cB) 1 H z.a13 z.c13 x.results
theorem mY.mono {H K:Hp} {x:cQ} {z:tL} (h:mY H x z) (k:H.le K):mY K x z:=⟨h.f0.mono (bQ.mono) k,h.f1.mono (aG.mono _) k,h.f2.mono (aG.mono _) k,h.f3.mono (aG.mono _) k,h.f4.mono (aG.mono _) k,h.f5.mono (aZ.mono) k,h.f6.mono (aG.mono _) k,h.f7.mono (aG.mono _) k,h.f8.mono (aG.mono _) k,h.f9.mono (aG.mono _) k,h.f10.mono (aG.mono _) k,h.f11.mono (aG.mono _) k,h.f12.mono (aG.mono _) k,h.f13.mono (aG.mono _) k⟩
theorem mY.lens {H:Hp} {x:cQ} {z:tL} (h:mY H x z):x.volume.parts.length≤9223372036854775807∧x.errata.length≤9223372036854775807∧x.hides.length≤9223372036854775807∧x.cites.length≤9223372036854775807∧x.motion.words.length≤9223372036854775807∧x.motion.papers.length≤9223372036854775807∧x.choice.length≤9223372036854775807∧x.division.ayes.e0.length≤9223372036854775807∧x.division.ayes.e1.length≤9223372036854775807∧x.division.noes.e0.length≤9223372036854775807∧x.division.noes.e1.length≤9223372036854775807∧x.division.pairs.length≤9223372036854775807∧x.division.proxies.length≤9223372036854775807∧x.results.length≤9223372036854775807:=⟨h.f0.len,h.f1.len,h.f2.len,h.f3.len,h.f4.len,h.f5.len,h.f6.len,h.f7.len,h.f8.len,h.f9.len,h.f10.len,h.f11.len,h.f12.len,h.f13.len⟩
def oT:Hp→List Value→cQ→Prop:=fun H cs x=>∃ z,cs=cH x z∧mY H x z
theorem oT.one:nI oT:=fun _ _ _ ⟨_,h,_⟩=>by subst h;rfl
theorem oT.mono:gM oT:=fun _ _ _ _ hk ⟨z,h,f⟩=>⟨z,h,f.mono hk⟩
structure aH where
 state:cQ
 deriving DecidableEq,Inhabited
abbrev CK (x:aH) (z:tL):List Value:=[.int .i64 x.state.day,.int .i64 x.state.house,.int .i64 x.state.volume.number,.int .i64 x.state.volume.bound,.int .i64 x.state.volume.height,.int .i64 x.state.volume.width,.slice z.a0 x.state.volume.parts.length z.c0,.bool x.state.bound,.slice z.a1 x.state.errata.length z.c1,.slice z.a2 x.state.hides.length z.c2,.slice z.a3 x.state.cites.length z.c3,.slice z.a4 x.state.motion.words.length z.c4,.slice z.a5 x.state.motion.papers.length z.c5,.bool x.state.moved,.slice z.a6 x.state.choice.length z.c6,.int .i64 x.state.division.members,.slice z.a7 x.state.division.ayes.e0.length z.c7,.slice z.a8 x.state.division.ayes.e1.length z.c8,.slice z.a9 x.state.division.noes.e0.length z.c9,.slice z.a10 x.state.division.noes.e1.length z.c10,.slice z.a11 x.state.division.pairs.length z.c11,.slice z.a12 x.state.division.proxies.length z.c12,.int .u8 x.state.division.rule,.int .i64 x.state.division.need,.int .i64 x.state.division.quorum,.int .u8 x.state.division.tie,.bool x.state.open_,.slice z.a13 x.state.results.length z.c13]
structure jH (H:Hp) (x:aH) (z:tL):Prop where
 f0:Sl (bQ) 2 H z.a0 z.c0 x.state.volume.parts
 f1:Sl (aG aN) 6 H z.a1 z.c1 x.state.errata
 f2:Sl (aG eI) 3 H z.a2 z.c2 x.state.hides
 f3:Sl (aG cE) 1 H z.a3 z.c3 x.state.cites
 f4:Sl (aG cE) 1 H z.a4 z.c4 x.state.motion.words
 f5:Sl (aZ) 5 H z.a5 z.c5 x.state.motion.papers
 f6:Sl (aG (bV .i64)) 1 H z.a6 z.c6 x.state.choice
 f7:Sl (aG (bV .i64)) 1 H z.a7 z.c7 x.state.division.ayes.e0
 f8:Sl (aG (bV .i64)) 1 H z.a8 z.c8 x.state.division.ayes.e1
 f9:Sl (aG (bV .i64)) 1 H z.a9 z.c9 x.state.division.noes.e0
 f10:Sl (aG (bV .i64)) 1 H z.a10 z.c10 x.state.division.noes.e1
 f11:Sl (aG eF) 2 H z.a11 z.c11 x.state.division.pairs
 f12:Sl (aG eB) 2 H z.a12 z.c12 x.state.division.proxies
 f13:Sl (aG cB) 1 H z.a13 z.c13 x.state.results
theorem jH.mono {H K:Hp} {x:aH} {z:tL} (h:jH H x z) (k:H.le K):jH K x z:=⟨h.f0.mono (bQ.mono) k,h.f1.mono (aG.mono _) k,h.f2.mono (aG.mono _) k,h.f3.mono (aG.mono _) k,h.f4.mono (aG.mono _) k,h.f5.mono (aZ.mono) k,h.f6.mono (aG.mono _) k,h.f7.mono (aG.mono _) k,h.f8.mono (aG.mono _) k,h.f9.mono (aG.mono _) k,h.f10.mono (aG.mono _) k,h.f11.mono (aG.mono _) k,h.f12.mono (aG.mono _) k,h.f13.mono (aG.mono _) k⟩
theorem jH.lens {H:Hp} {x:aH} {z:tL} (h:jH H x z):x.state.volume.parts.length≤9223372036854775807∧x.state.errata.length≤9223372036854775807∧x.state.hides.length≤9223372036854775807∧x.state.cites.length≤9223372036854775807∧x.state.motion.words.length≤9223372036854775807∧x.state.motion.papers.length≤9223372036854775807∧x.state.choice.length≤9223372036854775807∧x.state.division.ayes.e0.length≤9223372036854775807∧x.state.division.ayes.e1.length≤9223372036854775807∧x.state.division.noes.e0.length≤9223372036854775807∧x.state.division.noes.e1.length≤9223372036854775807∧x.state.division.pairs.length≤9223372036854775807∧x.state.division.proxies.length≤9223372036854775807∧x.state.results.length≤9223372036854775807:=⟨h.f0.len,h.f1.len,h.f2.len,h.f3.len,h.f4.len,h.f5.len,h.f6.len,h.f7.len,h.f8.len,h.f9.len,h.f10.len,h.f11.len,h.f12.len,h.f13.len⟩
def aS:Hp→List Value→aH→Prop:=fun H cs x=>∃ z,cs=CK x z∧jH H x z
theorem aS.one:nI aS:=fun _ _ _ ⟨_,h,_⟩=>by subst h;rfl
theorem aS.mono:gM aS:=fun _ _ _ _ hk ⟨z,h,f⟩=>⟨z,h,f.mono hk⟩
structure cJ where
 paragraph:aI
 removed:Bool
 deriving DecidableEq,Inhabited
def bX (x:cJ):List Value:=[.int .i64 x.paragraph.anchor,.string (bs x.paragraph.text),.bool x.removed]
structure gW where
 volume:bT
 parts:List (List cJ)
 deriving DecidableEq,Inhabited
def jI:Hp→List Value→gW→Prop:=fun H cs x=>∃ (ad0:Option Addr) (cap0:Nat) (ad1:Option Addr) (cap1:Nat),cs=[.int .i64 x.volume.number,.int .i64 x.volume.bound,.int .i64 x.volume.height,.int .i64 x.volume.width,.slice ad0 x.volume.parts.length cap0,.slice ad1 x.parts.length cap1]∧Sl (bQ) 2 H ad0 cap0 x.volume.parts∧Sl (sJ (aG bX) 3) 1 H ad1 cap1 x.parts
theorem jI.one:nI jI:=fun _ _ _ ⟨_,_,_,_,h,_⟩=>by subst h;rfl
theorem jI.mono:gM jI:=fun _ _ _ _ hk ⟨a0,c0,a1,c1,h,f0,f1⟩=>⟨a0,c0,a1,c1,h,f0.mono (bQ.mono) hk,f1.mono (sJ.mono (aG.mono _)) hk⟩
structure oU where
 anchor:Int
 column:Int
 line:Int
 lines:Int
 deriving DecidableEq,Inhabited
structure cV where
 place:oU
 day:Int
 number:Int
 deriving DecidableEq,Inhabited
def eG (x:cV):List Value:=[.int .i64 x.place.anchor,.int .i64 x.place.column,.int .i64 x.place.line,.int .i64 x.place.lines,.int .i64 x.day,.int .i64 x.number]
structure dT where
 ayes:Int
 noes:Int
 deriving DecidableEq,Inhabited
def iU (x:dT):List Value:=[.int .i64 x.ayes,.int .i64 x.noes]
structure bB where
 e0:Bool
 e1:Bool
 e2:Bool
 e3:Bool
 e4:Bool
 e5:Bool
 e6:Bool
 e7:Bool
 e8:Bool
 e9:Bool
 e10:Bool
 e11:Bool
 e12:Bool
 e13:Bool
 e14:Bool
 e15:Bool
 e16:Bool
 e17:Bool
 e18:Bool
 e19:Bool
 e20:Bool
 e21:Bool
 e22:Bool
 e23:Bool
 e24:Bool
 e25:Bool
 e26:Bool
 e27:Bool
 e28:Bool
 e29:Bool
 e30:Bool
 e31:Bool
 e32:Bool
 e33:Bool
 e34:Bool
 e35:Bool
 e36:Bool
 e37:Bool
 e38:Bool
 e39:Bool
 deriving Inhabited
def bA (x:bB):List Value:=[.bool x.e0,.bool x.e1,.bool x.e2,.bool x.e3,.bool x.e4,.bool x.e5,.bool x.e6,.bool x.e7,.bool x.e8,.bool x.e9,.bool x.e10,.bool x.e11,.bool x.e12,.bool x.e13,.bool x.e14,.bool x.e15,.bool x.e16,.bool x.e17,.bool x.e18,.bool x.e19,.bool x.e20,.bool x.e21,.bool x.e22,.bool x.e23,.bool x.e24,.bool x.e25,.bool x.e26,.bool x.e27,.bool x.e28,.bool x.e29,.bool x.e30,.bool x.e31,.bool x.e32,.bool x.e33,.bool x.e34,.bool x.e35,.bool x.e36,.bool x.e37,.bool x.e38,.bool x.e39]
def bB.vals (x:bB):List Bool:=[x.e0,x.e1,x.e2,x.e3,x.e4,x.e5,x.e6,x.e7,x.e8,x.e9,x.e10,x.e11,x.e12,x.e13,x.e14,x.e15,x.e16,x.e17,x.e18,x.e19,x.e20,x.e21,x.e22,x.e23,x.e24,x.e25,x.e26,x.e27,x.e28,x.e29,x.e30,x.e31,x.e32,x.e33,x.e34,x.e35,x.e36,x.e37,x.e38,x.e39]
def bB.get (x:bB) (j:Nat):Bool:=x.vals.getD j default
def bB.set (x:bB) (j:Nat) (v:Bool):bB:=⟨if j=0 then v else x.e0,if j=1 then v else x.e1,if j=2 then v else x.e2,if j=3 then v else x.e3,if j=4 then v else x.e4,if j=5 then v else x.e5,if j=6 then v else x.e6,if j=7 then v else x.e7,if j=8 then v else x.e8,if j=9 then v else x.e9,if j=10 then v else x.e10,if j=11 then v else x.e11,if j=12 then v else x.e12,if j=13 then v else x.e13,if j=14 then v else x.e14,if j=15 then v else x.e15,if j=16 then v else x.e16,if j=17 then v else x.e17,if j=18 then v else x.e18,if j=19 then v else x.e19,if j=20 then v else x.e20,if j=21 then v else x.e21,if j=22 then v else x.e22,if j=23 then v else x.e23,if j=24 then v else x.e24,if j=25 then v else x.e25,if j=26 then v else x.e26,if j=27 then v else x.e27,if j=28 then v else x.e28,if j=29 then v else x.e29,if j=30 then v else x.e30,if j=31 then v else x.e31,if j=32 then v else x.e32,if j=33 then v else x.e33,if j=34 then v else x.e34,if j=35 then v else x.e35,if j=36 then v else x.e36,if j=37 then v else x.e37,if j=38 then v else x.e38,if j=39 then v else x.e39⟩
def bB.zero:bB:=⟨false,false,false,false,false,false,false,false,false,false,false,false,false,false,false,false,false,false,false,false,false,false,false,false,false,false,false,false,false,false,false,false,false,false,false,false,false,false,false,false⟩
theorem bB.vset (x:bB) (v:Bool):∀ (j:Nat),j < 40→(x.set j v).vals=x.vals.set j v
 | 0,_=>rfl
 | 1,_=>rfl
 | 2,_=>rfl
 | 3,_=>rfl
 | 4,_=>rfl
 | 5,_=>rfl
 | 6,_=>rfl
 | 7,_=>rfl
 | 8,_=>rfl
 | 9,_=>rfl
 | 10,_=>rfl
 | 11,_=>rfl
 | 12,_=>rfl
 | 13,_=>rfl
 | 14,_=>rfl
 | 15,_=>rfl
 | 16,_=>rfl
 | 17,_=>rfl
 | 18,_=>rfl
 | 19,_=>rfl
 | 20,_=>rfl
 | 21,_=>rfl
 | 22,_=>rfl
 | 23,_=>rfl
 | 24,_=>rfl
 | 25,_=>rfl
 | 26,_=>rfl
 | 27,_=>rfl
 | 28,_=>rfl
 | 29,_=>rfl
 | 30,_=>rfl
 | 31,_=>rfl
 | 32,_=>rfl
 | 33,_=>rfl
 | 34,_=>rfl
 | 35,_=>rfl
 | 36,_=>rfl
 | 37,_=>rfl
 | 38,_=>rfl
 | 39,_=>rfl
 | n+40,h=>absurd h (by omega)
theorem bB.em (x:bB):bA x=x.vals.map (fun v=>Value.bool v):=rfl
theorem bB.st {x:bB} {j:Nat} {v:Bool} (h:j < 40):(bA x).set j (Value.bool v)=bA (x.set j v):=by rw [bB.em,bB.em,bB.vset x v j h,List.map_set]
theorem bB.at {x:bB} {j:Nat} (h:j < 40):(bA x)[j]?=some (Value.bool (x.get j)):=by
 have h2:x.vals[j]?=some (x.get j):=by unfold bB.get;rw [List.getD_eq_getElem?_getD,List.getElem?_eq_getElem (show j < x.vals.length from h)];rfl
 rw [bB.em,List.getElem?_map,h2];rfl
structure cU where
 division:aV
 paired:bB
 may:List (List UInt8)
 deriving Inhabited
def eM:Hp→List Value→cU→Prop:=fun H cs x=>∃ (ad0:Option Addr) (cap0:Nat) (ad1:Option Addr) (cap1:Nat) (MZ:Option Addr) (cap2:Nat) (WB:Option Addr) (cap3:Nat) (ad4:Option Addr) (cap4:Nat) (ad5:Option Addr) (cap5:Nat) (hs6:List fF),cs=(eL (eL [.int .i64 x.division.members,.slice ad0 x.division.ayes.e0.length cap0,.slice ad1 x.division.ayes.e1.length cap1,.slice MZ x.division.noes.e0.length cap2,.slice WB x.division.noes.e1.length cap3,.slice ad4 x.division.pairs.length cap4,.slice ad5 x.division.proxies.length cap5,.int .u8 x.division.rule,.int .i64 x.division.need,.int .i64 x.division.quorum,.int .u8 x.division.tie] (bA x.paired)) (hZ hs6 x.may))∧Sl (aG (bV .i64)) 1 H ad0 cap0 x.division.ayes.e0∧Sl (aG (bV .i64)) 1 H ad1 cap1 x.division.ayes.e1∧Sl (aG (bV .i64)) 1 H MZ cap2 x.division.noes.e0∧Sl (aG (bV .i64)) 1 H WB cap3 x.division.noes.e1∧Sl (aG eF) 2 H ad4 cap4 x.division.pairs∧Sl (aG eB) 2 H ad5 cap5 x.division.proxies∧jU (aG cB) 1 40 H hs6 x.may
theorem eM.mono:gM eM:=fun _ _ _ _ hk ⟨a0,c0,a1,c1,a2,c2,a3,c3,a4,c4,a5,c5,s6,h,f0,f1,f2,f3,f4,f5,f6⟩=>⟨a0,c0,a1,c1,a2,c2,a3,c3,a4,c4,a5,c5,s6,h,f0.mono (aG.mono _) hk,f1.mono (aG.mono _) hk,f2.mono (aG.mono _) hk,f3.mono (aG.mono _) hk,f4.mono (aG.mono _) hk,f5.mono (aG.mono _) hk,f6.mono (aG.mono _) hk⟩
structure aY where
 e0:Int
 e1:Int
 e2:Int
 e3:Int
 e4:Int
 e5:Int
 e6:Int
 e7:Int
 e8:Int
 e9:Int
 e10:Int
 e11:Int
 e12:Int
 e13:Int
 e14:Int
 e15:Int
 e16:Int
 e17:Int
 e18:Int
 e19:Int
 e20:Int
 e21:Int
 e22:Int
 e23:Int
 e24:Int
 e25:Int
 e26:Int
 e27:Int
 e28:Int
 e29:Int
 e30:Int
 e31:Int
 e32:Int
 e33:Int
 e34:Int
 e35:Int
 e36:Int
 e37:Int
 e38:Int
 e39:Int
 deriving Inhabited
def bU (x:aY):List Value:=[.int .u8 x.e0,.int .u8 x.e1,.int .u8 x.e2,.int .u8 x.e3,.int .u8 x.e4,.int .u8 x.e5,.int .u8 x.e6,.int .u8 x.e7,.int .u8 x.e8,.int .u8 x.e9,.int .u8 x.e10,.int .u8 x.e11,.int .u8 x.e12,.int .u8 x.e13,.int .u8 x.e14,.int .u8 x.e15,.int .u8 x.e16,.int .u8 x.e17,.int .u8 x.e18,.int .u8 x.e19,.int .u8 x.e20,.int .u8 x.e21,.int .u8 x.e22,.int .u8 x.e23,.int .u8 x.e24,.int .u8 x.e25,.int .u8 x.e26,.int .u8 x.e27,.int .u8 x.e28,.int .u8 x.e29,.int .u8 x.e30,.int .u8 x.e31,.int .u8 x.e32,.int .u8 x.e33,.int .u8 x.e34,.int .u8 x.e35,.int .u8 x.e36,.int .u8 x.e37,.int .u8 x.e38,.int .u8 x.e39]
def aY.vals (x:aY):List Int:=[x.e0,x.e1,x.e2,x.e3,x.e4,x.e5,x.e6,x.e7,x.e8,x.e9,x.e10,x.e11,x.e12,x.e13,x.e14,x.e15,x.e16,x.e17,x.e18,x.e19,x.e20,x.e21,x.e22,x.e23,x.e24,x.e25,x.e26,x.e27,x.e28,x.e29,x.e30,x.e31,x.e32,x.e33,x.e34,x.e35,x.e36,x.e37,x.e38,x.e39]
def aY.get (x:aY) (j:Nat):Int:=x.vals.getD j default
def aY.set (x:aY) (j:Nat) (v:Int):aY:=⟨if j=0 then v else x.e0,if j=1 then v else x.e1,if j=2 then v else x.e2,if j=3 then v else x.e3,if j=4 then v else x.e4,if j=5 then v else x.e5,if j=6 then v else x.e6,if j=7 then v else x.e7,if j=8 then v else x.e8,if j=9 then v else x.e9,if j=10 then v else x.e10,if j=11 then v else x.e11,if j=12 then v else x.e12,if j=13 then v else x.e13,if j=14 then v else x.e14,if j=15 then v else x.e15,if j=16 then v else x.e16,if j=17 then v else x.e17,if j=18 then v else x.e18,if j=19 then v else x.e19,if j=20 then v else x.e20,if j=21 then v else x.e21,if j=22 then v else x.e22,if j=23 then v else x.e23,if j=24 then v else x.e24,if j=25 then v else x.e25,if j=26 then v else x.e26,if j=27 then v else x.e27,if j=28 then v else x.e28,if j=29 then v else x.e29,if j=30 then v else x.e30,if j=31 then v else x.e31,if j=32 then v else x.e32,if j=33 then v else x.e33,if j=34 then v else x.e34,if j=35 then v else x.e35,if j=36 then v else x.e36,if j=37 then v else x.e37,if j=38 then v else x.e38,if j=39 then v else x.e39⟩
def aY.zero:aY:=⟨0,0,0,0,0,0,0,0,0,0,0,0,0,0,0,0,0,0,0,0,0,0,0,0,0,0,0,0,0,0,0,0,0,0,0,0,0,0,0,0⟩
theorem aY.vset (x:aY) (v:Int):∀ (j:Nat),j < 40→(x.set j v).vals=x.vals.set j v
 | 0,_=>rfl
 | 1,_=>rfl
 | 2,_=>rfl
 | 3,_=>rfl
 | 4,_=>rfl
 | 5,_=>rfl
 | 6,_=>rfl
 | 7,_=>rfl
 | 8,_=>rfl
 | 9,_=>rfl
 | 10,_=>rfl
 | 11,_=>rfl
 | 12,_=>rfl
 | 13,_=>rfl
 | 14,_=>rfl
 | 15,_=>rfl
 | 16,_=>rfl
 | 17,_=>rfl
 | 18,_=>rfl
 | 19,_=>rfl
 | 20,_=>rfl
 | 21,_=>rfl
 | 22,_=>rfl
 | 23,_=>rfl
 | 24,_=>rfl
 | 25,_=>rfl
 | 26,_=>rfl
 | 27,_=>rfl
 | 28,_=>rfl
 | 29,_=>rfl
 | 30,_=>rfl
 | 31,_=>rfl
 | 32,_=>rfl
 | 33,_=>rfl
 | 34,_=>rfl
 | 35,_=>rfl
 | 36,_=>rfl
 | 37,_=>rfl
 | 38,_=>rfl
 | 39,_=>rfl
 | n+40,h=>absurd h (by omega)
theorem aY.em (x:aY):bU x=x.vals.map (fun v=>Value.int .u8 v):=rfl
theorem aY.st {x:aY} {j:Nat} {v:Int} (h:j < 40):(bU x).set j (Value.int .u8 v)=bU (x.set j v):=by rw [aY.em,aY.em,aY.vset x v j h,List.map_set]
theorem aY.at {x:aY} {j:Nat} (h:j < 40):(bU x)[j]?=some (Value.int .u8 (x.get j)):=by
 have h2:x.vals[j]?=some (x.get j):=by unfold aY.get;rw [List.getD_eq_getElem?_getD,List.getElem?_eq_getElem (show j < x.vals.length from h)];rfl
 rw [aY.em,List.getElem?_map,h2];rfl
structure bC where
 number:Int
 index:Int
 deriving DecidableEq,Inhabited
def bH (x:bC):List Value:=[.int .i64 x.number,.int .i64 x.index]
structure cL where
 many:Int
 text:Bool
 do_:Option Nat
 deriving DecidableEq,Inhabited
def dU (x:cL):List Value:=[.int .i64 x.many,.bool x.text,qF x.do_]
structure dD where
 e0:Int
 e1:Int
 e2:Int
 e3:Int
 e4:Int
 e5:Int
 deriving Inhabited
def fJ (x:dD):List Value:=[.int .u8 x.e0,.int .u8 x.e1,.int .u8 x.e2,.int .u8 x.e3,.int .u8 x.e4,.int .u8 x.e5]
def dD.vals (x:dD):List Int:=[x.e0,x.e1,x.e2,x.e3,x.e4,x.e5]
def dD.get (x:dD) (j:Nat):Int:=x.vals.getD j default
def dD.set (x:dD) (j:Nat) (v:Int):dD:=⟨if j=0 then v else x.e0,if j=1 then v else x.e1,if j=2 then v else x.e2,if j=3 then v else x.e3,if j=4 then v else x.e4,if j=5 then v else x.e5⟩
def dD.zero:dD:=⟨0,0,0,0,0,0⟩
theorem dD.vset (x:dD) (v:Int):∀ (j:Nat),j < 6→(x.set j v).vals=x.vals.set j v
 | 0,_=>rfl
 | 1,_=>rfl
 | 2,_=>rfl
 | 3,_=>rfl
 | 4,_=>rfl
 | 5,_=>rfl
 | n+6,h=>absurd h (by omega)
theorem dD.em (x:dD):fJ x=x.vals.map (fun v=>Value.int .u8 v):=rfl
theorem dD.st {x:dD} {j:Nat} {v:Int} (h:j < 6):(fJ x).set j (Value.int .u8 v)=fJ (x.set j v):=by rw [dD.em,dD.em,dD.vset x v j h,List.map_set]
theorem dD.at {x:dD} {j:Nat} (h:j < 6):(fJ x)[j]?=some (Value.int .u8 (x.get j)):=by
 have h2:x.vals[j]?=some (x.get j):=by unfold dD.get;rw [List.getD_eq_getElem?_getD,List.getElem?_eq_getElem (show j < x.vals.length from h)];rfl
 rw [dD.em,List.getElem?_map,h2];rfl
theorem mixed:prog.follows .mixedOrders=true:=by kernel_rfl
theorem B27:dJ prog 27 [.int .i64 0,.int .i64 0,.int .i64 0,.int .i64 0,.slice none 0 0] #[(0,1),(1,1),(2,1),(3,1),(4,1)]:=⟨⟨.agg #[.int .i64 0,.int .i64 0,.int .i64 0,.int .i64 0,.slice none 0 0],rfl,zeroValue27⟩,⟨_,underlying27,fun _=>by kernel_rfl⟩⟩
theorem B32:dJ prog 32 [.slice none 0 0,.slice none 0 0] #[(0,1),(1,1)]:=⟨⟨.agg #[.slice none 0 0,.slice none 0 0],rfl,zeroValue32⟩,⟨_,underlying32,fun _=>by kernel_rfl⟩⟩
theorem B38:dJ prog 38 [.int .i64 0,.slice none 0 0,.slice none 0 0,.slice none 0 0,.slice none 0 0,.slice none 0 0,.slice none 0 0,.int .u8 0,.int .i64 0,.int .i64 0,.int .u8 0] #[(0,1),(1,2),(3,2),(5,1),(6,1),(7,1),(8,1),(9,1),(10,1)]:=⟨⟨.agg #[.int .i64 0,.slice none 0 0,.slice none 0 0,.slice none 0 0,.slice none 0 0,.slice none 0 0,.slice none 0 0,.int .u8 0,.int .i64 0,.int .i64 0,.int .u8 0],rfl,zeroValue38⟩,⟨_,underlying38,fun _=>by kernel_rfl⟩⟩
theorem B41:dJ prog 41 [.int .i64 0,.int .i64 0,.int .i64 0,.int .i64 0,.int .i64 0,.int .i64 0,.slice none 0 0,.bool false,.slice none 0 0,.slice none 0 0,.slice none 0 0,.slice none 0 0,.slice none 0 0,.bool false,.slice none 0 0,.int .i64 0,.slice none 0 0,.slice none 0 0,.slice none 0 0,.slice none 0 0,.slice none 0 0,.slice none 0 0,.int .u8 0,.int .i64 0,.int .i64 0,.int .u8 0,.bool false,.slice none 0 0] #[(0,1),(1,1),(2,5),(7,1),(8,1),(9,1),(10,1),(11,2),(13,1),(14,1),(15,11),(26,1),(27,1)]:=⟨⟨.agg #[.int .i64 0,.int .i64 0,.int .i64 0,.int .i64 0,.int .i64 0,.int .i64 0,.slice none 0 0,.bool false,.slice none 0 0,.slice none 0 0,.slice none 0 0,.slice none 0 0,.slice none 0 0,.bool false,.slice none 0 0,.int .i64 0,.slice none 0 0,.slice none 0 0,.slice none 0 0,.slice none 0 0,.slice none 0 0,.slice none 0 0,.int .u8 0,.int .i64 0,.int .i64 0,.int .u8 0,.bool false,.slice none 0 0],rfl,zeroValue41⟩,⟨_,underlying41,fun _=>by kernel_rfl⟩⟩
theorem B54:dJ prog 54 [.int .i64 0,.slice none 0 0] #[(0,1),(1,1)]:=⟨⟨.agg #[.int .i64 0,.slice none 0 0],rfl,zeroValue54⟩,⟨_,underlying54,fun _=>by kernel_rfl⟩⟩
theorem B56:dJ prog 56 [.int .i64 0,.int .i64 0] #[(0,1),(1,1)]:=⟨⟨.agg #[.int .i64 0,.int .i64 0],rfl,zeroValue56⟩,⟨_,underlying56,fun _=>by kernel_rfl⟩⟩
theorem B58:dJ prog 58 [.int .i64 0,.string (bs [])] #[(0,1),(1,1)]:=⟨⟨.agg #[.int .i64 0,.string (bs [])],rfl,zeroValue58⟩,⟨_,underlying58,fun _=>by kernel_rfl⟩⟩
theorem B81:dJ prog 81 [.int .i64 0,.int .i64 0,.int .i64 0,.int .i64 0,.int .i64 0,.int .i64 0,.slice none 0 0,.bool false,.slice none 0 0,.slice none 0 0,.slice none 0 0,.slice none 0 0,.slice none 0 0,.bool false,.slice none 0 0,.int .i64 0,.slice none 0 0,.slice none 0 0,.slice none 0 0,.slice none 0 0,.slice none 0 0,.slice none 0 0,.int .u8 0,.int .i64 0,.int .i64 0,.int .u8 0,.bool false,.slice none 0 0] #[(0,28)]:=⟨⟨.agg #[.int .i64 0,.int .i64 0,.int .i64 0,.int .i64 0,.int .i64 0,.int .i64 0,.slice none 0 0,.bool false,.slice none 0 0,.slice none 0 0,.slice none 0 0,.slice none 0 0,.slice none 0 0,.bool false,.slice none 0 0,.int .i64 0,.slice none 0 0,.slice none 0 0,.slice none 0 0,.slice none 0 0,.slice none 0 0,.slice none 0 0,.int .u8 0,.int .i64 0,.int .i64 0,.int .u8 0,.bool false,.slice none 0 0],rfl,zeroValue81⟩,⟨_,underlying81,fun _=>by kernel_rfl⟩⟩
theorem B92:dJ prog 92 [.int .i64 0,.int .i64 0,.int .i64 0,.int .i64 0,.slice none 0 0] #[(0,1),(1,1),(2,1),(3,1),(4,1)]:=⟨⟨.agg #[.int .i64 0,.int .i64 0,.int .i64 0,.int .i64 0,.slice none 0 0],rfl,zeroValue92⟩,⟨_,underlying92,fun _=>by kernel_rfl⟩⟩
theorem B97:dJ prog 97 (eL (eL [.int .i64 0,.slice none 0 0,.slice none 0 0,.slice none 0 0,.slice none 0 0,.slice none 0 0,.slice none 0 0,.int .u8 0,.int .i64 0,.int .i64 0,.int .u8 0] (bA bB.zero)) (hZ (List.replicate 40 ((none,0):fF)) (List.replicate 40 ([]:List UInt8)))) #[(0,11),(11,40),(51,40)]:=⟨⟨.agg (eL (eL [.int .i64 0,.slice none 0 0,.slice none 0 0,.slice none 0 0,.slice none 0 0,.slice none 0 0,.slice none 0 0,.int .u8 0,.int .i64 0,.int .i64 0,.int .u8 0] (bA bB.zero)) (hZ (List.replicate 40 ((none,0):fF)) (List.replicate 40 ([]:List UInt8)))).toArray,rfl,zeroValue97⟩,⟨_,underlying97,fun _=>by kernel_rfl⟩⟩
theorem B104:tB prog 104 5 (bU aY.zero) 1:=⟨⟨.agg (bU aY.zero).toArray,rfl,zeroValue104⟩,⟨_,underlying104⟩,sizeOf5⟩
theorem B132:dJ prog 132 [.nilFunc] #[(0,1)]:=⟨⟨.agg #[.nilFunc],rfl,zeroValue132⟩,⟨_,underlying132,fun _=>by kernel_rfl⟩⟩
theorem B149:dJ prog 149 [.int .i64 0] #[(0,1)]:=⟨⟨.agg #[.int .i64 0],rfl,zeroValue149⟩,⟨_,underlying149,fun _=>by kernel_rfl⟩⟩
theorem B154:dJ prog 154 [.int .i64 0,.bool false,.nilFunc] #[(0,1),(1,1),(2,1)]:=⟨⟨.agg #[.int .i64 0,.bool false,.nilFunc],rfl,zeroValue154⟩,⟨_,underlying154,fun _=>by kernel_rfl⟩⟩
theorem B164:dJ prog 164 [.int .i64 0,.nilFunc] #[(0,1),(1,1)]:=⟨⟨.agg #[.int .i64 0,.nilFunc],rfl,zeroValue164⟩,⟨_,underlying164,fun _=>by kernel_rfl⟩⟩
theorem B182:dJ prog 182 [.int .i64 0,.int .i64 0] #[(0,1),(1,1)]:=⟨⟨.agg #[.int .i64 0,.int .i64 0],rfl,zeroValue182⟩,⟨_,underlying182,fun _=>by kernel_rfl⟩⟩
theorem B217:dJ prog 217 [.int .i64 0,.int .i64 0,.int .u8 0,.int .i64 0,.string (bs []),.int .i64 0] #[(0,1),(1,1),(2,1),(3,1),(4,1),(5,1)]:=⟨⟨.agg #[.int .i64 0,.int .i64 0,.int .u8 0,.int .i64 0,.string (bs []),.int .i64 0],rfl,zeroValue217⟩,⟨_,underlying217,fun _=>by kernel_rfl⟩⟩
theorem B226:dJ prog 226 [.int .i64 0,.int .i64 0,.int .i64 0] #[(0,1),(1,1),(2,1)]:=⟨⟨.agg #[.int .i64 0,.int .i64 0,.int .i64 0],rfl,zeroValue226⟩,⟨_,underlying226,fun _=>by kernel_rfl⟩⟩
theorem B257:dJ prog 257 [.int .i64 0,.int .i64 0,.int .i64 0,.int .i64 0] #[(0,1),(1,1),(2,1),(3,1)]:=⟨⟨.agg #[.int .i64 0,.int .i64 0,.int .i64 0,.int .i64 0],rfl,zeroValue257⟩,⟨_,underlying257,fun _=>by kernel_rfl⟩⟩
theorem B259:dJ prog 259 [.int .i64 0,.int .i64 0,.int .i64 0,.int .i64 0,.int .i64 0,.int .i64 0] #[(0,4),(4,1),(5,1)]:=⟨⟨.agg #[.int .i64 0,.int .i64 0,.int .i64 0,.int .i64 0,.int .i64 0,.int .i64 0],rfl,zeroValue259⟩,⟨_,underlying259,fun _=>by kernel_rfl⟩⟩
theorem B265:dJ prog 265 [.int .i64 0,.string (bs []),.bool false] #[(0,2),(2,1)]:=⟨⟨.agg #[.int .i64 0,.string (bs []),.bool false],rfl,zeroValue265⟩,⟨_,underlying265,fun _=>by kernel_rfl⟩⟩
theorem B269:dJ prog 269 [.int .i64 0,.int .i64 0,.int .i64 0,.int .i64 0,.slice none 0 0,.slice none 0 0] #[(0,5),(5,1)]:=⟨⟨.agg #[.int .i64 0,.int .i64 0,.int .i64 0,.int .i64 0,.slice none 0 0,.slice none 0 0],rfl,zeroValue269⟩,⟨_,underlying269,fun _=>by kernel_rfl⟩⟩
theorem B308:dJ prog 308 [.nilFunc] #[(0,1)]:=⟨⟨.agg #[.nilFunc],rfl,zeroValue308⟩,⟨_,underlying308,fun _=>by kernel_rfl⟩⟩
theorem E22:cZ prog 22 9 [.string (bs [])] 1 16:=⟨underlying22,⟨_,.string (bs []),dX type9,rfl,rfl,rfl,rfl⟩,rfl,by decide⟩
theorem E25:cZ prog 25 54 [.int .i64 0,.slice none 0 0] 2 32:=⟨underlying25,⟨_,.agg #[.int .i64 0,.slice none 0 0],dX type54,rfl,rfl,rfl,rfl⟩,rfl,by decide⟩
theorem E28:cZ prog 28 217 [.int .i64 0,.int .i64 0,.int .u8 0,.int .i64 0,.string (bs []),.int .i64 0] 6 56:=⟨underlying28,⟨_,.agg #[.int .i64 0,.int .i64 0,.int .u8 0,.int .i64 0,.string (bs []),.int .i64 0],dX type217,rfl,rfl,rfl,rfl⟩,rfl,by decide⟩
theorem E29:cZ prog 29 226 [.int .i64 0,.int .i64 0,.int .i64 0] 3 24:=⟨underlying29,⟨_,.agg #[.int .i64 0,.int .i64 0,.int .i64 0],dX type226,rfl,rfl,rfl,rfl⟩,rfl,by decide⟩
theorem E30:cZ prog 30 92 [.int .i64 0,.int .i64 0,.int .i64 0,.int .i64 0,.slice none 0 0] 5 56:=⟨underlying30,⟨_,.agg #[.int .i64 0,.int .i64 0,.int .i64 0,.int .i64 0,.slice none 0 0],dX type92,rfl,rfl,rfl,rfl⟩,rfl,by decide⟩
theorem E33:cZ prog 33 3 [.int .i64 0] 1 8:=⟨underlying33,⟨_,.int .i64 0,dX type3,rfl,rfl,rfl,rfl⟩,rfl,by decide⟩
theorem E35:cZ prog 35 182 [.int .i64 0,.int .i64 0] 2 16:=⟨underlying35,⟨_,.agg #[.int .i64 0,.int .i64 0],dX type182,rfl,rfl,rfl,rfl⟩,rfl,by decide⟩
theorem E39:cZ prog 39 5 [.int .u8 0] 1 1:=⟨underlying39,⟨_,.int .u8 0,dX type5,rfl,rfl,rfl,rfl⟩,rfl,by decide⟩
theorem E42:cZ prog 42 43 [.int .i64 0] 1 8:=⟨underlying42,⟨_,.int .i64 0,dX type43,rfl,rfl,rfl,rfl⟩,rfl,by decide⟩
theorem E49:cZ prog 49 56 [.int .i64 0,.int .i64 0] 2 16:=⟨underlying49,⟨_,.agg #[.int .i64 0,.int .i64 0],dX type56,rfl,rfl,rfl,rfl⟩,rfl,by decide⟩
theorem E52:cZ prog 52 58 [.int .i64 0,.string (bs [])] 2 24:=⟨underlying52,⟨_,.agg #[.int .i64 0,.string (bs [])],dX type58,rfl,rfl,rfl,rfl⟩,rfl,by decide⟩
theorem E133:cZ prog 133 132 [.nilFunc] 1 8:=⟨underlying133,⟨_,.agg #[.nilFunc],dX type132,rfl,rfl,rfl,rfl⟩,rfl,by decide⟩
theorem E160:cZ prog 160 164 [.int .i64 0,.nilFunc] 2 16:=⟨underlying160,⟨_,.agg #[.int .i64 0,.nilFunc],dX type164,rfl,rfl,rfl,rfl⟩,rfl,by decide⟩
theorem E254:cZ prog 254 259 [.int .i64 0,.int .i64 0,.int .i64 0,.int .i64 0,.int .i64 0,.int .i64 0] 6 48:=⟨underlying254,⟨_,.agg #[.int .i64 0,.int .i64 0,.int .i64 0,.int .i64 0,.int .i64 0,.int .i64 0],dX type259,rfl,rfl,rfl,rfl⟩,rfl,by decide⟩
theorem E266:cZ prog 266 265 [.int .i64 0,.string (bs []),.bool false] 3 32:=⟨underlying266,⟨_,.agg #[.int .i64 0,.string (bs []),.bool false],dX type265,rfl,rfl,rfl,rfl⟩,rfl,by decide⟩
theorem E267:cZ prog 267 266 [.slice none 0 0] 1 24:=⟨underlying267,⟨_,.slice none 0 0,dX type266,rfl,rfl,rfl,rfl⟩,rfl,by decide⟩
theorem E301:cZ prog 301 20 [.nilIface] 1 16:=⟨underlying301,⟨_,.nilIface,dX type20,rfl,rfl,rfl,rfl⟩,rfl,by decide⟩
theorem E309:cZ prog 309 308 [.nilFunc] 1 8:=⟨underlying309,⟨_,.agg #[.nilFunc],dX type308,rfl,rfl,rfl,rfl⟩,rfl,by decide⟩
end T12
namespace Go.Proofs
open Go Go.Shelf Go.RowKit Pk
theorem lX {w:World} {q:Addr} {vs:List Value} (h:aL (hp w) q vs) (hv:0 < vs.length):∃ cs t z,w.heap[q.block]?=some (.cells cs t z)∧cs.size≠0:=by
 obtain ⟨c,t,z,h3,h4⟩:=h.2 0 _ (List.getElem?_eq_getElem hv);refine ⟨c,t,z,h3,fun h0=>?_⟩;have:=(Array.getElem?_eq_some_iff.1 h4).1;omega
theorem lY {P:Program} (w:World) (tS tR e:TypeId) (ht:P.underlying tS=some (.slice e)) (size:Nat) (hz:∀ w,(Go.sizeOf e).run P w=.ok size w) (a b:Addr) (la ca lb cb:Nat) (hne:a.block≠b.block)
  {ca':Array Value} {ta:TypeId} {za:Nat×Nat} (ha:w.heap[a.block]?=some (.cells ca' ta za)) (ha0:ca'.size≠0) {cur:Array Value} {te:TypeId} (hb:w.heap[b.block]?=some (.cells cur te (0,0))) (hc:cur.size≠0) :
  (Extern.SlicesOverlaps.overlaps #[tS,tS] #[tR] #[.slice (some a) la ca,.slice (some b) lb cb]).run P w=.ok (.bool false) w:=by
 have hnb:(a.block != b.block)=true:=by simpa using hne
 have hnb':(a.block==b.block)=false:=by simpa using hne
 have hf:∀ x:Addr,x.block=b.block→w.frozen? x=false:=fun x hx=>by simp [World.frozen?,hx,hb]
 have hsb:w.shape? b.block=some (te,cur.size):=by simp [World.shape?,hb]
 have hva:w.shape? a.block=some (ta,ca'.size):=by simp [World.shape?,ha]
 change Sem.run P (α:=Value) (do
  let some t := (#[tS, tS] : Array TypeId)[0]? | stuck "slices.overlaps: no parameter types"
  let .slice elem ← underlying t | stuck "slices.overlaps: slice type expected"
  let size ← sizeOf elem
  match (some a:Option Addr),(some b:Option Addr) with
  | some a,some b =>
   if la=0∨lb=0∨size=0 then pure (Value.bool false)
   else if a.block != b.block&&(← frozen a)&&(← frozen b) then unsupported .addressObserved
   else do
    if a.block != b.block then do
     noView a;noView b
     if ← mayBeOne a b then return Value.bool ((← choose (.extern "sameAddr.stringBytes" 2)) == 1)
    pure (Value.bool (a.block==b.block&&a.off < b.off+lb*size&&b.off < a.off+la*size))
  | _,_=>pure (Value.bool false)) w=_
 by_cases h0:la=0∨lb=0∨size=0
 ·simp [run_underlying ht,hz,h0]
 have e1:=hf b rfl;have e2:=hf { block:=b.block,off:=cur.size } rfl;have e3:(match some (te,cur.size) with | some (_,0)=>true | _=>false)=false:=by
  cases h:cur.size with
  | zero=>exact absurd h hc
  | succ n=>rfl
 have e4:(match some (ta,ca'.size) with | some (_,0)=>true | _=>false)=false:=by
  cases h:ca'.size with
  | zero=>exact absurd h ha0
  | succ n=>rfl
 cases hfa:w.frozen? a <;> cases hfe:w.frozen? { block:=a.block,off:=ca'.size } <;>
  simp [run_underlying ht,hz,h0,hnb,hnb',frozen,noView,viewAt,mayBeOne,stringish,shape,Sem.run,hva,hsb,e1,e2,hfa,hfe,hc,e4,ha0]
theorem gI {P:Program} (w:World) (t ty el k:Nat) (hu:P.underlying t=some (.slice el)) (hz:∀ w,(Go.sizeOf el).run P w=.ok k w) (b o dLen dCap:Nat) (a:Addr) (sLen sCap:Nat) (cs:List Value) {cur:Array Value} {te:TypeId} (hb:w.heap[b]?=some (.cells cur te (0,0)))
  (hn:cs.length=Nat.min sLen dLen*k) (hsrc:∀ j v,cs[j]?=some v→w.cell? (a.add j)=some v) (hfit:o+cs.length≤cur.size) (h1:∀ v∈cs,v.oneCell'=true) :
  (Builtin.copy_ #[t,t] ty #[.slice (some ⟨b,o,none⟩) dLen dCap,.slice (some a) sLen sCap]).run P w=.ok (goInt (Nat.min sLen dLen)) (w.setRow b (cur.toList.take o++cs++cur.toList.drop (o+cs.length)).toArray):=by
 have hl:=run_loadCells_list (P:=P) (w:=w) a cs hsrc;have hst:=run_storeCells_at P b o te cs 0 cur w hb (by simpa using hfit) h1;rw [hn] at hl;simp [Builtin.copy_,run_underlying hu,Builtin.lenOf,Builtin.firstCells,hz,hl];simp at hst;rw [hst];rfl
set_option maxHeartbeats 4000000 in
set_option maxRecDepth 100000 in
theorem Tryz.ins_end {w:World} {ad:Option Addr} {cap nn:Nat} {cs:List Value} {q:Addr} {vcap:Nat} {vs:List Value} (hr:(aP.row ad cap 265 3 nn cs).holds w) (hb:nn+1≤1073741824) (hv:aL (hp w) q vs) (hvl:vs.length=3) (h1:vs.all (·.oneCell')=true) :
  Calls Tryz.prog 274 #[.slice ad nn cap,.int .i64 nn,.slice (some q) 1 vcap] w fun e w'=>∃ ad' cap',e=.returned (.slice ad' (nn+1) cap')∧(aP.row ad' cap' 265 3 (nn+1) (cs++vs)).holds w'∧kA w w' (ad.map (·.block))∧∀ b,ad'.map (·.block)=some b→ad.map (·.block)=some b∨w.heap.size≤b:=by
 obtain ⟨ad',cap',w',hrun,hh,hg,hf⟩:=lB (P:=Tryz.prog) 266 T12.E266 hr (sad:=some q) (m:=1) (c:=vcap) (news:=vs) ⟨by omega,h1,.inr ⟨q,rfl,hv⟩⟩ (by unfold maxLen;omega) (by omega);have hd:=mJ _ hrun;have hcap:=(iX hr).2;refine Calls.mono (R:=fun e w''=>e=.returned (.slice ad' (nn+1) cap')∧w''=w') ?_ fun e w'' hw=>by
  obtain ⟨rfl,rfl⟩:=hw;exact ⟨ad',cap',rfl,hh,⟨hg,hd⟩,hf⟩
 clear hf hh hg hd hr hv h1;by_cases hc:cap=nn
 ·subst hc
  go_enter Tryz.func274,Tryz.ntmps274
  go_wp2_with (at_builtin;refine Lib.wpList_append_run _ rfl _ _ _ _ rfl _ _ rfl rfl _ _ hrun ?_)
  go_ret
  exact ⟨rfl,rfl⟩
 go_enter Tryz.func274,Tryz.ntmps274
 go_wp2_with (at_builtin;refine Lib.wpList_append_run _ rfl _ _ _ _ rfl _ _ rfl rfl _ _ hrun ?_)
 go_ret
 exact ⟨rfl,rfl⟩
theorem gJ {w:World} {b:Nat} {cur:Array Value} {t:TypeId} {z:Nat×Nat} (h:w.heap[b]?=some (.cells cur t z)) {j:Nat} {v:Value} (hv:cur.toList[j]?=some v):w.cell? ⟨b,j,none⟩=some v:=by
 rw [Array.getElem?_toList] at hv;simp [World.cell?,h,hv]
theorem jJ (b o i:Nat):(⟨b,o,none⟩:Addr).add i=⟨b,o+i,none⟩:=dH (ad:=⟨b,o,none⟩) rfl i
set_option maxHeartbeats 4000000 in
set_option maxRecDepth 100000 in
theorem Tryz.ins_room {w:World} {b cap nn j:Nat} {cs:List Value} {q:Addr} {vcap:Nat} {vs:List Value} {cur:Array Value} (hw:w.heap[b]?=some (.cells cur 265 (0,0))) (hcs:cur.size=cap*3) (ht:cur.toList.take (nn*3)=cs) (hcm:cap≤9223372036854775807) (hj:j < nn) (hroom:nn+1≤cap) (hb:nn+1≤1073741824) (hv:aL (hp w) q vs) (hvl:vs.length=3) (h1:vs.all (·.oneCell')=true) (h2:cs.all (·.oneCell')=true) (hne:b≠q.block) :
  Calls Tryz.prog 274 #[.slice (some ⟨b,0,none⟩) nn cap,.int .i64 j,.slice (some q) 1 vcap] w fun e w'=>e=.returned (.slice (some ⟨b,0,none⟩) (nn+1) cap)∧w'=(w.drew.setRow b (cur.toList.take ((j+1)*3)++cs.drop (j*3)++cur.toList.drop ((nn+1)*3)).toArray).setRow b (cs.take (j*3)++vs++cs.drop (j*3)++cur.toList.drop ((nn+1)*3)).toArray:=by
 obtain ⟨c0,t0,z0,hq0,hq1⟩:=lX hv (by omega);have hcl:cs.length=nn*3:=by rw [← ht,List.length_take,Array.length_toList,hcs];omega
 have hcur:cur.toList=cs++cur.toList.drop (nn*3):=by rw [← ht,List.take_append_drop]
 have hov:∀ lb cb,(callFunc 290 #[.slice (some q) 1 vcap,.slice (some ⟨b,(j+1)*3,none⟩) lb cb]).run Tryz.prog w=.ok (.value (.bool false)) w:=fun lb cb=>by
  rw [run_callFunc_extern Tryz.func290 (by kernel_rfl) (by kernel_rfl) (by kernel_rfl) (e:=Extern.SlicesOverlaps.overlaps #[266,266] #[4]) (by kernel_rfl),
   lY w 266 4 265 Tryz.underlying266 3 Tryz.sizeOf265 q ⟨b,(j+1)*3,none⟩ 1 vcap lb cb (fun e=>hne e.symm) hq0 hq1 hw (by omega)]
  rfl
 have hcp1:∀ ty dc sc,(Builtin.copy_ #[266,266] ty #[.slice (some ⟨b,(j+1)*3,none⟩) (nn - j) dc,.slice (some ⟨b,j*3,none⟩) (nn+1 - j) sc]).run Tryz.prog w.drew=.ok (goInt (Nat.min (nn+1 - j) (nn - j))) (w.drew.setRow b (cur.toList.take ((j+1)*3)++cs.drop (j*3)++cur.toList.drop ((nn+1)*3)).toArray):=fun ty dc sc=>by
  have hl:(cs.drop (j*3)).length=Nat.min (nn+1 - j) (nn - j)*3:=by
   rw [List.length_drop,hcl,show Nat.min (nn+1 - j) (nn - j)=nn - j by simp only [Nat.min_def];split <;> omega,Nat.sub_mul]
  have:=gI (P:=Tryz.prog) w.drew 266 ty 265 3 Tryz.underlying266 Tryz.sizeOf265 b ((j+1)*3) (nn - j) dc ⟨b,j*3,none⟩ (nn+1 - j) sc (cs.drop (j*3)) (cur:=cur) hw hl (fun i v hi=>by
   rw [jJ];refine gJ (w:=w.drew) hw ?_;rw [hcur,List.getElem?_append_left (by rw [List.getElem?_drop] at hi;exact (List.getElem?_eq_some_iff.1 hi).1)]
   rwa [List.getElem?_drop] at hi) (by rw [List.length_drop,hcl,hcs];omega) (fun v hv=>List.all_eq_true.1 h2 v (List.mem_of_mem_drop hv))
  rw [this,show (j+1)*3+(cs.drop (j*3)).length=(nn+1)*3 by rw [List.length_drop,hcl];omega]
 obtain ⟨X1,hX1⟩:∃ X1:List Value,X1=cur.toList.take ((j+1)*3)++cs.drop (j*3)++cur.toList.drop ((nn+1)*3):=⟨_,rfl⟩;rw [← hX1] at hcp1 ⊢;obtain ⟨W1,hW1⟩:∃ W1,W1=w.drew.setRow b X1.toArray:=⟨_,rfl⟩;rw [← hW1] at hcp1 ⊢;have hw1:W1.heap[b]?=some (.cells X1.toArray 265 (0,0)):=by rw [hW1];exact setRow_heap w.drew b cur X1.toArray 265 (0,0) hw
 have hX1l:X1.length=cap*3:=by rw [hX1];simp only [List.length_append,List.length_take,List.length_drop,Array.length_toList,hcs,hcl];omega
 have hlen1:(cur.toList.take ((j+1)*3)).length=(j+1)*3:=by rw [List.length_take,Array.length_toList,hcs];omega
 have hcp2:∀ ty dc,(Builtin.copy_ #[266,266] ty #[.slice (some ⟨b,j*3,none⟩) (nn+1 - j) dc,.slice (some q) 1 vcap]).run Tryz.prog W1=.ok (goInt (Nat.min 1 (nn+1 - j))) (W1.setRow b (cs.take (j*3)++vs++cs.drop (j*3)++cur.toList.drop ((nn+1)*3)).toArray):=fun ty dc=>by
  have hm:Nat.min 1 (nn+1 - j)=1:=by simp only [Nat.min_def];split <;> omega
  have:=gI (P:=Tryz.prog) W1 266 ty 265 3 Tryz.underlying266 Tryz.sizeOf265 b (j*3) (nn+1 - j) dc q 1 vcap vs (cur:=X1.toArray) hw1 (by rw [hvl,hm]) (fun i v hi=>by
   have h0:=hv.cell hi;have hsp:(q.add i).block=q.block:=by unfold Addr.add;split <;> rfl
   rw [hW1];unfold World.cell? at h0 ⊢;rw [show (w.drew.setRow b X1.toArray).heap[(q.add i).block]?=w.heap[(q.add i).block]? from setRow_other w.drew b _ _ (by rw [hsp];exact fun e=>hne e.symm)]
   exact h0) (by rw [hvl,List.size_toArray,hX1l];omega) (fun v hv=>List.all_eq_true.1 h1 v hv)
  rw [this,hvl];congr 3;have e1:X1.take (j*3)=cs.take (j*3):=by
   rw [hX1,List.append_assoc,List.take_append_of_le_length (by rw [hlen1];omega),List.take_take,show min (j*3) ((j+1)*3)=j*3 by omega,← ht,List.take_take,show min (j*3) (nn*3)=j*3 by omega]
  have e2:X1.drop (j*3+3)=cs.drop (j*3)++cur.toList.drop ((nn+1)*3):=by
   rw [hX1,show j*3+3=(j+1)*3 by omega,List.append_assoc,List.drop_append_of_le_length (by rw [hlen1];omega),List.drop_of_length_le (by rw [hlen1];omega),List.nil_append]
  simp only [List.toList_toArray,e1,e2,List.append_assoc]
 have hz2:¬((j:Int)=(nn:Int)):=by omega
 have hw2:IntKind.i64.wrap ((j:Int)+1)=(j:Int)+1:=by rw [IntKind.wrap_i64];omega
 have hw3:IntKind.i64.wrap ((nn:Int)+1)=(nn:Int)+1:=by rw [IntKind.wrap_i64];omega
 have htn:((j:Int)+1).toNat=j+1:=by omega
 have htn2:((nn:Int)+1).toNat=nn+1:=by omega
 have hb1:(0:Int)≤(j:Int)+1:=by omega
 have hb2:¬(cap=j+1):=by omega
 have hb4:¬(cap=j):=by omega
 have hb3:(j:Int)≤(nn:Int)+1:=by omega
 have hin:j≤nn:=by omega
 have hro:¬((cap:Int) < (nn:Int)+1):=by omega
 clear hX1 hcur ht;have mixed:=T12.mixed;clear hw1;subst hW1
 go_enter Tryz.func274,Tryz.ntmps274
 go_wp2_with (simp only [hov])
 go_region_law_o (refine step_copy_runI rfl _ _ 266 266 rfl _ _ (by simp [Act.eval,Act.put]) (by simp [Act.eval,Act.put]) (hcp1 _ _ _) ?_)
 go_wp2_with (at_builtin;refine wpList_copy_runI _ rfl _ _ 266 266 rfl _ _ rfl rfl (hcp2 _ _) ?_)
 go_ret
 exact ⟨rfl,by simp only [List.append_assoc]⟩
set_option maxHeartbeats 4000000 in
set_option maxRecDepth 100000 in
theorem Tryz.ins_grow {w:World} {b cap nn j:Nat} {cs:List Value} {q:Addr} {vcap:Nat} {vs:List Value} {cur:Array Value} (hw:w.heap[b]?=some (.cells cur 265 (0,0))) (hcs:cur.size=cap*3) (ht:cur.toList.take (nn*3)=cs) (hnc:nn≤cap) (hj:j < nn) (hroom:cap < nn+1) (hb:nn+1≤1073741824) (hv:aL (hp w) q vs) (hvl:vs.length=3) (h1:vs.all (·.oneCell')=true) (h2:cs.all (·.oneCell')=true) :
  Calls Tryz.prog 274 #[.slice (some ⟨b,0,none⟩) nn cap,.int .i64 j,.slice (some q) 1 vcap] w fun e w'=>∃ (G:Nat) (X:List Value),nn+1≤G∧G≤maxLen∧X.length=G*3∧X.take ((nn+1)*3)=cs.take (j*3)++vs++cs.drop (j*3)∧e=.returned (.slice (some ⟨w.heap.size,0,none⟩) (nn+1) G)∧∃ Y Z m,w'=(((w.alloc (.cells Y 265)).drewN m).setRow w.heap.size Z).setRow w.heap.size X.toArray:=by
 obtain ⟨i0,v0,hi0,hz0,hzv,hzs,hzb⟩:=T12.E266.info;have hzc:v0.cells.size=3:=by rw [fY,hzv];rfl
 have hcl:cs.length=nn*3:=by rw [← ht,List.length_take,Array.length_toList,hcs];omega
 have hcur:cur.toList=cs++cur.toList.drop (nn*3):=by rw [← ht,List.take_append_drop]
 have hold:(Builtin.firstCells i0.size j (.slice (some ⟨b,0,none⟩) j cap)).run Tryz.prog w.drew=.ok (cs.take (j*3)).toArray w.drew:=by
  rw [hzs];refine run_firstCells_some (w:=w.drew) 3 j ⟨b,0,none⟩ j cap (cs.take (j*3)) (by rw [List.length_take,hcl];omega) (fun i v hi=>?_);rw [jJ,Nat.zero_add];refine gJ (w:=w.drew) hw ?_;rw [List.getElem?_take] at hi
  split at hi
  ·rw [hcur,List.getElem?_append_left (by rw [hcl];omega)];exact hi
  cases hi
 have hik:j+(nn+1 - j)=nn+1:=by omega
 have hkk:(nn:Int)+1 - (j:Int)=((nn+1 - j:Nat):Int):=by omega
 obtain ⟨G,hG⟩:∃ G,G=grownCap w (nn+1) cap 265:=⟨_,rfl⟩;have hGn:nn+1≤G:=by rw [hG];exact grownCap_ge w _ _ _
 have hGm:G≤maxLen:=by rw [hG];exact grownCap_le_maxLen w (nn+1) cap 265 (by unfold maxLen;omega)
 obtain ⟨R,hR⟩:∃ R:Array Value,R=(cs.take (j*3)).toArray++Builtin.zeroCells v0.cells (nn+1 - j)++Builtin.zeroCells v0.cells (G - (nn+1)):=⟨_,rfl⟩;have hRs:R.size=G*3:=by
  rw [hR];simp only [Array.size_append,List.size_toArray,List.length_take,hcl,Builtin.zeroCells,Array.size_map,Array.size_range,hzc];omega
 have hRt:R.toList.take (j*3)=cs.take (j*3):=by
  rw [hR,Array.toList_append,Array.toList_append,List.append_assoc,List.take_append_of_le_length (by simp [hcl];omega)];simp only [List.toList_toArray,List.take_take,Nat.min_self]
 have hrz:∀ ty,(Builtin.append_ #[266,3] ty #[.slice (some ⟨b,0,none⟩) j cap,.int .i64 ((nn:Int)+1 - (j:Int))]).run Tryz.prog w=.ok (.slice (some ⟨w.heap.size,0,none⟩) (nn+1) G) (w.drew.alloc (.cells R 265)):=fun ty=>by
  have h:=Lib.run_append_grow_zeros w 266 3 ty 265 i0 _ .i64 .i64 Tryz.underlying266 Tryz.underlying3 hi0 hz0 (some ⟨b,0,none⟩) j cap (cs.take (j*3)) hold (nn+1 - j) (by omega) (by rw [hzs];decide) (by omega) (by omega) (by rw [hzb];omega) (by rw [hzb,hik];exact growslice_fits hroom (by omega));rw [hik] at h;rw [hkk,hR,hG];exact h
 have hN:(w.drew.alloc (.cells R 265)).heap[w.heap.size]?=some (.cells R 265 (0,0)):=dI w.drew _;have hbw:b < w.heap.size:=(Array.getElem?_eq_some_iff.1 hw).1;obtain ⟨X1,hX1⟩:∃ X1:List Value,X1=cs.take (j*3)++vs++R.toList.drop ((j+1)*3):=⟨_,rfl⟩;obtain ⟨X2,hX2⟩:∃ X2:List Value,X2=cs.take (j*3)++vs++cs.drop (j*3)++R.toList.drop ((nn+1)*3):=⟨_,rfl⟩;have hct:(cs.take (j*3)).length=j*3:=by rw [List.length_take,hcl];omega
 have hX1l:X1.length=G*3:=by rw [hX1];simp only [List.length_append,hct,hvl,List.length_drop,Array.length_toList,hRs];omega
 have hX2l:X2.length=G*3:=by rw [hX2];simp only [List.length_append,hct,hvl,List.length_drop,Array.length_toList,hRs,hcl];omega
 have hqn:∀ i,(q.add i).block=q.block:=fun i=>by unfold Addr.add;split <;> rfl
 obtain ⟨c0,t0,z0,hq0,_⟩:=lX hv (by omega);have hqw:q.block < w.heap.size:=(Array.getElem?_eq_some_iff.1 hq0).1;have hcpA:∀ (m:Nat) ty dc,(Builtin.copy_ #[266,266] ty #[.slice (some ⟨w.heap.size,j*3,none⟩) (nn+1 - j) dc,.slice (some q) 1 vcap]).run Tryz.prog ((w.alloc (.cells R 265)).drewN m)=.ok (goInt (Nat.min 1 (nn+1 - j))) (((w.alloc (.cells R 265)).drewN m).setRow w.heap.size X1.toArray):=fun m ty dc=>by
  have hm:Nat.min 1 (nn+1 - j)=1:=by simp only [Nat.min_def];split <;> omega
  have:=gI (P:=Tryz.prog) ((w.alloc (.cells R 265)).drewN m) 266 ty 265 3 Tryz.underlying266 Tryz.sizeOf265 w.heap.size (j*3) (nn+1 - j) dc q 1 vcap vs (cur:=R) (te:=265) (dI w _) (by rw [hvl,hm]) (fun i v hi=>by
   have h0:=hv.cell hi;unfold World.cell? at h0 ⊢;rw [show ((w.alloc (.cells R 265)).drewN m).heap[(q.add i).block]?=w.heap[(q.add i).block]? from (fX.alloc True w (.cells R 265)).keep _ (by rw [hqn];exact hqw)]
   exact h0) (by rw [hvl,hRs];omega) (fun v hv=>List.all_eq_true.1 h1 v hv)
  rw [this,hvl,hRt,hX1,show j*3+3=(j+1)*3 by omega]
 have hcpB:∀ (m:Nat) ty dc sc,(Builtin.copy_ #[266,266] ty #[.slice (some ⟨w.heap.size,(j+1)*3,none⟩) (nn - j) dc,.slice (some ⟨b,j*3,none⟩) (nn - j) sc]).run Tryz.prog (((w.alloc (.cells R 265)).drewN m).setRow w.heap.size X1.toArray)=.ok (goInt (Nat.min (nn - j) (nn - j))) ((((w.alloc (.cells R 265)).drewN m).setRow w.heap.size X1.toArray).setRow w.heap.size X2.toArray):=fun m ty dc sc=>by
  have hm:Nat.min (nn - j) (nn - j)=nn - j:=Nat.min_self _;have hl:(cs.drop (j*3)).length=Nat.min (nn - j) (nn - j)*3:=by rw [hm,List.length_drop,hcl,Nat.sub_mul]
  have:=gI (P:=Tryz.prog) (((w.alloc (.cells R 265)).drewN m).setRow w.heap.size X1.toArray) 266 ty 265 3 Tryz.underlying266 Tryz.sizeOf265 w.heap.size ((j+1)*3) (nn - j) dc ⟨b,j*3,none⟩ (nn - j) sc (cs.drop (j*3)) (cur:=X1.toArray) (te:=265) (setRow_heap _ _ R X1.toArray 265 (0,0) (dI w _)) hl (fun i v hi=>by
   rw [jJ];have hcell:w.cell? ⟨b,j*3+i,none⟩=some v:=by
    refine gJ hw ?_;rw [hcur,List.getElem?_append_left (by rw [List.getElem?_drop] at hi;exact (List.getElem?_eq_some_iff.1 hi).1)]
    rwa [List.getElem?_drop] at hi
   unfold World.cell? at hcell ⊢;rw [show (((w.alloc (.cells R 265)).drewN m).setRow w.heap.size X1.toArray).heap[(⟨b,j*3+i,none⟩:Addr).block]?=w.heap[(⟨b,j*3+i,none⟩:Addr).block]? from (setRow_other _ _ _ _ (by show b≠w.heap.size;omega)).trans ((fX.alloc True w (.cells R 265)).keep _ hbw)]
   exact hcell) (by rw [List.length_drop,hcl,List.size_toArray,hX1l];omega) (fun v hv=>List.all_eq_true.1 h2 v (List.mem_of_mem_drop hv))
  rw [this,show (j+1)*3+(cs.drop (j*3)).length=(nn+1)*3 by rw [List.length_drop,hcl];omega];congr 3;have e1:X1.take ((j+1)*3)=cs.take (j*3)++vs:=by
   rw [hX1,List.take_append_of_le_length (by rw [List.length_append,hct,hvl];omega),List.take_of_length_le (by rw [List.length_append,hct,hvl];omega)]
  have e2:X1.drop ((nn+1)*3)=R.toList.drop ((nn+1)*3):=by
   rw [hX1,List.drop_append,List.drop_of_length_le (by rw [List.length_append,hct,hvl];omega),List.nil_append,List.drop_drop,List.length_append,hct,hvl,show (j+1)*3+((nn+1)*3 - (j*3+3))=(nn+1)*3 by omega]
  simp only [List.toList_toArray,e1,e2,hX2,List.append_assoc]
 have hX2t:X2.take ((nn+1)*3)=cs.take (j*3)++vs++cs.drop (j*3):=by
  rw [hX2,List.take_append_of_le_length (by simp only [List.length_append,hct,hvl,List.length_drop,hcl];omega),List.take_of_length_le (by simp only [List.length_append,hct,hvl,List.length_drop,hcl];omega)]
 refine Calls.mono (R:=fun e w''=>e=.returned (.slice (some ⟨w.heap.size,0,none⟩) (nn+1) G)∧∃ m,w''=(((w.alloc (.cells R 265)).drewN m).setRow w.heap.size X1.toArray).setRow w.heap.size X2.toArray) ?_ fun e w'' hw=>by
  obtain ⟨rfl,m,rfl⟩:=hw;exact ⟨G,X2,hGn,hGm,hX2l,hX2t,rfl,R,X1.toArray,m,rfl⟩
 have mixed:=T12.mixed;have hz2:¬((j:Int)=(nn:Int)):=by omega
 have hw2:IntKind.i64.wrap ((j:Int)+1)=(j:Int)+1:=by rw [IntKind.wrap_i64];omega
 have hw3:IntKind.i64.wrap ((nn:Int)+1)=(nn:Int)+1:=by rw [IntKind.wrap_i64];omega
 have htn:((j:Int)+1).toNat=j+1:=by omega
 have hb1:(0:Int)≤(j:Int)+1:=by omega
 have hro:(cap:Int) < (nn:Int)+1:=by omega
 have hGi:¬(G=j):=by omega
 have hGim:¬(G=j+1):=by omega
 have hci:¬(cap=j):=by omega
 have hin:j≤nn:=by omega
 have hb3:(j:Int)≤(nn:Int):=by omega
 have hcpA0:∀ ty dc,(Builtin.copy_ #[266,266] ty #[.slice (some ⟨w.heap.size,j*3,none⟩) (nn+1 - j) dc,.slice (some q) 1 vcap]).run Tryz.prog (w.drew.alloc (.cells R 265))=.ok (goInt (Nat.min 1 (nn+1 - j))) ((w.drew.alloc (.cells R 265)).setRow w.heap.size X1.toArray):=fun ty dc=>hcpA 1 ty dc;have hcpA1:∀ ty dc,(Builtin.copy_ #[266,266] ty #[.slice (some ⟨w.heap.size,j*3,none⟩) (nn+1 - j) dc,.slice (some q) 1 vcap]).run Tryz.prog ((w.alloc (.cells R 265)).drew)=.ok (goInt (Nat.min 1 (nn+1 - j))) (((w.alloc (.cells R 265)).drew).setRow w.heap.size X1.toArray):=fun ty dc=>hcpA 1 ty dc;have hcpB0:∀ ty dc sc,(Builtin.copy_ #[266,266] ty #[.slice (some ⟨w.heap.size,(j+1)*3,none⟩) (nn - j) dc,.slice (some ⟨b,j*3,none⟩) (nn - j) sc]).run Tryz.prog (((w.alloc (.cells R 265)).drew.setRow w.heap.size X1.toArray).drew)=.ok (goInt (Nat.min (nn - j) (nn - j))) ((((w.alloc (.cells R 265)).drew.setRow w.heap.size X1.toArray).drew).setRow w.heap.size X2.toArray):=fun ty dc sc=>hcpB 2 ty dc sc;clear hG hcpA hcpB hR hold hkk hik hcur hRt hX1 hX2 hX2t hN hq0 hv ht
 go_enter Tryz.func274,Tryz.ntmps274
 go_wp2_with (first
  | (at_builtin;refine Lib.wpList_append_run _ rfl _ _ _ _ rfl _ _ rfl rfl _ _ (hrz _) ?_)
  | (at_builtin;refine wpList_copy_runI _ rfl _ _ 266 266 rfl _ _ rfl rfl (hcpA1 _ _) ?_)
  | (at_builtin;refine wpList_copy_runI _ rfl _ _ 266 266 rfl _ _ rfl rfl (hcpA0 _ _) ?_))
 go_region_law_o (refine step_copy_runI rfl _ _ 266 266 rfl (.slice (some ⟨w.heap.size,(j+1)*3,none⟩) (nn - j) (G - (j+1))) (.slice (some ⟨b,j*3,none⟩) (nn - j) (cap - j)) (by simp [Act.eval,Act.put]) (by simp [Act.eval,Act.put]) (hcpB0 3 (G - (j+1)) (cap - j)) ?_)
 go_wp2
 go_ret
 exact ⟨rfl,2,rfl⟩
theorem kR {w w':World} {b:Nat} (h:∀ k,k < w.heap.size→k≠b→w'.heap[k]?=w.heap[k]?) (ho:w'.os=w.os) (ht:w'.tape=w.tape) (hu:w'.output=w.output) (hs:w.heap.size≤w'.heap.size) (hd:w.drawn≤w'.drawn):kA w w' (some b) :=
 ⟨⟨ho,ht,hu,hs,fun k hk hne=>h k hk (fun e=>hne (by rw [e]))⟩,hd⟩
theorem eK (w:World) (b:Nat) (X:Array Value):(w.setRow b X).heap.size=w.heap.size:=by simp [World.setRow]
theorem Tryz.ins274:RT Tryz.prog 274 265 3:=by
 intro w ad cap nn cs j q vcap vs hr hj hb hv hvl h1 h2 hne _;have hcl:=(iX hr).1;by_cases hjn:j=nn
 ·subst hjn;refine (Tryz.ins_end hr hb hv hvl h1).mono fun e w' h=>?_;rw [List.take_of_length_le (by omega),List.drop_of_length_le (by omega),List.append_nil];exact h
 have hlt:j < nn:=by omega
 rcases hr.2 with ⟨_,h0⟩ | ⟨b,cap',cur,he,hbb,hw,hnc,hcm,hcs,ht⟩
 ·omega
 simp only [Value.slice.injEq] at he;obtain ⟨rfl,_,rfl⟩:=he;have hbw:b < w.heap.size:=(Array.getElem?_eq_some_iff.1 hw).1;have h3:cap≤9223372036854775807:=by unfold maxLen at hcm;omega
 have hln:(cs.take (j*3)++vs++cs.drop (j*3)).length=(nn+1)*3:=by
  simp only [List.length_append,List.length_take,List.length_drop,hvl,hcl];omega
 by_cases hroom:nn+1≤cap
 ·refine (Tryz.ins_room hw hcs ht h3 hlt hroom hb hv hvl h1 h2 (hne b rfl)).mono fun e w' h=>?_;obtain ⟨rfl,rfl⟩:=h;refine ⟨_,_,rfl,?_,?_,fun b' hb'=>.inl hb'⟩
  ·refine ⟨hln,.inr ⟨b,cap,_,rfl,hbb,setRow_heap _ b _ _ 265 (0,0) (setRow_heap w.drew b cur _ 265 (0,0) hw),hroom,hcm,?_,?_⟩⟩
   ·have:(cur.toList.drop ((nn+1)*3)).length=cap*3 - (nn+1)*3:=by rw [List.length_drop,Array.length_toList,hcs]
    rw [List.size_toArray,List.length_append,hln,this];omega
   rw [List.toList_toArray,List.take_append_of_le_length (by rw [hln];exact Nat.le_refl _),List.take_of_length_le (by rw [hln];exact Nat.le_refl _)]
  exact kR (fun k hk hkb=>(setRow_other _ _ _ _ hkb).trans (setRow_other _ _ _ _ hkb)) rfl rfl rfl (by rw [eK,eK];exact Nat.le_refl _) (Nat.le_succ _)
 refine (Tryz.ins_grow hw hcs ht hnc hlt (by omega) hb hv hvl h1 h2).mono fun e w' h=>?_;obtain ⟨G,X,hG1,hG2,hXl,hXt,rfl,Y,Z,m,rfl⟩:=h;refine ⟨_,_,rfl,?_,?_,fun b' hb'=>.inr (by simp at hb';omega)⟩
 ·refine ⟨hln,.inr ⟨w.heap.size,G,X.toArray,rfl,Nat.zero_le _,setRow_heap _ _ Z _ 265 (0,0) (setRow_heap _ _ Y _ 265 (0,0) (dI w _)),hG1,hG2,by rw [List.size_toArray,hXl],by rw [List.toList_toArray];exact hXt⟩⟩
 refine kR (fun k hk hkb=>?_) rfl rfl rfl ?_ ?_
 ·have hkn:k≠w.heap.size:=by omega
  exact (setRow_other _ _ _ _ hkn).trans ((setRow_other _ _ _ _ hkn).trans ((fX.alloc True w (.cells Y 265)).keep k hk))
 ·rw [eK,eK];exact (fX.alloc True w (.cells Y 265)).size
 exact Nat.le_add_right _ _
end Go.Proofs
namespace Go.Proofs
open Go Go.Shelf Go.RowKit Pk
set_option maxHeartbeats 4000000 in
set_option maxRecDepth 100000 in
theorem Tryz.ins_endM {w:World} {ad:Option Addr} {cap nn mv:Nat} (hm:1≤mv) {cs:List Value} {q:Addr} {vcap:Nat} {vs:List Value} (hr:(aP.row ad cap 3 1 nn cs).holds w) (hb:nn+mv≤1073741824) (hv:aL (hp w) q vs) (hvl:vs.length=mv) (h1:vs.all (·.oneCell')=true) :
  Calls Tryz.prog 179 #[.slice ad nn cap,.int .i64 nn,.slice (some q) mv vcap] w fun e w'=>∃ ad' cap',e=.returned (.slice ad' (nn+mv) cap')∧(aP.row ad' cap' 3 1 (nn+mv) (cs++vs)).holds w'∧kA w w' (ad.map (·.block))∧∀ b,ad'.map (·.block)=some b→ad.map (·.block)=some b∨w.heap.size≤b:=by
 obtain ⟨ad',cap',w',hrun,hh,hg,hf⟩:=lB (P:=Tryz.prog) 33 T12.E33 hr (sad:=some q) (m:=mv) (c:=vcap) (news:=vs) ⟨by omega,h1,.inr ⟨q,rfl,hv⟩⟩ (by unfold maxLen;omega) (by omega);have hd:=mJ _ hrun;have hcap:=(iX hr).2;refine Calls.mono (R:=fun e w''=>e=.returned (.slice ad' (nn+mv) cap')∧w''=w') ?_ fun e w'' hw=>by
  obtain ⟨rfl,rfl⟩:=hw;exact ⟨ad',cap',rfl,hh,⟨hg,hd⟩,hf⟩
 clear hf hh hg hd hr hv h1;by_cases hc:cap=nn
 ·subst hc
  go_enter Tryz.func179,Tryz.ntmps179
  go_wp2_with (at_builtin;refine Lib.wpList_append_run _ rfl _ _ _ _ rfl _ _ rfl rfl _ _ hrun ?_)
  go_ret
  exact ⟨rfl,rfl⟩
 go_enter Tryz.func179,Tryz.ntmps179
 go_wp2_with (at_builtin;refine Lib.wpList_append_run _ rfl _ _ _ _ rfl _ _ rfl rfl _ _ hrun ?_)
 go_ret
 exact ⟨rfl,rfl⟩
set_option maxHeartbeats 4000000 in
set_option maxRecDepth 100000 in
theorem Tryz.ins_roomM {w:World} {b cap nn j mv:Nat} (hm:1≤mv) {cs:List Value} {q:Addr} {vcap:Nat} {vs:List Value} {cur:Array Value} (hw:w.heap[b]?=some (.cells cur 3 (0,0))) (hcs:cur.size=cap) (ht:cur.toList.take (nn)=cs) (hcm:cap≤9223372036854775807) (hj:j < nn) (hroom:nn+mv≤cap) (hb:nn+mv≤1073741824) (hv:aL (hp w) q vs) (hvl:vs.length=mv) (h1:vs.all (·.oneCell')=true) (h2:cs.all (·.oneCell')=true) (hne:b≠q.block) :
  Calls Tryz.prog 179 #[.slice (some ⟨b,0,none⟩) nn cap,.int .i64 j,.slice (some q) mv vcap] w fun e w'=>e=.returned (.slice (some ⟨b,0,none⟩) (nn+mv) cap)∧w'=(w.drew.setRow b (cur.toList.take ((j+mv))++cs.drop (j)++cur.toList.drop ((nn+mv))).toArray).setRow b (cs.take (j)++vs++cs.drop (j)++cur.toList.drop ((nn+mv))).toArray:=by
 obtain ⟨c0,t0,z0,hq0,hq1⟩:=lX hv (by omega);have hcl:cs.length=nn:=by rw [← ht,List.length_take,Array.length_toList,hcs];omega
 have hcur:cur.toList=cs++cur.toList.drop (nn):=by rw [← ht,List.take_append_drop]
 have hov:∀ lb cb,(callFunc 219 #[.slice (some q) mv vcap,.slice (some ⟨b,(j+mv),none⟩) lb cb]).run Tryz.prog w=.ok (.value (.bool false)) w:=fun lb cb=>by
  rw [run_callFunc_extern Tryz.func219 (by kernel_rfl) (by kernel_rfl) (by kernel_rfl) (e:=Extern.SlicesOverlaps.overlaps #[33,33] #[4]) (by kernel_rfl),
   lY w 33 4 3 Tryz.underlying33 1 Tryz.sizeOf3 q ⟨b,(j+mv),none⟩ mv vcap lb cb (fun e=>hne e.symm) hq0 hq1 hw (by omega)]
  rfl
 have hcp1:∀ ty dc sc,(Builtin.copy_ #[33,33] ty #[.slice (some ⟨b,(j+mv),none⟩) (nn - j) dc,.slice (some ⟨b,j,none⟩) (nn+mv - j) sc]).run Tryz.prog w.drew=.ok (goInt (Nat.min (nn+mv - j) (nn - j))) (w.drew.setRow b (cur.toList.take ((j+mv))++cs.drop (j)++cur.toList.drop ((nn+mv))).toArray):=fun ty dc sc=>by
  have hl:(cs.drop (j)).length=Nat.min (nn+mv - j) (nn - j):=by
   rw [List.length_drop,hcl,show Nat.min (nn+mv - j) (nn - j)=nn - j by simp only [Nat.min_def];split <;> omega]
  have:=gI (P:=Tryz.prog) w.drew 33 ty 3 1 Tryz.underlying33 Tryz.sizeOf3 b ((j+mv)) (nn - j) dc ⟨b,j,none⟩ (nn+mv - j) sc (cs.drop (j)) (cur:=cur) hw (by rw [hl,Nat.mul_one]) (fun i v hi=>by
   rw [jJ];refine gJ (w:=w.drew) hw ?_;rw [hcur,List.getElem?_append_left (by rw [List.getElem?_drop] at hi;exact (List.getElem?_eq_some_iff.1 hi).1)]
   rwa [List.getElem?_drop] at hi) (by rw [List.length_drop,hcl,hcs];omega) (fun v hv=>List.all_eq_true.1 h2 v (List.mem_of_mem_drop hv))
  rw [this,show (j+mv)+(cs.drop (j)).length=(nn+mv) by rw [List.length_drop,hcl];omega]
 obtain ⟨X1,hX1⟩:∃ X1:List Value,X1=cur.toList.take ((j+mv))++cs.drop (j)++cur.toList.drop ((nn+mv)):=⟨_,rfl⟩;rw [← hX1] at hcp1 ⊢;obtain ⟨W1,hW1⟩:∃ W1,W1=w.drew.setRow b X1.toArray:=⟨_,rfl⟩;rw [← hW1] at hcp1 ⊢;have hw1:W1.heap[b]?=some (.cells X1.toArray 3 (0,0)):=by rw [hW1];exact setRow_heap w.drew b cur X1.toArray 3 (0,0) hw
 have hX1l:X1.length=cap:=by rw [hX1];simp only [List.length_append,List.length_take,List.length_drop,Array.length_toList,hcs,hcl];omega
 have hlen1:(cur.toList.take ((j+mv))).length=(j+mv):=by rw [List.length_take,Array.length_toList,hcs];omega
 have hcp2:∀ ty dc,(Builtin.copy_ #[33,33] ty #[.slice (some ⟨b,j,none⟩) (nn+mv - j) dc,.slice (some q) mv vcap]).run Tryz.prog W1=.ok (goInt (Nat.min mv (nn+mv - j))) (W1.setRow b (cs.take (j)++vs++cs.drop (j)++cur.toList.drop ((nn+mv))).toArray):=fun ty dc=>by
  have hm:Nat.min mv (nn+mv - j)=mv:=by simp only [Nat.min_def];split <;> omega
  have:=gI (P:=Tryz.prog) W1 33 ty 3 1 Tryz.underlying33 Tryz.sizeOf3 b (j) (nn+mv - j) dc q mv vcap vs (cur:=X1.toArray) hw1 (by rw [hvl,hm,Nat.mul_one]) (fun i v hi=>by
   have h0:=hv.cell hi;have hsp:(q.add i).block=q.block:=by unfold Addr.add;split <;> rfl
   rw [hW1];unfold World.cell? at h0 ⊢;rw [show (w.drew.setRow b X1.toArray).heap[(q.add i).block]?=w.heap[(q.add i).block]? from setRow_other w.drew b _ _ (by rw [hsp];exact fun e=>hne e.symm)]
   exact h0) (by rw [hvl,List.size_toArray,hX1l];omega) (fun v hv=>List.all_eq_true.1 h1 v hv)
  rw [this,hvl];congr 3;have e1:X1.take (j)=cs.take (j):=by
   rw [hX1,List.append_assoc,List.take_append_of_le_length (by rw [hlen1];omega),List.take_take,show min (j) ((j+mv))=j by omega,← ht,List.take_take,show min (j) (nn)=j by omega]
  have e2:X1.drop (j+mv)=cs.drop (j)++cur.toList.drop ((nn+mv)):=by
   rw [hX1,show j+mv=(j+mv) by omega,List.append_assoc,List.drop_append_of_le_length (by rw [hlen1];omega),List.drop_of_length_le (by rw [hlen1];omega),List.nil_append]
  simp only [List.toList_toArray,e1,e2,List.append_assoc]
 have hz2:¬((j:Int)=(nn:Int)):=by omega
 have hw2:IntKind.i64.wrap ((j:Int)+(mv:Int))=(j:Int)+(mv:Int):=by rw [IntKind.wrap_i64];omega
 have hw3:IntKind.i64.wrap ((nn:Int)+(mv:Int))=(nn:Int)+(mv:Int):=by rw [IntKind.wrap_i64];omega
 have htn:((j:Int)+(mv:Int)).toNat=j+mv:=by omega
 have htn2:((nn:Int)+(mv:Int)).toNat=nn+mv:=by omega
 have hb1:(0:Int)≤(j:Int)+(mv:Int):=by omega
 have hb2:¬(cap=j+mv):=by omega
 have hb4:¬(cap=j):=by omega
 have hb3:(j:Int)≤(nn:Int)+(mv:Int):=by omega
 have hin:j≤nn:=by omega
 have hro:¬((cap:Int) < (nn:Int)+(mv:Int)):=by omega
 clear hX1 hcur ht;have mixed:=T12.mixed;clear hw1;subst hW1
 go_enter Tryz.func179,Tryz.ntmps179
 go_wp2_with (simp only [hov])
 go_region_law_o (refine step_copy_runI rfl _ _ 33 33 rfl (.slice (some ⟨b,(j+mv),none⟩) (nn - j) (cap - (j+mv))) (.slice (some ⟨b,j,none⟩) (nn+mv - j) (cap - j)) (by first | (simp [Act.eval,Act.put];done) | (simp [Act.eval,Act.put];omega)) (by first | (simp [Act.eval,Act.put];done) | (simp [Act.eval,Act.put];omega)) (hcp1 3 (cap - (j+mv)) (cap - j)) ?_)
 go_wp2_with (at_builtin;refine wpList_copy_runI _ rfl _ _ 33 33 rfl _ _ rfl rfl (hcp2 _ _) ?_)
 go_ret
 exact ⟨rfl,by simp only [List.append_assoc]⟩
set_option maxHeartbeats 4000000 in
set_option maxRecDepth 100000 in
theorem Tryz.ins_growM {w:World} {b cap nn j mv:Nat} (hm:1≤mv) {cs:List Value} {q:Addr} {vcap:Nat} {vs:List Value} {cur:Array Value} (hw:w.heap[b]?=some (.cells cur 3 (0,0))) (hcs:cur.size=cap) (ht:cur.toList.take (nn)=cs) (hnc:nn≤cap) (hj:j < nn) (hroom:cap < nn+mv) (hb:nn+mv≤1073741824) (hv:aL (hp w) q vs) (hvl:vs.length=mv) (h1:vs.all (·.oneCell')=true) (h2:cs.all (·.oneCell')=true) :
  Calls Tryz.prog 179 #[.slice (some ⟨b,0,none⟩) nn cap,.int .i64 j,.slice (some q) mv vcap] w fun e w'=>∃ (G:Nat) (X:List Value),nn+mv≤G∧G≤maxLen∧X.length=G∧X.take ((nn+mv))=cs.take (j)++vs++cs.drop (j)∧e=.returned (.slice (some ⟨w.heap.size,0,none⟩) (nn+mv) G)∧∃ Y Z m,w'=(((w.alloc (.cells Y 3)).drewN m).setRow w.heap.size Z).setRow w.heap.size X.toArray:=by
 obtain ⟨i0,v0,hi0,hz0,hzv,hzs,hzb⟩:=T12.E33.info;have hzc:v0.cells.size=1:=by rw [fY,hzv];rfl
 have hcl:cs.length=nn:=by rw [← ht,List.length_take,Array.length_toList,hcs];omega
 have hcur:cur.toList=cs++cur.toList.drop (nn):=by rw [← ht,List.take_append_drop]
 have hold:(Builtin.firstCells i0.size j (.slice (some ⟨b,0,none⟩) j cap)).run Tryz.prog w.drew=.ok (cs.take (j)).toArray w.drew:=by
  rw [hzs];refine run_firstCells_some (w:=w.drew) 1 j ⟨b,0,none⟩ j cap (cs.take (j)) (by rw [List.length_take,hcl];omega) (fun i v hi=>?_);rw [jJ,Nat.zero_add];refine gJ (w:=w.drew) hw ?_;rw [List.getElem?_take] at hi
  split at hi
  ·rw [hcur,List.getElem?_append_left (by rw [hcl];omega)];exact hi
  cases hi
 have hik:j+(nn+mv - j)=nn+mv:=by omega
 have hkk:(nn:Int)+(mv:Int) - (j:Int)=((nn+mv - j:Nat):Int):=by omega
 obtain ⟨G,hG⟩:∃ G,G=grownCap w (nn+mv) cap 3:=⟨_,rfl⟩;have hGn:nn+mv≤G:=by rw [hG];exact grownCap_ge w _ _ _
 have hGm:G≤maxLen:=by rw [hG];exact grownCap_le_maxLen w (nn+mv) cap 3 (by unfold maxLen;omega)
 obtain ⟨R,hR⟩:∃ R:Array Value,R=(cs.take (j)).toArray++Builtin.zeroCells v0.cells (nn+mv - j)++Builtin.zeroCells v0.cells (G - (nn+mv)):=⟨_,rfl⟩;have hRs:R.size=G:=by
  rw [hR];simp only [Array.size_append,List.size_toArray,List.length_take,hcl,Builtin.zeroCells,Array.size_map,Array.size_range,hzc];omega
 have hRt:R.toList.take (j)=cs.take (j):=by
  rw [hR,Array.toList_append,Array.toList_append,List.append_assoc,List.take_append_of_le_length (by simp [hcl];omega)];simp only [List.toList_toArray,List.take_take,Nat.min_self]
 have hrz:∀ ty,(Builtin.append_ #[33,3] ty #[.slice (some ⟨b,0,none⟩) j cap,.int .i64 ((nn:Int)+(mv:Int) - (j:Int))]).run Tryz.prog w=.ok (.slice (some ⟨w.heap.size,0,none⟩) (nn+mv) G) (w.drew.alloc (.cells R 3)):=fun ty=>by
  have h:=Lib.run_append_grow_zeros w 33 3 ty 3 i0 _ .i64 .i64 Tryz.underlying33 Tryz.underlying3 hi0 hz0 (some ⟨b,0,none⟩) j cap (cs.take (j)) hold (nn+mv - j) (by omega) (by rw [hzs];decide) (by omega) (by omega) (by rw [hzb];omega) (by rw [hzb,hik];exact growslice_fits hroom (by omega));rw [hik] at h;rw [hkk,hR,hG];exact h
 have hN:(w.drew.alloc (.cells R 3)).heap[w.heap.size]?=some (.cells R 3 (0,0)):=dI w.drew _;have hbw:b < w.heap.size:=(Array.getElem?_eq_some_iff.1 hw).1;obtain ⟨X1,hX1⟩:∃ X1:List Value,X1=cs.take (j)++vs++R.toList.drop ((j+mv)):=⟨_,rfl⟩;obtain ⟨X2,hX2⟩:∃ X2:List Value,X2=cs.take (j)++vs++cs.drop (j)++R.toList.drop ((nn+mv)):=⟨_,rfl⟩;have hct:(cs.take (j)).length=j:=by rw [List.length_take,hcl];omega
 have hX1l:X1.length=G:=by rw [hX1];simp only [List.length_append,hct,hvl,List.length_drop,Array.length_toList,hRs];omega
 have hX2l:X2.length=G:=by rw [hX2];simp only [List.length_append,hct,hvl,List.length_drop,Array.length_toList,hRs,hcl];omega
 have hqn:∀ i,(q.add i).block=q.block:=fun i=>by unfold Addr.add;split <;> rfl
 obtain ⟨c0,t0,z0,hq0,_⟩:=lX hv (by omega);have hqw:q.block < w.heap.size:=(Array.getElem?_eq_some_iff.1 hq0).1;have hcpA:∀ (m:Nat) ty dc,(Builtin.copy_ #[33,33] ty #[.slice (some ⟨w.heap.size,j,none⟩) (nn+mv - j) dc,.slice (some q) mv vcap]).run Tryz.prog ((w.alloc (.cells R 3)).drewN m)=.ok (goInt (Nat.min mv (nn+mv - j))) (((w.alloc (.cells R 3)).drewN m).setRow w.heap.size X1.toArray):=fun m ty dc=>by
  have hm:Nat.min mv (nn+mv - j)=mv:=by simp only [Nat.min_def];split <;> omega
  have:=gI (P:=Tryz.prog) ((w.alloc (.cells R 3)).drewN m) 33 ty 3 1 Tryz.underlying33 Tryz.sizeOf3 w.heap.size (j) (nn+mv - j) dc q mv vcap vs (cur:=R) (te:=3) (dI w _) (by rw [hvl,hm,Nat.mul_one]) (fun i v hi=>by
   have h0:=hv.cell hi;unfold World.cell? at h0 ⊢;rw [show ((w.alloc (.cells R 3)).drewN m).heap[(q.add i).block]?=w.heap[(q.add i).block]? from (fX.alloc True w (.cells R 3)).keep _ (by rw [hqn];exact hqw)]
   exact h0) (by rw [hvl,hRs];omega) (fun v hv=>List.all_eq_true.1 h1 v hv)
  rw [this,hvl,hRt,hX1,show j+mv=(j+mv) by omega]
 have hcpB:∀ (m:Nat) ty dc sc,(Builtin.copy_ #[33,33] ty #[.slice (some ⟨w.heap.size,(j+mv),none⟩) (nn - j) dc,.slice (some ⟨b,j,none⟩) (nn - j) sc]).run Tryz.prog (((w.alloc (.cells R 3)).drewN m).setRow w.heap.size X1.toArray)=.ok (goInt (Nat.min (nn - j) (nn - j))) ((((w.alloc (.cells R 3)).drewN m).setRow w.heap.size X1.toArray).setRow w.heap.size X2.toArray):=fun m ty dc sc=>by
  have hm:Nat.min (nn - j) (nn - j)=nn - j:=Nat.min_self _;have hl:(cs.drop (j)).length=Nat.min (nn - j) (nn - j):=by rw [hm,List.length_drop,hcl]
  have:=gI (P:=Tryz.prog) (((w.alloc (.cells R 3)).drewN m).setRow w.heap.size X1.toArray) 33 ty 3 1 Tryz.underlying33 Tryz.sizeOf3 w.heap.size ((j+mv)) (nn - j) dc ⟨b,j,none⟩ (nn - j) sc (cs.drop (j)) (cur:=X1.toArray) (te:=3) (setRow_heap _ _ R X1.toArray 3 (0,0) (dI w _)) (by rw [hl,Nat.mul_one]) (fun i v hi=>by
   rw [jJ];have hcell:w.cell? ⟨b,j+i,none⟩=some v:=by
    refine gJ hw ?_;rw [hcur,List.getElem?_append_left (by rw [List.getElem?_drop] at hi;exact (List.getElem?_eq_some_iff.1 hi).1)]
    rwa [List.getElem?_drop] at hi
   unfold World.cell? at hcell ⊢;rw [show (((w.alloc (.cells R 3)).drewN m).setRow w.heap.size X1.toArray).heap[(⟨b,j+i,none⟩:Addr).block]?=w.heap[(⟨b,j+i,none⟩:Addr).block]? from (setRow_other _ _ _ _ (by show b≠w.heap.size;omega)).trans ((fX.alloc True w (.cells R 3)).keep _ hbw)]
   exact hcell) (by rw [List.length_drop,hcl,List.size_toArray,hX1l];omega) (fun v hv=>List.all_eq_true.1 h2 v (List.mem_of_mem_drop hv))
  rw [this,show (j+mv)+(cs.drop (j)).length=(nn+mv) by rw [List.length_drop,hcl];omega];congr 3;have e1:X1.take ((j+mv))=cs.take (j)++vs:=by
   rw [hX1,List.take_append_of_le_length (by rw [List.length_append,hct,hvl];omega),List.take_of_length_le (by rw [List.length_append,hct,hvl];omega)]
  have e2:X1.drop ((nn+mv))=R.toList.drop ((nn+mv)):=by
   rw [hX1,List.drop_append,List.drop_of_length_le (by rw [List.length_append,hct,hvl];omega),List.nil_append,List.drop_drop,List.length_append,hct,hvl,show (j+mv)+((nn+mv) - (j+mv))=(nn+mv) by omega]
  simp only [List.toList_toArray,e1,e2,hX2,List.append_assoc]
 have hX2t:X2.take ((nn+mv))=cs.take (j)++vs++cs.drop (j):=by
  rw [hX2,List.take_append_of_le_length (by simp only [List.length_append,hct,hvl,List.length_drop,hcl];omega),List.take_of_length_le (by simp only [List.length_append,hct,hvl,List.length_drop,hcl];omega)]
 refine Calls.mono (R:=fun e w''=>e=.returned (.slice (some ⟨w.heap.size,0,none⟩) (nn+mv) G)∧∃ m,w''=(((w.alloc (.cells R 3)).drewN m).setRow w.heap.size X1.toArray).setRow w.heap.size X2.toArray) ?_ fun e w'' hw=>by
  obtain ⟨rfl,m,rfl⟩:=hw;exact ⟨G,X2,hGn,hGm,hX2l,hX2t,rfl,R,X1.toArray,m,rfl⟩
 have mixed:=T12.mixed;have hz2:¬((j:Int)=(nn:Int)):=by omega
 have hw2:IntKind.i64.wrap ((j:Int)+(mv:Int))=(j:Int)+(mv:Int):=by rw [IntKind.wrap_i64];omega
 have hw3:IntKind.i64.wrap ((nn:Int)+(mv:Int))=(nn:Int)+(mv:Int):=by rw [IntKind.wrap_i64];omega
 have htn:((j:Int)+(mv:Int)).toNat=j+mv:=by omega
 have hb1:(0:Int)≤(j:Int)+(mv:Int):=by omega
 have hro:(cap:Int) < (nn:Int)+(mv:Int):=by omega
 have hGi:¬(G=j):=by omega
 have hGim:¬(G=j+mv):=by omega
 have hci:¬(cap=j):=by omega
 have hin:j≤nn:=by omega
 have hb3:(j:Int)≤(nn:Int):=by omega
 have hcpA0:∀ ty dc,(Builtin.copy_ #[33,33] ty #[.slice (some ⟨w.heap.size,j,none⟩) (nn+mv - j) dc,.slice (some q) mv vcap]).run Tryz.prog (w.drew.alloc (.cells R 3))=.ok (goInt (Nat.min mv (nn+mv - j))) ((w.drew.alloc (.cells R 3)).setRow w.heap.size X1.toArray):=fun ty dc=>hcpA 1 ty dc;have hcpA1:∀ ty dc,(Builtin.copy_ #[33,33] ty #[.slice (some ⟨w.heap.size,j,none⟩) (nn+mv - j) dc,.slice (some q) mv vcap]).run Tryz.prog ((w.alloc (.cells R 3)).drew)=.ok (goInt (Nat.min mv (nn+mv - j))) (((w.alloc (.cells R 3)).drew).setRow w.heap.size X1.toArray):=fun ty dc=>hcpA 1 ty dc;have hcpB0:∀ ty dc sc,(Builtin.copy_ #[33,33] ty #[.slice (some ⟨w.heap.size,(j+mv),none⟩) (nn - j) dc,.slice (some ⟨b,j,none⟩) (nn - j) sc]).run Tryz.prog (((w.alloc (.cells R 3)).drew.setRow w.heap.size X1.toArray).drew)=.ok (goInt (Nat.min (nn - j) (nn - j))) ((((w.alloc (.cells R 3)).drew.setRow w.heap.size X1.toArray).drew).setRow w.heap.size X2.toArray):=fun ty dc sc=>hcpB 2 ty dc sc;clear hG hcpA hcpB hR hold hkk hik hcur hRt hX1 hX2 hX2t hN hq0 hv ht
 go_enter Tryz.func179,Tryz.ntmps179
 go_wp2_with (first
  | (at_builtin;refine Lib.wpList_append_run _ rfl _ _ _ _ rfl _ _ rfl rfl _ _ (hrz _) ?_)
  | (at_builtin;refine wpList_copy_runI _ rfl _ _ 33 33 rfl _ _ rfl rfl (hcpA1 _ _) ?_)
  | (at_builtin;refine wpList_copy_runI _ rfl _ _ 33 33 rfl _ _ rfl rfl (hcpA0 _ _) ?_))
 go_region_law_o (refine step_copy_runI rfl _ _ 33 33 rfl (.slice (some ⟨w.heap.size,(j+mv),none⟩) (nn - j) (G - (j+mv))) (.slice (some ⟨b,j,none⟩) (nn - j) (cap - j)) (by first | (simp [Act.eval,Act.put];done) | (simp [Act.eval,Act.put];omega)) (by first | (simp [Act.eval,Act.put];done) | (simp [Act.eval,Act.put];omega)) (hcpB0 3 (G - (j+mv)) (cap - j)) ?_)
 go_wp2
 go_ret
 exact ⟨rfl,2,rfl⟩
set_option maxHeartbeats 4000000 in
set_option maxRecDepth 100000 in
theorem Tryz.ins_none {w:World} {ad vad:Option Addr} {cap nn j vcap:Nat} (hj:j≤nn) (hc:nn≤cap) (hcm:cap≤9223372036854775807):Calls Tryz.prog 179 #[.slice ad nn cap,.int .i64 j,.slice vad 0 vcap] w fun e w'=>e=.returned (.slice ad nn cap)∧∃ n,w'=w.drewN n:=by
 have hb3:(j:Int)≤(nn:Int):=by omega
 by_cases hcj:cap=j
 ·subst hcj
  go_enter Tryz.func179,Tryz.ntmps179
  go_wp2
  go_ret
  exact ⟨rfl,0,rfl⟩
 go_enter Tryz.func179,Tryz.ntmps179
 go_wp2
 go_ret
 exact ⟨rfl,0,rfl⟩
theorem Tryz.insM179:RZ Tryz.prog 179 3 1:=by
 intro w ad cap nn cs j vad vcap mv vs hr hj hb hvl hsrc h2 hne hvc;have hcl:=(iX hr).1;have hnc0:=(iX hr).2;rw [Nat.mul_one] at hvl;simp only [Nat.mul_one];rcases Nat.eq_zero_or_pos mv with h0 | hm
 ·subst h0;have hv0:vs=[]:=List.eq_nil_of_length_eq_zero (by omega);subst hv0;have hrow:nn≤cap∧cap≤9223372036854775807:=by
   rcases hr.2 with ⟨e0,h0⟩ | ⟨b,cap',cur,he,hbb,hw,hnc,hcm,hcs,ht⟩
   ·cases e0;omega
   cases he;unfold maxLen at hcm;omega
  refine (Tryz.ins_none hj hrow.1 hrow.2).mono fun e w' h=>?_;obtain ⟨rfl,n,rfl⟩:=h;refine ⟨ad,cap,rfl,?_,?_,fun b hb'=>.inl hb'⟩
  ·rw [List.append_nil,List.take_append_drop];exact hr
  exact ⟨⟨rfl,rfl,rfl,Nat.le_refl _,fun k hk hne=>rfl⟩,Nat.le_add_right _ _⟩
 rcases hsrc with h0 | ⟨_,h1,⟨_,h0,_⟩ | ⟨q,rfl,hv⟩⟩
 ·omega
 ·omega
 by_cases hjn:j=nn
 ·subst hjn;refine (Tryz.ins_endM hm hr hb hv hvl h1).mono fun e w' h=>?_;rw [List.take_of_length_le (by omega),List.drop_of_length_le (by omega),List.append_nil];exact h
 have hlt:j < nn:=by omega
 rcases hr.2 with ⟨_,h0⟩ | ⟨b,cap',cur,he,hbb,hw,hnc,hcm,hcs,ht⟩
 ·omega
 simp only [Value.slice.injEq] at he;obtain ⟨rfl,_,rfl⟩:=he;rw [Nat.mul_one] at hcs ht;have hbw:b < w.heap.size:=(Array.getElem?_eq_some_iff.1 hw).1;have h3:cap≤9223372036854775807:=by unfold maxLen at hcm;omega
 have hln:(cs.take (j)++vs++cs.drop (j)).length=(nn+mv):=by
  simp only [List.length_append,List.length_take,List.length_drop,hvl,hcl];omega
 by_cases hroom:nn+mv≤cap
 ·refine (Tryz.ins_roomM hm hw hcs ht h3 hlt hroom hb hv hvl h1 h2 (hne q rfl hm b rfl)).mono fun e w' h=>?_;obtain ⟨rfl,rfl⟩:=h;refine ⟨_,_,rfl,?_,?_,fun b' hb'=>.inl hb'⟩
  ·refine ⟨by rw [hln,Nat.mul_one],.inr ⟨b,cap,_,rfl,hbb,setRow_heap _ b _ _ 3 (0,0) (setRow_heap w.drew b cur _ 3 (0,0) hw),hroom,hcm,?_,?_⟩⟩
   ·have:(cur.toList.drop ((nn+mv))).length=cap - (nn+mv):=by rw [List.length_drop,Array.length_toList,hcs]
    rw [List.size_toArray,List.length_append,hln,this];omega
   rw [Nat.mul_one,List.toList_toArray,List.take_append_of_le_length (by rw [hln];exact Nat.le_refl _),List.take_of_length_le (by rw [hln];exact Nat.le_refl _)]
  exact kR (fun k hk hkb=>(setRow_other _ _ _ _ hkb).trans (setRow_other _ _ _ _ hkb)) rfl rfl rfl (by rw [eK,eK];exact Nat.le_refl _) (Nat.le_succ _)
 refine (Tryz.ins_growM hm hw hcs ht hnc hlt (by omega) hb hv hvl h1 h2).mono fun e w' h=>?_;obtain ⟨G,X,hG1,hG2,hXl,hXt,rfl,Y,Z,m,rfl⟩:=h;refine ⟨_,_,rfl,?_,?_,fun b' hb'=>.inr (by simp at hb';omega)⟩
 ·refine ⟨by rw [hln,Nat.mul_one],.inr ⟨w.heap.size,G,X.toArray,rfl,Nat.zero_le _,setRow_heap _ _ Z _ 3 (0,0) (setRow_heap _ _ Y _ 3 (0,0) (dI w _)),hG1,hG2,by rw [List.size_toArray,hXl,Nat.mul_one],by rw [List.toList_toArray,Nat.mul_one];exact hXt⟩⟩
 refine kR (fun k hk hkb=>?_) rfl rfl rfl ?_ ?_
 ·have hkn:k≠w.heap.size:=by omega
  exact (setRow_other _ _ _ _ hkn).trans ((setRow_other _ _ _ _ hkn).trans ((fX.alloc True w (.cells Y 3)).keep k hk))
 ·rw [eK,eK];exact (fX.alloc True w (.cells Y 3)).size
 exact Nat.le_add_right _ _
end Go.Proofs
set_option maxHeartbeats 4000000
namespace T12
open Go Go.Proofs Pk Go.RowKit
section
variable {P:Program} {r:Option Nat} {n:aT} {p:List PanicEntry→aT} {a:Act} {w:World} {D:List Deferred} {k:Nat} {L:bY} {ops:Array Oper} {rest:List Oper} {d:Nat} {ty:TypeId} {pos:String} {af:Array Edge}
theorem NI {y:Operand} {t u te:TypeId} {pe:Value} {ms:_} (hA:aR D k a L) (hu':P.underlying t=some (.interface ms)) (hd:Nat.blt d k=true) (hy:ev L y=some (.iface te pe)) (h:∀ a,aR D k a ((d,.bool false)::L)→O P r ops n p rest a w):O P r ops n p (⟨some d,.binOp .eql t y (.const .nilIface) u,ty,pos,af,none⟩::rest) a w:=by
 have hu:P.underlying t=some (.interface (P.methodsAt t)):=by rw [hu'];simp [Program.methodsAt,hu']
 refine cK rfl (fun _ h=>by cases h) (w':=w) (v:=.bool false) ?_ (h _ (hA.put hd _));simp [execOp,hA.eval hy,show a.eval (.const .nilIface)=.nilIface from rfl,eqGuard,run_eql_held_nil w t _ _ hu,Result.andThen]
theorem NJ {y:Operand} {t u:TypeId} {ms:_} (hA:aR D k a L) (hu':P.underlying t=some (.interface ms)) (hd:Nat.blt d k=true) (hy:ev L y=some .nilIface) (h:∀ a,aR D k a ((d,.bool true)::L)→O P r ops n p rest a w):O P r ops n p (⟨some d,.binOp .eql t y (.const .nilIface) u,ty,pos,af,none⟩::rest) a w:=by
 have hu:P.underlying t=some (.interface (P.methodsAt t)):=by rw [hu'];simp [Program.methodsAt,hu']
 refine cK rfl (fun _ h=>by cases h) (w':=w) (v:=.bool true) ?_ (h _ (hA.put hd _));simp only [execOp,hA.eval hy,show a.eval (.const .nilIface)=.nilIface from rfl];simp [eqGuard,run_eql_nil_nil w t hu,Result.andThen]
theorem NK {y:Operand} {xT t:TypeId} {v:Value} {ds:TypeDesc} (hA:aR D k a L) (hd:Nat.blt d k=true) (hu:P.underlying t=some ds) (hds:(match ds with | .interface _=>false | _=>true)=true) (hy:ev L y=some (.iface t v))
  (h:∀ a,aR D k a ((d,.tuple #[v,.bool true])::L)→O P r ops n p rest a w):O P r ops n p (⟨some d,.typeAssert y xT t true,ty,pos,af,none⟩::rest) a w :=
 cK rfl (fun _ h=>by cases h) (w':=w) (v:=.tuple #[v,.bool true]) (by
  simp only [execOp,Instr.typeAssert,hA.eval hy]
  cases ds <;> simp at hds <;> simp [run_underlying hu,Result.andThen]) (h _ (hA.put hd _))
end
theorem NL (q:Addr) (w:World):CallsD Tryz.prog 76 #[.pointer (some q)] .returning w fun e u' w'=>e=.returned (.tuple #[])∧u'=.returning∧w'=w:=by
 refine callsD_of_wpS Tryz.func76 rfl fun c₀ cs hu=>?_;apply wpS_seq;apply wpS_region;simp [wpOpsS,go_sem,recoverD,hu,Tryz.ntmps76,Exit.thenS];refine wpS_of_wp ?_;refine (wpIn_wide (n:=0)).1 (wpIn_mono (show Pk.W Tryz.prog none _ (fun a w'=>a.defers=[]∧w'=w) (fun _ _=>False) [] (fun _ _ _=>False) _ w from ?_) ?_)
 ·have hA:aR [] 12 { tmps:=#[.pointer (some q)]++((Array.replicate 11 undef).setIfInBounds 3 .nilIface),defers:=[] } [(0,.pointer (some q)),(4,.nilIface)]:=by
   refine ⟨rfl,by simp,fun i u h=>?_⟩;rcases i with _ | _ | _ | _ | _ | i
   ·exact h
   ·cases h
   ·cases h
   ·cases h
   ·exact h
   cases (show (none:Option Value)=some u from h)
  revert hA;generalize ({ tmps:=_,defers:=[] }:Act)=a;intro hA;refine lF (gD (dE (NJ hA Tryz.underlying20 rfl rfl fun a hA=>fN (jB hA rfl (fun _=>?_) (fun h=>by cases h)))));exact dE (fA hA rfl rfl fun a hA=>fN ⟨hA.defers,rfl⟩)
 intro z a w' hz
 cases z with
 | normal =>
  obtain ⟨hd,rfl⟩:=hz;exact ⟨hd,.returning,by cases c₀;simp_all,.tuple #[],by simp [results,Tryz.results76],rfl,rfl,rfl⟩
 | ret=>exact hz.elim
 | panic ch=>exact hz.elim
 | exit id=>obtain ⟨K,hK,_⟩:=hz;simp [sB] at hK
 | goto l=>exact hz
 | outgrown=>exact hz.elim
theorem NM {M:Prop} {W w:World} {H:Hp} {Hs:List Hp} {b tE:Nat} {z0:Value} {u:Int} {σr:aK} (hS:St M W H Hs ((tE,bG b 43 [z0])::σr) w) (hT:Nat.beq 999999 tE=false) :
  CallsD Tryz.prog 76 #[.pointer (some ⟨b,0,none⟩)] (.panicking (GM (.iface 149 (.agg #[.int .i64 u])))) w fun e u' w'=>(∃ v,e=.returned v)∧settle u'=.returning ∧
   ∃ b3 cs3,St M W H Hs ((999999,bG b3 149 cs3)::(tE,bG b 43 [.int .i64 u])::σr) w':=by
 refine callsD_of_wpS Tryz.func76 rfl fun c₀ cs hu=>?_;apply wpS_seq;apply wpS_region;obtain ⟨v,hv⟩:∃ v:Value,v=.agg #[.int .i64 u]:=⟨_,rfl⟩;rw [← hv] at hu;simp [wpOpsS,go_sem,recoverD,hu,Tryz.ntmps76,Exit.thenS,GM];refine wpS_of_wp ?_;refine (wpIn_wide (n:=0)).1 (wpIn_mono (show Pk.W Tryz.prog none _ (fun a w=>a.defers=[]∧∃ b3 cs3,St M W H Hs ((999999,bG b3 149 cs3)::(tE,bG b 43 [.int .i64 u])::σr) w) (fun _ _=>False) [] (fun _ _ _=>False) _ w from ?_) ?_)
 ·have hA:aR [] 12 { tmps:=#[.pointer (some ⟨b,0,none⟩)]++((Array.replicate 11 undef).setIfInBounds 3 (.iface 149 v)),defers:=[] } [(0,.pointer (some ⟨b,0,none⟩)),(4,.iface 149 v)]:=by
   refine ⟨rfl,by simp,fun i u h=>?_⟩;rcases i with _ | _ | _ | _ | _ | i
   ·exact h
   ·cases h
   ·cases h
   ·cases h
   ·exact h
   cases (show (none:Option Value)=some u from h)
  revert hA;generalize ({ tmps:=_,defers:=[] }:Act)=a;intro hA;subst hv;refine lF (gD (dE (NI hA Tryz.underlying20 rfl rfl fun a hA=>fN (jB hA rfl (fun h=>by cases h) (fun _=>?_)))));refine gD (dE (NK hA rfl Tryz.underlying149 rfl rfl fun a hA=>lI (vs:=[.agg #[.int .i64 u],.bool true]) hA rfl rfl rfl fun a hA=>lI (vs:=[.agg #[.int .i64 u],.bool true]) hA rfl rfl rfl fun a hA=>fN (jB hA rfl (fun _=>?_) (fun h=>by cases h))));refine gD (dE (qP 999999 hA rfl hS Tryz.zeroValue149 rfl fun b3 w hS hb a hA=>?_));refine lJ 999999 (cs:=[.int .i64 u]) hA hS rfl rfl Tryz.sizeOf149 rfl rfl rfl rfl rfl fun w hS a hA=>fN ?_;refine dE (XM (cs:=[.int .i64 u]) (v:=.int .i64 u) hA rfl rfl rfl Tryz.underlying149 rfl Tryz.sizeOf43 Tryz.isAgg43 ?_ rfl fun a hA=>?_)
  ·exact sO (x:=⟨[],12,M,W,H⟩) 999999 rfl w hS
  refine lJ tE (t0:=43) (l:=[z0]) (cs:=[.int .i64 u]) hA hS rfl rfl Tryz.sizeOf43 (by simp [cG,dF,hT]) rfl rfl rfl rfl fun w hS a hA=>fN ?_;refine ⟨hA.defers,b3,[.int .i64 u],?_⟩;simpa [dF,hT,kB,bP] using hS
 intro z a w' hz
 cases z with
 | normal =>
  obtain ⟨hd,h⟩:=hz;subst hv;exact ⟨hd,.panicking [{ v:=.iface 149 (.agg #[.int .i64 u]),recovered:=true }],rfl,.tuple #[],by simp [results,Tryz.results76],⟨_,rfl⟩,rfl,h⟩
 | ret=>exact hz.elim
 | panic ch=>exact hz.elim
 | exit id=>obtain ⟨K,hK,_⟩:=hz;simp [sB] at hK
 | goto l=>exact hz
 | outgrown=>exact hz.elim
variable {R:Ending→World→Prop} {M:Prop} {W:World} {H:Hp} {Hs:List Hp} {σ:aK} {L:bY} {b:Nat}
theorem YH (h:TG ⟨[],56,M,W,H⟩ Hs σ L (Rt Tryz.prog Tryz.f49 R)):TG ⟨[KM 76 [.pointer (some ⟨b,0,none⟩)]],56,M,W,H⟩ Hs σ L (RW Tryz.prog Tryz.f49 R) :=
 rtF Tryz.call76 (fun w hS=>(NL ⟨b,0,none⟩ w).mono (by rintro e u w' ⟨rfl,rfl,rfl⟩;exact ⟨⟨_,rfl⟩,rfl,hS⟩)) h
theorem CL {tE:Nat} {u:Int} {z0:Value} {σr:aK} (hT:Nat.beq 999999 tE=false)
  (h:∀ b3 cs3,TG ⟨[],56,M,W,H⟩ Hs ((999999,bG b3 149 cs3)::(tE,bG b 43 [.int .i64 u])::σr) L (Rt Tryz.prog Tryz.f49 R)) :
  TG ⟨[KM 76 [.pointer (some ⟨b,0,none⟩)]],56,M,W,H⟩ Hs ((tE,bG b 43 [z0])::σr) L (RX Tryz.prog Tryz.f49 R (GM (.iface 149 (.agg #[.int .i64 u])))) :=
 pnF (σ':=fun b3 cs3=>(999999,bG b3 149 cs3)::(tE,bG b 43 [.int .i64 u])::σr) Tryz.call76 (fun w hS=>NM hS hT) h
section
open Go.Lib
theorem SH (w:World):PredAtRunes Tryz.prog 224 #[] (fun x=>x==32) w:=by
 intro W x hx hb;show Calls Tryz.prog 224 #[encR x] W _
 go_enter Tryz.func224,Tryz.ntmps224
 go_wp2
 first | go_ret | go_ret2
 exact ⟨by simp [encR];rw [Bool.eq_iff_iff];simp;omega,0,rfl⟩
noncomputable def IJ (s:aE):Option (List aE):=bW (s.length≤1073741824) (some ((goFieldsP (fun x=>x==32) (bs s)).map (·.data.toList)))
theorem YI {M:Prop} {W:World} {H:Hp} (hH:H.le (hp W)) (hg:Gv M H) (s:aE) {r:List aE} (hr:IJ s=some r):Calls Tryz.prog 223 #[.string (bs s),.func (.func 224) #[] #[]] W (eU M H W (fun v K=>∃ (ad0:Option Addr) (cap0:Nat),v=.slice ad0 r.length cap0∧Sl (aG cE) 1 K ad0 cap0 r)):=by
 unfold IJ at hr;obtain ⟨hl,hr⟩:=aF hr;obtain rfl:=Option.some.inj hr;refine (Any.strings_FieldsFunc_runes Tryz.lays229 224 #[] Tryz.call224 (fun x=>x==32) (bs s) W (by rw [fG];omega) (SH W) (by kernel_rfl) (by kernel_rfl)).mono ?_;rintro e w' ⟨A,rfl,hA,ho,hb⟩;have hE:fX M W w':=fX.of_below hg.gl.nq hb;generalize goFieldsP (fun x=>x==32) (bs s)=l at ho;refine ⟨⟨some ⟨A,0,none⟩,l.length,by rw [List.length_map],?_⟩,hE⟩;rcases ho.2 with ⟨h,_⟩ | ⟨g,cap,cur,h,_,hg,h1,h2,h3,h4⟩
 ·cases h
 cases h;refine ⟨by rw [List.length_map];unfold maxLen at h2;omega,fun i x hx=>?_⟩;rw [List.getElem?_map,Option.map_eq_some_iff] at hx;obtain ⟨y,hy,rfl⟩:=hx;refine ⟨_,cE y.data.toList,rfl,rfl,rfl,⟨by rw [dH rfl],fun j v hv=>?_⟩,rfl⟩;rw [dH rfl]
 cases j with
 | succ j=>simp [cE] at hv
 | zero =>
  have hv:v=.string (bs y.data.toList):=by simpa [cE] using hv.symm
  subst hv;refine ⟨cur,9,(0,0),by show (if A < W.heap.size then _ else w'.heap[A]?)=_;rw [if_neg (by omega)];exact hg,?_⟩;have hi:i < l.length:=(List.getElem?_eq_some_iff.1 hy).1;have:(cur.toList.take (l.length*1))[i]?=some (.string y):=by rw [h4];simp [hy]
  rw [List.getElem?_take,if_pos (by omega)] at this;rw [← QR y];simpa using this
end
end T12
set_option maxHeartbeats 4000000
namespace Go.Proofs
open Go Go.Shelf Go.RowKit Pk Go.Sort
end Go.Proofs
set_option maxHeartbeats 4000000
namespace T12
open Go Go.Proofs Pk Tryz
noncomputable section
def CM (line:aE) (s1:Int):Option ((Int)⊕(Int)) :=
 ((
  if s1 < (line.length:Int) then (
   bW (0≤s1) <|
   (line[s1.toNat]?).bind fun x0 =>
   some (decide ((x0.toNat:Int)≠32)))
  else
  some false
 ):Option (Bool)).bind fun t31 =>
 if t31 then (
  bW (-9223372036854775808≤(s1+1)∧(s1+1)≤9223372036854775807) <|
  some (.inl (s1+1)))
 else
 some (.inr s1)
def PU (line:aE) (fo:Int):Option (Int) :=
 (bD (CM line) fo).bind fun e16 =>
 some e16
def PV (cL:aE):Option (Int×Bool) :=
 if cL=[114,101,115,117,108,116] then (
  some (0,false))
 else
 if cL=[109,111,118,101] then (
  some (0,true))
 else
 ((
  if cL=[100,97,121] then (
   some (decide (cL=[100,97,121])))
  else
  ((
   if cL=[104,111,117,115,101] then (
    some (decide (cL=[104,111,117,115,101])))
   else
   ((
    if cL=[97,100,111,112,116] then (
     some (decide (cL=[97,100,111,112,116])))
    else
    some (decide (cL=[111,114,100,101,114]))
   ):Option (Bool)).bind fun t0 =>
   some t0
  ):Option (Bool)).bind fun t1 =>
  some t1
 ):Option (Bool)).bind fun t2 =>
 if t2 then (
  some (1,false))
 else
 if cL=[115,97,121] then (
  some (1,true))
 else
 ((
  if cL=[114,101,109,111,118,101] then (
   some (decide (cL=[114,101,109,111,118,101])))
  else
  ((
   if cL=[99,105,116,101] then (
    some (decide (cL=[99,105,116,101])))
   else
   some (decide (cL=[112,97,105,114]))
  ):Option (Bool)).bind fun t3 =>
  some t3
 ):Option (Bool)).bind fun t4 =>
 if t4 then (
  some (2,false))
 else
 if cL=[99,104,97,110,103,101] then (
  some (2,true))
 else
 ((
  if cL=[98,105,110,100] then (
   some (decide (cL=[98,105,110,100])))
  else
  ((
   if cL=[104,105,100,101] then (
    some (decide (cL=[104,105,100,101])))
   else
   some (decide (cL=[116,101,108,108]))
  ):Option (Bool)).bind fun t5 =>
  some t5
 ):Option (Bool)).bind fun t6 =>
 if t6 then (
  some (3,false))
 else
 if cL=[97,100,100] then (
  some (3,true))
 else
 if cL=[100,105,118,105,100,101] then (
  some (4,false))
 else
 if cL=[112,97,112,101,114] then (
  some (4,true))
 else
 some ((-1),false)
def tM (t21:aE) (s1:Nat×Int):Option ((Nat×Int)⊕((Int)⊕(Int×Bool))) :=
 if (s1.1:Int) < (t21.length:Int) then (
  ((
   (t21[s1.1]?).bind fun x1 =>
   if (x1.toNat:Int) < 48 then (
    some true)
   else
   some (decide (57 < (x1.toNat:Int)))
  ):Option (Bool)).bind fun t0 =>
  if t0 then (
   some (.inr (.inr (0,false))))
  else
  bW (-9223372036854775808≤(10*s1.2)∧(10*s1.2)≤9223372036854775807) <|
  (t21[s1.1]?).bind fun x0 =>
  bW (-9223372036854775808≤((10*s1.2)+(((x0.toNat:Int) - 48)%256))∧((10*s1.2)+(((x0.toNat:Int) - 48)%256))≤9223372036854775807) <|
  bW (-9223372036854775808≤((s1.1:Int)+1)∧((s1.1:Int)+1)≤9223372036854775807) <|
  some (.inl ((s1.1+1),((10*s1.2)+(((x0.toNat:Int) - 48)%256)))))
 else
 some (.inr (.inl s1.2))
def AU (ai:aE):Option (Int×Bool) :=
 ((
  if 0 < (ai.length:Int) then (
   (ai[0]?).bind fun x0 =>
   some (decide ((x0.toNat:Int)=45)))
  else
  some false
 ):Option (Bool)).bind fun t7 =>
 ((
  if t7 then (
   bW (1≤ai.length) <|
   some (ai.drop 1))
  else
  some ai
 ):Option (aE)).bind fun t21 =>
 ((
  if (t21.length:Int)=0 then (
   some true)
  else
  if 9 < (t21.length:Int) then (
   some true)
  else
  (t21[0]?).bind fun x1 =>
  if (x1.toNat:Int)=48 then (
   if 1 < (t21.length:Int) then (
    some true)
   else
   some t7)
  else
  some false
 ):Option (Bool)).bind fun t44 =>
 if t44 then (
  some (0,false))
 else
 (bD (tM t21) (0,0)).bind fun eA1=>match eA1 with
 | .inr z=>some z
 | .inl t0 =>
 ((
  if t7 then (
   bW (-9223372036854775808≤(0 - t0)∧(0 - t0)≤9223372036854775807) <|
   some (0 - t0))
  else
  some t0
 ):Option (Int)).bind fun t1 =>
 some (t1,true)
def CN (r8:Int×Bool) (line:aE) (s1:Nat×Int×List Int):Option ((Nat×Int×List Int)⊕((Int×List Int)⊕(aE×List Int×aE×Bool))) :=
 if (s1.1:Int) < r8.1 then (
  if s1.2.1=(line.length:Int) then (
   some (.inr (.inr ([],([]:List Int),[],false))))
  else
  bW (-9223372036854775808≤(s1.2.1+1)∧(s1.2.1+1)≤9223372036854775807) <|
  (PU line (s1.2.1+1)).bind fun r0 =>
  bW (0≤(s1.2.1+1)) <|
  bW (0≤r0) <|
  bW ((s1.2.1+1).toNat≤r0.toNat∧r0.toNat≤line.length) <|
  (AU ((line.drop ((s1.2.1+1).toNat)).take (r0.toNat - ((s1.2.1+1).toNat)))).bind fun r1 =>
  if r1.2 then (
   bW (s1.2.2.length+1≤1073741824) <|
   bW (-9223372036854775808≤((s1.1:Int)+1)∧((s1.1:Int)+1)≤9223372036854775807) <|
   some (.inl ((s1.1+1),r0,(s1.2.2++[r1.1]))))
  else
  some (.inr (.inr ([],([]:List Int),[],false))))
 else
 some (.inr (.inl (s1.2.1,s1.2.2)))
def PW (line:aE):Option (aE×List Int×aE×Bool) :=
 (PU line 0).bind fun r1 =>
 bW (0≤r1) <|
 bW (r1.toNat≤line.length) <|
 (PV (line.take r1.toNat)).bind fun r8 =>
 if r8.1 < 0 then (
  some ([],([]:List Int),[],false))
 else
 (bD (CN r8 line) (0,r1,([]:List Int))).bind fun eA1=>match eA1 with
 | .inr z=>some z
 | .inl t0 =>
 if r8.2==decide (t0.1 < (line.length:Int)) then (
  if r8.2 then (
   bW (-9223372036854775808≤(t0.1+1)∧(t0.1+1)≤9223372036854775807) <|
   bW (0≤(t0.1+1)) <|
   bW ((t0.1+1).toNat≤line.length) <|
   some ((line.take r1.toNat),t0.2,(line.drop ((t0.1+1).toNat)),true))
  else
  some ((line.take r1.toNat),t0.2,[],true))
 else
 some ([],([]:List Int),[],false)
def NN (lines:List aE) (s1:Nat×Int×Int):Option ((Nat×Int×Int)⊕(Int×Int)) :=
 if (s1.1:Int) < (lines.length:Int) then (
  (lines[s1.1]?).bind fun x0 =>
  (PW x0).bind fun r0 =>
  ((
   if r0.2.2.2 then (
    some (decide (r0.1=[116,101,108,108])))
   else
   some false
  ):Option (Bool)).bind fun t0 =>
  ((
   if t0 then (
    some (IntKind.i64.wrap (s1.2.2+1)))
   else
   some s1.2.2
  ):Option (Int)).bind fun t1 =>
  some (.inl ((s1.1+1),(IntKind.i64.wrap (s1.2.1+(x0.length:Int))),t1)))
 else
 some (.inr (s1.2.1,s1.2.2))
def m6 (lines:List aE):Option (Bool) :=
 (bD (NN lines) (0,0,0)).bind fun e55 =>
 ((
  if e55.2≤8 then (
   if (lines.length:Int)≤40 then (
    if e55.1≤1500 then (
     some true)
    else
    if (lines.length:Int)≤62 then (
     if e55.1≤200 then (
      some true)
     else
     if (lines.length:Int)=1 then (
      some (decide (e55.1≤410)))
     else
     some false)
    else
    if (lines.length:Int)=1 then (
     some (decide (e55.1≤410)))
    else
    some false)
   else
   if (lines.length:Int)≤62 then (
    if e55.1≤200 then (
     some true)
    else
    if (lines.length:Int)=1 then (
     some (decide (e55.1≤410)))
    else
    some false)
   else
   if (lines.length:Int)=1 then (
    some (decide (e55.1≤410)))
   else
   some false)
  else
  some false
 ):Option (Bool)).bind fun t0 =>
 some t0
def NO (lines:List aE) (s1:Nat):Option ((Nat)⊕((Unit)⊕Bool)) :=
 if (s1:Int) < (lines.length:Int) then (
  (lines[s1]?).bind fun x0 =>
  if 400 < (x0.length:Int) then (
   some (.inr (.inr false)))
  else
  some (.inl (s1+1)))
 else
 some (.inr (.inl ()))
def m7 (lines:List aE):Option (Bool) :=
 (bD (NO lines) 0).bind fun e16=>match e16 with
 | .inr z=>some z
 | .inl t0 =>
 some (decide ((lines.length:Int)≤60))
def m17  : Option (List aE) :=
 some ([[104,111,117,115,101,32,53],[115,97,121,32,49,49,32,84,104,101,32,72,111,117,115,101,32,109,101,116,46],[109,111,118,101,32,116,104,105,115,32,72,111,117,115,101,32,110,111,116,101,115,32,116,104,101,32,114,101,112,111,114,116],[112,97,112,101,114,32,51,32,48,32,50,32,51,32,119,101,108,99,111,109,101,115],[97,100,111,112,116,32,51],[100,105,118,105,100,101,32,48,32,48,32,51,32,50],[116,101,108,108,32,49,32,48,32,48],[116,101,108,108,32,49,32,49,32,48],[116,101,108,108,32,49,32,48,32,49],[116,101,108,108,32,49,32,49,32,49],[116,101,108,108,32,50,32,48,32,52],[114,101,115,117,108,116],[116,101,108,108,32,50,32,49,32,52],[114,101,115,117,108,116],[111,114,100,101,114,32,49,50],[98,105,110,100,32,51,32,52,32,50,48],[104,105,100,101,32,49,49,32,50,32,49,57,57,48],[99,105,116,101,32,49,50,32,48]]:List aE)
def yM (ai:List aE) (cg:aE→Option Bool) (s1:Nat):Option ((Nat)⊕((Unit)⊕Int)) :=
 if (s1:Int) < (ai.length:Int) then (
  (ai[s1]?).bind fun x0 =>
  (cg x0).bind fun r0 =>
  if r0 then (
   some (.inr (.inr (s1:Int))))
  else
  some (.inl (s1+1)))
 else
 some (.inr (.inl ()))
def SI (ai:List aE) (cg:aE→Option Bool):Option (Int) :=
 (bD (yM ai cg) 0).bind fun e19=>match e19 with
 | .inr z=>some z
 | .inl t0 =>
 some (-1)
def NP (ai:List aE) (cg:aE→Option Bool):Option (Bool) :=
 (SI ai cg).bind fun r1 =>
 some (decide (0≤r1))
def KT (ai:aE):Option (Bool) :=
 some (decide (400 < (ai.length:Int)))
def NQ (lines:List aE):Option (Int) :=
 ((
  if 60 < (lines.length:Int) then (
   some true)
  else
  (NP lines (KT)).bind fun r0 =>
  some r0
 ):Option (Bool)).bind fun t8 =>
 if t8 then (
  some 3)
 else
 some 0
def tN (ea:Int) (low:Int) (high:Int):Option (Bool) :=
 ((
  if low≤ea then (
   some (decide (ea≤high)))
  else
  some false
 ):Option (Bool)).bind fun t4 =>
 some t4
def iZ (ip:Bool) (e:Int):Option (Unit⊕Unit) :=
 if ip then (
  some (.inl ()))
 else
 some (.inr ())
def CO (ac:aH) (bo:List Int) (cw:aE):Option (aH⊕Int) :=
 (bo[0]?).bind fun x3 =>
 (tN x3 ac.state.day 99999).bind fun r0 =>
 (iZ r0 2).bind fun r1=>match r1 with
 | .inl y0=>(
  some (.inl (⟨({ac.state with day:=x3}:cQ)⟩:aH)))
 | .inr _=>(
  some (.inr 2))
def vV (ai:List dR):Option (List dR) :=
 bW (([]:List dR).length+ai.length≤1073741824) <|
 some (([]:List dR)++ai)
def CP (ai:List aI):Option (List aI) :=
 bW (([]:List aI).length+ai.length≤1073741824) <|
 some (([]:List aI)++ai)
def vW (bw:List aI) (cq:aI):Option (List aI) :=
 (CP bw).bind fun r4 =>
 bW (r4.length+([cq]:List aI).length≤1073741824) <|
 some (r4++([cq]:List aI))
def CQ (ac:aH) (parts:List dR):Option (bT) :=
 some (⟨1,ac.state.day,1,10,parts⟩:bT)
def CR (ac:aH) (parts:List dR):Option (bT) :=
 some (⟨1,ac.state.day,1,10,parts⟩:bT)
def rE (ar:bT) (s1:Nat×List aI):Option ((Nat×List aI)⊕(List aI)) :=
 if (s1.1:Int) < (ar.parts.length:Int) then (
  (ar.parts[s1.1]?).bind fun x0 =>
  bW (s1.2.length+x0.paragraphs.length≤1073741824) <|
  some (.inl ((s1.1+1),(s1.2++x0.paragraphs))))
 else
 some (.inr s1.2)
def tO (ar:bT):Option (List aI) :=
 (bD (rE ar) (0,([]:List aI))).bind fun e82 =>
 some e82
def oV (ea:Int) (low:Int) (high:Int):Option (Bool) :=
 ((
  if low≤ea then (
   some (decide (ea≤high)))
  else
  some false
 ):Option (Bool)).bind fun t4 =>
 some t4
def pN (ea:Int):Option (Bool) :=
 (oV ea 0 99999).bind fun r1 =>
 some r1
def tP (aq:aI) (cc:aI→Option Bool):Option (Bool) :=
 (cc aq).bind fun r4 =>
 some (!r4)
def vX (ai:List aI) (cg:aI→Option Bool) (s1:Nat):Option ((Nat)⊕((Unit)⊕Int)) :=
 if (s1:Int) < (ai.length:Int) then (
  (ai[s1]?).bind fun x0 =>
  (cg x0).bind fun r0 =>
  if r0 then (
   some (.inr (.inr (s1:Int))))
  else
  some (.inl (s1+1)))
 else
 some (.inr (.inl ()))
def IK (ai:List aI) (cg:aI→Option Bool):Option (Int) :=
 (bD (vX ai cg) 0).bind fun e19=>match e19 with
 | .inr z=>some z
 | .inl t0 =>
 some (-1)
def IL (ai:List aI) (cg:aI→Option Bool):Option (Bool) :=
 (IK ai cg).bind fun r1 =>
 some (decide (0≤r1))
def CS (bw:List aI) (right:aI→Option Bool):Option (Bool) :=
 (IL bw (fun x0_=>tP x0_ right)).bind fun r5 =>
 some (!r5)
def vY (ea:Int):Option (Bool) :=
 (oV ea 1 999).bind fun r1 =>
 some r1
def tQ (aq:Int) (cc:Int→Option Bool):Option (Bool) :=
 (cc aq).bind fun r1 =>
 some (!r1)
def rF (ai:List UInt8) (cg:Int→Option Bool) (s1:Nat):Option ((Nat)⊕((Unit)⊕Int)) :=
 if (s1:Int) < (ai.length:Int) then (
  (ai[s1]?).bind fun x0 =>
  (cg (x0.toNat:Int)).bind fun r0 =>
  if r0 then (
   some (.inr (.inr (s1:Int))))
  else
  some (.inl (s1+1)))
 else
 some (.inr (.inl ()))
def CT (ai:List UInt8) (cg:Int→Option Bool):Option (Int) :=
 (bD (rF ai cg) 0).bind fun e19=>match e19 with
 | .inr z=>some z
 | .inl t0 =>
 some (-1)
def NR (ai:List UInt8) (cg:Int→Option Bool):Option (Bool) :=
 (CT ai cg).bind fun r1 =>
 some (decide (0≤r1))
def CU (bw:List UInt8) (right:Int→Option Bool):Option (Bool) :=
 (NR bw (fun x0_=>tQ x0_ right)).bind fun r5 =>
 some (!r5)
def vZ (fu:Int):Option (Bool) :=
 ((
  if (32:Int)≤fu then (
   some (decide (fu≤126)))
  else
  some false
 ):Option (Bool)).bind fun t4 =>
 some t4
def wA (ai:aE):Option (Bool) :=
 ((
  (oV (ai.length:Int) 1 200).bind fun r0 =>
  if r0 then (
   bW (ai.length≤1073741824) <|
   (CU ai (vZ)).bind fun r1 =>
   some r1)
  else
  some false
 ):Option (Bool)).bind fun t0 =>
 some t0
def tT (cy:aI):Option (Bool) :=
 ((
  (vY cy.anchor).bind fun r0 =>
  if r0 then (
   (wA cy.text).bind fun r1 =>
   some r1)
  else
  some false
 ):Option (Bool)).bind fun t0 =>
 some t0
def wB (ar:bT) (s1:Nat):Option ((Nat)⊕((Unit)⊕Bool)) :=
 if (s1:Int) < (ar.parts.length:Int) then (
  (ar.parts[s1]?).bind fun x0 =>
  ((
   (pN x0.day).bind fun r0 =>
   if r0 then (
    if ar.bound < x0.day then (
     some true)
    else
    if 0 < (s1:Int) then (
     (ar.parts[((s1:Int) - 1).toNat]?).bind fun x1 =>
     some (decide (x0.day≤x1.day)))
    else
    some false)
   else
   some true
  ):Option (Bool)).bind fun t0 =>
  if t0 then (
   some (.inr (.inr false)))
  else
  some (.inl (s1+1)))
 else
 some (.inr (.inl ()))
def CV (ar:bT):Option (Bool) :=
 (bD (wB ar) 0).bind fun e55=>match e55 with
 | .inr z=>some z
 | .inl t58 =>
 ((
  (oV ar.number 1 99).bind fun r0 =>
  if r0 then (
   (pN ar.bound).bind fun r1 =>
   if r1 then (
    (oV ar.height 1 60).bind fun r2 =>
    if r2 then (
     (oV ar.width 10 80).bind fun r3 =>
     if r3 then (
      (tO ar).bind fun r4 =>
      (CS r4 (tT)).bind fun r5 =>
      some r5)
     else
     some false)
    else
    some false)
   else
   some false)
  else
  some false
 ):Option (Bool)).bind fun t0 =>
 some t0
def wC (r7:List aI) (s1:Nat×(List (Int×Bool))):Option ((Nat×(List (Int×Bool)))⊕(((List (Int×Bool)))⊕Int)) :=
 if (s1.1:Int) < (r7.length:Int) then (
  (r7[s1.1]?).bind fun x0 =>
  if (eD s1.2 x0.anchor).getD false then (
   some (.inr (.inr 6)))
  else
  some (.inl ((s1.1+1),(put s1.2 x0.anchor true))))
 else
 some (.inr (.inl s1.2))
def wD (ar:bT):Option (Int) :=
 (tO ar).bind fun r7 =>
 ((
  if 6 < (ar.parts.length:Int) then (
   some true)
  else
  some (decide (30 < (r7.length:Int)))
 ):Option (Bool)).bind fun t30 =>
 if t30 then (
  some 3)
 else
 (CV ar).bind fun r0 =>
 if r0 then (
  (bD (wC r7) (0,([]:List (Int×Bool)))).bind fun e94=>match e94 with
  | .inr z=>some z
  | .inl t0 =>
  some 0)
 else
 some 1
def lD (e:Int):Option (Unit⊕Unit) :=
 (iZ (decide (e=0)) e).bind fun r1=>match r1 with
 | .inl y4=>(
  some (.inl ()))
 | .inr _=>(
  some (.inr ()))
def tU (ac:aH) (bo:List Int) (text:aE):Option (aH⊕Int) :=
 (iZ (!ac.state.bound) 8).bind fun r3=>match r3 with
 | .inl y6=>(
  (bo[0]?).bind fun x8 =>
  (vV ac.state.volume.parts).bind fun r0 =>
  ((
   if 0≤((r0.length:Int) - 1) then (
    (r0[((r0.length:Int) - 1).toNat]?).bind fun x1 =>
    some (decide (x1.day=ac.state.day)))
   else
   some false
  ):Option (Bool)).bind fun t45 =>
  ((
   if t45 then (
    bW (0≤((r0.length:Int) - 1)) <|
    (r0[((r0.length:Int) - 1).toNat]?).bind fun x0 =>
    (vW x0.paragraphs (⟨x8,text⟩:aI)).bind fun r2 =>
    some (r0.set (((r0.length:Int) - 1).toNat) (⟨x0.day,r2⟩:dR)))
   else
   bW (r0.length+([(⟨ac.state.day,([(⟨x8,text⟩:aI)]:List aI)⟩:dR)]:List dR).length≤1073741824) <|
   some (r0++([(⟨ac.state.day,([(⟨x8,text⟩:aI)]:List aI)⟩:dR)]:List dR))
  ):Option (List dR)).bind fun t142 =>
  (CQ ac t142).bind fun r4 =>
  (wD r4).bind fun r1 =>
  (lD r1).bind fun r5=>match r5 with
  | .inl y0=>(
   some (.inl (⟨({ac.state with volume:=({ac.state.volume with parts:=t142}:bT)}:cQ)⟩:aH)))
  | .inr _=>(
   some (.inr r1)))
 | .inr _=>(
  some (.inr 8))
def CW (ac:aH) (bo:List Int) (cw:aE):Option (aH⊕Int) :=
 (iZ (!ac.state.bound) 8).bind fun r3=>match r3 with
 | .inl y6=>(
  (bo[0]?).bind fun x8 =>
  (bo[1]?).bind fun x0 =>
  (bo[2]?).bind fun x1 =>
  (wD (⟨x8,ac.state.day,x0,x1,ac.state.volume.parts⟩:bT)).bind fun r0 =>
  (lD r0).bind fun r1=>match r1 with
  | .inl y0=>(
   some (.inl (⟨({ac.state with volume:=(⟨x8,ac.state.day,x0,x1,ac.state.volume.parts⟩:bT),bound:=true}:cQ)⟩:aH)))
  | .inr _=>(
   some (.inr r0)))
 | .inr _=>(
  some (.inr 8))
def rG (ai:List aO):Option (List aO) :=
 bW (([]:List aO).length+ai.length≤1073741824) <|
 some (([]:List aO)++ai)
def CX (bw:List aO) (cq:aO):Option (List aO) :=
 (rG bw).bind fun r4 =>
 bW (r4.length+([cq]:List aO).length≤1073741824) <|
 some (r4++([cq]:List aO))
def tV (aq:aO) (cc:aO→Option Bool):Option (Bool) :=
 (cc aq).bind fun r4 =>
 some (!r4)
def wE (ai:List aO) (cg:aO→Option Bool) (s1:Nat):Option ((Nat)⊕((Unit)⊕Int)) :=
 if (s1:Int) < (ai.length:Int) then (
  (ai[s1]?).bind fun x0 =>
  (cg x0).bind fun r0 =>
  if r0 then (
   some (.inr (.inr (s1:Int))))
  else
  some (.inl (s1+1)))
 else
 some (.inr (.inl ()))
def IM (ai:List aO) (cg:aO→Option Bool):Option (Int) :=
 (bD (wE ai cg) 0).bind fun e19=>match e19 with
 | .inr z=>some z
 | .inl t0 =>
 some (-1)
def IN (ai:List aO) (cg:aO→Option Bool):Option (Bool) :=
 (IM ai cg).bind fun r1 =>
 some (decide (0≤r1))
def CY (bw:List aO) (right:aO→Option Bool):Option (Bool) :=
 (IN bw (fun x0_=>tV x0_ right)).bind fun r5 =>
 some (!r5)
def tW (aq:aO):Option (Bool) :=
 ((
  (oV aq.number 1 999).bind fun r22 =>
  if r22 then (
   (pN aq.day).bind fun r0 =>
   if r0 then (
    (vY aq.anchor).bind fun r1 =>
    some (!r1))
   else
   some true)
  else
  some true
 ):Option (Bool)).bind fun t0 =>
 if t0 then (
  some false)
 else
 if aq.kind=0 then (
  ((
   (wA aq.text).bind fun r2 =>
   if r2 then (
    some (decide (aq.new_=0)))
   else
   some false
  ):Option (Bool)).bind fun t1 =>
  some t1)
 else
 if aq.kind=1 then (
  ((
   if aq.text=[] then (
    some (decide (aq.new_=0)))
   else
   some false
  ):Option (Bool)).bind fun t2 =>
  some t2)
 else
 if aq.kind=2 then (
  ((
   (wA aq.text).bind fun r3 =>
   if r3 then (
    (vY aq.new_).bind fun r4 =>
    some r4)
   else
   some false
  ):Option (Bool)).bind fun t3 =>
  some t3)
 else
 some false
def tX (aq:Int):Option (Bool) :=
 some (decide (aq≠aq))
def zR (aq:Int) (fe:Int):Option (Int) :=
 (tX aq).bind fun r1 =>
 (tX fe).bind fun r4 =>
 if r1 then (
  if r4 then (
   some 0)
  else
  some (-1))
 else
 if r4 then (
  some 1)
 else
 if aq < fe then (
  some (-1))
 else
 if fe < aq then (
  some 1)
 else
 some 0
def oW (vals:List Int) (s1:Nat):Option ((Nat)⊕((Unit)⊕Int)) :=
 if (s1:Int) < (vals.length:Int) then (
  (vals[s1]?).bind fun x0 =>
  if x0≠0 then (
   some (.inr (.inr x0)))
  else
  some (.inl (s1+1)))
 else
 some (.inr (.inl ()))
def CZ (vals:List Int):Option (Int) :=
 (bD (oW vals) 0).bind fun e16=>match e16 with
 | .inr z=>some z
 | .inl t0 =>
 some 0
def rH (dg:aO) (dh:aO):Option (Int) :=
 (zR dg.day dh.day).bind fun r7 =>
 (zR dg.number dh.number).bind fun r11 =>
 (CZ ([r7,r11]:List Int)).bind fun r0 =>
 some r0
def DA (r1:List aO) (l6:List aO) (ey:Int) (yield:aO→Option Bool) (s1:Nat):Option ((Nat)⊕((Unit)⊕Unit)) :=
 if (s1:Int) < (r1.length:Int) then (
  (l6[s1]?).bind fun x0 =>
  ((
   if ey < x0.day then (
    some true)
   else
   (yield x0).bind fun r0 =>
   some (!r0)
  ):Option (Bool)).bind fun t0 =>
  if t0 then (
   some (.inr (.inr ())))
  else
  some (.inl (s1+1)))
 else
 some (.inr (.inl ()))
def SJ (yield:aO→Option Bool) (cc:List aO) (ey:Int):Option (Unit) :=
 (rG cc).bind fun r1 =>
 (iT (rH) r1).bind fun l6 =>
 (bD (DA r1 l6 ey yield) 0).bind fun e31=>match e31 with
 | .inr z=>some z
 | .inl t34 =>
 some ()
def wF (r10:List aI) (s1:Nat×(List (Int×Bool))):Option ((Nat×(List (Int×Bool)))⊕((List (Int×Bool)))) :=
 if (s1.1:Int) < (r10.length:Int) then (
  (r10[s1.1]?).bind fun x0 =>
  some (.inl ((s1.1+1),(put s1.2 x0.anchor true))))
 else
 some (.inr s1.2)
def wG (r0:List aO) (l0:List aO) (s1:Nat×(List (Int×Bool))):Option ((Nat×(List (Int×Bool)))⊕(((List (Int×Bool)))⊕(((List (Int×Bool)))⊕(Nat×(List (Int×Bool)))))) :=
 if (s1.1:Int) < (r0.length:Int) then (
  (l0[s1.1]?).bind fun x0 =>
  if 99999 < x0.day then (
   some (.inr (.inr (.inl s1.2))))
  else
  ((
   if (eD s1.2 x0.anchor).getD false then (
    ((
     if x0.kind=2 then (
      some (put s1.2 x0.new_ true))
     else
     some s1.2
    ):Option ((List (Int×Bool)))).bind fun t0 =>
    some (.inr t0))
   else
   some (.inl 7)
  ):Option ((Nat)⊕((List (Int×Bool))))).bind fun t1=>match t1 with
  | .inl t2=>(
   some (.inr (.inr (.inr (t2,s1.2)))))
  | .inr t3=>(
   some (.inl ((s1.1+1),t3))))
 else
 some (.inr (.inl s1.2))
def DB (ar:bT) (errata:List aO):Option (Int) :=
 (tO ar).bind fun r10 =>
 (bD (wF r10) (0,([]:List (Int×Bool)))).bind fun e47 =>
 ((
  (rG errata).bind fun r0 =>
  (iT (rH) r0).bind fun l0 =>
  (bD (wG r0 l0) (0,e47)).bind fun eA1=>match eA1 with
  | .inr z=>some z
  | .inl t0 =>
  some (.inl t0)
 ):Option (((List (Int×Bool)))⊕(Nat×(List (Int×Bool))))).bind fun t1=>match t1 with
 | .inl t3=>(
  some 0)
 | .inr t2=>(
  some (t2.1:Int))
def wH (r0:List aI) (s1:Nat×(List (Int×Bool))):Option ((Nat×(List (Int×Bool)))⊕((List (Int×Bool)))) :=
 if (s1.1:Int) < (r0.length:Int) then (
  (r0[s1.1]?).bind fun x0 =>
  some (.inl ((s1.1+1),(put s1.2 x0.anchor true))))
 else
 some (.inr s1.2)
def wI (errata:List aO) (s1:Nat×(List (Int×Bool))×(List (Int×Bool))):Option ((Nat×(List (Int×Bool))×(List (Int×Bool)))⊕(((List (Int×Bool))×(List (Int×Bool)))⊕Int)) :=
 if (s1.1:Int) < (errata.length:Int) then (
  (errata[s1.1]?).bind fun x0 =>
  ((
   if (eD s1.2.1 x0.number).getD false then (
    some true)
   else
   if x0.kind=2 then (
    some ((eD s1.2.2 x0.new_).getD false))
   else
   some false
  ):Option (Bool)).bind fun t0 =>
  if t0 then (
   some (.inr (.inr 6)))
  else
  ((
   if x0.kind=2 then (
    some (put s1.2.2 x0.new_ true))
   else
   some s1.2.2
  ):Option ((List (Int×Bool)))).bind fun t1 =>
  some (.inl ((s1.1+1),(put s1.2.1 x0.number true),t1)))
 else
 some (.inr (.inl (s1.2.1,s1.2.2)))
def wJ (ar:bT) (errata:List aO):Option (Int) :=
 (wD ar).bind fun r7 =>
 if r7≠0 then (
  some r7)
 else
 if 20 < (errata.length:Int) then (
  some 3)
 else
 (CY errata (tW)).bind fun r0 =>
 if r0 then (
  (tO ar).bind fun r1 =>
  (bD (wH r1) (0,([]:List (Int×Bool)))).bind fun e88 =>
  (bD (wI errata) (0,([]:List (Int×Bool)),e88)).bind fun eA1=>match eA1 with
  | .inr z=>some z
  | .inl t0 =>
  (DB ar errata).bind fun r2 =>
  some r2)
 else
 some 1
def DD (x0:List cJ) (anchor:Int) (s2:Nat×Nat×Nat×Bool) (s1:Nat×Nat×Nat×Bool):Option ((Nat×Nat×Nat×Bool)⊕((Nat×Nat×Bool)⊕((Nat×Nat×Nat×Bool)⊕(Nat×Nat×Bool)))) :=
 if (s1.2.2.1:Int) < (x0.length:Int) then (
  (x0[s1.2.2.1]?).bind fun x1 =>
  if x1.paragraph.anchor=anchor then (
   Option.map (fun z=>.inr (.inr z)) (
   some (.inr (s2.2.2.1,s1.2.2.1,true))))
  else
  some (.inl (s1.1,s1.2.1,(s1.2.2.1+1),s1.2.2.2)))
 else
 some (.inr (.inl (s1.1,s1.2.1,s1.2.2.2)))
def DE (ac:gW) (anchor:Int) (s1:Nat×Nat×Nat×Bool):Option ((Nat×Nat×Nat×Bool)⊕(Nat×Nat×Bool)) :=
 if (s1.2.2.1:Int) < (ac.parts.length:Int) then (
  (ac.parts[s1.2.2.1]?).bind fun x0 =>
  (bD (DD x0 anchor s1) (s1.1,s1.2.1,0,s1.2.2.2)).bind fun eA1=>match eA1 with
  | .inr z=>some z
  | .inl t0 =>
  some (.inl (t0.1,t0.2.1,(s1.2.2.1+1),t0.2.2)))
 else
 some (.inr (s1.1,s1.2.1,s1.2.2.2))
def SK (ac:gW) (anchor:Int):Option (Int×Int×Bool) :=
 (bD (DE ac anchor) (0,0,0,false)).bind fun e40 =>
 some ((e40.1:Int),(e40.2.1:Int),e40.2.2)
def IP  : Option (Unit) :=
 some ()
def wK (x0:dR) (s1:Nat×List cJ):Option ((Nat×List cJ)⊕(List cJ)) :=
 if (s1.1:Int) < (x0.paragraphs.length:Int) then (
  (x0.paragraphs[s1.1]?).bind fun x1 =>
  bW (s1.2.length+1≤1073741824) <|
  some (.inl ((s1.1+1),(s1.2++[(⟨x1,false⟩:cJ)]))))
 else
 some (.inr s1.2)
def wL (ar:bT) (s1:Nat×List (List cJ)):Option ((Nat×List (List cJ))⊕(List (List cJ))) :=
 if (s1.1:Int) < (ar.parts.length:Int) then (
  (ar.parts[s1.1]?).bind fun x0 =>
  (bD (wK x0) (0,([]:List cJ))).bind fun eA1 =>
  bW (s1.2.length+1≤1073741824) <|
  some (.inl ((s1.1+1),(s1.2++[eA1]))))
 else
 some (.inr s1.2)
def wM (x0:List cJ) (x1:aO) (s2:Nat×Nat×Nat×Bool) (s1:Nat×Nat×Nat×Bool):Option ((Nat×Nat×Nat×Bool)⊕((Nat×Nat×Bool)⊕((Nat×Nat×Nat×Bool)⊕(Nat×Nat×Bool)))) :=
 if (s1.2.2.1:Int) < (x0.length:Int) then (
  (x0[s1.2.2.1]?).bind fun x2 =>
  if x2.paragraph.anchor=x1.anchor then (
   Option.map (fun z=>.inr (.inr z)) (
   some (.inr (s2.2.2.1,s1.2.2.1,true))))
  else
  bW (-9223372036854775808≤((s1.2.2.1:Int)+1)∧((s1.2.2.1:Int)+1)≤9223372036854775807) <|
  some (.inl (s1.1,s1.2.1,(s1.2.2.1+1),s1.2.2.2)))
 else
 some (.inr (.inl (s1.1,s1.2.1,s1.2.2.2)))
def rI (s2:Nat×List (List cJ)) (x0:aO) (s1:Nat×Nat×Nat×Bool):Option ((Nat×Nat×Nat×Bool)⊕(Nat×Nat×Bool)) :=
 if (s1.2.2.1:Int) < (s2.2.length:Int) then (
  (s2.2[s1.2.2.1]?).bind fun x1 =>
  (bD (wM x1 x0 s1) (s1.1,s1.2.1,0,s1.2.2.2)).bind fun eA1=>match eA1 with
  | .inr z=>some z
  | .inl t0 =>
  bW (-9223372036854775808≤((s1.2.2.1:Int)+1)∧((s1.2.2.1:Int)+1)≤9223372036854775807) <|
  some (.inl (t0.1,t0.2.1,(s1.2.2.1+1),t0.2.2)))
 else
 some (.inr (s1.1,s1.2.1,s1.2.2.2))
def wN (r0:List aO) (l0:List aO) (ef:Int) (s1:Nat×List (List cJ)):Option ((Nat×List (List cJ))⊕((List (List cJ))⊕(List (List cJ)))) :=
 if (s1.1:Int) < (r0.length:Int) then (
  (l0[s1.1]?).bind fun x0 =>
  ((
   if ef < x0.day then (
    some (true,s1.2))
   else
   ((
    ((
     (bD (rI s1 x0) (0,0,0,false)).bind fun eA1 =>
     some (eA1.2.1,eA1.1,eA1.2.2)
    ):Option (Nat×Nat×Bool)).bind fun t0 =>
    ((
     if t0.2.2 then (
      (IP).bind fun r1 =>
      bW (0≤x0.kind) <|
      if x0.kind=0 then (
       ((
        (s1.2[t0.2.1]?).bind fun x3 =>
        (x3[t0.1]?).bind fun x2 =>
        ((
         if x2.removed then (
          some s1.2)
         else
         some (s1.2.set t0.2.1 (x3.set t0.1 (⟨(⟨x2.paragraph.anchor,x0.text⟩:aI),x2.removed⟩:cJ)))
        ):Option (List (List cJ))).bind fun t2 =>
        some t2
       ):Option (List (List cJ))).bind fun t3 =>
       some t3)
      else
      if x0.kind=1 then (
       ((
        (s1.2[t0.2.1]?).bind fun x4 =>
        (x4[t0.1]?).bind fun x5 =>
        some (s1.2.set t0.2.1 (x4.set t0.1 (⟨x5.paragraph,true⟩:cJ)))
       ):Option (List (List cJ))).bind fun t4 =>
       some t4)
      else
      if x0.kind=2 then (
       ((
        (s1.2[t0.2.1]?).bind fun x1 =>
        bW (-9223372036854775808≤((t0.1:Int)+1)∧((t0.1:Int)+1)≤9223372036854775807) <|
        bW (x1.length+1≤1073741824) <|
        bW (((t0.1:Int)+1).toNat≤x1.length) <|
        some (s1.2.set t0.2.1 (x1.take (((t0.1:Int)+1).toNat)++[(⟨(⟨x0.new_,x0.text⟩:aI),false⟩:cJ)]++x1.drop (((t0.1:Int)+1).toNat)))
       ):Option (List (List cJ))).bind fun t5 =>
       some t5)
      else
      none)
     else
     some s1.2
    ):Option (List (List cJ))).bind fun t6 =>
    some t6
   ):Option (List (List cJ))).bind fun t7 =>
   some (false,t7)
  ):Option (Bool×List (List cJ))).bind fun t1 =>
  if t1.1 then (
   some (.inr (.inr t1.2)))
  else
  some (.inl ((s1.1+1),t1.2)))
 else
 some (.inr (.inl s1.2))
def wO (ar:bT) (errata:List aO) (ef:Int):Option (gW) :=
 (bD (wL ar) (0,([]:List (List cJ)))).bind fun eA1 =>
 ((
  (rG errata).bind fun r0 =>
  (iT (rH) r0).bind fun l0 =>
  (bD (wN r0 l0 ef) (0,eA1)).bind fun eB1=>match eB1 with
  | .inr z=>some z
  | .inl t0 =>
  some t0
 ):Option (List (List cJ))).bind fun t1 =>
 some (⟨ar,t1⟩:gW)
def wP (x0:List cJ) (s1:Nat×List aI):Option ((Nat×List aI)⊕(List aI)) :=
 if (s1.1:Int) < (x0.length:Int) then (
  (x0[s1.1]?).bind fun x1 =>
  ((
   if x1.removed then (
    some s1.2)
   else
   bW (s1.2.length+1≤1073741824) <|
   some (s1.2++[x1.paragraph])
  ):Option (List aI)).bind fun t0 =>
  some (.inl ((s1.1+1),t0)))
 else
 some (.inr s1.2)
def wQ (r0:gW) (s1:Nat×List aI):Option ((Nat×List aI)⊕(List aI)) :=
 if (s1.1:Int) < (r0.parts.length:Int) then (
  (r0.parts[s1.1]?).bind fun x0 =>
  (bD (wP x0) (0,s1.2)).bind fun eA1 =>
  some (.inl ((s1.1+1),eA1)))
 else
 some (.inr s1.2)
def DG (ar:bT) (errata:List aO) (ef:Int):Option (List aI×Int) :=
 (wJ ar errata).bind fun r7 =>
 if r7≠0 then (
  some (([]:List aI),r7))
 else
 (pN ef).bind fun r0 =>
 if r0 then (
  (wO ar errata ef).bind fun r1 =>
  (bD (wQ r1) (0,([]:List aI))).bind fun eA1 =>
  some (eA1,0))
 else
 some (([]:List aI),2)
def wR (ac:aH) (cq:aO):Option (aH⊕Int) :=
 ((
  if ac.state.bound then (
   (iZ (decide (ac.state.volume.bound < ac.state.day)) 8).bind fun r2=>match r2 with
   | .inl y0=>(
    some (.inl ()))
   | .inr _=>(
    some (.inr (.inr 8))))
  else
  (iZ false 8).bind fun r3=>match r3 with
  | .inl y1=>(
   some (.inl ()))
  | .inr _=>(
   some (.inr (.inr 8)))
 ):Option ((Unit)⊕(aH⊕Int))).bind fun t0=>match t0 with
 | .inr z=>some z
 | .inl t1 =>
 (CX ac.state.errata ({cq with day:=ac.state.day}:aO)).bind fun r0 =>
 (DG ac.state.volume r0 ac.state.day).bind fun r1 =>
 (lD r1.2).bind fun r4=>match r4 with
 | .inl y2=>(
  some (.inl (⟨({ac.state with errata:=r0}:cQ)⟩:aH)))
 | .inr _=>(
  some (.inr r1.2))
def DH (ac:aH) (bo:List Int) (text:aE):Option (aH⊕Int) :=
 (bo[0]?).bind fun x3 =>
 (bo[1]?).bind fun x0 =>
 (wR ac (⟨x3,0,0,x0,text,0⟩:aO)).bind fun r0=>match r0 with
 | .inl y0=>(
  some (.inl y0))
 | .inr y0=>(
  some (.inr y0))
def DI (ac:aH) (bo:List Int) (cw:aE):Option (aH⊕Int) :=
 (bo[0]?).bind fun x3 =>
 (bo[1]?).bind fun x0 =>
 (wR ac (⟨x3,0,1,x0,[],0⟩:aO)).bind fun r0=>match r0 with
 | .inl y0=>(
  some (.inl y0))
 | .inr y0=>(
  some (.inr y0))
def DJ (ac:aH) (bo:List Int) (text:aE):Option (aH⊕Int) :=
 (bo[0]?).bind fun x3 =>
 (bo[1]?).bind fun x0 =>
 (bo[2]?).bind fun x1 =>
 (wR ac (⟨x3,0,2,x0,text,x1⟩:aO)).bind fun r0=>match r0 with
 | .inl y0=>(
  some (.inl y0))
 | .inr y0=>(
  some (.inr y0))
def wS (x0:List cJ) (anchor:Int) (s2:Nat×Nat×Nat×Bool) (s1:Nat×Nat×Nat×Bool):Option ((Nat×Nat×Nat×Bool)⊕((Nat×Nat×Bool)⊕((Nat×Nat×Nat×Bool)⊕(Nat×Nat×Bool)))) :=
 if (s1.2.2.1:Int) < (x0.length:Int) then (
  (x0[s1.2.2.1]?).bind fun x1 =>
  if x1.paragraph.anchor=anchor then (
   Option.map (fun z=>.inr (.inr z)) (
   some (.inr (s2.2.2.1,s1.2.2.1,true))))
  else
  some (.inl (s1.1,s1.2.1,(s1.2.2.1+1),s1.2.2.2)))
 else
 some (.inr (.inl (s1.1,s1.2.1,s1.2.2.2)))
def rJ (r0:gW) (anchor:Int) (s1:Nat×Nat×Nat×Bool):Option ((Nat×Nat×Nat×Bool)⊕(Nat×Nat×Bool)) :=
 if (s1.2.2.1:Int) < (r0.parts.length:Int) then (
  (r0.parts[s1.2.2.1]?).bind fun x0 =>
  (bD (wS x0 anchor s1) (s1.1,s1.2.1,0,s1.2.2.2)).bind fun eA1=>match eA1 with
  | .inr z=>some z
  | .inl t0 =>
  some (.inl (t0.1,t0.2.1,(s1.2.2.1+1),t0.2.2)))
 else
 some (.inr (s1.1,s1.2.1,s1.2.2.2))
def zS (ar:bT) (errata:List aO) (anchor:Int) (fl:Int):Option (aE×Bool×Int) :=
 (wJ ar errata).bind fun r7 =>
 if r7≠0 then (
  some ([],false,r7))
 else
 (pN fl).bind fun r1 =>
 if r1 then (
  (wO ar errata fl).bind fun r0 =>
  ((
   (bD (rJ r0 anchor) (0,0,0,false)).bind fun eA1 =>
   some (eA1.2.1,eA1.1,eA1.2.2)
  ):Option (Nat×Nat×Bool)).bind fun t0 =>
  if t0.2.2 then (
   (r0.parts[t0.2.1]?).bind fun x1 =>
   (x1[t0.1]?).bind fun x0 =>
   some (x0.paragraph.text,x0.removed,0))
  else
  some ([],false,7))
 else
 some ([],false,2)
def wT (x1:List cJ) (ar:bT) (s2:Nat×Int×List cV) (s1:Nat×Nat×Int×List cV):Option ((Nat×Nat×Int×List cV)⊕(Int×List cV)) :=
 if (s1.2.1:Int) < (x1.length:Int) then (
  ((
   (x1[s1.2.1]?).bind fun x0 =>
   if x0.removed then (
    some (s1.1,s1.2.2.1,s1.2.2.2))
   else
   bW (-9223372036854775808≤((s1.1:Int)+1)∧((s1.1:Int)+1)≤9223372036854775807) <|
   bW (-9223372036854775808≤((x0.paragraph.text.length:Int)+ar.width)∧((x0.paragraph.text.length:Int)+ar.width)≤9223372036854775807) <|
   bW (-9223372036854775808≤(((x0.paragraph.text.length:Int)+ar.width) - 1)∧(((x0.paragraph.text.length:Int)+ar.width) - 1)≤9223372036854775807) <|
   bW (0≤(((x0.paragraph.text.length:Int)+ar.width) - 1)∧(((x0.paragraph.text.length:Int)+ar.width) - 1)≤9223372036854775807∧0 < ar.width) <|
   bW (0≤s1.2.2.1∧s1.2.2.1≤9223372036854775807∧0 < ar.height) <|
   bW (-9223372036854775808≤(s2.2.1+(s1.2.2.1/ar.height))∧(s2.2.1+(s1.2.2.1/ar.height))≤9223372036854775807) <|
   bW (0≤s1.2.2.1∧0 < ar.height) <|
   bW (-9223372036854775808≤((s1.2.2.1%ar.height)+1)∧((s1.2.2.1%ar.height)+1)≤9223372036854775807) <|
   (ar.parts[s2.1]?).bind fun x2 =>
   bW (s1.2.2.2.length+([(⟨(⟨x0.paragraph.anchor,(s2.2.1+(s1.2.2.1/ar.height)),((s1.2.2.1%ar.height)+1),((((x0.paragraph.text.length:Int)+ar.width) - 1)/ar.width)⟩:oU),x2.day,((s1.1:Int)+1)⟩:cV)]:List cV).length≤1073741824) <|
   bW (-9223372036854775808≤(s1.2.2.1+((((x0.paragraph.text.length:Int)+ar.width) - 1)/ar.width))∧(s1.2.2.1+((((x0.paragraph.text.length:Int)+ar.width) - 1)/ar.width))≤9223372036854775807) <|
   some ((s1.1+1),(s1.2.2.1+((((x0.paragraph.text.length:Int)+ar.width) - 1)/ar.width)),(s1.2.2.2++([(⟨(⟨x0.paragraph.anchor,(s2.2.1+(s1.2.2.1/ar.height)),((s1.2.2.1%ar.height)+1),((((x0.paragraph.text.length:Int)+ar.width) - 1)/ar.width)⟩:oU),x2.day,((s1.1:Int)+1)⟩:cV)]:List cV)))
  ):Option (Nat×Int×List cV)).bind fun t0 =>
  some (.inl (t0.1,(s1.2.1+1),t0.2.1,t0.2.2)))
 else
 some (.inr (s1.2.2.1,s1.2.2.2))
def wU (r7:gW) (ar:bT) (s1:Nat×Int×List cV):Option ((Nat×Int×List cV)⊕(List cV)) :=
 if (s1.1:Int) < (r7.parts.length:Int) then (
  (r7.parts[s1.1]?).bind fun x0 =>
  (bD (wT x0 ar s1) (0,0,0,s1.2.2)).bind fun eA1 =>
  bW (-9223372036854775808≤(eA1.1+ar.height)∧(eA1.1+ar.height)≤9223372036854775807) <|
  bW (-9223372036854775808≤((eA1.1+ar.height) - 1)∧((eA1.1+ar.height) - 1)≤9223372036854775807) <|
  bW (0≤((eA1.1+ar.height) - 1)∧((eA1.1+ar.height) - 1)≤9223372036854775807∧0 < ar.height) <|
  bW (-9223372036854775808≤(s1.2.1+(((eA1.1+ar.height) - 1)/ar.height))∧(s1.2.1+(((eA1.1+ar.height) - 1)/ar.height))≤9223372036854775807) <|
  some (.inl ((s1.1+1),(s1.2.1+(((eA1.1+ar.height) - 1)/ar.height)),eA1.2)))
 else
 some (.inr s1.2.2)
def DK (ar:bT) (errata:List aO):Option (List cV) :=
 (wO ar errata ar.bound).bind fun r7 =>
 (bD (wU r7 ar) (0,1,([]:List cV))).bind fun eA1 =>
 some eA1
def wV (r0:List cV) (anchor:Int) (style:Int) (ar:bT) (s1:Nat):Option ((Nat)⊕((Unit)⊕(aE×Int))) :=
 if (s1:Int) < (r0.length:Int) then (
  (r0[s1]?).bind fun x0 =>
  if x0.place.anchor≠anchor then (
   some (.inl (s1+1)))
  else
  if style=0 then (
   (vQ ([(.s [118,111,108,46,32]:Any),(.i ar.number:Any),(.s [44,32,99,111,108,46,32]:Any),(.i x0.place.column:Any),(.s [44,32,108,46,32]:Any),(.i x0.place.line:Any)]:List Any)).bind fun r1 =>
   some (.inr (.inr (r1,0))))
  else
  (vQ ([(.s [118,111,108,46,32]:Any),(.i ar.number:Any),(.s [44,32]:Any),(.i x0.day:Any),(.s [44,32,112,97,114,46,32]:Any),(.i x0.number:Any)]:List Any)).bind fun r2 =>
  some (.inr (.inr (r2,0))))
 else
 some (.inr (.inl ()))
def DL (ar:bT) (errata:List aO) (anchor:Int) (style:Int) (ez:Int):Option (aE×Int) :=
 (wJ ar errata).bind fun r7 =>
 if r7≠0 then (
  some ([],r7))
 else
 ((
  if 2 < style then (
   some true)
  else
  if style=2 then (
   (pN ez).bind fun r1 =>
   some (!r1))
  else
  some false
 ):Option (Bool)).bind fun t25 =>
 if t25 then (
  some ([],2))
 else
 if style=2 then (
  (zS ar errata anchor ez).bind fun r0 =>
  if r0.2.2≠0 then (
   some ([],r0.2.2))
  else
  (vQ ([(.i anchor:Any),(.s [64]:Any),(.i ez:Any)]:List Any)).bind fun r2 =>
  some (r2,0))
 else
 (DK ar errata).bind fun r3 =>
 (bD (wV r3 anchor style ar) 0).bind fun eA1=>match eA1 with
 | .inr z=>some z
 | .inl t0 =>
 some ([],7)
def NS (ai:List aE):Option (List aE) :=
 bW (([]:List aE).length+ai.length≤1073741824) <|
 some (([]:List aE)++ai)
def DM (bw:List aE) (cq:aE):Option (List aE) :=
 (NS bw).bind fun r1 =>
 bW (r1.length+1≤1073741824) <|
 some (r1++[cq])
def DN (ac:aH) (bo:List Int) (cw:aE):Option (aH⊕Int) :=
 (iZ ac.state.bound 8).bind fun r3=>match r3 with
 | .inl y6=>(
  (bo[1]?).bind fun x8 =>
  (tN x8 0 255).bind fun r1 =>
  (iZ r1 2).bind fun r2=>match r2 with
  | .inl y0=>(
   (bo[0]?).bind fun x0 =>
   bW (0≤x8∧x8≤255) <|
   (DL ac.state.volume ac.state.errata x0 x8 ac.state.day).bind fun r0 =>
   (lD r0.2).bind fun r4=>match r4 with
   | .inl y1=>(
    (DM ac.state.cites r0.1).bind fun r5 =>
    some (.inl (⟨({ac.state with cites:=r5}:cQ)⟩:aH)))
   | .inr _=>(
    some (.inr r0.2)))
  | .inr _=>(
   some (.inr 2)))
 | .inr _=>(
  some (.inr 8))
def DO (ac:aH):Option (bT) :=
 if ac.state.bound then (
  some ac.state.volume)
 else
 (CQ ac ac.state.volume.parts).bind fun r0 =>
 some r0
def KU (ac:aH):Option (bT) :=
 if ac.state.bound then (
  some ac.state.volume)
 else
 (CR ac ac.state.volume.parts).bind fun r10 =>
 some r10
def IQ (ai:List gL):Option (List gL) :=
 bW (([]:List gL).length+ai.length≤1073741824) <|
 some (([]:List gL)++ai)
def DP (bw:List gL) (cq:gL):Option (List gL) :=
 (IQ bw).bind fun r4 =>
 bW (r4.length+([cq]:List gL).length≤1073741824) <|
 some (r4++([cq]:List gL))
def DQ (ac:aH) (bo:List Int) (cw:aE):Option (aH⊕Int) :=
 ((
  (bo[1]?).bind fun x1 =>
  (tN x1 0 7).bind fun r1 =>
  if r1 then (
   (bo[2]?).bind fun x2 =>
   (tN x2 0 9999).bind fun r2 =>
   (iZ r2 1).bind fun r3=>match r3 with
   | .inl y0=>(
    some (.inl ()))
   | .inr _=>(
    some (.inr (.inr 1))))
  else
  (iZ false 1).bind fun r4=>match r4 with
  | .inl y1=>(
   some (.inl ()))
  | .inr _=>(
   some (.inr (.inr 1)))
 ):Option ((Unit)⊕(aH⊕Int))).bind fun t37=>match t37 with
 | .inr z=>some z
 | .inl t40 =>
 (iZ (decide ((ac.state.hides.length:Int) < 12)) 3).bind fun r5=>match r5 with
 | .inl y2=>(
  (DO ac).bind fun r8 =>
  (bo[0]?).bind fun x0 =>
  (zS r8 ac.state.errata x0 ac.state.day).bind fun r0 =>
  (lD r0.2.2).bind fun r9=>match r9 with
  | .inl y3=>(
   (bo[1]?).bind fun x3 =>
   (bo[2]?).bind fun x4 =>
   (DP ac.state.hides (⟨x0,x3,x4⟩:gL)).bind fun rA1 =>
   some (.inl (⟨({ac.state with hides:=rA1}:cQ)⟩:aH)))
  | .inr _=>(
   some (.inr r0.2.2)))
 | .inr _=>(
  some (.inr 3))
def DR (ac:aH) (bo:List Int) (cw:aE):Option (aH⊕Int) :=
 (iZ (!ac.state.open_) 8).bind fun r3=>match r3 with
 | .inl y6=>(
  (bo[0]?).bind fun x8 =>
  (tN x8 1 40).bind fun r0 =>
  (iZ r0 2).bind fun r1=>match r1 with
  | .inl y0=>(
   some (.inl (⟨({ac.state with house:=x8}:cQ)⟩:aH)))
  | .inr _=>(
   some (.inr 2)))
 | .inr _=>(
  some (.inr 8))
def KV (ea:Int) (low:Int) (high:Int):Option (Bool) :=
 ((
  if low≤ea then (
   some (decide (ea≤high)))
  else
  some false
 ):Option (Bool)).bind fun t4 =>
 some t4
def oX (bb:aV) (db:Int):Option (Bool) :=
 bW (-9223372036854775808≤(bb.members - 1)∧(bb.members - 1)≤9223372036854775807) <|
 (KV db 0 (bb.members - 1)).bind fun r8 =>
 some r8
def tY (aq:Int) (cc:Int→Option Bool):Option (Bool) :=
 (cc aq).bind fun r1 =>
 some (!r1)
def wW (ai:List Int) (cg:Int→Option Bool) (s1:Nat):Option ((Nat)⊕((Unit)⊕Int)) :=
 if (s1:Int) < (ai.length:Int) then (
  (ai[s1]?).bind fun x0 =>
  (cg x0).bind fun r0 =>
  if r0 then (
   some (.inr (.inr (s1:Int))))
  else
  some (.inl (s1+1)))
 else
 some (.inr (.inl ()))
def IR (ai:List Int) (cg:Int→Option Bool):Option (Int) :=
 (bD (wW ai cg) 0).bind fun e19=>match e19 with
 | .inr z=>some z
 | .inl t0 =>
 some (-1)
def IS (ai:List Int) (cg:Int→Option Bool):Option (Bool) :=
 (IR ai cg).bind fun r1 =>
 some (decide (0≤r1))
def DS (bw:List Int) (right:Int→Option Bool):Option (Bool) :=
 (IS bw (fun x0_=>tY x0_ right)).bind fun r5 =>
 some (!r5)
def wX (bw:List Int) (s1:Nat):Option ((Nat)⊕((Unit)⊕Bool)) :=
 if (s1:Int) < (bw.length:Int) then (
  ((
   if 0 < (s1:Int) then (
    (bw[s1]?).bind fun x0 =>
    (bw[((s1:Int) - 1).toNat]?).bind fun x1 =>
    some (decide (x0≤x1)))
   else
   some false
  ):Option (Bool)).bind fun t0 =>
  if t0 then (
   some (.inr (.inr false)))
  else
  some (.inl (s1+1)))
 else
 some (.inr (.inl ()))
def DT (bw:List Int):Option (Bool) :=
 (bD (wX bw) 0).bind fun e29=>match e29 with
 | .inr z=>some z
 | .inl t32 =>
 some true
def AV (bb:aV) (bo:List Int):Option (Bool) :=
 ((
  (DS bo (oX bb)).bind fun r0 =>
  if r0 then (
   (DT bo).bind fun r1 =>
   some r1)
  else
  some false
 ):Option (Bool)).bind fun t0 =>
 some t0
def tZ (aq:List Int) (cc:(List Int)→Option Bool):Option (Bool) :=
 (cc aq).bind fun r1 =>
 some (!r1)
def wY (ai:List (List Int)) (cg:(List Int)→Option Bool) (s1:Nat):Option ((Nat)⊕((Unit)⊕Int)) :=
 if (s1:Int) < (ai.length:Int) then (
  (ai[s1]?).bind fun x0 =>
  (cg x0).bind fun r0 =>
  if r0 then (
   some (.inr (.inr (s1:Int))))
  else
  some (.inl (s1+1)))
 else
 some (.inr (.inl ()))
def IT (ai:List (List Int)) (cg:(List Int)→Option Bool):Option (Int) :=
 (bD (wY ai cg) 0).bind fun e23=>match e23 with
 | .inr z=>some z
 | .inl t26 =>
 some (-1)
def WI (ai:List (List Int)) (cg:(List Int)→Option Bool):Option (Bool) :=
 (IT ai cg).bind fun r1 =>
 some (decide (0≤r1))
def PX (bw:List (List Int)) (right:(List Int)→Option Bool):Option (Bool) :=
 (WI bw (fun x0_=>tZ x0_ right)).bind fun r5 =>
 some (!r5)
def DU (cy:dN) (cc:List (Int×Bool)):Option (Bool) :=
 some (!((eD cc cy.holder).getD false))
def uA (aq:dN) (cc:dN→Option Bool):Option (Bool) :=
 (cc aq).bind fun r4 =>
 some (!r4)
def wZ (ai:List dN) (cg:dN→Option Bool) (s1:Nat):Option ((Nat)⊕((Unit)⊕Int)) :=
 if (s1:Int) < (ai.length:Int) then (
  (ai[s1]?).bind fun x0 =>
  (cg x0).bind fun r0 =>
  if r0 then (
   some (.inr (.inr (s1:Int))))
  else
  some (.inl (s1+1)))
 else
 some (.inr (.inl ()))
def IU (ai:List dN) (cg:dN→Option Bool):Option (Int) :=
 (bD (wZ ai cg) 0).bind fun e19=>match e19 with
 | .inr z=>some z
 | .inl t0 =>
 some (-1)
def IV (ai:List dN) (cg:dN→Option Bool):Option (Bool) :=
 (IU ai cg).bind fun r1 =>
 some (decide (0≤r1))
def DV (bw:List dN) (right:dN→Option Bool):Option (Bool) :=
 (IV bw (fun x0_=>uA x0_ right)).bind fun r5 =>
 some (!r5)
def yN (bb:aV) (s1:Nat×(List (Int×Bool))):Option ((Nat×(List (Int×Bool)))⊕(((List (Int×Bool)))⊕Bool)) :=
 if (s1.1:Int) < (bb.pairs.length:Int) then (
  (bb.pairs[s1.1]?).bind fun x0 =>
  ((
   (oX bb x0.a).bind fun r0 =>
   if r0 then (
    (oX bb x0.b).bind fun r1 =>
    if r1 then (
     if x0.a=x0.b then (
      some true)
     else
     if (eD s1.2 x0.a).getD false then (
      some true)
     else
     some ((eD s1.2 x0.b).getD false))
    else
    some true)
   else
   some true
  ):Option (Bool)).bind fun t0 =>
  if t0 then (
   some (.inr (.inr false)))
  else
  some (.inl ((s1.1+1),(put (put s1.2 x0.a true) x0.b true))))
 else
 some (.inr (.inl s1.2))
def yO (bb:aV) (s1:Nat×(List (Int×Bool))):Option ((Nat×(List (Int×Bool)))⊕(((List (Int×Bool)))⊕Bool)) :=
 if (s1.1:Int) < (bb.proxies.length:Int) then (
  (bb.proxies[s1.1]?).bind fun x0 =>
  ((
   (oX bb x0.holder).bind fun r0 =>
   if r0 then (
    (oX bb x0.for_).bind fun r1 =>
    if r1 then (
     if x0.holder=x0.for_ then (
      some true)
     else
     some ((eD s1.2 x0.for_).getD false))
    else
    some true)
   else
   some true
  ):Option (Bool)).bind fun t0 =>
  if t0 then (
   some (.inr (.inr false)))
  else
  some (.inl ((s1.1+1),(put s1.2 x0.for_ true))))
 else
 some (.inr (.inl s1.2))
def SL (bb:aV):Option (Bool) :=
 (bD (yN bb) (0,([]:List (Int×Bool)))).bind fun eA1=>match eA1 with
 | .inr z=>some z
 | .inl t1 =>
 (bD (yO bb) (0,([]:List (Int×Bool)))).bind fun eB1=>match eB1 with
 | .inr z=>some z
 | .inl t0 =>
 (DV bb.proxies (fun x0_=>DU x0_ t0)).bind fun r0 =>
 some r0
def PY (bb:aV):Option (Bool) :=
 some (decide (bb.tie=1))
def YJ (bb:aV) (db:dT) (cc:aV→Option Bool):Option (Bool) :=
 ((
  if db.noes < db.ayes then (
   some true)
  else
  if db.ayes=db.noes then (
   (cc bb).bind fun r0 =>
   some r0)
  else
  some false
 ):Option (Bool)).bind fun t0 =>
 some t0
def YK (bb:aV) (db:dT) (cc:aV→Option Bool):Option (Bool) :=
 ((
  if bb.need≤db.ayes then (
   some true)
  else
  bW (-9223372036854775808≤(bb.need - 1)∧(bb.need - 1)≤9223372036854775807) <|
  if db.ayes=(bb.need - 1) then (
   (cc bb).bind fun r0 =>
   some r0)
  else
  some false
 ):Option (Bool)).bind fun t0 =>
 some t0
def YM (iq:aV) (db:dT):Option (Bool) :=
 ((
  bW (-9223372036854775808≤(3*db.ayes)∧(3*db.ayes)≤9223372036854775807) <|
  bW (-9223372036854775808≤(db.ayes+db.noes)∧(db.ayes+db.noes)≤9223372036854775807) <|
  bW (-9223372036854775808≤(2*(db.ayes+db.noes))∧(2*(db.ayes+db.noes))≤9223372036854775807) <|
  if (2*(db.ayes+db.noes))≤(3*db.ayes) then (
   some (decide (1≤db.ayes)))
  else
  some false
 ):Option (Bool)).bind fun t0 =>
 some t0
def SM  : Option (Unit) :=
 some ()
def NT (bb:aV):Option (Bool) :=
 ((
  (KV bb.members 1 40).bind fun r0 =>
  if r0 then (
   (PX ([bb.ayes.e0,bb.ayes.e1]:List (List Int)) (AV bb)).bind fun r1 =>
   if r1 then (
    (PX ([bb.noes.e0,bb.noes.e1]:List (List Int)) (AV bb)).bind fun r2 =>
    if r2 then (
     if (bb.pairs.length:Int)≤10 then (
      if (bb.proxies.length:Int)≤10 then (
       (SL bb).bind fun r3 =>
       if r3 then (
        bW (-9223372036854775808≤bb.rule∧bb.rule≤9223372036854775807) <|
        (SM).bind fun r8 =>
        if bb.rule < 3 then (
         (KV bb.need 0 40).bind fun r4 =>
         if r4 then (
          (KV bb.quorum 0 40).bind fun r5 =>
          if r5 then (
           if bb.tie=1 then (
            some true)
           else
           some (decide (bb.tie=2)))
          else
          some false)
         else
         some false)
        else
        some false)
       else
       some false)
      else
      some false)
     else
     some false)
    else
    some false)
   else
   some false)
  else
  some false
 ):Option (Bool)).bind fun t0 =>
 some t0
def DW (bb:aV):Option (Int) :=
 (NT bb).bind fun r6 =>
 if r6 then (
  some 0)
 else
 some 1
def zT (ac:aH) (fm:aV):Option (aH⊕Int) :=
 (DW fm).bind fun r8 =>
 (lD r8).bind fun r11=>match r11 with
 | .inl y0=>(
  some (.inl (⟨({ac.state with division:=fm,open_:=true}:cQ)⟩:aH)))
 | .inr _=>(
  some (.inr r8))
def DX (ac:aH) (bo:List Int) (cw:aE):Option (aH⊕Int) :=
 (iZ (!ac.state.open_) 8).bind fun r3=>match r3 with
 | .inl y6=>(
  ((
   (bo[0]?).bind fun x2 =>
   (tN x2 0 255).bind fun r0 =>
   if r0 then (
    (bo[3]?).bind fun x3 =>
    (tN x3 0 255).bind fun r1 =>
    (iZ r1 2).bind fun r2=>match r2 with
    | .inl y1=>(
     some (.inl ()))
    | .inr _=>(
     some (.inr (.inr 2))))
   else
   (iZ false 2).bind fun r4=>match r4 with
   | .inl y2=>(
    some (.inl ()))
   | .inr _=>(
    some (.inr (.inr 2)))
  ):Option ((Unit)⊕(aH⊕Int))).bind fun t42=>match t42 with
  | .inr z=>some z
  | .inl t45 =>
  (bo[0]?).bind fun x0 =>
  bW (0≤x0∧x0≤255) <|
  (bo[1]?).bind fun x4 =>
  (bo[2]?).bind fun x5 =>
  (bo[3]?).bind fun x1 =>
  bW (0≤x1∧x1≤255) <|
  (zT ac (⟨ac.state.house,(⟨([]:List Int),([]:List Int)⟩:bE),(⟨([]:List Int),([]:List Int)⟩:bE),([]:List eS),([]:List dN),x0,x4,x5,x1⟩:aV)).bind fun r5=>match r5 with
  | .inl y0=>(
   some (.inl y0))
  | .inr y0=>(
   some (.inr y0)))
 | .inr _=>(
  some (.inr 8))
def DY (aq:Int) (fe:Int):Option (Bool) :=
 ((
  (tX aq).bind fun r0 =>
  if r0 then (
   (tX fe).bind fun r1 =>
   if r1 then (
    some (decide (aq < fe)))
   else
   some true)
  else
  some (decide (aq < fe))
 ):Option (Bool)).bind fun t0 =>
 some t0
def IW (aq:Int):Option (Bool) :=
 some (decide (aq≠aq))
def xA (aq:List Int) (target:Int) (s1:Int×Int):Option ((Int×Int)⊕(Int)) :=
 if s1.1 < s1.2 then (
  bW (-9223372036854775808≤(s1.1+s1.2)∧(s1.1+s1.2)≤9223372036854775807) <|
  bW (0≤(s1.1+s1.2)∧(s1.1+s1.2)≤18446744073709551615) <|
  bW (0≤(s1.1+s1.2)) <|
  bW (-9223372036854775808≤((s1.1+s1.2)/2)∧((s1.1+s1.2)/2)≤9223372036854775807) <|
  (aq[((s1.1+s1.2)/2).toNat]?).bind fun x0 =>
  (DY x0 target).bind fun r0 =>
  ((
   if r0 then (
    bW (-9223372036854775808≤(((s1.1+s1.2)/2)+1)∧(((s1.1+s1.2)/2)+1)≤9223372036854775807) <|
    some ((((s1.1+s1.2)/2)+1),s1.2))
   else
   some (s1.1,((s1.1+s1.2)/2))
  ):Option (Int×Int)).bind fun t0 =>
  some (.inl (t0.1,t0.2)))
 else
 some (.inr s1.1)
def rK (aq:List Int) (target:Int):Option (Int×Bool) :=
 (bD (xA aq target) (0,(aq.length:Int))).bind fun e57 =>
 ((
  if e57 < (aq.length:Int) then (
   bW (0≤e57) <|
   (aq[e57.toNat]?).bind fun x0 =>
   if x0=target then (
    some (e57,true))
   else
   (IW x0).bind fun r0 =>
   if r0 then (
    (IW target).bind fun r1 =>
    some (e57,r1))
   else
   some (e57,false))
  else
  some (e57,false)
 ):Option (Int×Bool)).bind fun t0 =>
 some (t0.1,t0.2)
def pO (ai:List Int):Option (List Int) :=
 bW (([]:List Int).length+ai.length≤1073741824) <|
 some (([]:List Int)++ai)
def DZ (ac:aH) (bo:List Int) (cw:aE):Option (aH⊕Int) :=
 (iZ ac.state.open_ 8).bind fun r3=>match r3 with
 | .inl y6=>(
  ((
   (bo[0]?).bind fun x5 =>
   (tN x5 1 2).bind fun r77 =>
   if r77 then (
    (bo[1]?).bind fun x6 =>
    (tN x6 0 1).bind fun r89 =>
    if r89 then (
     (bo[2]?).bind fun x7 =>
     bW (-9223372036854775808≤(ac.state.division.members - 1)∧(ac.state.division.members - 1)≤9223372036854775807) <|
     (tN x7 0 (ac.state.division.members - 1)).bind fun rB1 =>
     (iZ rB1 2).bind fun rC1=>match rC1 with
     | .inl y0=>(
      some (.inl ()))
     | .inr _=>(
      some (.inr (.inr 2))))
    else
    (iZ false 2).bind fun rD1=>match rD1 with
    | .inl y1=>(
     some (.inl ()))
    | .inr _=>(
     some (.inr (.inr 2))))
   else
   (iZ false 2).bind fun rE1=>match rE1 with
   | .inl y2=>(
    some (.inl ()))
   | .inr _=>(
    some (.inr (.inr 2)))
  ):Option ((Unit)⊕(aH⊕Int))).bind fun t0=>match t0 with
  | .inr z=>some z
  | .inl t68 =>
  (bo[1]?).bind fun x4 =>
  if x4=0 then (
   (bo[0]?).bind fun x8 =>
   if x8=2 then (
    (bo[2]?).bind fun x0 =>
    (rK ac.state.division.noes.e0 x0).bind fun r0 =>
    (iZ (!r0.2) 6).bind fun rF1=>match rF1 with
    | .inl y3=>(
     (pO ac.state.division.noes.e0).bind fun r5 =>
     bW (0≤r0.1) <|
     bW (r0.1.toNat≤r5.length) <|
     bW (r5.length+([x0]:List Int).length≤1073741824) <|
     some (.inl (⟨({ac.state with division:=({ac.state.division with noes:=(⟨(r5.take r0.1.toNat++([x0]:List Int)++r5.drop r0.1.toNat),ac.state.division.noes.e1⟩:bE)}:aV)}:cQ)⟩:aH)))
    | .inr _=>(
     some (.inr 6)))
   else
   (bo[2]?).bind fun x1 =>
   (rK ac.state.division.ayes.e0 x1).bind fun r1 =>
   (iZ (!r1.2) 6).bind fun rG1=>match rG1 with
   | .inl y4=>(
    (pO ac.state.division.ayes.e0).bind fun r8 =>
    bW (0≤r1.1) <|
    bW (r1.1.toNat≤r8.length) <|
    bW (r8.length+([x1]:List Int).length≤1073741824) <|
    some (.inl (⟨({ac.state with division:=({ac.state.division with ayes:=(⟨(r8.take r1.1.toNat++([x1]:List Int)++r8.drop r1.1.toNat),ac.state.division.ayes.e1⟩:bE)}:aV)}:cQ)⟩:aH)))
   | .inr _=>(
    some (.inr 6)))
  else
  if x4=1 then (
   (bo[0]?).bind fun x9 =>
   if x9=2 then (
    (bo[2]?).bind fun x2 =>
    (rK ac.state.division.noes.e1 x2).bind fun r2 =>
    (iZ (!r2.2) 6).bind fun rH1=>match rH1 with
    | .inl y5=>(
     (pO ac.state.division.noes.e1).bind fun r9 =>
     bW (0≤r2.1) <|
     bW (r2.1.toNat≤r9.length) <|
     bW (r9.length+([x2]:List Int).length≤1073741824) <|
     some (.inl (⟨({ac.state with division:=({ac.state.division with noes:=(⟨ac.state.division.noes.e0,(r9.take r2.1.toNat++([x2]:List Int)++r9.drop r2.1.toNat)⟩:bE)}:aV)}:cQ)⟩:aH)))
    | .inr _=>(
     some (.inr 6)))
   else
   (bo[2]?).bind fun x3 =>
   (rK ac.state.division.ayes.e1 x3).bind fun r4 =>
   (iZ (!r4.2) 6).bind fun rI1=>match rI1 with
   | .inl y7=>(
    (pO ac.state.division.ayes.e1).bind fun rA1 =>
    bW (0≤r4.1) <|
    bW (r4.1.toNat≤rA1.length) <|
    bW (rA1.length+([x3]:List Int).length≤1073741824) <|
    some (.inl (⟨({ac.state with division:=({ac.state.division with ayes:=(⟨ac.state.division.ayes.e0,(rA1.take r4.1.toNat++([x3]:List Int)++rA1.drop r4.1.toNat)⟩:bE)}:aV)}:cQ)⟩:aH)))
   | .inr _=>(
    some (.inr 6)))
  else
  none)
 | .inr _=>(
  some (.inr 8))
def IX (ai:List eS):Option (List eS) :=
 bW (([]:List eS).length+ai.length≤1073741824) <|
 some (([]:List eS)++ai)
def EA (bw:List eS) (cq:eS):Option (List eS) :=
 (IX bw).bind fun r4 =>
 bW (r4.length+([cq]:List eS).length≤1073741824) <|
 some (r4++([cq]:List eS))
def EB (ac:aH) (bo:List Int) (cw:aE):Option (aH⊕Int) :=
 (iZ ac.state.open_ 8).bind fun r3=>match r3 with
 | .inl y6=>(
  (bo[0]?).bind fun x9 =>
  (bo[1]?).bind fun x0 =>
  (EA ac.state.division.pairs (⟨x9,x0⟩:eS)).bind fun r0 =>
  (zT ac ({ac.state.division with pairs:=r0}:aV)).bind fun r1=>match r1 with
  | .inl y0=>(
   some (.inl y0))
  | .inr y0=>(
   some (.inr y0)))
 | .inr _=>(
  some (.inr 8))
def uB (ai:List Int) (fa:Int) (s1:Nat):Option ((Nat)⊕((Unit)⊕Int)) :=
 if (s1:Int) < (ai.length:Int) then (
  (ai[s1]?).bind fun x0 =>
  if fa=x0 then (
   some (.inr (.inr (s1:Int))))
  else
  some (.inl (s1+1)))
 else
 some (.inr (.inl ()))
def WJ (ai:List Int) (fa:Int):Option (Int) :=
 (bD (uB ai fa) 0).bind fun e16=>match e16 with
 | .inr z=>some z
 | .inl t0 =>
 some (-1)
def KW (ai:List Int) (fa:Int):Option (Bool) :=
 (WJ ai fa).bind fun r1 =>
 some (decide (0≤r1))
def zU (lobby:bE) (member:Int):Option (Int) :=
 (KW lobby.e0 member).bind fun r0 =>
 ((
  if r0 then (
   some 1)
  else
  some 0
 ):Option (Nat)).bind fun t39 =>
 (KW lobby.e1 member).bind fun r1 =>
 ((
  if r1 then (
   bW (-9223372036854775808≤((t39:Int)+1)∧((t39:Int)+1)≤9223372036854775807) <|
   some (t39+1))
  else
  some t39
 ):Option (Nat)).bind fun t62 =>
 some (t62:Int)
def EC (bb:aV) (member:Int):Option (List UInt8) :=
 (zU bb.ayes member).bind fun r6 =>
 (zU bb.noes member).bind fun r10 =>
 ((
  if r6 < 2 then (
   some (decide (r10 < 2)))
  else
  some false
 ):Option (Bool)).bind fun t0 =>
 ((
  if t0 then (
   bW (([]:List UInt8).length+1≤1073741824) <|
   some (([]:List UInt8)++[(0:UInt8)]))
  else
  some ([]:List UInt8)
 ):Option (List UInt8)).bind fun t38 =>
 ((
  if 0 < r6 then (
   some (decide (r10 < 2)))
  else
  some false
 ):Option (Bool)).bind fun t1 =>
 ((
  if t1 then (
   bW (t38.length+1≤1073741824) <|
   some (t38++[(1:UInt8)]))
  else
  some t38
 ):Option (List UInt8)).bind fun t68 =>
 ((
  if 0 < r10 then (
   some (decide (r6 < 2)))
  else
  some false
 ):Option (Bool)).bind fun t84 =>
 ((
  if t84 then (
   bW (t68.length+1≤1073741824) <|
   some (t68++[(2:UInt8)]))
  else
  some t68
 ):Option (List UInt8)).bind fun t2 =>
 some t2
def ED (bb:aV) (s1:Nat×bB):Option ((Nat×bB)⊕(bB)) :=
 if (s1.1:Int) < (bb.pairs.length:Int) then (
  (bb.pairs[s1.1]?).bind fun x0 =>
  bW (0≤x0.a) <|
  bW (x0.a < 40) <|
  bW (0≤x0.b) <|
  bW (x0.b < 40) <|
  some (.inl ((s1.1+1),(bB.set (bB.set s1.2 x0.a.toNat true) x0.b.toNat true))))
 else
 some (.inr s1.2)
def EE (bb:aV) (s1:Nat×List (List UInt8)):Option ((Nat×List (List UInt8))⊕(List (List UInt8))) :=
 if (s1.1:Int) < bb.members then (
  (EC bb (s1.1:Int)).bind fun r0 =>
  (s1.2[s1.1]?).bind fun x0 =>
  bW (-9223372036854775808≤((s1.1:Int)+1)∧((s1.1:Int)+1)≤9223372036854775807) <|
  some (.inl ((s1.1+1),(s1.2.set s1.1 r0))))
 else
 some (.inr s1.2)
def SN (bb:aV):Option (cU) :=
 (bD (ED bb) (0,bB.zero)).bind fun e76 =>
 (bD (EE bb) (0,(List.replicate 40 ([]:List UInt8)))).bind fun eA1 =>
 some (⟨bb,e76,eA1⟩:cU)
def EF (aq:cU) (s1:Nat×Nat×Bool):Option ((Nat×Nat×Bool)⊕(Nat×Bool)) :=
 if (s1.2.1:Int) < aq.division.members then (
  (aq.may[s1.2.1]?).bind fun x0 =>
  if (x0.length:Int)=0 then (
   some (.inr (s1.2.1,true)))
  else
  bW (-9223372036854775808≤((s1.2.1:Int)+1)∧((s1.2.1:Int)+1)≤9223372036854775807) <|
  some (.inl (s1.1,(s1.2.1+1),s1.2.2)))
 else
 some (.inr (s1.1,s1.2.2))
def SO (aq:cU):Option (Int×Bool) :=
 (bD (EF aq) (0,0,false)).bind fun e41 =>
 some ((e41.1:Int),e41.2)
def PZ (bb:aV):Option (cU×Int) :=
 (NT bb).bind fun r7 =>
 if r7 then (
  (SN bb).bind fun r0 =>
  (SO r0).bind fun r1 =>
  if r1.2 then (
   some ((⟨(⟨0,(⟨([]:List Int),([]:List Int)⟩:bE),(⟨([]:List Int),([]:List Int)⟩:bE),([]:List eS),([]:List dN),0,0,0,0⟩:aV),bB.zero,(List.replicate 40 ([]:List UInt8))⟩:cU),9))
  else
  some (r0,0))
 else
 some ((⟨(⟨0,(⟨([]:List Int),([]:List Int)⟩:bE),(⟨([]:List Int),([]:List Int)⟩:bE),([]:List eS),([]:List dN),0,0,0,0⟩:aV),bB.zero,(List.replicate 40 ([]:List UInt8))⟩:cU),1)
def EG (aq:cU) (s1:Nat×List Int):Option ((Nat×List Int)⊕(List Int)) :=
 if (s1.1:Int) < aq.division.members then (
  (aq.may[s1.1]?).bind fun x0 =>
  ((
   if 1 < (x0.length:Int) then (
    bW (s1.2.length+1≤1073741824) <|
    some (s1.2++[(s1.1:Int)]))
   else
   some s1.2
  ):Option (List Int)).bind fun t164 =>
  bW (-9223372036854775808≤((s1.1:Int)+1)∧((s1.1:Int)+1)≤9223372036854775807) <|
  some (.inl ((s1.1+1),t164)))
 else
 some (.inr s1.2)
def SP (aq:cU):Option (List Int) :=
 (bD (EG aq) (0,([]:List Int))).bind fun eA1 =>
 some eA1
def SQ (bb:aV):Option (cU×Int) :=
 (PZ bb).bind fun r7 =>
 ((
  if r7.2=0 then (
   (SP r7.1).bind fun r0 =>
   some (decide (8 < (r0.length:Int))))
  else
  some false
 ):Option (Bool)).bind fun t0 =>
 if t0 then (
  some ((⟨(⟨0,(⟨([]:List Int),([]:List Int)⟩:bE),(⟨([]:List Int),([]:List Int)⟩:bE),([]:List eS),([]:List dN),0,0,0,0⟩:aV),bB.zero,(List.replicate 40 ([]:List UInt8))⟩:cU),3))
 else
 some (r7.1,r7.2)
def KX (x0:List UInt8) (fk:Int) (ij:aY→Int→Option Bool) (s1:Nat×aY):Option ((Nat×aY)⊕((aY)⊕Bool)) :=
 if (s1.1:Int) < (x0.length:Int) then (
  (x0[s1.1]?).bind fun x1 =>
  bW (fk < 40) <|
  bW (-9223372036854775808≤(fk+1)∧(fk+1)≤9223372036854775807) <|
  (ij (aY.set s1.2 fk.toNat (x1.toNat:Int)) (fk+1)).bind fun r0 =>
  if r0 then (
   some (.inl ((s1.1+1),(aY.set s1.2 fk.toNat (x1.toNat:Int)))))
  else
  some (.inr (.inr false)))
 else
 some (.inr (.inl s1.2))
def m60 (ii:aY) (fk:Int) (cc:cU) (ey:aY→Option Bool) (ij:aY→Int→Option Bool):Option (Bool) :=
 if fk=cc.division.members then (
  (ey ii).bind fun r0 =>
  some r0)
 else
 bW (0≤fk) <|
 (cc.may[fk.toNat]?).bind fun x0 =>
 (bD (KX x0 fk ij) (0,ii)).bind fun e90=>match e90 with
 | .inr z=>some z
 | .inl t0 =>
 some true
def KY (x0:List UInt8) (s1:Nat×aY) (R0_:(Nat×aY)→Option (Bool)) (s2:Nat×aY):Option ((Nat×aY)⊕((aY)⊕Bool)) :=
 if (s2.1:Int) < (x0.length:Int) then (
  (x0[s2.1]?).bind fun x1 =>
  bW ((s1.1:Int) < 40) <|
  bW (-9223372036854775808≤((s1.1:Int)+1)∧((s1.1:Int)+1)≤9223372036854775807) <|
  (R0_ ((s1.1+1),(aY.set s2.2 s1.1 (x1.toNat:Int)))).bind fun r0 =>
  if r0 then (
   some (.inl ((s2.1+1),(aY.set s2.2 s1.1 (x1.toNat:Int)))))
  else
  some (.inr (.inr false)))
 else
 some (.inr (.inl s2.2))
def KZ (cc:cU) (yield:aY→Option Bool) (R0_:(Nat×aY)→Option (Bool)) (s1:Nat×aY):Option (Bool) :=
 if (s1.1:Int)=cc.division.members then (
  (yield s1.2).bind fun r0 =>
  some r0)
 else
 (cc.may[s1.1]?).bind fun x0 =>
 (bD (KY x0 s1 R0_) (0,s1.2)).bind fun eA1=>match eA1 with
 | .inr z=>some z
 | .inl t0 =>
 some true
def rL (cc:cU) (yield:aY→Option Bool):Nat→(Nat×aY)→Option (Bool)
 | 0,_=>none
 | n_+1,s1=>KZ cc yield (rL cc yield n_) s1
def m59 (yield:aY→Option Bool) (cc:cU):Option (Unit) :=
 (vH (fun n_=>rL cc yield n_ (0,aY.zero))).bind fun r0 =>
 some ()
def EH (aq:cU) (fx:aY) (s1:Nat×Nat×Nat):Option ((Nat×Nat×Nat)⊕(Nat×Nat)) :=
 if (s1.1:Int) < aq.division.members then (
  bW ((s1.1:Int) < 40) <|
  ((
   if bB.get aq.paired s1.1 then (
    some (s1.2.1,s1.2.2))
   else
   ((
    ((
     if (aY.get fx s1.1)=1 then (
      bW (-9223372036854775808≤((s1.2.1:Int)+1)∧((s1.2.1:Int)+1)≤9223372036854775807) <|
      some ((s1.2.1+1),s1.2.2))
     else
     ((
      if (aY.get fx s1.1)=2 then (
       bW (-9223372036854775808≤((s1.2.2:Int)+1)∧((s1.2.2:Int)+1)≤9223372036854775807) <|
       some (s1.2.2+1))
      else
      some s1.2.2
     ):Option (Nat)).bind fun t3 =>
     some (s1.2.1,t3)
    ):Option (Nat×Nat)).bind fun t0 =>
    some (t0.1,t0.2)
   ):Option (Nat×Nat)).bind fun t1 =>
   some (t1.1,t1.2)
  ):Option (Nat×Nat)).bind fun t2 =>
  bW (-9223372036854775808≤((s1.1:Int)+1)∧((s1.1:Int)+1)≤9223372036854775807) <|
  some (.inl ((s1.1+1),t2.1,t2.2)))
 else
 some (.inr (s1.2.1,s1.2.2))
def EI (aq:cU) (fx:aY) (s1:Nat×Nat×Nat):Option ((Nat×Nat×Nat)⊕(Nat×Nat)) :=
 if (s1.1:Int) < (aq.division.proxies.length:Int) then (
  (aq.division.proxies[s1.1]?).bind fun x0 =>
  ((
   bW (0≤x0.for_) <|
   bW (x0.for_ < 40) <|
   if (aY.get fx x0.for_.toNat)=0 then (
    if bB.get aq.paired x0.for_.toNat then (
     some false)
    else
    bW (0≤x0.holder) <|
    bW (x0.holder < 40) <|
    some (!(bB.get aq.paired x0.holder.toNat)))
   else
   some false
  ):Option (Bool)).bind fun t3 =>
  ((
   if t3 then (
    bW (0≤x0.holder) <|
    bW (x0.holder < 40) <|
    ((
     ((
      if (aY.get fx x0.holder.toNat)=1 then (
       bW (-9223372036854775808≤((s1.2.1:Int)+1)∧((s1.2.1:Int)+1)≤9223372036854775807) <|
       some ((s1.2.1+1),s1.2.2))
      else
      ((
       if (aY.get fx x0.holder.toNat)=2 then (
        bW (-9223372036854775808≤((s1.2.2:Int)+1)∧((s1.2.2:Int)+1)≤9223372036854775807) <|
        some (s1.2.2+1))
       else
       some s1.2.2
      ):Option (Nat)).bind fun t4 =>
      some (s1.2.1,t4)
     ):Option (Nat×Nat)).bind fun t0 =>
     some (t0.1,t0.2)
    ):Option (Nat×Nat)).bind fun t1 =>
    some (t1.1,t1.2))
   else
   some (s1.2.1,s1.2.2)
  ):Option (Nat×Nat)).bind fun t2 =>
  some (.inl ((s1.1+1),t2.1,t2.2)))
 else
 some (.inr (s1.2.1,s1.2.2))
def QA (aq:cU) (fx:aY):Option (dT) :=
 (bD (EH aq fx) (0,0,0)).bind fun e82 =>
 (bD (EI aq fx) (0,e82.1,e82.2)).bind fun eA1 =>
 some (⟨(eA1.1:Int),(eA1.2:Int)⟩:dT)
def QB (aq:cU) (db:dT):Option (Int) :=
 bW (-9223372036854775808≤(db.ayes+db.noes)∧(db.ayes+db.noes)≤9223372036854775807) <|
 if (db.ayes+db.noes) < aq.division.quorum then (
  some 2)
 else
 (SM).bind fun r3 =>
 bW (0≤aq.division.rule) <|
 if aq.division.rule=0 then (
  (YJ aq.division db (PY)).bind fun r0 =>
  if r0 then (
   some 1)
  else
  some 0)
 else
 if aq.division.rule=1 then (
  (YK aq.division db (PY)).bind fun r1 =>
  if r1 then (
   some 1)
  else
  some 0)
 else
 if aq.division.rule=2 then (
  (YM aq.division db).bind fun r2 =>
  if r2 then (
   some 1)
  else
  some 0)
 else
 none
def uD (ai:List UInt8) (fa:Int) (s1:Nat):Option ((Nat)⊕((Unit)⊕Int)) :=
 if (s1:Int) < (ai.length:Int) then (
  (ai[s1]?).bind fun x0 =>
  if fa=(x0.toNat:Int) then (
   some (.inr (.inr (s1:Int))))
  else
  some (.inl (s1+1)))
 else
 some (.inr (.inl ()))
def WK (ai:List UInt8) (fa:Int):Option (Int) :=
 (bD (uD ai fa) 0).bind fun e16=>match e16 with
 | .inr z=>some z
 | .inl t0 =>
 some (-1)
def QC (ai:List UInt8) (fa:Int):Option (Bool) :=
 (WK ai fa).bind fun r1 =>
 some (decide (0≤r1))
def YN (aq:Int):Option (Int) :=
 ((
  if 4294967296≤aq then (
   some (32,(aq/4294967296)))
  else
  some (0,aq)
 ):Option (Nat×Int)).bind fun t4 =>
 ((
  if 65536≤t4.2 then (
   bW (-9223372036854775808≤((t4.1:Int)+16)∧((t4.1:Int)+16)≤9223372036854775807) <|
   some ((t4.1+16),(t4.2/65536)))
  else
  some (t4.1,t4.2)
 ):Option (Nat×Int)).bind fun t0 =>
 ((
  if 256≤t0.2 then (
   bW (-9223372036854775808≤((t0.1:Int)+8)∧((t0.1:Int)+8)≤9223372036854775807) <|
   some ((t0.1+8),(t0.2/256)))
  else
  some (t0.1,t0.2)
 ):Option (Nat×Int)).bind fun t28 =>
 bW (0≤t28.2∧t28.2≤255) <|
 bW (0≤t28.2) <|
 (([0,1,2,2,3,3,3,3,4,4,4,4,4,4,4,4,5,5,5,5,5,5,5,5,5,5,5,5,5,5,5,5,6,6,6,6,6,6,6,6,6,6,6,6,6,6,6,6,6,6,6,6,6,6,6,6,6,6,6,6,6,6,6,6,7,7,7,7,7,7,7,7,7,7,7,7,7,7,7,7,7,7,7,7,7,7,7,7,7,7,7,7,7,7,7,7,7,7,7,7,7,7,7,7,7,7,7,7,7,7,7,7,7,7,7,7,7,7,7,7,7,7,7,7,7,7,7,7,8,8,8,8,8,8,8,8,8,8,8,8,8,8,8,8,8,8,8,8,8,8,8,8,8,8,8,8,8,8,8,8,8,8,8,8,8,8,8,8,8,8,8,8,8,8,8,8,8,8,8,8,8,8,8,8,8,8,8,8,8,8,8,8,8,8,8,8,8,8,8,8,8,8,8,8,8,8,8,8,8,8,8,8,8,8,8,8,8,8,8,8,8,8,8,8,8,8,8,8,8,8,8,8,8,8,8,8,8,8,8,8,8,8,8,8,8,8,8,8,8,8,8,8,8,8,8,8]:aE)[t28.2.toNat]?).bind fun x0 =>
 bW (-9223372036854775808≤((t28.1:Int)+(x0.toNat:Int))∧((t28.1:Int)+(x0.toNat:Int))≤9223372036854775807) <|
 some ((t28.1:Int)+(x0.toNat:Int))
def WL (aq:Int):Option (Int) :=
 (YN aq).bind fun r1 =>
 some r1
def EJ (aq:Int):Option (Bool) :=
 some (decide (aq≠aq))
def SR (aq:Int) (fe:Int):Option (Bool) :=
 ((
  (EJ aq).bind fun r0 =>
  if r0 then (
   (EJ fe).bind fun r1 =>
   if r1 then (
    some (decide (aq < fe)))
   else
   some true)
  else
  some (decide (aq < fe))
 ):Option (Bool)).bind fun t0 =>
 some t0
def EK (x0:List UInt8) (s2:Nat×aY×List UInt8) (R0_:(Nat×aY×List UInt8)→Option (List UInt8)) (s1:Nat×aY×List UInt8):Option ((Nat×aY×List UInt8)⊕(aY×List UInt8)) :=
 if (s1.1:Int) < (x0.length:Int) then (
  (x0[s1.1]?).bind fun x1 =>
  bW ((s2.1:Int) < 40) <|
  bW (-9223372036854775808≤((s2.1:Int)+1)∧((s2.1:Int)+1)≤9223372036854775807) <|
  (R0_ ((s2.1+1),(aY.set s1.2.1 s2.1 (x1.toNat:Int)),s1.2.2)).bind fun r0 =>
  some (.inl ((s1.1+1),(aY.set s1.2.1 s2.1 (x1.toNat:Int)),r0)))
 else
 some (.inr (s1.2.1,s1.2.2))
def yP (r6:cU×Int) (R0_:(Nat×aY×List UInt8)→Option (List UInt8)) (s1:Nat×aY×List UInt8):Option (List UInt8) :=
 if (s1.1:Int)=r6.1.division.members then (
  ((
   (QA r6.1 s1.2.1).bind fun r1 =>
   (QB r6.1 r1).bind fun r0 =>
   (QC s1.2.2 r0).bind fun r2 =>
   ((
    if r2 then (
     some s1.2.2)
    else
    bW (s1.2.2.length+1≤1073741824) <|
    bW (0≤r0∧r0≤255) <|
    some (s1.2.2++[(UInt8.ofNat r0.toNat)])
   ):Option (List UInt8)).bind fun t0 =>
   some t0
  ):Option (List UInt8)).bind fun t1 =>
  some t1)
 else
 (r6.1.may[s1.1]?).bind fun x0 =>
 (bD (EK x0 s1 R0_) (0,s1.2.1,s1.2.2)).bind fun eA1 =>
 some eA1.2
def mZ (r6:cU×Int):Nat→(Nat×aY×List UInt8)→Option (List UInt8)
 | 0,_=>none
 | n_+1,s1=>yP r6 (mZ r6 n_) s1
def EM (s2:Nat×Nat×Int×Bool×Bool) (s1:Int×List UInt8):Option ((Int×List UInt8)⊕(List UInt8)) :=
 ((
  if (s2.1:Int) < s1.1 then (
   bW (0≤s1.1) <|
   (s1.2[s1.1.toNat]?).bind fun x1 =>
   bW (-9223372036854775808≤(s1.1 - 1)∧(s1.1 - 1)≤9223372036854775807) <|
   bW (0≤(s1.1 - 1)) <|
   (s1.2[(s1.1 - 1).toNat]?).bind fun x2 =>
   (SR (x1.toNat:Int) (x2.toNat:Int)).bind fun r0 =>
   some r0)
  else
  some false
 ):Option (Bool)).bind fun t0 =>
 if t0 then (
  bW (-9223372036854775808≤(s1.1 - 1)∧(s1.1 - 1)≤9223372036854775807) <|
  bW (0≤(s1.1 - 1)) <|
  (s1.2[(s1.1 - 1).toNat]?).bind fun x0 =>
  bW (0≤s1.1) <|
  (s1.2[s1.1.toNat]?).bind fun x3 =>
  ((s1.2.set s1.1.toNat x0)[(s1.1 - 1).toNat]?).bind fun x4 =>
  some (.inl ((s1.1 - 1),((s1.2.set s1.1.toNat x0).set ((s1.1 - 1).toNat) x3))))
 else
 some (.inr s1.2)
def yQ (s2:Nat×Nat×Int×Bool×Bool) (s1:Nat×List UInt8):Option ((Nat×List UInt8)⊕(List UInt8)) :=
 if (s1.1:Int) < (s2.2.1:Int) then (
  (bD (EM s2) ((s1.1:Int),s1.2)).bind fun eA1 =>
  bW (-9223372036854775808≤((s1.1:Int)+1)∧((s1.1:Int)+1)≤9223372036854775807) <|
  some (.inl ((s1.1+1),eA1)))
 else
 some (.inr s1.2)
def uE (t0:List UInt8) (s1:Nat×Nat×Int×Bool×Bool):Option ((Nat×Nat×Int×Bool×Bool)⊕(List UInt8)) :=
 bW (-9223372036854775808≤((s1.2.1:Int) - (s1.1:Int))∧((s1.2.1:Int) - (s1.1:Int))≤9223372036854775807) <|
 if ((s1.2.1:Int) - (s1.1:Int))≤12 then (
  ((
   bW (-9223372036854775808≤((s1.1:Int)+1)∧((s1.1:Int)+1)≤9223372036854775807) <|
   (bD (yQ s1) ((s1.1+1),t0)).bind fun eA1 =>
   some eA1
  ):Option (List UInt8)).bind fun t1 =>
  some (.inr t1))
 else
 if s1.2.2.1=0 then (
  none)
 else
 if s1.2.2.2.1 then (
  none)
 else
 none
def SS (bb:aV):Option (List UInt8×Int) :=
 (SQ bb).bind fun r6 =>
 if r6.2≠0 then (
  some (([]:List UInt8),r6.2))
 else
 ((
  (vH (fun n_=>mZ r6 n_ (0,aY.zero,([]:List UInt8)))).bind fun r0 =>
  some r0
 ):Option (List UInt8)).bind fun t0 =>
 ((
  (WL (t0.length:Int)).bind fun r1 =>
  ((
   (bD (uE t0) (0,t0.length,r1,true,true)).bind fun eA1=>some eA1
  ):Option (List UInt8)).bind fun t1 =>
  some t1
 ):Option (List UInt8)).bind fun t2 =>
 some (t2,0)
def IY (ai:List UInt8):Option (List UInt8) :=
 bW (([]:List UInt8).length+ai.length≤1073741824) <|
 some (([]:List UInt8)++ai)
def EN (bw:List UInt8) (cq:Int):Option (List UInt8) :=
 (IY bw).bind fun r1 =>
 bW (r1.length+1≤1073741824) <|
 bW (0≤cq∧cq≤255) <|
 some (r1++[(UInt8.ofNat cq.toNat)])
def EO (ac:aH) (cq:List Int) (iu:aE):Option (aH⊕Int) :=
 (iZ ac.state.open_ 8).bind fun r3=>match r3 with
 | .inl y6=>(
  (SS ac.state.division).bind fun r8 =>
  (lD r8.2).bind fun r0=>match r0 with
  | .inl y0=>(
   (iZ (decide ((r8.1.length:Int)=1)) 10).bind fun r1=>match r1 with
   | .inl y1=>(
    (r8.1[0]?).bind fun x0 =>
    (EN ac.state.results (x0.toNat:Int)).bind fun r2 =>
    some (.inl (⟨({ac.state with division:=(⟨0,(⟨([]:List Int),([]:List Int)⟩:bE),(⟨([]:List Int),([]:List Int)⟩:bE),([]:List eS),([]:List dN),0,0,0,0⟩:aV),open_:=false,results:=r2}:cQ)⟩:aH)))
   | .inr _=>(
    some (.inr 10)))
  | .inr _=>(
   some (.inr r8.2)))
 | .inr _=>(
  some (.inr 8))
def SU (fu:Int):Option (Bool) :=
 some (decide (fu=32))
def zV (text:aE):Option (List aE) :=
 (IJ text).bind fun r1 =>
 some r1
def uG (aq:aQ) (cc:aQ→Option Bool):Option (Bool) :=
 (cc aq).bind fun r7 =>
 some (!r7)
def xB (ai:List aQ) (cg:aQ→Option Bool) (s1:Nat):Option ((Nat)⊕((Unit)⊕Int)) :=
 if (s1:Int) < (ai.length:Int) then (
  (ai[s1]?).bind fun x0 =>
  (cg x0).bind fun r0 =>
  if r0 then (
   some (.inr (.inr (s1:Int))))
  else
  some (.inl (s1+1)))
 else
 some (.inr (.inl ()))
def IZ (ai:List aQ) (cg:aQ→Option Bool):Option (Int) :=
 (bD (xB ai cg) 0).bind fun e23=>match e23 with
 | .inr z=>some z
 | .inl t26 =>
 some (-1)
def JA (ai:List aQ) (cg:aQ→Option Bool):Option (Bool) :=
 (IZ ai cg).bind fun r1 =>
 some (decide (0≤r1))
def rM (bw:List aQ) (right:aQ→Option Bool):Option (Bool) :=
 (JA bw (fun x0_=>uG x0_ right)).bind fun r5 =>
 some (!r5)
def EP (cy:aQ):Option (Bool) :=
 some (decide ((cy.words.length:Int)≤60))
def EQ (bn:bJ):Option (Bool) :=
 ((
  if (bn.papers.length:Int)≤10 then (
   if (bn.words.length:Int)≤60 then (
    (rM bn.papers (EP)).bind fun r0 =>
    some r0)
   else
   some false)
  else
  some false
 ):Option (Bool)).bind fun t0 =>
 some t0
def uH (aq:aE) (cc:aE→Option Bool):Option (Bool) :=
 (cc aq).bind fun r1 =>
 some (!r1)
def zW (bw:List aE) (right:aE→Option Bool):Option (Bool) :=
 (NP bw (fun x0_=>uH x0_ right)).bind fun r5 =>
 some (!r5)
def zX (ea:Int) (low:Int) (high:Int):Option (Bool) :=
 ((
  if low≤ea then (
   some (decide (ea≤high)))
  else
  some false
 ):Option (Bool)).bind fun t4 =>
 some t4
def uI (aq:Int) (cc:Int→Option Bool):Option (Bool) :=
 (cc aq).bind fun r1 =>
 some (!r1)
def ER (bw:List UInt8) (right:Int→Option Bool):Option (Bool) :=
 (NR bw (fun x0_=>uI x0_ right)).bind fun r5 =>
 some (!r5)
def xC (fu:Int):Option (Bool) :=
 ((
  if (33:Int)≤fu then (
   some (decide (fu≤126)))
  else
  some false
 ):Option (Bool)).bind fun t4 =>
 some t4
def lZ (ai:aE):Option (Bool) :=
 ((
  (zX (ai.length:Int) 1 20).bind fun r0 =>
  if r0 then (
   bW (ai.length≤1073741824) <|
   (ER ai (xC)).bind fun r1 =>
   some r1)
  else
  some false
 ):Option (Bool)).bind fun t0 =>
 some t0
def zY (cy:aQ):Option (Bool) :=
 (zW cy.words (lZ)).bind fun r8 =>
 some r8
def ES (bn:bJ):Option (Bool) :=
 ((
  (zW bn.words (lZ)).bind fun r0 =>
  if r0 then (
   (rM bn.papers (zY)).bind fun r1 =>
   some r1)
  else
  some false
 ):Option (Bool)).bind fun t21 =>
 some t21
def zZ (cy:aQ):Option (Bool) :=
 (zX cy.number 1 999).bind fun r7 =>
 some r7
def JB (bn:bJ):Option (Bool) :=
 (rM bn.papers (zZ)).bind fun r11 =>
 some r11
def yR (bn:bJ) (s1:Nat×(List (Int×aQ))):Option ((Nat×(List (Int×aQ)))⊕((List (Int×aQ)))) :=
 if (s1.1:Int) < (bn.papers.length:Int) then (
  (bn.papers[s1.1]?).bind fun x0 =>
  some (.inl ((s1.1+1),(put s1.2 x0.number x0))))
 else
 some (.inr s1.2)
def GQ (bn:bJ):Option ((List (Int×aQ))) :=
 (bD (yR bn) (0,([]:List (Int×aQ)))).bind fun e60 =>
 some e60
def JC (bn:bJ):Option (Bool) :=
 (GQ bn).bind fun r10 =>
 some (decide ((r10.length:Int)=(bn.papers.length:Int)))
def AA (cy:aQ) (cc:List (Int×aQ)):Option (Bool) :=
 ((
  if cy.of=0 then (
   some true)
  else
  some (decide (((eD cc cy.of).getD (⟨0,0,0,0,([]:List aE)⟩:aQ)).number=cy.of))
 ):Option (Bool)).bind fun t0 =>
 some t0
def JD (bn:bJ):Option (Bool) :=
 (GQ bn).bind fun r10 =>
 (rM bn.papers (fun x0_=>AA x0_ r10)).bind fun r0 =>
 some r0
def xD (bn:bJ) (r10:(List (Int×aQ))) (s1:Nat×Bool×Int×Int×Int×Int×List aE):Option ((Nat×Bool×Int×Int×Int×Int×List aE)⊕((Bool×Int×Int×Int×Int×List aE)⊕((Nat×Bool)⊕(Bool)))) :=
 if s1.2.2.2.1≠0 then (
  bW (-9223372036854775808≤((s1.1:Int)+1)∧((s1.1:Int)+1)≤9223372036854775807) <|
  if (bn.papers.length:Int) < ((s1.1:Int)+1) then (
   Option.map (fun z=>.inr (.inr z)) (
   some (.inr false)))
  else
  some (.inl ((s1.1+1),s1.2.1,((eD r10 s1.2.2.2.1).getD (⟨0,0,0,0,([]:List aE)⟩:aQ)).number,((eD r10 s1.2.2.2.1).getD (⟨0,0,0,0,([]:List aE)⟩:aQ)).of,((eD r10 s1.2.2.2.1).getD (⟨0,0,0,0,([]:List aE)⟩:aQ)).from_,((eD r10 s1.2.2.2.1).getD (⟨0,0,0,0,([]:List aE)⟩:aQ)).to_,((eD r10 s1.2.2.2.1).getD (⟨0,0,0,0,([]:List aE)⟩:aQ)).words)))
 else
 some (.inr (.inl (s1.2.1,s1.2.2.1,s1.2.2.2.1,s1.2.2.2.2.1,s1.2.2.2.2.2.1,s1.2.2.2.2.2.2)))
def xE (bn:bJ) (r10:(List (Int×aQ))) (s1:Nat×Bool):Option ((Nat×Bool)⊕(Bool)) :=
 if (s1.1:Int) < (bn.papers.length:Int) then (
  (bn.papers[s1.1]?).bind fun x0 =>
  (bD (xD bn r10) (0,s1.2,x0.number,x0.of,x0.from_,x0.to_,x0.words)).bind fun eA1=>match eA1 with
  | .inr z=>some z
  | .inl t222 =>
  some (.inl ((s1.1+1),t222.1)))
 else
 some (.inr s1.2)
def ET (bn:bJ):Option (Bool) :=
 (GQ bn).bind fun r10 =>
 (bD (xE bn r10) (0,true)).bind fun e84 =>
 some e84
def QD (bn:bJ) (number:Int):Option (List aE) :=
 if number=0 then (
  some bn.words)
 else
 (GQ bn).bind fun r0 =>
 some (((eD r0 number).getD (⟨0,0,0,0,([]:List aE)⟩:aQ)).words)
def AB (cy:aQ) (cc:bJ):Option (Bool) :=
 ((
  if (0:Int)≤cy.from_ then (
   if cy.from_≤cy.to_ then (
    (QD cc cy.of).bind fun r0 =>
    some (decide (cy.to_≤(r0.length:Int))))
   else
   some false)
  else
  some false
 ):Option (Bool)).bind fun t32 =>
 some t32
def JE (bn:bJ):Option (Bool) :=
 (rM bn.papers (fun x0_=>AB x0_ bn)).bind fun r11 =>
 some r11
def WM  : Option (Unit) :=
 some ()
def NU (bn:bJ):Option (Int) :=
 (WM).bind fun r10 =>
 (EQ bn).bind fun r0 =>
 if r0 then (
  (ES bn).bind fun r1 =>
  if r1 then (
   (JB bn).bind fun r2 =>
   if r2 then (
    (JC bn).bind fun r3 =>
    if r3 then (
     (JD bn).bind fun r4 =>
     if r4 then (
      (ET bn).bind fun r5 =>
      if r5 then (
       (JE bn).bind fun r8 =>
       if r8 then (
        some 0)
       else
       some 1)
      else
      some 8)
     else
     some 7)
    else
    some 6)
   else
   some 2)
  else
  some 4)
 else
 some 3
def EU (ac:aH) (ir:List Int) (text:aE):Option (aH⊕Int) :=
 (iZ (!ac.state.moved) 8).bind fun r3=>match r3 with
 | .inl y6=>(
  (zV text).bind fun r8 =>
  (NU (⟨r8,([]:List aQ)⟩:bJ)).bind fun r0 =>
  (lD r0).bind fun r1=>match r1 with
  | .inl y0=>(
   some (.inl (⟨({ac.state with motion:=(⟨r8,([]:List aQ)⟩:bJ),moved:=true}:cQ)⟩:aH)))
  | .inr _=>(
   some (.inr r0)))
 | .inr _=>(
  some (.inr 8))
def JF (ai:List aQ):Option (List aQ) :=
 bW (([]:List aQ).length+ai.length≤1073741824) <|
 some (([]:List aQ)++ai)
def EV (bw:List aQ) (cq:aQ):Option (List aQ) :=
 (JF bw).bind fun r7 =>
 bW (r7.length+([cq]:List aQ).length≤1073741824) <|
 some (r7++([cq]:List aQ))
def EW (ac:aH) (bo:List Int) (text:aE):Option (aH⊕Int) :=
 (iZ ac.state.moved 8).bind fun r3=>match r3 with
 | .inl y6=>(
  (bo[0]?).bind fun x9 =>
  (bo[1]?).bind fun x0 =>
  (bo[2]?).bind fun x1 =>
  (bo[3]?).bind fun x2 =>
  (zV text).bind fun r2 =>
  (EV ac.state.motion.papers (⟨x9,x0,x1,x2,r2⟩:aQ)).bind fun r0 =>
  (NU (⟨ac.state.motion.words,r0⟩:bJ)).bind fun r1 =>
  (lD r1).bind fun r4=>match r4 with
  | .inl y0=>(
   some (.inl (⟨({ac.state with motion:=(⟨ac.state.motion.words,r0⟩:bJ)}:cQ)⟩:aH)))
  | .inr _=>(
   some (.inr r1)))
 | .inr _=>(
  some (.inr 8))
def SV (dg:aQ) (dh:aQ):Option (Bool) :=
 ((
  if dg.number≠dh.number then (
   if dg.of=dh.of then (
    if dg.from_ < dh.to_ then (
     some (decide (dh.from_ < dg.to_)))
    else
    some false)
   else
   some false)
  else
  some false
 ):Option (Bool)).bind fun t0 =>
 some t0
def EX (choice:List Int) (r10:(List (Int×aQ))) (s1:Nat):Option ((Nat)⊕((Unit)⊕Int)) :=
 if (s1:Int) < (choice.length:Int) then (
  (choice[s1]?).bind fun x0 =>
  ((
   if ((eD r10 x0).getD (⟨0,0,0,0,([]:List aE)⟩:aQ)).of≠0 then (
    (KW choice (((eD r10 x0).getD (⟨0,0,0,0,([]:List aE)⟩:aQ)).of)).bind fun r0 =>
    some (!r0))
   else
   some false
  ):Option (Bool)).bind fun t0 =>
  if t0 then (
   some (.inr (.inr 10)))
  else
  some (.inl (s1+1)))
 else
 some (.inr (.inl ()))
def EY (choice:List Int) (r10:(List (Int×aQ))) (x0:Int) (s1:Nat):Option ((Nat)⊕((Unit)⊕((Nat)⊕((Unit)⊕Int)))) :=
 if (s1:Int) < (choice.length:Int) then (
  (choice[s1]?).bind fun x1 =>
  (SV ((eD r10 x0).getD (⟨0,0,0,0,([]:List aE)⟩:aQ)) ((eD r10 x1).getD (⟨0,0,0,0,([]:List aE)⟩:aQ))).bind fun r0 =>
  if r0 then (
   some (.inr (.inr (.inr (.inr 9)))))
  else
  some (.inl (s1+1)))
 else
 some (.inr (.inl ()))
def EZ (choice:List Int) (r10:(List (Int×aQ))) (s1:Nat):Option ((Nat)⊕((Unit)⊕Int)) :=
 if (s1:Int) < (choice.length:Int) then (
  (choice[s1]?).bind fun x0 =>
  (bD (EY choice r10 x0) 0).bind fun eA1=>match eA1 with
  | .inr z=>some z
  | .inl t0 =>
  some (.inl (s1+1)))
 else
 some (.inr (.inl ()))
def SW (bn:bJ) (choice:List Int):Option (Int) :=
 (GQ bn).bind fun r10 =>
 (bD (EX choice r10) 0).bind fun e48=>match e48 with
 | .inr z=>some z
 | .inl t0 =>
 (bD (EZ choice r10) 0).bind fun eA1=>match eA1 with
 | .inr z=>some z
 | .inl t1 =>
 some 0
def yS (choice:List Int) (r0:(List (Int×aQ))) (s1:Nat):Option ((Nat)⊕((Unit)⊕Int)) :=
 if (s1:Int) < (choice.length:Int) then (
  (choice[s1]?).bind fun x0 =>
  ((
   if ((eD r0 x0).getD (⟨0,0,0,0,([]:List aE)⟩:aQ)).number≠x0 then (
    some true)
   else
   if x0=0 then (
    some true)
   else
   if 0 < (s1:Int) then (
    (choice[((s1:Int) - 1).toNat]?).bind fun x1 =>
    some (decide (x0≤x1)))
   else
   some false
  ):Option (Bool)).bind fun t0 =>
  if t0 then (
   some (.inr (.inr 2)))
  else
  some (.inl (s1+1)))
 else
 some (.inr (.inl ()))
def SX (bn:bJ) (choice:List Int):Option (Int) :=
 (NU bn).bind fun r10 =>
 if r10≠0 then (
  some r10)
 else
 (GQ bn).bind fun r0 =>
 (bD (yS choice r0) 0).bind fun e67=>match e67 with
 | .inr z=>some z
 | .inl t0 =>
 (SW bn choice).bind fun r1 =>
 some r1
def uJ (bw:List Int) (s1:Nat):Option ((Nat)⊕((Unit)⊕Int)) :=
 if (s1:Int) < (bw.length:Int) then (
  (bw[s1]?).bind fun x0 =>
  if x0≠0 then (
   some (.inr (.inr x0)))
  else
  some (.inl (s1+1)))
 else
 some (.inr (.inl ()))
def SY (bw:List Int):Option (Int) :=
 (bD (uJ bw) 0).bind fun e16=>match e16 with
 | .inr z=>some z
 | .inl t0 =>
 some 0
def LA (dg:aQ) (dh:aQ):Option (Int) :=
 bW (-9223372036854775808≤(dg.from_ - dh.from_)∧(dg.from_ - dh.from_)≤9223372036854775807) <|
 bW (-9223372036854775808≤(dg.to_ - dh.to_)∧(dg.to_ - dh.to_)≤9223372036854775807) <|
 bW (-9223372036854775808≤(dg.number - dh.number)∧(dg.number - dh.number)≤9223372036854775807) <|
 (SY ([(dg.from_ - dh.from_),(dg.to_ - dh.to_),(dg.number - dh.number)]:List Int)).bind fun r24 =>
 some r24
def LB (cc:bJ) (ey:Int) (s1:Nat×List aQ):Option ((Nat×List aQ)⊕(List aQ)) :=
 if (s1.1:Int) < (cc.papers.length:Int) then (
  (cc.papers[s1.1]?).bind fun x0 =>
  ((
   if x0.of=ey then (
    bW (s1.2.length+1≤1073741824) <|
    some (s1.2++[x0]))
   else
   some s1.2
  ):Option (List aQ)).bind fun t0 =>
  some (.inl ((s1.1+1),t0)))
 else
 some (.inr s1.2)
def LC (eA1:List aQ) (l0:List aQ) (yield:aQ→Option Bool) (s1:Nat):Option ((Nat)⊕((Unit)⊕Unit)) :=
 if (s1:Int) < (eA1.length:Int) then (
  (l0[s1]?).bind fun x0 =>
  (yield x0).bind fun r0 =>
  if r0 then (
   some (.inl (s1+1)))
  else
  some (.inr (.inr ())))
 else
 some (.inr (.inl ()))
def m53 (yield:aQ→Option Bool) (cc:bJ) (ey:Int):Option (Unit) :=
 (bD (LB cc ey) (0,([]:List aQ))).bind fun eA1 =>
 bW (eA1.Nodup) <|
 (iT (LA) eA1).bind fun l0 =>
 (bD (LC eA1 l0 yield) 0).bind fun eB1=>match eB1 with
 | .inr z=>some z
 | .inl t0 =>
 some ()
def yT (bn:bJ) (s2:Int×List aE×List bC) (s1:Nat×List aQ):Option ((Nat×List aQ)⊕(List aQ)) :=
 if (s1.1:Int) < (bn.papers.length:Int) then (
  (bn.papers[s1.1]?).bind fun x0 =>
  ((
   if x0.of=s2.1 then (
    bW (s1.2.length+1≤1073741824) <|
    some (s1.2++[x0]))
   else
   some s1.2
  ):Option (List aQ)).bind fun t0 =>
  some (.inl ((s1.1+1),t0)))
 else
 some (.inr s1.2)
def FA (x1:aQ) (r0:List aE) (s2:Int×List aE×List bC) (s1:Int×List aE×List bC):Option ((Int×List aE×List bC)⊕(Int×List aE×List bC)) :=
 if s1.1 < x1.from_ then (
  bW (0≤s1.1) <|
  (r0[s1.1.toNat]?).bind fun x0 =>
  bW (s1.2.1.length+([x0]:List aE).length≤1073741824) <|
  bW (s1.2.2.length+([(⟨s2.1,s1.1⟩:bC)]:List bC).length≤1073741824) <|
  bW (-9223372036854775808≤(s1.1+1)∧(s1.1+1)≤9223372036854775807) <|
  some (.inl ((s1.1+1),(s1.2.1++([x0]:List aE)),(s1.2.2++([(⟨s2.1,s1.1⟩:bC)]:List bC)))))
 else
 some (.inr (s1.1,s1.2.1,s1.2.2))
def FB (eB1:List aQ) (l0:List aQ) (choice:List Int) (r1:List aE) (s2:Int×List aE×List bC) (R0_:(Int×List aE×List bC)→Option (List aE×List bC)) (s1:Nat×Int×List aE×List bC):Option ((Nat×Int×List aE×List bC)⊕(Int×List aE×List bC)) :=
 if (s1.1:Int) < (eB1.length:Int) then (
  (l0[s1.1]?).bind fun x0 =>
  ((
   (KW choice x0.number).bind fun r2 =>
   ((
    if r2 then (
     ((
      (bD (FA x0 r1 s2) (s1.2.1,s1.2.2.1,s1.2.2.2)).bind fun eA1 =>
      some (eA1.1,eA1.2.1,eA1.2.2)
     ):Option (Int×List aE×List bC)).bind fun t2 =>
     (R0_ (x0.number,t2.2.1,t2.2.2)).bind fun r0 =>
     some (x0.to_,r0.1,r0.2))
    else
    some (s1.2.1,s1.2.2.1,s1.2.2.2)
   ):Option (Int×List aE×List bC)).bind fun t0 =>
   some (t0.1,t0.2.1,t0.2.2)
  ):Option (Int×List aE×List bC)).bind fun t1 =>
  some (.inl ((s1.1+1),t1.1,t1.2.1,t1.2.2)))
 else
 some (.inr (s1.2.1,s1.2.2.1,s1.2.2.2))
def FC (r0:List aE) (s2:Int×List aE×List bC) (s1:Int×List aE×List bC):Option ((Int×List aE×List bC)⊕(Int×List aE×List bC)) :=
 if s1.1 < (r0.length:Int) then (
  bW (0≤s1.1) <|
  (r0[s1.1.toNat]?).bind fun x0 =>
  bW (s1.2.1.length+([x0]:List aE).length≤1073741824) <|
  bW (s1.2.2.length+([(⟨s2.1,s1.1⟩:bC)]:List bC).length≤1073741824) <|
  bW (-9223372036854775808≤(s1.1+1)∧(s1.1+1)≤9223372036854775807) <|
  some (.inl ((s1.1+1),(s1.2.1++([x0]:List aE)),(s1.2.2++([(⟨s2.1,s1.1⟩:bC)]:List bC)))))
 else
 some (.inr (s1.1,s1.2.1,s1.2.2))
def yU (bn:bJ) (choice:List Int) (R0_:(Int×List aE×List bC)→Option (List aE×List bC)) (s1:Int×List aE×List bC):Option (List aE×List bC) :=
 (QD bn s1.1).bind fun r0 =>
 ((
  (bD (yT bn s1) (0,([]:List aQ))).bind fun eA1 =>
  bW (eA1.Nodup) <|
  (iT (LA) eA1).bind fun l0 =>
  (bD (FB eA1 l0 choice r0 s1 R0_) (0,0,s1.2.1,s1.2.2)).bind fun eB1 =>
  some (eB1.1,eB1.2.1,eB1.2.2)
 ):Option (Int×List aE×List bC)).bind fun t0 =>
 ((
  (bD (FC r0 s1) (t0.1,t0.2.1,t0.2.2)).bind fun eC1 =>
  some (eC1.1,eC1.2.1,eC1.2.2)
 ):Option (Int×List aE×List bC)).bind fun t1 =>
 some (t1.2.1,t1.2.2)
def nA (bn:bJ) (choice:List Int):Nat→(Int×List aE×List bC)→Option (List aE×List bC)
 | 0,_=>none
 | n_+1,s1=>yU bn choice (nA bn choice n_) s1
def LD (bn:bJ) (choice:List Int):Option (List aE×List bC×Int) :=
 (SX bn choice).bind fun r0 =>
 if r0≠0 then (
  some (([]:List aE),([]:List bC),r0))
 else
 (vH (fun n_=>nA bn choice n_ (0,([]:List aE),([]:List bC)))).bind fun r1 =>
 some (r1.1,r1.2,0)
def FD (ac:aH) (bo:List Int) (cw:aE):Option (aH⊕Int) :=
 (iZ ac.state.moved 8).bind fun r3=>match r3 with
 | .inl y6=>(
  (bo[0]?).bind fun x8 =>
  (rK ac.state.choice x8).bind fun r0 =>
  (iZ (!r0.2) 6).bind fun r4=>match r4 with
  | .inl y0=>(
   (pO ac.state.choice).bind fun r1 =>
   bW (0≤r0.1) <|
   bW (r0.1.toNat≤r1.length) <|
   bW (r1.length+([x8]:List Int).length≤1073741824) <|
   (LD ac.state.motion (r1.take r0.1.toNat++([x8]:List Int)++r1.drop r0.1.toNat)).bind fun r2 =>
   (lD r2.2.2).bind fun r5=>match r5 with
   | .inl y1=>(
    some (.inl (⟨({ac.state with choice:=(r1.take r0.1.toNat++([x8]:List Int)++r1.drop r0.1.toNat)}:cQ)⟩:aH)))
   | .inr _=>(
    some (.inr r2.2.2)))
  | .inr _=>(
   some (.inr 6)))
 | .inr _=>(
  some (.inr 8))
def uK (ac:aH) (bo:List Int) (cw:aE):Option (aH⊕Int) :=
 ((
  if ac.state.moved then (
   (iZ (!ac.state.bound) 8).bind fun r22=>match r22 with
   | .inl y1=>(
    some (.inl ()))
   | .inr _=>(
    some (.inr (.inr 8))))
  else
  (iZ false 8).bind fun r1=>match r1 with
  | .inl y2=>(
   some (.inl ()))
  | .inr _=>(
   some (.inr (.inr 8)))
 ):Option ((Unit)⊕(aH⊕Int))).bind fun t0=>match t0 with
 | .inr z=>some z
 | .inl t1 =>
 (LD ac.state.motion ac.state.choice).bind fun r0 =>
 (lD r0.2.2).bind fun r2=>match r2 with
 | .inl y3=>(
  (vP r0.1 [32]).bind fun r3 =>
  (tU ac bo r3).bind fun r4=>match r4 with
  | .inl y0=>(
   some (.inl (⟨({y0.state with motion:=(⟨([]:List aE),([]:List aQ)⟩:bJ),moved:=false,choice:=([]:List Int)}:cQ)⟩:aH)))
  | .inr y0=>(
   some (.inr y0)))
 | .inr _=>(
  some (.inr r0.2.2))
def NV  : Option ((List (aE×cL))) :=
 some (put (put (put (put (put (put (put (put (put (put (put (put (put (put (put (put (put ([]:List (aE×cL)) [100,97,121] (⟨1,false,(some 110)⟩:cL)) [115,97,121] (⟨1,true,(some 111)⟩:cL)) [98,105,110,100] (⟨3,false,(some 112)⟩:cL)) [99,104,97,110,103,101] (⟨2,true,(some 113)⟩:cL)) [114,101,109,111,118,101] (⟨2,false,(some 114)⟩:cL)) [97,100,100] (⟨3,true,(some 115)⟩:cL)) [99,105,116,101] (⟨2,false,(some 116)⟩:cL)) [104,105,100,101] (⟨3,false,(some 117)⟩:cL)) [104,111,117,115,101] (⟨1,false,(some 118)⟩:cL)) [100,105,118,105,100,101] (⟨4,false,(some 119)⟩:cL)) [116,101,108,108] (⟨3,false,(some 120)⟩:cL)) [112,97,105,114] (⟨2,false,(some 121)⟩:cL)) [114,101,115,117,108,116] (⟨0,false,(some 122)⟩:cL)) [109,111,118,101] (⟨0,true,(some 123)⟩:cL)) [112,97,112,101,114] (⟨4,true,(some 124)⟩:cL)) [97,100,111,112,116] (⟨1,false,(some 125)⟩:cL)) [111,114,100,101,114] (⟨1,false,(some 126)⟩:cL))
def SZ (ai:aE):Option (Int⊕Unit) :=
 (IH ai).bind fun r1 =>
 ((
  if r1.2 then (
   (iZ false 4).bind fun r0=>match r0 with
   | .inl y0=>(
    some (.inl ()))
   | .inr _=>(
    some (.inr (.inr ()))))
  else
  (II r1.1).bind fun r2 =>
  if r2=ai then (
   (tN r1.1 (-999999999) 999999999).bind fun r3 =>
   (iZ r3 4).bind fun r4=>match r4 with
   | .inl y1=>(
    some (.inl ()))
   | .inr _=>(
    some (.inr (.inr ()))))
  else
  (iZ false 4).bind fun r5=>match r5 with
  | .inl y2=>(
   some (.inl ()))
  | .inr _=>(
   some (.inr (.inr ())))
 ):Option ((Unit)⊕(Int⊕Unit))).bind fun t34=>match t34 with
 | .inr z=>some z
 | .inl t37 =>
 some (.inl r1.1)
def LE (q:Option Nat) (ac:aH) (bo:List Int) (cw:aE):Option (aH⊕Int) :=
 if q=some 110 then CO ac bo cw
 else if q=some 111 then tU ac bo cw
 else if q=some 112 then CW ac bo cw
 else if q=some 113 then DH ac bo cw
 else if q=some 114 then DI ac bo cw
 else if q=some 115 then DJ ac bo cw
 else if q=some 116 then DN ac bo cw
 else if q=some 117 then DQ ac bo cw
 else if q=some 118 then DR ac bo cw
 else if q=some 119 then DX ac bo cw
 else if q=some 120 then DZ ac bo cw
 else if q=some 121 then EB ac bo cw
 else if q=some 122 then EO ac bo cw
 else if q=some 123 then EU ac bo cw
 else if q=some 124 then EW ac bo cw
 else if q=some 125 then FD ac bo cw
 else if q=some 126 then uK ac bo cw
 else none
def oY (r7:(List (aE×cL))) (r4:aE×aE×Bool) (ac:aH) (s1:Nat×aE×Bool×List Int):Option ((Nat×aE×Bool×List Int)⊕((aE×Bool×List Int)⊕(aH×Int))) :=
 if (s1.1:Int) < ((eD r7 r4.1).getD (⟨0,false,(none:Option Nat)⟩:cL)).many then (
  (iZ s1.2.2.1 4).bind fun r1=>match r1 with
  | .inl y1=>(
   (GP s1.2.1 [32]).bind fun r0 =>
   (SZ r0.1).bind fun r2=>match r2 with
   | .inl y0=>(
    bW (s1.2.2.2.length+1≤1073741824) <|
    bW (-9223372036854775808≤((s1.1:Int)+1)∧((s1.1:Int)+1)≤9223372036854775807) <|
    some (.inl ((s1.1+1),r0.2.1,r0.2.2,(s1.2.2.2++[y0]))))
   | .inr _=>(
    some (.inr (.inr (ac,4)))))
  | .inr _=>(
   some (.inr (.inr (ac,4)))))
 else
 some (.inr (.inl (s1.2.1,s1.2.2.1,s1.2.2.2)))
def JG (ac:aH) (text:aE):Option (aH×Int) :=
 (GP text [32]).bind fun r4 =>
 (NV).bind fun r7 =>
 (iZ ((eD r7 r4.1).isSome) 4).bind fun r0=>match r0 with
 | .inl y1=>(
  (bD (oY r7 r4 ac) (0,r4.2.1,r4.2.2,([]:List Int))).bind fun e99=>match e99 with
  | .inr z=>some z
  | .inl t102 =>
  (iZ (t102.2.1==((eD r7 r4.1).getD (⟨0,false,(none:Option Nat)⟩:cL)).text) 4).bind fun r1=>match r1 with
  | .inl y2=>(
   (LE (((eD r7 r4.1).getD (⟨0,false,(none:Option Nat)⟩:cL)).do_) ac t102.2.2 t102.1).bind fun r2=>match r2 with
   | .inl y0=>(
    some (y0,0))
   | .inr y0=>(
    some (ac,y0)))
  | .inr _=>(
   some (ac,4)))
 | .inr _=>(
  some (ac,4))
def uL (lines:List aE) (s:Nat×aH×List Int):Option ((Nat×aH×List Int)⊕(aH×List Int)) :=
 if (s.1:Int) < (lines.length:Int) then (
  (lines[s.1]?).bind fun x =>
  (JG s.2.1 x).bind fun r =>
  bW (s.2.2.length+1≤1073741824) <|
  some (.inl ((s.1+1),r.1,(s.2.2++[r.2]))))
 else
 some (.inr s.2)
def NW (lines:List aE):Option (aH×List Int) :=
 (bD (uL lines) (0,(⟨(⟨0,0,(⟨0,0,0,0,([]:List dR)⟩:bT),false,([]:List aO),([]:List gL),([]:List aE),(⟨([]:List aE),([]:List aQ)⟩:bJ),false,([]:List Int),(⟨0,(⟨([]:List Int),([]:List Int)⟩:bE),(⟨([]:List Int),([]:List Int)⟩:bE),([]:List eS),([]:List dN),0,0,0,0⟩:aV),false,([]:List UInt8)⟩:cQ)⟩:aH),([]:List Int))).bind fun e =>
 some e
def m9 (lines:List aE):Option (cQ×List Int×Int) :=
 (NQ lines).bind fun r2 =>
 if r2≠0 then (
  some ((⟨0,0,(⟨0,0,0,0,([]:List dR)⟩:bT),false,([]:List aO),([]:List gL),([]:List aE),(⟨([]:List aE),([]:List aQ)⟩:bJ),false,([]:List Int),(⟨0,(⟨([]:List Int),([]:List Int)⟩:bE),(⟨([]:List Int),([]:List Int)⟩:bE),([]:List eS),([]:List dN),0,0,0,0⟩:aV),false,([]:List UInt8)⟩:cQ),([]:List Int),r2))
 else
 (NW lines).bind fun r11 =>
 some (r11.1.state,r11.2,0)
def FE (turned:Bool) (s1:Int×Int×dD):Option ((Int×Int×dD)⊕(dD)) :=
 if 0≤s1.2.1 then (
  bW (0≤s1.1∧0 < (8:Int)) <|
  ((
   if turned then (
    some (7 - (s1.1%8)))
   else
   some (s1.1%8)
  ):Option (Int)).bind fun t0 =>
  bW (-9223372036854775808≤(48+t0)∧(48+t0)≤9223372036854775807) <|
  bW (0≤(48+t0)∧(48+t0)≤255) <|
  bW (s1.2.1 < 6) <|
  bW (0≤s1.1∧s1.1≤9223372036854775807∧0 < (8:Int)) <|
  bW (-9223372036854775808≤(s1.2.1 - 1)∧(s1.2.1 - 1)≤9223372036854775807) <|
  some (.inl ((s1.1/8),(s1.2.1 - 1),(dD.set s1.2.2 s1.2.1.toNat (48+t0)))))
 else
 some (.inr s1.2.2)
def FF (ea:Int) (many:Int) (turned:Bool):Option (aE) :=
 bW (-9223372036854775808≤(many - 1)∧(many - 1)≤9223372036854775807) <|
 (bD (FE turned) (ea,(many - 1),dD.zero)).bind fun e46 =>
 bW (∀ v∈dD.vals e46,0≤v∧v≤255) <|
 bW (0≤many) <|
 bW (many.toNat≤6) <|
 some (((dD.vals e46).map GN).take many.toNat)
def LF (ai:aE) (s1:Nat×Int):Option ((Nat×Int)⊕(Int)) :=
 if (s1.1:Int) < (ai.length:Int) then (
  (ai[s1.1]?).bind fun x0 =>
  bW (-9223372036854775808≤(29*s1.2)∧(29*s1.2)≤9223372036854775807) <|
  bW (-9223372036854775808≤((29*s1.2)+(x0.toNat:Int))∧((29*s1.2)+(x0.toNat:Int))≤9223372036854775807) <|
  bW (-9223372036854775808≤(((29*s1.2)+(x0.toNat:Int))+3)∧(((29*s1.2)+(x0.toNat:Int))+3)≤9223372036854775807) <|
  bW (0≤(((29*s1.2)+(x0.toNat:Int))+3)∧0 < (262139:Int)) <|
  some (.inl ((s1.1+1),((((29*s1.2)+(x0.toNat:Int))+3)%262139))))
 else
 some (.inr s1.2)
def YO (ai:aE):Option (aE) :=
 bW (ai.length≤1073741824) <|
 (bD (LF ai) (0,11)).bind fun e47 =>
 (FF (ai.length:Int) 4 false).bind fun r0 =>
 bW ([91].length+r0.length≤1073741824) <|
 (FF (ai.length:Int) 4 true).bind fun r1 =>
 bW (([91]++r0).length+r1.length≤1073741824) <|
 (FF e47 6 false).bind fun r2 =>
 bW ((([91]++r0)++r1).length+r2.length≤1073741824) <|
 bW (((([91]++r0)++r1)++r2).length+[93].length≤1073741824) <|
 bW ((((([91]++r0)++r1)++r2)++[93]).length+ai.length≤1073741824) <|
 bW (((((([91]++r0)++r1)++r2)++[93])++ai).length+[10].length≤1073741824) <|
 some (((((([91]++r0)++r1)++r2)++[93])++ai)++[10])
def LG (lines:List aE) (s1:Nat×List UInt8):Option ((Nat×List UInt8)⊕(List UInt8)) :=
 if (s1.1:Int) < (lines.length:Int) then (
  (lines[s1.1]?).bind fun x0 =>
  (YO x0).bind fun r0 =>
  bW (s1.2.length+r0.length≤1073741824) <|
  some (.inl ((s1.1+1),(s1.2++r0))))
 else
 some (.inr s1.2)
def YP (lines:List aE):Option (List UInt8) :=
 (bD (LG lines) (0,([]:List UInt8))).bind fun e64 =>
 some e64
def m18 (lines:List aE):Option (List UInt8×Int) :=
 (NQ lines).bind fun r1 =>
 if r1≠0 then (
  some (([]:List UInt8),r1))
 else
 (YP lines).bind fun r10 =>
 some (r10,0)
def LH (dg:List aE) (dh:List aE) (s1:Nat):Option ((Nat)⊕((Unit)⊕Bool)) :=
 if (s1:Int) < (dg.length:Int) then (
  (dg[s1]?).bind fun x0 =>
  (dh[s1]?).bind fun x1 =>
  if x0≠x1 then (
   some (.inr (.inr false)))
  else
  some (.inl (s1+1)))
 else
 some (.inr (.inl ()))
def m19 (dg:List aE) (dh:List aE):Option (Bool) :=
 if (dg.length:Int)≠(dh.length:Int) then (
  some false)
 else
 (bD (LH dg dh) 0).bind fun e31=>match e31 with
 | .inr z=>some z
 | .inl t34 =>
 some true
def m8  : Option (Bool) :=
 (m17).bind fun r1 =>
 (m9 r1).bind fun r8 =>
 (m18 ([[97]]:List aE)).bind fun r0 =>
 ((
  if r8.2.2=0 then (
   if r0.2=0 then (
    if (r8.2.1.length:Int)=18 then (
     (r8.2.1[11]?).bind fun x0 =>
     if x0=10 then (
      (r8.2.1[17]?).bind fun x1 =>
      if x1=0 then (
       if r8.1.bound then (
        if (r8.1.results.length:Int)=1 then (
         (r8.1.results[0]?).bind fun x2 =>
         if (x2.toNat:Int)=1 then (
          (m19 r8.1.cites ([[118,111,108,46,32,51,44,32,99,111,108,46,32,49,44,32,108,46,32,50]]:List aE)).bind fun r2 =>
          if r2 then (
           some (decide (r0.1=[91,48,48,48,49,55,55,55,54,48,48,48,54,52,51,93,97,10])))
          else
          some false)
         else
         some false)
        else
        some false)
       else
       some false)
      else
      some false)
     else
     some false)
    else
    some false)
   else
   some false)
  else
  some false
 ):Option (Bool)).bind fun t0 =>
 some t0
def QE (bw:List aE):Option (List aE) :=
 bW (([]:List aE).length+bw.length≤1073741824) <|
 some (([]:List aE)++bw)
def TA (r0:cQ×List Int×Int) (x0:bC) (s1:Nat×Bool):Option ((Nat×Bool)⊕(Bool)) :=
 if (s1.1:Int) < (r0.1.choice.length:Int) then (
  ((
   if s1.2 then (
    some true)
   else
   (r0.1.choice[s1.1]?).bind fun x1 =>
   some (decide (x1=x0.number))
  ):Option (Bool)).bind fun t0 =>
  some (.inl ((s1.1+1),t0)))
 else
 some (.inr s1.2)
def NX (r0:List aE×List bC×Int) (r1:cQ×List Int×Int) (s1:Nat×aE):Option ((Nat×aE)⊕((aE)⊕Bool)) :=
 if (s1.1:Int) < (r0.1.length:Int) then (
  (r0.2.1[s1.1]?).bind fun x0 =>
  (bD (TA r1 x0) (0,decide (x0.number=0))).bind fun eA1 =>
  if eA1 then (
   ((
    if 0 < (s1.1:Int) then (
     bW (s1.2.length+[32].length≤1073741824) <|
     some (s1.2++[32]))
    else
    some s1.2
   ):Option (aE)).bind fun t0 =>
   (r0.1[s1.1]?).bind fun x1 =>
   bW (t0.length+x1.length≤1073741824) <|
   some (.inl ((s1.1+1),(t0++x1))))
  else
  some (.inr (.inr false)))
 else
 some (.inr (.inl s1.2))
def m3 (lines:List aE) (dz:Int):Option (Bool) :=
 ((
  (m6 lines).bind fun r4 =>
  if r4 then (
   (m7 lines).bind fun r5 =>
   if r5 then (
    some (decide ((lines.length:Int)=0)))
   else
   some true)
  else
  some true
 ):Option (Bool)).bind fun t0 =>
 if t0 then (
  (m8).bind fun r8 =>
  some r8)
 else
 bW (-9223372036854775808≤dz∧dz≤9223372036854775807) <|
 bW (0≤dz∧0 < (lines.length:Int)) <|
 bW ((dz%(lines.length:Int)).toNat≤lines.length) <|
 (QE (lines.take ((dz%(lines.length:Int)).toNat))).bind fun r9 =>
 (m9 r9).bind fun r1 =>
 bW (((dz%(lines.length:Int))+1).toNat≤lines.length) <|
 (QE (lines.take (((dz%(lines.length:Int))+1).toNat))).bind fun rA1 =>
 (m9 rA1).bind fun r0 =>
 ((
  if r1.2.2≠0 then (
   some true)
  else
  if r0.2.2≠0 then (
   some true)
  else
  some (decide ((r0.2.1.length:Int)≠((dz%(lines.length:Int))+1)))
 ):Option (Bool)).bind fun t1 =>
 if t1 then (
  some false)
 else
 (lines[(dz%(lines.length:Int)).toNat]?).bind fun x2 =>
 (PW x2).bind fun r3 =>
 ((
  if r3.2.2.2 then (
   if r3.1≠[111,114,100,101,114] then (
    some true)
   else
   (r0.2.1[(dz%(lines.length:Int)).toNat]?).bind fun x3 =>
   some (decide (x3≠0)))
  else
  some true
 ):Option (Bool)).bind fun t2 =>
 if t2 then (
  (m8).bind fun rB1 =>
  some rB1)
 else
 bW (([]:List Int).length+r1.1.choice.length≤1073741824) <|
 (LD r1.1.motion (([]:List Int)++r1.1.choice)).bind fun r2 =>
 ((
  if r2.2.2≠0 then (
   some true)
  else
  if (r2.1.length:Int)≠(r2.2.1.length:Int) then (
   some true)
  else
  if (r0.1.volume.parts.length:Int)=0 then (
   some true)
  else
  bW (0≤((r0.1.volume.parts.length:Int) - 1)) <|
  (r0.1.volume.parts[((r0.1.volume.parts.length:Int) - 1).toNat]?).bind fun x4 =>
  if (x4.paragraphs.length:Int)=0 then (
   some true)
  else
  if r0.1.moved then (
   some true)
  else
  bW (-9223372036854775808≤((r0.1.motion.words.length:Int)+(r0.1.choice.length:Int))∧((r0.1.motion.words.length:Int)+(r0.1.choice.length:Int))≤9223372036854775807) <|
  some (decide (((r0.1.motion.words.length:Int)+(r0.1.choice.length:Int))≠0))
 ):Option (Bool)).bind fun t3 =>
 if t3 then (
  some false)
 else
 (bD (NX r2 r1) (0,[])).bind fun eA1=>match eA1 with
 | .inr z=>some z
 | .inl t4 =>
 bW (0≤((r0.1.volume.parts.length:Int) - 1)) <|
 (r0.1.volume.parts[((r0.1.volume.parts.length:Int) - 1).toNat]?).bind fun x0 =>
 bW (0≤((x0.paragraphs.length:Int) - 1)) <|
 (x0.paragraphs[((x0.paragraphs.length:Int) - 1).toNat]?).bind fun x1 =>
 ((
  if x0.day=r0.1.day then (
   (r3.2.1[0]?).bind fun x5 =>
   if x1.anchor=x5 then (
    if x1.text=t4 then (
     (m8).bind fun rC1 =>
     some rC1)
    else
    some false)
   else
   some false)
  else
  some false
 ):Option (Bool)).bind fun t5 =>
 some t5
def m71 (aq:Int) (cc:Int→Option Bool):Option (Bool) :=
 (cc aq).bind fun r1 =>
 some (!r1)
def m39 (bw:List UInt8) (right:Int→Option Bool):Option (Bool) :=
 (NR bw (fun x0_=>m71 x0_ right)).bind fun r5 =>
 some (!r5)
def m40 (ar:Int):Option (Bool) :=
 some (decide (ar≤2))
def TB (votes:List UInt8) (r0:cU×Int) (s1:Nat×aY):Option ((Nat×aY)⊕((aY)⊕(dT×Int×Int))) :=
 if (s1.1:Int) < (votes.length:Int) then (
  (votes[s1.1]?).bind fun x0 =>
  (r0.1.may[s1.1]?).bind fun x1 =>
  (QC x1 (x0.toNat:Int)).bind fun r1 =>
  if r1 then (
   bW ((s1.1:Int) < 40) <|
   some (.inl ((s1.1+1),(aY.set s1.2 s1.1 (x0.toNat:Int)))))
  else
  some (.inr (.inr ((⟨0,0⟩:dT),0,7))))
 else
 some (.inr (.inl s1.2))
def m15 (bb:aV) (votes:List UInt8):Option (dT×Int×Int) :=
 (NT bb).bind fun r7 =>
 if r7 then (
  ((
   if (votes.length:Int)≠bb.members then (
    some true)
   else
   (m39 votes (m40)).bind fun r2 =>
   some (!r2)
  ):Option (Bool)).bind fun t0 =>
  if t0 then (
   some ((⟨0,0⟩:dT),0,2))
  else
  (PZ bb).bind fun r0 =>
  if r0.2≠0 then (
   some ((⟨0,0⟩:dT),0,r0.2))
  else
  (bD (TB votes r0) (0,aY.zero)).bind fun eA1=>match eA1 with
  | .inr z=>some z
  | .inl t1 =>
  (QA r0.1 t1).bind fun r1 =>
  (QB r0.1 r1).bind fun r3 =>
  some (r1,r3,0))
 else
 some ((⟨0,0⟩:dT),0,1)
def YQ (k_0:Int) (cc:List aE) (ey:Int):Option (Bool) :=
 bW (-9223372036854775808≤(ey+1)∧(ey+1)≤9223372036854775807) <|
 bW (0≤(ey+1)) <|
 bW ((ey+1).toNat≤cc.length) <|
 (NS (cc.take ((ey+1).toNat))).bind fun r10 =>
 bW (-9223372036854775808≤(k_0+1)∧(k_0+1)≤9223372036854775807) <|
 bW (0≤k_0∧k_0≤(k_0+1)∧(k_0+1)≤(r10.length:Int)) <|
 (NW (r10.take k_0.toNat++r10.drop ((k_0+1).toNat))).bind fun r0 =>
 bW (-9223372036854775808≤(ey - 1)∧(ey - 1)≤9223372036854775807) <|
 bW (0≤(ey - 1)) <|
 (r0.2[(ey - 1).toNat]?).bind fun x0 =>
 some (decide (x0=0))
def FG (line:Int) (r0:aH×List Int) (lines:List aE) (s1:Nat×List Int):Option ((Nat×List Int)⊕(List Int)) :=
 if (s1.1:Int) < line then (
  ((
   bW (0≤line) <|
   (r0.2[line.toNat]?).bind fun x0 =>
   if x0≠0 then (
    (r0.2[s1.1]?).bind fun x1 =>
    if x1=0 then (
     (YQ (s1.1:Int) lines line).bind fun r1 =>
     some r1)
    else
    some false)
   else
   some false
  ):Option (Bool)).bind fun t0 =>
  ((
   if t0 then (
    bW (s1.2.length+1≤1073741824) <|
    some (s1.2++[(s1.1:Int)]))
   else
   some s1.2
  ):Option (List Int)).bind fun t1 =>
  bW (-9223372036854775808≤((s1.1:Int)+1)∧((s1.1:Int)+1)≤9223372036854775807) <|
  some (.inl ((s1.1+1),t1)))
 else
 some (.inr s1.2)
def m16 (lines:List aE) (line:Int):Option (List Int×Int) :=
 (NQ lines).bind fun r7 =>
 if r7≠0 then (
  some (([]:List Int),r7))
 else
 (tN line 0 ((lines.length:Int) - 1)).bind fun r0 =>
 if r0 then (
  bW (-9223372036854775808≤(line+1)∧(line+1)≤9223372036854775807) <|
  bW (0≤(line+1)) <|
  bW ((line+1).toNat≤lines.length) <|
  (NW (lines.take ((line+1).toNat))).bind fun r1 =>
  (bD (FG line r1 lines) (0,([]:List Int))).bind fun eA1 =>
  some (eA1,0))
 else
 some (([]:List Int),2)
end
end T12
namespace T12
open Go.Proofs
abbrev C10:=@Tryz.call10
abbrev YR:=@Tryz.call100
abbrev YS:=@Tryz.call101
abbrev FH:=@Tryz.call102
abbrev YT:=@Tryz.call103
abbrev YU:=@Tryz.call104
abbrev YV:=@Tryz.call105
abbrev YW:=@Tryz.call106
abbrev YX:=@Tryz.call107
abbrev NY:=@Tryz.call108
abbrev C11:=@Tryz.call11
abbrev YY:=@Tryz.call110
abbrev NZ:=@Tryz.call111
abbrev YZ:=@Tryz.call112
abbrev ZA:=@Tryz.call113
abbrev ZB:=@Tryz.call114
abbrev ZC:=@Tryz.call115
abbrev ZD:=@Tryz.call116
abbrev ZE:=@Tryz.call117
abbrev ZF:=@Tryz.call118
abbrev ZG:=@Tryz.call119
abbrev ZH:=@Tryz.call12
abbrev ZI:=@Tryz.call120
abbrev ZJ:=@Tryz.call121
abbrev ZK:=@Tryz.call122
abbrev ZL:=@Tryz.call123
abbrev ZM:=@Tryz.call124
abbrev ZN:=@Tryz.call125
abbrev ZO:=@Tryz.call126
abbrev ZP:=@Tryz.call127
abbrev ZQ:=@Tryz.call128
abbrev ZR:=@Tryz.call129
abbrev C13:=@Tryz.call13
abbrev FI:=@Tryz.call130
abbrev ZS:=@Tryz.call131
abbrev ZT:=@Tryz.call132
abbrev TC:=@Tryz.call133
abbrev TD:=@Tryz.call134
abbrev ZU:=@Tryz.call135
abbrev ZV:=@Tryz.call136
abbrev ZW:=@Tryz.call137
abbrev TE:=@Tryz.call138
abbrev ZX:=@Tryz.call139
abbrev ZY:=@Tryz.call140
abbrev ZZ:=@Tryz.call141
abbrev aAa:=@Tryz.call142
abbrev aAb:=@Tryz.call143
abbrev aAc:=@Tryz.call144
abbrev TF:=@Tryz.call158
abbrev aAd:=@Tryz.call159
abbrev aAe:=@Tryz.call160
abbrev aAf:=@Tryz.call161
abbrev aAg:=@Tryz.call162
abbrev aAh:=@Tryz.call163
abbrev TH:=@Tryz.call164
abbrev aAi:=@Tryz.call166
abbrev aAj:=@Tryz.call167
abbrev iV:=@Tryz.call168
abbrev OA:=@Tryz.call169
abbrev C17:=@Tryz.call17
abbrev OB:=@Tryz.call170
abbrev AC:=@Tryz.call171
abbrev aAk:=@Tryz.call172
abbrev aAl:=@Tryz.call173
abbrev TI:=@Tryz.call174
abbrev aAm:=@Tryz.call175
abbrev aAn:=@Tryz.call176
abbrev JH:=@Tryz.call177
abbrev FJ:=@Tryz.call178
abbrev FK:=@Tryz.call179
abbrev C18:=@Tryz.call18
abbrev FL:=@Tryz.call180
abbrev aAo:=@Tryz.call181
abbrev aAp:=@Tryz.call182
abbrev TJ:=@Tryz.call183
abbrev aAq:=@Tryz.call184
abbrev aAr:=@Tryz.call185
abbrev aAs:=@Tryz.call189
abbrev C19:=@Tryz.call19
abbrev aAt:=@Tryz.call190
abbrev aAu:=@Tryz.call191
abbrev aAv:=@Tryz.call192
abbrev aAw:=@Tryz.call193
abbrev aAx:=@Tryz.call198
abbrev aAy:=@Tryz.call199
abbrev C20:=@Tryz.call20
abbrev aAz:=@Tryz.call204
abbrev JI:=@Tryz.call205
abbrev aA0:=@Tryz.call206
abbrev aA1:=@Tryz.call207
abbrev aA2:=@Tryz.call208
abbrev OC:=@Tryz.call209
abbrev C21:=@Tryz.call21
abbrev AD:=@Tryz.call210
abbrev OD:=@Tryz.call211
abbrev aA3:=@Tryz.call212
abbrev OE:=@Tryz.call213
abbrev TK:=@Tryz.call214
abbrev aA4:=@Tryz.call215
abbrev aA5:=@Tryz.call216
abbrev aA6:=@Tryz.call217
abbrev TL:=@Tryz.call218
abbrev C22:=@Tryz.call22
abbrev aA7:=@Tryz.call221
abbrev aA8:=@Tryz.call222
abbrev aA9:=@Tryz.call223
abbrev aBa:=@Tryz.call225
abbrev C23:=@Tryz.call23
abbrev aBb:=@Tryz.call235
abbrev aBc:=@Tryz.call236
abbrev C24:=@Tryz.call24
abbrev xF:=@Tryz.call240
abbrev aBd:=@Tryz.call241
abbrev aBe:=@Tryz.call242
abbrev OF:=@Tryz.call243
abbrev OH:=@Tryz.call244
abbrev JJ:=@Tryz.call245
abbrev aBf:=@Tryz.call246
abbrev aBg:=@Tryz.call247
abbrev aBh:=@Tryz.call248
abbrev TM:=@Tryz.call249
abbrev C25:=@Tryz.call25
abbrev aBi:=@Tryz.call250
abbrev JK:=@Tryz.call251
abbrev C26:=@Tryz.call26
abbrev aBj:=@Tryz.call262
abbrev aBk:=@Tryz.call263
abbrev aBl:=@Tryz.call264
abbrev aBm:=@Tryz.call265
abbrev aBn:=@Tryz.call266
abbrev aBo:=@Tryz.call267
abbrev TN:=@Tryz.call268
abbrev OI:=@Tryz.call269
abbrev C27:=@Tryz.call27
abbrev OJ:=@Tryz.call270
abbrev aBp:=@Tryz.call271
abbrev aBq:=@Tryz.call272
abbrev aBr:=@Tryz.call273
abbrev aBs:=@Tryz.call274
abbrev C28:=@Tryz.call28
abbrev aBt:=@Tryz.call284
abbrev aBu:=@Tryz.call285
abbrev aBv:=@Tryz.call286
abbrev aBw:=@Tryz.call288
abbrev TO:=@Tryz.call289
abbrev C29:=@Tryz.call29
abbrev WN:=@Tryz.call30
abbrev C31:=@Tryz.call31
abbrev C32:=@Tryz.call32
abbrev C33:=@Tryz.call33
abbrev C34:=@Tryz.call34
abbrev C35:=@Tryz.call35
abbrev C36:=@Tryz.call36
abbrev C38:=@Tryz.call38
abbrev C41:=@Tryz.call41
abbrev FM:=@Tryz.call42
abbrev C45:=@Tryz.call45
abbrev C46:=@Tryz.call46
abbrev C47:=@Tryz.call47
abbrev C48:=@Tryz.call48
abbrev C49:=@Tryz.call49
abbrev C50:=@Tryz.call50
abbrev QF:=@Tryz.call51
abbrev C52:=@Tryz.call52
abbrev C53:=@Tryz.call53
abbrev C54:=@Tryz.call54
abbrev C55:=@Tryz.call55
abbrev C56:=@Tryz.call56
abbrev C57:=@Tryz.call57
abbrev C58:=@Tryz.call58
abbrev C59:=@Tryz.call59
abbrev C6:=@Tryz.call6
abbrev WO:=@Tryz.call60
abbrev WP:=@Tryz.call61
abbrev C62:=@Tryz.call62
abbrev C63:=@Tryz.call63
abbrev C64:=@Tryz.call64
abbrev C65:=@Tryz.call65
abbrev WQ:=@Tryz.call66
abbrev C67:=@Tryz.call67
abbrev C68:=@Tryz.call68
abbrev C69:=@Tryz.call69
abbrev C7:=@Tryz.call7
abbrev C70:=@Tryz.call70
abbrev C72:=@Tryz.call72
abbrev C73:=@Tryz.call73
abbrev C74:=@Tryz.call74
abbrev C75:=@Tryz.call75
abbrev C77:=@Tryz.call77
abbrev C78:=@Tryz.call78
abbrev eN:=@Tryz.call79
abbrev C8:=@Tryz.call8
abbrev C80:=@Tryz.call80
abbrev C81:=@Tryz.call81
abbrev C82:=@Tryz.call82
abbrev C84:=@Tryz.call84
abbrev C85:=@Tryz.call85
abbrev C86:=@Tryz.call86
abbrev C87:=@Tryz.call87
abbrev C88:=@Tryz.call88
abbrev C9:=@Tryz.call9
abbrev C94:=@Tryz.call94
abbrev C98:=@Tryz.call98
abbrev C99:=@Tryz.call99
abbrev xG:=@Tryz.isAgg104
abbrev TP:=@Tryz.isAgg110
abbrev aBy:=@Tryz.isAgg113
abbrev aBz:=@Tryz.isAgg116
abbrev aB0:=@Tryz.isAgg119
abbrev aB1:=@Tryz.isAgg122
abbrev OL:=@Tryz.isAgg128
abbrev FN:=@Tryz.isAgg129
abbrev OM:=@Tryz.isAgg130
abbrev JL:=@Tryz.isAgg137
abbrev aB2:=@Tryz.isAgg143
abbrev aB3:=@Tryz.isAgg152
abbrev xH:=@Tryz.isAgg162
abbrev xI:=@Tryz.isAgg164
abbrev TQ:=@Tryz.isAgg167
abbrev AE:=@Tryz.isAgg180
abbrev ON:=@Tryz.isAgg182
abbrev aB4:=@Tryz.isAgg184
abbrev mA:=@Tryz.isAgg217
abbrev uM:=@Tryz.isAgg22
abbrev aB5:=@Tryz.isAgg226
abbrev AF:=@Tryz.isAgg25
abbrev aB6:=@Tryz.isAgg259
abbrev xJ:=@Tryz.isAgg260
abbrev AG:=@Tryz.isAgg265
abbrev rN:=@Tryz.isAgg266
abbrev oZ:=@Tryz.isAgg267
abbrev mG:=@Tryz.isAgg27
abbrev QG:=@Tryz.isAgg28
abbrev G29:=@Tryz.isAgg29
abbrev aB7:=@Tryz.isAgg296
abbrev aB8:=@Tryz.isAgg299
abbrev G3:=@Tryz.isAgg3
abbrev AH:=@Tryz.isAgg30
abbrev OO:=@Tryz.isAgg306
abbrev nB:=@Tryz.isAgg32
abbrev qI:=@Tryz.isAgg33
abbrev G34:=@Tryz.isAgg34
abbrev WR:=@Tryz.isAgg35
abbrev WS:=@Tryz.isAgg36
abbrev nK:=@Tryz.isAgg38
abbrev AW:=@Tryz.isAgg39
abbrev G4:=@Tryz.isAgg4
abbrev G41:=@Tryz.isAgg41
abbrev rX:=@Tryz.isAgg43
abbrev TR:=@Tryz.isAgg49
abbrev G5:=@Tryz.isAgg5
abbrev QH:=@Tryz.isAgg52
abbrev WT:=@Tryz.isAgg54
abbrev AX:=@Tryz.isAgg58
abbrev TS:=@Tryz.isAgg66
abbrev WU:=@Tryz.isAgg86
abbrev G9:=@Tryz.isAgg9
abbrev yV:=@Tryz.isAgg92
abbrev yW:=@Tryz.isAgg97
abbrev uN:=@Tryz.sizeOf104
abbrev aCb:=@Tryz.sizeOf119
abbrev TT:=@Tryz.sizeOf129
abbrev OP:=@Tryz.sizeOf130
abbrev OQ:=@Tryz.sizeOf132
abbrev rO:=@Tryz.sizeOf137
abbrev aCc:=@Tryz.sizeOf152
abbrev aCd:=@Tryz.sizeOf154
abbrev xK:=@Tryz.sizeOf162
abbrev jD:=@Tryz.sizeOf164
abbrev aCe:=@Tryz.sizeOf167
abbrev TU:=@Tryz.sizeOf180
abbrev xL:=@Tryz.sizeOf182
abbrev iF:=@Tryz.sizeOf217
abbrev xM:=@Tryz.sizeOf22
abbrev aCf:=@Tryz.sizeOf226
abbrev xN:=@Tryz.sizeOf25
abbrev OR:=@Tryz.sizeOf257
abbrev OS:=@Tryz.sizeOf259
abbrev aCg:=@Tryz.sizeOf260
abbrev jK:=@Tryz.sizeOf265
abbrev pA:=@Tryz.sizeOf266
abbrev nC:=@Tryz.sizeOf267
abbrev iH:=@Tryz.sizeOf27
abbrev TV:=@Tryz.sizeOf28
abbrev WV:=@Tryz.sizeOf29
abbrev Z3:=@Tryz.sizeOf3
abbrev xO:=@Tryz.sizeOf30
abbrev OT:=@Tryz.sizeOf306
abbrev OU:=@Tryz.sizeOf308
abbrev jM:=@Tryz.sizeOf32
abbrev nY:=@Tryz.sizeOf33
abbrev GR:=@Tryz.sizeOf34
abbrev QI:=@Tryz.sizeOf35
abbrev WW:=@Tryz.sizeOf36
abbrev iI:=@Tryz.sizeOf38
abbrev AI:=@Tryz.sizeOf39
abbrev Z4:=@Tryz.sizeOf4
abbrev eH:=@Tryz.sizeOf41
abbrev AJ:=@Tryz.sizeOf43
abbrev WX:=@Tryz.sizeOf49
abbrev Z5:=@Tryz.sizeOf5
abbrev LI:=@Tryz.sizeOf52
abbrev rY:=@Tryz.sizeOf54
abbrev Z56:=@Tryz.sizeOf56
abbrev kX:=@Tryz.sizeOf58
abbrev QJ:=@Tryz.sizeOf66
abbrev Z86:=@Tryz.sizeOf86
abbrev Z9:=@Tryz.sizeOf9
abbrev mB:=@Tryz.sizeOf92
abbrev TW:=@Tryz.sizeOf94
abbrev QK:=@Tryz.sizeOf95
abbrev nZ:=@Tryz.sizeOf97
abbrev AK:=@Tryz.underlying104
abbrev rP:=@Tryz.underlying119
abbrev OV:=@Tryz.underlying132
abbrev JM:=@Tryz.underlying133
abbrev pB:=@Tryz.underlying137
abbrev TX:=@Tryz.underlying142
abbrev aCh:=@Tryz.underlying149
abbrev OW:=@Tryz.underlying154
abbrev jY:=@Tryz.underlying156
abbrev uO:=@Tryz.underlying160
abbrev mC:=@Tryz.underlying164
abbrev aCi:=@Tryz.underlying178
abbrev kJ:=@Tryz.underlying180
abbrev pP:=@Tryz.underlying182
abbrev aCj:=@Tryz.underlying190
abbrev TY:=@Tryz.underlying208
abbrev fW:=@Tryz.underlying217
abbrev jL:=@Tryz.underlying22
abbrev uP:=@Tryz.underlying25
abbrev TZ:=@Tryz.underlying254
abbrev OX:=@Tryz.underlying257
abbrev FO:=@Tryz.underlying259
abbrev nD:=@Tryz.underlying265
abbrev nE:=@Tryz.underlying266
abbrev lE:=@Tryz.underlying267
abbrev nL:=@Tryz.underlying269
abbrev mD:=@Tryz.underlying27
abbrev AY:=@Tryz.underlying28
abbrev U29:=@Tryz.underlying29
abbrev U3:=@Tryz.underlying3
abbrev rZ:=@Tryz.underlying30
abbrev OY:=@Tryz.underlying308
abbrev OZ:=@Tryz.underlying309
abbrev sA:=@Tryz.underlying32
abbrev eJ:=@Tryz.underlying33
abbrev LJ:=@Tryz.underlying34
abbrev QL:=@Tryz.underlying35
abbrev PA:=@Tryz.underlying36
abbrev jV:=@Tryz.underlying38
abbrev kY:=@Tryz.underlying39
abbrev U4:=@Tryz.underlying4
abbrev eE:=@Tryz.underlying41
abbrev UA:=@Tryz.underlying42
abbrev U49:=@Tryz.underlying49
abbrev U5:=@Tryz.underlying5
abbrev xP:=@Tryz.underlying52
abbrev yX:=@Tryz.underlying54
abbrev U56:=@Tryz.underlying56
abbrev xQ:=@Tryz.underlying58
abbrev U64:=@Tryz.underlying64
abbrev qJ:=@Tryz.underlying66
abbrev eT:=@Tryz.underlying81
abbrev U9:=@Tryz.underlying9
abbrev jW:=@Tryz.underlying92
abbrev UB:=@Tryz.underlying94
abbrev QM:=@Tryz.underlying95
abbrev nM:=@Tryz.underlying97
end T12
