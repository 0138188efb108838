/-
  The types and models of the functions of a session,printed by a program of ours;contracts of library functions.
-/
import Derived.Shelf.Strings.Cut
import Derived.Shelf.Strings.Search3
import Derived.Shelf.Strings.Prefix
import Derived.Shelf.Strings.Runes
import Derived.Shelf.Strings.OnBuilder
import Derived.Shelf.Strings.FieldsFuncAny
import Derived.Shelf.Strings.BuilderF
import Derived.Shelf.Small.Strs
import Derived.Shelf.Small.Wraps
import Derived.Shelf.Strconv.AtoiAll
import Derived.Shelf.Strconv.Itoa3
import Derived.Shelf.SlSortCmp.NoneTotal
import Derived.Shelf.LaysM
import Derived.Shelf.LaysC
import Derived.Test.YtaandmcgkjciiaaGreatDoorKitSix
import Derived.Test.YtaandmcgkjciiaaGreatDoorProg
import Derived.Shelf.Spec.SlicesInsert
import Derived.Lib.AppendZerosOnto
import Derived.Laws.NewBlocks
import Derived.Laws.CopyRow
import Derived.Recover
import Derived.Tactics
import Derived.Tactics2
import Derived.Shelf.Slices.Delete
import Derived.Shelf.Slices.Empties
set_option linter.all false
set_option maxHeartbeats 4000000
namespace Go.Proofs
open Go.Shelf Go.RowKit
def Tryz.laysC172_ren:Go.Shelf.Ren:=⟨fun | 172=>127 | 244=>186 | 245=>187 | 247=>229 | 279=>230 | 280=>231 | 281=>232 | 282=>233 | 287=>255 | 316=>256 | 171=>128 | 205=>257 | 321=>278 | 322=>279 | 243=>188 | 246=>234 | 283=>258 | 284=>259 | 285=>260 | 286=>261 | 129=>98 | 317=>280 | 318=>281 | 319=>282 | 320=>283 | 337=>292 | 338=>293 | n=>n,fun | 9=>9 | 3=>3 | 75=>190 | 76=>191 | 4=>4 | 5=>5 | 167=>284 | 37=>39 | 0=>0 | 85=>285 | 2=>2 | 168=>287 | 53=>178 | 175=>315 | 46=>64 | 210=>318 | 127=>314 | 145=>334 | 143=>332 | 21=>21 | 171=>320 | 173=>322 | 212=>336 | 51=>60 | 20=>20 | 213=>337 | 232=>350 | 233=>351 | 80=>283 | n=>n,fun | 15=>1 | 16=>2 | 17=>3 | 18=>4 | 19=>5 | n=>n⟩
theorem Tryz.laysC172:Go.Proofs.LaysC.n172 Tryz.prog Tryz.laysC172_ren:={
 mixed:=by kernel_rfl
 f129:=Tryz.func98.trans (congrArg some (by kernel_rfl))
 f171:=Tryz.func128.trans (congrArg some (by kernel_rfl))
 f172:=Tryz.func127.trans (congrArg some (by kernel_rfl))
 f205:=Tryz.func257.trans (congrArg some (by kernel_rfl))
 f243:=Tryz.func188.trans (congrArg some (by kernel_rfl))
 f244:=Tryz.func186.trans (congrArg some (by kernel_rfl))
 f245:=Tryz.func187.trans (congrArg some (by kernel_rfl))
 f246:=Tryz.func234.trans (congrArg some (by kernel_rfl))
 f247:=Tryz.func229.trans (congrArg some (by kernel_rfl))
 f279:=Tryz.func230.trans (congrArg some (by kernel_rfl))
 f280:=Tryz.func231.trans (congrArg some (by kernel_rfl))
 f281:=Tryz.func232.trans (congrArg some (by kernel_rfl))
 f282:=Tryz.func233.trans (congrArg some (by kernel_rfl))
 f283:=Tryz.func258.trans (congrArg some (by kernel_rfl))
 f284:=Tryz.func259.trans (congrArg some (by kernel_rfl))
 f285:=Tryz.func260.trans (congrArg some (by kernel_rfl))
 f286:=Tryz.func261.trans (congrArg some (by kernel_rfl))
 f287:=Tryz.func255.trans (congrArg some (by kernel_rfl))
 f316:=Tryz.func256.trans (congrArg some (by kernel_rfl))
 f317:=Tryz.func280.trans (congrArg some (by kernel_rfl))
 f318:=Tryz.func281.trans (congrArg some (by kernel_rfl))
 f319:=Tryz.func282.trans (congrArg some (by kernel_rfl))
 f320:=Tryz.func283.trans (congrArg some (by kernel_rfl))
 f321:=Tryz.func278.trans (congrArg some (by kernel_rfl))
 f322:=Tryz.func279.trans (congrArg some (by kernel_rfl))
 f337:=Tryz.func292.trans (congrArg some (by kernel_rfl))
 f338:=Tryz.func293.trans (congrArg some (by kernel_rfl))
 t0:=Tryz.underlying0
 a0:=Tryz.isAgg0
 z0:=Tryz.sizeOf0
 v0:=Tryz.zeroValue0
 t2:=Tryz.underlying2
 a2:=Tryz.isAgg2
 z2:=Tryz.sizeOf2
 v2:=Tryz.zeroValue2
 t3:=Tryz.underlying3
 a3:=Tryz.isAgg3
 z3:=Tryz.sizeOf3
 v3:=Tryz.zeroValue3
 t4:=Tryz.underlying4
 a4:=Tryz.isAgg4
 z4:=Tryz.sizeOf4
 v4:=Tryz.zeroValue4
 t5:=Tryz.underlying5
 a5:=Tryz.isAgg5
 z5:=Tryz.sizeOf5
 v5:=Tryz.zeroValue5
 t9:=Tryz.underlying9
 a9:=Tryz.isAgg9
 z9:=Tryz.sizeOf9
 v9:=Tryz.zeroValue9
 t20:=Tryz.underlying20
 a20:=Tryz.isAgg20
 z20:=Tryz.sizeOf20
 v20:=Tryz.zeroValue20
 t21:=Tryz.underlying21
 a21:=Tryz.isAgg21
 z21:=Tryz.sizeOf21
 v21:=Tryz.zeroValue21
 t37:=Tryz.underlying39
 a37:=Tryz.isAgg39
 z37:=Tryz.sizeOf39
 v37:=Tryz.zeroValue39
 t46:=Tryz.underlying64
 a46:=Tryz.isAgg64
 z46:=Tryz.sizeOf64
 v46:=Tryz.zeroValue64
 t51:=Tryz.underlying60
 a51:=Tryz.isAgg60
 z51:=Tryz.sizeOf60
 v51:=Tryz.zeroValue60
 t53:=Tryz.underlying178
 a53:=Tryz.isAgg178
 z53:=Tryz.sizeOf178
 v53:=Tryz.zeroValue178
 t75:=Tryz.underlying190
 a75:=Tryz.isAgg190
 z75:=Tryz.sizeOf190
 v75:=Tryz.zeroValue190
 t76:=Tryz.underlying191
 a76:=Tryz.isAgg191
 z76:=Tryz.sizeOf191
 v76:=Tryz.zeroValue191
 t85:=Tryz.underlying285
 a85:=Tryz.isAgg285
 z85:=Tryz.sizeOf285
 v85:=Tryz.zeroValue285
 t127:=Tryz.underlying314
 a127:=Tryz.isAgg314
 z127:=Tryz.sizeOf314
 v127:=Tryz.zeroValue314
 t143:=Tryz.underlying332
 a143:=Tryz.isAgg332
 z143:=Tryz.sizeOf332
 v143:=Tryz.zeroValue332
 t145:=Tryz.underlying334
 a145:=Tryz.isAgg334
 z145:=Tryz.sizeOf334
 v145:=Tryz.zeroValue334
 t167:=Tryz.underlying284
 a167:=Tryz.isAgg284
 z167:=Tryz.sizeOf284
 v167:=Tryz.zeroValue284
 t168:=Tryz.underlying287
 a168:=Tryz.isAgg287
 z168:=Tryz.sizeOf287
 v168:=Tryz.zeroValue287
 t171:=Tryz.underlying320
 a171:=Tryz.isAgg320
 z171:=Tryz.sizeOf320
 v171:=Tryz.zeroValue320
 t173:=Tryz.underlying322
 a173:=Tryz.isAgg322
 z173:=Tryz.sizeOf322
 v173:=Tryz.zeroValue322
 t175:=Tryz.underlying315
 a175:=Tryz.isAgg315
 z175:=Tryz.sizeOf315
 v175:=Tryz.zeroValue315
 t210:=Tryz.underlying318
 a210:=Tryz.isAgg318
 z210:=Tryz.sizeOf318
 v210:=Tryz.zeroValue318
 t212:=Tryz.underlying336
 a212:=Tryz.isAgg336
 z212:=Tryz.sizeOf336
 v212:=Tryz.zeroValue336
 t213:=Tryz.underlying337
 a213:=Tryz.isAgg337
 z213:=Tryz.sizeOf337
 t232:=Tryz.underlying350
 a232:=Tryz.isAgg350
 z232:=Tryz.sizeOf350
 v232:=Tryz.zeroValue350
 t233:=Tryz.underlying351
 a233:=Tryz.isAgg351
 z233:=Tryz.sizeOf351
 v233:=Tryz.zeroValue351
 g15:=by kernel_rfl
 g16:=by kernel_rfl
 g17:=by kernel_rfl
 g18:=by kernel_rfl
 g19:=by kernel_rfl
 t80:=Tryz.underlying283
 a80:=Tryz.isAgg283
 z80:=Tryz.sizeOf283
 v80:=Tryz.zeroValue283
 i0:=by kernel_rfl
 i2:=by kernel_rfl
 i3:=by kernel_rfl
 i4:=by kernel_rfl
 i5:=by kernel_rfl
 i9:=by kernel_rfl
 i20:=by kernel_rfl
 i21:=by kernel_rfl
 i37:=by kernel_rfl
 i46:=by kernel_rfl
 i51:=by kernel_rfl
 i53:=by kernel_rfl
 i75:=by kernel_rfl
 i76:=by kernel_rfl
 i80:=by kernel_rfl
 i85:=by kernel_rfl
 i127:=by kernel_rfl
 i143:=by kernel_rfl
 i145:=by kernel_rfl
 i167:=by kernel_rfl
 i168:=by kernel_rfl
 i171:=by kernel_rfl
 i173:=by kernel_rfl
 i175:=by kernel_rfl
 i210:=by kernel_rfl
 i212:=by kernel_rfl
 i232:=by kernel_rfl
 i233:=by kernel_rfl
 m15:=by kernel_rfl
 m16:=by kernel_rfl
 m17:=by kernel_rfl
 m18:=by kernel_rfl
 m19:=by kernel_rfl
 c0:=by kernel_rfl
 c2:=by kernel_rfl
 c3:=by kernel_rfl
 c4:=by kernel_rfl
 c5:=by kernel_rfl
 c9:=by kernel_rfl
 c20:=by kernel_rfl
 c21:=by kernel_rfl
 c37:=by kernel_rfl
 c46:=by kernel_rfl
 c51:=by kernel_rfl
 c53:=by kernel_rfl
 c75:=by kernel_rfl
 c76:=by kernel_rfl
 c80:=by kernel_rfl
 c85:=by kernel_rfl
 c127:=by kernel_rfl
 c143:=by kernel_rfl
 c145:=by kernel_rfl
 c167:=by kernel_rfl
 c168:=by kernel_rfl
 c171:=by kernel_rfl
 c173:=by kernel_rfl
 c175:=by kernel_rfl
 c210:=by kernel_rfl
 c212:=by kernel_rfl
 c213:=by kernel_rfl
 c232:=by kernel_rfl
 c233:=by kernel_rfl }
def Tryz.laysM171_ren:Go.Shelf.Ren:=⟨fun | 171=>128 | 243=>188 | 246=>234 | 283=>258 | 284=>259 | 285=>260 | 286=>261 | 129=>98 | 317=>280 | 318=>281 | 319=>282 | 320=>283 | 337=>292 | 338=>293 | n=>n,fun | 3=>3 | 9=>9 | 2=>2 | 4=>4 | 171=>320 | 0=>0 | 53=>178 | 37=>39 | 5=>5 | 173=>322 | 212=>336 | 51=>60 | 20=>20 | 213=>337 | 46=>64 | 232=>350 | 233=>351 | n=>n,fun | 17=>3 | 18=>4 | 19=>5 | n=>n⟩
theorem Tryz.laysM171:Go.Proofs.LaysM.n171 Tryz.prog Tryz.laysM171_ren:={
 mixed:=by kernel_rfl
 f129:=Tryz.func98.trans (congrArg some (by kernel_rfl))
 f171:=Tryz.func128.trans (congrArg some (by kernel_rfl))
 f243:=Tryz.func188.trans (congrArg some (by kernel_rfl))
 f246:=Tryz.func234.trans (congrArg some (by kernel_rfl))
 f283:=Tryz.func258.trans (congrArg some (by kernel_rfl))
 f284:=Tryz.func259.trans (congrArg some (by kernel_rfl))
 f285:=Tryz.func260.trans (congrArg some (by kernel_rfl))
 f286:=Tryz.func261.trans (congrArg some (by kernel_rfl))
 f317:=Tryz.func280.trans (congrArg some (by kernel_rfl))
 f318:=Tryz.func281.trans (congrArg some (by kernel_rfl))
 f319:=Tryz.func282.trans (congrArg some (by kernel_rfl))
 f320:=Tryz.func283.trans (congrArg some (by kernel_rfl))
 f337:=Tryz.func292.trans (congrArg some (by kernel_rfl))
 f338:=Tryz.func293.trans (congrArg some (by kernel_rfl))
 t0:=Tryz.underlying0
 a0:=Tryz.isAgg0
 z0:=Tryz.sizeOf0
 v0:=Tryz.zeroValue0
 t2:=Tryz.underlying2
 a2:=Tryz.isAgg2
 z2:=Tryz.sizeOf2
 v2:=Tryz.zeroValue2
 t3:=Tryz.underlying3
 a3:=Tryz.isAgg3
 z3:=Tryz.sizeOf3
 v3:=Tryz.zeroValue3
 t4:=Tryz.underlying4
 a4:=Tryz.isAgg4
 z4:=Tryz.sizeOf4
 v4:=Tryz.zeroValue4
 t5:=Tryz.underlying5
 a5:=Tryz.isAgg5
 z5:=Tryz.sizeOf5
 v5:=Tryz.zeroValue5
 t9:=Tryz.underlying9
 a9:=Tryz.isAgg9
 z9:=Tryz.sizeOf9
 v9:=Tryz.zeroValue9
 t20:=Tryz.underlying20
 a20:=Tryz.isAgg20
 z20:=Tryz.sizeOf20
 v20:=Tryz.zeroValue20
 t37:=Tryz.underlying39
 a37:=Tryz.isAgg39
 z37:=Tryz.sizeOf39
 v37:=Tryz.zeroValue39
 t46:=Tryz.underlying64
 a46:=Tryz.isAgg64
 z46:=Tryz.sizeOf64
 v46:=Tryz.zeroValue64
 t51:=Tryz.underlying60
 a51:=Tryz.isAgg60
 z51:=Tryz.sizeOf60
 v51:=Tryz.zeroValue60
 t53:=Tryz.underlying178
 a53:=Tryz.isAgg178
 z53:=Tryz.sizeOf178
 v53:=Tryz.zeroValue178
 t171:=Tryz.underlying320
 a171:=Tryz.isAgg320
 z171:=Tryz.sizeOf320
 v171:=Tryz.zeroValue320
 t173:=Tryz.underlying322
 a173:=Tryz.isAgg322
 z173:=Tryz.sizeOf322
 v173:=Tryz.zeroValue322
 t212:=Tryz.underlying336
 a212:=Tryz.isAgg336
 z212:=Tryz.sizeOf336
 v212:=Tryz.zeroValue336
 t213:=Tryz.underlying337
 a213:=Tryz.isAgg337
 z213:=Tryz.sizeOf337
 t232:=Tryz.underlying350
 a232:=Tryz.isAgg350
 z232:=Tryz.sizeOf350
 v232:=Tryz.zeroValue350
 t233:=Tryz.underlying351
 a233:=Tryz.isAgg351
 z233:=Tryz.sizeOf351
 v233:=Tryz.zeroValue351
 g17:=by kernel_rfl
 g18:=by kernel_rfl
 g19:=by kernel_rfl
 i0:=by kernel_rfl
 i2:=by kernel_rfl
 i3:=by kernel_rfl
 i4:=by kernel_rfl
 i5:=by kernel_rfl
 i9:=by kernel_rfl
 i20:=by kernel_rfl
 i37:=by kernel_rfl
 i46:=by kernel_rfl
 i51:=by kernel_rfl
 i53:=by kernel_rfl
 i171:=by kernel_rfl
 i173:=by kernel_rfl
 i212:=by kernel_rfl
 i232:=by kernel_rfl
 i233:=by kernel_rfl
 m17:=by kernel_rfl
 m18:=by kernel_rfl
 m19:=by kernel_rfl }
def Tryz.lays145_ren:Go.Shelf.Ren:=⟨fun | 145=>77 | 220=>109 | 219=>165 | 217=>200 | 225=>201 | 224=>202 | 267=>203 | 266=>238 | 314=>239 | n=>n,fun | 9=>9 | 4=>4 | 59=>150 | 3=>3 | 5=>5 | 46=>64 | 146=>293 | 51=>60 | n=>n,fun | 1=>0 | n=>n⟩
theorem Tryz.lays145:Go.Proofs.Lays.n145 Tryz.prog Tryz.lays145_ren:={
 mixed:=by kernel_rfl
 f145:=Tryz.func77.trans (congrArg some (by kernel_rfl))
 f217:=Tryz.func200.trans (congrArg some (by kernel_rfl))
 f219:=Tryz.func165.trans (congrArg some (by kernel_rfl))
 f220:=Tryz.func109.trans (congrArg some (by kernel_rfl))
 f224:=Tryz.func202.trans (congrArg some (by kernel_rfl))
 f225:=Tryz.func201.trans (congrArg some (by kernel_rfl))
 f266:=Tryz.func238.trans (congrArg some (by kernel_rfl))
 f267:=Tryz.func203.trans (congrArg some (by kernel_rfl))
 f314:=Tryz.func239.trans (congrArg some (by kernel_rfl))
 t3:=Tryz.underlying3
 a3:=Tryz.isAgg3
 z3:=Tryz.sizeOf3
 v3:=Tryz.zeroValue3
 t4:=Tryz.underlying4
 a4:=Tryz.isAgg4
 z4:=Tryz.sizeOf4
 v4:=Tryz.zeroValue4
 t5:=Tryz.underlying5
 a5:=Tryz.isAgg5
 z5:=Tryz.sizeOf5
 v5:=Tryz.zeroValue5
 t9:=Tryz.underlying9
 a9:=Tryz.isAgg9
 z9:=Tryz.sizeOf9
 v9:=Tryz.zeroValue9
 t46:=Tryz.underlying64
 a46:=Tryz.isAgg64
 z46:=Tryz.sizeOf64
 v46:=Tryz.zeroValue64
 t51:=Tryz.underlying60
 a51:=Tryz.isAgg60
 z51:=Tryz.sizeOf60
 v51:=Tryz.zeroValue60
 t59:=Tryz.underlying150
 a59:=Tryz.isAgg150
 z59:=Tryz.sizeOf150
 v59:=Tryz.zeroValue150
 t146:=Tryz.underlying293
 a146:=Tryz.isAgg293
 z146:=Tryz.sizeOf293
 v146:=Tryz.zeroValue293
 g1:=by kernel_rfl }
def Tryz.lays229_ren:Go.Shelf.Ren:=⟨fun | 229=>223 | n=>n,fun | 9=>9 | 40=>278 | 31=>22 | 152=>311 | 3=>3 | 0=>0 | 4=>4 | 21=>21 | 154=>313 | n=>n,fun | n=>n⟩
theorem Tryz.lays229:Go.Proofs.Lays.n229 Tryz.prog Tryz.lays229_ren:={
 mixed:=by kernel_rfl
 f229:=Tryz.func223.trans (congrArg some (by kernel_rfl))
 t0:=Tryz.underlying0
 a0:=Tryz.isAgg0
 z0:=Tryz.sizeOf0
 v0:=Tryz.zeroValue0
 t3:=Tryz.underlying3
 a3:=Tryz.isAgg3
 z3:=Tryz.sizeOf3
 v3:=Tryz.zeroValue3
 t4:=Tryz.underlying4
 a4:=Tryz.isAgg4
 z4:=Tryz.sizeOf4
 v4:=Tryz.zeroValue4
 t9:=Tryz.underlying9
 a9:=Tryz.isAgg9
 z9:=Tryz.sizeOf9
 v9:=Tryz.zeroValue9
 t21:=Tryz.underlying21
 a21:=Tryz.isAgg21
 z21:=Tryz.sizeOf21
 v21:=Tryz.zeroValue21
 t31:=Tryz.underlying22
 a31:=Tryz.isAgg22
 z31:=Tryz.sizeOf22
 v31:=Tryz.zeroValue22
 t40:=Tryz.underlying278
 a40:=Tryz.isAgg278
 z40:=Tryz.sizeOf278
 v40:=Tryz.zeroValue278
 t152:=Tryz.underlying311
 a152:=Tryz.isAgg311
 z152:=Tryz.sizeOf311
 v152:=Tryz.zeroValue311
 t154:=Tryz.underlying313
 a154:=Tryz.isAgg313
 z154:=Tryz.sizeOf313
 v154:=Tryz.zeroValue313 }
def Tryz.laysF269_ren:Go.Shelf.Ren:=⟨fun | 6=>269 | 15=>65 | 14=>287 | 28=>97 | 29=>98 | 20=>294 | 21=>295 | 22=>296 | 23=>297 | 24=>298 | 25=>299 | 26=>300 | 27=>301 | 46=>303 | 47=>154 | 48=>155 | 49=>304 | 50=>305 | 57=>307 | n=>n,fun | 22=>28 | 24=>217 | 25=>325 | 3=>3 | 39=>64 | 0=>0 | 53=>60 | 55=>178 | 4=>4 | 46=>170 | 45=>169 | 50=>83 | 5=>5 | 9=>9 | 66=>200 | 70=>204 | 76=>240 | 77=>241 | n=>n,fun | n=>n⟩
theorem Tryz.laysF269:Go.Proofs.SlLaysF0.n6 Tryz.prog Tryz.laysF269_ren:={
 mixed:=by kernel_rfl
 f6:=⟨Tryz.f269.name,by decide,Tryz.func269.trans (congrArg some (by kernel_rfl))⟩
 f14:=⟨Tryz.f287.name,by decide,Tryz.func287.trans (congrArg some (by kernel_rfl))⟩
 f15:=Tryz.func65.trans (congrArg some (by kernel_rfl))
 f20:=⟨Tryz.f294.name,by decide,Tryz.func294.trans (congrArg some (by kernel_rfl))⟩
 f21:=⟨Tryz.f295.name,by decide,Tryz.func295.trans (congrArg some (by kernel_rfl))⟩
 f22:=⟨Tryz.f296.name,by decide,Tryz.func296.trans (congrArg some (by kernel_rfl))⟩
 f23:=⟨Tryz.f297.name,by decide,Tryz.func297.trans (congrArg some (by kernel_rfl))⟩
 f24:=⟨Tryz.f298.name,by decide,Tryz.func298.trans (congrArg some (by kernel_rfl))⟩
 f25:=⟨Tryz.f299.name,by decide,Tryz.func299.trans (congrArg some (by kernel_rfl))⟩
 f26:=⟨Tryz.f300.name,by decide,Tryz.func300.trans (congrArg some (by kernel_rfl))⟩
 f27:=⟨Tryz.f301.name,by decide,Tryz.func301.trans (congrArg some (by kernel_rfl))⟩
 f28:=Tryz.func97.trans (congrArg some (by kernel_rfl))
 f29:=Tryz.func98.trans (congrArg some (by kernel_rfl))
 f46:=⟨Tryz.f303.name,by decide,Tryz.func303.trans (congrArg some (by kernel_rfl))⟩
 f47:=Tryz.func154.trans (congrArg some (by kernel_rfl))
 f48:=Tryz.func155.trans (congrArg some (by kernel_rfl))
 f49:=⟨Tryz.f304.name,by decide,Tryz.func304.trans (congrArg some (by kernel_rfl))⟩
 f50:=⟨Tryz.f305.name,by decide,Tryz.func305.trans (congrArg some (by kernel_rfl))⟩
 f57:=⟨Tryz.f307.name,by decide,Tryz.func307.trans (congrArg some (by kernel_rfl))⟩
 t0:=Tryz.underlying0
 a0:=Tryz.isAgg0
 z0:=Tryz.sizeOf0
 v0:=Tryz.zeroValue0
 t3:=Tryz.underlying3
 a3:=Tryz.isAgg3
 z3:=Tryz.sizeOf3
 v3:=Tryz.zeroValue3
 t4:=Tryz.underlying4
 a4:=Tryz.isAgg4
 z4:=Tryz.sizeOf4
 v4:=Tryz.zeroValue4
 t5:=Tryz.underlying5
 a5:=Tryz.isAgg5
 z5:=Tryz.sizeOf5
 v5:=Tryz.zeroValue5
 t9:=Tryz.underlying9
 a9:=Tryz.isAgg9
 z9:=Tryz.sizeOf9
 v9:=Tryz.zeroValue9
 t22:=Tryz.underlying28
 a22:=Tryz.isAgg28
 z22:=Tryz.sizeOf28
 v22:=Tryz.zeroValue28
 t25:=Tryz.underlying325
 a25:=Tryz.isAgg325
 z25:=Tryz.sizeOf325
 v25:=Tryz.zeroValue325
 t39:=Tryz.underlying64
 a39:=Tryz.isAgg64
 z39:=Tryz.sizeOf64
 v39:=Tryz.zeroValue64
 t45:=Tryz.underlying169
 a45:=Tryz.isAgg169
 z45:=Tryz.sizeOf169
 v45:=Tryz.zeroValue169
 t46:=Tryz.underlying170
 a46:=Tryz.isAgg170
 z46:=Tryz.sizeOf170
 v46:=Tryz.zeroValue170
 t50:=Tryz.underlying83
 a50:=Tryz.isAgg83
 z50:=Tryz.sizeOf83
 v50:=Tryz.zeroValue83
 t53:=Tryz.underlying60
 a53:=Tryz.isAgg60
 z53:=Tryz.sizeOf60
 v53:=Tryz.zeroValue60
 t55:=Tryz.underlying178
 a55:=Tryz.isAgg178
 z55:=Tryz.sizeOf178
 v55:=Tryz.zeroValue178
 t66:=Tryz.underlying200
 a66:=Tryz.isAgg200
 z66:=Tryz.sizeOf200
 v66:=Tryz.zeroValue200
 t70:=Tryz.underlying204
 a70:=Tryz.isAgg204
 z70:=Tryz.sizeOf204
 v70:=Tryz.zeroValue204
 t76:=Tryz.underlying240
 a76:=Tryz.isAgg240
 z76:=Tryz.sizeOf240
 v76:=Tryz.zeroValue240
 t77:=Tryz.underlying241
 a77:=Tryz.isAgg241
 z77:=Tryz.sizeOf241
 v77:=Tryz.zeroValue241 }
def Tryz.laysF54_ren:Go.Shelf.Ren:=⟨fun | 6=>54 | 15=>65 | 14=>83 | 28=>97 | 29=>98 | 20=>145 | 21=>146 | 22=>147 | 23=>148 | 24=>149 | 25=>150 | 26=>151 | 27=>152 | 46=>194 | 47=>154 | 48=>155 | 49=>195 | 50=>196 | 57=>237 | n=>n,fun | 22=>30 | 24=>92 | 25=>125 | 3=>3 | 39=>64 | 0=>0 | 53=>60 | 55=>178 | 4=>4 | 46=>170 | 45=>169 | 50=>83 | 5=>5 | 9=>9 | 66=>200 | 70=>204 | 76=>240 | 77=>241 | n=>n,fun | n=>n⟩
theorem Tryz.laysF54:Go.Proofs.SlLaysF0.n6 Tryz.prog Tryz.laysF54_ren:={
 mixed:=by kernel_rfl
 f6:=⟨Tryz.f54.name,by decide,Tryz.func54.trans (congrArg some (by kernel_rfl))⟩
 f14:=⟨Tryz.f83.name,by decide,Tryz.func83.trans (congrArg some (by kernel_rfl))⟩
 f15:=Tryz.func65.trans (congrArg some (by kernel_rfl))
 f20:=⟨Tryz.f145.name,by decide,Tryz.func145.trans (congrArg some (by kernel_rfl))⟩
 f21:=⟨Tryz.f146.name,by decide,Tryz.func146.trans (congrArg some (by kernel_rfl))⟩
 f22:=⟨Tryz.f147.name,by decide,Tryz.func147.trans (congrArg some (by kernel_rfl))⟩
 f23:=⟨Tryz.f148.name,by decide,Tryz.func148.trans (congrArg some (by kernel_rfl))⟩
 f24:=⟨Tryz.f149.name,by decide,Tryz.func149.trans (congrArg some (by kernel_rfl))⟩
 f25:=⟨Tryz.f150.name,by decide,Tryz.func150.trans (congrArg some (by kernel_rfl))⟩
 f26:=⟨Tryz.f151.name,by decide,Tryz.func151.trans (congrArg some (by kernel_rfl))⟩
 f27:=⟨Tryz.f152.name,by decide,Tryz.func152.trans (congrArg some (by kernel_rfl))⟩
 f28:=Tryz.func97.trans (congrArg some (by kernel_rfl))
 f29:=Tryz.func98.trans (congrArg some (by kernel_rfl))
 f46:=⟨Tryz.f194.name,by decide,Tryz.func194.trans (congrArg some (by kernel_rfl))⟩
 f47:=Tryz.func154.trans (congrArg some (by kernel_rfl))
 f48:=Tryz.func155.trans (congrArg some (by kernel_rfl))
 f49:=⟨Tryz.f195.name,by decide,Tryz.func195.trans (congrArg some (by kernel_rfl))⟩
 f50:=⟨Tryz.f196.name,by decide,Tryz.func196.trans (congrArg some (by kernel_rfl))⟩
 f57:=⟨Tryz.f237.name,by decide,Tryz.func237.trans (congrArg some (by kernel_rfl))⟩
 t0:=Tryz.underlying0
 a0:=Tryz.isAgg0
 z0:=Tryz.sizeOf0
 v0:=Tryz.zeroValue0
 t3:=Tryz.underlying3
 a3:=Tryz.isAgg3
 z3:=Tryz.sizeOf3
 v3:=Tryz.zeroValue3
 t4:=Tryz.underlying4
 a4:=Tryz.isAgg4
 z4:=Tryz.sizeOf4
 v4:=Tryz.zeroValue4
 t5:=Tryz.underlying5
 a5:=Tryz.isAgg5
 z5:=Tryz.sizeOf5
 v5:=Tryz.zeroValue5
 t9:=Tryz.underlying9
 a9:=Tryz.isAgg9
 z9:=Tryz.sizeOf9
 v9:=Tryz.zeroValue9
 t22:=Tryz.underlying30
 a22:=Tryz.isAgg30
 z22:=Tryz.sizeOf30
 v22:=Tryz.zeroValue30
 t25:=Tryz.underlying125
 a25:=Tryz.isAgg125
 z25:=Tryz.sizeOf125
 v25:=Tryz.zeroValue125
 t39:=Tryz.underlying64
 a39:=Tryz.isAgg64
 z39:=Tryz.sizeOf64
 v39:=Tryz.zeroValue64
 t45:=Tryz.underlying169
 a45:=Tryz.isAgg169
 z45:=Tryz.sizeOf169
 v45:=Tryz.zeroValue169
 t46:=Tryz.underlying170
 a46:=Tryz.isAgg170
 z46:=Tryz.sizeOf170
 v46:=Tryz.zeroValue170
 t50:=Tryz.underlying83
 a50:=Tryz.isAgg83
 z50:=Tryz.sizeOf83
 v50:=Tryz.zeroValue83
 t53:=Tryz.underlying60
 a53:=Tryz.isAgg60
 z53:=Tryz.sizeOf60
 v53:=Tryz.zeroValue60
 t55:=Tryz.underlying178
 a55:=Tryz.isAgg178
 z55:=Tryz.sizeOf178
 v55:=Tryz.zeroValue178
 t66:=Tryz.underlying200
 a66:=Tryz.isAgg200
 z66:=Tryz.sizeOf200
 v66:=Tryz.zeroValue200
 t70:=Tryz.underlying204
 a70:=Tryz.isAgg204
 z70:=Tryz.sizeOf204
 v70:=Tryz.zeroValue204
 t76:=Tryz.underlying240
 a76:=Tryz.isAgg240
 z76:=Tryz.sizeOf240
 v76:=Tryz.zeroValue240
 t77:=Tryz.underlying241
 a77:=Tryz.isAgg241
 z77:=Tryz.sizeOf241
 v77:=Tryz.zeroValue241 }
def Tryz.lays169_ren:Go.Shelf.Ren:=⟨fun | 169=>228 | n=>n,fun | 70=>280 | 9=>9 | 0=>0 | 72=>282 | 37=>39 | 127=>314 | 3=>3 | 5=>5 | n=>n,fun | n=>n⟩
theorem Tryz.lays169:Go.Proofs.Lays.n169 Tryz.prog Tryz.lays169_ren:={
 mixed:=by kernel_rfl
 f169:=Tryz.func228.trans (congrArg some (by kernel_rfl))
 t0:=Tryz.underlying0
 a0:=Tryz.isAgg0
 z0:=Tryz.sizeOf0
 v0:=Tryz.zeroValue0
 t3:=Tryz.underlying3
 a3:=Tryz.isAgg3
 z3:=Tryz.sizeOf3
 v3:=Tryz.zeroValue3
 t9:=Tryz.underlying9
 a9:=Tryz.isAgg9
 z9:=Tryz.sizeOf9
 v9:=Tryz.zeroValue9
 t37:=Tryz.underlying39
 a37:=Tryz.isAgg39
 z37:=Tryz.sizeOf39
 v37:=Tryz.zeroValue39
 t70:=Tryz.underlying280
 a70:=Tryz.isAgg280
 z70:=Tryz.sizeOf280
 v70:=Tryz.zeroValue280
 t72:=Tryz.underlying282
 a72:=Tryz.isAgg282
 z72:=Tryz.sizeOf282
 v72:=Tryz.zeroValue282
 t127:=Tryz.underlying314
 a127:=Tryz.isAgg314
 z127:=Tryz.sizeOf314
 v127:=Tryz.zeroValue314 }
theorem Tryz.Builder_Extra_169:Builder.Extra Tryz.prog Tryz.lays169_ren:={
 sizeBuilder:=by kernel_rfl
 liesBuilder:=by kernel_rfl
 t5:=Tryz.underlying5
 a5:=Tryz.isAgg5
 z5:=Tryz.sizeOf5
 v5:=Tryz.zeroValue5
 infoByte:=by kernel_rfl
 cellsByte:=by kernel_rfl
 sizeByte:=by kernel_rfl
 neB5:=by decide }
def Tryz.lays156_ren:Go.Shelf.Ren:=⟨fun | 156=>185 | 165=>226 | 166=>227 | 169=>228 | 240=>253 | 241=>254 | 276=>276 | 277=>277 | n=>n,fun | 31=>22 | 9=>9 | 3=>3 | 4=>4 | 0=>0 | 20=>20 | 72=>282 | 76=>191 | 70=>280 | 37=>39 | 75=>190 | 127=>314 | 164=>329 | 5=>5 | 80=>283 | n=>n,fun | n=>n⟩
theorem Tryz.lays156:Go.Proofs.Lays.n156 Tryz.prog Tryz.lays156_ren:={
 mixed:=by kernel_rfl
 f156:=Tryz.func185.trans (congrArg some (by kernel_rfl))
 f165:=Tryz.func226.trans (congrArg some (by kernel_rfl))
 f166:=Tryz.func227.trans (congrArg some (by kernel_rfl))
 f169:=Tryz.func228.trans (congrArg some (by kernel_rfl))
 f240:=Tryz.func253.trans (congrArg some (by kernel_rfl))
 f241:=Tryz.func254.trans (congrArg some (by kernel_rfl))
 f276:=Tryz.func276.trans (congrArg some (by kernel_rfl))
 f277:=Tryz.func277.trans (congrArg some (by kernel_rfl))
 t0:=Tryz.underlying0
 a0:=Tryz.isAgg0
 z0:=Tryz.sizeOf0
 v0:=Tryz.zeroValue0
 t3:=Tryz.underlying3
 a3:=Tryz.isAgg3
 z3:=Tryz.sizeOf3
 v3:=Tryz.zeroValue3
 t4:=Tryz.underlying4
 a4:=Tryz.isAgg4
 z4:=Tryz.sizeOf4
 v4:=Tryz.zeroValue4
 t9:=Tryz.underlying9
 a9:=Tryz.isAgg9
 z9:=Tryz.sizeOf9
 v9:=Tryz.zeroValue9
 t20:=Tryz.underlying20
 a20:=Tryz.isAgg20
 z20:=Tryz.sizeOf20
 v20:=Tryz.zeroValue20
 t31:=Tryz.underlying22
 a31:=Tryz.isAgg22
 z31:=Tryz.sizeOf22
 v31:=Tryz.zeroValue22
 t37:=Tryz.underlying39
 a37:=Tryz.isAgg39
 z37:=Tryz.sizeOf39
 v37:=Tryz.zeroValue39
 t70:=Tryz.underlying280
 a70:=Tryz.isAgg280
 z70:=Tryz.sizeOf280
 v70:=Tryz.zeroValue280
 t72:=Tryz.underlying282
 a72:=Tryz.isAgg282
 z72:=Tryz.sizeOf282
 v72:=Tryz.zeroValue282
 t75:=Tryz.underlying190
 a75:=Tryz.isAgg190
 z75:=Tryz.sizeOf190
 v75:=Tryz.zeroValue190
 t76:=Tryz.underlying191
 a76:=Tryz.isAgg191
 z76:=Tryz.sizeOf191
 v76:=Tryz.zeroValue191
 t127:=Tryz.underlying314
 a127:=Tryz.isAgg314
 z127:=Tryz.sizeOf314
 v127:=Tryz.zeroValue314
 t164:=Tryz.underlying329
 a164:=Tryz.isAgg329
 z164:=Tryz.sizeOf329
 v164:=Tryz.zeroValue329 }
theorem Tryz.Builder_Extra_156:Builder.Extra Tryz.prog Tryz.lays156_ren:={
 sizeBuilder:=by kernel_rfl
 liesBuilder:=by kernel_rfl
 t5:=Tryz.underlying5
 a5:=Tryz.isAgg5
 z5:=Tryz.sizeOf5
 v5:=Tryz.zeroValue5
 infoByte:=by kernel_rfl
 cellsByte:=by kernel_rfl
 sizeByte:=by kernel_rfl
 neB5:=by decide }
end Go.Proofs
namespace Go.Proofs
open Go Pk Go.RowKit
theorem Tryz.srt269:IG Tryz.prog 269 6 :=
  ⟨fun p cap fv w=>AnyF.slices_SortFunc_none Tryz.laysF269 p cap fv w,
   fun α _ enc hk h1 cf hO g cb blk off cap d w eg hc hH hb hs hT=>AnyQ.slices_SortFunc_total Tryz.laysF269 6 Tryz.isAgg217 Tryz.sizeOf217 enc hk h1 cf hO g cb blk off cap d w eg hc hH hb hs hT⟩
theorem Tryz.srt54:IG Tryz.prog 54 5 :=
  ⟨fun p cap fv w=>AnyF.slices_SortFunc_none Tryz.laysF54 p cap fv w,
   fun α _ enc hk h1 cf hO g cb blk off cap d w eg hc hH hb hs hT=>AnyQ.slices_SortFunc_total Tryz.laysF54 5 Tryz.isAgg92 Tryz.sizeOf92 enc hk h1 cf hO g cb blk off cap d w eg hc hH hb hs hT⟩
theorem Tryz.szB:(Tryz.prog.info? 282).map (·.size)=some 2:=by kernel_rfl
theorem Tryz.liesB:liesAt Tryz.prog Tryz.prog.depth 282 (2/Tryz.prog.cellsOf 282) 0 282 1=true:=by kernel_rfl
theorem Tryz.infoU8:(Tryz.prog.info? 5).map (fun i=>(i.zero,i.size,i.bytes))=some (some (.int .u8 0),1,1):=by kernel_rfl
set_option maxHeartbeats 1000000 in
set_option maxRecDepth 100000 in
theorem Tryz.cc_used (b:Nat) (w:World) (h0:w.cell? ⟨b,0,none⟩=some (.pointer (some ⟨b,0,none⟩))):Calls Tryz.prog 253 #[.pointer (some ⟨b,0,none⟩)] w fun e w'=>e=.returned (.tuple #[])∧w'=w:=by
 obtain ⟨j,hj,_⟩:=Option.map_eq_some_iff.1 Tryz.szB
 go_enter Tryz.func253,Tryz.ntmps253
 go_wp2
 rw [Lib.run_neq_ptr_same w _ Tryz.underlying280 hj]
 go_wp2
 go_end0
 exact ⟨rfl,rfl⟩
set_option maxHeartbeats 1000000 in
set_option maxRecDepth 100000 in
theorem Tryz.cc_new (b:Nat) (w:World) (h0:w.cell? ⟨b,0,none⟩=some (.pointer none)) (hs:w.shape? b=some (282,2)) (hz:w.frozen? ⟨b,0,none⟩=false):Calls Tryz.prog 253 #[.pointer (some ⟨b,0,none⟩)] w fun e w'=>e=.returned (.tuple #[])∧w'=w.setCell ⟨b,0,none⟩ (.pointer (some ⟨b,0,none⟩)):=by
 obtain ⟨j,hj,hjs⟩:=Option.map_eq_some_iff.1 Tryz.szB
 go_enter Tryz.func253,Tryz.ntmps253
 go_wp2
 rw [Lib.run_to_unsafe w ⟨b,0,none⟩ Tryz.underlying280 Tryz.underlying329 hj (by rw [hjs];decide) hs (Nat.zero_lt_succ 1)];simp only [Result.andThen];rw [Oper.upon_value]
 go_wp2
 rw [run_callFunc_extern Tryz.func276 (by kernel_rfl) (by kernel_rfl) (by kernel_rfl) (e:=Extern.AbiNoEscape.same) (by kernel_rfl)];rw [Lib.run_noEscape];simp only [Result.andThen];rw [Oper.upon_value]
 go_wp2
 rw [Lib.run_from_unsafe w ⟨b,0,none⟩ Tryz.underlying329 Tryz.underlying280 hj hs Tryz.liesB];simp only [Result.andThen];rw [Oper.upon_value]
 go_wp2
 go_end0
 exact ⟨rfl,rfl⟩
theorem Tryz.cc_any (B b:Nat) (l:List Value) (w:World) (h:Lib.IsBuilderF 282 5 B b l w):Calls Tryz.prog 253 #[.pointer (some ⟨b,0,none⟩)] w fun e w'=>e=.returned (.tuple #[])∧Lib.BuilderAtF 282 5 B b (.pointer (some ⟨b,0,none⟩)) l w'∧Below B w w':=by
 rcases h with h | h
 ·exact (Tryz.cc_new b w h.cell0 h.shape h.frozen0).mono fun e w' hw=>by
   obtain ⟨rfl,rfl⟩:=hw;exact ⟨rfl,h.used _,(Below.refl B w).setCell (p:=⟨b,0,none⟩) h.1 _⟩
 exact (Tryz.cc_used b w h.cell0).mono fun e w' hw=>by
  obtain ⟨rfl,rfl⟩:=hw;exact ⟨rfl,h,Below.refl B _⟩
set_option maxHeartbeats 2000000 in
set_option maxRecDepth 100000 in
theorem Tryz.bWrite (B b:Nat) (l:List Value) (s:ByteArray) (w:World) (h:Lib.IsBuilderF 282 5 B b l w) (hl:l.length+s.size≤140737488355328) (hB:B≤w.heap.size) :
  Calls Tryz.prog 227 #[.pointer (some ⟨b,0,none⟩),.string s] w fun e w'=>e=.returned (.tuple #[.int .i64 s.size,.nilIface])∧Lib.BuilderAtF 282 5 B b (.pointer (some ⟨b,0,none⟩)) (l++Lib.strCells s) w'∧Below B w w':=by
 obtain ⟨i0,hi,hz0,hz1,hz2⟩:=info_parts Tryz.infoU8;have eA1:∀ args w,(callFunc 253 args).run Tryz.prog w=.ok (.enter 253 args) w:=enters_of Tryz.func253 (by kernel_rfl) rfl
 go_enter Tryz.func227,Tryz.ntmps227
 go_wp2_with (go_at_fn 253;refine (Tryz.cc_any B b l _ h).mono ?_)
 rintro e w1 ⟨rfl,⟨hBb,v,hbk,hown,hne⟩,hb1⟩;have c0:w1.cell? ⟨b,0,none⟩=some (.pointer (some ⟨b,0,none⟩)):=by rw [Lib.cell_of_heap hbk];rfl
 have c1:w1.cell? ⟨b,1,none⟩=some v:=by rw [Lib.cell_of_heap hbk];rfl
 go_wp2_with (at_builtin;refine Lib.wpList_append_own_stringF _ rfl _ _ 39 9 rfl B 5 i0 Tryz.underlying39 Tryz.underlying9 hi hz0 hz1 hz2 _ _ _ rfl hown s rfl ?c3 ?c4 ?c5 ?_)
 case c3=>unfold maxLen;omega
 case c4=>omega
 case c5=>have:=hb1.size;omega
 intro v' w2 hown' hgrow _;have hlt:b < w1.heap.size:=(Array.getElem?_eq_some_iff.1 hbk).1;have hb2:w2.heap[b]?=some (.cells #[.pointer (some ⟨b,0,none⟩),v] 282 (0,0)):=by
  rw [hgrow.block b hlt (fun e=>hne e.symm)];exact hbk
 have d0:w2.cell? ⟨b,0,none⟩=some (.pointer (some ⟨b,0,none⟩)):=by rw [Lib.cell_of_heap hb2];rfl
 have d1:w2.cell? ⟨b,1,none⟩=some v:=by rw [Lib.cell_of_heap hb2];rfl
 have f1:w2.frozen? ⟨b,1,none⟩=false:=Lib.frozen_of_heap hb2 1;obtain ⟨ao,n',cap,rfl⟩:∃ ao n' cap,v'=.slice ao n' cap:=by
  rcases hown'.2 with ⟨hv,_⟩ | ⟨g,cap,cur,fz,hv,_⟩
  ·exact ⟨_,_,_,hv⟩
  exact ⟨_,_,_,hv⟩
 go_wp2
 go_ret2
 exact ⟨rfl,Lib.BuilderAtF.put (T:=282) (e:=5) hBb hb2 (bs':=l++Lib.strCells s) (by simpa [Lib.strCells_length] using hown') (by decide),(hb1.grown hgrow (by have:=hb1.size;omega) (fun k hk=>(hown.lt k hk).1)).setCell (p:=⟨b,1,none⟩) hBb _⟩
end Go.Proofs
set_option maxHeartbeats 4000000
namespace T12
open Go Go.Proofs Pk Go.RowKit
structure Gv (M:Prop) (H:Hp):Prop where
 gl:Gl M 1 2 3 H
 mx:∃ m,aL H ⟨0,0,none⟩ [.int .i64 m]
theorem Gv.mono {M:Prop} {H K:Hp} (h:Gv M H) (hk:H.le K):Gv M K:=⟨h.gl.mono hk,h.mx.imp fun _ hm=>hm.mono hk⟩
noncomputable def IM (s:aF):Option (Int×Bool):=BY s
noncomputable def IN (n:Int):Option aF:=BZ n
noncomputable def KX (s t:aF):Option (aF×aF×Bool):=bW (s.length≤1073741824) (some (Lib.cut s t))
theorem WM (s:aF):(bs s).data.toList=s:=by simp [bs]
theorem YR {M:Prop} {W:World} {H:Hp} (hH:H.le (hp W)) (hg:Gv M H) (s:aF) {r:Int×Bool} (hr:IM s=some r):Calls Tryz.prog 127 #[.string (bs s)] W (eZ M H W (fun v K=>∃ (er1:Value),v=.tuple #[.int .i64 r.1,er1]∧Er er1 r.2)):=by
 unfold IM BY at hr;obtain ⟨hl,hr⟩:=aE hr;obtain rfl:=Option.some.inj hr;have hz:(bs s).size=s.length:=fI s;obtain ⟨e0,h0,i0⟩:=hg.gl.syn;obtain ⟨e1,h1,i1⟩:=hg.gl.rng
 cases h:Lib.atoiAll s with
 | ok v =>
  refine (Any.strconv_Atoi_ok Tryz.laysC172 (bs s) (by omega) v (by rw [WM];exact h) W).mono ?_;rintro e w' ⟨rfl,hw⟩;refine ⟨⟨_,by simp [jT,h],.inl ⟨by simp [jT,h],rfl⟩⟩,?_⟩;rcases hw with rfl | ⟨t,rfl⟩
  ·exact gA.refl _ _
  exact gA.of_below hg.gl.nq (Lib.bytesWorld_below _ _ _)
 | range =>
  refine (Any.strconv_Atoi_range Tryz.laysC172 (bs s) (by omega) (by rw [WM];exact h) e1 W (rB hH h1) i1).mono ?_;rintro e w' ⟨N,rfl,_,_,hb⟩;have hr1:jT s=(Lib.atoiSat s,true):=by simp [jT,h]
  rw [hr1,WM];exact ⟨⟨_,rfl,.inr ⟨rfl,_,_,rfl⟩⟩,gA.of_below hg.gl.nq hb⟩
 | _ =>
  refine (Any.strconv_Atoi_syntax Tryz.laysC172 (bs s) (by omega) (by rw [WM];exact h) e0 W (rB hH h0) i0).mono ?_;rintro e w' ⟨N,rfl,_,_,hb⟩;have hr1:jT s=(0,true):=by simp [jT,h]
  rw [hr1];exact ⟨⟨_,rfl,.inr ⟨rfl,_,_,rfl⟩⟩,gA.of_below hg.gl.nq hb⟩
theorem KY {W:World} {H:Hp} (hH:H.le (hp W)) {M:Prop} (hg:Gv M H) (n:Int) (h1 : -9223372036854775808≤n) (h2:n≤9223372036854775807):Calls Tryz.prog 128 #[.int .i64 n] W fun e w'=>e=.returned (.string (bs (Lib.itoa n)))∧∃ k os,w'=Sort.grow (W.drewN k) os:=by
 refine (Any.strconv_Itoa Tryz.laysM171 n h1 h2 W (BX (by kernel_rfl) hH hg.gl.tab)).mono ?_;rintro e w' ⟨rfl,k,os,rfl⟩;exact ⟨rfl,k,os,rfl⟩
theorem tO (M:Prop) (W:World) (k:Nat) (os:Array Obj):gA M W (Sort.grow (W.drewN k) os) :=
 ⟨rfl,rfl,rfl,(by show W.heap.size≤(W.heap++os).size;rw [Array.size_append];omega),fun b hb=>Array.getElem?_append_left hb,fun _=>Nat.le_add_right _ _⟩
theorem YS {M:Prop} {W:World} {H:Hp} (hH:H.le (hp W)) (hg:Gv M H) (n:Int) {r:aF} (hr:IN n=some r):Calls Tryz.prog 128 #[.int .i64 n] W (bN M W (.string (bs r))):=by
 unfold IN BZ at hr;obtain ⟨hl,hr⟩:=aE hr;obtain rfl:=Option.some.inj hr;refine (KY hH hg n hl.1 hl.2).mono ?_;rintro e w' ⟨rfl,k,os,rfl⟩;exact ⟨rfl,tO M W k os⟩
theorem w77 {M:Prop} {W:World} {H:Hp} (hH:H.le (hp W)) (hg:Gv M H) (s t:aF) {r:aF×aF×Bool} (hr:KX s t=some r):Calls Tryz.prog 77 #[.string (bs s),.string (bs t)] W (bN M W (.tuple #[.string (bs r.1),.string (bs r.2.1),.bool r.2.2])):=by
 unfold KX at hr;obtain ⟨hl,hr⟩:=aE hr;obtain rfl:=Option.some.inj hr;obtain ⟨m,hm⟩:=hg.mx;refine (Any.strings_Cut Tryz.lays145 (bs s) (bs t) m W (by rw [fI];omega) (rB hH hm)).mono ?_;rintro e w' ⟨rfl,k,rfl⟩;refine ⟨by simp [bs],?_⟩;exact ⟨rfl,rfl,rfl,Nat.le_refl _,fun _ _=>rfl,fun _=>Nat.le_add_right _ _⟩
noncomputable def CP (l:List aF) (sep:aF):Option aF:=bW (l.length≤1073741824∧(Lib.join l sep).length≤1073741824) (some (Lib.join l sep))
theorem YT {M:Prop} {W:World} {H:Hp} (hH:H.le (hp W)) (hg:Gv M H) {ad:Option Addr} {cap:Nat} {l:List aF} (hl:Sl (aG cL) 1 H ad cap l) (sep:aF) {r:aF} (hr:CP l sep=some r):Calls Tryz.prog 185 #[.slice ad l.length cap,.string (bs sep)] W (bN M W (.string (bs r))):=by
 unfold CP at hr;obtain ⟨hb,hr⟩:=aE hr;obtain rfl:=Option.some.inj hr;have hx:(l.map bs).map (·.data.toList)=l:=by
  rw [List.map_map]
  conv=>rhs;rw [← List.map_id l]
  exact List.map_congr_left fun x _=>by simp [bs]
 cases l with
 | nil =>
  refine (Any.strings_Join_none Tryz.lays156 Tryz.Builder_Extra_156 ad cap (bs sep) W).mono ?_;rintro e w' ⟨rfl,rfl⟩;exact ⟨by simp [bs,Lib.join_nil],gA.refl _ _⟩
 | cons x l =>
  obtain ⟨p,cs,rfl,hp0,h2,h3,h4⟩:=hl.2 0 x rfl;obtain ⟨b,o,sp⟩:=p;obtain rfl:sp=none:=hp0;have hcell:∀ (j:Nat) y,((x::l).map bs)[j]?=some y→W.cell? ⟨b,o+j,none⟩=some (.string y):=fun j y hy=>by
   rw [List.getElem?_map,Option.map_eq_some_iff] at hy;obtain ⟨z,hz,rfl⟩:=hy;obtain ⟨p,cs,h1,_,_,h3,h4⟩:=hl.2 j z hz;cases h1;have h4:cs=cL z:=h4;subst h4;have:=(h3.mono hH).cell (j:=0) (v:=.string (bs z)) rfl;have e:((⟨b,o,none⟩:Addr).add (j*1)).add 0=⟨b,o+j,none⟩:=by rw [Nat.mul_one,dI (i:=j) rfl];rfl
   rwa [e] at this
  have hlt:b < W.heap.size:=by
   have h4:cs=cL x:=h4;subst h4;obtain ⟨c,ty,fz,h5,_⟩:=h3.2 0 (.string (bs x)) rfl;have h6:=hH _ _ h5;rw [Nat.zero_mul,dI rfl] at h6;exact (Array.getElem?_eq_some_iff.1 h6).1
  have hn:((x::l).map bs).length=(x::l).length:=List.length_map _;have:=Any.strings_Join Tryz.lays156 Tryz.Builder_Extra_156 b o cap ((x::l).map bs) (bs sep) W hcell hlt (by rw [hn];omega) (by rw [hn];exact hl.1.1) (by rw [hx,show (bs sep).data.toList=sep by simp [bs]];omega);rw [hx,hn] at this;refine this.mono ?_;rintro e w' ⟨rfl,hw⟩;exact ⟨by simp [bs],gA.of_below hg.gl.nq hw⟩
end T12
set_option maxHeartbeats 4000000
namespace T12
open Go Go.Proofs Pk Go.RowKit
def tP:Any→aF
 | .i n=>Lib.itoa n
 | .s b=>b
def KZ:Any→Prop
 | .i n=>-9223372036854775808≤n∧n≤9223372036854775807
 | .s _=>True
instance:(x:Any)→Decidable (KZ x)
 | .i _=>inferInstanceAs (Decidable (_∧_))
 | .s _=>inferInstanceAs (Decidable True)
def fY (l:List Any):aF:=l.flatMap tP
noncomputable def vX (l:List Any):Option aF:=bW ((∀ x∈l,KZ x)∧(fY l).length≤1073741824) (some (fY l))
theorem qI {T e:TypeId} {B b:Nat} {p:Value} {l:List Value} {W W':World} (h:Lib.BuilderAtF T e B b p l W) (hb:Below W.heap.size W W'):Lib.BuilderAtF T e B b p l W':=by
 have hlt:=h.lt;obtain ⟨hB,v,hv,hown,hne⟩:=h;exact ⟨hB,v,(hb.block b hlt).trans hv,hown.kept (row:=none) ⟨hb.os,hb.tape,hb.output,hb.size,fun k hk _=>hb.block k hk⟩ (Classical.em _),hne⟩
theorem zY {T e:TypeId} {B b:Nat} {l:List Value} {W W':World} (h:Lib.IsBuilderF T e B b l W) (hb:Below W.heap.size W W'):Lib.IsBuilderF T e B b l W' :=
 h.elim (fun x=>.inl (qI x hb)) (fun x=>.inr (qI x hb))
theorem vY (W:World) (k:Nat) (os:Array Obj):Below W.heap.size W (Sort.grow (W.drewN k) os) :=
 ⟨rfl,rfl,rfl,(by show W.heap.size≤(W.heap++os).size;rw [Array.size_append];omega),fun b hb=>Array.getElem?_append_left hb⟩
theorem vZ {l:List Any} {i:Nat} {x:Any} (h:l[i]?=some x):fY (l.take (i+1))=fY (l.take i)++tP x:=by
 unfold fY;rw [List.take_succ,h];simp
theorem CQ {l:List Any} (i:Nat):(fY (l.take i)).length≤(fY l).length:=by
 have:fY l=fY (l.take i)++fY (l.drop i):=by unfold fY;rw [← List.flatMap_append,List.take_append_drop]
 rw [this];simp
section
variable {P:Program} {r:Option Nat} {n:aV} {p:List PanicEntry→aV} {a:Act} {w:World} {D:List Deferred} {k:Nat} {L:bY} {ops:Array Oper} {rest:List Oper} {d:Nat} {ty:TypeId} {pos:String} {af:Array Edge}
theorem LA {y:Operand} {xT t:TypeId} {v:Value} {ds:TypeDesc} (hA:aT D k a L) (hd:Nat.blt d k=true) (hu:P.underlying t=some ds) (hds:(match ds with | .interface _=>false | _=>true)=true) (hy:ev L y=some (.iface t v))
  (h:∀ a,aT D k a ((d,.tuple #[v,.bool true])::L)→O P r ops n p rest a w):O P r ops n p (⟨some d,.typeAssert y xT t true,ty,pos,af,none⟩::rest) a w :=
 cM rfl (fun _ h=>by cases h) (w':=w) (v:=.tuple #[v,.bool true]) (by
  simp only [execOp,Instr.typeAssert,hA.eval hy]
  cases ds <;> simp at hds <;> simp [run_underlying hu,Result.andThen]) (h _ (hA.put hd _))
theorem SU {y:Operand} {xT t t':TypeId} {v z:Value} {ds:TypeDesc} (hA:aT D k a L) (hd:Nat.blt d k=true) (hu:P.underlying t=some ds) (hds:(match ds with | .interface _=>false | _=>true)=true) (hz:∀ w,(zeroValue t).run P w=.ok z w) (hne:Nat.beq t' t=false) (hy:ev L y=some (.iface t' v))
  (h:∀ a,aT D k a ((d,.tuple #[z,.bool false])::L)→O P r ops n p rest a w):O P r ops n p (⟨some d,.typeAssert y xT t true,ty,pos,af,none⟩::rest) a w:=by
 have hn:¬t'=t:=NB hne
 exact cM rfl (fun _ h=>by cases h) (w':=w) (v:=.tuple #[z,.bool false]) (by
  simp only [execOp,Instr.typeAssert,hA.eval hy]
  cases ds <;> simp at hds <;> simp [run_underlying hu,Result.andThen,hn,hz]) (h _ (hA.put hd _))
theorem rH {x:Operand} {xs:List Operand} {ats:Array TypeId} {f:FuncId} {vs:List Value} {v:Value} {R:World→Prop} (hA:aT D k a L) (hd:Nat.blt d k=true) (hf:ev L x=some (.func (.func f) #[] #[])) (hxs:lA L xs=some vs)
  (hcall:∀ args w,(callFunc f args).run P w=.ok (.enter f args) w) (hc:Calls P f vs.toArray w fun e w'=>e=.returned v∧R w') (h:∀ w',R w'→∀ a,aT D k a ((d,v)::L)→O P r ops n p rest a w') :
  O P r ops n p (⟨some d,.call ⟨.value x,xs.toArray,ats⟩,ty,pos,af,none⟩::rest) a w:=by
 refine iA rfl (fun _ h=>by cases h) (fV (first:=#[]) (cap:=#[]) hA hf hxs hcall) (by simpa using hc) ?_ ?_ ?_
 ·intro v' w' hv;obtain ⟨e,hR⟩:=hv;cases e;exact h w' hR _ (hA.put hd _)
 ·intro ch w' hv;cases hv.1
 intro w' hv;cases hv.1
end
theorem NS {M:Prop} {W:World} {H:Hp} (hH:H.le (hp W)) (hg:Gv M H) {ad_p0_:Option Addr} {cap_p0_:Nat} {p0_:List Any} (h_p0_:Sl (aG oS) 1 H ad_p0_ cap_p0_ p0_) {r:aF} (hr:vX p0_=some r):Calls Tryz.prog 211 #[.slice ad_p0_ p0_.length cap_p0_] W (bN M W (.string (bs r))):=by
 unfold vX at hr;obtain ⟨⟨hok,hlen⟩,hr⟩:=aE hr;obtain rfl:=Option.some.inj hr;refine enter Tryz.func211 rfl Tryz.ntmps211 rfl ?_;intro a hA;refine gD (dE (fE hA rfl rfl fun a hA=>?_));refine fR (gD (dE (cM rfl (fun _ h=>by cases h) (w':=W.alloc (.cells #[.pointer none,.slice none 0 0] 282)) (v:=.pointer (some ⟨W.heap.size,0,none⟩)) (by simp [execOp,Instr.alloc,Tryz.zeroValue282,jN,Value.cells]) ?_)));have hA1:=hA.put (d:=3) rfl (.pointer (some ⟨W.heap.size,0,none⟩));have hB1:Lib.IsBuilderF 282 5 W.heap.size W.heap.size (Lib.byteCells (fY (p0_.take 0))) (W.alloc (.cells #[.pointer none,.slice none 0 0] 282)):=(Lib.fresh_isBuilder 282 5 W).elim (fun h=>.inl (.of h)) (fun h=>.inr (.of h));have hW1:Below W.heap.size W (W.alloc (.cells #[.pointer none,.slice none 0 0] 282)):=(Below.refl _ _).alloc (Nat.le_refl _) _;generalize (a.put (some 3) (.pointer (some ⟨W.heap.size,0,none⟩)))=a1 at hA1 ⊢;generalize (W.alloc (.cells #[.pointer none,.slice none 0 0] 282))=w1 at hB1 hW1 ⊢;refine fR (gD (gD (dE (gC hA1 rfl rfl fun a hA=>KM hA rfl rfl Tryz.underlying301 fun a hA=>gC hA rfl rfl fun a hA=>?_))));refine fR (lL (BI (fun j a w=>∃ i,i≤p0_.length∧j=p0_.length - i∧aT [] 35 a [(3,.pointer (some ⟨W.heap.size,0,none⟩)),(10,.slice ad_p0_ p0_.length cap_p0_),(11,.int .i64 p0_.length),(12,.int .i64 i)]∧Lib.IsBuilderF 282 5 W.heap.size W.heap.size (Lib.byteCells (fY (p0_.take i))) w∧Below W.heap.size W w) (j:=p0_.length) ⟨0,Nat.zero_le _,rfl,hA.cut ⟨rfl,rfl,rfl,rfl,trivial⟩,hB1,hW1⟩ ?_));rintro j a w ⟨i,hil,rfl,hA,hB,hW⟩;have hll:=h_p0_.len;refine gD (dE (RI hA rfl rfl rfl fun a hA=>fR (gD (QZ hA rfl (fun hc=>BG ?_) (fun hc=>BH rfl ?_)))))
 ·have hi:i < p0_.length:=by omega
  obtain ⟨x,hx⟩:∃ x,p0_[i]?=some x:=⟨_,List.getElem?_eq_getElem hi⟩;have hxok:=hok x (List.mem_of_getElem? hx);have hHw:H.le (hp w):=hH.trans (gA.of_below hg.gl.nq hW).le;have hlen2:(fY (p0_.take (i+1))).length≤1073741824:=Nat.le_trans (CQ _) hlen;have hst:=vZ hx;have hcnt:(fY (p0_.take i)).length+(tP x).length≤1073741824:=by rw [hst,List.length_append] at hlen2;exact hlen2
  have hBle:W.heap.size≤w.heap.size:=hW.size;refine gD (oE (n:=fun a w'=>aT [] 35 a [(3,.pointer (some ⟨W.heap.size,0,none⟩)),(10,.slice ad_p0_ p0_.length cap_p0_),(11,.int .i64 p0_.length),(12,.int .i64 i)]∧Lib.BuilderAtF 282 5 W.heap.size W.heap.size (.pointer (some ⟨W.heap.size,0,none⟩)) (Lib.byteCells (fY (p0_.take i))++Lib.strCells (bs (tP x))) w'∧Below W.heap.size W w') ?_ (fun _ _ h=>h) (fun _ K _ _ hK h=>⟨K,hK,h⟩) (fun _ _ _ h=>h) ?_)
  ·rintro a w' ⟨hA,hB,hW⟩;exact dE (KJ hA rfl rfl rfl (by omega) (by omega) fun a hA=>gC hA rfl rfl fun a hA=>fR ⟨p0_.length - (i+1),by omega,i+1,by omega,rfl,hA.cut ⟨rfl,rfl,rfl,by simp [lk],trivial⟩,.inr (by rw [hst];unfold Lib.byteCells at *;rw [List.map_append];exact hB),hW⟩)
  refine lL (gD (dE (XV hA rfl rfl rfl Tryz.underlying301 Tryz.sizeOf20 (h_p0_.mono (aG.mono _) hHw) rfl rfl hx fun q cs hq hcs hf a hA=>vJ (v:=SG x) hA rfl rfl Tryz.isAgg20 hq (by rw [show cs=oS x from hf];rfl) fun a hA=>fE hA rfl rfl fun a hA=>fR ?_)));clear hf hq hcs
  cases x with
  | i z =>
   refine gD (dE (gC hA rfl rfl fun a hA=>LA hA rfl Tryz.underlying3 rfl rfl fun a hA=>gC hA rfl rfl fun a hA=>lO (vs:=[.int .i64 z,.bool true]) hA rfl rfl rfl fun a hA=>lO (vs:=[.int .i64 z,.bool true]) hA rfl rfl rfl fun a hA=>fE hA rfl rfl fun a hA=>fE hA rfl rfl fun a hA=>fR ?_));refine gD (dE (gC hA rfl rfl fun a hA=>fR (jB hA rfl (fun _=>?_) (fun h=>by cases h))));refine dE (gC hA rfl rfl fun a hA=>rH (x:=.func 128) (xs:=[.tmp 22]) hA rfl rfl rfl Tryz.call128 (KY hHw hg z hxok.1 hxok.2) ?_);rintro w' ⟨k,os,rfl⟩ a hA;have hb:=vY w k os;have hW':=hW.trans (hb.mono hBle);refine rH (x:=.func 227) (xs:=[.tmp 3,.tmp 23]) hA rfl rfl rfl Tryz.call227 (Tryz.bWrite W.heap.size W.heap.size _ (bs (Lib.itoa z)) _ (zY hB hb) ?_ hW'.size) ?_
   ·rw [Lib.byteCells_length,fI];have:(Lib.itoa z).length=(tP (.i z)).length:=rfl;omega
   rintro w' ⟨hB',hW2⟩ a hA;exact fR ⟨hA.cut ⟨rfl,rfl,rfl,rfl,trivial⟩,hB',hW'.trans hW2⟩
  | s z =>
   refine gD (dE (gC hA rfl rfl fun a hA=>SU hA rfl Tryz.underlying3 rfl Tryz.zeroValue3 rfl rfl fun a hA=>gC hA rfl rfl fun a hA=>lO (vs:=[.int .i64 0,.bool false]) hA rfl rfl rfl fun a hA=>lO (vs:=[.int .i64 0,.bool false]) hA rfl rfl rfl fun a hA=>fE hA rfl rfl fun a hA=>fE hA rfl rfl fun a hA=>fR ?_));refine gD (dE (gC hA rfl rfl fun a hA=>fR (jB hA rfl (fun h=>by cases h) (fun _=>?_))));refine gD (dE (gC hA rfl rfl fun a hA=>LA hA rfl Tryz.underlying9 rfl rfl fun a hA=>gC hA rfl rfl fun a hA=>lO (vs:=[.string (bs z),.bool true]) hA rfl rfl rfl fun a hA=>lO (vs:=[.string (bs z),.bool true]) hA rfl rfl rfl fun a hA=>fE hA rfl rfl fun a hA=>fE hA rfl rfl fun a hA=>fR ?_));refine gD (dE (gC hA rfl rfl fun a hA=>fR (jB hA rfl (fun _=>?_) (fun h=>by cases h))));refine dE (gC hA rfl rfl fun a hA=>rH (x:=.func 227) (xs:=[.tmp 3,.tmp 31]) hA rfl rfl rfl Tryz.call227 (Tryz.bWrite W.heap.size W.heap.size _ (bs z) _ hB ?_ hBle) ?_)
   ·rw [Lib.byteCells_length,fI];have:z.length=(tP (.s z)).length:=rfl;omega
   rintro w' ⟨hB',hW2⟩ a hA;exact fR ⟨hA.cut ⟨rfl,rfl,rfl,rfl,trivial⟩,hB',hW.trans hW2⟩
 have hi:i=p0_.length:=by omega
 subst hi;rw [List.take_length] at hB;refine gD (dE (rH (x:=.func 228) (xs:=[.tmp 3]) hA rfl rfl rfl Tryz.call228 (Any.Builder_String_any_f Tryz.lays169 Tryz.Builder_Extra_169 W.heap.size W.heap.size (fY p0_) w hB hW.size) ?_));rintro w' ⟨hB',hW'⟩ a hA;refine fE hA rfl rfl fun a hA=>fR (KI (dP hA rfl rfl ?_));exact ⟨rfl,gA.of_below hg.gl.nq (hW.trans hW')⟩
end T12
namespace T12
open Go Go.Proofs Pk Tryz
theorem J.{u} {α:Sort u} {a:α}:a=a:=rfl
structure aH where
 anchor:Int
 text:aF
 deriving DecidableEq,Inhabited
def aY (x:aH):List Value:=[.int .i64 x.anchor,.string (bs x.text)]
structure dW where
 day:Int
 paragraphs:List aH
 deriving DecidableEq,Inhabited
def bQ:Hp→List Value→dW→Prop:=fun H cs x=>∃ (ad0:Option Addr) (cap0:Nat),cs=[.int .i64 x.day,.slice ad0 x.paragraphs.length cap0]∧Sl (aG aY) 2 H ad0 cap0 x.paragraphs
theorem bQ.one:nQ bQ:=fun _ _ _ ⟨_,_,h,_⟩=>by subst h;rfl
theorem bQ.mono:gO bQ:=fun _ _ _ _ hk ⟨a0,c0,h,f0⟩=>⟨a0,c0,h,f0.mono (aG.mono _) hk⟩
structure bT where
 number:Int
 bound:Int
 height:Int
 width:Int
 parts:List dW
 deriving DecidableEq,Inhabited
def cE:Hp→List Value→bT→Prop:=fun H cs x=>∃ (ad0:Option Addr) (cap0:Nat),cs=[.int .i64 x.number,.int .i64 x.bound,.int .i64 x.height,.int .i64 x.width,.slice ad0 x.parts.length cap0]∧Sl (bQ) 2 H ad0 cap0 x.parts
theorem cE.one:nQ cE:=fun _ _ _ ⟨_,_,h,_⟩=>by subst h;rfl
theorem cE.mono:gO cE:=fun _ _ _ _ hk ⟨a0,c0,h,f0⟩=>⟨a0,c0,h,f0.mono (bQ.mono) hk⟩
structure aQ where
 number:Int
 day:Int
 kind:Int
 anchor:Int
 text:aF
 new_:Int
 deriving DecidableEq,Inhabited
def aN (x:aQ):List Value:=[.int .i64 x.number,.int .i64 x.day,.int .u8 x.kind,.int .i64 x.anchor,.string (bs x.text),.int .i64 x.new_]
structure gL where
 anchor:Int
 kind:Int
 until_:Int
 deriving DecidableEq,Inhabited
def eJ (x:gL):List Value:=[.int .i64 x.anchor,.int .i64 x.kind,.int .i64 x.until_]
structure aS where
 number:Int
 of:Int
 from_:Int
 to_:Int
 words:List aF
 deriving DecidableEq,Inhabited
def aZ:Hp→List Value→aS→Prop:=fun H cs x=>∃ (ad0:Option Addr) (cap0:Nat),cs=[.int .i64 x.number,.int .i64 x.of,.int .i64 x.from_,.int .i64 x.to_,.slice ad0 x.words.length cap0]∧Sl (aG cL) 1 H ad0 cap0 x.words
theorem aZ.one:nQ aZ:=fun _ _ _ ⟨_,_,h,_⟩=>by subst h;rfl
theorem aZ.mono:gO aZ:=fun _ _ _ _ hk ⟨a0,c0,h,f0⟩=>⟨a0,c0,h,f0.mono (aG.mono _) hk⟩
structure bL where
 words:List aF
 papers:List aS
 deriving DecidableEq,Inhabited
def cK:Hp→List Value→bL→Prop:=fun H cs x=>∃ (ad0:Option Addr) (cap0:Nat) (ad1:Option Addr) (cap1:Nat),cs=[.slice ad0 x.words.length cap0,.slice ad1 x.papers.length cap1]∧Sl (aG cL) 1 H ad0 cap0 x.words∧Sl (aZ) 5 H ad1 cap1 x.papers
theorem cK.one:nQ cK:=fun _ _ _ ⟨_,_,_,_,h,_⟩=>by subst h;rfl
theorem cK.mono:gO cK:=fun _ _ _ _ hk ⟨a0,c0,a1,c1,h,f0,f1⟩=>⟨a0,c0,a1,c1,h,f0.mono (aG.mono _) hk,f1.mono (aZ.mono) hk⟩
structure bE where
 e0:List Int
 e1:List Int
 deriving DecidableEq,Inhabited
def iE:Hp→List Value→bE→Prop:=fun H cs x=>∃ (ad0:Option Addr) (cap0:Nat) (ad1:Option Addr) (cap1:Nat),cs=[.slice ad0 x.e0.length cap0,.slice ad1 x.e1.length cap1]∧Sl (aG (bV .i64)) 1 H ad0 cap0 x.e0∧Sl (aG (bV .i64)) 1 H ad1 cap1 x.e1
theorem iE.one:nQ iE:=fun _ _ _ ⟨_,_,_,_,h,_⟩=>by subst h;rfl
theorem iE.mono:gO iE:=fun _ _ _ _ hk ⟨a0,c0,a1,c1,h,f0,f1⟩=>⟨a0,c0,a1,c1,h,f0.mono (aG.mono _) hk,f1.mono (aG.mono _) hk⟩
structure eW where
 a:Int
 b:Int
 deriving DecidableEq,Inhabited
def eF (x:eW):List Value:=[.int .i64 x.a,.int .i64 x.b]
structure dN where
 holder:Int
 for_:Int
 deriving DecidableEq,Inhabited
def eB (x:dN):List Value:=[.int .i64 x.holder,.int .i64 x.for_]
structure aO where
 members:Int
 ayes:bE
 noes:bE
 pairs:List eW
 proxies:List dN
 rule:Int
 need:Int
 quorum:Int
 tie:Int
 deriving DecidableEq,Inhabited
structure WN where
 a0:Option Addr
 c0:Nat
 a1:Option Addr
 c1:Nat
 a2:Option Addr
 c2:Nat
 a3:Option Addr
 c3:Nat
 a4:Option Addr
 c4:Nat
 a5:Option Addr
 c5:Nat
abbrev cX (x:aO) (z:WN):List Value:=[.int .i64 x.members,.slice z.a0 x.ayes.e0.length z.c0,.slice z.a1 x.ayes.e1.length z.c1,.slice z.a2 x.noes.e0.length z.c2,.slice z.a3 x.noes.e1.length z.c3,.slice z.a4 x.pairs.length z.c4,.slice z.a5 x.proxies.length z.c5,.int .u8 x.rule,.int .i64 x.need,.int .i64 x.quorum,.int .u8 x.tie]
structure iM (H:Hp) (x:aO) (z:WN):Prop where
 f0:Sl (aG (bV .i64)) 1 H z.a0 z.c0 x.ayes.e0
 f1:Sl (aG (bV .i64)) 1 H z.a1 z.c1 x.ayes.e1
 f2:Sl (aG (bV .i64)) 1 H z.a2 z.c2 x.noes.e0
 f3:Sl (aG (bV .i64)) 1 H z.a3 z.c3 x.noes.e1
 f4:Sl (aG eF) 2 H z.a4 z.c4 x.pairs
 f5:Sl (aG eB) 2 H z.a5 z.c5 x.proxies
theorem iM.mono {H K:Hp} {x:aO} {z:WN} (h:iM H x z) (k:H.le K):iM K x z:=⟨h.f0.mono (aG.mono _) k,h.f1.mono (aG.mono _) k,h.f2.mono (aG.mono _) k,h.f3.mono (aG.mono _) k,h.f4.mono (aG.mono _) k,h.f5.mono (aG.mono _) k⟩
theorem iM.lens {H:Hp} {x:aO} {z:WN} (h:iM H x z):x.ayes.e0.length≤9223372036854775807∧x.ayes.e1.length≤9223372036854775807∧x.noes.e0.length≤9223372036854775807∧x.noes.e1.length≤9223372036854775807∧x.pairs.length≤9223372036854775807∧x.proxies.length≤9223372036854775807:=⟨h.f0.len,h.f1.len,h.f2.len,h.f3.len,h.f4.len,h.f5.len⟩
def bG:Hp→List Value→aO→Prop:=fun H cs x=>∃ z,cs=cX x z∧iM H x z
theorem bG.one:nQ bG:=fun _ _ _ ⟨_,h,_⟩=>by subst h;rfl
theorem bG.mono:gO bG:=fun _ _ _ _ hk ⟨z,h,f⟩=>⟨z,h,f.mono hk⟩
structure cZ where
 day:Int
 house:Int
 volume:bT
 bound:Bool
 errata:List aQ
 hides:List gL
 cites:List aF
 motion:bL
 moved:Bool
 choice:List Int
 division:aO
 open_:Bool
 results:List UInt8
 deriving DecidableEq,Inhabited
structure tQ where
 a0:Option Addr
 c0:Nat
 a1:Option Addr
 c1:Nat
 a2:Option Addr
 c2:Nat
 a3:Option Addr
 c3:Nat
 a4:Option Addr
 c4:Nat
 a5:Option Addr
 c5:Nat
 a6:Option Addr
 c6:Nat
 a7:Option Addr
 c7:Nat
 a8:Option Addr
 c8:Nat
 a9:Option Addr
 c9:Nat
 a10:Option Addr
 c10:Nat
 a11:Option Addr
 c11:Nat
 a12:Option Addr
 c12:Nat
 a13:Option Addr
 c13:Nat
abbrev cI (x:cZ) (z:tQ):List Value:=[.int .i64 x.day,.int .i64 x.house,.int .i64 x.volume.number,.int .i64 x.volume.bound,.int .i64 x.volume.height,.int .i64 x.volume.width,.slice z.a0 x.volume.parts.length z.c0,.bool x.bound,.slice z.a1 x.errata.length z.c1,.slice z.a2 x.hides.length z.c2,.slice z.a3 x.cites.length z.c3,.slice z.a4 x.motion.words.length z.c4,.slice z.a5 x.motion.papers.length z.c5,.bool x.moved,.slice z.a6 x.choice.length z.c6,.int .i64 x.division.members,.slice z.a7 x.division.ayes.e0.length z.c7,.slice z.a8 x.division.ayes.e1.length z.c8,.slice z.a9 x.division.noes.e0.length z.c9,.slice z.a10 x.division.noes.e1.length z.c10,.slice z.a11 x.division.pairs.length z.c11,.slice z.a12 x.division.proxies.length z.c12,.int .u8 x.division.rule,.int .i64 x.division.need,.int .i64 x.division.quorum,.int .u8 x.division.tie,.bool x.open_,.slice z.a13 x.results.length z.c13]
structure nD (H:Hp) (x:cZ) (z:tQ):Prop where
 f0:Sl (bQ) 2 H z.a0 z.c0 x.volume.parts
 f1:Sl (aG aN) 6 H z.a1 z.c1 x.errata
 f2:Sl (aG eJ) 3 H z.a2 z.c2 x.hides
 f3:Sl (aG cL) 1 H z.a3 z.c3 x.cites
 f4:Sl (aG cL) 1 H z.a4 z.c4 x.motion.words
 f5:Sl (aZ) 5 H z.a5 z.c5 x.motion.papers
 f6:Sl (aG (bV .i64)) 1 H z.a6 z.c6 x.choice
 f7:Sl (aG (bV .i64)) 1 H z.a7 z.c7 x.division.ayes.e0
 f8:Sl (aG (bV .i64)) 1 H z.a8 z.c8 x.division.ayes.e1
 f9:Sl (aG (bV .i64)) 1 H z.a9 z.c9 x.division.noes.e0
 f10:Sl (aG (bV .i64)) 1 H z.a10 z.c10 x.division.noes.e1
 f11:Sl (aG eF) 2 H z.a11 z.c11 x.division.pairs
 f12:Sl (aG eB) 2 H z.a12 z.c12 x.division.proxies
 f13:Sl (aG cA) 1 H z.a13 z.c13 x.results
theorem nD.mono {H K:Hp} {x:cZ} {z:tQ} (h:nD H x z) (k:H.le K):nD K x z:=⟨h.f0.mono (bQ.mono) k,h.f1.mono (aG.mono _) k,h.f2.mono (aG.mono _) k,h.f3.mono (aG.mono _) k,h.f4.mono (aG.mono _) k,h.f5.mono (aZ.mono) k,h.f6.mono (aG.mono _) k,h.f7.mono (aG.mono _) k,h.f8.mono (aG.mono _) k,h.f9.mono (aG.mono _) k,h.f10.mono (aG.mono _) k,h.f11.mono (aG.mono _) k,h.f12.mono (aG.mono _) k,h.f13.mono (aG.mono _) k⟩
theorem nD.lens {H:Hp} {x:cZ} {z:tQ} (h:nD H x z):x.volume.parts.length≤9223372036854775807∧x.errata.length≤9223372036854775807∧x.hides.length≤9223372036854775807∧x.cites.length≤9223372036854775807∧x.motion.words.length≤9223372036854775807∧x.motion.papers.length≤9223372036854775807∧x.choice.length≤9223372036854775807∧x.division.ayes.e0.length≤9223372036854775807∧x.division.ayes.e1.length≤9223372036854775807∧x.division.noes.e0.length≤9223372036854775807∧x.division.noes.e1.length≤9223372036854775807∧x.division.pairs.length≤9223372036854775807∧x.division.proxies.length≤9223372036854775807∧x.results.length≤9223372036854775807:=⟨h.f0.len,h.f1.len,h.f2.len,h.f3.len,h.f4.len,h.f5.len,h.f6.len,h.f7.len,h.f8.len,h.f9.len,h.f10.len,h.f11.len,h.f12.len,h.f13.len⟩
def oY:Hp→List Value→cZ→Prop:=fun H cs x=>∃ z,cs=cI x z∧nD H x z
theorem oY.one:nQ oY:=fun _ _ _ ⟨_,h,_⟩=>by subst h;rfl
theorem oY.mono:gO oY:=fun _ _ _ _ hk ⟨z,h,f⟩=>⟨z,h,f.mono hk⟩
structure aI where
 state:cZ
 deriving DecidableEq,Inhabited
abbrev CR (x:aI) (z:tQ):List Value:=[.int .i64 x.state.day,.int .i64 x.state.house,.int .i64 x.state.volume.number,.int .i64 x.state.volume.bound,.int .i64 x.state.volume.height,.int .i64 x.state.volume.width,.slice z.a0 x.state.volume.parts.length z.c0,.bool x.state.bound,.slice z.a1 x.state.errata.length z.c1,.slice z.a2 x.state.hides.length z.c2,.slice z.a3 x.state.cites.length z.c3,.slice z.a4 x.state.motion.words.length z.c4,.slice z.a5 x.state.motion.papers.length z.c5,.bool x.state.moved,.slice z.a6 x.state.choice.length z.c6,.int .i64 x.state.division.members,.slice z.a7 x.state.division.ayes.e0.length z.c7,.slice z.a8 x.state.division.ayes.e1.length z.c8,.slice z.a9 x.state.division.noes.e0.length z.c9,.slice z.a10 x.state.division.noes.e1.length z.c10,.slice z.a11 x.state.division.pairs.length z.c11,.slice z.a12 x.state.division.proxies.length z.c12,.int .u8 x.state.division.rule,.int .i64 x.state.division.need,.int .i64 x.state.division.quorum,.int .u8 x.state.division.tie,.bool x.state.open_,.slice z.a13 x.state.results.length z.c13]
structure jI (H:Hp) (x:aI) (z:tQ):Prop where
 f0:Sl (bQ) 2 H z.a0 z.c0 x.state.volume.parts
 f1:Sl (aG aN) 6 H z.a1 z.c1 x.state.errata
 f2:Sl (aG eJ) 3 H z.a2 z.c2 x.state.hides
 f3:Sl (aG cL) 1 H z.a3 z.c3 x.state.cites
 f4:Sl (aG cL) 1 H z.a4 z.c4 x.state.motion.words
 f5:Sl (aZ) 5 H z.a5 z.c5 x.state.motion.papers
 f6:Sl (aG (bV .i64)) 1 H z.a6 z.c6 x.state.choice
 f7:Sl (aG (bV .i64)) 1 H z.a7 z.c7 x.state.division.ayes.e0
 f8:Sl (aG (bV .i64)) 1 H z.a8 z.c8 x.state.division.ayes.e1
 f9:Sl (aG (bV .i64)) 1 H z.a9 z.c9 x.state.division.noes.e0
 f10:Sl (aG (bV .i64)) 1 H z.a10 z.c10 x.state.division.noes.e1
 f11:Sl (aG eF) 2 H z.a11 z.c11 x.state.division.pairs
 f12:Sl (aG eB) 2 H z.a12 z.c12 x.state.division.proxies
 f13:Sl (aG cA) 1 H z.a13 z.c13 x.state.results
theorem jI.mono {H K:Hp} {x:aI} {z:tQ} (h:jI H x z) (k:H.le K):jI K x z:=⟨h.f0.mono (bQ.mono) k,h.f1.mono (aG.mono _) k,h.f2.mono (aG.mono _) k,h.f3.mono (aG.mono _) k,h.f4.mono (aG.mono _) k,h.f5.mono (aZ.mono) k,h.f6.mono (aG.mono _) k,h.f7.mono (aG.mono _) k,h.f8.mono (aG.mono _) k,h.f9.mono (aG.mono _) k,h.f10.mono (aG.mono _) k,h.f11.mono (aG.mono _) k,h.f12.mono (aG.mono _) k,h.f13.mono (aG.mono _) k⟩
theorem jI.lens {H:Hp} {x:aI} {z:tQ} (h:jI H x z):x.state.volume.parts.length≤9223372036854775807∧x.state.errata.length≤9223372036854775807∧x.state.hides.length≤9223372036854775807∧x.state.cites.length≤9223372036854775807∧x.state.motion.words.length≤9223372036854775807∧x.state.motion.papers.length≤9223372036854775807∧x.state.choice.length≤9223372036854775807∧x.state.division.ayes.e0.length≤9223372036854775807∧x.state.division.ayes.e1.length≤9223372036854775807∧x.state.division.noes.e0.length≤9223372036854775807∧x.state.division.noes.e1.length≤9223372036854775807∧x.state.division.pairs.length≤9223372036854775807∧x.state.division.proxies.length≤9223372036854775807∧x.state.results.length≤9223372036854775807:=⟨h.f0.len,h.f1.len,h.f2.len,h.f3.len,h.f4.len,h.f5.len,h.f6.len,h.f7.len,h.f8.len,h.f9.len,h.f10.len,h.f11.len,h.f12.len,h.f13.len⟩
def aU:Hp→List Value→aI→Prop:=fun H cs x=>∃ z,cs=CR x z∧jI H x z
theorem aU.one:nQ aU:=fun _ _ _ ⟨_,h,_⟩=>by subst h;rfl
theorem aU.mono:gO aU:=fun _ _ _ _ hk ⟨z,h,f⟩=>⟨z,h,f.mono hk⟩
structure cN where
 paragraph:aH
 removed:Bool
 deriving DecidableEq,Inhabited
def bX (x:cN):List Value:=[.int .i64 x.paragraph.anchor,.string (bs x.paragraph.text),.bool x.removed]
structure gX where
 volume:bT
 parts:List (List cN)
 deriving DecidableEq,Inhabited
def jJ:Hp→List Value→gX→Prop:=fun H cs x=>∃ (ad0:Option Addr) (cap0:Nat) (ad1:Option Addr) (cap1:Nat),cs=[.int .i64 x.volume.number,.int .i64 x.volume.bound,.int .i64 x.volume.height,.int .i64 x.volume.width,.slice ad0 x.volume.parts.length cap0,.slice ad1 x.parts.length cap1]∧Sl (bQ) 2 H ad0 cap0 x.volume.parts∧Sl (sN (aG bX) 3) 1 H ad1 cap1 x.parts
theorem jJ.one:nQ jJ:=fun _ _ _ ⟨_,_,_,_,h,_⟩=>by subst h;rfl
theorem jJ.mono:gO jJ:=fun _ _ _ _ hk ⟨a0,c0,a1,c1,h,f0,f1⟩=>⟨a0,c0,a1,c1,h,f0.mono (bQ.mono) hk,f1.mono (sN.mono (aG.mono _)) hk⟩
structure oZ where
 anchor:Int
 column:Int
 line:Int
 lines:Int
 deriving DecidableEq,Inhabited
structure cY where
 place:oZ
 day:Int
 number:Int
 deriving DecidableEq,Inhabited
def eH (x:cY):List Value:=[.int .i64 x.place.anchor,.int .i64 x.place.column,.int .i64 x.place.line,.int .i64 x.place.lines,.int .i64 x.day,.int .i64 x.number]
structure dO where
 ayes:Int
 noes:Int
 deriving DecidableEq,Inhabited
def hZ (x:dO):List Value:=[.int .i64 x.ayes,.int .i64 x.noes]
structure bB where
 e0:Bool
 e1:Bool
 e2:Bool
 e3:Bool
 e4:Bool
 e5:Bool
 e6:Bool
 e7:Bool
 e8:Bool
 e9:Bool
 e10:Bool
 e11:Bool
 e12:Bool
 e13:Bool
 e14:Bool
 e15:Bool
 e16:Bool
 e17:Bool
 e18:Bool
 e19:Bool
 e20:Bool
 e21:Bool
 e22:Bool
 e23:Bool
 e24:Bool
 e25:Bool
 e26:Bool
 e27:Bool
 e28:Bool
 e29:Bool
 e30:Bool
 e31:Bool
 e32:Bool
 e33:Bool
 e34:Bool
 e35:Bool
 e36:Bool
 e37:Bool
 e38:Bool
 e39:Bool
 deriving Inhabited
def bA (x:bB):List Value:=[.bool x.e0,.bool x.e1,.bool x.e2,.bool x.e3,.bool x.e4,.bool x.e5,.bool x.e6,.bool x.e7,.bool x.e8,.bool x.e9,.bool x.e10,.bool x.e11,.bool x.e12,.bool x.e13,.bool x.e14,.bool x.e15,.bool x.e16,.bool x.e17,.bool x.e18,.bool x.e19,.bool x.e20,.bool x.e21,.bool x.e22,.bool x.e23,.bool x.e24,.bool x.e25,.bool x.e26,.bool x.e27,.bool x.e28,.bool x.e29,.bool x.e30,.bool x.e31,.bool x.e32,.bool x.e33,.bool x.e34,.bool x.e35,.bool x.e36,.bool x.e37,.bool x.e38,.bool x.e39]
def bB.vals (x:bB):List Bool:=[x.e0,x.e1,x.e2,x.e3,x.e4,x.e5,x.e6,x.e7,x.e8,x.e9,x.e10,x.e11,x.e12,x.e13,x.e14,x.e15,x.e16,x.e17,x.e18,x.e19,x.e20,x.e21,x.e22,x.e23,x.e24,x.e25,x.e26,x.e27,x.e28,x.e29,x.e30,x.e31,x.e32,x.e33,x.e34,x.e35,x.e36,x.e37,x.e38,x.e39]
def bB.get (x:bB) (j:Nat):Bool:=x.vals.getD j default
def bB.set (x:bB) (j:Nat) (v:Bool):bB:=⟨if j=0 then v else x.e0,if j=1 then v else x.e1,if j=2 then v else x.e2,if j=3 then v else x.e3,if j=4 then v else x.e4,if j=5 then v else x.e5,if j=6 then v else x.e6,if j=7 then v else x.e7,if j=8 then v else x.e8,if j=9 then v else x.e9,if j=10 then v else x.e10,if j=11 then v else x.e11,if j=12 then v else x.e12,if j=13 then v else x.e13,if j=14 then v else x.e14,if j=15 then v else x.e15,if j=16 then v else x.e16,if j=17 then v else x.e17,if j=18 then v else x.e18,if j=19 then v else x.e19,if j=20 then v else x.e20,if j=21 then v else x.e21,if j=22 then v else x.e22,if j=23 then v else x.e23,if j=24 then v else x.e24,if j=25 then v else x.e25,if j=26 then v else x.e26,if j=27 then v else x.e27,if j=28 then v else x.e28,if j=29 then v else x.e29,if j=30 then v else x.e30,if j=31 then v else x.e31,if j=32 then v else x.e32,if j=33 then v else x.e33,if j=34 then v else x.e34,if j=35 then v else x.e35,if j=36 then v else x.e36,if j=37 then v else x.e37,if j=38 then v else x.e38,if j=39 then v else x.e39⟩
def bB.zero:bB:=⟨false,false,false,false,false,false,false,false,false,false,false,false,false,false,false,false,false,false,false,false,false,false,false,false,false,false,false,false,false,false,false,false,false,false,false,false,false,false,false,false⟩
theorem bB.vset (x:bB) (v:Bool):∀ (j:Nat),j < 40→(x.set j v).vals=x.vals.set j v
 | 0,_=>rfl
 | 1,_=>rfl
 | 2,_=>rfl
 | 3,_=>rfl
 | 4,_=>rfl
 | 5,_=>rfl
 | 6,_=>rfl
 | 7,_=>rfl
 | 8,_=>rfl
 | 9,_=>rfl
 | 10,_=>rfl
 | 11,_=>rfl
 | 12,_=>rfl
 | 13,_=>rfl
 | 14,_=>rfl
 | 15,_=>rfl
 | 16,_=>rfl
 | 17,_=>rfl
 | 18,_=>rfl
 | 19,_=>rfl
 | 20,_=>rfl
 | 21,_=>rfl
 | 22,_=>rfl
 | 23,_=>rfl
 | 24,_=>rfl
 | 25,_=>rfl
 | 26,_=>rfl
 | 27,_=>rfl
 | 28,_=>rfl
 | 29,_=>rfl
 | 30,_=>rfl
 | 31,_=>rfl
 | 32,_=>rfl
 | 33,_=>rfl
 | 34,_=>rfl
 | 35,_=>rfl
 | 36,_=>rfl
 | 37,_=>rfl
 | 38,_=>rfl
 | 39,_=>rfl
 | n+40,h=>absurd h (by omega)
theorem bB.em (x:bB):bA x=x.vals.map (fun v=>Value.bool v):=rfl
theorem bB.st {x:bB} {j:Nat} {v:Bool} (h:j < 40):(bA x).set j (Value.bool v)=bA (x.set j v):=by rw [bB.em,bB.em,bB.vset x v j h,List.map_set]
theorem bB.at {x:bB} {j:Nat} (h:j < 40):(bA x)[j]?=some (Value.bool (x.get j)):=by
 have h2:x.vals[j]?=some (x.get j):=by unfold bB.get;rw [List.getD_eq_getElem?_getD,List.getElem?_eq_getElem (show j < x.vals.length from h)];rfl
 rw [bB.em,List.getElem?_map,h2];rfl
structure cJ where
 division:aO
 paired:bB
 may:List (List UInt8)
 deriving Inhabited
def eG:Hp→List Value→cJ→Prop:=fun H cs x=>∃ (ad0:Option Addr) (cap0:Nat) (ad1:Option Addr) (cap1:Nat) (NK:Option Addr) (cap2:Nat) (WI:Option Addr) (cap3:Nat) (ad4:Option Addr) (cap4:Nat) (ad5:Option Addr) (cap5:Nat) (hs6:List fH),cs=(eM (eM [.int .i64 x.division.members,.slice ad0 x.division.ayes.e0.length cap0,.slice ad1 x.division.ayes.e1.length cap1,.slice NK x.division.noes.e0.length cap2,.slice WI x.division.noes.e1.length cap3,.slice ad4 x.division.pairs.length cap4,.slice ad5 x.division.proxies.length cap5,.int .u8 x.division.rule,.int .i64 x.division.need,.int .i64 x.division.quorum,.int .u8 x.division.tie] (bA x.paired)) (iC hs6 x.may))∧Sl (aG (bV .i64)) 1 H ad0 cap0 x.division.ayes.e0∧Sl (aG (bV .i64)) 1 H ad1 cap1 x.division.ayes.e1∧Sl (aG (bV .i64)) 1 H NK cap2 x.division.noes.e0∧Sl (aG (bV .i64)) 1 H WI cap3 x.division.noes.e1∧Sl (aG eF) 2 H ad4 cap4 x.division.pairs∧Sl (aG eB) 2 H ad5 cap5 x.division.proxies∧jU (aG cA) 1 40 H hs6 x.may
theorem eG.mono:gO eG:=fun _ _ _ _ hk ⟨a0,c0,a1,c1,a2,c2,a3,c3,a4,c4,a5,c5,s6,h,f0,f1,f2,f3,f4,f5,f6⟩=>⟨a0,c0,a1,c1,a2,c2,a3,c3,a4,c4,a5,c5,s6,h,f0.mono (aG.mono _) hk,f1.mono (aG.mono _) hk,f2.mono (aG.mono _) hk,f3.mono (aG.mono _) hk,f4.mono (aG.mono _) hk,f5.mono (aG.mono _) hk,f6.mono (aG.mono _) hk⟩
structure aP where
 e0:Int
 e1:Int
 e2:Int
 e3:Int
 e4:Int
 e5:Int
 e6:Int
 e7:Int
 e8:Int
 e9:Int
 e10:Int
 e11:Int
 e12:Int
 e13:Int
 e14:Int
 e15:Int
 e16:Int
 e17:Int
 e18:Int
 e19:Int
 e20:Int
 e21:Int
 e22:Int
 e23:Int
 e24:Int
 e25:Int
 e26:Int
 e27:Int
 e28:Int
 e29:Int
 e30:Int
 e31:Int
 e32:Int
 e33:Int
 e34:Int
 e35:Int
 e36:Int
 e37:Int
 e38:Int
 e39:Int
 deriving Inhabited
def bJ (x:aP):List Value:=[.int .u8 x.e0,.int .u8 x.e1,.int .u8 x.e2,.int .u8 x.e3,.int .u8 x.e4,.int .u8 x.e5,.int .u8 x.e6,.int .u8 x.e7,.int .u8 x.e8,.int .u8 x.e9,.int .u8 x.e10,.int .u8 x.e11,.int .u8 x.e12,.int .u8 x.e13,.int .u8 x.e14,.int .u8 x.e15,.int .u8 x.e16,.int .u8 x.e17,.int .u8 x.e18,.int .u8 x.e19,.int .u8 x.e20,.int .u8 x.e21,.int .u8 x.e22,.int .u8 x.e23,.int .u8 x.e24,.int .u8 x.e25,.int .u8 x.e26,.int .u8 x.e27,.int .u8 x.e28,.int .u8 x.e29,.int .u8 x.e30,.int .u8 x.e31,.int .u8 x.e32,.int .u8 x.e33,.int .u8 x.e34,.int .u8 x.e35,.int .u8 x.e36,.int .u8 x.e37,.int .u8 x.e38,.int .u8 x.e39]
def aP.vals (x:aP):List Int:=[x.e0,x.e1,x.e2,x.e3,x.e4,x.e5,x.e6,x.e7,x.e8,x.e9,x.e10,x.e11,x.e12,x.e13,x.e14,x.e15,x.e16,x.e17,x.e18,x.e19,x.e20,x.e21,x.e22,x.e23,x.e24,x.e25,x.e26,x.e27,x.e28,x.e29,x.e30,x.e31,x.e32,x.e33,x.e34,x.e35,x.e36,x.e37,x.e38,x.e39]
def aP.get (x:aP) (j:Nat):Int:=x.vals.getD j default
def aP.set (x:aP) (j:Nat) (v:Int):aP:=⟨if j=0 then v else x.e0,if j=1 then v else x.e1,if j=2 then v else x.e2,if j=3 then v else x.e3,if j=4 then v else x.e4,if j=5 then v else x.e5,if j=6 then v else x.e6,if j=7 then v else x.e7,if j=8 then v else x.e8,if j=9 then v else x.e9,if j=10 then v else x.e10,if j=11 then v else x.e11,if j=12 then v else x.e12,if j=13 then v else x.e13,if j=14 then v else x.e14,if j=15 then v else x.e15,if j=16 then v else x.e16,if j=17 then v else x.e17,if j=18 then v else x.e18,if j=19 then v else x.e19,if j=20 then v else x.e20,if j=21 then v else x.e21,if j=22 then v else x.e22,if j=23 then v else x.e23,if j=24 then v else x.e24,if j=25 then v else x.e25,if j=26 then v else x.e26,if j=27 then v else x.e27,if j=28 then v else x.e28,if j=29 then v else x.e29,if j=30 then v else x.e30,if j=31 then v else x.e31,if j=32 then v else x.e32,if j=33 then v else x.e33,if j=34 then v else x.e34,if j=35 then v else x.e35,if j=36 then v else x.e36,if j=37 then v else x.e37,if j=38 then v else x.e38,if j=39 then v else x.e39⟩
def aP.zero:aP:=⟨0,0,0,0,0,0,0,0,0,0,0,0,0,0,0,0,0,0,0,0,0,0,0,0,0,0,0,0,0,0,0,0,0,0,0,0,0,0,0,0⟩
theorem aP.vset (x:aP) (v:Int):∀ (j:Nat),j < 40→(x.set j v).vals=x.vals.set j v
 | 0,_=>rfl
 | 1,_=>rfl
 | 2,_=>rfl
 | 3,_=>rfl
 | 4,_=>rfl
 | 5,_=>rfl
 | 6,_=>rfl
 | 7,_=>rfl
 | 8,_=>rfl
 | 9,_=>rfl
 | 10,_=>rfl
 | 11,_=>rfl
 | 12,_=>rfl
 | 13,_=>rfl
 | 14,_=>rfl
 | 15,_=>rfl
 | 16,_=>rfl
 | 17,_=>rfl
 | 18,_=>rfl
 | 19,_=>rfl
 | 20,_=>rfl
 | 21,_=>rfl
 | 22,_=>rfl
 | 23,_=>rfl
 | 24,_=>rfl
 | 25,_=>rfl
 | 26,_=>rfl
 | 27,_=>rfl
 | 28,_=>rfl
 | 29,_=>rfl
 | 30,_=>rfl
 | 31,_=>rfl
 | 32,_=>rfl
 | 33,_=>rfl
 | 34,_=>rfl
 | 35,_=>rfl
 | 36,_=>rfl
 | 37,_=>rfl
 | 38,_=>rfl
 | 39,_=>rfl
 | n+40,h=>absurd h (by omega)
theorem aP.em (x:aP):bJ x=x.vals.map (fun v=>Value.int .u8 v):=rfl
theorem aP.st {x:aP} {j:Nat} {v:Int} (h:j < 40):(bJ x).set j (Value.int .u8 v)=bJ (x.set j v):=by rw [aP.em,aP.em,aP.vset x v j h,List.map_set]
theorem aP.at {x:aP} {j:Nat} (h:j < 40):(bJ x)[j]?=some (Value.int .u8 (x.get j)):=by
 have h2:x.vals[j]?=some (x.get j):=by unfold aP.get;rw [List.getD_eq_getElem?_getD,List.getElem?_eq_getElem (show j < x.vals.length from h)];rfl
 rw [aP.em,List.getElem?_map,h2];rfl
structure bD where
 number:Int
 index:Int
 deriving DecidableEq,Inhabited
def bZ (x:bD):List Value:=[.int .i64 x.number,.int .i64 x.index]
structure bU where
 many:Int
 text:Bool
 do_:Option Nat
 deriving DecidableEq,Inhabited
def dT (x:bU):List Value:=[.int .i64 x.many,.bool x.text,qG x.do_]
structure dD where
 e0:Int
 e1:Int
 e2:Int
 e3:Int
 e4:Int
 e5:Int
 deriving Inhabited
def fN (x:dD):List Value:=[.int .u8 x.e0,.int .u8 x.e1,.int .u8 x.e2,.int .u8 x.e3,.int .u8 x.e4,.int .u8 x.e5]
def dD.vals (x:dD):List Int:=[x.e0,x.e1,x.e2,x.e3,x.e4,x.e5]
def dD.get (x:dD) (j:Nat):Int:=x.vals.getD j default
def dD.set (x:dD) (j:Nat) (v:Int):dD:=⟨if j=0 then v else x.e0,if j=1 then v else x.e1,if j=2 then v else x.e2,if j=3 then v else x.e3,if j=4 then v else x.e4,if j=5 then v else x.e5⟩
def dD.zero:dD:=⟨0,0,0,0,0,0⟩
theorem dD.vset (x:dD) (v:Int):∀ (j:Nat),j < 6→(x.set j v).vals=x.vals.set j v
 | 0,_=>rfl
 | 1,_=>rfl
 | 2,_=>rfl
 | 3,_=>rfl
 | 4,_=>rfl
 | 5,_=>rfl
 | n+6,h=>absurd h (by omega)
theorem dD.em (x:dD):fN x=x.vals.map (fun v=>Value.int .u8 v):=rfl
theorem dD.st {x:dD} {j:Nat} {v:Int} (h:j < 6):(fN x).set j (Value.int .u8 v)=fN (x.set j v):=by rw [dD.em,dD.em,dD.vset x v j h,List.map_set]
theorem dD.at {x:dD} {j:Nat} (h:j < 6):(fN x)[j]?=some (Value.int .u8 (x.get j)):=by
 have h2:x.vals[j]?=some (x.get j):=by unfold dD.get;rw [List.getD_eq_getElem?_getD,List.getElem?_eq_getElem (show j < x.vals.length from h)];rfl
 rw [dD.em,List.getElem?_map,h2];rfl
theorem mixed:prog.follows .mixedOrders=true:=by kernel_rfl
theorem B27:dH prog 27 [.int .i64 0,.int .i64 0,.int .i64 0,.int .i64 0,.slice none 0 0] #[(0,1),(1,1),(2,1),(3,1),(4,1)]:=⟨⟨.agg #[.int .i64 0,.int .i64 0,.int .i64 0,.int .i64 0,.slice none 0 0],rfl,zeroValue27⟩,⟨_,underlying27,fun _=>by kernel_rfl⟩⟩
theorem B32:dH prog 32 [.slice none 0 0,.slice none 0 0] #[(0,1),(1,1)]:=⟨⟨.agg #[.slice none 0 0,.slice none 0 0],rfl,zeroValue32⟩,⟨_,underlying32,fun _=>by kernel_rfl⟩⟩
theorem B38:dH prog 38 [.int .i64 0,.slice none 0 0,.slice none 0 0,.slice none 0 0,.slice none 0 0,.slice none 0 0,.slice none 0 0,.int .u8 0,.int .i64 0,.int .i64 0,.int .u8 0] #[(0,1),(1,2),(3,2),(5,1),(6,1),(7,1),(8,1),(9,1),(10,1)]:=⟨⟨.agg #[.int .i64 0,.slice none 0 0,.slice none 0 0,.slice none 0 0,.slice none 0 0,.slice none 0 0,.slice none 0 0,.int .u8 0,.int .i64 0,.int .i64 0,.int .u8 0],rfl,zeroValue38⟩,⟨_,underlying38,fun _=>by kernel_rfl⟩⟩
theorem B41:dH prog 41 [.int .i64 0,.int .i64 0,.int .i64 0,.int .i64 0,.int .i64 0,.int .i64 0,.slice none 0 0,.bool false,.slice none 0 0,.slice none 0 0,.slice none 0 0,.slice none 0 0,.slice none 0 0,.bool false,.slice none 0 0,.int .i64 0,.slice none 0 0,.slice none 0 0,.slice none 0 0,.slice none 0 0,.slice none 0 0,.slice none 0 0,.int .u8 0,.int .i64 0,.int .i64 0,.int .u8 0,.bool false,.slice none 0 0] #[(0,1),(1,1),(2,5),(7,1),(8,1),(9,1),(10,1),(11,2),(13,1),(14,1),(15,11),(26,1),(27,1)]:=⟨⟨.agg #[.int .i64 0,.int .i64 0,.int .i64 0,.int .i64 0,.int .i64 0,.int .i64 0,.slice none 0 0,.bool false,.slice none 0 0,.slice none 0 0,.slice none 0 0,.slice none 0 0,.slice none 0 0,.bool false,.slice none 0 0,.int .i64 0,.slice none 0 0,.slice none 0 0,.slice none 0 0,.slice none 0 0,.slice none 0 0,.slice none 0 0,.int .u8 0,.int .i64 0,.int .i64 0,.int .u8 0,.bool false,.slice none 0 0],rfl,zeroValue41⟩,⟨_,underlying41,fun _=>by kernel_rfl⟩⟩
theorem B54:dH prog 54 [.int .i64 0,.slice none 0 0] #[(0,1),(1,1)]:=⟨⟨.agg #[.int .i64 0,.slice none 0 0],rfl,zeroValue54⟩,⟨_,underlying54,fun _=>by kernel_rfl⟩⟩
theorem B56:dH prog 56 [.int .i64 0,.int .i64 0] #[(0,1),(1,1)]:=⟨⟨.agg #[.int .i64 0,.int .i64 0],rfl,zeroValue56⟩,⟨_,underlying56,fun _=>by kernel_rfl⟩⟩
theorem B58:dH prog 58 [.int .i64 0,.string (bs [])] #[(0,1),(1,1)]:=⟨⟨.agg #[.int .i64 0,.string (bs [])],rfl,zeroValue58⟩,⟨_,underlying58,fun _=>by kernel_rfl⟩⟩
theorem B66:dH prog 66 [.int .i64 0,.int .i64 0] #[(0,1),(1,1)]:=⟨⟨.agg #[.int .i64 0,.int .i64 0],rfl,zeroValue66⟩,⟨_,underlying66,fun _=>by kernel_rfl⟩⟩
theorem B81:dH prog 81 [.int .i64 0,.int .i64 0,.int .i64 0,.int .i64 0,.int .i64 0,.int .i64 0,.slice none 0 0,.bool false,.slice none 0 0,.slice none 0 0,.slice none 0 0,.slice none 0 0,.slice none 0 0,.bool false,.slice none 0 0,.int .i64 0,.slice none 0 0,.slice none 0 0,.slice none 0 0,.slice none 0 0,.slice none 0 0,.slice none 0 0,.int .u8 0,.int .i64 0,.int .i64 0,.int .u8 0,.bool false,.slice none 0 0] #[(0,28)]:=⟨⟨.agg #[.int .i64 0,.int .i64 0,.int .i64 0,.int .i64 0,.int .i64 0,.int .i64 0,.slice none 0 0,.bool false,.slice none 0 0,.slice none 0 0,.slice none 0 0,.slice none 0 0,.slice none 0 0,.bool false,.slice none 0 0,.int .i64 0,.slice none 0 0,.slice none 0 0,.slice none 0 0,.slice none 0 0,.slice none 0 0,.slice none 0 0,.int .u8 0,.int .i64 0,.int .i64 0,.int .u8 0,.bool false,.slice none 0 0],rfl,zeroValue81⟩,⟨_,underlying81,fun _=>by kernel_rfl⟩⟩
theorem B92:dH prog 92 [.int .i64 0,.int .i64 0,.int .i64 0,.int .i64 0,.slice none 0 0] #[(0,1),(1,1),(2,1),(3,1),(4,1)]:=⟨⟨.agg #[.int .i64 0,.int .i64 0,.int .i64 0,.int .i64 0,.slice none 0 0],rfl,zeroValue92⟩,⟨_,underlying92,fun _=>by kernel_rfl⟩⟩
theorem B97:dH prog 97 (eM (eM [.int .i64 0,.slice none 0 0,.slice none 0 0,.slice none 0 0,.slice none 0 0,.slice none 0 0,.slice none 0 0,.int .u8 0,.int .i64 0,.int .i64 0,.int .u8 0] (bA bB.zero)) (iC (List.replicate 40 ((none,0):fH)) (List.replicate 40 ([]:List UInt8)))) #[(0,11),(11,40),(51,40)]:=⟨⟨.agg (eM (eM [.int .i64 0,.slice none 0 0,.slice none 0 0,.slice none 0 0,.slice none 0 0,.slice none 0 0,.slice none 0 0,.int .u8 0,.int .i64 0,.int .i64 0,.int .u8 0] (bA bB.zero)) (iC (List.replicate 40 ((none,0):fH)) (List.replicate 40 ([]:List UInt8)))).toArray,rfl,zeroValue97⟩,⟨_,underlying97,fun _=>by kernel_rfl⟩⟩
theorem B104:tH prog 104 5 (bJ aP.zero) 1:=⟨⟨.agg (bJ aP.zero).toArray,rfl,zeroValue104⟩,⟨_,underlying104⟩,sizeOf5⟩
theorem B132:dH prog 132 [.nilFunc] #[(0,1)]:=⟨⟨.agg #[.nilFunc],rfl,zeroValue132⟩,⟨_,underlying132,fun _=>by kernel_rfl⟩⟩
theorem B149:dH prog 149 [.int .i64 0] #[(0,1)]:=⟨⟨.agg #[.int .i64 0],rfl,zeroValue149⟩,⟨_,underlying149,fun _=>by kernel_rfl⟩⟩
theorem B154:dH prog 154 [.int .i64 0,.bool false,.nilFunc] #[(0,1),(1,1),(2,1)]:=⟨⟨.agg #[.int .i64 0,.bool false,.nilFunc],rfl,zeroValue154⟩,⟨_,underlying154,fun _=>by kernel_rfl⟩⟩
theorem B164:dH prog 164 [.int .i64 0,.nilFunc] #[(0,1),(1,1)]:=⟨⟨.agg #[.int .i64 0,.nilFunc],rfl,zeroValue164⟩,⟨_,underlying164,fun _=>by kernel_rfl⟩⟩
theorem B182:dH prog 182 [.int .i64 0,.int .i64 0] #[(0,1),(1,1)]:=⟨⟨.agg #[.int .i64 0,.int .i64 0],rfl,zeroValue182⟩,⟨_,underlying182,fun _=>by kernel_rfl⟩⟩
theorem B217:dH prog 217 [.int .i64 0,.int .i64 0,.int .u8 0,.int .i64 0,.string (bs []),.int .i64 0] #[(0,1),(1,1),(2,1),(3,1),(4,1),(5,1)]:=⟨⟨.agg #[.int .i64 0,.int .i64 0,.int .u8 0,.int .i64 0,.string (bs []),.int .i64 0],rfl,zeroValue217⟩,⟨_,underlying217,fun _=>by kernel_rfl⟩⟩
theorem B226:dH prog 226 [.int .i64 0,.int .i64 0,.int .i64 0] #[(0,1),(1,1),(2,1)]:=⟨⟨.agg #[.int .i64 0,.int .i64 0,.int .i64 0],rfl,zeroValue226⟩,⟨_,underlying226,fun _=>by kernel_rfl⟩⟩
theorem B257:dH prog 257 [.int .i64 0,.int .i64 0,.int .i64 0,.int .i64 0] #[(0,1),(1,1),(2,1),(3,1)]:=⟨⟨.agg #[.int .i64 0,.int .i64 0,.int .i64 0,.int .i64 0],rfl,zeroValue257⟩,⟨_,underlying257,fun _=>by kernel_rfl⟩⟩
theorem B259:dH prog 259 [.int .i64 0,.int .i64 0,.int .i64 0,.int .i64 0,.int .i64 0,.int .i64 0] #[(0,4),(4,1),(5,1)]:=⟨⟨.agg #[.int .i64 0,.int .i64 0,.int .i64 0,.int .i64 0,.int .i64 0,.int .i64 0],rfl,zeroValue259⟩,⟨_,underlying259,fun _=>by kernel_rfl⟩⟩
theorem B265:dH prog 265 [.int .i64 0,.string (bs []),.bool false] #[(0,2),(2,1)]:=⟨⟨.agg #[.int .i64 0,.string (bs []),.bool false],rfl,zeroValue265⟩,⟨_,underlying265,fun _=>by kernel_rfl⟩⟩
theorem B269:dH prog 269 [.int .i64 0,.int .i64 0,.int .i64 0,.int .i64 0,.slice none 0 0,.slice none 0 0] #[(0,5),(5,1)]:=⟨⟨.agg #[.int .i64 0,.int .i64 0,.int .i64 0,.int .i64 0,.slice none 0 0,.slice none 0 0],rfl,zeroValue269⟩,⟨_,underlying269,fun _=>by kernel_rfl⟩⟩
theorem B308:dH prog 308 [.nilFunc] #[(0,1)]:=⟨⟨.agg #[.nilFunc],rfl,zeroValue308⟩,⟨_,underlying308,fun _=>by kernel_rfl⟩⟩
theorem E22:dC prog 22 9 [.string (bs [])] 1 16:=⟨underlying22,⟨_,.string (bs []),dX type9,rfl,rfl,rfl,rfl⟩,rfl,by decide⟩
theorem E25:dC prog 25 54 [.int .i64 0,.slice none 0 0] 2 32:=⟨underlying25,⟨_,.agg #[.int .i64 0,.slice none 0 0],dX type54,rfl,rfl,rfl,rfl⟩,rfl,by decide⟩
theorem E28:dC prog 28 217 [.int .i64 0,.int .i64 0,.int .u8 0,.int .i64 0,.string (bs []),.int .i64 0] 6 56:=⟨underlying28,⟨_,.agg #[.int .i64 0,.int .i64 0,.int .u8 0,.int .i64 0,.string (bs []),.int .i64 0],dX type217,rfl,rfl,rfl,rfl⟩,rfl,by decide⟩
theorem E29:dC prog 29 226 [.int .i64 0,.int .i64 0,.int .i64 0] 3 24:=⟨underlying29,⟨_,.agg #[.int .i64 0,.int .i64 0,.int .i64 0],dX type226,rfl,rfl,rfl,rfl⟩,rfl,by decide⟩
theorem E30:dC prog 30 92 [.int .i64 0,.int .i64 0,.int .i64 0,.int .i64 0,.slice none 0 0] 5 56:=⟨underlying30,⟨_,.agg #[.int .i64 0,.int .i64 0,.int .i64 0,.int .i64 0,.slice none 0 0],dX type92,rfl,rfl,rfl,rfl⟩,rfl,by decide⟩
theorem E33:dC prog 33 3 [.int .i64 0] 1 8:=⟨underlying33,⟨_,.int .i64 0,dX type3,rfl,rfl,rfl,rfl⟩,rfl,by decide⟩
theorem E35:dC prog 35 182 [.int .i64 0,.int .i64 0] 2 16:=⟨underlying35,⟨_,.agg #[.int .i64 0,.int .i64 0],dX type182,rfl,rfl,rfl,rfl⟩,rfl,by decide⟩
theorem E39:dC prog 39 5 [.int .u8 0] 1 1:=⟨underlying39,⟨_,.int .u8 0,dX type5,rfl,rfl,rfl,rfl⟩,rfl,by decide⟩
theorem E42:dC prog 42 43 [.int .i64 0] 1 8:=⟨underlying42,⟨_,.int .i64 0,dX type43,rfl,rfl,rfl,rfl⟩,rfl,by decide⟩
theorem E49:dC prog 49 56 [.int .i64 0,.int .i64 0] 2 16:=⟨underlying49,⟨_,.agg #[.int .i64 0,.int .i64 0],dX type56,rfl,rfl,rfl,rfl⟩,rfl,by decide⟩
theorem E52:dC prog 52 58 [.int .i64 0,.string (bs [])] 2 24:=⟨underlying52,⟨_,.agg #[.int .i64 0,.string (bs [])],dX type58,rfl,rfl,rfl,rfl⟩,rfl,by decide⟩
theorem E133:dC prog 133 132 [.nilFunc] 1 8:=⟨underlying133,⟨_,.agg #[.nilFunc],dX type132,rfl,rfl,rfl,rfl⟩,rfl,by decide⟩
theorem E160:dC prog 160 164 [.int .i64 0,.nilFunc] 2 16:=⟨underlying160,⟨_,.agg #[.int .i64 0,.nilFunc],dX type164,rfl,rfl,rfl,rfl⟩,rfl,by decide⟩
theorem E254:dC prog 254 259 [.int .i64 0,.int .i64 0,.int .i64 0,.int .i64 0,.int .i64 0,.int .i64 0] 6 48:=⟨underlying254,⟨_,.agg #[.int .i64 0,.int .i64 0,.int .i64 0,.int .i64 0,.int .i64 0,.int .i64 0],dX type259,rfl,rfl,rfl,rfl⟩,rfl,by decide⟩
theorem E266:dC prog 266 265 [.int .i64 0,.string (bs []),.bool false] 3 32:=⟨underlying266,⟨_,.agg #[.int .i64 0,.string (bs []),.bool false],dX type265,rfl,rfl,rfl,rfl⟩,rfl,by decide⟩
theorem E267:dC prog 267 266 [.slice none 0 0] 1 24:=⟨underlying267,⟨_,.slice none 0 0,dX type266,rfl,rfl,rfl,rfl⟩,rfl,by decide⟩
theorem E301:dC prog 301 20 [.nilIface] 1 16:=⟨underlying301,⟨_,.nilIface,dX type20,rfl,rfl,rfl,rfl⟩,rfl,by decide⟩
theorem E309:dC prog 309 308 [.nilFunc] 1 8:=⟨underlying309,⟨_,.agg #[.nilFunc],dX type308,rfl,rfl,rfl,rfl⟩,rfl,by decide⟩
end T12
namespace Go.Proofs
open Go Go.Shelf Go.RowKit Pk
theorem mA {w:World} {q:Addr} {vs:List Value} (h:aL (hp w) q vs) (hv:0 < vs.length):∃ cs t z,w.heap[q.block]?=some (.cells cs t z)∧cs.size≠0:=by
 obtain ⟨c,t,z,h3,h4⟩:=h.2 0 _ (List.getElem?_eq_getElem hv);refine ⟨c,t,z,h3,fun h0=>?_⟩;have:=(Array.getElem?_eq_some_iff.1 h4).1;omega
theorem mB {P:Program} (w:World) (tS tR e:TypeId) (ht:P.underlying tS=some (.slice e)) (size:Nat) (hz:∀ w,(Go.sizeOf e).run P w=.ok size w) (a b:Addr) (la ca lb cb:Nat) (hne:a.block≠b.block)
  {ca':Array Value} {ta:TypeId} {za:Nat×Nat} (ha:w.heap[a.block]?=some (.cells ca' ta za)) (ha0:ca'.size≠0) {cur:Array Value} {te:TypeId} (hb:w.heap[b.block]?=some (.cells cur te (0,0))) (hc:cur.size≠0) :
  (Extern.SlicesOverlaps.overlaps #[tS,tS] #[tR] #[.slice (some a) la ca,.slice (some b) lb cb]).run P w=.ok (.bool false) w:=by
 have hnb:(a.block != b.block)=true:=by simpa using hne
 have hnb':(a.block==b.block)=false:=by simpa using hne
 have hf:∀ x:Addr,x.block=b.block→w.frozen? x=false:=fun x hx=>by simp [World.frozen?,hx,hb]
 have hsb:w.shape? b.block=some (te,cur.size):=by simp [World.shape?,hb]
 have hva:w.shape? a.block=some (ta,ca'.size):=by simp [World.shape?,ha]
 change Sem.run P (α:=Value) (do
  let some t := (#[tS, tS] : Array TypeId)[0]? | stuck "slices.overlaps: no parameter types"
  let .slice elem ← underlying t | stuck "slices.overlaps: slice type expected"
  let size ← sizeOf elem
  match (some a:Option Addr),(some b:Option Addr) with
  | some a,some b =>
   if la=0∨lb=0∨size=0 then pure (Value.bool false)
   else if a.block != b.block&&(← frozen a)&&(← frozen b) then unsupported .addressObserved
   else do
    if a.block != b.block then do
     noView a;noView b
     if ← mayBeOne a b then return Value.bool ((← choose (.extern "sameAddr.stringBytes" 2)) == 1)
    pure (Value.bool (a.block==b.block&&a.off < b.off+lb*size&&b.off < a.off+la*size))
  | _,_=>pure (Value.bool false)) w=_
 by_cases h0:la=0∨lb=0∨size=0
 ·simp [run_underlying ht,hz,h0]
 have e1:=hf b rfl;have e2:=hf { block:=b.block,off:=cur.size } rfl;have e3:(match some (te,cur.size) with | some (_,0)=>true | _=>false)=false:=by
  cases h:cur.size with
  | zero=>exact absurd h hc
  | succ n=>rfl
 have e4:(match some (ta,ca'.size) with | some (_,0)=>true | _=>false)=false:=by
  cases h:ca'.size with
  | zero=>exact absurd h ha0
  | succ n=>rfl
 cases hfa:w.frozen? a <;> cases hfe:w.frozen? { block:=a.block,off:=ca'.size } <;>
  simp [run_underlying ht,hz,h0,hnb,hnb',frozen,noView,viewAt,mayBeOne,stringish,shape,Sem.run,hva,hsb,e1,e2,hfa,hfe,hc,e4,ha0]
theorem gI {P:Program} (w:World) (t ty el k:Nat) (hu:P.underlying t=some (.slice el)) (hz:∀ w,(Go.sizeOf el).run P w=.ok k w) (b o dLen dCap:Nat) (a:Addr) (sLen sCap:Nat) (cs:List Value) {cur:Array Value} {te:TypeId} (hb:w.heap[b]?=some (.cells cur te (0,0)))
  (hn:cs.length=Nat.min sLen dLen*k) (hsrc:∀ j v,cs[j]?=some v→w.cell? (a.add j)=some v) (hfit:o+cs.length≤cur.size) (h1:∀ v∈cs,v.oneCell'=true) :
  (Builtin.copy_ #[t,t] ty #[.slice (some ⟨b,o,none⟩) dLen dCap,.slice (some a) sLen sCap]).run P w=.ok (goInt (Nat.min sLen dLen)) (w.setRow b (cur.toList.take o++cs++cur.toList.drop (o+cs.length)).toArray):=by
 have hl:=run_loadCells_list (P:=P) (w:=w) a cs hsrc;have hst:=run_storeCells_at P b o te cs 0 cur w hb (by simpa using hfit) h1;rw [hn] at hl;simp [Builtin.copy_,run_underlying hu,Builtin.lenOf,Builtin.firstCells,hz,hl];simp at hst;rw [hst];rfl
set_option maxHeartbeats 4000000 in
set_option maxRecDepth 100000 in
theorem Tryz.ins_end {w:World} {ad:Option Addr} {cap nn:Nat} {cs:List Value} {q:Addr} {vcap:Nat} {vs:List Value} (hr:(aR.row ad cap 265 3 nn cs).holds w) (hb:nn+1≤1073741824) (hv:aL (hp w) q vs) (hvl:vs.length=3) (h1:vs.all (·.oneCell')=true) :
  Calls Tryz.prog 274 #[.slice ad nn cap,.int .i64 nn,.slice (some q) 1 vcap] w fun e w'=>∃ ad' cap',e=.returned (.slice ad' (nn+1) cap')∧(aR.row ad' cap' 265 3 (nn+1) (cs++vs)).holds w'∧kC w w' (ad.map (·.block))∧∀ b,ad'.map (·.block)=some b→ad.map (·.block)=some b∨w.heap.size≤b:=by
 obtain ⟨ad',cap',w',hrun,hh,hg,hf⟩:=lG (P:=Tryz.prog) 266 T12.E266 hr (sad:=some q) (m:=1) (c:=vcap) (news:=vs) ⟨by omega,h1,.inr ⟨q,rfl,hv⟩⟩ (by unfold maxLen;omega) (by omega);have hd:=mQ _ hrun;have hcap:=(iZ hr).2;refine Calls.mono (R:=fun e w''=>e=.returned (.slice ad' (nn+1) cap')∧w''=w') ?_ fun e w'' hw=>by
  obtain ⟨rfl,rfl⟩:=hw;exact ⟨ad',cap',rfl,hh,⟨hg,hd⟩,hf⟩
 clear hf hh hg hd hr hv h1;by_cases hc:cap=nn
 ·subst hc
  go_enter Tryz.func274,Tryz.ntmps274
  go_wp2_with (at_builtin;refine Lib.wpList_append_run _ rfl _ _ _ _ rfl _ _ rfl rfl _ _ hrun ?_)
  go_ret
  exact ⟨rfl,rfl⟩
 go_enter Tryz.func274,Tryz.ntmps274
 go_wp2_with (at_builtin;refine Lib.wpList_append_run _ rfl _ _ _ _ rfl _ _ rfl rfl _ _ hrun ?_)
 go_ret
 exact ⟨rfl,rfl⟩
theorem gJ {w:World} {b:Nat} {cur:Array Value} {t:TypeId} {z:Nat×Nat} (h:w.heap[b]?=some (.cells cur t z)) {j:Nat} {v:Value} (hv:cur.toList[j]?=some v):w.cell? ⟨b,j,none⟩=some v:=by
 rw [Array.getElem?_toList] at hv;simp [World.cell?,h,hv]
theorem jK (b o i:Nat):(⟨b,o,none⟩:Addr).add i=⟨b,o+i,none⟩:=dI (ad:=⟨b,o,none⟩) rfl i
set_option maxHeartbeats 4000000 in
set_option maxRecDepth 100000 in
theorem Tryz.ins_room {w:World} {b cap nn j:Nat} {cs:List Value} {q:Addr} {vcap:Nat} {vs:List Value} {cur:Array Value} (hw:w.heap[b]?=some (.cells cur 265 (0,0))) (hcs:cur.size=cap*3) (ht:cur.toList.take (nn*3)=cs) (hcm:cap≤9223372036854775807) (hj:j < nn) (hroom:nn+1≤cap) (hb:nn+1≤1073741824) (hv:aL (hp w) q vs) (hvl:vs.length=3) (h1:vs.all (·.oneCell')=true) (h2:cs.all (·.oneCell')=true) (hne:b≠q.block) :
  Calls Tryz.prog 274 #[.slice (some ⟨b,0,none⟩) nn cap,.int .i64 j,.slice (some q) 1 vcap] w fun e w'=>e=.returned (.slice (some ⟨b,0,none⟩) (nn+1) cap)∧w'=(w.drew.setRow b (cur.toList.take ((j+1)*3)++cs.drop (j*3)++cur.toList.drop ((nn+1)*3)).toArray).setRow b (cs.take (j*3)++vs++cs.drop (j*3)++cur.toList.drop ((nn+1)*3)).toArray:=by
 obtain ⟨c0,t0,z0,hq0,hq1⟩:=mA hv (by omega);have hcl:cs.length=nn*3:=by rw [← ht,List.length_take,Array.length_toList,hcs];omega
 have hcur:cur.toList=cs++cur.toList.drop (nn*3):=by rw [← ht,List.take_append_drop]
 have hov:∀ lb cb,(callFunc 290 #[.slice (some q) 1 vcap,.slice (some ⟨b,(j+1)*3,none⟩) lb cb]).run Tryz.prog w=.ok (.value (.bool false)) w:=fun lb cb=>by
  rw [run_callFunc_extern Tryz.func290 (by kernel_rfl) (by kernel_rfl) (by kernel_rfl) (e:=Extern.SlicesOverlaps.overlaps #[266,266] #[4]) (by kernel_rfl),
   mB w 266 4 265 Tryz.underlying266 3 Tryz.sizeOf265 q ⟨b,(j+1)*3,none⟩ 1 vcap lb cb (fun e=>hne e.symm) hq0 hq1 hw (by omega)]
  rfl
 have hcp1:∀ ty dc sc,(Builtin.copy_ #[266,266] ty #[.slice (some ⟨b,(j+1)*3,none⟩) (nn - j) dc,.slice (some ⟨b,j*3,none⟩) (nn+1 - j) sc]).run Tryz.prog w.drew=.ok (goInt (Nat.min (nn+1 - j) (nn - j))) (w.drew.setRow b (cur.toList.take ((j+1)*3)++cs.drop (j*3)++cur.toList.drop ((nn+1)*3)).toArray):=fun ty dc sc=>by
  have hl:(cs.drop (j*3)).length=Nat.min (nn+1 - j) (nn - j)*3:=by
   rw [List.length_drop,hcl,show Nat.min (nn+1 - j) (nn - j)=nn - j by simp only [Nat.min_def];split <;> omega,Nat.sub_mul]
  have:=gI (P:=Tryz.prog) w.drew 266 ty 265 3 Tryz.underlying266 Tryz.sizeOf265 b ((j+1)*3) (nn - j) dc ⟨b,j*3,none⟩ (nn+1 - j) sc (cs.drop (j*3)) (cur:=cur) hw hl (fun i v hi=>by
   rw [jK];refine gJ (w:=w.drew) hw ?_;rw [hcur,List.getElem?_append_left (by rw [List.getElem?_drop] at hi;exact (List.getElem?_eq_some_iff.1 hi).1)]
   rwa [List.getElem?_drop] at hi) (by rw [List.length_drop,hcl,hcs];omega) (fun v hv=>List.all_eq_true.1 h2 v (List.mem_of_mem_drop hv))
  rw [this,show (j+1)*3+(cs.drop (j*3)).length=(nn+1)*3 by rw [List.length_drop,hcl];omega]
 obtain ⟨X1,hX1⟩:∃ X1:List Value,X1=cur.toList.take ((j+1)*3)++cs.drop (j*3)++cur.toList.drop ((nn+1)*3):=⟨_,rfl⟩;rw [← hX1] at hcp1 ⊢;obtain ⟨W1,hW1⟩:∃ W1,W1=w.drew.setRow b X1.toArray:=⟨_,rfl⟩;rw [← hW1] at hcp1 ⊢;have hw1:W1.heap[b]?=some (.cells X1.toArray 265 (0,0)):=by rw [hW1];exact setRow_heap w.drew b cur X1.toArray 265 (0,0) hw
 have hX1l:X1.length=cap*3:=by rw [hX1];simp only [List.length_append,List.length_take,List.length_drop,Array.length_toList,hcs,hcl];omega
 have hlen1:(cur.toList.take ((j+1)*3)).length=(j+1)*3:=by rw [List.length_take,Array.length_toList,hcs];omega
 have hcp2:∀ ty dc,(Builtin.copy_ #[266,266] ty #[.slice (some ⟨b,j*3,none⟩) (nn+1 - j) dc,.slice (some q) 1 vcap]).run Tryz.prog W1=.ok (goInt (Nat.min 1 (nn+1 - j))) (W1.setRow b (cs.take (j*3)++vs++cs.drop (j*3)++cur.toList.drop ((nn+1)*3)).toArray):=fun ty dc=>by
  have hm:Nat.min 1 (nn+1 - j)=1:=by simp only [Nat.min_def];split <;> omega
  have:=gI (P:=Tryz.prog) W1 266 ty 265 3 Tryz.underlying266 Tryz.sizeOf265 b (j*3) (nn+1 - j) dc q 1 vcap vs (cur:=X1.toArray) hw1 (by rw [hvl,hm]) (fun i v hi=>by
   have h0:=hv.cell hi;have hsp:(q.add i).block=q.block:=by unfold Addr.add;split <;> rfl
   rw [hW1];unfold World.cell? at h0 ⊢;rw [show (w.drew.setRow b X1.toArray).heap[(q.add i).block]?=w.heap[(q.add i).block]? from setRow_other w.drew b _ _ (by rw [hsp];exact fun e=>hne e.symm)]
   exact h0) (by rw [hvl,List.size_toArray,hX1l];omega) (fun v hv=>List.all_eq_true.1 h1 v hv)
  rw [this,hvl];congr 3;have e1:X1.take (j*3)=cs.take (j*3):=by
   rw [hX1,List.append_assoc,List.take_append_of_le_length (by rw [hlen1];omega),List.take_take,show min (j*3) ((j+1)*3)=j*3 by omega,← ht,List.take_take,show min (j*3) (nn*3)=j*3 by omega]
  have e2:X1.drop (j*3+3)=cs.drop (j*3)++cur.toList.drop ((nn+1)*3):=by
   rw [hX1,show j*3+3=(j+1)*3 by omega,List.append_assoc,List.drop_append_of_le_length (by rw [hlen1];omega),List.drop_of_length_le (by rw [hlen1];omega),List.nil_append]
  simp only [List.toList_toArray,e1,e2,List.append_assoc]
 have hz2:¬((j:Int)=(nn:Int)):=by omega
 have hw2:IntKind.i64.wrap ((j:Int)+1)=(j:Int)+1:=by rw [IntKind.wrap_i64];omega
 have hw3:IntKind.i64.wrap ((nn:Int)+1)=(nn:Int)+1:=by rw [IntKind.wrap_i64];omega
 have htn:((j:Int)+1).toNat=j+1:=by omega
 have htn2:((nn:Int)+1).toNat=nn+1:=by omega
 have hb1:(0:Int)≤(j:Int)+1:=by omega
 have hb2:¬(cap=j+1):=by omega
 have hb4:¬(cap=j):=by omega
 have hb3:(j:Int)≤(nn:Int)+1:=by omega
 have hin:j≤nn:=by omega
 have hro:¬((cap:Int) < (nn:Int)+1):=by omega
 clear hX1 hcur ht;have mixed:=T12.mixed;clear hw1;subst hW1
 go_enter Tryz.func274,Tryz.ntmps274
 go_wp2_with (simp only [hov])
 go_region_law_o (refine step_copy_runI rfl _ _ 266 266 rfl _ _ (by simp [Act.eval,Act.put]) (by simp [Act.eval,Act.put]) (hcp1 _ _ _) ?_)
 go_wp2_with (at_builtin;refine wpList_copy_runI _ rfl _ _ 266 266 rfl _ _ rfl rfl (hcp2 _ _) ?_)
 go_ret
 exact ⟨rfl,by simp only [List.append_assoc]⟩
set_option maxHeartbeats 4000000 in
set_option maxRecDepth 100000 in
theorem Tryz.ins_grow {w:World} {b cap nn j:Nat} {cs:List Value} {q:Addr} {vcap:Nat} {vs:List Value} {cur:Array Value} (hw:w.heap[b]?=some (.cells cur 265 (0,0))) (hcs:cur.size=cap*3) (ht:cur.toList.take (nn*3)=cs) (hnc:nn≤cap) (hj:j < nn) (hroom:cap < nn+1) (hb:nn+1≤1073741824) (hv:aL (hp w) q vs) (hvl:vs.length=3) (h1:vs.all (·.oneCell')=true) (h2:cs.all (·.oneCell')=true) :
  Calls Tryz.prog 274 #[.slice (some ⟨b,0,none⟩) nn cap,.int .i64 j,.slice (some q) 1 vcap] w fun e w'=>∃ (G:Nat) (X:List Value),nn+1≤G∧G≤maxLen∧X.length=G*3∧X.take ((nn+1)*3)=cs.take (j*3)++vs++cs.drop (j*3)∧e=.returned (.slice (some ⟨w.heap.size,0,none⟩) (nn+1) G)∧∃ Y Z m,w'=(((w.alloc (.cells Y 265)).drewN m).setRow w.heap.size Z).setRow w.heap.size X.toArray:=by
 obtain ⟨i0,v0,hi0,hz0,hzv,hzs,hzb⟩:=T12.E266.info;have hzc:v0.cells.size=3:=by rw [gB,hzv];rfl
 have hcl:cs.length=nn*3:=by rw [← ht,List.length_take,Array.length_toList,hcs];omega
 have hcur:cur.toList=cs++cur.toList.drop (nn*3):=by rw [← ht,List.take_append_drop]
 have hold:(Builtin.firstCells i0.size j (.slice (some ⟨b,0,none⟩) j cap)).run Tryz.prog w.drew=.ok (cs.take (j*3)).toArray w.drew:=by
  rw [hzs];refine run_firstCells_some (w:=w.drew) 3 j ⟨b,0,none⟩ j cap (cs.take (j*3)) (by rw [List.length_take,hcl];omega) (fun i v hi=>?_);rw [jK,Nat.zero_add];refine gJ (w:=w.drew) hw ?_;rw [List.getElem?_take] at hi
  split at hi
  ·rw [hcur,List.getElem?_append_left (by rw [hcl];omega)];exact hi
  cases hi
 have hik:j+(nn+1 - j)=nn+1:=by omega
 have hkk:(nn:Int)+1 - (j:Int)=((nn+1 - j:Nat):Int):=by omega
 obtain ⟨G,hG⟩:∃ G,G=grownCap w (nn+1) cap 265:=⟨_,rfl⟩;have hGn:nn+1≤G:=by rw [hG];exact grownCap_ge w _ _ _
 have hGm:G≤maxLen:=by rw [hG];exact grownCap_le_maxLen w (nn+1) cap 265 (by unfold maxLen;omega)
 obtain ⟨R,hR⟩:∃ R:Array Value,R=(cs.take (j*3)).toArray++Builtin.zeroCells v0.cells (nn+1 - j)++Builtin.zeroCells v0.cells (G - (nn+1)):=⟨_,rfl⟩;have hRs:R.size=G*3:=by
  rw [hR];simp only [Array.size_append,List.size_toArray,List.length_take,hcl,Builtin.zeroCells,Array.size_map,Array.size_range,hzc];omega
 have hRt:R.toList.take (j*3)=cs.take (j*3):=by
  rw [hR,Array.toList_append,Array.toList_append,List.append_assoc,List.take_append_of_le_length (by simp [hcl];omega)];simp only [List.toList_toArray,List.take_take,Nat.min_self]
 have hrz:∀ ty,(Builtin.append_ #[266,3] ty #[.slice (some ⟨b,0,none⟩) j cap,.int .i64 ((nn:Int)+1 - (j:Int))]).run Tryz.prog w=.ok (.slice (some ⟨w.heap.size,0,none⟩) (nn+1) G) (w.drew.alloc (.cells R 265)):=fun ty=>by
  have h:=Lib.run_append_grow_zeros w 266 3 ty 265 i0 _ .i64 .i64 Tryz.underlying266 Tryz.underlying3 hi0 hz0 (some ⟨b,0,none⟩) j cap (cs.take (j*3)) hold (nn+1 - j) (by omega) (by rw [hzs];decide) (by omega) (by omega) (by rw [hzb];omega) (by rw [hzb,hik];exact growslice_fits hroom (by omega));rw [hik] at h;rw [hkk,hR,hG];exact h
 have hN:(w.drew.alloc (.cells R 265)).heap[w.heap.size]?=some (.cells R 265 (0,0)):=dJ w.drew _;have hbw:b < w.heap.size:=(Array.getElem?_eq_some_iff.1 hw).1;obtain ⟨X1,hX1⟩:∃ X1:List Value,X1=cs.take (j*3)++vs++R.toList.drop ((j+1)*3):=⟨_,rfl⟩;obtain ⟨X2,hX2⟩:∃ X2:List Value,X2=cs.take (j*3)++vs++cs.drop (j*3)++R.toList.drop ((nn+1)*3):=⟨_,rfl⟩;have hct:(cs.take (j*3)).length=j*3:=by rw [List.length_take,hcl];omega
 have hX1l:X1.length=G*3:=by rw [hX1];simp only [List.length_append,hct,hvl,List.length_drop,Array.length_toList,hRs];omega
 have hX2l:X2.length=G*3:=by rw [hX2];simp only [List.length_append,hct,hvl,List.length_drop,Array.length_toList,hRs,hcl];omega
 have hqn:∀ i,(q.add i).block=q.block:=fun i=>by unfold Addr.add;split <;> rfl
 obtain ⟨c0,t0,z0,hq0,_⟩:=mA hv (by omega);have hqw:q.block < w.heap.size:=(Array.getElem?_eq_some_iff.1 hq0).1;have hcpA:∀ (m:Nat) ty dc,(Builtin.copy_ #[266,266] ty #[.slice (some ⟨w.heap.size,j*3,none⟩) (nn+1 - j) dc,.slice (some q) 1 vcap]).run Tryz.prog ((w.alloc (.cells R 265)).drewN m)=.ok (goInt (Nat.min 1 (nn+1 - j))) (((w.alloc (.cells R 265)).drewN m).setRow w.heap.size X1.toArray):=fun m ty dc=>by
  have hm:Nat.min 1 (nn+1 - j)=1:=by simp only [Nat.min_def];split <;> omega
  have:=gI (P:=Tryz.prog) ((w.alloc (.cells R 265)).drewN m) 266 ty 265 3 Tryz.underlying266 Tryz.sizeOf265 w.heap.size (j*3) (nn+1 - j) dc q 1 vcap vs (cur:=R) (te:=265) (dJ w _) (by rw [hvl,hm]) (fun i v hi=>by
   have h0:=hv.cell hi;unfold World.cell? at h0 ⊢;rw [show ((w.alloc (.cells R 265)).drewN m).heap[(q.add i).block]?=w.heap[(q.add i).block]? from (gA.alloc True w (.cells R 265)).keep _ (by rw [hqn];exact hqw)]
   exact h0) (by rw [hvl,hRs];omega) (fun v hv=>List.all_eq_true.1 h1 v hv)
  rw [this,hvl,hRt,hX1,show j*3+3=(j+1)*3 by omega]
 have hcpB:∀ (m:Nat) ty dc sc,(Builtin.copy_ #[266,266] ty #[.slice (some ⟨w.heap.size,(j+1)*3,none⟩) (nn - j) dc,.slice (some ⟨b,j*3,none⟩) (nn - j) sc]).run Tryz.prog (((w.alloc (.cells R 265)).drewN m).setRow w.heap.size X1.toArray)=.ok (goInt (Nat.min (nn - j) (nn - j))) ((((w.alloc (.cells R 265)).drewN m).setRow w.heap.size X1.toArray).setRow w.heap.size X2.toArray):=fun m ty dc sc=>by
  have hm:Nat.min (nn - j) (nn - j)=nn - j:=Nat.min_self _;have hl:(cs.drop (j*3)).length=Nat.min (nn - j) (nn - j)*3:=by rw [hm,List.length_drop,hcl,Nat.sub_mul]
  have:=gI (P:=Tryz.prog) (((w.alloc (.cells R 265)).drewN m).setRow w.heap.size X1.toArray) 266 ty 265 3 Tryz.underlying266 Tryz.sizeOf265 w.heap.size ((j+1)*3) (nn - j) dc ⟨b,j*3,none⟩ (nn - j) sc (cs.drop (j*3)) (cur:=X1.toArray) (te:=265) (setRow_heap _ _ R X1.toArray 265 (0,0) (dJ w _)) hl (fun i v hi=>by
   rw [jK];have hcell:w.cell? ⟨b,j*3+i,none⟩=some v:=by
    refine gJ hw ?_;rw [hcur,List.getElem?_append_left (by rw [List.getElem?_drop] at hi;exact (List.getElem?_eq_some_iff.1 hi).1)]
    rwa [List.getElem?_drop] at hi
   unfold World.cell? at hcell ⊢;rw [show (((w.alloc (.cells R 265)).drewN m).setRow w.heap.size X1.toArray).heap[(⟨b,j*3+i,none⟩:Addr).block]?=w.heap[(⟨b,j*3+i,none⟩:Addr).block]? from (setRow_other _ _ _ _ (by show b≠w.heap.size;omega)).trans ((gA.alloc True w (.cells R 265)).keep _ hbw)]
   exact hcell) (by rw [List.length_drop,hcl,List.size_toArray,hX1l];omega) (fun v hv=>List.all_eq_true.1 h2 v (List.mem_of_mem_drop hv))
  rw [this,show (j+1)*3+(cs.drop (j*3)).length=(nn+1)*3 by rw [List.length_drop,hcl];omega];congr 3;have e1:X1.take ((j+1)*3)=cs.take (j*3)++vs:=by
   rw [hX1,List.take_append_of_le_length (by rw [List.length_append,hct,hvl];omega),List.take_of_length_le (by rw [List.length_append,hct,hvl];omega)]
  have e2:X1.drop ((nn+1)*3)=R.toList.drop ((nn+1)*3):=by
   rw [hX1,List.drop_append,List.drop_of_length_le (by rw [List.length_append,hct,hvl];omega),List.nil_append,List.drop_drop,List.length_append,hct,hvl,show (j+1)*3+((nn+1)*3 - (j*3+3))=(nn+1)*3 by omega]
  simp only [List.toList_toArray,e1,e2,hX2,List.append_assoc]
 have hX2t:X2.take ((nn+1)*3)=cs.take (j*3)++vs++cs.drop (j*3):=by
  rw [hX2,List.take_append_of_le_length (by simp only [List.length_append,hct,hvl,List.length_drop,hcl];omega),List.take_of_length_le (by simp only [List.length_append,hct,hvl,List.length_drop,hcl];omega)]
 refine Calls.mono (R:=fun e w''=>e=.returned (.slice (some ⟨w.heap.size,0,none⟩) (nn+1) G)∧∃ m,w''=(((w.alloc (.cells R 265)).drewN m).setRow w.heap.size X1.toArray).setRow w.heap.size X2.toArray) ?_ fun e w'' hw=>by
  obtain ⟨rfl,m,rfl⟩:=hw;exact ⟨G,X2,hGn,hGm,hX2l,hX2t,rfl,R,X1.toArray,m,rfl⟩
 have mixed:=T12.mixed;have hz2:¬((j:Int)=(nn:Int)):=by omega
 have hw2:IntKind.i64.wrap ((j:Int)+1)=(j:Int)+1:=by rw [IntKind.wrap_i64];omega
 have hw3:IntKind.i64.wrap ((nn:Int)+1)=(nn:Int)+1:=by rw [IntKind.wrap_i64];omega
 have htn:((j:Int)+1).toNat=j+1:=by omega
 have hb1:(0:Int)≤(j:Int)+1:=by omega
 have hro:(cap:Int) < (nn:Int)+1:=by omega
 have hGi:¬(G=j):=by omega
 have hGim:¬(G=j+1):=by omega
 have hci:¬(cap=j):=by omega
 have hin:j≤nn:=by omega
 have hb3:(j:Int)≤(nn:Int):=by omega
 have hcpA0:∀ ty dc,(Builtin.copy_ #[266,266] ty #[.slice (some ⟨w.heap.size,j*3,none⟩) (nn+1 - j) dc,.slice (some q) 1 vcap]).run Tryz.prog (w.drew.alloc (.cells R 265))=.ok (goInt (Nat.min 1 (nn+1 - j))) ((w.drew.alloc (.cells R 265)).setRow w.heap.size X1.toArray):=fun ty dc=>hcpA 1 ty dc;have hcpA1:∀ ty dc,(Builtin.copy_ #[266,266] ty #[.slice (some ⟨w.heap.size,j*3,none⟩) (nn+1 - j) dc,.slice (some q) 1 vcap]).run Tryz.prog ((w.alloc (.cells R 265)).drew)=.ok (goInt (Nat.min 1 (nn+1 - j))) (((w.alloc (.cells R 265)).drew).setRow w.heap.size X1.toArray):=fun ty dc=>hcpA 1 ty dc;have hcpB0:∀ ty dc sc,(Builtin.copy_ #[266,266] ty #[.slice (some ⟨w.heap.size,(j+1)*3,none⟩) (nn - j) dc,.slice (some ⟨b,j*3,none⟩) (nn - j) sc]).run Tryz.prog (((w.alloc (.cells R 265)).drew.setRow w.heap.size X1.toArray).drew)=.ok (goInt (Nat.min (nn - j) (nn - j))) ((((w.alloc (.cells R 265)).drew.setRow w.heap.size X1.toArray).drew).setRow w.heap.size X2.toArray):=fun ty dc sc=>hcpB 2 ty dc sc;clear hG hcpA hcpB hR hold hkk hik hcur hRt hX1 hX2 hX2t hN hq0 hv ht
 go_enter Tryz.func274,Tryz.ntmps274
 go_wp2_with (first
  | (at_builtin;refine Lib.wpList_append_run _ rfl _ _ _ _ rfl _ _ rfl rfl _ _ (hrz _) ?_)
  | (at_builtin;refine wpList_copy_runI _ rfl _ _ 266 266 rfl _ _ rfl rfl (hcpA1 _ _) ?_)
  | (at_builtin;refine wpList_copy_runI _ rfl _ _ 266 266 rfl _ _ rfl rfl (hcpA0 _ _) ?_))
 go_region_law_o (refine step_copy_runI rfl _ _ 266 266 rfl (.slice (some ⟨w.heap.size,(j+1)*3,none⟩) (nn - j) (G - (j+1))) (.slice (some ⟨b,j*3,none⟩) (nn - j) (cap - j)) (by simp [Act.eval,Act.put]) (by simp [Act.eval,Act.put]) (hcpB0 3 (G - (j+1)) (cap - j)) ?_)
 go_wp2
 go_ret
 exact ⟨rfl,2,rfl⟩
theorem kY {w w':World} {b:Nat} (h:∀ k,k < w.heap.size→k≠b→w'.heap[k]?=w.heap[k]?) (ho:w'.os=w.os) (ht:w'.tape=w.tape) (hu:w'.output=w.output) (hs:w.heap.size≤w'.heap.size) (hd:w.drawn≤w'.drawn):kC w w' (some b) :=
 ⟨⟨ho,ht,hu,hs,fun k hk hne=>h k hk (fun e=>hne (by rw [e]))⟩,hd⟩
theorem eN (w:World) (b:Nat) (X:Array Value):(w.setRow b X).heap.size=w.heap.size:=by simp [World.setRow]
theorem Tryz.ins274:SF Tryz.prog 274 265 3:=by
 intro w ad cap nn cs j q vcap vs hr hj hb hv hvl h1 h2 hne _;have hcl:=(iZ hr).1;by_cases hjn:j=nn
 ·subst hjn;refine (Tryz.ins_end hr hb hv hvl h1).mono fun e w' h=>?_;rw [List.take_of_length_le (by omega),List.drop_of_length_le (by omega),List.append_nil];exact h
 have hlt:j < nn:=by omega
 rcases hr.2 with ⟨_,h0⟩ | ⟨b,cap',cur,he,hbb,hw,hnc,hcm,hcs,ht⟩
 ·omega
 simp only [Value.slice.injEq] at he;obtain ⟨rfl,_,rfl⟩:=he;have hbw:b < w.heap.size:=(Array.getElem?_eq_some_iff.1 hw).1;have h3:cap≤9223372036854775807:=by unfold maxLen at hcm;omega
 have hln:(cs.take (j*3)++vs++cs.drop (j*3)).length=(nn+1)*3:=by
  simp only [List.length_append,List.length_take,List.length_drop,hvl,hcl];omega
 by_cases hroom:nn+1≤cap
 ·refine (Tryz.ins_room hw hcs ht h3 hlt hroom hb hv hvl h1 h2 (hne b rfl)).mono fun e w' h=>?_;obtain ⟨rfl,rfl⟩:=h;refine ⟨_,_,rfl,?_,?_,fun b' hb'=>.inl hb'⟩
  ·refine ⟨hln,.inr ⟨b,cap,_,rfl,hbb,setRow_heap _ b _ _ 265 (0,0) (setRow_heap w.drew b cur _ 265 (0,0) hw),hroom,hcm,?_,?_⟩⟩
   ·have:(cur.toList.drop ((nn+1)*3)).length=cap*3 - (nn+1)*3:=by rw [List.length_drop,Array.length_toList,hcs]
    rw [List.size_toArray,List.length_append,hln,this];omega
   rw [List.toList_toArray,List.take_append_of_le_length (by rw [hln];exact Nat.le_refl _),List.take_of_length_le (by rw [hln];exact Nat.le_refl _)]
  exact kY (fun k hk hkb=>(setRow_other _ _ _ _ hkb).trans (setRow_other _ _ _ _ hkb)) rfl rfl rfl (by rw [eN,eN];exact Nat.le_refl _) (Nat.le_succ _)
 refine (Tryz.ins_grow hw hcs ht hnc hlt (by omega) hb hv hvl h1 h2).mono fun e w' h=>?_;obtain ⟨G,X,hG1,hG2,hXl,hXt,rfl,Y,Z,m,rfl⟩:=h;refine ⟨_,_,rfl,?_,?_,fun b' hb'=>.inr (by simp at hb';omega)⟩
 ·refine ⟨hln,.inr ⟨w.heap.size,G,X.toArray,rfl,Nat.zero_le _,setRow_heap _ _ Z _ 265 (0,0) (setRow_heap _ _ Y _ 265 (0,0) (dJ w _)),hG1,hG2,by rw [List.size_toArray,hXl],by rw [List.toList_toArray];exact hXt⟩⟩
 refine kY (fun k hk hkb=>?_) rfl rfl rfl ?_ ?_
 ·have hkn:k≠w.heap.size:=by omega
  exact (setRow_other _ _ _ _ hkn).trans ((setRow_other _ _ _ _ hkn).trans ((gA.alloc True w (.cells Y 265)).keep k hk))
 ·rw [eN,eN];exact (gA.alloc True w (.cells Y 265)).size
 exact Nat.le_add_right _ _
end Go.Proofs
namespace Go.Proofs
open Go Go.Shelf Go.RowKit Pk
set_option maxHeartbeats 4000000 in
set_option maxRecDepth 100000 in
theorem Tryz.ins_endM {w:World} {ad:Option Addr} {cap nn mv:Nat} (hm:1≤mv) {cs:List Value} {q:Addr} {vcap:Nat} {vs:List Value} (hr:(aR.row ad cap 3 1 nn cs).holds w) (hb:nn+mv≤1073741824) (hv:aL (hp w) q vs) (hvl:vs.length=mv) (h1:vs.all (·.oneCell')=true) :
  Calls Tryz.prog 179 #[.slice ad nn cap,.int .i64 nn,.slice (some q) mv vcap] w fun e w'=>∃ ad' cap',e=.returned (.slice ad' (nn+mv) cap')∧(aR.row ad' cap' 3 1 (nn+mv) (cs++vs)).holds w'∧kC w w' (ad.map (·.block))∧∀ b,ad'.map (·.block)=some b→ad.map (·.block)=some b∨w.heap.size≤b:=by
 obtain ⟨ad',cap',w',hrun,hh,hg,hf⟩:=lG (P:=Tryz.prog) 33 T12.E33 hr (sad:=some q) (m:=mv) (c:=vcap) (news:=vs) ⟨by omega,h1,.inr ⟨q,rfl,hv⟩⟩ (by unfold maxLen;omega) (by omega);have hd:=mQ _ hrun;have hcap:=(iZ hr).2;refine Calls.mono (R:=fun e w''=>e=.returned (.slice ad' (nn+mv) cap')∧w''=w') ?_ fun e w'' hw=>by
  obtain ⟨rfl,rfl⟩:=hw;exact ⟨ad',cap',rfl,hh,⟨hg,hd⟩,hf⟩
 clear hf hh hg hd hr hv h1;by_cases hc:cap=nn
 ·subst hc
  go_enter Tryz.func179,Tryz.ntmps179
  go_wp2_with (at_builtin;refine Lib.wpList_append_run _ rfl _ _ _ _ rfl _ _ rfl rfl _ _ hrun ?_)
  go_ret
  exact ⟨rfl,rfl⟩
 go_enter Tryz.func179,Tryz.ntmps179
 go_wp2_with (at_builtin;refine Lib.wpList_append_run _ rfl _ _ _ _ rfl _ _ rfl rfl _ _ hrun ?_)
 go_ret
 exact ⟨rfl,rfl⟩
set_option maxHeartbeats 4000000 in
set_option maxRecDepth 100000 in
theorem Tryz.ins_roomM {w:World} {b cap nn j mv:Nat} (hm:1≤mv) {cs:List Value} {q:Addr} {vcap:Nat} {vs:List Value} {cur:Array Value} (hw:w.heap[b]?=some (.cells cur 3 (0,0))) (hcs:cur.size=cap) (ht:cur.toList.take (nn)=cs) (hcm:cap≤9223372036854775807) (hj:j < nn) (hroom:nn+mv≤cap) (hb:nn+mv≤1073741824) (hv:aL (hp w) q vs) (hvl:vs.length=mv) (h1:vs.all (·.oneCell')=true) (h2:cs.all (·.oneCell')=true) (hne:b≠q.block) :
  Calls Tryz.prog 179 #[.slice (some ⟨b,0,none⟩) nn cap,.int .i64 j,.slice (some q) mv vcap] w fun e w'=>e=.returned (.slice (some ⟨b,0,none⟩) (nn+mv) cap)∧w'=(w.drew.setRow b (cur.toList.take ((j+mv))++cs.drop (j)++cur.toList.drop ((nn+mv))).toArray).setRow b (cs.take (j)++vs++cs.drop (j)++cur.toList.drop ((nn+mv))).toArray:=by
 obtain ⟨c0,t0,z0,hq0,hq1⟩:=mA hv (by omega);have hcl:cs.length=nn:=by rw [← ht,List.length_take,Array.length_toList,hcs];omega
 have hcur:cur.toList=cs++cur.toList.drop (nn):=by rw [← ht,List.take_append_drop]
 have hov:∀ lb cb,(callFunc 219 #[.slice (some q) mv vcap,.slice (some ⟨b,(j+mv),none⟩) lb cb]).run Tryz.prog w=.ok (.value (.bool false)) w:=fun lb cb=>by
  rw [run_callFunc_extern Tryz.func219 (by kernel_rfl) (by kernel_rfl) (by kernel_rfl) (e:=Extern.SlicesOverlaps.overlaps #[33,33] #[4]) (by kernel_rfl),
   mB w 33 4 3 Tryz.underlying33 1 Tryz.sizeOf3 q ⟨b,(j+mv),none⟩ mv vcap lb cb (fun e=>hne e.symm) hq0 hq1 hw (by omega)]
  rfl
 have hcp1:∀ ty dc sc,(Builtin.copy_ #[33,33] ty #[.slice (some ⟨b,(j+mv),none⟩) (nn - j) dc,.slice (some ⟨b,j,none⟩) (nn+mv - j) sc]).run Tryz.prog w.drew=.ok (goInt (Nat.min (nn+mv - j) (nn - j))) (w.drew.setRow b (cur.toList.take ((j+mv))++cs.drop (j)++cur.toList.drop ((nn+mv))).toArray):=fun ty dc sc=>by
  have hl:(cs.drop (j)).length=Nat.min (nn+mv - j) (nn - j):=by
   rw [List.length_drop,hcl,show Nat.min (nn+mv - j) (nn - j)=nn - j by simp only [Nat.min_def];split <;> omega]
  have:=gI (P:=Tryz.prog) w.drew 33 ty 3 1 Tryz.underlying33 Tryz.sizeOf3 b ((j+mv)) (nn - j) dc ⟨b,j,none⟩ (nn+mv - j) sc (cs.drop (j)) (cur:=cur) hw (by rw [hl,Nat.mul_one]) (fun i v hi=>by
   rw [jK];refine gJ (w:=w.drew) hw ?_;rw [hcur,List.getElem?_append_left (by rw [List.getElem?_drop] at hi;exact (List.getElem?_eq_some_iff.1 hi).1)]
   rwa [List.getElem?_drop] at hi) (by rw [List.length_drop,hcl,hcs];omega) (fun v hv=>List.all_eq_true.1 h2 v (List.mem_of_mem_drop hv))
  rw [this,show (j+mv)+(cs.drop (j)).length=(nn+mv) by rw [List.length_drop,hcl];omega]
 obtain ⟨X1,hX1⟩:∃ X1:List Value,X1=cur.toList.take ((j+mv))++cs.drop (j)++cur.toList.drop ((nn+mv)):=⟨_,rfl⟩;rw [← hX1] at hcp1 ⊢;obtain ⟨W1,hW1⟩:∃ W1,W1=w.drew.setRow b X1.toArray:=⟨_,rfl⟩;rw [← hW1] at hcp1 ⊢;have hw1:W1.heap[b]?=some (.cells X1.toArray 3 (0,0)):=by rw [hW1];exact setRow_heap w.drew b cur X1.toArray 3 (0,0) hw
 have hX1l:X1.length=cap:=by rw [hX1];simp only [List.length_append,List.length_take,List.length_drop,Array.length_toList,hcs,hcl];omega
 have hlen1:(cur.toList.take ((j+mv))).length=(j+mv):=by rw [List.length_take,Array.length_toList,hcs];omega
 have hcp2:∀ ty dc,(Builtin.copy_ #[33,33] ty #[.slice (some ⟨b,j,none⟩) (nn+mv - j) dc,.slice (some q) mv vcap]).run Tryz.prog W1=.ok (goInt (Nat.min mv (nn+mv - j))) (W1.setRow b (cs.take (j)++vs++cs.drop (j)++cur.toList.drop ((nn+mv))).toArray):=fun ty dc=>by
  have hm:Nat.min mv (nn+mv - j)=mv:=by simp only [Nat.min_def];split <;> omega
  have:=gI (P:=Tryz.prog) W1 33 ty 3 1 Tryz.underlying33 Tryz.sizeOf3 b (j) (nn+mv - j) dc q mv vcap vs (cur:=X1.toArray) hw1 (by rw [hvl,hm,Nat.mul_one]) (fun i v hi=>by
   have h0:=hv.cell hi;have hsp:(q.add i).block=q.block:=by unfold Addr.add;split <;> rfl
   rw [hW1];unfold World.cell? at h0 ⊢;rw [show (w.drew.setRow b X1.toArray).heap[(q.add i).block]?=w.heap[(q.add i).block]? from setRow_other w.drew b _ _ (by rw [hsp];exact fun e=>hne e.symm)]
   exact h0) (by rw [hvl,List.size_toArray,hX1l];omega) (fun v hv=>List.all_eq_true.1 h1 v hv)
  rw [this,hvl];congr 3;have e1:X1.take (j)=cs.take (j):=by
   rw [hX1,List.append_assoc,List.take_append_of_le_length (by rw [hlen1];omega),List.take_take,show min (j) ((j+mv))=j by omega,← ht,List.take_take,show min (j) (nn)=j by omega]
  have e2:X1.drop (j+mv)=cs.drop (j)++cur.toList.drop ((nn+mv)):=by
   rw [hX1,show j+mv=(j+mv) by omega,List.append_assoc,List.drop_append_of_le_length (by rw [hlen1];omega),List.drop_of_length_le (by rw [hlen1];omega),List.nil_append]
  simp only [List.toList_toArray,e1,e2,List.append_assoc]
 have hz2:¬((j:Int)=(nn:Int)):=by omega
 have hw2:IntKind.i64.wrap ((j:Int)+(mv:Int))=(j:Int)+(mv:Int):=by rw [IntKind.wrap_i64];omega
 have hw3:IntKind.i64.wrap ((nn:Int)+(mv:Int))=(nn:Int)+(mv:Int):=by rw [IntKind.wrap_i64];omega
 have htn:((j:Int)+(mv:Int)).toNat=j+mv:=by omega
 have htn2:((nn:Int)+(mv:Int)).toNat=nn+mv:=by omega
 have hb1:(0:Int)≤(j:Int)+(mv:Int):=by omega
 have hb2:¬(cap=j+mv):=by omega
 have hb4:¬(cap=j):=by omega
 have hb3:(j:Int)≤(nn:Int)+(mv:Int):=by omega
 have hin:j≤nn:=by omega
 have hro:¬((cap:Int) < (nn:Int)+(mv:Int)):=by omega
 clear hX1 hcur ht;have mixed:=T12.mixed;clear hw1;subst hW1
 go_enter Tryz.func179,Tryz.ntmps179
 go_wp2_with (simp only [hov])
 go_region_law_o (refine step_copy_runI rfl _ _ 33 33 rfl (.slice (some ⟨b,(j+mv),none⟩) (nn - j) (cap - (j+mv))) (.slice (some ⟨b,j,none⟩) (nn+mv - j) (cap - j)) (by first | (simp [Act.eval,Act.put];done) | (simp [Act.eval,Act.put];omega)) (by first | (simp [Act.eval,Act.put];done) | (simp [Act.eval,Act.put];omega)) (hcp1 3 (cap - (j+mv)) (cap - j)) ?_)
 go_wp2_with (at_builtin;refine wpList_copy_runI _ rfl _ _ 33 33 rfl _ _ rfl rfl (hcp2 _ _) ?_)
 go_ret
 exact ⟨rfl,by simp only [List.append_assoc]⟩
set_option maxHeartbeats 4000000 in
set_option maxRecDepth 100000 in
theorem Tryz.ins_growM {w:World} {b cap nn j mv:Nat} (hm:1≤mv) {cs:List Value} {q:Addr} {vcap:Nat} {vs:List Value} {cur:Array Value} (hw:w.heap[b]?=some (.cells cur 3 (0,0))) (hcs:cur.size=cap) (ht:cur.toList.take (nn)=cs) (hnc:nn≤cap) (hj:j < nn) (hroom:cap < nn+mv) (hb:nn+mv≤1073741824) (hv:aL (hp w) q vs) (hvl:vs.length=mv) (h1:vs.all (·.oneCell')=true) (h2:cs.all (·.oneCell')=true) :
  Calls Tryz.prog 179 #[.slice (some ⟨b,0,none⟩) nn cap,.int .i64 j,.slice (some q) mv vcap] w fun e w'=>∃ (G:Nat) (X:List Value),nn+mv≤G∧G≤maxLen∧X.length=G∧X.take ((nn+mv))=cs.take (j)++vs++cs.drop (j)∧e=.returned (.slice (some ⟨w.heap.size,0,none⟩) (nn+mv) G)∧∃ Y Z m,w'=(((w.alloc (.cells Y 3)).drewN m).setRow w.heap.size Z).setRow w.heap.size X.toArray:=by
 obtain ⟨i0,v0,hi0,hz0,hzv,hzs,hzb⟩:=T12.E33.info;have hzc:v0.cells.size=1:=by rw [gB,hzv];rfl
 have hcl:cs.length=nn:=by rw [← ht,List.length_take,Array.length_toList,hcs];omega
 have hcur:cur.toList=cs++cur.toList.drop (nn):=by rw [← ht,List.take_append_drop]
 have hold:(Builtin.firstCells i0.size j (.slice (some ⟨b,0,none⟩) j cap)).run Tryz.prog w.drew=.ok (cs.take (j)).toArray w.drew:=by
  rw [hzs];refine run_firstCells_some (w:=w.drew) 1 j ⟨b,0,none⟩ j cap (cs.take (j)) (by rw [List.length_take,hcl];omega) (fun i v hi=>?_);rw [jK,Nat.zero_add];refine gJ (w:=w.drew) hw ?_;rw [List.getElem?_take] at hi
  split at hi
  ·rw [hcur,List.getElem?_append_left (by rw [hcl];omega)];exact hi
  cases hi
 have hik:j+(nn+mv - j)=nn+mv:=by omega
 have hkk:(nn:Int)+(mv:Int) - (j:Int)=((nn+mv - j:Nat):Int):=by omega
 obtain ⟨G,hG⟩:∃ G,G=grownCap w (nn+mv) cap 3:=⟨_,rfl⟩;have hGn:nn+mv≤G:=by rw [hG];exact grownCap_ge w _ _ _
 have hGm:G≤maxLen:=by rw [hG];exact grownCap_le_maxLen w (nn+mv) cap 3 (by unfold maxLen;omega)
 obtain ⟨R,hR⟩:∃ R:Array Value,R=(cs.take (j)).toArray++Builtin.zeroCells v0.cells (nn+mv - j)++Builtin.zeroCells v0.cells (G - (nn+mv)):=⟨_,rfl⟩;have hRs:R.size=G:=by
  rw [hR];simp only [Array.size_append,List.size_toArray,List.length_take,hcl,Builtin.zeroCells,Array.size_map,Array.size_range,hzc];omega
 have hRt:R.toList.take (j)=cs.take (j):=by
  rw [hR,Array.toList_append,Array.toList_append,List.append_assoc,List.take_append_of_le_length (by simp [hcl];omega)];simp only [List.toList_toArray,List.take_take,Nat.min_self]
 have hrz:∀ ty,(Builtin.append_ #[33,3] ty #[.slice (some ⟨b,0,none⟩) j cap,.int .i64 ((nn:Int)+(mv:Int) - (j:Int))]).run Tryz.prog w=.ok (.slice (some ⟨w.heap.size,0,none⟩) (nn+mv) G) (w.drew.alloc (.cells R 3)):=fun ty=>by
  have h:=Lib.run_append_grow_zeros w 33 3 ty 3 i0 _ .i64 .i64 Tryz.underlying33 Tryz.underlying3 hi0 hz0 (some ⟨b,0,none⟩) j cap (cs.take (j)) hold (nn+mv - j) (by omega) (by rw [hzs];decide) (by omega) (by omega) (by rw [hzb];omega) (by rw [hzb,hik];exact growslice_fits hroom (by omega));rw [hik] at h;rw [hkk,hR,hG];exact h
 have hN:(w.drew.alloc (.cells R 3)).heap[w.heap.size]?=some (.cells R 3 (0,0)):=dJ w.drew _;have hbw:b < w.heap.size:=(Array.getElem?_eq_some_iff.1 hw).1;obtain ⟨X1,hX1⟩:∃ X1:List Value,X1=cs.take (j)++vs++R.toList.drop ((j+mv)):=⟨_,rfl⟩;obtain ⟨X2,hX2⟩:∃ X2:List Value,X2=cs.take (j)++vs++cs.drop (j)++R.toList.drop ((nn+mv)):=⟨_,rfl⟩;have hct:(cs.take (j)).length=j:=by rw [List.length_take,hcl];omega
 have hX1l:X1.length=G:=by rw [hX1];simp only [List.length_append,hct,hvl,List.length_drop,Array.length_toList,hRs];omega
 have hX2l:X2.length=G:=by rw [hX2];simp only [List.length_append,hct,hvl,List.length_drop,Array.length_toList,hRs,hcl];omega
 have hqn:∀ i,(q.add i).block=q.block:=fun i=>by unfold Addr.add;split <;> rfl
 obtain ⟨c0,t0,z0,hq0,_⟩:=mA hv (by omega);have hqw:q.block < w.heap.size:=(Array.getElem?_eq_some_iff.1 hq0).1;have hcpA:∀ (m:Nat) ty dc,(Builtin.copy_ #[33,33] ty #[.slice (some ⟨w.heap.size,j,none⟩) (nn+mv - j) dc,.slice (some q) mv vcap]).run Tryz.prog ((w.alloc (.cells R 3)).drewN m)=.ok (goInt (Nat.min mv (nn+mv - j))) (((w.alloc (.cells R 3)).drewN m).setRow w.heap.size X1.toArray):=fun m ty dc=>by
  have hm:Nat.min mv (nn+mv - j)=mv:=by simp only [Nat.min_def];split <;> omega
  have:=gI (P:=Tryz.prog) ((w.alloc (.cells R 3)).drewN m) 33 ty 3 1 Tryz.underlying33 Tryz.sizeOf3 w.heap.size (j) (nn+mv - j) dc q mv vcap vs (cur:=R) (te:=3) (dJ w _) (by rw [hvl,hm,Nat.mul_one]) (fun i v hi=>by
   have h0:=hv.cell hi;unfold World.cell? at h0 ⊢;rw [show ((w.alloc (.cells R 3)).drewN m).heap[(q.add i).block]?=w.heap[(q.add i).block]? from (gA.alloc True w (.cells R 3)).keep _ (by rw [hqn];exact hqw)]
   exact h0) (by rw [hvl,hRs];omega) (fun v hv=>List.all_eq_true.1 h1 v hv)
  rw [this,hvl,hRt,hX1,show j+mv=(j+mv) by omega]
 have hcpB:∀ (m:Nat) ty dc sc,(Builtin.copy_ #[33,33] ty #[.slice (some ⟨w.heap.size,(j+mv),none⟩) (nn - j) dc,.slice (some ⟨b,j,none⟩) (nn - j) sc]).run Tryz.prog (((w.alloc (.cells R 3)).drewN m).setRow w.heap.size X1.toArray)=.ok (goInt (Nat.min (nn - j) (nn - j))) ((((w.alloc (.cells R 3)).drewN m).setRow w.heap.size X1.toArray).setRow w.heap.size X2.toArray):=fun m ty dc sc=>by
  have hm:Nat.min (nn - j) (nn - j)=nn - j:=Nat.min_self _;have hl:(cs.drop (j)).length=Nat.min (nn - j) (nn - j):=by rw [hm,List.length_drop,hcl]
  have:=gI (P:=Tryz.prog) (((w.alloc (.cells R 3)).drewN m).setRow w.heap.size X1.toArray) 33 ty 3 1 Tryz.underlying33 Tryz.sizeOf3 w.heap.size ((j+mv)) (nn - j) dc ⟨b,j,none⟩ (nn - j) sc (cs.drop (j)) (cur:=X1.toArray) (te:=3) (setRow_heap _ _ R X1.toArray 3 (0,0) (dJ w _)) (by rw [hl,Nat.mul_one]) (fun i v hi=>by
   rw [jK];have hcell:w.cell? ⟨b,j+i,none⟩=some v:=by
    refine gJ hw ?_;rw [hcur,List.getElem?_append_left (by rw [List.getElem?_drop] at hi;exact (List.getElem?_eq_some_iff.1 hi).1)]
    rwa [List.getElem?_drop] at hi
   unfold World.cell? at hcell ⊢;rw [show (((w.alloc (.cells R 3)).drewN m).setRow w.heap.size X1.toArray).heap[(⟨b,j+i,none⟩:Addr).block]?=w.heap[(⟨b,j+i,none⟩:Addr).block]? from (setRow_other _ _ _ _ (by show b≠w.heap.size;omega)).trans ((gA.alloc True w (.cells R 3)).keep _ hbw)]
   exact hcell) (by rw [List.length_drop,hcl,List.size_toArray,hX1l];omega) (fun v hv=>List.all_eq_true.1 h2 v (List.mem_of_mem_drop hv))
  rw [this,show (j+mv)+(cs.drop (j)).length=(nn+mv) by rw [List.length_drop,hcl];omega];congr 3;have e1:X1.take ((j+mv))=cs.take (j)++vs:=by
   rw [hX1,List.take_append_of_le_length (by rw [List.length_append,hct,hvl];omega),List.take_of_length_le (by rw [List.length_append,hct,hvl];omega)]
  have e2:X1.drop ((nn+mv))=R.toList.drop ((nn+mv)):=by
   rw [hX1,List.drop_append,List.drop_of_length_le (by rw [List.length_append,hct,hvl];omega),List.nil_append,List.drop_drop,List.length_append,hct,hvl,show (j+mv)+((nn+mv) - (j+mv))=(nn+mv) by omega]
  simp only [List.toList_toArray,e1,e2,hX2,List.append_assoc]
 have hX2t:X2.take ((nn+mv))=cs.take (j)++vs++cs.drop (j):=by
  rw [hX2,List.take_append_of_le_length (by simp only [List.length_append,hct,hvl,List.length_drop,hcl];omega),List.take_of_length_le (by simp only [List.length_append,hct,hvl,List.length_drop,hcl];omega)]
 refine Calls.mono (R:=fun e w''=>e=.returned (.slice (some ⟨w.heap.size,0,none⟩) (nn+mv) G)∧∃ m,w''=(((w.alloc (.cells R 3)).drewN m).setRow w.heap.size X1.toArray).setRow w.heap.size X2.toArray) ?_ fun e w'' hw=>by
  obtain ⟨rfl,m,rfl⟩:=hw;exact ⟨G,X2,hGn,hGm,hX2l,hX2t,rfl,R,X1.toArray,m,rfl⟩
 have mixed:=T12.mixed;have hz2:¬((j:Int)=(nn:Int)):=by omega
 have hw2:IntKind.i64.wrap ((j:Int)+(mv:Int))=(j:Int)+(mv:Int):=by rw [IntKind.wrap_i64];omega
 have hw3:IntKind.i64.wrap ((nn:Int)+(mv:Int))=(nn:Int)+(mv:Int):=by rw [IntKind.wrap_i64];omega
 have htn:((j:Int)+(mv:Int)).toNat=j+mv:=by omega
 have hb1:(0:Int)≤(j:Int)+(mv:Int):=by omega
 have hro:(cap:Int) < (nn:Int)+(mv:Int):=by omega
 have hGi:¬(G=j):=by omega
 have hGim:¬(G=j+mv):=by omega
 have hci:¬(cap=j):=by omega
 have hin:j≤nn:=by omega
 have hb3:(j:Int)≤(nn:Int):=by omega
 have hcpA0:∀ ty dc,(Builtin.copy_ #[33,33] ty #[.slice (some ⟨w.heap.size,j,none⟩) (nn+mv - j) dc,.slice (some q) mv vcap]).run Tryz.prog (w.drew.alloc (.cells R 3))=.ok (goInt (Nat.min mv (nn+mv - j))) ((w.drew.alloc (.cells R 3)).setRow w.heap.size X1.toArray):=fun ty dc=>hcpA 1 ty dc;have hcpA1:∀ ty dc,(Builtin.copy_ #[33,33] ty #[.slice (some ⟨w.heap.size,j,none⟩) (nn+mv - j) dc,.slice (some q) mv vcap]).run Tryz.prog ((w.alloc (.cells R 3)).drew)=.ok (goInt (Nat.min mv (nn+mv - j))) (((w.alloc (.cells R 3)).drew).setRow w.heap.size X1.toArray):=fun ty dc=>hcpA 1 ty dc;have hcpB0:∀ ty dc sc,(Builtin.copy_ #[33,33] ty #[.slice (some ⟨w.heap.size,(j+mv),none⟩) (nn - j) dc,.slice (some ⟨b,j,none⟩) (nn - j) sc]).run Tryz.prog (((w.alloc (.cells R 3)).drew.setRow w.heap.size X1.toArray).drew)=.ok (goInt (Nat.min (nn - j) (nn - j))) ((((w.alloc (.cells R 3)).drew.setRow w.heap.size X1.toArray).drew).setRow w.heap.size X2.toArray):=fun ty dc sc=>hcpB 2 ty dc sc;clear hG hcpA hcpB hR hold hkk hik hcur hRt hX1 hX2 hX2t hN hq0 hv ht
 go_enter Tryz.func179,Tryz.ntmps179
 go_wp2_with (first
  | (at_builtin;refine Lib.wpList_append_run _ rfl _ _ _ _ rfl _ _ rfl rfl _ _ (hrz _) ?_)
  | (at_builtin;refine wpList_copy_runI _ rfl _ _ 33 33 rfl _ _ rfl rfl (hcpA1 _ _) ?_)
  | (at_builtin;refine wpList_copy_runI _ rfl _ _ 33 33 rfl _ _ rfl rfl (hcpA0 _ _) ?_))
 go_region_law_o (refine step_copy_runI rfl _ _ 33 33 rfl (.slice (some ⟨w.heap.size,(j+mv),none⟩) (nn - j) (G - (j+mv))) (.slice (some ⟨b,j,none⟩) (nn - j) (cap - j)) (by first | (simp [Act.eval,Act.put];done) | (simp [Act.eval,Act.put];omega)) (by first | (simp [Act.eval,Act.put];done) | (simp [Act.eval,Act.put];omega)) (hcpB0 3 (G - (j+mv)) (cap - j)) ?_)
 go_wp2
 go_ret
 exact ⟨rfl,2,rfl⟩
set_option maxHeartbeats 4000000 in
set_option maxRecDepth 100000 in
theorem Tryz.ins_none {w:World} {ad vad:Option Addr} {cap nn j vcap:Nat} (hj:j≤nn) (hc:nn≤cap) (hcm:cap≤9223372036854775807):Calls Tryz.prog 179 #[.slice ad nn cap,.int .i64 j,.slice vad 0 vcap] w fun e w'=>e=.returned (.slice ad nn cap)∧∃ n,w'=w.drewN n:=by
 have hb3:(j:Int)≤(nn:Int):=by omega
 by_cases hcj:cap=j
 ·subst hcj
  go_enter Tryz.func179,Tryz.ntmps179
  go_wp2
  go_ret
  exact ⟨rfl,0,rfl⟩
 go_enter Tryz.func179,Tryz.ntmps179
 go_wp2
 go_ret
 exact ⟨rfl,0,rfl⟩
theorem Tryz.insM179:SL Tryz.prog 179 3 1:=by
 intro w ad cap nn cs j vad vcap mv vs hr hj hb hvl hsrc h2 hne hvc;have hcl:=(iZ hr).1;have hnc0:=(iZ hr).2;rw [Nat.mul_one] at hvl;simp only [Nat.mul_one];rcases Nat.eq_zero_or_pos mv with h0 | hm
 ·subst h0;have hv0:vs=[]:=List.eq_nil_of_length_eq_zero (by omega);subst hv0;have hrow:nn≤cap∧cap≤9223372036854775807:=by
   rcases hr.2 with ⟨e0,h0⟩ | ⟨b,cap',cur,he,hbb,hw,hnc,hcm,hcs,ht⟩
   ·cases e0;omega
   cases he;unfold maxLen at hcm;omega
  refine (Tryz.ins_none hj hrow.1 hrow.2).mono fun e w' h=>?_;obtain ⟨rfl,n,rfl⟩:=h;refine ⟨ad,cap,rfl,?_,?_,fun b hb'=>.inl hb'⟩
  ·rw [List.append_nil,List.take_append_drop];exact hr
  exact ⟨⟨rfl,rfl,rfl,Nat.le_refl _,fun k hk hne=>rfl⟩,Nat.le_add_right _ _⟩
 rcases hsrc with h0 | ⟨_,h1,⟨_,h0,_⟩ | ⟨q,rfl,hv⟩⟩
 ·omega
 ·omega
 by_cases hjn:j=nn
 ·subst hjn;refine (Tryz.ins_endM hm hr hb hv hvl h1).mono fun e w' h=>?_;rw [List.take_of_length_le (by omega),List.drop_of_length_le (by omega),List.append_nil];exact h
 have hlt:j < nn:=by omega
 rcases hr.2 with ⟨_,h0⟩ | ⟨b,cap',cur,he,hbb,hw,hnc,hcm,hcs,ht⟩
 ·omega
 simp only [Value.slice.injEq] at he;obtain ⟨rfl,_,rfl⟩:=he;rw [Nat.mul_one] at hcs ht;have hbw:b < w.heap.size:=(Array.getElem?_eq_some_iff.1 hw).1;have h3:cap≤9223372036854775807:=by unfold maxLen at hcm;omega
 have hln:(cs.take (j)++vs++cs.drop (j)).length=(nn+mv):=by
  simp only [List.length_append,List.length_take,List.length_drop,hvl,hcl];omega
 by_cases hroom:nn+mv≤cap
 ·refine (Tryz.ins_roomM hm hw hcs ht h3 hlt hroom hb hv hvl h1 h2 (hne q rfl hm b rfl)).mono fun e w' h=>?_;obtain ⟨rfl,rfl⟩:=h;refine ⟨_,_,rfl,?_,?_,fun b' hb'=>.inl hb'⟩
  ·refine ⟨by rw [hln,Nat.mul_one],.inr ⟨b,cap,_,rfl,hbb,setRow_heap _ b _ _ 3 (0,0) (setRow_heap w.drew b cur _ 3 (0,0) hw),hroom,hcm,?_,?_⟩⟩
   ·have:(cur.toList.drop ((nn+mv))).length=cap - (nn+mv):=by rw [List.length_drop,Array.length_toList,hcs]
    rw [List.size_toArray,List.length_append,hln,this];omega
   rw [Nat.mul_one,List.toList_toArray,List.take_append_of_le_length (by rw [hln];exact Nat.le_refl _),List.take_of_length_le (by rw [hln];exact Nat.le_refl _)]
  exact kY (fun k hk hkb=>(setRow_other _ _ _ _ hkb).trans (setRow_other _ _ _ _ hkb)) rfl rfl rfl (by rw [eN,eN];exact Nat.le_refl _) (Nat.le_succ _)
 refine (Tryz.ins_growM hm hw hcs ht hnc hlt (by omega) hb hv hvl h1 h2).mono fun e w' h=>?_;obtain ⟨G,X,hG1,hG2,hXl,hXt,rfl,Y,Z,m,rfl⟩:=h;refine ⟨_,_,rfl,?_,?_,fun b' hb'=>.inr (by simp at hb';omega)⟩
 ·refine ⟨by rw [hln,Nat.mul_one],.inr ⟨w.heap.size,G,X.toArray,rfl,Nat.zero_le _,setRow_heap _ _ Z _ 3 (0,0) (setRow_heap _ _ Y _ 3 (0,0) (dJ w _)),hG1,hG2,by rw [List.size_toArray,hXl,Nat.mul_one],by rw [List.toList_toArray,Nat.mul_one];exact hXt⟩⟩
 refine kY (fun k hk hkb=>?_) rfl rfl rfl ?_ ?_
 ·have hkn:k≠w.heap.size:=by omega
  exact (setRow_other _ _ _ _ hkn).trans ((setRow_other _ _ _ _ hkn).trans ((gA.alloc True w (.cells Y 3)).keep k hk))
 ·rw [eN,eN];exact (gA.alloc True w (.cells Y 3)).size
 exact Nat.le_add_right _ _
end Go.Proofs
set_option maxHeartbeats 4000000
namespace T12
open Go Go.Proofs Pk Go.RowKit
section
variable {P:Program} {r:Option Nat} {n:aV} {p:List PanicEntry→aV} {a:Act} {w:World} {D:List Deferred} {k:Nat} {L:bY} {ops:Array Oper} {rest:List Oper} {d:Nat} {ty:TypeId} {pos:String} {af:Array Edge}
theorem NT {y:Operand} {t u te:TypeId} {pe:Value} {ms:_} (hA:aT D k a L) (hu':P.underlying t=some (.interface ms)) (hd:Nat.blt d k=true) (hy:ev L y=some (.iface te pe)) (h:∀ a,aT D k a ((d,.bool false)::L)→O P r ops n p rest a w):O P r ops n p (⟨some d,.binOp .eql t y (.const .nilIface) u,ty,pos,af,none⟩::rest) a w:=by
 have hu:P.underlying t=some (.interface (P.methodsAt t)):=by rw [hu'];simp [Program.methodsAt,hu']
 refine cM rfl (fun _ h=>by cases h) (w':=w) (v:=.bool false) ?_ (h _ (hA.put hd _));simp [execOp,hA.eval hy,show a.eval (.const .nilIface)=.nilIface from rfl,eqGuard,run_eql_held_nil w t _ _ hu,Result.andThen]
theorem NU {y:Operand} {t u:TypeId} {ms:_} (hA:aT D k a L) (hu':P.underlying t=some (.interface ms)) (hd:Nat.blt d k=true) (hy:ev L y=some .nilIface) (h:∀ a,aT D k a ((d,.bool true)::L)→O P r ops n p rest a w):O P r ops n p (⟨some d,.binOp .eql t y (.const .nilIface) u,ty,pos,af,none⟩::rest) a w:=by
 have hu:P.underlying t=some (.interface (P.methodsAt t)):=by rw [hu'];simp [Program.methodsAt,hu']
 refine cM rfl (fun _ h=>by cases h) (w':=w) (v:=.bool true) ?_ (h _ (hA.put hd _));simp only [execOp,hA.eval hy,show a.eval (.const .nilIface)=.nilIface from rfl];simp [eqGuard,run_eql_nil_nil w t hu,Result.andThen]
theorem NV {y:Operand} {xT t:TypeId} {v:Value} {ds:TypeDesc} (hA:aT D k a L) (hd:Nat.blt d k=true) (hu:P.underlying t=some ds) (hds:(match ds with | .interface _=>false | _=>true)=true) (hy:ev L y=some (.iface t v))
  (h:∀ a,aT D k a ((d,.tuple #[v,.bool true])::L)→O P r ops n p rest a w):O P r ops n p (⟨some d,.typeAssert y xT t true,ty,pos,af,none⟩::rest) a w :=
 cM rfl (fun _ h=>by cases h) (w':=w) (v:=.tuple #[v,.bool true]) (by
  simp only [execOp,Instr.typeAssert,hA.eval hy]
  cases ds <;> simp at hds <;> simp [run_underlying hu,Result.andThen]) (h _ (hA.put hd _))
end
theorem NW (q:Addr) (w:World):CallsD Tryz.prog 76 #[.pointer (some q)] .returning w fun e u' w'=>e=.returned (.tuple #[])∧u'=.returning∧w'=w:=by
 refine callsD_of_wpS Tryz.func76 rfl fun c₀ cs hu=>?_;apply wpS_seq;apply wpS_region;simp [wpOpsS,go_sem,recoverD,hu,Tryz.ntmps76,Exit.thenS];refine wpS_of_wp ?_;refine (wpIn_wide (n:=0)).1 (wpIn_mono (show Pk.W Tryz.prog none _ (fun a w'=>a.defers=[]∧w'=w) (fun _ _=>False) [] (fun _ _ _=>False) _ w from ?_) ?_)
 ·have hA:aT [] 12 { tmps:=#[.pointer (some q)]++((Array.replicate 11 undef).setIfInBounds 3 .nilIface),defers:=[] } [(0,.pointer (some q)),(4,.nilIface)]:=by
   refine ⟨rfl,by simp,fun i u h=>?_⟩;rcases i with _ | _ | _ | _ | _ | i
   ·exact h
   ·cases h
   ·cases h
   ·cases h
   ·exact h
   cases (show (none:Option Value)=some u from h)
  revert hA;generalize ({ tmps:=_,defers:=[] }:Act)=a;intro hA;refine lL (gD (dE (NU hA Tryz.underlying20 rfl rfl fun a hA=>fR (jB hA rfl (fun _=>?_) (fun h=>by cases h)))));exact dE (fE hA rfl rfl fun a hA=>fR ⟨hA.defers,rfl⟩)
 intro z a w' hz
 cases z with
 | normal =>
  obtain ⟨hd,rfl⟩:=hz;exact ⟨hd,.returning,by cases c₀;simp_all,.tuple #[],by simp [results,Tryz.results76],rfl,rfl,rfl⟩
 | ret=>exact hz.elim
 | panic ch=>exact hz.elim
 | exit id=>obtain ⟨K,hK,_⟩:=hz;simp [sG] at hK
 | goto l=>exact hz
 | outgrown=>exact hz.elim
theorem NX {M:Prop} {W w:World} {H:Hp} {Hs:List Hp} {b tE:Nat} {z0:Value} {u:Int} {σr:aK} (hS:St M W H Hs ((tE,bH b 43 [z0])::σr) w) (hT:Nat.beq 999999 tE=false) :
  CallsD Tryz.prog 76 #[.pointer (some ⟨b,0,none⟩)] (.panicking (GS (.iface 149 (.agg #[.int .i64 u])))) w fun e u' w'=>(∃ v,e=.returned v)∧settle u'=.returning ∧
   ∃ b3 cs3,St M W H Hs ((999999,bH b3 149 cs3)::(tE,bH b 43 [.int .i64 u])::σr) w':=by
 refine callsD_of_wpS Tryz.func76 rfl fun c₀ cs hu=>?_;apply wpS_seq;apply wpS_region;obtain ⟨v,hv⟩:∃ v:Value,v=.agg #[.int .i64 u]:=⟨_,rfl⟩;rw [← hv] at hu;simp [wpOpsS,go_sem,recoverD,hu,Tryz.ntmps76,Exit.thenS,GS];refine wpS_of_wp ?_;refine (wpIn_wide (n:=0)).1 (wpIn_mono (show Pk.W Tryz.prog none _ (fun a w=>a.defers=[]∧∃ b3 cs3,St M W H Hs ((999999,bH b3 149 cs3)::(tE,bH b 43 [.int .i64 u])::σr) w) (fun _ _=>False) [] (fun _ _ _=>False) _ w from ?_) ?_)
 ·have hA:aT [] 12 { tmps:=#[.pointer (some ⟨b,0,none⟩)]++((Array.replicate 11 undef).setIfInBounds 3 (.iface 149 v)),defers:=[] } [(0,.pointer (some ⟨b,0,none⟩)),(4,.iface 149 v)]:=by
   refine ⟨rfl,by simp,fun i u h=>?_⟩;rcases i with _ | _ | _ | _ | _ | i
   ·exact h
   ·cases h
   ·cases h
   ·cases h
   ·exact h
   cases (show (none:Option Value)=some u from h)
  revert hA;generalize ({ tmps:=_,defers:=[] }:Act)=a;intro hA;subst hv;refine lL (gD (dE (NT hA Tryz.underlying20 rfl rfl fun a hA=>fR (jB hA rfl (fun h=>by cases h) (fun _=>?_)))));refine gD (dE (NV hA rfl Tryz.underlying149 rfl rfl fun a hA=>lO (vs:=[.agg #[.int .i64 u],.bool true]) hA rfl rfl rfl fun a hA=>lO (vs:=[.agg #[.int .i64 u],.bool true]) hA rfl rfl rfl fun a hA=>fR (jB hA rfl (fun _=>?_) (fun h=>by cases h))));refine gD (dE (qR 999999 hA rfl hS Tryz.zeroValue149 rfl fun b3 w hS hb a hA=>?_));refine lP 999999 (cs:=[.int .i64 u]) hA hS rfl rfl Tryz.sizeOf149 rfl rfl rfl rfl rfl fun w hS a hA=>fR ?_;refine dE (XU (cs:=[.int .i64 u]) (v:=.int .i64 u) hA rfl rfl rfl Tryz.underlying149 rfl Tryz.sizeOf43 Tryz.isAgg43 ?_ rfl fun a hA=>?_)
  ·exact sO (x:=⟨[],12,M,W,H⟩) 999999 rfl w hS
  refine lP tE (t0:=43) (l:=[z0]) (cs:=[.int .i64 u]) hA hS rfl rfl Tryz.sizeOf43 (by simp [cG,dG,hT]) rfl rfl rfl rfl fun w hS a hA=>fR ?_;refine ⟨hA.defers,b3,[.int .i64 u],?_⟩;simpa [dG,hT,kD,bP] using hS
 intro z a w' hz
 cases z with
 | normal =>
  obtain ⟨hd,h⟩:=hz;subst hv;exact ⟨hd,.panicking [{ v:=.iface 149 (.agg #[.int .i64 u]),recovered:=true }],rfl,.tuple #[],by simp [results,Tryz.results76],⟨_,rfl⟩,rfl,h⟩
 | ret=>exact hz.elim
 | panic ch=>exact hz.elim
 | exit id=>obtain ⟨K,hK,_⟩:=hz;simp [sG] at hK
 | goto l=>exact hz
 | outgrown=>exact hz.elim
variable {R:Ending→World→Prop} {M:Prop} {W:World} {H:Hp} {Hs:List Hp} {σ:aK} {L:bY} {b:Nat}
theorem YU (h:TG ⟨[],56,M,W,H⟩ Hs σ L (Rt Tryz.prog Tryz.f49 R)):TG ⟨[KT 76 [.pointer (some ⟨b,0,none⟩)]],56,M,W,H⟩ Hs σ L (SI Tryz.prog Tryz.f49 R) :=
 rtF Tryz.call76 (fun w hS=>(NW ⟨b,0,none⟩ w).mono (by rintro e u w' ⟨rfl,rfl,rfl⟩;exact ⟨⟨_,rfl⟩,rfl,hS⟩)) h
theorem CS {tE:Nat} {u:Int} {z0:Value} {σr:aK} (hT:Nat.beq 999999 tE=false)
  (h:∀ b3 cs3,TG ⟨[],56,M,W,H⟩ Hs ((999999,bH b3 149 cs3)::(tE,bH b 43 [.int .i64 u])::σr) L (Rt Tryz.prog Tryz.f49 R)) :
  TG ⟨[KT 76 [.pointer (some ⟨b,0,none⟩)]],56,M,W,H⟩ Hs ((tE,bH b 43 [z0])::σr) L (SJ Tryz.prog Tryz.f49 R (GS (.iface 149 (.agg #[.int .i64 u])))) :=
 pnF (σ':=fun b3 cs3=>(999999,bH b3 149 cs3)::(tE,bH b 43 [.int .i64 u])::σr) Tryz.call76 (fun w hS=>NX hS hT) h
section
open Go.Lib
theorem SV (w:World):PredAtRunes Tryz.prog 224 #[] (fun x=>x==32) w:=by
 intro W x hx hb;show Calls Tryz.prog 224 #[encR x] W _
 go_enter Tryz.func224,Tryz.ntmps224
 go_wp2
 first | go_ret | go_ret2
 exact ⟨by simp [encR];rw [Bool.eq_iff_iff];simp;omega,0,rfl⟩
noncomputable def IP (s:aF):Option (List aF):=bW (s.length≤1073741824) (some ((goFieldsP (fun x=>x==32) (bs s)).map (·.data.toList)))
theorem YV {M:Prop} {W:World} {H:Hp} (hH:H.le (hp W)) (hg:Gv M H) (s:aF) {r:List aF} (hr:IP s=some r):Calls Tryz.prog 223 #[.string (bs s),.func (.func 224) #[] #[]] W (eZ M H W (fun v K=>∃ (ad0:Option Addr) (cap0:Nat),v=.slice ad0 r.length cap0∧Sl (aG cL) 1 K ad0 cap0 r)):=by
 unfold IP at hr;obtain ⟨hl,hr⟩:=aE hr;obtain rfl:=Option.some.inj hr;refine (Any.strings_FieldsFunc_runes Tryz.lays229 224 #[] Tryz.call224 (fun x=>x==32) (bs s) W (by rw [fI];omega) (SV W) (by kernel_rfl) (by kernel_rfl)).mono ?_;rintro e w' ⟨A,rfl,hA,ho,hb⟩;have hE:gA M W w':=gA.of_below hg.gl.nq hb;generalize goFieldsP (fun x=>x==32) (bs s)=l at ho;refine ⟨⟨some ⟨A,0,none⟩,l.length,by rw [List.length_map],?_⟩,hE⟩;rcases ho.2 with ⟨h,_⟩ | ⟨g,cap,cur,h,_,hg,h1,h2,h3,h4⟩
 ·cases h
 cases h;refine ⟨by rw [List.length_map];unfold maxLen at h2;omega,fun i x hx=>?_⟩;rw [List.getElem?_map,Option.map_eq_some_iff] at hx;obtain ⟨y,hy,rfl⟩:=hx;refine ⟨_,cL y.data.toList,rfl,rfl,rfl,⟨by rw [dI rfl],fun j v hv=>?_⟩,rfl⟩;rw [dI rfl]
 cases j with
 | succ j=>simp [cL] at hv
 | zero =>
  have hv:v=.string (bs y.data.toList):=by simpa [cL] using hv.symm
  subst hv;refine ⟨cur,9,(0,0),by show (if A < W.heap.size then _ else w'.heap[A]?)=_;rw [if_neg (by omega)];exact hg,?_⟩;have hi:i < l.length:=(List.getElem?_eq_some_iff.1 hy).1;have:(cur.toList.take (l.length*1))[i]?=some (.string y):=by rw [h4];simp [hy]
  rw [List.getElem?_take,if_pos (by omega)] at this;rw [← RB y];simpa using this
end
end T12
set_option maxHeartbeats 4000000
namespace Go.Proofs
open Go Go.Shelf Go.RowKit Pk Go.Sort
end Go.Proofs
set_option maxHeartbeats 4000000
namespace T12
open Go Go.Proofs Pk Tryz
noncomputable section
def CT (line:aF) (s1:Int):Option ((Int)⊕(Int)) :=
 ((
  if s1 < (line.length:Int) then (
   bW (0≤s1) <|
   (line[s1.toNat]?).bind fun x0 =>
   some (decide ((x0.toNat:Int)≠32)))
  else
  some false
 ):Option (Bool)).bind fun t31 =>
 if t31 then (
  bW (-9223372036854775808≤(s1+1)∧(s1+1)≤9223372036854775807) <|
  some (.inl (s1+1)))
 else
 some (.inr s1)
def QL (line:aF) (fu:Int):Option (Int) :=
 (bC (CT line) fu).bind fun e16 =>
 some e16
def QM (bU:aF):Option (Int×Bool) :=
 if bU=[114,101,115,117,108,116] then (
  some (0,false))
 else
 if bU=[109,111,118,101] then (
  some (0,true))
 else
 ((
  if bU=[100,97,121] then (
   some (decide (bU=[100,97,121])))
  else
  ((
   if bU=[104,111,117,115,101] then (
    some (decide (bU=[104,111,117,115,101])))
   else
   ((
    if bU=[97,100,111,112,116] then (
     some (decide (bU=[97,100,111,112,116])))
    else
    some (decide (bU=[111,114,100,101,114]))
   ):Option (Bool)).bind fun t0 =>
   some t0
  ):Option (Bool)).bind fun t1 =>
  some t1
 ):Option (Bool)).bind fun t2 =>
 if t2 then (
  some (1,false))
 else
 if bU=[115,97,121] then (
  some (1,true))
 else
 ((
  if bU=[114,101,109,111,118,101] then (
   some (decide (bU=[114,101,109,111,118,101])))
  else
  ((
   if bU=[99,105,116,101] then (
    some (decide (bU=[99,105,116,101])))
   else
   some (decide (bU=[112,97,105,114]))
  ):Option (Bool)).bind fun t3 =>
  some t3
 ):Option (Bool)).bind fun t4 =>
 if t4 then (
  some (2,false))
 else
 if bU=[99,104,97,110,103,101] then (
  some (2,true))
 else
 ((
  if bU=[98,105,110,100] then (
   some (decide (bU=[98,105,110,100])))
  else
  ((
   if bU=[104,105,100,101] then (
    some (decide (bU=[104,105,100,101])))
   else
   some (decide (bU=[116,101,108,108]))
  ):Option (Bool)).bind fun t5 =>
  some t5
 ):Option (Bool)).bind fun t6 =>
 if t6 then (
  some (3,false))
 else
 if bU=[97,100,100] then (
  some (3,true))
 else
 if bU=[100,105,118,105,100,101] then (
  some (4,false))
 else
 if bU=[112,97,112,101,114] then (
  some (4,true))
 else
 some ((-1),false)
def yP (t21:aF) (s1:Nat×Int):Option ((Nat×Int)⊕((Int)⊕(Int×Bool))) :=
 if (s1.1:Int) < (t21.length:Int) then (
  ((
   (t21[s1.1]?).bind fun x1 =>
   if (x1.toNat:Int) < 48 then (
    some true)
   else
   some (decide (57 < (x1.toNat:Int)))
  ):Option (Bool)).bind fun t0 =>
  if t0 then (
   some (.inr (.inr (0,false))))
  else
  bW (-9223372036854775808≤(10*s1.2)∧(10*s1.2)≤9223372036854775807) <|
  (t21[s1.1]?).bind fun x0 =>
  bW (-9223372036854775808≤((10*s1.2)+(((x0.toNat:Int) - 48)%256))∧((10*s1.2)+(((x0.toNat:Int) - 48)%256))≤9223372036854775807) <|
  bW (-9223372036854775808≤((s1.1:Int)+1)∧((s1.1:Int)+1)≤9223372036854775807) <|
  some (.inl ((s1.1+1),((10*s1.2)+(((x0.toNat:Int) - 48)%256)))))
 else
 some (.inr (.inl s1.2))
def LB (ai:aF):Option (Int×Bool) :=
 ((
  if 0 < (ai.length:Int) then (
   (ai[0]?).bind fun x0 =>
   some (decide ((x0.toNat:Int)=45)))
  else
  some false
 ):Option (Bool)).bind fun t7 =>
 ((
  if t7 then (
   bW (1≤ai.length) <|
   some (ai.drop 1))
  else
  some ai
 ):Option (aF)).bind fun t21 =>
 ((
  if (t21.length:Int)=0 then (
   some true)
  else
  if 9 < (t21.length:Int) then (
   some true)
  else
  (t21[0]?).bind fun x1 =>
  if (x1.toNat:Int)=48 then (
   if 1 < (t21.length:Int) then (
    some true)
   else
   some t7)
  else
  some false
 ):Option (Bool)).bind fun t44 =>
 if t44 then (
  some (0,false))
 else
 (bC (yP t21) (0,0)).bind fun eA1=>match eA1 with
 | .inr z=>some z
 | .inl t0 =>
 ((
  if t7 then (
   bW (-9223372036854775808≤(0 - t0)∧(0 - t0)≤9223372036854775807) <|
   some (0 - t0))
  else
  some t0
 ):Option (Int)).bind fun t1 =>
 some (t1,true)
def CU (r8:Int×Bool) (line:aF) (s122:Nat×Int×List Int):Option ((Nat×Int×List Int)⊕((Int×List Int)⊕(aF×List Int×aF×Bool))) :=
 if (s122.1:Int) < r8.1 then (
  if s122.2.1=(line.length:Int) then (
   some (.inr (.inr ([],([]:List Int),[],false))))
  else
  bW (-9223372036854775808≤(s122.2.1+1)∧(s122.2.1+1)≤9223372036854775807) <|
  (QL line (s122.2.1+1)).bind fun r0 =>
  bW (0≤(s122.2.1+1)) <|
  bW (0≤r0) <|
  bW ((s122.2.1+1).toNat≤r0.toNat∧r0.toNat≤line.length) <|
  (LB ((line.drop ((s122.2.1+1).toNat)).take (r0.toNat - ((s122.2.1+1).toNat)))).bind fun r1 =>
  if r1.2 then (
   bW (s122.2.2.length+1≤1073741824) <|
   bW (-9223372036854775808≤((s122.1:Int)+1)∧((s122.1:Int)+1)≤9223372036854775807) <|
   some (.inl ((s122.1+1),r0,(s122.2.2++[r1.1]))))
  else
  some (.inr (.inr ([],([]:List Int),[],false))))
 else
 some (.inr (.inl (s122.2.1,s122.2.2)))
def SW (line:aF):Option (aF×List Int×aF×Bool) :=
 (QL line 0).bind fun r1 =>
 bW (0≤r1) <|
 bW (r1.toNat≤line.length) <|
 (QM (line.take r1.toNat)).bind fun r8 =>
 if r8.1 < 0 then (
  some ([],([]:List Int),[],false))
 else
 (bC (CU r8 line) (0,r1,([]:List Int))).bind fun eA1=>match eA1 with
 | .inr z=>some z
 | .inl t0 =>
 if r8.2==decide (t0.1 < (line.length:Int)) then (
  if r8.2 then (
   bW (-9223372036854775808≤(t0.1+1)∧(t0.1+1)≤9223372036854775807) <|
   bW (0≤(t0.1+1)) <|
   bW ((t0.1+1).toNat≤line.length) <|
   some ((line.take r1.toNat),t0.2,(line.drop ((t0.1+1).toNat)),true))
  else
  some ((line.take r1.toNat),t0.2,[],true))
 else
 some ([],([]:List Int),[],false)
def NY (lines:List aF) (s1:Nat×Int×Int):Option ((Nat×Int×Int)⊕(Int×Int)) :=
 if (s1.1:Int) < (lines.length:Int) then (
  (lines[s1.1]?).bind fun x0 =>
  (SW x0).bind fun r0 =>
  ((
   if r0.2.2.2 then (
    some (decide (r0.1=[116,101,108,108])))
   else
   some false
  ):Option (Bool)).bind fun t0 =>
  ((
   if t0 then (
    some (IntKind.i64.wrap (s1.2.2+1)))
   else
   some s1.2.2
  ):Option (Int)).bind fun t1 =>
  some (.inl ((s1.1+1),(IntKind.i64.wrap (s1.2.1+(x0.length:Int))),t1)))
 else
 some (.inr (s1.2.1,s1.2.2))
def m6 (lines:List aF):Option (Bool) :=
 (bC (NY lines) (0,0,0)).bind fun e55 =>
 ((
  if e55.2≤8 then (
   if (lines.length:Int)≤40 then (
    if e55.1≤1500 then (
     some true)
    else
    if (lines.length:Int)≤62 then (
     if e55.1≤200 then (
      some true)
     else
     if (lines.length:Int)=1 then (
      some (decide (e55.1≤410)))
     else
     some false)
    else
    if (lines.length:Int)=1 then (
     some (decide (e55.1≤410)))
    else
    some false)
   else
   if (lines.length:Int)≤62 then (
    if e55.1≤200 then (
     some true)
    else
    if (lines.length:Int)=1 then (
     some (decide (e55.1≤410)))
    else
    some false)
   else
   if (lines.length:Int)=1 then (
    some (decide (e55.1≤410)))
   else
   some false)
  else
  some false
 ):Option (Bool)).bind fun t0 =>
 some t0
def NZ (lines:List aF) (s1:Nat):Option ((Nat)⊕((Unit)⊕Bool)) :=
 if (s1:Int) < (lines.length:Int) then (
  (lines[s1]?).bind fun x0 =>
  if 400 < (x0.length:Int) then (
   some (.inr (.inr false)))
  else
  some (.inl (s1+1)))
 else
 some (.inr (.inl ()))
def m7 (lines:List aF):Option (Bool) :=
 (bC (NZ lines) 0).bind fun e16=>match e16 with
 | .inr z=>some z
 | .inl t0 =>
 some (decide ((lines.length:Int)≤60))
def m17  : Option (List aF) :=
 some ([[104,111,117,115,101,32,53],[115,97,121,32,49,49,32,84,104,101,32,72,111,117,115,101,32,109,101,116,46],[109,111,118,101,32,116,104,105,115,32,72,111,117,115,101,32,110,111,116,101,115,32,116,104,101,32,114,101,112,111,114,116],[112,97,112,101,114,32,51,32,48,32,50,32,51,32,119,101,108,99,111,109,101,115],[97,100,111,112,116,32,51],[100,105,118,105,100,101,32,48,32,48,32,51,32,50],[116,101,108,108,32,49,32,48,32,48],[116,101,108,108,32,49,32,49,32,48],[116,101,108,108,32,49,32,48,32,49],[116,101,108,108,32,49,32,49,32,49],[116,101,108,108,32,50,32,48,32,52],[114,101,115,117,108,116],[116,101,108,108,32,50,32,49,32,52],[114,101,115,117,108,116],[111,114,100,101,114,32,49,50],[98,105,110,100,32,51,32,52,32,50,48],[104,105,100,101,32,49,49,32,50,32,49,57,57,48],[99,105,116,101,32,49,50,32,48]]:List aF)
def yQ (ai:List aF) (cj:aF→Option Bool) (s1:Nat):Option ((Nat)⊕((Unit)⊕Int)) :=
 if (s1:Int) < (ai.length:Int) then (
  (ai[s1]?).bind fun x0 =>
  (cj x0).bind fun r0 =>
  if r0 then (
   some (.inr (.inr (s1:Int))))
  else
  some (.inl (s1+1)))
 else
 some (.inr (.inl ()))
def SX (ai:List aF) (cj:aF→Option Bool):Option (Int) :=
 (bC (yQ ai cj) 0).bind fun e19=>match e19 with
 | .inr z=>some z
 | .inl t0 =>
 some (-1)
def OA (ai:List aF) (cj:aF→Option Bool):Option (Bool) :=
 (SX ai cj).bind fun r1 =>
 some (decide (0≤r1))
def LC (ai:aF):Option (Bool) :=
 some (decide (400 < (ai.length:Int)))
def OB (lines:List aF):Option (Int) :=
 ((
  if 60 < (lines.length:Int) then (
   some true)
  else
  (OA lines (LC)).bind fun r0 =>
  some r0
 ):Option (Bool)).bind fun t8 =>
 if t8 then (
  some 3)
 else
 some 0
def tT (ec:Int) (low:Int) (high:Int):Option (Bool) :=
 ((
  if low≤ec then (
   some (decide (ec≤high)))
  else
  some false
 ):Option (Bool)).bind fun t4 =>
 some t4
def jF (iv:Bool) (e:Int):Option (Unit⊕Unit) :=
 if iv then (
  some (.inl ()))
 else
 some (.inr ())
def CV (ac:aI) (bq:List Int) (cw:aF):Option (aI⊕Int) :=
 (bq[0]?).bind fun x3 =>
 (tT x3 ac.state.day 99999).bind fun r0 =>
 (jF r0 2).bind fun r1=>match r1 with
 | .inl y0=>(
  some (.inl (⟨({ac.state with day:=x3}:cZ)⟩:aI)))
 | .inr _=>(
  some (.inr 2))
def CW (ai:List dW):Option (List dW) :=
 bW (([]:List dW).length+ai.length≤1073741824) <|
 some (([]:List dW)++ai)
def IQ (ai:List aH):Option (List aH) :=
 bW (([]:List aH).length+ai.length≤1073741824) <|
 some (([]:List aH)++ai)
def CX (bt:List aH) (cq:aH):Option (List aH) :=
 (IQ bt).bind fun r4 =>
 bW (r4.length+([cq]:List aH).length≤1073741824) <|
 some (r4++([cq]:List aH))
def CY (ac:aI) (parts:List dW):Option (bT) :=
 some (⟨1,ac.state.day,1,10,parts⟩:bT)
def CZ (ac:aI) (parts:List dW):Option (bT) :=
 some (⟨1,ac.state.day,1,10,parts⟩:bT)
def rI (ar:bT) (s1:Nat×List aH):Option ((Nat×List aH)⊕(List aH)) :=
 if (s1.1:Int) < (ar.parts.length:Int) then (
  (ar.parts[s1.1]?).bind fun x0 =>
  bW (s1.2.length+x0.paragraphs.length≤1073741824) <|
  some (.inl ((s1.1+1),(s1.2++x0.paragraphs))))
 else
 some (.inr s1.2)
def tU (ar:bT):Option (List aH) :=
 (bC (rI ar) (0,([]:List aH))).bind fun e82 =>
 some e82
def pA (ec:Int) (low:Int) (high:Int):Option (Bool) :=
 ((
  if low≤ec then (
   some (decide (ec≤high)))
  else
  some false
 ):Option (Bool)).bind fun t4 =>
 some t4
def pP (ec:Int):Option (Bool) :=
 (pA ec 0 99999).bind fun r1 =>
 some r1
def tV (aq:aH) (ce:aH→Option Bool):Option (Bool) :=
 (ce aq).bind fun r4 =>
 some (!r4)
def wA (ai:List aH) (cj:aH→Option Bool) (s1:Nat):Option ((Nat)⊕((Unit)⊕Int)) :=
 if (s1:Int) < (ai.length:Int) then (
  (ai[s1]?).bind fun x0 =>
  (cj x0).bind fun r0 =>
  if r0 then (
   some (.inr (.inr (s1:Int))))
  else
  some (.inl (s1+1)))
 else
 some (.inr (.inl ()))
def IR (ai:List aH) (cj:aH→Option Bool):Option (Int) :=
 (bC (wA ai cj) 0).bind fun e19=>match e19 with
 | .inr z=>some z
 | .inl t0 =>
 some (-1)
def IS (ai:List aH) (cj:aH→Option Bool):Option (Bool) :=
 (IR ai cj).bind fun r1 =>
 some (decide (0≤r1))
def DA (bt:List aH) (right:aH→Option Bool):Option (Bool) :=
 (IS bt (fun x0_=>tV x0_ right)).bind fun r5 =>
 some (!r5)
def wB (ec:Int):Option (Bool) :=
 (pA ec 1 999).bind fun r1 =>
 some r1
def tW (aq:Int) (ce:Int→Option Bool):Option (Bool) :=
 (ce aq).bind fun r1 =>
 some (!r1)
def pB (ai:List UInt8) (cj:Int→Option Bool) (s1:Nat):Option ((Nat)⊕((Unit)⊕Int)) :=
 if (s1:Int) < (ai.length:Int) then (
  (ai[s1]?).bind fun x0 =>
  (cj (x0.toNat:Int)).bind fun r0 =>
  if r0 then (
   some (.inr (.inr (s1:Int))))
  else
  some (.inl (s1+1)))
 else
 some (.inr (.inl ()))
def wC (ai:List UInt8) (cj:Int→Option Bool):Option (Int) :=
 (bC (pB ai cj) 0).bind fun e19=>match e19 with
 | .inr z=>some z
 | .inl t0 =>
 some (-1)
def LD (ai:List UInt8) (cj:Int→Option Bool):Option (Bool) :=
 (wC ai cj).bind fun r1 =>
 some (decide (0≤r1))
def DB (bt:List UInt8) (right:Int→Option Bool):Option (Bool) :=
 (LD bt (fun x0_=>tW x0_ right)).bind fun r5 =>
 some (!r5)
def wD (ga:Int):Option (Bool) :=
 ((
  if (32:Int)≤ga then (
   some (decide (ga≤126)))
  else
  some false
 ):Option (Bool)).bind fun t4 =>
 some t4
def wE (ai:aF):Option (Bool) :=
 ((
  (pA (ai.length:Int) 1 200).bind fun r0 =>
  if r0 then (
   bW (ai.length≤1073741824) <|
   (DB ai (wD)).bind fun r1 =>
   some r1)
  else
  some false
 ):Option (Bool)).bind fun t0 =>
 some t0
def tX (cy:aH):Option (Bool) :=
 ((
  (wB cy.anchor).bind fun r0 =>
  if r0 then (
   (wE cy.text).bind fun r1 =>
   some r1)
  else
  some false
 ):Option (Bool)).bind fun t0 =>
 some t0
def wF (ar:bT) (s1:Nat):Option ((Nat)⊕((Unit)⊕Bool)) :=
 if (s1:Int) < (ar.parts.length:Int) then (
  (ar.parts[s1]?).bind fun x0 =>
  ((
   (pP x0.day).bind fun r0 =>
   if r0 then (
    if ar.bound < x0.day then (
     some true)
    else
    if 0 < (s1:Int) then (
     (ar.parts[((s1:Int) - 1).toNat]?).bind fun x1 =>
     some (decide (x0.day≤x1.day)))
    else
    some false)
   else
   some true
  ):Option (Bool)).bind fun t0 =>
  if t0 then (
   some (.inr (.inr false)))
  else
  some (.inl (s1+1)))
 else
 some (.inr (.inl ()))
def DD (ar:bT):Option (Bool) :=
 (bC (wF ar) 0).bind fun e55=>match e55 with
 | .inr z=>some z
 | .inl t58 =>
 ((
  (pA ar.number 1 99).bind fun r0 =>
  if r0 then (
   (pP ar.bound).bind fun r1 =>
   if r1 then (
    (pA ar.height 1 60).bind fun r2 =>
    if r2 then (
     (pA ar.width 10 80).bind fun r3 =>
     if r3 then (
      (tU ar).bind fun r4 =>
      (DA r4 (tX)).bind fun r5 =>
      some r5)
     else
     some false)
    else
    some false)
   else
   some false)
  else
  some false
 ):Option (Bool)).bind fun t0 =>
 some t0
def wG (r7:List aH) (s1:Nat×(List (Int×Bool))):Option ((Nat×(List (Int×Bool)))⊕(((List (Int×Bool)))⊕Int)) :=
 if (s1.1:Int) < (r7.length:Int) then (
  (r7[s1.1]?).bind fun x0 =>
  if (eD s1.2 x0.anchor).getD false then (
   some (.inr (.inr 6)))
  else
  some (.inl ((s1.1+1),(put s1.2 x0.anchor true))))
 else
 some (.inr (.inl s1.2))
def wH (ar:bT):Option (Int) :=
 (tU ar).bind fun r7 =>
 ((
  if 6 < (ar.parts.length:Int) then (
   some true)
  else
  some (decide (30 < (r7.length:Int)))
 ):Option (Bool)).bind fun t30 =>
 if t30 then (
  some 3)
 else
 (DD ar).bind fun r0 =>
 if r0 then (
  (bC (wG r7) (0,([]:List (Int×Bool)))).bind fun e94=>match e94 with
  | .inr z=>some z
  | .inl t0 =>
  some 0)
 else
 some 1
def lI (e:Int):Option (Unit⊕Unit) :=
 (jF (decide (e=0)) e).bind fun r1=>match r1 with
 | .inl y4=>(
  some (.inl ()))
 | .inr _=>(
  some (.inr ()))
def zZ (ac:aI) (bq:List Int) (text:aF):Option (aI⊕Int) :=
 (jF (!ac.state.bound) 8).bind fun r3=>match r3 with
 | .inl y6=>(
  (bq[0]?).bind fun x8 =>
  (CW ac.state.volume.parts).bind fun r0 =>
  ((
   if 0≤((r0.length:Int) - 1) then (
    (r0[((r0.length:Int) - 1).toNat]?).bind fun x1 =>
    some (decide (x1.day=ac.state.day)))
   else
   some false
  ):Option (Bool)).bind fun t45 =>
  ((
   if t45 then (
    bW (0≤((r0.length:Int) - 1)) <|
    (r0[((r0.length:Int) - 1).toNat]?).bind fun x0 =>
    (CX x0.paragraphs (⟨x8,text⟩:aH)).bind fun r2 =>
    some (r0.set (((r0.length:Int) - 1).toNat) (⟨x0.day,r2⟩:dW)))
   else
   bW (r0.length+([(⟨ac.state.day,([(⟨x8,text⟩:aH)]:List aH)⟩:dW)]:List dW).length≤1073741824) <|
   some (r0++([(⟨ac.state.day,([(⟨x8,text⟩:aH)]:List aH)⟩:dW)]:List dW))
  ):Option (List dW)).bind fun t142 =>
  (CY ac t142).bind fun r4 =>
  (wH r4).bind fun r1 =>
  (lI r1).bind fun r5=>match r5 with
  | .inl y0=>(
   some (.inl (⟨({ac.state with volume:=({ac.state.volume with parts:=t142}:bT)}:cZ)⟩:aI)))
  | .inr _=>(
   some (.inr r1)))
 | .inr _=>(
  some (.inr 8))
def DE (ac:aI) (bq:List Int) (cw:aF):Option (aI⊕Int) :=
 (jF (!ac.state.bound) 8).bind fun r3=>match r3 with
 | .inl y6=>(
  (bq[0]?).bind fun x8 =>
  (bq[1]?).bind fun x0 =>
  (bq[2]?).bind fun x1 =>
  (wH (⟨x8,ac.state.day,x0,x1,ac.state.volume.parts⟩:bT)).bind fun r0 =>
  (lI r0).bind fun r1=>match r1 with
  | .inl y0=>(
   some (.inl (⟨({ac.state with volume:=(⟨x8,ac.state.day,x0,x1,ac.state.volume.parts⟩:bT),bound:=true}:cZ)⟩:aI)))
  | .inr _=>(
   some (.inr r0)))
 | .inr _=>(
  some (.inr 8))
def rJ (ai:List aQ):Option (List aQ) :=
 bW (([]:List aQ).length+ai.length≤1073741824) <|
 some (([]:List aQ)++ai)
def DG (bt:List aQ) (cq:aQ):Option (List aQ) :=
 (rJ bt).bind fun r4 =>
 bW (r4.length+([cq]:List aQ).length≤1073741824) <|
 some (r4++([cq]:List aQ))
def tY (aq:aQ) (ce:aQ→Option Bool):Option (Bool) :=
 (ce aq).bind fun r4 =>
 some (!r4)
def wI (ai:List aQ) (cj:aQ→Option Bool) (s1:Nat):Option ((Nat)⊕((Unit)⊕Int)) :=
 if (s1:Int) < (ai.length:Int) then (
  (ai[s1]?).bind fun x0 =>
  (cj x0).bind fun r0 =>
  if r0 then (
   some (.inr (.inr (s1:Int))))
  else
  some (.inl (s1+1)))
 else
 some (.inr (.inl ()))
def IT (ai:List aQ) (cj:aQ→Option Bool):Option (Int) :=
 (bC (wI ai cj) 0).bind fun e19=>match e19 with
 | .inr z=>some z
 | .inl t0 =>
 some (-1)
def IU (ai:List aQ) (cj:aQ→Option Bool):Option (Bool) :=
 (IT ai cj).bind fun r1 =>
 some (decide (0≤r1))
def DH (bt:List aQ) (right:aQ→Option Bool):Option (Bool) :=
 (IU bt (fun x0_=>tY x0_ right)).bind fun r5 =>
 some (!r5)
def tZ (aq:aQ):Option (Bool) :=
 ((
  (pA aq.number 1 999).bind fun r22 =>
  if r22 then (
   (pP aq.day).bind fun r0 =>
   if r0 then (
    (wB aq.anchor).bind fun r1 =>
    some (!r1))
   else
   some true)
  else
  some true
 ):Option (Bool)).bind fun t0 =>
 if t0 then (
  some false)
 else
 if aq.kind=0 then (
  ((
   (wE aq.text).bind fun r2 =>
   if r2 then (
    some (decide (aq.new_=0)))
   else
   some false
  ):Option (Bool)).bind fun t1 =>
  some t1)
 else
 if aq.kind=1 then (
  ((
   if aq.text=[] then (
    some (decide (aq.new_=0)))
   else
   some false
  ):Option (Bool)).bind fun t2 =>
  some t2)
 else
 if aq.kind=2 then (
  ((
   (wE aq.text).bind fun r3 =>
   if r3 then (
    (wB aq.new_).bind fun r4 =>
    some r4)
   else
   some false
  ):Option (Bool)).bind fun t3 =>
  some t3)
 else
 some false
def uA (aq:Int):Option (Bool) :=
 some (decide (aq≠aq))
def AA (aq:Int) (fj:Int):Option (Int) :=
 (uA aq).bind fun r1 =>
 (uA fj).bind fun r4 =>
 if r1 then (
  if r4 then (
   some 0)
  else
  some (-1))
 else
 if r4 then (
  some 1)
 else
 if aq < fj then (
  some (-1))
 else
 if fj < aq then (
  some 1)
 else
 some 0
def pC (vals:List Int) (s1:Nat):Option ((Nat)⊕((Unit)⊕Int)) :=
 if (s1:Int) < (vals.length:Int) then (
  (vals[s1]?).bind fun x0 =>
  if x0≠0 then (
   some (.inr (.inr x0)))
  else
  some (.inl (s1+1)))
 else
 some (.inr (.inl ()))
def DI (vals:List Int):Option (Int) :=
 (bC (pC vals) 0).bind fun e16=>match e16 with
 | .inr z=>some z
 | .inl t0 =>
 some 0
def rK (dg:aQ) (dh:aQ):Option (Int) :=
 (AA dg.day dh.day).bind fun r7 =>
 (AA dg.number dh.number).bind fun r11 =>
 (DI ([r7,r11]:List Int)).bind fun r0 =>
 some r0
def DJ (r1:List aQ) (l6:List aQ) (fa:Int) (yield:aQ→Option Bool) (s1:Nat):Option ((Nat)⊕((Unit)⊕Unit)) :=
 if (s1:Int) < (r1.length:Int) then (
  (l6[s1]?).bind fun x0 =>
  ((
   if fa < x0.day then (
    some true)
   else
   (yield x0).bind fun r0 =>
   some (!r0)
  ):Option (Bool)).bind fun t0 =>
  if t0 then (
   some (.inr (.inr ())))
  else
  some (.inl (s1+1)))
 else
 some (.inr (.inl ()))
def SY (yield:aQ→Option Bool) (ce:List aQ) (fa:Int):Option (Unit) :=
 (rJ ce).bind fun r1 =>
 (iU (rK) r1).bind fun l6 =>
 (bC (DJ r1 l6 fa yield) 0).bind fun e31=>match e31 with
 | .inr z=>some z
 | .inl t34 =>
 some ()
def wJ (r10:List aH) (s1:Nat×(List (Int×Bool))):Option ((Nat×(List (Int×Bool)))⊕((List (Int×Bool)))) :=
 if (s1.1:Int) < (r10.length:Int) then (
  (r10[s1.1]?).bind fun x0 =>
  some (.inl ((s1.1+1),(put s1.2 x0.anchor true))))
 else
 some (.inr s1.2)
def wK (r0:List aQ) (l0:List aQ) (s1:Nat×(List (Int×Bool))):Option ((Nat×(List (Int×Bool)))⊕(((List (Int×Bool)))⊕(((List (Int×Bool)))⊕(Nat×(List (Int×Bool)))))) :=
 if (s1.1:Int) < (r0.length:Int) then (
  (l0[s1.1]?).bind fun x0 =>
  if 99999 < x0.day then (
   some (.inr (.inr (.inl s1.2))))
  else
  ((
   if (eD s1.2 x0.anchor).getD false then (
    ((
     if x0.kind=2 then (
      some (put s1.2 x0.new_ true))
     else
     some s1.2
    ):Option ((List (Int×Bool)))).bind fun t0 =>
    some (.inr t0))
   else
   some (.inl 7)
  ):Option ((Nat)⊕((List (Int×Bool))))).bind fun t1=>match t1 with
  | .inl t2=>(
   some (.inr (.inr (.inr (t2,s1.2)))))
  | .inr t3=>(
   some (.inl ((s1.1+1),t3))))
 else
 some (.inr (.inl s1.2))
def DK (ar:bT) (errata:List aQ):Option (Int) :=
 (tU ar).bind fun r10 =>
 (bC (wJ r10) (0,([]:List (Int×Bool)))).bind fun e47 =>
 ((
  (rJ errata).bind fun r0 =>
  (iU (rK) r0).bind fun l0 =>
  (bC (wK r0 l0) (0,e47)).bind fun eA1=>match eA1 with
  | .inr z=>some z
  | .inl t0 =>
  some (.inl t0)
 ):Option (((List (Int×Bool)))⊕(Nat×(List (Int×Bool))))).bind fun t1=>match t1 with
 | .inl t3=>(
  some 0)
 | .inr t2=>(
  some (t2.1:Int))
def wL (r0:List aH) (s1:Nat×(List (Int×Bool))):Option ((Nat×(List (Int×Bool)))⊕((List (Int×Bool)))) :=
 if (s1.1:Int) < (r0.length:Int) then (
  (r0[s1.1]?).bind fun x0 =>
  some (.inl ((s1.1+1),(put s1.2 x0.anchor true))))
 else
 some (.inr s1.2)
def wM (errata:List aQ) (s1:Nat×(List (Int×Bool))×(List (Int×Bool))):Option ((Nat×(List (Int×Bool))×(List (Int×Bool)))⊕(((List (Int×Bool))×(List (Int×Bool)))⊕Int)) :=
 if (s1.1:Int) < (errata.length:Int) then (
  (errata[s1.1]?).bind fun x0 =>
  ((
   if (eD s1.2.1 x0.number).getD false then (
    some true)
   else
   if x0.kind=2 then (
    some ((eD s1.2.2 x0.new_).getD false))
   else
   some false
  ):Option (Bool)).bind fun t0 =>
  if t0 then (
   some (.inr (.inr 6)))
  else
  ((
   if x0.kind=2 then (
    some (put s1.2.2 x0.new_ true))
   else
   some s1.2.2
  ):Option ((List (Int×Bool)))).bind fun t1 =>
  some (.inl ((s1.1+1),(put s1.2.1 x0.number true),t1)))
 else
 some (.inr (.inl (s1.2.1,s1.2.2)))
def wN (ar:bT) (errata:List aQ):Option (Int) :=
 (wH ar).bind fun r7 =>
 if r7≠0 then (
  some r7)
 else
 if 20 < (errata.length:Int) then (
  some 3)
 else
 (DH errata (tZ)).bind fun r0 =>
 if r0 then (
  (tU ar).bind fun r1 =>
  (bC (wL r1) (0,([]:List (Int×Bool)))).bind fun e88 =>
  (bC (wM errata) (0,([]:List (Int×Bool)),e88)).bind fun eA1=>match eA1 with
  | .inr z=>some z
  | .inl t0 =>
  (DK ar errata).bind fun r2 =>
  some r2)
 else
 some 1
def DL (x0:List cN) (anchor:Int) (s2:Nat×Nat×Nat×Bool) (s1:Nat×Nat×Nat×Bool):Option ((Nat×Nat×Nat×Bool)⊕((Nat×Nat×Bool)⊕((Nat×Nat×Nat×Bool)⊕(Nat×Nat×Bool)))) :=
 if (s1.2.2.1:Int) < (x0.length:Int) then (
  (x0[s1.2.2.1]?).bind fun x1 =>
  if x1.paragraph.anchor=anchor then (
   Option.map (fun z=>.inr (.inr z)) (
   some (.inr (s2.2.2.1,s1.2.2.1,true))))
  else
  some (.inl (s1.1,s1.2.1,(s1.2.2.1+1),s1.2.2.2)))
 else
 some (.inr (.inl (s1.1,s1.2.1,s1.2.2.2)))
def DM (ac:gX) (anchor:Int) (s1:Nat×Nat×Nat×Bool):Option ((Nat×Nat×Nat×Bool)⊕(Nat×Nat×Bool)) :=
 if (s1.2.2.1:Int) < (ac.parts.length:Int) then (
  (ac.parts[s1.2.2.1]?).bind fun x0 =>
  (bC (DL x0 anchor s1) (s1.1,s1.2.1,0,s1.2.2.2)).bind fun eA1=>match eA1 with
  | .inr z=>some z
  | .inl t0 =>
  some (.inl (t0.1,t0.2.1,(s1.2.2.1+1),t0.2.2)))
 else
 some (.inr (s1.1,s1.2.1,s1.2.2.2))
def SZ (ac:gX) (anchor:Int):Option (Int×Int×Bool) :=
 (bC (DM ac anchor) (0,0,0,false)).bind fun e40 =>
 some ((e40.1:Int),(e40.2.1:Int),e40.2.2)
def IV  : Option (Unit) :=
 some ()
def wO (x0:dW) (s1:Nat×List cN):Option ((Nat×List cN)⊕(List cN)) :=
 if (s1.1:Int) < (x0.paragraphs.length:Int) then (
  (x0.paragraphs[s1.1]?).bind fun x1 =>
  bW (s1.2.length+1≤1073741824) <|
  some (.inl ((s1.1+1),(s1.2++[(⟨x1,false⟩:cN)]))))
 else
 some (.inr s1.2)
def wP (ar:bT) (s1:Nat×List (List cN)):Option ((Nat×List (List cN))⊕(List (List cN))) :=
 if (s1.1:Int) < (ar.parts.length:Int) then (
  (ar.parts[s1.1]?).bind fun x0 =>
  (bC (wO x0) (0,([]:List cN))).bind fun eA1 =>
  bW (s1.2.length+1≤1073741824) <|
  some (.inl ((s1.1+1),(s1.2++[eA1]))))
 else
 some (.inr s1.2)
def wQ (x0:List cN) (x1:aQ) (s2:Nat×Nat×Nat×Bool) (s1:Nat×Nat×Nat×Bool):Option ((Nat×Nat×Nat×Bool)⊕((Nat×Nat×Bool)⊕((Nat×Nat×Nat×Bool)⊕(Nat×Nat×Bool)))) :=
 if (s1.2.2.1:Int) < (x0.length:Int) then (
  (x0[s1.2.2.1]?).bind fun x2 =>
  if x2.paragraph.anchor=x1.anchor then (
   Option.map (fun z=>.inr (.inr z)) (
   some (.inr (s2.2.2.1,s1.2.2.1,true))))
  else
  bW (-9223372036854775808≤((s1.2.2.1:Int)+1)∧((s1.2.2.1:Int)+1)≤9223372036854775807) <|
  some (.inl (s1.1,s1.2.1,(s1.2.2.1+1),s1.2.2.2)))
 else
 some (.inr (.inl (s1.1,s1.2.1,s1.2.2.2)))
def rL (s2:Nat×List (List cN)) (x0:aQ) (s1:Nat×Nat×Nat×Bool):Option ((Nat×Nat×Nat×Bool)⊕(Nat×Nat×Bool)) :=
 if (s1.2.2.1:Int) < (s2.2.length:Int) then (
  (s2.2[s1.2.2.1]?).bind fun x1 =>
  (bC (wQ x1 x0 s1) (s1.1,s1.2.1,0,s1.2.2.2)).bind fun eA1=>match eA1 with
  | .inr z=>some z
  | .inl t0 =>
  bW (-9223372036854775808≤((s1.2.2.1:Int)+1)∧((s1.2.2.1:Int)+1)≤9223372036854775807) <|
  some (.inl (t0.1,t0.2.1,(s1.2.2.1+1),t0.2.2)))
 else
 some (.inr (s1.1,s1.2.1,s1.2.2.2))
def wR (r0:List aQ) (l0:List aQ) (eh:Int) (s1:Nat×List (List cN)):Option ((Nat×List (List cN))⊕((List (List cN))⊕(List (List cN)))) :=
 if (s1.1:Int) < (r0.length:Int) then (
  (l0[s1.1]?).bind fun x0 =>
  ((
   if eh < x0.day then (
    some (true,s1.2))
   else
   ((
    ((
     (bC (rL s1 x0) (0,0,0,false)).bind fun eA1 =>
     some (eA1.2.1,eA1.1,eA1.2.2)
    ):Option (Nat×Nat×Bool)).bind fun t0 =>
    ((
     if t0.2.2 then (
      (IV).bind fun r1 =>
      bW (0≤x0.kind) <|
      if x0.kind=0 then (
       ((
        (s1.2[t0.2.1]?).bind fun x3 =>
        (x3[t0.1]?).bind fun x2 =>
        ((
         if x2.removed then (
          some s1.2)
         else
         some (s1.2.set t0.2.1 (x3.set t0.1 (⟨(⟨x2.paragraph.anchor,x0.text⟩:aH),x2.removed⟩:cN)))
        ):Option (List (List cN))).bind fun t2 =>
        some t2
       ):Option (List (List cN))).bind fun t3 =>
       some t3)
      else
      if x0.kind=1 then (
       ((
        (s1.2[t0.2.1]?).bind fun x4 =>
        (x4[t0.1]?).bind fun x5 =>
        some (s1.2.set t0.2.1 (x4.set t0.1 (⟨x5.paragraph,true⟩:cN)))
       ):Option (List (List cN))).bind fun t4 =>
       some t4)
      else
      if x0.kind=2 then (
       ((
        (s1.2[t0.2.1]?).bind fun x1 =>
        bW (-9223372036854775808≤((t0.1:Int)+1)∧((t0.1:Int)+1)≤9223372036854775807) <|
        bW (x1.length+1≤1073741824) <|
        bW (((t0.1:Int)+1).toNat≤x1.length) <|
        some (s1.2.set t0.2.1 (x1.take (((t0.1:Int)+1).toNat)++[(⟨(⟨x0.new_,x0.text⟩:aH),false⟩:cN)]++x1.drop (((t0.1:Int)+1).toNat)))
       ):Option (List (List cN))).bind fun t5 =>
       some t5)
      else
      none)
     else
     some s1.2
    ):Option (List (List cN))).bind fun t6 =>
    some t6
   ):Option (List (List cN))).bind fun t7 =>
   some (false,t7)
  ):Option (Bool×List (List cN))).bind fun t1 =>
  if t1.1 then (
   some (.inr (.inr t1.2)))
  else
  some (.inl ((s1.1+1),t1.2)))
 else
 some (.inr (.inl s1.2))
def wS (ar:bT) (errata:List aQ) (eh:Int):Option (gX) :=
 (bC (wP ar) (0,([]:List (List cN)))).bind fun eA1 =>
 ((
  (rJ errata).bind fun r0 =>
  (iU (rK) r0).bind fun l0 =>
  (bC (wR r0 l0 eh) (0,eA1)).bind fun eB1=>match eB1 with
  | .inr z=>some z
  | .inl t0 =>
  some t0
 ):Option (List (List cN))).bind fun t1 =>
 some (⟨ar,t1⟩:gX)
def wT (x0:List cN) (s1:Nat×List aH):Option ((Nat×List aH)⊕(List aH)) :=
 if (s1.1:Int) < (x0.length:Int) then (
  (x0[s1.1]?).bind fun x1 =>
  ((
   if x1.removed then (
    some s1.2)
   else
   bW (s1.2.length+1≤1073741824) <|
   some (s1.2++[x1.paragraph])
  ):Option (List aH)).bind fun t0 =>
  some (.inl ((s1.1+1),t0)))
 else
 some (.inr s1.2)
def wU (r0:gX) (s1:Nat×List aH):Option ((Nat×List aH)⊕(List aH)) :=
 if (s1.1:Int) < (r0.parts.length:Int) then (
  (r0.parts[s1.1]?).bind fun x0 =>
  (bC (wT x0) (0,s1.2)).bind fun eA1 =>
  some (.inl ((s1.1+1),eA1)))
 else
 some (.inr s1.2)
def DN (ar:bT) (errata:List aQ) (eh:Int):Option (List aH×Int) :=
 (wN ar errata).bind fun r7 =>
 if r7≠0 then (
  some (([]:List aH),r7))
 else
 (pP eh).bind fun r0 =>
 if r0 then (
  (wS ar errata eh).bind fun r1 =>
  (bC (wU r1) (0,([]:List aH))).bind fun eA1 =>
  some (eA1,0))
 else
 some (([]:List aH),2)
def wV (ac:aI) (cq:aQ):Option (aI⊕Int) :=
 ((
  if ac.state.bound then (
   (jF (decide (ac.state.volume.bound < ac.state.day)) 8).bind fun r2=>match r2 with
   | .inl y0=>(
    some (.inl ()))
   | .inr _=>(
    some (.inr (.inr 8))))
  else
  (jF false 8).bind fun r3=>match r3 with
  | .inl y1=>(
   some (.inl ()))
  | .inr _=>(
   some (.inr (.inr 8)))
 ):Option ((Unit)⊕(aI⊕Int))).bind fun t0=>match t0 with
 | .inr z=>some z
 | .inl t1 =>
 (DG ac.state.errata ({cq with day:=ac.state.day}:aQ)).bind fun r0 =>
 (DN ac.state.volume r0 ac.state.day).bind fun r1 =>
 (lI r1.2).bind fun r4=>match r4 with
 | .inl y2=>(
  some (.inl (⟨({ac.state with errata:=r0}:cZ)⟩:aI)))
 | .inr _=>(
  some (.inr r1.2))
def DO (ac:aI) (bq:List Int) (text:aF):Option (aI⊕Int) :=
 (bq[0]?).bind fun x3 =>
 (bq[1]?).bind fun x0 =>
 (wV ac (⟨x3,0,0,x0,text,0⟩:aQ)).bind fun r0=>match r0 with
 | .inl y0=>(
  some (.inl y0))
 | .inr y0=>(
  some (.inr y0))
def DP (ac:aI) (bq:List Int) (cw:aF):Option (aI⊕Int) :=
 (bq[0]?).bind fun x3 =>
 (bq[1]?).bind fun x0 =>
 (wV ac (⟨x3,0,1,x0,[],0⟩:aQ)).bind fun r0=>match r0 with
 | .inl y0=>(
  some (.inl y0))
 | .inr y0=>(
  some (.inr y0))
def DQ (ac:aI) (bq:List Int) (text:aF):Option (aI⊕Int) :=
 (bq[0]?).bind fun x3 =>
 (bq[1]?).bind fun x0 =>
 (bq[2]?).bind fun x1 =>
 (wV ac (⟨x3,0,2,x0,text,x1⟩:aQ)).bind fun r0=>match r0 with
 | .inl y0=>(
  some (.inl y0))
 | .inr y0=>(
  some (.inr y0))
def wW (x0:List cN) (anchor:Int) (s2:Nat×Nat×Nat×Bool) (s1:Nat×Nat×Nat×Bool):Option ((Nat×Nat×Nat×Bool)⊕((Nat×Nat×Bool)⊕((Nat×Nat×Nat×Bool)⊕(Nat×Nat×Bool)))) :=
 if (s1.2.2.1:Int) < (x0.length:Int) then (
  (x0[s1.2.2.1]?).bind fun x1 =>
  if x1.paragraph.anchor=anchor then (
   Option.map (fun z=>.inr (.inr z)) (
   some (.inr (s2.2.2.1,s1.2.2.1,true))))
  else
  some (.inl (s1.1,s1.2.1,(s1.2.2.1+1),s1.2.2.2)))
 else
 some (.inr (.inl (s1.1,s1.2.1,s1.2.2.2)))
def rM (r0:gX) (anchor:Int) (s1:Nat×Nat×Nat×Bool):Option ((Nat×Nat×Nat×Bool)⊕(Nat×Nat×Bool)) :=
 if (s1.2.2.1:Int) < (r0.parts.length:Int) then (
  (r0.parts[s1.2.2.1]?).bind fun x0 =>
  (bC (wW x0 anchor s1) (s1.1,s1.2.1,0,s1.2.2.2)).bind fun eA1=>match eA1 with
  | .inr z=>some z
  | .inl t0 =>
  some (.inl (t0.1,t0.2.1,(s1.2.2.1+1),t0.2.2)))
 else
 some (.inr (s1.1,s1.2.1,s1.2.2.2))
def AB (ar:bT) (errata:List aQ) (anchor:Int) (fq:Int):Option (aF×Bool×Int) :=
 (wN ar errata).bind fun r7 =>
 if r7≠0 then (
  some ([],false,r7))
 else
 (pP fq).bind fun r1 =>
 if r1 then (
  (wS ar errata fq).bind fun r0 =>
  ((
   (bC (rM r0 anchor) (0,0,0,false)).bind fun eA1 =>
   some (eA1.2.1,eA1.1,eA1.2.2)
  ):Option (Nat×Nat×Bool)).bind fun t0 =>
  if t0.2.2 then (
   (r0.parts[t0.2.1]?).bind fun x1 =>
   (x1[t0.1]?).bind fun x0 =>
   some (x0.paragraph.text,x0.removed,0))
  else
  some ([],false,7))
 else
 some ([],false,2)
def wX (x1:List cN) (ar:bT) (s2:Nat×Int×List cY) (s1:Nat×Nat×Int×List cY):Option ((Nat×Nat×Int×List cY)⊕(Int×List cY)) :=
 if (s1.2.1:Int) < (x1.length:Int) then (
  ((
   (x1[s1.2.1]?).bind fun x0 =>
   if x0.removed then (
    some (s1.1,s1.2.2.1,s1.2.2.2))
   else
   bW (-9223372036854775808≤((s1.1:Int)+1)∧((s1.1:Int)+1)≤9223372036854775807) <|
   bW (-9223372036854775808≤((x0.paragraph.text.length:Int)+ar.width)∧((x0.paragraph.text.length:Int)+ar.width)≤9223372036854775807) <|
   bW (-9223372036854775808≤(((x0.paragraph.text.length:Int)+ar.width) - 1)∧(((x0.paragraph.text.length:Int)+ar.width) - 1)≤9223372036854775807) <|
   bW (0≤(((x0.paragraph.text.length:Int)+ar.width) - 1)∧(((x0.paragraph.text.length:Int)+ar.width) - 1)≤9223372036854775807∧0 < ar.width) <|
   bW (0≤s1.2.2.1∧s1.2.2.1≤9223372036854775807∧0 < ar.height) <|
   bW (-9223372036854775808≤(s2.2.1+(s1.2.2.1/ar.height))∧(s2.2.1+(s1.2.2.1/ar.height))≤9223372036854775807) <|
   bW (0≤s1.2.2.1∧0 < ar.height) <|
   bW (-9223372036854775808≤((s1.2.2.1%ar.height)+1)∧((s1.2.2.1%ar.height)+1)≤9223372036854775807) <|
   (ar.parts[s2.1]?).bind fun x2 =>
   bW (s1.2.2.2.length+([(⟨(⟨x0.paragraph.anchor,(s2.2.1+(s1.2.2.1/ar.height)),((s1.2.2.1%ar.height)+1),((((x0.paragraph.text.length:Int)+ar.width) - 1)/ar.width)⟩:oZ),x2.day,((s1.1:Int)+1)⟩:cY)]:List cY).length≤1073741824) <|
   bW (-9223372036854775808≤(s1.2.2.1+((((x0.paragraph.text.length:Int)+ar.width) - 1)/ar.width))∧(s1.2.2.1+((((x0.paragraph.text.length:Int)+ar.width) - 1)/ar.width))≤9223372036854775807) <|
   some ((s1.1+1),(s1.2.2.1+((((x0.paragraph.text.length:Int)+ar.width) - 1)/ar.width)),(s1.2.2.2++([(⟨(⟨x0.paragraph.anchor,(s2.2.1+(s1.2.2.1/ar.height)),((s1.2.2.1%ar.height)+1),((((x0.paragraph.text.length:Int)+ar.width) - 1)/ar.width)⟩:oZ),x2.day,((s1.1:Int)+1)⟩:cY)]:List cY)))
  ):Option (Nat×Int×List cY)).bind fun t0 =>
  some (.inl (t0.1,(s1.2.1+1),t0.2.1,t0.2.2)))
 else
 some (.inr (s1.2.2.1,s1.2.2.2))
def wY (r7:gX) (ar:bT) (s1:Nat×Int×List cY):Option ((Nat×Int×List cY)⊕(List cY)) :=
 if (s1.1:Int) < (r7.parts.length:Int) then (
  (r7.parts[s1.1]?).bind fun x0 =>
  (bC (wX x0 ar s1) (0,0,0,s1.2.2)).bind fun eA1 =>
  bW (-9223372036854775808≤(eA1.1+ar.height)∧(eA1.1+ar.height)≤9223372036854775807) <|
  bW (-9223372036854775808≤((eA1.1+ar.height) - 1)∧((eA1.1+ar.height) - 1)≤9223372036854775807) <|
  bW (0≤((eA1.1+ar.height) - 1)∧((eA1.1+ar.height) - 1)≤9223372036854775807∧0 < ar.height) <|
  bW (-9223372036854775808≤(s1.2.1+(((eA1.1+ar.height) - 1)/ar.height))∧(s1.2.1+(((eA1.1+ar.height) - 1)/ar.height))≤9223372036854775807) <|
  some (.inl ((s1.1+1),(s1.2.1+(((eA1.1+ar.height) - 1)/ar.height)),eA1.2)))
 else
 some (.inr s1.2.2)
def DR (ar:bT) (errata:List aQ):Option (List cY) :=
 (wS ar errata ar.bound).bind fun r7 =>
 (bC (wY r7 ar) (0,1,([]:List cY))).bind fun eA1 =>
 some eA1
def wZ (r0:List cY) (anchor:Int) (style:Int) (ar:bT) (s1:Nat):Option ((Nat)⊕((Unit)⊕(aF×Int))) :=
 if (s1:Int) < (r0.length:Int) then (
  (r0[s1]?).bind fun x0 =>
  if x0.place.anchor≠anchor then (
   some (.inl (s1+1)))
  else
  if style=0 then (
   (vX ([(.s [118,111,108,46,32]:Any),(.i ar.number:Any),(.s [44,32,99,111,108,46,32]:Any),(.i x0.place.column:Any),(.s [44,32,108,46,32]:Any),(.i x0.place.line:Any)]:List Any)).bind fun r1 =>
   some (.inr (.inr (r1,0))))
  else
  (vX ([(.s [118,111,108,46,32]:Any),(.i ar.number:Any),(.s [44,32]:Any),(.i x0.day:Any),(.s [44,32,112,97,114,46,32]:Any),(.i x0.number:Any)]:List Any)).bind fun r2 =>
  some (.inr (.inr (r2,0))))
 else
 some (.inr (.inl ()))
def DS (ar:bT) (errata:List aQ) (anchor:Int) (style:Int) (fe:Int):Option (aF×Int) :=
 (wN ar errata).bind fun r7 =>
 if r7≠0 then (
  some ([],r7))
 else
 ((
  if 2 < style then (
   some true)
  else
  if style=2 then (
   (pP fe).bind fun r1 =>
   some (!r1))
  else
  some false
 ):Option (Bool)).bind fun t25 =>
 if t25 then (
  some ([],2))
 else
 if style=2 then (
  (AB ar errata anchor fe).bind fun r0 =>
  if r0.2.2≠0 then (
   some ([],r0.2.2))
  else
  (vX ([(.i anchor:Any),(.s [64]:Any),(.i fe:Any)]:List Any)).bind fun r2 =>
  some (r2,0))
 else
 (DR ar errata).bind fun r3 =>
 (bC (wZ r3 anchor style ar) 0).bind fun eA1=>match eA1 with
 | .inr z=>some z
 | .inl t0 =>
 some ([],7)
def OC (ai:List aF):Option (List aF) :=
 bW (([]:List aF).length+ai.length≤1073741824) <|
 some (([]:List aF)++ai)
def DT (bt:List aF) (cq:aF):Option (List aF) :=
 (OC bt).bind fun r1 =>
 bW (r1.length+1≤1073741824) <|
 some (r1++[cq])
def DU (ac:aI) (bq:List Int) (cw:aF):Option (aI⊕Int) :=
 (jF ac.state.bound 8).bind fun r3=>match r3 with
 | .inl y6=>(
  (bq[1]?).bind fun x8 =>
  (tT x8 0 255).bind fun r1 =>
  (jF r1 2).bind fun r2=>match r2 with
  | .inl y0=>(
   (bq[0]?).bind fun x0 =>
   bW (0≤x8∧x8≤255) <|
   (DS ac.state.volume ac.state.errata x0 x8 ac.state.day).bind fun r0 =>
   (lI r0.2).bind fun r4=>match r4 with
   | .inl y1=>(
    (DT ac.state.cites r0.1).bind fun r5 =>
    some (.inl (⟨({ac.state with cites:=r5}:cZ)⟩:aI)))
   | .inr _=>(
    some (.inr r0.2)))
  | .inr _=>(
   some (.inr 2)))
 | .inr _=>(
  some (.inr 8))
def DV (ac:aI):Option (bT) :=
 if ac.state.bound then (
  some ac.state.volume)
 else
 (CY ac ac.state.volume.parts).bind fun r0 =>
 some r0
def LE (ac:aI):Option (bT) :=
 if ac.state.bound then (
  some ac.state.volume)
 else
 (CZ ac ac.state.volume.parts).bind fun r10 =>
 some r10
def IW (ai:List gL):Option (List gL) :=
 bW (([]:List gL).length+ai.length≤1073741824) <|
 some (([]:List gL)++ai)
def DW (bt:List gL) (cq:gL):Option (List gL) :=
 (IW bt).bind fun r4 =>
 bW (r4.length+([cq]:List gL).length≤1073741824) <|
 some (r4++([cq]:List gL))
def DX (ac:aI) (bq:List Int) (cw:aF):Option (aI⊕Int) :=
 ((
  (bq[1]?).bind fun x1 =>
  (tT x1 0 7).bind fun r1 =>
  if r1 then (
   (bq[2]?).bind fun x2 =>
   (tT x2 0 9999).bind fun r2 =>
   (jF r2 1).bind fun r3=>match r3 with
   | .inl y0=>(
    some (.inl ()))
   | .inr _=>(
    some (.inr (.inr 1))))
  else
  (jF false 1).bind fun r4=>match r4 with
  | .inl y1=>(
   some (.inl ()))
  | .inr _=>(
   some (.inr (.inr 1)))
 ):Option ((Unit)⊕(aI⊕Int))).bind fun t37=>match t37 with
 | .inr z=>some z
 | .inl t40 =>
 (jF (decide ((ac.state.hides.length:Int) < 12)) 3).bind fun r5=>match r5 with
 | .inl y2=>(
  (DV ac).bind fun r8 =>
  (bq[0]?).bind fun x0 =>
  (AB r8 ac.state.errata x0 ac.state.day).bind fun r0 =>
  (lI r0.2.2).bind fun r9=>match r9 with
  | .inl y3=>(
   (bq[1]?).bind fun x3 =>
   (bq[2]?).bind fun x4 =>
   (DW ac.state.hides (⟨x0,x3,x4⟩:gL)).bind fun rA1 =>
   some (.inl (⟨({ac.state with hides:=rA1}:cZ)⟩:aI)))
  | .inr _=>(
   some (.inr r0.2.2)))
 | .inr _=>(
  some (.inr 3))
def DY (ac:aI) (bq:List Int) (cw:aF):Option (aI⊕Int) :=
 (jF (!ac.state.open_) 8).bind fun r3=>match r3 with
 | .inl y6=>(
  (bq[0]?).bind fun x8 =>
  (tT x8 1 40).bind fun r0 =>
  (jF r0 2).bind fun r1=>match r1 with
  | .inl y0=>(
   some (.inl (⟨({ac.state with house:=x8}:cZ)⟩:aI)))
  | .inr _=>(
   some (.inr 2)))
 | .inr _=>(
  some (.inr 8))
def LF (ec:Int) (low:Int) (high:Int):Option (Bool) :=
 ((
  if low≤ec then (
   some (decide (ec≤high)))
  else
  some false
 ):Option (Bool)).bind fun t4 =>
 some t4
def pD (ba:aO) (cz:Int):Option (Bool) :=
 bW (-9223372036854775808≤(ba.members - 1)∧(ba.members - 1)≤9223372036854775807) <|
 (LF cz 0 (ba.members - 1)).bind fun r8 =>
 some r8
def uB (aq:Int) (ce:Int→Option Bool):Option (Bool) :=
 (ce aq).bind fun r1 =>
 some (!r1)
def xA (ai:List Int) (cj:Int→Option Bool) (s1:Nat):Option ((Nat)⊕((Unit)⊕Int)) :=
 if (s1:Int) < (ai.length:Int) then (
  (ai[s1]?).bind fun x0 =>
  (cj x0).bind fun r0 =>
  if r0 then (
   some (.inr (.inr (s1:Int))))
  else
  some (.inl (s1+1)))
 else
 some (.inr (.inl ()))
def IX (ai:List Int) (cj:Int→Option Bool):Option (Int) :=
 (bC (xA ai cj) 0).bind fun e19=>match e19 with
 | .inr z=>some z
 | .inl t0 =>
 some (-1)
def IY (ai:List Int) (cj:Int→Option Bool):Option (Bool) :=
 (IX ai cj).bind fun r1 =>
 some (decide (0≤r1))
def DZ (bt:List Int) (right:Int→Option Bool):Option (Bool) :=
 (IY bt (fun x0_=>uB x0_ right)).bind fun r5 =>
 some (!r5)
def xB (bt:List Int) (s1:Nat):Option ((Nat)⊕((Unit)⊕Bool)) :=
 if (s1:Int) < (bt.length:Int) then (
  ((
   if 0 < (s1:Int) then (
    (bt[s1]?).bind fun x0 =>
    (bt[((s1:Int) - 1).toNat]?).bind fun x1 =>
    some (decide (x0≤x1)))
   else
   some false
  ):Option (Bool)).bind fun t0 =>
  if t0 then (
   some (.inr (.inr false)))
  else
  some (.inl (s1+1)))
 else
 some (.inr (.inl ()))
def EA (bt:List Int):Option (Bool) :=
 (bC (xB bt) 0).bind fun e29=>match e29 with
 | .inr z=>some z
 | .inl t32 =>
 some true
def AZ (ba:aO) (bq:List Int):Option (Bool) :=
 ((
  (DZ bq (pD ba)).bind fun r0 =>
  if r0 then (
   (EA bq).bind fun r1 =>
   some r1)
  else
  some false
 ):Option (Bool)).bind fun t0 =>
 some t0
def uD (aq:List Int) (ce:(List Int)→Option Bool):Option (Bool) :=
 (ce aq).bind fun r1 =>
 some (!r1)
def xC (ai:List (List Int)) (cj:(List Int)→Option Bool) (s1:Nat):Option ((Nat)⊕((Unit)⊕Int)) :=
 if (s1:Int) < (ai.length:Int) then (
  (ai[s1]?).bind fun x0 =>
  (cj x0).bind fun r0 =>
  if r0 then (
   some (.inr (.inr (s1:Int))))
  else
  some (.inl (s1+1)))
 else
 some (.inr (.inl ()))
def IZ (ai:List (List Int)) (cj:(List Int)→Option Bool):Option (Int) :=
 (bC (xC ai cj) 0).bind fun e23=>match e23 with
 | .inr z=>some z
 | .inl t26 =>
 some (-1)
def WO (ai:List (List Int)) (cj:(List Int)→Option Bool):Option (Bool) :=
 (IZ ai cj).bind fun r1 =>
 some (decide (0≤r1))
def QN (bt:List (List Int)) (right:(List Int)→Option Bool):Option (Bool) :=
 (WO bt (fun x0_=>uD x0_ right)).bind fun r5 =>
 some (!r5)
def EB (cy:dN) (ce:List (Int×Bool)):Option (Bool) :=
 some (!((eD ce cy.holder).getD false))
def uE (aq:dN) (ce:dN→Option Bool):Option (Bool) :=
 (ce aq).bind fun r4 =>
 some (!r4)
def xD (ai:List dN) (cj:dN→Option Bool) (s1:Nat):Option ((Nat)⊕((Unit)⊕Int)) :=
 if (s1:Int) < (ai.length:Int) then (
  (ai[s1]?).bind fun x0 =>
  (cj x0).bind fun r0 =>
  if r0 then (
   some (.inr (.inr (s1:Int))))
  else
  some (.inl (s1+1)))
 else
 some (.inr (.inl ()))
def JA (ai:List dN) (cj:dN→Option Bool):Option (Int) :=
 (bC (xD ai cj) 0).bind fun e19=>match e19 with
 | .inr z=>some z
 | .inl t0 =>
 some (-1)
def JB (ai:List dN) (cj:dN→Option Bool):Option (Bool) :=
 (JA ai cj).bind fun r1 =>
 some (decide (0≤r1))
def EC (bt:List dN) (right:dN→Option Bool):Option (Bool) :=
 (JB bt (fun x0_=>uE x0_ right)).bind fun r5 =>
 some (!r5)
def yR (ba:aO) (s1:Nat×(List (Int×Bool))):Option ((Nat×(List (Int×Bool)))⊕(((List (Int×Bool)))⊕Bool)) :=
 if (s1.1:Int) < (ba.pairs.length:Int) then (
  (ba.pairs[s1.1]?).bind fun x0 =>
  ((
   (pD ba x0.a).bind fun r0 =>
   if r0 then (
    (pD ba x0.b).bind fun r1 =>
    if r1 then (
     if x0.a=x0.b then (
      some true)
     else
     if (eD s1.2 x0.a).getD false then (
      some true)
     else
     some ((eD s1.2 x0.b).getD false))
    else
    some true)
   else
   some true
  ):Option (Bool)).bind fun t0 =>
  if t0 then (
   some (.inr (.inr false)))
  else
  some (.inl ((s1.1+1),(put (put s1.2 x0.a true) x0.b true))))
 else
 some (.inr (.inl s1.2))
def yS (ba:aO) (s1:Nat×(List (Int×Bool))):Option ((Nat×(List (Int×Bool)))⊕(((List (Int×Bool)))⊕Bool)) :=
 if (s1.1:Int) < (ba.proxies.length:Int) then (
  (ba.proxies[s1.1]?).bind fun x0 =>
  ((
   (pD ba x0.holder).bind fun r0 =>
   if r0 then (
    (pD ba x0.for_).bind fun r1 =>
    if r1 then (
     if x0.holder=x0.for_ then (
      some true)
     else
     some ((eD s1.2 x0.for_).getD false))
    else
    some true)
   else
   some true
  ):Option (Bool)).bind fun t0 =>
  if t0 then (
   some (.inr (.inr false)))
  else
  some (.inl ((s1.1+1),(put s1.2 x0.for_ true))))
 else
 some (.inr (.inl s1.2))
def TA (ba:aO):Option (Bool) :=
 (bC (yR ba) (0,([]:List (Int×Bool)))).bind fun eA1=>match eA1 with
 | .inr z=>some z
 | .inl t1 =>
 (bC (yS ba) (0,([]:List (Int×Bool)))).bind fun eB1=>match eB1 with
 | .inr z=>some z
 | .inl t0 =>
 (EC ba.proxies (fun x0_=>EB x0_ t0)).bind fun r0 =>
 some r0
def QO (ba:aO):Option (Bool) :=
 some (decide (ba.tie=1))
def YW (ba:aO) (cz:dO) (ce:aO→Option Bool):Option (Bool) :=
 ((
  if cz.noes < cz.ayes then (
   some true)
  else
  if cz.ayes=cz.noes then (
   (ce ba).bind fun r0 =>
   some r0)
  else
  some false
 ):Option (Bool)).bind fun t0 =>
 some t0
def YX (ba:aO) (cz:dO) (ce:aO→Option Bool):Option (Bool) :=
 ((
  if ba.need≤cz.ayes then (
   some true)
  else
  bW (-9223372036854775808≤(ba.need - 1)∧(ba.need - 1)≤9223372036854775807) <|
  if cz.ayes=(ba.need - 1) then (
   (ce ba).bind fun r0 =>
   some r0)
  else
  some false
 ):Option (Bool)).bind fun t0 =>
 some t0
def YY (iw:aO) (cz:dO):Option (Bool) :=
 ((
  bW (-9223372036854775808≤(3*cz.ayes)∧(3*cz.ayes)≤9223372036854775807) <|
  bW (-9223372036854775808≤(cz.ayes+cz.noes)∧(cz.ayes+cz.noes)≤9223372036854775807) <|
  bW (-9223372036854775808≤(2*(cz.ayes+cz.noes))∧(2*(cz.ayes+cz.noes))≤9223372036854775807) <|
  if (2*(cz.ayes+cz.noes))≤(3*cz.ayes) then (
   some (decide (1≤cz.ayes)))
  else
  some false
 ):Option (Bool)).bind fun t0 =>
 some t0
def TB  : Option (Unit) :=
 some ()
def ED (ba:aO):Option (Bool) :=
 ((
  (LF ba.members 1 40).bind fun r0 =>
  if r0 then (
   (QN ([ba.ayes.e0,ba.ayes.e1]:List (List Int)) (AZ ba)).bind fun r1 =>
   if r1 then (
    (QN ([ba.noes.e0,ba.noes.e1]:List (List Int)) (AZ ba)).bind fun r2 =>
    if r2 then (
     if (ba.pairs.length:Int)≤10 then (
      if (ba.proxies.length:Int)≤10 then (
       (TA ba).bind fun r3 =>
       if r3 then (
        bW (-9223372036854775808≤ba.rule∧ba.rule≤9223372036854775807) <|
        (TB).bind fun r8 =>
        if ba.rule < 3 then (
         (LF ba.need 0 40).bind fun r4 =>
         if r4 then (
          (LF ba.quorum 0 40).bind fun r5 =>
          if r5 then (
           if ba.tie=1 then (
            some true)
           else
           some (decide (ba.tie=2)))
          else
          some false)
         else
         some false)
        else
        some false)
       else
       some false)
      else
      some false)
     else
     some false)
    else
    some false)
   else
   some false)
  else
  some false
 ):Option (Bool)).bind fun t0 =>
 some t0
def EE (ba:aO):Option (Int) :=
 (ED ba).bind fun r6 =>
 if r6 then (
  some 0)
 else
 some 1
def AC (ac:aI) (fr:aO):Option (aI⊕Int) :=
 (EE fr).bind fun r8 =>
 (lI r8).bind fun r11=>match r11 with
 | .inl y0=>(
  some (.inl (⟨({ac.state with division:=fr,open_:=true}:cZ)⟩:aI)))
 | .inr _=>(
  some (.inr r8))
def EF (ac:aI) (bq:List Int) (cw:aF):Option (aI⊕Int) :=
 (jF (!ac.state.open_) 8).bind fun r3=>match r3 with
 | .inl y6=>(
  ((
   (bq[0]?).bind fun x2 =>
   (tT x2 0 255).bind fun r0 =>
   if r0 then (
    (bq[3]?).bind fun x3 =>
    (tT x3 0 255).bind fun r1 =>
    (jF r1 2).bind fun r2=>match r2 with
    | .inl y1=>(
     some (.inl ()))
    | .inr _=>(
     some (.inr (.inr 2))))
   else
   (jF false 2).bind fun r4=>match r4 with
   | .inl y2=>(
    some (.inl ()))
   | .inr _=>(
    some (.inr (.inr 2)))
  ):Option ((Unit)⊕(aI⊕Int))).bind fun t42=>match t42 with
  | .inr z=>some z
  | .inl t45 =>
  (bq[0]?).bind fun x0 =>
  bW (0≤x0∧x0≤255) <|
  (bq[1]?).bind fun x4 =>
  (bq[2]?).bind fun x5 =>
  (bq[3]?).bind fun x1 =>
  bW (0≤x1∧x1≤255) <|
  (AC ac (⟨ac.state.house,(⟨([]:List Int),([]:List Int)⟩:bE),(⟨([]:List Int),([]:List Int)⟩:bE),([]:List eW),([]:List dN),x0,x4,x5,x1⟩:aO)).bind fun r5=>match r5 with
  | .inl y0=>(
   some (.inl y0))
  | .inr y0=>(
   some (.inr y0)))
 | .inr _=>(
  some (.inr 8))
def EG (aq:Int) (fj:Int):Option (Bool) :=
 ((
  (uA aq).bind fun r0 =>
  if r0 then (
   (uA fj).bind fun r1 =>
   if r1 then (
    some (decide (aq < fj)))
   else
   some true)
  else
  some (decide (aq < fj))
 ):Option (Bool)).bind fun t0 =>
 some t0
def JC (aq:Int):Option (Bool) :=
 some (decide (aq≠aq))
def xE (aq:List Int) (target:Int) (s1:Int×Int):Option ((Int×Int)⊕(Int)) :=
 if s1.1 < s1.2 then (
  bW (-9223372036854775808≤(s1.1+s1.2)∧(s1.1+s1.2)≤9223372036854775807) <|
  bW (0≤(s1.1+s1.2)∧(s1.1+s1.2)≤18446744073709551615) <|
  bW (0≤(s1.1+s1.2)) <|
  bW (-9223372036854775808≤((s1.1+s1.2)/2)∧((s1.1+s1.2)/2)≤9223372036854775807) <|
  (aq[((s1.1+s1.2)/2).toNat]?).bind fun x0 =>
  (EG x0 target).bind fun r0 =>
  ((
   if r0 then (
    bW (-9223372036854775808≤(((s1.1+s1.2)/2)+1)∧(((s1.1+s1.2)/2)+1)≤9223372036854775807) <|
    some ((((s1.1+s1.2)/2)+1),s1.2))
   else
   some (s1.1,((s1.1+s1.2)/2))
  ):Option (Int×Int)).bind fun t0 =>
  some (.inl (t0.1,t0.2)))
 else
 some (.inr s1.1)
def rN (aq:List Int) (target:Int):Option (Int×Bool) :=
 (bC (xE aq target) (0,(aq.length:Int))).bind fun e57 =>
 ((
  if e57 < (aq.length:Int) then (
   bW (0≤e57) <|
   (aq[e57.toNat]?).bind fun x0 =>
   if x0=target then (
    some (e57,true))
   else
   (JC x0).bind fun r0 =>
   if r0 then (
    (JC target).bind fun r1 =>
    some (e57,r1))
   else
   some (e57,false))
  else
  some (e57,false)
 ):Option (Int×Bool)).bind fun t0 =>
 some (t0.1,t0.2)
def pQ (ai:List Int):Option (List Int) :=
 bW (([]:List Int).length+ai.length≤1073741824) <|
 some (([]:List Int)++ai)
def EH (ac:aI) (bq:List Int) (cw:aF):Option (aI⊕Int) :=
 (jF ac.state.open_ 8).bind fun r3=>match r3 with
 | .inl y6=>(
  ((
   (bq[0]?).bind fun x5 =>
   (tT x5 1 2).bind fun r77 =>
   if r77 then (
    (bq[1]?).bind fun x6 =>
    (tT x6 0 1).bind fun r89 =>
    if r89 then (
     (bq[2]?).bind fun x7 =>
     bW (-9223372036854775808≤(ac.state.division.members - 1)∧(ac.state.division.members - 1)≤9223372036854775807) <|
     (tT x7 0 (ac.state.division.members - 1)).bind fun rB1 =>
     (jF rB1 2).bind fun rC1=>match rC1 with
     | .inl y0=>(
      some (.inl ()))
     | .inr _=>(
      some (.inr (.inr 2))))
    else
    (jF false 2).bind fun rD1=>match rD1 with
    | .inl y1=>(
     some (.inl ()))
    | .inr _=>(
     some (.inr (.inr 2))))
   else
   (jF false 2).bind fun rE1=>match rE1 with
   | .inl y2=>(
    some (.inl ()))
   | .inr _=>(
    some (.inr (.inr 2)))
  ):Option ((Unit)⊕(aI⊕Int))).bind fun t0=>match t0 with
  | .inr z=>some z
  | .inl t68 =>
  (bq[1]?).bind fun x4 =>
  if x4=0 then (
   (bq[0]?).bind fun x8 =>
   if x8=2 then (
    (bq[2]?).bind fun x0 =>
    (rN ac.state.division.noes.e0 x0).bind fun r0 =>
    (jF (!r0.2) 6).bind fun rF1=>match rF1 with
    | .inl y3=>(
     (pQ ac.state.division.noes.e0).bind fun r5 =>
     bW (0≤r0.1) <|
     bW (r0.1.toNat≤r5.length) <|
     bW (r5.length+([x0]:List Int).length≤1073741824) <|
     some (.inl (⟨({ac.state with division:=({ac.state.division with noes:=(⟨(r5.take r0.1.toNat++([x0]:List Int)++r5.drop r0.1.toNat),ac.state.division.noes.e1⟩:bE)}:aO)}:cZ)⟩:aI)))
    | .inr _=>(
     some (.inr 6)))
   else
   (bq[2]?).bind fun x1 =>
   (rN ac.state.division.ayes.e0 x1).bind fun r1 =>
   (jF (!r1.2) 6).bind fun rG1=>match rG1 with
   | .inl y4=>(
    (pQ ac.state.division.ayes.e0).bind fun r8 =>
    bW (0≤r1.1) <|
    bW (r1.1.toNat≤r8.length) <|
    bW (r8.length+([x1]:List Int).length≤1073741824) <|
    some (.inl (⟨({ac.state with division:=({ac.state.division with ayes:=(⟨(r8.take r1.1.toNat++([x1]:List Int)++r8.drop r1.1.toNat),ac.state.division.ayes.e1⟩:bE)}:aO)}:cZ)⟩:aI)))
   | .inr _=>(
    some (.inr 6)))
  else
  if x4=1 then (
   (bq[0]?).bind fun x9 =>
   if x9=2 then (
    (bq[2]?).bind fun x2 =>
    (rN ac.state.division.noes.e1 x2).bind fun r2 =>
    (jF (!r2.2) 6).bind fun rH1=>match rH1 with
    | .inl y5=>(
     (pQ ac.state.division.noes.e1).bind fun r9 =>
     bW (0≤r2.1) <|
     bW (r2.1.toNat≤r9.length) <|
     bW (r9.length+([x2]:List Int).length≤1073741824) <|
     some (.inl (⟨({ac.state with division:=({ac.state.division with noes:=(⟨ac.state.division.noes.e0,(r9.take r2.1.toNat++([x2]:List Int)++r9.drop r2.1.toNat)⟩:bE)}:aO)}:cZ)⟩:aI)))
    | .inr _=>(
     some (.inr 6)))
   else
   (bq[2]?).bind fun x3 =>
   (rN ac.state.division.ayes.e1 x3).bind fun r4 =>
   (jF (!r4.2) 6).bind fun rI1=>match rI1 with
   | .inl y7=>(
    (pQ ac.state.division.ayes.e1).bind fun rA1 =>
    bW (0≤r4.1) <|
    bW (r4.1.toNat≤rA1.length) <|
    bW (rA1.length+([x3]:List Int).length≤1073741824) <|
    some (.inl (⟨({ac.state with division:=({ac.state.division with ayes:=(⟨ac.state.division.ayes.e0,(rA1.take r4.1.toNat++([x3]:List Int)++rA1.drop r4.1.toNat)⟩:bE)}:aO)}:cZ)⟩:aI)))
   | .inr _=>(
    some (.inr 6)))
  else
  none)
 | .inr _=>(
  some (.inr 8))
def JD (ai:List eW):Option (List eW) :=
 bW (([]:List eW).length+ai.length≤1073741824) <|
 some (([]:List eW)++ai)
def EI (bt:List eW) (cq:eW):Option (List eW) :=
 (JD bt).bind fun r4 =>
 bW (r4.length+([cq]:List eW).length≤1073741824) <|
 some (r4++([cq]:List eW))
def EJ (ac:aI) (bq:List Int) (cw:aF):Option (aI⊕Int) :=
 (jF ac.state.open_ 8).bind fun r3=>match r3 with
 | .inl y6=>(
  (bq[0]?).bind fun x9 =>
  (bq[1]?).bind fun x0 =>
  (EI ac.state.division.pairs (⟨x9,x0⟩:eW)).bind fun r0 =>
  (AC ac ({ac.state.division with pairs:=r0}:aO)).bind fun r1=>match r1 with
  | .inl y0=>(
   some (.inl y0))
  | .inr y0=>(
   some (.inr y0)))
 | .inr _=>(
  some (.inr 8))
def uG (ai:List Int) (ff:Int) (s1:Nat):Option ((Nat)⊕((Unit)⊕Int)) :=
 if (s1:Int) < (ai.length:Int) then (
  (ai[s1]?).bind fun x0 =>
  if ff=x0 then (
   some (.inr (.inr (s1:Int))))
  else
  some (.inl (s1+1)))
 else
 some (.inr (.inl ()))
def WP (ai:List Int) (ff:Int):Option (Int) :=
 (bC (uG ai ff) 0).bind fun e16=>match e16 with
 | .inr z=>some z
 | .inl t0 =>
 some (-1)
def LG (ai:List Int) (ff:Int):Option (Bool) :=
 (WP ai ff).bind fun r1 =>
 some (decide (0≤r1))
def uH (lobby:bE) (member:Int):Option (Int) :=
 (LG lobby.e0 member).bind fun r0 =>
 ((
  if r0 then (
   some 1)
  else
  some 0
 ):Option (Nat)).bind fun t39 =>
 (LG lobby.e1 member).bind fun r1 =>
 ((
  if r1 then (
   bW (-9223372036854775808≤((t39:Int)+1)∧((t39:Int)+1)≤9223372036854775807) <|
   some (t39+1))
  else
  some t39
 ):Option (Nat)).bind fun t62 =>
 some (t62:Int)
def xF (ba:aO) (member:Int):Option (List UInt8) :=
 (uH ba.ayes member).bind fun r6 =>
 (uH ba.noes member).bind fun r10 =>
 ((
  if r6 < 2 then (
   some (decide (r10 < 2)))
  else
  some false
 ):Option (Bool)).bind fun t0 =>
 ((
  if t0 then (
   bW (([]:List UInt8).length+1≤1073741824) <|
   some (([]:List UInt8)++[(0:UInt8)]))
  else
  some ([]:List UInt8)
 ):Option (List UInt8)).bind fun t38 =>
 ((
  if 0 < r6 then (
   some (decide (r10 < 2)))
  else
  some false
 ):Option (Bool)).bind fun t1 =>
 ((
  if t1 then (
   bW (t38.length+1≤1073741824) <|
   some (t38++[(1:UInt8)]))
  else
  some t38
 ):Option (List UInt8)).bind fun t68 =>
 ((
  if 0 < r10 then (
   some (decide (r6 < 2)))
  else
  some false
 ):Option (Bool)).bind fun t84 =>
 ((
  if t84 then (
   bW (t68.length+1≤1073741824) <|
   some (t68++[(2:UInt8)]))
  else
  some t68
 ):Option (List UInt8)).bind fun t2 =>
 some t2
def uI (ba:aO) (s1:Nat×bB):Option ((Nat×bB)⊕(bB)) :=
 if (s1.1:Int) < (ba.pairs.length:Int) then (
  (ba.pairs[s1.1]?).bind fun x0 =>
  bW (0≤x0.a) <|
  bW (x0.a < 40) <|
  bW (0≤x0.b) <|
  bW (x0.b < 40) <|
  some (.inl ((s1.1+1),(bB.set (bB.set s1.2 x0.a.toNat true) x0.b.toNat true))))
 else
 some (.inr s1.2)
def yT (ba:aO) (s1:Nat×List (List UInt8)):Option ((Nat×List (List UInt8))⊕(List (List UInt8))) :=
 if (s1.1:Int) < ba.members then (
  (xF ba (s1.1:Int)).bind fun r0 =>
  (s1.2[s1.1]?).bind fun x0 =>
  bW (-9223372036854775808≤((s1.1:Int)+1)∧((s1.1:Int)+1)≤9223372036854775807) <|
  some (.inl ((s1.1+1),(s1.2.set s1.1 r0))))
 else
 some (.inr s1.2)
def LH (ba:aO):Option (cJ) :=
 (bC (uI ba) (0,bB.zero)).bind fun e76 =>
 (bC (yT ba) (0,(List.replicate 40 ([]:List UInt8)))).bind fun eA1 =>
 some (⟨ba,e76,eA1⟩:cJ)
def yU (aq:cJ) (s1:Nat×Nat×Bool):Option ((Nat×Nat×Bool)⊕(Nat×Bool)) :=
 if (s1.2.1:Int) < aq.division.members then (
  (aq.may[s1.2.1]?).bind fun x0 =>
  if (x0.length:Int)=0 then (
   some (.inr (s1.2.1,true)))
  else
  bW (-9223372036854775808≤((s1.2.1:Int)+1)∧((s1.2.1:Int)+1)≤9223372036854775807) <|
  some (.inl (s1.1,(s1.2.1+1),s1.2.2)))
 else
 some (.inr (s1.1,s1.2.2))
def OD (aq:cJ):Option (Int×Bool) :=
 (bC (yU aq) (0,0,false)).bind fun e41 =>
 some ((e41.1:Int),e41.2)
def EK (ba:aO):Option (cJ×Int) :=
 (ED ba).bind fun r7 =>
 if r7 then (
  (LH ba).bind fun r0 =>
  (OD r0).bind fun r1 =>
  if r1.2 then (
   some ((⟨(⟨0,(⟨([]:List Int),([]:List Int)⟩:bE),(⟨([]:List Int),([]:List Int)⟩:bE),([]:List eW),([]:List dN),0,0,0,0⟩:aO),bB.zero,(List.replicate 40 ([]:List UInt8))⟩:cJ),9))
  else
  some (r0,0))
 else
 some ((⟨(⟨0,(⟨([]:List Int),([]:List Int)⟩:bE),(⟨([]:List Int),([]:List Int)⟩:bE),([]:List eW),([]:List dN),0,0,0,0⟩:aO),bB.zero,(List.replicate 40 ([]:List UInt8))⟩:cJ),1)
def EM (aq:cJ) (s1:Nat×List Int):Option ((Nat×List Int)⊕(List Int)) :=
 if (s1.1:Int) < aq.division.members then (
  (aq.may[s1.1]?).bind fun x0 =>
  ((
   if 1 < (x0.length:Int) then (
    bW (s1.2.length+1≤1073741824) <|
    some (s1.2++[(s1.1:Int)]))
   else
   some s1.2
  ):Option (List Int)).bind fun t164 =>
  bW (-9223372036854775808≤((s1.1:Int)+1)∧((s1.1:Int)+1)≤9223372036854775807) <|
  some (.inl ((s1.1+1),t164)))
 else
 some (.inr s1.2)
def TC (aq:cJ):Option (List Int) :=
 (bC (EM aq) (0,([]:List Int))).bind fun eA1 =>
 some eA1
def OE (ba:aO):Option (cJ×Int) :=
 (EK ba).bind fun r7 =>
 ((
  if r7.2=0 then (
   (TC r7.1).bind fun r0 =>
   some (decide (8 < (r0.length:Int))))
  else
  some false
 ):Option (Bool)).bind fun t0 =>
 if t0 then (
  some ((⟨(⟨0,(⟨([]:List Int),([]:List Int)⟩:bE),(⟨([]:List Int),([]:List Int)⟩:bE),([]:List eW),([]:List dN),0,0,0,0⟩:aO),bB.zero,(List.replicate 40 ([]:List UInt8))⟩:cJ),3))
 else
 some (r7.1,r7.2)
def LI (x0:List UInt8) (fp:Int) (ip:aP→Int→Option Bool) (s1:Nat×aP):Option ((Nat×aP)⊕((aP)⊕Bool)) :=
 if (s1.1:Int) < (x0.length:Int) then (
  (x0[s1.1]?).bind fun x1 =>
  bW (fp < 40) <|
  bW (-9223372036854775808≤(fp+1)∧(fp+1)≤9223372036854775807) <|
  (ip (aP.set s1.2 fp.toNat (x1.toNat:Int)) (fp+1)).bind fun r0 =>
  if r0 then (
   some (.inl ((s1.1+1),(aP.set s1.2 fp.toNat (x1.toNat:Int)))))
  else
  some (.inr (.inr false)))
 else
 some (.inr (.inl s1.2))
def m60 (im:aP) (fp:Int) (ce:cJ) (fa:aP→Option Bool) (ip:aP→Int→Option Bool):Option (Bool) :=
 if fp=ce.division.members then (
  (fa im).bind fun r0 =>
  some r0)
 else
 bW (0≤fp) <|
 (ce.may[fp.toNat]?).bind fun x0 =>
 (bC (LI x0 fp ip) (0,im)).bind fun e90=>match e90 with
 | .inr z=>some z
 | .inl t0 =>
 some true
def LJ (x0:List UInt8) (s1:Nat×aP) (R0_:(Nat×aP)→Option (Bool)) (s2:Nat×aP):Option ((Nat×aP)⊕((aP)⊕Bool)) :=
 if (s2.1:Int) < (x0.length:Int) then (
  (x0[s2.1]?).bind fun x1 =>
  bW ((s1.1:Int) < 40) <|
  bW (-9223372036854775808≤((s1.1:Int)+1)∧((s1.1:Int)+1)≤9223372036854775807) <|
  (R0_ ((s1.1+1),(aP.set s2.2 s1.1 (x1.toNat:Int)))).bind fun r0 =>
  if r0 then (
   some (.inl ((s2.1+1),(aP.set s2.2 s1.1 (x1.toNat:Int)))))
  else
  some (.inr (.inr false)))
 else
 some (.inr (.inl s2.2))
def LK (ce:cJ) (yield:aP→Option Bool) (R0_:(Nat×aP)→Option (Bool)) (s1:Nat×aP):Option (Bool) :=
 if (s1.1:Int)=ce.division.members then (
  (yield s1.2).bind fun r0 =>
  some r0)
 else
 (ce.may[s1.1]?).bind fun x0 =>
 (bC (LJ x0 s1 R0_) (0,s1.2)).bind fun eA1=>match eA1 with
 | .inr z=>some z
 | .inl t0 =>
 some true
def rO (ce:cJ) (yield:aP→Option Bool):Nat→(Nat×aP)→Option (Bool)
 | 0,_=>none
 | n_+1,s1=>LK ce yield (rO ce yield n_) s1
def m59 (yield:aP→Option Bool) (ce:cJ):Option (Unit) :=
 (vO (fun n_=>rO ce yield n_ (0,aP.zero))).bind fun r0 =>
 some ()
def EN (aq:cJ) (gc:aP) (s1:Nat×Nat×Nat):Option ((Nat×Nat×Nat)⊕(Nat×Nat)) :=
 if (s1.1:Int) < aq.division.members then (
  bW ((s1.1:Int) < 40) <|
  ((
   if bB.get aq.paired s1.1 then (
    some (s1.2.1,s1.2.2))
   else
   ((
    ((
     if (aP.get gc s1.1)=1 then (
      bW (-9223372036854775808≤((s1.2.1:Int)+1)∧((s1.2.1:Int)+1)≤9223372036854775807) <|
      some ((s1.2.1+1),s1.2.2))
     else
     ((
      if (aP.get gc s1.1)=2 then (
       bW (-9223372036854775808≤((s1.2.2:Int)+1)∧((s1.2.2:Int)+1)≤9223372036854775807) <|
       some (s1.2.2+1))
      else
      some s1.2.2
     ):Option (Nat)).bind fun t3 =>
     some (s1.2.1,t3)
    ):Option (Nat×Nat)).bind fun t0 =>
    some (t0.1,t0.2)
   ):Option (Nat×Nat)).bind fun t1 =>
   some (t1.1,t1.2)
  ):Option (Nat×Nat)).bind fun t2 =>
  bW (-9223372036854775808≤((s1.1:Int)+1)∧((s1.1:Int)+1)≤9223372036854775807) <|
  some (.inl ((s1.1+1),t2.1,t2.2)))
 else
 some (.inr (s1.2.1,s1.2.2))
def EO (aq:cJ) (gc:aP) (s1:Nat×Nat×Nat):Option ((Nat×Nat×Nat)⊕(Nat×Nat)) :=
 if (s1.1:Int) < (aq.division.proxies.length:Int) then (
  (aq.division.proxies[s1.1]?).bind fun x0 =>
  ((
   bW (0≤x0.for_) <|
   bW (x0.for_ < 40) <|
   if (aP.get gc x0.for_.toNat)=0 then (
    if bB.get aq.paired x0.for_.toNat then (
     some false)
    else
    bW (0≤x0.holder) <|
    bW (x0.holder < 40) <|
    some (!(bB.get aq.paired x0.holder.toNat)))
   else
   some false
  ):Option (Bool)).bind fun t3 =>
  ((
   if t3 then (
    bW (0≤x0.holder) <|
    bW (x0.holder < 40) <|
    ((
     ((
      if (aP.get gc x0.holder.toNat)=1 then (
       bW (-9223372036854775808≤((s1.2.1:Int)+1)∧((s1.2.1:Int)+1)≤9223372036854775807) <|
       some ((s1.2.1+1),s1.2.2))
      else
      ((
       if (aP.get gc x0.holder.toNat)=2 then (
        bW (-9223372036854775808≤((s1.2.2:Int)+1)∧((s1.2.2:Int)+1)≤9223372036854775807) <|
        some (s1.2.2+1))
       else
       some s1.2.2
      ):Option (Nat)).bind fun t4 =>
      some (s1.2.1,t4)
     ):Option (Nat×Nat)).bind fun t0 =>
     some (t0.1,t0.2)
    ):Option (Nat×Nat)).bind fun t1 =>
    some (t1.1,t1.2))
   else
   some (s1.2.1,s1.2.2)
  ):Option (Nat×Nat)).bind fun t2 =>
  some (.inl ((s1.1+1),t2.1,t2.2)))
 else
 some (.inr (s1.2.1,s1.2.2))
def LL (aq:cJ) (gc:aP):Option (dO) :=
 (bC (EN aq gc) (0,0,0)).bind fun e82 =>
 (bC (EO aq gc) (0,e82.1,e82.2)).bind fun eA1 =>
 some (⟨(eA1.1:Int),(eA1.2:Int)⟩:dO)
def LM (aq:cJ) (cz:dO):Option (Int) :=
 bW (-9223372036854775808≤(cz.ayes+cz.noes)∧(cz.ayes+cz.noes)≤9223372036854775807) <|
 if (cz.ayes+cz.noes) < aq.division.quorum then (
  some 2)
 else
 (TB).bind fun r3 =>
 bW (0≤aq.division.rule) <|
 if aq.division.rule=0 then (
  (YW aq.division cz (QO)).bind fun r0 =>
  if r0 then (
   some 1)
  else
  some 0)
 else
 if aq.division.rule=1 then (
  (YX aq.division cz (QO)).bind fun r1 =>
  if r1 then (
   some 1)
  else
  some 0)
 else
 if aq.division.rule=2 then (
  (YY aq.division cz).bind fun r2 =>
  if r2 then (
   some 1)
  else
  some 0)
 else
 none
def uJ (ai:List UInt8) (ff:Int) (s1:Nat):Option ((Nat)⊕((Unit)⊕Int)) :=
 if (s1:Int) < (ai.length:Int) then (
  (ai[s1]?).bind fun x0 =>
  if ff=(x0.toNat:Int) then (
   some (.inr (.inr (s1:Int))))
  else
  some (.inl (s1+1)))
 else
 some (.inr (.inl ()))
def WQ (ai:List UInt8) (ff:Int):Option (Int) :=
 (bC (uJ ai ff) 0).bind fun e16=>match e16 with
 | .inr z=>some z
 | .inl t0 =>
 some (-1)
def QP (ai:List UInt8) (ff:Int):Option (Bool) :=
 (WQ ai ff).bind fun r1 =>
 some (decide (0≤r1))
def YZ (aq:Int):Option (Int) :=
 ((
  if 4294967296≤aq then (
   some (32,(aq/4294967296)))
  else
  some (0,aq)
 ):Option (Nat×Int)).bind fun t4 =>
 ((
  if 65536≤t4.2 then (
   bW (-9223372036854775808≤((t4.1:Int)+16)∧((t4.1:Int)+16)≤9223372036854775807) <|
   some ((t4.1+16),(t4.2/65536)))
  else
  some (t4.1,t4.2)
 ):Option (Nat×Int)).bind fun t0 =>
 ((
  if 256≤t0.2 then (
   bW (-9223372036854775808≤((t0.1:Int)+8)∧((t0.1:Int)+8)≤9223372036854775807) <|
   some ((t0.1+8),(t0.2/256)))
  else
  some (t0.1,t0.2)
 ):Option (Nat×Int)).bind fun t28 =>
 bW (0≤t28.2∧t28.2≤255) <|
 bW (0≤t28.2) <|
 (([0,1,2,2,3,3,3,3,4,4,4,4,4,4,4,4,5,5,5,5,5,5,5,5,5,5,5,5,5,5,5,5,6,6,6,6,6,6,6,6,6,6,6,6,6,6,6,6,6,6,6,6,6,6,6,6,6,6,6,6,6,6,6,6,7,7,7,7,7,7,7,7,7,7,7,7,7,7,7,7,7,7,7,7,7,7,7,7,7,7,7,7,7,7,7,7,7,7,7,7,7,7,7,7,7,7,7,7,7,7,7,7,7,7,7,7,7,7,7,7,7,7,7,7,7,7,7,7,8,8,8,8,8,8,8,8,8,8,8,8,8,8,8,8,8,8,8,8,8,8,8,8,8,8,8,8,8,8,8,8,8,8,8,8,8,8,8,8,8,8,8,8,8,8,8,8,8,8,8,8,8,8,8,8,8,8,8,8,8,8,8,8,8,8,8,8,8,8,8,8,8,8,8,8,8,8,8,8,8,8,8,8,8,8,8,8,8,8,8,8,8,8,8,8,8,8,8,8,8,8,8,8,8,8,8,8,8,8,8,8,8,8,8,8,8,8,8,8,8,8,8,8,8,8,8,8]:aF)[t28.2.toNat]?).bind fun x0 =>
 bW (-9223372036854775808≤((t28.1:Int)+(x0.toNat:Int))∧((t28.1:Int)+(x0.toNat:Int))≤9223372036854775807) <|
 some ((t28.1:Int)+(x0.toNat:Int))
def WR (aq:Int):Option (Int) :=
 (YZ aq).bind fun r1 =>
 some r1
def EP (aq:Int):Option (Bool) :=
 some (decide (aq≠aq))
def TD (aq:Int) (fj:Int):Option (Bool) :=
 ((
  (EP aq).bind fun r0 =>
  if r0 then (
   (EP fj).bind fun r1 =>
   if r1 then (
    some (decide (aq < fj)))
   else
   some true)
  else
  some (decide (aq < fj))
 ):Option (Bool)).bind fun t0 =>
 some t0
def yV (x0:List UInt8) (s2:Nat×aP×List UInt8) (R0_:(Nat×aP×List UInt8)→Option (List UInt8)) (s1:Nat×aP×List UInt8):Option ((Nat×aP×List UInt8)⊕(aP×List UInt8)) :=
 if (s1.1:Int) < (x0.length:Int) then (
  (x0[s1.1]?).bind fun x1 =>
  bW ((s2.1:Int) < 40) <|
  bW (-9223372036854775808≤((s2.1:Int)+1)∧((s2.1:Int)+1)≤9223372036854775807) <|
  (R0_ ((s2.1+1),(aP.set s1.2.1 s2.1 (x1.toNat:Int)),s1.2.2)).bind fun r0 =>
  some (.inl ((s1.1+1),(aP.set s1.2.1 s2.1 (x1.toNat:Int)),r0)))
 else
 some (.inr (s1.2.1,s1.2.2))
def qJ (r6:cJ×Int) (R0_:(Nat×aP×List UInt8)→Option (List UInt8)) (s1:Nat×aP×List UInt8):Option (List UInt8) :=
 if (s1.1:Int)=r6.1.division.members then (
  ((
   (LL r6.1 s1.2.1).bind fun r1 =>
   (LM r6.1 r1).bind fun r0 =>
   (QP s1.2.2 r0).bind fun r2 =>
   ((
    if r2 then (
     some s1.2.2)
    else
    bW (s1.2.2.length+1≤1073741824) <|
    bW (0≤r0∧r0≤255) <|
    some (s1.2.2++[(UInt8.ofNat r0.toNat)])
   ):Option (List UInt8)).bind fun t0 =>
   some t0
  ):Option (List UInt8)).bind fun t1 =>
  some t1)
 else
 (r6.1.may[s1.1]?).bind fun x0 =>
 (bC (yV x0 s1 R0_) (0,s1.2.1,s1.2.2)).bind fun eA1 =>
 some eA1.2
def kN (r6:cJ×Int):Nat→(Nat×aP×List UInt8)→Option (List UInt8)
 | 0,_=>none
 | n_+1,s1=>qJ r6 (kN r6 n_) s1
def EQ (s2:Nat×Nat×Int×Bool×Bool) (s1:Int×List UInt8):Option ((Int×List UInt8)⊕(List UInt8)) :=
 ((
  if (s2.1:Int) < s1.1 then (
   bW (0≤s1.1) <|
   (s1.2[s1.1.toNat]?).bind fun x1 =>
   bW (-9223372036854775808≤(s1.1 - 1)∧(s1.1 - 1)≤9223372036854775807) <|
   bW (0≤(s1.1 - 1)) <|
   (s1.2[(s1.1 - 1).toNat]?).bind fun x2 =>
   (TD (x1.toNat:Int) (x2.toNat:Int)).bind fun r0 =>
   some r0)
  else
  some false
 ):Option (Bool)).bind fun t0 =>
 if t0 then (
  bW (-9223372036854775808≤(s1.1 - 1)∧(s1.1 - 1)≤9223372036854775807) <|
  bW (0≤(s1.1 - 1)) <|
  (s1.2[(s1.1 - 1).toNat]?).bind fun x0 =>
  bW (0≤s1.1) <|
  (s1.2[s1.1.toNat]?).bind fun x3 =>
  ((s1.2.set s1.1.toNat x0)[(s1.1 - 1).toNat]?).bind fun x4 =>
  some (.inl ((s1.1 - 1),((s1.2.set s1.1.toNat x0).set ((s1.1 - 1).toNat) x3))))
 else
 some (.inr s1.2)
def yW (s2:Nat×Nat×Int×Bool×Bool) (s1:Nat×List UInt8):Option ((Nat×List UInt8)⊕(List UInt8)) :=
 if (s1.1:Int) < (s2.2.1:Int) then (
  (bC (EQ s2) ((s1.1:Int),s1.2)).bind fun eA1 =>
  bW (-9223372036854775808≤((s1.1:Int)+1)∧((s1.1:Int)+1)≤9223372036854775807) <|
  some (.inl ((s1.1+1),eA1)))
 else
 some (.inr s1.2)
def uK (t0:List UInt8) (s1:Nat×Nat×Int×Bool×Bool):Option ((Nat×Nat×Int×Bool×Bool)⊕(List UInt8)) :=
 bW (-9223372036854775808≤((s1.2.1:Int) - (s1.1:Int))∧((s1.2.1:Int) - (s1.1:Int))≤9223372036854775807) <|
 if ((s1.2.1:Int) - (s1.1:Int))≤12 then (
  ((
   bW (-9223372036854775808≤((s1.1:Int)+1)∧((s1.1:Int)+1)≤9223372036854775807) <|
   (bC (yW s1) ((s1.1+1),t0)).bind fun eA1 =>
   some eA1
  ):Option (List UInt8)).bind fun t1 =>
  some (.inr t1))
 else
 if s1.2.2.1=0 then (
  none)
 else
 if s1.2.2.2.1 then (
  none)
 else
 none
def JE (ba:aO):Option (List UInt8×Int) :=
 (OE ba).bind fun r6 =>
 if r6.2≠0 then (
  some (([]:List UInt8),r6.2))
 else
 ((
  (vO (fun n_=>kN r6 n_ (0,aP.zero,([]:List UInt8)))).bind fun r0 =>
  some r0
 ):Option (List UInt8)).bind fun t0 =>
 ((
  (WR (t0.length:Int)).bind fun r1 =>
  ((
   (bC (uK t0) (0,t0.length,r1,true,true)).bind fun eA1=>some eA1
  ):Option (List UInt8)).bind fun t1 =>
  some t1
 ):Option (List UInt8)).bind fun t2 =>
 some (t2,0)
def ER (ai:List UInt8):Option (List UInt8) :=
 bW (([]:List UInt8).length+ai.length≤1073741824) <|
 some (([]:List UInt8)++ai)
def xG (bt:List UInt8) (cq:Int):Option (List UInt8) :=
 (ER bt).bind fun r1 =>
 bW (r1.length+1≤1073741824) <|
 bW (0≤cq∧cq≤255) <|
 some (r1++[(UInt8.ofNat cq.toNat)])
def uL (ac:aI) (cq:List Int) (iz:aF):Option (aI⊕Int) :=
 (jF ac.state.open_ 8).bind fun r3=>match r3 with
 | .inl y6=>(
  (JE ac.state.division).bind fun r8 =>
  (lI r8.2).bind fun r0=>match r0 with
  | .inl y0=>(
   (jF (decide ((r8.1.length:Int)=1)) 10).bind fun r1=>match r1 with
   | .inl y1=>(
    (r8.1[0]?).bind fun x0 =>
    (xG ac.state.results (x0.toNat:Int)).bind fun r2 =>
    some (.inl (⟨({ac.state with division:=(⟨0,(⟨([]:List Int),([]:List Int)⟩:bE),(⟨([]:List Int),([]:List Int)⟩:bE),([]:List eW),([]:List dN),0,0,0,0⟩:aO),open_:=false,results:=r2}:cZ)⟩:aI)))
   | .inr _=>(
    some (.inr 10)))
  | .inr _=>(
   some (.inr r8.2)))
 | .inr _=>(
  some (.inr 8))
def TE (ga:Int):Option (Bool) :=
 some (decide (ga=32))
def AD (text:aF):Option (List aF) :=
 (IP text).bind fun r1 =>
 some r1
def uM (aq:aS) (ce:aS→Option Bool):Option (Bool) :=
 (ce aq).bind fun r7 =>
 some (!r7)
def xH (ai:List aS) (cj:aS→Option Bool) (s1:Nat):Option ((Nat)⊕((Unit)⊕Int)) :=
 if (s1:Int) < (ai.length:Int) then (
  (ai[s1]?).bind fun x0 =>
  (cj x0).bind fun r0 =>
  if r0 then (
   some (.inr (.inr (s1:Int))))
  else
  some (.inl (s1+1)))
 else
 some (.inr (.inl ()))
def JF (ai:List aS) (cj:aS→Option Bool):Option (Int) :=
 (bC (xH ai cj) 0).bind fun e23=>match e23 with
 | .inr z=>some z
 | .inl t26 =>
 some (-1)
def JG (ai:List aS) (cj:aS→Option Bool):Option (Bool) :=
 (JF ai cj).bind fun r1 =>
 some (decide (0≤r1))
def rP (bt:List aS) (right:aS→Option Bool):Option (Bool) :=
 (JG bt (fun x0_=>uM x0_ right)).bind fun r5 =>
 some (!r5)
def ES (cy:aS):Option (Bool) :=
 some (decide ((cy.words.length:Int)≤60))
def ET (bp:bL):Option (Bool) :=
 ((
  if (bp.papers.length:Int)≤10 then (
   if (bp.words.length:Int)≤60 then (
    (rP bp.papers (ES)).bind fun r0 =>
    some r0)
   else
   some false)
  else
  some false
 ):Option (Bool)).bind fun t0 =>
 some t0
def uN (aq:aF) (ce:aF→Option Bool):Option (Bool) :=
 (ce aq).bind fun r1 =>
 some (!r1)
def AE (bt:List aF) (right:aF→Option Bool):Option (Bool) :=
 (OA bt (fun x0_=>uN x0_ right)).bind fun r5 =>
 some (!r5)
def AF (ec:Int) (low:Int) (high:Int):Option (Bool) :=
 ((
  if low≤ec then (
   some (decide (ec≤high)))
  else
  some false
 ):Option (Bool)).bind fun t4 =>
 some t4
def uO (aq:Int) (ce:Int→Option Bool):Option (Bool) :=
 (ce aq).bind fun r1 =>
 some (!r1)
def EU (bt:List UInt8) (right:Int→Option Bool):Option (Bool) :=
 (LD bt (fun x0_=>uO x0_ right)).bind fun r5 =>
 some (!r5)
def xI (ga:Int):Option (Bool) :=
 ((
  if (33:Int)≤ga then (
   some (decide (ga≤126)))
  else
  some false
 ):Option (Bool)).bind fun t4 =>
 some t4
def mC (ai:aF):Option (Bool) :=
 ((
  (AF (ai.length:Int) 1 20).bind fun r0 =>
  if r0 then (
   bW (ai.length≤1073741824) <|
   (EU ai (xI)).bind fun r1 =>
   some r1)
  else
  some false
 ):Option (Bool)).bind fun t0 =>
 some t0
def AG (cy:aS):Option (Bool) :=
 (AE cy.words (mC)).bind fun r8 =>
 some r8
def EV (bp:bL):Option (Bool) :=
 ((
  (AE bp.words (mC)).bind fun r0 =>
  if r0 then (
   (rP bp.papers (AG)).bind fun r1 =>
   some r1)
  else
  some false
 ):Option (Bool)).bind fun t21 =>
 some t21
def AH (cy:aS):Option (Bool) :=
 (AF cy.number 1 999).bind fun r7 =>
 some r7
def JH (bp:bL):Option (Bool) :=
 (rP bp.papers (AH)).bind fun r11 =>
 some r11
def yX (bp:bL) (s66:Nat×(List (Int×aS))):Option ((Nat×(List (Int×aS)))⊕((List (Int×aS)))) :=
 if (s66.1:Int) < (bp.papers.length:Int) then (
  (bp.papers[s66.1]?).bind fun x0 =>
  some (.inl ((s66.1+1),(put s66.2 x0.number x0))))
 else
 some (.inr s66.2)
def GV (bp:bL):Option ((List (Int×aS))) :=
 (bC (yX bp) (0,([]:List (Int×aS)))).bind fun e60 =>
 some e60
def JI (bp:bL):Option (Bool) :=
 (GV bp).bind fun r10 =>
 some (decide ((r10.length:Int)=(bp.papers.length:Int)))
def AI (cy:aS) (ce:List (Int×aS)):Option (Bool) :=
 ((
  if cy.of=0 then (
   some true)
  else
  some (decide (((eD ce cy.of).getD (⟨0,0,0,0,([]:List aF)⟩:aS)).number=cy.of))
 ):Option (Bool)).bind fun t0 =>
 some t0
def JJ (bp:bL):Option (Bool) :=
 (GV bp).bind fun r10 =>
 (rP bp.papers (fun x0_=>AI x0_ r10)).bind fun r0 =>
 some r0
def xJ (bp:bL) (r10:(List (Int×aS))) (s1:Nat×Bool×Int×Int×Int×Int×List aF):Option ((Nat×Bool×Int×Int×Int×Int×List aF)⊕((Bool×Int×Int×Int×Int×List aF)⊕((Nat×Bool)⊕(Bool)))) :=
 if s1.2.2.2.1≠0 then (
  bW (-9223372036854775808≤((s1.1:Int)+1)∧((s1.1:Int)+1)≤9223372036854775807) <|
  if (bp.papers.length:Int) < ((s1.1:Int)+1) then (
   Option.map (fun z=>.inr (.inr z)) (
   some (.inr false)))
  else
  some (.inl ((s1.1+1),s1.2.1,((eD r10 s1.2.2.2.1).getD (⟨0,0,0,0,([]:List aF)⟩:aS)).number,((eD r10 s1.2.2.2.1).getD (⟨0,0,0,0,([]:List aF)⟩:aS)).of,((eD r10 s1.2.2.2.1).getD (⟨0,0,0,0,([]:List aF)⟩:aS)).from_,((eD r10 s1.2.2.2.1).getD (⟨0,0,0,0,([]:List aF)⟩:aS)).to_,((eD r10 s1.2.2.2.1).getD (⟨0,0,0,0,([]:List aF)⟩:aS)).words)))
 else
 some (.inr (.inl (s1.2.1,s1.2.2.1,s1.2.2.2.1,s1.2.2.2.2.1,s1.2.2.2.2.2.1,s1.2.2.2.2.2.2)))
def xK (bp:bL) (r10:(List (Int×aS))) (s1:Nat×Bool):Option ((Nat×Bool)⊕(Bool)) :=
 if (s1.1:Int) < (bp.papers.length:Int) then (
  (bp.papers[s1.1]?).bind fun x0 =>
  (bC (xJ bp r10) (0,s1.2,x0.number,x0.of,x0.from_,x0.to_,x0.words)).bind fun eA1=>match eA1 with
  | .inr z=>some z
  | .inl t222 =>
  some (.inl ((s1.1+1),t222.1)))
 else
 some (.inr s1.2)
def EW (bp:bL):Option (Bool) :=
 (GV bp).bind fun r10 =>
 (bC (xK bp r10) (0,true)).bind fun e84 =>
 some e84
def QQ (bp:bL) (number:Int):Option (List aF) :=
 if number=0 then (
  some bp.words)
 else
 (GV bp).bind fun r0 =>
 some (((eD r0 number).getD (⟨0,0,0,0,([]:List aF)⟩:aS)).words)
def AJ (cy:aS) (ce:bL):Option (Bool) :=
 ((
  if (0:Int)≤cy.from_ then (
   if cy.from_≤cy.to_ then (
    (QQ ce cy.of).bind fun r0 =>
    some (decide (cy.to_≤(r0.length:Int))))
   else
   some false)
  else
  some false
 ):Option (Bool)).bind fun t32 =>
 some t32
def JK (bp:bL):Option (Bool) :=
 (rP bp.papers (fun x0_=>AJ x0_ bp)).bind fun r11 =>
 some r11
def WS  : Option (Unit) :=
 some ()
def OF (bp:bL):Option (Int) :=
 (WS).bind fun r10 =>
 (ET bp).bind fun r0 =>
 if r0 then (
  (EV bp).bind fun r1 =>
  if r1 then (
   (JH bp).bind fun r2 =>
   if r2 then (
    (JI bp).bind fun r3 =>
    if r3 then (
     (JJ bp).bind fun r4 =>
     if r4 then (
      (EW bp).bind fun r5 =>
      if r5 then (
       (JK bp).bind fun r8 =>
       if r8 then (
        some 0)
       else
       some 1)
      else
      some 8)
     else
     some 7)
    else
    some 6)
   else
   some 2)
  else
  some 4)
 else
 some 3
def EX (ac:aI) (iy:List Int) (text:aF):Option (aI⊕Int) :=
 (jF (!ac.state.moved) 8).bind fun r3=>match r3 with
 | .inl y6=>(
  (AD text).bind fun r8 =>
  (OF (⟨r8,([]:List aS)⟩:bL)).bind fun r0 =>
  (lI r0).bind fun r1=>match r1 with
  | .inl y0=>(
   some (.inl (⟨({ac.state with motion:=(⟨r8,([]:List aS)⟩:bL),moved:=true}:cZ)⟩:aI)))
  | .inr _=>(
   some (.inr r0)))
 | .inr _=>(
  some (.inr 8))
def JL (ai:List aS):Option (List aS) :=
 bW (([]:List aS).length+ai.length≤1073741824) <|
 some (([]:List aS)++ai)
def EY (bt:List aS) (cq:aS):Option (List aS) :=
 (JL bt).bind fun r7 =>
 bW (r7.length+([cq]:List aS).length≤1073741824) <|
 some (r7++([cq]:List aS))
def EZ (ac:aI) (bq:List Int) (text:aF):Option (aI⊕Int) :=
 (jF ac.state.moved 8).bind fun r3=>match r3 with
 | .inl y6=>(
  (bq[0]?).bind fun x9 =>
  (bq[1]?).bind fun x0 =>
  (bq[2]?).bind fun x1 =>
  (bq[3]?).bind fun x2 =>
  (AD text).bind fun r2 =>
  (EY ac.state.motion.papers (⟨x9,x0,x1,x2,r2⟩:aS)).bind fun r0 =>
  (OF (⟨ac.state.motion.words,r0⟩:bL)).bind fun r1 =>
  (lI r1).bind fun r4=>match r4 with
  | .inl y0=>(
   some (.inl (⟨({ac.state with motion:=(⟨ac.state.motion.words,r0⟩:bL)}:cZ)⟩:aI)))
  | .inr _=>(
   some (.inr r1)))
 | .inr _=>(
  some (.inr 8))
def TF (dg:aS) (dh:aS):Option (Bool) :=
 ((
  if dg.number≠dh.number then (
   if dg.of=dh.of then (
    if dg.from_ < dh.to_ then (
     some (decide (dh.from_ < dg.to_)))
    else
    some false)
   else
   some false)
  else
  some false
 ):Option (Bool)).bind fun t0 =>
 some t0
def FA (choice:List Int) (r10:(List (Int×aS))) (s1:Nat):Option ((Nat)⊕((Unit)⊕Int)) :=
 if (s1:Int) < (choice.length:Int) then (
  (choice[s1]?).bind fun x0 =>
  ((
   if ((eD r10 x0).getD (⟨0,0,0,0,([]:List aF)⟩:aS)).of≠0 then (
    (LG choice (((eD r10 x0).getD (⟨0,0,0,0,([]:List aF)⟩:aS)).of)).bind fun r0 =>
    some (!r0))
   else
   some false
  ):Option (Bool)).bind fun t0 =>
  if t0 then (
   some (.inr (.inr 10)))
  else
  some (.inl (s1+1)))
 else
 some (.inr (.inl ()))
def FB (choice:List Int) (r10:(List (Int×aS))) (x0:Int) (s1:Nat):Option ((Nat)⊕((Unit)⊕((Nat)⊕((Unit)⊕Int)))) :=
 if (s1:Int) < (choice.length:Int) then (
  (choice[s1]?).bind fun x1 =>
  (TF ((eD r10 x0).getD (⟨0,0,0,0,([]:List aF)⟩:aS)) ((eD r10 x1).getD (⟨0,0,0,0,([]:List aF)⟩:aS))).bind fun r0 =>
  if r0 then (
   some (.inr (.inr (.inr (.inr 9)))))
  else
  some (.inl (s1+1)))
 else
 some (.inr (.inl ()))
def FC (choice:List Int) (r10:(List (Int×aS))) (s1:Nat):Option ((Nat)⊕((Unit)⊕Int)) :=
 if (s1:Int) < (choice.length:Int) then (
  (choice[s1]?).bind fun x0 =>
  (bC (FB choice r10 x0) 0).bind fun eA1=>match eA1 with
  | .inr z=>some z
  | .inl t0 =>
  some (.inl (s1+1)))
 else
 some (.inr (.inl ()))
def TH (bp:bL) (choice:List Int):Option (Int) :=
 (GV bp).bind fun r10 =>
 (bC (FA choice r10) 0).bind fun e48=>match e48 with
 | .inr z=>some z
 | .inl t0 =>
 (bC (FC choice r10) 0).bind fun eA1=>match eA1 with
 | .inr z=>some z
 | .inl t1 =>
 some 0
def yY (choice:List Int) (r0:(List (Int×aS))) (s1:Nat):Option ((Nat)⊕((Unit)⊕Int)) :=
 if (s1:Int) < (choice.length:Int) then (
  (choice[s1]?).bind fun x0 =>
  ((
   if ((eD r0 x0).getD (⟨0,0,0,0,([]:List aF)⟩:aS)).number≠x0 then (
    some true)
   else
   if x0=0 then (
    some true)
   else
   if 0 < (s1:Int) then (
    (choice[((s1:Int) - 1).toNat]?).bind fun x1 =>
    some (decide (x0≤x1)))
   else
   some false
  ):Option (Bool)).bind fun t0 =>
  if t0 then (
   some (.inr (.inr 2)))
  else
  some (.inl (s1+1)))
 else
 some (.inr (.inl ()))
def TI (bp:bL) (choice:List Int):Option (Int) :=
 (OF bp).bind fun r10 =>
 if r10≠0 then (
  some r10)
 else
 (GV bp).bind fun r0 =>
 (bC (yY choice r0) 0).bind fun e67=>match e67 with
 | .inr z=>some z
 | .inl t0 =>
 (TH bp choice).bind fun r1 =>
 some r1
def uP (bt:List Int) (s1:Nat):Option ((Nat)⊕((Unit)⊕Int)) :=
 if (s1:Int) < (bt.length:Int) then (
  (bt[s1]?).bind fun x0 =>
  if x0≠0 then (
   some (.inr (.inr x0)))
  else
  some (.inl (s1+1)))
 else
 some (.inr (.inl ()))
def TJ (bt:List Int):Option (Int) :=
 (bC (uP bt) 0).bind fun e16=>match e16 with
 | .inr z=>some z
 | .inl t0 =>
 some 0
def LN (dg:aS) (dh:aS):Option (Int) :=
 bW (-9223372036854775808≤(dg.from_ - dh.from_)∧(dg.from_ - dh.from_)≤9223372036854775807) <|
 bW (-9223372036854775808≤(dg.to_ - dh.to_)∧(dg.to_ - dh.to_)≤9223372036854775807) <|
 bW (-9223372036854775808≤(dg.number - dh.number)∧(dg.number - dh.number)≤9223372036854775807) <|
 (TJ ([(dg.from_ - dh.from_),(dg.to_ - dh.to_),(dg.number - dh.number)]:List Int)).bind fun r24 =>
 some r24
def LO (ce:bL) (fa:Int) (s1:Nat×List aS):Option ((Nat×List aS)⊕(List aS)) :=
 if (s1.1:Int) < (ce.papers.length:Int) then (
  (ce.papers[s1.1]?).bind fun x0 =>
  ((
   if x0.of=fa then (
    bW (s1.2.length+1≤1073741824) <|
    some (s1.2++[x0]))
   else
   some s1.2
  ):Option (List aS)).bind fun t0 =>
  some (.inl ((s1.1+1),t0)))
 else
 some (.inr s1.2)
def LP (eA1:List aS) (l0:List aS) (yield:aS→Option Bool) (s1:Nat):Option ((Nat)⊕((Unit)⊕Unit)) :=
 if (s1:Int) < (eA1.length:Int) then (
  (l0[s1]?).bind fun x0 =>
  (yield x0).bind fun r0 =>
  if r0 then (
   some (.inl (s1+1)))
  else
  some (.inr (.inr ())))
 else
 some (.inr (.inl ()))
def m53 (yield:aS→Option Bool) (ce:bL) (fa:Int):Option (Unit) :=
 (bC (LO ce fa) (0,([]:List aS))).bind fun eA1 =>
 bW (eA1.Nodup) <|
 (iU (LN) eA1).bind fun l0 =>
 (bC (LP eA1 l0 yield) 0).bind fun eB1=>match eB1 with
 | .inr z=>some z
 | .inl t0 =>
 some ()
def yZ (bp:bL) (s2:Int×List aF×List bD) (s1:Nat×List aS):Option ((Nat×List aS)⊕(List aS)) :=
 if (s1.1:Int) < (bp.papers.length:Int) then (
  (bp.papers[s1.1]?).bind fun x0 =>
  ((
   if x0.of=s2.1 then (
    bW (s1.2.length+1≤1073741824) <|
    some (s1.2++[x0]))
   else
   some s1.2
  ):Option (List aS)).bind fun t0 =>
  some (.inl ((s1.1+1),t0)))
 else
 some (.inr s1.2)
def FD (x1:aS) (r0:List aF) (s2:Int×List aF×List bD) (s1:Int×List aF×List bD):Option ((Int×List aF×List bD)⊕(Int×List aF×List bD)) :=
 if s1.1 < x1.from_ then (
  bW (0≤s1.1) <|
  (r0[s1.1.toNat]?).bind fun x0 =>
  bW (s1.2.1.length+([x0]:List aF).length≤1073741824) <|
  bW (s1.2.2.length+([(⟨s2.1,s1.1⟩:bD)]:List bD).length≤1073741824) <|
  bW (-9223372036854775808≤(s1.1+1)∧(s1.1+1)≤9223372036854775807) <|
  some (.inl ((s1.1+1),(s1.2.1++([x0]:List aF)),(s1.2.2++([(⟨s2.1,s1.1⟩:bD)]:List bD)))))
 else
 some (.inr (s1.1,s1.2.1,s1.2.2))
def FE (eB1:List aS) (l0:List aS) (choice:List Int) (r1:List aF) (s2:Int×List aF×List bD) (R0_:(Int×List aF×List bD)→Option (List aF×List bD)) (s1:Nat×Int×List aF×List bD):Option ((Nat×Int×List aF×List bD)⊕(Int×List aF×List bD)) :=
 if (s1.1:Int) < (eB1.length:Int) then (
  (l0[s1.1]?).bind fun x0 =>
  ((
   (LG choice x0.number).bind fun r2 =>
   ((
    if r2 then (
     ((
      (bC (FD x0 r1 s2) (s1.2.1,s1.2.2.1,s1.2.2.2)).bind fun eA1 =>
      some (eA1.1,eA1.2.1,eA1.2.2)
     ):Option (Int×List aF×List bD)).bind fun t2 =>
     (R0_ (x0.number,t2.2.1,t2.2.2)).bind fun r0 =>
     some (x0.to_,r0.1,r0.2))
    else
    some (s1.2.1,s1.2.2.1,s1.2.2.2)
   ):Option (Int×List aF×List bD)).bind fun t0 =>
   some (t0.1,t0.2.1,t0.2.2)
  ):Option (Int×List aF×List bD)).bind fun t1 =>
  some (.inl ((s1.1+1),t1.1,t1.2.1,t1.2.2)))
 else
 some (.inr (s1.2.1,s1.2.2.1,s1.2.2.2))
def FF (r0:List aF) (s2:Int×List aF×List bD) (s1:Int×List aF×List bD):Option ((Int×List aF×List bD)⊕(Int×List aF×List bD)) :=
 if s1.1 < (r0.length:Int) then (
  bW (0≤s1.1) <|
  (r0[s1.1.toNat]?).bind fun x0 =>
  bW (s1.2.1.length+([x0]:List aF).length≤1073741824) <|
  bW (s1.2.2.length+([(⟨s2.1,s1.1⟩:bD)]:List bD).length≤1073741824) <|
  bW (-9223372036854775808≤(s1.1+1)∧(s1.1+1)≤9223372036854775807) <|
  some (.inl ((s1.1+1),(s1.2.1++([x0]:List aF)),(s1.2.2++([(⟨s2.1,s1.1⟩:bD)]:List bD)))))
 else
 some (.inr (s1.1,s1.2.1,s1.2.2))
def zA (bp:bL) (choice:List Int) (R0_:(Int×List aF×List bD)→Option (List aF×List bD)) (s1:Int×List aF×List bD):Option (List aF×List bD) :=
 (QQ bp s1.1).bind fun r0 =>
 ((
  (bC (yZ bp s1) (0,([]:List aS))).bind fun eA1 =>
  bW (eA1.Nodup) <|
  (iU (LN) eA1).bind fun l0 =>
  (bC (FE eA1 l0 choice r0 s1 R0_) (0,0,s1.2.1,s1.2.2)).bind fun eB1 =>
  some (eB1.1,eB1.2.1,eB1.2.2)
 ):Option (Int×List aF×List bD)).bind fun t0 =>
 ((
  (bC (FF r0 s1) (t0.1,t0.2.1,t0.2.2)).bind fun eC1 =>
  some (eC1.1,eC1.2.1,eC1.2.2)
 ):Option (Int×List aF×List bD)).bind fun t1 =>
 some (t1.2.1,t1.2.2)
def nE (bp:bL) (choice:List Int):Nat→(Int×List aF×List bD)→Option (List aF×List bD)
 | 0,_=>none
 | n_+1,s1=>zA bp choice (nE bp choice n_) s1
def QR (bp:bL) (choice:List Int):Option (List aF×List bD×Int) :=
 (TI bp choice).bind fun r0 =>
 if r0≠0 then (
  some (([]:List aF),([]:List bD),r0))
 else
 (vO (fun n_=>nE bp choice n_ (0,([]:List aF),([]:List bD)))).bind fun r1 =>
 some (r1.1,r1.2,0)
def FG (ac:aI) (bq:List Int) (cw:aF):Option (aI⊕Int) :=
 (jF ac.state.moved 8).bind fun r3=>match r3 with
 | .inl y6=>(
  (bq[0]?).bind fun x8 =>
  (rN ac.state.choice x8).bind fun r0 =>
  (jF (!r0.2) 6).bind fun r4=>match r4 with
  | .inl y0=>(
   (pQ ac.state.choice).bind fun r1 =>
   bW (0≤r0.1) <|
   bW (r0.1.toNat≤r1.length) <|
   bW (r1.length+([x8]:List Int).length≤1073741824) <|
   (QR ac.state.motion (r1.take r0.1.toNat++([x8]:List Int)++r1.drop r0.1.toNat)).bind fun r2 =>
   (lI r2.2.2).bind fun r5=>match r5 with
   | .inl y1=>(
    some (.inl (⟨({ac.state with choice:=(r1.take r0.1.toNat++([x8]:List Int)++r1.drop r0.1.toNat)}:cZ)⟩:aI)))
   | .inr _=>(
    some (.inr r2.2.2)))
  | .inr _=>(
   some (.inr 6)))
 | .inr _=>(
  some (.inr 8))
def FH (ac:aI) (bq:List Int) (cw:aF):Option (aI⊕Int) :=
 ((
  if ac.state.moved then (
   (jF (!ac.state.bound) 8).bind fun r22=>match r22 with
   | .inl y1=>(
    some (.inl ()))
   | .inr _=>(
    some (.inr (.inr 8))))
  else
  (jF false 8).bind fun r1=>match r1 with
  | .inl y2=>(
   some (.inl ()))
  | .inr _=>(
   some (.inr (.inr 8)))
 ):Option ((Unit)⊕(aI⊕Int))).bind fun t0=>match t0 with
 | .inr z=>some z
 | .inl t1 =>
 (QR ac.state.motion ac.state.choice).bind fun r0 =>
 (lI r0.2.2).bind fun r2=>match r2 with
 | .inl y3=>(
  (CP r0.1 [32]).bind fun r3 =>
  (zZ ac bq r3).bind fun r4=>match r4 with
  | .inl y0=>(
   some (.inl (⟨({y0.state with motion:=(⟨([]:List aF),([]:List aS)⟩:bL),moved:=false,choice:=([]:List Int)}:cZ)⟩:aI)))
  | .inr y0=>(
   some (.inr y0)))
 | .inr _=>(
  some (.inr r0.2.2))
def OH  : Option ((List (aF×bU))) :=
 some (put (put (put (put (put (put (put (put (put (put (put (put (put (put (put (put (put ([]:List (aF×bU)) [100,97,121] (⟨1,false,(some 110)⟩:bU)) [115,97,121] (⟨1,true,(some 111)⟩:bU)) [98,105,110,100] (⟨3,false,(some 112)⟩:bU)) [99,104,97,110,103,101] (⟨2,true,(some 113)⟩:bU)) [114,101,109,111,118,101] (⟨2,false,(some 114)⟩:bU)) [97,100,100] (⟨3,true,(some 115)⟩:bU)) [99,105,116,101] (⟨2,false,(some 116)⟩:bU)) [104,105,100,101] (⟨3,false,(some 117)⟩:bU)) [104,111,117,115,101] (⟨1,false,(some 118)⟩:bU)) [100,105,118,105,100,101] (⟨4,false,(some 119)⟩:bU)) [116,101,108,108] (⟨3,false,(some 120)⟩:bU)) [112,97,105,114] (⟨2,false,(some 121)⟩:bU)) [114,101,115,117,108,116] (⟨0,false,(some 122)⟩:bU)) [109,111,118,101] (⟨0,true,(some 123)⟩:bU)) [112,97,112,101,114] (⟨4,true,(some 124)⟩:bU)) [97,100,111,112,116] (⟨1,false,(some 125)⟩:bU)) [111,114,100,101,114] (⟨1,false,(some 126)⟩:bU))
def TK (ai:aF):Option (Int⊕Unit) :=
 (IM ai).bind fun r1 =>
 ((
  if r1.2 then (
   (jF false 4).bind fun r0=>match r0 with
   | .inl y0=>(
    some (.inl ()))
   | .inr _=>(
    some (.inr (.inr ()))))
  else
  (IN r1.1).bind fun r2 =>
  if r2=ai then (
   (tT r1.1 (-999999999) 999999999).bind fun r3 =>
   (jF r3 4).bind fun r4=>match r4 with
   | .inl y1=>(
    some (.inl ()))
   | .inr _=>(
    some (.inr (.inr ()))))
  else
  (jF false 4).bind fun r5=>match r5 with
  | .inl y2=>(
   some (.inl ()))
  | .inr _=>(
   some (.inr (.inr ())))
 ):Option ((Unit)⊕(Int⊕Unit))).bind fun t34=>match t34 with
 | .inr z=>some z
 | .inl t37 =>
 some (.inl r1.1)
def LQ (q:Option Nat) (ac:aI) (bq:List Int) (cw:aF):Option (aI⊕Int) :=
 if q=some 110 then CV ac bq cw
 else if q=some 111 then zZ ac bq cw
 else if q=some 112 then DE ac bq cw
 else if q=some 113 then DO ac bq cw
 else if q=some 114 then DP ac bq cw
 else if q=some 115 then DQ ac bq cw
 else if q=some 116 then DU ac bq cw
 else if q=some 117 then DX ac bq cw
 else if q=some 118 then DY ac bq cw
 else if q=some 119 then EF ac bq cw
 else if q=some 120 then EH ac bq cw
 else if q=some 121 then EJ ac bq cw
 else if q=some 122 then uL ac bq cw
 else if q=some 123 then EX ac bq cw
 else if q=some 124 then EZ ac bq cw
 else if q=some 125 then FG ac bq cw
 else if q=some 126 then FH ac bq cw
 else none
def uQ (r7:(List (aF×bU))) (r4:aF×aF×Bool) (ac:aI) (s1:Nat×aF×Bool×List Int):Option ((Nat×aF×Bool×List Int)⊕((aF×Bool×List Int)⊕(aI×Int))) :=
 if (s1.1:Int) < ((eD r7 r4.1).getD (⟨0,false,(none:Option Nat)⟩:bU)).many then (
  (jF s1.2.2.1 4).bind fun r1=>match r1 with
  | .inl y1=>(
   (KX s1.2.1 [32]).bind fun r0 =>
   (TK r0.1).bind fun r2=>match r2 with
   | .inl y0=>(
    bW (s1.2.2.2.length+1≤1073741824) <|
    bW (-9223372036854775808≤((s1.1:Int)+1)∧((s1.1:Int)+1)≤9223372036854775807) <|
    some (.inl ((s1.1+1),r0.2.1,r0.2.2,(s1.2.2.2++[y0]))))
   | .inr _=>(
    some (.inr (.inr (ac,4)))))
  | .inr _=>(
   some (.inr (.inr (ac,4)))))
 else
 some (.inr (.inl (s1.2.1,s1.2.2.1,s1.2.2.2)))
def JM (ac:aI) (text:aF):Option (aI×Int) :=
 (KX text [32]).bind fun r4 =>
 (OH).bind fun r7 =>
 (jF ((eD r7 r4.1).isSome) 4).bind fun r0=>match r0 with
 | .inl y1=>(
  (bC (uQ r7 r4 ac) (0,r4.2.1,r4.2.2,([]:List Int))).bind fun e99=>match e99 with
  | .inr z=>some z
  | .inl t102 =>
  (jF (t102.2.1==((eD r7 r4.1).getD (⟨0,false,(none:Option Nat)⟩:bU)).text) 4).bind fun r1=>match r1 with
  | .inl y2=>(
   (LQ (((eD r7 r4.1).getD (⟨0,false,(none:Option Nat)⟩:bU)).do_) ac t102.2.2 t102.1).bind fun r2=>match r2 with
   | .inl y0=>(
    some (y0,0))
   | .inr y0=>(
    some (ac,y0)))
  | .inr _=>(
   some (ac,4)))
 | .inr _=>(
  some (ac,4))
def uR (lines:List aF) (s:Nat×aI×List Int):Option ((Nat×aI×List Int)⊕(aI×List Int)) :=
 if (s.1:Int) < (lines.length:Int) then (
  (lines[s.1]?).bind fun x =>
  (JM s.2.1 x).bind fun r =>
  bW (s.2.2.length+1≤1073741824) <|
  some (.inl ((s.1+1),r.1,(s.2.2++[r.2]))))
 else
 some (.inr s.2)
def OI (lines:List aF):Option (aI×List Int) :=
 (bC (uR lines) (0,(⟨(⟨0,0,(⟨0,0,0,0,([]:List dW)⟩:bT),false,([]:List aQ),([]:List gL),([]:List aF),(⟨([]:List aF),([]:List aS)⟩:bL),false,([]:List Int),(⟨0,(⟨([]:List Int),([]:List Int)⟩:bE),(⟨([]:List Int),([]:List Int)⟩:bE),([]:List eW),([]:List dN),0,0,0,0⟩:aO),false,([]:List UInt8)⟩:cZ)⟩:aI),([]:List Int))).bind fun e =>
 some e
def m9 (lines:List aF):Option (cZ×List Int×Int) :=
 (OB lines).bind fun r2 =>
 if r2≠0 then (
  some ((⟨0,0,(⟨0,0,0,0,([]:List dW)⟩:bT),false,([]:List aQ),([]:List gL),([]:List aF),(⟨([]:List aF),([]:List aS)⟩:bL),false,([]:List Int),(⟨0,(⟨([]:List Int),([]:List Int)⟩:bE),(⟨([]:List Int),([]:List Int)⟩:bE),([]:List eW),([]:List dN),0,0,0,0⟩:aO),false,([]:List UInt8)⟩:cZ),([]:List Int),r2))
 else
 (OI lines).bind fun r11 =>
 some (r11.1.state,r11.2,0)
def FI (turned:Bool) (s49:Int×Int×dD):Option ((Int×Int×dD)⊕(dD)) :=
 if 0≤s49.2.1 then (
  bW (0≤s49.1∧0 < (8:Int)) <|
  ((
   if turned then (
    some (7 - (s49.1%8)))
   else
   some (s49.1%8)
  ):Option (Int)).bind fun t0 =>
  bW (-9223372036854775808≤(48+t0)∧(48+t0)≤9223372036854775807) <|
  bW (0≤(48+t0)∧(48+t0)≤255) <|
  bW (s49.2.1 < 6) <|
  bW (0≤s49.1∧s49.1≤9223372036854775807∧0 < (8:Int)) <|
  bW (-9223372036854775808≤(s49.2.1 - 1)∧(s49.2.1 - 1)≤9223372036854775807) <|
  some (.inl ((s49.1/8),(s49.2.1 - 1),(dD.set s49.2.2 s49.2.1.toNat (48+t0)))))
 else
 some (.inr s49.2.2)
def FJ (ec:Int) (many:Int) (turned:Bool):Option (aF) :=
 bW (-9223372036854775808≤(many - 1)∧(many - 1)≤9223372036854775807) <|
 (bC (FI turned) (ec,(many - 1),dD.zero)).bind fun e46 =>
 bW (∀ v∈dD.vals e46,0≤v∧v≤255) <|
 bW (0≤many) <|
 bW (many.toNat≤6) <|
 some (((dD.vals e46).map GT).take many.toNat)
def LS (ai:aF) (s1:Nat×Int):Option ((Nat×Int)⊕(Int)) :=
 if (s1.1:Int) < (ai.length:Int) then (
  (ai[s1.1]?).bind fun x0 =>
  bW (-9223372036854775808≤(29*s1.2)∧(29*s1.2)≤9223372036854775807) <|
  bW (-9223372036854775808≤((29*s1.2)+(x0.toNat:Int))∧((29*s1.2)+(x0.toNat:Int))≤9223372036854775807) <|
  bW (-9223372036854775808≤(((29*s1.2)+(x0.toNat:Int))+3)∧(((29*s1.2)+(x0.toNat:Int))+3)≤9223372036854775807) <|
  bW (0≤(((29*s1.2)+(x0.toNat:Int))+3)∧0 < (262139:Int)) <|
  some (.inl ((s1.1+1),((((29*s1.2)+(x0.toNat:Int))+3)%262139))))
 else
 some (.inr s1.2)
def ZA (ai:aF):Option (aF) :=
 bW (ai.length≤1073741824) <|
 (bC (LS ai) (0,11)).bind fun e47 =>
 (FJ (ai.length:Int) 4 false).bind fun r0 =>
 bW ([91].length+r0.length≤1073741824) <|
 (FJ (ai.length:Int) 4 true).bind fun r1 =>
 bW (([91]++r0).length+r1.length≤1073741824) <|
 (FJ e47 6 false).bind fun r2 =>
 bW ((([91]++r0)++r1).length+r2.length≤1073741824) <|
 bW (((([91]++r0)++r1)++r2).length+[93].length≤1073741824) <|
 bW ((((([91]++r0)++r1)++r2)++[93]).length+ai.length≤1073741824) <|
 bW (((((([91]++r0)++r1)++r2)++[93])++ai).length+[10].length≤1073741824) <|
 some (((((([91]++r0)++r1)++r2)++[93])++ai)++[10])
def LT (lines:List aF) (s1:Nat×List UInt8):Option ((Nat×List UInt8)⊕(List UInt8)) :=
 if (s1.1:Int) < (lines.length:Int) then (
  (lines[s1.1]?).bind fun x0 =>
  (ZA x0).bind fun r0 =>
  bW (s1.2.length+r0.length≤1073741824) <|
  some (.inl ((s1.1+1),(s1.2++r0))))
 else
 some (.inr s1.2)
def ZB (lines:List aF):Option (List UInt8) :=
 (bC (LT lines) (0,([]:List UInt8))).bind fun e64 =>
 some e64
def m18 (lines:List aF):Option (List UInt8×Int) :=
 (OB lines).bind fun r1 =>
 if r1≠0 then (
  some (([]:List UInt8),r1))
 else
 (ZB lines).bind fun r10 =>
 some (r10,0)
def LU (dg:List aF) (dh:List aF) (s1:Nat):Option ((Nat)⊕((Unit)⊕Bool)) :=
 if (s1:Int) < (dg.length:Int) then (
  (dg[s1]?).bind fun x0 =>
  (dh[s1]?).bind fun x1 =>
  if x0≠x1 then (
   some (.inr (.inr false)))
  else
  some (.inl (s1+1)))
 else
 some (.inr (.inl ()))
def m19 (dg:List aF) (dh:List aF):Option (Bool) :=
 if (dg.length:Int)≠(dh.length:Int) then (
  some false)
 else
 (bC (LU dg dh) 0).bind fun e31=>match e31 with
 | .inr z=>some z
 | .inl t34 =>
 some true
def m8  : Option (Bool) :=
 (m17).bind fun r1 =>
 (m9 r1).bind fun r8 =>
 (m18 ([[97]]:List aF)).bind fun r0 =>
 ((
  if r8.2.2=0 then (
   if r0.2=0 then (
    if (r8.2.1.length:Int)=18 then (
     (r8.2.1[11]?).bind fun x0 =>
     if x0=10 then (
      (r8.2.1[17]?).bind fun x1 =>
      if x1=0 then (
       if r8.1.bound then (
        if (r8.1.results.length:Int)=1 then (
         (r8.1.results[0]?).bind fun x2 =>
         if (x2.toNat:Int)=1 then (
          (m19 r8.1.cites ([[118,111,108,46,32,51,44,32,99,111,108,46,32,49,44,32,108,46,32,50]]:List aF)).bind fun r2 =>
          if r2 then (
           some (decide (r0.1=[91,48,48,48,49,55,55,55,54,48,48,48,54,52,51,93,97,10])))
          else
          some false)
         else
         some false)
        else
        some false)
       else
       some false)
      else
      some false)
     else
     some false)
    else
    some false)
   else
   some false)
  else
  some false
 ):Option (Bool)).bind fun t0 =>
 some t0
def QS (bt:List aF):Option (List aF) :=
 bW (([]:List aF).length+bt.length≤1073741824) <|
 some (([]:List aF)++bt)
def zB (bt:List Int) (cz:Int) (s1:Nat):Option ((Nat)⊕((Unit)⊕Bool)) :=
 if (s1:Int) < (bt.length:Int) then (
  (bt[s1]?).bind fun x0 =>
  if x0=cz then (
   some (.inr (.inr true)))
  else
  some (.inl (s1+1)))
 else
 some (.inr (.inl ()))
def LV (bt:List Int) (cz:Int):Option (Bool) :=
 (bC (zB bt cz) 0).bind fun e16=>match e16 with
 | .inr z=>some z
 | .inl t0 =>
 some false
def nL (ba:aO) (member:Int) (s1:Nat×Nat×Nat):Option ((Nat×Nat×Nat)⊕(Nat×Nat)) :=
 if (s1.2.2:Int) < 2 then (
  ((
   if (s1.2.2:Int)=0 then (
    (LV ba.ayes.e0 member).bind fun r0 =>
    ((
     if r0 then (
      bW (-9223372036854775808≤((s1.1:Int)+1)∧((s1.1:Int)+1)≤9223372036854775807) <|
      some (s1.1+1))
     else
     some s1.1
    ):Option (Nat)).bind fun t1 =>
    (LV ba.noes.e0 member).bind fun r1 =>
    ((
     if r1 then (
      bW (-9223372036854775808≤((s1.2.1:Int)+1)∧((s1.2.1:Int)+1)≤9223372036854775807) <|
      some (s1.2.1+1))
     else
     some s1.2.1
    ):Option (Nat)).bind fun t2 =>
    some (t1,t2))
   else
   if (s1.2.2:Int)=1 then (
    (LV ba.ayes.e1 member).bind fun r2 =>
    ((
     if r2 then (
      bW (-9223372036854775808≤((s1.1:Int)+1)∧((s1.1:Int)+1)≤9223372036854775807) <|
      some (s1.1+1))
     else
     some s1.1
    ):Option (Nat)).bind fun t155 =>
    (LV ba.noes.e1 member).bind fun r3 =>
    ((
     if r3 then (
      bW (-9223372036854775808≤((s1.2.1:Int)+1)∧((s1.2.1:Int)+1)≤9223372036854775807) <|
      some (s1.2.1+1))
     else
     some s1.2.1
    ):Option (Nat)).bind fun t3 =>
    some (t155,t3))
   else
   none
  ):Option (Nat×Nat)).bind fun t0 =>
  some (.inl (t0.1,t0.2,(s1.2.2+1))))
 else
 some (.inr (s1.1,s1.2.1))
def TL (ba:aO) (member:Int) (bU:Int):Option (Int) :=
 (bC (nL ba member) (0,0,0)).bind fun e53 =>
 ((
  if (e53.1:Int)=2 then (
   some true)
  else
  if (e53.2:Int) < 2 then (
   if (e53.1:Int)=1 then (
    bW (0≤bU∧0 < (2:Int)) <|
    if (bU%2)=1 then (
     if (e53.2:Int)=0 then (
      some true)
     else
     bW (0≤bU∧bU≤4294967295∧0 < (2:Int)) <|
     some (decide (((bU/2)%2)=1)))
    else
    some false)
   else
   some false)
  else
  some false
 ):Option (Bool)).bind fun t200 =>
 if t200 then (
  some 1)
 else
 ((
  if (e53.2:Int)=2 then (
   some true)
  else
  if (e53.2:Int)=1 then (
   bW (0≤bU∧0 < (2:Int)) <|
   some (decide ((bU%2)=1)))
  else
  some false
 ):Option (Bool)).bind fun t0 =>
 if t0 then (
  some 2)
 else
 some 0
def OJ (aq:Int) (ce:Int→Option Bool):Option (Bool) :=
 (ce aq).bind fun r1 =>
 some (!r1)
def TM (bt:List UInt8) (right:Int→Option Bool):Option (Bool) :=
 (LD bt (fun x0_=>OJ x0_ right)).bind fun r5 =>
 some (!r5)
def LX (ar:Int):Option (Bool) :=
 some (decide (ar≤2))
def FK (votes:List UInt8) (r0:cJ×Int) (s1:Nat×aP):Option ((Nat×aP)⊕((aP)⊕(dO×Int×Int))) :=
 if (s1.1:Int) < (votes.length:Int) then (
  (votes[s1.1]?).bind fun x0 =>
  (r0.1.may[s1.1]?).bind fun x1 =>
  (QP x1 (x0.toNat:Int)).bind fun r1 =>
  if r1 then (
   bW ((s1.1:Int) < 40) <|
   some (.inl ((s1.1+1),(aP.set s1.2 s1.1 (x0.toNat:Int)))))
  else
  some (.inr (.inr ((⟨0,0⟩:dO),0,7))))
 else
 some (.inr (.inl s1.2))
def m15 (ba:aO) (votes:List UInt8):Option (dO×Int×Int) :=
 (ED ba).bind fun r7 =>
 if r7 then (
  ((
   if (votes.length:Int)≠ba.members then (
    some true)
   else
   (TM votes (LX)).bind fun r2 =>
   some (!r2)
  ):Option (Bool)).bind fun t0 =>
  if t0 then (
   some ((⟨0,0⟩:dO),0,2))
  else
  (EK ba).bind fun r0 =>
  if r0.2≠0 then (
   some ((⟨0,0⟩:dO),0,r0.2))
  else
  (bC (FK votes r0) (0,aP.zero)).bind fun eA1=>match eA1 with
  | .inr z=>some z
  | .inl t1 =>
  (LL r0.1 t1).bind fun r1 =>
  (LM r0.1 r1).bind fun r3 =>
  some (r1,r3,0))
 else
 some ((⟨0,0⟩:dO),0,1)
def OL (r1:cZ×List Int×Int) (bU:Int) (s1:Nat×List UInt8):Option ((Nat×List UInt8)⊕(List UInt8)) :=
 if (s1.1:Int) < r1.1.division.members then (
  bW (0≤bU∧0≤((s1.1:Int)%16)∧((s1.1:Int)%16) < 32) <|
  (TL r1.1.division (s1.1:Int) (bU/(2 ^ ((s1.1:Int)%16).toNat))).bind fun r0 =>
  bW (s1.2.length+1≤1073741824) <|
  bW (0≤r0∧r0≤255) <|
  bW (-9223372036854775808≤((s1.1:Int)+1)∧((s1.1:Int)+1)≤9223372036854775807) <|
  some (.inl ((s1.1+1),(s1.2++[(UInt8.ofNat r0.toNat)]))))
 else
 some (.inr s1.2)
def m4 (lines:List aF) (ea:Int) (bU:Int):Option (Bool) :=
 ((
  (m6 lines).bind fun r4 =>
  if r4 then (
   (m7 lines).bind fun r5 =>
   if r5 then (
    some (decide ((lines.length:Int)=0)))
   else
   some true)
  else
  some true
 ):Option (Bool)).bind fun t0 =>
 if t0 then (
  (m8).bind fun r8 =>
  some r8)
 else
 bW (-9223372036854775808≤ea∧ea≤9223372036854775807) <|
 bW (0≤ea∧0 < (lines.length:Int)) <|
 bW ((ea%(lines.length:Int)).toNat≤lines.length) <|
 (QS (lines.take ((ea%(lines.length:Int)).toNat))).bind fun r9 =>
 (m9 r9).bind fun r0 =>
 bW (((ea%(lines.length:Int))+1).toNat≤lines.length) <|
 (QS (lines.take (((ea%(lines.length:Int))+1).toNat))).bind fun rA1 =>
 (m9 rA1).bind fun r1 =>
 ((
  if r0.2.2≠0 then (
   some true)
  else
  if r1.2.2≠0 then (
   some true)
  else
  some (decide ((r1.2.1.length:Int)≠((ea%(lines.length:Int))+1)))
 ):Option (Bool)).bind fun t1 =>
 if t1 then (
  some false)
 else
 ((
  (lines[(ea%(lines.length:Int)).toNat]?).bind fun x1 =>
  if x1≠[114,101,115,117,108,116] then (
   some true)
  else
  (r1.2.1[(ea%(lines.length:Int)).toNat]?).bind fun x2 =>
  some (decide (x2≠0))
 ):Option (Bool)).bind fun t2 =>
 if t2 then (
  (m8).bind fun rB1 =>
  some rB1)
 else
 ((
  if r0.1.open_ then (
   if r1.1.open_ then (
    some true)
   else
   bW (-9223372036854775808≤((r0.1.results.length:Int)+1)∧((r0.1.results.length:Int)+1)≤9223372036854775807) <|
   if (r1.1.results.length:Int)≠((r0.1.results.length:Int)+1) then (
    some true)
   else
   if r0.1.division.members < 1 then (
    some true)
   else
   some (decide (40 < r0.1.division.members)))
  else
  some true
 ):Option (Bool)).bind fun t3 =>
 if t3 then (
  some false)
 else
 (r1.1.results[r0.1.results.length]?).bind fun x0 =>
 (JE r0.1.division).bind fun r2 =>
 ((
  if r2.2≠0 then (
   some true)
  else
  if (r2.1.length:Int)≠1 then (
   some true)
  else
  (r2.1[0]?).bind fun x3 =>
  some (decide ((x3.toNat:Int)≠(x0.toNat:Int)))
 ):Option (Bool)).bind fun t4 =>
 if t4 then (
  some false)
 else
 (bC (OL r0 bU) (0,([]:List UInt8))).bind fun eA1 =>
 (m15 r0.1.division eA1).bind fun r3 =>
 ((
  if r3.2.2=0 then (
   if r3.2.1=(x0.toNat:Int) then (
    (m8).bind fun rC1 =>
    some rC1)
   else
   some false)
  else
  some false
 ):Option (Bool)).bind fun t5 =>
 some t5
def ZC (k_0:Int) (ce:List aF) (fa:Int):Option (Bool) :=
 bW (-9223372036854775808≤(fa+1)∧(fa+1)≤9223372036854775807) <|
 bW (0≤(fa+1)) <|
 bW ((fa+1).toNat≤ce.length) <|
 (OC (ce.take ((fa+1).toNat))).bind fun r10 =>
 bW (-9223372036854775808≤(k_0+1)∧(k_0+1)≤9223372036854775807) <|
 bW (0≤k_0∧k_0≤(k_0+1)∧(k_0+1)≤(r10.length:Int)) <|
 (OI (r10.take k_0.toNat++r10.drop ((k_0+1).toNat))).bind fun r0 =>
 bW (-9223372036854775808≤(fa - 1)∧(fa - 1)≤9223372036854775807) <|
 bW (0≤(fa - 1)) <|
 (r0.2[(fa - 1).toNat]?).bind fun x0 =>
 some (decide (x0=0))
def FL (line:Int) (r0:aI×List Int) (lines:List aF) (s1:Nat×List Int):Option ((Nat×List Int)⊕(List Int)) :=
 if (s1.1:Int) < line then (
  ((
   bW (0≤line) <|
   (r0.2[line.toNat]?).bind fun x0 =>
   if x0≠0 then (
    (r0.2[s1.1]?).bind fun x1 =>
    if x1=0 then (
     (ZC (s1.1:Int) lines line).bind fun r1 =>
     some r1)
    else
    some false)
   else
   some false
  ):Option (Bool)).bind fun t0 =>
  ((
   if t0 then (
    bW (s1.2.length+1≤1073741824) <|
    some (s1.2++[(s1.1:Int)]))
   else
   some s1.2
  ):Option (List Int)).bind fun t1 =>
  bW (-9223372036854775808≤((s1.1:Int)+1)∧((s1.1:Int)+1)≤9223372036854775807) <|
  some (.inl ((s1.1+1),t1)))
 else
 some (.inr s1.2)
def m16 (lines:List aF) (line:Int):Option (List Int×Int) :=
 (OB lines).bind fun r7 =>
 if r7≠0 then (
  some (([]:List Int),r7))
 else
 (tT line 0 ((lines.length:Int) - 1)).bind fun r0 =>
 if r0 then (
  bW (-9223372036854775808≤(line+1)∧(line+1)≤9223372036854775807) <|
  bW (0≤(line+1)) <|
  bW ((line+1).toNat≤lines.length) <|
  (OI (lines.take ((line+1).toNat))).bind fun r1 =>
  (bC (FL line r1 lines) (0,([]:List Int))).bind fun eA1 =>
  some (eA1,0))
 else
 some (([]:List Int),2)
end
end T12
namespace T12
open Go.Proofs
abbrev C10:=@Tryz.call10
abbrev ZD:=@Tryz.call100
abbrev ZE:=@Tryz.call101
abbrev FM:=@Tryz.call102
abbrev ZF:=@Tryz.call103
abbrev ZG:=@Tryz.call104
abbrev ZH:=@Tryz.call105
abbrev ZI:=@Tryz.call106
abbrev ZJ:=@Tryz.call107
abbrev OM:=@Tryz.call108
abbrev C11:=@Tryz.call11
abbrev ZK:=@Tryz.call110
abbrev ON:=@Tryz.call111
abbrev ZL:=@Tryz.call112
abbrev ZM:=@Tryz.call113
abbrev ZN:=@Tryz.call114
abbrev ZO:=@Tryz.call115
abbrev ZP:=@Tryz.call116
abbrev ZQ:=@Tryz.call117
abbrev ZR:=@Tryz.call118
abbrev ZS:=@Tryz.call119
abbrev C12:=@Tryz.call12
abbrev ZT:=@Tryz.call120
abbrev ZU:=@Tryz.call121
abbrev ZV:=@Tryz.call122
abbrev ZW:=@Tryz.call123
abbrev ZX:=@Tryz.call124
abbrev ZY:=@Tryz.call125
abbrev ZZ:=@Tryz.call126
abbrev aAa:=@Tryz.call127
abbrev aAb:=@Tryz.call128
abbrev aAc:=@Tryz.call129
abbrev C13:=@Tryz.call13
abbrev FN:=@Tryz.call130
abbrev aAd:=@Tryz.call131
abbrev aAe:=@Tryz.call132
abbrev TN:=@Tryz.call133
abbrev TO:=@Tryz.call134
abbrev aAf:=@Tryz.call135
abbrev aAg:=@Tryz.call136
abbrev aAh:=@Tryz.call137
abbrev TP:=@Tryz.call138
abbrev aAi:=@Tryz.call139
abbrev C14:=@Tryz.call14
abbrev aAj:=@Tryz.call140
abbrev aAk:=@Tryz.call141
abbrev aAl:=@Tryz.call142
abbrev aAm:=@Tryz.call143
abbrev aAn:=@Tryz.call144
abbrev C15:=@Tryz.call15
abbrev TQ:=@Tryz.call158
abbrev aAo:=@Tryz.call159
abbrev aAp:=@Tryz.call160
abbrev aAq:=@Tryz.call161
abbrev aAr:=@Tryz.call162
abbrev aAs:=@Tryz.call163
abbrev TR:=@Tryz.call164
abbrev aAt:=@Tryz.call166
abbrev aAu:=@Tryz.call167
abbrev iW:=@Tryz.call168
abbrev OO:=@Tryz.call169
abbrev C17:=@Tryz.call17
abbrev OP:=@Tryz.call170
abbrev AK:=@Tryz.call171
abbrev aAv:=@Tryz.call172
abbrev aAw:=@Tryz.call173
abbrev TS:=@Tryz.call174
abbrev aAx:=@Tryz.call175
abbrev aAy:=@Tryz.call176
abbrev JN:=@Tryz.call177
abbrev FO:=@Tryz.call178
abbrev FP:=@Tryz.call179
abbrev C18:=@Tryz.call18
abbrev FQ:=@Tryz.call180
abbrev aAz:=@Tryz.call181
abbrev aA0:=@Tryz.call182
abbrev TT:=@Tryz.call183
abbrev aA1:=@Tryz.call184
abbrev aA2:=@Tryz.call185
abbrev aA3:=@Tryz.call189
abbrev C19:=@Tryz.call19
abbrev aA4:=@Tryz.call190
abbrev aA5:=@Tryz.call191
abbrev aA6:=@Tryz.call192
abbrev aA7:=@Tryz.call193
abbrev aA8:=@Tryz.call198
abbrev aA9:=@Tryz.call199
abbrev C20:=@Tryz.call20
abbrev aBa:=@Tryz.call204
abbrev JO:=@Tryz.call205
abbrev aBb:=@Tryz.call206
abbrev aBc:=@Tryz.call207
abbrev aBd:=@Tryz.call208
abbrev OQ:=@Tryz.call209
abbrev C21:=@Tryz.call21
abbrev AL:=@Tryz.call210
abbrev OR:=@Tryz.call211
abbrev aBe:=@Tryz.call212
abbrev OS:=@Tryz.call213
abbrev TU:=@Tryz.call214
abbrev aBf:=@Tryz.call215
abbrev aBg:=@Tryz.call216
abbrev aBh:=@Tryz.call217
abbrev TV:=@Tryz.call218
abbrev C22:=@Tryz.call22
abbrev aBi:=@Tryz.call221
abbrev aBj:=@Tryz.call222
abbrev aBk:=@Tryz.call223
abbrev aBl:=@Tryz.call225
abbrev C23:=@Tryz.call23
abbrev aBm:=@Tryz.call235
abbrev aBn:=@Tryz.call236
abbrev C24:=@Tryz.call24
abbrev xL:=@Tryz.call240
abbrev aBo:=@Tryz.call241
abbrev aBp:=@Tryz.call242
abbrev OT:=@Tryz.call243
abbrev OU:=@Tryz.call244
abbrev JP:=@Tryz.call245
abbrev aBq:=@Tryz.call246
abbrev aBr:=@Tryz.call247
abbrev aBs:=@Tryz.call248
abbrev TW:=@Tryz.call249
abbrev C25:=@Tryz.call25
abbrev aBt:=@Tryz.call250
abbrev JQ:=@Tryz.call251
abbrev C26:=@Tryz.call26
abbrev aBu:=@Tryz.call262
abbrev aBv:=@Tryz.call263
abbrev aBw:=@Tryz.call264
abbrev aBx:=@Tryz.call265
abbrev aBy:=@Tryz.call266
abbrev aBz:=@Tryz.call267
abbrev TX:=@Tryz.call268
abbrev OV:=@Tryz.call269
abbrev C27:=@Tryz.call27
abbrev OW:=@Tryz.call270
abbrev aB0:=@Tryz.call271
abbrev aB1:=@Tryz.call272
abbrev aB2:=@Tryz.call273
abbrev aB3:=@Tryz.call274
abbrev C28:=@Tryz.call28
abbrev aB4:=@Tryz.call284
abbrev aB5:=@Tryz.call285
abbrev aB6:=@Tryz.call286
abbrev aB7:=@Tryz.call288
abbrev TY:=@Tryz.call289
abbrev C29:=@Tryz.call29
abbrev WT:=@Tryz.call30
abbrev C31:=@Tryz.call31
abbrev C32:=@Tryz.call32
abbrev C33:=@Tryz.call33
abbrev C34:=@Tryz.call34
abbrev C35:=@Tryz.call35
abbrev C36:=@Tryz.call36
abbrev WU:=@Tryz.call37
abbrev C38:=@Tryz.call38
abbrev C39:=@Tryz.call39
abbrev C40:=@Tryz.call40
abbrev C41:=@Tryz.call41
abbrev FR:=@Tryz.call42
abbrev C45:=@Tryz.call45
abbrev C46:=@Tryz.call46
abbrev C47:=@Tryz.call47
abbrev C48:=@Tryz.call48
abbrev C49:=@Tryz.call49
abbrev C50:=@Tryz.call50
abbrev QT:=@Tryz.call51
abbrev C52:=@Tryz.call52
abbrev C53:=@Tryz.call53
abbrev C54:=@Tryz.call54
abbrev C55:=@Tryz.call55
abbrev C56:=@Tryz.call56
abbrev C57:=@Tryz.call57
abbrev C58:=@Tryz.call58
abbrev C59:=@Tryz.call59
abbrev C6:=@Tryz.call6
abbrev WV:=@Tryz.call60
abbrev WW:=@Tryz.call61
abbrev C62:=@Tryz.call62
abbrev C63:=@Tryz.call63
abbrev C64:=@Tryz.call64
abbrev C65:=@Tryz.call65
abbrev WX:=@Tryz.call66
abbrev C67:=@Tryz.call67
abbrev C68:=@Tryz.call68
abbrev C69:=@Tryz.call69
abbrev C7:=@Tryz.call7
abbrev C70:=@Tryz.call70
abbrev C71:=@Tryz.call71
abbrev C72:=@Tryz.call72
abbrev C73:=@Tryz.call73
abbrev C74:=@Tryz.call74
abbrev C75:=@Tryz.call75
abbrev C77:=@Tryz.call77
abbrev C78:=@Tryz.call78
abbrev eS:=@Tryz.call79
abbrev C8:=@Tryz.call8
abbrev C80:=@Tryz.call80
abbrev C81:=@Tryz.call81
abbrev C82:=@Tryz.call82
abbrev C84:=@Tryz.call84
abbrev C85:=@Tryz.call85
abbrev C86:=@Tryz.call86
abbrev C87:=@Tryz.call87
abbrev C88:=@Tryz.call88
abbrev C9:=@Tryz.call9
abbrev C94:=@Tryz.call94
abbrev C98:=@Tryz.call98
abbrev C99:=@Tryz.call99
abbrev uU:=@Tryz.isAgg104
abbrev OX:=@Tryz.isAgg110
abbrev aCb:=@Tryz.isAgg113
abbrev aCc:=@Tryz.isAgg116
abbrev aCd:=@Tryz.isAgg119
abbrev aCe:=@Tryz.isAgg122
abbrev OY:=@Tryz.isAgg128
abbrev FS:=@Tryz.isAgg129
abbrev OZ:=@Tryz.isAgg130
abbrev JR:=@Tryz.isAgg137
abbrev aCf:=@Tryz.isAgg143
abbrev aCg:=@Tryz.isAgg152
abbrev xM:=@Tryz.isAgg162
abbrev xN:=@Tryz.isAgg164
abbrev TZ:=@Tryz.isAgg167
abbrev AM:=@Tryz.isAgg180
abbrev PA:=@Tryz.isAgg182
abbrev aCh:=@Tryz.isAgg184
abbrev mD:=@Tryz.isAgg217
abbrev vH:=@Tryz.isAgg22
abbrev aCi:=@Tryz.isAgg226
abbrev GW:=@Tryz.isAgg25
abbrev aCj:=@Tryz.isAgg259
abbrev xO:=@Tryz.isAgg260
abbrev AN:=@Tryz.isAgg265
abbrev rQ:=@Tryz.isAgg266
abbrev pE:=@Tryz.isAgg267
abbrev mM:=@Tryz.isAgg27
abbrev QU:=@Tryz.isAgg28
abbrev G29:=@Tryz.isAgg29
abbrev aCk:=@Tryz.isAgg296
abbrev aCl:=@Tryz.isAgg299
abbrev G3:=@Tryz.isAgg3
abbrev AO:=@Tryz.isAgg30
abbrev PB:=@Tryz.isAgg306
abbrev nM:=@Tryz.isAgg32
abbrev qK:=@Tryz.isAgg33
abbrev G34:=@Tryz.isAgg34
abbrev WY:=@Tryz.isAgg35
abbrev WZ:=@Tryz.isAgg36
abbrev lK:=@Tryz.isAgg38
abbrev uV:=@Tryz.isAgg39
abbrev G4:=@Tryz.isAgg4
abbrev G41:=@Tryz.isAgg41
abbrev sC:=@Tryz.isAgg43
abbrev UA:=@Tryz.isAgg49
abbrev G5:=@Tryz.isAgg5
abbrev G52:=@Tryz.isAgg52
abbrev G54:=@Tryz.isAgg54
abbrev FT:=@Tryz.isAgg58
abbrev BA:=@Tryz.isAgg66
abbrev XA:=@Tryz.isAgg86
abbrev G9:=@Tryz.isAgg9
abbrev zC:=@Tryz.isAgg92
abbrev vI:=@Tryz.isAgg97
abbrev rR:=@Tryz.sizeOf104
abbrev aCq:=@Tryz.sizeOf119
abbrev UB:=@Tryz.sizeOf129
abbrev PC:=@Tryz.sizeOf130
abbrev PD:=@Tryz.sizeOf132
abbrev rS:=@Tryz.sizeOf137
abbrev aCr:=@Tryz.sizeOf152
abbrev aCs:=@Tryz.sizeOf154
abbrev xP:=@Tryz.sizeOf162
abbrev jD:=@Tryz.sizeOf164
abbrev aCt:=@Tryz.sizeOf167
abbrev UC:=@Tryz.sizeOf180
abbrev xQ:=@Tryz.sizeOf182
abbrev iI:=@Tryz.sizeOf217
abbrev zD:=@Tryz.sizeOf22
abbrev aCu:=@Tryz.sizeOf226
abbrev BB:=@Tryz.sizeOf25
abbrev PE:=@Tryz.sizeOf257
abbrev PF:=@Tryz.sizeOf259
abbrev aCv:=@Tryz.sizeOf260
abbrev jL:=@Tryz.sizeOf265
abbrev pG:=@Tryz.sizeOf266
abbrev nF:=@Tryz.sizeOf267
abbrev iV:=@Tryz.sizeOf27
abbrev UD:=@Tryz.sizeOf28
abbrev XB:=@Tryz.sizeOf29
abbrev Z3:=@Tryz.sizeOf3
abbrev xR:=@Tryz.sizeOf30
abbrev PG:=@Tryz.sizeOf306
abbrev PH:=@Tryz.sizeOf308
abbrev jY:=@Tryz.sizeOf32
abbrev oD:=@Tryz.sizeOf33
abbrev AP:=@Tryz.sizeOf34
abbrev QV:=@Tryz.sizeOf35
abbrev XC:=@Tryz.sizeOf36
abbrev gM:=@Tryz.sizeOf38
abbrev sD:=@Tryz.sizeOf39
abbrev Z4:=@Tryz.sizeOf4
abbrev eI:=@Tryz.sizeOf41
abbrev AQ:=@Tryz.sizeOf43
abbrev XD:=@Tryz.sizeOf49
abbrev Z5:=@Tryz.sizeOf5
abbrev UE:=@Tryz.sizeOf52
abbrev zE:=@Tryz.sizeOf54
abbrev mE:=@Tryz.sizeOf58
abbrev qL:=@Tryz.sizeOf66
abbrev Z86:=@Tryz.sizeOf86
abbrev Z9:=@Tryz.sizeOf9
abbrev mF:=@Tryz.sizeOf92
abbrev UF:=@Tryz.sizeOf94
abbrev PI:=@Tryz.sizeOf95
abbrev nG:=@Tryz.sizeOf97
abbrev xS:=@Tryz.underlying104
abbrev rT:=@Tryz.underlying119
abbrev PJ:=@Tryz.underlying132
abbrev JS:=@Tryz.underlying133
abbrev pH:=@Tryz.underlying137
abbrev UG:=@Tryz.underlying142
abbrev aCw:=@Tryz.underlying149
abbrev PK:=@Tryz.underlying154
abbrev jZ:=@Tryz.underlying156
abbrev uW:=@Tryz.underlying160
abbrev mG:=@Tryz.underlying164
abbrev aCx:=@Tryz.underlying178
abbrev kO:=@Tryz.underlying180
abbrev pR:=@Tryz.underlying182
abbrev aCy:=@Tryz.underlying190
abbrev UH:=@Tryz.underlying208
abbrev fZ:=@Tryz.underlying217
abbrev kA:=@Tryz.underlying22
abbrev zF:=@Tryz.underlying25
abbrev UI:=@Tryz.underlying254
abbrev PL:=@Tryz.underlying257
abbrev FU:=@Tryz.underlying259
abbrev nH:=@Tryz.underlying265
abbrev nI:=@Tryz.underlying266
abbrev lJ:=@Tryz.underlying267
abbrev nW:=@Tryz.underlying269
abbrev nN:=@Tryz.underlying27
abbrev BC:=@Tryz.underlying28
abbrev U29:=@Tryz.underlying29
abbrev U3:=@Tryz.underlying3
abbrev sF:=@Tryz.underlying30
abbrev PM:=@Tryz.underlying308
abbrev PN:=@Tryz.underlying309
abbrev uX:=@Tryz.underlying32
abbrev eL:=@Tryz.underlying33
abbrev BD:=@Tryz.underlying34
abbrev QW:=@Tryz.underlying35
abbrev PO:=@Tryz.underlying36
abbrev iX:=@Tryz.underlying38
abbrev jM:=@Tryz.underlying39
abbrev U4:=@Tryz.underlying4
abbrev eE:=@Tryz.underlying41
abbrev UJ:=@Tryz.underlying42
abbrev U5:=@Tryz.underlying5
abbrev BE:=@Tryz.underlying52
abbrev GX:=@Tryz.underlying54
abbrev AR:=@Tryz.underlying58
abbrev XE:=@Tryz.underlying64
abbrev qM:=@Tryz.underlying66
abbrev eX:=@Tryz.underlying81
abbrev U9:=@Tryz.underlying9
abbrev jW:=@Tryz.underlying92
abbrev UK:=@Tryz.underlying94
abbrev PP:=@Tryz.underlying95
abbrev nO:=@Tryz.underlying97
end T12
