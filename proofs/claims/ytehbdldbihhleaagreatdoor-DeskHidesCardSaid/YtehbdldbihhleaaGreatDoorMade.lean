/-
  The types and models of the functions of a session,printed by a program of ours;contracts of library functions.
-/
import Derived.Shelf.Strings.Cut
import Derived.Shelf.Strings.Search3
import Derived.Shelf.Strings.Prefix
import Derived.Shelf.Strings.Runes
import Derived.Shelf.Strings.OnBuilder
import Derived.Shelf.Strings.FieldsFuncAny
import Derived.Shelf.Strings.BuilderF
import Derived.Shelf.Small.Strs
import Derived.Shelf.Small.Wraps
import Derived.Shelf.Strconv.AtoiAll
import Derived.Shelf.Strconv.Itoa3
import Derived.Shelf.SlSortCmp.NoneTotal
import Derived.Shelf.LaysM
import Derived.Shelf.LaysC
import Derived.Test.YtehbdldbihhleaaGreatDoorKitSix
import Derived.Test.YtehbdldbihhleaaGreatDoorProg
import Derived.Shelf.Spec.SlicesInsert
import Derived.Lib.AppendZerosOnto
import Derived.Laws.NewBlocks
import Derived.Laws.CopyRow
import Derived.Recover
import Derived.Tactics
import Derived.Tactics2
set_option linter.all false
set_option maxHeartbeats 4000000
namespace Go.Proofs
open Go.Shelf Go.RowKit
theorem Tryz.kk {α:Type} {a:Option α} {x y:α} (h:a=some x) (e:x=y):a=some y:=e▸h
def Tryz.laysC172_ren:Go.Shelf.Ren:=⟨fun|172=>69|244=>113|245=>114|247=>158|279=>159|280=>160|281=>161|282=>162|287=>223|316=>224|171=>30|205=>225|321=>274|322=>275|243=>51|246=>73|283=>117|284=>118|285=>119|286=>120|129=>165|317=>164|318=>166|319=>167|320=>168|337=>226|338=>227|n=>n,fun|9=>9|3=>3|75=>175|76=>176|4=>4|5=>5|167=>247|37=>39|0=>0|85=>248|2=>2|168=>250|53=>202|175=>316|46=>241|210=>319|127=>350|145=>361|143=>359|21=>21|171=>201|173=>205|212=>255|51=>256|20=>20|213=>257|232=>362|233=>363|80=>305|n=>n,fun|15=>2|16=>3|17=>0|18=>4|19=>5|n=>n⟩
theorem Tryz.laysC172:Go.Proofs.LaysC.n172 Tryz.prog Tryz.laysC172_ren:={
 mixed:=by kernel_rfl
 f129:=Tryz.kk Tryz.func165 (by kernel_rfl)
 f171:=Tryz.kk Tryz.func30 (by kernel_rfl)
 f172:=Tryz.kk Tryz.func69 (by kernel_rfl)
 f205:=Tryz.kk Tryz.func225 (by kernel_rfl)
 f243:=Tryz.kk Tryz.func51 (by kernel_rfl)
 f244:=Tryz.kk Tryz.func113 (by kernel_rfl)
 f245:=Tryz.kk Tryz.func114 (by kernel_rfl)
 f246:=Tryz.kk Tryz.func73 (by kernel_rfl)
 f247:=Tryz.kk Tryz.func158 (by kernel_rfl)
 f279:=Tryz.kk Tryz.func159 (by kernel_rfl)
 f280:=Tryz.kk Tryz.func160 (by kernel_rfl)
 f281:=Tryz.kk Tryz.func161 (by kernel_rfl)
 f282:=Tryz.kk Tryz.func162 (by kernel_rfl)
 f283:=Tryz.kk Tryz.func117 (by kernel_rfl)
 f284:=Tryz.kk Tryz.func118 (by kernel_rfl)
 f285:=Tryz.kk Tryz.func119 (by kernel_rfl)
 f286:=Tryz.kk Tryz.func120 (by kernel_rfl)
 f287:=Tryz.kk Tryz.func223 (by kernel_rfl)
 f316:=Tryz.kk Tryz.func224 (by kernel_rfl)
 f317:=Tryz.kk Tryz.func164 (by kernel_rfl)
 f318:=Tryz.kk Tryz.func166 (by kernel_rfl)
 f319:=Tryz.kk Tryz.func167 (by kernel_rfl)
 f320:=Tryz.kk Tryz.func168 (by kernel_rfl)
 f321:=Tryz.kk Tryz.func274 (by kernel_rfl)
 f322:=Tryz.kk Tryz.func275 (by kernel_rfl)
 f337:=Tryz.kk Tryz.func226 (by kernel_rfl)
 f338:=Tryz.kk Tryz.func227 (by kernel_rfl)
 t0:=Tryz.underlying0
 a0:=Tryz.isAgg0
 z0:=Tryz.sizeOf0
 v0:=Tryz.zeroValue0
 t2:=Tryz.underlying2
 a2:=Tryz.isAgg2
 z2:=Tryz.sizeOf2
 v2:=Tryz.zeroValue2
 t3:=Tryz.underlying3
 a3:=Tryz.isAgg3
 z3:=Tryz.sizeOf3
 v3:=Tryz.zeroValue3
 t4:=Tryz.underlying4
 a4:=Tryz.isAgg4
 z4:=Tryz.sizeOf4
 v4:=Tryz.zeroValue4
 t5:=Tryz.underlying5
 a5:=Tryz.isAgg5
 z5:=Tryz.sizeOf5
 v5:=Tryz.zeroValue5
 t9:=Tryz.underlying9
 a9:=Tryz.isAgg9
 z9:=Tryz.sizeOf9
 v9:=Tryz.zeroValue9
 t20:=Tryz.underlying20
 a20:=Tryz.isAgg20
 z20:=Tryz.sizeOf20
 v20:=Tryz.zeroValue20
 t21:=Tryz.underlying21
 a21:=Tryz.isAgg21
 z21:=Tryz.sizeOf21
 v21:=Tryz.zeroValue21
 t37:=Tryz.underlying39
 a37:=Tryz.isAgg39
 z37:=Tryz.sizeOf39
 v37:=Tryz.zeroValue39
 t46:=Tryz.underlying241
 a46:=Tryz.isAgg241
 z46:=Tryz.sizeOf241
 v46:=Tryz.zeroValue241
 t51:=Tryz.underlying256
 a51:=Tryz.isAgg256
 z51:=Tryz.sizeOf256
 v51:=Tryz.zeroValue256
 t53:=Tryz.underlying202
 a53:=Tryz.isAgg202
 z53:=Tryz.sizeOf202
 v53:=Tryz.zeroValue202
 t75:=Tryz.underlying175
 a75:=Tryz.isAgg175
 z75:=Tryz.sizeOf175
 v75:=Tryz.zeroValue175
 t76:=Tryz.underlying176
 a76:=Tryz.isAgg176
 z76:=Tryz.sizeOf176
 v76:=Tryz.zeroValue176
 t85:=Tryz.underlying248
 a85:=Tryz.isAgg248
 z85:=Tryz.sizeOf248
 v85:=Tryz.zeroValue248
 t127:=Tryz.underlying350
 a127:=Tryz.isAgg350
 z127:=Tryz.sizeOf350
 v127:=Tryz.zeroValue350
 t143:=Tryz.underlying359
 a143:=Tryz.isAgg359
 z143:=Tryz.sizeOf359
 v143:=Tryz.zeroValue359
 t145:=Tryz.underlying361
 a145:=Tryz.isAgg361
 z145:=Tryz.sizeOf361
 v145:=Tryz.zeroValue361
 t167:=Tryz.underlying247
 a167:=Tryz.isAgg247
 z167:=Tryz.sizeOf247
 v167:=Tryz.zeroValue247
 t168:=Tryz.underlying250
 a168:=Tryz.isAgg250
 z168:=Tryz.sizeOf250
 v168:=Tryz.zeroValue250
 t171:=Tryz.underlying201
 a171:=Tryz.isAgg201
 z171:=Tryz.sizeOf201
 v171:=Tryz.zeroValue201
 t173:=Tryz.underlying205
 a173:=Tryz.isAgg205
 z173:=Tryz.sizeOf205
 v173:=Tryz.zeroValue205
 t175:=Tryz.underlying316
 a175:=Tryz.isAgg316
 z175:=Tryz.sizeOf316
 v175:=Tryz.zeroValue316
 t210:=Tryz.underlying319
 a210:=Tryz.isAgg319
 z210:=Tryz.sizeOf319
 v210:=Tryz.zeroValue319
 t212:=Tryz.underlying255
 a212:=Tryz.isAgg255
 z212:=Tryz.sizeOf255
 v212:=Tryz.zeroValue255
 t213:=Tryz.underlying257
 a213:=Tryz.isAgg257
 z213:=Tryz.sizeOf257
 t232:=Tryz.underlying362
 a232:=Tryz.isAgg362
 z232:=Tryz.sizeOf362
 v232:=Tryz.zeroValue362
 t233:=Tryz.underlying363
 a233:=Tryz.isAgg363
 z233:=Tryz.sizeOf363
 v233:=Tryz.zeroValue363
 g15:=by kernel_rfl
 g16:=by kernel_rfl
 g17:=by kernel_rfl
 g18:=by kernel_rfl
 g19:=by kernel_rfl
 t80:=Tryz.underlying305
 a80:=Tryz.isAgg305
 z80:=Tryz.sizeOf305
 v80:=Tryz.zeroValue305
 i0:=by kernel_rfl
 i2:=by kernel_rfl
 i3:=by kernel_rfl
 i4:=by kernel_rfl
 i5:=by kernel_rfl
 i9:=by kernel_rfl
 i20:=by kernel_rfl
 i21:=by kernel_rfl
 i37:=by kernel_rfl
 i46:=by kernel_rfl
 i51:=by kernel_rfl
 i53:=by kernel_rfl
 i75:=by kernel_rfl
 i76:=by kernel_rfl
 i80:=by kernel_rfl
 i85:=by kernel_rfl
 i127:=by kernel_rfl
 i143:=by kernel_rfl
 i145:=by kernel_rfl
 i167:=by kernel_rfl
 i168:=by kernel_rfl
 i171:=by kernel_rfl
 i173:=by kernel_rfl
 i175:=by kernel_rfl
 i210:=by kernel_rfl
 i212:=by kernel_rfl
 i232:=by kernel_rfl
 i233:=by kernel_rfl
 m15:=by kernel_rfl
 m16:=by kernel_rfl
 m17:=by kernel_rfl
 m18:=by kernel_rfl
 m19:=by kernel_rfl
 c0:=by kernel_rfl
 c2:=by kernel_rfl
 c3:=by kernel_rfl
 c4:=by kernel_rfl
 c5:=by kernel_rfl
 c9:=by kernel_rfl
 c20:=by kernel_rfl
 c21:=by kernel_rfl
 c37:=by kernel_rfl
 c46:=by kernel_rfl
 c51:=by kernel_rfl
 c53:=by kernel_rfl
 c75:=by kernel_rfl
 c76:=by kernel_rfl
 c80:=by kernel_rfl
 c85:=by kernel_rfl
 c127:=by kernel_rfl
 c143:=by kernel_rfl
 c145:=by kernel_rfl
 c167:=by kernel_rfl
 c168:=by kernel_rfl
 c171:=by kernel_rfl
 c173:=by kernel_rfl
 c175:=by kernel_rfl
 c210:=by kernel_rfl
 c212:=by kernel_rfl
 c213:=by kernel_rfl
 c232:=by kernel_rfl
 c233:=by kernel_rfl }
def Tryz.laysM171_ren:Go.Shelf.Ren:=⟨fun|171=>30|243=>51|246=>73|283=>117|284=>118|285=>119|286=>120|129=>165|317=>164|318=>166|319=>167|320=>168|337=>226|338=>227|n=>n,fun|3=>3|9=>9|2=>2|4=>4|171=>201|0=>0|53=>202|37=>39|5=>5|173=>205|212=>255|51=>256|20=>20|213=>257|46=>241|232=>362|233=>363|n=>n,fun|17=>0|18=>4|19=>5|n=>n⟩
theorem Tryz.laysM171:Go.Proofs.LaysM.n171 Tryz.prog Tryz.laysM171_ren:={
 mixed:=by kernel_rfl
 f129:=Tryz.kk Tryz.func165 (by kernel_rfl)
 f171:=Tryz.kk Tryz.func30 (by kernel_rfl)
 f243:=Tryz.kk Tryz.func51 (by kernel_rfl)
 f246:=Tryz.kk Tryz.func73 (by kernel_rfl)
 f283:=Tryz.kk Tryz.func117 (by kernel_rfl)
 f284:=Tryz.kk Tryz.func118 (by kernel_rfl)
 f285:=Tryz.kk Tryz.func119 (by kernel_rfl)
 f286:=Tryz.kk Tryz.func120 (by kernel_rfl)
 f317:=Tryz.kk Tryz.func164 (by kernel_rfl)
 f318:=Tryz.kk Tryz.func166 (by kernel_rfl)
 f319:=Tryz.kk Tryz.func167 (by kernel_rfl)
 f320:=Tryz.kk Tryz.func168 (by kernel_rfl)
 f337:=Tryz.kk Tryz.func226 (by kernel_rfl)
 f338:=Tryz.kk Tryz.func227 (by kernel_rfl)
 t0:=Tryz.underlying0
 a0:=Tryz.isAgg0
 z0:=Tryz.sizeOf0
 v0:=Tryz.zeroValue0
 t2:=Tryz.underlying2
 a2:=Tryz.isAgg2
 z2:=Tryz.sizeOf2
 v2:=Tryz.zeroValue2
 t3:=Tryz.underlying3
 a3:=Tryz.isAgg3
 z3:=Tryz.sizeOf3
 v3:=Tryz.zeroValue3
 t4:=Tryz.underlying4
 a4:=Tryz.isAgg4
 z4:=Tryz.sizeOf4
 v4:=Tryz.zeroValue4
 t5:=Tryz.underlying5
 a5:=Tryz.isAgg5
 z5:=Tryz.sizeOf5
 v5:=Tryz.zeroValue5
 t9:=Tryz.underlying9
 a9:=Tryz.isAgg9
 z9:=Tryz.sizeOf9
 v9:=Tryz.zeroValue9
 t20:=Tryz.underlying20
 a20:=Tryz.isAgg20
 z20:=Tryz.sizeOf20
 v20:=Tryz.zeroValue20
 t37:=Tryz.underlying39
 a37:=Tryz.isAgg39
 z37:=Tryz.sizeOf39
 v37:=Tryz.zeroValue39
 t46:=Tryz.underlying241
 a46:=Tryz.isAgg241
 z46:=Tryz.sizeOf241
 v46:=Tryz.zeroValue241
 t51:=Tryz.underlying256
 a51:=Tryz.isAgg256
 z51:=Tryz.sizeOf256
 v51:=Tryz.zeroValue256
 t53:=Tryz.underlying202
 a53:=Tryz.isAgg202
 z53:=Tryz.sizeOf202
 v53:=Tryz.zeroValue202
 t171:=Tryz.underlying201
 a171:=Tryz.isAgg201
 z171:=Tryz.sizeOf201
 v171:=Tryz.zeroValue201
 t173:=Tryz.underlying205
 a173:=Tryz.isAgg205
 z173:=Tryz.sizeOf205
 v173:=Tryz.zeroValue205
 t212:=Tryz.underlying255
 a212:=Tryz.isAgg255
 z212:=Tryz.sizeOf255
 v212:=Tryz.zeroValue255
 t213:=Tryz.underlying257
 a213:=Tryz.isAgg257
 z213:=Tryz.sizeOf257
 t232:=Tryz.underlying362
 a232:=Tryz.isAgg362
 z232:=Tryz.sizeOf362
 v232:=Tryz.zeroValue362
 t233:=Tryz.underlying363
 a233:=Tryz.isAgg363
 z233:=Tryz.sizeOf363
 v233:=Tryz.zeroValue363
 g17:=by kernel_rfl
 g18:=by kernel_rfl
 g19:=by kernel_rfl
 i0:=by kernel_rfl
 i2:=by kernel_rfl
 i3:=by kernel_rfl
 i4:=by kernel_rfl
 i5:=by kernel_rfl
 i9:=by kernel_rfl
 i20:=by kernel_rfl
 i37:=by kernel_rfl
 i46:=by kernel_rfl
 i51:=by kernel_rfl
 i53:=by kernel_rfl
 i171:=by kernel_rfl
 i173:=by kernel_rfl
 i212:=by kernel_rfl
 i232:=by kernel_rfl
 i233:=by kernel_rfl
 m17:=by kernel_rfl
 m18:=by kernel_rfl
 m19:=by kernel_rfl }
def Tryz.lays145_ren:Go.Shelf.Ren:=⟨fun|145=>57|220=>81|219=>128|217=>176|225=>177|224=>178|267=>179|266=>232|314=>233|n=>n,fun|9=>9|4=>4|59=>156|3=>3|5=>5|46=>241|146=>324|51=>256|n=>n,fun|1=>1|n=>n⟩
theorem Tryz.lays145:Go.Proofs.Lays.n145 Tryz.prog Tryz.lays145_ren:={
 mixed:=by kernel_rfl
 f145:=Tryz.kk Tryz.func57 (by kernel_rfl)
 f217:=Tryz.kk Tryz.func176 (by kernel_rfl)
 f219:=Tryz.kk Tryz.func128 (by kernel_rfl)
 f220:=Tryz.kk Tryz.func81 (by kernel_rfl)
 f224:=Tryz.kk Tryz.func178 (by kernel_rfl)
 f225:=Tryz.kk Tryz.func177 (by kernel_rfl)
 f266:=Tryz.kk Tryz.func232 (by kernel_rfl)
 f267:=Tryz.kk Tryz.func179 (by kernel_rfl)
 f314:=Tryz.kk Tryz.func233 (by kernel_rfl)
 t3:=Tryz.underlying3
 a3:=Tryz.isAgg3
 z3:=Tryz.sizeOf3
 v3:=Tryz.zeroValue3
 t4:=Tryz.underlying4
 a4:=Tryz.isAgg4
 z4:=Tryz.sizeOf4
 v4:=Tryz.zeroValue4
 t5:=Tryz.underlying5
 a5:=Tryz.isAgg5
 z5:=Tryz.sizeOf5
 v5:=Tryz.zeroValue5
 t9:=Tryz.underlying9
 a9:=Tryz.isAgg9
 z9:=Tryz.sizeOf9
 v9:=Tryz.zeroValue9
 t46:=Tryz.underlying241
 a46:=Tryz.isAgg241
 z46:=Tryz.sizeOf241
 v46:=Tryz.zeroValue241
 t51:=Tryz.underlying256
 a51:=Tryz.isAgg256
 z51:=Tryz.sizeOf256
 v51:=Tryz.zeroValue256
 t59:=Tryz.underlying156
 a59:=Tryz.isAgg156
 z59:=Tryz.sizeOf156
 v59:=Tryz.zeroValue156
 t146:=Tryz.underlying324
 a146:=Tryz.isAgg324
 z146:=Tryz.sizeOf324
 v146:=Tryz.zeroValue324
 g1:=by kernel_rfl }
def Tryz.lays229_ren:Go.Shelf.Ren:=⟨fun|229=>198|n=>n,fun|9=>9|40=>287|31=>22|152=>340|3=>3|0=>0|4=>4|21=>21|154=>342|n=>n,fun|n=>n⟩
theorem Tryz.lays229:Go.Proofs.Lays.n229 Tryz.prog Tryz.lays229_ren:={
 mixed:=by kernel_rfl
 f229:=Tryz.kk Tryz.func198 (by kernel_rfl)
 t0:=Tryz.underlying0
 a0:=Tryz.isAgg0
 z0:=Tryz.sizeOf0
 v0:=Tryz.zeroValue0
 t3:=Tryz.underlying3
 a3:=Tryz.isAgg3
 z3:=Tryz.sizeOf3
 v3:=Tryz.zeroValue3
 t4:=Tryz.underlying4
 a4:=Tryz.isAgg4
 z4:=Tryz.sizeOf4
 v4:=Tryz.zeroValue4
 t9:=Tryz.underlying9
 a9:=Tryz.isAgg9
 z9:=Tryz.sizeOf9
 v9:=Tryz.zeroValue9
 t21:=Tryz.underlying21
 a21:=Tryz.isAgg21
 z21:=Tryz.sizeOf21
 v21:=Tryz.zeroValue21
 t31:=Tryz.underlying22
 a31:=Tryz.isAgg22
 z31:=Tryz.sizeOf22
 v31:=Tryz.zeroValue22
 t40:=Tryz.underlying287
 a40:=Tryz.isAgg287
 z40:=Tryz.sizeOf287
 v40:=Tryz.zeroValue287
 t152:=Tryz.underlying340
 a152:=Tryz.isAgg340
 z152:=Tryz.sizeOf340
 v152:=Tryz.zeroValue340
 t154:=Tryz.underlying342
 a154:=Tryz.isAgg342
 z154:=Tryz.sizeOf342
 v154:=Tryz.zeroValue342 }
def Tryz.laysF107_ren:Go.Shelf.Ren:=⟨fun|6=>107|15=>153|14=>152|28=>220|29=>165|20=>212|21=>213|22=>214|23=>215|24=>216|25=>217|26=>218|27=>219|46=>268|47=>269|48=>270|49=>271|50=>272|57=>305|n=>n,fun|22=>28|24=>119|25=>196|3=>3|39=>241|0=>0|53=>256|55=>202|4=>4|46=>310|45=>309|50=>110|5=>5|9=>9|66=>351|70=>355|76=>382|77=>383|n=>n,fun|n=>n⟩
theorem Tryz.laysF107:Go.Proofs.SlLaysF0.n6 Tryz.prog Tryz.laysF107_ren:={
 mixed:=by kernel_rfl
 f6:=⟨Tryz.f107.name,by decide,Tryz.kk Tryz.func107 (by kernel_rfl)⟩
 f14:=⟨Tryz.f152.name,by decide,Tryz.kk Tryz.func152 (by kernel_rfl)⟩
 f15:=Tryz.kk Tryz.func153 (by kernel_rfl)
 f20:=⟨Tryz.f212.name,by decide,Tryz.kk Tryz.func212 (by kernel_rfl)⟩
 f21:=⟨Tryz.f213.name,by decide,Tryz.kk Tryz.func213 (by kernel_rfl)⟩
 f22:=⟨Tryz.f214.name,by decide,Tryz.kk Tryz.func214 (by kernel_rfl)⟩
 f23:=⟨Tryz.f215.name,by decide,Tryz.kk Tryz.func215 (by kernel_rfl)⟩
 f24:=⟨Tryz.f216.name,by decide,Tryz.kk Tryz.func216 (by kernel_rfl)⟩
 f25:=⟨Tryz.f217.name,by decide,Tryz.kk Tryz.func217 (by kernel_rfl)⟩
 f26:=⟨Tryz.f218.name,by decide,Tryz.kk Tryz.func218 (by kernel_rfl)⟩
 f27:=⟨Tryz.f219.name,by decide,Tryz.kk Tryz.func219 (by kernel_rfl)⟩
 f28:=Tryz.kk Tryz.func220 (by kernel_rfl)
 f29:=Tryz.kk Tryz.func165 (by kernel_rfl)
 f46:=⟨Tryz.f268.name,by decide,Tryz.kk Tryz.func268 (by kernel_rfl)⟩
 f47:=Tryz.kk Tryz.func269 (by kernel_rfl)
 f48:=Tryz.kk Tryz.func270 (by kernel_rfl)
 f49:=⟨Tryz.f271.name,by decide,Tryz.kk Tryz.func271 (by kernel_rfl)⟩
 f50:=⟨Tryz.f272.name,by decide,Tryz.kk Tryz.func272 (by kernel_rfl)⟩
 f57:=⟨Tryz.f305.name,by decide,Tryz.kk Tryz.func305 (by kernel_rfl)⟩
 t0:=Tryz.underlying0
 a0:=Tryz.isAgg0
 z0:=Tryz.sizeOf0
 v0:=Tryz.zeroValue0
 t3:=Tryz.underlying3
 a3:=Tryz.isAgg3
 z3:=Tryz.sizeOf3
 v3:=Tryz.zeroValue3
 t4:=Tryz.underlying4
 a4:=Tryz.isAgg4
 z4:=Tryz.sizeOf4
 v4:=Tryz.zeroValue4
 t5:=Tryz.underlying5
 a5:=Tryz.isAgg5
 z5:=Tryz.sizeOf5
 v5:=Tryz.zeroValue5
 t9:=Tryz.underlying9
 a9:=Tryz.isAgg9
 z9:=Tryz.sizeOf9
 v9:=Tryz.zeroValue9
 t22:=Tryz.underlying28
 a22:=Tryz.isAgg28
 z22:=Tryz.sizeOf28
 v22:=Tryz.zeroValue28
 t25:=Tryz.underlying196
 a25:=Tryz.isAgg196
 z25:=Tryz.sizeOf196
 v25:=Tryz.zeroValue196
 t39:=Tryz.underlying241
 a39:=Tryz.isAgg241
 z39:=Tryz.sizeOf241
 v39:=Tryz.zeroValue241
 t45:=Tryz.underlying309
 a45:=Tryz.isAgg309
 z45:=Tryz.sizeOf309
 v45:=Tryz.zeroValue309
 t46:=Tryz.underlying310
 a46:=Tryz.isAgg310
 z46:=Tryz.sizeOf310
 v46:=Tryz.zeroValue310
 t50:=Tryz.underlying110
 a50:=Tryz.isAgg110
 z50:=Tryz.sizeOf110
 v50:=Tryz.zeroValue110
 t53:=Tryz.underlying256
 a53:=Tryz.isAgg256
 z53:=Tryz.sizeOf256
 v53:=Tryz.zeroValue256
 t55:=Tryz.underlying202
 a55:=Tryz.isAgg202
 z55:=Tryz.sizeOf202
 v55:=Tryz.zeroValue202
 t66:=Tryz.underlying351
 a66:=Tryz.isAgg351
 z66:=Tryz.sizeOf351
 v66:=Tryz.zeroValue351
 t70:=Tryz.underlying355
 a70:=Tryz.isAgg355
 z70:=Tryz.sizeOf355
 v70:=Tryz.zeroValue355
 t76:=Tryz.underlying382
 a76:=Tryz.isAgg382
 z76:=Tryz.sizeOf382
 v76:=Tryz.zeroValue382
 t77:=Tryz.underlying383
 a77:=Tryz.isAgg383
 z77:=Tryz.sizeOf383
 v77:=Tryz.zeroValue383 }
def Tryz.laysF263_ren:Go.Shelf.Ren:=⟨fun|6=>263|15=>153|14=>302|28=>220|29=>165|20=>320|21=>321|22=>322|23=>323|24=>324|25=>325|26=>326|27=>327|46=>335|47=>269|48=>270|49=>336|50=>337|57=>340|n=>n,fun|22=>30|24=>234|25=>349|3=>3|39=>241|0=>0|53=>256|55=>202|4=>4|46=>310|45=>309|50=>110|5=>5|9=>9|66=>351|70=>355|76=>382|77=>383|n=>n,fun|n=>n⟩
theorem Tryz.laysF263:Go.Proofs.SlLaysF0.n6 Tryz.prog Tryz.laysF263_ren:={
 mixed:=by kernel_rfl
 f6:=⟨Tryz.f263.name,by decide,Tryz.kk Tryz.func263 (by kernel_rfl)⟩
 f14:=⟨Tryz.f302.name,by decide,Tryz.kk Tryz.func302 (by kernel_rfl)⟩
 f15:=Tryz.kk Tryz.func153 (by kernel_rfl)
 f20:=⟨Tryz.f320.name,by decide,Tryz.kk Tryz.func320 (by kernel_rfl)⟩
 f21:=⟨Tryz.f321.name,by decide,Tryz.kk Tryz.func321 (by kernel_rfl)⟩
 f22:=⟨Tryz.f322.name,by decide,Tryz.kk Tryz.func322 (by kernel_rfl)⟩
 f23:=⟨Tryz.f323.name,by decide,Tryz.kk Tryz.func323 (by kernel_rfl)⟩
 f24:=⟨Tryz.f324.name,by decide,Tryz.kk Tryz.func324 (by kernel_rfl)⟩
 f25:=⟨Tryz.f325.name,by decide,Tryz.kk Tryz.func325 (by kernel_rfl)⟩
 f26:=⟨Tryz.f326.name,by decide,Tryz.kk Tryz.func326 (by kernel_rfl)⟩
 f27:=⟨Tryz.f327.name,by decide,Tryz.kk Tryz.func327 (by kernel_rfl)⟩
 f28:=Tryz.kk Tryz.func220 (by kernel_rfl)
 f29:=Tryz.kk Tryz.func165 (by kernel_rfl)
 f46:=⟨Tryz.f335.name,by decide,Tryz.kk Tryz.func335 (by kernel_rfl)⟩
 f47:=Tryz.kk Tryz.func269 (by kernel_rfl)
 f48:=Tryz.kk Tryz.func270 (by kernel_rfl)
 f49:=⟨Tryz.f336.name,by decide,Tryz.kk Tryz.func336 (by kernel_rfl)⟩
 f50:=⟨Tryz.f337.name,by decide,Tryz.kk Tryz.func337 (by kernel_rfl)⟩
 f57:=⟨Tryz.f340.name,by decide,Tryz.kk Tryz.func340 (by kernel_rfl)⟩
 t0:=Tryz.underlying0
 a0:=Tryz.isAgg0
 z0:=Tryz.sizeOf0
 v0:=Tryz.zeroValue0
 t3:=Tryz.underlying3
 a3:=Tryz.isAgg3
 z3:=Tryz.sizeOf3
 v3:=Tryz.zeroValue3
 t4:=Tryz.underlying4
 a4:=Tryz.isAgg4
 z4:=Tryz.sizeOf4
 v4:=Tryz.zeroValue4
 t5:=Tryz.underlying5
 a5:=Tryz.isAgg5
 z5:=Tryz.sizeOf5
 v5:=Tryz.zeroValue5
 t9:=Tryz.underlying9
 a9:=Tryz.isAgg9
 z9:=Tryz.sizeOf9
 v9:=Tryz.zeroValue9
 t22:=Tryz.underlying30
 a22:=Tryz.isAgg30
 z22:=Tryz.sizeOf30
 v22:=Tryz.zeroValue30
 t25:=Tryz.underlying349
 a25:=Tryz.isAgg349
 z25:=Tryz.sizeOf349
 v25:=Tryz.zeroValue349
 t39:=Tryz.underlying241
 a39:=Tryz.isAgg241
 z39:=Tryz.sizeOf241
 v39:=Tryz.zeroValue241
 t45:=Tryz.underlying309
 a45:=Tryz.isAgg309
 z45:=Tryz.sizeOf309
 v45:=Tryz.zeroValue309
 t46:=Tryz.underlying310
 a46:=Tryz.isAgg310
 z46:=Tryz.sizeOf310
 v46:=Tryz.zeroValue310
 t50:=Tryz.underlying110
 a50:=Tryz.isAgg110
 z50:=Tryz.sizeOf110
 v50:=Tryz.zeroValue110
 t53:=Tryz.underlying256
 a53:=Tryz.isAgg256
 z53:=Tryz.sizeOf256
 v53:=Tryz.zeroValue256
 t55:=Tryz.underlying202
 a55:=Tryz.isAgg202
 z55:=Tryz.sizeOf202
 v55:=Tryz.zeroValue202
 t66:=Tryz.underlying351
 a66:=Tryz.isAgg351
 z66:=Tryz.sizeOf351
 v66:=Tryz.zeroValue351
 t70:=Tryz.underlying355
 a70:=Tryz.isAgg355
 z70:=Tryz.sizeOf355
 v70:=Tryz.zeroValue355
 t76:=Tryz.underlying382
 a76:=Tryz.isAgg382
 z76:=Tryz.sizeOf382
 v76:=Tryz.zeroValue382
 t77:=Tryz.underlying383
 a77:=Tryz.isAgg383
 z77:=Tryz.sizeOf383
 v77:=Tryz.zeroValue383 }
def Tryz.lays169_ren:Go.Shelf.Ren:=⟨fun|169=>209|n=>n,fun|70=>302|9=>9|0=>0|72=>304|37=>39|127=>350|3=>3|5=>5|n=>n,fun|n=>n⟩
theorem Tryz.lays169:Go.Proofs.Lays.n169 Tryz.prog Tryz.lays169_ren:={
 mixed:=by kernel_rfl
 f169:=Tryz.kk Tryz.func209 (by kernel_rfl)
 t0:=Tryz.underlying0
 a0:=Tryz.isAgg0
 z0:=Tryz.sizeOf0
 v0:=Tryz.zeroValue0
 t3:=Tryz.underlying3
 a3:=Tryz.isAgg3
 z3:=Tryz.sizeOf3
 v3:=Tryz.zeroValue3
 t9:=Tryz.underlying9
 a9:=Tryz.isAgg9
 z9:=Tryz.sizeOf9
 v9:=Tryz.zeroValue9
 t37:=Tryz.underlying39
 a37:=Tryz.isAgg39
 z37:=Tryz.sizeOf39
 v37:=Tryz.zeroValue39
 t70:=Tryz.underlying302
 a70:=Tryz.isAgg302
 z70:=Tryz.sizeOf302
 v70:=Tryz.zeroValue302
 t72:=Tryz.underlying304
 a72:=Tryz.isAgg304
 z72:=Tryz.sizeOf304
 v72:=Tryz.zeroValue304
 t127:=Tryz.underlying350
 a127:=Tryz.isAgg350
 z127:=Tryz.sizeOf350
 v127:=Tryz.zeroValue350 }
theorem Tryz.Builder_Extra_169:Builder.Extra Tryz.prog Tryz.lays169_ren:={
 sizeBuilder:=by kernel_rfl
 liesBuilder:=by kernel_rfl
 t5:=Tryz.underlying5
 a5:=Tryz.isAgg5
 z5:=Tryz.sizeOf5
 v5:=Tryz.zeroValue5
 infoByte:=by kernel_rfl
 cellsByte:=by kernel_rfl
 sizeByte:=by kernel_rfl
 neB5:=by decide }
def Tryz.lays156_ren:Go.Shelf.Ren:=⟨fun|156=>147|165=>207|166=>208|169=>209|240=>266|241=>267|276=>303|277=>304|n=>n,fun|31=>22|9=>9|3=>3|4=>4|0=>0|20=>20|72=>304|76=>176|70=>302|37=>39|75=>175|127=>350|164=>379|5=>5|80=>305|n=>n,fun|n=>n⟩
theorem Tryz.lays156:Go.Proofs.Lays.n156 Tryz.prog Tryz.lays156_ren:={
 mixed:=by kernel_rfl
 f156:=Tryz.kk Tryz.func147 (by kernel_rfl)
 f165:=Tryz.kk Tryz.func207 (by kernel_rfl)
 f166:=Tryz.kk Tryz.func208 (by kernel_rfl)
 f169:=Tryz.kk Tryz.func209 (by kernel_rfl)
 f240:=Tryz.kk Tryz.func266 (by kernel_rfl)
 f241:=Tryz.kk Tryz.func267 (by kernel_rfl)
 f276:=Tryz.kk Tryz.func303 (by kernel_rfl)
 f277:=Tryz.kk Tryz.func304 (by kernel_rfl)
 t0:=Tryz.underlying0
 a0:=Tryz.isAgg0
 z0:=Tryz.sizeOf0
 v0:=Tryz.zeroValue0
 t3:=Tryz.underlying3
 a3:=Tryz.isAgg3
 z3:=Tryz.sizeOf3
 v3:=Tryz.zeroValue3
 t4:=Tryz.underlying4
 a4:=Tryz.isAgg4
 z4:=Tryz.sizeOf4
 v4:=Tryz.zeroValue4
 t9:=Tryz.underlying9
 a9:=Tryz.isAgg9
 z9:=Tryz.sizeOf9
 v9:=Tryz.zeroValue9
 t20:=Tryz.underlying20
 a20:=Tryz.isAgg20
 z20:=Tryz.sizeOf20
 v20:=Tryz.zeroValue20
 t31:=Tryz.underlying22
 a31:=Tryz.isAgg22
 z31:=Tryz.sizeOf22
 v31:=Tryz.zeroValue22
 t37:=Tryz.underlying39
 a37:=Tryz.isAgg39
 z37:=Tryz.sizeOf39
 v37:=Tryz.zeroValue39
 t70:=Tryz.underlying302
 a70:=Tryz.isAgg302
 z70:=Tryz.sizeOf302
 v70:=Tryz.zeroValue302
 t72:=Tryz.underlying304
 a72:=Tryz.isAgg304
 z72:=Tryz.sizeOf304
 v72:=Tryz.zeroValue304
 t75:=Tryz.underlying175
 a75:=Tryz.isAgg175
 z75:=Tryz.sizeOf175
 v75:=Tryz.zeroValue175
 t76:=Tryz.underlying176
 a76:=Tryz.isAgg176
 z76:=Tryz.sizeOf176
 v76:=Tryz.zeroValue176
 t127:=Tryz.underlying350
 a127:=Tryz.isAgg350
 z127:=Tryz.sizeOf350
 v127:=Tryz.zeroValue350
 t164:=Tryz.underlying379
 a164:=Tryz.isAgg379
 z164:=Tryz.sizeOf379
 v164:=Tryz.zeroValue379 }
theorem Tryz.Builder_Extra_156:Builder.Extra Tryz.prog Tryz.lays156_ren:={
 sizeBuilder:=by kernel_rfl
 liesBuilder:=by kernel_rfl
 t5:=Tryz.underlying5
 a5:=Tryz.isAgg5
 z5:=Tryz.sizeOf5
 v5:=Tryz.zeroValue5
 infoByte:=by kernel_rfl
 cellsByte:=by kernel_rfl
 sizeByte:=by kernel_rfl
 neB5:=by decide }
end Go.Proofs
namespace Go.Proofs
open Go Pk Go.RowKit
theorem Tryz.srt107:JX Tryz.prog 107 6 :=
  ⟨fun p cap fv w=>AnyF.slices_SortFunc_none Tryz.laysF107 p cap fv w,
   fun α _ enc hk h1 cf hO g cb blk off cap d w eg hc hH hb hs hT=>AnyQ.slices_SortFunc_total Tryz.laysF107 6 Tryz.isAgg119 Tryz.sizeOf119 enc hk h1 cf hO g cb blk off cap d w eg hc hH hb hs hT⟩
theorem Tryz.srt263:JX Tryz.prog 263 5 :=
  ⟨fun p cap fv w=>AnyF.slices_SortFunc_none Tryz.laysF263 p cap fv w,
   fun α _ enc hk h1 cf hO g cb blk off cap d w eg hc hH hb hs hT=>AnyQ.slices_SortFunc_total Tryz.laysF263 5 Tryz.isAgg234 Tryz.sizeOf234 enc hk h1 cf hO g cb blk off cap d w eg hc hH hb hs hT⟩
theorem Tryz.szB:(Tryz.prog.info? 304).map (·.size)=some 2:=by kernel_rfl
theorem Tryz.liesB:liesAt Tryz.prog Tryz.prog.depth 304 (2/Tryz.prog.cellsOf 304) 0 304 1=true:=by kernel_rfl
theorem Tryz.infoU8:(Tryz.prog.info? 5).map (fun i=>(i.zero,i.size,i.bytes))=some (some (.int .u8 0),1,1):=by kernel_rfl
set_option maxHeartbeats 1000000 in
set_option maxRecDepth 100000 in
theorem Tryz.cc_used (b:Nat) (w:World) (h0:w.cell? ⟨b,0,none⟩=some (.pointer (some ⟨b,0,none⟩))):Calls Tryz.prog 266 #[.pointer (some ⟨b,0,none⟩)] w fun e w'=>e=.returned (.tuple #[])∧w'=w:=by
 obtain ⟨j,hj,_⟩:=Option.map_eq_some_iff.1 Tryz.szB
 go_enter Tryz.func266,Tryz.ntmps266
 go_wp2
 rw [Lib.run_neq_ptr_same w _ Tryz.underlying302 hj]
 go_wp2
 go_end0
 exact ⟨rfl,rfl⟩
set_option maxHeartbeats 1000000 in
set_option maxRecDepth 100000 in
theorem Tryz.cc_new (b:Nat) (w:World) (h0:w.cell? ⟨b,0,none⟩=some (.pointer none)) (hs:w.shape? b=some (304,2)) (hz:w.frozen? ⟨b,0,none⟩=false):Calls Tryz.prog 266 #[.pointer (some ⟨b,0,none⟩)] w fun e w'=>e=.returned (.tuple #[])∧w'=w.setCell ⟨b,0,none⟩ (.pointer (some ⟨b,0,none⟩)):=by
 obtain ⟨j,hj,hjs⟩:=Option.map_eq_some_iff.1 Tryz.szB
 go_enter Tryz.func266,Tryz.ntmps266
 go_wp2
 rw [Lib.run_to_unsafe w ⟨b,0,none⟩ Tryz.underlying302 Tryz.underlying379 hj (by rw [hjs];decide) hs (Nat.zero_lt_succ 1)];simp only [Result.andThen];rw [Oper.upon_value]
 go_wp2
 rw [run_callFunc_extern Tryz.func303 (by kernel_rfl) (by kernel_rfl) (by kernel_rfl) (e:=Extern.AbiNoEscape.same) (by kernel_rfl)];rw [Lib.run_noEscape];simp only [Result.andThen];rw [Oper.upon_value]
 go_wp2
 rw [Lib.run_from_unsafe w ⟨b,0,none⟩ Tryz.underlying379 Tryz.underlying302 hj hs Tryz.liesB];simp only [Result.andThen];rw [Oper.upon_value]
 go_wp2
 go_end0
 exact ⟨rfl,rfl⟩
theorem Tryz.cc_any (B b:Nat) (l:List Value) (w:World) (h:Lib.IsBuilderF 304 5 B b l w):Calls Tryz.prog 266 #[.pointer (some ⟨b,0,none⟩)] w fun e w'=>e=.returned (.tuple #[])∧Lib.BuilderAtF 304 5 B b (.pointer (some ⟨b,0,none⟩)) l w'∧Below B w w':=by
 rcases h with h|h
 ·exact (Tryz.cc_new b w h.cell0 h.shape h.frozen0).mono fun e w' hw=>by
   obtain ⟨rfl,rfl⟩:=hw;exact ⟨rfl,h.used _,(Below.refl B w).setCell (p:=⟨b,0,none⟩) h.1 _⟩
 exact (Tryz.cc_used b w h.cell0).mono fun e w' hw=>by
  obtain ⟨rfl,rfl⟩:=hw;exact ⟨rfl,h,Below.refl B _⟩
set_option maxHeartbeats 2000000 in
set_option maxRecDepth 100000 in
theorem Tryz.bWrite (B b:Nat) (l:List Value) (s:ByteArray) (w:World) (h:Lib.IsBuilderF 304 5 B b l w) (hl:l.length+s.size≤140737488355328) (hB:B≤w.heap.size) :
  Calls Tryz.prog 208 #[.pointer (some ⟨b,0,none⟩),.string s] w fun e w'=>e=.returned (.tuple #[.int .i64 s.size,.nilIface])∧Lib.BuilderAtF 304 5 B b (.pointer (some ⟨b,0,none⟩)) (l++Lib.strCells s) w'∧Below B w w':=by
 obtain ⟨i0,hi,hz0,hz1,hz2⟩:=info_parts Tryz.infoU8;have eA1:∀ args w,(callFunc 266 args).run Tryz.prog w=.ok (.enter 266 args) w:=enters_of Tryz.func266 (by kernel_rfl) rfl
 go_enter Tryz.func208,Tryz.ntmps208
 go_wp2_with (go_at_fn 266;refine (Tryz.cc_any B b l _ h).mono ?_)
 rintro e w1 ⟨rfl,⟨hBb,v,hbk,hown,hne⟩,hb1⟩;have c0:w1.cell? ⟨b,0,none⟩=some (.pointer (some ⟨b,0,none⟩)):=by rw [Lib.cell_of_heap hbk];rfl
 have c1:w1.cell? ⟨b,1,none⟩=some v:=by rw [Lib.cell_of_heap hbk];rfl
 go_wp2_with (at_builtin;refine Lib.wpList_append_own_stringF _ rfl _ _ 39 9 rfl B 5 i0 Tryz.underlying39 Tryz.underlying9 hi hz0 hz1 hz2 _ _ _ rfl hown s rfl ?c3 ?c4 ?c5 ?_)
 case c3=>unfold maxLen;omega
 case c4=>omega
 case c5=>have:=hb1.size;omega
 intro v' w2 hown' hgrow _;have hlt:b<w1.heap.size:=(Array.getElem?_eq_some_iff.1 hbk).1;have hb2:w2.heap[b]?=some (.cells #[.pointer (some ⟨b,0,none⟩),v] 304 (0,0)):=by
  rw [hgrow.block b hlt (fun e=>hne e.symm)];exact hbk
 have d0:w2.cell? ⟨b,0,none⟩=some (.pointer (some ⟨b,0,none⟩)):=by rw [Lib.cell_of_heap hb2];rfl
 have d1:w2.cell? ⟨b,1,none⟩=some v:=by rw [Lib.cell_of_heap hb2];rfl
 have f1:w2.frozen? ⟨b,1,none⟩=false:=Lib.frozen_of_heap hb2 1;obtain ⟨ao,n',cap,rfl⟩:∃ ao n' cap,v'=.slice ao n' cap:=by
  rcases hown'.2 with ⟨hv,_⟩|⟨g,cap,cur,fz,hv,_⟩
  ·exact ⟨_,_,_,hv⟩
  exact ⟨_,_,_,hv⟩
 go_wp2
 go_ret2
 exact ⟨rfl,Lib.BuilderAtF.put (T:=304) (e:=5) hBb hb2 (bs':=l++Lib.strCells s) (by simpa [Lib.strCells_length] using hown') (by decide),(hb1.grown hgrow (by have:=hb1.size;omega) (fun k hk=>(hown.lt k hk).1)).setCell (p:=⟨b,1,none⟩) hBb _⟩
end Go.Proofs
set_option maxHeartbeats 4000000
namespace T12
open Go Go.Proofs Pk Go.RowKit
structure Gv (M:Prop) (H:Hp):Prop where
 gl:Gl M 2 3 0 H
 mx:∃ m,aN H ⟨1,0,none⟩ [.int .i64 m]
theorem Gv.mono {M:Prop} {H K:Hp} (h:Gv M H) (hk:H.le K):Gv M K:=⟨h.gl.mono hk,h.mx.imp fun _ hm=>hm.mono hk⟩
noncomputable def m69 (s:aE):Option (Int×Bool):=DE s
noncomputable def UT (n:Int):Option aE:=zB n
noncomputable def IM (s t:aE):Option (aE×aE×Bool):=cA (s.length≤1073741824) (some (Lib.cut s t))
theorem bsd (s:aE):(bs s).data.toList=s:=by simp [bs]
theorem w69 {M:Prop} {W:World} {H:Hp} (hH:H.le (hp W)) (hg:Gv M H) (s:aE) {r:Int×Bool} (hr:m69 s=some r):Calls Tryz.prog 69 #[.string (bs s)] W (eY M H W (fun v K=>∃ (er1:Value),v=.tuple #[.int .i64 r.1,er1]∧Er er1 r.2)):=by
 unfold m69 DE at hr;obtain ⟨hl,hr⟩:=aF hr;obtain rfl:=Option.some.inj hr;have hz:(bs s).size=s.length:=fV s;obtain ⟨e0,h0,i0⟩:=hg.gl.syn;obtain ⟨e1,h1,i1⟩:=hg.gl.rng
 cases h:Lib.atoiAll s with
 | ok v =>
  refine (Any.strconv_Atoi_ok Tryz.laysC172 (bs s) (by omega) v (by rw [bsd];exact h) W).mono ?_;rintro e w' ⟨rfl,hw⟩;refine ⟨⟨_,by simp [kW,h],.inl ⟨by simp [kW,h],rfl⟩⟩,?_⟩;rcases hw with rfl|⟨t,rfl⟩
  ·exact gP.refl _ _
  exact gP.of_below hg.gl.nq (Lib.bytesWorld_below _ _ _)
 | range =>
  refine (Any.strconv_Atoi_range Tryz.laysC172 (bs s) (by omega) (by rw [bsd];exact h) e1 W (sQ hH h1) i1).mono ?_;rintro e w' ⟨N,rfl,_,_,hb⟩;have hr1:kW s=(Lib.atoiSat s,true):=by simp [kW,h]
  rw [hr1,bsd];exact ⟨⟨_,rfl,.inr ⟨rfl,_,_,rfl⟩⟩,gP.of_below hg.gl.nq hb⟩
 | _ =>
  refine (Any.strconv_Atoi_syntax Tryz.laysC172 (bs s) (by omega) (by rw [bsd];exact h) e0 W (sQ hH h0) i0).mono ?_;rintro e w' ⟨N,rfl,_,_,hb⟩;have hr1:kW s=(0,true):=by simp [kW,h]
  rw [hr1];exact ⟨⟨_,rfl,.inr ⟨rfl,_,_,rfl⟩⟩,gP.of_below hg.gl.nq hb⟩
theorem OP {W:World} {H:Hp} (hH:H.le (hp W)) {M:Prop} (hg:Gv M H) (n:Int) (h1 : -9223372036854775808≤n) (h2:n≤9223372036854775807):Calls Tryz.prog 30 #[.int .i64 n] W fun e w'=>e=.returned (.string (bs (Lib.itoa n)))∧∃ k os,w'=Sort.grow (W.drewN k) os:=by
 refine (Any.strconv_Itoa Tryz.laysM171 n h1 h2 W (DD (by kernel_rfl) hH hg.gl.tab)).mono ?_;rintro e w' ⟨rfl,k,os,rfl⟩;exact ⟨rfl,k,os,rfl⟩
theorem vG (M:Prop) (W:World) (k:Nat) (os:Array Obj):gP M W (Sort.grow (W.drewN k) os) :=
 ⟨rfl,rfl,rfl,(by show W.heap.size≤(W.heap++os).size;rw [Array.size_append];omega),fun b hb=>Array.getElem?_append_left hb,fun _=>Nat.le_add_right _ _⟩
theorem w30 {M:Prop} {W:World} {H:Hp} (hH:H.le (hp W)) (hg:Gv M H) (n:Int) {r:aE} (hr:UT n=some r):Calls Tryz.prog 30 #[.int .i64 n] W (bJ M W (.string (bs r))):=by
 unfold UT zB at hr;obtain ⟨hl,hr⟩:=aF hr;obtain rfl:=Option.some.inj hr;refine (OP hH hg n hl.1 hl.2).mono ?_;rintro e w' ⟨rfl,k,os,rfl⟩;exact ⟨rfl,vG M W k os⟩
theorem w57 {M:Prop} {W:World} {H:Hp} (hH:H.le (hp W)) (hg:Gv M H) (s t:aE) {r:aE×aE×Bool} (hr:IM s t=some r):Calls Tryz.prog 57 #[.string (bs s),.string (bs t)] W (bJ M W (.tuple #[.string (bs r.1),.string (bs r.2.1),.bool r.2.2])):=by
 unfold IM at hr;obtain ⟨hl,hr⟩:=aF hr;obtain rfl:=Option.some.inj hr;obtain ⟨m,hm⟩:=hg.mx;refine (Any.strings_Cut Tryz.lays145 (bs s) (bs t) m W (by rw [fV];omega) (sQ hH hm)).mono ?_;rintro e w' ⟨rfl,k,rfl⟩;refine ⟨by simp [bs],?_⟩;exact ⟨rfl,rfl,rfl,Nat.le_refl _,fun _ _=>rfl,fun _=>Nat.le_add_right _ _⟩
noncomputable def DV (l:List aE) (sep:aE):Option aE:=cA (l.length≤1073741824∧(Lib.join l sep).length≤1073741824) (some (Lib.join l sep))
theorem aCt {M:Prop} {W:World} {H:Hp} (hH:H.le (hp W)) (hg:Gv M H) {ad:Option Addr} {cap:Nat} {l:List aE} (hl:Sl (aD bY) 1 H ad cap l) (sep:aE) {r:aE} (hr:DV l sep=some r):Calls Tryz.prog 147 #[.slice ad l.length cap,.string (bs sep)] W (bJ M W (.string (bs r))):=by
 unfold DV at hr;obtain ⟨hb,hr⟩:=aF hr;obtain rfl:=Option.some.inj hr;have hx:(l.map bs).map (·.data.toList)=l:=by
  rw [List.map_map]
  conv=>rhs;rw [← List.map_id l]
  exact List.map_congr_left fun x _=>by simp [bs]
 cases l with
 | nil =>
  refine (Any.strings_Join_none Tryz.lays156 Tryz.Builder_Extra_156 ad cap (bs sep) W).mono ?_;rintro e w' ⟨rfl,rfl⟩;exact ⟨by simp [bs,Lib.join_nil],gP.refl _ _⟩
 | cons x l =>
  obtain ⟨p,cs,rfl,hp0,h2,h3,h4⟩:=hl.2 0 x rfl;obtain ⟨b,o,sp⟩:=p;obtain rfl:sp=none:=hp0;have hcell:∀ (j:Nat) y,((x::l).map bs)[j]?=some y→W.cell? ⟨b,o+j,none⟩=some (.string y):=fun j y hy=>by
   rw [List.getElem?_map,Option.map_eq_some_iff] at hy;obtain ⟨z,hz,rfl⟩:=hy;obtain ⟨p,cs,h1,_,_,h3,h4⟩:=hl.2 j z hz;cases h1;have h4:cs=bY z:=h4;subst h4;have:=(h3.mono hH).cell (j:=0) (v:=.string (bs z)) rfl;have e:((⟨b,o,none⟩:Addr).add (j*1)).add 0=⟨b,o+j,none⟩:=by rw [Nat.mul_one,eA (i:=j) rfl];rfl
   rwa [e] at this
  have hlt:b<W.heap.size:=by
   have h4:cs=bY x:=h4;subst h4;obtain ⟨c,ty,fz,h5,_⟩:=h3.2 0 (.string (bs x)) rfl;have h6:=hH _ _ h5;rw [Nat.zero_mul,eA rfl] at h6;exact (Array.getElem?_eq_some_iff.1 h6).1
  have hn:((x::l).map bs).length=(x::l).length:=List.length_map _;have:=Any.strings_Join Tryz.lays156 Tryz.Builder_Extra_156 b o cap ((x::l).map bs) (bs sep) W hcell hlt (by rw [hn];omega) (by rw [hn];exact hl.1.1) (by rw [hx,show (bs sep).data.toList=sep by simp [bs]];omega);rw [hx,hn] at this;refine this.mono ?_;rintro e w' ⟨rfl,hw⟩;exact ⟨by simp [bs],gP.of_below hg.gl.nq hw⟩
def vH:Any→aE
 | .i n=>Lib.itoa n
 | .s b=>b
def OQ:Any→Prop
 | .i n=>-9223372036854775808≤n∧n≤9223372036854775807
 | .s _=>True
instance:(x:Any)→Decidable (OQ x)
 | .i _=>inferInstanceAs (Decidable (_∧_))
 | .s _=>inferInstanceAs (Decidable True)
def gL (l:List Any):aE:=l.flatMap vH
noncomputable def xA (l:List Any):Option aE:=cA ((∀ x∈l,OQ x)∧(gL l).length≤1073741824) (some (gL l))
theorem sF {T e:TypeId} {B b:Nat} {p:Value} {l:List Value} {W W':World} (h:Lib.BuilderAtF T e B b p l W) (hb:Below W.heap.size W W'):Lib.BuilderAtF T e B b p l W':=by
 have hlt:=h.lt;obtain ⟨hB,v,hv,hown,hne⟩:=h;exact ⟨hB,v,(hb.block b hlt).trans hv,hown.kept (row:=none) ⟨hb.os,hb.tape,hb.output,hb.size,fun k hk _=>hb.block k hk⟩ (Classical.em _),hne⟩
theorem AS {T e:TypeId} {B b:Nat} {l:List Value} {W W':World} (h:Lib.IsBuilderF T e B b l W) (hb:Below W.heap.size W W'):Lib.IsBuilderF T e B b l W' :=
 h.elim (fun x=>.inl (sF x hb)) (fun x=>.inr (sF x hb))
theorem xB (W:World) (k:Nat) (os:Array Obj):Below W.heap.size W (Sort.grow (W.drewN k) os) :=
 ⟨rfl,rfl,rfl,(by show W.heap.size≤(W.heap++os).size;rw [Array.size_append];omega),fun b hb=>Array.getElem?_append_left hb⟩
theorem xC {l:List Any} {i:Nat} {x:Any} (h:l[i]?=some x):gL (l.take (i+1))=gL (l.take i)++vH x:=by
 unfold gL;rw [List.take_succ,h];simp
theorem DW {l:List Any} (i:Nat):(gL (l.take i)).length≤(gL l).length:=by
 have:gL l=gL (l.take i)++gL (l.drop i):=by unfold gL;rw [← List.flatMap_append,List.take_append_drop]
 rw [this];simp
section
variable {P:Program} {r:Option Nat} {n:aV} {p:List PanicEntry→aV} {a:Act} {w:World} {D:List Deferred} {k:Nat} {L:cB} {ops:Array Oper} {rest:List Oper} {d:Nat} {ty:TypeId} {pos:String} {af:Array Edge}
theorem OR {y:Operand} {xT t:TypeId} {v:Value} {ds:TypeDesc} (hA:bQ D k a L) (hd:Nat.blt d k=true) (hu:P.underlying t=some ds) (hds:(match ds with | .interface _=>false|_=>true)=true) (hy:ev L y=some (.iface t v))
  (h:∀ a,bQ D k a ((d,.tuple #[v,.bool true])::L)→O P r ops n p rest a w):O P r ops n p (⟨some d,.typeAssert y xT t true,ty,pos,af,none⟩::rest) a w :=
 cQ rfl (fun _ h=>by cases h) (w':=w) (v:=.tuple #[v,.bool true]) (by
  simp only [execOp,Instr.typeAssert,hA.eval hy]
  cases ds <;> simp at hds <;> simp [run_underlying hu,Result.andThen]) (h _ (hA.put hd _))
theorem WY {y:Operand} {xT t t':TypeId} {v z:Value} {ds:TypeDesc} (hA:bQ D k a L) (hd:Nat.blt d k=true) (hu:P.underlying t=some ds) (hds:(match ds with | .interface _=>false|_=>true)=true) (hz:∀ w,(zeroValue t).run P w=.ok z w) (hne:Nat.beq t' t=false) (hy:ev L y=some (.iface t' v))
  (h:∀ a,bQ D k a ((d,.tuple #[z,.bool false])::L)→O P r ops n p rest a w):O P r ops n p (⟨some d,.typeAssert y xT t true,ty,pos,af,none⟩::rest) a w:=by
 have hn:¬t'=t:=QG hne
 exact cQ rfl (fun _ h=>by cases h) (w':=w) (v:=.tuple #[z,.bool false]) (by
  simp only [execOp,Instr.typeAssert,hA.eval hy]
  cases ds <;> simp at hds <;> simp [run_underlying hu,Result.andThen,hn,hz]) (h _ (hA.put hd _))
theorem sZ {x:Operand} {xs:List Operand} {ats:Array TypeId} {f:FuncId} {vs:List Value} {v:Value} {R:World→Prop} (hA:bQ D k a L) (hd:Nat.blt d k=true) (hf:ev L x=some (.func (.func f) #[] #[])) (hxs:mD L xs=some vs)
  (hcall:∀ args w,(callFunc f args).run P w=.ok (.enter f args) w) (hc:Calls P f vs.toArray w fun e w'=>e=.returned v∧R w') (h:∀ w',R w'→∀ a,bQ D k a ((d,v)::L)→O P r ops n p rest a w') :
  O P r ops n p (⟨some d,.call ⟨.value x,xs.toArray,ats⟩,ty,pos,af,none⟩::rest) a w:=by
 refine iM rfl (fun _ h=>by cases h) (gJ (first:=#[]) (cap:=#[]) hA hf hxs hcall) (by simpa using hc) ?_ ?_ ?_
 ·intro v' w' hv;obtain ⟨e,hR⟩:=hv;cases e;exact h w' hR _ (hA.put hd _)
 ·intro ch w' hv;cases hv.1
 intro w' hv;cases hv.1
end
theorem QV {M:Prop} {W:World} {H:Hp} (hH:H.le (hp W)) (hg:Gv M H) {ad_p0_:Option Addr} {cap_p0_:Nat} {p0_:List Any} (h_p0_:Sl (aD qO) 1 H ad_p0_ cap_p0_ p0_) {r:aE} (hr:xA p0_=some r):Calls Tryz.prog 182 #[.slice ad_p0_ p0_.length cap_p0_] W (bJ M W (.string (bs r))):=by
 unfold xA at hr;obtain ⟨⟨hok,hlen⟩,hr⟩:=aF hr;obtain rfl:=Option.some.inj hr;refine enter Tryz.func182 rfl Tryz.ntmps182 rfl ?_;intro a hA;refine gZ (dK (fO hA rfl rfl fun a hA=>?_));refine gH (gZ (dK (cQ rfl (fun _ h=>by cases h) (w':=W.alloc (.cells #[.pointer none,.slice none 0 0] 304)) (v:=.pointer (some ⟨W.heap.size,0,none⟩)) (by simp [execOp,Instr.alloc,Tryz.zeroValue304,kL,Value.cells]) ?_)));have hA1:=hA.put (d:=3) rfl (.pointer (some ⟨W.heap.size,0,none⟩));have hB1:Lib.IsBuilderF 304 5 W.heap.size W.heap.size (Lib.byteCells (gL (p0_.take 0))) (W.alloc (.cells #[.pointer none,.slice none 0 0] 304)):=(Lib.fresh_isBuilder 304 5 W).elim (fun h=>.inl (.of h)) (fun h=>.inr (.of h));have hW1:Below W.heap.size W (W.alloc (.cells #[.pointer none,.slice none 0 0] 304)):=(Below.refl _ _).alloc (Nat.le_refl _) _;generalize (a.put (some 3) (.pointer (some ⟨W.heap.size,0,none⟩)))=a1 at hA1 ⊢;generalize (W.alloc (.cells #[.pointer none,.slice none 0 0] 304))=w1 at hB1 hW1 ⊢;refine gH (gZ (gZ (dK (gV hA1 rfl rfl fun a hA=>NZ hA rfl rfl Tryz.underlying326 fun a hA=>gV hA rfl rfl fun a hA=>?_))));refine gH (mU (CI (fun j a w=>∃ i,i≤p0_.length∧j=p0_.length-i∧bQ [] 35 a [(3,.pointer (some ⟨W.heap.size,0,none⟩)),(10,.slice ad_p0_ p0_.length cap_p0_),(11,.int .i64 p0_.length),(12,.int .i64 i)]∧Lib.IsBuilderF 304 5 W.heap.size W.heap.size (Lib.byteCells (gL (p0_.take i))) w∧Below W.heap.size W w) (j:=p0_.length) ⟨0,Nat.zero_le _,rfl,hA.cut ⟨rfl,rfl,rfl,rfl,trivial⟩,hB1,hW1⟩ ?_));rintro j a w ⟨i,hil,rfl,hA,hB,hW⟩;have hll:=h_p0_.len;refine gZ (dK (VM hA rfl rfl rfl fun a hA=>gH (gZ (VF hA rfl (fun hc=>CG ?_) (fun hc=>CH rfl ?_)))))
 ·have hi:i<p0_.length:=by omega
  obtain ⟨x,hx⟩:∃ x,p0_[i]?=some x:=⟨_,List.getElem?_eq_getElem hi⟩;have hxok:=hok x (List.mem_of_getElem? hx);have hHw:H.le (hp w):=hH.trans (gP.of_below hg.gl.nq hW).le;have hlen2:(gL (p0_.take (i+1))).length≤1073741824:=Nat.le_trans (DW _) hlen;have hst:=xC hx;have hcnt:(gL (p0_.take i)).length+(vH x).length≤1073741824:=by rw [hst,List.length_append] at hlen2;exact hlen2
  have hBle:W.heap.size≤w.heap.size:=hW.size;refine gZ (qB (n:=fun a w'=>bQ [] 35 a [(3,.pointer (some ⟨W.heap.size,0,none⟩)),(10,.slice ad_p0_ p0_.length cap_p0_),(11,.int .i64 p0_.length),(12,.int .i64 i)]∧Lib.BuilderAtF 304 5 W.heap.size W.heap.size (.pointer (some ⟨W.heap.size,0,none⟩)) (Lib.byteCells (gL (p0_.take i))++Lib.strCells (bs (vH x))) w'∧Below W.heap.size W w') ?_ (fun _ _ h=>h) (fun _ K _ _ hK h=>⟨K,hK,h⟩) (fun _ _ _ h=>h) ?_)
  ·rintro a w' ⟨hA,hB,hW⟩;exact dK (NW hA rfl rfl rfl (by omega) (by omega) fun a hA=>gV hA rfl rfl fun a hA=>gH ⟨p0_.length-(i+1),by omega,i+1,by omega,rfl,hA.cut ⟨rfl,rfl,rfl,by simp [lk],trivial⟩,.inr (by rw [hst];unfold Lib.byteCells at *;rw [List.map_append];exact hB),hW⟩)
  refine mU (gZ (dK (aCa hA rfl rfl rfl Tryz.underlying326 Tryz.sizeOf20 (h_p0_.mono (aD.mono _) hHw) rfl rfl hx fun q cs hq hcs hf a hA=>wI (v:=WL x) hA rfl rfl Tryz.isAgg20 hq (by rw [show cs=qO x from hf];rfl) fun a hA=>fO hA rfl rfl fun a hA=>gH ?_)));clear hf hq hcs
  cases x with
  | i z =>
   refine gZ (dK (gV hA rfl rfl fun a hA=>OR hA rfl Tryz.underlying3 rfl rfl fun a hA=>gV hA rfl rfl fun a hA=>mY (vs:=[.int .i64 z,.bool true]) hA rfl rfl rfl fun a hA=>mY (vs:=[.int .i64 z,.bool true]) hA rfl rfl rfl fun a hA=>fO hA rfl rfl fun a hA=>fO hA rfl rfl fun a hA=>gH ?_));refine gZ (dK (gV hA rfl rfl fun a hA=>gH (jV hA rfl (fun _=>?_) (fun h=>by cases h))));refine dK (gV hA rfl rfl fun a hA=>sZ (x:=.func 30) (xs:=[.tmp 22]) hA rfl rfl rfl Tryz.call30 (OP hHw hg z hxok.1 hxok.2) ?_);rintro w' ⟨k,os,rfl⟩ a hA;have hb:=xB w k os;have hW':=hW.trans (hb.mono hBle);refine sZ (x:=.func 208) (xs:=[.tmp 3,.tmp 23]) hA rfl rfl rfl Tryz.call208 (Tryz.bWrite W.heap.size W.heap.size _ (bs (Lib.itoa z)) _ (AS hB hb) ?_ hW'.size) ?_
   ·rw [Lib.byteCells_length,fV];have:(Lib.itoa z).length=(vH (.i z)).length:=rfl;omega
   rintro w' ⟨hB',hW2⟩ a hA;exact gH ⟨hA.cut ⟨rfl,rfl,rfl,rfl,trivial⟩,hB',hW'.trans hW2⟩
  | s z =>
   refine gZ (dK (gV hA rfl rfl fun a hA=>WY hA rfl Tryz.underlying3 rfl Tryz.zeroValue3 rfl rfl fun a hA=>gV hA rfl rfl fun a hA=>mY (vs:=[.int .i64 0,.bool false]) hA rfl rfl rfl fun a hA=>mY (vs:=[.int .i64 0,.bool false]) hA rfl rfl rfl fun a hA=>fO hA rfl rfl fun a hA=>fO hA rfl rfl fun a hA=>gH ?_));refine gZ (dK (gV hA rfl rfl fun a hA=>gH (jV hA rfl (fun h=>by cases h) (fun _=>?_))));refine gZ (dK (gV hA rfl rfl fun a hA=>OR hA rfl Tryz.underlying9 rfl rfl fun a hA=>gV hA rfl rfl fun a hA=>mY (vs:=[.string (bs z),.bool true]) hA rfl rfl rfl fun a hA=>mY (vs:=[.string (bs z),.bool true]) hA rfl rfl rfl fun a hA=>fO hA rfl rfl fun a hA=>fO hA rfl rfl fun a hA=>gH ?_));refine gZ (dK (gV hA rfl rfl fun a hA=>gH (jV hA rfl (fun _=>?_) (fun h=>by cases h))));refine dK (gV hA rfl rfl fun a hA=>sZ (x:=.func 208) (xs:=[.tmp 3,.tmp 31]) hA rfl rfl rfl Tryz.call208 (Tryz.bWrite W.heap.size W.heap.size _ (bs z) _ hB ?_ hBle) ?_)
   ·rw [Lib.byteCells_length,fV];have:z.length=(vH (.s z)).length:=rfl;omega
   rintro w' ⟨hB',hW2⟩ a hA;exact gH ⟨hA.cut ⟨rfl,rfl,rfl,rfl,trivial⟩,hB',hW.trans hW2⟩
 have hi:i=p0_.length:=by omega
 subst hi;rw [List.take_length] at hB;refine gZ (dK (sZ (x:=.func 209) (xs:=[.tmp 3]) hA rfl rfl rfl Tryz.call209 (Any.Builder_String_any_f Tryz.lays169 Tryz.Builder_Extra_169 W.heap.size W.heap.size (gL p0_) w hB hW.size) ?_));rintro w' ⟨hB',hW'⟩ a hA;refine fO hA rfl rfl fun a hA=>gH (NV (dT hA rfl rfl ?_));exact ⟨rfl,gP.of_below hg.gl.nq (hW.trans hW')⟩
end T12
namespace T12
open Go Go.Proofs Pk Tryz
theorem J.{u} {α:Sort u} {a:α}:a=a:=rfl
structure eV where
 year:Int
 may:List Int
 deriving DecidableEq,Inhabited
def jU:Hp→List Value→eV→Prop:=fun H cs x=>∃ (ad0:Option Addr) (cap0:Nat),cs=[.int .i64 x.year,.slice ad0 x.may.length cap0]∧Sl (aD (bP .i64)) 1 H ad0 cap0 x.may
theorem jU.one:mE jU:=fun _ _ _ ⟨_,_,h,_⟩=>by subst h;rfl
theorem jU.mono:gB jU:=fun _ _ _ _ hk ⟨a0,c0,h,f0⟩=>⟨a0,c0,h,f0.mono (aD.mono _) hk⟩
structure aH where
 anchor:Int
 text:aE
 deriving DecidableEq,Inhabited
def aO (x:aH):List Value:=[.int .i64 x.anchor,.string (bs x.text)]
structure eI where
 day:Int
 paragraphs:List aH
 deriving DecidableEq,Inhabited
def bW:Hp→List Value→eI→Prop:=fun H cs x=>∃ (ad0:Option Addr) (cap0:Nat),cs=[.int .i64 x.day,.slice ad0 x.paragraphs.length cap0]∧Sl (aD aO) 2 H ad0 cap0 x.paragraphs
theorem bW.one:mE bW:=fun _ _ _ ⟨_,_,h,_⟩=>by subst h;rfl
theorem bW.mono:gB bW:=fun _ _ _ _ hk ⟨a0,c0,h,f0⟩=>⟨a0,c0,h,f0.mono (aD.mono _) hk⟩
structure bD where
 number:Int
 bound:Int
 height:Int
 width:Int
 parts:List eI
 deriving DecidableEq,Inhabited
def bV:Hp→List Value→bD→Prop:=fun H cs x=>∃ (ad0:Option Addr) (cap0:Nat),cs=[.int .i64 x.number,.int .i64 x.bound,.int .i64 x.height,.int .i64 x.width,.slice ad0 x.parts.length cap0]∧Sl (bW) 2 H ad0 cap0 x.parts
theorem bV.one:mE bV:=fun _ _ _ ⟨_,_,h,_⟩=>by subst h;rfl
theorem bV.mono:gB bV:=fun _ _ _ _ hk ⟨a0,c0,h,f0⟩=>⟨a0,c0,h,f0.mono (bW.mono) hk⟩
structure aL where
 number:Int
 day:Int
 kind:Int
 anchor:Int
 text:aE
 new_:Int
 deriving DecidableEq,Inhabited
def aQ (x:aL):List Value:=[.int .i64 x.number,.int .i64 x.day,.int .u8 x.kind,.int .i64 x.anchor,.string (bs x.text),.int .i64 x.new_]
structure gY where
 anchor:Int
 kind:Int
 until_:Int
 deriving DecidableEq,Inhabited
def eZ (x:gY):List Value:=[.int .i64 x.anchor,.int .i64 x.kind,.int .i64 x.until_]
structure aW where
 number:Int
 of:Int
 from_:Int
 to_:Int
 words:List aE
 deriving DecidableEq,Inhabited
def aZ:Hp→List Value→aW→Prop:=fun H cs x=>∃ (ad0:Option Addr) (cap0:Nat),cs=[.int .i64 x.number,.int .i64 x.of,.int .i64 x.from_,.int .i64 x.to_,.slice ad0 x.words.length cap0]∧Sl (aD bY) 1 H ad0 cap0 x.words
theorem aZ.one:mE aZ:=fun _ _ _ ⟨_,_,h,_⟩=>by subst h;rfl
theorem aZ.mono:gB aZ:=fun _ _ _ _ hk ⟨a0,c0,h,f0⟩=>⟨a0,c0,h,f0.mono (aD.mono _) hk⟩
structure bT where
 words:List aE
 papers:List aW
 deriving DecidableEq,Inhabited
def cN:Hp→List Value→bT→Prop:=fun H cs x=>∃ (ad0:Option Addr) (cap0:Nat) (ad1:Option Addr) (cap1:Nat),cs=[.slice ad0 x.words.length cap0,.slice ad1 x.papers.length cap1]∧Sl (aD bY) 1 H ad0 cap0 x.words∧Sl (aZ) 5 H ad1 cap1 x.papers
theorem cN.one:mE cN:=fun _ _ _ ⟨_,_,_,_,h,_⟩=>by subst h;rfl
theorem cN.mono:gB cN:=fun _ _ _ _ hk ⟨a0,c0,a1,c1,h,f0,f1⟩=>⟨a0,c0,a1,c1,h,f0.mono (aD.mono _) hk,f1.mono (aZ.mono) hk⟩
structure bN where
 e0:List Int
 e1:List Int
 deriving DecidableEq,Inhabited
def iU:Hp→List Value→bN→Prop:=fun H cs x=>∃ (ad0:Option Addr) (cap0:Nat) (ad1:Option Addr) (cap1:Nat),cs=[.slice ad0 x.e0.length cap0,.slice ad1 x.e1.length cap1]∧Sl (aD (bP .i64)) 1 H ad0 cap0 x.e0∧Sl (aD (bP .i64)) 1 H ad1 cap1 x.e1
theorem iU.one:mE iU:=fun _ _ _ ⟨_,_,_,_,h,_⟩=>by subst h;rfl
theorem iU.mono:gB iU:=fun _ _ _ _ hk ⟨a0,c0,a1,c1,h,f0,f1⟩=>⟨a0,c0,a1,c1,h,f0.mono (aD.mono _) hk,f1.mono (aD.mono _) hk⟩
structure fN where
 a:Int
 b:Int
 deriving DecidableEq,Inhabited
def eS (x:fN):List Value:=[.int .i64 x.a,.int .i64 x.b]
structure dY where
 holder:Int
 for_:Int
 deriving DecidableEq,Inhabited
def eK (x:dY):List Value:=[.int .i64 x.holder,.int .i64 x.for_]
structure aY where
 members:Int
 ayes:bN
 noes:bN
 pairs:List fN
 proxies:List dY
 rule:Int
 need:Int
 quorum:Int
 tie:Int
 deriving DecidableEq,Inhabited
structure Zp6 where
 a0:Option Addr
 c0:Nat
 a1:Option Addr
 c1:Nat
 a2:Option Addr
 c2:Nat
 a3:Option Addr
 c3:Nat
 a4:Option Addr
 c4:Nat
 a5:Option Addr
 c5:Nat
abbrev iK (x:aY) (z:Zp6):List Value:=[.int .i64 x.members,.slice z.a0 x.ayes.e0.length z.c0,.slice z.a1 x.ayes.e1.length z.c1,.slice z.a2 x.noes.e0.length z.c2,.slice z.a3 x.noes.e1.length z.c3,.slice z.a4 x.pairs.length z.c4,.slice z.a5 x.proxies.length z.c5,.int .u8 x.rule,.int .i64 x.need,.int .i64 x.quorum,.int .u8 x.tie]
structure jF (H:Hp) (x:aY) (z:Zp6):Prop where
 f0:Sl (aD (bP .i64)) 1 H z.a0 z.c0 x.ayes.e0
 f1:Sl (aD (bP .i64)) 1 H z.a1 z.c1 x.ayes.e1
 f2:Sl (aD (bP .i64)) 1 H z.a2 z.c2 x.noes.e0
 f3:Sl (aD (bP .i64)) 1 H z.a3 z.c3 x.noes.e1
 f4:Sl (aD eS) 2 H z.a4 z.c4 x.pairs
 f5:Sl (aD eK) 2 H z.a5 z.c5 x.proxies
theorem jF.mono {H K:Hp} {x:aY} {z:Zp6} (h:jF H x z) (k:H.le K):jF K x z:=⟨h.f0.mono (aD.mono _) k,h.f1.mono (aD.mono _) k,h.f2.mono (aD.mono _) k,h.f3.mono (aD.mono _) k,h.f4.mono (aD.mono _) k,h.f5.mono (aD.mono _) k⟩
theorem jF.lens {H:Hp} {x:aY} {z:Zp6} (h:jF H x z):x.ayes.e0.length≤9223372036854775807∧x.ayes.e1.length≤9223372036854775807∧x.noes.e0.length≤9223372036854775807∧x.noes.e1.length≤9223372036854775807∧x.pairs.length≤9223372036854775807∧x.proxies.length≤9223372036854775807:=⟨h.f0.len,h.f1.len,h.f2.len,h.f3.len,h.f4.len,h.f5.len⟩
def bU:Hp→List Value→aY→Prop:=fun H cs x=>∃ z,cs=iK x z∧jF H x z
theorem bU.one:mE bU:=fun _ _ _ ⟨_,h,_⟩=>by subst h;rfl
theorem bU.mono:gB bU:=fun _ _ _ _ hk ⟨z,h,f⟩=>⟨z,h,f.mono hk⟩
structure dE where
 day:Int
 house:Int
 volume:bD
 bound:Bool
 errata:List aL
 hides:List gY
 cites:List aE
 motion:bT
 moved:Bool
 choice:List Int
 division:aY
 open_:Bool
 results:List UInt8
 deriving DecidableEq,Inhabited
structure vI where
 a0:Option Addr
 c0:Nat
 a1:Option Addr
 c1:Nat
 a2:Option Addr
 c2:Nat
 a3:Option Addr
 c3:Nat
 a4:Option Addr
 c4:Nat
 a5:Option Addr
 c5:Nat
 a6:Option Addr
 c6:Nat
 a7:Option Addr
 c7:Nat
 a8:Option Addr
 c8:Nat
 a9:Option Addr
 c9:Nat
 a10:Option Addr
 c10:Nat
 a11:Option Addr
 c11:Nat
 a12:Option Addr
 c12:Nat
 a13:Option Addr
 c13:Nat
abbrev cO (x:dE) (z:vI):List Value:=[.int .i64 x.day,.int .i64 x.house,.int .i64 x.volume.number,.int .i64 x.volume.bound,.int .i64 x.volume.height,.int .i64 x.volume.width,.slice z.a0 x.volume.parts.length z.c0,.bool x.bound,.slice z.a1 x.errata.length z.c1,.slice z.a2 x.hides.length z.c2,.slice z.a3 x.cites.length z.c3,.slice z.a4 x.motion.words.length z.c4,.slice z.a5 x.motion.papers.length z.c5,.bool x.moved,.slice z.a6 x.choice.length z.c6,.int .i64 x.division.members,.slice z.a7 x.division.ayes.e0.length z.c7,.slice z.a8 x.division.ayes.e1.length z.c8,.slice z.a9 x.division.noes.e0.length z.c9,.slice z.a10 x.division.noes.e1.length z.c10,.slice z.a11 x.division.pairs.length z.c11,.slice z.a12 x.division.proxies.length z.c12,.int .u8 x.division.rule,.int .i64 x.division.need,.int .i64 x.division.quorum,.int .u8 x.division.tie,.bool x.open_,.slice z.a13 x.results.length z.c13]
structure oU (H:Hp) (x:dE) (z:vI):Prop where
 f0:Sl (bW) 2 H z.a0 z.c0 x.volume.parts
 f1:Sl (aD aQ) 6 H z.a1 z.c1 x.errata
 f2:Sl (aD eZ) 3 H z.a2 z.c2 x.hides
 f3:Sl (aD bY) 1 H z.a3 z.c3 x.cites
 f4:Sl (aD bY) 1 H z.a4 z.c4 x.motion.words
 f5:Sl (aZ) 5 H z.a5 z.c5 x.motion.papers
 f6:Sl (aD (bP .i64)) 1 H z.a6 z.c6 x.choice
 f7:Sl (aD (bP .i64)) 1 H z.a7 z.c7 x.division.ayes.e0
 f8:Sl (aD (bP .i64)) 1 H z.a8 z.c8 x.division.ayes.e1
 f9:Sl (aD (bP .i64)) 1 H z.a9 z.c9 x.division.noes.e0
 f10:Sl (aD (bP .i64)) 1 H z.a10 z.c10 x.division.noes.e1
 f11:Sl (aD eS) 2 H z.a11 z.c11 x.division.pairs
 f12:Sl (aD eK) 2 H z.a12 z.c12 x.division.proxies
 f13:Sl (aD cH) 1 H z.a13 z.c13 x.results
theorem oU.mono {H K:Hp} {x:dE} {z:vI} (h:oU H x z) (k:H.le K):oU K x z:=⟨h.f0.mono (bW.mono) k,h.f1.mono (aD.mono _) k,h.f2.mono (aD.mono _) k,h.f3.mono (aD.mono _) k,h.f4.mono (aD.mono _) k,h.f5.mono (aZ.mono) k,h.f6.mono (aD.mono _) k,h.f7.mono (aD.mono _) k,h.f8.mono (aD.mono _) k,h.f9.mono (aD.mono _) k,h.f10.mono (aD.mono _) k,h.f11.mono (aD.mono _) k,h.f12.mono (aD.mono _) k,h.f13.mono (aD.mono _) k⟩
theorem oU.lens {H:Hp} {x:dE} {z:vI} (h:oU H x z):x.volume.parts.length≤9223372036854775807∧x.errata.length≤9223372036854775807∧x.hides.length≤9223372036854775807∧x.cites.length≤9223372036854775807∧x.motion.words.length≤9223372036854775807∧x.motion.papers.length≤9223372036854775807∧x.choice.length≤9223372036854775807∧x.division.ayes.e0.length≤9223372036854775807∧x.division.ayes.e1.length≤9223372036854775807∧x.division.noes.e0.length≤9223372036854775807∧x.division.noes.e1.length≤9223372036854775807∧x.division.pairs.length≤9223372036854775807∧x.division.proxies.length≤9223372036854775807∧x.results.length≤9223372036854775807:=⟨h.f0.len,h.f1.len,h.f2.len,h.f3.len,h.f4.len,h.f5.len,h.f6.len,h.f7.len,h.f8.len,h.f9.len,h.f10.len,h.f11.len,h.f12.len,h.f13.len⟩
def qT:Hp→List Value→dE→Prop:=fun H cs x=>∃ z,cs=cO x z∧oU H x z
theorem qT.one:mE qT:=fun _ _ _ ⟨_,h,_⟩=>by subst h;rfl
theorem qT.mono:gB qT:=fun _ _ _ _ hk ⟨z,h,f⟩=>⟨z,h,f.mono hk⟩
structure aI where
 state:dE
 deriving DecidableEq,Inhabited
abbrev DX (x:aI) (z:vI):List Value:=[.int .i64 x.state.day,.int .i64 x.state.house,.int .i64 x.state.volume.number,.int .i64 x.state.volume.bound,.int .i64 x.state.volume.height,.int .i64 x.state.volume.width,.slice z.a0 x.state.volume.parts.length z.c0,.bool x.state.bound,.slice z.a1 x.state.errata.length z.c1,.slice z.a2 x.state.hides.length z.c2,.slice z.a3 x.state.cites.length z.c3,.slice z.a4 x.state.motion.words.length z.c4,.slice z.a5 x.state.motion.papers.length z.c5,.bool x.state.moved,.slice z.a6 x.state.choice.length z.c6,.int .i64 x.state.division.members,.slice z.a7 x.state.division.ayes.e0.length z.c7,.slice z.a8 x.state.division.ayes.e1.length z.c8,.slice z.a9 x.state.division.noes.e0.length z.c9,.slice z.a10 x.state.division.noes.e1.length z.c10,.slice z.a11 x.state.division.pairs.length z.c11,.slice z.a12 x.state.division.proxies.length z.c12,.int .u8 x.state.division.rule,.int .i64 x.state.division.need,.int .i64 x.state.division.quorum,.int .u8 x.state.division.tie,.bool x.state.open_,.slice z.a13 x.state.results.length z.c13]
structure kE (H:Hp) (x:aI) (z:vI):Prop where
 f0:Sl (bW) 2 H z.a0 z.c0 x.state.volume.parts
 f1:Sl (aD aQ) 6 H z.a1 z.c1 x.state.errata
 f2:Sl (aD eZ) 3 H z.a2 z.c2 x.state.hides
 f3:Sl (aD bY) 1 H z.a3 z.c3 x.state.cites
 f4:Sl (aD bY) 1 H z.a4 z.c4 x.state.motion.words
 f5:Sl (aZ) 5 H z.a5 z.c5 x.state.motion.papers
 f6:Sl (aD (bP .i64)) 1 H z.a6 z.c6 x.state.choice
 f7:Sl (aD (bP .i64)) 1 H z.a7 z.c7 x.state.division.ayes.e0
 f8:Sl (aD (bP .i64)) 1 H z.a8 z.c8 x.state.division.ayes.e1
 f9:Sl (aD (bP .i64)) 1 H z.a9 z.c9 x.state.division.noes.e0
 f10:Sl (aD (bP .i64)) 1 H z.a10 z.c10 x.state.division.noes.e1
 f11:Sl (aD eS) 2 H z.a11 z.c11 x.state.division.pairs
 f12:Sl (aD eK) 2 H z.a12 z.c12 x.state.division.proxies
 f13:Sl (aD cH) 1 H z.a13 z.c13 x.state.results
theorem kE.mono {H K:Hp} {x:aI} {z:vI} (h:kE H x z) (k:H.le K):kE K x z:=⟨h.f0.mono (bW.mono) k,h.f1.mono (aD.mono _) k,h.f2.mono (aD.mono _) k,h.f3.mono (aD.mono _) k,h.f4.mono (aD.mono _) k,h.f5.mono (aZ.mono) k,h.f6.mono (aD.mono _) k,h.f7.mono (aD.mono _) k,h.f8.mono (aD.mono _) k,h.f9.mono (aD.mono _) k,h.f10.mono (aD.mono _) k,h.f11.mono (aD.mono _) k,h.f12.mono (aD.mono _) k,h.f13.mono (aD.mono _) k⟩
theorem kE.lens {H:Hp} {x:aI} {z:vI} (h:kE H x z):x.state.volume.parts.length≤9223372036854775807∧x.state.errata.length≤9223372036854775807∧x.state.hides.length≤9223372036854775807∧x.state.cites.length≤9223372036854775807∧x.state.motion.words.length≤9223372036854775807∧x.state.motion.papers.length≤9223372036854775807∧x.state.choice.length≤9223372036854775807∧x.state.division.ayes.e0.length≤9223372036854775807∧x.state.division.ayes.e1.length≤9223372036854775807∧x.state.division.noes.e0.length≤9223372036854775807∧x.state.division.noes.e1.length≤9223372036854775807∧x.state.division.pairs.length≤9223372036854775807∧x.state.division.proxies.length≤9223372036854775807∧x.state.results.length≤9223372036854775807:=⟨h.f0.len,h.f1.len,h.f2.len,h.f3.len,h.f4.len,h.f5.len,h.f6.len,h.f7.len,h.f8.len,h.f9.len,h.f10.len,h.f11.len,h.f12.len,h.f13.len⟩
def aX:Hp→List Value→aI→Prop:=fun H cs x=>∃ z,cs=DX x z∧kE H x z
theorem aX.one:mE aX:=fun _ _ _ ⟨_,h,_⟩=>by subst h;rfl
theorem aX.mono:gB aX:=fun _ _ _ _ hk ⟨z,h,f⟩=>⟨z,h,f.mono hk⟩
structure bZ where
 paragraph:aH
 removed:Bool
 deriving DecidableEq,Inhabited
def cG (x:bZ):List Value:=[.int .i64 x.paragraph.anchor,.string (bs x.paragraph.text),.bool x.removed]
structure fY where
 volume:bD
 parts:List (List bZ)
 deriving DecidableEq,Inhabited
def kF:Hp→List Value→fY→Prop:=fun H cs x=>∃ (ad0:Option Addr) (cap0:Nat) (ad1:Option Addr) (cap1:Nat),cs=[.int .i64 x.volume.number,.int .i64 x.volume.bound,.int .i64 x.volume.height,.int .i64 x.volume.width,.slice ad0 x.volume.parts.length cap0,.slice ad1 x.parts.length cap1]∧Sl (bW) 2 H ad0 cap0 x.volume.parts∧Sl (tX (aD cG) 3) 1 H ad1 cap1 x.parts
theorem kF.one:mE kF:=fun _ _ _ ⟨_,_,_,_,h,_⟩=>by subst h;rfl
theorem kF.mono:gB kF:=fun _ _ _ _ hk ⟨a0,c0,a1,c1,h,f0,f1⟩=>⟨a0,c0,a1,c1,h,f0.mono (bW.mono) hk,f1.mono (tX.mono (aD.mono _)) hk⟩
structure sG where
 anchor:Int
 column:Int
 line:Int
 lines:Int
 deriving DecidableEq,Inhabited
structure dH where
 place:sG
 day:Int
 number:Int
 deriving DecidableEq,Inhabited
def eW (x:dH):List Value:=[.int .i64 x.place.anchor,.int .i64 x.place.column,.int .i64 x.place.line,.int .i64 x.place.lines,.int .i64 x.day,.int .i64 x.number]
structure fL where
 ayes:Int
 noes:Int
 deriving DecidableEq,Inhabited
def jK (x:fL):List Value:=[.int .i64 x.ayes,.int .i64 x.noes]
structure bF where
 e0:Bool
 e1:Bool
 e2:Bool
 e3:Bool
 e4:Bool
 e5:Bool
 e6:Bool
 e7:Bool
 e8:Bool
 e9:Bool
 e10:Bool
 e11:Bool
 e12:Bool
 e13:Bool
 e14:Bool
 e15:Bool
 e16:Bool
 e17:Bool
 e18:Bool
 e19:Bool
 e20:Bool
 e21:Bool
 e22:Bool
 e23:Bool
 e24:Bool
 e25:Bool
 e26:Bool
 e27:Bool
 e28:Bool
 e29:Bool
 e30:Bool
 e31:Bool
 e32:Bool
 e33:Bool
 e34:Bool
 e35:Bool
 e36:Bool
 e37:Bool
 e38:Bool
 e39:Bool
 deriving Inhabited
def bM (x:bF):List Value:=[.bool x.e0,.bool x.e1,.bool x.e2,.bool x.e3,.bool x.e4,.bool x.e5,.bool x.e6,.bool x.e7,.bool x.e8,.bool x.e9,.bool x.e10,.bool x.e11,.bool x.e12,.bool x.e13,.bool x.e14,.bool x.e15,.bool x.e16,.bool x.e17,.bool x.e18,.bool x.e19,.bool x.e20,.bool x.e21,.bool x.e22,.bool x.e23,.bool x.e24,.bool x.e25,.bool x.e26,.bool x.e27,.bool x.e28,.bool x.e29,.bool x.e30,.bool x.e31,.bool x.e32,.bool x.e33,.bool x.e34,.bool x.e35,.bool x.e36,.bool x.e37,.bool x.e38,.bool x.e39]
def bF.vals (x:bF):List Bool:=[x.e0,x.e1,x.e2,x.e3,x.e4,x.e5,x.e6,x.e7,x.e8,x.e9,x.e10,x.e11,x.e12,x.e13,x.e14,x.e15,x.e16,x.e17,x.e18,x.e19,x.e20,x.e21,x.e22,x.e23,x.e24,x.e25,x.e26,x.e27,x.e28,x.e29,x.e30,x.e31,x.e32,x.e33,x.e34,x.e35,x.e36,x.e37,x.e38,x.e39]
def bF.get (x:bF) (j:Nat):Bool:=x.vals.getD j default
def bF.set (x:bF) (j:Nat) (v:Bool):bF:=⟨if j=0 then v else x.e0,if j=1 then v else x.e1,if j=2 then v else x.e2,if j=3 then v else x.e3,if j=4 then v else x.e4,if j=5 then v else x.e5,if j=6 then v else x.e6,if j=7 then v else x.e7,if j=8 then v else x.e8,if j=9 then v else x.e9,if j=10 then v else x.e10,if j=11 then v else x.e11,if j=12 then v else x.e12,if j=13 then v else x.e13,if j=14 then v else x.e14,if j=15 then v else x.e15,if j=16 then v else x.e16,if j=17 then v else x.e17,if j=18 then v else x.e18,if j=19 then v else x.e19,if j=20 then v else x.e20,if j=21 then v else x.e21,if j=22 then v else x.e22,if j=23 then v else x.e23,if j=24 then v else x.e24,if j=25 then v else x.e25,if j=26 then v else x.e26,if j=27 then v else x.e27,if j=28 then v else x.e28,if j=29 then v else x.e29,if j=30 then v else x.e30,if j=31 then v else x.e31,if j=32 then v else x.e32,if j=33 then v else x.e33,if j=34 then v else x.e34,if j=35 then v else x.e35,if j=36 then v else x.e36,if j=37 then v else x.e37,if j=38 then v else x.e38,if j=39 then v else x.e39⟩
def bF.zero:bF:=⟨false,false,false,false,false,false,false,false,false,false,false,false,false,false,false,false,false,false,false,false,false,false,false,false,false,false,false,false,false,false,false,false,false,false,false,false,false,false,false,false⟩
theorem bF.vset (x:bF) (v:Bool):∀ (j:Nat),j<40→(x.set j v).vals=x.vals.set j v
 | 0,_=>rfl
 | 1,_=>rfl
 | 2,_=>rfl
 | 3,_=>rfl
 | 4,_=>rfl
 | 5,_=>rfl
 | 6,_=>rfl
 | 7,_=>rfl
 | 8,_=>rfl
 | 9,_=>rfl
 | 10,_=>rfl
 | 11,_=>rfl
 | 12,_=>rfl
 | 13,_=>rfl
 | 14,_=>rfl
 | 15,_=>rfl
 | 16,_=>rfl
 | 17,_=>rfl
 | 18,_=>rfl
 | 19,_=>rfl
 | 20,_=>rfl
 | 21,_=>rfl
 | 22,_=>rfl
 | 23,_=>rfl
 | 24,_=>rfl
 | 25,_=>rfl
 | 26,_=>rfl
 | 27,_=>rfl
 | 28,_=>rfl
 | 29,_=>rfl
 | 30,_=>rfl
 | 31,_=>rfl
 | 32,_=>rfl
 | 33,_=>rfl
 | 34,_=>rfl
 | 35,_=>rfl
 | 36,_=>rfl
 | 37,_=>rfl
 | 38,_=>rfl
 | 39,_=>rfl
 | n+40,h=>absurd h (by omega)
theorem bF.em (x:bF):bM x=x.vals.map (fun v=>Value.bool v):=rfl
theorem bF.st {x:bF} {j:Nat} {v:Bool} (h:j<40):(bM x).set j (Value.bool v)=bM (x.set j v):=by rw [bF.em,bF.em,bF.vset x v j h,List.map_set]
theorem bF.at {x:bF} {j:Nat} (h:j<40):(bM x)[j]?=some (Value.bool (x.get j)):=by
 have h2:x.vals[j]?=some (x.get j):=by unfold bF.get;rw [List.getD_eq_getElem?_getD,List.getElem?_eq_getElem (show j<x.vals.length from h)];rfl
 rw [bF.em,List.getElem?_map,h2];rfl
structure dG where
 division:aY
 paired:bF
 may:List (List UInt8)
 deriving Inhabited
def fF:Hp→List Value→dG→Prop:=fun H cs x=>∃ (ad0:Option Addr) (cap0:Nat) (ad1:Option Addr) (cap1:Nat) (OJ:Option Addr) (cap2:Nat) (ad3:Option Addr) (cap3:Nat) (ad4:Option Addr) (cap4:Nat) (ad5:Option Addr) (cap5:Nat) (hs6:List gD),cs=(gE (gE [.int .i64 x.division.members,.slice ad0 x.division.ayes.e0.length cap0,.slice ad1 x.division.ayes.e1.length cap1,.slice OJ x.division.noes.e0.length cap2,.slice ad3 x.division.noes.e1.length cap3,.slice ad4 x.division.pairs.length cap4,.slice ad5 x.division.proxies.length cap5,.int .u8 x.division.rule,.int .i64 x.division.need,.int .i64 x.division.quorum,.int .u8 x.division.tie] (bM x.paired)) (kB hs6 x.may))∧Sl (aD (bP .i64)) 1 H ad0 cap0 x.division.ayes.e0∧Sl (aD (bP .i64)) 1 H ad1 cap1 x.division.ayes.e1∧Sl (aD (bP .i64)) 1 H OJ cap2 x.division.noes.e0∧Sl (aD (bP .i64)) 1 H ad3 cap3 x.division.noes.e1∧Sl (aD eS) 2 H ad4 cap4 x.division.pairs∧Sl (aD eK) 2 H ad5 cap5 x.division.proxies∧kX (aD cH) 1 40 H hs6 x.may
theorem fF.mono:gB fF:=fun _ _ _ _ hk ⟨a0,c0,a1,c1,a2,c2,a3,c3,a4,c4,a5,c5,s6,h,f0,f1,f2,f3,f4,f5,f6⟩=>⟨a0,c0,a1,c1,a2,c2,a3,c3,a4,c4,a5,c5,s6,h,f0.mono (aD.mono _) hk,f1.mono (aD.mono _) hk,f2.mono (aD.mono _) hk,f3.mono (aD.mono _) hk,f4.mono (aD.mono _) hk,f5.mono (aD.mono _) hk,f6.mono (aD.mono _) hk⟩
structure bA where
 e0:Int
 e1:Int
 e2:Int
 e3:Int
 e4:Int
 e5:Int
 e6:Int
 e7:Int
 e8:Int
 e9:Int
 e10:Int
 e11:Int
 e12:Int
 e13:Int
 e14:Int
 e15:Int
 e16:Int
 e17:Int
 e18:Int
 e19:Int
 e20:Int
 e21:Int
 e22:Int
 e23:Int
 e24:Int
 e25:Int
 e26:Int
 e27:Int
 e28:Int
 e29:Int
 e30:Int
 e31:Int
 e32:Int
 e33:Int
 e34:Int
 e35:Int
 e36:Int
 e37:Int
 e38:Int
 e39:Int
 deriving Inhabited
def cE (x:bA):List Value:=[.int .u8 x.e0,.int .u8 x.e1,.int .u8 x.e2,.int .u8 x.e3,.int .u8 x.e4,.int .u8 x.e5,.int .u8 x.e6,.int .u8 x.e7,.int .u8 x.e8,.int .u8 x.e9,.int .u8 x.e10,.int .u8 x.e11,.int .u8 x.e12,.int .u8 x.e13,.int .u8 x.e14,.int .u8 x.e15,.int .u8 x.e16,.int .u8 x.e17,.int .u8 x.e18,.int .u8 x.e19,.int .u8 x.e20,.int .u8 x.e21,.int .u8 x.e22,.int .u8 x.e23,.int .u8 x.e24,.int .u8 x.e25,.int .u8 x.e26,.int .u8 x.e27,.int .u8 x.e28,.int .u8 x.e29,.int .u8 x.e30,.int .u8 x.e31,.int .u8 x.e32,.int .u8 x.e33,.int .u8 x.e34,.int .u8 x.e35,.int .u8 x.e36,.int .u8 x.e37,.int .u8 x.e38,.int .u8 x.e39]
def bA.vals (x:bA):List Int:=[x.e0,x.e1,x.e2,x.e3,x.e4,x.e5,x.e6,x.e7,x.e8,x.e9,x.e10,x.e11,x.e12,x.e13,x.e14,x.e15,x.e16,x.e17,x.e18,x.e19,x.e20,x.e21,x.e22,x.e23,x.e24,x.e25,x.e26,x.e27,x.e28,x.e29,x.e30,x.e31,x.e32,x.e33,x.e34,x.e35,x.e36,x.e37,x.e38,x.e39]
def bA.get (x:bA) (j:Nat):Int:=x.vals.getD j default
def bA.set (x:bA) (j:Nat) (v:Int):bA:=⟨if j=0 then v else x.e0,if j=1 then v else x.e1,if j=2 then v else x.e2,if j=3 then v else x.e3,if j=4 then v else x.e4,if j=5 then v else x.e5,if j=6 then v else x.e6,if j=7 then v else x.e7,if j=8 then v else x.e8,if j=9 then v else x.e9,if j=10 then v else x.e10,if j=11 then v else x.e11,if j=12 then v else x.e12,if j=13 then v else x.e13,if j=14 then v else x.e14,if j=15 then v else x.e15,if j=16 then v else x.e16,if j=17 then v else x.e17,if j=18 then v else x.e18,if j=19 then v else x.e19,if j=20 then v else x.e20,if j=21 then v else x.e21,if j=22 then v else x.e22,if j=23 then v else x.e23,if j=24 then v else x.e24,if j=25 then v else x.e25,if j=26 then v else x.e26,if j=27 then v else x.e27,if j=28 then v else x.e28,if j=29 then v else x.e29,if j=30 then v else x.e30,if j=31 then v else x.e31,if j=32 then v else x.e32,if j=33 then v else x.e33,if j=34 then v else x.e34,if j=35 then v else x.e35,if j=36 then v else x.e36,if j=37 then v else x.e37,if j=38 then v else x.e38,if j=39 then v else x.e39⟩
def bA.zero:bA:=⟨0,0,0,0,0,0,0,0,0,0,0,0,0,0,0,0,0,0,0,0,0,0,0,0,0,0,0,0,0,0,0,0,0,0,0,0,0,0,0,0⟩
theorem bA.vset (x:bA) (v:Int):∀ (j:Nat),j<40→(x.set j v).vals=x.vals.set j v
 | 0,_=>rfl
 | 1,_=>rfl
 | 2,_=>rfl
 | 3,_=>rfl
 | 4,_=>rfl
 | 5,_=>rfl
 | 6,_=>rfl
 | 7,_=>rfl
 | 8,_=>rfl
 | 9,_=>rfl
 | 10,_=>rfl
 | 11,_=>rfl
 | 12,_=>rfl
 | 13,_=>rfl
 | 14,_=>rfl
 | 15,_=>rfl
 | 16,_=>rfl
 | 17,_=>rfl
 | 18,_=>rfl
 | 19,_=>rfl
 | 20,_=>rfl
 | 21,_=>rfl
 | 22,_=>rfl
 | 23,_=>rfl
 | 24,_=>rfl
 | 25,_=>rfl
 | 26,_=>rfl
 | 27,_=>rfl
 | 28,_=>rfl
 | 29,_=>rfl
 | 30,_=>rfl
 | 31,_=>rfl
 | 32,_=>rfl
 | 33,_=>rfl
 | 34,_=>rfl
 | 35,_=>rfl
 | 36,_=>rfl
 | 37,_=>rfl
 | 38,_=>rfl
 | 39,_=>rfl
 | n+40,h=>absurd h (by omega)
theorem bA.em (x:bA):cE x=x.vals.map (fun v=>Value.int .u8 v):=rfl
theorem bA.st {x:bA} {j:Nat} {v:Int} (h:j<40):(cE x).set j (Value.int .u8 v)=cE (x.set j v):=by rw [bA.em,bA.em,bA.vset x v j h,List.map_set]
theorem bA.at {x:bA} {j:Nat} (h:j<40):(cE x)[j]?=some (Value.int .u8 (x.get j)):=by
 have h2:x.vals[j]?=some (x.get j):=by unfold bA.get;rw [List.getD_eq_getElem?_getD,List.getElem?_eq_getElem (show j<x.vals.length from h)];rfl
 rw [bA.em,List.getElem?_map,h2];rfl
structure bL where
 number:Int
 index:Int
 deriving DecidableEq,Inhabited
def cD (x:bL):List Value:=[.int .i64 x.number,.int .i64 x.index]
structure cX where
 many:Int
 text:Bool
 do_:Option Nat
 deriving DecidableEq,Inhabited
def eD (x:cX):List Value:=[.int .i64 x.many,.bool x.text,sD x.do_]
structure dL where
 e0:Int
 e1:Int
 e2:Int
 e3:Int
 e4:Int
 e5:Int
 deriving Inhabited
def iL (x:dL):List Value:=[.int .u8 x.e0,.int .u8 x.e1,.int .u8 x.e2,.int .u8 x.e3,.int .u8 x.e4,.int .u8 x.e5]
def dL.vals (x:dL):List Int:=[x.e0,x.e1,x.e2,x.e3,x.e4,x.e5]
def dL.get (x:dL) (j:Nat):Int:=x.vals.getD j default
def dL.set (x:dL) (j:Nat) (v:Int):dL:=⟨if j=0 then v else x.e0,if j=1 then v else x.e1,if j=2 then v else x.e2,if j=3 then v else x.e3,if j=4 then v else x.e4,if j=5 then v else x.e5⟩
def dL.zero:dL:=⟨0,0,0,0,0,0⟩
theorem dL.vset (x:dL) (v:Int):∀ (j:Nat),j<6→(x.set j v).vals=x.vals.set j v
 | 0,_=>rfl
 | 1,_=>rfl
 | 2,_=>rfl
 | 3,_=>rfl
 | 4,_=>rfl
 | 5,_=>rfl
 | n+6,h=>absurd h (by omega)
theorem dL.em (x:dL):iL x=x.vals.map (fun v=>Value.int .u8 v):=rfl
theorem dL.st {x:dL} {j:Nat} {v:Int} (h:j<6):(iL x).set j (Value.int .u8 v)=iL (x.set j v):=by rw [dL.em,dL.em,dL.vset x v j h,List.map_set]
theorem dL.at {x:dL} {j:Nat} (h:j<6):(iL x)[j]?=some (Value.int .u8 (x.get j)):=by
 have h2:x.vals[j]?=some (x.get j):=by unfold dL.get;rw [List.getD_eq_getElem?_getD,List.getElem?_eq_getElem (show j<x.vals.length from h)];rfl
 rw [dL.em,List.getElem?_map,h2];rfl
structure dI where
 from_:Int
 to_:Int
 kind:Int
 until_:Int
 deriving DecidableEq,Inhabited
def dO (x:dI):List Value:=[.int .i64 x.from_,.int .i64 x.to_,.int .i64 x.kind,.int .i64 x.until_]
structure dZ where
 text:aE
 heads:List Int
 deriving DecidableEq,Inhabited
def dM:Hp→List Value→dZ→Prop:=fun H cs x=>∃ (ad0:Option Addr) (cap0:Nat),cs=[.string (bs x.text),.slice ad0 x.heads.length cap0]∧Sl (aD (bP .i64)) 1 H ad0 cap0 x.heads
theorem dM.one:mE dM:=fun _ _ _ ⟨_,_,h,_⟩=>by subst h;rfl
theorem dM.mono:gB dM:=fun _ _ _ _ hk ⟨a0,c0,h,f0⟩=>⟨a0,c0,h,f0.mono (aD.mono _) hk⟩
structure eL where
 words:List dZ
 orders:List dI
 columns:Int
 deriving DecidableEq,Inhabited
def iN:Hp→List Value→eL→Prop:=fun H cs x=>∃ (ad0:Option Addr) (cap0:Nat) (ad1:Option Addr) (cap1:Nat),cs=[.slice ad0 x.words.length cap0,.slice ad1 x.orders.length cap1,.int .i64 x.columns]∧Sl (dM) 2 H ad0 cap0 x.words∧Sl (aD dO) 4 H ad1 cap1 x.orders
theorem iN.one:mE iN:=fun _ _ _ ⟨_,_,_,_,h,_⟩=>by subst h;rfl
theorem iN.mono:gB iN:=fun _ _ _ _ hk ⟨a0,c0,a1,c1,h,f0,f1⟩=>⟨a0,c0,a1,c1,h,f0.mono (dM.mono) hk,f1.mono (aD.mono _) hk⟩
structure bG where
 e0:Bool
 e1:Bool
 e2:Bool
 e3:Bool
 e4:Bool
 e5:Bool
 e6:Bool
 e7:Bool
 e8:Bool
 e9:Bool
 e10:Bool
 e11:Bool
 e12:Bool
 e13:Bool
 e14:Bool
 e15:Bool
 e16:Bool
 e17:Bool
 e18:Bool
 e19:Bool
 e20:Bool
 e21:Bool
 e22:Bool
 e23:Bool
 e24:Bool
 e25:Bool
 e26:Bool
 e27:Bool
 e28:Bool
 e29:Bool
 e30:Bool
 e31:Bool
 e32:Bool
 e33:Bool
 e34:Bool
 e35:Bool
 e36:Bool
 e37:Bool
 e38:Bool
 e39:Bool
 e40:Bool
 e41:Bool
 e42:Bool
 e43:Bool
 e44:Bool
 e45:Bool
 e46:Bool
 e47:Bool
 e48:Bool
 e49:Bool
 e50:Bool
 e51:Bool
 e52:Bool
 e53:Bool
 e54:Bool
 e55:Bool
 e56:Bool
 e57:Bool
 e58:Bool
 e59:Bool
 deriving Inhabited
def cY (x:bG):List Value:=[.bool x.e0,.bool x.e1,.bool x.e2,.bool x.e3,.bool x.e4,.bool x.e5,.bool x.e6,.bool x.e7,.bool x.e8,.bool x.e9,.bool x.e10,.bool x.e11,.bool x.e12,.bool x.e13,.bool x.e14,.bool x.e15,.bool x.e16,.bool x.e17,.bool x.e18,.bool x.e19,.bool x.e20,.bool x.e21,.bool x.e22,.bool x.e23,.bool x.e24,.bool x.e25,.bool x.e26,.bool x.e27,.bool x.e28,.bool x.e29,.bool x.e30,.bool x.e31,.bool x.e32,.bool x.e33,.bool x.e34,.bool x.e35,.bool x.e36,.bool x.e37,.bool x.e38,.bool x.e39,.bool x.e40,.bool x.e41,.bool x.e42,.bool x.e43,.bool x.e44,.bool x.e45,.bool x.e46,.bool x.e47,.bool x.e48,.bool x.e49,.bool x.e50,.bool x.e51,.bool x.e52,.bool x.e53,.bool x.e54,.bool x.e55,.bool x.e56,.bool x.e57,.bool x.e58,.bool x.e59]
def bG.vals (x:bG):List Bool:=[x.e0,x.e1,x.e2,x.e3,x.e4,x.e5,x.e6,x.e7,x.e8,x.e9,x.e10,x.e11,x.e12,x.e13,x.e14,x.e15,x.e16,x.e17,x.e18,x.e19,x.e20,x.e21,x.e22,x.e23,x.e24,x.e25,x.e26,x.e27,x.e28,x.e29,x.e30,x.e31,x.e32,x.e33,x.e34,x.e35,x.e36,x.e37,x.e38,x.e39,x.e40,x.e41,x.e42,x.e43,x.e44,x.e45,x.e46,x.e47,x.e48,x.e49,x.e50,x.e51,x.e52,x.e53,x.e54,x.e55,x.e56,x.e57,x.e58,x.e59]
def bG.get (x:bG) (j:Nat):Bool:=x.vals.getD j default
def bG.set (x:bG) (j:Nat) (v:Bool):bG:=⟨if j=0 then v else x.e0,if j=1 then v else x.e1,if j=2 then v else x.e2,if j=3 then v else x.e3,if j=4 then v else x.e4,if j=5 then v else x.e5,if j=6 then v else x.e6,if j=7 then v else x.e7,if j=8 then v else x.e8,if j=9 then v else x.e9,if j=10 then v else x.e10,if j=11 then v else x.e11,if j=12 then v else x.e12,if j=13 then v else x.e13,if j=14 then v else x.e14,if j=15 then v else x.e15,if j=16 then v else x.e16,if j=17 then v else x.e17,if j=18 then v else x.e18,if j=19 then v else x.e19,if j=20 then v else x.e20,if j=21 then v else x.e21,if j=22 then v else x.e22,if j=23 then v else x.e23,if j=24 then v else x.e24,if j=25 then v else x.e25,if j=26 then v else x.e26,if j=27 then v else x.e27,if j=28 then v else x.e28,if j=29 then v else x.e29,if j=30 then v else x.e30,if j=31 then v else x.e31,if j=32 then v else x.e32,if j=33 then v else x.e33,if j=34 then v else x.e34,if j=35 then v else x.e35,if j=36 then v else x.e36,if j=37 then v else x.e37,if j=38 then v else x.e38,if j=39 then v else x.e39,if j=40 then v else x.e40,if j=41 then v else x.e41,if j=42 then v else x.e42,if j=43 then v else x.e43,if j=44 then v else x.e44,if j=45 then v else x.e45,if j=46 then v else x.e46,if j=47 then v else x.e47,if j=48 then v else x.e48,if j=49 then v else x.e49,if j=50 then v else x.e50,if j=51 then v else x.e51,if j=52 then v else x.e52,if j=53 then v else x.e53,if j=54 then v else x.e54,if j=55 then v else x.e55,if j=56 then v else x.e56,if j=57 then v else x.e57,if j=58 then v else x.e58,if j=59 then v else x.e59⟩
def bG.zero:bG:=⟨false,false,false,false,false,false,false,false,false,false,false,false,false,false,false,false,false,false,false,false,false,false,false,false,false,false,false,false,false,false,false,false,false,false,false,false,false,false,false,false,false,false,false,false,false,false,false,false,false,false,false,false,false,false,false,false,false,false,false,false⟩
theorem bG.vset (x:bG) (v:Bool):∀ (j:Nat),j<60→(x.set j v).vals=x.vals.set j v
 | 0,_=>rfl
 | 1,_=>rfl
 | 2,_=>rfl
 | 3,_=>rfl
 | 4,_=>rfl
 | 5,_=>rfl
 | 6,_=>rfl
 | 7,_=>rfl
 | 8,_=>rfl
 | 9,_=>rfl
 | 10,_=>rfl
 | 11,_=>rfl
 | 12,_=>rfl
 | 13,_=>rfl
 | 14,_=>rfl
 | 15,_=>rfl
 | 16,_=>rfl
 | 17,_=>rfl
 | 18,_=>rfl
 | 19,_=>rfl
 | 20,_=>rfl
 | 21,_=>rfl
 | 22,_=>rfl
 | 23,_=>rfl
 | 24,_=>rfl
 | 25,_=>rfl
 | 26,_=>rfl
 | 27,_=>rfl
 | 28,_=>rfl
 | 29,_=>rfl
 | 30,_=>rfl
 | 31,_=>rfl
 | 32,_=>rfl
 | 33,_=>rfl
 | 34,_=>rfl
 | 35,_=>rfl
 | 36,_=>rfl
 | 37,_=>rfl
 | 38,_=>rfl
 | 39,_=>rfl
 | 40,_=>rfl
 | 41,_=>rfl
 | 42,_=>rfl
 | 43,_=>rfl
 | 44,_=>rfl
 | 45,_=>rfl
 | 46,_=>rfl
 | 47,_=>rfl
 | 48,_=>rfl
 | 49,_=>rfl
 | 50,_=>rfl
 | 51,_=>rfl
 | 52,_=>rfl
 | 53,_=>rfl
 | 54,_=>rfl
 | 55,_=>rfl
 | 56,_=>rfl
 | 57,_=>rfl
 | 58,_=>rfl
 | 59,_=>rfl
 | n+60,h=>absurd h (by omega)
theorem bG.em (x:bG):cY x=x.vals.map (fun v=>Value.bool v):=rfl
theorem bG.st {x:bG} {j:Nat} {v:Bool} (h:j<60):(cY x).set j (Value.bool v)=cY (x.set j v):=by rw [bG.em,bG.em,bG.vset x v j h,List.map_set]
theorem bG.at {x:bG} {j:Nat} (h:j<60):(cY x)[j]?=some (Value.bool (x.get j)):=by
 have h2:x.vals[j]?=some (x.get j):=by unfold bG.get;rw [List.getD_eq_getElem?_getD,List.getElem?_eq_getElem (show j<x.vals.length from h)];rfl
 rw [bG.em,List.getElem?_map,h2];rfl
structure eE where
 report:eL
 reader:eV
 veil:bG
 deriving Inhabited
structure Zp3 where
 a0:Option Addr
 c0:Nat
 a1:Option Addr
 c1:Nat
 a2:Option Addr
 c2:Nat
abbrev DY (x:eE) (z:Zp3):List Value:=(gE [.slice z.a0 x.report.words.length z.c0,.slice z.a1 x.report.orders.length z.c1,.int .i64 x.report.columns,.int .i64 x.reader.year,.slice z.a2 x.reader.may.length z.c2] (cY x.veil))
structure kG (H:Hp) (x:eE) (z:Zp3):Prop where
 f0:Sl (dM) 2 H z.a0 z.c0 x.report.words
 f1:Sl (aD dO) 4 H z.a1 z.c1 x.report.orders
 f2:Sl (aD (bP .i64)) 1 H z.a2 z.c2 x.reader.may
theorem kG.mono {H K:Hp} {x:eE} {z:Zp3} (h:kG H x z) (k:H.le K):kG K x z:=⟨h.f0.mono (dM.mono) k,h.f1.mono (aD.mono _) k,h.f2.mono (aD.mono _) k⟩
theorem kG.lens {H:Hp} {x:eE} {z:Zp3} (h:kG H x z):x.report.words.length≤9223372036854775807∧x.report.orders.length≤9223372036854775807∧x.reader.may.length≤9223372036854775807:=⟨h.f0.len,h.f1.len,h.f2.len⟩
def iD:Hp→List Value→eE→Prop:=fun H cs x=>∃ z,cs=DY x z∧kG H x z
theorem iD.one:mE iD:=fun _ _ _ ⟨_,h,_⟩=>by subst h;rfl
theorem iD.mono:gB iD:=fun _ _ _ _ hk ⟨z,h,f⟩=>⟨z,h,f.mono hk⟩
structure gA where
 text:aE
 column:Int
 deriving DecidableEq,Inhabited
def gM (x:gA):List Value:=[.string (bs x.text),.int .i64 x.column]
theorem mixed:prog.follows .mixedOrders=true:=by kernel_rfl
theorem B27:cZ prog 27 [.int .i64 0,.int .i64 0,.int .i64 0,.int .i64 0,.slice none 0 0] #[(0,1),(1,1),(2,1),(3,1),(4,1)]:=⟨⟨.agg #[.int .i64 0,.int .i64 0,.int .i64 0,.int .i64 0,.slice none 0 0],rfl,zeroValue27⟩,⟨_,underlying27,fun _=>by kernel_rfl⟩⟩
theorem B32:cZ prog 32 [.slice none 0 0,.slice none 0 0] #[(0,1),(1,1)]:=⟨⟨.agg #[.slice none 0 0,.slice none 0 0],rfl,zeroValue32⟩,⟨_,underlying32,fun _=>by kernel_rfl⟩⟩
theorem B38:cZ prog 38 [.int .i64 0,.slice none 0 0,.slice none 0 0,.slice none 0 0,.slice none 0 0,.slice none 0 0,.slice none 0 0,.int .u8 0,.int .i64 0,.int .i64 0,.int .u8 0] #[(0,1),(1,2),(3,2),(5,1),(6,1),(7,1),(8,1),(9,1),(10,1)]:=⟨⟨.agg #[.int .i64 0,.slice none 0 0,.slice none 0 0,.slice none 0 0,.slice none 0 0,.slice none 0 0,.slice none 0 0,.int .u8 0,.int .i64 0,.int .i64 0,.int .u8 0],rfl,zeroValue38⟩,⟨_,underlying38,fun _=>by kernel_rfl⟩⟩
theorem B41:cZ prog 41 [.int .i64 0,.int .i64 0,.int .i64 0,.int .i64 0,.int .i64 0,.int .i64 0,.slice none 0 0,.bool false,.slice none 0 0,.slice none 0 0,.slice none 0 0,.slice none 0 0,.slice none 0 0,.bool false,.slice none 0 0,.int .i64 0,.slice none 0 0,.slice none 0 0,.slice none 0 0,.slice none 0 0,.slice none 0 0,.slice none 0 0,.int .u8 0,.int .i64 0,.int .i64 0,.int .u8 0,.bool false,.slice none 0 0] #[(0,1),(1,1),(2,5),(7,1),(8,1),(9,1),(10,1),(11,2),(13,1),(14,1),(15,11),(26,1),(27,1)]:=⟨⟨.agg #[.int .i64 0,.int .i64 0,.int .i64 0,.int .i64 0,.int .i64 0,.int .i64 0,.slice none 0 0,.bool false,.slice none 0 0,.slice none 0 0,.slice none 0 0,.slice none 0 0,.slice none 0 0,.bool false,.slice none 0 0,.int .i64 0,.slice none 0 0,.slice none 0 0,.slice none 0 0,.slice none 0 0,.slice none 0 0,.slice none 0 0,.int .u8 0,.int .i64 0,.int .i64 0,.int .u8 0,.bool false,.slice none 0 0],rfl,zeroValue41⟩,⟨_,underlying41,fun _=>by kernel_rfl⟩⟩
theorem B51:cZ prog 51 [.int .i64 0,.int .i64 0,.int .i64 0,.int .i64 0] #[(0,1),(1,1),(2,1),(3,1)]:=⟨⟨.agg #[.int .i64 0,.int .i64 0,.int .i64 0,.int .i64 0],rfl,zeroValue51⟩,⟨_,underlying51,fun _=>by kernel_rfl⟩⟩
theorem B57:cZ prog 57 [.int .i64 0,.slice none 0 0] #[(0,1),(1,1)]:=⟨⟨.agg #[.int .i64 0,.slice none 0 0],rfl,zeroValue57⟩,⟨_,underlying57,fun _=>by kernel_rfl⟩⟩
theorem B62:cZ prog 62 [.int .i64 0,.int .i64 0,.int .i64 0] #[(0,1),(1,1),(2,1)]:=⟨⟨.agg #[.int .i64 0,.int .i64 0,.int .i64 0],rfl,zeroValue62⟩,⟨_,underlying62,fun _=>by kernel_rfl⟩⟩
theorem B77:cZ prog 77 [.int .i64 0,.int .i64 0,.int .i64 0,.int .i64 0,.int .i64 0,.int .i64 0,.slice none 0 0,.bool false,.slice none 0 0,.slice none 0 0,.slice none 0 0,.slice none 0 0,.slice none 0 0,.bool false,.slice none 0 0,.int .i64 0,.slice none 0 0,.slice none 0 0,.slice none 0 0,.slice none 0 0,.slice none 0 0,.slice none 0 0,.int .u8 0,.int .i64 0,.int .i64 0,.int .u8 0,.bool false,.slice none 0 0] #[(0,28)]:=⟨⟨.agg #[.int .i64 0,.int .i64 0,.int .i64 0,.int .i64 0,.int .i64 0,.int .i64 0,.slice none 0 0,.bool false,.slice none 0 0,.slice none 0 0,.slice none 0 0,.slice none 0 0,.slice none 0 0,.bool false,.slice none 0 0,.int .i64 0,.slice none 0 0,.slice none 0 0,.slice none 0 0,.slice none 0 0,.slice none 0 0,.slice none 0 0,.int .u8 0,.int .i64 0,.int .i64 0,.int .u8 0,.bool false,.slice none 0 0],rfl,zeroValue77⟩,⟨_,underlying77,fun _=>by kernel_rfl⟩⟩
theorem B82:cZ prog 82 [.int .i64 0,.int .i64 0,.int .i64 0,.int .i64 0,.int .i64 0,.int .i64 0] #[(0,4),(4,1),(5,1)]:=⟨⟨.agg #[.int .i64 0,.int .i64 0,.int .i64 0,.int .i64 0,.int .i64 0,.int .i64 0],rfl,zeroValue82⟩,⟨_,underlying82,fun _=>by kernel_rfl⟩⟩
theorem B96:cZ prog 96 [.slice none 0 0,.slice none 0 0,.int .i64 0] #[(0,1),(1,1),(2,1)]:=⟨⟨.agg #[.slice none 0 0,.slice none 0 0,.int .i64 0],rfl,zeroValue96⟩,⟨_,underlying96,fun _=>by kernel_rfl⟩⟩
theorem B98:cZ prog 98 [.int .i64 0,.string (bs [])] #[(0,1),(1,1)]:=⟨⟨.agg #[.int .i64 0,.string (bs [])],rfl,zeroValue98⟩,⟨_,underlying98,fun _=>by kernel_rfl⟩⟩
theorem B100:cZ prog 100 [.string (bs []),.slice none 0 0] #[(0,1),(1,1)]:=⟨⟨.agg #[.string (bs []),.slice none 0 0],rfl,zeroValue100⟩,⟨_,underlying100,fun _=>by kernel_rfl⟩⟩
theorem B102:cZ prog 102 [.int .i64 0,.int .i64 0,.int .i64 0,.int .i64 0] #[(0,1),(1,1),(2,1),(3,1)]:=⟨⟨.agg #[.int .i64 0,.int .i64 0,.int .i64 0,.int .i64 0],rfl,zeroValue102⟩,⟨_,underlying102,fun _=>by kernel_rfl⟩⟩
theorem B106:cZ prog 106 [.int .i64 0,.slice none 0 0] #[(0,1),(1,1)]:=⟨⟨.agg #[.int .i64 0,.slice none 0 0],rfl,zeroValue106⟩,⟨_,underlying106,fun _=>by kernel_rfl⟩⟩
theorem B108:cZ prog 108 [.string (bs []),.int .i64 0] #[(0,1),(1,1)]:=⟨⟨.agg #[.string (bs []),.int .i64 0],rfl,zeroValue108⟩,⟨_,underlying108,fun _=>by kernel_rfl⟩⟩
theorem B119:cZ prog 119 [.int .i64 0,.int .i64 0,.int .u8 0,.int .i64 0,.string (bs []),.int .i64 0] #[(0,1),(1,1),(2,1),(3,1),(4,1),(5,1)]:=⟨⟨.agg #[.int .i64 0,.int .i64 0,.int .u8 0,.int .i64 0,.string (bs []),.int .i64 0],rfl,zeroValue119⟩,⟨_,underlying119,fun _=>by kernel_rfl⟩⟩
theorem B127:cZ prog 127 [.int .i64 0,.int .i64 0,.int .i64 0,.int .i64 0,.slice none 0 0,.slice none 0 0] #[(0,5),(5,1)]:=⟨⟨.agg #[.int .i64 0,.int .i64 0,.int .i64 0,.int .i64 0,.slice none 0 0,.slice none 0 0],rfl,zeroValue127⟩,⟨_,underlying127,fun _=>by kernel_rfl⟩⟩
theorem B130:cZ prog 130 [.int .i64 0,.string (bs []),.bool false] #[(0,2),(2,1)]:=⟨⟨.agg #[.int .i64 0,.string (bs []),.bool false],rfl,zeroValue130⟩,⟨_,underlying130,fun _=>by kernel_rfl⟩⟩
theorem B132:cZ prog 132 [.int .i64 0,.slice none 0 0] #[(0,1),(1,1)]:=⟨⟨.agg #[.int .i64 0,.slice none 0 0],rfl,zeroValue132⟩,⟨_,underlying132,fun _=>by kernel_rfl⟩⟩
theorem B144:qM prog 144 4 (cY bG.zero) 1:=⟨⟨.agg (cY bG.zero).toArray,rfl,zeroValue144⟩,⟨_,underlying144⟩,sizeOf4⟩
theorem B146:cZ prog 146 (gE [.slice none 0 0,.slice none 0 0,.int .i64 0,.int .i64 0,.slice none 0 0] (cY bG.zero)) #[(0,3),(3,2),(5,60)]:=⟨⟨.agg (gE [.slice none 0 0,.slice none 0 0,.int .i64 0,.int .i64 0,.slice none 0 0] (cY bG.zero)).toArray,rfl,zeroValue146⟩,⟨_,underlying146,fun _=>by kernel_rfl⟩⟩
theorem B155:cZ prog 155 [.int .i64 0] #[(0,1)]:=⟨⟨.agg #[.int .i64 0],rfl,zeroValue155⟩,⟨_,underlying155,fun _=>by kernel_rfl⟩⟩
theorem B160:cZ prog 160 [.int .i64 0,.bool false,.nilFunc] #[(0,1),(1,1),(2,1)]:=⟨⟨.agg #[.int .i64 0,.bool false,.nilFunc],rfl,zeroValue160⟩,⟨_,underlying160,fun _=>by kernel_rfl⟩⟩
theorem B171:cZ prog 171 [.nilFunc] #[(0,1)]:=⟨⟨.agg #[.nilFunc],rfl,zeroValue171⟩,⟨_,underlying171,fun _=>by kernel_rfl⟩⟩
theorem B227:cZ prog 227 [.int .i64 0,.int .i64 0] #[(0,1),(1,1)]:=⟨⟨.agg #[.int .i64 0,.int .i64 0],rfl,zeroValue227⟩,⟨_,underlying227,fun _=>by kernel_rfl⟩⟩
theorem B234:cZ prog 234 [.int .i64 0,.int .i64 0,.int .i64 0,.int .i64 0,.slice none 0 0] #[(0,1),(1,1),(2,1),(3,1),(4,1)]:=⟨⟨.agg #[.int .i64 0,.int .i64 0,.int .i64 0,.int .i64 0,.slice none 0 0],rfl,zeroValue234⟩,⟨_,underlying234,fun _=>by kernel_rfl⟩⟩
theorem B271:cZ prog 271 (gE (gE [.int .i64 0,.slice none 0 0,.slice none 0 0,.slice none 0 0,.slice none 0 0,.slice none 0 0,.slice none 0 0,.int .u8 0,.int .i64 0,.int .i64 0,.int .u8 0] (bM bF.zero)) (kB (List.replicate 40 ((none,0):gD)) (List.replicate 40 ([]:List UInt8)))) #[(0,11),(11,40),(51,40)]:=⟨⟨.agg (gE (gE [.int .i64 0,.slice none 0 0,.slice none 0 0,.slice none 0 0,.slice none 0 0,.slice none 0 0,.slice none 0 0,.int .u8 0,.int .i64 0,.int .i64 0,.int .u8 0] (bM bF.zero)) (kB (List.replicate 40 ((none,0):gD)) (List.replicate 40 ([]:List UInt8)))).toArray,rfl,zeroValue271⟩,⟨_,underlying271,fun _=>by kernel_rfl⟩⟩
theorem B278:qM prog 278 5 (cE bA.zero) 1:=⟨⟨.agg (cE bA.zero).toArray,rfl,zeroValue278⟩,⟨_,underlying278⟩,sizeOf5⟩
theorem B292:cZ prog 292 [.int .i64 0,.nilFunc] #[(0,1),(1,1)]:=⟨⟨.agg #[.int .i64 0,.nilFunc],rfl,zeroValue292⟩,⟨_,underlying292,fun _=>by kernel_rfl⟩⟩
theorem B298:cZ prog 298 [.int .i64 0,.int .i64 0] #[(0,1),(1,1)]:=⟨⟨.agg #[.int .i64 0,.int .i64 0],rfl,zeroValue298⟩,⟨_,underlying298,fun _=>by kernel_rfl⟩⟩
theorem B332:cZ prog 332 [.nilFunc] #[(0,1)]:=⟨⟨.agg #[.nilFunc],rfl,zeroValue332⟩,⟨_,underlying332,fun _=>by kernel_rfl⟩⟩
theorem E22:dD prog 22 9 [.string (bs [])] 1 16:=⟨underlying22,⟨_,.string (bs []),dV type9,rfl,rfl,rfl,rfl⟩,rfl,by decide⟩
theorem E25:dD prog 25 132 [.int .i64 0,.slice none 0 0] 2 32:=⟨underlying25,⟨_,.agg #[.int .i64 0,.slice none 0 0],dV type132,rfl,rfl,rfl,rfl⟩,rfl,by decide⟩
theorem E28:dD prog 28 119 [.int .i64 0,.int .i64 0,.int .u8 0,.int .i64 0,.string (bs []),.int .i64 0] 6 56:=⟨underlying28,⟨_,.agg #[.int .i64 0,.int .i64 0,.int .u8 0,.int .i64 0,.string (bs []),.int .i64 0],dV type119,rfl,rfl,rfl,rfl⟩,rfl,by decide⟩
theorem E29:dD prog 29 62 [.int .i64 0,.int .i64 0,.int .i64 0] 3 24:=⟨underlying29,⟨_,.agg #[.int .i64 0,.int .i64 0,.int .i64 0],dV type62,rfl,rfl,rfl,rfl⟩,rfl,by decide⟩
theorem E30:dD prog 30 234 [.int .i64 0,.int .i64 0,.int .i64 0,.int .i64 0,.slice none 0 0] 5 56:=⟨underlying30,⟨_,.agg #[.int .i64 0,.int .i64 0,.int .i64 0,.int .i64 0,.slice none 0 0],dV type234,rfl,rfl,rfl,rfl⟩,rfl,by decide⟩
theorem E33:dD prog 33 3 [.int .i64 0] 1 8:=⟨underlying33,⟨_,.int .i64 0,dV type3,rfl,rfl,rfl,rfl⟩,rfl,by decide⟩
theorem E35:dD prog 35 227 [.int .i64 0,.int .i64 0] 2 16:=⟨underlying35,⟨_,.agg #[.int .i64 0,.int .i64 0],dV type227,rfl,rfl,rfl,rfl⟩,rfl,by decide⟩
theorem E39:dD prog 39 5 [.int .u8 0] 1 1:=⟨underlying39,⟨_,.int .u8 0,dV type5,rfl,rfl,rfl,rfl⟩,rfl,by decide⟩
theorem E42:dD prog 42 43 [.int .i64 0] 1 8:=⟨underlying42,⟨_,.int .i64 0,dV type43,rfl,rfl,rfl,rfl⟩,rfl,by decide⟩
theorem E79:dD prog 79 82 [.int .i64 0,.int .i64 0,.int .i64 0,.int .i64 0,.int .i64 0,.int .i64 0] 6 48:=⟨underlying79,⟨_,.agg #[.int .i64 0,.int .i64 0,.int .i64 0,.int .i64 0,.int .i64 0,.int .i64 0],dV type82,rfl,rfl,rfl,rfl⟩,rfl,by decide⟩
theorem E91:dD prog 91 98 [.int .i64 0,.string (bs [])] 2 24:=⟨underlying91,⟨_,.agg #[.int .i64 0,.string (bs [])],dV type98,rfl,rfl,rfl,rfl⟩,rfl,by decide⟩
theorem E93:dD prog 93 100 [.string (bs []),.slice none 0 0] 2 40:=⟨underlying93,⟨_,.agg #[.string (bs []),.slice none 0 0],dV type100,rfl,rfl,rfl,rfl⟩,rfl,by decide⟩
theorem E94:dD prog 94 102 [.int .i64 0,.int .i64 0,.int .i64 0,.int .i64 0] 4 32:=⟨underlying94,⟨_,.agg #[.int .i64 0,.int .i64 0,.int .i64 0,.int .i64 0],dV type102,rfl,rfl,rfl,rfl⟩,rfl,by decide⟩
theorem E103:dD prog 103 108 [.string (bs []),.int .i64 0] 2 24:=⟨underlying103,⟨_,.agg #[.string (bs []),.int .i64 0],dV type108,rfl,rfl,rfl,rfl⟩,rfl,by decide⟩
theorem E125:dD prog 125 128 [.slice none 0 0] 1 24:=⟨underlying125,⟨_,.slice none 0 0,dV type128,rfl,rfl,rfl,rfl⟩,rfl,by decide⟩
theorem E128:dD prog 128 130 [.int .i64 0,.string (bs []),.bool false] 3 32:=⟨underlying128,⟨_,.agg #[.int .i64 0,.string (bs []),.bool false],dV type130,rfl,rfl,rfl,rfl⟩,rfl,by decide⟩
theorem E172:dD prog 172 171 [.nilFunc] 1 8:=⟨underlying172,⟨_,.agg #[.nilFunc],dV type171,rfl,rfl,rfl,rfl⟩,rfl,by decide⟩
theorem E235:dD prog 235 298 [.int .i64 0,.int .i64 0] 2 16:=⟨underlying235,⟨_,.agg #[.int .i64 0,.int .i64 0],dV type298,rfl,rfl,rfl,rfl⟩,rfl,by decide⟩
theorem E288:dD prog 288 292 [.int .i64 0,.nilFunc] 2 16:=⟨underlying288,⟨_,.agg #[.int .i64 0,.nilFunc],dV type292,rfl,rfl,rfl,rfl⟩,rfl,by decide⟩
theorem E326:dD prog 326 20 [.nilIface] 1 16:=⟨underlying326,⟨_,.nilIface,dV type20,rfl,rfl,rfl,rfl⟩,rfl,by decide⟩
theorem E333:dD prog 333 332 [.nilFunc] 1 8:=⟨underlying333,⟨_,.agg #[.nilFunc],dV type332,rfl,rfl,rfl,rfl⟩,rfl,by decide⟩
end T12
namespace Go.Proofs
open Go Go.Shelf Go.RowKit Pk
theorem nN {w:World} {q:Addr} {vs:List Value} (h:aN (hp w) q vs) (hv:0<vs.length):∃ cs t z,w.heap[q.block]?=some (.cells cs t z)∧cs.size≠0:=by
 obtain ⟨c,t,z,h3,h4⟩:=h.2 0 _ (List.getElem?_eq_getElem hv);refine ⟨c,t,z,h3,fun h0=>?_⟩;have:=(Array.getElem?_eq_some_iff.1 h4).1;omega
theorem nO {P:Program} (w:World) (tS tR e:TypeId) (ht:P.underlying tS=some (.slice e)) (size:Nat) (hz:∀ w,(Go.sizeOf e).run P w=.ok size w) (a b:Addr) (la ca lb cb:Nat) (hne:a.block≠b.block)
  {ca':Array Value} {ta:TypeId} {za:Nat×Nat} (ha:w.heap[a.block]?=some (.cells ca' ta za)) (ha0:ca'.size≠0) {cur:Array Value} {te:TypeId} (hb:w.heap[b.block]?=some (.cells cur te (0,0))) (hc:cur.size≠0) :
  (Extern.SlicesOverlaps.overlaps #[tS,tS] #[tR] #[.slice (some a) la ca,.slice (some b) lb cb]).run P w=.ok (.bool false) w:=by
 have hnb:(a.block != b.block)=true:=by simpa using hne
 have hnb':(a.block==b.block)=false:=by simpa using hne
 have hf:∀ x:Addr,x.block=b.block→w.frozen? x=false:=fun x hx=>by simp [World.frozen?,hx,hb]
 have hsb:w.shape? b.block=some (te,cur.size):=by simp [World.shape?,hb]
 have hva:w.shape? a.block=some (ta,ca'.size):=by simp [World.shape?,ha]
 change Sem.run P (α:=Value) (do
  let some t := (#[tS, tS] : Array TypeId)[0]? | stuck "slices.overlaps: no parameter types"
  let .slice elem ← underlying t | stuck "slices.overlaps: slice type expected"
  let size ← sizeOf elem
  match (some a:Option Addr),(some b:Option Addr) with
  | some a,some b =>
   if la=0∨lb=0∨size=0 then pure (Value.bool false)
   else if a.block != b.block&&(← frozen a)&&(← frozen b) then unsupported .addressObserved
   else do
    if a.block != b.block then do
     noView a;noView b
     if ← mayBeOne a b then return Value.bool ((← choose (.extern "sameAddr.stringBytes" 2)) == 1)
    pure (Value.bool (a.block==b.block&&a.off<b.off+lb*size&&b.off<a.off+la*size))
  | _,_=>pure (Value.bool false)) w=_
 by_cases h0:la=0∨lb=0∨size=0
 ·simp [run_underlying ht,hz,h0]
 have e1:=hf b rfl;have e2:=hf { block:=b.block,off:=cur.size } rfl;have e3:(match some (te,cur.size) with|some (_,0)=>true|_=>false)=false:=by
  cases h:cur.size with
  | zero=>exact absurd h hc
  | succ n=>rfl
 have e4:(match some (ta,ca'.size) with|some (_,0)=>true|_=>false)=false:=by
  cases h:ca'.size with
  | zero=>exact absurd h ha0
  | succ n=>rfl
 cases hfa:w.frozen? a <;> cases hfe:w.frozen? { block:=a.block,off:=ca'.size } <;>
  simp [run_underlying ht,hz,h0,hnb,hnb',frozen,noView,viewAt,mayBeOne,stringish,shape,Sem.run,hva,hsb,e1,e2,hfa,hfe,hc,e4,ha0]
theorem hU {P:Program} (w:World) (t ty el k:Nat) (hu:P.underlying t=some (.slice el)) (hz:∀ w,(Go.sizeOf el).run P w=.ok k w) (b o dLen dCap:Nat) (a:Addr) (sLen sCap:Nat) (cs:List Value) {cur:Array Value} {te:TypeId} (hb:w.heap[b]?=some (.cells cur te (0,0)))
  (hn:cs.length=Nat.min sLen dLen*k) (hsrc:∀ j v,cs[j]?=some v→w.cell? (a.add j)=some v) (hfit:o+cs.length≤cur.size) (h1:∀ v∈cs,v.oneCell'=true) :
  (Builtin.copy_ #[t,t] ty #[.slice (some ⟨b,o,none⟩) dLen dCap,.slice (some a) sLen sCap]).run P w=.ok (goInt (Nat.min sLen dLen)) (w.setRow b (cur.toList.take o++cs++cur.toList.drop (o+cs.length)).toArray):=by
 have hl:=run_loadCells_list (P:=P) (w:=w) a cs hsrc;have hst:=run_storeCells_at P b o te cs 0 cur w hb (by simpa using hfit) h1;rw [hn] at hl;simp [Builtin.copy_,run_underlying hu,Builtin.lenOf,Builtin.firstCells,hz,hl];simp at hst;rw [hst];rfl
set_option maxHeartbeats 4000000 in
set_option maxRecDepth 100000 in
theorem Tryz.ins_end {w:World} {ad:Option Addr} {cap nn:Nat} {cs:List Value} {q:Addr} {vcap:Nat} {vs:List Value} (hr:(aP.row ad cap 130 3 nn cs).holds w) (hb:nn+1≤1073741824) (hv:aN (hp w) q vs) (hvl:vs.length=3) (h1:vs.all (·.oneCell')=true) :
  Calls Tryz.prog 112 #[.slice ad nn cap,.int .i64 nn,.slice (some q) 1 vcap] w fun e w'=>∃ ad' cap',e=.returned (.slice ad' (nn+1) cap')∧(aP.row ad' cap' 130 3 (nn+1) (cs++vs)).holds w'∧lE w w' (ad.map (·.block))∧∀ b,ad'.map (·.block)=some b→ad.map (·.block)=some b∨w.heap.size≤b:=by
 obtain ⟨ad',cap',w',hrun,hh,hg,hf⟩:=mL (P:=Tryz.prog) 128 T12.E128 hr (sad:=some q) (m:=1) (c:=vcap) (news:=vs) ⟨by omega,h1,.inr ⟨q,rfl,hv⟩⟩ (by unfold maxLen;omega) (by omega);have hd:=oF _ hrun;have hcap:=(jS hr).2;refine Calls.mono (R:=fun e w''=>e=.returned (.slice ad' (nn+1) cap')∧w''=w') ?_ fun e w'' hw=>by
  obtain ⟨rfl,rfl⟩:=hw;exact ⟨ad',cap',rfl,hh,⟨hg,hd⟩,hf⟩
 clear hf hh hg hd hr hv h1;by_cases hc:cap=nn
 ·subst hc
  go_enter Tryz.func112,Tryz.ntmps112
  go_wp2_with (at_builtin;refine Lib.wpList_append_run _ rfl _ _ _ _ rfl _ _ rfl rfl _ _ hrun ?_)
  go_ret
  exact ⟨rfl,rfl⟩
 go_enter Tryz.func112,Tryz.ntmps112
 go_wp2_with (at_builtin;refine Lib.wpList_append_run _ rfl _ _ _ _ rfl _ _ rfl rfl _ _ hrun ?_)
 go_ret
 exact ⟨rfl,rfl⟩
theorem hY {w:World} {b:Nat} {cur:Array Value} {t:TypeId} {z:Nat×Nat} (h:w.heap[b]?=some (.cells cur t z)) {j:Nat} {v:Value} (hv:cur.toList[j]?=some v):w.cell? ⟨b,j,none⟩=some v:=by
 rw [Array.getElem?_toList] at hv;simp [World.cell?,h,hv]
theorem kH (b o i:Nat):(⟨b,o,none⟩:Addr).add i=⟨b,o+i,none⟩:=eA (ad:=⟨b,o,none⟩) rfl i
set_option maxHeartbeats 4000000 in
set_option maxRecDepth 100000 in
theorem Tryz.ins_room {w:World} {b cap nn j:Nat} {cs:List Value} {q:Addr} {vcap:Nat} {vs:List Value} {cur:Array Value} (hw:w.heap[b]?=some (.cells cur 130 (0,0))) (hcs:cur.size=cap*3) (ht:cur.toList.take (nn*3)=cs) (hcm:cap≤9223372036854775807) (hj:j<nn) (hroom:nn+1≤cap) (hb:nn+1≤1073741824) (hv:aN (hp w) q vs) (hvl:vs.length=3) (h1:vs.all (·.oneCell')=true) (h2:cs.all (·.oneCell')=true) (hne:b≠q.block) :
  Calls Tryz.prog 112 #[.slice (some ⟨b,0,none⟩) nn cap,.int .i64 j,.slice (some q) 1 vcap] w fun e w'=>e=.returned (.slice (some ⟨b,0,none⟩) (nn+1) cap)∧w'=(w.drew.setRow b (cur.toList.take ((j+1)*3)++cs.drop (j*3)++cur.toList.drop ((nn+1)*3)).toArray).setRow b (cs.take (j*3)++vs++cs.drop (j*3)++cur.toList.drop ((nn+1)*3)).toArray:=by
 obtain ⟨c0,t0,z0,hq0,hq1⟩:=nN hv (by omega);have hcl:cs.length=nn*3:=by rw [← ht,List.length_take,Array.length_toList,hcs];omega
 have hcur:cur.toList=cs++cur.toList.drop (nn*3):=by rw [← ht,List.take_append_drop]
 have hov:∀ lb cb,(callFunc 156 #[.slice (some q) 1 vcap,.slice (some ⟨b,(j+1)*3,none⟩) lb cb]).run Tryz.prog w=.ok (.value (.bool false)) w:=fun lb cb=>by
  rw [run_callFunc_extern Tryz.func156 (by kernel_rfl) (by kernel_rfl) (by kernel_rfl) (e:=Extern.SlicesOverlaps.overlaps #[128,128] #[4]) (by kernel_rfl),
   nO w 128 4 130 Tryz.underlying128 3 Tryz.sizeOf130 q ⟨b,(j+1)*3,none⟩ 1 vcap lb cb (fun e=>hne e.symm) hq0 hq1 hw (by omega)]
  rfl
 have hcp1:∀ ty dc sc,(Builtin.copy_ #[128,128] ty #[.slice (some ⟨b,(j+1)*3,none⟩) (nn-j) dc,.slice (some ⟨b,j*3,none⟩) (nn+1-j) sc]).run Tryz.prog w.drew=.ok (goInt (Nat.min (nn+1-j) (nn-j))) (w.drew.setRow b (cur.toList.take ((j+1)*3)++cs.drop (j*3)++cur.toList.drop ((nn+1)*3)).toArray):=fun ty dc sc=>by
  have hl:(cs.drop (j*3)).length=Nat.min (nn+1-j) (nn-j)*3:=by
   rw [List.length_drop,hcl,show Nat.min (nn+1-j) (nn-j)=nn-j by simp only [Nat.min_def];split <;> omega,Nat.sub_mul]
  have:=hU (P:=Tryz.prog) w.drew 128 ty 130 3 Tryz.underlying128 Tryz.sizeOf130 b ((j+1)*3) (nn-j) dc ⟨b,j*3,none⟩ (nn+1-j) sc (cs.drop (j*3)) (cur:=cur) hw hl (fun i v hi=>by
   rw [kH];refine hY (w:=w.drew) hw ?_;rw [hcur,List.getElem?_append_left (by rw [List.getElem?_drop] at hi;exact (List.getElem?_eq_some_iff.1 hi).1)]
   rwa [List.getElem?_drop] at hi) (by rw [List.length_drop,hcl,hcs];omega) (fun v hv=>List.all_eq_true.1 h2 v (List.mem_of_mem_drop hv))
  rw [this,show (j+1)*3+(cs.drop (j*3)).length=(nn+1)*3 by rw [List.length_drop,hcl];omega]
 obtain ⟨X1,hX1⟩:∃ X1:List Value,X1=cur.toList.take ((j+1)*3)++cs.drop (j*3)++cur.toList.drop ((nn+1)*3):=⟨_,rfl⟩;rw [← hX1] at hcp1 ⊢;obtain ⟨W1,hW1⟩:∃ W1,W1=w.drew.setRow b X1.toArray:=⟨_,rfl⟩;rw [← hW1] at hcp1 ⊢;have hw1:W1.heap[b]?=some (.cells X1.toArray 130 (0,0)):=by rw [hW1];exact setRow_heap w.drew b cur X1.toArray 130 (0,0) hw
 have hX1l:X1.length=cap*3:=by rw [hX1];simp only [List.length_append,List.length_take,List.length_drop,Array.length_toList,hcs,hcl];omega
 have hlen1:(cur.toList.take ((j+1)*3)).length=(j+1)*3:=by rw [List.length_take,Array.length_toList,hcs];omega
 have hcp2:∀ ty dc,(Builtin.copy_ #[128,128] ty #[.slice (some ⟨b,j*3,none⟩) (nn+1-j) dc,.slice (some q) 1 vcap]).run Tryz.prog W1=.ok (goInt (Nat.min 1 (nn+1-j))) (W1.setRow b (cs.take (j*3)++vs++cs.drop (j*3)++cur.toList.drop ((nn+1)*3)).toArray):=fun ty dc=>by
  have hm:Nat.min 1 (nn+1-j)=1:=by simp only [Nat.min_def];split <;> omega
  have:=hU (P:=Tryz.prog) W1 128 ty 130 3 Tryz.underlying128 Tryz.sizeOf130 b (j*3) (nn+1-j) dc q 1 vcap vs (cur:=X1.toArray) hw1 (by rw [hvl,hm]) (fun i v hi=>by
   have h0:=hv.cell hi;have hsp:(q.add i).block=q.block:=by unfold Addr.add;split <;> rfl
   rw [hW1];unfold World.cell? at h0 ⊢;rw [show (w.drew.setRow b X1.toArray).heap[(q.add i).block]?=w.heap[(q.add i).block]? from setRow_other w.drew b _ _ (by rw [hsp];exact fun e=>hne e.symm)]
   exact h0) (by rw [hvl,List.size_toArray,hX1l];omega) (fun v hv=>List.all_eq_true.1 h1 v hv)
  rw [this,hvl];congr 3;have e1:X1.take (j*3)=cs.take (j*3):=by
   rw [hX1,List.append_assoc,List.take_append_of_le_length (by rw [hlen1];omega),List.take_take,show min (j*3) ((j+1)*3)=j*3 by omega,← ht,List.take_take,show min (j*3) (nn*3)=j*3 by omega]
  have e2:X1.drop (j*3+3)=cs.drop (j*3)++cur.toList.drop ((nn+1)*3):=by
   rw [hX1,show j*3+3=(j+1)*3 by omega,List.append_assoc,List.drop_append_of_le_length (by rw [hlen1];omega),List.drop_of_length_le (by rw [hlen1];omega),List.nil_append]
  simp only [List.toList_toArray,e1,e2,List.append_assoc]
 have hz2:¬((j:Int)=(nn:Int)):=by omega
 have hw2:IntKind.i64.wrap ((j:Int)+1)=(j:Int)+1:=by rw [IntKind.wrap_i64];omega
 have hw3:IntKind.i64.wrap ((nn:Int)+1)=(nn:Int)+1:=by rw [IntKind.wrap_i64];omega
 have htn:((j:Int)+1).toNat=j+1:=by omega
 have htn2:((nn:Int)+1).toNat=nn+1:=by omega
 have hb1:(0:Int)≤(j:Int)+1:=by omega
 have hb2:¬(cap=j+1):=by omega
 have hb4:¬(cap=j):=by omega
 have hb3:(j:Int)≤(nn:Int)+1:=by omega
 have hin:j≤nn:=by omega
 have hro:¬((cap:Int)<(nn:Int)+1):=by omega
 clear hX1 hcur ht;have mixed:=T12.mixed;clear hw1;subst hW1
 go_enter Tryz.func112,Tryz.ntmps112
 go_wp2_with (simp only [hov])
 go_region_law_o (refine step_copy_runI rfl _ _ 128 128 rfl _ _ (by simp [Act.eval,Act.put]) (by simp [Act.eval,Act.put]) (hcp1 _ _ _) ?_)
 go_wp2_with (at_builtin;refine wpList_copy_runI _ rfl _ _ 128 128 rfl _ _ rfl rfl (hcp2 _ _) ?_)
 go_ret
 exact ⟨rfl,by simp only [List.append_assoc]⟩
set_option maxHeartbeats 4000000 in
set_option maxRecDepth 100000 in
theorem Tryz.ins_grow {w:World} {b cap nn j:Nat} {cs:List Value} {q:Addr} {vcap:Nat} {vs:List Value} {cur:Array Value} (hw:w.heap[b]?=some (.cells cur 130 (0,0))) (hcs:cur.size=cap*3) (ht:cur.toList.take (nn*3)=cs) (hnc:nn≤cap) (hj:j<nn) (hroom:cap<nn+1) (hb:nn+1≤1073741824) (hv:aN (hp w) q vs) (hvl:vs.length=3) (h1:vs.all (·.oneCell')=true) (h2:cs.all (·.oneCell')=true) :
  Calls Tryz.prog 112 #[.slice (some ⟨b,0,none⟩) nn cap,.int .i64 j,.slice (some q) 1 vcap] w fun e w'=>∃ (G:Nat) (X:List Value),nn+1≤G∧G≤maxLen∧X.length=G*3∧X.take ((nn+1)*3)=cs.take (j*3)++vs++cs.drop (j*3)∧e=.returned (.slice (some ⟨w.heap.size,0,none⟩) (nn+1) G)∧∃ Y Z m,w'=(((w.alloc (.cells Y 130)).drewN m).setRow w.heap.size Z).setRow w.heap.size X.toArray:=by
 obtain ⟨i0,v0,hi0,hz0,hzv,hzs,hzb⟩:=T12.E128.info;have hzc:v0.cells.size=3:=by rw [gQ,hzv];rfl
 have hcl:cs.length=nn*3:=by rw [← ht,List.length_take,Array.length_toList,hcs];omega
 have hcur:cur.toList=cs++cur.toList.drop (nn*3):=by rw [← ht,List.take_append_drop]
 have hold:(Builtin.firstCells i0.size j (.slice (some ⟨b,0,none⟩) j cap)).run Tryz.prog w.drew=.ok (cs.take (j*3)).toArray w.drew:=by
  rw [hzs];refine run_firstCells_some (w:=w.drew) 3 j ⟨b,0,none⟩ j cap (cs.take (j*3)) (by rw [List.length_take,hcl];omega) (fun i v hi=>?_);rw [kH,Nat.zero_add];refine hY (w:=w.drew) hw ?_;rw [List.getElem?_take] at hi
  split at hi
  ·rw [hcur,List.getElem?_append_left (by rw [hcl];omega)];exact hi
  cases hi
 have hik:j+(nn+1-j)=nn+1:=by omega
 have hkk:(nn:Int)+1-(j:Int)=((nn+1-j:Nat):Int):=by omega
 obtain ⟨G,hG⟩:∃ G,G=grownCap w (nn+1) cap 130:=⟨_,rfl⟩;have hGn:nn+1≤G:=by rw [hG];exact grownCap_ge w _ _ _
 have hGm:G≤maxLen:=by rw [hG];exact grownCap_le_maxLen w (nn+1) cap 130 (by unfold maxLen;omega)
 obtain ⟨R,hR⟩:∃ R:Array Value,R=(cs.take (j*3)).toArray++Builtin.zeroCells v0.cells (nn+1-j)++Builtin.zeroCells v0.cells (G-(nn+1)):=⟨_,rfl⟩;have hRs:R.size=G*3:=by
  rw [hR];simp only [Array.size_append,List.size_toArray,List.length_take,hcl,Builtin.zeroCells,Array.size_map,Array.size_range,hzc];omega
 have hRt:R.toList.take (j*3)=cs.take (j*3):=by
  rw [hR,Array.toList_append,Array.toList_append,List.append_assoc,List.take_append_of_le_length (by simp [hcl];omega)];simp only [List.toList_toArray,List.take_take,Nat.min_self]
 have hrz:∀ ty,(Builtin.append_ #[128,3] ty #[.slice (some ⟨b,0,none⟩) j cap,.int .i64 ((nn:Int)+1-(j:Int))]).run Tryz.prog w=.ok (.slice (some ⟨w.heap.size,0,none⟩) (nn+1) G) (w.drew.alloc (.cells R 130)):=fun ty=>by
  have h:=Lib.run_append_grow_zeros w 128 3 ty 130 i0 _ .i64 .i64 Tryz.underlying128 Tryz.underlying3 hi0 hz0 (some ⟨b,0,none⟩) j cap (cs.take (j*3)) hold (nn+1-j) (by omega) (by rw [hzs];decide) (by omega) (by omega) (by rw [hzb];omega) (by rw [hzb,hik];exact growslice_fits hroom (by omega));rw [hik] at h;rw [hkk,hR,hG];exact h
 have hN:(w.drew.alloc (.cells R 130)).heap[w.heap.size]?=some (.cells R 130 (0,0)):=dQ w.drew _;have hbw:b<w.heap.size:=(Array.getElem?_eq_some_iff.1 hw).1;obtain ⟨X1,hX1⟩:∃ X1:List Value,X1=cs.take (j*3)++vs++R.toList.drop ((j+1)*3):=⟨_,rfl⟩;obtain ⟨X2,hX2⟩:∃ X2:List Value,X2=cs.take (j*3)++vs++cs.drop (j*3)++R.toList.drop ((nn+1)*3):=⟨_,rfl⟩;have hct:(cs.take (j*3)).length=j*3:=by rw [List.length_take,hcl];omega
 have hX1l:X1.length=G*3:=by rw [hX1];simp only [List.length_append,hct,hvl,List.length_drop,Array.length_toList,hRs];omega
 have hX2l:X2.length=G*3:=by rw [hX2];simp only [List.length_append,hct,hvl,List.length_drop,Array.length_toList,hRs,hcl];omega
 have hqn:∀ i,(q.add i).block=q.block:=fun i=>by unfold Addr.add;split <;> rfl
 obtain ⟨c0,t0,z0,hq0,_⟩:=nN hv (by omega);have hqw:q.block<w.heap.size:=(Array.getElem?_eq_some_iff.1 hq0).1;have hcpA:∀ (m:Nat) ty dc,(Builtin.copy_ #[128,128] ty #[.slice (some ⟨w.heap.size,j*3,none⟩) (nn+1-j) dc,.slice (some q) 1 vcap]).run Tryz.prog ((w.alloc (.cells R 130)).drewN m)=.ok (goInt (Nat.min 1 (nn+1-j))) (((w.alloc (.cells R 130)).drewN m).setRow w.heap.size X1.toArray):=fun m ty dc=>by
  have hm:Nat.min 1 (nn+1-j)=1:=by simp only [Nat.min_def];split <;> omega
  have:=hU (P:=Tryz.prog) ((w.alloc (.cells R 130)).drewN m) 128 ty 130 3 Tryz.underlying128 Tryz.sizeOf130 w.heap.size (j*3) (nn+1-j) dc q 1 vcap vs (cur:=R) (te:=130) (dQ w _) (by rw [hvl,hm]) (fun i v hi=>by
   have h0:=hv.cell hi;unfold World.cell? at h0 ⊢;rw [show ((w.alloc (.cells R 130)).drewN m).heap[(q.add i).block]?=w.heap[(q.add i).block]? from (gP.alloc True w (.cells R 130)).keep _ (by rw [hqn];exact hqw)]
   exact h0) (by rw [hvl,hRs];omega) (fun v hv=>List.all_eq_true.1 h1 v hv)
  rw [this,hvl,hRt,hX1,show j*3+3=(j+1)*3 by omega]
 have hcpB:∀ (m:Nat) ty dc sc,(Builtin.copy_ #[128,128] ty #[.slice (some ⟨w.heap.size,(j+1)*3,none⟩) (nn-j) dc,.slice (some ⟨b,j*3,none⟩) (nn-j) sc]).run Tryz.prog (((w.alloc (.cells R 130)).drewN m).setRow w.heap.size X1.toArray)=.ok (goInt (Nat.min (nn-j) (nn-j))) ((((w.alloc (.cells R 130)).drewN m).setRow w.heap.size X1.toArray).setRow w.heap.size X2.toArray):=fun m ty dc sc=>by
  have hm:Nat.min (nn-j) (nn-j)=nn-j:=Nat.min_self _;have hl:(cs.drop (j*3)).length=Nat.min (nn-j) (nn-j)*3:=by rw [hm,List.length_drop,hcl,Nat.sub_mul]
  have:=hU (P:=Tryz.prog) (((w.alloc (.cells R 130)).drewN m).setRow w.heap.size X1.toArray) 128 ty 130 3 Tryz.underlying128 Tryz.sizeOf130 w.heap.size ((j+1)*3) (nn-j) dc ⟨b,j*3,none⟩ (nn-j) sc (cs.drop (j*3)) (cur:=X1.toArray) (te:=130) (setRow_heap _ _ R X1.toArray 130 (0,0) (dQ w _)) hl (fun i v hi=>by
   rw [kH];have hcell:w.cell? ⟨b,j*3+i,none⟩=some v:=by
    refine hY hw ?_;rw [hcur,List.getElem?_append_left (by rw [List.getElem?_drop] at hi;exact (List.getElem?_eq_some_iff.1 hi).1)]
    rwa [List.getElem?_drop] at hi
   unfold World.cell? at hcell ⊢;rw [show (((w.alloc (.cells R 130)).drewN m).setRow w.heap.size X1.toArray).heap[(⟨b,j*3+i,none⟩:Addr).block]?=w.heap[(⟨b,j*3+i,none⟩:Addr).block]? from (setRow_other _ _ _ _ (by show b≠w.heap.size;omega)).trans ((gP.alloc True w (.cells R 130)).keep _ hbw)]
   exact hcell) (by rw [List.length_drop,hcl,List.size_toArray,hX1l];omega) (fun v hv=>List.all_eq_true.1 h2 v (List.mem_of_mem_drop hv))
  rw [this,show (j+1)*3+(cs.drop (j*3)).length=(nn+1)*3 by rw [List.length_drop,hcl];omega];congr 3;have e1:X1.take ((j+1)*3)=cs.take (j*3)++vs:=by
   rw [hX1,List.take_append_of_le_length (by rw [List.length_append,hct,hvl];omega),List.take_of_length_le (by rw [List.length_append,hct,hvl];omega)]
  have e2:X1.drop ((nn+1)*3)=R.toList.drop ((nn+1)*3):=by
   rw [hX1,List.drop_append,List.drop_of_length_le (by rw [List.length_append,hct,hvl];omega),List.nil_append,List.drop_drop,List.length_append,hct,hvl,show (j+1)*3+((nn+1)*3-(j*3+3))=(nn+1)*3 by omega]
  simp only [List.toList_toArray,e1,e2,hX2,List.append_assoc]
 have hX2t:X2.take ((nn+1)*3)=cs.take (j*3)++vs++cs.drop (j*3):=by
  rw [hX2,List.take_append_of_le_length (by simp only [List.length_append,hct,hvl,List.length_drop,hcl];omega),List.take_of_length_le (by simp only [List.length_append,hct,hvl,List.length_drop,hcl];omega)]
 refine Calls.mono (R:=fun e w''=>e=.returned (.slice (some ⟨w.heap.size,0,none⟩) (nn+1) G)∧∃ m,w''=(((w.alloc (.cells R 130)).drewN m).setRow w.heap.size X1.toArray).setRow w.heap.size X2.toArray) ?_ fun e w'' hw=>by
  obtain ⟨rfl,m,rfl⟩:=hw;exact ⟨G,X2,hGn,hGm,hX2l,hX2t,rfl,R,X1.toArray,m,rfl⟩
 have mixed:=T12.mixed;have hz2:¬((j:Int)=(nn:Int)):=by omega
 have hw2:IntKind.i64.wrap ((j:Int)+1)=(j:Int)+1:=by rw [IntKind.wrap_i64];omega
 have hw3:IntKind.i64.wrap ((nn:Int)+1)=(nn:Int)+1:=by rw [IntKind.wrap_i64];omega
 have htn:((j:Int)+1).toNat=j+1:=by omega
 have hb1:(0:Int)≤(j:Int)+1:=by omega
 have hro:(cap:Int)<(nn:Int)+1:=by omega
 have hGi:¬(G=j):=by omega
 have hGim:¬(G=j+1):=by omega
 have hci:¬(cap=j):=by omega
 have hin:j≤nn:=by omega
 have hb3:(j:Int)≤(nn:Int):=by omega
 have hcpA0:∀ ty dc,(Builtin.copy_ #[128,128] ty #[.slice (some ⟨w.heap.size,j*3,none⟩) (nn+1-j) dc,.slice (some q) 1 vcap]).run Tryz.prog (w.drew.alloc (.cells R 130))=.ok (goInt (Nat.min 1 (nn+1-j))) ((w.drew.alloc (.cells R 130)).setRow w.heap.size X1.toArray):=fun ty dc=>hcpA 1 ty dc;have hcpA1:∀ ty dc,(Builtin.copy_ #[128,128] ty #[.slice (some ⟨w.heap.size,j*3,none⟩) (nn+1-j) dc,.slice (some q) 1 vcap]).run Tryz.prog ((w.alloc (.cells R 130)).drew)=.ok (goInt (Nat.min 1 (nn+1-j))) (((w.alloc (.cells R 130)).drew).setRow w.heap.size X1.toArray):=fun ty dc=>hcpA 1 ty dc;have hcpB0:∀ ty dc sc,(Builtin.copy_ #[128,128] ty #[.slice (some ⟨w.heap.size,(j+1)*3,none⟩) (nn-j) dc,.slice (some ⟨b,j*3,none⟩) (nn-j) sc]).run Tryz.prog (((w.alloc (.cells R 130)).drew.setRow w.heap.size X1.toArray).drew)=.ok (goInt (Nat.min (nn-j) (nn-j))) ((((w.alloc (.cells R 130)).drew.setRow w.heap.size X1.toArray).drew).setRow w.heap.size X2.toArray):=fun ty dc sc=>hcpB 2 ty dc sc;clear hG hcpA hcpB hR hold hkk hik hcur hRt hX1 hX2 hX2t hN hq0 hv ht
 go_enter Tryz.func112,Tryz.ntmps112
 go_wp2_with (first
  | (at_builtin;refine Lib.wpList_append_run _ rfl _ _ _ _ rfl _ _ rfl rfl _ _ (hrz _) ?_)
  | (at_builtin;refine wpList_copy_runI _ rfl _ _ 128 128 rfl _ _ rfl rfl (hcpA1 _ _) ?_)
  | (at_builtin;refine wpList_copy_runI _ rfl _ _ 128 128 rfl _ _ rfl rfl (hcpA0 _ _) ?_))
 go_region_law_o (refine step_copy_runI rfl _ _ 128 128 rfl (.slice (some ⟨w.heap.size,(j+1)*3,none⟩) (nn-j) (G-(j+1))) (.slice (some ⟨b,j*3,none⟩) (nn-j) (cap-j)) (by simp [Act.eval,Act.put]) (by simp [Act.eval,Act.put]) (hcpB0 3 (G-(j+1)) (cap-j)) ?_)
 go_wp2
 go_ret
 exact ⟨rfl,2,rfl⟩
theorem lY {w w':World} {b:Nat} (h:∀ k,k<w.heap.size→k≠b→w'.heap[k]?=w.heap[k]?) (ho:w'.os=w.os) (ht:w'.tape=w.tape) (hu:w'.output=w.output) (hs:w.heap.size≤w'.heap.size) (hd:w.drawn≤w'.drawn):lE w w' (some b) :=
 ⟨⟨ho,ht,hu,hs,fun k hk hne=>h k hk (fun e=>hne (by rw [e]))⟩,hd⟩
theorem fE (w:World) (b:Nat) (X:Array Value):(w.setRow b X).heap.size=w.heap.size:=by simp [World.setRow]
theorem Tryz.ins112:WK Tryz.prog 112 130 3:=by
 intro w ad cap nn cs j q vcap vs hr hj hb hv hvl h1 h2 hne _;have hcl:=(jS hr).1;by_cases hjn:j=nn
 ·subst hjn;refine (Tryz.ins_end hr hb hv hvl h1).mono fun e w' h=>?_;rw [List.take_of_length_le (by omega),List.drop_of_length_le (by omega),List.append_nil];exact h
 have hlt:j<nn:=by omega
 rcases hr.2 with ⟨_,h0⟩|⟨b,cap',cur,he,hbb,hw,hnc,hcm,hcs,ht⟩
 ·omega
 simp only [Value.slice.injEq] at he;obtain ⟨rfl,_,rfl⟩:=he;have hbw:b<w.heap.size:=(Array.getElem?_eq_some_iff.1 hw).1;have h3:cap≤9223372036854775807:=by unfold maxLen at hcm;omega
 have hln:(cs.take (j*3)++vs++cs.drop (j*3)).length=(nn+1)*3:=by
  simp only [List.length_append,List.length_take,List.length_drop,hvl,hcl];omega
 by_cases hroom:nn+1≤cap
 ·refine (Tryz.ins_room hw hcs ht h3 hlt hroom hb hv hvl h1 h2 (hne b rfl)).mono fun e w' h=>?_;obtain ⟨rfl,rfl⟩:=h;refine ⟨_,_,rfl,?_,?_,fun b' hb'=>.inl hb'⟩
  ·refine ⟨hln,.inr ⟨b,cap,_,rfl,hbb,setRow_heap _ b _ _ 130 (0,0) (setRow_heap w.drew b cur _ 130 (0,0) hw),hroom,hcm,?_,?_⟩⟩
   ·have:(cur.toList.drop ((nn+1)*3)).length=cap*3-(nn+1)*3:=by rw [List.length_drop,Array.length_toList,hcs]
    rw [List.size_toArray,List.length_append,hln,this];omega
   rw [List.toList_toArray,List.take_append_of_le_length (by rw [hln];exact Nat.le_refl _),List.take_of_length_le (by rw [hln];exact Nat.le_refl _)]
  exact lY (fun k hk hkb=>(setRow_other _ _ _ _ hkb).trans (setRow_other _ _ _ _ hkb)) rfl rfl rfl (by rw [fE,fE];exact Nat.le_refl _) (Nat.le_succ _)
 refine (Tryz.ins_grow hw hcs ht hnc hlt (by omega) hb hv hvl h1 h2).mono fun e w' h=>?_;obtain ⟨G,X,hG1,hG2,hXl,hXt,rfl,Y,Z,m,rfl⟩:=h;refine ⟨_,_,rfl,?_,?_,fun b' hb'=>.inr (by simp at hb';omega)⟩
 ·refine ⟨hln,.inr ⟨w.heap.size,G,X.toArray,rfl,Nat.zero_le _,setRow_heap _ _ Z _ 130 (0,0) (setRow_heap _ _ Y _ 130 (0,0) (dQ w _)),hG1,hG2,by rw [List.size_toArray,hXl],by rw [List.toList_toArray];exact hXt⟩⟩
 refine lY (fun k hk hkb=>?_) rfl rfl rfl ?_ ?_
 ·have hkn:k≠w.heap.size:=by omega
  exact (setRow_other _ _ _ _ hkn).trans ((setRow_other _ _ _ _ hkn).trans ((gP.alloc True w (.cells Y 130)).keep k hk))
 ·rw [fE,fE];exact (gP.alloc True w (.cells Y 130)).size
 exact Nat.le_add_right _ _
set_option maxHeartbeats 4000000 in
set_option maxRecDepth 100000 in
theorem Tryz.ins_endM {w:World} {ad:Option Addr} {cap nn mv:Nat} (hm:1≤mv) {cs:List Value} {q:Addr} {vcap:Nat} {vs:List Value} (hr:(aP.row ad cap 3 1 nn cs).holds w) (hb:nn+mv≤1073741824) (hv:aN (hp w) q vs) (hvl:vs.length=mv) (h1:vs.all (·.oneCell')=true) :
  Calls Tryz.prog 138 #[.slice ad nn cap,.int .i64 nn,.slice (some q) mv vcap] w fun e w'=>∃ ad' cap',e=.returned (.slice ad' (nn+mv) cap')∧(aP.row ad' cap' 3 1 (nn+mv) (cs++vs)).holds w'∧lE w w' (ad.map (·.block))∧∀ b,ad'.map (·.block)=some b→ad.map (·.block)=some b∨w.heap.size≤b:=by
 obtain ⟨ad',cap',w',hrun,hh,hg,hf⟩:=mL (P:=Tryz.prog) 33 T12.E33 hr (sad:=some q) (m:=mv) (c:=vcap) (news:=vs) ⟨by omega,h1,.inr ⟨q,rfl,hv⟩⟩ (by unfold maxLen;omega) (by omega);have hd:=oF _ hrun;have hcap:=(jS hr).2;refine Calls.mono (R:=fun e w''=>e=.returned (.slice ad' (nn+mv) cap')∧w''=w') ?_ fun e w'' hw=>by
  obtain ⟨rfl,rfl⟩:=hw;exact ⟨ad',cap',rfl,hh,⟨hg,hd⟩,hf⟩
 clear hf hh hg hd hr hv h1;by_cases hc:cap=nn
 ·subst hc
  go_enter Tryz.func138,Tryz.ntmps138
  go_wp2_with (at_builtin;refine Lib.wpList_append_run _ rfl _ _ _ _ rfl _ _ rfl rfl _ _ hrun ?_)
  go_ret
  exact ⟨rfl,rfl⟩
 go_enter Tryz.func138,Tryz.ntmps138
 go_wp2_with (at_builtin;refine Lib.wpList_append_run _ rfl _ _ _ _ rfl _ _ rfl rfl _ _ hrun ?_)
 go_ret
 exact ⟨rfl,rfl⟩
set_option maxHeartbeats 4000000 in
set_option maxRecDepth 100000 in
theorem Tryz.ins_roomM {w:World} {b cap nn j mv:Nat} (hm:1≤mv) {cs:List Value} {q:Addr} {vcap:Nat} {vs:List Value} {cur:Array Value} (hw:w.heap[b]?=some (.cells cur 3 (0,0))) (hcs:cur.size=cap) (ht:cur.toList.take (nn)=cs) (hcm:cap≤9223372036854775807) (hj:j<nn) (hroom:nn+mv≤cap) (hb:nn+mv≤1073741824) (hv:aN (hp w) q vs) (hvl:vs.length=mv) (h1:vs.all (·.oneCell')=true) (h2:cs.all (·.oneCell')=true) (hne:b≠q.block) :
  Calls Tryz.prog 138 #[.slice (some ⟨b,0,none⟩) nn cap,.int .i64 j,.slice (some q) mv vcap] w fun e w'=>e=.returned (.slice (some ⟨b,0,none⟩) (nn+mv) cap)∧w'=(w.drew.setRow b (cur.toList.take ((j+mv))++cs.drop (j)++cur.toList.drop ((nn+mv))).toArray).setRow b (cs.take (j)++vs++cs.drop (j)++cur.toList.drop ((nn+mv))).toArray:=by
 obtain ⟨c0,t0,z0,hq0,hq1⟩:=nN hv (by omega);have hcl:cs.length=nn:=by rw [← ht,List.length_take,Array.length_toList,hcs];omega
 have hcur:cur.toList=cs++cur.toList.drop (nn):=by rw [← ht,List.take_append_drop]
 have hov:∀ lb cb,(callFunc 188 #[.slice (some q) mv vcap,.slice (some ⟨b,(j+mv),none⟩) lb cb]).run Tryz.prog w=.ok (.value (.bool false)) w:=fun lb cb=>by
  rw [run_callFunc_extern Tryz.func188 (by kernel_rfl) (by kernel_rfl) (by kernel_rfl) (e:=Extern.SlicesOverlaps.overlaps #[33,33] #[4]) (by kernel_rfl),
   nO w 33 4 3 Tryz.underlying33 1 Tryz.sizeOf3 q ⟨b,(j+mv),none⟩ mv vcap lb cb (fun e=>hne e.symm) hq0 hq1 hw (by omega)]
  rfl
 have hcp1:∀ ty dc sc,(Builtin.copy_ #[33,33] ty #[.slice (some ⟨b,(j+mv),none⟩) (nn-j) dc,.slice (some ⟨b,j,none⟩) (nn+mv-j) sc]).run Tryz.prog w.drew=.ok (goInt (Nat.min (nn+mv-j) (nn-j))) (w.drew.setRow b (cur.toList.take ((j+mv))++cs.drop (j)++cur.toList.drop ((nn+mv))).toArray):=fun ty dc sc=>by
  have hl:(cs.drop (j)).length=Nat.min (nn+mv-j) (nn-j):=by
   rw [List.length_drop,hcl,show Nat.min (nn+mv-j) (nn-j)=nn-j by simp only [Nat.min_def];split <;> omega]
  have:=hU (P:=Tryz.prog) w.drew 33 ty 3 1 Tryz.underlying33 Tryz.sizeOf3 b ((j+mv)) (nn-j) dc ⟨b,j,none⟩ (nn+mv-j) sc (cs.drop (j)) (cur:=cur) hw (by rw [hl,Nat.mul_one]) (fun i v hi=>by
   rw [kH];refine hY (w:=w.drew) hw ?_;rw [hcur,List.getElem?_append_left (by rw [List.getElem?_drop] at hi;exact (List.getElem?_eq_some_iff.1 hi).1)]
   rwa [List.getElem?_drop] at hi) (by rw [List.length_drop,hcl,hcs];omega) (fun v hv=>List.all_eq_true.1 h2 v (List.mem_of_mem_drop hv))
  rw [this,show (j+mv)+(cs.drop (j)).length=(nn+mv) by rw [List.length_drop,hcl];omega]
 obtain ⟨X1,hX1⟩:∃ X1:List Value,X1=cur.toList.take ((j+mv))++cs.drop (j)++cur.toList.drop ((nn+mv)):=⟨_,rfl⟩;rw [← hX1] at hcp1 ⊢;obtain ⟨W1,hW1⟩:∃ W1,W1=w.drew.setRow b X1.toArray:=⟨_,rfl⟩;rw [← hW1] at hcp1 ⊢;have hw1:W1.heap[b]?=some (.cells X1.toArray 3 (0,0)):=by rw [hW1];exact setRow_heap w.drew b cur X1.toArray 3 (0,0) hw
 have hX1l:X1.length=cap:=by rw [hX1];simp only [List.length_append,List.length_take,List.length_drop,Array.length_toList,hcs,hcl];omega
 have hlen1:(cur.toList.take ((j+mv))).length=(j+mv):=by rw [List.length_take,Array.length_toList,hcs];omega
 have hcp2:∀ ty dc,(Builtin.copy_ #[33,33] ty #[.slice (some ⟨b,j,none⟩) (nn+mv-j) dc,.slice (some q) mv vcap]).run Tryz.prog W1=.ok (goInt (Nat.min mv (nn+mv-j))) (W1.setRow b (cs.take (j)++vs++cs.drop (j)++cur.toList.drop ((nn+mv))).toArray):=fun ty dc=>by
  have hm:Nat.min mv (nn+mv-j)=mv:=by simp only [Nat.min_def];split <;> omega
  have:=hU (P:=Tryz.prog) W1 33 ty 3 1 Tryz.underlying33 Tryz.sizeOf3 b (j) (nn+mv-j) dc q mv vcap vs (cur:=X1.toArray) hw1 (by rw [hvl,hm,Nat.mul_one]) (fun i v hi=>by
   have h0:=hv.cell hi;have hsp:(q.add i).block=q.block:=by unfold Addr.add;split <;> rfl
   rw [hW1];unfold World.cell? at h0 ⊢;rw [show (w.drew.setRow b X1.toArray).heap[(q.add i).block]?=w.heap[(q.add i).block]? from setRow_other w.drew b _ _ (by rw [hsp];exact fun e=>hne e.symm)]
   exact h0) (by rw [hvl,List.size_toArray,hX1l];omega) (fun v hv=>List.all_eq_true.1 h1 v hv)
  rw [this,hvl];congr 3;have e1:X1.take (j)=cs.take (j):=by
   rw [hX1,List.append_assoc,List.take_append_of_le_length (by rw [hlen1];omega),List.take_take,show min (j) ((j+mv))=j by omega,← ht,List.take_take,show min (j) (nn)=j by omega]
  have e2:X1.drop (j+mv)=cs.drop (j)++cur.toList.drop ((nn+mv)):=by
   rw [hX1,show j+mv=(j+mv) by omega,List.append_assoc,List.drop_append_of_le_length (by rw [hlen1];omega),List.drop_of_length_le (by rw [hlen1];omega),List.nil_append]
  simp only [List.toList_toArray,e1,e2,List.append_assoc]
 have hz2:¬((j:Int)=(nn:Int)):=by omega
 have hw2:IntKind.i64.wrap ((j:Int)+(mv:Int))=(j:Int)+(mv:Int):=by rw [IntKind.wrap_i64];omega
 have hw3:IntKind.i64.wrap ((nn:Int)+(mv:Int))=(nn:Int)+(mv:Int):=by rw [IntKind.wrap_i64];omega
 have htn:((j:Int)+(mv:Int)).toNat=j+mv:=by omega
 have htn2:((nn:Int)+(mv:Int)).toNat=nn+mv:=by omega
 have hb1:(0:Int)≤(j:Int)+(mv:Int):=by omega
 have hb2:¬(cap=j+mv):=by omega
 have hb4:¬(cap=j):=by omega
 have hb3:(j:Int)≤(nn:Int)+(mv:Int):=by omega
 have hin:j≤nn:=by omega
 have hro:¬((cap:Int)<(nn:Int)+(mv:Int)):=by omega
 clear hX1 hcur ht;have mixed:=T12.mixed;clear hw1;subst hW1
 go_enter Tryz.func138,Tryz.ntmps138
 go_wp2_with (simp only [hov])
 go_region_law_o (refine step_copy_runI rfl _ _ 33 33 rfl (.slice (some ⟨b,(j+mv),none⟩) (nn-j) (cap-(j+mv))) (.slice (some ⟨b,j,none⟩) (nn+mv-j) (cap-j)) (by first|(simp [Act.eval,Act.put];done)|(simp [Act.eval,Act.put];omega)) (by first|(simp [Act.eval,Act.put];done)|(simp [Act.eval,Act.put];omega)) (hcp1 3 (cap-(j+mv)) (cap-j)) ?_)
 go_wp2_with (at_builtin;refine wpList_copy_runI _ rfl _ _ 33 33 rfl _ _ rfl rfl (hcp2 _ _) ?_)
 go_ret
 exact ⟨rfl,by simp only [List.append_assoc]⟩
set_option maxHeartbeats 4000000 in
set_option maxRecDepth 100000 in
theorem Tryz.ins_growM {w:World} {b cap nn j mv:Nat} (hm:1≤mv) {cs:List Value} {q:Addr} {vcap:Nat} {vs:List Value} {cur:Array Value} (hw:w.heap[b]?=some (.cells cur 3 (0,0))) (hcs:cur.size=cap) (ht:cur.toList.take (nn)=cs) (hnc:nn≤cap) (hj:j<nn) (hroom:cap<nn+mv) (hb:nn+mv≤1073741824) (hv:aN (hp w) q vs) (hvl:vs.length=mv) (h1:vs.all (·.oneCell')=true) (h2:cs.all (·.oneCell')=true) :
  Calls Tryz.prog 138 #[.slice (some ⟨b,0,none⟩) nn cap,.int .i64 j,.slice (some q) mv vcap] w fun e w'=>∃ (G:Nat) (X:List Value),nn+mv≤G∧G≤maxLen∧X.length=G∧X.take ((nn+mv))=cs.take (j)++vs++cs.drop (j)∧e=.returned (.slice (some ⟨w.heap.size,0,none⟩) (nn+mv) G)∧∃ Y Z m,w'=(((w.alloc (.cells Y 3)).drewN m).setRow w.heap.size Z).setRow w.heap.size X.toArray:=by
 obtain ⟨i0,v0,hi0,hz0,hzv,hzs,hzb⟩:=T12.E33.info;have hzc:v0.cells.size=1:=by rw [gQ,hzv];rfl
 have hcl:cs.length=nn:=by rw [← ht,List.length_take,Array.length_toList,hcs];omega
 have hcur:cur.toList=cs++cur.toList.drop (nn):=by rw [← ht,List.take_append_drop]
 have hold:(Builtin.firstCells i0.size j (.slice (some ⟨b,0,none⟩) j cap)).run Tryz.prog w.drew=.ok (cs.take (j)).toArray w.drew:=by
  rw [hzs];refine run_firstCells_some (w:=w.drew) 1 j ⟨b,0,none⟩ j cap (cs.take (j)) (by rw [List.length_take,hcl];omega) (fun i v hi=>?_);rw [kH,Nat.zero_add];refine hY (w:=w.drew) hw ?_;rw [List.getElem?_take] at hi
  split at hi
  ·rw [hcur,List.getElem?_append_left (by rw [hcl];omega)];exact hi
  cases hi
 have hik:j+(nn+mv-j)=nn+mv:=by omega
 have hkk:(nn:Int)+(mv:Int)-(j:Int)=((nn+mv-j:Nat):Int):=by omega
 obtain ⟨G,hG⟩:∃ G,G=grownCap w (nn+mv) cap 3:=⟨_,rfl⟩;have hGn:nn+mv≤G:=by rw [hG];exact grownCap_ge w _ _ _
 have hGm:G≤maxLen:=by rw [hG];exact grownCap_le_maxLen w (nn+mv) cap 3 (by unfold maxLen;omega)
 obtain ⟨R,hR⟩:∃ R:Array Value,R=(cs.take (j)).toArray++Builtin.zeroCells v0.cells (nn+mv-j)++Builtin.zeroCells v0.cells (G-(nn+mv)):=⟨_,rfl⟩;have hRs:R.size=G:=by
  rw [hR];simp only [Array.size_append,List.size_toArray,List.length_take,hcl,Builtin.zeroCells,Array.size_map,Array.size_range,hzc];omega
 have hRt:R.toList.take (j)=cs.take (j):=by
  rw [hR,Array.toList_append,Array.toList_append,List.append_assoc,List.take_append_of_le_length (by simp [hcl];omega)];simp only [List.toList_toArray,List.take_take,Nat.min_self]
 have hrz:∀ ty,(Builtin.append_ #[33,3] ty #[.slice (some ⟨b,0,none⟩) j cap,.int .i64 ((nn:Int)+(mv:Int)-(j:Int))]).run Tryz.prog w=.ok (.slice (some ⟨w.heap.size,0,none⟩) (nn+mv) G) (w.drew.alloc (.cells R 3)):=fun ty=>by
  have h:=Lib.run_append_grow_zeros w 33 3 ty 3 i0 _ .i64 .i64 Tryz.underlying33 Tryz.underlying3 hi0 hz0 (some ⟨b,0,none⟩) j cap (cs.take (j)) hold (nn+mv-j) (by omega) (by rw [hzs];decide) (by omega) (by omega) (by rw [hzb];omega) (by rw [hzb,hik];exact growslice_fits hroom (by omega));rw [hik] at h;rw [hkk,hR,hG];exact h
 have hN:(w.drew.alloc (.cells R 3)).heap[w.heap.size]?=some (.cells R 3 (0,0)):=dQ w.drew _;have hbw:b<w.heap.size:=(Array.getElem?_eq_some_iff.1 hw).1;obtain ⟨X1,hX1⟩:∃ X1:List Value,X1=cs.take (j)++vs++R.toList.drop ((j+mv)):=⟨_,rfl⟩;obtain ⟨X2,hX2⟩:∃ X2:List Value,X2=cs.take (j)++vs++cs.drop (j)++R.toList.drop ((nn+mv)):=⟨_,rfl⟩;have hct:(cs.take (j)).length=j:=by rw [List.length_take,hcl];omega
 have hX1l:X1.length=G:=by rw [hX1];simp only [List.length_append,hct,hvl,List.length_drop,Array.length_toList,hRs];omega
 have hX2l:X2.length=G:=by rw [hX2];simp only [List.length_append,hct,hvl,List.length_drop,Array.length_toList,hRs,hcl];omega
 have hqn:∀ i,(q.add i).block=q.block:=fun i=>by unfold Addr.add;split <;> rfl
 obtain ⟨c0,t0,z0,hq0,_⟩:=nN hv (by omega);have hqw:q.block<w.heap.size:=(Array.getElem?_eq_some_iff.1 hq0).1;have hcpA:∀ (m:Nat) ty dc,(Builtin.copy_ #[33,33] ty #[.slice (some ⟨w.heap.size,j,none⟩) (nn+mv-j) dc,.slice (some q) mv vcap]).run Tryz.prog ((w.alloc (.cells R 3)).drewN m)=.ok (goInt (Nat.min mv (nn+mv-j))) (((w.alloc (.cells R 3)).drewN m).setRow w.heap.size X1.toArray):=fun m ty dc=>by
  have hm:Nat.min mv (nn+mv-j)=mv:=by simp only [Nat.min_def];split <;> omega
  have:=hU (P:=Tryz.prog) ((w.alloc (.cells R 3)).drewN m) 33 ty 3 1 Tryz.underlying33 Tryz.sizeOf3 w.heap.size (j) (nn+mv-j) dc q mv vcap vs (cur:=R) (te:=3) (dQ w _) (by rw [hvl,hm,Nat.mul_one]) (fun i v hi=>by
   have h0:=hv.cell hi;unfold World.cell? at h0 ⊢;rw [show ((w.alloc (.cells R 3)).drewN m).heap[(q.add i).block]?=w.heap[(q.add i).block]? from (gP.alloc True w (.cells R 3)).keep _ (by rw [hqn];exact hqw)]
   exact h0) (by rw [hvl,hRs];omega) (fun v hv=>List.all_eq_true.1 h1 v hv)
  rw [this,hvl,hRt,hX1,show j+mv=(j+mv) by omega]
 have hcpB:∀ (m:Nat) ty dc sc,(Builtin.copy_ #[33,33] ty #[.slice (some ⟨w.heap.size,(j+mv),none⟩) (nn-j) dc,.slice (some ⟨b,j,none⟩) (nn-j) sc]).run Tryz.prog (((w.alloc (.cells R 3)).drewN m).setRow w.heap.size X1.toArray)=.ok (goInt (Nat.min (nn-j) (nn-j))) ((((w.alloc (.cells R 3)).drewN m).setRow w.heap.size X1.toArray).setRow w.heap.size X2.toArray):=fun m ty dc sc=>by
  have hm:Nat.min (nn-j) (nn-j)=nn-j:=Nat.min_self _;have hl:(cs.drop (j)).length=Nat.min (nn-j) (nn-j):=by rw [hm,List.length_drop,hcl]
  have:=hU (P:=Tryz.prog) (((w.alloc (.cells R 3)).drewN m).setRow w.heap.size X1.toArray) 33 ty 3 1 Tryz.underlying33 Tryz.sizeOf3 w.heap.size ((j+mv)) (nn-j) dc ⟨b,j,none⟩ (nn-j) sc (cs.drop (j)) (cur:=X1.toArray) (te:=3) (setRow_heap _ _ R X1.toArray 3 (0,0) (dQ w _)) (by rw [hl,Nat.mul_one]) (fun i v hi=>by
   rw [kH];have hcell:w.cell? ⟨b,j+i,none⟩=some v:=by
    refine hY hw ?_;rw [hcur,List.getElem?_append_left (by rw [List.getElem?_drop] at hi;exact (List.getElem?_eq_some_iff.1 hi).1)]
    rwa [List.getElem?_drop] at hi
   unfold World.cell? at hcell ⊢;rw [show (((w.alloc (.cells R 3)).drewN m).setRow w.heap.size X1.toArray).heap[(⟨b,j+i,none⟩:Addr).block]?=w.heap[(⟨b,j+i,none⟩:Addr).block]? from (setRow_other _ _ _ _ (by show b≠w.heap.size;omega)).trans ((gP.alloc True w (.cells R 3)).keep _ hbw)]
   exact hcell) (by rw [List.length_drop,hcl,List.size_toArray,hX1l];omega) (fun v hv=>List.all_eq_true.1 h2 v (List.mem_of_mem_drop hv))
  rw [this,show (j+mv)+(cs.drop (j)).length=(nn+mv) by rw [List.length_drop,hcl];omega];congr 3;have e1:X1.take ((j+mv))=cs.take (j)++vs:=by
   rw [hX1,List.take_append_of_le_length (by rw [List.length_append,hct,hvl];omega),List.take_of_length_le (by rw [List.length_append,hct,hvl];omega)]
  have e2:X1.drop ((nn+mv))=R.toList.drop ((nn+mv)):=by
   rw [hX1,List.drop_append,List.drop_of_length_le (by rw [List.length_append,hct,hvl];omega),List.nil_append,List.drop_drop,List.length_append,hct,hvl,show (j+mv)+((nn+mv)-(j+mv))=(nn+mv) by omega]
  simp only [List.toList_toArray,e1,e2,hX2,List.append_assoc]
 have hX2t:X2.take ((nn+mv))=cs.take (j)++vs++cs.drop (j):=by
  rw [hX2,List.take_append_of_le_length (by simp only [List.length_append,hct,hvl,List.length_drop,hcl];omega),List.take_of_length_le (by simp only [List.length_append,hct,hvl,List.length_drop,hcl];omega)]
 refine Calls.mono (R:=fun e w''=>e=.returned (.slice (some ⟨w.heap.size,0,none⟩) (nn+mv) G)∧∃ m,w''=(((w.alloc (.cells R 3)).drewN m).setRow w.heap.size X1.toArray).setRow w.heap.size X2.toArray) ?_ fun e w'' hw=>by
  obtain ⟨rfl,m,rfl⟩:=hw;exact ⟨G,X2,hGn,hGm,hX2l,hX2t,rfl,R,X1.toArray,m,rfl⟩
 have mixed:=T12.mixed;have hz2:¬((j:Int)=(nn:Int)):=by omega
 have hw2:IntKind.i64.wrap ((j:Int)+(mv:Int))=(j:Int)+(mv:Int):=by rw [IntKind.wrap_i64];omega
 have hw3:IntKind.i64.wrap ((nn:Int)+(mv:Int))=(nn:Int)+(mv:Int):=by rw [IntKind.wrap_i64];omega
 have htn:((j:Int)+(mv:Int)).toNat=j+mv:=by omega
 have hb1:(0:Int)≤(j:Int)+(mv:Int):=by omega
 have hro:(cap:Int)<(nn:Int)+(mv:Int):=by omega
 have hGi:¬(G=j):=by omega
 have hGim:¬(G=j+mv):=by omega
 have hci:¬(cap=j):=by omega
 have hin:j≤nn:=by omega
 have hb3:(j:Int)≤(nn:Int):=by omega
 have hcpA0:∀ ty dc,(Builtin.copy_ #[33,33] ty #[.slice (some ⟨w.heap.size,j,none⟩) (nn+mv-j) dc,.slice (some q) mv vcap]).run Tryz.prog (w.drew.alloc (.cells R 3))=.ok (goInt (Nat.min mv (nn+mv-j))) ((w.drew.alloc (.cells R 3)).setRow w.heap.size X1.toArray):=fun ty dc=>hcpA 1 ty dc;have hcpA1:∀ ty dc,(Builtin.copy_ #[33,33] ty #[.slice (some ⟨w.heap.size,j,none⟩) (nn+mv-j) dc,.slice (some q) mv vcap]).run Tryz.prog ((w.alloc (.cells R 3)).drew)=.ok (goInt (Nat.min mv (nn+mv-j))) (((w.alloc (.cells R 3)).drew).setRow w.heap.size X1.toArray):=fun ty dc=>hcpA 1 ty dc;have hcpB0:∀ ty dc sc,(Builtin.copy_ #[33,33] ty #[.slice (some ⟨w.heap.size,(j+mv),none⟩) (nn-j) dc,.slice (some ⟨b,j,none⟩) (nn-j) sc]).run Tryz.prog (((w.alloc (.cells R 3)).drew.setRow w.heap.size X1.toArray).drew)=.ok (goInt (Nat.min (nn-j) (nn-j))) ((((w.alloc (.cells R 3)).drew.setRow w.heap.size X1.toArray).drew).setRow w.heap.size X2.toArray):=fun ty dc sc=>hcpB 2 ty dc sc;clear hG hcpA hcpB hR hold hkk hik hcur hRt hX1 hX2 hX2t hN hq0 hv ht
 go_enter Tryz.func138,Tryz.ntmps138
 go_wp2_with (first
  | (at_builtin;refine Lib.wpList_append_run _ rfl _ _ _ _ rfl _ _ rfl rfl _ _ (hrz _) ?_)
  | (at_builtin;refine wpList_copy_runI _ rfl _ _ 33 33 rfl _ _ rfl rfl (hcpA1 _ _) ?_)
  | (at_builtin;refine wpList_copy_runI _ rfl _ _ 33 33 rfl _ _ rfl rfl (hcpA0 _ _) ?_))
 go_region_law_o (refine step_copy_runI rfl _ _ 33 33 rfl (.slice (some ⟨w.heap.size,(j+mv),none⟩) (nn-j) (G-(j+mv))) (.slice (some ⟨b,j,none⟩) (nn-j) (cap-j)) (by first|(simp [Act.eval,Act.put];done)|(simp [Act.eval,Act.put];omega)) (by first|(simp [Act.eval,Act.put];done)|(simp [Act.eval,Act.put];omega)) (hcpB0 3 (G-(j+mv)) (cap-j)) ?_)
 go_wp2
 go_ret
 exact ⟨rfl,2,rfl⟩
set_option maxHeartbeats 4000000 in
set_option maxRecDepth 100000 in
theorem Tryz.ins_none {w:World} {ad vad:Option Addr} {cap nn j vcap:Nat} (hj:j≤nn) (hc:nn≤cap) (hcm:cap≤9223372036854775807):Calls Tryz.prog 138 #[.slice ad nn cap,.int .i64 j,.slice vad 0 vcap] w fun e w'=>e=.returned (.slice ad nn cap)∧∃ n,w'=w.drewN n:=by
 have hb3:(j:Int)≤(nn:Int):=by omega
 by_cases hcj:cap=j
 ·subst hcj
  go_enter Tryz.func138,Tryz.ntmps138
  go_wp2
  go_ret
  exact ⟨rfl,0,rfl⟩
 go_enter Tryz.func138,Tryz.ntmps138
 go_wp2
 go_ret
 exact ⟨rfl,0,rfl⟩
theorem Tryz.insM138:WR Tryz.prog 138 3 1:=by
 intro w ad cap nn cs j vad vcap mv vs hr hj hb hvl hsrc h2 hne hvc;have hcl:=(jS hr).1;have hnc0:=(jS hr).2;rw [Nat.mul_one] at hvl;simp only [Nat.mul_one];rcases Nat.eq_zero_or_pos mv with h0|hm
 ·subst h0;have hv0:vs=[]:=List.eq_nil_of_length_eq_zero (by omega);subst hv0;have hrow:nn≤cap∧cap≤9223372036854775807:=by
   rcases hr.2 with ⟨e0,h0⟩|⟨b,cap',cur,he,hbb,hw,hnc,hcm,hcs,ht⟩
   ·cases e0;omega
   cases he;unfold maxLen at hcm;omega
  refine (Tryz.ins_none hj hrow.1 hrow.2).mono fun e w' h=>?_;obtain ⟨rfl,n,rfl⟩:=h;refine ⟨ad,cap,rfl,?_,?_,fun b hb'=>.inl hb'⟩
  ·rw [List.append_nil,List.take_append_drop];exact hr
  exact ⟨⟨rfl,rfl,rfl,Nat.le_refl _,fun k hk hne=>rfl⟩,Nat.le_add_right _ _⟩
 rcases hsrc with h0|⟨_,h1,⟨_,h0,_⟩|⟨q,rfl,hv⟩⟩
 ·omega
 ·omega
 by_cases hjn:j=nn
 ·subst hjn;refine (Tryz.ins_endM hm hr hb hv hvl h1).mono fun e w' h=>?_;rw [List.take_of_length_le (by omega),List.drop_of_length_le (by omega),List.append_nil];exact h
 have hlt:j<nn:=by omega
 rcases hr.2 with ⟨_,h0⟩|⟨b,cap',cur,he,hbb,hw,hnc,hcm,hcs,ht⟩
 ·omega
 simp only [Value.slice.injEq] at he;obtain ⟨rfl,_,rfl⟩:=he;rw [Nat.mul_one] at hcs ht;have hbw:b<w.heap.size:=(Array.getElem?_eq_some_iff.1 hw).1;have h3:cap≤9223372036854775807:=by unfold maxLen at hcm;omega
 have hln:(cs.take (j)++vs++cs.drop (j)).length=(nn+mv):=by
  simp only [List.length_append,List.length_take,List.length_drop,hvl,hcl];omega
 by_cases hroom:nn+mv≤cap
 ·refine (Tryz.ins_roomM hm hw hcs ht h3 hlt hroom hb hv hvl h1 h2 (hne q rfl hm b rfl)).mono fun e w' h=>?_;obtain ⟨rfl,rfl⟩:=h;refine ⟨_,_,rfl,?_,?_,fun b' hb'=>.inl hb'⟩
  ·refine ⟨by rw [hln,Nat.mul_one],.inr ⟨b,cap,_,rfl,hbb,setRow_heap _ b _ _ 3 (0,0) (setRow_heap w.drew b cur _ 3 (0,0) hw),hroom,hcm,?_,?_⟩⟩
   ·have:(cur.toList.drop ((nn+mv))).length=cap-(nn+mv):=by rw [List.length_drop,Array.length_toList,hcs]
    rw [List.size_toArray,List.length_append,hln,this];omega
   rw [Nat.mul_one,List.toList_toArray,List.take_append_of_le_length (by rw [hln];exact Nat.le_refl _),List.take_of_length_le (by rw [hln];exact Nat.le_refl _)]
  exact lY (fun k hk hkb=>(setRow_other _ _ _ _ hkb).trans (setRow_other _ _ _ _ hkb)) rfl rfl rfl (by rw [fE,fE];exact Nat.le_refl _) (Nat.le_succ _)
 refine (Tryz.ins_growM hm hw hcs ht hnc hlt (by omega) hb hv hvl h1 h2).mono fun e w' h=>?_;obtain ⟨G,X,hG1,hG2,hXl,hXt,rfl,Y,Z,m,rfl⟩:=h;refine ⟨_,_,rfl,?_,?_,fun b' hb'=>.inr (by simp at hb';omega)⟩
 ·refine ⟨by rw [hln,Nat.mul_one],.inr ⟨w.heap.size,G,X.toArray,rfl,Nat.zero_le _,setRow_heap _ _ Z _ 3 (0,0) (setRow_heap _ _ Y _ 3 (0,0) (dQ w _)),hG1,hG2,by rw [List.size_toArray,hXl,Nat.mul_one],by rw [List.toList_toArray,Nat.mul_one];exact hXt⟩⟩
 refine lY (fun k hk hkb=>?_) rfl rfl rfl ?_ ?_
 ·have hkn:k≠w.heap.size:=by omega
  exact (setRow_other _ _ _ _ hkn).trans ((setRow_other _ _ _ _ hkn).trans ((gP.alloc True w (.cells Y 3)).keep k hk))
 ·rw [fE,fE];exact (gP.alloc True w (.cells Y 3)).size
 exact Nat.le_add_right _ _
end Go.Proofs
set_option maxHeartbeats 4000000
namespace T12
open Go Go.Proofs Pk Go.RowKit
section
variable {P:Program} {r:Option Nat} {n:aV} {p:List PanicEntry→aV} {a:Act} {w:World} {D:List Deferred} {k:Nat} {L:cB} {ops:Array Oper} {rest:List Oper} {d:Nat} {ty:TypeId} {pos:String} {af:Array Edge}
theorem QW {y:Operand} {t u te:TypeId} {pe:Value} {ms:_} (hA:bQ D k a L) (hu':P.underlying t=some (.interface ms)) (hd:Nat.blt d k=true) (hy:ev L y=some (.iface te pe)) (h:∀ a,bQ D k a ((d,.bool false)::L)→O P r ops n p rest a w):O P r ops n p (⟨some d,.binOp .eql t y (.const .nilIface) u,ty,pos,af,none⟩::rest) a w:=by
 have hu:P.underlying t=some (.interface (P.methodsAt t)):=by rw [hu'];simp [Program.methodsAt,hu']
 refine cQ rfl (fun _ h=>by cases h) (w':=w) (v:=.bool false) ?_ (h _ (hA.put hd _));simp [execOp,hA.eval hy,show a.eval (.const .nilIface)=.nilIface from rfl,eqGuard,run_eql_held_nil w t _ _ hu,Result.andThen]
theorem QX {y:Operand} {t u:TypeId} {ms:_} (hA:bQ D k a L) (hu':P.underlying t=some (.interface ms)) (hd:Nat.blt d k=true) (hy:ev L y=some .nilIface) (h:∀ a,bQ D k a ((d,.bool true)::L)→O P r ops n p rest a w):O P r ops n p (⟨some d,.binOp .eql t y (.const .nilIface) u,ty,pos,af,none⟩::rest) a w:=by
 have hu:P.underlying t=some (.interface (P.methodsAt t)):=by rw [hu'];simp [Program.methodsAt,hu']
 refine cQ rfl (fun _ h=>by cases h) (w':=w) (v:=.bool true) ?_ (h _ (hA.put hd _));simp only [execOp,hA.eval hy,show a.eval (.const .nilIface)=.nilIface from rfl];simp [eqGuard,run_eql_nil_nil w t hu,Result.andThen]
theorem QY {y:Operand} {xT t:TypeId} {v:Value} {ds:TypeDesc} (hA:bQ D k a L) (hd:Nat.blt d k=true) (hu:P.underlying t=some ds) (hds:(match ds with | .interface _=>false|_=>true)=true) (hy:ev L y=some (.iface t v))
  (h:∀ a,bQ D k a ((d,.tuple #[v,.bool true])::L)→O P r ops n p rest a w):O P r ops n p (⟨some d,.typeAssert y xT t true,ty,pos,af,none⟩::rest) a w :=
 cQ rfl (fun _ h=>by cases h) (w':=w) (v:=.tuple #[v,.bool true]) (by
  simp only [execOp,Instr.typeAssert,hA.eval hy]
  cases ds <;> simp at hds <;> simp [run_underlying hu,Result.andThen]) (h _ (hA.put hd _))
end
theorem QZ (q:Addr) (w:World):CallsD Tryz.prog 56 #[.pointer (some q)] .returning w fun e u' w'=>e=.returned (.tuple #[])∧u'=.returning∧w'=w:=by
 refine callsD_of_wpS Tryz.func56 rfl fun c₀ cs hu=>?_;apply wpS_seq;apply wpS_region;simp [wpOpsS,go_sem,recoverD,hu,Tryz.ntmps56,Exit.thenS];refine wpS_of_wp ?_;refine (wpIn_wide (n:=0)).1 (wpIn_mono (show Pk.W Tryz.prog none _ (fun a w'=>a.defers=[]∧w'=w) (fun _ _=>False) [] (fun _ _ _=>False) _ w from ?_) ?_)
 ·have hA:bQ [] 12 { tmps:=#[.pointer (some q)]++((Array.replicate 11 undef).setIfInBounds 3 .nilIface),defers:=[] } [(0,.pointer (some q)),(4,.nilIface)]:=by
   refine ⟨rfl,by simp,fun i u h=>?_⟩;rcases i with _|_|_|_|_|i
   ·exact h
   ·cases h
   ·cases h
   ·cases h
   ·exact h
   cases (show (none:Option Value)=some u from h)
  revert hA;generalize ({ tmps:=_,defers:=[] }:Act)=a;intro hA;refine mU (gZ (dK (QX hA Tryz.underlying20 rfl rfl fun a hA=>gH (jV hA rfl (fun _=>?_) (fun h=>by cases h)))));exact dK (fO hA rfl rfl fun a hA=>gH ⟨hA.defers,rfl⟩)
 intro z a w' hz
 cases z with
 | normal =>
  obtain ⟨hd,rfl⟩:=hz;exact ⟨hd,.returning,by cases c₀;simp_all,.tuple #[],by simp [results,Tryz.results56],rfl,rfl,rfl⟩
 | ret=>exact hz.elim
 | panic ch=>exact hz.elim
 | exit id=>obtain ⟨K,hK,_⟩:=hz;simp [uD] at hK
 | goto l=>exact hz
 | outgrown=>exact hz.elim
theorem RA {M:Prop} {W w:World} {H:Hp} {Hs:List Hp} {b tE:Nat} {z0:Value} {u:Int} {σr:aM} (hS:St M W H Hs ((tE,bE b 43 [z0])::σr) w) (hT:Nat.beq 999999 tE=false) :
  CallsD Tryz.prog 56 #[.pointer (some ⟨b,0,none⟩)] (.panicking (IJ (.iface 155 (.agg #[.int .i64 u])))) w fun e u' w'=>(∃ v,e=.returned v)∧settle u'=.returning ∧
   ∃ b3 cs3,St M W H Hs ((999999,bE b3 155 cs3)::(tE,bE b 43 [.int .i64 u])::σr) w':=by
 refine callsD_of_wpS Tryz.func56 rfl fun c₀ cs hu=>?_;apply wpS_seq;apply wpS_region;obtain ⟨v,hv⟩:∃ v:Value,v=.agg #[.int .i64 u]:=⟨_,rfl⟩;rw [← hv] at hu;simp [wpOpsS,go_sem,recoverD,hu,Tryz.ntmps56,Exit.thenS,IJ];refine wpS_of_wp ?_;refine (wpIn_wide (n:=0)).1 (wpIn_mono (show Pk.W Tryz.prog none _ (fun a w=>a.defers=[]∧∃ b3 cs3,St M W H Hs ((999999,bE b3 155 cs3)::(tE,bE b 43 [.int .i64 u])::σr) w) (fun _ _=>False) [] (fun _ _ _=>False) _ w from ?_) ?_)
 ·have hA:bQ [] 12 { tmps:=#[.pointer (some ⟨b,0,none⟩)]++((Array.replicate 11 undef).setIfInBounds 3 (.iface 155 v)),defers:=[] } [(0,.pointer (some ⟨b,0,none⟩)),(4,.iface 155 v)]:=by
   refine ⟨rfl,by simp,fun i u h=>?_⟩;rcases i with _|_|_|_|_|i
   ·exact h
   ·cases h
   ·cases h
   ·cases h
   ·exact h
   cases (show (none:Option Value)=some u from h)
  revert hA;generalize ({ tmps:=_,defers:=[] }:Act)=a;intro hA;subst hv;refine mU (gZ (dK (QW hA Tryz.underlying20 rfl rfl fun a hA=>gH (jV hA rfl (fun h=>by cases h) (fun _=>?_)))));refine gZ (dK (QY hA rfl Tryz.underlying155 rfl rfl fun a hA=>mY (vs:=[.agg #[.int .i64 u],.bool true]) hA rfl rfl rfl fun a hA=>mY (vs:=[.agg #[.int .i64 u],.bool true]) hA rfl rfl rfl fun a hA=>gH (jV hA rfl (fun _=>?_) (fun h=>by cases h))));refine gZ (dK (sL 999999 hA rfl hS Tryz.zeroValue155 rfl fun b3 w hS hb a hA=>?_));refine mZ 999999 (cs:=[.int .i64 u]) hA hS rfl rfl Tryz.sizeOf155 rfl rfl rfl rfl rfl fun w hS a hA=>gH ?_;refine dK (aB9 (cs:=[.int .i64 u]) (v:=.int .i64 u) hA rfl rfl rfl Tryz.underlying155 rfl Tryz.sizeOf43 Tryz.isAgg43 ?_ rfl fun a hA=>?_)
  ·exact sO (x:=⟨[],12,M,W,H⟩) 999999 rfl w hS
  refine mZ tE (t0:=43) (l:=[z0]) (cs:=[.int .i64 u]) hA hS rfl rfl Tryz.sizeOf43 (by simp [cJ,dP,hT]) rfl rfl rfl rfl fun w hS a hA=>gH ?_;refine ⟨hA.defers,b3,[.int .i64 u],?_⟩;simpa [dP,hT,lF,bX] using hS
 intro z a w' hz
 cases z with
 | normal =>
  obtain ⟨hd,h⟩:=hz;subst hv;exact ⟨hd,.panicking [{ v:=.iface 155 (.agg #[.int .i64 u]),recovered:=true }],rfl,.tuple #[],by simp [results,Tryz.results56],⟨_,rfl⟩,rfl,h⟩
 | ret=>exact hz.elim
 | panic ch=>exact hz.elim
 | exit id=>obtain ⟨K,hK,_⟩:=hz;simp [uD] at hK
 | goto l=>exact hz
 | outgrown=>exact hz.elim
variable {R:Ending→World→Prop} {M:Prop} {W:World} {H:Hp} {Hs:List Hp} {σ:aM} {L:cB} {b:Nat}
theorem aCu (h:TG ⟨[],56,M,W,H⟩ Hs σ L (Rt Tryz.prog Tryz.f38 R)):TG ⟨[OL 56 [.pointer (some ⟨b,0,none⟩)]],56,M,W,H⟩ Hs σ L (WO Tryz.prog Tryz.f38 R) :=
 rtF Tryz.call56 (fun w hS=>(QZ ⟨b,0,none⟩ w).mono (by rintro e u w' ⟨rfl,rfl,rfl⟩;exact ⟨⟨_,rfl⟩,rfl,hS⟩)) h
theorem DZ {tE:Nat} {u:Int} {z0:Value} {σr:aM} (hT:Nat.beq 999999 tE=false)
  (h:∀ b3 cs3,TG ⟨[],56,M,W,H⟩ Hs ((999999,bE b3 155 cs3)::(tE,bE b 43 [.int .i64 u])::σr) L (Rt Tryz.prog Tryz.f38 R)) :
  TG ⟨[OL 56 [.pointer (some ⟨b,0,none⟩)]],56,M,W,H⟩ Hs ((tE,bE b 43 [z0])::σr) L (WP Tryz.prog Tryz.f38 R (IJ (.iface 155 (.agg #[.int .i64 u])))) :=
 pnF (σ':=fun b3 cs3=>(999999,bE b3 155 cs3)::(tE,bE b 43 [.int .i64 u])::σr) Tryz.call56 (fun w hS=>RA hS hT) h
section
open Go.Lib
theorem WZ (w:World):PredAtRunes Tryz.prog 199 #[] (fun x=>x==32) w:=by
 intro W x hx hb;show Calls Tryz.prog 199 #[encR x] W _
 go_enter Tryz.func199,Tryz.ntmps199
 go_wp2
 first|go_ret|go_ret2
 exact ⟨by simp [encR];rw [Bool.eq_iff_iff];simp;omega,0,rfl⟩
noncomputable def KE (s:aE):Option (List aE):=cA (s.length≤1073741824) (some ((goFieldsP (fun x=>x==32) (bs s)).map (·.data.toList)))
theorem aCv {M:Prop} {W:World} {H:Hp} (hH:H.le (hp W)) (hg:Gv M H) (s:aE) {r:List aE} (hr:KE s=some r):Calls Tryz.prog 198 #[.string (bs s),.func (.func 199) #[] #[]] W (eY M H W (fun v K=>∃ (ad0:Option Addr) (cap0:Nat),v=.slice ad0 r.length cap0∧Sl (aD bY) 1 K ad0 cap0 r)):=by
 unfold KE at hr;obtain ⟨hl,hr⟩:=aF hr;obtain rfl:=Option.some.inj hr;refine (Any.strings_FieldsFunc_runes Tryz.lays229 199 #[] Tryz.call199 (fun x=>x==32) (bs s) W (by rw [fV];omega) (WZ W) (by kernel_rfl) (by kernel_rfl)).mono ?_;rintro e w' ⟨A,rfl,hA,ho,hb⟩;have hE:gP M W w':=gP.of_below hg.gl.nq hb;generalize goFieldsP (fun x=>x==32) (bs s)=l at ho;refine ⟨⟨some ⟨A,0,none⟩,l.length,by rw [List.length_map],?_⟩,hE⟩;rcases ho.2 with ⟨h,_⟩|⟨g,cap,cur,h,_,hg,h1,h2,h3,h4⟩
 ·cases h
 cases h;refine ⟨by rw [List.length_map];unfold maxLen at h2;omega,fun i x hx=>?_⟩;rw [List.getElem?_map,Option.map_eq_some_iff] at hx;obtain ⟨y,hy,rfl⟩:=hx;refine ⟨_,bY y.data.toList,rfl,rfl,rfl,⟨by rw [eA rfl],fun j v hv=>?_⟩,rfl⟩;rw [eA rfl]
 cases j with
 | succ j=>simp [bY] at hv
 | zero =>
  have hv:v=.string (bs y.data.toList):=by simpa [bY] using hv.symm
  subst hv;refine ⟨cur,9,(0,0),by show (if A<W.heap.size then _ else w'.heap[A]?)=_;rw [if_neg (by omega)];exact hg,?_⟩;have hi:i<l.length:=(List.getElem?_eq_some_iff.1 hy).1;have:(cur.toList.take (l.length*1))[i]?=some (.string y):=by rw [h4];simp [hy]
  rw [List.getElem?_take,if_pos (by omega)] at this;rw [← VH y];simpa using this
end
end T12
set_option maxHeartbeats 4000000
namespace T12
open Go Go.Proofs Pk Tryz
noncomputable section
def OS (line:aE) (s1:Int):Option ((Int)⊕(Int)):= ((if s1<(line.length:Int) then cA (0≤s1) <| line[s1.toNat]?.bind fun x0=>some (decide ((x0.toNat:Int)≠32)) else some false):Option (Bool)).bind fun t31=>if t31 then cA (-9223372036854775808≤(s1+1)∧(s1+1)≤9223372036854775807) <| some (.inl (s1+1)) else some (.inr s1)
def XA (line:aE) (ga:Int):Option (Int):= (bC (OS line) ga).bind fun e16=>some e16
def XB (cX:aE):Option (Int×Bool):= if cX=[114,101,115,117,108,116] then some (0,false) else if cX=[109,111,118,101] then some (0,true) else ((if cX=[100,97,121] then some (decide (cX=[100,97,121])) else ((if cX=[104,111,117,115,101] then some (decide (cX=[104,111,117,115,101])) else ((if cX=[97,100,111,112,116] then some (decide (cX=[97,100,111,112,116])) else some (decide (cX=[111,114,100,101,114]))):Option (Bool)).bind fun t0=>some t0):Option (Bool)).bind fun t1=>some t1):Option (Bool)).bind fun t2=>if t2 then some (1,false) else if cX=[115,97,121] then some (1,true) else ((if cX=[114,101,109,111,118,101] then some (decide (cX=[114,101,109,111,118,101])) else ((if cX=[99,105,116,101] then some (decide (cX=[99,105,116,101])) else some (decide (cX=[112,97,105,114]))):Option (Bool)).bind fun t3=>some t3):Option (Bool)).bind fun t4=>if t4 then some (2,false) else if cX=[99,104,97,110,103,101] then some (2,true) else ((if cX=[98,105,110,100] then some (decide (cX=[98,105,110,100])) else ((if cX=[104,105,100,101] then some (decide (cX=[104,105,100,101])) else some (decide (cX=[116,101,108,108]))):Option (Bool)).bind fun t5=>some t5):Option (Bool)).bind fun t6=>if t6 then some (3,false) else if cX=[97,100,100] then some (3,true) else if cX=[100,105,118,105,100,101] then some (4,false) else if cX=[112,97,112,101,114] then some (4,true) else some ((-1),false)
def zM (t21:aE) (s1:Nat×Int):Option ((Nat×Int)⊕((Int)⊕(Int×Bool))):= if (s1.1:Int)<(t21.length:Int) then ((t21[s1.1]?.bind fun x1=>if (x1.toNat:Int)<48 then some true else some (decide (57<(x1.toNat:Int)))):Option (Bool)).bind fun t0=>if t0 then some (.inr (.inr (0,false))) else cA (-9223372036854775808≤(10*s1.2)∧(10*s1.2)≤9223372036854775807) <| t21[s1.1]?.bind fun x0=>cA (-9223372036854775808≤((10*s1.2)+(((x0.toNat:Int)-48)%256))∧((10*s1.2)+(((x0.toNat:Int)-48)%256))≤9223372036854775807) <| cA (-9223372036854775808≤((s1.1:Int)+1)∧((s1.1:Int)+1)≤9223372036854775807) <| some (.inl ((s1.1+1),((10*s1.2)+(((x0.toNat:Int)-48)%256)))) else some (.inr (.inl s1.2))
def IN (ai:aE):Option (Int×Bool):= ((if 0<(ai.length:Int) then ai[0]?.bind fun x0=>some (decide ((x0.toNat:Int)=45)) else some false):Option (Bool)).bind fun t7=>((if t7 then cA (1≤ai.length) <| some (ai.drop 1) else some ai):Option (aE)).bind fun t21=>((if (t21.length:Int)=0 then some true else if 9<(t21.length:Int) then some true else t21[0]?.bind fun x1=>if (x1.toNat:Int)=48 then if 1<(t21.length:Int) then some true else some t7 else some false):Option (Bool)).bind fun t44=>if t44 then some (0,false) else (bC (zM t21) (0,0)).bind fun eA1=>match eA1 with | .inr z=>some z | .inl t0=>((if t7 then cA (-9223372036854775808≤(0-t0)∧(0-t0)≤9223372036854775807) <| some (0-t0) else some t0):Option (Int)).bind fun t1=>some (t1,true)
def OT (r8:Int×Bool) (line:aE) (s1:Nat×Int×List Int):Option ((Nat×Int×List Int)⊕((Int×List Int)⊕(aE×List Int×aE×Bool))):= if (s1.1:Int)<r8.1 then if s1.2.1=(line.length:Int) then some (.inr (.inr ([],([]:List Int),[],false))) else cA (-9223372036854775808≤(s1.2.1+1)∧(s1.2.1+1)≤9223372036854775807) <| (XA line (s1.2.1+1)).bind fun r0=>cA (0≤(s1.2.1+1)) <| cA (0≤r0) <| cA ((s1.2.1+1).toNat≤r0.toNat∧r0.toNat≤line.length) <| (IN ((line.drop ((s1.2.1+1).toNat)).take (r0.toNat-((s1.2.1+1).toNat)))).bind fun r1=>if r1.2 then cA (s1.2.2.length+1≤1073741824) <| cA (-9223372036854775808≤((s1.1:Int)+1)∧((s1.1:Int)+1)≤9223372036854775807) <| some (.inl ((s1.1+1),r0,(s1.2.2++[r1.1]))) else some (.inr (.inr ([],([]:List Int),[],false))) else some (.inr (.inl (s1.2.1,s1.2.2)))
def m16 (line:aE):Option (aE×List Int×aE×Bool):= (XA line 0).bind fun r1=>cA (0≤r1) <| cA (r1.toNat≤line.length) <| (XB (line.take r1.toNat)).bind fun r8=>if r8.1<0 then some ([],([]:List Int),[],false) else (bC (OT r8 line) (0,r1,([]:List Int))).bind fun eA1=>match eA1 with | .inr z=>some z | .inl t0=>if r8.2==decide (t0.1<(line.length:Int)) then if r8.2 then cA (-9223372036854775808≤(t0.1+1)∧(t0.1+1)≤9223372036854775807) <| cA (0≤(t0.1+1)) <| cA ((t0.1+1).toNat≤line.length) <| some ((line.take r1.toNat),t0.2,(line.drop ((t0.1+1).toNat)),true) else some ((line.take r1.toNat),t0.2,[],true) else some ([],([]:List Int),[],false)
def XC (lines:List aE) (s1:Nat×Int×Int):Option ((Nat×Int×Int)⊕(Int×Int)):= if (s1.1:Int)<(lines.length:Int) then lines[s1.1]?.bind fun x0=>(m16 x0).bind fun r0=>((if r0.2.2.2 then some (decide (r0.1=[116,101,108,108])) else some false):Option (Bool)).bind fun t0=>((if t0 then some (IntKind.i64.wrap (s1.2.2+1)) else some s1.2.2):Option (Int)).bind fun t1=>some (.inl ((s1.1+1),(IntKind.i64.wrap (s1.2.1+(x0.length:Int))),t1)) else some (.inr (s1.2.1,s1.2.2))
def m5 (lines:List aE):Option (Bool):= (bC (XC lines) (0,0,0)).bind fun e55=>((if e55.2≤8 then if (lines.length:Int)≤40 then if e55.1≤1500 then some true else if (lines.length:Int)≤62 then if e55.1≤200 then some true else if (lines.length:Int)=1 then some (decide (e55.1≤410)) else some false else if (lines.length:Int)=1 then some (decide (e55.1≤410)) else some false else if (lines.length:Int)≤62 then if e55.1≤200 then some true else if (lines.length:Int)=1 then some (decide (e55.1≤410)) else some false else if (lines.length:Int)=1 then some (decide (e55.1≤410)) else some false else some false):Option (Bool)).bind fun t0=>some t0
def XD (lines:List aE) (s1:Nat):Option ((Nat)⊕(Unit⊕Bool)):= if (s1:Int)<(lines.length:Int) then lines[s1]?.bind fun x0=>if 400<(x0.length:Int) then some (.inr (.inr false)) else some (.inl (s1+1)) else some (.inr (.inl ()))
def m6 (lines:List aE):Option (Bool):= (bC (XD lines) 0).bind fun e16=>match e16 with | .inr z=>some z | .inl t0=>some (decide ((lines.length:Int)≤60))
def XE (cy:Int) (low:Int) (high:Int):Option (Bool):= ((if low≤cy then some (decide (cy≤high)) else some false):Option (Bool)).bind fun t4=>some t4
def EA (bj:List Int) (most:Int) (s1:Nat):Option ((Nat)⊕(Unit⊕Bool)):= if (s1:Int)<(bj.length:Int) then ((bj[s1]?.bind fun x0=>(XE x0 0 most).bind fun r0=>if r0 then if 0<(s1:Int) then (bj[((s1:Int)-1).toNat]?).bind fun x1=>some (decide (x0≤x1)) else some false else some true):Option (Bool)).bind fun t0=>if t0 then some (.inr (.inr false)) else some (.inl (s1+1)) else some (.inr (.inl ()))
def m28 (bj:List Int) (most:Int):Option (Bool):= (bC (EA bj most) 0).bind fun e36=>match e36 with | .inr z=>some z | .inl t39=>some true
def m12 (aw:eV):Option (Bool):= (((XE aw.year 0 9999).bind fun r0=>if r0 then (m28 aw.may 7).bind fun r24=>some r24 else some false):Option (Bool)).bind fun t0=>some t0
def m18 : Option (List aE):= some ([[104,111,117,115,101,32,53],[115,97,121,32,49,49,32,84,104,101,32,72,111,117,115,101,32,109,101,116,46],[109,111,118,101,32,116,104,105,115,32,72,111,117,115,101,32,110,111,116,101,115,32,116,104,101,32,114,101,112,111,114,116],[112,97,112,101,114,32,51,32,48,32,50,32,51,32,119,101,108,99,111,109,101,115],[97,100,111,112,116,32,51],[100,105,118,105,100,101,32,48,32,48,32,51,32,50],[116,101,108,108,32,49,32,48,32,48],[116,101,108,108,32,49,32,49,32,48],[116,101,108,108,32,49,32,48,32,49],[116,101,108,108,32,49,32,49,32,49],[116,101,108,108,32,50,32,48,32,52],[114,101,115,117,108,116],[116,101,108,108,32,50,32,49,32,52],[114,101,115,117,108,116],[111,114,100,101,114,32,49,50],[98,105,110,100,32,51,32,52,32,50,48],[104,105,100,101,32,49,49,32,50,32,49,57,57,48],[99,105,116,101,32,49,50,32,48]]:List aE)
def EB (ai:List aE) (cg:aE→Option Bool) (s1:Nat):Option ((Nat)⊕(Unit⊕Int)):= if (s1:Int)<(ai.length:Int) then ai[s1]?.bind fun x0=>(cg x0).bind fun r0=>if r0 then some (.inr (.inr (s1:Int))) else some (.inl (s1+1)) else some (.inr (.inl ()))
def m55 (ai:List aE) (cg:aE→Option Bool):Option (Int):= (bC (EB ai cg) 0).bind fun e19=>match e19 with | .inr z=>some z | .inl t0=>some (-1)
def UU (ai:List aE) (cg:aE→Option Bool):Option (Bool):= (m55 ai cg).bind fun r1=>some (decide (0≤r1))
def RB (ai:aE):Option (Bool):= some (decide (400<(ai.length:Int)))
def UV (lines:List aE):Option (Int):= ((if 60<(lines.length:Int) then some true else (UU lines (RB)).bind fun r0=>some r0):Option (Bool)).bind fun t8=>if t8 then some 3 else some 0
def zN (cy:Int) (low:Int) (high:Int):Option (Bool):= ((if low≤cy then some (decide (cy≤high)) else some false):Option (Bool)).bind fun t4=>some t4
def jL (jj:Bool) (e:Int):Option (Unit⊕Unit):= if jj then some (.inl ()) else some (.inr ())
def KF (ac:aI) (bz:List Int) (db:aE):Option (aI⊕Int):= bz[0]?.bind fun x3=>(zN x3 ac.state.day 99999).bind fun r0=>(jL r0 2).bind fun r1=>match r1 with | .inl y0=>(some (.inl (⟨({ac.state with day:=x3}:dE)⟩:aI))) | .inr _=>some (.inr 2)
def EC (ai:List eI):Option (List eI):= cA (([]:List eI).length+ai.length≤1073741824) <| some (([]:List eI)++ai)
def KG (ai:List aH):Option (List aH):= cA (([]:List aH).length+ai.length≤1073741824) <| some (([]:List aH)++ai)
def AT (bj:List aH) (ct:aH):Option (List aH):= (KG bj).bind fun r4=>cA (r4.length+([ct]:List aH).length≤1073741824) <| some (r4++([ct]:List aH))
def OU (ac:aI) (parts:List eI):Option (bD):= some (⟨1,ac.state.day,1,10,parts⟩:bD)
def KH (ac:aI) (parts:List eI):Option (bD):= some (⟨1,ac.state.day,1,10,parts⟩:bD)
def vJ (ba:bD) (s1:Nat×List aH):Option ((Nat×List aH)⊕(List aH)):= if (s1.1:Int)<(ba.parts.length:Int) then ba.parts[s1.1]?.bind fun x0=>cA (s1.2.length+x0.paragraphs.length≤1073741824) <| some (.inl ((s1.1+1),(s1.2++x0.paragraphs))) else some (.inr s1.2)
def CA (ba:bD):Option (List aH):= (bC (vJ ba) (0,([]:List aH))).bind fun e82=>some e82
def IP (cy:Int) (low:Int) (high:Int):Option (Bool):= ((if low≤cy then some (decide (cy≤high)) else some false):Option (Bool)).bind fun t4=>some t4
def KI (cy:Int):Option (Bool):= (IP cy 0 99999).bind fun r1=>some r1
def xD (aw:aH) (bx:aH→Option Bool):Option (Bool):= (bx aw).bind fun r4=>some (!r4)
def ED (ai:List aH) (cg:aH→Option Bool) (s1:Nat):Option ((Nat)⊕(Unit⊕Int)):= if (s1:Int)<(ai.length:Int) then ai[s1]?.bind fun x0=>(cg x0).bind fun r0=>if r0 then some (.inr (.inr (s1:Int))) else some (.inl (s1+1)) else some (.inr (.inl ()))
def RD (ai:List aH) (cg:aH→Option Bool):Option (Int):= (bC (ED ai cg) 0).bind fun e19=>match e19 with | .inr z=>some z | .inl t0=>some (-1)
def RF (ai:List aH) (cg:aH→Option Bool):Option (Bool):= (RD ai cg).bind fun r1=>some (decide (0≤r1))
def AU (bj:List aH) (right:aH→Option Bool):Option (Bool):= (RF bj (fun x0_=>xD x0_ right)).bind fun r5=>some (!r5)
def UW (cy:Int):Option (Bool):= (IP cy 1 999).bind fun r1=>some r1
def xE (aw:Int) (bx:Int→Option Bool):Option (Bool):= (bx aw).bind fun r1=>some (!r1)
def tA (ai:List UInt8) (cg:Int→Option Bool) (s1:Nat):Option ((Nat)⊕(Unit⊕Int)):= if (s1:Int)<(ai.length:Int) then ai[s1]?.bind fun x0=>(cg (x0.toNat:Int)).bind fun r0=>if r0 then some (.inr (.inr (s1:Int))) else some (.inl (s1+1)) else some (.inr (.inl ()))
def EE (ai:List UInt8) (cg:Int→Option Bool):Option (Int):= (bC (tA ai cg) 0).bind fun e19=>match e19 with | .inr z=>some z | .inl t0=>some (-1)
def xF (ai:List UInt8) (cg:Int→Option Bool):Option (Bool):= (EE ai cg).bind fun r1=>some (decide (0≤r1))
def KJ (bj:List UInt8) (right:Int→Option Bool):Option (Bool):= (xF bj (fun x0_=>xE x0_ right)).bind fun r5=>some (!r5)
def AV (fh:Int):Option (Bool):= ((if (32:Int)≤fh then some (decide (fh≤126)) else some false):Option (Bool)).bind fun t4=>some t4
def wE (ai:aE):Option (Bool):= (((IP (ai.length:Int) 1 200).bind fun r0=>if r0 then cA (ai.length≤1073741824) <| (KJ ai (AV)).bind fun r1=>some r1 else some false):Option (Bool)).bind fun t0=>some t0
def jP (ea:aH):Option (Bool):= (((UW ea.anchor).bind fun r0=>if r0 then (wE ea.text).bind fun r1=>some r1 else some false):Option (Bool)).bind fun t13=>some t13
def zO (ba:bD) (s1:Nat):Option ((Nat)⊕(Unit⊕Bool)):= if (s1:Int)<(ba.parts.length:Int) then ba.parts[s1]?.bind fun x0=>(((KI x0.day).bind fun r0=>if r0 then if ba.bound<x0.day then some true else if 0<(s1:Int) then (ba.parts[((s1:Int)-1).toNat]?).bind fun x1=>some (decide (x0.day≤x1.day)) else some false else some true):Option (Bool)).bind fun t0=>if t0 then some (.inr (.inr false)) else some (.inl (s1+1)) else some (.inr (.inl ()))
def KK (ba:bD):Option (Bool):= (bC (zO ba) 0).bind fun e55=>match e55 with | .inr z=>some z | .inl t58=>(((IP ba.number 1 99).bind fun r0=>if r0 then (KI ba.bound).bind fun r1=>if r1 then (IP ba.height 1 60).bind fun r2=>if r2 then (IP ba.width 10 80).bind fun r3=>if r3 then (CA ba).bind fun r4=>(AU r4 (jP)).bind fun r5=>some r5 else some false else some false else some false else some false):Option (Bool)).bind fun t0=>some t0
def zP (r7:List aH) (s98:Nat×(List (Int×Bool))):Option ((Nat×(List (Int×Bool)))⊕(((List (Int×Bool)))⊕Int)):= if (s98.1:Int)<(r7.length:Int) then r7[s98.1]?.bind fun x0=>if (eN s98.2 x0.anchor).getD false then some (.inr (.inr 6)) else some (.inl ((s98.1+1),(put s98.2 x0.anchor true))) else some (.inr (.inl s98.2))
def AW (ba:bD):Option (Int):= (CA ba).bind fun r7=>((if 6<(ba.parts.length:Int) then some true else some (decide (30<(r7.length:Int)))):Option (Bool)).bind fun t30=>if t30 then some 3 else (KK ba).bind fun r0=>if r0 then (bC (zP r7) (0,([]:List (Int×Bool)))).bind fun e94=>match e94 with | .inr z=>some z | .inl t0=>some 0 else some 1
def nP (e:Int):Option (Unit⊕Unit):= (jL (decide (e=0)) e).bind fun r1=>match r1 with | .inl y4=>some (.inl ()) | .inr _=>some (.inr ())
def xG (ac:aI) (bz:List Int) (text:aE):Option (aI⊕Int):= (jL (!ac.state.bound) 8).bind fun r3=>match r3 with | .inl y6=>(bz[0]?.bind fun x8=>(EC ac.state.volume.parts).bind fun r0=>((if 0≤((r0.length:Int)-1) then (r0[((r0.length:Int)-1).toNat]?).bind fun x1=>some (decide (x1.day=ac.state.day)) else some false):Option (Bool)).bind fun t45=>((if t45 then cA (0≤((r0.length:Int)-1)) <| (r0[((r0.length:Int)-1).toNat]?).bind fun x0=>(AT x0.paragraphs (⟨x8,text⟩:aH)).bind fun r2=>some (r0.set (((r0.length:Int)-1).toNat) (⟨x0.day,r2⟩:eI)) else cA (r0.length+([(⟨ac.state.day,([(⟨x8,text⟩:aH)]:List aH)⟩:eI)]:List eI).length≤1073741824) <| some (r0++([(⟨ac.state.day,([(⟨x8,text⟩:aH)]:List aH)⟩:eI)]:List eI))):Option (List eI)).bind fun t142=>(OU ac t142).bind fun r4=>(AW r4).bind fun r1=>(nP r1).bind fun r5=>match r5 with | .inl y0=>(some (.inl (⟨({ac.state with volume:=({ac.state.volume with parts:=t142}:bD)}:dE)⟩:aI))) | .inr _=>some (.inr r1)) | .inr _=>some (.inr 8)
def KL (ac:aI) (bz:List Int) (db:aE):Option (aI⊕Int):= (jL (!ac.state.bound) 8).bind fun r3=>match r3 with | .inl y6=>(bz[0]?.bind fun x8=>bz[1]?.bind fun x0=>bz[2]?.bind fun x1=>(AW (⟨x8,ac.state.day,x0,x1,ac.state.volume.parts⟩:bD)).bind fun r0=>(nP r0).bind fun r1=>match r1 with | .inl y0=>(some (.inl (⟨({ac.state with volume:=(⟨x8,ac.state.day,x0,x1,ac.state.volume.parts⟩:bD),bound:=true}:dE)⟩:aI))) | .inr _=>some (.inr r0)) | .inr _=>some (.inr 8)
def vK (ai:List aL):Option (List aL):= cA (([]:List aL).length+ai.length≤1073741824) <| some (([]:List aL)++ai)
def KM (bj:List aL) (ct:aL):Option (List aL):= (vK bj).bind fun r4=>cA (r4.length+([ct]:List aL).length≤1073741824) <| some (r4++([ct]:List aL))
def RG (aw:aL) (bx:aL→Option Bool):Option (Bool):= (bx aw).bind fun r4=>some (!r4)
def EF (ai:List aL) (cg:aL→Option Bool) (s1:Nat):Option ((Nat)⊕(Unit⊕Int)):= if (s1:Int)<(ai.length:Int) then ai[s1]?.bind fun x0=>(cg x0).bind fun r0=>if r0 then some (.inr (.inr (s1:Int))) else some (.inl (s1+1)) else some (.inr (.inl ()))
def RH (ai:List aL) (cg:aL→Option Bool):Option (Int):= (bC (EF ai cg) 0).bind fun e19=>match e19 with | .inr z=>some z | .inl t0=>some (-1)
def m62 (ai:List aL) (cg:aL→Option Bool):Option (Bool):= (RH ai cg).bind fun r1=>some (decide (0≤r1))
def m40 (bj:List aL) (right:aL→Option Bool):Option (Bool):= (m62 bj (fun x0_=>RG x0_ right)).bind fun r5=>some (!r5)
def RI (aw:aL):Option (Bool):= (((IP aw.number 1 999).bind fun r22=>if r22 then (KI aw.day).bind fun r0=>if r0 then (UW aw.anchor).bind fun r1=>some (!r1) else some true else some true):Option (Bool)).bind fun t0=>if t0 then some false else if aw.kind=0 then (((wE aw.text).bind fun r2=>if r2 then some (decide (aw.new_=0)) else some false):Option (Bool)).bind fun t1=>some t1 else if aw.kind=1 then ((if aw.text=[] then some (decide (aw.new_=0)) else some false):Option (Bool)).bind fun t2=>some t2 else if aw.kind=2 then (((wE aw.text).bind fun r3=>if r3 then (UW aw.new_).bind fun r4=>some r4 else some false):Option (Bool)).bind fun t3=>some t3 else some false
def xH (aw:Int):Option (Bool):= some (decide (aw≠aw))
def EG (aw:Int) (fk:Int):Option (Int):= (xH aw).bind fun r1=>(xH fk).bind fun r4=>if r1 then if r4 then some 0 else some (-1) else if r4 then some 1 else if aw<fk then some (-1) else if fk<aw then some 1 else some 0
def tB (vals:List Int) (s1:Nat):Option ((Nat)⊕(Unit⊕Int)):= if (s1:Int)<(vals.length:Int) then vals[s1]?.bind fun x0=>if x0≠0 then some (.inr (.inr x0)) else some (.inl (s1+1)) else some (.inr (.inl ()))
def KN (vals:List Int):Option (Int):= (bC (tB vals) 0).bind fun e16=>match e16 with | .inr z=>some z | .inl t0=>some 0
def pN (ef:aL) (eh:aL):Option (Int):= (EG ef.day eh.day).bind fun r7=>(EG ef.number eh.number).bind fun r11=>(KN ([r7,r11]:List Int)).bind fun r0=>some r0
def RJ (r1:List aL) (l6:List aL) (gc:Int) (yield:aL→Option Bool) (s1:Nat):Option ((Nat)⊕(Unit⊕Unit)):= if (s1:Int)<(r1.length:Int) then l6[s1]?.bind fun x0=>((if gc<x0.day then some true else (yield x0).bind fun r0=>some (!r0)):Option (Bool)).bind fun t0=>if t0 then some (.inr (.inr ())) else some (.inl (s1+1)) else some (.inr (.inl ()))
def aCx (yield:aL→Option Bool) (bx:List aL) (gc:Int):Option (Unit):= (vK bx).bind fun r1=>(iT (pN) r1).bind fun l6=>(bC (RJ r1 l6 gc yield) 0).bind fun e31=>match e31 with | .inr z=>some z | .inl t34=>some ()
def EH (r10:List aH) (s50:Nat×(List (Int×Bool))):Option ((Nat×(List (Int×Bool)))⊕((List (Int×Bool)))):= if (s50.1:Int)<(r10.length:Int) then r10[s50.1]?.bind fun x0=>some (.inl ((s50.1+1),(put s50.2 x0.anchor true))) else some (.inr s50.2)
def OV (r0:List aL) (l0:List aL) (s1:Nat×(List (Int×Bool))):Option ((Nat×(List (Int×Bool)))⊕(((List (Int×Bool)))⊕(((List (Int×Bool)))⊕(Nat×(List (Int×Bool)))))):= if (s1.1:Int)<(r0.length:Int) then l0[s1.1]?.bind fun x0=>if 99999<x0.day then some (.inr (.inr (.inl s1.2))) else ((if (eN s1.2 x0.anchor).getD false then ((if x0.kind=2 then some (put s1.2 x0.new_ true) else some s1.2):Option ((List (Int×Bool)))).bind fun t0=>some (.inr t0) else some (.inl 7)):Option ((Nat)⊕((List (Int×Bool))))).bind fun t1=>match t1 with | .inl t2=>some (.inr (.inr (.inr (t2,s1.2)))) | .inr t3=>(some (.inl ((s1.1+1),t3))) else some (.inr (.inl s1.2))
def RK (ba:bD) (errata:List aL):Option (Int):= (CA ba).bind fun r10=>(bC (EH r10) (0,([]:List (Int×Bool)))).bind fun e47=>(((vK errata).bind fun r0=>(iT (pN) r0).bind fun l0=>(bC (OV r0 l0) (0,e47)).bind fun eA1=>match eA1 with | .inr z=>some z | .inl t0=>some (.inl t0)):Option (((List (Int×Bool)))⊕(Nat×(List (Int×Bool))))).bind fun t1=>match t1 with | .inl t3=>some 0 | .inr t2=>some (t2.1:Int)
def zQ (r0:List aH) (s1:Nat×(List (Int×Bool))):Option ((Nat×(List (Int×Bool)))⊕((List (Int×Bool)))):= if (s1.1:Int)<(r0.length:Int) then r0[s1.1]?.bind fun x0=>some (.inl ((s1.1+1),(put s1.2 x0.anchor true))) else some (.inr s1.2)
def EI (errata:List aL) (s1:Nat×(List (Int×Bool))×(List (Int×Bool))):Option ((Nat×(List (Int×Bool))×(List (Int×Bool)))⊕(((List (Int×Bool))×(List (Int×Bool)))⊕Int)):= if (s1.1:Int)<(errata.length:Int) then errata[s1.1]?.bind fun x0=>((if (eN s1.2.1 x0.number).getD false then some true else if x0.kind=2 then some ((eN s1.2.2 x0.new_).getD false) else some false):Option (Bool)).bind fun t0=>if t0 then some (.inr (.inr 6)) else ((if x0.kind=2 then some (put s1.2.2 x0.new_ true) else some s1.2.2):Option ((List (Int×Bool)))).bind fun t1=>some (.inl ((s1.1+1),(put s1.2.1 x0.number true),t1)) else some (.inr (.inl (s1.2.1,s1.2.2)))
def CB (ba:bD) (errata:List aL):Option (Int):= (AW ba).bind fun r7=>if r7≠0 then some r7 else if 20<(errata.length:Int) then some 3 else (m40 errata (RI)).bind fun r0=>if r0 then (CA ba).bind fun r1=>(bC (zQ r1) (0,([]:List (Int×Bool)))).bind fun e88=>(bC (EI errata) (0,([]:List (Int×Bool)),e88)).bind fun eA1=>match eA1 with | .inr z=>some z | .inl t0=>(RK ba errata).bind fun r2=>some r2 else some 1
def XF (x0:List bZ) (anchor:Int) (s2:Nat×Nat×Nat×Bool) (s1:Nat×Nat×Nat×Bool):Option ((Nat×Nat×Nat×Bool)⊕((Nat×Nat×Bool)⊕((Nat×Nat×Nat×Bool)⊕(Nat×Nat×Bool)))):= if (s1.2.2.1:Int)<(x0.length:Int) then x0[s1.2.2.1]?.bind fun x1=>if x1.paragraph.anchor=anchor then Option.map (fun z=>.inr (.inr z)) (some (.inr (s2.2.2.1,s1.2.2.1,true))) else some (.inl (s1.1,s1.2.1,(s1.2.2.1+1),s1.2.2.2)) else some (.inr (.inl (s1.1,s1.2.1,s1.2.2.2)))
def XG (ac:fY) (anchor:Int) (s1:Nat×Nat×Nat×Bool):Option ((Nat×Nat×Nat×Bool)⊕(Nat×Nat×Bool)):= if (s1.2.2.1:Int)<(ac.parts.length:Int) then ac.parts[s1.2.2.1]?.bind fun x0=>(bC (XF x0 anchor s1) (s1.1,s1.2.1,0,s1.2.2.2)).bind fun eA1=>match eA1 with | .inr z=>some z | .inl t0=>some (.inl (t0.1,t0.2.1,(s1.2.2.1+1),t0.2.2)) else some (.inr (s1.1,s1.2.1,s1.2.2.2))
def m48 (ac:fY) (anchor:Int):Option (Int×Int×Bool):= (bC (XG ac anchor) (0,0,0,false)).bind fun e40=>some ((e40.1:Int),(e40.2.1:Int),e40.2.2)
def m67 : Option (Unit):= some ()
def EJ (x0:eI) (s1:Nat×List bZ):Option ((Nat×List bZ)⊕(List bZ)):= if (s1.1:Int)<(x0.paragraphs.length:Int) then x0.paragraphs[s1.1]?.bind fun x1=>cA (s1.2.length+1≤1073741824) <| some (.inl ((s1.1+1),(s1.2++[(⟨x1,false⟩:bZ)]))) else some (.inr s1.2)
def zR (ba:bD) (s1:Nat×List (List bZ)):Option ((Nat×List (List bZ))⊕(List (List bZ))):= if (s1.1:Int)<(ba.parts.length:Int) then ba.parts[s1.1]?.bind fun x0=>(bC (EJ x0) (0,([]:List bZ))).bind fun eA1=>cA (s1.2.length+1≤1073741824) <| some (.inl ((s1.1+1),(s1.2++[eA1]))) else some (.inr s1.2)
def zS (x0:List bZ) (x1:aL) (s2:Nat×Nat×Nat×Bool) (s1:Nat×Nat×Nat×Bool):Option ((Nat×Nat×Nat×Bool)⊕((Nat×Nat×Bool)⊕((Nat×Nat×Nat×Bool)⊕(Nat×Nat×Bool)))):= if (s1.2.2.1:Int)<(x0.length:Int) then x0[s1.2.2.1]?.bind fun x2=>if x2.paragraph.anchor=x1.anchor then Option.map (fun z=>.inr (.inr z)) (some (.inr (s2.2.2.1,s1.2.2.1,true))) else cA (-9223372036854775808≤((s1.2.2.1:Int)+1)∧((s1.2.2.1:Int)+1)≤9223372036854775807) <| some (.inl (s1.1,s1.2.1,(s1.2.2.1+1),s1.2.2.2)) else some (.inr (.inl (s1.1,s1.2.1,s1.2.2.2)))
def pH (s2:Nat×List (List bZ)) (x0:aL) (s1:Nat×Nat×Nat×Bool):Option ((Nat×Nat×Nat×Bool)⊕(Nat×Nat×Bool)):= if (s1.2.2.1:Int)<(s2.2.length:Int) then s2.2[s1.2.2.1]?.bind fun x1=>(bC (zS x1 x0 s1) (s1.1,s1.2.1,0,s1.2.2.2)).bind fun eA1=>match eA1 with | .inr z=>some z | .inl t0=>cA (-9223372036854775808≤((s1.2.2.1:Int)+1)∧((s1.2.2.1:Int)+1)≤9223372036854775807) <| some (.inl (t0.1,t0.2.1,(s1.2.2.1+1),t0.2.2)) else some (.inr (s1.1,s1.2.1,s1.2.2.2))
def zT (r0:List aL) (l0:List aL) (fa:Int) (s1:Nat×List (List bZ)):Option ((Nat×List (List bZ))⊕((List (List bZ))⊕(List (List bZ)))):= if (s1.1:Int)<(r0.length:Int) then l0[s1.1]?.bind fun x0=>((if fa<x0.day then some (true,s1.2) else (((((bC (pH s1 x0) (0,0,0,false)).bind fun eA1=>some (eA1.2.1,eA1.1,eA1.2.2)):Option (Nat×Nat×Bool)).bind fun t0=>((if t0.2.2 then (m67).bind fun r1=>cA (0≤x0.kind) <| if x0.kind=0 then ((s1.2[t0.2.1]?.bind fun x3=>x3[t0.1]?.bind fun x2=>((if x2.removed then some s1.2 else some (s1.2.set t0.2.1 (x3.set t0.1 (⟨(⟨x2.paragraph.anchor,x0.text⟩:aH),x2.removed⟩:bZ)))):Option (List (List bZ))).bind fun t2=>some t2):Option (List (List bZ))).bind fun t3=>some t3 else if x0.kind=1 then ((s1.2[t0.2.1]?.bind fun x4=>x4[t0.1]?.bind fun x5=>some (s1.2.set t0.2.1 (x4.set t0.1 (⟨x5.paragraph,true⟩:bZ)))):Option (List (List bZ))).bind fun t4=>some t4 else if x0.kind=2 then ((s1.2[t0.2.1]?.bind fun x1=>cA (-9223372036854775808≤((t0.1:Int)+1)∧((t0.1:Int)+1)≤9223372036854775807) <| cA (x1.length+1≤1073741824) <| cA (((t0.1:Int)+1).toNat≤x1.length) <| some (s1.2.set t0.2.1 (x1.take (((t0.1:Int)+1).toNat)++[(⟨(⟨x0.new_,x0.text⟩:aH),false⟩:bZ)]++x1.drop (((t0.1:Int)+1).toNat)))):Option (List (List bZ))).bind fun t5=>some t5 else none else some s1.2):Option (List (List bZ))).bind fun t6=>some t6):Option (List (List bZ))).bind fun t7=>some (false,t7)):Option (Bool×List (List bZ))).bind fun t1=>if t1.1 then some (.inr (.inr t1.2)) else some (.inl ((s1.1+1),t1.2)) else some (.inr (.inl s1.2))
def EK (ba:bD) (errata:List aL) (fa:Int):Option (fY):= (bC (zR ba) (0,([]:List (List bZ)))).bind fun eA1=>(((vK errata).bind fun r0=>(iT (pN) r0).bind fun l0=>(bC (zT r0 l0 fa) (0,eA1)).bind fun eB1=>match eB1 with | .inr z=>some z | .inl t0=>some t0):Option (List (List bZ))).bind fun t1=>some (⟨ba,t1⟩:fY)
def zU (x0:List bZ) (s1:Nat×List aH):Option ((Nat×List aH)⊕(List aH)):= if (s1.1:Int)<(x0.length:Int) then x0[s1.1]?.bind fun x1=>((if x1.removed then some s1.2 else cA (s1.2.length+1≤1073741824) <| some (s1.2++[x1.paragraph])):Option (List aH)).bind fun t0=>some (.inl ((s1.1+1),t0)) else some (.inr s1.2)
def zV (r0:fY) (s1:Nat×List aH):Option ((Nat×List aH)⊕(List aH)):= if (s1.1:Int)<(r0.parts.length:Int) then r0.parts[s1.1]?.bind fun x0=>(bC (zU x0) (0,s1.2)).bind fun eA1=>some (.inl ((s1.1+1),eA1)) else some (.inr s1.2)
def EM (ba:bD) (errata:List aL) (fa:Int):Option (List aH×Int):= (CB ba errata).bind fun r7=>if r7≠0 then some (([]:List aH),r7) else (KI fa).bind fun r0=>if r0 then (EK ba errata fa).bind fun r1=>(bC (zV r1) (0,([]:List aH))).bind fun eA1=>some (eA1,0) else some (([]:List aH),2)
def oV (ac:aI) (ct:aL):Option (aI⊕Int):= ((if ac.state.bound then (jL (decide (ac.state.volume.bound<ac.state.day)) 8).bind fun r2=>match r2 with | .inl y0=>some (.inl ()) | .inr _=>(some (.inr (.inr 8))) else (jL false 8).bind fun r3=>match r3 with | .inl y1=>some (.inl ()) | .inr _=>some (.inr (.inr 8))):Option (Unit⊕(aI⊕Int))).bind fun t0=>match t0 with | .inr z=>some z | .inl t1=>(KM ac.state.errata ({ct with day:=ac.state.day}:aL)).bind fun r0=>(EM ac.state.volume r0 ac.state.day).bind fun r1=>(nP r1.2).bind fun r4=>match r4 with | .inl y2=>(some (.inl (⟨({ac.state with errata:=r0}:dE)⟩:aI))) | .inr _=>some (.inr r1.2)
def RL (ac:aI) (bz:List Int) (text:aE):Option (aI⊕Int):= bz[0]?.bind fun x3=>bz[1]?.bind fun x0=>(oV ac (⟨x3,0,0,x0,text,0⟩:aL)).bind fun r0=>match r0 with | .inl y0=>some (.inl y0) | .inr y0=>some (.inr y0)
def RM (ac:aI) (bz:List Int) (db:aE):Option (aI⊕Int):= bz[0]?.bind fun x3=>bz[1]?.bind fun x0=>(oV ac (⟨x3,0,1,x0,[],0⟩:aL)).bind fun r0=>match r0 with | .inl y0=>some (.inl y0) | .inr y0=>some (.inr y0)
def RN (ac:aI) (bz:List Int) (text:aE):Option (aI⊕Int):= bz[0]?.bind fun x3=>bz[1]?.bind fun x0=>bz[2]?.bind fun x1=>(oV ac (⟨x3,0,2,x0,text,x1⟩:aL)).bind fun r0=>match r0 with | .inl y0=>some (.inl y0) | .inr y0=>some (.inr y0)
def zW (x0:List bZ) (anchor:Int) (s2:Nat×Nat×Nat×Bool) (s1:Nat×Nat×Nat×Bool):Option ((Nat×Nat×Nat×Bool)⊕((Nat×Nat×Bool)⊕((Nat×Nat×Nat×Bool)⊕(Nat×Nat×Bool)))):= if (s1.2.2.1:Int)<(x0.length:Int) then x0[s1.2.2.1]?.bind fun x1=>if x1.paragraph.anchor=anchor then Option.map (fun z=>.inr (.inr z)) (some (.inr (s2.2.2.1,s1.2.2.1,true))) else some (.inl (s1.1,s1.2.1,(s1.2.2.1+1),s1.2.2.2)) else some (.inr (.inl (s1.1,s1.2.1,s1.2.2.2)))
def pI (r0:fY) (anchor:Int) (s1:Nat×Nat×Nat×Bool):Option ((Nat×Nat×Nat×Bool)⊕(Nat×Nat×Bool)):= if (s1.2.2.1:Int)<(r0.parts.length:Int) then r0.parts[s1.2.2.1]?.bind fun x0=>(bC (zW x0 anchor s1) (s1.1,s1.2.1,0,s1.2.2.2)).bind fun eA1=>match eA1 with | .inr z=>some z | .inl t0=>some (.inl (t0.1,t0.2.1,(s1.2.2.1+1),t0.2.2)) else some (.inr (s1.1,s1.2.1,s1.2.2.2))
def CC (ba:bD) (errata:List aL) (anchor:Int) (fw:Int):Option (aE×Bool×Int):= (CB ba errata).bind fun r7=>if r7≠0 then some ([],false,r7) else (KI fw).bind fun r1=>if r1 then (EK ba errata fw).bind fun r0=>(((bC (pI r0 anchor) (0,0,0,false)).bind fun eA1=>some (eA1.2.1,eA1.1,eA1.2.2)):Option (Nat×Nat×Bool)).bind fun t0=>if t0.2.2 then r0.parts[t0.2.1]?.bind fun x1=>x1[t0.1]?.bind fun x0=>some (x0.paragraph.text,x0.removed,0) else some ([],false,7) else some ([],false,2)
def EN (x1:List bZ) (ba:bD) (s2:Nat×Int×List dH) (s1:Nat×Nat×Int×List dH):Option ((Nat×Nat×Int×List dH)⊕(Int×List dH)):= if (s1.2.1:Int)<(x1.length:Int) then ((x1[s1.2.1]?.bind fun x0=>if x0.removed then some (s1.1,s1.2.2.1,s1.2.2.2) else cA (-9223372036854775808≤((s1.1:Int)+1)∧((s1.1:Int)+1)≤9223372036854775807) <| cA (-9223372036854775808≤((x0.paragraph.text.length:Int)+ba.width)∧((x0.paragraph.text.length:Int)+ba.width)≤9223372036854775807) <| cA (-9223372036854775808≤(((x0.paragraph.text.length:Int)+ba.width)-1)∧(((x0.paragraph.text.length:Int)+ba.width)-1)≤9223372036854775807) <| cA (0≤(((x0.paragraph.text.length:Int)+ba.width)-1)∧(((x0.paragraph.text.length:Int)+ba.width)-1)≤9223372036854775807∧0<ba.width) <| cA (0≤s1.2.2.1∧s1.2.2.1≤9223372036854775807∧0<ba.height) <| cA (-9223372036854775808≤(s2.2.1+(s1.2.2.1/ba.height))∧(s2.2.1+(s1.2.2.1/ba.height))≤9223372036854775807) <| cA (0≤s1.2.2.1∧0<ba.height) <| cA (-9223372036854775808≤((s1.2.2.1%ba.height)+1)∧((s1.2.2.1%ba.height)+1)≤9223372036854775807) <| ba.parts[s2.1]?.bind fun x2=>cA (s1.2.2.2.length+([(⟨(⟨x0.paragraph.anchor,(s2.2.1+(s1.2.2.1/ba.height)),((s1.2.2.1%ba.height)+1),((((x0.paragraph.text.length:Int)+ba.width)-1)/ba.width)⟩:sG),x2.day,((s1.1:Int)+1)⟩:dH)]:List dH).length≤1073741824) <| cA (-9223372036854775808≤(s1.2.2.1+((((x0.paragraph.text.length:Int)+ba.width)-1)/ba.width))∧(s1.2.2.1+((((x0.paragraph.text.length:Int)+ba.width)-1)/ba.width))≤9223372036854775807) <| some ((s1.1+1),(s1.2.2.1+((((x0.paragraph.text.length:Int)+ba.width)-1)/ba.width)),(s1.2.2.2++([(⟨(⟨x0.paragraph.anchor,(s2.2.1+(s1.2.2.1/ba.height)),((s1.2.2.1%ba.height)+1),((((x0.paragraph.text.length:Int)+ba.width)-1)/ba.width)⟩:sG),x2.day,((s1.1:Int)+1)⟩:dH)]:List dH)))):Option (Nat×Int×List dH)).bind fun t0=>some (.inl (t0.1,(s1.2.1+1),t0.2.1,t0.2.2)) else some (.inr (s1.2.2.1,s1.2.2.2))
def EO (r7:fY) (ba:bD) (s1:Nat×Int×List dH):Option ((Nat×Int×List dH)⊕(List dH)):= if (s1.1:Int)<(r7.parts.length:Int) then r7.parts[s1.1]?.bind fun x0=>(bC (EN x0 ba s1) (0,0,0,s1.2.2)).bind fun eA1=>cA (-9223372036854775808≤(eA1.1+ba.height)∧(eA1.1+ba.height)≤9223372036854775807) <| cA (-9223372036854775808≤((eA1.1+ba.height)-1)∧((eA1.1+ba.height)-1)≤9223372036854775807) <| cA (0≤((eA1.1+ba.height)-1)∧((eA1.1+ba.height)-1)≤9223372036854775807∧0<ba.height) <| cA (-9223372036854775808≤(s1.2.1+(((eA1.1+ba.height)-1)/ba.height))∧(s1.2.1+(((eA1.1+ba.height)-1)/ba.height))≤9223372036854775807) <| some (.inl ((s1.1+1),(s1.2.1+(((eA1.1+ba.height)-1)/ba.height)),eA1.2)) else some (.inr s1.2.2)
def RO (ba:bD) (errata:List aL):Option (List dH):= (EK ba errata ba.bound).bind fun r7=>(bC (EO r7 ba) (0,1,([]:List dH))).bind fun eA1=>some eA1
def xI (r0:List dH) (anchor:Int) (style:Int) (ba:bD) (s1:Nat):Option ((Nat)⊕(Unit⊕(aE×Int))):= if (s1:Int)<(r0.length:Int) then r0[s1]?.bind fun x0=>if x0.place.anchor≠anchor then some (.inl (s1+1)) else if style=0 then (xA ([(.s [118,111,108,46,32]:Any),(.i ba.number:Any),(.s [44,32,99,111,108,46,32]:Any),(.i x0.place.column:Any),(.s [44,32,108,46,32]:Any),(.i x0.place.line:Any)]:List Any)).bind fun r1=>some (.inr (.inr (r1,0))) else (xA ([(.s [118,111,108,46,32]:Any),(.i ba.number:Any),(.s [44,32]:Any),(.i x0.day:Any),(.s [44,32,112,97,114,46,32]:Any),(.i x0.number:Any)]:List Any)).bind fun r2=>some (.inr (.inr (r2,0))) else some (.inr (.inl ()))
def xJ (ba:bD) (errata:List aL) (anchor:Int) (style:Int) (fm:Int):Option (aE×Int):= (CB ba errata).bind fun r7=>if r7≠0 then some ([],r7) else ((if 2<style then some true else if style=2 then (KI fm).bind fun r1=>some (!r1) else some false):Option (Bool)).bind fun t25=>if t25 then some ([],2) else if style=2 then (CC ba errata anchor fm).bind fun r0=>if r0.2.2≠0 then some ([],r0.2.2) else (xA ([(.i anchor:Any),(.s [64]:Any),(.i fm:Any)]:List Any)).bind fun r2=>some (r2,0) else (RO ba errata).bind fun r3=>(bC (xI r3 anchor style ba) 0).bind fun eA1=>match eA1 with | .inr z=>some z | .inl t0=>some ([],7)
def RP (ai:List aE):Option (List aE):= cA (([]:List aE).length+ai.length≤1073741824) <| some (([]:List aE)++ai)
def KO (bj:List aE) (ct:aE):Option (List aE):= (RP bj).bind fun r1=>cA (r1.length+1≤1073741824) <| some (r1++[ct])
def KP (ac:aI) (bz:List Int) (db:aE):Option (aI⊕Int):= (jL ac.state.bound 8).bind fun r3=>match r3 with | .inl y6=>(bz[1]?.bind fun x8=>(zN x8 0 255).bind fun r1=>(jL r1 2).bind fun r2=>match r2 with | .inl y0=>(bz[0]?.bind fun x0=>cA (0≤x8∧x8≤255) <| (xJ ac.state.volume ac.state.errata x0 x8 ac.state.day).bind fun r0=>(nP r0.2).bind fun r4=>match r4 with | .inl y1=>((KO ac.state.cites r0.1).bind fun r5=>some (.inl (⟨({ac.state with cites:=r5}:dE)⟩:aI))) | .inr _=>some (.inr r0.2)) | .inr _=>some (.inr 2)) | .inr _=>some (.inr 8)
def OW (ac:aI):Option (bD):= if ac.state.bound then some ac.state.volume else (OU ac ac.state.volume.parts).bind fun r0=>some r0
def EP (ac:aI):Option (bD):= if ac.state.bound then some ac.state.volume else (KH ac ac.state.volume.parts).bind fun r10=>some r10
def KQ (ai:List gY):Option (List gY):= cA (([]:List gY).length+ai.length≤1073741824) <| some (([]:List gY)++ai)
def EQ (bj:List gY) (ct:gY):Option (List gY):= (KQ bj).bind fun r4=>cA (r4.length+([ct]:List gY).length≤1073741824) <| some (r4++([ct]:List gY))
def KR (ac:aI) (bz:List Int) (db:aE):Option (aI⊕Int):= ((bz[1]?.bind fun x1=>(zN x1 0 7).bind fun r1=>if r1 then bz[2]?.bind fun x2=>(zN x2 0 9999).bind fun r2=>(jL r2 1).bind fun r3=>match r3 with | .inl y0=>some (.inl ()) | .inr _=>(some (.inr (.inr 1))) else (jL false 1).bind fun r4=>match r4 with | .inl y1=>some (.inl ()) | .inr _=>some (.inr (.inr 1))):Option (Unit⊕(aI⊕Int))).bind fun t37=>match t37 with | .inr z=>some z | .inl t40=>(jL (decide ((ac.state.hides.length:Int)<12)) 3).bind fun r5=>match r5 with | .inl y2=>((OW ac).bind fun r8=>bz[0]?.bind fun x0=>(CC r8 ac.state.errata x0 ac.state.day).bind fun r0=>(nP r0.2.2).bind fun r9=>match r9 with | .inl y3=>(bz[1]?.bind fun x3=>bz[2]?.bind fun x4=>(EQ ac.state.hides (⟨x0,x3,x4⟩:gY)).bind fun rA1=>some (.inl (⟨({ac.state with hides:=rA1}:dE)⟩:aI))) | .inr _=>some (.inr r0.2.2)) | .inr _=>some (.inr 3)
def KS (ac:aI) (bz:List Int) (db:aE):Option (aI⊕Int):= (jL (!ac.state.open_) 8).bind fun r3=>match r3 with | .inl y6=>(bz[0]?.bind fun x8=>(zN x8 1 40).bind fun r0=>(jL r0 2).bind fun r1=>match r1 with | .inl y0=>(some (.inl (⟨({ac.state with house:=x8}:dE)⟩:aI))) | .inr _=>some (.inr 2)) | .inr _=>some (.inr 8)
def xK (cy:Int) (low:Int) (high:Int):Option (Bool):= ((if low≤cy then some (decide (cy≤high)) else some false):Option (Bool)).bind fun t4=>some t4
def rK (bl:aY) (dq:Int):Option (Bool):= cA (-9223372036854775808≤(bl.members-1)∧(bl.members-1)≤9223372036854775807) <| (xK dq 0 (bl.members-1)).bind fun r8=>some r8
def xL (aw:Int) (bx:Int→Option Bool):Option (Bool):= (bx aw).bind fun r1=>some (!r1)
def ER (ai:List Int) (cg:Int→Option Bool) (s1:Nat):Option ((Nat)⊕(Unit⊕Int)):= if (s1:Int)<(ai.length:Int) then ai[s1]?.bind fun x0=>(cg x0).bind fun r0=>if r0 then some (.inr (.inr (s1:Int))) else some (.inl (s1+1)) else some (.inr (.inl ()))
def RQ (ai:List Int) (cg:Int→Option Bool):Option (Int):= (bC (ER ai cg) 0).bind fun e19=>match e19 with | .inr z=>some z | .inl t0=>some (-1)
def RR (ai:List Int) (cg:Int→Option Bool):Option (Bool):= (RQ ai cg).bind fun r1=>some (decide (0≤r1))
def KT (bj:List Int) (right:Int→Option Bool):Option (Bool):= (RR bj (fun x0_=>xL x0_ right)).bind fun r5=>some (!r5)
def ES (bj:List Int) (s1:Nat):Option ((Nat)⊕(Unit⊕Bool)):= if (s1:Int)<(bj.length:Int) then ((if 0<(s1:Int) then bj[s1]?.bind fun x0=>(bj[((s1:Int)-1).toNat]?).bind fun x1=>some (decide (x0≤x1)) else some false):Option (Bool)).bind fun t0=>if t0 then some (.inr (.inr false)) else some (.inl (s1+1)) else some (.inr (.inl ()))
def KU (bj:List Int):Option (Bool):= (bC (ES bj) 0).bind fun e29=>match e29 with | .inr z=>some z | .inl t32=>some true
def qU (bl:aY) (bz:List Int):Option (Bool):= (((KT bz (rK bl)).bind fun r0=>if r0 then (KU bz).bind fun r1=>some r1 else some false):Option (Bool)).bind fun t0=>some t0
def xM (aw:List Int) (bx:(List Int)→Option Bool):Option (Bool):= (bx aw).bind fun r1=>some (!r1)
def ET (ai:List (List Int)) (cg:(List Int)→Option Bool) (s1:Nat):Option ((Nat)⊕(Unit⊕Int)):= if (s1:Int)<(ai.length:Int) then ai[s1]?.bind fun x0=>(cg x0).bind fun r0=>if r0 then some (.inr (.inr (s1:Int))) else some (.inl (s1+1)) else some (.inr (.inl ()))
def RS (ai:List (List Int)) (cg:(List Int)→Option Bool):Option (Int):= (bC (ET ai cg) 0).bind fun e23=>match e23 with | .inr z=>some z | .inl t26=>some (-1)
def RT (ai:List (List Int)) (cg:(List Int)→Option Bool):Option (Bool):= (RS ai cg).bind fun r1=>some (decide (0≤r1))
def EU (bj:List (List Int)) (right:(List Int)→Option Bool):Option (Bool):= (RT bj (fun x0_=>xM x0_ right)).bind fun r5=>some (!r5)
def KV (ea:dY) (bx:List (Int×Bool)):Option (Bool):= some (!((eN bx ea.holder).getD false))
def xN (aw:dY) (bx:dY→Option Bool):Option (Bool):= (bx aw).bind fun r4=>some (!r4)
def EV (ai:List dY) (cg:dY→Option Bool) (s1:Nat):Option ((Nat)⊕(Unit⊕Int)):= if (s1:Int)<(ai.length:Int) then ai[s1]?.bind fun x0=>(cg x0).bind fun r0=>if r0 then some (.inr (.inr (s1:Int))) else some (.inl (s1+1)) else some (.inr (.inl ()))
def RU (ai:List dY) (cg:dY→Option Bool):Option (Int):= (bC (EV ai cg) 0).bind fun e19=>match e19 with | .inr z=>some z | .inl t0=>some (-1)
def RV (ai:List dY) (cg:dY→Option Bool):Option (Bool):= (RU ai cg).bind fun r1=>some (decide (0≤r1))
def KW (bj:List dY) (right:dY→Option Bool):Option (Bool):= (RV bj (fun x0_=>xN x0_ right)).bind fun r5=>some (!r5)
def xO (bl:aY) (s1:Nat×(List (Int×Bool))):Option ((Nat×(List (Int×Bool)))⊕(((List (Int×Bool)))⊕Bool)):= if (s1.1:Int)<(bl.pairs.length:Int) then bl.pairs[s1.1]?.bind fun x0=>(((rK bl x0.a).bind fun r0=>if r0 then (rK bl x0.b).bind fun r1=>if r1 then if x0.a=x0.b then some true else if (eN s1.2 x0.a).getD false then some true else some ((eN s1.2 x0.b).getD false) else some true else some true):Option (Bool)).bind fun t0=>if t0 then some (.inr (.inr false)) else some (.inl ((s1.1+1),(put (put s1.2 x0.a true) x0.b true))) else some (.inr (.inl s1.2))
def xP (bl:aY) (s1:Nat×(List (Int×Bool))):Option ((Nat×(List (Int×Bool)))⊕(((List (Int×Bool)))⊕Bool)):= if (s1.1:Int)<(bl.proxies.length:Int) then bl.proxies[s1.1]?.bind fun x0=>(((rK bl x0.holder).bind fun r0=>if r0 then (rK bl x0.for_).bind fun r1=>if r1 then if x0.holder=x0.for_ then some true else some ((eN s1.2 x0.for_).getD false) else some true else some true):Option (Bool)).bind fun t0=>if t0 then some (.inr (.inr false)) else some (.inl ((s1.1+1),(put s1.2 x0.for_ true))) else some (.inr (.inl s1.2))
def KX (bl:aY):Option (Bool):= (bC (xO bl) (0,([]:List (Int×Bool)))).bind fun eA1=>match eA1 with | .inr z=>some z | .inl t1=>(bC (xP bl) (0,([]:List (Int×Bool)))).bind fun eB1=>match eB1 with | .inr z=>some z | .inl t0=>(KW bl.proxies (fun x0_=>KV x0_ t0)).bind fun r0=>some r0
def EW (bl:aY):Option (Bool):= some (decide (bl.tie=1))
def XH (bl:aY) (dq:fL) (bx:aY→Option Bool):Option (Bool):= ((if dq.noes<dq.ayes then some true else if dq.ayes=dq.noes then (bx bl).bind fun r0=>some r0 else some false):Option (Bool)).bind fun t0=>some t0
def XI (bl:aY) (dq:fL) (bx:aY→Option Bool):Option (Bool):= ((if bl.need≤dq.ayes then some true else cA (-9223372036854775808≤(bl.need-1)∧(bl.need-1)≤9223372036854775807) <| if dq.ayes=(bl.need-1) then (bx bl).bind fun r0=>some r0 else some false):Option (Bool)).bind fun t0=>some t0
def XJ (jl:aY) (dq:fL):Option (Bool):= ((cA (-9223372036854775808≤(3*dq.ayes)∧(3*dq.ayes)≤9223372036854775807) <| cA (-9223372036854775808≤(dq.ayes+dq.noes)∧(dq.ayes+dq.noes)≤9223372036854775807) <| cA (-9223372036854775808≤(2*(dq.ayes+dq.noes))∧(2*(dq.ayes+dq.noes))≤9223372036854775807) <| if (2*(dq.ayes+dq.noes))≤(3*dq.ayes) then some (decide (1≤dq.ayes)) else some false):Option (Bool)).bind fun t0=>some t0
def KY : Option (Unit):= some ()
def EX (bl:aY):Option (Bool):= (((xK bl.members 1 40).bind fun r0=>if r0 then (EU ([bl.ayes.e0,bl.ayes.e1]:List (List Int)) (qU bl)).bind fun r1=>if r1 then (EU ([bl.noes.e0,bl.noes.e1]:List (List Int)) (qU bl)).bind fun r2=>if r2 then if (bl.pairs.length:Int)≤10 then if (bl.proxies.length:Int)≤10 then (KX bl).bind fun r3=>if r3 then cA (-9223372036854775808≤bl.rule∧bl.rule≤9223372036854775807) <| (KY).bind fun r8=>if bl.rule<3 then (xK bl.need 0 40).bind fun r4=>if r4 then (xK bl.quorum 0 40).bind fun r5=>if r5 then if bl.tie=1 then some true else some (decide (bl.tie=2)) else some false else some false else some false else some false else some false else some false else some false else some false else some false):Option (Bool)).bind fun t0=>some t0
def KZ (bl:aY):Option (Int):= (EX bl).bind fun r6=>if r6 then some 0 else some 1
def rL (ac:aI) (gg:aY):Option (aI⊕Int):= (KZ gg).bind fun r8=>(nP r8).bind fun r11=>match r11 with | .inl y0=>(some (.inl (⟨({ac.state with division:=gg,open_:=true}:dE)⟩:aI))) | .inr _=>some (.inr r8)
def LA (ac:aI) (bz:List Int) (db:aE):Option (aI⊕Int):= (jL (!ac.state.open_) 8).bind fun r3=>match r3 with | .inl y6=>(((bz[0]?.bind fun x2=>(zN x2 0 255).bind fun r0=>if r0 then bz[3]?.bind fun x3=>(zN x3 0 255).bind fun r1=>(jL r1 2).bind fun r2=>match r2 with | .inl y1=>some (.inl ()) | .inr _=>(some (.inr (.inr 2))) else (jL false 2).bind fun r4=>match r4 with | .inl y2=>some (.inl ()) | .inr _=>some (.inr (.inr 2))):Option (Unit⊕(aI⊕Int))).bind fun t42=>match t42 with | .inr z=>some z | .inl t45=>bz[0]?.bind fun x0=>cA (0≤x0∧x0≤255) <| bz[1]?.bind fun x4=>bz[2]?.bind fun x5=>bz[3]?.bind fun x1=>cA (0≤x1∧x1≤255) <| (rL ac (⟨ac.state.house,(⟨([]:List Int),([]:List Int)⟩:bN),(⟨([]:List Int),([]:List Int)⟩:bN),([]:List fN),([]:List dY),x0,x4,x5,x1⟩:aY)).bind fun r5=>match r5 with | .inl y0=>some (.inl y0) | .inr y0=>some (.inr y0)) | .inr _=>some (.inr 8)
def LB (aw:Int) (fk:Int):Option (Bool):= (((xH aw).bind fun r0=>if r0 then (xH fk).bind fun r1=>if r1 then some (decide (aw<fk)) else some true else some (decide (aw<fk))):Option (Bool)).bind fun t13=>some t13
def RW (aw:Int):Option (Bool):= some (decide (aw≠aw))
def EY (aw:List Int) (target:Int) (s1:Int×Int):Option ((Int×Int)⊕(Int)):= if s1.1<s1.2 then cA (-9223372036854775808≤(s1.1+s1.2)∧(s1.1+s1.2)≤9223372036854775807) <| cA (0≤(s1.1+s1.2)∧(s1.1+s1.2)≤18446744073709551615) <| cA (0≤(s1.1+s1.2)) <| cA (-9223372036854775808≤((s1.1+s1.2)/2)∧((s1.1+s1.2)/2)≤9223372036854775807) <| (aw[((s1.1+s1.2)/2).toNat]?).bind fun x0=>(LB x0 target).bind fun r0=>((if r0 then cA (-9223372036854775808≤(((s1.1+s1.2)/2)+1)∧(((s1.1+s1.2)/2)+1)≤9223372036854775807) <| some ((((s1.1+s1.2)/2)+1),s1.2) else some (s1.1,((s1.1+s1.2)/2))):Option (Int×Int)).bind fun t0=>some (.inl (t0.1,t0.2)) else some (.inr s1.1)
def vL (aw:List Int) (target:Int):Option (Int×Bool):= (bC (EY aw target) (0,(aw.length:Int))).bind fun e57=>((if e57<(aw.length:Int) then cA (0≤e57) <| aw[e57.toNat]?.bind fun x0=>if x0=target then some (e57,true) else (RW x0).bind fun r0=>if r0 then (RW target).bind fun r1=>some (e57,r1) else some (e57,false) else some (e57,false)):Option (Int×Bool)).bind fun t0=>some (t0.1,t0.2)
def tC (ai:List Int):Option (List Int):= cA (([]:List Int).length+ai.length≤1073741824) <| some (([]:List Int)++ai)
def LC (ac:aI) (bz:List Int) (db:aE):Option (aI⊕Int):= (jL ac.state.open_ 8).bind fun r3=>match r3 with | .inl y6=>(((bz[0]?.bind fun x5=>(zN x5 1 2).bind fun r77=>if r77 then bz[1]?.bind fun x6=>(zN x6 0 1).bind fun r89=>if r89 then bz[2]?.bind fun x7=>cA (-9223372036854775808≤(ac.state.division.members-1)∧(ac.state.division.members-1)≤9223372036854775807) <| (zN x7 0 (ac.state.division.members-1)).bind fun rB1=>(jL rB1 2).bind fun rC1=>match rC1 with | .inl y0=>some (.inl ()) | .inr _=>(some (.inr (.inr 2))) else (jL false 2).bind fun rD1=>match rD1 with | .inl y1=>some (.inl ()) | .inr _=>(some (.inr (.inr 2))) else (jL false 2).bind fun rE1=>match rE1 with | .inl y2=>some (.inl ()) | .inr _=>some (.inr (.inr 2))):Option (Unit⊕(aI⊕Int))).bind fun t0=>match t0 with | .inr z=>some z | .inl t68=>bz[1]?.bind fun x4=>if x4=0 then bz[0]?.bind fun x8=>if x8=2 then bz[2]?.bind fun x0=>(vL ac.state.division.noes.e0 x0).bind fun r0=>(jL (!r0.2) 6).bind fun rF1=>match rF1 with | .inl y3=>((tC ac.state.division.noes.e0).bind fun r5=>cA (0≤r0.1) <| cA (r0.1.toNat≤r5.length) <| cA (r5.length+([x0]:List Int).length≤1073741824) <| some (.inl (⟨({ac.state with division:=({ac.state.division with noes:=(⟨(r5.take r0.1.toNat++([x0]:List Int)++r5.drop r0.1.toNat),ac.state.division.noes.e1⟩:bN)}:aY)}:dE)⟩:aI))) | .inr _=>(some (.inr 6)) else bz[2]?.bind fun x1=>(vL ac.state.division.ayes.e0 x1).bind fun r1=>(jL (!r1.2) 6).bind fun rG1=>match rG1 with | .inl y4=>((tC ac.state.division.ayes.e0).bind fun r8=>cA (0≤r1.1) <| cA (r1.1.toNat≤r8.length) <| cA (r8.length+([x1]:List Int).length≤1073741824) <| some (.inl (⟨({ac.state with division:=({ac.state.division with ayes:=(⟨(r8.take r1.1.toNat++([x1]:List Int)++r8.drop r1.1.toNat),ac.state.division.ayes.e1⟩:bN)}:aY)}:dE)⟩:aI))) | .inr _=>(some (.inr 6)) else if x4=1 then bz[0]?.bind fun x9=>if x9=2 then bz[2]?.bind fun x2=>(vL ac.state.division.noes.e1 x2).bind fun r2=>(jL (!r2.2) 6).bind fun rH1=>match rH1 with | .inl y5=>((tC ac.state.division.noes.e1).bind fun r9=>cA (0≤r2.1) <| cA (r2.1.toNat≤r9.length) <| cA (r9.length+([x2]:List Int).length≤1073741824) <| some (.inl (⟨({ac.state with division:=({ac.state.division with noes:=(⟨ac.state.division.noes.e0,(r9.take r2.1.toNat++([x2]:List Int)++r9.drop r2.1.toNat)⟩:bN)}:aY)}:dE)⟩:aI))) | .inr _=>(some (.inr 6)) else bz[2]?.bind fun x3=>(vL ac.state.division.ayes.e1 x3).bind fun r4=>(jL (!r4.2) 6).bind fun rI1=>match rI1 with | .inl y7=>((tC ac.state.division.ayes.e1).bind fun rA1=>cA (0≤r4.1) <| cA (r4.1.toNat≤rA1.length) <| cA (rA1.length+([x3]:List Int).length≤1073741824) <| some (.inl (⟨({ac.state with division:=({ac.state.division with ayes:=(⟨ac.state.division.ayes.e0,(rA1.take r4.1.toNat++([x3]:List Int)++rA1.drop r4.1.toNat)⟩:bN)}:aY)}:dE)⟩:aI))) | .inr _=>(some (.inr 6)) else none) | .inr _=>some (.inr 8)
def RX (ai:List fN):Option (List fN):= cA (([]:List fN).length+ai.length≤1073741824) <| some (([]:List fN)++ai)
def LD (bj:List fN) (ct:fN):Option (List fN):= (RX bj).bind fun r4=>cA (r4.length+([ct]:List fN).length≤1073741824) <| some (r4++([ct]:List fN))
def LE (ac:aI) (bz:List Int) (db:aE):Option (aI⊕Int):= (jL ac.state.open_ 8).bind fun r3=>match r3 with | .inl y6=>(bz[0]?.bind fun x9=>bz[1]?.bind fun x0=>(LD ac.state.division.pairs (⟨x9,x0⟩:fN)).bind fun r0=>(rL ac ({ac.state.division with pairs:=r0}:aY)).bind fun r1=>match r1 with | .inl y0=>some (.inl y0) | .inr y0=>some (.inr y0)) | .inr _=>some (.inr 8)
def qV (ai:List Int) (fj:Int) (s1:Nat):Option ((Nat)⊕(Unit⊕Int)):= if (s1:Int)<(ai.length:Int) then ai[s1]?.bind fun x0=>if fj=x0 then some (.inr (.inr (s1:Int))) else some (.inl (s1+1)) else some (.inr (.inl ()))
def LF (ai:List Int) (fj:Int):Option (Int):= (bC (qV ai fj) 0).bind fun e16=>match e16 with | .inr z=>some z | .inl t0=>some (-1)
def rM (ai:List Int) (fj:Int):Option (Bool):= (LF ai fj).bind fun r1=>some (decide (0≤r1))
def EZ (lobby:bN) (member:Int):Option (Int):= (rM lobby.e0 member).bind fun r0=>((if r0 then some 1 else some 0):Option (Nat)).bind fun t39=>(rM lobby.e1 member).bind fun r1=>((if r1 then cA (-9223372036854775808≤((t39:Int)+1)∧((t39:Int)+1)≤9223372036854775807) <| some (t39+1) else some t39):Option (Nat)).bind fun t62=>some (t62:Int)
def LG (bl:aY) (member:Int):Option (List UInt8):= (EZ bl.ayes member).bind fun r6=>(EZ bl.noes member).bind fun r10=>((if r6<2 then some (decide (r10<2)) else some false):Option (Bool)).bind fun t0=>((if t0 then cA (([]:List UInt8).length+1≤1073741824) <| some (([]:List UInt8)++[(0:UInt8)]) else some ([]:List UInt8)):Option (List UInt8)).bind fun t38=>((if 0<r6 then some (decide (r10<2)) else some false):Option (Bool)).bind fun t1=>((if t1 then cA (t38.length+1≤1073741824) <| some (t38++[(1:UInt8)]) else some t38):Option (List UInt8)).bind fun t68=>((if 0<r10 then some (decide (r6<2)) else some false):Option (Bool)).bind fun t84=>((if t84 then cA (t68.length+1≤1073741824) <| some (t68++[(2:UInt8)]) else some t68):Option (List UInt8)).bind fun t2=>some t2
def FA (bl:aY) (s1:Nat×bF):Option ((Nat×bF)⊕(bF)):= if (s1.1:Int)<(bl.pairs.length:Int) then bl.pairs[s1.1]?.bind fun x0=>cA (0≤x0.a) <| cA (x0.a<40) <| cA (0≤x0.b) <| cA (x0.b<40) <| some (.inl ((s1.1+1),(bF.set (bF.set s1.2 x0.a.toNat true) x0.b.toNat true))) else some (.inr s1.2)
def FB (bl:aY) (s1:Nat×List (List UInt8)):Option ((Nat×List (List UInt8))⊕(List (List UInt8))):= if (s1.1:Int)<bl.members then (LG bl (s1.1:Int)).bind fun r0=>s1.2[s1.1]?.bind fun x0=>cA (-9223372036854775808≤((s1.1:Int)+1)∧((s1.1:Int)+1)≤9223372036854775807) <| some (.inl ((s1.1+1),(s1.2.set s1.1 r0))) else some (.inr s1.2)
def LH (bl:aY):Option (dG):= (bC (FA bl) (0,bF.zero)).bind fun e76=>(bC (FB bl) (0,(List.replicate 40 ([]:List UInt8)))).bind fun eA1=>some (⟨bl,e76,eA1⟩:dG)
def FC (aw:dG) (s1:Nat×Nat×Bool):Option ((Nat×Nat×Bool)⊕(Nat×Bool)):= if (s1.2.1:Int)<aw.division.members then aw.may[s1.2.1]?.bind fun x0=>if (x0.length:Int)=0 then some (.inr (s1.2.1,true)) else cA (-9223372036854775808≤((s1.2.1:Int)+1)∧((s1.2.1:Int)+1)≤9223372036854775807) <| some (.inl (s1.1,(s1.2.1+1),s1.2.2)) else some (.inr (s1.1,s1.2.2))
def LI (aw:dG):Option (Int×Bool):= (bC (FC aw) (0,0,false)).bind fun e41=>some ((e41.1:Int),e41.2)
def LJ (bl:aY):Option (dG×Int):= (EX bl).bind fun r7=>if r7 then (LH bl).bind fun r0=>(LI r0).bind fun r1=>if r1.2 then some ((⟨(⟨0,(⟨([]:List Int),([]:List Int)⟩:bN),(⟨([]:List Int),([]:List Int)⟩:bN),([]:List fN),([]:List dY),0,0,0,0⟩:aY),bF.zero,(List.replicate 40 ([]:List UInt8))⟩:dG),9) else some (r0,0) else some ((⟨(⟨0,(⟨([]:List Int),([]:List Int)⟩:bN),(⟨([]:List Int),([]:List Int)⟩:bN),([]:List fN),([]:List dY),0,0,0,0⟩:aY),bF.zero,(List.replicate 40 ([]:List UInt8))⟩:dG),1)
def FD (aw:dG) (s1:Nat×List Int):Option ((Nat×List Int)⊕(List Int)):= if (s1.1:Int)<aw.division.members then aw.may[s1.1]?.bind fun x0=>((if 1<(x0.length:Int) then cA (s1.2.length+1≤1073741824) <| some (s1.2++[(s1.1:Int)]) else some s1.2):Option (List Int)).bind fun t164=>cA (-9223372036854775808≤((s1.1:Int)+1)∧((s1.1:Int)+1)≤9223372036854775807) <| some (.inl ((s1.1+1),t164)) else some (.inr s1.2)
def LK (aw:dG):Option (List Int):= (bC (FD aw) (0,([]:List Int))).bind fun eA1=>some eA1
def LL (bl:aY):Option (dG×Int):= (LJ bl).bind fun r7=>((if r7.2=0 then (LK r7.1).bind fun r0=>some (decide (8<(r0.length:Int))) else some false):Option (Bool)).bind fun t0=>if t0 then some ((⟨(⟨0,(⟨([]:List Int),([]:List Int)⟩:bN),(⟨([]:List Int),([]:List Int)⟩:bN),([]:List fN),([]:List dY),0,0,0,0⟩:aY),bF.zero,(List.replicate 40 ([]:List UInt8))⟩:dG),3) else some (r7.1,r7.2)
def RY (x0:List UInt8) (fx:Int) (jf:bA→Int→Option Bool) (s1:Nat×bA):Option ((Nat×bA)⊕((bA)⊕Bool)):= if (s1.1:Int)<(x0.length:Int) then x0[s1.1]?.bind fun x1=>cA (fx<40) <| cA (-9223372036854775808≤(fx+1)∧(fx+1)≤9223372036854775807) <| (jf (bA.set s1.2 fx.toNat (x1.toNat:Int)) (fx+1)).bind fun r0=>if r0 then some (.inl ((s1.1+1),(bA.set s1.2 fx.toNat (x1.toNat:Int)))) else some (.inr (.inr false)) else some (.inr (.inl s1.2))
def aCz (je:bA) (fx:Int) (bx:dG) (gc:bA→Option Bool) (jf:bA→Int→Option Bool):Option (Bool):= if fx=bx.division.members then (gc je).bind fun r0=>some r0 else cA (0≤fx) <| bx.may[fx.toNat]?.bind fun x0=>(bC (RY x0 fx jf) (0,je)).bind fun e90=>match e90 with | .inr z=>some z | .inl t0=>some true
def RZ (x0:List UInt8) (s1:Nat×bA) (R0_:(Nat×bA)→Option (Bool)) (s2:Nat×bA):Option ((Nat×bA)⊕((bA)⊕Bool)):= if (s2.1:Int)<(x0.length:Int) then x0[s2.1]?.bind fun x1=>cA ((s1.1:Int)<40) <| cA (-9223372036854775808≤((s1.1:Int)+1)∧((s1.1:Int)+1)≤9223372036854775807) <| (R0_ ((s1.1+1),(bA.set s2.2 s1.1 (x1.toNat:Int)))).bind fun r0=>if r0 then some (.inl ((s2.1+1),(bA.set s2.2 s1.1 (x1.toNat:Int)))) else some (.inr (.inr false)) else some (.inr (.inl s2.2))
def FE (bx:dG) (yield:bA→Option Bool) (R0_:(Nat×bA)→Option (Bool)) (s1:Nat×bA):Option (Bool):= if (s1.1:Int)=bx.division.members then (yield s1.2).bind fun r0=>some r0 else bx.may[s1.1]?.bind fun x0=>(bC (RZ x0 s1 R0_) (0,s1.2)).bind fun eA1=>match eA1 with | .inr z=>some z | .inl t0=>some true
def qA (bx:dG) (yield:bA→Option Bool):Nat→(Nat×bA)→Option (Bool)
 | 0,_=>none
 | n_+1,s1=>FE bx yield (qA bx yield n_) s1
def aC0 (yield:bA→Option Bool) (bx:dG):Option (Unit):= (sP (fun n_=>qA bx yield n_ (0,bA.zero))).bind fun r0=>some ()
def FF (aw:dG) (gn:bA) (s1:Nat×Nat×Nat):Option ((Nat×Nat×Nat)⊕(Nat×Nat)):= if (s1.1:Int)<aw.division.members then cA ((s1.1:Int)<40) <| ((if bF.get aw.paired s1.1 then some (s1.2.1,s1.2.2) else ((((if (bA.get gn s1.1)=1 then cA (-9223372036854775808≤((s1.2.1:Int)+1)∧((s1.2.1:Int)+1)≤9223372036854775807) <| some ((s1.2.1+1),s1.2.2) else ((if (bA.get gn s1.1)=2 then cA (-9223372036854775808≤((s1.2.2:Int)+1)∧((s1.2.2:Int)+1)≤9223372036854775807) <| some (s1.2.2+1) else some s1.2.2):Option (Nat)).bind fun t3=>some (s1.2.1,t3)):Option (Nat×Nat)).bind fun t0=>some (t0.1,t0.2)):Option (Nat×Nat)).bind fun t1=>some (t1.1,t1.2)):Option (Nat×Nat)).bind fun t2=>cA (-9223372036854775808≤((s1.1:Int)+1)∧((s1.1:Int)+1)≤9223372036854775807) <| some (.inl ((s1.1+1),t2.1,t2.2)) else some (.inr (s1.2.1,s1.2.2))
def FG (aw:dG) (gn:bA) (s1:Nat×Nat×Nat):Option ((Nat×Nat×Nat)⊕(Nat×Nat)):= if (s1.1:Int)<(aw.division.proxies.length:Int) then aw.division.proxies[s1.1]?.bind fun x0=>((cA (0≤x0.for_) <| cA (x0.for_<40) <| if (bA.get gn x0.for_.toNat)=0 then if bF.get aw.paired x0.for_.toNat then some false else cA (0≤x0.holder) <| cA (x0.holder<40) <| some (!(bF.get aw.paired x0.holder.toNat)) else some false):Option (Bool)).bind fun t3=>((if t3 then cA (0≤x0.holder) <| cA (x0.holder<40) <| ((((if (bA.get gn x0.holder.toNat)=1 then cA (-9223372036854775808≤((s1.2.1:Int)+1)∧((s1.2.1:Int)+1)≤9223372036854775807) <| some ((s1.2.1+1),s1.2.2) else ((if (bA.get gn x0.holder.toNat)=2 then cA (-9223372036854775808≤((s1.2.2:Int)+1)∧((s1.2.2:Int)+1)≤9223372036854775807) <| some (s1.2.2+1) else some s1.2.2):Option (Nat)).bind fun t4=>some (s1.2.1,t4)):Option (Nat×Nat)).bind fun t0=>some (t0.1,t0.2)):Option (Nat×Nat)).bind fun t1=>some (t1.1,t1.2) else some (s1.2.1,s1.2.2)):Option (Nat×Nat)).bind fun t2=>some (.inl ((s1.1+1),t2.1,t2.2)) else some (.inr (s1.2.1,s1.2.2))
def LM (aw:dG) (gn:bA):Option (fL):= (bC (FF aw gn) (0,0,0)).bind fun e82=>(bC (FG aw gn) (0,e82.1,e82.2)).bind fun eA1=>some (⟨(eA1.1:Int),(eA1.2:Int)⟩:fL)
def LN (aw:dG) (dq:fL):Option (Int):= cA (-9223372036854775808≤(dq.ayes+dq.noes)∧(dq.ayes+dq.noes)≤9223372036854775807) <| if (dq.ayes+dq.noes)<aw.division.quorum then some 2 else (KY).bind fun r3=>cA (0≤aw.division.rule) <| if aw.division.rule=0 then (XH aw.division dq (EW)).bind fun r0=>if r0 then some 1 else some 0 else if aw.division.rule=1 then (XI aw.division dq (EW)).bind fun r1=>if r1 then some 1 else some 0 else if aw.division.rule=2 then (XJ aw.division dq).bind fun r2=>if r2 then some 1 else some 0 else none
def tF (ai:List UInt8) (fj:Int) (s1:Nat):Option ((Nat)⊕(Unit⊕Int)):= if (s1:Int)<(ai.length:Int) then ai[s1]?.bind fun x0=>if fj=(x0.toNat:Int) then some (.inr (.inr (s1:Int))) else some (.inl (s1+1)) else some (.inr (.inl ()))
def SA (ai:List UInt8) (fj:Int):Option (Int):= (bC (tF ai fj) 0).bind fun e16=>match e16 with | .inr z=>some z | .inl t0=>some (-1)
def LO (ai:List UInt8) (fj:Int):Option (Bool):= (SA ai fj).bind fun r1=>some (decide (0≤r1))
def XK (aw:Int):Option (Int):= ((if 4294967296≤aw then some (32,(aw/4294967296)) else some (0,aw)):Option (Nat×Int)).bind fun t4=>((if 65536≤t4.2 then cA (-9223372036854775808≤((t4.1:Int)+16)∧((t4.1:Int)+16)≤9223372036854775807) <| some ((t4.1+16),(t4.2/65536)) else some (t4.1,t4.2)):Option (Nat×Int)).bind fun t0=>((if 256≤t0.2 then cA (-9223372036854775808≤((t0.1:Int)+8)∧((t0.1:Int)+8)≤9223372036854775807) <| some ((t0.1+8),(t0.2/256)) else some (t0.1,t0.2)):Option (Nat×Int)).bind fun t28=>cA (0≤t28.2∧t28.2≤255) <| cA (0≤t28.2) <| (([0,1,2,2,3,3,3,3,4,4,4,4,4,4,4,4,5,5,5,5,5,5,5,5,5,5,5,5,5,5,5,5,6,6,6,6,6,6,6,6,6,6,6,6,6,6,6,6,6,6,6,6,6,6,6,6,6,6,6,6,6,6,6,6,7,7,7,7,7,7,7,7,7,7,7,7,7,7,7,7,7,7,7,7,7,7,7,7,7,7,7,7,7,7,7,7,7,7,7,7,7,7,7,7,7,7,7,7,7,7,7,7,7,7,7,7,7,7,7,7,7,7,7,7,7,7,7,7,8,8,8,8,8,8,8,8,8,8,8,8,8,8,8,8,8,8,8,8,8,8,8,8,8,8,8,8,8,8,8,8,8,8,8,8,8,8,8,8,8,8,8,8,8,8,8,8,8,8,8,8,8,8,8,8,8,8,8,8,8,8,8,8,8,8,8,8,8,8,8,8,8,8,8,8,8,8,8,8,8,8,8,8,8,8,8,8,8,8,8,8,8,8,8,8,8,8,8,8,8,8,8,8,8,8,8,8,8,8,8,8,8,8,8,8,8,8,8,8,8,8,8,8,8,8,8,8]:aE)[t28.2.toNat]?).bind fun x0=>cA (-9223372036854775808≤((t28.1:Int)+(x0.toNat:Int))∧((t28.1:Int)+(x0.toNat:Int))≤9223372036854775807) <| some ((t28.1:Int)+(x0.toNat:Int))
def SB (aw:Int):Option (Int):= (XK aw).bind fun r1=>some r1
def LP (aw:Int):Option (Bool):= some (decide (aw≠aw))
def LQ (aw:Int) (fk:Int):Option (Bool):= (((LP aw).bind fun r0=>if r0 then (LP fk).bind fun r1=>if r1 then some (decide (aw<fk)) else some true else some (decide (aw<fk))):Option (Bool)).bind fun t13=>some t13
def FH (x0:List UInt8) (s2:Nat×bA×List UInt8) (R0_:(Nat×bA×List UInt8)→Option (List UInt8)) (s1:Nat×bA×List UInt8):Option ((Nat×bA×List UInt8)⊕(bA×List UInt8)):= if (s1.1:Int)<(x0.length:Int) then x0[s1.1]?.bind fun x1=>cA ((s2.1:Int)<40) <| cA (-9223372036854775808≤((s2.1:Int)+1)∧((s2.1:Int)+1)≤9223372036854775807) <| (R0_ ((s2.1+1),(bA.set s1.2.1 s2.1 (x1.toNat:Int)),s1.2.2)).bind fun r0=>some (.inl ((s1.1+1),(bA.set s1.2.1 s2.1 (x1.toNat:Int)),r0)) else some (.inr (s1.2.1,s1.2.2))
def tG (r6:dG×Int) (R0_:(Nat×bA×List UInt8)→Option (List UInt8)) (s1:Nat×bA×List UInt8):Option (List UInt8):= if (s1.1:Int)=r6.1.division.members then (((LM r6.1 s1.2.1).bind fun r1=>(LN r6.1 r1).bind fun r0=>(LO s1.2.2 r0).bind fun r2=>((if r2 then some s1.2.2 else cA (s1.2.2.length+1≤1073741824) <| cA (0≤r0∧r0≤255) <| some (s1.2.2++[(UInt8.ofNat r0.toNat)])):Option (List UInt8)).bind fun t0=>some t0):Option (List UInt8)).bind fun t1=>some t1 else r6.1.may[s1.1]?.bind fun x0=>(bC (FH x0 s1 R0_) (0,s1.2.1,s1.2.2)).bind fun eA1=>some eA1.2
def lZ (r6:dG×Int):Nat→(Nat×bA×List UInt8)→Option (List UInt8)
 | 0,_=>none
 | n_+1,s1=>tG r6 (lZ r6 n_) s1
def FI (s2:Nat×Nat×Int×Bool×Bool) (s1:Int×List UInt8):Option ((Int×List UInt8)⊕(List UInt8)):= ((if (s2.1:Int)<s1.1 then cA (0≤s1.1) <| s1.2[s1.1.toNat]?.bind fun x1=>cA (-9223372036854775808≤(s1.1-1)∧(s1.1-1)≤9223372036854775807) <| cA (0≤(s1.1-1)) <| (s1.2[(s1.1-1).toNat]?).bind fun x2=>(LQ (x1.toNat:Int) (x2.toNat:Int)).bind fun r0=>some r0 else some false):Option (Bool)).bind fun t0=>if t0 then cA (-9223372036854775808≤(s1.1-1)∧(s1.1-1)≤9223372036854775807) <| cA (0≤(s1.1-1)) <| (s1.2[(s1.1-1).toNat]?).bind fun x0=>cA (0≤s1.1) <| s1.2[s1.1.toNat]?.bind fun x3=>((s1.2.set s1.1.toNat x0)[(s1.1-1).toNat]?).bind fun x4=>some (.inl ((s1.1-1),((s1.2.set s1.1.toNat x0).set ((s1.1-1).toNat) x3))) else some (.inr s1.2)
def xQ (s2:Nat×Nat×Int×Bool×Bool) (s1:Nat×List UInt8):Option ((Nat×List UInt8)⊕(List UInt8)):= if (s1.1:Int)<(s2.2.1:Int) then (bC (FI s2) ((s1.1:Int),s1.2)).bind fun eA1=>cA (-9223372036854775808≤((s1.1:Int)+1)∧((s1.1:Int)+1)≤9223372036854775807) <| some (.inl ((s1.1+1),eA1)) else some (.inr s1.2)
def tH (t0:List UInt8) (s1:Nat×Nat×Int×Bool×Bool):Option ((Nat×Nat×Int×Bool×Bool)⊕(List UInt8)):= cA (-9223372036854775808≤((s1.2.1:Int)-(s1.1:Int))∧((s1.2.1:Int)-(s1.1:Int))≤9223372036854775807) <| if ((s1.2.1:Int)-(s1.1:Int))≤12 then ((cA (-9223372036854775808≤((s1.1:Int)+1)∧((s1.1:Int)+1)≤9223372036854775807) <| (bC (xQ s1) ((s1.1+1),t0)).bind fun eA1=>some eA1):Option (List UInt8)).bind fun t1=>some (.inr t1) else if s1.2.2.1=0 then none else if s1.2.2.2.1 then none else none
def LS (bl:aY):Option (List UInt8×Int):= (LL bl).bind fun r6=>if r6.2≠0 then some (([]:List UInt8),r6.2) else (((sP (fun n_=>lZ r6 n_ (0,bA.zero,([]:List UInt8)))).bind fun r0=>some r0):Option (List UInt8)).bind fun t0=>(((SB (t0.length:Int)).bind fun r1=>(((bC (tH t0) (0,t0.length,r1,true,true)).bind fun eA1=>some eA1):Option (List UInt8)).bind fun t1=>some t1):Option (List UInt8)).bind fun t2=>some (t2,0)
def SC (ai:List UInt8):Option (List UInt8):= cA (([]:List UInt8).length+ai.length≤1073741824) <| some (([]:List UInt8)++ai)
def LT (bj:List UInt8) (ct:Int):Option (List UInt8):= (SC bj).bind fun r1=>cA (r1.length+1≤1073741824) <| cA (0≤ct∧ct≤255) <| some (r1++[(UInt8.ofNat ct.toNat)])
def LU (ac:aI) (ct:List Int) (jm:aE):Option (aI⊕Int):= (jL ac.state.open_ 8).bind fun r3=>match r3 with | .inl y6=>((LS ac.state.division).bind fun r8=>(nP r8.2).bind fun r0=>match r0 with | .inl y0=>((jL (decide ((r8.1.length:Int)=1)) 10).bind fun r1=>match r1 with | .inl y1=>(r8.1[0]?.bind fun x0=>(LT ac.state.results (x0.toNat:Int)).bind fun r2=>some (.inl (⟨({ac.state with division:=(⟨0,(⟨([]:List Int),([]:List Int)⟩:bN),(⟨([]:List Int),([]:List Int)⟩:bN),([]:List fN),([]:List dY),0,0,0,0⟩:aY),open_:=false,results:=r2}:dE)⟩:aI))) | .inr _=>some (.inr 10)) | .inr _=>some (.inr r8.2)) | .inr _=>some (.inr 8)
def aC1 (fh:Int):Option (Bool):= some (decide (fh=32))
def FJ (text:aE):Option (List aE):= (KE text).bind fun r1=>some r1
def xR (aw:aW) (bx:aW→Option Bool):Option (Bool):= (bx aw).bind fun r7=>some (!r7)
def FK (ai:List aW) (cg:aW→Option Bool) (s1:Nat):Option ((Nat)⊕(Unit⊕Int)):= if (s1:Int)<(ai.length:Int) then ai[s1]?.bind fun x0=>(cg x0).bind fun r0=>if r0 then some (.inr (.inr (s1:Int))) else some (.inl (s1+1)) else some (.inr (.inl ()))
def SD (ai:List aW) (cg:aW→Option Bool):Option (Int):= (bC (FK ai cg) 0).bind fun e23=>match e23 with | .inr z=>some z | .inl t26=>some (-1)
def SE (ai:List aW) (cg:aW→Option Bool):Option (Bool):= (SD ai cg).bind fun r1=>some (decide (0≤r1))
def vM (bj:List aW) (right:aW→Option Bool):Option (Bool):= (SE bj (fun x0_=>xR x0_ right)).bind fun r5=>some (!r5)
def LV (ea:aW):Option (Bool):= some (decide ((ea.words.length:Int)≤60))
def LX (cm:bT):Option (Bool):= ((if (cm.papers.length:Int)≤10 then if (cm.words.length:Int)≤60 then (vM cm.papers (LV)).bind fun r0=>some r0 else some false else some false):Option (Bool)).bind fun t0=>some t0
def xS (aw:aE) (bx:aE→Option Bool):Option (Bool):= (bx aw).bind fun r1=>some (!r1)
def FL (bj:List aE) (right:aE→Option Bool):Option (Bool):= (UU bj (fun x0_=>xS x0_ right)).bind fun r5=>some (!r5)
def FM (cy:Int) (low:Int) (high:Int):Option (Bool):= ((if low≤cy then some (decide (cy≤high)) else some false):Option (Bool)).bind fun t4=>some t4
def xU (aw:Int) (bx:Int→Option Bool):Option (Bool):= (bx aw).bind fun r1=>some (!r1)
def LY (bj:List UInt8) (right:Int→Option Bool):Option (Bool):= (xF bj (fun x0_=>xU x0_ right)).bind fun r5=>some (!r5)
def AX (fh:Int):Option (Bool):= ((if (33:Int)≤fh then some (decide (fh≤126)) else some false):Option (Bool)).bind fun t4=>some t4
def oW (ai:aE):Option (Bool):= (((FM (ai.length:Int) 1 20).bind fun r0=>if r0 then cA (ai.length≤1073741824) <| (LY ai (AX)).bind fun r1=>some r1 else some false):Option (Bool)).bind fun t0=>some t0
def FN (ea:aW):Option (Bool):= (FL ea.words (oW)).bind fun r8=>some r8
def LZ (cm:bT):Option (Bool):= (((FL cm.words (oW)).bind fun r0=>if r0 then (vM cm.papers (FN)).bind fun r1=>some r1 else some false):Option (Bool)).bind fun t21=>some t21
def FO (ea:aW):Option (Bool):= (FM ea.number 1 999).bind fun r7=>some r7
def SF (cm:bT):Option (Bool):= (vM cm.papers (FO)).bind fun r11=>some r11
def xV (cm:bT) (s1:Nat×(List (Int×aW))):Option ((Nat×(List (Int×aW)))⊕((List (Int×aW)))):= if (s1.1:Int)<(cm.papers.length:Int) then cm.papers[s1.1]?.bind fun x0=>some (.inl ((s1.1+1),(put s1.2 x0.number x0))) else some (.inr s1.2)
def tI (cm:bT):Option ((List (Int×aW))):= (bC (xV cm) (0,([]:List (Int×aW)))).bind fun e60=>some e60
def SG (cm:bT):Option (Bool):= (tI cm).bind fun r10=>some (decide ((r10.length:Int)=(cm.papers.length:Int)))
def FP (ea:aW) (bx:List (Int×aW)):Option (Bool):= ((if ea.of=0 then some true else some (decide (((eN bx ea.of).getD (⟨0,0,0,0,([]:List aE)⟩:aW)).number=ea.of))):Option (Bool)).bind fun t0=>some t0
def SH (cm:bT):Option (Bool):= (tI cm).bind fun r10=>(vM cm.papers (fun x0_=>FP x0_ r10)).bind fun r0=>some r0
def FQ (cm:bT) (r10:(List (Int×aW))) (s1:Nat×Bool×Int×Int×Int×Int×List aE):Option ((Nat×Bool×Int×Int×Int×Int×List aE)⊕((Bool×Int×Int×Int×Int×List aE)⊕((Nat×Bool)⊕(Bool)))):= if s1.2.2.2.1≠0 then cA (-9223372036854775808≤((s1.1:Int)+1)∧((s1.1:Int)+1)≤9223372036854775807) <| if (cm.papers.length:Int)<((s1.1:Int)+1) then Option.map (fun z=>.inr (.inr z)) (some (.inr false)) else some (.inl ((s1.1+1),s1.2.1,((eN r10 s1.2.2.2.1).getD (⟨0,0,0,0,([]:List aE)⟩:aW)).number,((eN r10 s1.2.2.2.1).getD (⟨0,0,0,0,([]:List aE)⟩:aW)).of,((eN r10 s1.2.2.2.1).getD (⟨0,0,0,0,([]:List aE)⟩:aW)).from_,((eN r10 s1.2.2.2.1).getD (⟨0,0,0,0,([]:List aE)⟩:aW)).to_,((eN r10 s1.2.2.2.1).getD (⟨0,0,0,0,([]:List aE)⟩:aW)).words)) else some (.inr (.inl (s1.2.1,s1.2.2.1,s1.2.2.2.1,s1.2.2.2.2.1,s1.2.2.2.2.2.1,s1.2.2.2.2.2.2)))
def FR (cm:bT) (r10:(List (Int×aW))) (s1:Nat×Bool):Option ((Nat×Bool)⊕(Bool)):= if (s1.1:Int)<(cm.papers.length:Int) then cm.papers[s1.1]?.bind fun x0=>(bC (FQ cm r10) (0,s1.2,x0.number,x0.of,x0.from_,x0.to_,x0.words)).bind fun eA1=>match eA1 with | .inr z=>some z | .inl t222=>some (.inl ((s1.1+1),t222.1)) else some (.inr s1.2)
def MA (cm:bT):Option (Bool):= (tI cm).bind fun r10=>(bC (FR cm r10) (0,true)).bind fun e84=>some e84
def FS (cm:bT) (number:Int):Option (List aE):= if number=0 then some cm.words else (tI cm).bind fun r0=>some (((eN r0 number).getD (⟨0,0,0,0,([]:List aE)⟩:aW)).words)
def FT (ea:aW) (bx:bT):Option (Bool):= ((if (0:Int)≤ea.from_ then if ea.from_≤ea.to_ then (FS bx ea.of).bind fun r0=>some (decide (ea.to_≤(r0.length:Int))) else some false else some false):Option (Bool)).bind fun t32=>some t32
def SI (cm:bT):Option (Bool):= (vM cm.papers (fun x0_=>FT x0_ cm)).bind fun r11=>some r11
def SK : Option (Unit):= some ()
def AY (cm:bT):Option (Int):= (SK).bind fun r10=>(LX cm).bind fun r0=>if r0 then (LZ cm).bind fun r1=>if r1 then (SF cm).bind fun r2=>if r2 then (SG cm).bind fun r3=>if r3 then (SH cm).bind fun r4=>if r4 then (MA cm).bind fun r5=>if r5 then (SI cm).bind fun r8=>if r8 then some 0 else some 1 else some 8 else some 7 else some 6 else some 2 else some 4 else some 3
def MB (ac:aI) (jk:List Int) (text:aE):Option (aI⊕Int):= (jL (!ac.state.moved) 8).bind fun r3=>match r3 with | .inl y6=>((FJ text).bind fun r8=>(AY (⟨r8,([]:List aW)⟩:bT)).bind fun r0=>(nP r0).bind fun r1=>match r1 with | .inl y0=>(some (.inl (⟨({ac.state with motion:=(⟨r8,([]:List aW)⟩:bT),moved:=true}:dE)⟩:aI))) | .inr _=>some (.inr r0)) | .inr _=>some (.inr 8)
def SL (ai:List aW):Option (List aW):= cA (([]:List aW).length+ai.length≤1073741824) <| some (([]:List aW)++ai)
def MC (bj:List aW) (ct:aW):Option (List aW):= (SL bj).bind fun r7=>cA (r7.length+([ct]:List aW).length≤1073741824) <| some (r7++([ct]:List aW))
def MD (ac:aI) (bz:List Int) (text:aE):Option (aI⊕Int):= (jL ac.state.moved 8).bind fun r3=>match r3 with | .inl y6=>(bz[0]?.bind fun x9=>bz[1]?.bind fun x0=>bz[2]?.bind fun x1=>bz[3]?.bind fun x2=>(FJ text).bind fun r2=>(MC ac.state.motion.papers (⟨x9,x0,x1,x2,r2⟩:aW)).bind fun r0=>(AY (⟨ac.state.motion.words,r0⟩:bT)).bind fun r1=>(nP r1).bind fun r4=>match r4 with | .inl y0=>(some (.inl (⟨({ac.state with motion:=(⟨ac.state.motion.words,r0⟩:bT)}:dE)⟩:aI))) | .inr _=>some (.inr r1)) | .inr _=>some (.inr 8)
def ME (ef:aW) (eh:aW):Option (Bool):= ((if ef.number≠eh.number then if ef.of=eh.of then if ef.from_<eh.to_ then some (decide (eh.from_<ef.to_)) else some false else some false else some false):Option (Bool)).bind fun t0=>some t0
def FU (choice:List Int) (r10:(List (Int×aW))) (s1:Nat):Option ((Nat)⊕(Unit⊕Int)):= if (s1:Int)<(choice.length:Int) then choice[s1]?.bind fun x0=>((if ((eN r10 x0).getD (⟨0,0,0,0,([]:List aE)⟩:aW)).of≠0 then (rM choice (((eN r10 x0).getD (⟨0,0,0,0,([]:List aE)⟩:aW)).of)).bind fun r0=>some (!r0) else some false):Option (Bool)).bind fun t0=>if t0 then some (.inr (.inr 10)) else some (.inl (s1+1)) else some (.inr (.inl ()))
def FV (choice:List Int) (r10:(List (Int×aW))) (x0:Int) (s1:Nat):Option ((Nat)⊕(Unit⊕((Nat)⊕(Unit⊕Int)))):= if (s1:Int)<(choice.length:Int) then choice[s1]?.bind fun x1=>(ME ((eN r10 x0).getD (⟨0,0,0,0,([]:List aE)⟩:aW)) ((eN r10 x1).getD (⟨0,0,0,0,([]:List aE)⟩:aW))).bind fun r0=>if r0 then some (.inr (.inr (.inr (.inr 9)))) else some (.inl (s1+1)) else some (.inr (.inl ()))
def FX (choice:List Int) (r10:(List (Int×aW))) (s1:Nat):Option ((Nat)⊕(Unit⊕Int)):= if (s1:Int)<(choice.length:Int) then choice[s1]?.bind fun x0=>(bC (FV choice r10 x0) 0).bind fun eA1=>match eA1 with | .inr z=>some z | .inl t0=>some (.inl (s1+1)) else some (.inr (.inl ()))
def MF (cm:bT) (choice:List Int):Option (Int):= (tI cm).bind fun r10=>(bC (FU choice r10) 0).bind fun e48=>match e48 with | .inr z=>some z | .inl t0=>(bC (FX choice r10) 0).bind fun eA1=>match eA1 with | .inr z=>some z | .inl t1=>some 0
def xW (choice:List Int) (r0:(List (Int×aW))) (s1:Nat):Option ((Nat)⊕(Unit⊕Int)):= if (s1:Int)<(choice.length:Int) then choice[s1]?.bind fun x0=>((if ((eN r0 x0).getD (⟨0,0,0,0,([]:List aE)⟩:aW)).number≠x0 then some true else if x0=0 then some true else if 0<(s1:Int) then (choice[((s1:Int)-1).toNat]?).bind fun x1=>some (decide (x0≤x1)) else some false):Option (Bool)).bind fun t0=>if t0 then some (.inr (.inr 2)) else some (.inl (s1+1)) else some (.inr (.inl ()))
def MG (cm:bT) (choice:List Int):Option (Int):= (AY cm).bind fun r10=>if r10≠0 then some r10 else (tI cm).bind fun r0=>(bC (xW choice r0) 0).bind fun e67=>match e67 with | .inr z=>some z | .inl t0=>(MF cm choice).bind fun r1=>some r1
def tJ (bj:List Int) (s1:Nat):Option ((Nat)⊕(Unit⊕Int)):= if (s1:Int)<(bj.length:Int) then bj[s1]?.bind fun x0=>if x0≠0 then some (.inr (.inr x0)) else some (.inl (s1+1)) else some (.inr (.inl ()))
def MH (bj:List Int):Option (Int):= (bC (tJ bj) 0).bind fun e16=>match e16 with | .inr z=>some z | .inl t0=>some 0
def xX (ef:aW) (eh:aW):Option (Int):= cA (-9223372036854775808≤(ef.from_-eh.from_)∧(ef.from_-eh.from_)≤9223372036854775807) <| cA (-9223372036854775808≤(ef.to_-eh.to_)∧(ef.to_-eh.to_)≤9223372036854775807) <| cA (-9223372036854775808≤(ef.number-eh.number)∧(ef.number-eh.number)≤9223372036854775807) <| (MH ([(ef.from_-eh.from_),(ef.to_-eh.to_),(ef.number-eh.number)]:List Int)).bind fun r24=>some r24
def SM (bx:bT) (gc:Int) (s1:Nat×List aW):Option ((Nat×List aW)⊕(List aW)):= if (s1.1:Int)<(bx.papers.length:Int) then bx.papers[s1.1]?.bind fun x0=>((if x0.of=gc then cA (s1.2.length+1≤1073741824) <| some (s1.2++[x0]) else some s1.2):Option (List aW)).bind fun t0=>some (.inl ((s1.1+1),t0)) else some (.inr s1.2)
def SN (eA1:List aW) (l0:List aW) (yield:aW→Option Bool) (s1:Nat):Option ((Nat)⊕(Unit⊕Unit)):= if (s1:Int)<(eA1.length:Int) then l0[s1]?.bind fun x0=>(yield x0).bind fun r0=>if r0 then some (.inl (s1+1)) else some (.inr (.inr ())) else some (.inr (.inl ()))
def aC2 (yield:aW→Option Bool) (bx:bT) (gc:Int):Option (Unit):= (bC (SM bx gc) (0,([]:List aW))).bind fun eA1=>cA (eA1.Nodup) <| (iT (xX) eA1).bind fun l0=>(bC (SN eA1 l0 yield) 0).bind fun eB1=>match eB1 with | .inr z=>some z | .inl t0=>some ()
def xY (cm:bT) (s2:Int×List aE×List bL) (s1:Nat×List aW):Option ((Nat×List aW)⊕(List aW)):= if (s1.1:Int)<(cm.papers.length:Int) then cm.papers[s1.1]?.bind fun x0=>((if x0.of=s2.1 then cA (s1.2.length+1≤1073741824) <| some (s1.2++[x0]) else some s1.2):Option (List aW)).bind fun t0=>some (.inl ((s1.1+1),t0)) else some (.inr s1.2)
def FY (x1:aW) (r0:List aE) (s2:Int×List aE×List bL) (s1:Int×List aE×List bL):Option ((Int×List aE×List bL)⊕(Int×List aE×List bL)):= if s1.1<x1.from_ then cA (0≤s1.1) <| r0[s1.1.toNat]?.bind fun x0=>cA (s1.2.1.length+([x0]:List aE).length≤1073741824) <| cA (s1.2.2.length+([(⟨s2.1,s1.1⟩:bL)]:List bL).length≤1073741824) <| cA (-9223372036854775808≤(s1.1+1)∧(s1.1+1)≤9223372036854775807) <| some (.inl ((s1.1+1),(s1.2.1++([x0]:List aE)),(s1.2.2++([(⟨s2.1,s1.1⟩:bL)]:List bL)))) else some (.inr (s1.1,s1.2.1,s1.2.2))
def FZ (eB1:List aW) (l0:List aW) (choice:List Int) (r1:List aE) (s2:Int×List aE×List bL) (R0_:(Int×List aE×List bL)→Option (List aE×List bL)) (s1:Nat×Int×List aE×List bL):Option ((Nat×Int×List aE×List bL)⊕(Int×List aE×List bL)):= if (s1.1:Int)<(eB1.length:Int) then l0[s1.1]?.bind fun x0=>(((rM choice x0.number).bind fun r2=>((if r2 then (((bC (FY x0 r1 s2) (s1.2.1,s1.2.2.1,s1.2.2.2)).bind fun eA1=>some (eA1.1,eA1.2.1,eA1.2.2)):Option (Int×List aE×List bL)).bind fun t2=>(R0_ (x0.number,t2.2.1,t2.2.2)).bind fun r0=>some (x0.to_,r0.1,r0.2) else some (s1.2.1,s1.2.2.1,s1.2.2.2)):Option (Int×List aE×List bL)).bind fun t0=>some (t0.1,t0.2.1,t0.2.2)):Option (Int×List aE×List bL)).bind fun t1=>some (.inl ((s1.1+1),t1.1,t1.2.1,t1.2.2)) else some (.inr (s1.2.1,s1.2.2.1,s1.2.2.2))
def GA (r0:List aE) (s2:Int×List aE×List bL) (s1:Int×List aE×List bL):Option ((Int×List aE×List bL)⊕(Int×List aE×List bL)):= if s1.1<(r0.length:Int) then cA (0≤s1.1) <| r0[s1.1.toNat]?.bind fun x0=>cA (s1.2.1.length+([x0]:List aE).length≤1073741824) <| cA (s1.2.2.length+([(⟨s2.1,s1.1⟩:bL)]:List bL).length≤1073741824) <| cA (-9223372036854775808≤(s1.1+1)∧(s1.1+1)≤9223372036854775807) <| some (.inl ((s1.1+1),(s1.2.1++([x0]:List aE)),(s1.2.2++([(⟨s2.1,s1.1⟩:bL)]:List bL)))) else some (.inr (s1.1,s1.2.1,s1.2.2))
def tK (cm:bT) (choice:List Int) (R0_:(Int×List aE×List bL)→Option (List aE×List bL)) (s1:Int×List aE×List bL):Option (List aE×List bL):= (FS cm s1.1).bind fun r0=>(((bC (xY cm s1) (0,([]:List aW))).bind fun eA1=>cA (eA1.Nodup) <| (iT (xX) eA1).bind fun l0=>(bC (FZ eA1 l0 choice r0 s1 R0_) (0,0,s1.2.1,s1.2.2)).bind fun eB1=>some (eB1.1,eB1.2.1,eB1.2.2)):Option (Int×List aE×List bL)).bind fun t0=>(((bC (GA r0 s1) (t0.1,t0.2.1,t0.2.2)).bind fun eC1=>some (eC1.1,eC1.2.1,eC1.2.2)):Option (Int×List aE×List bL)).bind fun t1=>some (t1.2.1,t1.2.2)
def mA (cm:bT) (choice:List Int):Nat→(Int×List aE×List bL)→Option (List aE×List bL)
 | 0,_=>none
 | n_+1,s1=>tK cm choice (mA cm choice n_) s1
def GB (cm:bT) (choice:List Int):Option (List aE×List bL×Int):= (MG cm choice).bind fun r0=>if r0≠0 then some (([]:List aE),([]:List bL),r0) else (sP (fun n_=>mA cm choice n_ (0,([]:List aE),([]:List bL)))).bind fun r1=>some (r1.1,r1.2,0)
def MI (ac:aI) (bz:List Int) (db:aE):Option (aI⊕Int):= (jL ac.state.moved 8).bind fun r3=>match r3 with | .inl y6=>(bz[0]?.bind fun x8=>(vL ac.state.choice x8).bind fun r0=>(jL (!r0.2) 6).bind fun r4=>match r4 with | .inl y0=>((tC ac.state.choice).bind fun r1=>cA (0≤r0.1) <| cA (r0.1.toNat≤r1.length) <| cA (r1.length+([x8]:List Int).length≤1073741824) <| (GB ac.state.motion (r1.take r0.1.toNat++([x8]:List Int)++r1.drop r0.1.toNat)).bind fun r2=>(nP r2.2.2).bind fun r5=>match r5 with | .inl y1=>(some (.inl (⟨({ac.state with choice:=(r1.take r0.1.toNat++([x8]:List Int)++r1.drop r0.1.toNat)}:dE)⟩:aI))) | .inr _=>some (.inr r2.2.2)) | .inr _=>some (.inr 6)) | .inr _=>some (.inr 8)
def MJ (ac:aI) (bz:List Int) (db:aE):Option (aI⊕Int):= ((if ac.state.moved then (jL (!ac.state.bound) 8).bind fun r22=>match r22 with | .inl y1=>some (.inl ()) | .inr _=>(some (.inr (.inr 8))) else (jL false 8).bind fun r1=>match r1 with | .inl y2=>some (.inl ()) | .inr _=>some (.inr (.inr 8))):Option (Unit⊕(aI⊕Int))).bind fun t0=>match t0 with | .inr z=>some z | .inl t1=>(GB ac.state.motion ac.state.choice).bind fun r0=>(nP r0.2.2).bind fun r2=>match r2 with | .inl y3=>((DV r0.1 [32]).bind fun r3=>(xG ac bz r3).bind fun r4=>match r4 with | .inl y0=>(some (.inl (⟨({y0.state with motion:=(⟨([]:List aE),([]:List aW)⟩:bT),moved:=false,choice:=([]:List Int)}:dE)⟩:aI))) | .inr y0=>some (.inr y0)) | .inr _=>some (.inr r0.2.2)
def UX : Option ((List (aE×cX))):= some (put (put (put (put (put (put (put (put (put (put (put (put (put (put (put (put (put ([]:List (aE×cX)) [100,97,121] (⟨1,false,(some 82)⟩:cX)) [115,97,121] (⟨1,true,(some 83)⟩:cX)) [98,105,110,100] (⟨3,false,(some 84)⟩:cX)) [99,104,97,110,103,101] (⟨2,true,(some 85)⟩:cX)) [114,101,109,111,118,101] (⟨2,false,(some 86)⟩:cX)) [97,100,100] (⟨3,true,(some 87)⟩:cX)) [99,105,116,101] (⟨2,false,(some 88)⟩:cX)) [104,105,100,101] (⟨3,false,(some 89)⟩:cX)) [104,111,117,115,101] (⟨1,false,(some 90)⟩:cX)) [100,105,118,105,100,101] (⟨4,false,(some 91)⟩:cX)) [116,101,108,108] (⟨3,false,(some 92)⟩:cX)) [112,97,105,114] (⟨2,false,(some 93)⟩:cX)) [114,101,115,117,108,116] (⟨0,false,(some 94)⟩:cX)) [109,111,118,101] (⟨0,true,(some 95)⟩:cX)) [112,97,112,101,114] (⟨4,true,(some 96)⟩:cX)) [97,100,111,112,116] (⟨1,false,(some 97)⟩:cX)) [111,114,100,101,114] (⟨1,false,(some 98)⟩:cX))
def SO (ai:aE):Option (Int⊕Unit):= (m69 ai).bind fun r1=>((if r1.2 then (jL false 4).bind fun r0=>match r0 with | .inl y0=>some (.inl ()) | .inr _=>(some (.inr (.inr ()))) else (UT r1.1).bind fun r2=>if r2=ai then (zN r1.1 (-999999999) 999999999).bind fun r3=>(jL r3 4).bind fun r4=>match r4 with | .inl y1=>some (.inl ()) | .inr _=>(some (.inr (.inr ()))) else (jL false 4).bind fun r5=>match r5 with | .inl y2=>some (.inl ()) | .inr _=>some (.inr (.inr ()))):Option (Unit⊕(Int⊕Unit))).bind fun t34=>match t34 with | .inr z=>some z | .inl t37=>some (.inl r1.1)
def AZ (q:Option Nat) (ac:aI) (bz:List Int) (db:aE):Option (aI⊕Int):= if q=some 82 then KF ac bz db else if q=some 83 then xG ac bz db else if q=some 84 then KL ac bz db else if q=some 85 then RL ac bz db else if q=some 86 then RM ac bz db else if q=some 87 then RN ac bz db else if q=some 88 then KP ac bz db else if q=some 89 then KR ac bz db else if q=some 90 then KS ac bz db else if q=some 91 then LA ac bz db else if q=some 92 then LC ac bz db else if q=some 93 then LE ac bz db else if q=some 94 then LU ac bz db else if q=some 95 then MB ac bz db else if q=some 96 then MD ac bz db else if q=some 97 then MI ac bz db else if q=some 98 then MJ ac bz db else none
def lN (r7:(List (aE×cX))) (r4:aE×aE×Bool) (ac:aI) (s1:Nat×aE×Bool×List Int):Option ((Nat×aE×Bool×List Int)⊕((aE×Bool×List Int)⊕(aI×Int))):= if (s1.1:Int)<((eN r7 r4.1).getD (⟨0,false,(none:Option Nat)⟩:cX)).many then (jL s1.2.2.1 4).bind fun r1=>match r1 with | .inl y1=>((IM s1.2.1 [32]).bind fun r0=>(SO r0.1).bind fun r2=>match r2 with | .inl y0=>cA (s1.2.2.2.length+1≤1073741824) <| cA (-9223372036854775808≤((s1.1:Int)+1)∧((s1.1:Int)+1)≤9223372036854775807) <| some (.inl ((s1.1+1),r0.2.1,r0.2.2,(s1.2.2.2++[y0]))) | .inr _=>some (.inr (.inr (ac,4)))) | .inr _=>(some (.inr (.inr (ac,4)))) else some (.inr (.inl (s1.2.1,s1.2.2.1,s1.2.2.2)))
def vN (ac:aI) (text:aE):Option (aI×Int):= (IM text [32]).bind fun r4=>(UX).bind fun r7=>(jL ((eN r7 r4.1).isSome) 4).bind fun r0=>match r0 with | .inl y1=>((bC (lN r7 r4 ac) (0,r4.2.1,r4.2.2,([]:List Int))).bind fun e99=>match e99 with | .inr z=>some z | .inl t102=>(jL (t102.2.1==((eN r7 r4.1).getD (⟨0,false,(none:Option Nat)⟩:cX)).text) 4).bind fun r1=>match r1 with | .inl y2=>((AZ (((eN r7 r4.1).getD (⟨0,false,(none:Option Nat)⟩:cX)).do_) ac t102.2.2 t102.1).bind fun r2=>match r2 with | .inl y0=>some (y0,0) | .inr y0=>some (ac,y0)) | .inr _=>some (ac,4)) | .inr _=>some (ac,4)
def zX (lines:List aE) (s:Nat×aI×List Int):Option ((Nat×aI×List Int)⊕(aI×List Int)):= if (s.1:Int)<(lines.length:Int) then lines[s.1]?.bind fun x=>(vN s.2.1 x).bind fun r=>cA (s.2.2.length+1≤1073741824) <| some (.inl ((s.1+1),r.1,(s.2.2++[r.2]))) else some (.inr s.2)
def XL (lines:List aE):Option (aI×List Int):= (bC (zX lines) (0,(⟨(⟨0,0,(⟨0,0,0,0,([]:List eI)⟩:bD),false,([]:List aL),([]:List gY),([]:List aE),(⟨([]:List aE),([]:List aW)⟩:bT),false,([]:List Int),(⟨0,(⟨([]:List Int),([]:List Int)⟩:bN),(⟨([]:List Int),([]:List Int)⟩:bN),([]:List fN),([]:List dY),0,0,0,0⟩:aY),false,([]:List UInt8)⟩:dE)⟩:aI),([]:List Int))).bind fun e=>some e
def m8 (lines:List aE):Option (dE×List Int×Int):= (UV lines).bind fun r2=>if r2≠0 then some ((⟨0,0,(⟨0,0,0,0,([]:List eI)⟩:bD),false,([]:List aL),([]:List gY),([]:List aE),(⟨([]:List aE),([]:List aW)⟩:bT),false,([]:List Int),(⟨0,(⟨([]:List Int),([]:List Int)⟩:bN),(⟨([]:List Int),([]:List Int)⟩:bN),([]:List fN),([]:List dY),0,0,0,0⟩:aY),false,([]:List UInt8)⟩:dE),([]:List Int),r2) else (XL lines).bind fun r11=>some (r11.1.state,r11.2,0)
def XM (turned:Bool) (s1:Int×Int×dL):Option ((Int×Int×dL)⊕(dL)):= if 0≤s1.2.1 then cA (0≤s1.1∧0<(8:Int)) <| ((if turned then some (7-(s1.1%8)) else some (s1.1%8)):Option (Int)).bind fun t0=>cA (-9223372036854775808≤(48+t0)∧(48+t0)≤9223372036854775807) <| cA (0≤(48+t0)∧(48+t0)≤255) <| cA (s1.2.1<6) <| cA (0≤s1.1∧s1.1≤9223372036854775807∧0<(8:Int)) <| cA (-9223372036854775808≤(s1.2.1-1)∧(s1.2.1-1)≤9223372036854775807) <| some (.inl ((s1.1/8),(s1.2.1-1),(dL.set s1.2.2 s1.2.1.toNat (48+t0)))) else some (.inr s1.2.2)
def m80 (cy:Int) (many:Int) (turned:Bool):Option (aE):= cA (-9223372036854775808≤(many-1)∧(many-1)≤9223372036854775807) <| (bC (XM turned) (cy,(many-1),dL.zero)).bind fun e46=>cA (∀ v∈dL.vals e46,0≤v∧v≤255) <| cA (0≤many) <| cA (many.toNat≤6) <| some (((dL.vals e46).map IK).take many.toNat)
def XN (ai:aE) (s50:Nat×Int):Option ((Nat×Int)⊕(Int)):= if (s50.1:Int)<(ai.length:Int) then ai[s50.1]?.bind fun x0=>cA (-9223372036854775808≤(29*s50.2)∧(29*s50.2)≤9223372036854775807) <| cA (-9223372036854775808≤((29*s50.2)+(x0.toNat:Int))∧((29*s50.2)+(x0.toNat:Int))≤9223372036854775807) <| cA (-9223372036854775808≤(((29*s50.2)+(x0.toNat:Int))+3)∧(((29*s50.2)+(x0.toNat:Int))+3)≤9223372036854775807) <| cA (0≤(((29*s50.2)+(x0.toNat:Int))+3)∧0<(262139:Int)) <| some (.inl ((s50.1+1),((((29*s50.2)+(x0.toNat:Int))+3)%262139))) else some (.inr s50.2)
def m54 (ai:aE):Option (aE):= cA (ai.length≤1073741824) <| (bC (XN ai) (0,11)).bind fun e47=>(m80 (ai.length:Int) 4 false).bind fun r0=>cA ([91].length+r0.length≤1073741824) <| (m80 (ai.length:Int) 4 true).bind fun r1=>cA (([91]++r0).length+r1.length≤1073741824) <| (m80 e47 6 false).bind fun r2=>cA ((([91]++r0)++r1).length+r2.length≤1073741824) <| cA (((([91]++r0)++r1)++r2).length+[93].length≤1073741824) <| cA ((((([91]++r0)++r1)++r2)++[93]).length+ai.length≤1073741824) <| cA (((((([91]++r0)++r1)++r2)++[93])++ai).length+[10].length≤1073741824) <| some (((((([91]++r0)++r1)++r2)++[93])++ai)++[10])
def XO (lines:List aE) (s1:Nat×List UInt8):Option ((Nat×List UInt8)⊕(List UInt8)):= if (s1.1:Int)<(lines.length:Int) then lines[s1.1]?.bind fun x0=>(m54 x0).bind fun r0=>cA (s1.2.length+r0.length≤1073741824) <| some (.inl ((s1.1+1),(s1.2++r0))) else some (.inr s1.2)
def m35 (lines:List aE):Option (List UInt8):= (bC (XO lines) (0,([]:List UInt8))).bind fun e64=>some e64
def m19 (lines:List aE):Option (List UInt8×Int):= (UV lines).bind fun r1=>if r1≠0 then some (([]:List UInt8),r1) else (m35 lines).bind fun r10=>some (r10,0)
def OX (ef:List aE) (eh:List aE) (s1:Nat):Option ((Nat)⊕(Unit⊕Bool)):= if (s1:Int)<(ef.length:Int) then ef[s1]?.bind fun x0=>eh[s1]?.bind fun x1=>if x0≠x1 then some (.inr (.inr false)) else some (.inl (s1+1)) else some (.inr (.inl ()))
def m17 (ef:List aE) (eh:List aE):Option (Bool):= if (ef.length:Int)≠(eh.length:Int) then some false else (bC (OX ef eh) 0).bind fun e31=>match e31 with | .inr z=>some z | .inl t34=>some true
def m7 : Option (Bool):= (m18).bind fun r1=>(m8 r1).bind fun r8=>(m19 ([[97]]:List aE)).bind fun r0=>((if r8.2.2=0 then if r0.2=0 then if (r8.2.1.length:Int)=18 then r8.2.1[11]?.bind fun x0=>if x0=10 then r8.2.1[17]?.bind fun x1=>if x1=0 then if r8.1.bound then if (r8.1.results.length:Int)=1 then r8.1.results[0]?.bind fun x2=>if (x2.toNat:Int)=1 then (m17 r8.1.cites ([[118,111,108,46,32,51,44,32,99,111,108,46,32,49,44,32,108,46,32,50]]:List aE)).bind fun r2=>if r2 then some (decide (r0.1=[91,48,48,48,49,55,55,55,54,48,48,48,54,52,51,93,97,10])) else some false else some false else some false else some false else some false else some false else some false else some false else some false):Option (Bool)).bind fun t0=>some t0
def m9 (bj:List aE):Option (List aE):= cA (([]:List aE).length+bj.length≤1073741824) <| some (([]:List aE)++bj)
def m29 (ac:aI):Option (List aH):= (EP ac).bind fun r3=>(EM r3 ac.state.errata ac.state.day).bind fun r11=>some r11.1
def vO (cy:Int) (low:Int) (high:Int):Option (Bool):= ((if low≤cy then some (decide (cy≤high)) else some false):Option (Bool)).bind fun t4=>some t4
def GC (cy:Int):Option (Bool):= (vO cy 0 9999).bind fun r1=>some r1
def BA (gq:dI) (bx:eL):Option (Bool):= ((if (0:Int)≤gq.from_ then if gq.from_<gq.to_ then if gq.to_≤(bx.words.length:Int) then (vO gq.kind 0 7).bind fun r0=>if r0 then (GC gq.until_).bind fun r1=>some r1 else some false else some false else some false else some false):Option (Bool)).bind fun t28=>some t28
def xZ (aw:dZ) (bx:dZ→Option Bool):Option (Bool):= (bx aw).bind fun r7=>some (!r7)
def GD (ai:List dZ) (cg:dZ→Option Bool) (s1:Nat):Option ((Nat)⊕(Unit⊕Int)):= if (s1:Int)<(ai.length:Int) then ai[s1]?.bind fun x0=>(cg x0).bind fun r0=>if r0 then some (.inr (.inr (s1:Int))) else some (.inl (s1+1)) else some (.inr (.inl ()))
def SP (ai:List dZ) (cg:dZ→Option Bool):Option (Int):= (bC (GD ai cg) 0).bind fun e23=>match e23 with | .inr z=>some z | .inl t26=>some (-1)
def SQ (ai:List dZ) (cg:dZ→Option Bool):Option (Bool):= (SP ai cg).bind fun r1=>some (decide (0≤r1))
def GE (bj:List dZ) (right:dZ→Option Bool):Option (Bool):= (SQ bj (fun x0_=>xZ x0_ right)).bind fun r5=>some (!r5)
def MK (ia:dZ):Option (Bool):= some (decide ((ia.heads.length:Int)≤5))
def yA (aw:Int) (bx:Int→Option Bool):Option (Bool):= (bx aw).bind fun r1=>some (!r1)
def ML (bj:List UInt8) (right:Int→Option Bool):Option (Bool):= (xF bj (fun x0_=>yA x0_ right)).bind fun r5=>some (!r5)
def GF (fh:Int):Option (Bool):= ((if (33:Int)≤fh then some (decide (fh≤126)) else some false):Option (Bool)).bind fun t4=>some t4
def vP (bj:List Int) (most:Int) (s1:Nat):Option ((Nat)⊕(Unit⊕Bool)):= if (s1:Int)<(bj.length:Int) then bj[s1]?.bind fun x0=>(((vO x0 0 most).bind fun r0=>if r0 then if 0<(s1:Int) then (bj[((s1:Int)-1).toNat]?).bind fun x1=>some (decide (x0≤x1)) else some false else some true):Option (Bool)).bind fun t0=>if t0 then some (.inr (.inr false)) else some (.inl (s1+1)) else some (.inr (.inl ()))
def zY (bj:List Int) (most:Int):Option (Bool):= (bC (vP bj most) 0).bind fun e33=>match e33 with | .inr z=>some z | .inl t36=>some true
def BB (ia:dZ):Option (Bool):= (((vO (ia.text.length:Int) 1 20).bind fun r0=>if r0 then cA (ia.text.length≤1073741824) <| (ML ia.text (GF)).bind fun r1=>if r1 then (zY ia.heads 99).bind fun r2=>some r2 else some false else some false):Option (Bool)).bind fun t0=>some t0
def yB (aw:dI) (bx:dI→Option Bool):Option (Bool):= (bx aw).bind fun r4=>some (!r4)
def GG (ai:List dI) (cg:dI→Option Bool) (s1:Nat):Option ((Nat)⊕(Unit⊕Int)):= if (s1:Int)<(ai.length:Int) then ai[s1]?.bind fun x0=>(cg x0).bind fun r0=>if r0 then some (.inr (.inr (s1:Int))) else some (.inl (s1+1)) else some (.inr (.inl ()))
def SR (ai:List dI) (cg:dI→Option Bool):Option (Int):= (bC (GG ai cg) 0).bind fun e19=>match e19 with | .inr z=>some z | .inl t0=>some (-1)
def SS (ai:List dI) (cg:dI→Option Bool):Option (Bool):= (SR ai cg).bind fun r1=>some (decide (0≤r1))
def MM (bj:List dI) (right:dI→Option Bool):Option (Bool):= (SS bj (fun x0_=>yB x0_ right)).bind fun r5=>some (!r5)
def UY (ej:eL):Option (Int):= ((if 60<(ej.words.length:Int) then some true else if 12<(ej.orders.length:Int) then some true else (GE ej.words (MK)).bind fun r0=>some (!r0)):Option (Bool)).bind fun t55=>if t55 then some 3 else (((GE ej.words (BB)).bind fun r1=>if r1 then (MM ej.orders (fun x0_=>BA x0_ ej)).bind fun r2=>if r2 then (vO ej.columns 1 20).bind fun r3=>some (!r3) else some true else some true):Option (Bool)).bind fun t0=>if t0 then some 1 else some 0
def SU (ac:eE) (ib:dI):Option (Bool):= (rM ac.reader.may ib.kind).bind fun r9=>some (!r9)
def m77 (ac:eE) (ib:dI):Option (Bool):= ((if ac.reader.year<ib.until_ then (SU ac ib).bind fun r0=>some r0 else some false):Option (Bool)).bind fun t0=>some t0
def GH (x0:dI) (s1:Int×bG):Option ((Int×bG)⊕(bG)):= if s1.1<x0.to_ then cA (0≤s1.1) <| cA (s1.1<60) <| cA (-9223372036854775808≤(s1.1+1)∧(s1.1+1)≤9223372036854775807) <| some (.inl ((s1.1+1),(bG.set s1.2 s1.1.toNat true))) else some (.inr s1.2)
def OY (ej:eL) (ct:eV) (s1:Nat×bG):Option ((Nat×bG)⊕(bG)):= if (s1.1:Int)<(ej.orders.length:Int) then ej.orders[s1.1]?.bind fun x0=>(m77 (⟨ej,ct,s1.2⟩:eE) x0).bind fun r0=>((if r0 then (((bC (GH x0) (x0.from_,s1.2)).bind fun eA1=>some eA1):Option (bG)).bind fun t0=>some t0 else some s1.2):Option (bG)).bind fun t1=>some (.inl ((s1.1+1),t1)) else some (.inr s1.2)
def m52 (ej:eL) (ct:eV):Option (eE×Int):= (UY ej).bind fun r0=>if r0≠0 then some ((⟨(⟨([]:List dZ),([]:List dI),0⟩:eL),(⟨0,([]:List Int)⟩:eV),bG.zero⟩:eE),r0) else (((GC ct.year).bind fun r1=>if r1 then (zY ct.may 7).bind fun r2=>some (!r2) else some true):Option (Bool)).bind fun t35=>if t35 then some ((⟨(⟨([]:List dZ),([]:List dI),0⟩:eL),(⟨0,([]:List Int)⟩:eV),bG.zero⟩:eE),2) else (bC (OY ej ct) (0,bG.zero)).bind fun eA1=>some ((⟨ej,ct,eA1⟩:eE),0)
def XP (bx:eE) (yield:Int→gA→Option Bool) (s1:Nat×Nat):Option ((Nat×Nat)⊕(Unit⊕Unit)):= if (s1.2:Int)<(bx.report.words.length:Int) then ((bx.report.words[s1.2]?.bind fun x0=>cA (0≤(s1.1:Int)∧(s1.1:Int)≤9223372036854775807∧0<bx.report.columns) <| cA (-9223372036854775808≤(((s1.1:Int)/bx.report.columns)+1)∧(((s1.1:Int)/bx.report.columns)+1)≤9223372036854775807) <| cA ((s1.2:Int)<60) <| ((if bG.get bx.veil s1.2 then ((if 0<(s1.2:Int) then cA (((s1.2:Int)-1)<60) <| some (bG.get bx.veil (((s1.2:Int)-1).toNat)) else some false):Option (Bool)).bind fun t167=>if t167 then Option.map (fun z=>.inr z) (some (.inl s1.1)) else some (.inl ((-1),[])) else some (.inl ((s1.2:Int),x0.text))):Option ((Int×aE)⊕((Nat)⊕((Nat×Nat)⊕(Unit⊕Unit))))).bind fun t155=>match t155 with | .inr z=>some z | .inl t0=>(yield t0.1 (⟨t0.2,(((s1.1:Int)/bx.report.columns)+1)⟩:gA)).bind fun r0=>if r0 then cA (-9223372036854775808≤((s1.1:Int)+1)∧((s1.1:Int)+1)≤9223372036854775807) <| some (.inl (s1.1+1)) else some (.inr (.inr (.inr ())))):Option ((Nat)⊕((Nat×Nat)⊕(Unit⊕Unit)))).bind fun t1=>match t1 with | .inr z=>some z | .inl t2=>some (.inl (t2,(s1.2+1))) else some (.inr (.inl ()))
def m79 (yield:Int→gA→Option Bool) (bx:eE):Option (Unit):= (bC (XP bx yield) (0,0)).bind fun e59=>match e59 with | .inr z=>some z | .inl t62=>some ()
def OZ (r0:eE×Int) (s1:Nat×Nat×List gA):Option ((Nat×Nat×List gA)⊕(List gA)):= if (s1.2.1:Int)<(r0.1.report.words.length:Int) then ((r0.1.report.words[s1.2.1]?.bind fun x0=>cA (0≤(s1.1:Int)∧(s1.1:Int)≤9223372036854775807∧0<r0.1.report.columns) <| cA (-9223372036854775808≤(((s1.1:Int)/r0.1.report.columns)+1)∧(((s1.1:Int)/r0.1.report.columns)+1)≤9223372036854775807) <| cA ((s1.2.1:Int)<60) <| ((if bG.get r0.1.veil s1.2.1 then ((if 0<(s1.2.1:Int) then cA (((s1.2.1:Int)-1)<60) <| some (bG.get r0.1.veil (((s1.2.1:Int)-1).toNat)) else some false):Option (Bool)).bind fun t1=>if t1 then Option.map (fun z=>.inr z) (some (s1.1,s1.2.2)) else some (.inl ((-1),[])) else some (.inl ((s1.2.1:Int),x0.text))):Option ((Int×aE)⊕(Nat×List gA))).bind fun t2=>match t2 with | .inr z=>some z | .inl t3=>((cA (s1.2.2.length+1≤1073741824) <| some (s1.2.2++[(⟨t3.2,(((s1.1:Int)/r0.1.report.columns)+1)⟩:gA)])):Option (List gA)).bind fun t4=>cA (-9223372036854775808≤((s1.1:Int)+1)∧((s1.1:Int)+1)≤9223372036854775807) <| some ((s1.1+1),t4)):Option (Nat×List gA)).bind fun t0=>some (.inl (t0.1,(s1.2.1+1),t0.2)) else some (.inr s1.2.2)
def m31 (ej:eL) (ct:eV):Option (List gA×Int):= (m52 ej ct).bind fun r0=>if r0.2≠0 then some (([]:List gA),r0.2) else (((bC (OZ r0) (0,0,([]:List gA))).bind fun eA1=>some eA1):Option (List gA)).bind fun t0=>some (t0,0)
def vQ (t90:List aH) (s1:Nat×List dZ):Option ((Nat×List dZ)⊕(List dZ)):= if (s1.1:Int)<(t90.length:Int) then t90[s1.1]?.bind fun x0=>(UT x0.anchor).bind fun r0=>cA (s1.2.length+([(⟨r0,([]:List Int)⟩:dZ)]:List dZ).length≤1073741824) <| some (.inl ((s1.1+1),(s1.2++([(⟨r0,([]:List Int)⟩:dZ)]:List dZ)))) else some (.inr s1.2)
def zZ (t90:List aH) (x0:gY) (s2:Nat×List dI) (s1:Nat):Option ((Nat)⊕(Unit⊕(List dI))):= if (s1:Int)<(t90.length:Int) then t90[s1]?.bind fun x1=>if x1.anchor=x0.anchor then cA (s2.2.length+1≤1073741824) <| Option.map (fun z=>.inr (.inr z)) (some (s2.2++[({x0 with from_:=(s1:Int),to_:=((s1:Int)+1)}:dI)])) else some (.inl (s1+1)) else some (.inr (.inl ()))
def vT (r10:aI×List Int) (t90:List aH) (s1:Nat×List dI):Option ((Nat×List dI)⊕(List dI)):= if (s1.1:Int)<(r10.1.state.hides.length:Int) then ((r10.1.state.hides[s1.1]?.bind fun x0=>(bC (zZ t90 x0 s1) 0).bind fun eA1=>match eA1 with | .inr z=>some z | .inl t1=>some s1.2):Option (List dI)).bind fun t0=>some (.inl ((s1.1+1),t0)) else some (.inr s1.2)
def GI (r0:List gA×Int) (s1:Nat×List aE):Option ((Nat×List aE)⊕(List aE)):= if (s1.1:Int)<(r0.1.length:Int) then r0.1[s1.1]?.bind fun x0=>((if x0.text=[] then some [42] else some x0.text):Option (aE)).bind fun t0=>cA (s1.2.length+1≤1073741824) <| some (.inl ((s1.1+1),(s1.2++[t0]))) else some (.inr s1.2)
def PA (lines:List aE) (year:Int) (may:List Int):Option (List aE×Int):= (UV lines).bind fun r1=>if r1≠0 then some (([]:List aE),r1) else (XL lines).bind fun r10=>(((EP r10.1).bind fun r2=>(EM r2 r10.1.state.errata r10.1.state.day).bind fun r3=>some r3.1):Option (List aH)).bind fun t90=>(bC (vQ t90) (0,([]:List dZ))).bind fun eA1=>(bC (vT r10 t90) (0,([]:List dI))).bind fun eB1=>(m31 (⟨eA1,eB1,5⟩:eL) (⟨year,may⟩:eV)).bind fun r0=>if r0.2≠0 then some (([]:List aE),r0.2) else (bC (GI r0) (0,([]:List aE))).bind fun eC1=>some (eC1,0)
def PB (bj:List Int) (dq:Int) (s1:Nat):Option ((Nat)⊕(Unit⊕Bool)):= if (s1:Int)<(bj.length:Int) then bj[s1]?.bind fun x0=>if x0=dq then some (.inr (.inr true)) else some (.inl (s1+1)) else some (.inr (.inl ()))
def m14 (bj:List Int) (dq:Int):Option (Bool):= (bC (PB bj dq) 0).bind fun e16=>match e16 with | .inr z=>some z | .inl t0=>some false
def tL:Nat→Int→Option (aE)
 | 0,_=>none
 | n_+1,cy =>
 if cy<10 then (
  cA (0≤cy∧0<(10:Int)) <|
  cA (0≤(48+(cy%10))∧(48+(cy%10))≤255) <|
  some ([(UInt8.ofNat (48+(cy%10)).toNat)]:List UInt8))
 else
 cA (0≤cy∧cy≤9223372036854775807∧0<(10:Int)) <|
 (tL n_ (cy/10)).bind fun r0 =>
 cA (0≤cy∧0<(10:Int)) <|
 (tL n_ (cy%10)).bind fun r1 =>
 cA (r0.length+r1.length≤1073741824) <|
 some (r0++r1)
def m15 (cy:Int):Option (aE):=sP (fun n_=>tL n_ cy)
def SV (r0:List aE×Int) (x0:gY) (s1:Nat):Option ((Nat)⊕(Unit⊕(Unit⊕((Nat)⊕(Unit⊕Bool))))):= if (s1:Int)<(r0.1.length:Int) then ((if x0.anchor<0 then some true else r0.1[s1]?.bind fun x1=>(m15 x0.anchor).bind fun r1=>some (decide (x1=r1))):Option (Bool)).bind fun t0=>if t0 then some (.inr (.inr (.inr (.inr (.inr false))))) else some (.inl (s1+1)) else some (.inr (.inl ()))
def SW (r0:dE×List Int×Int) (year:Int) (may:List Int) (r1:List aE×Int) (s1:Nat):Option ((Nat)⊕(Unit⊕Bool)):= if (s1:Int)<(r0.1.hides.length:Int) then ((r0.1.hides[s1]?.bind fun x0=>((if x0.until_≤year then some true else (m14 may x0.kind).bind fun r2=>some r2):Option (Bool)).bind fun t0=>if t0 then some (.inl ()) else (bC (SV r1 x0) 0).bind fun eA1=>match eA1 with | .inr z=>some z | .inl t2=>some (.inl ())):Option (Unit⊕((Nat)⊕(Unit⊕Bool)))).bind fun t1=>match t1 with | .inr z=>some z | .inl t3=>some (.inl (s1+1)) else some (.inr (.inl ()))
def MN (lines:List aE) (r2:dE×List Int×Int) (s1:Nat×List aE):Option ((Nat×List aE)⊕(List aE)):= if (s1.1:Int)<(lines.length:Int) then lines[s1.1]?.bind fun x0=>(m16 x0).bind fun r0=>((if r0.2.2.2 then if r0.1=[115,97,121] then r2.2.1[s1.1]?.bind fun x1=>if x1=0 then r0.2.1[0]?.bind fun x2=>some (decide (0≤x2)) else some false else some false else some false):Option (Bool)).bind fun t0=>((if t0 then r0.2.1[0]?.bind fun x3=>(m15 x3).bind fun r1=>cA ([115,97,121,32].length+r1.length≤1073741824) <| cA (([115,97,121,32]++r1).length+[32,115,105,108,101,110,99,101].length≤1073741824) <| s1.2[s1.1]?.bind fun x4=>some (s1.2.set s1.1 (([115,97,121,32]++r1)++[32,115,105,108,101,110,99,101])) else some s1.2):Option (List aE)).bind fun t1=>some (.inl ((s1.1+1),t1)) else some (.inr s1.2)
def m4 (lines:List aE) (year:Int) (may:List Int):Option (Bool):= cA (-9223372036854775808≤year∧year≤9223372036854775807) <| (((m5 lines).bind fun r4=>if r4 then (m6 lines).bind fun r5=>if r5 then if 8<(may.length:Int) then some true else (m12 (⟨year,may⟩:eV)).bind fun r8=>some (!r8) else some true else some true):Option (Bool)).bind fun t0=>if t0 then (m7).bind fun r9=>some r9 else (m9 lines).bind fun r1=>(m8 r1).bind fun r0=>cA (([]:List Int).length+may.length≤1073741824) <| (PA r1 year (([]:List Int)++may)).bind fun r2=>((if r0.2.2≠0 then some true else if r2.2≠0 then some true else some (decide ((r0.2.1.length:Int)≠(lines.length:Int)))):Option (Bool)).bind fun t1=>if t1 then some false else (bC (SW r0 year may r2) 0).bind fun eA1=>match eA1 with | .inr z=>some z | .inl t222=>(bC (MN lines r0) (0,r1)).bind fun eB1=>(PA eB1 year (([]:List Int)++may)).bind fun r3=>((if r3.2=0 then (m17 r2.1 r3.1).bind fun rA1=>if rA1 then (m7).bind fun rB1=>some rB1 else some false else some false):Option (Bool)).bind fun t2=>some t2
end
end T12
namespace T12
open Go.Proofs
abbrev aC3:=@Tryz.call100
abbrev aC4:=@Tryz.call101
abbrev aC5:=@Tryz.call102
abbrev aC6:=@Tryz.call103
abbrev aC7:=@Tryz.call104
abbrev XQ:=@Tryz.call105
abbrev MO:=@Tryz.call106
abbrev SX:=@Tryz.call107
abbrev SY:=@Tryz.call108
abbrev aC8:=@Tryz.call109
abbrev aC9:=@Tryz.call110
abbrev aDa:=@Tryz.call111
abbrev aDb:=@Tryz.call112
abbrev C12:=@Tryz.call12
abbrev aDc:=@Tryz.call121
abbrev GJ:=@Tryz.call122
abbrev XR:=@Tryz.call123
abbrev aDd:=@Tryz.call124
abbrev aDe:=@Tryz.call125
abbrev aDf:=@Tryz.call126
abbrev aDg:=@Tryz.call127
abbrev aDh:=@Tryz.call129
abbrev C13:=@Tryz.call13
abbrev aDi:=@Tryz.call130
abbrev jQ:=@Tryz.call131
abbrev BC:=@Tryz.call132
abbrev aDj:=@Tryz.call133
abbrev aDk:=@Tryz.call134
abbrev aDl:=@Tryz.call135
abbrev MP:=@Tryz.call136
abbrev GK:=@Tryz.call137
abbrev GL:=@Tryz.call138
abbrev GM:=@Tryz.call139
abbrev C14:=@Tryz.call14
abbrev aDm:=@Tryz.call140
abbrev aDn:=@Tryz.call141
abbrev aDo:=@Tryz.call142
abbrev XS:=@Tryz.call143
abbrev SZ:=@Tryz.call144
abbrev aDp:=@Tryz.call145
abbrev XT:=@Tryz.call146
abbrev aDq:=@Tryz.call147
abbrev aDr:=@Tryz.call148
abbrev aDs:=@Tryz.call149
abbrev C15:=@Tryz.call15
abbrev TA:=@Tryz.call150
abbrev aDt:=@Tryz.call151
abbrev aDu:=@Tryz.call153
abbrev aDv:=@Tryz.call154
abbrev XU:=@Tryz.call155
abbrev C16:=@Tryz.call16
abbrev aDw:=@Tryz.call165
abbrev aDx:=@Tryz.call169
abbrev C17:=@Tryz.call17
abbrev aDy:=@Tryz.call170
abbrev aDz:=@Tryz.call171
abbrev aD0:=@Tryz.call172
abbrev aD1:=@Tryz.call173
abbrev aD2:=@Tryz.call174
abbrev GN:=@Tryz.call175
abbrev C18:=@Tryz.call18
abbrev aD3:=@Tryz.call180
abbrev aD4:=@Tryz.call181
abbrev TB:=@Tryz.call182
abbrev aD5:=@Tryz.call183
abbrev aD6:=@Tryz.call184
abbrev aD7:=@Tryz.call185
abbrev aD8:=@Tryz.call186
abbrev XV:=@Tryz.call187
abbrev C19:=@Tryz.call19
abbrev aD9:=@Tryz.call190
abbrev aEa:=@Tryz.call191
abbrev aEb:=@Tryz.call192
abbrev aEc:=@Tryz.call193
abbrev aEd:=@Tryz.call194
abbrev aEe:=@Tryz.call195
abbrev aEf:=@Tryz.call196
abbrev aEg:=@Tryz.call197
abbrev aEh:=@Tryz.call198
abbrev C20:=@Tryz.call20
abbrev aEj:=@Tryz.call200
abbrev aEk:=@Tryz.call201
abbrev aEl:=@Tryz.call202
abbrev XW:=@Tryz.call203
abbrev XX:=@Tryz.call204
abbrev XY:=@Tryz.call205
abbrev aEm:=@Tryz.call206
abbrev C21:=@Tryz.call21
abbrev aEn:=@Tryz.call210
abbrev aEo:=@Tryz.call211
abbrev C22:=@Tryz.call22
abbrev MQ:=@Tryz.call221
abbrev aEq:=@Tryz.call228
abbrev aEr:=@Tryz.call229
abbrev C23:=@Tryz.call23
abbrev aEs:=@Tryz.call230
abbrev aEt:=@Tryz.call231
abbrev XZ:=@Tryz.call234
abbrev aEu:=@Tryz.call236
abbrev aEv:=@Tryz.call237
abbrev aEw:=@Tryz.call238
abbrev MR:=@Tryz.call239
abbrev MS:=@Tryz.call240
abbrev YA:=@Tryz.call241
abbrev aEx:=@Tryz.call242
abbrev aEy:=@Tryz.call243
abbrev aEz:=@Tryz.call244
abbrev GO:=@Tryz.call245
abbrev aE0:=@Tryz.call246
abbrev aE1:=@Tryz.call247
abbrev YB:=@Tryz.call248
abbrev YC:=@Tryz.call249
abbrev C25:=@Tryz.call25
abbrev aE2:=@Tryz.call250
abbrev aE3:=@Tryz.call251
abbrev aE4:=@Tryz.call252
abbrev YD:=@Tryz.call253
abbrev aE5:=@Tryz.call254
abbrev BD:=@Tryz.call255
abbrev aE6:=@Tryz.call256
abbrev aE7:=@Tryz.call257
abbrev aE8:=@Tryz.call258
abbrev aE9:=@Tryz.call259
abbrev TC:=@Tryz.call26
abbrev aFa:=@Tryz.call260
abbrev aFb:=@Tryz.call261
abbrev aFc:=@Tryz.call262
abbrev YE:=@Tryz.call263
abbrev YF:=@Tryz.call264
abbrev aFd:=@Tryz.call265
abbrev C27:=@Tryz.call27
abbrev MT:=@Tryz.call276
abbrev YG:=@Tryz.call277
abbrev YH:=@Tryz.call278
abbrev aFe:=@Tryz.call279
abbrev C28:=@Tryz.call28
abbrev aFf:=@Tryz.call281
abbrev aFg:=@Tryz.call282
abbrev YI:=@Tryz.call283
abbrev aFh:=@Tryz.call284
abbrev aFi:=@Tryz.call285
abbrev aFj:=@Tryz.call286
abbrev aFk:=@Tryz.call287
abbrev C29:=@Tryz.call29
abbrev aFl:=@Tryz.call293
abbrev aFm:=@Tryz.call296
abbrev aFn:=@Tryz.call297
abbrev aFo:=@Tryz.call298
abbrev aFp:=@Tryz.call299
abbrev C30:=@Tryz.call30
abbrev aFq:=@Tryz.call300
abbrev aFr:=@Tryz.call301
abbrev aFs:=@Tryz.call306
abbrev aFt:=@Tryz.call307
abbrev aFu:=@Tryz.call308
abbrev GP:=@Tryz.call309
abbrev C31:=@Tryz.call31
abbrev aFv:=@Tryz.call310
abbrev aFw:=@Tryz.call311
abbrev aFx:=@Tryz.call312
abbrev aFy:=@Tryz.call313
abbrev YJ:=@Tryz.call317
abbrev aFz:=@Tryz.call318
abbrev aF0:=@Tryz.call319
abbrev C32:=@Tryz.call32
abbrev aF1:=@Tryz.call328
abbrev aF2:=@Tryz.call329
abbrev C33:=@Tryz.call33
abbrev aF3:=@Tryz.call330
abbrev aF4:=@Tryz.call331
abbrev aF5:=@Tryz.call332
abbrev YK:=@Tryz.call333
abbrev aF6:=@Tryz.call338
abbrev aF7:=@Tryz.call339
abbrev C34:=@Tryz.call34
abbrev C35:=@Tryz.call35
abbrev C36:=@Tryz.call36
abbrev C37:=@Tryz.call37
abbrev C38:=@Tryz.call38
abbrev C39:=@Tryz.call39
abbrev C40:=@Tryz.call40
abbrev C41:=@Tryz.call41
abbrev C42:=@Tryz.call42
abbrev C43:=@Tryz.call43
abbrev C44:=@Tryz.call44
abbrev UZ:=@Tryz.call47
abbrev C48:=@Tryz.call48
abbrev C49:=@Tryz.call49
abbrev C5:=@Tryz.call5
abbrev C50:=@Tryz.call50
abbrev C52:=@Tryz.call52
abbrev C53:=@Tryz.call53
abbrev C54:=@Tryz.call54
abbrev C55:=@Tryz.call55
abbrev C57:=@Tryz.call57
abbrev C58:=@Tryz.call58
abbrev fG:=@Tryz.call59
abbrev C6:=@Tryz.call6
abbrev C60:=@Tryz.call60
abbrev C61:=@Tryz.call61
abbrev C62:=@Tryz.call62
abbrev C63:=@Tryz.call63
abbrev C64:=@Tryz.call64
abbrev C65:=@Tryz.call65
abbrev C66:=@Tryz.call66
abbrev C67:=@Tryz.call67
abbrev C69:=@Tryz.call69
abbrev C7:=@Tryz.call7
abbrev C72:=@Tryz.call72
abbrev C74:=@Tryz.call74
abbrev C75:=@Tryz.call75
abbrev C76:=@Tryz.call76
abbrev C77:=@Tryz.call77
abbrev C78:=@Tryz.call78
abbrev C79:=@Tryz.call79
abbrev C8:=@Tryz.call8
abbrev C80:=@Tryz.call80
abbrev C82:=@Tryz.call82
abbrev C83:=@Tryz.call83
abbrev C84:=@Tryz.call84
abbrev C85:=@Tryz.call85
abbrev C86:=@Tryz.call86
abbrev C87:=@Tryz.call87
abbrev C88:=@Tryz.call88
abbrev C89:=@Tryz.call89
abbrev C9:=@Tryz.call9
abbrev C90:=@Tryz.call90
abbrev C91:=@Tryz.call91
abbrev C92:=@Tryz.call92
abbrev C93:=@Tryz.call93
abbrev C94:=@Tryz.call94
abbrev C95:=@Tryz.call95
abbrev C96:=@Tryz.call96
abbrev C97:=@Tryz.call97
abbrev C98:=@Tryz.call98
abbrev GQ:=@Tryz.call99
abbrev MU:=@Tryz.isAgg100
abbrev BE:=@Tryz.isAgg102
abbrev YM:=@Tryz.isAgg103
abbrev YN:=@Tryz.isAgg106
abbrev MV:=@Tryz.isAgg108
abbrev aGh:=@Tryz.isAgg114
abbrev nQ:=@Tryz.isAgg119
abbrev aGi:=@Tryz.isAgg120
abbrev BF:=@Tryz.isAgg121
abbrev yC:=@Tryz.isAgg123
abbrev qW:=@Tryz.isAgg125
abbrev tM:=@Tryz.isAgg128
abbrev BG:=@Tryz.isAgg130
abbrev TD:=@Tryz.isAgg132
abbrev aGj:=@Tryz.isAgg137
abbrev yD:=@Tryz.isAgg146
abbrev aGk:=@Tryz.isAgg158
abbrev TE:=@Tryz.isAgg169
abbrev aGl:=@Tryz.isAgg184
abbrev aGm:=@Tryz.isAgg190
abbrev TF:=@Tryz.isAgg193
abbrev aGn:=@Tryz.isAgg208
abbrev wF:=@Tryz.isAgg22
abbrev TH:=@Tryz.isAgg227
abbrev nU:=@Tryz.isAgg234
abbrev GR:=@Tryz.isAgg235
abbrev IQ:=@Tryz.isAgg25
abbrev oC:=@Tryz.isAgg27
abbrev nV:=@Tryz.isAgg271
abbrev yE:=@Tryz.isAgg278
abbrev PC:=@Tryz.isAgg28
abbrev GS:=@Tryz.isAgg281
abbrev YO:=@Tryz.isAgg29
abbrev yF:=@Tryz.isAgg290
abbrev yG:=@Tryz.isAgg292
abbrev MW:=@Tryz.isAgg295
abbrev G3:=@Tryz.isAgg3
abbrev BH:=@Tryz.isAgg30
abbrev pJ:=@Tryz.isAgg32
abbrev TI:=@Tryz.isAgg328
abbrev GT:=@Tryz.isAgg329
abbrev rN:=@Tryz.isAgg33
abbrev TJ:=@Tryz.isAgg330
abbrev MX:=@Tryz.isAgg337
abbrev G34:=@Tryz.isAgg34
abbrev aGp:=@Tryz.isAgg344
abbrev aGq:=@Tryz.isAgg345
abbrev G35:=@Tryz.isAgg35
abbrev G36:=@Tryz.isAgg36
abbrev aGr:=@Tryz.isAgg366
abbrev YP:=@Tryz.isAgg370
abbrev pO:=@Tryz.isAgg38
abbrev aGs:=@Tryz.isAgg387
abbrev CD:=@Tryz.isAgg39
abbrev G4:=@Tryz.isAgg4
abbrev G41:=@Tryz.isAgg41
abbrev uA:=@Tryz.isAgg43
abbrev G5:=@Tryz.isAgg5
abbrev G57:=@Tryz.isAgg57
abbrev G62:=@Tryz.isAgg62
abbrev G82:=@Tryz.isAgg82
abbrev G9:=@Tryz.isAgg9
abbrev G91:=@Tryz.isAgg91
abbrev TK:=@Tryz.isAgg93
abbrev G94:=@Tryz.isAgg94
abbrev G96:=@Tryz.isAgg96
abbrev BI:=@Tryz.isAgg98
abbrev tN:=@Tryz.sizeOf100
abbrev tO:=@Tryz.sizeOf102
abbrev aGw:=@Tryz.sizeOf103
abbrev MY:=@Tryz.sizeOf106
abbrev tP:=@Tryz.sizeOf108
abbrev iZ:=@Tryz.sizeOf119
abbrev YQ:=@Tryz.sizeOf121
abbrev aGx:=@Tryz.sizeOf123
abbrev oX:=@Tryz.sizeOf125
abbrev qX:=@Tryz.sizeOf128
abbrev kI:=@Tryz.sizeOf130
abbrev nW:=@Tryz.sizeOf132
abbrev GU:=@Tryz.sizeOf144
abbrev pP:=@Tryz.sizeOf146
abbrev aGy:=@Tryz.sizeOf158
abbrev aGz:=@Tryz.sizeOf160
abbrev TL:=@Tryz.sizeOf169
abbrev TM:=@Tryz.sizeOf171
abbrev AA:=@Tryz.sizeOf22
abbrev yH:=@Tryz.sizeOf227
abbrev iE:=@Tryz.sizeOf234
abbrev MZ:=@Tryz.sizeOf235
abbrev CE:=@Tryz.sizeOf25
abbrev GV:=@Tryz.sizeOf268
abbrev BJ:=@Tryz.sizeOf269
abbrev jM:=@Tryz.sizeOf27
abbrev jD:=@Tryz.sizeOf271
abbrev vU:=@Tryz.sizeOf278
abbrev TN:=@Tryz.sizeOf28
abbrev BK:=@Tryz.sizeOf281
abbrev TO:=@Tryz.sizeOf29
abbrev yI:=@Tryz.sizeOf290
abbrev kA:=@Tryz.sizeOf292
abbrev YR:=@Tryz.sizeOf295
abbrev Z3:=@Tryz.sizeOf3
abbrev yJ:=@Tryz.sizeOf30
abbrev lC:=@Tryz.sizeOf32
abbrev YS:=@Tryz.sizeOf329
abbrev pQ:=@Tryz.sizeOf33
abbrev TP:=@Tryz.sizeOf330
abbrev TQ:=@Tryz.sizeOf332
abbrev tQ:=@Tryz.sizeOf337
abbrev IR:=@Tryz.sizeOf34
abbrev aG0:=@Tryz.sizeOf345
abbrev VA:=@Tryz.sizeOf35
abbrev Z36:=@Tryz.sizeOf36
abbrev aG1:=@Tryz.sizeOf370
abbrev jC:=@Tryz.sizeOf38
abbrev BL:=@Tryz.sizeOf39
abbrev Z4:=@Tryz.sizeOf4
abbrev eT:=@Tryz.sizeOf41
abbrev BM:=@Tryz.sizeOf43
abbrev Z5:=@Tryz.sizeOf5
abbrev Z51:=@Tryz.sizeOf51
abbrev Z57:=@Tryz.sizeOf57
abbrev TR:=@Tryz.sizeOf62
abbrev Z82:=@Tryz.sizeOf82
abbrev Z9:=@Tryz.sizeOf9
abbrev YT:=@Tryz.sizeOf91
abbrev NA:=@Tryz.sizeOf93
abbrev VB:=@Tryz.sizeOf94
abbrev NB:=@Tryz.sizeOf96
abbrev lO:=@Tryz.sizeOf98
abbrev BN:=@Tryz.underlying100
abbrev rO:=@Tryz.underlying102
abbrev YU:=@Tryz.underlying103
abbrev NC:=@Tryz.underlying106
abbrev GW:=@Tryz.underlying108
abbrev gO:=@Tryz.underlying119
abbrev lP:=@Tryz.underlying121
abbrev mQ:=@Tryz.underlying125
abbrev pR:=@Tryz.underlying127
abbrev oY:=@Tryz.underlying128
abbrev oZ:=@Tryz.underlying130
abbrev rP:=@Tryz.underlying132
abbrev GX:=@Tryz.underlying144
abbrev qY:=@Tryz.underlying146
abbrev aG4:=@Tryz.underlying155
abbrev TS:=@Tryz.underlying160
abbrev lD:=@Tryz.underlying162
abbrev TT:=@Tryz.underlying171
abbrev TU:=@Tryz.underlying172
abbrev aG5:=@Tryz.underlying175
abbrev aG6:=@Tryz.underlying202
abbrev YV:=@Tryz.underlying211
abbrev kZ:=@Tryz.underlying22
abbrev rQ:=@Tryz.underlying227
abbrev fJ:=@Tryz.underlying234
abbrev TV:=@Tryz.underlying241
abbrev AB:=@Tryz.underlying25
abbrev GY:=@Tryz.underlying268
abbrev BO:=@Tryz.underlying269
abbrev pK:=@Tryz.underlying27
abbrev jA:=@Tryz.underlying271
abbrev BP:=@Tryz.underlying278
abbrev CF:=@Tryz.underlying28
abbrev kJ:=@Tryz.underlying281
abbrev vV:=@Tryz.underlying288
abbrev VC:=@Tryz.underlying29
abbrev nX:=@Tryz.underlying292
abbrev U3:=@Tryz.underlying3
abbrev uB:=@Tryz.underlying30
abbrev vW:=@Tryz.underlying32
abbrev eO:=@Tryz.underlying33
abbrev TW:=@Tryz.underlying332
abbrev ND:=@Tryz.underlying333
abbrev qZ:=@Tryz.underlying337
abbrev PD:=@Tryz.underlying34
abbrev tT:=@Tryz.underlying345
abbrev VD:=@Tryz.underlying35
abbrev TX:=@Tryz.underlying36
abbrev YW:=@Tryz.underlying365
abbrev lA:=@Tryz.underlying38
abbrev mB:=@Tryz.underlying39
abbrev U4:=@Tryz.underlying4
abbrev eX:=@Tryz.underlying41
abbrev YX:=@Tryz.underlying42
abbrev U5:=@Tryz.underlying5
abbrev U51:=@Tryz.underlying51
abbrev U55:=@Tryz.underlying55
abbrev YY:=@Tryz.underlying57
abbrev TY:=@Tryz.underlying62
abbrev fD:=@Tryz.underlying77
abbrev U79:=@Tryz.underlying79
abbrev YZ:=@Tryz.underlying82
abbrev U9:=@Tryz.underlying9
abbrev wG:=@Tryz.underlying91
abbrev PE:=@Tryz.underlying93
abbrev ZA:=@Tryz.underlying94
abbrev wH:=@Tryz.underlying96
abbrev yK:=@Tryz.underlying98
end T12
