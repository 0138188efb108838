/-
  The types and models of the functions of a session,printed by a program of ours;contracts of library functions.
-/
import Derived.Shelf.Strings.Cut
import Derived.Shelf.Strings.Search3
import Derived.Shelf.Strings.Prefix
import Derived.Shelf.Strings.Runes
import Derived.Shelf.Strings.OnBuilder
import Derived.Shelf.Strings.FieldsFuncAny
import Derived.Shelf.Strings.BuilderF
import Derived.Shelf.Small.Strs
import Derived.Shelf.Small.Wraps
import Derived.Shelf.Strconv.AtoiAll
import Derived.Shelf.Strconv.Itoa3
import Derived.Shelf.SlSortCmp.NoneTotal
import Derived.Shelf.LaysM
import Derived.Shelf.LaysC
import Derived.Test.YtehbdldbihhleaaGreatDoorKitSix
import Derived.Test.YtehbdldbihhleaaGreatDoorProg
import Derived.Shelf.Spec.SlicesInsert
import Derived.Lib.AppendZerosOnto
import Derived.Laws.NewBlocks
import Derived.Laws.CopyRow
import Derived.Recover
import Derived.Tactics
import Derived.Tactics2
set_option linter.all false
set_option maxHeartbeats 4000000
namespace Go.Proofs
open Go.Shelf Go.RowKit
def Tryz.laysC172_ren:Go.Shelf.Ren:=⟨fun | 172=>69 | 244=>113 | 245=>114 | 247=>158 | 279=>159 | 280=>160 | 281=>161 | 282=>162 | 287=>223 | 316=>224 | 171=>30 | 205=>225 | 321=>274 | 322=>275 | 243=>51 | 246=>73 | 283=>117 | 284=>118 | 285=>119 | 286=>120 | 129=>165 | 317=>164 | 318=>166 | 319=>167 | 320=>168 | 337=>226 | 338=>227 | n=>n,fun | 9=>9 | 3=>3 | 75=>175 | 76=>176 | 4=>4 | 5=>5 | 167=>247 | 37=>39 | 0=>0 | 85=>248 | 2=>2 | 168=>250 | 53=>202 | 175=>316 | 46=>241 | 210=>319 | 127=>350 | 145=>361 | 143=>359 | 21=>21 | 171=>201 | 173=>205 | 212=>255 | 51=>256 | 20=>20 | 213=>257 | 232=>362 | 233=>363 | 80=>305 | n=>n,fun | 15=>2 | 16=>3 | 17=>0 | 18=>4 | 19=>5 | n=>n⟩
theorem Tryz.laysC172:Go.Proofs.LaysC.n172 Tryz.prog Tryz.laysC172_ren:={
 mixed:=by kernel_rfl
 f129:=Tryz.func165.trans (congrArg some (by kernel_rfl))
 f171:=Tryz.func30.trans (congrArg some (by kernel_rfl))
 f172:=Tryz.func69.trans (congrArg some (by kernel_rfl))
 f205:=Tryz.func225.trans (congrArg some (by kernel_rfl))
 f243:=Tryz.func51.trans (congrArg some (by kernel_rfl))
 f244:=Tryz.func113.trans (congrArg some (by kernel_rfl))
 f245:=Tryz.func114.trans (congrArg some (by kernel_rfl))
 f246:=Tryz.func73.trans (congrArg some (by kernel_rfl))
 f247:=Tryz.func158.trans (congrArg some (by kernel_rfl))
 f279:=Tryz.func159.trans (congrArg some (by kernel_rfl))
 f280:=Tryz.func160.trans (congrArg some (by kernel_rfl))
 f281:=Tryz.func161.trans (congrArg some (by kernel_rfl))
 f282:=Tryz.func162.trans (congrArg some (by kernel_rfl))
 f283:=Tryz.func117.trans (congrArg some (by kernel_rfl))
 f284:=Tryz.func118.trans (congrArg some (by kernel_rfl))
 f285:=Tryz.func119.trans (congrArg some (by kernel_rfl))
 f286:=Tryz.func120.trans (congrArg some (by kernel_rfl))
 f287:=Tryz.func223.trans (congrArg some (by kernel_rfl))
 f316:=Tryz.func224.trans (congrArg some (by kernel_rfl))
 f317:=Tryz.func164.trans (congrArg some (by kernel_rfl))
 f318:=Tryz.func166.trans (congrArg some (by kernel_rfl))
 f319:=Tryz.func167.trans (congrArg some (by kernel_rfl))
 f320:=Tryz.func168.trans (congrArg some (by kernel_rfl))
 f321:=Tryz.func274.trans (congrArg some (by kernel_rfl))
 f322:=Tryz.func275.trans (congrArg some (by kernel_rfl))
 f337:=Tryz.func226.trans (congrArg some (by kernel_rfl))
 f338:=Tryz.func227.trans (congrArg some (by kernel_rfl))
 t0:=Tryz.underlying0
 a0:=Tryz.isAgg0
 z0:=Tryz.sizeOf0
 v0:=Tryz.zeroValue0
 t2:=Tryz.underlying2
 a2:=Tryz.isAgg2
 z2:=Tryz.sizeOf2
 v2:=Tryz.zeroValue2
 t3:=Tryz.underlying3
 a3:=Tryz.isAgg3
 z3:=Tryz.sizeOf3
 v3:=Tryz.zeroValue3
 t4:=Tryz.underlying4
 a4:=Tryz.isAgg4
 z4:=Tryz.sizeOf4
 v4:=Tryz.zeroValue4
 t5:=Tryz.underlying5
 a5:=Tryz.isAgg5
 z5:=Tryz.sizeOf5
 v5:=Tryz.zeroValue5
 t9:=Tryz.underlying9
 a9:=Tryz.isAgg9
 z9:=Tryz.sizeOf9
 v9:=Tryz.zeroValue9
 t20:=Tryz.underlying20
 a20:=Tryz.isAgg20
 z20:=Tryz.sizeOf20
 v20:=Tryz.zeroValue20
 t21:=Tryz.underlying21
 a21:=Tryz.isAgg21
 z21:=Tryz.sizeOf21
 v21:=Tryz.zeroValue21
 t37:=Tryz.underlying39
 a37:=Tryz.isAgg39
 z37:=Tryz.sizeOf39
 v37:=Tryz.zeroValue39
 t46:=Tryz.underlying241
 a46:=Tryz.isAgg241
 z46:=Tryz.sizeOf241
 v46:=Tryz.zeroValue241
 t51:=Tryz.underlying256
 a51:=Tryz.isAgg256
 z51:=Tryz.sizeOf256
 v51:=Tryz.zeroValue256
 t53:=Tryz.underlying202
 a53:=Tryz.isAgg202
 z53:=Tryz.sizeOf202
 v53:=Tryz.zeroValue202
 t75:=Tryz.underlying175
 a75:=Tryz.isAgg175
 z75:=Tryz.sizeOf175
 v75:=Tryz.zeroValue175
 t76:=Tryz.underlying176
 a76:=Tryz.isAgg176
 z76:=Tryz.sizeOf176
 v76:=Tryz.zeroValue176
 t85:=Tryz.underlying248
 a85:=Tryz.isAgg248
 z85:=Tryz.sizeOf248
 v85:=Tryz.zeroValue248
 t127:=Tryz.underlying350
 a127:=Tryz.isAgg350
 z127:=Tryz.sizeOf350
 v127:=Tryz.zeroValue350
 t143:=Tryz.underlying359
 a143:=Tryz.isAgg359
 z143:=Tryz.sizeOf359
 v143:=Tryz.zeroValue359
 t145:=Tryz.underlying361
 a145:=Tryz.isAgg361
 z145:=Tryz.sizeOf361
 v145:=Tryz.zeroValue361
 t167:=Tryz.underlying247
 a167:=Tryz.isAgg247
 z167:=Tryz.sizeOf247
 v167:=Tryz.zeroValue247
 t168:=Tryz.underlying250
 a168:=Tryz.isAgg250
 z168:=Tryz.sizeOf250
 v168:=Tryz.zeroValue250
 t171:=Tryz.underlying201
 a171:=Tryz.isAgg201
 z171:=Tryz.sizeOf201
 v171:=Tryz.zeroValue201
 t173:=Tryz.underlying205
 a173:=Tryz.isAgg205
 z173:=Tryz.sizeOf205
 v173:=Tryz.zeroValue205
 t175:=Tryz.underlying316
 a175:=Tryz.isAgg316
 z175:=Tryz.sizeOf316
 v175:=Tryz.zeroValue316
 t210:=Tryz.underlying319
 a210:=Tryz.isAgg319
 z210:=Tryz.sizeOf319
 v210:=Tryz.zeroValue319
 t212:=Tryz.underlying255
 a212:=Tryz.isAgg255
 z212:=Tryz.sizeOf255
 v212:=Tryz.zeroValue255
 t213:=Tryz.underlying257
 a213:=Tryz.isAgg257
 z213:=Tryz.sizeOf257
 t232:=Tryz.underlying362
 a232:=Tryz.isAgg362
 z232:=Tryz.sizeOf362
 v232:=Tryz.zeroValue362
 t233:=Tryz.underlying363
 a233:=Tryz.isAgg363
 z233:=Tryz.sizeOf363
 v233:=Tryz.zeroValue363
 g15:=by kernel_rfl
 g16:=by kernel_rfl
 g17:=by kernel_rfl
 g18:=by kernel_rfl
 g19:=by kernel_rfl
 t80:=Tryz.underlying305
 a80:=Tryz.isAgg305
 z80:=Tryz.sizeOf305
 v80:=Tryz.zeroValue305
 i0:=by kernel_rfl
 i2:=by kernel_rfl
 i3:=by kernel_rfl
 i4:=by kernel_rfl
 i5:=by kernel_rfl
 i9:=by kernel_rfl
 i20:=by kernel_rfl
 i21:=by kernel_rfl
 i37:=by kernel_rfl
 i46:=by kernel_rfl
 i51:=by kernel_rfl
 i53:=by kernel_rfl
 i75:=by kernel_rfl
 i76:=by kernel_rfl
 i80:=by kernel_rfl
 i85:=by kernel_rfl
 i127:=by kernel_rfl
 i143:=by kernel_rfl
 i145:=by kernel_rfl
 i167:=by kernel_rfl
 i168:=by kernel_rfl
 i171:=by kernel_rfl
 i173:=by kernel_rfl
 i175:=by kernel_rfl
 i210:=by kernel_rfl
 i212:=by kernel_rfl
 i232:=by kernel_rfl
 i233:=by kernel_rfl
 m15:=by kernel_rfl
 m16:=by kernel_rfl
 m17:=by kernel_rfl
 m18:=by kernel_rfl
 m19:=by kernel_rfl
 c0:=by kernel_rfl
 c2:=by kernel_rfl
 c3:=by kernel_rfl
 c4:=by kernel_rfl
 c5:=by kernel_rfl
 c9:=by kernel_rfl
 c20:=by kernel_rfl
 c21:=by kernel_rfl
 c37:=by kernel_rfl
 c46:=by kernel_rfl
 c51:=by kernel_rfl
 c53:=by kernel_rfl
 c75:=by kernel_rfl
 c76:=by kernel_rfl
 c80:=by kernel_rfl
 c85:=by kernel_rfl
 c127:=by kernel_rfl
 c143:=by kernel_rfl
 c145:=by kernel_rfl
 c167:=by kernel_rfl
 c168:=by kernel_rfl
 c171:=by kernel_rfl
 c173:=by kernel_rfl
 c175:=by kernel_rfl
 c210:=by kernel_rfl
 c212:=by kernel_rfl
 c213:=by kernel_rfl
 c232:=by kernel_rfl
 c233:=by kernel_rfl }
def Tryz.laysM171_ren:Go.Shelf.Ren:=⟨fun | 171=>30 | 243=>51 | 246=>73 | 283=>117 | 284=>118 | 285=>119 | 286=>120 | 129=>165 | 317=>164 | 318=>166 | 319=>167 | 320=>168 | 337=>226 | 338=>227 | n=>n,fun | 3=>3 | 9=>9 | 2=>2 | 4=>4 | 171=>201 | 0=>0 | 53=>202 | 37=>39 | 5=>5 | 173=>205 | 212=>255 | 51=>256 | 20=>20 | 213=>257 | 46=>241 | 232=>362 | 233=>363 | n=>n,fun | 17=>0 | 18=>4 | 19=>5 | n=>n⟩
theorem Tryz.laysM171:Go.Proofs.LaysM.n171 Tryz.prog Tryz.laysM171_ren:={
 mixed:=by kernel_rfl
 f129:=Tryz.func165.trans (congrArg some (by kernel_rfl))
 f171:=Tryz.func30.trans (congrArg some (by kernel_rfl))
 f243:=Tryz.func51.trans (congrArg some (by kernel_rfl))
 f246:=Tryz.func73.trans (congrArg some (by kernel_rfl))
 f283:=Tryz.func117.trans (congrArg some (by kernel_rfl))
 f284:=Tryz.func118.trans (congrArg some (by kernel_rfl))
 f285:=Tryz.func119.trans (congrArg some (by kernel_rfl))
 f286:=Tryz.func120.trans (congrArg some (by kernel_rfl))
 f317:=Tryz.func164.trans (congrArg some (by kernel_rfl))
 f318:=Tryz.func166.trans (congrArg some (by kernel_rfl))
 f319:=Tryz.func167.trans (congrArg some (by kernel_rfl))
 f320:=Tryz.func168.trans (congrArg some (by kernel_rfl))
 f337:=Tryz.func226.trans (congrArg some (by kernel_rfl))
 f338:=Tryz.func227.trans (congrArg some (by kernel_rfl))
 t0:=Tryz.underlying0
 a0:=Tryz.isAgg0
 z0:=Tryz.sizeOf0
 v0:=Tryz.zeroValue0
 t2:=Tryz.underlying2
 a2:=Tryz.isAgg2
 z2:=Tryz.sizeOf2
 v2:=Tryz.zeroValue2
 t3:=Tryz.underlying3
 a3:=Tryz.isAgg3
 z3:=Tryz.sizeOf3
 v3:=Tryz.zeroValue3
 t4:=Tryz.underlying4
 a4:=Tryz.isAgg4
 z4:=Tryz.sizeOf4
 v4:=Tryz.zeroValue4
 t5:=Tryz.underlying5
 a5:=Tryz.isAgg5
 z5:=Tryz.sizeOf5
 v5:=Tryz.zeroValue5
 t9:=Tryz.underlying9
 a9:=Tryz.isAgg9
 z9:=Tryz.sizeOf9
 v9:=Tryz.zeroValue9
 t20:=Tryz.underlying20
 a20:=Tryz.isAgg20
 z20:=Tryz.sizeOf20
 v20:=Tryz.zeroValue20
 t37:=Tryz.underlying39
 a37:=Tryz.isAgg39
 z37:=Tryz.sizeOf39
 v37:=Tryz.zeroValue39
 t46:=Tryz.underlying241
 a46:=Tryz.isAgg241
 z46:=Tryz.sizeOf241
 v46:=Tryz.zeroValue241
 t51:=Tryz.underlying256
 a51:=Tryz.isAgg256
 z51:=Tryz.sizeOf256
 v51:=Tryz.zeroValue256
 t53:=Tryz.underlying202
 a53:=Tryz.isAgg202
 z53:=Tryz.sizeOf202
 v53:=Tryz.zeroValue202
 t171:=Tryz.underlying201
 a171:=Tryz.isAgg201
 z171:=Tryz.sizeOf201
 v171:=Tryz.zeroValue201
 t173:=Tryz.underlying205
 a173:=Tryz.isAgg205
 z173:=Tryz.sizeOf205
 v173:=Tryz.zeroValue205
 t212:=Tryz.underlying255
 a212:=Tryz.isAgg255
 z212:=Tryz.sizeOf255
 v212:=Tryz.zeroValue255
 t213:=Tryz.underlying257
 a213:=Tryz.isAgg257
 z213:=Tryz.sizeOf257
 t232:=Tryz.underlying362
 a232:=Tryz.isAgg362
 z232:=Tryz.sizeOf362
 v232:=Tryz.zeroValue362
 t233:=Tryz.underlying363
 a233:=Tryz.isAgg363
 z233:=Tryz.sizeOf363
 v233:=Tryz.zeroValue363
 g17:=by kernel_rfl
 g18:=by kernel_rfl
 g19:=by kernel_rfl
 i0:=by kernel_rfl
 i2:=by kernel_rfl
 i3:=by kernel_rfl
 i4:=by kernel_rfl
 i5:=by kernel_rfl
 i9:=by kernel_rfl
 i20:=by kernel_rfl
 i37:=by kernel_rfl
 i46:=by kernel_rfl
 i51:=by kernel_rfl
 i53:=by kernel_rfl
 i171:=by kernel_rfl
 i173:=by kernel_rfl
 i212:=by kernel_rfl
 i232:=by kernel_rfl
 i233:=by kernel_rfl
 m17:=by kernel_rfl
 m18:=by kernel_rfl
 m19:=by kernel_rfl }
def Tryz.lays103_ren:Go.Shelf.Ren:=⟨fun | 103=>70 | 210=>115 | 206=>163 | n=>n,fun | 9=>9 | 4=>4 | 24=>178 | 3=>3 | n=>n,fun | n=>n⟩
theorem Tryz.lays103:Go.Proofs.Lays.n103 Tryz.prog Tryz.lays103_ren:={
 mixed:=by kernel_rfl
 f103:=Tryz.func70.trans (congrArg some (by kernel_rfl))
 f206:=Tryz.func163.trans (congrArg some (by kernel_rfl))
 f210:=Tryz.func115.trans (congrArg some (by kernel_rfl))
 t3:=Tryz.underlying3
 a3:=Tryz.isAgg3
 z3:=Tryz.sizeOf3
 v3:=Tryz.zeroValue3
 t4:=Tryz.underlying4
 a4:=Tryz.isAgg4
 z4:=Tryz.sizeOf4
 v4:=Tryz.zeroValue4
 t9:=Tryz.underlying9
 a9:=Tryz.isAgg9
 z9:=Tryz.sizeOf9
 v9:=Tryz.zeroValue9
 t24:=Tryz.underlying178
 a24:=Tryz.isAgg178
 z24:=Tryz.sizeOf178
 v24:=Tryz.zeroValue178 }
def Tryz.lays145_ren:Go.Shelf.Ren:=⟨fun | 145=>57 | 220=>81 | 219=>128 | 217=>176 | 225=>177 | 224=>178 | 267=>179 | 266=>232 | 314=>233 | n=>n,fun | 9=>9 | 4=>4 | 59=>156 | 3=>3 | 5=>5 | 46=>241 | 146=>324 | 51=>256 | n=>n,fun | 1=>1 | n=>n⟩
theorem Tryz.lays145:Go.Proofs.Lays.n145 Tryz.prog Tryz.lays145_ren:={
 mixed:=by kernel_rfl
 f145:=Tryz.func57.trans (congrArg some (by kernel_rfl))
 f217:=Tryz.func176.trans (congrArg some (by kernel_rfl))
 f219:=Tryz.func128.trans (congrArg some (by kernel_rfl))
 f220:=Tryz.func81.trans (congrArg some (by kernel_rfl))
 f224:=Tryz.func178.trans (congrArg some (by kernel_rfl))
 f225:=Tryz.func177.trans (congrArg some (by kernel_rfl))
 f266:=Tryz.func232.trans (congrArg some (by kernel_rfl))
 f267:=Tryz.func179.trans (congrArg some (by kernel_rfl))
 f314:=Tryz.func233.trans (congrArg some (by kernel_rfl))
 t3:=Tryz.underlying3
 a3:=Tryz.isAgg3
 z3:=Tryz.sizeOf3
 v3:=Tryz.zeroValue3
 t4:=Tryz.underlying4
 a4:=Tryz.isAgg4
 z4:=Tryz.sizeOf4
 v4:=Tryz.zeroValue4
 t5:=Tryz.underlying5
 a5:=Tryz.isAgg5
 z5:=Tryz.sizeOf5
 v5:=Tryz.zeroValue5
 t9:=Tryz.underlying9
 a9:=Tryz.isAgg9
 z9:=Tryz.sizeOf9
 v9:=Tryz.zeroValue9
 t46:=Tryz.underlying241
 a46:=Tryz.isAgg241
 z46:=Tryz.sizeOf241
 v46:=Tryz.zeroValue241
 t51:=Tryz.underlying256
 a51:=Tryz.isAgg256
 z51:=Tryz.sizeOf256
 v51:=Tryz.zeroValue256
 t59:=Tryz.underlying156
 a59:=Tryz.isAgg156
 z59:=Tryz.sizeOf156
 v59:=Tryz.zeroValue156
 t146:=Tryz.underlying324
 a146:=Tryz.isAgg324
 z146:=Tryz.sizeOf324
 v146:=Tryz.zeroValue324
 g1:=by kernel_rfl }
def Tryz.lays144_ren:Go.Shelf.Ren:=⟨fun | 144=>71 | 143=>116 | 219=>128 | 217=>176 | 225=>177 | 224=>178 | 267=>179 | 266=>232 | 314=>233 | n=>n,fun | 9=>9 | 4=>4 | 3=>3 | 5=>5 | 46=>241 | 146=>324 | 51=>256 | n=>n,fun | 1=>1 | n=>n⟩
theorem Tryz.lays144:Go.Proofs.Lays.n144 Tryz.prog Tryz.lays144_ren:={
 mixed:=by kernel_rfl
 f143:=Tryz.func116.trans (congrArg some (by kernel_rfl))
 f144:=Tryz.func71.trans (congrArg some (by kernel_rfl))
 f217:=Tryz.func176.trans (congrArg some (by kernel_rfl))
 f219:=Tryz.func128.trans (congrArg some (by kernel_rfl))
 f224:=Tryz.func178.trans (congrArg some (by kernel_rfl))
 f225:=Tryz.func177.trans (congrArg some (by kernel_rfl))
 f266:=Tryz.func232.trans (congrArg some (by kernel_rfl))
 f267:=Tryz.func179.trans (congrArg some (by kernel_rfl))
 f314:=Tryz.func233.trans (congrArg some (by kernel_rfl))
 t3:=Tryz.underlying3
 a3:=Tryz.isAgg3
 z3:=Tryz.sizeOf3
 v3:=Tryz.zeroValue3
 t4:=Tryz.underlying4
 a4:=Tryz.isAgg4
 z4:=Tryz.sizeOf4
 v4:=Tryz.zeroValue4
 t5:=Tryz.underlying5
 a5:=Tryz.isAgg5
 z5:=Tryz.sizeOf5
 v5:=Tryz.zeroValue5
 t9:=Tryz.underlying9
 a9:=Tryz.isAgg9
 z9:=Tryz.sizeOf9
 v9:=Tryz.zeroValue9
 t46:=Tryz.underlying241
 a46:=Tryz.isAgg241
 z46:=Tryz.sizeOf241
 v46:=Tryz.zeroValue241
 t51:=Tryz.underlying256
 a51:=Tryz.isAgg256
 z51:=Tryz.sizeOf256
 v51:=Tryz.zeroValue256
 t146:=Tryz.underlying324
 a146:=Tryz.isAgg324
 z146:=Tryz.sizeOf324
 v146:=Tryz.zeroValue324
 g1:=by kernel_rfl }
def Tryz.lays229_ren:Go.Shelf.Ren:=⟨fun | 229=>198 | n=>n,fun | 9=>9 | 40=>287 | 31=>22 | 152=>340 | 3=>3 | 0=>0 | 4=>4 | 21=>21 | 154=>342 | n=>n,fun | n=>n⟩
theorem Tryz.lays229:Go.Proofs.Lays.n229 Tryz.prog Tryz.lays229_ren:={
 mixed:=by kernel_rfl
 f229:=Tryz.func198.trans (congrArg some (by kernel_rfl))
 t0:=Tryz.underlying0
 a0:=Tryz.isAgg0
 z0:=Tryz.sizeOf0
 v0:=Tryz.zeroValue0
 t3:=Tryz.underlying3
 a3:=Tryz.isAgg3
 z3:=Tryz.sizeOf3
 v3:=Tryz.zeroValue3
 t4:=Tryz.underlying4
 a4:=Tryz.isAgg4
 z4:=Tryz.sizeOf4
 v4:=Tryz.zeroValue4
 t9:=Tryz.underlying9
 a9:=Tryz.isAgg9
 z9:=Tryz.sizeOf9
 v9:=Tryz.zeroValue9
 t21:=Tryz.underlying21
 a21:=Tryz.isAgg21
 z21:=Tryz.sizeOf21
 v21:=Tryz.zeroValue21
 t31:=Tryz.underlying22
 a31:=Tryz.isAgg22
 z31:=Tryz.sizeOf22
 v31:=Tryz.zeroValue22
 t40:=Tryz.underlying287
 a40:=Tryz.isAgg287
 z40:=Tryz.sizeOf287
 v40:=Tryz.zeroValue287
 t152:=Tryz.underlying340
 a152:=Tryz.isAgg340
 z152:=Tryz.sizeOf340
 v152:=Tryz.zeroValue340
 t154:=Tryz.underlying342
 a154:=Tryz.isAgg342
 z154:=Tryz.sizeOf342
 v154:=Tryz.zeroValue342 }
def Tryz.laysF107_ren:Go.Shelf.Ren:=⟨fun | 6=>107 | 15=>153 | 14=>152 | 28=>220 | 29=>165 | 20=>212 | 21=>213 | 22=>214 | 23=>215 | 24=>216 | 25=>217 | 26=>218 | 27=>219 | 46=>268 | 47=>269 | 48=>270 | 49=>271 | 50=>272 | 57=>305 | n=>n,fun | 22=>28 | 24=>119 | 25=>196 | 3=>3 | 39=>241 | 0=>0 | 53=>256 | 55=>202 | 4=>4 | 46=>310 | 45=>309 | 50=>110 | 5=>5 | 9=>9 | 66=>351 | 70=>355 | 76=>382 | 77=>383 | n=>n,fun | n=>n⟩
theorem Tryz.laysF107:Go.Proofs.SlLaysF0.n6 Tryz.prog Tryz.laysF107_ren:={
 mixed:=by kernel_rfl
 f6:=⟨Tryz.f107.name,by decide,Tryz.func107.trans (congrArg some (by kernel_rfl))⟩
 f14:=⟨Tryz.f152.name,by decide,Tryz.func152.trans (congrArg some (by kernel_rfl))⟩
 f15:=Tryz.func153.trans (congrArg some (by kernel_rfl))
 f20:=⟨Tryz.f212.name,by decide,Tryz.func212.trans (congrArg some (by kernel_rfl))⟩
 f21:=⟨Tryz.f213.name,by decide,Tryz.func213.trans (congrArg some (by kernel_rfl))⟩
 f22:=⟨Tryz.f214.name,by decide,Tryz.func214.trans (congrArg some (by kernel_rfl))⟩
 f23:=⟨Tryz.f215.name,by decide,Tryz.func215.trans (congrArg some (by kernel_rfl))⟩
 f24:=⟨Tryz.f216.name,by decide,Tryz.func216.trans (congrArg some (by kernel_rfl))⟩
 f25:=⟨Tryz.f217.name,by decide,Tryz.func217.trans (congrArg some (by kernel_rfl))⟩
 f26:=⟨Tryz.f218.name,by decide,Tryz.func218.trans (congrArg some (by kernel_rfl))⟩
 f27:=⟨Tryz.f219.name,by decide,Tryz.func219.trans (congrArg some (by kernel_rfl))⟩
 f28:=Tryz.func220.trans (congrArg some (by kernel_rfl))
 f29:=Tryz.func165.trans (congrArg some (by kernel_rfl))
 f46:=⟨Tryz.f268.name,by decide,Tryz.func268.trans (congrArg some (by kernel_rfl))⟩
 f47:=Tryz.func269.trans (congrArg some (by kernel_rfl))
 f48:=Tryz.func270.trans (congrArg some (by kernel_rfl))
 f49:=⟨Tryz.f271.name,by decide,Tryz.func271.trans (congrArg some (by kernel_rfl))⟩
 f50:=⟨Tryz.f272.name,by decide,Tryz.func272.trans (congrArg some (by kernel_rfl))⟩
 f57:=⟨Tryz.f305.name,by decide,Tryz.func305.trans (congrArg some (by kernel_rfl))⟩
 t0:=Tryz.underlying0
 a0:=Tryz.isAgg0
 z0:=Tryz.sizeOf0
 v0:=Tryz.zeroValue0
 t3:=Tryz.underlying3
 a3:=Tryz.isAgg3
 z3:=Tryz.sizeOf3
 v3:=Tryz.zeroValue3
 t4:=Tryz.underlying4
 a4:=Tryz.isAgg4
 z4:=Tryz.sizeOf4
 v4:=Tryz.zeroValue4
 t5:=Tryz.underlying5
 a5:=Tryz.isAgg5
 z5:=Tryz.sizeOf5
 v5:=Tryz.zeroValue5
 t9:=Tryz.underlying9
 a9:=Tryz.isAgg9
 z9:=Tryz.sizeOf9
 v9:=Tryz.zeroValue9
 t22:=Tryz.underlying28
 a22:=Tryz.isAgg28
 z22:=Tryz.sizeOf28
 v22:=Tryz.zeroValue28
 t25:=Tryz.underlying196
 a25:=Tryz.isAgg196
 z25:=Tryz.sizeOf196
 v25:=Tryz.zeroValue196
 t39:=Tryz.underlying241
 a39:=Tryz.isAgg241
 z39:=Tryz.sizeOf241
 v39:=Tryz.zeroValue241
 t45:=Tryz.underlying309
 a45:=Tryz.isAgg309
 z45:=Tryz.sizeOf309
 v45:=Tryz.zeroValue309
 t46:=Tryz.underlying310
 a46:=Tryz.isAgg310
 z46:=Tryz.sizeOf310
 v46:=Tryz.zeroValue310
 t50:=Tryz.underlying110
 a50:=Tryz.isAgg110
 z50:=Tryz.sizeOf110
 v50:=Tryz.zeroValue110
 t53:=Tryz.underlying256
 a53:=Tryz.isAgg256
 z53:=Tryz.sizeOf256
 v53:=Tryz.zeroValue256
 t55:=Tryz.underlying202
 a55:=Tryz.isAgg202
 z55:=Tryz.sizeOf202
 v55:=Tryz.zeroValue202
 t66:=Tryz.underlying351
 a66:=Tryz.isAgg351
 z66:=Tryz.sizeOf351
 v66:=Tryz.zeroValue351
 t70:=Tryz.underlying355
 a70:=Tryz.isAgg355
 z70:=Tryz.sizeOf355
 v70:=Tryz.zeroValue355
 t76:=Tryz.underlying382
 a76:=Tryz.isAgg382
 z76:=Tryz.sizeOf382
 v76:=Tryz.zeroValue382
 t77:=Tryz.underlying383
 a77:=Tryz.isAgg383
 z77:=Tryz.sizeOf383
 v77:=Tryz.zeroValue383 }
def Tryz.laysF263_ren:Go.Shelf.Ren:=⟨fun | 6=>263 | 15=>153 | 14=>302 | 28=>220 | 29=>165 | 20=>320 | 21=>321 | 22=>322 | 23=>323 | 24=>324 | 25=>325 | 26=>326 | 27=>327 | 46=>335 | 47=>269 | 48=>270 | 49=>336 | 50=>337 | 57=>340 | n=>n,fun | 22=>30 | 24=>234 | 25=>349 | 3=>3 | 39=>241 | 0=>0 | 53=>256 | 55=>202 | 4=>4 | 46=>310 | 45=>309 | 50=>110 | 5=>5 | 9=>9 | 66=>351 | 70=>355 | 76=>382 | 77=>383 | n=>n,fun | n=>n⟩
theorem Tryz.laysF263:Go.Proofs.SlLaysF0.n6 Tryz.prog Tryz.laysF263_ren:={
 mixed:=by kernel_rfl
 f6:=⟨Tryz.f263.name,by decide,Tryz.func263.trans (congrArg some (by kernel_rfl))⟩
 f14:=⟨Tryz.f302.name,by decide,Tryz.func302.trans (congrArg some (by kernel_rfl))⟩
 f15:=Tryz.func153.trans (congrArg some (by kernel_rfl))
 f20:=⟨Tryz.f320.name,by decide,Tryz.func320.trans (congrArg some (by kernel_rfl))⟩
 f21:=⟨Tryz.f321.name,by decide,Tryz.func321.trans (congrArg some (by kernel_rfl))⟩
 f22:=⟨Tryz.f322.name,by decide,Tryz.func322.trans (congrArg some (by kernel_rfl))⟩
 f23:=⟨Tryz.f323.name,by decide,Tryz.func323.trans (congrArg some (by kernel_rfl))⟩
 f24:=⟨Tryz.f324.name,by decide,Tryz.func324.trans (congrArg some (by kernel_rfl))⟩
 f25:=⟨Tryz.f325.name,by decide,Tryz.func325.trans (congrArg some (by kernel_rfl))⟩
 f26:=⟨Tryz.f326.name,by decide,Tryz.func326.trans (congrArg some (by kernel_rfl))⟩
 f27:=⟨Tryz.f327.name,by decide,Tryz.func327.trans (congrArg some (by kernel_rfl))⟩
 f28:=Tryz.func220.trans (congrArg some (by kernel_rfl))
 f29:=Tryz.func165.trans (congrArg some (by kernel_rfl))
 f46:=⟨Tryz.f335.name,by decide,Tryz.func335.trans (congrArg some (by kernel_rfl))⟩
 f47:=Tryz.func269.trans (congrArg some (by kernel_rfl))
 f48:=Tryz.func270.trans (congrArg some (by kernel_rfl))
 f49:=⟨Tryz.f336.name,by decide,Tryz.func336.trans (congrArg some (by kernel_rfl))⟩
 f50:=⟨Tryz.f337.name,by decide,Tryz.func337.trans (congrArg some (by kernel_rfl))⟩
 f57:=⟨Tryz.f340.name,by decide,Tryz.func340.trans (congrArg some (by kernel_rfl))⟩
 t0:=Tryz.underlying0
 a0:=Tryz.isAgg0
 z0:=Tryz.sizeOf0
 v0:=Tryz.zeroValue0
 t3:=Tryz.underlying3
 a3:=Tryz.isAgg3
 z3:=Tryz.sizeOf3
 v3:=Tryz.zeroValue3
 t4:=Tryz.underlying4
 a4:=Tryz.isAgg4
 z4:=Tryz.sizeOf4
 v4:=Tryz.zeroValue4
 t5:=Tryz.underlying5
 a5:=Tryz.isAgg5
 z5:=Tryz.sizeOf5
 v5:=Tryz.zeroValue5
 t9:=Tryz.underlying9
 a9:=Tryz.isAgg9
 z9:=Tryz.sizeOf9
 v9:=Tryz.zeroValue9
 t22:=Tryz.underlying30
 a22:=Tryz.isAgg30
 z22:=Tryz.sizeOf30
 v22:=Tryz.zeroValue30
 t25:=Tryz.underlying349
 a25:=Tryz.isAgg349
 z25:=Tryz.sizeOf349
 v25:=Tryz.zeroValue349
 t39:=Tryz.underlying241
 a39:=Tryz.isAgg241
 z39:=Tryz.sizeOf241
 v39:=Tryz.zeroValue241
 t45:=Tryz.underlying309
 a45:=Tryz.isAgg309
 z45:=Tryz.sizeOf309
 v45:=Tryz.zeroValue309
 t46:=Tryz.underlying310
 a46:=Tryz.isAgg310
 z46:=Tryz.sizeOf310
 v46:=Tryz.zeroValue310
 t50:=Tryz.underlying110
 a50:=Tryz.isAgg110
 z50:=Tryz.sizeOf110
 v50:=Tryz.zeroValue110
 t53:=Tryz.underlying256
 a53:=Tryz.isAgg256
 z53:=Tryz.sizeOf256
 v53:=Tryz.zeroValue256
 t55:=Tryz.underlying202
 a55:=Tryz.isAgg202
 z55:=Tryz.sizeOf202
 v55:=Tryz.zeroValue202
 t66:=Tryz.underlying351
 a66:=Tryz.isAgg351
 z66:=Tryz.sizeOf351
 v66:=Tryz.zeroValue351
 t70:=Tryz.underlying355
 a70:=Tryz.isAgg355
 z70:=Tryz.sizeOf355
 v70:=Tryz.zeroValue355
 t76:=Tryz.underlying382
 a76:=Tryz.isAgg382
 z76:=Tryz.sizeOf382
 v76:=Tryz.zeroValue382
 t77:=Tryz.underlying383
 a77:=Tryz.isAgg383
 z77:=Tryz.sizeOf383
 v77:=Tryz.zeroValue383 }
def Tryz.lays169_ren:Go.Shelf.Ren:=⟨fun | 169=>209 | n=>n,fun | 70=>302 | 9=>9 | 0=>0 | 72=>304 | 37=>39 | 127=>350 | 3=>3 | 5=>5 | n=>n,fun | n=>n⟩
theorem Tryz.lays169:Go.Proofs.Lays.n169 Tryz.prog Tryz.lays169_ren:={
 mixed:=by kernel_rfl
 f169:=Tryz.func209.trans (congrArg some (by kernel_rfl))
 t0:=Tryz.underlying0
 a0:=Tryz.isAgg0
 z0:=Tryz.sizeOf0
 v0:=Tryz.zeroValue0
 t3:=Tryz.underlying3
 a3:=Tryz.isAgg3
 z3:=Tryz.sizeOf3
 v3:=Tryz.zeroValue3
 t9:=Tryz.underlying9
 a9:=Tryz.isAgg9
 z9:=Tryz.sizeOf9
 v9:=Tryz.zeroValue9
 t37:=Tryz.underlying39
 a37:=Tryz.isAgg39
 z37:=Tryz.sizeOf39
 v37:=Tryz.zeroValue39
 t70:=Tryz.underlying302
 a70:=Tryz.isAgg302
 z70:=Tryz.sizeOf302
 v70:=Tryz.zeroValue302
 t72:=Tryz.underlying304
 a72:=Tryz.isAgg304
 z72:=Tryz.sizeOf304
 v72:=Tryz.zeroValue304
 t127:=Tryz.underlying350
 a127:=Tryz.isAgg350
 z127:=Tryz.sizeOf350
 v127:=Tryz.zeroValue350 }
theorem Tryz.Builder_Extra_169:Builder.Extra Tryz.prog Tryz.lays169_ren:={
 sizeBuilder:=by kernel_rfl
 liesBuilder:=by kernel_rfl
 t5:=Tryz.underlying5
 a5:=Tryz.isAgg5
 z5:=Tryz.sizeOf5
 v5:=Tryz.zeroValue5
 infoByte:=by kernel_rfl
 cellsByte:=by kernel_rfl
 sizeByte:=by kernel_rfl
 neB5:=by decide }
def Tryz.lays156_ren:Go.Shelf.Ren:=⟨fun | 156=>147 | 165=>207 | 166=>208 | 169=>209 | 240=>266 | 241=>267 | 276=>303 | 277=>304 | n=>n,fun | 31=>22 | 9=>9 | 3=>3 | 4=>4 | 0=>0 | 20=>20 | 72=>304 | 76=>176 | 70=>302 | 37=>39 | 75=>175 | 127=>350 | 164=>379 | 5=>5 | 80=>305 | n=>n,fun | n=>n⟩
theorem Tryz.lays156:Go.Proofs.Lays.n156 Tryz.prog Tryz.lays156_ren:={
 mixed:=by kernel_rfl
 f156:=Tryz.func147.trans (congrArg some (by kernel_rfl))
 f165:=Tryz.func207.trans (congrArg some (by kernel_rfl))
 f166:=Tryz.func208.trans (congrArg some (by kernel_rfl))
 f169:=Tryz.func209.trans (congrArg some (by kernel_rfl))
 f240:=Tryz.func266.trans (congrArg some (by kernel_rfl))
 f241:=Tryz.func267.trans (congrArg some (by kernel_rfl))
 f276:=Tryz.func303.trans (congrArg some (by kernel_rfl))
 f277:=Tryz.func304.trans (congrArg some (by kernel_rfl))
 t0:=Tryz.underlying0
 a0:=Tryz.isAgg0
 z0:=Tryz.sizeOf0
 v0:=Tryz.zeroValue0
 t3:=Tryz.underlying3
 a3:=Tryz.isAgg3
 z3:=Tryz.sizeOf3
 v3:=Tryz.zeroValue3
 t4:=Tryz.underlying4
 a4:=Tryz.isAgg4
 z4:=Tryz.sizeOf4
 v4:=Tryz.zeroValue4
 t9:=Tryz.underlying9
 a9:=Tryz.isAgg9
 z9:=Tryz.sizeOf9
 v9:=Tryz.zeroValue9
 t20:=Tryz.underlying20
 a20:=Tryz.isAgg20
 z20:=Tryz.sizeOf20
 v20:=Tryz.zeroValue20
 t31:=Tryz.underlying22
 a31:=Tryz.isAgg22
 z31:=Tryz.sizeOf22
 v31:=Tryz.zeroValue22
 t37:=Tryz.underlying39
 a37:=Tryz.isAgg39
 z37:=Tryz.sizeOf39
 v37:=Tryz.zeroValue39
 t70:=Tryz.underlying302
 a70:=Tryz.isAgg302
 z70:=Tryz.sizeOf302
 v70:=Tryz.zeroValue302
 t72:=Tryz.underlying304
 a72:=Tryz.isAgg304
 z72:=Tryz.sizeOf304
 v72:=Tryz.zeroValue304
 t75:=Tryz.underlying175
 a75:=Tryz.isAgg175
 z75:=Tryz.sizeOf175
 v75:=Tryz.zeroValue175
 t76:=Tryz.underlying176
 a76:=Tryz.isAgg176
 z76:=Tryz.sizeOf176
 v76:=Tryz.zeroValue176
 t127:=Tryz.underlying350
 a127:=Tryz.isAgg350
 z127:=Tryz.sizeOf350
 v127:=Tryz.zeroValue350
 t164:=Tryz.underlying379
 a164:=Tryz.isAgg379
 z164:=Tryz.sizeOf379
 v164:=Tryz.zeroValue379 }
theorem Tryz.Builder_Extra_156:Builder.Extra Tryz.prog Tryz.lays156_ren:={
 sizeBuilder:=by kernel_rfl
 liesBuilder:=by kernel_rfl
 t5:=Tryz.underlying5
 a5:=Tryz.isAgg5
 z5:=Tryz.sizeOf5
 v5:=Tryz.zeroValue5
 infoByte:=by kernel_rfl
 cellsByte:=by kernel_rfl
 sizeByte:=by kernel_rfl
 neB5:=by decide }
end Go.Proofs
namespace Go.Proofs
open Go Pk Go.RowKit
theorem Tryz.srt107:KH Tryz.prog 107 6 :=
  ⟨fun p cap fv w=>AnyF.slices_SortFunc_none Tryz.laysF107 p cap fv w,
   fun α _ enc hk h1 cf hO g cb blk off cap d w eg hc hH hb hs hT=>AnyQ.slices_SortFunc_total Tryz.laysF107 6 Tryz.isAgg119 Tryz.sizeOf119 enc hk h1 cf hO g cb blk off cap d w eg hc hH hb hs hT⟩
theorem Tryz.srt263:KH Tryz.prog 263 5 :=
  ⟨fun p cap fv w=>AnyF.slices_SortFunc_none Tryz.laysF263 p cap fv w,
   fun α _ enc hk h1 cf hO g cb blk off cap d w eg hc hH hb hs hT=>AnyQ.slices_SortFunc_total Tryz.laysF263 5 Tryz.isAgg234 Tryz.sizeOf234 enc hk h1 cf hO g cb blk off cap d w eg hc hH hb hs hT⟩
theorem Tryz.szB:(Tryz.prog.info? 304).map (·.size)=some 2:=by kernel_rfl
theorem Tryz.liesB:liesAt Tryz.prog Tryz.prog.depth 304 (2/Tryz.prog.cellsOf 304) 0 304 1=true:=by kernel_rfl
theorem Tryz.infoU8:(Tryz.prog.info? 5).map (fun i=>(i.zero,i.size,i.bytes))=some (some (.int .u8 0),1,1):=by kernel_rfl
set_option maxHeartbeats 1000000 in
set_option maxRecDepth 100000 in
theorem Tryz.cc_used (b:Nat) (w:World) (h0:w.cell? ⟨b,0,none⟩=some (.pointer (some ⟨b,0,none⟩))):Calls Tryz.prog 266 #[.pointer (some ⟨b,0,none⟩)] w fun e w'=>e=.returned (.tuple #[])∧w'=w:=by
 obtain ⟨j,hj,_⟩:=Option.map_eq_some_iff.1 Tryz.szB
 go_enter Tryz.func266,Tryz.ntmps266
 go_wp2
 rw [Lib.run_neq_ptr_same w _ Tryz.underlying302 hj]
 go_wp2
 go_end0
 exact ⟨rfl,rfl⟩
set_option maxHeartbeats 1000000 in
set_option maxRecDepth 100000 in
theorem Tryz.cc_new (b:Nat) (w:World) (h0:w.cell? ⟨b,0,none⟩=some (.pointer none)) (hs:w.shape? b=some (304,2)) (hz:w.frozen? ⟨b,0,none⟩=false):Calls Tryz.prog 266 #[.pointer (some ⟨b,0,none⟩)] w fun e w'=>e=.returned (.tuple #[])∧w'=w.setCell ⟨b,0,none⟩ (.pointer (some ⟨b,0,none⟩)):=by
 obtain ⟨j,hj,hjs⟩:=Option.map_eq_some_iff.1 Tryz.szB
 go_enter Tryz.func266,Tryz.ntmps266
 go_wp2
 rw [Lib.run_to_unsafe w ⟨b,0,none⟩ Tryz.underlying302 Tryz.underlying379 hj (by rw [hjs];decide) hs (Nat.zero_lt_succ 1)];simp only [Result.andThen];rw [Oper.upon_value]
 go_wp2
 rw [run_callFunc_extern Tryz.func303 (by kernel_rfl) (by kernel_rfl) (by kernel_rfl) (e:=Extern.AbiNoEscape.same) (by kernel_rfl)];rw [Lib.run_noEscape];simp only [Result.andThen];rw [Oper.upon_value]
 go_wp2
 rw [Lib.run_from_unsafe w ⟨b,0,none⟩ Tryz.underlying379 Tryz.underlying302 hj hs Tryz.liesB];simp only [Result.andThen];rw [Oper.upon_value]
 go_wp2
 go_end0
 exact ⟨rfl,rfl⟩
theorem Tryz.cc_any (B b:Nat) (l:List Value) (w:World) (h:Lib.IsBuilderF 304 5 B b l w):Calls Tryz.prog 266 #[.pointer (some ⟨b,0,none⟩)] w fun e w'=>e=.returned (.tuple #[])∧Lib.BuilderAtF 304 5 B b (.pointer (some ⟨b,0,none⟩)) l w'∧Below B w w':=by
 rcases h with h | h
 ·exact (Tryz.cc_new b w h.cell0 h.shape h.frozen0).mono fun e w' hw=>by
   obtain ⟨rfl,rfl⟩:=hw;exact ⟨rfl,h.used _,(Below.refl B w).setCell (p:=⟨b,0,none⟩) h.1 _⟩
 exact (Tryz.cc_used b w h.cell0).mono fun e w' hw=>by
  obtain ⟨rfl,rfl⟩:=hw;exact ⟨rfl,h,Below.refl B _⟩
set_option maxHeartbeats 2000000 in
set_option maxRecDepth 100000 in
theorem Tryz.bWrite (B b:Nat) (l:List Value) (s:ByteArray) (w:World) (h:Lib.IsBuilderF 304 5 B b l w) (hl:l.length+s.size≤140737488355328) (hB:B≤w.heap.size) :
  Calls Tryz.prog 208 #[.pointer (some ⟨b,0,none⟩),.string s] w fun e w'=>e=.returned (.tuple #[.int .i64 s.size,.nilIface])∧Lib.BuilderAtF 304 5 B b (.pointer (some ⟨b,0,none⟩)) (l++Lib.strCells s) w'∧Below B w w':=by
 obtain ⟨i0,hi,hz0,hz1,hz2⟩:=info_parts Tryz.infoU8;have eA1:∀ args w,(callFunc 266 args).run Tryz.prog w=.ok (.enter 266 args) w:=enters_of Tryz.func266 (by kernel_rfl) rfl
 go_enter Tryz.func208,Tryz.ntmps208
 go_wp2_with (go_at_fn 266;refine (Tryz.cc_any B b l _ h).mono ?_)
 rintro e w1 ⟨rfl,⟨hBb,v,hbk,hown,hne⟩,hb1⟩;have c0:w1.cell? ⟨b,0,none⟩=some (.pointer (some ⟨b,0,none⟩)):=by rw [Lib.cell_of_heap hbk];rfl
 have c1:w1.cell? ⟨b,1,none⟩=some v:=by rw [Lib.cell_of_heap hbk];rfl
 go_wp2_with (at_builtin;refine Lib.wpList_append_own_stringF _ rfl _ _ 39 9 rfl B 5 i0 Tryz.underlying39 Tryz.underlying9 hi hz0 hz1 hz2 _ _ _ rfl hown s rfl ?c3 ?c4 ?c5 ?_)
 case c3=>unfold maxLen;omega
 case c4=>omega
 case c5=>have:=hb1.size;omega
 intro v' w2 hown' hgrow _;have hlt:b < w1.heap.size:=(Array.getElem?_eq_some_iff.1 hbk).1;have hb2:w2.heap[b]?=some (.cells #[.pointer (some ⟨b,0,none⟩),v] 304 (0,0)):=by
  rw [hgrow.block b hlt (fun e=>hne e.symm)];exact hbk
 have d0:w2.cell? ⟨b,0,none⟩=some (.pointer (some ⟨b,0,none⟩)):=by rw [Lib.cell_of_heap hb2];rfl
 have d1:w2.cell? ⟨b,1,none⟩=some v:=by rw [Lib.cell_of_heap hb2];rfl
 have f1:w2.frozen? ⟨b,1,none⟩=false:=Lib.frozen_of_heap hb2 1;obtain ⟨ao,n',cap,rfl⟩:∃ ao n' cap,v'=.slice ao n' cap:=by
  rcases hown'.2 with ⟨hv,_⟩ | ⟨g,cap,cur,fz,hv,_⟩
  ·exact ⟨_,_,_,hv⟩
  exact ⟨_,_,_,hv⟩
 go_wp2
 go_ret2
 exact ⟨rfl,Lib.BuilderAtF.put (T:=304) (e:=5) hBb hb2 (bs':=l++Lib.strCells s) (by simpa [Lib.strCells_length] using hown') (by decide),(hb1.grown hgrow (by have:=hb1.size;omega) (fun k hk=>(hown.lt k hk).1)).setCell (p:=⟨b,1,none⟩) hBb _⟩
end Go.Proofs
set_option maxHeartbeats 4000000
namespace T12
open Go Go.Proofs Pk Go.RowKit
structure Gv (M:Prop) (H:Hp):Prop where
 gl:Gl M 2 3 0 H
 mx:∃ m,aM H ⟨1,0,none⟩ [.int .i64 m]
theorem Gv.mono {M:Prop} {H K:Hp} (h:Gv M H) (hk:H.le K):Gv M K:=⟨h.gl.mono hk,h.mx.imp fun _ hm=>hm.mono hk⟩
noncomputable def zV (s:aE):Option (Int×Bool):=zJ s
noncomputable def zW (n:Int):Option aE:=zK n
noncomputable def tX (s t:aE):Option (aE×aE×Bool):=cB (s.length≤1073741824) (some (Lib.cut s t))
noncomputable def NW (s t:aE):Option (aE×Bool):=some (Lib.trimPrefix s t,Lib.hasPrefix s t)
noncomputable def QH (s t:aE):Option Bool:=cB (s.length≤1073741824) (some (Lib.contains s t))
theorem bsd (s:aE):(bs s).data.toList=s:=by simp [bs]
theorem KO {M:Prop} {W:World} {H:Hp} (hH:H.le (hp W)) (hg:Gv M H) (s:aE) {r:Int×Bool} (hr:zV s=some r):Calls Tryz.prog 69 #[.string (bs s)] W (eW M H W (fun v K=>∃ (er1:Value),v=.tuple #[.int .i64 r.1,er1]∧Er er1 r.2)):=by
 unfold zV zJ at hr;obtain ⟨hl,hr⟩:=aF hr;obtain rfl:=Option.some.inj hr;have hz:(bs s).size=s.length:=fK s;obtain ⟨e0,h0,i0⟩:=hg.gl.syn;obtain ⟨e1,h1,i1⟩:=hg.gl.rng
 cases h:Lib.atoiAll s with
 | ok v =>
  refine (Any.strconv_Atoi_ok Tryz.laysC172 (bs s) (by omega) v (by rw [bsd];exact h) W).mono ?_;rintro e w' ⟨rfl,hw⟩;refine ⟨⟨_,by simp [jM,h],.inl ⟨by simp [jM,h],rfl⟩⟩,?_⟩;rcases hw with rfl | ⟨t,rfl⟩
  ·exact fZ.refl _ _
  exact fZ.of_below hg.gl.nq (Lib.bytesWorld_below _ _ _)
 | range =>
  refine (Any.strconv_Atoi_range Tryz.laysC172 (bs s) (by omega) (by rw [bsd];exact h) e1 W (oZ hH h1) i1).mono ?_;rintro e w' ⟨N,rfl,_,_,hb⟩;have hr1:jM s=(Lib.atoiSat s,true):=by simp [jM,h]
  rw [hr1,bsd];exact ⟨⟨_,rfl,.inr ⟨rfl,_,_,rfl⟩⟩,fZ.of_below hg.gl.nq hb⟩
 | _ =>
  refine (Any.strconv_Atoi_syntax Tryz.laysC172 (bs s) (by omega) (by rw [bsd];exact h) e0 W (oZ hH h0) i0).mono ?_;rintro e w' ⟨N,rfl,_,_,hb⟩;have hr1:jM s=(0,true):=by simp [jM,h]
  rw [hr1];exact ⟨⟨_,rfl,.inr ⟨rfl,_,_,rfl⟩⟩,fZ.of_below hg.gl.nq hb⟩
theorem NX {W:World} {H:Hp} (hH:H.le (hp W)) {M:Prop} (hg:Gv M H) (n:Int) (h1 : -9223372036854775808≤n) (h2:n≤9223372036854775807):Calls Tryz.prog 30 #[.int .i64 n] W fun e w'=>e=.returned (.string (bs (Lib.itoa n)))∧∃ k os,w'=Sort.grow (W.drewN k) os:=by
 refine (Any.strconv_Itoa Tryz.laysM171 n h1 h2 W (EA (by kernel_rfl) hH hg.gl.tab)).mono ?_;rintro e w' ⟨rfl,k,os,rfl⟩;exact ⟨rfl,k,os,rfl⟩
theorem vC (M:Prop) (W:World) (k:Nat) (os:Array Obj):fZ M W (Sort.grow (W.drewN k) os) :=
 ⟨rfl,rfl,rfl,(by show W.heap.size≤(W.heap++os).size;rw [Array.size_append];omega),fun b hb=>Array.getElem?_append_left hb,fun _=>Nat.le_add_right _ _⟩
theorem KP {M:Prop} {W:World} {H:Hp} (hH:H.le (hp W)) (hg:Gv M H) (n:Int) {r:aE} (hr:zW n=some r):Calls Tryz.prog 30 #[.int .i64 n] W (bN M W (.string (bs r))):=by
 unfold zW zK at hr;obtain ⟨hl,hr⟩:=aF hr;obtain rfl:=Option.some.inj hr;refine (NX hH hg n hl.1 hl.2).mono ?_;rintro e w' ⟨rfl,k,os,rfl⟩;exact ⟨rfl,vC M W k os⟩
theorem QI {M:Prop} {W:World} {H:Hp} (hH:H.le (hp W)) (hg:Gv M H) (s t:aE) {r:aE×aE×Bool} (hr:tX s t=some r):Calls Tryz.prog 57 #[.string (bs s),.string (bs t)] W (bN M W (.tuple #[.string (bs r.1),.string (bs r.2.1),.bool r.2.2])):=by
 unfold tX at hr;obtain ⟨hl,hr⟩:=aF hr;obtain rfl:=Option.some.inj hr;obtain ⟨m,hm⟩:=hg.mx;refine (Any.strings_Cut Tryz.lays145 (bs s) (bs t) m W (by rw [fK];omega) (oZ hH hm)).mono ?_;rintro e w' ⟨rfl,k,rfl⟩;refine ⟨by simp [bs],?_⟩;exact ⟨rfl,rfl,rfl,Nat.le_refl _,fun _ _=>rfl,fun _=>Nat.le_add_right _ _⟩
theorem w70 {M:Prop} {W:World} {H:Hp} (hH:H.le (hp W)) (hg:Gv M H) (s t:aE) {r:aE×Bool} (hr:NW s t=some r):Calls Tryz.prog 70 #[.string (bs s),.string (bs t)] W (bN M W (.tuple #[.string (bs r.1),.bool r.2])):=by
 obtain rfl:=Option.some.inj hr;refine (Any.strings_CutPrefix Tryz.lays103 (bs s) (bs t) W).mono ?_;rintro e w' ⟨rfl,rfl⟩;exact ⟨by simp [bs],fZ.refl _ _⟩
theorem w71 {M:Prop} {W:World} {H:Hp} (hH:H.le (hp W)) (hg:Gv M H) (s t:aE) {r:Bool} (hr:QH s t=some r):Calls Tryz.prog 71 #[.string (bs s),.string (bs t)] W (bN M W (.bool r)):=by
 unfold QH at hr;obtain ⟨hl,hr⟩:=aF hr;obtain rfl:=Option.some.inj hr;obtain ⟨m,hm⟩:=hg.mx;refine (Any.strings_Contains Tryz.lays144 (bs s) (bs t) m W (by rw [fK];omega) (oZ hH hm)).mono ?_;rintro e w' ⟨rfl,rfl⟩;exact ⟨by simp [bs],fZ.refl _ _⟩
noncomputable def EV (l:List aE) (sep:aE):Option aE:=cB (l.length≤1073741824∧(Lib.join l sep).length≤1073741824) (some (Lib.join l sep))
theorem aBq {M:Prop} {W:World} {H:Hp} (hH:H.le (hp W)) (hg:Gv M H) {ad:Option Addr} {cap:Nat} {l:List aE} (hl:Sl (aG cN) 1 H ad cap l) (sep:aE) {r:aE} (hr:EV l sep=some r):Calls Tryz.prog 147 #[.slice ad l.length cap,.string (bs sep)] W (bN M W (.string (bs r))):=by
 unfold EV at hr;obtain ⟨hb,hr⟩:=aF hr;obtain rfl:=Option.some.inj hr;have hx:(l.map bs).map (·.data.toList)=l:=by
  rw [List.map_map]
  conv=>rhs;rw [← List.map_id l]
  exact List.map_congr_left fun x _=>by simp [bs]
 cases l with
 | nil =>
  refine (Any.strings_Join_none Tryz.lays156 Tryz.Builder_Extra_156 ad cap (bs sep) W).mono ?_;rintro e w' ⟨rfl,rfl⟩;exact ⟨by simp [bs,Lib.join_nil],fZ.refl _ _⟩
 | cons x l =>
  obtain ⟨p,cs,rfl,hp0,h2,h3,h4⟩:=hl.2 0 x rfl;obtain ⟨b,o,sp⟩:=p;obtain rfl:sp=none:=hp0;have hcell:∀ (j:Nat) y,((x::l).map bs)[j]?=some y→W.cell? ⟨b,o+j,none⟩=some (.string y):=fun j y hy=>by
   rw [List.getElem?_map,Option.map_eq_some_iff] at hy;obtain ⟨z,hz,rfl⟩:=hy;obtain ⟨p,cs,h1,_,_,h3,h4⟩:=hl.2 j z hz;cases h1;have h4:cs=cN z:=h4;subst h4;have:=(h3.mono hH).cell (j:=0) (v:=.string (bs z)) rfl;have e:((⟨b,o,none⟩:Addr).add (j*1)).add 0=⟨b,o+j,none⟩:=by rw [Nat.mul_one,dL (i:=j) rfl];rfl
   rwa [e] at this
  have hlt:b < W.heap.size:=by
   have h4:cs=cN x:=h4;subst h4;obtain ⟨c,ty,fz,h5,_⟩:=h3.2 0 (.string (bs x)) rfl;have h6:=hH _ _ h5;rw [Nat.zero_mul,dL rfl] at h6;exact (Array.getElem?_eq_some_iff.1 h6).1
  have hn:((x::l).map bs).length=(x::l).length:=List.length_map _;have:=Any.strings_Join Tryz.lays156 Tryz.Builder_Extra_156 b o cap ((x::l).map bs) (bs sep) W hcell hlt (by rw [hn];omega) (by rw [hn];exact hl.1.1) (by rw [hx,show (bs sep).data.toList=sep by simp [bs]];omega);rw [hx,hn] at this;refine this.mono ?_;rintro e w' ⟨rfl,hw⟩;exact ⟨by simp [bs],fZ.of_below hg.gl.nq hw⟩
end T12
set_option maxHeartbeats 4000000
namespace T12
open Go Go.Proofs Pk Go.RowKit
def qC:Any→aE
 | .i n=>Lib.itoa n
 | .s b=>b
def vD:Any→Prop
 | .i n=>-9223372036854775808≤n∧n≤9223372036854775807
 | .s _=>True
instance:(x:Any)→Decidable (vD x)
 | .i _=>inferInstanceAs (Decidable (_∧_))
 | .s _=>inferInstanceAs (Decidable True)
def eT (l:List Any):aE:=l.flatMap qC
noncomputable def oA (l:List Any):Option aE:=cB ((∀ x∈l,vD x)∧(eT l).length≤1073741824) (some (eT l))
theorem rW {T e:TypeId} {B b:Nat} {p:Value} {l:List Value} {W W':World} (h:Lib.BuilderAtF T e B b p l W) (hb:Below W.heap.size W W'):Lib.BuilderAtF T e B b p l W':=by
 have hlt:=h.lt;obtain ⟨hB,v,hv,hown,hne⟩:=h;exact ⟨hB,v,(hb.block b hlt).trans hv,hown.kept (row:=none) ⟨hb.os,hb.tape,hb.output,hb.size,fun k hk _=>hb.block k hk⟩ (Classical.em _),hne⟩
theorem BG {T e:TypeId} {B b:Nat} {l:List Value} {W W':World} (h:Lib.IsBuilderF T e B b l W) (hb:Below W.heap.size W W'):Lib.IsBuilderF T e B b l W' :=
 h.elim (fun x=>.inl (rW x hb)) (fun x=>.inr (rW x hb))
theorem xF (W:World) (k:Nat) (os:Array Obj):Below W.heap.size W (Sort.grow (W.drewN k) os) :=
 ⟨rfl,rfl,rfl,(by show W.heap.size≤(W.heap++os).size;rw [Array.size_append];omega),fun b hb=>Array.getElem?_append_left hb⟩
theorem xG {l:List Any} {i:Nat} {x:Any} (h:l[i]?=some x):eT (l.take (i+1))=eT (l.take i)++qC x:=by
 unfold eT;rw [List.take_succ,h];simp
theorem EW {l:List Any} (i:Nat):(eT (l.take i)).length≤(eT l).length:=by
 have:eT l=eT (l.take i)++eT (l.drop i):=by unfold eT;rw [← List.flatMap_append,List.take_append_drop]
 rw [this];simp
section
variable {P:Program} {r:Option Nat} {n:aS} {p:List PanicEntry→aS} {a:Act} {w:World} {D:List Deferred} {k:Nat} {L:cD} {ops:Array Oper} {rest:List Oper} {d:Nat} {ty:TypeId} {pos:String} {af:Array Edge}
theorem EX {y:Operand} {xT t:TypeId} {v:Value} {ds:TypeDesc} (hA:bM D k a L) (hd:Nat.blt d k=true) (hu:P.underlying t=some ds) (hds:(match ds with | .interface _=>false | _=>true)=true) (hy:ev L y=some (.iface t v))
  (h:∀ a,bM D k a ((d,.tuple #[v,.bool true])::L)→O P r ops n p rest a w):O P r ops n p (⟨some d,.typeAssert y xT t true,ty,pos,af,none⟩::rest) a w :=
 cM rfl (fun _ h=>by cases h) (w':=w) (v:=.tuple #[v,.bool true]) (by
  simp only [execOp,Instr.typeAssert,hA.eval hy]
  cases ds <;> simp at hds <;> simp [run_underlying hu,Result.andThen]) (h _ (hA.put hd _))
theorem VQ {y:Operand} {xT t t':TypeId} {v z:Value} {ds:TypeDesc} (hA:bM D k a L) (hd:Nat.blt d k=true) (hu:P.underlying t=some ds) (hds:(match ds with | .interface _=>false | _=>true)=true) (hz:∀ w,(zeroValue t).run P w=.ok z w) (hne:Nat.beq t' t=false) (hy:ev L y=some (.iface t' v))
  (h:∀ a,bM D k a ((d,.tuple #[z,.bool false])::L)→O P r ops n p rest a w):O P r ops n p (⟨some d,.typeAssert y xT t true,ty,pos,af,none⟩::rest) a w:=by
 have hn:¬t'=t:=PS hne
 exact cM rfl (fun _ h=>by cases h) (w':=w) (v:=.tuple #[z,.bool false]) (by
  simp only [execOp,Instr.typeAssert,hA.eval hy]
  cases ds <;> simp at hds <;> simp [run_underlying hu,Result.andThen,hn,hz]) (h _ (hA.put hd _))
theorem sT {x:Operand} {xs:List Operand} {ats:Array TypeId} {f:FuncId} {vs:List Value} {v:Value} {R:World→Prop} (hA:bM D k a L) (hd:Nat.blt d k=true) (hf:ev L x=some (.func (.func f) #[] #[])) (hxs:lF L xs=some vs)
  (hcall:∀ args w,(callFunc f args).run P w=.ok (.enter f args) w) (hc:Calls P f vs.toArray w fun e w'=>e=.returned v∧R w') (h:∀ w',R w'→∀ a,bM D k a ((d,v)::L)→O P r ops n p rest a w') :
  O P r ops n p (⟨some d,.call ⟨.value x,xs.toArray,ats⟩,ty,pos,af,none⟩::rest) a w:=by
 refine gH rfl (fun _ h=>by cases h) (fD (first:=#[]) (cap:=#[]) hA hf hxs hcall) (by simpa using hc) ?_ ?_ ?_
 ·intro v' w' hv;obtain ⟨e,hR⟩:=hv;cases e;exact h w' hR _ (hA.put hd _)
 ·intro ch w' hv;cases hv.1
 intro w' hv;cases hv.1
end
theorem QJ {M:Prop} {W:World} {H:Hp} (hH:H.le (hp W)) (hg:Gv M H) {ad_p0_:Option Addr} {cap_p0_:Nat} {fe:List Any} (h_p0_:Sl (aG pW) 1 H ad_p0_ cap_p0_ fe) {r:aE} (hr:oA fe=some r):Calls Tryz.prog 182 #[.slice ad_p0_ fe.length cap_p0_] W (bN M W (.string (bs r))):=by
 unfold oA at hr;obtain ⟨⟨hok,hlen⟩,hr⟩:=aF hr;obtain rfl:=Option.some.inj hr;refine enter Tryz.func182 rfl Tryz.ntmps182 rfl ?_;intro a hA;refine eE (cH (fC hA rfl rfl fun a hA=>?_));refine eJ (eE (cH (cM rfl (fun _ h=>by cases h) (w':=W.alloc (.cells #[.pointer none,.slice none 0 0] 304)) (v:=.pointer (some ⟨W.heap.size,0,none⟩)) (by simp [execOp,Instr.alloc,Tryz.zeroValue304,kA,Value.cells]) ?_)));have hA1:=hA.put (d:=3) rfl (.pointer (some ⟨W.heap.size,0,none⟩));have hB1:Lib.IsBuilderF 304 5 W.heap.size W.heap.size (Lib.byteCells (eT (fe.take 0))) (W.alloc (.cells #[.pointer none,.slice none 0 0] 304)):=(Lib.fresh_isBuilder 304 5 W).elim (fun h=>.inl (.of h)) (fun h=>.inr (.of h));have hW1:Below W.heap.size W (W.alloc (.cells #[.pointer none,.slice none 0 0] 304)):=(Below.refl _ _).alloc (Nat.le_refl _) _;generalize (a.put (some 3) (.pointer (some ⟨W.heap.size,0,none⟩)))=a1 at hA1 ⊢;generalize (W.alloc (.cells #[.pointer none,.slice none 0 0] 304))=w1 at hB1 hW1 ⊢;refine eJ (eE (eE (cH (eN hA1 rfl rfl fun a hA=>NK hA rfl rfl Tryz.underlying326 fun a hA=>eN hA rfl rfl fun a hA=>?_))));refine eJ (mH (DH (fun j a w=>∃ i,i≤fe.length∧j=fe.length - i∧bM [] 35 a [(3,.pointer (some ⟨W.heap.size,0,none⟩)),(10,.slice ad_p0_ fe.length cap_p0_),(11,.int .i64 fe.length),(12,.int .i64 i)]∧Lib.IsBuilderF 304 5 W.heap.size W.heap.size (Lib.byteCells (eT (fe.take i))) w∧Below W.heap.size W w) (j:=fe.length) ⟨0,Nat.zero_le _,rfl,hA.cut ⟨rfl,rfl,rfl,rfl,trivial⟩,hB1,hW1⟩ ?_));rintro j a w ⟨i,hil,rfl,hA,hB,hW⟩;have hll:=h_p0_.len;refine eE (cH (UE hA rfl rfl rfl fun a hA=>eJ (eE (TX hA rfl (fun hc=>sF ?_) (fun hc=>DG rfl ?_)))))
 ·have hi:i < fe.length:=by omega
  obtain ⟨x,hx⟩:∃ x,fe[i]?=some x:=⟨_,List.getElem?_eq_getElem hi⟩;have hxok:=hok x (List.mem_of_getElem? hx);have hHw:H.le (hp w):=hH.trans (fZ.of_below hg.gl.nq hW).le;have hlen2:(eT (fe.take (i+1))).length≤1073741824:=Nat.le_trans (EW _) hlen;have hst:=xG hx;have hcnt:(eT (fe.take i)).length+(qC x).length≤1073741824:=by rw [hst,List.length_append] at hlen2;exact hlen2
  have hBle:W.heap.size≤w.heap.size:=hW.size;refine eE (nI (n:=fun a w'=>bM [] 35 a [(3,.pointer (some ⟨W.heap.size,0,none⟩)),(10,.slice ad_p0_ fe.length cap_p0_),(11,.int .i64 fe.length),(12,.int .i64 i)]∧Lib.BuilderAtF 304 5 W.heap.size W.heap.size (.pointer (some ⟨W.heap.size,0,none⟩)) (Lib.byteCells (eT (fe.take i))++Lib.strCells (bs (qC x))) w'∧Below W.heap.size W w') ?_ (fun _ _ h=>h) (fun _ K _ _ hK h=>⟨K,hK,h⟩) (fun _ _ _ h=>h) ?_)
  ·rintro a w' ⟨hA,hB,hW⟩;exact cH (NG hA rfl rfl rfl (by omega) (by omega) fun a hA=>eN hA rfl rfl fun a hA=>eJ ⟨fe.length - (i+1),by omega,i+1,by omega,rfl,hA.cut ⟨rfl,rfl,rfl,by simp [lk],trivial⟩,.inr (by rw [hst];unfold Lib.byteCells at *;rw [List.map_append];exact hB),hW⟩)
  refine mH (eE (cH (aA8 hA rfl rfl rfl Tryz.underlying326 Tryz.sizeOf20 (h_p0_.mono (aG.mono _) hHw) rfl rfl hx fun q cs hq hcs hf a hA=>wS (v:=VF x) hA rfl rfl Tryz.isAgg20 hq (by rw [show cs=pW x from hf];rfl) fun a hA=>fC hA rfl rfl fun a hA=>eJ ?_)));clear hf hq hcs
  cases x with
  | i z =>
   refine eE (cH (eN hA rfl rfl fun a hA=>EX hA rfl Tryz.underlying3 rfl rfl fun a hA=>eN hA rfl rfl fun a hA=>kP (vs:=[.int .i64 z,.bool true]) hA rfl rfl rfl fun a hA=>kP (vs:=[.int .i64 z,.bool true]) hA rfl rfl rfl fun a hA=>fC hA rfl rfl fun a hA=>fC hA rfl rfl fun a hA=>eJ ?_));refine eE (cH (eN hA rfl rfl fun a hA=>eJ (iN hA rfl (fun _=>?_) (fun h=>by cases h))));refine cH (eN hA rfl rfl fun a hA=>sT (x:=.func 30) (xs:=[.tmp 22]) hA rfl rfl rfl Tryz.call30 (NX hHw hg z hxok.1 hxok.2) ?_);rintro w' ⟨k,os,rfl⟩ a hA;have hb:=xF w k os;have hW':=hW.trans (hb.mono hBle);refine sT (x:=.func 208) (xs:=[.tmp 3,.tmp 23]) hA rfl rfl rfl Tryz.call208 (Tryz.bWrite W.heap.size W.heap.size _ (bs (Lib.itoa z)) _ (BG hB hb) ?_ hW'.size) ?_
   ·rw [Lib.byteCells_length,fK];have:(Lib.itoa z).length=(qC (.i z)).length:=rfl;omega
   rintro w' ⟨hB',hW2⟩ a hA;exact eJ ⟨hA.cut ⟨rfl,rfl,rfl,rfl,trivial⟩,hB',hW'.trans hW2⟩
  | s z =>
   refine eE (cH (eN hA rfl rfl fun a hA=>VQ hA rfl Tryz.underlying3 rfl Tryz.zeroValue3 rfl rfl fun a hA=>eN hA rfl rfl fun a hA=>kP (vs:=[.int .i64 0,.bool false]) hA rfl rfl rfl fun a hA=>kP (vs:=[.int .i64 0,.bool false]) hA rfl rfl rfl fun a hA=>fC hA rfl rfl fun a hA=>fC hA rfl rfl fun a hA=>eJ ?_));refine eE (cH (eN hA rfl rfl fun a hA=>eJ (iN hA rfl (fun h=>by cases h) (fun _=>?_))));refine eE (cH (eN hA rfl rfl fun a hA=>EX hA rfl Tryz.underlying9 rfl rfl fun a hA=>eN hA rfl rfl fun a hA=>kP (vs:=[.string (bs z),.bool true]) hA rfl rfl rfl fun a hA=>kP (vs:=[.string (bs z),.bool true]) hA rfl rfl rfl fun a hA=>fC hA rfl rfl fun a hA=>fC hA rfl rfl fun a hA=>eJ ?_));refine eE (cH (eN hA rfl rfl fun a hA=>eJ (iN hA rfl (fun _=>?_) (fun h=>by cases h))));refine cH (eN hA rfl rfl fun a hA=>sT (x:=.func 208) (xs:=[.tmp 3,.tmp 31]) hA rfl rfl rfl Tryz.call208 (Tryz.bWrite W.heap.size W.heap.size _ (bs z) _ hB ?_ hBle) ?_)
   ·rw [Lib.byteCells_length,fK];have:z.length=(qC (.s z)).length:=rfl;omega
   rintro w' ⟨hB',hW2⟩ a hA;exact eJ ⟨hA.cut ⟨rfl,rfl,rfl,rfl,trivial⟩,hB',hW.trans hW2⟩
 have hi:i=fe.length:=by omega
 subst hi;rw [List.take_length] at hB;refine eE (cH (sT (x:=.func 209) (xs:=[.tmp 3]) hA rfl rfl rfl Tryz.call209 (Any.Builder_String_any_f Tryz.lays169 Tryz.Builder_Extra_169 W.heap.size W.heap.size (eT fe) w hB hW.size) ?_));rintro w' ⟨hB',hW'⟩ a hA;refine fC hA rfl rfl fun a hA=>eJ (DE (dN hA rfl rfl ?_));exact ⟨rfl,fZ.of_below hg.gl.nq (hW.trans hW')⟩
end T12
namespace T12
open Go Go.Proofs Pk Tryz
theorem J.{u} {α:Sort u} {a:α}:a=a:=rfl
structure aI where
 anchor:Int
 text:aE
 deriving DecidableEq,Inhabited
def aY (x:aI):List Value:=[.int .i64 x.anchor,.string (bs x.text)]
structure eB where
 day:Int
 paragraphs:List aI
 deriving DecidableEq,Inhabited
def bT:Hp→List Value→eB→Prop:=fun H cs x=>∃ (ad0:Option Addr) (cap0:Nat),cs=[.int .i64 x.day,.slice ad0 x.paragraphs.length cap0]∧Sl (aG aY) 2 H ad0 cap0 x.paragraphs
theorem bT.one:oO bT:=fun _ _ _ ⟨_,_,h,_⟩=>by subst h;rfl
theorem bT.mono:hD bT:=fun _ _ _ _ hk ⟨a0,c0,h,f0⟩=>⟨a0,c0,h,f0.mono (aG.mono _) hk⟩
structure bE where
 number:Int
 bound:Int
 height:Int
 width:Int
 parts:List eB
 deriving DecidableEq,Inhabited
def bW:Hp→List Value→bE→Prop:=fun H cs x=>∃ (ad0:Option Addr) (cap0:Nat),cs=[.int .i64 x.number,.int .i64 x.bound,.int .i64 x.height,.int .i64 x.width,.slice ad0 x.parts.length cap0]∧Sl (bT) 2 H ad0 cap0 x.parts
theorem bW.one:oO bW:=fun _ _ _ ⟨_,_,h,_⟩=>by subst h;rfl
theorem bW.mono:hD bW:=fun _ _ _ _ hk ⟨a0,c0,h,f0⟩=>⟨a0,c0,h,f0.mono (bT.mono) hk⟩
structure aK where
 number:Int
 day:Int
 kind:Int
 anchor:Int
 text:aE
 new_:Int
 deriving DecidableEq,Inhabited
def aO (x:aK):List Value:=[.int .i64 x.number,.int .i64 x.day,.int .u8 x.kind,.int .i64 x.anchor,.string (bs x.text),.int .i64 x.new_]
structure gX where
 anchor:Int
 kind:Int
 until_:Int
 deriving DecidableEq,Inhabited
def eS (x:gX):List Value:=[.int .i64 x.anchor,.int .i64 x.kind,.int .i64 x.until_]
structure aR where
 number:Int
 of:Int
 from_:Int
 to_:Int
 words:List aE
 deriving DecidableEq,Inhabited
def bA:Hp→List Value→aR→Prop:=fun H cs x=>∃ (ad0:Option Addr) (cap0:Nat),cs=[.int .i64 x.number,.int .i64 x.of,.int .i64 x.from_,.int .i64 x.to_,.slice ad0 x.words.length cap0]∧Sl (aG cN) 1 H ad0 cap0 x.words
theorem bA.one:oO bA:=fun _ _ _ ⟨_,_,h,_⟩=>by subst h;rfl
theorem bA.mono:hD bA:=fun _ _ _ _ hk ⟨a0,c0,h,f0⟩=>⟨a0,c0,h,f0.mono (aG.mono _) hk⟩
structure bP where
 words:List aE
 papers:List aR
 deriving DecidableEq,Inhabited
def cL:Hp→List Value→bP→Prop:=fun H cs x=>∃ (ad0:Option Addr) (cap0:Nat) (ad1:Option Addr) (cap1:Nat),cs=[.slice ad0 x.words.length cap0,.slice ad1 x.papers.length cap1]∧Sl (aG cN) 1 H ad0 cap0 x.words∧Sl (bA) 5 H ad1 cap1 x.papers
theorem cL.one:oO cL:=fun _ _ _ ⟨_,_,_,_,h,_⟩=>by subst h;rfl
theorem cL.mono:hD cL:=fun _ _ _ _ hk ⟨a0,c0,a1,c1,h,f0,f1⟩=>⟨a0,c0,a1,c1,h,f0.mono (aG.mono _) hk,f1.mono (bA.mono) hk⟩
structure bL where
 e0:List Int
 e1:List Int
 deriving DecidableEq,Inhabited
def iM:Hp→List Value→bL→Prop:=fun H cs x=>∃ (ad0:Option Addr) (cap0:Nat) (ad1:Option Addr) (cap1:Nat),cs=[.slice ad0 x.e0.length cap0,.slice ad1 x.e1.length cap1]∧Sl (aG (bX .i64)) 1 H ad0 cap0 x.e0∧Sl (aG (bX .i64)) 1 H ad1 cap1 x.e1
theorem iM.one:oO iM:=fun _ _ _ ⟨_,_,_,_,h,_⟩=>by subst h;rfl
theorem iM.mono:hD iM:=fun _ _ _ _ hk ⟨a0,c0,a1,c1,h,f0,f1⟩=>⟨a0,c0,a1,c1,h,f0.mono (aG.mono _) hk,f1.mono (aG.mono _) hk⟩
structure fF where
 a:Int
 b:Int
 deriving DecidableEq,Inhabited
def eM (x:fF):List Value:=[.int .i64 x.a,.int .i64 x.b]
structure dR where
 holder:Int
 for_:Int
 deriving DecidableEq,Inhabited
def eH (x:dR):List Value:=[.int .i64 x.holder,.int .i64 x.for_]
structure aV where
 members:Int
 ayes:bL
 noes:bL
 pairs:List fF
 proxies:List dR
 rule:Int
 need:Int
 quorum:Int
 tie:Int
 deriving DecidableEq,Inhabited
structure Zp6 where
 a0:Option Addr
 c0:Nat
 a1:Option Addr
 c1:Nat
 a2:Option Addr
 c2:Nat
 a3:Option Addr
 c3:Nat
 a4:Option Addr
 c4:Nat
 a5:Option Addr
 c5:Nat
abbrev dG (x:aV) (z:Zp6):List Value:=[.int .i64 x.members,.slice z.a0 x.ayes.e0.length z.c0,.slice z.a1 x.ayes.e1.length z.c1,.slice z.a2 x.noes.e0.length z.c2,.slice z.a3 x.noes.e1.length z.c3,.slice z.a4 x.pairs.length z.c4,.slice z.a5 x.proxies.length z.c5,.int .u8 x.rule,.int .i64 x.need,.int .i64 x.quorum,.int .u8 x.tie]
structure iY (H:Hp) (x:aV) (z:Zp6):Prop where
 f0:Sl (aG (bX .i64)) 1 H z.a0 z.c0 x.ayes.e0
 f1:Sl (aG (bX .i64)) 1 H z.a1 z.c1 x.ayes.e1
 f2:Sl (aG (bX .i64)) 1 H z.a2 z.c2 x.noes.e0
 f3:Sl (aG (bX .i64)) 1 H z.a3 z.c3 x.noes.e1
 f4:Sl (aG eM) 2 H z.a4 z.c4 x.pairs
 f5:Sl (aG eH) 2 H z.a5 z.c5 x.proxies
theorem iY.mono {H K:Hp} {x:aV} {z:Zp6} (h:iY H x z) (k:H.le K):iY K x z:=⟨h.f0.mono (aG.mono _) k,h.f1.mono (aG.mono _) k,h.f2.mono (aG.mono _) k,h.f3.mono (aG.mono _) k,h.f4.mono (aG.mono _) k,h.f5.mono (aG.mono _) k⟩
theorem iY.lens {H:Hp} {x:aV} {z:Zp6} (h:iY H x z):x.ayes.e0.length≤9223372036854775807∧x.ayes.e1.length≤9223372036854775807∧x.noes.e0.length≤9223372036854775807∧x.noes.e1.length≤9223372036854775807∧x.pairs.length≤9223372036854775807∧x.proxies.length≤9223372036854775807:=⟨h.f0.len,h.f1.len,h.f2.len,h.f3.len,h.f4.len,h.f5.len⟩
def bQ:Hp→List Value→aV→Prop:=fun H cs x=>∃ z,cs=dG x z∧iY H x z
theorem bQ.one:oO bQ:=fun _ _ _ ⟨_,h,_⟩=>by subst h;rfl
theorem bQ.mono:hD bQ:=fun _ _ _ _ hk ⟨z,h,f⟩=>⟨z,h,f.mono hk⟩
structure cV where
 day:Int
 house:Int
 volume:bE
 bound:Bool
 errata:List aK
 hides:List gX
 cites:List aE
 motion:bP
 moved:Bool
 choice:List Int
 division:aV
 open_:Bool
 results:List UInt8
 deriving DecidableEq,Inhabited
structure vE where
 a0:Option Addr
 c0:Nat
 a1:Option Addr
 c1:Nat
 a2:Option Addr
 c2:Nat
 a3:Option Addr
 c3:Nat
 a4:Option Addr
 c4:Nat
 a5:Option Addr
 c5:Nat
 a6:Option Addr
 c6:Nat
 a7:Option Addr
 c7:Nat
 a8:Option Addr
 c8:Nat
 a9:Option Addr
 c9:Nat
 a10:Option Addr
 c10:Nat
 a11:Option Addr
 c11:Nat
 a12:Option Addr
 c12:Nat
 a13:Option Addr
 c13:Nat
abbrev cJ (x:cV) (z:vE):List Value:=[.int .i64 x.day,.int .i64 x.house,.int .i64 x.volume.number,.int .i64 x.volume.bound,.int .i64 x.volume.height,.int .i64 x.volume.width,.slice z.a0 x.volume.parts.length z.c0,.bool x.bound,.slice z.a1 x.errata.length z.c1,.slice z.a2 x.hides.length z.c2,.slice z.a3 x.cites.length z.c3,.slice z.a4 x.motion.words.length z.c4,.slice z.a5 x.motion.papers.length z.c5,.bool x.moved,.slice z.a6 x.choice.length z.c6,.int .i64 x.division.members,.slice z.a7 x.division.ayes.e0.length z.c7,.slice z.a8 x.division.ayes.e1.length z.c8,.slice z.a9 x.division.noes.e0.length z.c9,.slice z.a10 x.division.noes.e1.length z.c10,.slice z.a11 x.division.pairs.length z.c11,.slice z.a12 x.division.proxies.length z.c12,.int .u8 x.division.rule,.int .i64 x.division.need,.int .i64 x.division.quorum,.int .u8 x.division.tie,.bool x.open_,.slice z.a13 x.results.length z.c13]
structure oB (H:Hp) (x:cV) (z:vE):Prop where
 f0:Sl (bT) 2 H z.a0 z.c0 x.volume.parts
 f1:Sl (aG aO) 6 H z.a1 z.c1 x.errata
 f2:Sl (aG eS) 3 H z.a2 z.c2 x.hides
 f3:Sl (aG cN) 1 H z.a3 z.c3 x.cites
 f4:Sl (aG cN) 1 H z.a4 z.c4 x.motion.words
 f5:Sl (bA) 5 H z.a5 z.c5 x.motion.papers
 f6:Sl (aG (bX .i64)) 1 H z.a6 z.c6 x.choice
 f7:Sl (aG (bX .i64)) 1 H z.a7 z.c7 x.division.ayes.e0
 f8:Sl (aG (bX .i64)) 1 H z.a8 z.c8 x.division.ayes.e1
 f9:Sl (aG (bX .i64)) 1 H z.a9 z.c9 x.division.noes.e0
 f10:Sl (aG (bX .i64)) 1 H z.a10 z.c10 x.division.noes.e1
 f11:Sl (aG eM) 2 H z.a11 z.c11 x.division.pairs
 f12:Sl (aG eH) 2 H z.a12 z.c12 x.division.proxies
 f13:Sl (aG cE) 1 H z.a13 z.c13 x.results
theorem oB.mono {H K:Hp} {x:cV} {z:vE} (h:oB H x z) (k:H.le K):oB K x z:=⟨h.f0.mono (bT.mono) k,h.f1.mono (aG.mono _) k,h.f2.mono (aG.mono _) k,h.f3.mono (aG.mono _) k,h.f4.mono (aG.mono _) k,h.f5.mono (bA.mono) k,h.f6.mono (aG.mono _) k,h.f7.mono (aG.mono _) k,h.f8.mono (aG.mono _) k,h.f9.mono (aG.mono _) k,h.f10.mono (aG.mono _) k,h.f11.mono (aG.mono _) k,h.f12.mono (aG.mono _) k,h.f13.mono (aG.mono _) k⟩
theorem oB.lens {H:Hp} {x:cV} {z:vE} (h:oB H x z):x.volume.parts.length≤9223372036854775807∧x.errata.length≤9223372036854775807∧x.hides.length≤9223372036854775807∧x.cites.length≤9223372036854775807∧x.motion.words.length≤9223372036854775807∧x.motion.papers.length≤9223372036854775807∧x.choice.length≤9223372036854775807∧x.division.ayes.e0.length≤9223372036854775807∧x.division.ayes.e1.length≤9223372036854775807∧x.division.noes.e0.length≤9223372036854775807∧x.division.noes.e1.length≤9223372036854775807∧x.division.pairs.length≤9223372036854775807∧x.division.proxies.length≤9223372036854775807∧x.results.length≤9223372036854775807:=⟨h.f0.len,h.f1.len,h.f2.len,h.f3.len,h.f4.len,h.f5.len,h.f6.len,h.f7.len,h.f8.len,h.f9.len,h.f10.len,h.f11.len,h.f12.len,h.f13.len⟩
def qD:Hp→List Value→cV→Prop:=fun H cs x=>∃ z,cs=cJ x z∧oB H x z
theorem qD.one:oO qD:=fun _ _ _ ⟨_,h,_⟩=>by subst h;rfl
theorem qD.mono:hD qD:=fun _ _ _ _ hk ⟨z,h,f⟩=>⟨z,h,f.mono hk⟩
structure aH where
 state:cV
 deriving DecidableEq,Inhabited
abbrev EY (x:aH) (z:vE):List Value:=[.int .i64 x.state.day,.int .i64 x.state.house,.int .i64 x.state.volume.number,.int .i64 x.state.volume.bound,.int .i64 x.state.volume.height,.int .i64 x.state.volume.width,.slice z.a0 x.state.volume.parts.length z.c0,.bool x.state.bound,.slice z.a1 x.state.errata.length z.c1,.slice z.a2 x.state.hides.length z.c2,.slice z.a3 x.state.cites.length z.c3,.slice z.a4 x.state.motion.words.length z.c4,.slice z.a5 x.state.motion.papers.length z.c5,.bool x.state.moved,.slice z.a6 x.state.choice.length z.c6,.int .i64 x.state.division.members,.slice z.a7 x.state.division.ayes.e0.length z.c7,.slice z.a8 x.state.division.ayes.e1.length z.c8,.slice z.a9 x.state.division.noes.e0.length z.c9,.slice z.a10 x.state.division.noes.e1.length z.c10,.slice z.a11 x.state.division.pairs.length z.c11,.slice z.a12 x.state.division.proxies.length z.c12,.int .u8 x.state.division.rule,.int .i64 x.state.division.need,.int .i64 x.state.division.quorum,.int .u8 x.state.division.tie,.bool x.state.open_,.slice z.a13 x.state.results.length z.c13]
structure jV (H:Hp) (x:aH) (z:vE):Prop where
 f0:Sl (bT) 2 H z.a0 z.c0 x.state.volume.parts
 f1:Sl (aG aO) 6 H z.a1 z.c1 x.state.errata
 f2:Sl (aG eS) 3 H z.a2 z.c2 x.state.hides
 f3:Sl (aG cN) 1 H z.a3 z.c3 x.state.cites
 f4:Sl (aG cN) 1 H z.a4 z.c4 x.state.motion.words
 f5:Sl (bA) 5 H z.a5 z.c5 x.state.motion.papers
 f6:Sl (aG (bX .i64)) 1 H z.a6 z.c6 x.state.choice
 f7:Sl (aG (bX .i64)) 1 H z.a7 z.c7 x.state.division.ayes.e0
 f8:Sl (aG (bX .i64)) 1 H z.a8 z.c8 x.state.division.ayes.e1
 f9:Sl (aG (bX .i64)) 1 H z.a9 z.c9 x.state.division.noes.e0
 f10:Sl (aG (bX .i64)) 1 H z.a10 z.c10 x.state.division.noes.e1
 f11:Sl (aG eM) 2 H z.a11 z.c11 x.state.division.pairs
 f12:Sl (aG eH) 2 H z.a12 z.c12 x.state.division.proxies
 f13:Sl (aG cE) 1 H z.a13 z.c13 x.state.results
theorem jV.mono {H K:Hp} {x:aH} {z:vE} (h:jV H x z) (k:H.le K):jV K x z:=⟨h.f0.mono (bT.mono) k,h.f1.mono (aG.mono _) k,h.f2.mono (aG.mono _) k,h.f3.mono (aG.mono _) k,h.f4.mono (aG.mono _) k,h.f5.mono (bA.mono) k,h.f6.mono (aG.mono _) k,h.f7.mono (aG.mono _) k,h.f8.mono (aG.mono _) k,h.f9.mono (aG.mono _) k,h.f10.mono (aG.mono _) k,h.f11.mono (aG.mono _) k,h.f12.mono (aG.mono _) k,h.f13.mono (aG.mono _) k⟩
theorem jV.lens {H:Hp} {x:aH} {z:vE} (h:jV H x z):x.state.volume.parts.length≤9223372036854775807∧x.state.errata.length≤9223372036854775807∧x.state.hides.length≤9223372036854775807∧x.state.cites.length≤9223372036854775807∧x.state.motion.words.length≤9223372036854775807∧x.state.motion.papers.length≤9223372036854775807∧x.state.choice.length≤9223372036854775807∧x.state.division.ayes.e0.length≤9223372036854775807∧x.state.division.ayes.e1.length≤9223372036854775807∧x.state.division.noes.e0.length≤9223372036854775807∧x.state.division.noes.e1.length≤9223372036854775807∧x.state.division.pairs.length≤9223372036854775807∧x.state.division.proxies.length≤9223372036854775807∧x.state.results.length≤9223372036854775807:=⟨h.f0.len,h.f1.len,h.f2.len,h.f3.len,h.f4.len,h.f5.len,h.f6.len,h.f7.len,h.f8.len,h.f9.len,h.f10.len,h.f11.len,h.f12.len,h.f13.len⟩
def aT:Hp→List Value→aH→Prop:=fun H cs x=>∃ z,cs=EY x z∧jV H x z
theorem aT.one:oO aT:=fun _ _ _ ⟨_,h,_⟩=>by subst h;rfl
theorem aT.mono:hD aT:=fun _ _ _ _ hk ⟨z,h,f⟩=>⟨z,h,f.mono hk⟩
structure bY where
 paragraph:aI
 removed:Bool
 deriving DecidableEq,Inhabited
def bZ (x:bY):List Value:=[.int .i64 x.paragraph.anchor,.string (bs x.paragraph.text),.bool x.removed]
structure gJ where
 volume:bE
 parts:List (List bY)
 deriving DecidableEq,Inhabited
def jW:Hp→List Value→gJ→Prop:=fun H cs x=>∃ (ad0:Option Addr) (cap0:Nat) (ad1:Option Addr) (cap1:Nat),cs=[.int .i64 x.volume.number,.int .i64 x.volume.bound,.int .i64 x.volume.height,.int .i64 x.volume.width,.slice ad0 x.volume.parts.length cap0,.slice ad1 x.parts.length cap1]∧Sl (bT) 2 H ad0 cap0 x.volume.parts∧Sl (uE (aG bZ) 3) 1 H ad1 cap1 x.parts
theorem jW.one:oO jW:=fun _ _ _ ⟨_,_,_,_,h,_⟩=>by subst h;rfl
theorem jW.mono:hD jW:=fun _ _ _ _ hk ⟨a0,c0,a1,c1,h,f0,f1⟩=>⟨a0,c0,a1,c1,h,f0.mono (bT.mono) hk,f1.mono (uE.mono (aG.mono _)) hk⟩
structure iA where
 anchor:Int
 column:Int
 line:Int
 lines:Int
 deriving DecidableEq,Inhabited
def jD (x:iA):List Value:=[.int .i64 x.anchor,.int .i64 x.column,.int .i64 x.line,.int .i64 x.lines]
structure cK where
 place:iA
 day:Int
 number:Int
 deriving DecidableEq,Inhabited
def eO (x:cK):List Value:=[.int .i64 x.place.anchor,.int .i64 x.place.column,.int .i64 x.place.line,.int .i64 x.place.lines,.int .i64 x.day,.int .i64 x.number]
structure fN where
 ayes:Int
 noes:Int
 deriving DecidableEq,Inhabited
def jE (x:fN):List Value:=[.int .i64 x.ayes,.int .i64 x.noes]
structure bD where
 e0:Bool
 e1:Bool
 e2:Bool
 e3:Bool
 e4:Bool
 e5:Bool
 e6:Bool
 e7:Bool
 e8:Bool
 e9:Bool
 e10:Bool
 e11:Bool
 e12:Bool
 e13:Bool
 e14:Bool
 e15:Bool
 e16:Bool
 e17:Bool
 e18:Bool
 e19:Bool
 e20:Bool
 e21:Bool
 e22:Bool
 e23:Bool
 e24:Bool
 e25:Bool
 e26:Bool
 e27:Bool
 e28:Bool
 e29:Bool
 e30:Bool
 e31:Bool
 e32:Bool
 e33:Bool
 e34:Bool
 e35:Bool
 e36:Bool
 e37:Bool
 e38:Bool
 e39:Bool
 deriving Inhabited
def bC (x:bD):List Value:=[.bool x.e0,.bool x.e1,.bool x.e2,.bool x.e3,.bool x.e4,.bool x.e5,.bool x.e6,.bool x.e7,.bool x.e8,.bool x.e9,.bool x.e10,.bool x.e11,.bool x.e12,.bool x.e13,.bool x.e14,.bool x.e15,.bool x.e16,.bool x.e17,.bool x.e18,.bool x.e19,.bool x.e20,.bool x.e21,.bool x.e22,.bool x.e23,.bool x.e24,.bool x.e25,.bool x.e26,.bool x.e27,.bool x.e28,.bool x.e29,.bool x.e30,.bool x.e31,.bool x.e32,.bool x.e33,.bool x.e34,.bool x.e35,.bool x.e36,.bool x.e37,.bool x.e38,.bool x.e39]
def bD.vals (x:bD):List Bool:=[x.e0,x.e1,x.e2,x.e3,x.e4,x.e5,x.e6,x.e7,x.e8,x.e9,x.e10,x.e11,x.e12,x.e13,x.e14,x.e15,x.e16,x.e17,x.e18,x.e19,x.e20,x.e21,x.e22,x.e23,x.e24,x.e25,x.e26,x.e27,x.e28,x.e29,x.e30,x.e31,x.e32,x.e33,x.e34,x.e35,x.e36,x.e37,x.e38,x.e39]
def bD.get (x:bD) (j:Nat):Bool:=x.vals.getD j default
def bD.set (x:bD) (j:Nat) (v:Bool):bD:=⟨if j=0 then v else x.e0,if j=1 then v else x.e1,if j=2 then v else x.e2,if j=3 then v else x.e3,if j=4 then v else x.e4,if j=5 then v else x.e5,if j=6 then v else x.e6,if j=7 then v else x.e7,if j=8 then v else x.e8,if j=9 then v else x.e9,if j=10 then v else x.e10,if j=11 then v else x.e11,if j=12 then v else x.e12,if j=13 then v else x.e13,if j=14 then v else x.e14,if j=15 then v else x.e15,if j=16 then v else x.e16,if j=17 then v else x.e17,if j=18 then v else x.e18,if j=19 then v else x.e19,if j=20 then v else x.e20,if j=21 then v else x.e21,if j=22 then v else x.e22,if j=23 then v else x.e23,if j=24 then v else x.e24,if j=25 then v else x.e25,if j=26 then v else x.e26,if j=27 then v else x.e27,if j=28 then v else x.e28,if j=29 then v else x.e29,if j=30 then v else x.e30,if j=31 then v else x.e31,if j=32 then v else x.e32,if j=33 then v else x.e33,if j=34 then v else x.e34,if j=35 then v else x.e35,if j=36 then v else x.e36,if j=37 then v else x.e37,if j=38 then v else x.e38,if j=39 then v else x.e39⟩
def bD.zero:bD:=⟨false,false,false,false,false,false,false,false,false,false,false,false,false,false,false,false,false,false,false,false,false,false,false,false,false,false,false,false,false,false,false,false,false,false,false,false,false,false,false,false⟩
theorem bD.vset (x:bD) (v:Bool):∀ (j:Nat),j < 40→(x.set j v).vals=x.vals.set j v
 | 0,_=>rfl
 | 1,_=>rfl
 | 2,_=>rfl
 | 3,_=>rfl
 | 4,_=>rfl
 | 5,_=>rfl
 | 6,_=>rfl
 | 7,_=>rfl
 | 8,_=>rfl
 | 9,_=>rfl
 | 10,_=>rfl
 | 11,_=>rfl
 | 12,_=>rfl
 | 13,_=>rfl
 | 14,_=>rfl
 | 15,_=>rfl
 | 16,_=>rfl
 | 17,_=>rfl
 | 18,_=>rfl
 | 19,_=>rfl
 | 20,_=>rfl
 | 21,_=>rfl
 | 22,_=>rfl
 | 23,_=>rfl
 | 24,_=>rfl
 | 25,_=>rfl
 | 26,_=>rfl
 | 27,_=>rfl
 | 28,_=>rfl
 | 29,_=>rfl
 | 30,_=>rfl
 | 31,_=>rfl
 | 32,_=>rfl
 | 33,_=>rfl
 | 34,_=>rfl
 | 35,_=>rfl
 | 36,_=>rfl
 | 37,_=>rfl
 | 38,_=>rfl
 | 39,_=>rfl
 | n+40,h=>absurd h (by omega)
theorem bD.em (x:bD):bC x=x.vals.map (fun v=>Value.bool v):=rfl
theorem bD.st {x:bD} {j:Nat} {v:Bool} (h:j < 40):(bC x).set j (Value.bool v)=bC (x.set j v):=by rw [bD.em,bD.em,bD.vset x v j h,List.map_set]
theorem bD.at {x:bD} {j:Nat} (h:j < 40):(bC x)[j]?=some (Value.bool (x.get j)):=by
 have h2:x.vals[j]?=some (x.get j):=by unfold bD.get;rw [List.getD_eq_getElem?_getD,List.getElem?_eq_getElem (show j < x.vals.length from h)];rfl
 rw [bD.em,List.getElem?_map,h2];rfl
structure dE where
 division:aV
 paired:bD
 may:List (List UInt8)
 deriving Inhabited
def eY:Hp→List Value→dE→Prop:=fun H cs x=>∃ (ad0:Option Addr) (cap0:Nat) (ad1:Option Addr) (cap1:Nat) (PZ:Option Addr) (cap2:Nat) (ad3:Option Addr) (cap3:Nat) (ad4:Option Addr) (cap4:Nat) (ad5:Option Addr) (cap5:Nat) (hs6:List fR),cs=(eX (eX [.int .i64 x.division.members,.slice ad0 x.division.ayes.e0.length cap0,.slice ad1 x.division.ayes.e1.length cap1,.slice PZ x.division.noes.e0.length cap2,.slice ad3 x.division.noes.e1.length cap3,.slice ad4 x.division.pairs.length cap4,.slice ad5 x.division.proxies.length cap5,.int .u8 x.division.rule,.int .i64 x.division.need,.int .i64 x.division.quorum,.int .u8 x.division.tie] (bC x.paired)) (iL hs6 x.may))∧Sl (aG (bX .i64)) 1 H ad0 cap0 x.division.ayes.e0∧Sl (aG (bX .i64)) 1 H ad1 cap1 x.division.ayes.e1∧Sl (aG (bX .i64)) 1 H PZ cap2 x.division.noes.e0∧Sl (aG (bX .i64)) 1 H ad3 cap3 x.division.noes.e1∧Sl (aG eM) 2 H ad4 cap4 x.division.pairs∧Sl (aG eH) 2 H ad5 cap5 x.division.proxies∧kH (aG cE) 1 40 H hs6 x.may
theorem eY.mono:hD eY:=fun _ _ _ _ hk ⟨a0,c0,a1,c1,a2,c2,a3,c3,a4,c4,a5,c5,s6,h,f0,f1,f2,f3,f4,f5,f6⟩=>⟨a0,c0,a1,c1,a2,c2,a3,c3,a4,c4,a5,c5,s6,h,f0.mono (aG.mono _) hk,f1.mono (aG.mono _) hk,f2.mono (aG.mono _) hk,f3.mono (aG.mono _) hk,f4.mono (aG.mono _) hk,f5.mono (aG.mono _) hk,f6.mono (aG.mono _) hk⟩
structure aZ where
 e0:Int
 e1:Int
 e2:Int
 e3:Int
 e4:Int
 e5:Int
 e6:Int
 e7:Int
 e8:Int
 e9:Int
 e10:Int
 e11:Int
 e12:Int
 e13:Int
 e14:Int
 e15:Int
 e16:Int
 e17:Int
 e18:Int
 e19:Int
 e20:Int
 e21:Int
 e22:Int
 e23:Int
 e24:Int
 e25:Int
 e26:Int
 e27:Int
 e28:Int
 e29:Int
 e30:Int
 e31:Int
 e32:Int
 e33:Int
 e34:Int
 e35:Int
 e36:Int
 e37:Int
 e38:Int
 e39:Int
 deriving Inhabited
def bV (x:aZ):List Value:=[.int .u8 x.e0,.int .u8 x.e1,.int .u8 x.e2,.int .u8 x.e3,.int .u8 x.e4,.int .u8 x.e5,.int .u8 x.e6,.int .u8 x.e7,.int .u8 x.e8,.int .u8 x.e9,.int .u8 x.e10,.int .u8 x.e11,.int .u8 x.e12,.int .u8 x.e13,.int .u8 x.e14,.int .u8 x.e15,.int .u8 x.e16,.int .u8 x.e17,.int .u8 x.e18,.int .u8 x.e19,.int .u8 x.e20,.int .u8 x.e21,.int .u8 x.e22,.int .u8 x.e23,.int .u8 x.e24,.int .u8 x.e25,.int .u8 x.e26,.int .u8 x.e27,.int .u8 x.e28,.int .u8 x.e29,.int .u8 x.e30,.int .u8 x.e31,.int .u8 x.e32,.int .u8 x.e33,.int .u8 x.e34,.int .u8 x.e35,.int .u8 x.e36,.int .u8 x.e37,.int .u8 x.e38,.int .u8 x.e39]
def aZ.vals (x:aZ):List Int:=[x.e0,x.e1,x.e2,x.e3,x.e4,x.e5,x.e6,x.e7,x.e8,x.e9,x.e10,x.e11,x.e12,x.e13,x.e14,x.e15,x.e16,x.e17,x.e18,x.e19,x.e20,x.e21,x.e22,x.e23,x.e24,x.e25,x.e26,x.e27,x.e28,x.e29,x.e30,x.e31,x.e32,x.e33,x.e34,x.e35,x.e36,x.e37,x.e38,x.e39]
def aZ.get (x:aZ) (j:Nat):Int:=x.vals.getD j default
def aZ.set (x:aZ) (j:Nat) (v:Int):aZ:=⟨if j=0 then v else x.e0,if j=1 then v else x.e1,if j=2 then v else x.e2,if j=3 then v else x.e3,if j=4 then v else x.e4,if j=5 then v else x.e5,if j=6 then v else x.e6,if j=7 then v else x.e7,if j=8 then v else x.e8,if j=9 then v else x.e9,if j=10 then v else x.e10,if j=11 then v else x.e11,if j=12 then v else x.e12,if j=13 then v else x.e13,if j=14 then v else x.e14,if j=15 then v else x.e15,if j=16 then v else x.e16,if j=17 then v else x.e17,if j=18 then v else x.e18,if j=19 then v else x.e19,if j=20 then v else x.e20,if j=21 then v else x.e21,if j=22 then v else x.e22,if j=23 then v else x.e23,if j=24 then v else x.e24,if j=25 then v else x.e25,if j=26 then v else x.e26,if j=27 then v else x.e27,if j=28 then v else x.e28,if j=29 then v else x.e29,if j=30 then v else x.e30,if j=31 then v else x.e31,if j=32 then v else x.e32,if j=33 then v else x.e33,if j=34 then v else x.e34,if j=35 then v else x.e35,if j=36 then v else x.e36,if j=37 then v else x.e37,if j=38 then v else x.e38,if j=39 then v else x.e39⟩
def aZ.zero:aZ:=⟨0,0,0,0,0,0,0,0,0,0,0,0,0,0,0,0,0,0,0,0,0,0,0,0,0,0,0,0,0,0,0,0,0,0,0,0,0,0,0,0⟩
theorem aZ.vset (x:aZ) (v:Int):∀ (j:Nat),j < 40→(x.set j v).vals=x.vals.set j v
 | 0,_=>rfl
 | 1,_=>rfl
 | 2,_=>rfl
 | 3,_=>rfl
 | 4,_=>rfl
 | 5,_=>rfl
 | 6,_=>rfl
 | 7,_=>rfl
 | 8,_=>rfl
 | 9,_=>rfl
 | 10,_=>rfl
 | 11,_=>rfl
 | 12,_=>rfl
 | 13,_=>rfl
 | 14,_=>rfl
 | 15,_=>rfl
 | 16,_=>rfl
 | 17,_=>rfl
 | 18,_=>rfl
 | 19,_=>rfl
 | 20,_=>rfl
 | 21,_=>rfl
 | 22,_=>rfl
 | 23,_=>rfl
 | 24,_=>rfl
 | 25,_=>rfl
 | 26,_=>rfl
 | 27,_=>rfl
 | 28,_=>rfl
 | 29,_=>rfl
 | 30,_=>rfl
 | 31,_=>rfl
 | 32,_=>rfl
 | 33,_=>rfl
 | 34,_=>rfl
 | 35,_=>rfl
 | 36,_=>rfl
 | 37,_=>rfl
 | 38,_=>rfl
 | 39,_=>rfl
 | n+40,h=>absurd h (by omega)
theorem aZ.em (x:aZ):bV x=x.vals.map (fun v=>Value.int .u8 v):=rfl
theorem aZ.st {x:aZ} {j:Nat} {v:Int} (h:j < 40):(bV x).set j (Value.int .u8 v)=bV (x.set j v):=by rw [aZ.em,aZ.em,aZ.vset x v j h,List.map_set]
theorem aZ.at {x:aZ} {j:Nat} (h:j < 40):(bV x)[j]?=some (Value.int .u8 (x.get j)):=by
 have h2:x.vals[j]?=some (x.get j):=by unfold aZ.get;rw [List.getD_eq_getElem?_getD,List.getElem?_eq_getElem (show j < x.vals.length from h)];rfl
 rw [aZ.em,List.getElem?_map,h2];rfl
structure bH where
 number:Int
 index:Int
 deriving DecidableEq,Inhabited
def cA (x:bH):List Value:=[.int .i64 x.number,.int .i64 x.index]
structure cQ where
 many:Int
 text:Bool
 do_:Option Nat
 deriving DecidableEq,Inhabited
def dZ (x:cQ):List Value:=[.int .i64 x.many,.bool x.text,rU x.do_]
structure dH where
 e0:Int
 e1:Int
 e2:Int
 e3:Int
 e4:Int
 e5:Int
 deriving Inhabited
def fV (x:dH):List Value:=[.int .u8 x.e0,.int .u8 x.e1,.int .u8 x.e2,.int .u8 x.e3,.int .u8 x.e4,.int .u8 x.e5]
def dH.vals (x:dH):List Int:=[x.e0,x.e1,x.e2,x.e3,x.e4,x.e5]
def dH.get (x:dH) (j:Nat):Int:=x.vals.getD j default
def dH.set (x:dH) (j:Nat) (v:Int):dH:=⟨if j=0 then v else x.e0,if j=1 then v else x.e1,if j=2 then v else x.e2,if j=3 then v else x.e3,if j=4 then v else x.e4,if j=5 then v else x.e5⟩
def dH.zero:dH:=⟨0,0,0,0,0,0⟩
theorem dH.vset (x:dH) (v:Int):∀ (j:Nat),j < 6→(x.set j v).vals=x.vals.set j v
 | 0,_=>rfl
 | 1,_=>rfl
 | 2,_=>rfl
 | 3,_=>rfl
 | 4,_=>rfl
 | 5,_=>rfl
 | n+6,h=>absurd h (by omega)
theorem dH.em (x:dH):fV x=x.vals.map (fun v=>Value.int .u8 v):=rfl
theorem dH.st {x:dH} {j:Nat} {v:Int} (h:j < 6):(fV x).set j (Value.int .u8 v)=fV (x.set j v):=by rw [dH.em,dH.em,dH.vset x v j h,List.map_set]
theorem dH.at {x:dH} {j:Nat} (h:j < 6):(fV x)[j]?=some (Value.int .u8 (x.get j)):=by
 have h2:x.vals[j]?=some (x.get j):=by unfold dH.get;rw [List.getD_eq_getElem?_getD,List.getElem?_eq_getElem (show j < x.vals.length from h)];rfl
 rw [dH.em,List.getElem?_map,h2];rfl
structure EZ where
 e0:Int
 e1:Int
 e2:Int
 deriving DecidableEq,Inhabited
structure gE where
 style:Int
 numbers:EZ
 deriving DecidableEq,Inhabited
def cW (x:gE):List Value:=[.int .u8 x.style,.int .i64 x.numbers.e0,.int .i64 x.numbers.e1,.int .i64 x.numbers.e2]
theorem mixed:prog.follows .mixedOrders=true:=by kernel_rfl
theorem B27:dI prog 27 [.int .i64 0,.int .i64 0,.int .i64 0,.int .i64 0,.slice none 0 0] #[(0,1),(1,1),(2,1),(3,1),(4,1)]:=⟨⟨.agg #[.int .i64 0,.int .i64 0,.int .i64 0,.int .i64 0,.slice none 0 0],rfl,zeroValue27⟩,⟨_,underlying27,fun _=>by kernel_rfl⟩⟩
theorem B32:dI prog 32 [.slice none 0 0,.slice none 0 0] #[(0,1),(1,1)]:=⟨⟨.agg #[.slice none 0 0,.slice none 0 0],rfl,zeroValue32⟩,⟨_,underlying32,fun _=>by kernel_rfl⟩⟩
theorem B38:dI prog 38 [.int .i64 0,.slice none 0 0,.slice none 0 0,.slice none 0 0,.slice none 0 0,.slice none 0 0,.slice none 0 0,.int .u8 0,.int .i64 0,.int .i64 0,.int .u8 0] #[(0,1),(1,2),(3,2),(5,1),(6,1),(7,1),(8,1),(9,1),(10,1)]:=⟨⟨.agg #[.int .i64 0,.slice none 0 0,.slice none 0 0,.slice none 0 0,.slice none 0 0,.slice none 0 0,.slice none 0 0,.int .u8 0,.int .i64 0,.int .i64 0,.int .u8 0],rfl,zeroValue38⟩,⟨_,underlying38,fun _=>by kernel_rfl⟩⟩
theorem B41:dI prog 41 [.int .i64 0,.int .i64 0,.int .i64 0,.int .i64 0,.int .i64 0,.int .i64 0,.slice none 0 0,.bool false,.slice none 0 0,.slice none 0 0,.slice none 0 0,.slice none 0 0,.slice none 0 0,.bool false,.slice none 0 0,.int .i64 0,.slice none 0 0,.slice none 0 0,.slice none 0 0,.slice none 0 0,.slice none 0 0,.slice none 0 0,.int .u8 0,.int .i64 0,.int .i64 0,.int .u8 0,.bool false,.slice none 0 0] #[(0,1),(1,1),(2,5),(7,1),(8,1),(9,1),(10,1),(11,2),(13,1),(14,1),(15,11),(26,1),(27,1)]:=⟨⟨.agg #[.int .i64 0,.int .i64 0,.int .i64 0,.int .i64 0,.int .i64 0,.int .i64 0,.slice none 0 0,.bool false,.slice none 0 0,.slice none 0 0,.slice none 0 0,.slice none 0 0,.slice none 0 0,.bool false,.slice none 0 0,.int .i64 0,.slice none 0 0,.slice none 0 0,.slice none 0 0,.slice none 0 0,.slice none 0 0,.slice none 0 0,.int .u8 0,.int .i64 0,.int .i64 0,.int .u8 0,.bool false,.slice none 0 0],rfl,zeroValue41⟩,⟨_,underlying41,fun _=>by kernel_rfl⟩⟩
theorem B51:dI prog 51 [.int .i64 0,.int .i64 0,.int .i64 0,.int .i64 0] #[(0,1),(1,1),(2,1),(3,1)]:=⟨⟨.agg #[.int .i64 0,.int .i64 0,.int .i64 0,.int .i64 0],rfl,zeroValue51⟩,⟨_,underlying51,fun _=>by kernel_rfl⟩⟩
theorem B62:dI prog 62 [.int .i64 0,.int .i64 0,.int .i64 0] #[(0,1),(1,1),(2,1)]:=⟨⟨.agg #[.int .i64 0,.int .i64 0,.int .i64 0],rfl,zeroValue62⟩,⟨_,underlying62,fun _=>by kernel_rfl⟩⟩
theorem B77:dI prog 77 [.int .i64 0,.int .i64 0,.int .i64 0,.int .i64 0,.int .i64 0,.int .i64 0,.slice none 0 0,.bool false,.slice none 0 0,.slice none 0 0,.slice none 0 0,.slice none 0 0,.slice none 0 0,.bool false,.slice none 0 0,.int .i64 0,.slice none 0 0,.slice none 0 0,.slice none 0 0,.slice none 0 0,.slice none 0 0,.slice none 0 0,.int .u8 0,.int .i64 0,.int .i64 0,.int .u8 0,.bool false,.slice none 0 0] #[(0,28)]:=⟨⟨.agg #[.int .i64 0,.int .i64 0,.int .i64 0,.int .i64 0,.int .i64 0,.int .i64 0,.slice none 0 0,.bool false,.slice none 0 0,.slice none 0 0,.slice none 0 0,.slice none 0 0,.slice none 0 0,.bool false,.slice none 0 0,.int .i64 0,.slice none 0 0,.slice none 0 0,.slice none 0 0,.slice none 0 0,.slice none 0 0,.slice none 0 0,.int .u8 0,.int .i64 0,.int .i64 0,.int .u8 0,.bool false,.slice none 0 0],rfl,zeroValue77⟩,⟨_,underlying77,fun _=>by kernel_rfl⟩⟩
theorem B82:dI prog 82 [.int .i64 0,.int .i64 0,.int .i64 0,.int .i64 0,.int .i64 0,.int .i64 0] #[(0,4),(4,1),(5,1)]:=⟨⟨.agg #[.int .i64 0,.int .i64 0,.int .i64 0,.int .i64 0,.int .i64 0,.int .i64 0],rfl,zeroValue82⟩,⟨_,underlying82,fun _=>by kernel_rfl⟩⟩
theorem B83:pU prog 83 3 [.int .i64 0,.int .i64 0,.int .i64 0] 1:=⟨⟨.agg #[.int .i64 0,.int .i64 0,.int .i64 0],rfl,zeroValue83⟩,⟨_,underlying83⟩,sizeOf3⟩
theorem B85:dI prog 85 [.int .u8 0,.int .i64 0,.int .i64 0,.int .i64 0] #[(0,1),(1,3)]:=⟨⟨.agg #[.int .u8 0,.int .i64 0,.int .i64 0,.int .i64 0],rfl,zeroValue85⟩,⟨_,underlying85,fun _=>by kernel_rfl⟩⟩
theorem B98:dI prog 98 [.int .i64 0,.string (bs [])] #[(0,1),(1,1)]:=⟨⟨.agg #[.int .i64 0,.string (bs [])],rfl,zeroValue98⟩,⟨_,underlying98,fun _=>by kernel_rfl⟩⟩
theorem B119:dI prog 119 [.int .i64 0,.int .i64 0,.int .u8 0,.int .i64 0,.string (bs []),.int .i64 0] #[(0,1),(1,1),(2,1),(3,1),(4,1),(5,1)]:=⟨⟨.agg #[.int .i64 0,.int .i64 0,.int .u8 0,.int .i64 0,.string (bs []),.int .i64 0],rfl,zeroValue119⟩,⟨_,underlying119,fun _=>by kernel_rfl⟩⟩
theorem B127:dI prog 127 [.int .i64 0,.int .i64 0,.int .i64 0,.int .i64 0,.slice none 0 0,.slice none 0 0] #[(0,5),(5,1)]:=⟨⟨.agg #[.int .i64 0,.int .i64 0,.int .i64 0,.int .i64 0,.slice none 0 0,.slice none 0 0],rfl,zeroValue127⟩,⟨_,underlying127,fun _=>by kernel_rfl⟩⟩
theorem B130:dI prog 130 [.int .i64 0,.string (bs []),.bool false] #[(0,2),(2,1)]:=⟨⟨.agg #[.int .i64 0,.string (bs []),.bool false],rfl,zeroValue130⟩,⟨_,underlying130,fun _=>by kernel_rfl⟩⟩
theorem B132:dI prog 132 [.int .i64 0,.slice none 0 0] #[(0,1),(1,1)]:=⟨⟨.agg #[.int .i64 0,.slice none 0 0],rfl,zeroValue132⟩,⟨_,underlying132,fun _=>by kernel_rfl⟩⟩
theorem B134:dI prog 134 [.string (bs [])] #[(0,1)]:=⟨⟨.agg #[.string (bs [])],rfl,zeroValue134⟩,⟨_,underlying134,fun _=>by kernel_rfl⟩⟩
theorem B155:dI prog 155 [.int .i64 0] #[(0,1)]:=⟨⟨.agg #[.int .i64 0],rfl,zeroValue155⟩,⟨_,underlying155,fun _=>by kernel_rfl⟩⟩
theorem B160:dI prog 160 [.int .i64 0,.bool false,.nilFunc] #[(0,1),(1,1),(2,1)]:=⟨⟨.agg #[.int .i64 0,.bool false,.nilFunc],rfl,zeroValue160⟩,⟨_,underlying160,fun _=>by kernel_rfl⟩⟩
theorem B171:dI prog 171 [.nilFunc] #[(0,1)]:=⟨⟨.agg #[.nilFunc],rfl,zeroValue171⟩,⟨_,underlying171,fun _=>by kernel_rfl⟩⟩
theorem B227:dI prog 227 [.int .i64 0,.int .i64 0] #[(0,1),(1,1)]:=⟨⟨.agg #[.int .i64 0,.int .i64 0],rfl,zeroValue227⟩,⟨_,underlying227,fun _=>by kernel_rfl⟩⟩
theorem B234:dI prog 234 [.int .i64 0,.int .i64 0,.int .i64 0,.int .i64 0,.slice none 0 0] #[(0,1),(1,1),(2,1),(3,1),(4,1)]:=⟨⟨.agg #[.int .i64 0,.int .i64 0,.int .i64 0,.int .i64 0,.slice none 0 0],rfl,zeroValue234⟩,⟨_,underlying234,fun _=>by kernel_rfl⟩⟩
theorem B271:dI prog 271 (eX (eX [.int .i64 0,.slice none 0 0,.slice none 0 0,.slice none 0 0,.slice none 0 0,.slice none 0 0,.slice none 0 0,.int .u8 0,.int .i64 0,.int .i64 0,.int .u8 0] (bC bD.zero)) (iL (List.replicate 40 ((none,0):fR)) (List.replicate 40 ([]:List UInt8)))) #[(0,11),(11,40),(51,40)]:=⟨⟨.agg (eX (eX [.int .i64 0,.slice none 0 0,.slice none 0 0,.slice none 0 0,.slice none 0 0,.slice none 0 0,.slice none 0 0,.int .u8 0,.int .i64 0,.int .i64 0,.int .u8 0] (bC bD.zero)) (iL (List.replicate 40 ((none,0):fR)) (List.replicate 40 ([]:List UInt8)))).toArray,rfl,zeroValue271⟩,⟨_,underlying271,fun _=>by kernel_rfl⟩⟩
theorem B278:pU prog 278 5 (bV aZ.zero) 1:=⟨⟨.agg (bV aZ.zero).toArray,rfl,zeroValue278⟩,⟨_,underlying278⟩,sizeOf5⟩
theorem B292:dI prog 292 [.int .i64 0,.nilFunc] #[(0,1),(1,1)]:=⟨⟨.agg #[.int .i64 0,.nilFunc],rfl,zeroValue292⟩,⟨_,underlying292,fun _=>by kernel_rfl⟩⟩
theorem B298:dI prog 298 [.int .i64 0,.int .i64 0] #[(0,1),(1,1)]:=⟨⟨.agg #[.int .i64 0,.int .i64 0],rfl,zeroValue298⟩,⟨_,underlying298,fun _=>by kernel_rfl⟩⟩
theorem B332:dI prog 332 [.nilFunc] #[(0,1)]:=⟨⟨.agg #[.nilFunc],rfl,zeroValue332⟩,⟨_,underlying332,fun _=>by kernel_rfl⟩⟩
theorem E22:dF prog 22 9 [.string (bs [])] 1 16:=⟨underlying22,⟨_,.string (bs []),dW type9,rfl,rfl,rfl,rfl⟩,rfl,by decide⟩
theorem E25:dF prog 25 132 [.int .i64 0,.slice none 0 0] 2 32:=⟨underlying25,⟨_,.agg #[.int .i64 0,.slice none 0 0],dW type132,rfl,rfl,rfl,rfl⟩,rfl,by decide⟩
theorem E28:dF prog 28 119 [.int .i64 0,.int .i64 0,.int .u8 0,.int .i64 0,.string (bs []),.int .i64 0] 6 56:=⟨underlying28,⟨_,.agg #[.int .i64 0,.int .i64 0,.int .u8 0,.int .i64 0,.string (bs []),.int .i64 0],dW type119,rfl,rfl,rfl,rfl⟩,rfl,by decide⟩
theorem E29:dF prog 29 62 [.int .i64 0,.int .i64 0,.int .i64 0] 3 24:=⟨underlying29,⟨_,.agg #[.int .i64 0,.int .i64 0,.int .i64 0],dW type62,rfl,rfl,rfl,rfl⟩,rfl,by decide⟩
theorem E30:dF prog 30 234 [.int .i64 0,.int .i64 0,.int .i64 0,.int .i64 0,.slice none 0 0] 5 56:=⟨underlying30,⟨_,.agg #[.int .i64 0,.int .i64 0,.int .i64 0,.int .i64 0,.slice none 0 0],dW type234,rfl,rfl,rfl,rfl⟩,rfl,by decide⟩
theorem E33:dF prog 33 3 [.int .i64 0] 1 8:=⟨underlying33,⟨_,.int .i64 0,dW type3,rfl,rfl,rfl,rfl⟩,rfl,by decide⟩
theorem E35:dF prog 35 227 [.int .i64 0,.int .i64 0] 2 16:=⟨underlying35,⟨_,.agg #[.int .i64 0,.int .i64 0],dW type227,rfl,rfl,rfl,rfl⟩,rfl,by decide⟩
theorem E39:dF prog 39 5 [.int .u8 0] 1 1:=⟨underlying39,⟨_,.int .u8 0,dW type5,rfl,rfl,rfl,rfl⟩,rfl,by decide⟩
theorem E42:dF prog 42 43 [.int .i64 0] 1 8:=⟨underlying42,⟨_,.int .i64 0,dW type43,rfl,rfl,rfl,rfl⟩,rfl,by decide⟩
theorem E47:dF prog 47 51 [.int .i64 0,.int .i64 0,.int .i64 0,.int .i64 0] 4 32:=⟨underlying47,⟨_,.agg #[.int .i64 0,.int .i64 0,.int .i64 0,.int .i64 0],dW type51,rfl,rfl,rfl,rfl⟩,rfl,by decide⟩
theorem E79:dF prog 79 82 [.int .i64 0,.int .i64 0,.int .i64 0,.int .i64 0,.int .i64 0,.int .i64 0] 6 48:=⟨underlying79,⟨_,.agg #[.int .i64 0,.int .i64 0,.int .i64 0,.int .i64 0,.int .i64 0,.int .i64 0],dW type82,rfl,rfl,rfl,rfl⟩,rfl,by decide⟩
theorem E91:dF prog 91 98 [.int .i64 0,.string (bs [])] 2 24:=⟨underlying91,⟨_,.agg #[.int .i64 0,.string (bs [])],dW type98,rfl,rfl,rfl,rfl⟩,rfl,by decide⟩
theorem E125:dF prog 125 128 [.slice none 0 0] 1 24:=⟨underlying125,⟨_,.slice none 0 0,dW type128,rfl,rfl,rfl,rfl⟩,rfl,by decide⟩
theorem E128:dF prog 128 130 [.int .i64 0,.string (bs []),.bool false] 3 32:=⟨underlying128,⟨_,.agg #[.int .i64 0,.string (bs []),.bool false],dW type130,rfl,rfl,rfl,rfl⟩,rfl,by decide⟩
theorem E172:dF prog 172 171 [.nilFunc] 1 8:=⟨underlying172,⟨_,.agg #[.nilFunc],dW type171,rfl,rfl,rfl,rfl⟩,rfl,by decide⟩
theorem E235:dF prog 235 298 [.int .i64 0,.int .i64 0] 2 16:=⟨underlying235,⟨_,.agg #[.int .i64 0,.int .i64 0],dW type298,rfl,rfl,rfl,rfl⟩,rfl,by decide⟩
theorem E288:dF prog 288 292 [.int .i64 0,.nilFunc] 2 16:=⟨underlying288,⟨_,.agg #[.int .i64 0,.nilFunc],dW type292,rfl,rfl,rfl,rfl⟩,rfl,by decide⟩
theorem E326:dF prog 326 20 [.nilIface] 1 16:=⟨underlying326,⟨_,.nilIface,dW type20,rfl,rfl,rfl,rfl⟩,rfl,by decide⟩
theorem E333:dF prog 333 332 [.nilFunc] 1 8:=⟨underlying333,⟨_,.agg #[.nilFunc],dW type332,rfl,rfl,rfl,rfl⟩,rfl,by decide⟩
theorem Q51:PJ prog 51 jD:=⟨fun x y w=>by
 have h0:prog.underlying 51=some (.struct (prog.fieldsOf 51)):=by kernel_rfl
 rw [run_equalIn_struct w 9999 51 _ _ h0 (by kernel_rfl)];simp only [Program.fieldsOf,underlying51];have e:(x=y)=(x.anchor=y.anchor∧x.column=y.column∧x.line=y.line∧x.lines=y.lines):=by cases x;cases y;simp
 simp only [e];simp [Op.eqFields,jD,part,isAgg3,JY underlying3,JY underlying3,JY underlying3,JY underlying3]
 by_cases h0:x.anchor=y.anchor <;> by_cases h1:x.column=y.column <;> by_cases h2:x.line=y.line <;> by_cases h3:x.lines=y.lines <;> simp [h0,h1,h2,h3],by kernel_rfl⟩
end T12
namespace Go.Proofs
open Go Go.Shelf Go.RowKit Pk
theorem mV {w:World} {q:Addr} {vs:List Value} (h:aM (hp w) q vs) (hv:0 < vs.length):∃ cs t z,w.heap[q.block]?=some (.cells cs t z)∧cs.size≠0:=by
 obtain ⟨c,t,z,h3,h4⟩:=h.2 0 _ (List.getElem?_eq_getElem hv);refine ⟨c,t,z,h3,fun h0=>?_⟩;have:=(Array.getElem?_eq_some_iff.1 h4).1;omega
theorem mW {P:Program} (w:World) (tS tR e:TypeId) (ht:P.underlying tS=some (.slice e)) (size:Nat) (hz:∀ w,(Go.sizeOf e).run P w=.ok size w) (a b:Addr) (la ca lb cb:Nat) (hne:a.block≠b.block)
  {ca':Array Value} {ta:TypeId} {za:Nat×Nat} (ha:w.heap[a.block]?=some (.cells ca' ta za)) (ha0:ca'.size≠0) {cur:Array Value} {te:TypeId} (hb:w.heap[b.block]?=some (.cells cur te (0,0))) (hc:cur.size≠0) :
  (Extern.SlicesOverlaps.overlaps #[tS,tS] #[tR] #[.slice (some a) la ca,.slice (some b) lb cb]).run P w=.ok (.bool false) w:=by
 have hnb:(a.block != b.block)=true:=by simpa using hne
 have hnb':(a.block==b.block)=false:=by simpa using hne
 have hf:∀ x:Addr,x.block=b.block→w.frozen? x=false:=fun x hx=>by simp [World.frozen?,hx,hb]
 have hsb:w.shape? b.block=some (te,cur.size):=by simp [World.shape?,hb]
 have hva:w.shape? a.block=some (ta,ca'.size):=by simp [World.shape?,ha]
 change Sem.run P (α:=Value) (do
  let some t := (#[tS, tS] : Array TypeId)[0]? | stuck "slices.overlaps: no parameter types"
  let .slice elem ← underlying t | stuck "slices.overlaps: slice type expected"
  let size ← sizeOf elem
  match (some a:Option Addr),(some b:Option Addr) with
  | some a,some b =>
   if la=0∨lb=0∨size=0 then pure (Value.bool false)
   else if a.block != b.block&&(← frozen a)&&(← frozen b) then unsupported .addressObserved
   else do
    if a.block != b.block then do
     noView a;noView b
     if ← mayBeOne a b then return Value.bool ((← choose (.extern "sameAddr.stringBytes" 2)) == 1)
    pure (Value.bool (a.block==b.block&&a.off < b.off+lb*size&&b.off < a.off+la*size))
  | _,_=>pure (Value.bool false)) w=_
 by_cases h0:la=0∨lb=0∨size=0
 ·simp [run_underlying ht,hz,h0]
 have e1:=hf b rfl;have e2:=hf { block:=b.block,off:=cur.size } rfl;have e3:(match some (te,cur.size) with | some (_,0)=>true | _=>false)=false:=by
  cases h:cur.size with
  | zero=>exact absurd h hc
  | succ n=>rfl
 have e4:(match some (ta,ca'.size) with | some (_,0)=>true | _=>false)=false:=by
  cases h:ca'.size with
  | zero=>exact absurd h ha0
  | succ n=>rfl
 cases hfa:w.frozen? a <;> cases hfe:w.frozen? { block:=a.block,off:=ca'.size } <;>
  simp [run_underlying ht,hz,h0,hnb,hnb',frozen,noView,viewAt,mayBeOne,stringish,shape,Sem.run,hva,hsb,e1,e2,hfa,hfe,hc,e4,ha0]
theorem gQ {P:Program} (w:World) (t ty el k:Nat) (hu:P.underlying t=some (.slice el)) (hz:∀ w,(Go.sizeOf el).run P w=.ok k w) (b o dLen dCap:Nat) (a:Addr) (sLen sCap:Nat) (cs:List Value) {cur:Array Value} {te:TypeId} (hb:w.heap[b]?=some (.cells cur te (0,0)))
  (hn:cs.length=Nat.min sLen dLen*k) (hsrc:∀ j v,cs[j]?=some v→w.cell? (a.add j)=some v) (hfit:o+cs.length≤cur.size) (h1:∀ v∈cs,v.oneCell'=true) :
  (Builtin.copy_ #[t,t] ty #[.slice (some ⟨b,o,none⟩) dLen dCap,.slice (some a) sLen sCap]).run P w=.ok (goInt (Nat.min sLen dLen)) (w.setRow b (cur.toList.take o++cs++cur.toList.drop (o+cs.length)).toArray):=by
 have hl:=run_loadCells_list (P:=P) (w:=w) a cs hsrc;have hst:=run_storeCells_at P b o te cs 0 cur w hb (by simpa using hfit) h1;rw [hn] at hl;simp [Builtin.copy_,run_underlying hu,Builtin.lenOf,Builtin.firstCells,hz,hl];simp at hst;rw [hst];rfl
set_option maxHeartbeats 4000000 in
set_option maxRecDepth 100000 in
theorem Tryz.ins_end {w:World} {ad:Option Addr} {cap nn:Nat} {cs:List Value} {q:Addr} {vcap:Nat} {vs:List Value} (hr:(aP.row ad cap 130 3 nn cs).holds w) (hb:nn+1≤1073741824) (hv:aM (hp w) q vs) (hvl:vs.length=3) (h1:vs.all (·.oneCell')=true) :
  Calls Tryz.prog 112 #[.slice ad nn cap,.int .i64 nn,.slice (some q) 1 vcap] w fun e w'=>∃ ad' cap',e=.returned (.slice ad' (nn+1) cap')∧(aP.row ad' cap' 130 3 (nn+1) (cs++vs)).holds w'∧kN w w' (ad.map (·.block))∧∀ b,ad'.map (·.block)=some b→ad.map (·.block)=some b∨w.heap.size≤b:=by
 obtain ⟨ad',cap',w',hrun,hh,hg,hf⟩:=lZ (P:=Tryz.prog) 128 T12.E128 hr (sad:=some q) (m:=1) (c:=vcap) (news:=vs) ⟨by omega,h1,.inr ⟨q,rfl,hv⟩⟩ (by unfold maxLen;omega) (by omega);have hd:=nL _ hrun;have hcap:=(jJ hr).2;refine Calls.mono (R:=fun e w''=>e=.returned (.slice ad' (nn+1) cap')∧w''=w') ?_ fun e w'' hw=>by
  obtain ⟨rfl,rfl⟩:=hw;exact ⟨ad',cap',rfl,hh,⟨hg,hd⟩,hf⟩
 clear hf hh hg hd hr hv h1;by_cases hc:cap=nn
 ·subst hc
  go_enter Tryz.func112,Tryz.ntmps112
  go_wp2_with (at_builtin;refine Lib.wpList_append_run _ rfl _ _ _ _ rfl _ _ rfl rfl _ _ hrun ?_)
  go_ret
  exact ⟨rfl,rfl⟩
 go_enter Tryz.func112,Tryz.ntmps112
 go_wp2_with (at_builtin;refine Lib.wpList_append_run _ rfl _ _ _ _ rfl _ _ rfl rfl _ _ hrun ?_)
 go_ret
 exact ⟨rfl,rfl⟩
theorem gV {w:World} {b:Nat} {cur:Array Value} {t:TypeId} {z:Nat×Nat} (h:w.heap[b]?=some (.cells cur t z)) {j:Nat} {v:Value} (hv:cur.toList[j]?=some v):w.cell? ⟨b,j,none⟩=some v:=by
 rw [Array.getElem?_toList] at hv;simp [World.cell?,h,hv]
theorem jX (b o i:Nat):(⟨b,o,none⟩:Addr).add i=⟨b,o+i,none⟩:=dL (ad:=⟨b,o,none⟩) rfl i
set_option maxHeartbeats 4000000 in
set_option maxRecDepth 100000 in
theorem Tryz.ins_room {w:World} {b cap nn j:Nat} {cs:List Value} {q:Addr} {vcap:Nat} {vs:List Value} {cur:Array Value} (hw:w.heap[b]?=some (.cells cur 130 (0,0))) (hcs:cur.size=cap*3) (ht:cur.toList.take (nn*3)=cs) (hcm:cap≤9223372036854775807) (hj:j < nn) (hroom:nn+1≤cap) (hb:nn+1≤1073741824) (hv:aM (hp w) q vs) (hvl:vs.length=3) (h1:vs.all (·.oneCell')=true) (h2:cs.all (·.oneCell')=true) (hne:b≠q.block) :
  Calls Tryz.prog 112 #[.slice (some ⟨b,0,none⟩) nn cap,.int .i64 j,.slice (some q) 1 vcap] w fun e w'=>e=.returned (.slice (some ⟨b,0,none⟩) (nn+1) cap)∧w'=(w.drew.setRow b (cur.toList.take ((j+1)*3)++cs.drop (j*3)++cur.toList.drop ((nn+1)*3)).toArray).setRow b (cs.take (j*3)++vs++cs.drop (j*3)++cur.toList.drop ((nn+1)*3)).toArray:=by
 obtain ⟨c0,t0,z0,hq0,hq1⟩:=mV hv (by omega);have hcl:cs.length=nn*3:=by rw [← ht,List.length_take,Array.length_toList,hcs];omega
 have hcur:cur.toList=cs++cur.toList.drop (nn*3):=by rw [← ht,List.take_append_drop]
 have hov:∀ lb cb,(callFunc 156 #[.slice (some q) 1 vcap,.slice (some ⟨b,(j+1)*3,none⟩) lb cb]).run Tryz.prog w=.ok (.value (.bool false)) w:=fun lb cb=>by
  rw [run_callFunc_extern Tryz.func156 (by kernel_rfl) (by kernel_rfl) (by kernel_rfl) (e:=Extern.SlicesOverlaps.overlaps #[128,128] #[4]) (by kernel_rfl),
   mW w 128 4 130 Tryz.underlying128 3 Tryz.sizeOf130 q ⟨b,(j+1)*3,none⟩ 1 vcap lb cb (fun e=>hne e.symm) hq0 hq1 hw (by omega)]
  rfl
 have hcp1:∀ ty dc sc,(Builtin.copy_ #[128,128] ty #[.slice (some ⟨b,(j+1)*3,none⟩) (nn - j) dc,.slice (some ⟨b,j*3,none⟩) (nn+1 - j) sc]).run Tryz.prog w.drew=.ok (goInt (Nat.min (nn+1 - j) (nn - j))) (w.drew.setRow b (cur.toList.take ((j+1)*3)++cs.drop (j*3)++cur.toList.drop ((nn+1)*3)).toArray):=fun ty dc sc=>by
  have hl:(cs.drop (j*3)).length=Nat.min (nn+1 - j) (nn - j)*3:=by
   rw [List.length_drop,hcl,show Nat.min (nn+1 - j) (nn - j)=nn - j by simp only [Nat.min_def];split <;> omega,Nat.sub_mul]
  have:=gQ (P:=Tryz.prog) w.drew 128 ty 130 3 Tryz.underlying128 Tryz.sizeOf130 b ((j+1)*3) (nn - j) dc ⟨b,j*3,none⟩ (nn+1 - j) sc (cs.drop (j*3)) (cur:=cur) hw hl (fun i v hi=>by
   rw [jX];refine gV (w:=w.drew) hw ?_;rw [hcur,List.getElem?_append_left (by rw [List.getElem?_drop] at hi;exact (List.getElem?_eq_some_iff.1 hi).1)]
   rwa [List.getElem?_drop] at hi) (by rw [List.length_drop,hcl,hcs];omega) (fun v hv=>List.all_eq_true.1 h2 v (List.mem_of_mem_drop hv))
  rw [this,show (j+1)*3+(cs.drop (j*3)).length=(nn+1)*3 by rw [List.length_drop,hcl];omega]
 obtain ⟨X1,hX1⟩:∃ X1:List Value,X1=cur.toList.take ((j+1)*3)++cs.drop (j*3)++cur.toList.drop ((nn+1)*3):=⟨_,rfl⟩;rw [← hX1] at hcp1 ⊢;obtain ⟨W1,hW1⟩:∃ W1,W1=w.drew.setRow b X1.toArray:=⟨_,rfl⟩;rw [← hW1] at hcp1 ⊢;have hw1:W1.heap[b]?=some (.cells X1.toArray 130 (0,0)):=by rw [hW1];exact setRow_heap w.drew b cur X1.toArray 130 (0,0) hw
 have hX1l:X1.length=cap*3:=by rw [hX1];simp only [List.length_append,List.length_take,List.length_drop,Array.length_toList,hcs,hcl];omega
 have hlen1:(cur.toList.take ((j+1)*3)).length=(j+1)*3:=by rw [List.length_take,Array.length_toList,hcs];omega
 have hcp2:∀ ty dc,(Builtin.copy_ #[128,128] ty #[.slice (some ⟨b,j*3,none⟩) (nn+1 - j) dc,.slice (some q) 1 vcap]).run Tryz.prog W1=.ok (goInt (Nat.min 1 (nn+1 - j))) (W1.setRow b (cs.take (j*3)++vs++cs.drop (j*3)++cur.toList.drop ((nn+1)*3)).toArray):=fun ty dc=>by
  have hm:Nat.min 1 (nn+1 - j)=1:=by simp only [Nat.min_def];split <;> omega
  have:=gQ (P:=Tryz.prog) W1 128 ty 130 3 Tryz.underlying128 Tryz.sizeOf130 b (j*3) (nn+1 - j) dc q 1 vcap vs (cur:=X1.toArray) hw1 (by rw [hvl,hm]) (fun i v hi=>by
   have h0:=hv.cell hi;have hsp:(q.add i).block=q.block:=by unfold Addr.add;split <;> rfl
   rw [hW1];unfold World.cell? at h0 ⊢;rw [show (w.drew.setRow b X1.toArray).heap[(q.add i).block]?=w.heap[(q.add i).block]? from setRow_other w.drew b _ _ (by rw [hsp];exact fun e=>hne e.symm)]
   exact h0) (by rw [hvl,List.size_toArray,hX1l];omega) (fun v hv=>List.all_eq_true.1 h1 v hv)
  rw [this,hvl];congr 3;have e1:X1.take (j*3)=cs.take (j*3):=by
   rw [hX1,List.append_assoc,List.take_append_of_le_length (by rw [hlen1];omega),List.take_take,show min (j*3) ((j+1)*3)=j*3 by omega,← ht,List.take_take,show min (j*3) (nn*3)=j*3 by omega]
  have e2:X1.drop (j*3+3)=cs.drop (j*3)++cur.toList.drop ((nn+1)*3):=by
   rw [hX1,show j*3+3=(j+1)*3 by omega,List.append_assoc,List.drop_append_of_le_length (by rw [hlen1];omega),List.drop_of_length_le (by rw [hlen1];omega),List.nil_append]
  simp only [List.toList_toArray,e1,e2,List.append_assoc]
 have hz2:¬((j:Int)=(nn:Int)):=by omega
 have hw2:IntKind.i64.wrap ((j:Int)+1)=(j:Int)+1:=by rw [IntKind.wrap_i64];omega
 have hw3:IntKind.i64.wrap ((nn:Int)+1)=(nn:Int)+1:=by rw [IntKind.wrap_i64];omega
 have htn:((j:Int)+1).toNat=j+1:=by omega
 have htn2:((nn:Int)+1).toNat=nn+1:=by omega
 have hb1:(0:Int)≤(j:Int)+1:=by omega
 have hb2:¬(cap=j+1):=by omega
 have hb4:¬(cap=j):=by omega
 have hb3:(j:Int)≤(nn:Int)+1:=by omega
 have hin:j≤nn:=by omega
 have hro:¬((cap:Int) < (nn:Int)+1):=by omega
 clear hX1 hcur ht;have mixed:=T12.mixed;clear hw1;subst hW1
 go_enter Tryz.func112,Tryz.ntmps112
 go_wp2_with (simp only [hov])
 go_region_law_o (refine step_copy_runI rfl _ _ 128 128 rfl _ _ (by simp [Act.eval,Act.put]) (by simp [Act.eval,Act.put]) (hcp1 _ _ _) ?_)
 go_wp2_with (at_builtin;refine wpList_copy_runI _ rfl _ _ 128 128 rfl _ _ rfl rfl (hcp2 _ _) ?_)
 go_ret
 exact ⟨rfl,by simp only [List.append_assoc]⟩
set_option maxHeartbeats 4000000 in
set_option maxRecDepth 100000 in
theorem Tryz.ins_grow {w:World} {b cap nn j:Nat} {cs:List Value} {q:Addr} {vcap:Nat} {vs:List Value} {cur:Array Value} (hw:w.heap[b]?=some (.cells cur 130 (0,0))) (hcs:cur.size=cap*3) (ht:cur.toList.take (nn*3)=cs) (hnc:nn≤cap) (hj:j < nn) (hroom:cap < nn+1) (hb:nn+1≤1073741824) (hv:aM (hp w) q vs) (hvl:vs.length=3) (h1:vs.all (·.oneCell')=true) (h2:cs.all (·.oneCell')=true) :
  Calls Tryz.prog 112 #[.slice (some ⟨b,0,none⟩) nn cap,.int .i64 j,.slice (some q) 1 vcap] w fun e w'=>∃ (G:Nat) (X:List Value),nn+1≤G∧G≤maxLen∧X.length=G*3∧X.take ((nn+1)*3)=cs.take (j*3)++vs++cs.drop (j*3)∧e=.returned (.slice (some ⟨w.heap.size,0,none⟩) (nn+1) G)∧∃ Y Z m,w'=(((w.alloc (.cells Y 130)).drewN m).setRow w.heap.size Z).setRow w.heap.size X.toArray:=by
 obtain ⟨i0,v0,hi0,hz0,hzv,hzs,hzb⟩:=T12.E128.info;have hzc:v0.cells.size=3:=by rw [gI,hzv];rfl
 have hcl:cs.length=nn*3:=by rw [← ht,List.length_take,Array.length_toList,hcs];omega
 have hcur:cur.toList=cs++cur.toList.drop (nn*3):=by rw [← ht,List.take_append_drop]
 have hold:(Builtin.firstCells i0.size j (.slice (some ⟨b,0,none⟩) j cap)).run Tryz.prog w.drew=.ok (cs.take (j*3)).toArray w.drew:=by
  rw [hzs];refine run_firstCells_some (w:=w.drew) 3 j ⟨b,0,none⟩ j cap (cs.take (j*3)) (by rw [List.length_take,hcl];omega) (fun i v hi=>?_);rw [jX,Nat.zero_add];refine gV (w:=w.drew) hw ?_;rw [List.getElem?_take] at hi
  split at hi
  ·rw [hcur,List.getElem?_append_left (by rw [hcl];omega)];exact hi
  cases hi
 have hik:j+(nn+1 - j)=nn+1:=by omega
 have hkk:(nn:Int)+1 - (j:Int)=((nn+1 - j:Nat):Int):=by omega
 obtain ⟨G,hG⟩:∃ G,G=grownCap w (nn+1) cap 130:=⟨_,rfl⟩;have hGn:nn+1≤G:=by rw [hG];exact grownCap_ge w _ _ _
 have hGm:G≤maxLen:=by rw [hG];exact grownCap_le_maxLen w (nn+1) cap 130 (by unfold maxLen;omega)
 obtain ⟨R,hR⟩:∃ R:Array Value,R=(cs.take (j*3)).toArray++Builtin.zeroCells v0.cells (nn+1 - j)++Builtin.zeroCells v0.cells (G - (nn+1)):=⟨_,rfl⟩;have hRs:R.size=G*3:=by
  rw [hR];simp only [Array.size_append,List.size_toArray,List.length_take,hcl,Builtin.zeroCells,Array.size_map,Array.size_range,hzc];omega
 have hRt:R.toList.take (j*3)=cs.take (j*3):=by
  rw [hR,Array.toList_append,Array.toList_append,List.append_assoc,List.take_append_of_le_length (by simp [hcl];omega)];simp only [List.toList_toArray,List.take_take,Nat.min_self]
 have hrz:∀ ty,(Builtin.append_ #[128,3] ty #[.slice (some ⟨b,0,none⟩) j cap,.int .i64 ((nn:Int)+1 - (j:Int))]).run Tryz.prog w=.ok (.slice (some ⟨w.heap.size,0,none⟩) (nn+1) G) (w.drew.alloc (.cells R 130)):=fun ty=>by
  have h:=Lib.run_append_grow_zeros w 128 3 ty 130 i0 _ .i64 .i64 Tryz.underlying128 Tryz.underlying3 hi0 hz0 (some ⟨b,0,none⟩) j cap (cs.take (j*3)) hold (nn+1 - j) (by omega) (by rw [hzs];decide) (by omega) (by omega) (by rw [hzb];omega) (by rw [hzb,hik];exact growslice_fits hroom (by omega));rw [hik] at h;rw [hkk,hR,hG];exact h
 have hN:(w.drew.alloc (.cells R 130)).heap[w.heap.size]?=some (.cells R 130 (0,0)):=dM w.drew _;have hbw:b < w.heap.size:=(Array.getElem?_eq_some_iff.1 hw).1;obtain ⟨X1,hX1⟩:∃ X1:List Value,X1=cs.take (j*3)++vs++R.toList.drop ((j+1)*3):=⟨_,rfl⟩;obtain ⟨X2,hX2⟩:∃ X2:List Value,X2=cs.take (j*3)++vs++cs.drop (j*3)++R.toList.drop ((nn+1)*3):=⟨_,rfl⟩;have hct:(cs.take (j*3)).length=j*3:=by rw [List.length_take,hcl];omega
 have hX1l:X1.length=G*3:=by rw [hX1];simp only [List.length_append,hct,hvl,List.length_drop,Array.length_toList,hRs];omega
 have hX2l:X2.length=G*3:=by rw [hX2];simp only [List.length_append,hct,hvl,List.length_drop,Array.length_toList,hRs,hcl];omega
 have hqn:∀ i,(q.add i).block=q.block:=fun i=>by unfold Addr.add;split <;> rfl
 obtain ⟨c0,t0,z0,hq0,_⟩:=mV hv (by omega);have hqw:q.block < w.heap.size:=(Array.getElem?_eq_some_iff.1 hq0).1;have hcpA:∀ (m:Nat) ty dc,(Builtin.copy_ #[128,128] ty #[.slice (some ⟨w.heap.size,j*3,none⟩) (nn+1 - j) dc,.slice (some q) 1 vcap]).run Tryz.prog ((w.alloc (.cells R 130)).drewN m)=.ok (goInt (Nat.min 1 (nn+1 - j))) (((w.alloc (.cells R 130)).drewN m).setRow w.heap.size X1.toArray):=fun m ty dc=>by
  have hm:Nat.min 1 (nn+1 - j)=1:=by simp only [Nat.min_def];split <;> omega
  have:=gQ (P:=Tryz.prog) ((w.alloc (.cells R 130)).drewN m) 128 ty 130 3 Tryz.underlying128 Tryz.sizeOf130 w.heap.size (j*3) (nn+1 - j) dc q 1 vcap vs (cur:=R) (te:=130) (dM w _) (by rw [hvl,hm]) (fun i v hi=>by
   have h0:=hv.cell hi;unfold World.cell? at h0 ⊢;rw [show ((w.alloc (.cells R 130)).drewN m).heap[(q.add i).block]?=w.heap[(q.add i).block]? from (fZ.alloc True w (.cells R 130)).keep _ (by rw [hqn];exact hqw)]
   exact h0) (by rw [hvl,hRs];omega) (fun v hv=>List.all_eq_true.1 h1 v hv)
  rw [this,hvl,hRt,hX1,show j*3+3=(j+1)*3 by omega]
 have hcpB:∀ (m:Nat) ty dc sc,(Builtin.copy_ #[128,128] ty #[.slice (some ⟨w.heap.size,(j+1)*3,none⟩) (nn - j) dc,.slice (some ⟨b,j*3,none⟩) (nn - j) sc]).run Tryz.prog (((w.alloc (.cells R 130)).drewN m).setRow w.heap.size X1.toArray)=.ok (goInt (Nat.min (nn - j) (nn - j))) ((((w.alloc (.cells R 130)).drewN m).setRow w.heap.size X1.toArray).setRow w.heap.size X2.toArray):=fun m ty dc sc=>by
  have hm:Nat.min (nn - j) (nn - j)=nn - j:=Nat.min_self _;have hl:(cs.drop (j*3)).length=Nat.min (nn - j) (nn - j)*3:=by rw [hm,List.length_drop,hcl,Nat.sub_mul]
  have:=gQ (P:=Tryz.prog) (((w.alloc (.cells R 130)).drewN m).setRow w.heap.size X1.toArray) 128 ty 130 3 Tryz.underlying128 Tryz.sizeOf130 w.heap.size ((j+1)*3) (nn - j) dc ⟨b,j*3,none⟩ (nn - j) sc (cs.drop (j*3)) (cur:=X1.toArray) (te:=130) (setRow_heap _ _ R X1.toArray 130 (0,0) (dM w _)) hl (fun i v hi=>by
   rw [jX];have hcell:w.cell? ⟨b,j*3+i,none⟩=some v:=by
    refine gV hw ?_;rw [hcur,List.getElem?_append_left (by rw [List.getElem?_drop] at hi;exact (List.getElem?_eq_some_iff.1 hi).1)]
    rwa [List.getElem?_drop] at hi
   unfold World.cell? at hcell ⊢;rw [show (((w.alloc (.cells R 130)).drewN m).setRow w.heap.size X1.toArray).heap[(⟨b,j*3+i,none⟩:Addr).block]?=w.heap[(⟨b,j*3+i,none⟩:Addr).block]? from (setRow_other _ _ _ _ (by show b≠w.heap.size;omega)).trans ((fZ.alloc True w (.cells R 130)).keep _ hbw)]
   exact hcell) (by rw [List.length_drop,hcl,List.size_toArray,hX1l];omega) (fun v hv=>List.all_eq_true.1 h2 v (List.mem_of_mem_drop hv))
  rw [this,show (j+1)*3+(cs.drop (j*3)).length=(nn+1)*3 by rw [List.length_drop,hcl];omega];congr 3;have e1:X1.take ((j+1)*3)=cs.take (j*3)++vs:=by
   rw [hX1,List.take_append_of_le_length (by rw [List.length_append,hct,hvl];omega),List.take_of_length_le (by rw [List.length_append,hct,hvl];omega)]
  have e2:X1.drop ((nn+1)*3)=R.toList.drop ((nn+1)*3):=by
   rw [hX1,List.drop_append,List.drop_of_length_le (by rw [List.length_append,hct,hvl];omega),List.nil_append,List.drop_drop,List.length_append,hct,hvl,show (j+1)*3+((nn+1)*3 - (j*3+3))=(nn+1)*3 by omega]
  simp only [List.toList_toArray,e1,e2,hX2,List.append_assoc]
 have hX2t:X2.take ((nn+1)*3)=cs.take (j*3)++vs++cs.drop (j*3):=by
  rw [hX2,List.take_append_of_le_length (by simp only [List.length_append,hct,hvl,List.length_drop,hcl];omega),List.take_of_length_le (by simp only [List.length_append,hct,hvl,List.length_drop,hcl];omega)]
 refine Calls.mono (R:=fun e w''=>e=.returned (.slice (some ⟨w.heap.size,0,none⟩) (nn+1) G)∧∃ m,w''=(((w.alloc (.cells R 130)).drewN m).setRow w.heap.size X1.toArray).setRow w.heap.size X2.toArray) ?_ fun e w'' hw=>by
  obtain ⟨rfl,m,rfl⟩:=hw;exact ⟨G,X2,hGn,hGm,hX2l,hX2t,rfl,R,X1.toArray,m,rfl⟩
 have mixed:=T12.mixed;have hz2:¬((j:Int)=(nn:Int)):=by omega
 have hw2:IntKind.i64.wrap ((j:Int)+1)=(j:Int)+1:=by rw [IntKind.wrap_i64];omega
 have hw3:IntKind.i64.wrap ((nn:Int)+1)=(nn:Int)+1:=by rw [IntKind.wrap_i64];omega
 have htn:((j:Int)+1).toNat=j+1:=by omega
 have hb1:(0:Int)≤(j:Int)+1:=by omega
 have hro:(cap:Int) < (nn:Int)+1:=by omega
 have hGi:¬(G=j):=by omega
 have hGim:¬(G=j+1):=by omega
 have hci:¬(cap=j):=by omega
 have hin:j≤nn:=by omega
 have hb3:(j:Int)≤(nn:Int):=by omega
 have hcpA0:∀ ty dc,(Builtin.copy_ #[128,128] ty #[.slice (some ⟨w.heap.size,j*3,none⟩) (nn+1 - j) dc,.slice (some q) 1 vcap]).run Tryz.prog (w.drew.alloc (.cells R 130))=.ok (goInt (Nat.min 1 (nn+1 - j))) ((w.drew.alloc (.cells R 130)).setRow w.heap.size X1.toArray):=fun ty dc=>hcpA 1 ty dc;have hcpA1:∀ ty dc,(Builtin.copy_ #[128,128] ty #[.slice (some ⟨w.heap.size,j*3,none⟩) (nn+1 - j) dc,.slice (some q) 1 vcap]).run Tryz.prog ((w.alloc (.cells R 130)).drew)=.ok (goInt (Nat.min 1 (nn+1 - j))) (((w.alloc (.cells R 130)).drew).setRow w.heap.size X1.toArray):=fun ty dc=>hcpA 1 ty dc;have hcpB0:∀ ty dc sc,(Builtin.copy_ #[128,128] ty #[.slice (some ⟨w.heap.size,(j+1)*3,none⟩) (nn - j) dc,.slice (some ⟨b,j*3,none⟩) (nn - j) sc]).run Tryz.prog (((w.alloc (.cells R 130)).drew.setRow w.heap.size X1.toArray).drew)=.ok (goInt (Nat.min (nn - j) (nn - j))) ((((w.alloc (.cells R 130)).drew.setRow w.heap.size X1.toArray).drew).setRow w.heap.size X2.toArray):=fun ty dc sc=>hcpB 2 ty dc sc;clear hG hcpA hcpB hR hold hkk hik hcur hRt hX1 hX2 hX2t hN hq0 hv ht
 go_enter Tryz.func112,Tryz.ntmps112
 go_wp2_with (first
  | (at_builtin;refine Lib.wpList_append_run _ rfl _ _ _ _ rfl _ _ rfl rfl _ _ (hrz _) ?_)
  | (at_builtin;refine wpList_copy_runI _ rfl _ _ 128 128 rfl _ _ rfl rfl (hcpA1 _ _) ?_)
  | (at_builtin;refine wpList_copy_runI _ rfl _ _ 128 128 rfl _ _ rfl rfl (hcpA0 _ _) ?_))
 go_region_law_o (refine step_copy_runI rfl _ _ 128 128 rfl (.slice (some ⟨w.heap.size,(j+1)*3,none⟩) (nn - j) (G - (j+1))) (.slice (some ⟨b,j*3,none⟩) (nn - j) (cap - j)) (by simp [Act.eval,Act.put]) (by simp [Act.eval,Act.put]) (hcpB0 3 (G - (j+1)) (cap - j)) ?_)
 go_wp2
 go_ret
 exact ⟨rfl,2,rfl⟩
theorem lM {w w':World} {b:Nat} (h:∀ k,k < w.heap.size→k≠b→w'.heap[k]?=w.heap[k]?) (ho:w'.os=w.os) (ht:w'.tape=w.tape) (hu:w'.output=w.output) (hs:w.heap.size≤w'.heap.size) (hd:w.drawn≤w'.drawn):kN w w' (some b) :=
 ⟨⟨ho,ht,hu,hs,fun k hk hne=>h k hk (fun e=>hne (by rw [e]))⟩,hd⟩
theorem eU (w:World) (b:Nat) (X:Array Value):(w.setRow b X).heap.size=w.heap.size:=by simp [World.setRow]
theorem Tryz.ins112:VE Tryz.prog 112 130 3:=by
 intro w ad cap nn cs j q vcap vs hr hj hb hv hvl h1 h2 hne _;have hcl:=(jJ hr).1;by_cases hjn:j=nn
 ·subst hjn;refine (Tryz.ins_end hr hb hv hvl h1).mono fun e w' h=>?_;rw [List.take_of_length_le (by omega),List.drop_of_length_le (by omega),List.append_nil];exact h
 have hlt:j < nn:=by omega
 rcases hr.2 with ⟨_,h0⟩ | ⟨b,cap',cur,he,hbb,hw,hnc,hcm,hcs,ht⟩
 ·omega
 simp only [Value.slice.injEq] at he;obtain ⟨rfl,_,rfl⟩:=he;have hbw:b < w.heap.size:=(Array.getElem?_eq_some_iff.1 hw).1;have h3:cap≤9223372036854775807:=by unfold maxLen at hcm;omega
 have hln:(cs.take (j*3)++vs++cs.drop (j*3)).length=(nn+1)*3:=by
  simp only [List.length_append,List.length_take,List.length_drop,hvl,hcl];omega
 by_cases hroom:nn+1≤cap
 ·refine (Tryz.ins_room hw hcs ht h3 hlt hroom hb hv hvl h1 h2 (hne b rfl)).mono fun e w' h=>?_;obtain ⟨rfl,rfl⟩:=h;refine ⟨_,_,rfl,?_,?_,fun b' hb'=>.inl hb'⟩
  ·refine ⟨hln,.inr ⟨b,cap,_,rfl,hbb,setRow_heap _ b _ _ 130 (0,0) (setRow_heap w.drew b cur _ 130 (0,0) hw),hroom,hcm,?_,?_⟩⟩
   ·have:(cur.toList.drop ((nn+1)*3)).length=cap*3 - (nn+1)*3:=by rw [List.length_drop,Array.length_toList,hcs]
    rw [List.size_toArray,List.length_append,hln,this];omega
   rw [List.toList_toArray,List.take_append_of_le_length (by rw [hln];exact Nat.le_refl _),List.take_of_length_le (by rw [hln];exact Nat.le_refl _)]
  exact lM (fun k hk hkb=>(setRow_other _ _ _ _ hkb).trans (setRow_other _ _ _ _ hkb)) rfl rfl rfl (by rw [eU,eU];exact Nat.le_refl _) (Nat.le_succ _)
 refine (Tryz.ins_grow hw hcs ht hnc hlt (by omega) hb hv hvl h1 h2).mono fun e w' h=>?_;obtain ⟨G,X,hG1,hG2,hXl,hXt,rfl,Y,Z,m,rfl⟩:=h;refine ⟨_,_,rfl,?_,?_,fun b' hb'=>.inr (by simp at hb';omega)⟩
 ·refine ⟨hln,.inr ⟨w.heap.size,G,X.toArray,rfl,Nat.zero_le _,setRow_heap _ _ Z _ 130 (0,0) (setRow_heap _ _ Y _ 130 (0,0) (dM w _)),hG1,hG2,by rw [List.size_toArray,hXl],by rw [List.toList_toArray];exact hXt⟩⟩
 refine lM (fun k hk hkb=>?_) rfl rfl rfl ?_ ?_
 ·have hkn:k≠w.heap.size:=by omega
  exact (setRow_other _ _ _ _ hkn).trans ((setRow_other _ _ _ _ hkn).trans ((fZ.alloc True w (.cells Y 130)).keep k hk))
 ·rw [eU,eU];exact (fZ.alloc True w (.cells Y 130)).size
 exact Nat.le_add_right _ _
end Go.Proofs
namespace Go.Proofs
open Go Go.Shelf Go.RowKit Pk
set_option maxHeartbeats 4000000 in
set_option maxRecDepth 100000 in
theorem Tryz.ins_endM {w:World} {ad:Option Addr} {cap nn mv:Nat} (hm:1≤mv) {cs:List Value} {q:Addr} {vcap:Nat} {vs:List Value} (hr:(aP.row ad cap 3 1 nn cs).holds w) (hb:nn+mv≤1073741824) (hv:aM (hp w) q vs) (hvl:vs.length=mv) (h1:vs.all (·.oneCell')=true) :
  Calls Tryz.prog 138 #[.slice ad nn cap,.int .i64 nn,.slice (some q) mv vcap] w fun e w'=>∃ ad' cap',e=.returned (.slice ad' (nn+mv) cap')∧(aP.row ad' cap' 3 1 (nn+mv) (cs++vs)).holds w'∧kN w w' (ad.map (·.block))∧∀ b,ad'.map (·.block)=some b→ad.map (·.block)=some b∨w.heap.size≤b:=by
 obtain ⟨ad',cap',w',hrun,hh,hg,hf⟩:=lZ (P:=Tryz.prog) 33 T12.E33 hr (sad:=some q) (m:=mv) (c:=vcap) (news:=vs) ⟨by omega,h1,.inr ⟨q,rfl,hv⟩⟩ (by unfold maxLen;omega) (by omega);have hd:=nL _ hrun;have hcap:=(jJ hr).2;refine Calls.mono (R:=fun e w''=>e=.returned (.slice ad' (nn+mv) cap')∧w''=w') ?_ fun e w'' hw=>by
  obtain ⟨rfl,rfl⟩:=hw;exact ⟨ad',cap',rfl,hh,⟨hg,hd⟩,hf⟩
 clear hf hh hg hd hr hv h1;by_cases hc:cap=nn
 ·subst hc
  go_enter Tryz.func138,Tryz.ntmps138
  go_wp2_with (at_builtin;refine Lib.wpList_append_run _ rfl _ _ _ _ rfl _ _ rfl rfl _ _ hrun ?_)
  go_ret
  exact ⟨rfl,rfl⟩
 go_enter Tryz.func138,Tryz.ntmps138
 go_wp2_with (at_builtin;refine Lib.wpList_append_run _ rfl _ _ _ _ rfl _ _ rfl rfl _ _ hrun ?_)
 go_ret
 exact ⟨rfl,rfl⟩
set_option maxHeartbeats 4000000 in
set_option maxRecDepth 100000 in
theorem Tryz.ins_roomM {w:World} {b cap nn j mv:Nat} (hm:1≤mv) {cs:List Value} {q:Addr} {vcap:Nat} {vs:List Value} {cur:Array Value} (hw:w.heap[b]?=some (.cells cur 3 (0,0))) (hcs:cur.size=cap) (ht:cur.toList.take (nn)=cs) (hcm:cap≤9223372036854775807) (hj:j < nn) (hroom:nn+mv≤cap) (hb:nn+mv≤1073741824) (hv:aM (hp w) q vs) (hvl:vs.length=mv) (h1:vs.all (·.oneCell')=true) (h2:cs.all (·.oneCell')=true) (hne:b≠q.block) :
  Calls Tryz.prog 138 #[.slice (some ⟨b,0,none⟩) nn cap,.int .i64 j,.slice (some q) mv vcap] w fun e w'=>e=.returned (.slice (some ⟨b,0,none⟩) (nn+mv) cap)∧w'=(w.drew.setRow b (cur.toList.take ((j+mv))++cs.drop (j)++cur.toList.drop ((nn+mv))).toArray).setRow b (cs.take (j)++vs++cs.drop (j)++cur.toList.drop ((nn+mv))).toArray:=by
 obtain ⟨c0,t0,z0,hq0,hq1⟩:=mV hv (by omega);have hcl:cs.length=nn:=by rw [← ht,List.length_take,Array.length_toList,hcs];omega
 have hcur:cur.toList=cs++cur.toList.drop (nn):=by rw [← ht,List.take_append_drop]
 have hov:∀ lb cb,(callFunc 188 #[.slice (some q) mv vcap,.slice (some ⟨b,(j+mv),none⟩) lb cb]).run Tryz.prog w=.ok (.value (.bool false)) w:=fun lb cb=>by
  rw [run_callFunc_extern Tryz.func188 (by kernel_rfl) (by kernel_rfl) (by kernel_rfl) (e:=Extern.SlicesOverlaps.overlaps #[33,33] #[4]) (by kernel_rfl),
   mW w 33 4 3 Tryz.underlying33 1 Tryz.sizeOf3 q ⟨b,(j+mv),none⟩ mv vcap lb cb (fun e=>hne e.symm) hq0 hq1 hw (by omega)]
  rfl
 have hcp1:∀ ty dc sc,(Builtin.copy_ #[33,33] ty #[.slice (some ⟨b,(j+mv),none⟩) (nn - j) dc,.slice (some ⟨b,j,none⟩) (nn+mv - j) sc]).run Tryz.prog w.drew=.ok (goInt (Nat.min (nn+mv - j) (nn - j))) (w.drew.setRow b (cur.toList.take ((j+mv))++cs.drop (j)++cur.toList.drop ((nn+mv))).toArray):=fun ty dc sc=>by
  have hl:(cs.drop (j)).length=Nat.min (nn+mv - j) (nn - j):=by
   rw [List.length_drop,hcl,show Nat.min (nn+mv - j) (nn - j)=nn - j by simp only [Nat.min_def];split <;> omega]
  have:=gQ (P:=Tryz.prog) w.drew 33 ty 3 1 Tryz.underlying33 Tryz.sizeOf3 b ((j+mv)) (nn - j) dc ⟨b,j,none⟩ (nn+mv - j) sc (cs.drop (j)) (cur:=cur) hw (by rw [hl,Nat.mul_one]) (fun i v hi=>by
   rw [jX];refine gV (w:=w.drew) hw ?_;rw [hcur,List.getElem?_append_left (by rw [List.getElem?_drop] at hi;exact (List.getElem?_eq_some_iff.1 hi).1)]
   rwa [List.getElem?_drop] at hi) (by rw [List.length_drop,hcl,hcs];omega) (fun v hv=>List.all_eq_true.1 h2 v (List.mem_of_mem_drop hv))
  rw [this,show (j+mv)+(cs.drop (j)).length=(nn+mv) by rw [List.length_drop,hcl];omega]
 obtain ⟨X1,hX1⟩:∃ X1:List Value,X1=cur.toList.take ((j+mv))++cs.drop (j)++cur.toList.drop ((nn+mv)):=⟨_,rfl⟩;rw [← hX1] at hcp1 ⊢;obtain ⟨W1,hW1⟩:∃ W1,W1=w.drew.setRow b X1.toArray:=⟨_,rfl⟩;rw [← hW1] at hcp1 ⊢;have hw1:W1.heap[b]?=some (.cells X1.toArray 3 (0,0)):=by rw [hW1];exact setRow_heap w.drew b cur X1.toArray 3 (0,0) hw
 have hX1l:X1.length=cap:=by rw [hX1];simp only [List.length_append,List.length_take,List.length_drop,Array.length_toList,hcs,hcl];omega
 have hlen1:(cur.toList.take ((j+mv))).length=(j+mv):=by rw [List.length_take,Array.length_toList,hcs];omega
 have hcp2:∀ ty dc,(Builtin.copy_ #[33,33] ty #[.slice (some ⟨b,j,none⟩) (nn+mv - j) dc,.slice (some q) mv vcap]).run Tryz.prog W1=.ok (goInt (Nat.min mv (nn+mv - j))) (W1.setRow b (cs.take (j)++vs++cs.drop (j)++cur.toList.drop ((nn+mv))).toArray):=fun ty dc=>by
  have hm:Nat.min mv (nn+mv - j)=mv:=by simp only [Nat.min_def];split <;> omega
  have:=gQ (P:=Tryz.prog) W1 33 ty 3 1 Tryz.underlying33 Tryz.sizeOf3 b (j) (nn+mv - j) dc q mv vcap vs (cur:=X1.toArray) hw1 (by rw [hvl,hm,Nat.mul_one]) (fun i v hi=>by
   have h0:=hv.cell hi;have hsp:(q.add i).block=q.block:=by unfold Addr.add;split <;> rfl
   rw [hW1];unfold World.cell? at h0 ⊢;rw [show (w.drew.setRow b X1.toArray).heap[(q.add i).block]?=w.heap[(q.add i).block]? from setRow_other w.drew b _ _ (by rw [hsp];exact fun e=>hne e.symm)]
   exact h0) (by rw [hvl,List.size_toArray,hX1l];omega) (fun v hv=>List.all_eq_true.1 h1 v hv)
  rw [this,hvl];congr 3;have e1:X1.take (j)=cs.take (j):=by
   rw [hX1,List.append_assoc,List.take_append_of_le_length (by rw [hlen1];omega),List.take_take,show min (j) ((j+mv))=j by omega,← ht,List.take_take,show min (j) (nn)=j by omega]
  have e2:X1.drop (j+mv)=cs.drop (j)++cur.toList.drop ((nn+mv)):=by
   rw [hX1,show j+mv=(j+mv) by omega,List.append_assoc,List.drop_append_of_le_length (by rw [hlen1];omega),List.drop_of_length_le (by rw [hlen1];omega),List.nil_append]
  simp only [List.toList_toArray,e1,e2,List.append_assoc]
 have hz2:¬((j:Int)=(nn:Int)):=by omega
 have hw2:IntKind.i64.wrap ((j:Int)+(mv:Int))=(j:Int)+(mv:Int):=by rw [IntKind.wrap_i64];omega
 have hw3:IntKind.i64.wrap ((nn:Int)+(mv:Int))=(nn:Int)+(mv:Int):=by rw [IntKind.wrap_i64];omega
 have htn:((j:Int)+(mv:Int)).toNat=j+mv:=by omega
 have htn2:((nn:Int)+(mv:Int)).toNat=nn+mv:=by omega
 have hb1:(0:Int)≤(j:Int)+(mv:Int):=by omega
 have hb2:¬(cap=j+mv):=by omega
 have hb4:¬(cap=j):=by omega
 have hb3:(j:Int)≤(nn:Int)+(mv:Int):=by omega
 have hin:j≤nn:=by omega
 have hro:¬((cap:Int) < (nn:Int)+(mv:Int)):=by omega
 clear hX1 hcur ht;have mixed:=T12.mixed;clear hw1;subst hW1
 go_enter Tryz.func138,Tryz.ntmps138
 go_wp2_with (simp only [hov])
 go_region_law_o (refine step_copy_runI rfl _ _ 33 33 rfl (.slice (some ⟨b,(j+mv),none⟩) (nn - j) (cap - (j+mv))) (.slice (some ⟨b,j,none⟩) (nn+mv - j) (cap - j)) (by first | (simp [Act.eval,Act.put];done) | (simp [Act.eval,Act.put];omega)) (by first | (simp [Act.eval,Act.put];done) | (simp [Act.eval,Act.put];omega)) (hcp1 3 (cap - (j+mv)) (cap - j)) ?_)
 go_wp2_with (at_builtin;refine wpList_copy_runI _ rfl _ _ 33 33 rfl _ _ rfl rfl (hcp2 _ _) ?_)
 go_ret
 exact ⟨rfl,by simp only [List.append_assoc]⟩
set_option maxHeartbeats 4000000 in
set_option maxRecDepth 100000 in
theorem Tryz.ins_growM {w:World} {b cap nn j mv:Nat} (hm:1≤mv) {cs:List Value} {q:Addr} {vcap:Nat} {vs:List Value} {cur:Array Value} (hw:w.heap[b]?=some (.cells cur 3 (0,0))) (hcs:cur.size=cap) (ht:cur.toList.take (nn)=cs) (hnc:nn≤cap) (hj:j < nn) (hroom:cap < nn+mv) (hb:nn+mv≤1073741824) (hv:aM (hp w) q vs) (hvl:vs.length=mv) (h1:vs.all (·.oneCell')=true) (h2:cs.all (·.oneCell')=true) :
  Calls Tryz.prog 138 #[.slice (some ⟨b,0,none⟩) nn cap,.int .i64 j,.slice (some q) mv vcap] w fun e w'=>∃ (G:Nat) (X:List Value),nn+mv≤G∧G≤maxLen∧X.length=G∧X.take ((nn+mv))=cs.take (j)++vs++cs.drop (j)∧e=.returned (.slice (some ⟨w.heap.size,0,none⟩) (nn+mv) G)∧∃ Y Z m,w'=(((w.alloc (.cells Y 3)).drewN m).setRow w.heap.size Z).setRow w.heap.size X.toArray:=by
 obtain ⟨i0,v0,hi0,hz0,hzv,hzs,hzb⟩:=T12.E33.info;have hzc:v0.cells.size=1:=by rw [gI,hzv];rfl
 have hcl:cs.length=nn:=by rw [← ht,List.length_take,Array.length_toList,hcs];omega
 have hcur:cur.toList=cs++cur.toList.drop (nn):=by rw [← ht,List.take_append_drop]
 have hold:(Builtin.firstCells i0.size j (.slice (some ⟨b,0,none⟩) j cap)).run Tryz.prog w.drew=.ok (cs.take (j)).toArray w.drew:=by
  rw [hzs];refine run_firstCells_some (w:=w.drew) 1 j ⟨b,0,none⟩ j cap (cs.take (j)) (by rw [List.length_take,hcl];omega) (fun i v hi=>?_);rw [jX,Nat.zero_add];refine gV (w:=w.drew) hw ?_;rw [List.getElem?_take] at hi
  split at hi
  ·rw [hcur,List.getElem?_append_left (by rw [hcl];omega)];exact hi
  cases hi
 have hik:j+(nn+mv - j)=nn+mv:=by omega
 have hkk:(nn:Int)+(mv:Int) - (j:Int)=((nn+mv - j:Nat):Int):=by omega
 obtain ⟨G,hG⟩:∃ G,G=grownCap w (nn+mv) cap 3:=⟨_,rfl⟩;have hGn:nn+mv≤G:=by rw [hG];exact grownCap_ge w _ _ _
 have hGm:G≤maxLen:=by rw [hG];exact grownCap_le_maxLen w (nn+mv) cap 3 (by unfold maxLen;omega)
 obtain ⟨R,hR⟩:∃ R:Array Value,R=(cs.take (j)).toArray++Builtin.zeroCells v0.cells (nn+mv - j)++Builtin.zeroCells v0.cells (G - (nn+mv)):=⟨_,rfl⟩;have hRs:R.size=G:=by
  rw [hR];simp only [Array.size_append,List.size_toArray,List.length_take,hcl,Builtin.zeroCells,Array.size_map,Array.size_range,hzc];omega
 have hRt:R.toList.take (j)=cs.take (j):=by
  rw [hR,Array.toList_append,Array.toList_append,List.append_assoc,List.take_append_of_le_length (by simp [hcl];omega)];simp only [List.toList_toArray,List.take_take,Nat.min_self]
 have hrz:∀ ty,(Builtin.append_ #[33,3] ty #[.slice (some ⟨b,0,none⟩) j cap,.int .i64 ((nn:Int)+(mv:Int) - (j:Int))]).run Tryz.prog w=.ok (.slice (some ⟨w.heap.size,0,none⟩) (nn+mv) G) (w.drew.alloc (.cells R 3)):=fun ty=>by
  have h:=Lib.run_append_grow_zeros w 33 3 ty 3 i0 _ .i64 .i64 Tryz.underlying33 Tryz.underlying3 hi0 hz0 (some ⟨b,0,none⟩) j cap (cs.take (j)) hold (nn+mv - j) (by omega) (by rw [hzs];decide) (by omega) (by omega) (by rw [hzb];omega) (by rw [hzb,hik];exact growslice_fits hroom (by omega));rw [hik] at h;rw [hkk,hR,hG];exact h
 have hN:(w.drew.alloc (.cells R 3)).heap[w.heap.size]?=some (.cells R 3 (0,0)):=dM w.drew _;have hbw:b < w.heap.size:=(Array.getElem?_eq_some_iff.1 hw).1;obtain ⟨X1,hX1⟩:∃ X1:List Value,X1=cs.take (j)++vs++R.toList.drop ((j+mv)):=⟨_,rfl⟩;obtain ⟨X2,hX2⟩:∃ X2:List Value,X2=cs.take (j)++vs++cs.drop (j)++R.toList.drop ((nn+mv)):=⟨_,rfl⟩;have hct:(cs.take (j)).length=j:=by rw [List.length_take,hcl];omega
 have hX1l:X1.length=G:=by rw [hX1];simp only [List.length_append,hct,hvl,List.length_drop,Array.length_toList,hRs];omega
 have hX2l:X2.length=G:=by rw [hX2];simp only [List.length_append,hct,hvl,List.length_drop,Array.length_toList,hRs,hcl];omega
 have hqn:∀ i,(q.add i).block=q.block:=fun i=>by unfold Addr.add;split <;> rfl
 obtain ⟨c0,t0,z0,hq0,_⟩:=mV hv (by omega);have hqw:q.block < w.heap.size:=(Array.getElem?_eq_some_iff.1 hq0).1;have hcpA:∀ (m:Nat) ty dc,(Builtin.copy_ #[33,33] ty #[.slice (some ⟨w.heap.size,j,none⟩) (nn+mv - j) dc,.slice (some q) mv vcap]).run Tryz.prog ((w.alloc (.cells R 3)).drewN m)=.ok (goInt (Nat.min mv (nn+mv - j))) (((w.alloc (.cells R 3)).drewN m).setRow w.heap.size X1.toArray):=fun m ty dc=>by
  have hm:Nat.min mv (nn+mv - j)=mv:=by simp only [Nat.min_def];split <;> omega
  have:=gQ (P:=Tryz.prog) ((w.alloc (.cells R 3)).drewN m) 33 ty 3 1 Tryz.underlying33 Tryz.sizeOf3 w.heap.size (j) (nn+mv - j) dc q mv vcap vs (cur:=R) (te:=3) (dM w _) (by rw [hvl,hm,Nat.mul_one]) (fun i v hi=>by
   have h0:=hv.cell hi;unfold World.cell? at h0 ⊢;rw [show ((w.alloc (.cells R 3)).drewN m).heap[(q.add i).block]?=w.heap[(q.add i).block]? from (fZ.alloc True w (.cells R 3)).keep _ (by rw [hqn];exact hqw)]
   exact h0) (by rw [hvl,hRs];omega) (fun v hv=>List.all_eq_true.1 h1 v hv)
  rw [this,hvl,hRt,hX1,show j+mv=(j+mv) by omega]
 have hcpB:∀ (m:Nat) ty dc sc,(Builtin.copy_ #[33,33] ty #[.slice (some ⟨w.heap.size,(j+mv),none⟩) (nn - j) dc,.slice (some ⟨b,j,none⟩) (nn - j) sc]).run Tryz.prog (((w.alloc (.cells R 3)).drewN m).setRow w.heap.size X1.toArray)=.ok (goInt (Nat.min (nn - j) (nn - j))) ((((w.alloc (.cells R 3)).drewN m).setRow w.heap.size X1.toArray).setRow w.heap.size X2.toArray):=fun m ty dc sc=>by
  have hm:Nat.min (nn - j) (nn - j)=nn - j:=Nat.min_self _;have hl:(cs.drop (j)).length=Nat.min (nn - j) (nn - j):=by rw [hm,List.length_drop,hcl]
  have:=gQ (P:=Tryz.prog) (((w.alloc (.cells R 3)).drewN m).setRow w.heap.size X1.toArray) 33 ty 3 1 Tryz.underlying33 Tryz.sizeOf3 w.heap.size ((j+mv)) (nn - j) dc ⟨b,j,none⟩ (nn - j) sc (cs.drop (j)) (cur:=X1.toArray) (te:=3) (setRow_heap _ _ R X1.toArray 3 (0,0) (dM w _)) (by rw [hl,Nat.mul_one]) (fun i v hi=>by
   rw [jX];have hcell:w.cell? ⟨b,j+i,none⟩=some v:=by
    refine gV hw ?_;rw [hcur,List.getElem?_append_left (by rw [List.getElem?_drop] at hi;exact (List.getElem?_eq_some_iff.1 hi).1)]
    rwa [List.getElem?_drop] at hi
   unfold World.cell? at hcell ⊢;rw [show (((w.alloc (.cells R 3)).drewN m).setRow w.heap.size X1.toArray).heap[(⟨b,j+i,none⟩:Addr).block]?=w.heap[(⟨b,j+i,none⟩:Addr).block]? from (setRow_other _ _ _ _ (by show b≠w.heap.size;omega)).trans ((fZ.alloc True w (.cells R 3)).keep _ hbw)]
   exact hcell) (by rw [List.length_drop,hcl,List.size_toArray,hX1l];omega) (fun v hv=>List.all_eq_true.1 h2 v (List.mem_of_mem_drop hv))
  rw [this,show (j+mv)+(cs.drop (j)).length=(nn+mv) by rw [List.length_drop,hcl];omega];congr 3;have e1:X1.take ((j+mv))=cs.take (j)++vs:=by
   rw [hX1,List.take_append_of_le_length (by rw [List.length_append,hct,hvl];omega),List.take_of_length_le (by rw [List.length_append,hct,hvl];omega)]
  have e2:X1.drop ((nn+mv))=R.toList.drop ((nn+mv)):=by
   rw [hX1,List.drop_append,List.drop_of_length_le (by rw [List.length_append,hct,hvl];omega),List.nil_append,List.drop_drop,List.length_append,hct,hvl,show (j+mv)+((nn+mv) - (j+mv))=(nn+mv) by omega]
  simp only [List.toList_toArray,e1,e2,hX2,List.append_assoc]
 have hX2t:X2.take ((nn+mv))=cs.take (j)++vs++cs.drop (j):=by
  rw [hX2,List.take_append_of_le_length (by simp only [List.length_append,hct,hvl,List.length_drop,hcl];omega),List.take_of_length_le (by simp only [List.length_append,hct,hvl,List.length_drop,hcl];omega)]
 refine Calls.mono (R:=fun e w''=>e=.returned (.slice (some ⟨w.heap.size,0,none⟩) (nn+mv) G)∧∃ m,w''=(((w.alloc (.cells R 3)).drewN m).setRow w.heap.size X1.toArray).setRow w.heap.size X2.toArray) ?_ fun e w'' hw=>by
  obtain ⟨rfl,m,rfl⟩:=hw;exact ⟨G,X2,hGn,hGm,hX2l,hX2t,rfl,R,X1.toArray,m,rfl⟩
 have mixed:=T12.mixed;have hz2:¬((j:Int)=(nn:Int)):=by omega
 have hw2:IntKind.i64.wrap ((j:Int)+(mv:Int))=(j:Int)+(mv:Int):=by rw [IntKind.wrap_i64];omega
 have hw3:IntKind.i64.wrap ((nn:Int)+(mv:Int))=(nn:Int)+(mv:Int):=by rw [IntKind.wrap_i64];omega
 have htn:((j:Int)+(mv:Int)).toNat=j+mv:=by omega
 have hb1:(0:Int)≤(j:Int)+(mv:Int):=by omega
 have hro:(cap:Int) < (nn:Int)+(mv:Int):=by omega
 have hGi:¬(G=j):=by omega
 have hGim:¬(G=j+mv):=by omega
 have hci:¬(cap=j):=by omega
 have hin:j≤nn:=by omega
 have hb3:(j:Int)≤(nn:Int):=by omega
 have hcpA0:∀ ty dc,(Builtin.copy_ #[33,33] ty #[.slice (some ⟨w.heap.size,j,none⟩) (nn+mv - j) dc,.slice (some q) mv vcap]).run Tryz.prog (w.drew.alloc (.cells R 3))=.ok (goInt (Nat.min mv (nn+mv - j))) ((w.drew.alloc (.cells R 3)).setRow w.heap.size X1.toArray):=fun ty dc=>hcpA 1 ty dc;have hcpA1:∀ ty dc,(Builtin.copy_ #[33,33] ty #[.slice (some ⟨w.heap.size,j,none⟩) (nn+mv - j) dc,.slice (some q) mv vcap]).run Tryz.prog ((w.alloc (.cells R 3)).drew)=.ok (goInt (Nat.min mv (nn+mv - j))) (((w.alloc (.cells R 3)).drew).setRow w.heap.size X1.toArray):=fun ty dc=>hcpA 1 ty dc;have hcpB0:∀ ty dc sc,(Builtin.copy_ #[33,33] ty #[.slice (some ⟨w.heap.size,(j+mv),none⟩) (nn - j) dc,.slice (some ⟨b,j,none⟩) (nn - j) sc]).run Tryz.prog (((w.alloc (.cells R 3)).drew.setRow w.heap.size X1.toArray).drew)=.ok (goInt (Nat.min (nn - j) (nn - j))) ((((w.alloc (.cells R 3)).drew.setRow w.heap.size X1.toArray).drew).setRow w.heap.size X2.toArray):=fun ty dc sc=>hcpB 2 ty dc sc;clear hG hcpA hcpB hR hold hkk hik hcur hRt hX1 hX2 hX2t hN hq0 hv ht
 go_enter Tryz.func138,Tryz.ntmps138
 go_wp2_with (first
  | (at_builtin;refine Lib.wpList_append_run _ rfl _ _ _ _ rfl _ _ rfl rfl _ _ (hrz _) ?_)
  | (at_builtin;refine wpList_copy_runI _ rfl _ _ 33 33 rfl _ _ rfl rfl (hcpA1 _ _) ?_)
  | (at_builtin;refine wpList_copy_runI _ rfl _ _ 33 33 rfl _ _ rfl rfl (hcpA0 _ _) ?_))
 go_region_law_o (refine step_copy_runI rfl _ _ 33 33 rfl (.slice (some ⟨w.heap.size,(j+mv),none⟩) (nn - j) (G - (j+mv))) (.slice (some ⟨b,j,none⟩) (nn - j) (cap - j)) (by first | (simp [Act.eval,Act.put];done) | (simp [Act.eval,Act.put];omega)) (by first | (simp [Act.eval,Act.put];done) | (simp [Act.eval,Act.put];omega)) (hcpB0 3 (G - (j+mv)) (cap - j)) ?_)
 go_wp2
 go_ret
 exact ⟨rfl,2,rfl⟩
set_option maxHeartbeats 4000000 in
set_option maxRecDepth 100000 in
theorem Tryz.ins_none {w:World} {ad vad:Option Addr} {cap nn j vcap:Nat} (hj:j≤nn) (hc:nn≤cap) (hcm:cap≤9223372036854775807):Calls Tryz.prog 138 #[.slice ad nn cap,.int .i64 j,.slice vad 0 vcap] w fun e w'=>e=.returned (.slice ad nn cap)∧∃ n,w'=w.drewN n:=by
 have hb3:(j:Int)≤(nn:Int):=by omega
 by_cases hcj:cap=j
 ·subst hcj
  go_enter Tryz.func138,Tryz.ntmps138
  go_wp2
  go_ret
  exact ⟨rfl,0,rfl⟩
 go_enter Tryz.func138,Tryz.ntmps138
 go_wp2
 go_ret
 exact ⟨rfl,0,rfl⟩
theorem Tryz.insM138:VK Tryz.prog 138 3 1:=by
 intro w ad cap nn cs j vad vcap mv vs hr hj hb hvl hsrc h2 hne hvc;have hcl:=(jJ hr).1;have hnc0:=(jJ hr).2;rw [Nat.mul_one] at hvl;simp only [Nat.mul_one];rcases Nat.eq_zero_or_pos mv with h0 | hm
 ·subst h0;have hv0:vs=[]:=List.eq_nil_of_length_eq_zero (by omega);subst hv0;have hrow:nn≤cap∧cap≤9223372036854775807:=by
   rcases hr.2 with ⟨e0,h0⟩ | ⟨b,cap',cur,he,hbb,hw,hnc,hcm,hcs,ht⟩
   ·cases e0;omega
   cases he;unfold maxLen at hcm;omega
  refine (Tryz.ins_none hj hrow.1 hrow.2).mono fun e w' h=>?_;obtain ⟨rfl,n,rfl⟩:=h;refine ⟨ad,cap,rfl,?_,?_,fun b hb'=>.inl hb'⟩
  ·rw [List.append_nil,List.take_append_drop];exact hr
  exact ⟨⟨rfl,rfl,rfl,Nat.le_refl _,fun k hk hne=>rfl⟩,Nat.le_add_right _ _⟩
 rcases hsrc with h0 | ⟨_,h1,⟨_,h0,_⟩ | ⟨q,rfl,hv⟩⟩
 ·omega
 ·omega
 by_cases hjn:j=nn
 ·subst hjn;refine (Tryz.ins_endM hm hr hb hv hvl h1).mono fun e w' h=>?_;rw [List.take_of_length_le (by omega),List.drop_of_length_le (by omega),List.append_nil];exact h
 have hlt:j < nn:=by omega
 rcases hr.2 with ⟨_,h0⟩ | ⟨b,cap',cur,he,hbb,hw,hnc,hcm,hcs,ht⟩
 ·omega
 simp only [Value.slice.injEq] at he;obtain ⟨rfl,_,rfl⟩:=he;rw [Nat.mul_one] at hcs ht;have hbw:b < w.heap.size:=(Array.getElem?_eq_some_iff.1 hw).1;have h3:cap≤9223372036854775807:=by unfold maxLen at hcm;omega
 have hln:(cs.take (j)++vs++cs.drop (j)).length=(nn+mv):=by
  simp only [List.length_append,List.length_take,List.length_drop,hvl,hcl];omega
 by_cases hroom:nn+mv≤cap
 ·refine (Tryz.ins_roomM hm hw hcs ht h3 hlt hroom hb hv hvl h1 h2 (hne q rfl hm b rfl)).mono fun e w' h=>?_;obtain ⟨rfl,rfl⟩:=h;refine ⟨_,_,rfl,?_,?_,fun b' hb'=>.inl hb'⟩
  ·refine ⟨by rw [hln,Nat.mul_one],.inr ⟨b,cap,_,rfl,hbb,setRow_heap _ b _ _ 3 (0,0) (setRow_heap w.drew b cur _ 3 (0,0) hw),hroom,hcm,?_,?_⟩⟩
   ·have:(cur.toList.drop ((nn+mv))).length=cap - (nn+mv):=by rw [List.length_drop,Array.length_toList,hcs]
    rw [List.size_toArray,List.length_append,hln,this];omega
   rw [Nat.mul_one,List.toList_toArray,List.take_append_of_le_length (by rw [hln];exact Nat.le_refl _),List.take_of_length_le (by rw [hln];exact Nat.le_refl _)]
  exact lM (fun k hk hkb=>(setRow_other _ _ _ _ hkb).trans (setRow_other _ _ _ _ hkb)) rfl rfl rfl (by rw [eU,eU];exact Nat.le_refl _) (Nat.le_succ _)
 refine (Tryz.ins_growM hm hw hcs ht hnc hlt (by omega) hb hv hvl h1 h2).mono fun e w' h=>?_;obtain ⟨G,X,hG1,hG2,hXl,hXt,rfl,Y,Z,m,rfl⟩:=h;refine ⟨_,_,rfl,?_,?_,fun b' hb'=>.inr (by simp at hb';omega)⟩
 ·refine ⟨by rw [hln,Nat.mul_one],.inr ⟨w.heap.size,G,X.toArray,rfl,Nat.zero_le _,setRow_heap _ _ Z _ 3 (0,0) (setRow_heap _ _ Y _ 3 (0,0) (dM w _)),hG1,hG2,by rw [List.size_toArray,hXl,Nat.mul_one],by rw [List.toList_toArray,Nat.mul_one];exact hXt⟩⟩
 refine lM (fun k hk hkb=>?_) rfl rfl rfl ?_ ?_
 ·have hkn:k≠w.heap.size:=by omega
  exact (setRow_other _ _ _ _ hkn).trans ((setRow_other _ _ _ _ hkn).trans ((fZ.alloc True w (.cells Y 3)).keep k hk))
 ·rw [eU,eU];exact (fZ.alloc True w (.cells Y 3)).size
 exact Nat.le_add_right _ _
end Go.Proofs
set_option maxHeartbeats 4000000
namespace T12
open Go Go.Proofs Pk Go.RowKit
section
variable {P:Program} {r:Option Nat} {n:aS} {p:List PanicEntry→aS} {a:Act} {w:World} {D:List Deferred} {k:Nat} {L:cD} {ops:Array Oper} {rest:List Oper} {d:Nat} {ty:TypeId} {pos:String} {af:Array Edge}
theorem QK {y:Operand} {t u te:TypeId} {pe:Value} {ms:_} (hA:bM D k a L) (hu':P.underlying t=some (.interface ms)) (hd:Nat.blt d k=true) (hy:ev L y=some (.iface te pe)) (h:∀ a,bM D k a ((d,.bool false)::L)→O P r ops n p rest a w):O P r ops n p (⟨some d,.binOp .eql t y (.const .nilIface) u,ty,pos,af,none⟩::rest) a w:=by
 have hu:P.underlying t=some (.interface (P.methodsAt t)):=by rw [hu'];simp [Program.methodsAt,hu']
 refine cM rfl (fun _ h=>by cases h) (w':=w) (v:=.bool false) ?_ (h _ (hA.put hd _));simp [execOp,hA.eval hy,show a.eval (.const .nilIface)=.nilIface from rfl,eqGuard,run_eql_held_nil w t _ _ hu,Result.andThen]
theorem QL {y:Operand} {t u:TypeId} {ms:_} (hA:bM D k a L) (hu':P.underlying t=some (.interface ms)) (hd:Nat.blt d k=true) (hy:ev L y=some .nilIface) (h:∀ a,bM D k a ((d,.bool true)::L)→O P r ops n p rest a w):O P r ops n p (⟨some d,.binOp .eql t y (.const .nilIface) u,ty,pos,af,none⟩::rest) a w:=by
 have hu:P.underlying t=some (.interface (P.methodsAt t)):=by rw [hu'];simp [Program.methodsAt,hu']
 refine cM rfl (fun _ h=>by cases h) (w':=w) (v:=.bool true) ?_ (h _ (hA.put hd _));simp only [execOp,hA.eval hy,show a.eval (.const .nilIface)=.nilIface from rfl];simp [eqGuard,run_eql_nil_nil w t hu,Result.andThen]
theorem QM {y:Operand} {xT t:TypeId} {v:Value} {ds:TypeDesc} (hA:bM D k a L) (hd:Nat.blt d k=true) (hu:P.underlying t=some ds) (hds:(match ds with | .interface _=>false | _=>true)=true) (hy:ev L y=some (.iface t v))
  (h:∀ a,bM D k a ((d,.tuple #[v,.bool true])::L)→O P r ops n p rest a w):O P r ops n p (⟨some d,.typeAssert y xT t true,ty,pos,af,none⟩::rest) a w :=
 cM rfl (fun _ h=>by cases h) (w':=w) (v:=.tuple #[v,.bool true]) (by
  simp only [execOp,Instr.typeAssert,hA.eval hy]
  cases ds <;> simp at hds <;> simp [run_underlying hu,Result.andThen]) (h _ (hA.put hd _))
end
theorem QN (q:Addr) (w:World):CallsD Tryz.prog 56 #[.pointer (some q)] .returning w fun e u' w'=>e=.returned (.tuple #[])∧u'=.returning∧w'=w:=by
 refine callsD_of_wpS Tryz.func56 rfl fun c₀ cs hu=>?_;apply wpS_seq;apply wpS_region;simp [wpOpsS,go_sem,recoverD,hu,Tryz.ntmps56,Exit.thenS];refine wpS_of_wp ?_;refine (wpIn_wide (n:=0)).1 (wpIn_mono (show Pk.W Tryz.prog none _ (fun a w'=>a.defers=[]∧w'=w) (fun _ _=>False) [] (fun _ _ _=>False) _ w from ?_) ?_)
 ·have hA:bM [] 12 { tmps:=#[.pointer (some q)]++((Array.replicate 11 undef).setIfInBounds 3 .nilIface),defers:=[] } [(0,.pointer (some q)),(4,.nilIface)]:=by
   refine ⟨rfl,by simp,fun i u h=>?_⟩;rcases i with _ | _ | _ | _ | _ | i
   ·exact h
   ·cases h
   ·cases h
   ·cases h
   ·exact h
   cases (show (none:Option Value)=some u from h)
  revert hA;generalize ({ tmps:=_,defers:=[] }:Act)=a;intro hA;refine mH (eE (cH (QL hA Tryz.underlying20 rfl rfl fun a hA=>eJ (iN hA rfl (fun _=>?_) (fun h=>by cases h)))));exact cH (fC hA rfl rfl fun a hA=>eJ ⟨hA.defers,rfl⟩)
 intro z a w' hz
 cases z with
 | normal =>
  obtain ⟨hd,rfl⟩:=hz;exact ⟨hd,.returning,by cases c₀;simp_all,.tuple #[],by simp [results,Tryz.results56],rfl,rfl,rfl⟩
 | ret=>exact hz.elim
 | panic ch=>exact hz.elim
 | exit id=>obtain ⟨K,hK,_⟩:=hz;simp [rI] at hK
 | goto l=>exact hz
 | outgrown=>exact hz.elim
theorem QO {M:Prop} {W w:World} {H:Hp} {Hs:List Hp} {b tE:Nat} {z0:Value} {u:Int} {σr:aL} (hS:St M W H Hs ((tE,bF b 43 [z0])::σr) w) (hT:Nat.beq 999999 tE=false) :
  CallsD Tryz.prog 56 #[.pointer (some ⟨b,0,none⟩)] (.panicking (CV (.iface 155 (.agg #[.int .i64 u])))) w fun e u' w'=>(∃ v,e=.returned v)∧settle u'=.returning ∧
   ∃ b3 cs3,St M W H Hs ((999999,bF b3 155 cs3)::(tE,bF b 43 [.int .i64 u])::σr) w':=by
 refine callsD_of_wpS Tryz.func56 rfl fun c₀ cs hu=>?_;apply wpS_seq;apply wpS_region;obtain ⟨v,hv⟩:∃ v:Value,v=.agg #[.int .i64 u]:=⟨_,rfl⟩;rw [← hv] at hu;simp [wpOpsS,go_sem,recoverD,hu,Tryz.ntmps56,Exit.thenS,CV];refine wpS_of_wp ?_;refine (wpIn_wide (n:=0)).1 (wpIn_mono (show Pk.W Tryz.prog none _ (fun a w=>a.defers=[]∧∃ b3 cs3,St M W H Hs ((999999,bF b3 155 cs3)::(tE,bF b 43 [.int .i64 u])::σr) w) (fun _ _=>False) [] (fun _ _ _=>False) _ w from ?_) ?_)
 ·have hA:bM [] 12 { tmps:=#[.pointer (some ⟨b,0,none⟩)]++((Array.replicate 11 undef).setIfInBounds 3 (.iface 155 v)),defers:=[] } [(0,.pointer (some ⟨b,0,none⟩)),(4,.iface 155 v)]:=by
   refine ⟨rfl,by simp,fun i u h=>?_⟩;rcases i with _ | _ | _ | _ | _ | i
   ·exact h
   ·cases h
   ·cases h
   ·cases h
   ·exact h
   cases (show (none:Option Value)=some u from h)
  revert hA;generalize ({ tmps:=_,defers:=[] }:Act)=a;intro hA;subst hv;refine mH (eE (cH (QK hA Tryz.underlying20 rfl rfl fun a hA=>eJ (iN hA rfl (fun h=>by cases h) (fun _=>?_)))));refine eE (cH (QM hA rfl Tryz.underlying155 rfl rfl fun a hA=>kP (vs:=[.agg #[.int .i64 u],.bool true]) hA rfl rfl rfl fun a hA=>kP (vs:=[.agg #[.int .i64 u],.bool true]) hA rfl rfl rfl fun a hA=>eJ (iN hA rfl (fun _=>?_) (fun h=>by cases h))));refine eE (cH (jK 999999 hA rfl hS Tryz.zeroValue155 rfl fun b3 w hS hb a hA=>?_));refine iH 999999 (cs:=[.int .i64 u]) hA hS rfl rfl Tryz.sizeOf155 rfl rfl rfl rfl rfl fun w hS a hA=>eJ ?_;refine cH (aA7 (cs:=[.int .i64 u]) (v:=.int .i64 u) hA rfl rfl rfl Tryz.underlying155 rfl Tryz.sizeOf43 Tryz.isAgg43 ?_ rfl fun a hA=>?_)
  ·exact sO (x:=⟨[],12,M,W,H⟩) 999999 rfl w hS
  refine iH tE (t0:=43) (l:=[z0]) (cs:=[.int .i64 u]) hA hS rfl rfl Tryz.sizeOf43 (by simp [cI,dK,hT]) rfl rfl rfl rfl fun w hS a hA=>eJ ?_;refine ⟨hA.defers,b3,[.int .i64 u],?_⟩;simpa [dK,hT,kO,bU] using hS
 intro z a w' hz
 cases z with
 | normal =>
  obtain ⟨hd,h⟩:=hz;subst hv;exact ⟨hd,.panicking [{ v:=.iface 155 (.agg #[.int .i64 u]),recovered:=true }],rfl,.tuple #[],by simp [results,Tryz.results56],⟨_,rfl⟩,rfl,h⟩
 | ret=>exact hz.elim
 | panic ch=>exact hz.elim
 | exit id=>obtain ⟨K,hK,_⟩:=hz;simp [rI] at hK
 | goto l=>exact hz
 | outgrown=>exact hz.elim
variable {R:Ending→World→Prop} {M:Prop} {W:World} {H:Hp} {Hs:List Hp} {σ:aL} {L:cD} {b:Nat}
theorem aBr (h:TG ⟨[],56,M,W,H⟩ Hs σ L (Rt Tryz.prog Tryz.f38 R)):TG ⟨[NS 56 [.pointer (some ⟨b,0,none⟩)]],56,M,W,H⟩ Hs σ L (VH Tryz.prog Tryz.f38 R) :=
 rtF Tryz.call56 (fun w hS=>(QN ⟨b,0,none⟩ w).mono (by rintro e u w' ⟨rfl,rfl,rfl⟩;exact ⟨⟨_,rfl⟩,rfl,hS⟩)) h
theorem FA {tE:Nat} {u:Int} {z0:Value} {σr:aL} (hT:Nat.beq 999999 tE=false)
  (h:∀ b3 cs3,TG ⟨[],56,M,W,H⟩ Hs ((999999,bF b3 155 cs3)::(tE,bF b 43 [.int .i64 u])::σr) L (Rt Tryz.prog Tryz.f38 R)) :
  TG ⟨[NS 56 [.pointer (some ⟨b,0,none⟩)]],56,M,W,H⟩ Hs ((tE,bF b 43 [z0])::σr) L (VI Tryz.prog Tryz.f38 R (CV (.iface 155 (.agg #[.int .i64 u])))) :=
 pnF (σ':=fun b3 cs3=>(999999,bF b3 155 cs3)::(tE,bF b 43 [.int .i64 u])::σr) Tryz.call56 (fun w hS=>QO hS hT) h
section
open Go.Lib
theorem VR (w:World):PredAtRunes Tryz.prog 199 #[] (fun x=>x==32) w:=by
 intro W x hx hb;show Calls Tryz.prog 199 #[encR x] W _
 go_enter Tryz.func199,Tryz.ntmps199
 go_wp2
 first | go_ret | go_ret2
 exact ⟨by simp [encR];rw [Bool.eq_iff_iff];simp;omega,0,rfl⟩
noncomputable def KQ (s:aE):Option (List aE):=cB (s.length≤1073741824) (some ((goFieldsP (fun x=>x==32) (bs s)).map (·.data.toList)))
theorem aBs {M:Prop} {W:World} {H:Hp} (hH:H.le (hp W)) (hg:Gv M H) (s:aE) {r:List aE} (hr:KQ s=some r):Calls Tryz.prog 198 #[.string (bs s),.func (.func 199) #[] #[]] W (eW M H W (fun v K=>∃ (ad0:Option Addr) (cap0:Nat),v=.slice ad0 r.length cap0∧Sl (aG cN) 1 K ad0 cap0 r)):=by
 unfold KQ at hr;obtain ⟨hl,hr⟩:=aF hr;obtain rfl:=Option.some.inj hr;refine (Any.strings_FieldsFunc_runes Tryz.lays229 199 #[] Tryz.call199 (fun x=>x==32) (bs s) W (by rw [fK];omega) (VR W) (by kernel_rfl) (by kernel_rfl)).mono ?_;rintro e w' ⟨A,rfl,hA,ho,hb⟩;have hE:fZ M W w':=fZ.of_below hg.gl.nq hb;generalize goFieldsP (fun x=>x==32) (bs s)=l at ho;refine ⟨⟨some ⟨A,0,none⟩,l.length,by rw [List.length_map],?_⟩,hE⟩;rcases ho.2 with ⟨h,_⟩ | ⟨g,cap,cur,h,_,hg,h1,h2,h3,h4⟩
 ·cases h
 cases h;refine ⟨by rw [List.length_map];unfold maxLen at h2;omega,fun i x hx=>?_⟩;rw [List.getElem?_map,Option.map_eq_some_iff] at hx;obtain ⟨y,hy,rfl⟩:=hx;refine ⟨_,cN y.data.toList,rfl,rfl,rfl,⟨by rw [dL rfl],fun j v hv=>?_⟩,rfl⟩;rw [dL rfl]
 cases j with
 | succ j=>simp [cN] at hv
 | zero =>
  have hv:v=.string (bs y.data.toList):=by simpa [cN] using hv.symm
  subst hv;refine ⟨cur,9,(0,0),by show (if A < W.heap.size then _ else w'.heap[A]?)=_;rw [if_neg (by omega)];exact hg,?_⟩;have hi:i < l.length:=(List.getElem?_eq_some_iff.1 hy).1;have:(cur.toList.take (l.length*1))[i]?=some (.string y):=by rw [h4];simp [hy]
  rw [List.getElem?_take,if_pos (by omega)] at this;rw [← TZ y];simpa using this
end
end T12
set_option maxHeartbeats 4000000
namespace T12
open Go Go.Proofs Pk Go.RowKit
theorem BH (p q:Addr) (w:World):CallsD Tryz.prog 45 #[.pointer (some p),.pointer (some q)] .returning w fun e u' w'=>e=.returned (.tuple #[])∧u'=.returning∧w'=w:=by
 refine callsD_of_wpS Tryz.func45 rfl fun c₀ cs hu=>?_;apply wpS_seq;apply wpS_region;simp [wpOpsS,go_sem,recoverD,hu,Tryz.ntmps45,Exit.thenS];apply wpS_seq;apply wpS_seq;apply wpS_region;simp [wpOpsS,go_sem,Exit.thenS];refine wpS_cond (t:=true) (by simp [Act.eval,Array.replicate]) ?_;simp only [if_true];refine wpS_of_wp (wp_ret ?_);cases c₀
 simp_all [Exit.thenS,bodyPostS,results,Tryz.results45]
section
variable {P:Program} {f:FuncId} {fn:Func} {c:Code} {nt:Nat} {w:World} {R:Ending→World→Prop}
theorem QP {l:List Value} (hf:P.funcs[f]?=some fn) (hb:fn.body=some c) (hn:fn.ntmps=nt) (hl:Nat.ble l.length nt=true)
  (h:∀ a,bM [] nt a (hU 0 l)→Pk.W P none c (fun _ _=>False) (fun a w=>Leaves P fn a.tmps R a.defers .returning w) [] (fun _ _ _=>False) a w):Calls P f l.toArray w R:=by
 have hl':l.length≤nt:=by simpa using hl
 have h1:=h { tmps:=l.toArray++Array.replicate (fn.ntmps - l.toArray.size) undef,defers:=[] } ⟨rfl,by simp [hn];omega,fun i v hi=>by
  obtain ⟨_,h2⟩:=jU l 0 i v hi;simp only [Nat.sub_zero] at h2;have hlt:i < l.length:=(List.getElem?_eq_some_iff.1 h2).1;rw [Array.getElem?_append_left (by simpa using hlt)]
  simpa using h2⟩
 refine calls_of_wp_defers hf hb ((wpIn_wide (n:=0)).1 (wpIn_mono h1 ?_));intro z a w hz
 cases z with
 | normal=>exact hz.elim
 | ret=>exact hz
 | panic ch=>exact hz.elim
 | exit id=>obtain ⟨K,hK,_⟩:=hz;simp [rI] at hK
 | goto l=>exact hz
 | outgrown=>exact hz.elim
variable {n:aS} {p:List PanicEntry→aS} {a:Act} {D:List Deferred} {k:Nat} {L:cD} {ops:Array Oper} {rest:List Oper} {ty:TypeId} {pos:String} {af:Array Edge}
theorem zX {x:Operand} {g:FuncId} {us vs:Array Value} (hA:bM D k a L) (hx:ev L x=some (.func (.func g) us vs)) (h:∀ a,bM (⟨.fn (.func g) vs,us⟩::D) k a L→O P none ops n p rest a w):O P none ops n p (⟨none,.defer ⟨.value x,#[],#[]⟩,ty,pos,af,none⟩::rest) a w:=by
 simp only [O,Region.wanted,if_true];refine ⟨fun _ _=>trivial,?_⟩;rw [show (FW none).round=none from rfl,Oper.semAt_none];have hr:(execOp a.eval ⟨none,.defer ⟨.value x,#[],#[]⟩,ty,pos,af,none⟩).run P w=.ok (.defer ⟨.fn (.func g) vs,us⟩) w:=by
  simp [execOp,resolve,hA.eval hx,Deferred.ofValue]
 rw [hr];show O P none ops n p rest _ w;refine h _ ⟨?_,?_,?_⟩
 ·simp [Act.put,hA.defers]
 ·simpa [Act.put] using hA.size
 intro i v hi;simpa [Act.put] using hA.get i v hi
end
theorem QQ {M:Prop} {W:World} {H:Hp} (hH:H.le (hp W)) (s:aE) (c:gE) (hc:∀ (w:World) (K:Hp),K.le (hp w)→H.le K→Calls Tryz.prog 46 #[.string (bs s)] w (bN M w (.agg (cW c).toArray))):Calls Tryz.prog 24 #[.string (bs s)] W (bN M W (.tuple #[.agg (cW c).toArray,.bool true])):=by
 refine QP Tryz.func24 rfl Tryz.ntmps24 rfl ?_;intro a hA;have hS:=St.start M W hH;refine eE (cH (jK 1 hA rfl hS Tryz.zeroValue85 rfl fun b w hS hb a hA=>jK 2 hA rfl hS Tryz.zeroValue4 rfl fun b2 w hS hb2 a hA=>eJ ?_));refine eE (cH (wT (f:=.func 45) (xs:=[]) (ys:=[.tmp 2,.tmp 3]) hA rfl rfl rfl fun a hA=>zX hA rfl fun a hA=>eJ ?_));refine eE (cH (eN hA rfl rfl fun a hA=>oW (x:=.func 46) (xs:=[.tmp 5]) hA rfl hS rfl rfl Tryz.call46 rfl (hc _ _ hS.vis_le (hS.at 0 rfl)) fun w hS a hA=>?_));refine iH 1 (cs:=cW c) hA hS rfl rfl Tryz.sizeOf85 rfl rfl rfl rfl rfl fun w hS a hA=>?_;refine iH 2 (cs:=[.bool true]) hA hS rfl rfl Tryz.sizeOf4 rfl rfl rfl rfl rfl fun w hS a hA=>eJ (DE ?_);rw [hA.defers];refine leaves_cons (f:=45) (args:=#[.pointer (some ⟨b,0,none⟩),.pointer (some ⟨b2,0,none⟩)]) (by simp) (by simp [go_sem]) ?_;refine (BH ⟨b,0,none⟩ ⟨b2,0,none⟩ w).mono ?_;rintro e u' w'' ⟨rfl,rfl,rfl⟩;show ∃ v,(results Tryz.f24 a.tmps).run Tryz.prog w''=.ok v w''∧bN M W (.tuple #[.agg (cW c).toArray,.bool true]) (.returned v) w'';have h2:=hA.tmp (i:=2) rfl;have h3:=hA.tmp (i:=3) rfl;have c1:aM (hp w'') ⟨b,0,none⟩ (cW c):=cU (hS.get (t:=1) rfl);have c2:aM (hp w'') ⟨b2,0,none⟩ [.bool true]:=cU (hS.get (t:=2) rfl);have l1:(loadVar 85 ⟨b,0,none⟩).run Tryz.prog w''=.ok (.agg (cW c).toArray) w'':=by
  have h0:(loadCells ⟨b,0,none⟩ (cW c).length).run Tryz.prog w''=.ok (cW c).toArray w'':=run_loadCells_list (P:=Tryz.prog) (w:=w'') _ (cW c) (fun j v hv=>c1.cell hv);have h1:(cW c).length=4:=rfl;rw [h1] at h0;simp [loadVar,Tryz.isAgg85,Tryz.sizeOf85,h0]
 have l2:(loadVar 4 ⟨b2,0,none⟩).run Tryz.prog w''=.ok (.bool true) w'':=by
  have h0:=c2.cell (j:=0) rfl;rw [show (⟨b2,0,none⟩:Addr).add 0=⟨b2,0,none⟩ from rfl] at h0;simp [loadVar,Tryz.isAgg4,h0]
 refine ⟨_,?_,rfl,hS.ext⟩;rw [Array.getD_eq_getD_getElem?] at h2 h3;simp [results,Tryz.results24,h2,h3,l1,l2,asAddr]
end T12
set_option maxHeartbeats 4000000
namespace T12
open Go Go.Proofs Pk Go.RowKit
section
variable {P:Program} {r:Option Nat} {n:aS} {p:List PanicEntry→aS} {a:Act} {w:World} {D:List Deferred} {k:Nat} {L:cD} {ops:Array Oper} {rest:List Oper} {d:Nat} {ty:TypeId} {pos:String} {af:Array Edge}
theorem VS {y:Operand} {t u te:TypeId} {pe:Value} {ms:_} (hA:bM D k a L) (hu':P.underlying t=some (.interface ms)) (hd:Nat.blt d k=true) (hy:ev L y=some (.iface te pe)) (h:∀ a,bM D k a ((d,.bool false)::L)→O P r ops n p rest a w):O P r ops n p (⟨some d,.binOp .eql t y (.const .nilIface) u,ty,pos,af,none⟩::rest) a w:=by
 have hu:P.underlying t=some (.interface (P.methodsAt t)):=by rw [hu'];simp [Program.methodsAt,hu']
 refine cM rfl (fun _ h=>by cases h) (w':=w) (v:=.bool false) ?_ (h _ (hA.put hd _));simp [execOp,hA.eval hy,show a.eval (.const .nilIface)=.nilIface from rfl,eqGuard,run_eql_held_nil w t _ _ hu,Result.andThen]
end
theorem BI {M:Prop} {W w:World} {H:Hp} {b b2:Nat} {s:aE} (hS:St M W H [H] [(2,bF b2 4 [.bool false]),(1,bF b 85 [.int .u8 0,.int .i64 0,.int .i64 0,.int .i64 0])] w) :
  CallsD Tryz.prog 45 #[.pointer (some ⟨b,0,none⟩),.pointer (some ⟨b2,0,none⟩)] (.panicking (CV (.iface 134 (.agg #[.string (bs s)])))) w fun e u' w'=>e=.returned (.tuple #[])∧u'=.panicking [{ v:=.iface 134 (.agg #[.string (bs s)]),recovered:=true }] ∧
   ∃ b3 cs3,St M W H [H] [(3,bF b3 134 cs3),(2,bF b2 4 [.bool false]),(1,bF b 85 (cW ⟨0,⟨0,0,0⟩⟩))] w':=by
 refine callsD_of_wpS Tryz.func45 rfl fun c₀ cs hu=>?_;apply wpS_seq;apply wpS_region;obtain ⟨v,hv⟩:∃ v:Value,v=.agg #[.string (bs s)]:=⟨_,rfl⟩;rw [← hv] at hu ⊢;simp [wpOpsS,go_sem,recoverD,hu,Tryz.ntmps45,Exit.thenS,CV];refine wpS_of_wp ?_;refine (wpIn_wide (n:=0)).1 (wpIn_mono (show Pk.W Tryz.prog none _ (fun a w=>a.defers=[]∧∃ b3 cs3,St M W H [H] [(3,bF b3 134 cs3),(2,bF b2 4 [.bool false]),(1,bF b 85 (cW ⟨0,⟨0,0,0⟩⟩))] w) (fun _ _=>False) [] (fun _ _ _=>False) _ w from ?_) ?_)
 ·have hA:bM [] 17 { tmps:=#[.pointer (some ⟨b,0,none⟩),.pointer (some ⟨b2,0,none⟩)]++((Array.replicate 15 undef).setIfInBounds 3 (.iface 134 v)).setIfInBounds 0 (.iface 134 v),defers:=[] } [(0,.pointer (some ⟨b,0,none⟩)),(1,.pointer (some ⟨b2,0,none⟩)),(2,.iface 134 v)]:=by
   refine ⟨rfl,by simp,fun i u h=>?_⟩;rcases i with _ | _ | _ | i
   ·exact h
   ·exact h
   ·exact h
   cases (show (none:Option Value)=some u from h)
  revert hA;generalize ({ tmps:=_,defers:=[] }:Act)=a;intro hA;subst hv;refine eE (eE (cH ?_));refine eN hA rfl rfl fun a hA=>?_;refine VS hA Tryz.underlying20 rfl rfl fun a hA=>eJ (iN hA rfl (fun h=>by cases h) (fun _=>sF ?_));refine eE (eE (cH (eN hA rfl rfl fun a hA=>EX hA rfl Tryz.underlying134 rfl rfl fun a hA=>eN hA rfl rfl fun a hA=>kP (vs:=[.agg #[.string (bs s)],.bool true]) hA rfl rfl rfl fun a hA=>kP (vs:=[.agg #[.string (bs s)],.bool true]) hA rfl rfl rfl fun a hA=>jK 3 hA rfl hS Tryz.zeroValue134 rfl fun b3 w hS hb a hA=>?_)));refine iH 3 (cs:=[.string (bs s)]) hA hS rfl rfl Tryz.sizeOf134 rfl rfl rfl rfl rfl fun w hS a hA=>fC hA rfl rfl fun a hA=>eJ ?_;refine eE (cH (eN hA rfl rfl fun a hA=>NI hA rfl rfl fun a hA=>eJ (iN hA rfl (fun h=>by cases h) (fun _=>sF ?_))));refine cH (zA (cs:=cW ⟨0,⟨0,0,0⟩⟩) hA rfl T12.B85 rfl rfl fun a hA=>?_);refine iH 1 (cs:=cW ⟨0,⟨0,0,0⟩⟩) hA hS rfl rfl Tryz.sizeOf85 rfl rfl rfl rfl rfl fun w hS a hA=>?_;refine iH 2 (cs:=[.bool false]) hA hS rfl rfl Tryz.sizeOf4 rfl rfl rfl rfl rfl fun w hS a hA=>eJ ?_;exact ⟨hA.defers,b3,_,hS⟩
 intro z a w' hz
 cases z with
 | normal =>
  obtain ⟨hd,h⟩:=hz;subst hv;exact ⟨hd,.panicking [{ v:=.iface 134 (.agg #[.string (bs s)]),recovered:=true }],rfl,.tuple #[],by simp [results,Tryz.results45],rfl,rfl,h⟩
 | ret=>exact hz.elim
 | panic ch=>exact hz.elim
 | exit id=>obtain ⟨K,hK,_⟩:=hz;simp [rI] at hK
 | goto l=>exact hz
 | outgrown=>exact hz.elim
section
variable {P:Program} {f:FuncId} {fn:Func} {c:Code} {nt:Nat} {w:World} {R:Ending→World→Prop}
theorem KR {l:List Value} (hf:P.funcs[f]?=some fn) (hb:fn.body=some c) (hn:fn.ntmps=nt) (hl:Nat.ble l.length nt=true)
  (h:∀ a,bM [] nt a (hU 0 l)→Pk.W P none c (fun _ _=>False) (fun a w=>Leaves P fn a.tmps R a.defers .returning w) [] (fun ch a w=>Leaves P fn a.tmps R a.defers (.panicking ch) w) a w):Calls P f l.toArray w R:=by
 have hl':l.length≤nt:=by simpa using hl
 have h1:=h { tmps:=l.toArray++Array.replicate (fn.ntmps - l.toArray.size) undef,defers:=[] } ⟨rfl,by simp [hn];omega,fun i v hi=>by
  obtain ⟨_,h2⟩:=jU l 0 i v hi;simp only [Nat.sub_zero] at h2;have hlt:i < l.length:=(List.getElem?_eq_some_iff.1 h2).1;rw [Array.getElem?_append_left (by simpa using hlt)]
  simpa using h2⟩
 refine calls_of_wp_defers hf hb ((wpIn_wide (n:=0)).1 (wpIn_mono h1 ?_));intro z a w hz
 cases z with
 | normal=>exact hz.elim
 | ret=>exact hz
 | panic ch=>exact hz
 | exit id=>obtain ⟨K,hK,_⟩:=hz;simp [rI] at hK
 | goto l=>exact hz
 | outgrown=>exact hz.elim
end
theorem VT {M:Prop} {W:World} {H:Hp} (hH:H.le (hp W)) (s:aE) (hc:∀ (w:World) (K:Hp),K.le (hp w)→H.le K→Calls Tryz.prog 46 #[.string (bs s)] w (sQ M w (fun c=>.agg (cW c).toArray) (.iface 134 (.agg #[.string (bs s)])) (.inr ()))):Calls Tryz.prog 24 #[.string (bs s)] W (bN M W (.tuple #[.agg (cW ⟨0,⟨0,0,0⟩⟩).toArray,.bool false])):=by
 refine KR Tryz.func24 rfl Tryz.ntmps24 rfl ?_;intro a hA;have hS:=St.start M W hH;refine eE (cH (jK 1 hA rfl hS Tryz.zeroValue85 rfl fun b w hS hb a hA=>jK 2 hA rfl hS Tryz.zeroValue4 rfl fun b2 w hS hb2 a hA=>eJ ?_));refine eE (cH (wT (f:=.func 45) (xs:=[]) (ys:=[.tmp 2,.tmp 3]) hA rfl rfl rfl fun a hA=>zX hA rfl fun a hA=>eJ ?_));refine eE (cH (eN hA rfl rfl fun a hA=>?_));have hcc:=hc w _ hS.vis_le (hS.at 0 rfl);refine gH rfl (fun _ h=>by cases h) (fD (xs:=[.tmp 5]) (first:=#[]) (cap:=#[]) hA (x:=.func 46) rfl rfl Tryz.call46) (by simpa using hcc) ?_ ?_ ?_
 ·rintro v w' ⟨h,_⟩;cases h
 ·rintro ch w' ⟨h,hE⟩;cases h;have hS2:=hS.ext' hE;rw [hA.defers];refine leaves_cons (f:=45) (args:=#[.pointer (some ⟨b,0,none⟩),.pointer (some ⟨b2,0,none⟩)]) (by simp) (by simp [go_sem]) ?_;refine (BI (s:=s) hS2).mono ?_;rintro e u' w'' ⟨rfl,rfl,b3,cs3,hS3⟩;show ∃ v,(results Tryz.f24 a.tmps).run Tryz.prog w''=.ok v w''∧bN M W (.tuple #[.agg (cW ⟨0,⟨0,0,0⟩⟩).toArray,.bool false]) (.returned v) w'';have h2:=hA.tmp (i:=2) rfl;have h3:=hA.tmp (i:=3) rfl;have c1:aM (hp w'') ⟨b,0,none⟩ (cW ⟨0,⟨0,0,0⟩⟩):=cU (hS3.get (t:=1) rfl);have c2:aM (hp w'') ⟨b2,0,none⟩ [.bool false]:=cU (hS3.get (t:=2) rfl);have l1:(loadVar 85 ⟨b,0,none⟩).run Tryz.prog w''=.ok (.agg (cW ⟨0,⟨0,0,0⟩⟩).toArray) w'':=by
   have h0:(loadCells ⟨b,0,none⟩ (cW ⟨0,⟨0,0,0⟩⟩).length).run Tryz.prog w''=.ok (cW ⟨0,⟨0,0,0⟩⟩).toArray w'':=run_loadCells_list (P:=Tryz.prog) (w:=w'') _ (cW ⟨0,⟨0,0,0⟩⟩) (fun j v hv=>c1.cell hv);have h1:(cW ⟨0,⟨0,0,0⟩⟩).length=4:=rfl;rw [h1] at h0;simp [loadVar,Tryz.isAgg85,Tryz.sizeOf85,h0]
  have l2:(loadVar 4 ⟨b2,0,none⟩).run Tryz.prog w''=.ok (.bool false) w'':=by
   have h0:=c2.cell (j:=0) rfl;rw [show (⟨b2,0,none⟩:Addr).add 0=⟨b2,0,none⟩ from rfl] at h0;simp [loadVar,Tryz.isAgg4,h0]
  refine ⟨_,?_,rfl,hS3.ext⟩;rw [Array.getD_eq_getD_getElem?] at h2 h3;simp [results,Tryz.results24,h2,h3,l1,l2,asAddr]
 rintro w' ⟨h,_⟩;cases h
end T12
set_option maxHeartbeats 4000000
namespace T12
open Go Go.Proofs Pk Tryz
noncomputable section
def FB (line:aE) (s1:Int):Option ((Int)⊕(Int)) :=
 ((
  if s1 < (line.length:Int) then (
   cB (0≤s1) <|
   (line[s1.toNat]?).bind fun x0 =>
   some (decide ((x0.toNat:Int)≠32)))
  else
  some false
 ):Option (Bool)).bind fun t31 =>
 if t31 then (
  cB (-9223372036854775808≤(s1+1)∧(s1+1)≤9223372036854775807) <|
  some (.inl (s1+1)))
 else
 some (.inr s1)
def TO (line:aE) (fq:Int):Option (Int) :=
 (bG (FB line) fq).bind fun e16 =>
 some e16
def TP (cQ:aE):Option (Int×Bool) :=
 if cQ=[114,101,115,117,108,116] then (
  some (0,false))
 else
 if cQ=[109,111,118,101] then (
  some (0,true))
 else
 ((
  if cQ=[100,97,121] then (
   some (decide (cQ=[100,97,121])))
  else
  ((
   if cQ=[104,111,117,115,101] then (
    some (decide (cQ=[104,111,117,115,101])))
   else
   ((
    if cQ=[97,100,111,112,116] then (
     some (decide (cQ=[97,100,111,112,116])))
    else
    some (decide (cQ=[111,114,100,101,114]))
   ):Option (Bool)).bind fun t0 =>
   some t0
  ):Option (Bool)).bind fun t1 =>
  some t1
 ):Option (Bool)).bind fun t2 =>
 if t2 then (
  some (1,false))
 else
 if cQ=[115,97,121] then (
  some (1,true))
 else
 ((
  if cQ=[114,101,109,111,118,101] then (
   some (decide (cQ=[114,101,109,111,118,101])))
  else
  ((
   if cQ=[99,105,116,101] then (
    some (decide (cQ=[99,105,116,101])))
   else
   some (decide (cQ=[112,97,105,114]))
  ):Option (Bool)).bind fun t3 =>
  some t3
 ):Option (Bool)).bind fun t4 =>
 if t4 then (
  some (2,false))
 else
 if cQ=[99,104,97,110,103,101] then (
  some (2,true))
 else
 ((
  if cQ=[98,105,110,100] then (
   some (decide (cQ=[98,105,110,100])))
  else
  ((
   if cQ=[104,105,100,101] then (
    some (decide (cQ=[104,105,100,101])))
   else
   some (decide (cQ=[116,101,108,108]))
  ):Option (Bool)).bind fun t5 =>
  some t5
 ):Option (Bool)).bind fun t6 =>
 if t6 then (
  some (3,false))
 else
 if cQ=[97,100,100] then (
  some (3,true))
 else
 if cQ=[100,105,118,105,100,101] then (
  some (4,false))
 else
 if cQ=[112,97,112,101,114] then (
  some (4,true))
 else
 some ((-1),false)
def zY (t21:aE) (s1:Nat×Int):Option ((Nat×Int)⊕((Int)⊕(Int×Bool))) :=
 if (s1.1:Int) < (t21.length:Int) then (
  ((
   (t21[s1.1]?).bind fun x1 =>
   if (x1.toNat:Int) < 48 then (
    some true)
   else
   some (decide (57 < (x1.toNat:Int)))
  ):Option (Bool)).bind fun t0 =>
  if t0 then (
   some (.inr (.inr (0,false))))
  else
  cB (-9223372036854775808≤(10*s1.2)∧(10*s1.2)≤9223372036854775807) <|
  (t21[s1.1]?).bind fun x0 =>
  cB (-9223372036854775808≤((10*s1.2)+(((x0.toNat:Int) - 48)%256))∧((10*s1.2)+(((x0.toNat:Int) - 48)%256))≤9223372036854775807) <|
  cB (-9223372036854775808≤((s1.1:Int)+1)∧((s1.1:Int)+1)≤9223372036854775807) <|
  some (.inl ((s1.1+1),((10*s1.2)+(((x0.toNat:Int) - 48)%256)))))
 else
 some (.inr (.inl s1.2))
def NY (aj:aE):Option (Int×Bool) :=
 ((
  if 0 < (aj.length:Int) then (
   (aj[0]?).bind fun x0 =>
   some (decide ((x0.toNat:Int)=45)))
  else
  some false
 ):Option (Bool)).bind fun t7 =>
 ((
  if t7 then (
   cB (1≤aj.length) <|
   some (aj.drop 1))
  else
  some aj
 ):Option (aE)).bind fun t21 =>
 ((
  if (t21.length:Int)=0 then (
   some true)
  else
  if 9 < (t21.length:Int) then (
   some true)
  else
  (t21[0]?).bind fun x1 =>
  if (x1.toNat:Int)=48 then (
   if 1 < (t21.length:Int) then (
    some true)
   else
   some t7)
  else
  some false
 ):Option (Bool)).bind fun t44 =>
 if t44 then (
  some (0,false))
 else
 (bG (zY t21) (0,0)).bind fun eA1=>match eA1 with
 | .inr z=>some z
 | .inl t0 =>
 ((
  if t7 then (
   cB (-9223372036854775808≤(0 - t0)∧(0 - t0)≤9223372036854775807) <|
   some (0 - t0))
  else
  some t0
 ):Option (Int)).bind fun t1 =>
 some (t1,true)
def FC (r8:Int×Bool) (line:aE) (s1:Nat×Int×List Int):Option ((Nat×Int×List Int)⊕((Int×List Int)⊕(aE×List Int×aE×Bool))) :=
 if (s1.1:Int) < r8.1 then (
  if s1.2.1=(line.length:Int) then (
   some (.inr (.inr ([],([]:List Int),[],false))))
  else
  cB (-9223372036854775808≤(s1.2.1+1)∧(s1.2.1+1)≤9223372036854775807) <|
  (TO line (s1.2.1+1)).bind fun r0 =>
  cB (0≤(s1.2.1+1)) <|
  cB (0≤r0) <|
  cB ((s1.2.1+1).toNat≤r0.toNat∧r0.toNat≤line.length) <|
  (NY ((line.drop ((s1.2.1+1).toNat)).take (r0.toNat - ((s1.2.1+1).toNat)))).bind fun r1 =>
  if r1.2 then (
   cB (s1.2.2.length+1≤1073741824) <|
   cB (-9223372036854775808≤((s1.1:Int)+1)∧((s1.1:Int)+1)≤9223372036854775807) <|
   some (.inl ((s1.1+1),r0,(s1.2.2++[r1.1]))))
  else
  some (.inr (.inr ([],([]:List Int),[],false))))
 else
 some (.inr (.inl (s1.2.1,s1.2.2)))
def m16 (line:aE):Option (aE×List Int×aE×Bool) :=
 (TO line 0).bind fun r1 =>
 cB (0≤r1) <|
 cB (r1.toNat≤line.length) <|
 (TP (line.take r1.toNat)).bind fun r8 =>
 if r8.1 < 0 then (
  some ([],([]:List Int),[],false))
 else
 (bG (FC r8 line) (0,r1,([]:List Int))).bind fun eA1=>match eA1 with
 | .inr z=>some z
 | .inl t0 =>
 if r8.2==decide (t0.1 < (line.length:Int)) then (
  if r8.2 then (
   cB (-9223372036854775808≤(t0.1+1)∧(t0.1+1)≤9223372036854775807) <|
   cB (0≤(t0.1+1)) <|
   cB ((t0.1+1).toNat≤line.length) <|
   some ((line.take r1.toNat),t0.2,(line.drop ((t0.1+1).toNat)),true))
  else
  some ((line.take r1.toNat),t0.2,[],true))
 else
 some ([],([]:List Int),[],false)
def QR (lines:List aE) (s1:Nat×Int×Int):Option ((Nat×Int×Int)⊕(Int×Int)) :=
 if (s1.1:Int) < (lines.length:Int) then (
  (lines[s1.1]?).bind fun x0 =>
  (m16 x0).bind fun r0 =>
  ((
   if r0.2.2.2 then (
    some (decide (r0.1=[116,101,108,108])))
   else
   some false
  ):Option (Bool)).bind fun t0 =>
  ((
   if t0 then (
    some (IntKind.i64.wrap (s1.2.2+1)))
   else
   some s1.2.2
  ):Option (Int)).bind fun t1 =>
  some (.inl ((s1.1+1),(IntKind.i64.wrap (s1.2.1+(x0.length:Int))),t1)))
 else
 some (.inr (s1.2.1,s1.2.2))
def m5 (lines:List aE):Option (Bool) :=
 (bG (QR lines) (0,0,0)).bind fun e55 =>
 ((
  if e55.2≤8 then (
   if (lines.length:Int)≤40 then (
    if e55.1≤1500 then (
     some true)
    else
    if (lines.length:Int)≤62 then (
     if e55.1≤200 then (
      some true)
     else
     if (lines.length:Int)=1 then (
      some (decide (e55.1≤410)))
     else
     some false)
    else
    if (lines.length:Int)=1 then (
     some (decide (e55.1≤410)))
    else
    some false)
   else
   if (lines.length:Int)≤62 then (
    if e55.1≤200 then (
     some true)
    else
    if (lines.length:Int)=1 then (
     some (decide (e55.1≤410)))
    else
    some false)
   else
   if (lines.length:Int)=1 then (
    some (decide (e55.1≤410)))
   else
   some false)
  else
  some false
 ):Option (Bool)).bind fun t0 =>
 some t0
def QS (lines:List aE) (s1:Nat):Option ((Nat)⊕((Unit)⊕Bool)) :=
 if (s1:Int) < (lines.length:Int) then (
  (lines[s1]?).bind fun x0 =>
  if 400 < (x0.length:Int) then (
   some (.inr (.inr false)))
  else
  some (.inl (s1+1)))
 else
 some (.inr (.inl ()))
def m6 (lines:List aE):Option (Bool) :=
 (bG (QS lines) 0).bind fun e16=>match e16 with
 | .inr z=>some z
 | .inl t0 =>
 some (decide ((lines.length:Int)≤60))
def m18  : Option (List aE) :=
 some ([[104,111,117,115,101,32,53],[115,97,121,32,49,49,32,84,104,101,32,72,111,117,115,101,32,109,101,116,46],[109,111,118,101,32,116,104,105,115,32,72,111,117,115,101,32,110,111,116,101,115,32,116,104,101,32,114,101,112,111,114,116],[112,97,112,101,114,32,51,32,48,32,50,32,51,32,119,101,108,99,111,109,101,115],[97,100,111,112,116,32,51],[100,105,118,105,100,101,32,48,32,48,32,51,32,50],[116,101,108,108,32,49,32,48,32,48],[116,101,108,108,32,49,32,49,32,48],[116,101,108,108,32,49,32,48,32,49],[116,101,108,108,32,49,32,49,32,49],[116,101,108,108,32,50,32,48,32,52],[114,101,115,117,108,116],[116,101,108,108,32,50,32,49,32,52],[114,101,115,117,108,116],[111,114,100,101,114,32,49,50],[98,105,110,100,32,51,32,52,32,50,48],[104,105,100,101,32,49,49,32,50,32,49,57,57,48],[99,105,116,101,32,49,50,32,48]]:List aE)
def zZ (aj:List aE) (cl:aE→Option Bool) (s1:Nat):Option ((Nat)⊕((Unit)⊕Int)) :=
 if (s1:Int) < (aj.length:Int) then (
  (aj[s1]?).bind fun x0 =>
  (cl x0).bind fun r0 =>
  if r0 then (
   some (.inr (.inr (s1:Int))))
  else
  some (.inl (s1+1)))
 else
 some (.inr (.inl ()))
def VU (aj:List aE) (cl:aE→Option Bool):Option (Int) :=
 (bG (zZ aj cl) 0).bind fun e19=>match e19 with
 | .inr z=>some z
 | .inl t0 =>
 some (-1)
def QT (aj:List aE) (cl:aE→Option Bool):Option (Bool) :=
 (VU aj cl).bind fun r1 =>
 some (decide (0≤r1))
def NZ (aj:aE):Option (Bool) :=
 some (decide (400 < (aj.length:Int)))
def TQ (lines:List aE):Option (Int) :=
 ((
  if 60 < (lines.length:Int) then (
   some true)
  else
  (QT lines (NZ)).bind fun r0 =>
  some r0
 ):Option (Bool)).bind fun t8 =>
 if t8 then (
  some 3)
 else
 some 0
def xH (ed:Int) (low:Int) (high:Int):Option (Bool) :=
 ((
  if low≤ed then (
   some (decide (ed≤high)))
  else
  some false
 ):Option (Bool)).bind fun t4 =>
 some t4
def jS (iu:Bool) (e:Int):Option (Unit⊕Unit) :=
 if iu then (
  some (.inl ()))
 else
 some (.inr ())
def QU (ac:aH) (bo:List Int) (cz:aE):Option (aH⊕Int) :=
 (bo[0]?).bind fun x3 =>
 (xH x3 ac.state.day 99999).bind fun r0 =>
 (jS r0 2).bind fun r1=>match r1 with
 | .inl y0=>(
  some (.inl (⟨({ac.state with day:=x3}:cV)⟩:aH)))
 | .inr _=>(
  some (.inr 2))
def FD (aj:List eB):Option (List eB) :=
 cB (([]:List eB).length+aj.length≤1073741824) <|
 some (([]:List eB)++aj)
def KS (aj:List aI):Option (List aI) :=
 cB (([]:List aI).length+aj.length≤1073741824) <|
 some (([]:List aI)++aj)
def FE (cc:List aI) (cx:aI):Option (List aI) :=
 (KS cc).bind fun r4 =>
 cB (r4.length+([cx]:List aI).length≤1073741824) <|
 some (r4++([cx]:List aI))
def VV (ac:aH) (parts:List eB):Option (bE) :=
 some (⟨1,ac.state.day,1,10,parts⟩:bE)
def QV (ac:aH) (parts:List eB):Option (bE) :=
 some (⟨1,ac.state.day,1,10,parts⟩:bE)
def AA (am:bE) (s1:Nat×List aI):Option ((Nat×List aI)⊕(List aI)) :=
 if (s1.1:Int) < (am.parts.length:Int) then (
  (am.parts[s1.1]?).bind fun x0 =>
  cB (s1.2.length+x0.paragraphs.length≤1073741824) <|
  some (.inl ((s1.1+1),(s1.2++x0.paragraphs))))
 else
 some (.inr s1.2)
def OA (am:bE):Option (List aI) :=
 (bG (AA am) (0,([]:List aI))).bind fun e82 =>
 some e82
def qR (ed:Int) (low:Int) (high:Int):Option (Bool) :=
 ((
  if low≤ed then (
   some (decide (ed≤high)))
  else
  some false
 ):Option (Bool)).bind fun t4 =>
 some t4
def FF (ed:Int):Option (Bool) :=
 (qR ed 0 99999).bind fun r1 =>
 some r1
def vF (au:aI) (cm:aI→Option Bool):Option (Bool) :=
 (cm au).bind fun r4 =>
 some (!r4)
def xI (aj:List aI) (cl:aI→Option Bool) (s1:Nat):Option ((Nat)⊕((Unit)⊕Int)) :=
 if (s1:Int) < (aj.length:Int) then (
  (aj[s1]?).bind fun x0 =>
  (cl x0).bind fun r0 =>
  if r0 then (
   some (.inr (.inr (s1:Int))))
  else
  some (.inl (s1+1)))
 else
 some (.inr (.inl ()))
def KT (aj:List aI) (cl:aI→Option Bool):Option (Int) :=
 (bG (xI aj cl) 0).bind fun e19=>match e19 with
 | .inr z=>some z
 | .inl t0 =>
 some (-1)
def KU (aj:List aI) (cl:aI→Option Bool):Option (Bool) :=
 (KT aj cl).bind fun r1 =>
 some (decide (0≤r1))
def FG (cc:List aI) (right:aI→Option Bool):Option (Bool) :=
 (KU cc (fun x0_=>vF x0_ right)).bind fun r5 =>
 some (!r5)
def QW (ed:Int):Option (Bool) :=
 (qR ed 1 999).bind fun r1 =>
 some r1
def vG (au:Int) (cm:Int→Option Bool):Option (Bool) :=
 (cm au).bind fun r1 =>
 some (!r1)
def sU (aj:List UInt8) (cl:Int→Option Bool) (s1:Nat):Option ((Nat)⊕((Unit)⊕Int)) :=
 if (s1:Int) < (aj.length:Int) then (
  (aj[s1]?).bind fun x0 =>
  (cl (x0.toNat:Int)).bind fun r0 =>
  if r0 then (
   some (.inr (.inr (s1:Int))))
  else
  some (.inl (s1+1)))
 else
 some (.inr (.inl ()))
def FH (aj:List UInt8) (cl:Int→Option Bool):Option (Int) :=
 (bG (sU aj cl) 0).bind fun e19=>match e19 with
 | .inr z=>some z
 | .inl t0 =>
 some (-1)
def BJ (aj:List UInt8) (cl:Int→Option Bool):Option (Bool) :=
 (FH aj cl).bind fun r1 =>
 some (decide (0≤r1))
def FI (cc:List UInt8) (right:Int→Option Bool):Option (Bool) :=
 (BJ cc (fun x0_=>vG x0_ right)).bind fun r5 =>
 some (!r5)
def xJ (fy:Int):Option (Bool) :=
 ((
  if (32:Int)≤fy then (
   some (decide (fy≤126)))
  else
  some false
 ):Option (Bool)).bind fun t4 =>
 some t4
def QX (aj:aE):Option (Bool) :=
 ((
  (qR (aj.length:Int) 1 200).bind fun r0 =>
  if r0 then (
   cB (aj.length≤1073741824) <|
   (FI aj (xJ)).bind fun r1 =>
   some r1)
  else
  some false
 ):Option (Bool)).bind fun t0 =>
 some t0
def vH (de:aI):Option (Bool) :=
 ((
  (QW de.anchor).bind fun r0 =>
  if r0 then (
   (QX de.text).bind fun r1 =>
   some r1)
  else
  some false
 ):Option (Bool)).bind fun t0 =>
 some t0
def FJ (am:bE) (s1:Nat):Option ((Nat)⊕((Unit)⊕Bool)) :=
 if (s1:Int) < (am.parts.length:Int) then (
  (am.parts[s1]?).bind fun x0 =>
  ((
   (FF x0.day).bind fun r0 =>
   if r0 then (
    if am.bound < x0.day then (
     some true)
    else
    if 0 < (s1:Int) then (
     (am.parts[((s1:Int) - 1).toNat]?).bind fun x1 =>
     some (decide (x0.day≤x1.day)))
    else
    some false)
   else
   some true
  ):Option (Bool)).bind fun t0 =>
  if t0 then (
   some (.inr (.inr false)))
  else
  some (.inl (s1+1)))
 else
 some (.inr (.inl ()))
def VW (am:bE):Option (Bool) :=
 (bG (FJ am) 0).bind fun e55=>match e55 with
 | .inr z=>some z
 | .inl t58 =>
 ((
  (qR am.number 1 99).bind fun r0 =>
  if r0 then (
   (FF am.bound).bind fun r1 =>
   if r1 then (
    (qR am.height 1 60).bind fun r2 =>
    if r2 then (
     (qR am.width 10 80).bind fun r3 =>
     if r3 then (
      (OA am).bind fun r4 =>
      (FG r4 (vH)).bind fun r5 =>
      some r5)
     else
     some false)
    else
    some false)
   else
   some false)
  else
  some false
 ):Option (Bool)).bind fun t0 =>
 some t0
def FK (r7:List aI) (s1:Nat×(List (Int×Bool))):Option ((Nat×(List (Int×Bool)))⊕(((List (Int×Bool)))⊕Int)) :=
 if (s1.1:Int) < (r7.length:Int) then (
  (r7[s1.1]?).bind fun x0 =>
  if (eK s1.2 x0.anchor).getD false then (
   some (.inr (.inr 6)))
  else
  some (.inl ((s1.1+1),(put s1.2 x0.anchor true))))
 else
 some (.inr (.inl s1.2))
def IZ (am:bE):Option (Int) :=
 (OA am).bind fun r7 =>
 ((
  if 6 < (am.parts.length:Int) then (
   some true)
  else
  some (decide (30 < (r7.length:Int)))
 ):Option (Bool)).bind fun t30 =>
 if t30 then (
  some 3)
 else
 (VW am).bind fun r0 =>
 if r0 then (
  (bG (FK r7) (0,([]:List (Int×Bool)))).bind fun e94=>match e94 with
  | .inr z=>some z
  | .inl t0 =>
  some 0)
 else
 some 1
def mD (e:Int):Option (Unit⊕Unit) :=
 (jS (decide (e=0)) e).bind fun r1=>match r1 with
 | .inl y4=>(
  some (.inl ()))
 | .inr _=>(
  some (.inr ()))
def KV (ac:aH) (bo:List Int) (text:aE):Option (aH⊕Int) :=
 (jS (!ac.state.bound) 8).bind fun r3=>match r3 with
 | .inl y6=>(
  (bo[0]?).bind fun x8 =>
  (FD ac.state.volume.parts).bind fun r0 =>
  ((
   if 0≤((r0.length:Int) - 1) then (
    (r0[((r0.length:Int) - 1).toNat]?).bind fun x1 =>
    some (decide (x1.day=ac.state.day)))
   else
   some false
  ):Option (Bool)).bind fun t45 =>
  ((
   if t45 then (
    cB (0≤((r0.length:Int) - 1)) <|
    (r0[((r0.length:Int) - 1).toNat]?).bind fun x0 =>
    (FE x0.paragraphs (⟨x8,text⟩:aI)).bind fun r2 =>
    some (r0.set (((r0.length:Int) - 1).toNat) (⟨x0.day,r2⟩:eB)))
   else
   cB (r0.length+([(⟨ac.state.day,([(⟨x8,text⟩:aI)]:List aI)⟩:eB)]:List eB).length≤1073741824) <|
   some (r0++([(⟨ac.state.day,([(⟨x8,text⟩:aI)]:List aI)⟩:eB)]:List eB))
  ):Option (List eB)).bind fun t142 =>
  (VV ac t142).bind fun r4 =>
  (IZ r4).bind fun r1 =>
  (mD r1).bind fun r5=>match r5 with
  | .inl y0=>(
   some (.inl (⟨({ac.state with volume:=({ac.state.volume with parts:=t142}:bE)}:cV)⟩:aH)))
  | .inr _=>(
   some (.inr r1)))
 | .inr _=>(
  some (.inr 8))
def QY (ac:aH) (bo:List Int) (cz:aE):Option (aH⊕Int) :=
 (jS (!ac.state.bound) 8).bind fun r3=>match r3 with
 | .inl y6=>(
  (bo[0]?).bind fun x8 =>
  (bo[1]?).bind fun x0 =>
  (bo[2]?).bind fun x1 =>
  (IZ (⟨x8,ac.state.day,x0,x1,ac.state.volume.parts⟩:bE)).bind fun r0 =>
  (mD r0).bind fun r1=>match r1 with
  | .inl y0=>(
   some (.inl (⟨({ac.state with volume:=(⟨x8,ac.state.day,x0,x1,ac.state.volume.parts⟩:bE),bound:=true}:cV)⟩:aH)))
  | .inr _=>(
   some (.inr r0)))
 | .inr _=>(
  some (.inr 8))
def rA (aj:List aK):Option (List aK) :=
 cB (([]:List aK).length+aj.length≤1073741824) <|
 some (([]:List aK)++aj)
def BK (cc:List aK) (cx:aK):Option (List aK) :=
 (rA cc).bind fun r4 =>
 cB (r4.length+([cx]:List aK).length≤1073741824) <|
 some (r4++([cx]:List aK))
def OB (au:aK) (cm:aK→Option Bool):Option (Bool) :=
 (cm au).bind fun r4 =>
 some (!r4)
def xK (aj:List aK) (cl:aK→Option Bool) (s1:Nat):Option ((Nat)⊕((Unit)⊕Int)) :=
 if (s1:Int) < (aj.length:Int) then (
  (aj[s1]?).bind fun x0 =>
  (cl x0).bind fun r0 =>
  if r0 then (
   some (.inr (.inr (s1:Int))))
  else
  some (.inl (s1+1)))
 else
 some (.inr (.inl ()))
def KW (aj:List aK) (cl:aK→Option Bool):Option (Int) :=
 (bG (xK aj cl) 0).bind fun e19=>match e19 with
 | .inr z=>some z
 | .inl t0 =>
 some (-1)
def m62 (aj:List aK) (cl:aK→Option Bool):Option (Bool) :=
 (KW aj cl).bind fun r1 =>
 some (decide (0≤r1))
def VX (cc:List aK) (right:aK→Option Bool):Option (Bool) :=
 (m62 cc (fun x0_=>OB x0_ right)).bind fun r5 =>
 some (!r5)
def OC (au:aK):Option (Bool) :=
 ((
  (qR au.number 1 999).bind fun r22 =>
  if r22 then (
   (FF au.day).bind fun r0 =>
   if r0 then (
    (QW au.anchor).bind fun r1 =>
    some (!r1))
   else
   some true)
  else
  some true
 ):Option (Bool)).bind fun t0 =>
 if t0 then (
  some false)
 else
 if au.kind=0 then (
  ((
   (QX au.text).bind fun r2 =>
   if r2 then (
    some (decide (au.new_=0)))
   else
   some false
  ):Option (Bool)).bind fun t1 =>
  some t1)
 else
 if au.kind=1 then (
  ((
   if au.text=[] then (
    some (decide (au.new_=0)))
   else
   some false
  ):Option (Bool)).bind fun t2 =>
  some t2)
 else
 if au.kind=2 then (
  ((
   (QX au.text).bind fun r3 =>
   if r3 then (
    (QW au.new_).bind fun r4 =>
    some r4)
   else
   some false
  ):Option (Bool)).bind fun t3 =>
  some t3)
 else
 some false
def vI (au:Int):Option (Bool) :=
 some (decide (au≠au))
def BL (au:Int) (fg:Int):Option (Int) :=
 (vI au).bind fun r1 =>
 (vI fg).bind fun r4 =>
 if r1 then (
  if r4 then (
   some 0)
  else
  some (-1))
 else
 if r4 then (
  some 1)
 else
 if au < fg then (
  some (-1))
 else
 if fg < au then (
  some 1)
 else
 some 0
def qE (vals:List Int) (s1:Nat):Option ((Nat)⊕((Unit)⊕Int)) :=
 if (s1:Int) < (vals.length:Int) then (
  (vals[s1]?).bind fun x0 =>
  if x0≠0 then (
   some (.inr (.inr x0)))
  else
  some (.inl (s1+1)))
 else
 some (.inr (.inl ()))
def FL (vals:List Int):Option (Int) :=
 (bG (qE vals) 0).bind fun e16=>match e16 with
 | .inr z=>some z
 | .inl t0 =>
 some 0
def oC (dq:aK) (du:aK):Option (Int) :=
 (BL dq.day du.day).bind fun r7 =>
 (BL dq.number du.number).bind fun r11 =>
 (FL ([r7,r11]:List Int)).bind fun r0 =>
 some r0
def FM (r1:List aK) (l6:List aK) (fu:Int) (yield:aK→Option Bool) (s1:Nat):Option ((Nat)⊕((Unit)⊕Unit)) :=
 if (s1:Int) < (r1.length:Int) then (
  (l6[s1]?).bind fun x0 =>
  ((
   if fu < x0.day then (
    some true)
   else
   (yield x0).bind fun r0 =>
   some (!r0)
  ):Option (Bool)).bind fun t0 =>
  if t0 then (
   some (.inr (.inr ())))
  else
  some (.inl (s1+1)))
 else
 some (.inr (.inl ()))
def VY (yield:aK→Option Bool) (cm:List aK) (fu:Int):Option (Unit) :=
 (rA cm).bind fun r1 =>
 (iK (oC) r1).bind fun l6 =>
 (bG (FM r1 l6 fu yield) 0).bind fun e31=>match e31 with
 | .inr z=>some z
 | .inl t34 =>
 some ()
def AB (r10:List aI) (s1:Nat×(List (Int×Bool))):Option ((Nat×(List (Int×Bool)))⊕((List (Int×Bool)))) :=
 if (s1.1:Int) < (r10.length:Int) then (
  (r10[s1.1]?).bind fun x0 =>
  some (.inl ((s1.1+1),(put s1.2 x0.anchor true))))
 else
 some (.inr s1.2)
def AC (r0:List aK) (l0:List aK) (s1:Nat×(List (Int×Bool))):Option ((Nat×(List (Int×Bool)))⊕(((List (Int×Bool)))⊕(((List (Int×Bool)))⊕(Nat×(List (Int×Bool)))))) :=
 if (s1.1:Int) < (r0.length:Int) then (
  (l0[s1.1]?).bind fun x0 =>
  if 99999 < x0.day then (
   some (.inr (.inr (.inl s1.2))))
  else
  ((
   if (eK s1.2 x0.anchor).getD false then (
    ((
     if x0.kind=2 then (
      some (put s1.2 x0.new_ true))
     else
     some s1.2
    ):Option ((List (Int×Bool)))).bind fun t0 =>
    some (.inr t0))
   else
   some (.inl 7)
  ):Option ((Nat)⊕((List (Int×Bool))))).bind fun t1=>match t1 with
  | .inl t2=>(
   some (.inr (.inr (.inr (t2,s1.2)))))
  | .inr t3=>(
   some (.inl ((s1.1+1),t3))))
 else
 some (.inr (.inl s1.2))
def QZ (am:bE) (errata:List aK):Option (Int) :=
 (OA am).bind fun r10 =>
 (bG (AB r10) (0,([]:List (Int×Bool)))).bind fun e47 =>
 ((
  (rA errata).bind fun r0 =>
  (iK (oC) r0).bind fun l0 =>
  (bG (AC r0 l0) (0,e47)).bind fun eA1=>match eA1 with
  | .inr z=>some z
  | .inl t0 =>
  some (.inl t0)
 ):Option (((List (Int×Bool)))⊕(Nat×(List (Int×Bool))))).bind fun t1=>match t1 with
 | .inl t3=>(
  some 0)
 | .inr t2=>(
  some (t2.1:Int))
def AD (r0:List aI) (s1:Nat×(List (Int×Bool))):Option ((Nat×(List (Int×Bool)))⊕((List (Int×Bool)))) :=
 if (s1.1:Int) < (r0.length:Int) then (
  (r0[s1.1]?).bind fun x0 =>
  some (.inl ((s1.1+1),(put s1.2 x0.anchor true))))
 else
 some (.inr s1.2)
def AE (errata:List aK) (s1:Nat×(List (Int×Bool))×(List (Int×Bool))):Option ((Nat×(List (Int×Bool))×(List (Int×Bool)))⊕(((List (Int×Bool))×(List (Int×Bool)))⊕Int)) :=
 if (s1.1:Int) < (errata.length:Int) then (
  (errata[s1.1]?).bind fun x0 =>
  ((
   if (eK s1.2.1 x0.number).getD false then (
    some true)
   else
   if x0.kind=2 then (
    some ((eK s1.2.2 x0.new_).getD false))
   else
   some false
  ):Option (Bool)).bind fun t0 =>
  if t0 then (
   some (.inr (.inr 6)))
  else
  ((
   if x0.kind=2 then (
    some (put s1.2.2 x0.new_ true))
   else
   some s1.2.2
  ):Option ((List (Int×Bool)))).bind fun t1 =>
  some (.inl ((s1.1+1),(put s1.2.1 x0.number true),t1)))
 else
 some (.inr (.inl (s1.2.1,s1.2.2)))
def rB (am:bE) (errata:List aK):Option (Int) :=
 (IZ am).bind fun r7 =>
 if r7≠0 then (
  some r7)
 else
 if 20 < (errata.length:Int) then (
  some 3)
 else
 (VX errata (OC)).bind fun r0 =>
 if r0 then (
  (OA am).bind fun r1 =>
  (bG (AD r1) (0,([]:List (Int×Bool)))).bind fun e88 =>
  (bG (AE errata) (0,([]:List (Int×Bool)),e88)).bind fun eA1=>match eA1 with
  | .inr z=>some z
  | .inl t0 =>
  (QZ am errata).bind fun r2 =>
  some r2)
 else
 some 1
def OD (x0:List bY) (anchor:Int) (s2:Nat×Nat×Nat×Bool) (s1:Nat×Nat×Nat×Bool):Option ((Nat×Nat×Nat×Bool)⊕((Nat×Nat×Bool)⊕((Nat×Nat×Nat×Bool)⊕(Nat×Nat×Bool)))) :=
 if (s1.2.2.1:Int) < (x0.length:Int) then (
  (x0[s1.2.2.1]?).bind fun x1 =>
  if x1.paragraph.anchor=anchor then (
   Option.map (fun z=>.inr (.inr z)) (
   some (.inr (s2.2.2.1,s1.2.2.1,true))))
  else
  some (.inl (s1.1,s1.2.1,(s1.2.2.1+1),s1.2.2.2)))
 else
 some (.inr (.inl (s1.1,s1.2.1,s1.2.2.2)))
def OE (ac:gJ) (anchor:Int) (s1:Nat×Nat×Nat×Bool):Option ((Nat×Nat×Nat×Bool)⊕(Nat×Nat×Bool)) :=
 if (s1.2.2.1:Int) < (ac.parts.length:Int) then (
  (ac.parts[s1.2.2.1]?).bind fun x0 =>
  (bG (OD x0 anchor s1) (s1.1,s1.2.1,0,s1.2.2.2)).bind fun eA1=>match eA1 with
  | .inr z=>some z
  | .inl t0 =>
  some (.inl (t0.1,t0.2.1,(s1.2.2.1+1),t0.2.2)))
 else
 some (.inr (s1.1,s1.2.1,s1.2.2.2))
def m48 (ac:gJ) (anchor:Int):Option (Int×Int×Bool) :=
 (bG (OE ac anchor) (0,0,0,false)).bind fun e40 =>
 some ((e40.1:Int),(e40.2.1:Int),e40.2.2)
def m67  : Option (Unit) :=
 some ()
def AF (x0:eB) (s1:Nat×List bY):Option ((Nat×List bY)⊕(List bY)) :=
 if (s1.1:Int) < (x0.paragraphs.length:Int) then (
  (x0.paragraphs[s1.1]?).bind fun x1 =>
  cB (s1.2.length+1≤1073741824) <|
  some (.inl ((s1.1+1),(s1.2++[(⟨x1,false⟩:bY)]))))
 else
 some (.inr s1.2)
def vJ (am:bE) (s1:Nat×List (List bY)):Option ((Nat×List (List bY))⊕(List (List bY))) :=
 if (s1.1:Int) < (am.parts.length:Int) then (
  (am.parts[s1.1]?).bind fun x0 =>
  (bG (AF x0) (0,([]:List bY))).bind fun eA1 =>
  cB (s1.2.length+1≤1073741824) <|
  some (.inl ((s1.1+1),(s1.2++[eA1]))))
 else
 some (.inr s1.2)
def AG (x0:List bY) (x1:aK) (s2:Nat×Nat×Nat×Bool) (s1:Nat×Nat×Nat×Bool):Option ((Nat×Nat×Nat×Bool)⊕((Nat×Nat×Bool)⊕((Nat×Nat×Nat×Bool)⊕(Nat×Nat×Bool)))) :=
 if (s1.2.2.1:Int) < (x0.length:Int) then (
  (x0[s1.2.2.1]?).bind fun x2 =>
  if x2.paragraph.anchor=x1.anchor then (
   Option.map (fun z=>.inr (.inr z)) (
   some (.inr (s2.2.2.1,s1.2.2.1,true))))
  else
  cB (-9223372036854775808≤((s1.2.2.1:Int)+1)∧((s1.2.2.1:Int)+1)≤9223372036854775807) <|
  some (.inl (s1.1,s1.2.1,(s1.2.2.1+1),s1.2.2.2)))
 else
 some (.inr (.inl (s1.1,s1.2.1,s1.2.2.2)))
def rX (s2:Nat×List (List bY)) (x0:aK) (s1:Nat×Nat×Nat×Bool):Option ((Nat×Nat×Nat×Bool)⊕(Nat×Nat×Bool)) :=
 if (s1.2.2.1:Int) < (s2.2.length:Int) then (
  (s2.2[s1.2.2.1]?).bind fun x1 =>
  (bG (AG x1 x0 s1) (s1.1,s1.2.1,0,s1.2.2.2)).bind fun eA1=>match eA1 with
  | .inr z=>some z
  | .inl t0 =>
  cB (-9223372036854775808≤((s1.2.2.1:Int)+1)∧((s1.2.2.1:Int)+1)≤9223372036854775807) <|
  some (.inl (t0.1,t0.2.1,(s1.2.2.1+1),t0.2.2)))
 else
 some (.inr (s1.1,s1.2.1,s1.2.2.2))
def vK (r0:List aK) (l0:List aK) (ei:Int) (s1:Nat×List (List bY)):Option ((Nat×List (List bY))⊕((List (List bY))⊕(List (List bY)))) :=
 if (s1.1:Int) < (r0.length:Int) then (
  (l0[s1.1]?).bind fun x0 =>
  ((
   if ei < x0.day then (
    some (true,s1.2))
   else
   ((
    ((
     (bG (rX s1 x0) (0,0,0,false)).bind fun eA1 =>
     some (eA1.2.1,eA1.1,eA1.2.2)
    ):Option (Nat×Nat×Bool)).bind fun t0 =>
    ((
     if t0.2.2 then (
      (m67).bind fun r1 =>
      cB (0≤x0.kind) <|
      if x0.kind=0 then (
       ((
        (s1.2[t0.2.1]?).bind fun x3 =>
        (x3[t0.1]?).bind fun x2 =>
        ((
         if x2.removed then (
          some s1.2)
         else
         some (s1.2.set t0.2.1 (x3.set t0.1 (⟨(⟨x2.paragraph.anchor,x0.text⟩:aI),x2.removed⟩:bY)))
        ):Option (List (List bY))).bind fun t2 =>
        some t2
       ):Option (List (List bY))).bind fun t3 =>
       some t3)
      else
      if x0.kind=1 then (
       ((
        (s1.2[t0.2.1]?).bind fun x4 =>
        (x4[t0.1]?).bind fun x5 =>
        some (s1.2.set t0.2.1 (x4.set t0.1 (⟨x5.paragraph,true⟩:bY)))
       ):Option (List (List bY))).bind fun t4 =>
       some t4)
      else
      if x0.kind=2 then (
       ((
        (s1.2[t0.2.1]?).bind fun x1 =>
        cB (-9223372036854775808≤((t0.1:Int)+1)∧((t0.1:Int)+1)≤9223372036854775807) <|
        cB (x1.length+1≤1073741824) <|
        cB (((t0.1:Int)+1).toNat≤x1.length) <|
        some (s1.2.set t0.2.1 (x1.take (((t0.1:Int)+1).toNat)++[(⟨(⟨x0.new_,x0.text⟩:aI),false⟩:bY)]++x1.drop (((t0.1:Int)+1).toNat)))
       ):Option (List (List bY))).bind fun t5 =>
       some t5)
      else
      none)
     else
     some s1.2
    ):Option (List (List bY))).bind fun t6 =>
    some t6
   ):Option (List (List bY))).bind fun t7 =>
   some (false,t7)
  ):Option (Bool×List (List bY))).bind fun t1 =>
  if t1.1 then (
   some (.inr (.inr t1.2)))
  else
  some (.inl ((s1.1+1),t1.2)))
 else
 some (.inr (.inl s1.2))
def CW (am:bE) (errata:List aK) (ei:Int):Option (gJ) :=
 (bG (vJ am) (0,([]:List (List bY)))).bind fun eA1 =>
 ((
  (rA errata).bind fun r0 =>
  (iK (oC) r0).bind fun l0 =>
  (bG (vK r0 l0 ei) (0,eA1)).bind fun eB1=>match eB1 with
  | .inr z=>some z
  | .inl t0 =>
  some t0
 ):Option (List (List bY))).bind fun t1 =>
 some (⟨am,t1⟩:gJ)
def FN (x0:List bY) (s1:Nat×List aI):Option ((Nat×List aI)⊕(List aI)) :=
 if (s1.1:Int) < (x0.length:Int) then (
  (x0[s1.1]?).bind fun x1 =>
  ((
   if x1.removed then (
    some s1.2)
   else
   cB (s1.2.length+1≤1073741824) <|
   some (s1.2++[x1.paragraph])
  ):Option (List aI)).bind fun t0 =>
  some (.inl ((s1.1+1),t0)))
 else
 some (.inr s1.2)
def FO (r0:gJ) (s1:Nat×List aI):Option ((Nat×List aI)⊕(List aI)) :=
 if (s1.1:Int) < (r0.parts.length:Int) then (
  (r0.parts[s1.1]?).bind fun x0 =>
  (bG (FN x0) (0,s1.2)).bind fun eA1 =>
  some (.inl ((s1.1+1),eA1)))
 else
 some (.inr s1.2)
def TR (am:bE) (errata:List aK) (ei:Int):Option (List aI×Int) :=
 (rB am errata).bind fun r7 =>
 if r7≠0 then (
  some (([]:List aI),r7))
 else
 (FF ei).bind fun r0 =>
 if r0 then (
  (CW am errata ei).bind fun r1 =>
  (bG (FO r1) (0,([]:List aI))).bind fun eA1 =>
  some (eA1,0))
 else
 some (([]:List aI),2)
def sV (ac:aH) (cx:aK):Option (aH⊕Int) :=
 ((
  if ac.state.bound then (
   (jS (decide (ac.state.volume.bound < ac.state.day)) 8).bind fun r2=>match r2 with
   | .inl y0=>(
    some (.inl ()))
   | .inr _=>(
    some (.inr (.inr 8))))
  else
  (jS false 8).bind fun r3=>match r3 with
  | .inl y1=>(
   some (.inl ()))
  | .inr _=>(
   some (.inr (.inr 8)))
 ):Option ((Unit)⊕(aH⊕Int))).bind fun t0=>match t0 with
 | .inr z=>some z
 | .inl t1 =>
 (BK ac.state.errata ({cx with day:=ac.state.day}:aK)).bind fun r0 =>
 (TR ac.state.volume r0 ac.state.day).bind fun r1 =>
 (mD r1.2).bind fun r4=>match r4 with
 | .inl y2=>(
  some (.inl (⟨({ac.state with errata:=r0}:cV)⟩:aH)))
 | .inr _=>(
  some (.inr r1.2))
def RA (ac:aH) (bo:List Int) (text:aE):Option (aH⊕Int) :=
 (bo[0]?).bind fun x3 =>
 (bo[1]?).bind fun x0 =>
 (sV ac (⟨x3,0,0,x0,text,0⟩:aK)).bind fun r0=>match r0 with
 | .inl y0=>(
  some (.inl y0))
 | .inr y0=>(
  some (.inr y0))
def RB (ac:aH) (bo:List Int) (cz:aE):Option (aH⊕Int) :=
 (bo[0]?).bind fun x3 =>
 (bo[1]?).bind fun x0 =>
 (sV ac (⟨x3,0,1,x0,[],0⟩:aK)).bind fun r0=>match r0 with
 | .inl y0=>(
  some (.inl y0))
 | .inr y0=>(
  some (.inr y0))
def RD (ac:aH) (bo:List Int) (text:aE):Option (aH⊕Int) :=
 (bo[0]?).bind fun x3 =>
 (bo[1]?).bind fun x0 =>
 (bo[2]?).bind fun x1 =>
 (sV ac (⟨x3,0,2,x0,text,x1⟩:aK)).bind fun r0=>match r0 with
 | .inl y0=>(
  some (.inl y0))
 | .inr y0=>(
  some (.inr y0))
def AH (x0:List bY) (anchor:Int) (s2:Nat×Nat×Nat×Bool) (s1:Nat×Nat×Nat×Bool):Option ((Nat×Nat×Nat×Bool)⊕((Nat×Nat×Bool)⊕((Nat×Nat×Nat×Bool)⊕(Nat×Nat×Bool)))) :=
 if (s1.2.2.1:Int) < (x0.length:Int) then (
  (x0[s1.2.2.1]?).bind fun x1 =>
  if x1.paragraph.anchor=anchor then (
   Option.map (fun z=>.inr (.inr z)) (
   some (.inr (s2.2.2.1,s1.2.2.1,true))))
  else
  some (.inl (s1.1,s1.2.1,(s1.2.2.1+1),s1.2.2.2)))
 else
 some (.inr (.inl (s1.1,s1.2.1,s1.2.2.2)))
def rY (r0:gJ) (anchor:Int) (s1:Nat×Nat×Nat×Bool):Option ((Nat×Nat×Nat×Bool)⊕(Nat×Nat×Bool)) :=
 if (s1.2.2.1:Int) < (r0.parts.length:Int) then (
  (r0.parts[s1.2.2.1]?).bind fun x0 =>
  (bG (AH x0 anchor s1) (s1.1,s1.2.1,0,s1.2.2.2)).bind fun eA1=>match eA1 with
  | .inr z=>some z
  | .inl t0 =>
  some (.inl (t0.1,t0.2.1,(s1.2.2.1+1),t0.2.2)))
 else
 some (.inr (s1.1,s1.2.1,s1.2.2.2))
def KX (am:bE) (errata:List aK) (anchor:Int) (fo:Int):Option (aE×Bool×Int) :=
 (rB am errata).bind fun r7 =>
 if r7≠0 then (
  some ([],false,r7))
 else
 (FF fo).bind fun r1 =>
 if r1 then (
  (CW am errata fo).bind fun r0 =>
  ((
   (bG (rY r0 anchor) (0,0,0,false)).bind fun eA1 =>
   some (eA1.2.1,eA1.1,eA1.2.2)
  ):Option (Nat×Nat×Bool)).bind fun t0 =>
  if t0.2.2 then (
   (r0.parts[t0.2.1]?).bind fun x1 =>
   (x1[t0.1]?).bind fun x0 =>
   some (x0.paragraph.text,x0.removed,0))
  else
  some ([],false,7))
 else
 some ([],false,2)
def FP (x1:List bY) (am:bE) (s2:Nat×Int×List cK) (s1:Nat×Nat×Int×List cK):Option ((Nat×Nat×Int×List cK)⊕(Int×List cK)) :=
 if (s1.2.1:Int) < (x1.length:Int) then (
  ((
   (x1[s1.2.1]?).bind fun x0 =>
   if x0.removed then (
    some (s1.1,s1.2.2.1,s1.2.2.2))
   else
   cB (-9223372036854775808≤((s1.1:Int)+1)∧((s1.1:Int)+1)≤9223372036854775807) <|
   cB (-9223372036854775808≤((x0.paragraph.text.length:Int)+am.width)∧((x0.paragraph.text.length:Int)+am.width)≤9223372036854775807) <|
   cB (-9223372036854775808≤(((x0.paragraph.text.length:Int)+am.width) - 1)∧(((x0.paragraph.text.length:Int)+am.width) - 1)≤9223372036854775807) <|
   cB (0≤(((x0.paragraph.text.length:Int)+am.width) - 1)∧(((x0.paragraph.text.length:Int)+am.width) - 1)≤9223372036854775807∧0 < am.width) <|
   cB (0≤s1.2.2.1∧s1.2.2.1≤9223372036854775807∧0 < am.height) <|
   cB (-9223372036854775808≤(s2.2.1+(s1.2.2.1/am.height))∧(s2.2.1+(s1.2.2.1/am.height))≤9223372036854775807) <|
   cB (0≤s1.2.2.1∧0 < am.height) <|
   cB (-9223372036854775808≤((s1.2.2.1%am.height)+1)∧((s1.2.2.1%am.height)+1)≤9223372036854775807) <|
   (am.parts[s2.1]?).bind fun x2 =>
   cB (s1.2.2.2.length+([(⟨(⟨x0.paragraph.anchor,(s2.2.1+(s1.2.2.1/am.height)),((s1.2.2.1%am.height)+1),((((x0.paragraph.text.length:Int)+am.width) - 1)/am.width)⟩:iA),x2.day,((s1.1:Int)+1)⟩:cK)]:List cK).length≤1073741824) <|
   cB (-9223372036854775808≤(s1.2.2.1+((((x0.paragraph.text.length:Int)+am.width) - 1)/am.width))∧(s1.2.2.1+((((x0.paragraph.text.length:Int)+am.width) - 1)/am.width))≤9223372036854775807) <|
   some ((s1.1+1),(s1.2.2.1+((((x0.paragraph.text.length:Int)+am.width) - 1)/am.width)),(s1.2.2.2++([(⟨(⟨x0.paragraph.anchor,(s2.2.1+(s1.2.2.1/am.height)),((s1.2.2.1%am.height)+1),((((x0.paragraph.text.length:Int)+am.width) - 1)/am.width)⟩:iA),x2.day,((s1.1:Int)+1)⟩:cK)]:List cK)))
  ):Option (Nat×Int×List cK)).bind fun t0 =>
  some (.inl (t0.1,(s1.2.1+1),t0.2.1,t0.2.2)))
 else
 some (.inr (s1.2.2.1,s1.2.2.2))
def FQ (r7:gJ) (am:bE) (s1:Nat×Int×List cK):Option ((Nat×Int×List cK)⊕(List cK)) :=
 if (s1.1:Int) < (r7.parts.length:Int) then (
  (r7.parts[s1.1]?).bind fun x0 =>
  (bG (FP x0 am s1) (0,0,0,s1.2.2)).bind fun eA1 =>
  cB (-9223372036854775808≤(eA1.1+am.height)∧(eA1.1+am.height)≤9223372036854775807) <|
  cB (-9223372036854775808≤((eA1.1+am.height) - 1)∧((eA1.1+am.height) - 1)≤9223372036854775807) <|
  cB (0≤((eA1.1+am.height) - 1)∧((eA1.1+am.height) - 1)≤9223372036854775807∧0 < am.height) <|
  cB (-9223372036854775808≤(s1.2.1+(((eA1.1+am.height) - 1)/am.height))∧(s1.2.1+(((eA1.1+am.height) - 1)/am.height))≤9223372036854775807) <|
  some (.inl ((s1.1+1),(s1.2.1+(((eA1.1+am.height) - 1)/am.height)),eA1.2)))
 else
 some (.inr s1.2.2)
def CX (am:bE) (errata:List aK):Option (List cK) :=
 (CW am errata am.bound).bind fun r7 =>
 (bG (FQ r7 am) (0,1,([]:List cK))).bind fun eA1 =>
 some eA1
def sW (r0:List cK) (anchor:Int) (style:Int) (am:bE) (s1:Nat):Option ((Nat)⊕((Unit)⊕(aE×Int))) :=
 if (s1:Int) < (r0.length:Int) then (
  (r0[s1]?).bind fun x0 =>
  if x0.place.anchor≠anchor then (
   some (.inl (s1+1)))
  else
  if style=0 then (
   (oA ([(.s [118,111,108,46,32]:Any),(.i am.number:Any),(.s [44,32,99,111,108,46,32]:Any),(.i x0.place.column:Any),(.s [44,32,108,46,32]:Any),(.i x0.place.line:Any)]:List Any)).bind fun r1 =>
   some (.inr (.inr (r1,0))))
  else
  (oA ([(.s [118,111,108,46,32]:Any),(.i am.number:Any),(.s [44,32]:Any),(.i x0.day:Any),(.s [44,32,112,97,114,46,32]:Any),(.i x0.number:Any)]:List Any)).bind fun r2 =>
  some (.inr (.inr (r2,0))))
 else
 some (.inr (.inl ()))
def sX (am:bE) (errata:List aK) (anchor:Int) (style:Int) (fa:Int):Option (aE×Int) :=
 (rB am errata).bind fun r7 =>
 if r7≠0 then (
  some ([],r7))
 else
 ((
  if 2 < style then (
   some true)
  else
  if style=2 then (
   (FF fa).bind fun r1 =>
   some (!r1))
  else
  some false
 ):Option (Bool)).bind fun t25 =>
 if t25 then (
  some ([],2))
 else
 if style=2 then (
  (KX am errata anchor fa).bind fun r0 =>
  if r0.2.2≠0 then (
   some ([],r0.2.2))
  else
  (oA ([(.i anchor:Any),(.s [64]:Any),(.i fa:Any)]:List Any)).bind fun r2 =>
  some (r2,0))
 else
 (CX am errata).bind fun r3 =>
 (bG (sW r3 anchor style am) 0).bind fun eA1=>match eA1 with
 | .inr z=>some z
 | .inl t0 =>
 some ([],7)
def FR (aj:List aE):Option (List aE) :=
 cB (([]:List aE).length+aj.length≤1073741824) <|
 some (([]:List aE)++aj)
def BM (cc:List aE) (cx:aE):Option (List aE) :=
 (FR cc).bind fun r1 =>
 cB (r1.length+1≤1073741824) <|
 some (r1++[cx])
def RF (ac:aH) (bo:List Int) (cz:aE):Option (aH⊕Int) :=
 (jS ac.state.bound 8).bind fun r3=>match r3 with
 | .inl y6=>(
  (bo[1]?).bind fun x8 =>
  (xH x8 0 255).bind fun r1 =>
  (jS r1 2).bind fun r2=>match r2 with
  | .inl y0=>(
   (bo[0]?).bind fun x0 =>
   cB (0≤x8∧x8≤255) <|
   (sX ac.state.volume ac.state.errata x0 x8 ac.state.day).bind fun r0 =>
   (mD r0.2).bind fun r4=>match r4 with
   | .inl y1=>(
    (BM ac.state.cites r0.1).bind fun r5 =>
    some (.inl (⟨({ac.state with cites:=r5}:cV)⟩:aH)))
   | .inr _=>(
    some (.inr r0.2)))
  | .inr _=>(
   some (.inr 2)))
 | .inr _=>(
  some (.inr 8))
def VZ (ac:aH):Option (bE) :=
 if ac.state.bound then (
  some ac.state.volume)
 else
 (VV ac ac.state.volume.parts).bind fun r0 =>
 some r0
def WA (ac:aH):Option (bE) :=
 if ac.state.bound then (
  some ac.state.volume)
 else
 (QV ac ac.state.volume.parts).bind fun r10 =>
 some r10
def KY (aj:List gX):Option (List gX) :=
 cB (([]:List gX).length+aj.length≤1073741824) <|
 some (([]:List gX)++aj)
def FS (cc:List gX) (cx:gX):Option (List gX) :=
 (KY cc).bind fun r4 =>
 cB (r4.length+([cx]:List gX).length≤1073741824) <|
 some (r4++([cx]:List gX))
def RG (ac:aH) (bo:List Int) (cz:aE):Option (aH⊕Int) :=
 ((
  (bo[1]?).bind fun x1 =>
  (xH x1 0 7).bind fun r1 =>
  if r1 then (
   (bo[2]?).bind fun x2 =>
   (xH x2 0 9999).bind fun r2 =>
   (jS r2 1).bind fun r3=>match r3 with
   | .inl y0=>(
    some (.inl ()))
   | .inr _=>(
    some (.inr (.inr 1))))
  else
  (jS false 1).bind fun r4=>match r4 with
  | .inl y1=>(
   some (.inl ()))
  | .inr _=>(
   some (.inr (.inr 1)))
 ):Option ((Unit)⊕(aH⊕Int))).bind fun t37=>match t37 with
 | .inr z=>some z
 | .inl t40 =>
 (jS (decide ((ac.state.hides.length:Int) < 12)) 3).bind fun r5=>match r5 with
 | .inl y2=>(
  (VZ ac).bind fun r8 =>
  (bo[0]?).bind fun x0 =>
  (KX r8 ac.state.errata x0 ac.state.day).bind fun r0 =>
  (mD r0.2.2).bind fun r9=>match r9 with
  | .inl y3=>(
   (bo[1]?).bind fun x3 =>
   (bo[2]?).bind fun x4 =>
   (FS ac.state.hides (⟨x0,x3,x4⟩:gX)).bind fun rA1 =>
   some (.inl (⟨({ac.state with hides:=rA1}:cV)⟩:aH)))
  | .inr _=>(
   some (.inr r0.2.2)))
 | .inr _=>(
  some (.inr 3))
def RH (ac:aH) (bo:List Int) (cz:aE):Option (aH⊕Int) :=
 (jS (!ac.state.open_) 8).bind fun r3=>match r3 with
 | .inl y6=>(
  (bo[0]?).bind fun x8 =>
  (xH x8 1 40).bind fun r0 =>
  (jS r0 2).bind fun r1=>match r1 with
  | .inl y0=>(
   some (.inl (⟨({ac.state with house:=x8}:cV)⟩:aH)))
  | .inr _=>(
   some (.inr 2)))
 | .inr _=>(
  some (.inr 8))
def vL (ed:Int) (low:Int) (high:Int):Option (Bool) :=
 ((
  if low≤ed then (
   some (decide (ed≤high)))
  else
  some false
 ):Option (Bool)).bind fun t4 =>
 some t4
def qF (be:aV) (dh:Int):Option (Bool) :=
 cB (-9223372036854775808≤(be.members - 1)∧(be.members - 1)≤9223372036854775807) <|
 (vL dh 0 (be.members - 1)).bind fun r8 =>
 some r8
def vM (au:Int) (cm:Int→Option Bool):Option (Bool) :=
 (cm au).bind fun r1 =>
 some (!r1)
def xL (aj:List Int) (cl:Int→Option Bool) (s1:Nat):Option ((Nat)⊕((Unit)⊕Int)) :=
 if (s1:Int) < (aj.length:Int) then (
  (aj[s1]?).bind fun x0 =>
  (cl x0).bind fun r0 =>
  if r0 then (
   some (.inr (.inr (s1:Int))))
  else
  some (.inl (s1+1)))
 else
 some (.inr (.inl ()))
def KZ (aj:List Int) (cl:Int→Option Bool):Option (Int) :=
 (bG (xL aj cl) 0).bind fun e19=>match e19 with
 | .inr z=>some z
 | .inl t0 =>
 some (-1)
def LA (aj:List Int) (cl:Int→Option Bool):Option (Bool) :=
 (KZ aj cl).bind fun r1 =>
 some (decide (0≤r1))
def FT (cc:List Int) (right:Int→Option Bool):Option (Bool) :=
 (LA cc (fun x0_=>vM x0_ right)).bind fun r5 =>
 some (!r5)
def xM (cc:List Int) (s1:Nat):Option ((Nat)⊕((Unit)⊕Bool)) :=
 if (s1:Int) < (cc.length:Int) then (
  ((
   if 0 < (s1:Int) then (
    (cc[s1]?).bind fun x0 =>
    (cc[((s1:Int) - 1).toNat]?).bind fun x1 =>
    some (decide (x0≤x1)))
   else
   some false
  ):Option (Bool)).bind fun t0 =>
  if t0 then (
   some (.inr (.inr false)))
  else
  some (.inl (s1+1)))
 else
 some (.inr (.inl ()))
def FU (cc:List Int):Option (Bool) :=
 (bG (xM cc) 0).bind fun e29=>match e29 with
 | .inr z=>some z
 | .inl t32 =>
 some true
def oQ (be:aV) (bo:List Int):Option (Bool) :=
 ((
  (FT bo (qF be)).bind fun r0 =>
  if r0 then (
   (FU bo).bind fun r1 =>
   some r1)
  else
  some false
 ):Option (Bool)).bind fun t0 =>
 some t0
def vN (au:List Int) (cm:(List Int)→Option Bool):Option (Bool) :=
 (cm au).bind fun r1 =>
 some (!r1)
def xN (aj:List (List Int)) (cl:(List Int)→Option Bool) (s1:Nat):Option ((Nat)⊕((Unit)⊕Int)) :=
 if (s1:Int) < (aj.length:Int) then (
  (aj[s1]?).bind fun x0 =>
  (cl x0).bind fun r0 =>
  if r0 then (
   some (.inr (.inr (s1:Int))))
  else
  some (.inl (s1+1)))
 else
 some (.inr (.inl ()))
def LB (aj:List (List Int)) (cl:(List Int)→Option Bool):Option (Int) :=
 (bG (xN aj cl) 0).bind fun e23=>match e23 with
 | .inr z=>some z
 | .inl t26 =>
 some (-1)
def LC (aj:List (List Int)) (cl:(List Int)→Option Bool):Option (Bool) :=
 (LB aj cl).bind fun r1 =>
 some (decide (0≤r1))
def BN (cc:List (List Int)) (right:(List Int)→Option Bool):Option (Bool) :=
 (LC cc (fun x0_=>vN x0_ right)).bind fun r5 =>
 some (!r5)
def FV (de:dR) (cm:List (Int×Bool)):Option (Bool) :=
 some (!((eK cm de.holder).getD false))
def vO (au:dR) (cm:dR→Option Bool):Option (Bool) :=
 (cm au).bind fun r4 =>
 some (!r4)
def xO (aj:List dR) (cl:dR→Option Bool) (s1:Nat):Option ((Nat)⊕((Unit)⊕Int)) :=
 if (s1:Int) < (aj.length:Int) then (
  (aj[s1]?).bind fun x0 =>
  (cl x0).bind fun r0 =>
  if r0 then (
   some (.inr (.inr (s1:Int))))
  else
  some (.inl (s1+1)))
 else
 some (.inr (.inl ()))
def LD (aj:List dR) (cl:dR→Option Bool):Option (Int) :=
 (bG (xO aj cl) 0).bind fun e19=>match e19 with
 | .inr z=>some z
 | .inl t0 =>
 some (-1)
def LE (aj:List dR) (cl:dR→Option Bool):Option (Bool) :=
 (LD aj cl).bind fun r1 =>
 some (decide (0≤r1))
def FX (cc:List dR) (right:dR→Option Bool):Option (Bool) :=
 (LE cc (fun x0_=>vO x0_ right)).bind fun r5 =>
 some (!r5)
def sY (be:aV) (s1:Nat×(List (Int×Bool))):Option ((Nat×(List (Int×Bool)))⊕(((List (Int×Bool)))⊕Bool)) :=
 if (s1.1:Int) < (be.pairs.length:Int) then (
  (be.pairs[s1.1]?).bind fun x0 =>
  ((
   (qF be x0.a).bind fun r0 =>
   if r0 then (
    (qF be x0.b).bind fun r1 =>
    if r1 then (
     if x0.a=x0.b then (
      some true)
     else
     if (eK s1.2 x0.a).getD false then (
      some true)
     else
     some ((eK s1.2 x0.b).getD false))
    else
    some true)
   else
   some true
  ):Option (Bool)).bind fun t0 =>
  if t0 then (
   some (.inr (.inr false)))
  else
  some (.inl ((s1.1+1),(put (put s1.2 x0.a true) x0.b true))))
 else
 some (.inr (.inl s1.2))
def sZ (be:aV) (s1:Nat×(List (Int×Bool))):Option ((Nat×(List (Int×Bool)))⊕(((List (Int×Bool)))⊕Bool)) :=
 if (s1.1:Int) < (be.proxies.length:Int) then (
  (be.proxies[s1.1]?).bind fun x0 =>
  ((
   (qF be x0.holder).bind fun r0 =>
   if r0 then (
    (qF be x0.for_).bind fun r1 =>
    if r1 then (
     if x0.holder=x0.for_ then (
      some true)
     else
     some ((eK s1.2 x0.for_).getD false))
    else
    some true)
   else
   some true
  ):Option (Bool)).bind fun t0 =>
  if t0 then (
   some (.inr (.inr false)))
  else
  some (.inl ((s1.1+1),(put s1.2 x0.for_ true))))
 else
 some (.inr (.inl s1.2))
def FY (be:aV):Option (Bool) :=
 (bG (sY be) (0,([]:List (Int×Bool)))).bind fun eA1=>match eA1 with
 | .inr z=>some z
 | .inl t1 =>
 (bG (sZ be) (0,([]:List (Int×Bool)))).bind fun eB1=>match eB1 with
 | .inr z=>some z
 | .inl t0 =>
 (FX be.proxies (fun x0_=>FV x0_ t0)).bind fun r0 =>
 some r0
def BO (be:aV):Option (Bool) :=
 some (decide (be.tie=1))
def RI (be:aV) (dh:fN) (cm:aV→Option Bool):Option (Bool) :=
 ((
  if dh.noes < dh.ayes then (
   some true)
  else
  if dh.ayes=dh.noes then (
   (cm be).bind fun r0 =>
   some r0)
  else
  some false
 ):Option (Bool)).bind fun t0 =>
 some t0
def RJ (be:aV) (dh:fN) (cm:aV→Option Bool):Option (Bool) :=
 ((
  if be.need≤dh.ayes then (
   some true)
  else
  cB (-9223372036854775808≤(be.need - 1)∧(be.need - 1)≤9223372036854775807) <|
  if dh.ayes=(be.need - 1) then (
   (cm be).bind fun r0 =>
   some r0)
  else
  some false
 ):Option (Bool)).bind fun t0 =>
 some t0
def RK (iv:aV) (dh:fN):Option (Bool) :=
 ((
  cB (-9223372036854775808≤(3*dh.ayes)∧(3*dh.ayes)≤9223372036854775807) <|
  cB (-9223372036854775808≤(dh.ayes+dh.noes)∧(dh.ayes+dh.noes)≤9223372036854775807) <|
  cB (-9223372036854775808≤(2*(dh.ayes+dh.noes))∧(2*(dh.ayes+dh.noes))≤9223372036854775807) <|
  if (2*(dh.ayes+dh.noes))≤(3*dh.ayes) then (
   some (decide (1≤dh.ayes)))
  else
  some false
 ):Option (Bool)).bind fun t0 =>
 some t0
def FZ  : Option (Unit) :=
 some ()
def BP (be:aV):Option (Bool) :=
 ((
  (vL be.members 1 40).bind fun r0 =>
  if r0 then (
   (BN ([be.ayes.e0,be.ayes.e1]:List (List Int)) (oQ be)).bind fun r1 =>
   if r1 then (
    (BN ([be.noes.e0,be.noes.e1]:List (List Int)) (oQ be)).bind fun r2 =>
    if r2 then (
     if (be.pairs.length:Int)≤10 then (
      if (be.proxies.length:Int)≤10 then (
       (FY be).bind fun r3 =>
       if r3 then (
        cB (-9223372036854775808≤be.rule∧be.rule≤9223372036854775807) <|
        (FZ).bind fun r8 =>
        if be.rule < 3 then (
         (vL be.need 0 40).bind fun r4 =>
         if r4 then (
          (vL be.quorum 0 40).bind fun r5 =>
          if r5 then (
           if be.tie=1 then (
            some true)
           else
           some (decide (be.tie=2)))
          else
          some false)
         else
         some false)
        else
        some false)
       else
       some false)
      else
      some false)
     else
     some false)
    else
    some false)
   else
   some false)
  else
  some false
 ):Option (Bool)).bind fun t0 =>
 some t0
def GA (be:aV):Option (Int) :=
 (BP be).bind fun r6 =>
 if r6 then (
  some 0)
 else
 some 1
def vP (ac:aH) (fp:aV):Option (aH⊕Int) :=
 (GA fp).bind fun r8 =>
 (mD r8).bind fun r11=>match r11 with
 | .inl y0=>(
  some (.inl (⟨({ac.state with division:=fp,open_:=true}:cV)⟩:aH)))
 | .inr _=>(
  some (.inr r8))
def RL (ac:aH) (bo:List Int) (cz:aE):Option (aH⊕Int) :=
 (jS (!ac.state.open_) 8).bind fun r3=>match r3 with
 | .inl y6=>(
  ((
   (bo[0]?).bind fun x2 =>
   (xH x2 0 255).bind fun r0 =>
   if r0 then (
    (bo[3]?).bind fun x3 =>
    (xH x3 0 255).bind fun r1 =>
    (jS r1 2).bind fun r2=>match r2 with
    | .inl y1=>(
     some (.inl ()))
    | .inr _=>(
     some (.inr (.inr 2))))
   else
   (jS false 2).bind fun r4=>match r4 with
   | .inl y2=>(
    some (.inl ()))
   | .inr _=>(
    some (.inr (.inr 2)))
  ):Option ((Unit)⊕(aH⊕Int))).bind fun t42=>match t42 with
  | .inr z=>some z
  | .inl t45 =>
  (bo[0]?).bind fun x0 =>
  cB (0≤x0∧x0≤255) <|
  (bo[1]?).bind fun x4 =>
  (bo[2]?).bind fun x5 =>
  (bo[3]?).bind fun x1 =>
  cB (0≤x1∧x1≤255) <|
  (vP ac (⟨ac.state.house,(⟨([]:List Int),([]:List Int)⟩:bL),(⟨([]:List Int),([]:List Int)⟩:bL),([]:List fF),([]:List dR),x0,x4,x5,x1⟩:aV)).bind fun r5=>match r5 with
  | .inl y0=>(
   some (.inl y0))
  | .inr y0=>(
   some (.inr y0)))
 | .inr _=>(
  some (.inr 8))
def GB (au:Int) (fg:Int):Option (Bool) :=
 ((
  (vI au).bind fun r0 =>
  if r0 then (
   (vI fg).bind fun r1 =>
   if r1 then (
    some (decide (au < fg)))
   else
   some true)
  else
  some (decide (au < fg))
 ):Option (Bool)).bind fun t0 =>
 some t0
def LF (au:Int):Option (Bool) :=
 some (decide (au≠au))
def xP (au:List Int) (target:Int) (s1:Int×Int):Option ((Int×Int)⊕(Int)) :=
 if s1.1 < s1.2 then (
  cB (-9223372036854775808≤(s1.1+s1.2)∧(s1.1+s1.2)≤9223372036854775807) <|
  cB (0≤(s1.1+s1.2)∧(s1.1+s1.2)≤18446744073709551615) <|
  cB (0≤(s1.1+s1.2)) <|
  cB (-9223372036854775808≤((s1.1+s1.2)/2)∧((s1.1+s1.2)/2)≤9223372036854775807) <|
  (au[((s1.1+s1.2)/2).toNat]?).bind fun x0 =>
  (GB x0 target).bind fun r0 =>
  ((
   if r0 then (
    cB (-9223372036854775808≤(((s1.1+s1.2)/2)+1)∧(((s1.1+s1.2)/2)+1)≤9223372036854775807) <|
    some ((((s1.1+s1.2)/2)+1),s1.2))
   else
   some (s1.1,((s1.1+s1.2)/2))
  ):Option (Int×Int)).bind fun t0 =>
  some (.inl (t0.1,t0.2)))
 else
 some (.inr s1.1)
def tA (au:List Int) (target:Int):Option (Int×Bool) :=
 (bG (xP au target) (0,(au.length:Int))).bind fun e57 =>
 ((
  if e57 < (au.length:Int) then (
   cB (0≤e57) <|
   (au[e57.toNat]?).bind fun x0 =>
   if x0=target then (
    some (e57,true))
   else
   (LF x0).bind fun r0 =>
   if r0 then (
    (LF target).bind fun r1 =>
    some (e57,r1))
   else
   some (e57,false))
  else
  some (e57,false)
 ):Option (Int×Bool)).bind fun t0 =>
 some (t0.1,t0.2)
def rC (aj:List Int):Option (List Int) :=
 cB (([]:List Int).length+aj.length≤1073741824) <|
 some (([]:List Int)++aj)
def RM (ac:aH) (bo:List Int) (cz:aE):Option (aH⊕Int) :=
 (jS ac.state.open_ 8).bind fun r3=>match r3 with
 | .inl y6=>(
  ((
   (bo[0]?).bind fun x5 =>
   (xH x5 1 2).bind fun r77 =>
   if r77 then (
    (bo[1]?).bind fun x6 =>
    (xH x6 0 1).bind fun r89 =>
    if r89 then (
     (bo[2]?).bind fun x7 =>
     cB (-9223372036854775808≤(ac.state.division.members - 1)∧(ac.state.division.members - 1)≤9223372036854775807) <|
     (xH x7 0 (ac.state.division.members - 1)).bind fun rB1 =>
     (jS rB1 2).bind fun rC1=>match rC1 with
     | .inl y0=>(
      some (.inl ()))
     | .inr _=>(
      some (.inr (.inr 2))))
    else
    (jS false 2).bind fun rD1=>match rD1 with
    | .inl y1=>(
     some (.inl ()))
    | .inr _=>(
     some (.inr (.inr 2))))
   else
   (jS false 2).bind fun rE1=>match rE1 with
   | .inl y2=>(
    some (.inl ()))
   | .inr _=>(
    some (.inr (.inr 2)))
  ):Option ((Unit)⊕(aH⊕Int))).bind fun t0=>match t0 with
  | .inr z=>some z
  | .inl t68 =>
  (bo[1]?).bind fun x4 =>
  if x4=0 then (
   (bo[0]?).bind fun x8 =>
   if x8=2 then (
    (bo[2]?).bind fun x0 =>
    (tA ac.state.division.noes.e0 x0).bind fun r0 =>
    (jS (!r0.2) 6).bind fun rF1=>match rF1 with
    | .inl y3=>(
     (rC ac.state.division.noes.e0).bind fun r5 =>
     cB (0≤r0.1) <|
     cB (r0.1.toNat≤r5.length) <|
     cB (r5.length+([x0]:List Int).length≤1073741824) <|
     some (.inl (⟨({ac.state with division:=({ac.state.division with noes:=(⟨(r5.take r0.1.toNat++([x0]:List Int)++r5.drop r0.1.toNat),ac.state.division.noes.e1⟩:bL)}:aV)}:cV)⟩:aH)))
    | .inr _=>(
     some (.inr 6)))
   else
   (bo[2]?).bind fun x1 =>
   (tA ac.state.division.ayes.e0 x1).bind fun r1 =>
   (jS (!r1.2) 6).bind fun rG1=>match rG1 with
   | .inl y4=>(
    (rC ac.state.division.ayes.e0).bind fun r8 =>
    cB (0≤r1.1) <|
    cB (r1.1.toNat≤r8.length) <|
    cB (r8.length+([x1]:List Int).length≤1073741824) <|
    some (.inl (⟨({ac.state with division:=({ac.state.division with ayes:=(⟨(r8.take r1.1.toNat++([x1]:List Int)++r8.drop r1.1.toNat),ac.state.division.ayes.e1⟩:bL)}:aV)}:cV)⟩:aH)))
   | .inr _=>(
    some (.inr 6)))
  else
  if x4=1 then (
   (bo[0]?).bind fun x9 =>
   if x9=2 then (
    (bo[2]?).bind fun x2 =>
    (tA ac.state.division.noes.e1 x2).bind fun r2 =>
    (jS (!r2.2) 6).bind fun rH1=>match rH1 with
    | .inl y5=>(
     (rC ac.state.division.noes.e1).bind fun r9 =>
     cB (0≤r2.1) <|
     cB (r2.1.toNat≤r9.length) <|
     cB (r9.length+([x2]:List Int).length≤1073741824) <|
     some (.inl (⟨({ac.state with division:=({ac.state.division with noes:=(⟨ac.state.division.noes.e0,(r9.take r2.1.toNat++([x2]:List Int)++r9.drop r2.1.toNat)⟩:bL)}:aV)}:cV)⟩:aH)))
    | .inr _=>(
     some (.inr 6)))
   else
   (bo[2]?).bind fun x3 =>
   (tA ac.state.division.ayes.e1 x3).bind fun r4 =>
   (jS (!r4.2) 6).bind fun rI1=>match rI1 with
   | .inl y7=>(
    (rC ac.state.division.ayes.e1).bind fun rA1 =>
    cB (0≤r4.1) <|
    cB (r4.1.toNat≤rA1.length) <|
    cB (rA1.length+([x3]:List Int).length≤1073741824) <|
    some (.inl (⟨({ac.state with division:=({ac.state.division with ayes:=(⟨ac.state.division.ayes.e0,(rA1.take r4.1.toNat++([x3]:List Int)++rA1.drop r4.1.toNat)⟩:bL)}:aV)}:cV)⟩:aH)))
   | .inr _=>(
    some (.inr 6)))
  else
  none)
 | .inr _=>(
  some (.inr 8))
def LG (aj:List fF):Option (List fF) :=
 cB (([]:List fF).length+aj.length≤1073741824) <|
 some (([]:List fF)++aj)
def GC (cc:List fF) (cx:fF):Option (List fF) :=
 (LG cc).bind fun r4 =>
 cB (r4.length+([cx]:List fF).length≤1073741824) <|
 some (r4++([cx]:List fF))
def RN (ac:aH) (bo:List Int) (cz:aE):Option (aH⊕Int) :=
 (jS ac.state.open_ 8).bind fun r3=>match r3 with
 | .inl y6=>(
  (bo[0]?).bind fun x9 =>
  (bo[1]?).bind fun x0 =>
  (GC ac.state.division.pairs (⟨x9,x0⟩:fF)).bind fun r0 =>
  (vP ac ({ac.state.division with pairs:=r0}:aV)).bind fun r1=>match r1 with
  | .inl y0=>(
   some (.inl y0))
  | .inr y0=>(
   some (.inr y0)))
 | .inr _=>(
  some (.inr 8))
def qG (aj:List Int) (fc:Int) (s1:Nat):Option ((Nat)⊕((Unit)⊕Int)) :=
 if (s1:Int) < (aj.length:Int) then (
  (aj[s1]?).bind fun x0 =>
  if fc=x0 then (
   some (.inr (.inr (s1:Int))))
  else
  some (.inl (s1+1)))
 else
 some (.inr (.inl ()))
def LH (aj:List Int) (fc:Int):Option (Int) :=
 (bG (qG aj fc) 0).bind fun e16=>match e16 with
 | .inr z=>some z
 | .inl t0 =>
 some (-1)
def vQ (aj:List Int) (fc:Int):Option (Bool) :=
 (LH aj fc).bind fun r1 =>
 some (decide (0≤r1))
def BQ (lobby:bL) (member:Int):Option (Int) :=
 (vQ lobby.e0 member).bind fun r0 =>
 ((
  if r0 then (
   some 1)
  else
  some 0
 ):Option (Nat)).bind fun t39 =>
 (vQ lobby.e1 member).bind fun r1 =>
 ((
  if r1 then (
   cB (-9223372036854775808≤((t39:Int)+1)∧((t39:Int)+1)≤9223372036854775807) <|
   some (t39+1))
  else
  some t39
 ):Option (Nat)).bind fun t62 =>
 some (t62:Int)
def GD (be:aV) (member:Int):Option (List UInt8) :=
 (BQ be.ayes member).bind fun r6 =>
 (BQ be.noes member).bind fun r10 =>
 ((
  if r6 < 2 then (
   some (decide (r10 < 2)))
  else
  some false
 ):Option (Bool)).bind fun t0 =>
 ((
  if t0 then (
   cB (([]:List UInt8).length+1≤1073741824) <|
   some (([]:List UInt8)++[(0:UInt8)]))
  else
  some ([]:List UInt8)
 ):Option (List UInt8)).bind fun t38 =>
 ((
  if 0 < r6 then (
   some (decide (r10 < 2)))
  else
  some false
 ):Option (Bool)).bind fun t1 =>
 ((
  if t1 then (
   cB (t38.length+1≤1073741824) <|
   some (t38++[(1:UInt8)]))
  else
  some t38
 ):Option (List UInt8)).bind fun t68 =>
 ((
  if 0 < r10 then (
   some (decide (r6 < 2)))
  else
  some false
 ):Option (Bool)).bind fun t84 =>
 ((
  if t84 then (
   cB (t68.length+1≤1073741824) <|
   some (t68++[(2:UInt8)]))
  else
  some t68
 ):Option (List UInt8)).bind fun t2 =>
 some t2
def xQ (be:aV) (s1:Nat×bD):Option ((Nat×bD)⊕(bD)) :=
 if (s1.1:Int) < (be.pairs.length:Int) then (
  (be.pairs[s1.1]?).bind fun x0 =>
  cB (0≤x0.a) <|
  cB (x0.a < 40) <|
  cB (0≤x0.b) <|
  cB (x0.b < 40) <|
  some (.inl ((s1.1+1),(bD.set (bD.set s1.2 x0.a.toNat true) x0.b.toNat true))))
 else
 some (.inr s1.2)
def xR (be:aV) (s1:Nat×List (List UInt8)):Option ((Nat×List (List UInt8))⊕(List (List UInt8))) :=
 if (s1.1:Int) < be.members then (
  (GD be (s1.1:Int)).bind fun r0 =>
  (s1.2[s1.1]?).bind fun x0 =>
  cB (-9223372036854775808≤((s1.1:Int)+1)∧((s1.1:Int)+1)≤9223372036854775807) <|
  some (.inl ((s1.1+1),(s1.2.set s1.1 r0))))
 else
 some (.inr s1.2)
def GE (be:aV):Option (dE) :=
 (bG (xQ be) (0,bD.zero)).bind fun e76 =>
 (bG (xR be) (0,(List.replicate 40 ([]:List UInt8)))).bind fun eA1 =>
 some (⟨be,e76,eA1⟩:dE)
def xS (au:dE) (s1:Nat×Nat×Bool):Option ((Nat×Nat×Bool)⊕(Nat×Bool)) :=
 if (s1.2.1:Int) < au.division.members then (
  (au.may[s1.2.1]?).bind fun x0 =>
  if (x0.length:Int)=0 then (
   some (.inr (s1.2.1,true)))
  else
  cB (-9223372036854775808≤((s1.2.1:Int)+1)∧((s1.2.1:Int)+1)≤9223372036854775807) <|
  some (.inl (s1.1,(s1.2.1+1),s1.2.2)))
 else
 some (.inr (s1.1,s1.2.2))
def GF (au:dE):Option (Int×Bool) :=
 (bG (xS au) (0,0,false)).bind fun e41 =>
 some ((e41.1:Int),e41.2)
def GG (be:aV):Option (dE×Int) :=
 (BP be).bind fun r7 =>
 if r7 then (
  (GE be).bind fun r0 =>
  (GF r0).bind fun r1 =>
  if r1.2 then (
   some ((⟨(⟨0,(⟨([]:List Int),([]:List Int)⟩:bL),(⟨([]:List Int),([]:List Int)⟩:bL),([]:List fF),([]:List dR),0,0,0,0⟩:aV),bD.zero,(List.replicate 40 ([]:List UInt8))⟩:dE),9))
  else
  some (r0,0))
 else
 some ((⟨(⟨0,(⟨([]:List Int),([]:List Int)⟩:bL),(⟨([]:List Int),([]:List Int)⟩:bL),([]:List fF),([]:List dR),0,0,0,0⟩:aV),bD.zero,(List.replicate 40 ([]:List UInt8))⟩:dE),1)
def xU (au:dE) (s1:Nat×List Int):Option ((Nat×List Int)⊕(List Int)) :=
 if (s1.1:Int) < au.division.members then (
  (au.may[s1.1]?).bind fun x0 =>
  ((
   if 1 < (x0.length:Int) then (
    cB (s1.2.length+1≤1073741824) <|
    some (s1.2++[(s1.1:Int)]))
   else
   some s1.2
  ):Option (List Int)).bind fun t164 =>
  cB (-9223372036854775808≤((s1.1:Int)+1)∧((s1.1:Int)+1)≤9223372036854775807) <|
  some (.inl ((s1.1+1),t164)))
 else
 some (.inr s1.2)
def GH (au:dE):Option (List Int) :=
 (bG (xU au) (0,([]:List Int))).bind fun eA1 =>
 some eA1
def GI (be:aV):Option (dE×Int) :=
 (GG be).bind fun r7 =>
 ((
  if r7.2=0 then (
   (GH r7.1).bind fun r0 =>
   some (decide (8 < (r0.length:Int))))
  else
  some false
 ):Option (Bool)).bind fun t0 =>
 if t0 then (
  some ((⟨(⟨0,(⟨([]:List Int),([]:List Int)⟩:bL),(⟨([]:List Int),([]:List Int)⟩:bL),([]:List fF),([]:List dR),0,0,0,0⟩:aV),bD.zero,(List.replicate 40 ([]:List UInt8))⟩:dE),3))
 else
 some (r7.1,r7.2)
def GJ (x0:List UInt8) (fm:Int) (im:aZ→Int→Option Bool) (s1:Nat×aZ):Option ((Nat×aZ)⊕((aZ)⊕Bool)) :=
 if (s1.1:Int) < (x0.length:Int) then (
  (x0[s1.1]?).bind fun x1 =>
  cB (fm < 40) <|
  cB (-9223372036854775808≤(fm+1)∧(fm+1)≤9223372036854775807) <|
  (im (aZ.set s1.2 fm.toNat (x1.toNat:Int)) (fm+1)).bind fun r0 =>
  if r0 then (
   some (.inl ((s1.1+1),(aZ.set s1.2 fm.toNat (x1.toNat:Int)))))
  else
  some (.inr (.inr false)))
 else
 some (.inr (.inl s1.2))
def WB (il:aZ) (fm:Int) (cm:dE) (fu:aZ→Option Bool) (im:aZ→Int→Option Bool):Option (Bool) :=
 if fm=cm.division.members then (
  (fu il).bind fun r0 =>
  some r0)
 else
 cB (0≤fm) <|
 (cm.may[fm.toNat]?).bind fun x0 =>
 (bG (GJ x0 fm im) (0,il)).bind fun e90=>match e90 with
 | .inr z=>some z
 | .inl t0 =>
 some true
def GK (x0:List UInt8) (s1:Nat×aZ) (R0_:(Nat×aZ)→Option (Bool)) (s2:Nat×aZ):Option ((Nat×aZ)⊕((aZ)⊕Bool)) :=
 if (s2.1:Int) < (x0.length:Int) then (
  (x0[s2.1]?).bind fun x1 =>
  cB ((s1.1:Int) < 40) <|
  cB (-9223372036854775808≤((s1.1:Int)+1)∧((s1.1:Int)+1)≤9223372036854775807) <|
  (R0_ ((s1.1+1),(aZ.set s2.2 s1.1 (x1.toNat:Int)))).bind fun r0 =>
  if r0 then (
   some (.inl ((s2.1+1),(aZ.set s2.2 s1.1 (x1.toNat:Int)))))
  else
  some (.inr (.inr false)))
 else
 some (.inr (.inl s2.2))
def GL (cm:dE) (yield:aZ→Option Bool) (R0_:(Nat×aZ)→Option (Bool)) (s1:Nat×aZ):Option (Bool) :=
 if (s1.1:Int)=cm.division.members then (
  (yield s1.2).bind fun r0 =>
  some r0)
 else
 (cm.may[s1.1]?).bind fun x0 =>
 (bG (GK x0 s1 R0_) (0,s1.2)).bind fun eA1=>match eA1 with
 | .inr z=>some z
 | .inl t0 =>
 some true
def pD (cm:dE) (yield:aZ→Option Bool):Nat→(Nat×aZ)→Option (Bool)
 | 0,_=>none
 | n_+1,s1=>GL cm yield (pD cm yield n_) s1
def WC (yield:aZ→Option Bool) (cm:dE):Option (Unit) :=
 (wX (fun n_=>pD cm yield n_ (0,aZ.zero))).bind fun r0 =>
 some ()
def xV (au:dE) (gb:aZ) (s1:Nat×Nat×Nat):Option ((Nat×Nat×Nat)⊕(Nat×Nat)) :=
 if (s1.1:Int) < au.division.members then (
  cB ((s1.1:Int) < 40) <|
  ((
   if bD.get au.paired s1.1 then (
    some (s1.2.1,s1.2.2))
   else
   ((
    ((
     if (aZ.get gb s1.1)=1 then (
      cB (-9223372036854775808≤((s1.2.1:Int)+1)∧((s1.2.1:Int)+1)≤9223372036854775807) <|
      some ((s1.2.1+1),s1.2.2))
     else
     ((
      if (aZ.get gb s1.1)=2 then (
       cB (-9223372036854775808≤((s1.2.2:Int)+1)∧((s1.2.2:Int)+1)≤9223372036854775807) <|
       some (s1.2.2+1))
      else
      some s1.2.2
     ):Option (Nat)).bind fun t3 =>
     some (s1.2.1,t3)
    ):Option (Nat×Nat)).bind fun t0 =>
    some (t0.1,t0.2)
   ):Option (Nat×Nat)).bind fun t1 =>
   some (t1.1,t1.2)
  ):Option (Nat×Nat)).bind fun t2 =>
  cB (-9223372036854775808≤((s1.1:Int)+1)∧((s1.1:Int)+1)≤9223372036854775807) <|
  some (.inl ((s1.1+1),t2.1,t2.2)))
 else
 some (.inr (s1.2.1,s1.2.2))
def xW (au:dE) (gb:aZ) (s1:Nat×Nat×Nat):Option ((Nat×Nat×Nat)⊕(Nat×Nat)) :=
 if (s1.1:Int) < (au.division.proxies.length:Int) then (
  (au.division.proxies[s1.1]?).bind fun x0 =>
  ((
   cB (0≤x0.for_) <|
   cB (x0.for_ < 40) <|
   if (aZ.get gb x0.for_.toNat)=0 then (
    if bD.get au.paired x0.for_.toNat then (
     some false)
    else
    cB (0≤x0.holder) <|
    cB (x0.holder < 40) <|
    some (!(bD.get au.paired x0.holder.toNat)))
   else
   some false
  ):Option (Bool)).bind fun t3 =>
  ((
   if t3 then (
    cB (0≤x0.holder) <|
    cB (x0.holder < 40) <|
    ((
     ((
      if (aZ.get gb x0.holder.toNat)=1 then (
       cB (-9223372036854775808≤((s1.2.1:Int)+1)∧((s1.2.1:Int)+1)≤9223372036854775807) <|
       some ((s1.2.1+1),s1.2.2))
      else
      ((
       if (aZ.get gb x0.holder.toNat)=2 then (
        cB (-9223372036854775808≤((s1.2.2:Int)+1)∧((s1.2.2:Int)+1)≤9223372036854775807) <|
        some (s1.2.2+1))
       else
       some s1.2.2
      ):Option (Nat)).bind fun t4 =>
      some (s1.2.1,t4)
     ):Option (Nat×Nat)).bind fun t0 =>
     some (t0.1,t0.2)
    ):Option (Nat×Nat)).bind fun t1 =>
    some (t1.1,t1.2))
   else
   some (s1.2.1,s1.2.2)
  ):Option (Nat×Nat)).bind fun t2 =>
  some (.inl ((s1.1+1),t2.1,t2.2)))
 else
 some (.inr (s1.2.1,s1.2.2))
def GM (au:dE) (gb:aZ):Option (fN) :=
 (bG (xV au gb) (0,0,0)).bind fun e82 =>
 (bG (xW au gb) (0,e82.1,e82.2)).bind fun eA1 =>
 some (⟨(eA1.1:Int),(eA1.2:Int)⟩:fN)
def GN (au:dE) (dh:fN):Option (Int) :=
 cB (-9223372036854775808≤(dh.ayes+dh.noes)∧(dh.ayes+dh.noes)≤9223372036854775807) <|
 if (dh.ayes+dh.noes) < au.division.quorum then (
  some 2)
 else
 (FZ).bind fun r3 =>
 cB (0≤au.division.rule) <|
 if au.division.rule=0 then (
  (RI au.division dh (BO)).bind fun r0 =>
  if r0 then (
   some 1)
  else
  some 0)
 else
 if au.division.rule=1 then (
  (RJ au.division dh (BO)).bind fun r1 =>
  if r1 then (
   some 1)
  else
  some 0)
 else
 if au.division.rule=2 then (
  (RK au.division dh).bind fun r2 =>
  if r2 then (
   some 1)
  else
  some 0)
 else
 none
def qH (aj:List UInt8) (fc:Int) (s1:Nat):Option ((Nat)⊕((Unit)⊕Int)) :=
 if (s1:Int) < (aj.length:Int) then (
  (aj[s1]?).bind fun x0 =>
  if fc=(x0.toNat:Int) then (
   some (.inr (.inr (s1:Int))))
  else
  some (.inl (s1+1)))
 else
 some (.inr (.inl ()))
def LI (aj:List UInt8) (fc:Int):Option (Int) :=
 (bG (qH aj fc) 0).bind fun e16=>match e16 with
 | .inr z=>some z
 | .inl t0 =>
 some (-1)
def GO (aj:List UInt8) (fc:Int):Option (Bool) :=
 (LI aj fc).bind fun r1 =>
 some (decide (0≤r1))
def RO (au:Int):Option (Int) :=
 ((
  if 4294967296≤au then (
   some (32,(au/4294967296)))
  else
  some (0,au)
 ):Option (Nat×Int)).bind fun t4 =>
 ((
  if 65536≤t4.2 then (
   cB (-9223372036854775808≤((t4.1:Int)+16)∧((t4.1:Int)+16)≤9223372036854775807) <|
   some ((t4.1+16),(t4.2/65536)))
  else
  some (t4.1,t4.2)
 ):Option (Nat×Int)).bind fun t0 =>
 ((
  if 256≤t0.2 then (
   cB (-9223372036854775808≤((t0.1:Int)+8)∧((t0.1:Int)+8)≤9223372036854775807) <|
   some ((t0.1+8),(t0.2/256)))
  else
  some (t0.1,t0.2)
 ):Option (Nat×Int)).bind fun t28 =>
 cB (0≤t28.2∧t28.2≤255) <|
 cB (0≤t28.2) <|
 (([0,1,2,2,3,3,3,3,4,4,4,4,4,4,4,4,5,5,5,5,5,5,5,5,5,5,5,5,5,5,5,5,6,6,6,6,6,6,6,6,6,6,6,6,6,6,6,6,6,6,6,6,6,6,6,6,6,6,6,6,6,6,6,6,7,7,7,7,7,7,7,7,7,7,7,7,7,7,7,7,7,7,7,7,7,7,7,7,7,7,7,7,7,7,7,7,7,7,7,7,7,7,7,7,7,7,7,7,7,7,7,7,7,7,7,7,7,7,7,7,7,7,7,7,7,7,7,7,8,8,8,8,8,8,8,8,8,8,8,8,8,8,8,8,8,8,8,8,8,8,8,8,8,8,8,8,8,8,8,8,8,8,8,8,8,8,8,8,8,8,8,8,8,8,8,8,8,8,8,8,8,8,8,8,8,8,8,8,8,8,8,8,8,8,8,8,8,8,8,8,8,8,8,8,8,8,8,8,8,8,8,8,8,8,8,8,8,8,8,8,8,8,8,8,8,8,8,8,8,8,8,8,8,8,8,8,8,8,8,8,8,8,8,8,8,8,8,8,8,8,8,8,8,8,8,8]:aE)[t28.2.toNat]?).bind fun x0 =>
 cB (-9223372036854775808≤((t28.1:Int)+(x0.toNat:Int))∧((t28.1:Int)+(x0.toNat:Int))≤9223372036854775807) <|
 some ((t28.1:Int)+(x0.toNat:Int))
def LJ (au:Int):Option (Int) :=
 (RO au).bind fun r1 =>
 some r1
def GP (au:Int):Option (Bool) :=
 some (decide (au≠au))
def GQ (au:Int) (fg:Int):Option (Bool) :=
 ((
  (GP au).bind fun r0 =>
  if r0 then (
   (GP fg).bind fun r1 =>
   if r1 then (
    some (decide (au < fg)))
   else
   some true)
  else
  some (decide (au < fg))
 ):Option (Bool)).bind fun t0 =>
 some t0
def xX (x0:List UInt8) (s2:Nat×aZ×List UInt8) (R0_:(Nat×aZ×List UInt8)→Option (List UInt8)) (s1:Nat×aZ×List UInt8):Option ((Nat×aZ×List UInt8)⊕(aZ×List UInt8)) :=
 if (s1.1:Int) < (x0.length:Int) then (
  (x0[s1.1]?).bind fun x1 =>
  cB ((s2.1:Int) < 40) <|
  cB (-9223372036854775808≤((s2.1:Int)+1)∧((s2.1:Int)+1)≤9223372036854775807) <|
  (R0_ ((s2.1+1),(aZ.set s1.2.1 s2.1 (x1.toNat:Int)),s1.2.2)).bind fun r0 =>
  some (.inl ((s1.1+1),(aZ.set s1.2.1 s2.1 (x1.toNat:Int)),r0)))
 else
 some (.inr (s1.2.1,s1.2.2))
def tB (r6:dE×Int) (R0_:(Nat×aZ×List UInt8)→Option (List UInt8)) (s1:Nat×aZ×List UInt8):Option (List UInt8) :=
 if (s1.1:Int)=r6.1.division.members then (
  ((
   (GM r6.1 s1.2.1).bind fun r1 =>
   (GN r6.1 r1).bind fun r0 =>
   (GO s1.2.2 r0).bind fun r2 =>
   ((
    if r2 then (
     some s1.2.2)
    else
    cB (s1.2.2.length+1≤1073741824) <|
    cB (0≤r0∧r0≤255) <|
    some (s1.2.2++[(UInt8.ofNat r0.toNat)])
   ):Option (List UInt8)).bind fun t0 =>
   some t0
  ):Option (List UInt8)).bind fun t1 =>
  some t1)
 else
 (r6.1.may[s1.1]?).bind fun x0 =>
 (bG (xX x0 s1 R0_) (0,s1.2.1,s1.2.2)).bind fun eA1 =>
 some eA1.2
def lN (r6:dE×Int):Nat→(Nat×aZ×List UInt8)→Option (List UInt8)
 | 0,_=>none
 | n_+1,s1=>tB r6 (lN r6 n_) s1
def xY (s2:Nat×Nat×Int×Bool×Bool) (s1:Int×List UInt8):Option ((Int×List UInt8)⊕(List UInt8)) :=
 ((
  if (s2.1:Int) < s1.1 then (
   cB (0≤s1.1) <|
   (s1.2[s1.1.toNat]?).bind fun x1 =>
   cB (-9223372036854775808≤(s1.1 - 1)∧(s1.1 - 1)≤9223372036854775807) <|
   cB (0≤(s1.1 - 1)) <|
   (s1.2[(s1.1 - 1).toNat]?).bind fun x2 =>
   (GQ (x1.toNat:Int) (x2.toNat:Int)).bind fun r0 =>
   some r0)
  else
  some false
 ):Option (Bool)).bind fun t0 =>
 if t0 then (
  cB (-9223372036854775808≤(s1.1 - 1)∧(s1.1 - 1)≤9223372036854775807) <|
  cB (0≤(s1.1 - 1)) <|
  (s1.2[(s1.1 - 1).toNat]?).bind fun x0 =>
  cB (0≤s1.1) <|
  (s1.2[s1.1.toNat]?).bind fun x3 =>
  ((s1.2.set s1.1.toNat x0)[(s1.1 - 1).toNat]?).bind fun x4 =>
  some (.inl ((s1.1 - 1),((s1.2.set s1.1.toNat x0).set ((s1.1 - 1).toNat) x3))))
 else
 some (.inr s1.2)
def tC (s2:Nat×Nat×Int×Bool×Bool) (s1:Nat×List UInt8):Option ((Nat×List UInt8)⊕(List UInt8)) :=
 if (s1.1:Int) < (s2.2.1:Int) then (
  (bG (xY s2) ((s1.1:Int),s1.2)).bind fun eA1 =>
  cB (-9223372036854775808≤((s1.1:Int)+1)∧((s1.1:Int)+1)≤9223372036854775807) <|
  some (.inl ((s1.1+1),eA1)))
 else
 some (.inr s1.2)
def qI (t0:List UInt8) (s1:Nat×Nat×Int×Bool×Bool):Option ((Nat×Nat×Int×Bool×Bool)⊕(List UInt8)) :=
 cB (-9223372036854775808≤((s1.2.1:Int) - (s1.1:Int))∧((s1.2.1:Int) - (s1.1:Int))≤9223372036854775807) <|
 if ((s1.2.1:Int) - (s1.1:Int))≤12 then (
  ((
   cB (-9223372036854775808≤((s1.1:Int)+1)∧((s1.1:Int)+1)≤9223372036854775807) <|
   (bG (tC s1) ((s1.1+1),t0)).bind fun eA1 =>
   some eA1
  ):Option (List UInt8)).bind fun t1 =>
  some (.inr t1))
 else
 if s1.2.2.1=0 then (
  none)
 else
 if s1.2.2.2.1 then (
  none)
 else
 none
def GR (be:aV):Option (List UInt8×Int) :=
 (GI be).bind fun r6 =>
 if r6.2≠0 then (
  some (([]:List UInt8),r6.2))
 else
 ((
  (wX (fun n_=>lN r6 n_ (0,aZ.zero,([]:List UInt8)))).bind fun r0 =>
  some r0
 ):Option (List UInt8)).bind fun t0 =>
 ((
  (LJ (t0.length:Int)).bind fun r1 =>
  ((
   (bG (qI t0) (0,t0.length,r1,true,true)).bind fun eA1=>some eA1
  ):Option (List UInt8)).bind fun t1 =>
  some t1
 ):Option (List UInt8)).bind fun t2 =>
 some (t2,0)
def LK (aj:List UInt8):Option (List UInt8) :=
 cB (([]:List UInt8).length+aj.length≤1073741824) <|
 some (([]:List UInt8)++aj)
def GS (cc:List UInt8) (cx:Int):Option (List UInt8) :=
 (LK cc).bind fun r1 =>
 cB (r1.length+1≤1073741824) <|
 cB (0≤cx∧cx≤255) <|
 some (r1++[(UInt8.ofNat cx.toNat)])
def RP (ac:aH) (cx:List Int) (iy:aE):Option (aH⊕Int) :=
 (jS ac.state.open_ 8).bind fun r3=>match r3 with
 | .inl y6=>(
  (GR ac.state.division).bind fun r8 =>
  (mD r8.2).bind fun r0=>match r0 with
  | .inl y0=>(
   (jS (decide ((r8.1.length:Int)=1)) 10).bind fun r1=>match r1 with
   | .inl y1=>(
    (r8.1[0]?).bind fun x0 =>
    (GS ac.state.results (x0.toNat:Int)).bind fun r2 =>
    some (.inl (⟨({ac.state with division:=(⟨0,(⟨([]:List Int),([]:List Int)⟩:bL),(⟨([]:List Int),([]:List Int)⟩:bL),([]:List fF),([]:List dR),0,0,0,0⟩:aV),open_:=false,results:=r2}:cV)⟩:aH)))
   | .inr _=>(
    some (.inr 10)))
  | .inr _=>(
   some (.inr r8.2)))
 | .inr _=>(
  some (.inr 8))
def WD (fy:Int):Option (Bool) :=
 some (decide (fy=32))
def BS (text:aE):Option (List aE) :=
 (KQ text).bind fun r1 =>
 some r1
def vT (au:aR) (cm:aR→Option Bool):Option (Bool) :=
 (cm au).bind fun r7 =>
 some (!r7)
def xZ (aj:List aR) (cl:aR→Option Bool) (s1:Nat):Option ((Nat)⊕((Unit)⊕Int)) :=
 if (s1:Int) < (aj.length:Int) then (
  (aj[s1]?).bind fun x0 =>
  (cl x0).bind fun r0 =>
  if r0 then (
   some (.inr (.inr (s1:Int))))
  else
  some (.inl (s1+1)))
 else
 some (.inr (.inl ()))
def LL (aj:List aR) (cl:aR→Option Bool):Option (Int) :=
 (bG (xZ aj cl) 0).bind fun e23=>match e23 with
 | .inr z=>some z
 | .inl t26 =>
 some (-1)
def LM (aj:List aR) (cl:aR→Option Bool):Option (Bool) :=
 (LL aj cl).bind fun r1 =>
 some (decide (0≤r1))
def tF (cc:List aR) (right:aR→Option Bool):Option (Bool) :=
 (LM cc (fun x0_=>vT x0_ right)).bind fun r5 =>
 some (!r5)
def GT (de:aR):Option (Bool) :=
 some (decide ((de.words.length:Int)≤60))
def GU (bn:bP):Option (Bool) :=
 ((
  if (bn.papers.length:Int)≤10 then (
   if (bn.words.length:Int)≤60 then (
    (tF bn.papers (GT)).bind fun r0 =>
    some r0)
   else
   some false)
  else
  some false
 ):Option (Bool)).bind fun t0 =>
 some t0
def vU (au:aE) (cm:aE→Option Bool):Option (Bool) :=
 (cm au).bind fun r1 =>
 some (!r1)
def BT (cc:List aE) (right:aE→Option Bool):Option (Bool) :=
 (QT cc (fun x0_=>vU x0_ right)).bind fun r5 =>
 some (!r5)
def BU (ed:Int) (low:Int) (high:Int):Option (Bool) :=
 ((
  if low≤ed then (
   some (decide (ed≤high)))
  else
  some false
 ):Option (Bool)).bind fun t4 =>
 some t4
def vV (au:Int) (cm:Int→Option Bool):Option (Bool) :=
 (cm au).bind fun r1 =>
 some (!r1)
def GV (cc:List UInt8) (right:Int→Option Bool):Option (Bool) :=
 (BJ cc (fun x0_=>vV x0_ right)).bind fun r5 =>
 some (!r5)
def yA (fy:Int):Option (Bool) :=
 ((
  if (33:Int)≤fy then (
   some (decide (fy≤126)))
  else
  some false
 ):Option (Bool)).bind fun t4 =>
 some t4
def mX (aj:aE):Option (Bool) :=
 ((
  (BU (aj.length:Int) 1 20).bind fun r0 =>
  if r0 then (
   cB (aj.length≤1073741824) <|
   (GV aj (yA)).bind fun r1 =>
   some r1)
  else
  some false
 ):Option (Bool)).bind fun t0 =>
 some t0
def BV (de:aR):Option (Bool) :=
 (BT de.words (mX)).bind fun r8 =>
 some r8
def GW (bn:bP):Option (Bool) :=
 ((
  (BT bn.words (mX)).bind fun r0 =>
  if r0 then (
   (tF bn.papers (BV)).bind fun r1 =>
   some r1)
  else
  some false
 ):Option (Bool)).bind fun t21 =>
 some t21
def BW (de:aR):Option (Bool) :=
 (BU de.number 1 999).bind fun r7 =>
 some r7
def LN (bn:bP):Option (Bool) :=
 (tF bn.papers (BW)).bind fun r11 =>
 some r11
def tG (bn:bP) (s1:Nat×(List (Int×aR))):Option ((Nat×(List (Int×aR)))⊕((List (Int×aR)))) :=
 if (s1.1:Int) < (bn.papers.length:Int) then (
  (bn.papers[s1.1]?).bind fun x0 =>
  some (.inl ((s1.1+1),(put s1.2 x0.number x0))))
 else
 some (.inr s1.2)
def rD (bn:bP):Option ((List (Int×aR))) :=
 (bG (tG bn) (0,([]:List (Int×aR)))).bind fun e60 =>
 some e60
def LO (bn:bP):Option (Bool) :=
 (rD bn).bind fun r10 =>
 some (decide ((r10.length:Int)=(bn.papers.length:Int)))
def BX (de:aR) (cm:List (Int×aR)):Option (Bool) :=
 ((
  if de.of=0 then (
   some true)
  else
  some (decide (((eK cm de.of).getD (⟨0,0,0,0,([]:List aE)⟩:aR)).number=de.of))
 ):Option (Bool)).bind fun t0 =>
 some t0
def LP (bn:bP):Option (Bool) :=
 (rD bn).bind fun r10 =>
 (tF bn.papers (fun x0_=>BX x0_ r10)).bind fun r0 =>
 some r0
def yB (bn:bP) (r10:(List (Int×aR))) (s1:Nat×Bool×Int×Int×Int×Int×List aE):Option ((Nat×Bool×Int×Int×Int×Int×List aE)⊕((Bool×Int×Int×Int×Int×List aE)⊕((Nat×Bool)⊕(Bool)))) :=
 if s1.2.2.2.1≠0 then (
  cB (-9223372036854775808≤((s1.1:Int)+1)∧((s1.1:Int)+1)≤9223372036854775807) <|
  if (bn.papers.length:Int) < ((s1.1:Int)+1) then (
   Option.map (fun z=>.inr (.inr z)) (
   some (.inr false)))
  else
  some (.inl ((s1.1+1),s1.2.1,((eK r10 s1.2.2.2.1).getD (⟨0,0,0,0,([]:List aE)⟩:aR)).number,((eK r10 s1.2.2.2.1).getD (⟨0,0,0,0,([]:List aE)⟩:aR)).of,((eK r10 s1.2.2.2.1).getD (⟨0,0,0,0,([]:List aE)⟩:aR)).from_,((eK r10 s1.2.2.2.1).getD (⟨0,0,0,0,([]:List aE)⟩:aR)).to_,((eK r10 s1.2.2.2.1).getD (⟨0,0,0,0,([]:List aE)⟩:aR)).words)))
 else
 some (.inr (.inl (s1.2.1,s1.2.2.1,s1.2.2.2.1,s1.2.2.2.2.1,s1.2.2.2.2.2.1,s1.2.2.2.2.2.2)))
def yC (bn:bP) (r10:(List (Int×aR))) (s1:Nat×Bool):Option ((Nat×Bool)⊕(Bool)) :=
 if (s1.1:Int) < (bn.papers.length:Int) then (
  (bn.papers[s1.1]?).bind fun x0 =>
  (bG (yB bn r10) (0,s1.2,x0.number,x0.of,x0.from_,x0.to_,x0.words)).bind fun eA1=>match eA1 with
  | .inr z=>some z
  | .inl t222 =>
  some (.inl ((s1.1+1),t222.1)))
 else
 some (.inr s1.2)
def GX (bn:bP):Option (Bool) :=
 (rD bn).bind fun r10 =>
 (bG (yC bn r10) (0,true)).bind fun e84 =>
 some e84
def BY (bn:bP) (number:Int):Option (List aE) :=
 if number=0 then (
  some bn.words)
 else
 (rD bn).bind fun r0 =>
 some (((eK r0 number).getD (⟨0,0,0,0,([]:List aE)⟩:aR)).words)
def BZ (de:aR) (cm:bP):Option (Bool) :=
 ((
  if (0:Int)≤de.from_ then (
   if de.from_≤de.to_ then (
    (BY cm de.of).bind fun r0 =>
    some (decide (de.to_≤(r0.length:Int))))
   else
   some false)
  else
  some false
 ):Option (Bool)).bind fun t32 =>
 some t32
def LQ (bn:bP):Option (Bool) :=
 (tF bn.papers (fun x0_=>BZ x0_ bn)).bind fun r11 =>
 some r11
def LS  : Option (Unit) :=
 some ()
def yD (bn:bP):Option (Int) :=
 (LS).bind fun r10 =>
 (GU bn).bind fun r0 =>
 if r0 then (
  (GW bn).bind fun r1 =>
  if r1 then (
   (LN bn).bind fun r2 =>
   if r2 then (
    (LO bn).bind fun r3 =>
    if r3 then (
     (LP bn).bind fun r4 =>
     if r4 then (
      (GX bn).bind fun r5 =>
      if r5 then (
       (LQ bn).bind fun r8 =>
       if r8 then (
        some 0)
       else
       some 1)
      else
      some 8)
     else
     some 7)
    else
    some 6)
   else
   some 2)
  else
  some 4)
 else
 some 3
def RQ (ac:aH) (iw:List Int) (text:aE):Option (aH⊕Int) :=
 (jS (!ac.state.moved) 8).bind fun r3=>match r3 with
 | .inl y6=>(
  (BS text).bind fun r8 =>
  (yD (⟨r8,([]:List aR)⟩:bP)).bind fun r0 =>
  (mD r0).bind fun r1=>match r1 with
  | .inl y0=>(
   some (.inl (⟨({ac.state with motion:=(⟨r8,([]:List aR)⟩:bP),moved:=true}:cV)⟩:aH)))
  | .inr _=>(
   some (.inr r0)))
 | .inr _=>(
  some (.inr 8))
def LT (aj:List aR):Option (List aR) :=
 cB (([]:List aR).length+aj.length≤1073741824) <|
 some (([]:List aR)++aj)
def GY (cc:List aR) (cx:aR):Option (List aR) :=
 (LT cc).bind fun r7 =>
 cB (r7.length+([cx]:List aR).length≤1073741824) <|
 some (r7++([cx]:List aR))
def RR (ac:aH) (bo:List Int) (text:aE):Option (aH⊕Int) :=
 (jS ac.state.moved 8).bind fun r3=>match r3 with
 | .inl y6=>(
  (bo[0]?).bind fun x9 =>
  (bo[1]?).bind fun x0 =>
  (bo[2]?).bind fun x1 =>
  (bo[3]?).bind fun x2 =>
  (BS text).bind fun r2 =>
  (GY ac.state.motion.papers (⟨x9,x0,x1,x2,r2⟩:aR)).bind fun r0 =>
  (yD (⟨ac.state.motion.words,r0⟩:bP)).bind fun r1 =>
  (mD r1).bind fun r4=>match r4 with
  | .inl y0=>(
   some (.inl (⟨({ac.state with motion:=(⟨ac.state.motion.words,r0⟩:bP)}:cV)⟩:aH)))
  | .inr _=>(
   some (.inr r1)))
 | .inr _=>(
  some (.inr 8))
def GZ (dq:aR) (du:aR):Option (Bool) :=
 ((
  if dq.number≠du.number then (
   if dq.of=du.of then (
    if dq.from_ < du.to_ then (
     some (decide (du.from_ < dq.to_)))
    else
    some false)
   else
   some false)
  else
  some false
 ):Option (Bool)).bind fun t0 =>
 some t0
def yE (choice:List Int) (r10:(List (Int×aR))) (s1:Nat):Option ((Nat)⊕((Unit)⊕Int)) :=
 if (s1:Int) < (choice.length:Int) then (
  (choice[s1]?).bind fun x0 =>
  ((
   if ((eK r10 x0).getD (⟨0,0,0,0,([]:List aE)⟩:aR)).of≠0 then (
    (vQ choice (((eK r10 x0).getD (⟨0,0,0,0,([]:List aE)⟩:aR)).of)).bind fun r0 =>
    some (!r0))
   else
   some false
  ):Option (Bool)).bind fun t0 =>
  if t0 then (
   some (.inr (.inr 10)))
  else
  some (.inl (s1+1)))
 else
 some (.inr (.inl ()))
def yF (choice:List Int) (r10:(List (Int×aR))) (x0:Int) (s1:Nat):Option ((Nat)⊕((Unit)⊕((Nat)⊕((Unit)⊕Int)))) :=
 if (s1:Int) < (choice.length:Int) then (
  (choice[s1]?).bind fun x1 =>
  (GZ ((eK r10 x0).getD (⟨0,0,0,0,([]:List aE)⟩:aR)) ((eK r10 x1).getD (⟨0,0,0,0,([]:List aE)⟩:aR))).bind fun r0 =>
  if r0 then (
   some (.inr (.inr (.inr (.inr 9)))))
  else
  some (.inl (s1+1)))
 else
 some (.inr (.inl ()))
def yG (choice:List Int) (r10:(List (Int×aR))) (s1:Nat):Option ((Nat)⊕((Unit)⊕Int)) :=
 if (s1:Int) < (choice.length:Int) then (
  (choice[s1]?).bind fun x0 =>
  (bG (yF choice r10 x0) 0).bind fun eA1=>match eA1 with
  | .inr z=>some z
  | .inl t0 =>
  some (.inl (s1+1)))
 else
 some (.inr (.inl ()))
def HA (bn:bP) (choice:List Int):Option (Int) :=
 (rD bn).bind fun r10 =>
 (bG (yE choice r10) 0).bind fun e48=>match e48 with
 | .inr z=>some z
 | .inl t0 =>
 (bG (yG choice r10) 0).bind fun eA1=>match eA1 with
 | .inr z=>some z
 | .inl t1 =>
 some 0
def tH (choice:List Int) (r0:(List (Int×aR))) (s1:Nat):Option ((Nat)⊕((Unit)⊕Int)) :=
 if (s1:Int) < (choice.length:Int) then (
  (choice[s1]?).bind fun x0 =>
  ((
   if ((eK r0 x0).getD (⟨0,0,0,0,([]:List aE)⟩:aR)).number≠x0 then (
    some true)
   else
   if x0=0 then (
    some true)
   else
   if 0 < (s1:Int) then (
    (choice[((s1:Int) - 1).toNat]?).bind fun x1 =>
    some (decide (x0≤x1)))
   else
   some false
  ):Option (Bool)).bind fun t0 =>
  if t0 then (
   some (.inr (.inr 2)))
  else
  some (.inl (s1+1)))
 else
 some (.inr (.inl ()))
def HB (bn:bP) (choice:List Int):Option (Int) :=
 (yD bn).bind fun r10 =>
 if r10≠0 then (
  some r10)
 else
 (rD bn).bind fun r0 =>
 (bG (tH choice r0) 0).bind fun e67=>match e67 with
 | .inr z=>some z
 | .inl t0 =>
 (HA bn choice).bind fun r1 =>
 some r1
def qJ (cc:List Int) (s1:Nat):Option ((Nat)⊕((Unit)⊕Int)) :=
 if (s1:Int) < (cc.length:Int) then (
  (cc[s1]?).bind fun x0 =>
  if x0≠0 then (
   some (.inr (.inr x0)))
  else
  some (.inl (s1+1)))
 else
 some (.inr (.inl ()))
def HD (cc:List Int):Option (Int) :=
 (bG (qJ cc) 0).bind fun e16=>match e16 with
 | .inr z=>some z
 | .inl t0 =>
 some 0
def vW (dq:aR) (du:aR):Option (Int) :=
 cB (-9223372036854775808≤(dq.from_ - du.from_)∧(dq.from_ - du.from_)≤9223372036854775807) <|
 cB (-9223372036854775808≤(dq.to_ - du.to_)∧(dq.to_ - du.to_)≤9223372036854775807) <|
 cB (-9223372036854775808≤(dq.number - du.number)∧(dq.number - du.number)≤9223372036854775807) <|
 (HD ([(dq.from_ - du.from_),(dq.to_ - du.to_),(dq.number - du.number)]:List Int)).bind fun r24 =>
 some r24
def HE (cm:bP) (fu:Int) (s1:Nat×List aR):Option ((Nat×List aR)⊕(List aR)) :=
 if (s1.1:Int) < (cm.papers.length:Int) then (
  (cm.papers[s1.1]?).bind fun x0 =>
  ((
   if x0.of=fu then (
    cB (s1.2.length+1≤1073741824) <|
    some (s1.2++[x0]))
   else
   some s1.2
  ):Option (List aR)).bind fun t0 =>
  some (.inl ((s1.1+1),t0)))
 else
 some (.inr s1.2)
def HF (eA1:List aR) (l0:List aR) (yield:aR→Option Bool) (s1:Nat):Option ((Nat)⊕((Unit)⊕Unit)) :=
 if (s1:Int) < (eA1.length:Int) then (
  (l0[s1]?).bind fun x0 =>
  (yield x0).bind fun r0 =>
  if r0 then (
   some (.inl (s1+1)))
  else
  some (.inr (.inr ())))
 else
 some (.inr (.inl ()))
def WE (yield:aR→Option Bool) (cm:bP) (fu:Int):Option (Unit) :=
 (bG (HE cm fu) (0,([]:List aR))).bind fun eA1 =>
 cB (eA1.Nodup) <|
 (iK (vW) eA1).bind fun l0 =>
 (bG (HF eA1 l0 yield) 0).bind fun eB1=>match eB1 with
 | .inr z=>some z
 | .inl t0 =>
 some ()
def tI (bn:bP) (s2:Int×List aE×List bH) (s1:Nat×List aR):Option ((Nat×List aR)⊕(List aR)) :=
 if (s1.1:Int) < (bn.papers.length:Int) then (
  (bn.papers[s1.1]?).bind fun x0 =>
  ((
   if x0.of=s2.1 then (
    cB (s1.2.length+1≤1073741824) <|
    some (s1.2++[x0]))
   else
   some s1.2
  ):Option (List aR)).bind fun t0 =>
  some (.inl ((s1.1+1),t0)))
 else
 some (.inr s1.2)
def yH (x1:aR) (r0:List aE) (s2:Int×List aE×List bH) (s1:Int×List aE×List bH):Option ((Int×List aE×List bH)⊕(Int×List aE×List bH)) :=
 if s1.1 < x1.from_ then (
  cB (0≤s1.1) <|
  (r0[s1.1.toNat]?).bind fun x0 =>
  cB (s1.2.1.length+([x0]:List aE).length≤1073741824) <|
  cB (s1.2.2.length+([(⟨s2.1,s1.1⟩:bH)]:List bH).length≤1073741824) <|
  cB (-9223372036854775808≤(s1.1+1)∧(s1.1+1)≤9223372036854775807) <|
  some (.inl ((s1.1+1),(s1.2.1++([x0]:List aE)),(s1.2.2++([(⟨s2.1,s1.1⟩:bH)]:List bH)))))
 else
 some (.inr (s1.1,s1.2.1,s1.2.2))
def yI (eB1:List aR) (l0:List aR) (choice:List Int) (r1:List aE) (s2:Int×List aE×List bH) (R0_:(Int×List aE×List bH)→Option (List aE×List bH)) (s1:Nat×Int×List aE×List bH):Option ((Nat×Int×List aE×List bH)⊕(Int×List aE×List bH)) :=
 if (s1.1:Int) < (eB1.length:Int) then (
  (l0[s1.1]?).bind fun x0 =>
  ((
   (vQ choice x0.number).bind fun r2 =>
   ((
    if r2 then (
     ((
      (bG (yH x0 r1 s2) (s1.2.1,s1.2.2.1,s1.2.2.2)).bind fun eA1 =>
      some (eA1.1,eA1.2.1,eA1.2.2)
     ):Option (Int×List aE×List bH)).bind fun t2 =>
     (R0_ (x0.number,t2.2.1,t2.2.2)).bind fun r0 =>
     some (x0.to_,r0.1,r0.2))
    else
    some (s1.2.1,s1.2.2.1,s1.2.2.2)
   ):Option (Int×List aE×List bH)).bind fun t0 =>
   some (t0.1,t0.2.1,t0.2.2)
  ):Option (Int×List aE×List bH)).bind fun t1 =>
  some (.inl ((s1.1+1),t1.1,t1.2.1,t1.2.2)))
 else
 some (.inr (s1.2.1,s1.2.2.1,s1.2.2.2))
def yJ (r0:List aE) (s2:Int×List aE×List bH) (s1:Int×List aE×List bH):Option ((Int×List aE×List bH)⊕(Int×List aE×List bH)) :=
 if s1.1 < (r0.length:Int) then (
  cB (0≤s1.1) <|
  (r0[s1.1.toNat]?).bind fun x0 =>
  cB (s1.2.1.length+([x0]:List aE).length≤1073741824) <|
  cB (s1.2.2.length+([(⟨s2.1,s1.1⟩:bH)]:List bH).length≤1073741824) <|
  cB (-9223372036854775808≤(s1.1+1)∧(s1.1+1)≤9223372036854775807) <|
  some (.inl ((s1.1+1),(s1.2.1++([x0]:List aE)),(s1.2.2++([(⟨s2.1,s1.1⟩:bH)]:List bH)))))
 else
 some (.inr (s1.1,s1.2.1,s1.2.2))
def tJ (bn:bP) (choice:List Int) (R0_:(Int×List aE×List bH)→Option (List aE×List bH)) (s1:Int×List aE×List bH):Option (List aE×List bH) :=
 (BY bn s1.1).bind fun r0 =>
 ((
  (bG (tI bn s1) (0,([]:List aR))).bind fun eA1 =>
  cB (eA1.Nodup) <|
  (iK (vW) eA1).bind fun l0 =>
  (bG (yI eA1 l0 choice r0 s1 R0_) (0,0,s1.2.1,s1.2.2)).bind fun eB1 =>
  some (eB1.1,eB1.2.1,eB1.2.2)
 ):Option (Int×List aE×List bH)).bind fun t0 =>
 ((
  (bG (yJ r0 s1) (t0.1,t0.2.1,t0.2.2)).bind fun eC1 =>
  some (eC1.1,eC1.2.1,eC1.2.2)
 ):Option (Int×List aE×List bH)).bind fun t1 =>
 some (t1.2.1,t1.2.2)
def lO (bn:bP) (choice:List Int):Nat→(Int×List aE×List bH)→Option (List aE×List bH)
 | 0,_=>none
 | n_+1,s1=>tJ bn choice (lO bn choice n_) s1
def CA (bn:bP) (choice:List Int):Option (List aE×List bH×Int) :=
 (HB bn choice).bind fun r0 =>
 if r0≠0 then (
  some (([]:List aE),([]:List bH),r0))
 else
 (wX (fun n_=>lO bn choice n_ (0,([]:List aE),([]:List bH)))).bind fun r1 =>
 some (r1.1,r1.2,0)
def RS (ac:aH) (bo:List Int) (cz:aE):Option (aH⊕Int) :=
 (jS ac.state.moved 8).bind fun r3=>match r3 with
 | .inl y6=>(
  (bo[0]?).bind fun x8 =>
  (tA ac.state.choice x8).bind fun r0 =>
  (jS (!r0.2) 6).bind fun r4=>match r4 with
  | .inl y0=>(
   (rC ac.state.choice).bind fun r1 =>
   cB (0≤r0.1) <|
   cB (r0.1.toNat≤r1.length) <|
   cB (r1.length+([x8]:List Int).length≤1073741824) <|
   (CA ac.state.motion (r1.take r0.1.toNat++([x8]:List Int)++r1.drop r0.1.toNat)).bind fun r2 =>
   (mD r2.2.2).bind fun r5=>match r5 with
   | .inl y1=>(
    some (.inl (⟨({ac.state with choice:=(r1.take r0.1.toNat++([x8]:List Int)++r1.drop r0.1.toNat)}:cV)⟩:aH)))
   | .inr _=>(
    some (.inr r2.2.2)))
  | .inr _=>(
   some (.inr 6)))
 | .inr _=>(
  some (.inr 8))
def RT (ac:aH) (bo:List Int) (cz:aE):Option (aH⊕Int) :=
 ((
  if ac.state.moved then (
   (jS (!ac.state.bound) 8).bind fun r22=>match r22 with
   | .inl y1=>(
    some (.inl ()))
   | .inr _=>(
    some (.inr (.inr 8))))
  else
  (jS false 8).bind fun r1=>match r1 with
  | .inl y2=>(
   some (.inl ()))
  | .inr _=>(
   some (.inr (.inr 8)))
 ):Option ((Unit)⊕(aH⊕Int))).bind fun t0=>match t0 with
 | .inr z=>some z
 | .inl t1 =>
 (CA ac.state.motion ac.state.choice).bind fun r0 =>
 (mD r0.2.2).bind fun r2=>match r2 with
 | .inl y3=>(
  (EV r0.1 [32]).bind fun r3 =>
  (KV ac bo r3).bind fun r4=>match r4 with
  | .inl y0=>(
   some (.inl (⟨({y0.state with motion:=(⟨([]:List aE),([]:List aR)⟩:bP),moved:=false,choice:=([]:List Int)}:cV)⟩:aH)))
  | .inr y0=>(
   some (.inr y0)))
 | .inr _=>(
  some (.inr r0.2.2))
def WF  : Option ((List (aE×cQ))) :=
 some (put (put (put (put (put (put (put (put (put (put (put (put (put (put (put (put (put ([]:List (aE×cQ)) [100,97,121] (⟨1,false,(some 82)⟩:cQ)) [115,97,121] (⟨1,true,(some 83)⟩:cQ)) [98,105,110,100] (⟨3,false,(some 84)⟩:cQ)) [99,104,97,110,103,101] (⟨2,true,(some 85)⟩:cQ)) [114,101,109,111,118,101] (⟨2,false,(some 86)⟩:cQ)) [97,100,100] (⟨3,true,(some 87)⟩:cQ)) [99,105,116,101] (⟨2,false,(some 88)⟩:cQ)) [104,105,100,101] (⟨3,false,(some 89)⟩:cQ)) [104,111,117,115,101] (⟨1,false,(some 90)⟩:cQ)) [100,105,118,105,100,101] (⟨4,false,(some 91)⟩:cQ)) [116,101,108,108] (⟨3,false,(some 92)⟩:cQ)) [112,97,105,114] (⟨2,false,(some 93)⟩:cQ)) [114,101,115,117,108,116] (⟨0,false,(some 94)⟩:cQ)) [109,111,118,101] (⟨0,true,(some 95)⟩:cQ)) [112,97,112,101,114] (⟨4,true,(some 96)⟩:cQ)) [97,100,111,112,116] (⟨1,false,(some 97)⟩:cQ)) [111,114,100,101,114] (⟨1,false,(some 98)⟩:cQ))
def WG (aj:aE):Option (Int⊕Unit) :=
 (zV aj).bind fun r1 =>
 ((
  if r1.2 then (
   (jS false 4).bind fun r0=>match r0 with
   | .inl y0=>(
    some (.inl ()))
   | .inr _=>(
    some (.inr (.inr ()))))
  else
  (zW r1.1).bind fun r2 =>
  if r2=aj then (
   (xH r1.1 (-999999999) 999999999).bind fun r3 =>
   (jS r3 4).bind fun r4=>match r4 with
   | .inl y1=>(
    some (.inl ()))
   | .inr _=>(
    some (.inr (.inr ()))))
  else
  (jS false 4).bind fun r5=>match r5 with
  | .inl y2=>(
   some (.inl ()))
  | .inr _=>(
   some (.inr (.inr ())))
 ):Option ((Unit)⊕(Int⊕Unit))).bind fun t34=>match t34 with
 | .inr z=>some z
 | .inl t37 =>
 some (.inl r1.1)
def OF (q:Option Nat) (ac:aH) (bo:List Int) (cz:aE):Option (aH⊕Int) :=
 if q=some 82 then QU ac bo cz
 else if q=some 83 then KV ac bo cz
 else if q=some 84 then QY ac bo cz
 else if q=some 85 then RA ac bo cz
 else if q=some 86 then RB ac bo cz
 else if q=some 87 then RD ac bo cz
 else if q=some 88 then RF ac bo cz
 else if q=some 89 then RG ac bo cz
 else if q=some 90 then RH ac bo cz
 else if q=some 91 then RL ac bo cz
 else if q=some 92 then RM ac bo cz
 else if q=some 93 then RN ac bo cz
 else if q=some 94 then RP ac bo cz
 else if q=some 95 then RQ ac bo cz
 else if q=some 96 then RR ac bo cz
 else if q=some 97 then RS ac bo cz
 else if q=some 98 then RT ac bo cz
 else none
def AI (r7:(List (aE×cQ))) (r4:aE×aE×Bool) (ac:aH) (s1:Nat×aE×Bool×List Int):Option ((Nat×aE×Bool×List Int)⊕((aE×Bool×List Int)⊕(aH×Int))) :=
 if (s1.1:Int) < ((eK r7 r4.1).getD (⟨0,false,(none:Option Nat)⟩:cQ)).many then (
  (jS s1.2.2.1 4).bind fun r1=>match r1 with
  | .inl y1=>(
   (tX s1.2.1 [32]).bind fun r0 =>
   (WG r0.1).bind fun r2=>match r2 with
   | .inl y0=>(
    cB (s1.2.2.2.length+1≤1073741824) <|
    cB (-9223372036854775808≤((s1.1:Int)+1)∧((s1.1:Int)+1)≤9223372036854775807) <|
    some (.inl ((s1.1+1),r0.2.1,r0.2.2,(s1.2.2.2++[y0]))))
   | .inr _=>(
    some (.inr (.inr (ac,4)))))
  | .inr _=>(
   some (.inr (.inr (ac,4)))))
 else
 some (.inr (.inl (s1.2.1,s1.2.2.1,s1.2.2.2)))
def LU (ac:aH) (text:aE):Option (aH×Int) :=
 (tX text [32]).bind fun r4 =>
 (WF).bind fun r7 =>
 (jS ((eK r7 r4.1).isSome) 4).bind fun r0=>match r0 with
 | .inl y1=>(
  (bG (AI r7 r4 ac) (0,r4.2.1,r4.2.2,([]:List Int))).bind fun e99=>match e99 with
  | .inr z=>some z
  | .inl t102 =>
  (jS (t102.2.1==((eK r7 r4.1).getD (⟨0,false,(none:Option Nat)⟩:cQ)).text) 4).bind fun r1=>match r1 with
  | .inl y2=>(
   (OF (((eK r7 r4.1).getD (⟨0,false,(none:Option Nat)⟩:cQ)).do_) ac t102.2.2 t102.1).bind fun r2=>match r2 with
   | .inl y0=>(
    some (y0,0))
   | .inr y0=>(
    some (ac,y0)))
  | .inr _=>(
   some (ac,4)))
 | .inr _=>(
  some (ac,4))
def vX (lines:List aE) (s:Nat×aH×List Int):Option ((Nat×aH×List Int)⊕(aH×List Int)) :=
 if (s.1:Int) < (lines.length:Int) then (
  (lines[s.1]?).bind fun x =>
  (LU s.2.1 x).bind fun r =>
  cB (s.2.2.length+1≤1073741824) <|
  some (.inl ((s.1+1),r.1,(s.2.2++[r.2]))))
 else
 some (.inr s.2)
def WH (lines:List aE):Option (aH×List Int) :=
 (bG (vX lines) (0,(⟨(⟨0,0,(⟨0,0,0,0,([]:List eB)⟩:bE),false,([]:List aK),([]:List gX),([]:List aE),(⟨([]:List aE),([]:List aR)⟩:bP),false,([]:List Int),(⟨0,(⟨([]:List Int),([]:List Int)⟩:bL),(⟨([]:List Int),([]:List Int)⟩:bL),([]:List fF),([]:List dR),0,0,0,0⟩:aV),false,([]:List UInt8)⟩:cV)⟩:aH),([]:List Int))).bind fun e =>
 some e
def m8 (lines:List aE):Option (cV×List Int×Int) :=
 (TQ lines).bind fun r2 =>
 if r2≠0 then (
  some ((⟨0,0,(⟨0,0,0,0,([]:List eB)⟩:bE),false,([]:List aK),([]:List gX),([]:List aE),(⟨([]:List aE),([]:List aR)⟩:bP),false,([]:List Int),(⟨0,(⟨([]:List Int),([]:List Int)⟩:bL),(⟨([]:List Int),([]:List Int)⟩:bL),([]:List fF),([]:List dR),0,0,0,0⟩:aV),false,([]:List UInt8)⟩:cV),([]:List Int),r2))
 else
 (WH lines).bind fun r11 =>
 some (r11.1.state,r11.2,0)
def OH (turned:Bool) (s1:Int×Int×dH):Option ((Int×Int×dH)⊕(dH)) :=
 if 0≤s1.2.1 then (
  cB (0≤s1.1∧0 < (8:Int)) <|
  ((
   if turned then (
    some (7 - (s1.1%8)))
   else
   some (s1.1%8)
  ):Option (Int)).bind fun t0 =>
  cB (-9223372036854775808≤(48+t0)∧(48+t0)≤9223372036854775807) <|
  cB (0≤(48+t0)∧(48+t0)≤255) <|
  cB (s1.2.1 < 6) <|
  cB (0≤s1.1∧s1.1≤9223372036854775807∧0 < (8:Int)) <|
  cB (-9223372036854775808≤(s1.2.1 - 1)∧(s1.2.1 - 1)≤9223372036854775807) <|
  some (.inl ((s1.1/8),(s1.2.1 - 1),(dH.set s1.2.2 s1.2.1.toNat (48+t0)))))
 else
 some (.inr s1.2.2)
def WI (ed:Int) (many:Int) (turned:Bool):Option (aE) :=
 cB (-9223372036854775808≤(many - 1)∧(many - 1)≤9223372036854775807) <|
 (bG (OH turned) (ed,(many - 1),dH.zero)).bind fun e46 =>
 cB (∀ v∈dH.vals e46,0≤v∧v≤255) <|
 cB (0≤many) <|
 cB (many.toNat≤6) <|
 some (((dH.vals e46).map IX).take many.toNat)
def OI (aj:aE) (s1:Nat×Int):Option ((Nat×Int)⊕(Int)) :=
 if (s1.1:Int) < (aj.length:Int) then (
  (aj[s1.1]?).bind fun x0 =>
  cB (-9223372036854775808≤(29*s1.2)∧(29*s1.2)≤9223372036854775807) <|
  cB (-9223372036854775808≤((29*s1.2)+(x0.toNat:Int))∧((29*s1.2)+(x0.toNat:Int))≤9223372036854775807) <|
  cB (-9223372036854775808≤(((29*s1.2)+(x0.toNat:Int))+3)∧(((29*s1.2)+(x0.toNat:Int))+3)≤9223372036854775807) <|
  cB (0≤(((29*s1.2)+(x0.toNat:Int))+3)∧0 < (262139:Int)) <|
  some (.inl ((s1.1+1),((((29*s1.2)+(x0.toNat:Int))+3)%262139))))
 else
 some (.inr s1.2)
def m54 (aj:aE):Option (aE) :=
 cB (aj.length≤1073741824) <|
 (bG (OI aj) (0,11)).bind fun e47 =>
 (WI (aj.length:Int) 4 false).bind fun r0 =>
 cB ([91].length+r0.length≤1073741824) <|
 (WI (aj.length:Int) 4 true).bind fun r1 =>
 cB (([91]++r0).length+r1.length≤1073741824) <|
 (WI e47 6 false).bind fun r2 =>
 cB ((([91]++r0)++r1).length+r2.length≤1073741824) <|
 cB (((([91]++r0)++r1)++r2).length+[93].length≤1073741824) <|
 cB ((((([91]++r0)++r1)++r2)++[93]).length+aj.length≤1073741824) <|
 cB (((((([91]++r0)++r1)++r2)++[93])++aj).length+[10].length≤1073741824) <|
 some (((((([91]++r0)++r1)++r2)++[93])++aj)++[10])
def OJ (lines:List aE) (s1:Nat×List UInt8):Option ((Nat×List UInt8)⊕(List UInt8)) :=
 if (s1.1:Int) < (lines.length:Int) then (
  (lines[s1.1]?).bind fun x0 =>
  (m54 x0).bind fun r0 =>
  cB (s1.2.length+r0.length≤1073741824) <|
  some (.inl ((s1.1+1),(s1.2++r0))))
 else
 some (.inr s1.2)
def m35 (lines:List aE):Option (List UInt8) :=
 (bG (OJ lines) (0,([]:List UInt8))).bind fun e64 =>
 some e64
def m19 (lines:List aE):Option (List UInt8×Int) :=
 (TQ lines).bind fun r1 =>
 if r1≠0 then (
  some (([]:List UInt8),r1))
 else
 (m35 lines).bind fun r10 =>
 some (r10,0)
def OL (dq:List aE) (du:List aE) (s1:Nat):Option ((Nat)⊕((Unit)⊕Bool)) :=
 if (s1:Int) < (dq.length:Int) then (
  (dq[s1]?).bind fun x0 =>
  (du[s1]?).bind fun x1 =>
  if x0≠x1 then (
   some (.inr (.inr false)))
  else
  some (.inl (s1+1)))
 else
 some (.inr (.inl ()))
def m17 (dq:List aE) (du:List aE):Option (Bool) :=
 if (dq.length:Int)≠(du.length:Int) then (
  some false)
 else
 (bG (OL dq du) 0).bind fun e31=>match e31 with
 | .inr z=>some z
 | .inl t34 =>
 some true
def m7  : Option (Bool) :=
 (m18).bind fun r1 =>
 (m8 r1).bind fun r8 =>
 (m19 ([[97]]:List aE)).bind fun r0 =>
 ((
  if r8.2.2=0 then (
   if r0.2=0 then (
    if (r8.2.1.length:Int)=18 then (
     (r8.2.1[11]?).bind fun x0 =>
     if x0=10 then (
      (r8.2.1[17]?).bind fun x1 =>
      if x1=0 then (
       if r8.1.bound then (
        if (r8.1.results.length:Int)=1 then (
         (r8.1.results[0]?).bind fun x2 =>
         if (x2.toNat:Int)=1 then (
          (m17 r8.1.cites ([[118,111,108,46,32,51,44,32,99,111,108,46,32,49,44,32,108,46,32,50]]:List aE)).bind fun r2 =>
          if r2 then (
           some (decide (r0.1=[91,48,48,48,49,55,55,55,54,48,48,48,54,52,51,93,97,10])))
          else
          some false)
         else
         some false)
        else
        some false)
       else
       some false)
      else
      some false)
     else
     some false)
    else
    some false)
   else
   some false)
  else
  some false
 ):Option (Bool)).bind fun t0 =>
 some t0
def m9 (cc:List aE):Option (List aE) :=
 cB (([]:List aE).length+cc.length≤1073741824) <|
 some (([]:List aE)++cc)
def AJ (r0:List cK) (s1:Nat×List iA):Option ((Nat×List iA)⊕(List iA)) :=
 if (s1.1:Int) < (r0.length:Int) then (
  (r0[s1.1]?).bind fun x0 =>
  cB (s1.2.length+1≤1073741824) <|
  some (.inl ((s1.1+1),(s1.2++[x0.place]))))
 else
 some (.inr s1.2)
def OM (am:bE) (errata:List aK):Option (List iA×Int) :=
 (rB am errata).bind fun r7 =>
 if r7≠0 then (
  some (([]:List iA),r7))
 else
 (CX am errata).bind fun r0 =>
 (bG (AJ r0) (0,([]:List iA))).bind fun e89 =>
 some (e89,0)
def JA (cite:aE):Option (gE⊕Unit) :=
 (NW cite [118,111,108,46,32]).bind fun r6 =>
 ((
  if r6.2 then (
   (QH cite [99,111,108,46,32]).bind fun rF1 =>
   ((
    if rF1 then (
     ((
      (tX r6.1 [44,32,99,111,108,46,32]).bind fun r0 =>
      if r0.2.2 then (
       (zV r0.1).bind fun r1 =>
       ((
        if r1.2 then (
         some true)
        else
        (zW r1.1).bind fun rG1 =>
        if rG1≠r0.1 then (
         some true)
        else
        (qR r1.1 0 999999).bind fun rH1 =>
        some (!rH1)
       ):Option (Bool)).bind fun t7 =>
       if t7 then (
        some (.inr (.inr (.inr (.inr ())))))
       else
       some (.inl (r1.1,r0.2.1)))
      else
      some (.inr (.inr (.inr (.inr ()))))
     ):Option ((Int×aE)⊕((Int×Int×Int×Int×aE)⊕((Int×Int×Int×Int×aE)⊕(gE⊕Unit))))).bind fun t8=>match t8 with
     | .inr z=>some z
     | .inl t5 =>
     ((
      (tX t5.2 [44,32,108,46,32]).bind fun r2 =>
      if r2.2.2 then (
       (zV r2.1).bind fun r3 =>
       ((
        if r3.2 then (
         some true)
        else
        (zW r3.1).bind fun rI1 =>
        if rI1≠r2.1 then (
         some true)
        else
        (qR r3.1 0 999999).bind fun rJ1 =>
        some (!rJ1)
       ):Option (Bool)).bind fun t9 =>
       if t9 then (
        some (.inr (.inr (.inr (.inr ())))))
       else
       some (.inl (r3.1,r2.2.1)))
      else
      some (.inr (.inr (.inr (.inr ()))))
     ):Option ((Int×aE)⊕((Int×Int×Int×Int×aE)⊕((Int×Int×Int×Int×aE)⊕(gE⊕Unit))))).bind fun tD=>match tD with
     | .inr z=>some z
     | .inl t2 =>
     ((
      (zV t2.2).bind fun r4 =>
      ((
       if r4.2 then (
        some true)
       else
       (zW r4.1).bind fun rK1 =>
       if rK1≠t2.2 then (
        some true)
       else
       (qR r4.1 0 999999).bind fun rL1 =>
       some (!rL1)
      ):Option (Bool)).bind fun tE =>
      if tE then (
       some (.inr (.inr (.inr (.inr ())))))
      else
      some (.inl r4.1)
     ):Option ((Int)⊕((Int×Int×Int×Int×aE)⊕((Int×Int×Int×Int×aE)⊕(gE⊕Unit))))).bind fun tR=>match tR with
     | .inr z=>some z
     | .inl tA1 =>
     some (.inl (0,t5.1,t2.1,tA1,t2.2)))
    else
    ((
     (tX r6.1 [44,32]).bind fun r5 =>
     if r5.2.2 then (
      (zV r5.1).bind fun r8 =>
      ((
       if r8.2 then (
        some true)
       else
       (zW r8.1).bind fun rM1 =>
       if rM1≠r5.1 then (
        some true)
       else
       (qR r8.1 0 999999).bind fun rN1 =>
       some (!rN1)
      ):Option (Bool)).bind fun tB1 =>
      if tB1 then (
       some (.inr (.inr (.inr (.inr ())))))
      else
      some (.inl (r8.1,r5.2.1)))
     else
     some (.inr (.inr (.inr (.inr ()))))
    ):Option ((Int×aE)⊕((Int×Int×Int×Int×aE)⊕((Int×Int×Int×Int×aE)⊕(gE⊕Unit))))).bind fun tC1=>match tC1 with
    | .inr z=>some z
    | .inl t6 =>
    ((
     (tX t6.2 [44,32,112,97,114,46,32]).bind fun r9 =>
     if r9.2.2 then (
      (zV r9.1).bind fun rA1 =>
      ((
       if rA1.2 then (
        some true)
       else
       (zW rA1.1).bind fun rO1 =>
       if rO1≠r9.1 then (
        some true)
       else
       (qR rA1.1 0 999999).bind fun rP1 =>
       some (!rP1)
      ):Option (Bool)).bind fun tD1 =>
      if tD1 then (
       some (.inr (.inr (.inr (.inr ())))))
      else
      some (.inl (rA1.1,r9.2.1)))
     else
     some (.inr (.inr (.inr (.inr ()))))
    ):Option ((Int×aE)⊕((Int×Int×Int×Int×aE)⊕((Int×Int×Int×Int×aE)⊕(gE⊕Unit))))).bind fun tE1=>match tE1 with
    | .inr z=>some z
    | .inl t3 =>
    ((
     (zV t3.2).bind fun rB1 =>
     ((
      if rB1.2 then (
       some true)
      else
      (zW rB1.1).bind fun rQ1 =>
      if rQ1≠t3.2 then (
       some true)
      else
      (qR rB1.1 0 999999).bind fun rR1 =>
      some (!rR1)
     ):Option (Bool)).bind fun tF1 =>
     if tF1 then (
      some (.inr (.inr (.inr (.inr ())))))
     else
     some (.inl rB1.1)
    ):Option ((Int)⊕((Int×Int×Int×Int×aE)⊕((Int×Int×Int×Int×aE)⊕(gE⊕Unit))))).bind fun tG1=>match tG1 with
    | .inr z=>some z
    | .inl tH1 =>
    some (.inl (1,t6.1,t3.1,tH1,t3.2))
   ):Option ((Int×Int×Int×Int×aE)⊕((Int×Int×Int×Int×aE)⊕(gE⊕Unit)))).bind fun tI1=>match tI1 with
   | .inr z=>some z
   | .inl t1 =>
   some (.inl (t1.1,t1.2.1,t1.2.2.1,t1.2.2.2.1,t1.2.2.2.2)))
  else
  ((
   (tX cite [64]).bind fun rC1 =>
   if rC1.2.2 then (
    (zV rC1.1).bind fun rD1 =>
    ((
     if rD1.2 then (
      some true)
     else
     (zW rD1.1).bind fun rS1 =>
     if rS1≠rC1.1 then (
      some true)
     else
     (qR rD1.1 0 999999).bind fun rT1 =>
     some (!rT1)
    ):Option (Bool)).bind fun tJ1 =>
    if tJ1 then (
     some (.inr (.inr (.inr ()))))
    else
    some (.inl (rD1.1,rC1.2.1)))
   else
   some (.inr (.inr (.inr ())))
  ):Option ((Int×aE)⊕((Int×Int×Int×Int×aE)⊕(gE⊕Unit)))).bind fun tK1=>match tK1 with
  | .inr z=>some z
  | .inl t4 =>
  ((
   (zV t4.2).bind fun rE1 =>
   ((
    if rE1.2 then (
     some true)
    else
    (zW rE1.1).bind fun rU1 =>
    if rU1≠t4.2 then (
     some true)
    else
    (qR rE1.1 0 999999).bind fun rV1 =>
    some (!rV1)
   ):Option (Bool)).bind fun tL1 =>
   if tL1 then (
    some (.inr (.inr (.inr ()))))
   else
   some (.inl rE1.1)
  ):Option ((Int)⊕((Int×Int×Int×Int×aE)⊕(gE⊕Unit)))).bind fun tM1=>match tM1 with
  | .inr z=>some z
  | .inl tN1 =>
  some (.inl (2,t4.1,tN1,0,t4.2))
 ):Option ((Int×Int×Int×Int×aE)⊕(gE⊕Unit))).bind fun tO1=>match tO1 with
 | .inr z=>some z
 | .inl t0 =>
 ((
  if t0.1≠0 then (
   (FF t0.2.2.1).bind fun rW1 =>
   some (!rW1))
  else
  some false
 ):Option (Bool)).bind fun tP1 =>
 if tP1 then (
  some (.inr ()))
 else
 some (.inl (⟨t0.1,(⟨t0.2.1,t0.2.2.1,t0.2.2.2.1⟩:EZ)⟩:gE))
def m24 (s:aE):Option (gE×Bool):=(JA s).map fun o=>match o with
 | .inl c=>(c,true)
 | .inr _=>(⟨0,⟨0,0,0⟩⟩,false)
def AK (r1:List cK) (r0:gE×Bool) (am:bE) (s1:Nat):Option ((Nat)⊕((Unit)⊕(Int×Int×Int))) :=
 if (s1:Int) < (r1.length:Int) then (
  (r1[s1]?).bind fun x0 =>
  cB (-9223372036854775808≤(r0.1.numbers.e1 - x0.place.column)∧(r0.1.numbers.e1 - x0.place.column)≤9223372036854775807) <|
  cB (-9223372036854775808≤((r0.1.numbers.e1 - x0.place.column)*am.height)∧((r0.1.numbers.e1 - x0.place.column)*am.height)≤9223372036854775807) <|
  cB (-9223372036854775808≤(((r0.1.numbers.e1 - x0.place.column)*am.height)+r0.1.numbers.e2)∧(((r0.1.numbers.e1 - x0.place.column)*am.height)+r0.1.numbers.e2)≤9223372036854775807) <|
  cB (-9223372036854775808≤((((r0.1.numbers.e1 - x0.place.column)*am.height)+r0.1.numbers.e2) - x0.place.line)∧((((r0.1.numbers.e1 - x0.place.column)*am.height)+r0.1.numbers.e2) - x0.place.line)≤9223372036854775807) <|
  ((
   if x0.day=r0.1.numbers.e1 then (
    some (decide (x0.number=r0.1.numbers.e2)))
   else
   some false
  ):Option (Bool)).bind fun t0 =>
  ((
   if r0.1.style=0 then (
    ((
     (qR r0.1.numbers.e2 1 am.height).bind fun r2 =>
     if r2 then (
      cB (-9223372036854775808≤(x0.place.lines - 1)∧(x0.place.lines - 1)≤9223372036854775807) <|
      (qR ((((r0.1.numbers.e1 - x0.place.column)*am.height)+r0.1.numbers.e2) - x0.place.line) 0 (x0.place.lines - 1)).bind fun r3 =>
      some r3)
     else
     some false
    ):Option (Bool)).bind fun t1 =>
    some t1)
   else
   some t0
  ):Option (Bool)).bind fun t2 =>
  ((
   if t2 then (
    some (decide (r0.1.numbers.e0=am.number)))
   else
   some false
  ):Option (Bool)).bind fun t3 =>
  if t3 then (
   some (.inr (.inr (x0.place.anchor,am.bound,0))))
  else
  some (.inl (s1+1)))
 else
 some (.inr (.inl ()))
def LV (am:bE) (errata:List aK) (cite:aE):Option (Int×Int×Int) :=
 (rB am errata).bind fun r7 =>
 if r7≠0 then (
  some (0,0,r7))
 else
 (m24 cite).bind fun r0 =>
 if r0.2 then (
  if r0.1.style=2 then (
   (KX am errata r0.1.numbers.e0 r0.1.numbers.e1).bind fun r1 =>
   if r1.2.2≠0 then (
    some (0,0,r1.2.2))
   else
   some (r0.1.numbers.e0,r0.1.numbers.e1,0))
  else
  (CX am errata).bind fun r2 =>
  (bG (AK r2 r0 am) 0).bind fun e112=>match e112 with
  | .inr z=>some z
  | .inl t0 =>
  some (0,0,7))
 else
 some (0,0,4)
def RU (r0:List iA×Int) (r1:List iA×Int) (s1:Nat):Option ((Nat)⊕((Unit)⊕Bool)) :=
 if (s1:Int) < (r0.1.length:Int) then (
  (r0.1[s1]?).bind fun x0 =>
  (r1.1[s1]?).bind fun x1 =>
  if x0=x1 then (
   some (.inl (s1+1)))
  else
  some (.inr (.inr false)))
 else
 some (.inr (.inl ()))
def RV (r0:cV×List Int×Int) (r1:cV×List Int×Int) (s1:Nat):Option ((Nat)⊕((Unit)⊕Bool)) :=
 if (s1:Int) < (r0.1.cites.length:Int) then (
  (r0.1.cites[s1]?).bind fun x0 =>
  (LV r0.1.volume r0.1.errata x0).bind fun r2 =>
  (r1.1.cites[s1]?).bind fun x1 =>
  (LV r1.1.volume r1.1.errata x1).bind fun r3 =>
  ((
   if x1≠x0 then (
    some true)
   else
   if r2.2.2≠0 then (
    some true)
   else
   if r3.2.2≠0 then (
    some true)
   else
   if r2.1≠r3.1 then (
    some true)
   else
   some (decide (r2.2.1≠r3.2.1))
  ):Option (Bool)).bind fun t0 =>
  if t0 then (
   some (.inr (.inr false)))
  else
  some (.inl (s1+1)))
 else
 some (.inr (.inl ()))
def m3 (lines:List aE) (one:Int) (two:Int):Option (Bool) :=
 ((
  (m5 lines).bind fun r4 =>
  if r4 then (
   (m6 lines).bind fun r5 =>
   some (!r5))
  else
  some true
 ):Option (Bool)).bind fun t0 =>
 if t0 then (
  (m7).bind fun r8 =>
  some r8)
 else
 cB (-9223372036854775808≤one∧one≤9223372036854775807) <|
 cB (-9223372036854775808≤((lines.length:Int)+1)∧((lines.length:Int)+1)≤9223372036854775807) <|
 cB (0≤one∧0 < ((lines.length:Int)+1)) <|
 cB (-9223372036854775808≤two∧two≤9223372036854775807) <|
 cB (-9223372036854775808≤(((lines.length:Int) - (one%((lines.length:Int)+1)))+1)∧(((lines.length:Int) - (one%((lines.length:Int)+1)))+1)≤9223372036854775807) <|
 cB (0≤two∧0 < (((lines.length:Int) - (one%((lines.length:Int)+1)))+1)) <|
 cB (-9223372036854775808≤((one%((lines.length:Int)+1))+(two%(((lines.length:Int) - (one%((lines.length:Int)+1)))+1)))∧((one%((lines.length:Int)+1))+(two%(((lines.length:Int) - (one%((lines.length:Int)+1)))+1)))≤9223372036854775807) <|
 cB ((one%((lines.length:Int)+1)).toNat≤lines.length) <|
 (m9 (lines.take ((one%((lines.length:Int)+1)).toNat))).bind fun r9 =>
 (m8 r9).bind fun r0 =>
 cB (((one%((lines.length:Int)+1))+(two%(((lines.length:Int) - (one%((lines.length:Int)+1)))+1))).toNat≤lines.length) <|
 (m9 (lines.take (((one%((lines.length:Int)+1))+(two%(((lines.length:Int) - (one%((lines.length:Int)+1)))+1))).toNat))).bind fun rA1 =>
 (m8 rA1).bind fun r1 =>
 ((
  if r0.2.2≠0 then (
   some true)
  else
  some (decide (r1.2.2≠0))
 ):Option (Bool)).bind fun t1 =>
 if t1 then (
  some false)
 else
 if r0.1.bound then (
  (OM r0.1.volume r0.1.errata).bind fun r2 =>
  (OM r1.1.volume r1.1.errata).bind fun r3 =>
  ((
   if r2.2≠0 then (
    some true)
   else
   if r3.2≠0 then (
    some true)
   else
   if (r2.1.length:Int)≠(r3.1.length:Int) then (
    some true)
   else
   if r1.1.bound then (
    some (decide ((r1.1.cites.length:Int) < (r0.1.cites.length:Int))))
   else
   some true
  ):Option (Bool)).bind fun t2 =>
  if t2 then (
   some false)
  else
  (bG (RU r2 r3) 0).bind fun eA1=>match eA1 with
  | .inr z=>some z
  | .inl t4 =>
  (bG (RV r0 r1) 0).bind fun eB1=>match eB1 with
  | .inr z=>some z
  | .inl t5 =>
  (m7).bind fun rB1 =>
  some rB1)
 else
 ((
  cB (-9223372036854775808≤((r0.1.errata.length:Int)+(r0.1.cites.length:Int))∧((r0.1.errata.length:Int)+(r0.1.cites.length:Int))≤9223372036854775807) <|
  if ((r0.1.errata.length:Int)+(r0.1.cites.length:Int))=0 then (
   (m7).bind fun rC1 =>
   some rC1)
  else
  some false
 ):Option (Bool)).bind fun t3 =>
 some t3
end
end T12
namespace T12
open Go.Proofs
abbrev C10:=@Tryz.call10
abbrev aBv:=@Tryz.call100
abbrev aBw:=@Tryz.call101
abbrev aBx:=@Tryz.call102
abbrev aBy:=@Tryz.call103
abbrev aBz:=@Tryz.call104
abbrev WJ:=@Tryz.call105
abbrev LX:=@Tryz.call106
abbrev RW:=@Tryz.call107
abbrev RX:=@Tryz.call108
abbrev aB0:=@Tryz.call109
abbrev C11:=@Tryz.call11
abbrev aB1:=@Tryz.call110
abbrev aB2:=@Tryz.call111
abbrev aB3:=@Tryz.call112
abbrev aB4:=@Tryz.call129
abbrev aB5:=@Tryz.call130
abbrev jG:=@Tryz.call131
abbrev CB:=@Tryz.call132
abbrev aB6:=@Tryz.call133
abbrev aB7:=@Tryz.call134
abbrev aB8:=@Tryz.call135
abbrev LY:=@Tryz.call136
abbrev HG:=@Tryz.call137
abbrev HH:=@Tryz.call138
abbrev HI:=@Tryz.call139
abbrev aB9:=@Tryz.call140
abbrev aCa:=@Tryz.call141
abbrev aCb:=@Tryz.call142
abbrev WK:=@Tryz.call143
abbrev RY:=@Tryz.call144
abbrev aCc:=@Tryz.call145
abbrev WL:=@Tryz.call146
abbrev aCd:=@Tryz.call147
abbrev aCe:=@Tryz.call148
abbrev aCf:=@Tryz.call149
abbrev WM:=@Tryz.call150
abbrev aCg:=@Tryz.call151
abbrev aCh:=@Tryz.call153
abbrev aCi:=@Tryz.call154
abbrev WN:=@Tryz.call155
abbrev C16:=@Tryz.call16
abbrev aCj:=@Tryz.call165
abbrev C17:=@Tryz.call17
abbrev LZ:=@Tryz.call175
abbrev C18:=@Tryz.call18
abbrev aCk:=@Tryz.call180
abbrev aCl:=@Tryz.call181
abbrev RZ:=@Tryz.call182
abbrev aCm:=@Tryz.call183
abbrev aCn:=@Tryz.call184
abbrev aCo:=@Tryz.call185
abbrev aCp:=@Tryz.call186
abbrev WO:=@Tryz.call187
abbrev C19:=@Tryz.call19
abbrev aCq:=@Tryz.call190
abbrev aCr:=@Tryz.call191
abbrev aCs:=@Tryz.call192
abbrev aCt:=@Tryz.call193
abbrev aCu:=@Tryz.call194
abbrev aCv:=@Tryz.call195
abbrev aCw:=@Tryz.call196
abbrev aCx:=@Tryz.call197
abbrev aCy:=@Tryz.call198
abbrev C20:=@Tryz.call20
abbrev aCz:=@Tryz.call200
abbrev aC0:=@Tryz.call201
abbrev aC1:=@Tryz.call202
abbrev WP:=@Tryz.call203
abbrev WQ:=@Tryz.call204
abbrev WR:=@Tryz.call205
abbrev aC2:=@Tryz.call206
abbrev C21:=@Tryz.call21
abbrev aC3:=@Tryz.call210
abbrev aC4:=@Tryz.call211
abbrev WS:=@Tryz.call22
abbrev MA:=@Tryz.call221
abbrev C23:=@Tryz.call23
abbrev aC6:=@Tryz.call231
abbrev WT:=@Tryz.call234
abbrev aC7:=@Tryz.call236
abbrev aC8:=@Tryz.call237
abbrev aC9:=@Tryz.call238
abbrev MB:=@Tryz.call239
abbrev C24:=@Tryz.call24
abbrev MC:=@Tryz.call240
abbrev WU:=@Tryz.call241
abbrev aDa:=@Tryz.call242
abbrev aDb:=@Tryz.call243
abbrev aDc:=@Tryz.call244
abbrev HJ:=@Tryz.call245
abbrev aDd:=@Tryz.call246
abbrev aDe:=@Tryz.call247
abbrev WV:=@Tryz.call248
abbrev WW:=@Tryz.call249
abbrev C25:=@Tryz.call25
abbrev aDg:=@Tryz.call250
abbrev aDh:=@Tryz.call251
abbrev aDi:=@Tryz.call252
abbrev WX:=@Tryz.call253
abbrev aDj:=@Tryz.call254
abbrev CC:=@Tryz.call255
abbrev aDk:=@Tryz.call256
abbrev aDl:=@Tryz.call257
abbrev aDm:=@Tryz.call258
abbrev aDn:=@Tryz.call259
abbrev vY:=@Tryz.call26
abbrev aDo:=@Tryz.call260
abbrev aDp:=@Tryz.call261
abbrev aDq:=@Tryz.call262
abbrev WY:=@Tryz.call263
abbrev WZ:=@Tryz.call264
abbrev aDr:=@Tryz.call265
abbrev MD:=@Tryz.call276
abbrev XA:=@Tryz.call277
abbrev XB:=@Tryz.call278
abbrev aDs:=@Tryz.call279
abbrev aDt:=@Tryz.call281
abbrev aDu:=@Tryz.call282
abbrev XC:=@Tryz.call283
abbrev aDv:=@Tryz.call284
abbrev aDw:=@Tryz.call285
abbrev aDx:=@Tryz.call286
abbrev aDy:=@Tryz.call287
abbrev aDz:=@Tryz.call293
abbrev aD0:=@Tryz.call296
abbrev aD1:=@Tryz.call297
abbrev aD2:=@Tryz.call298
abbrev aD3:=@Tryz.call299
abbrev ME:=@Tryz.call30
abbrev aD4:=@Tryz.call300
abbrev aD5:=@Tryz.call301
abbrev aD6:=@Tryz.call306
abbrev aD7:=@Tryz.call307
abbrev aD8:=@Tryz.call308
abbrev HK:=@Tryz.call309
abbrev aD9:=@Tryz.call310
abbrev aEa:=@Tryz.call311
abbrev aEb:=@Tryz.call312
abbrev aEc:=@Tryz.call313
abbrev XD:=@Tryz.call317
abbrev aEd:=@Tryz.call318
abbrev aEe:=@Tryz.call319
abbrev C32:=@Tryz.call32
abbrev aEf:=@Tryz.call328
abbrev aEg:=@Tryz.call329
abbrev C33:=@Tryz.call33
abbrev aEh:=@Tryz.call330
abbrev aEi:=@Tryz.call331
abbrev aEj:=@Tryz.call332
abbrev XE:=@Tryz.call333
abbrev aEk:=@Tryz.call338
abbrev aEl:=@Tryz.call339
abbrev C34:=@Tryz.call34
abbrev C35:=@Tryz.call35
abbrev C36:=@Tryz.call36
abbrev C37:=@Tryz.call37
abbrev C38:=@Tryz.call38
abbrev C39:=@Tryz.call39
abbrev C40:=@Tryz.call40
abbrev C41:=@Tryz.call41
abbrev C42:=@Tryz.call42
abbrev C43:=@Tryz.call43
abbrev C44:=@Tryz.call44
abbrev SA:=@Tryz.call47
abbrev C48:=@Tryz.call48
abbrev C49:=@Tryz.call49
abbrev C5:=@Tryz.call5
abbrev C50:=@Tryz.call50
abbrev C54:=@Tryz.call54
abbrev C55:=@Tryz.call55
abbrev SB:=@Tryz.call57
abbrev C58:=@Tryz.call58
abbrev eZ:=@Tryz.call59
abbrev C6:=@Tryz.call6
abbrev C60:=@Tryz.call60
abbrev C61:=@Tryz.call61
abbrev C62:=@Tryz.call62
abbrev C63:=@Tryz.call63
abbrev C64:=@Tryz.call64
abbrev C65:=@Tryz.call65
abbrev C66:=@Tryz.call66
abbrev C67:=@Tryz.call67
abbrev ON:=@Tryz.call68
abbrev MF:=@Tryz.call69
abbrev C7:=@Tryz.call7
abbrev C70:=@Tryz.call70
abbrev C71:=@Tryz.call71
abbrev C72:=@Tryz.call72
abbrev C8:=@Tryz.call8
abbrev C80:=@Tryz.call80
abbrev C82:=@Tryz.call82
abbrev C83:=@Tryz.call83
abbrev C84:=@Tryz.call84
abbrev C85:=@Tryz.call85
abbrev C86:=@Tryz.call86
abbrev C87:=@Tryz.call87
abbrev C88:=@Tryz.call88
abbrev C89:=@Tryz.call89
abbrev C9:=@Tryz.call9
abbrev C90:=@Tryz.call90
abbrev C91:=@Tryz.call91
abbrev C92:=@Tryz.call92
abbrev C93:=@Tryz.call93
abbrev C94:=@Tryz.call94
abbrev C95:=@Tryz.call95
abbrev C96:=@Tryz.call96
abbrev C97:=@Tryz.call97
abbrev C98:=@Tryz.call98
abbrev HL:=@Tryz.call99
abbrev aEt:=@Tryz.isAgg114
abbrev mY:=@Tryz.isAgg119
abbrev aEu:=@Tryz.isAgg120
abbrev CD:=@Tryz.isAgg121
abbrev yK:=@Tryz.isAgg123
abbrev qK:=@Tryz.isAgg125
abbrev tK:=@Tryz.isAgg128
abbrev CE:=@Tryz.isAgg130
abbrev SC:=@Tryz.isAgg132
abbrev aEv:=@Tryz.isAgg137
abbrev aEw:=@Tryz.isAgg158
abbrev SD:=@Tryz.isAgg169
abbrev aEx:=@Tryz.isAgg190
abbrev XF:=@Tryz.isAgg193
abbrev pE:=@Tryz.isAgg22
abbrev SE:=@Tryz.isAgg227
abbrev mZ:=@Tryz.isAgg234
abbrev HM:=@Tryz.isAgg235
abbrev JB:=@Tryz.isAgg25
abbrev kJ:=@Tryz.isAgg27
abbrev nA:=@Tryz.isAgg271
abbrev yL:=@Tryz.isAgg278
abbrev HN:=@Tryz.isAgg28
abbrev HO:=@Tryz.isAgg281
abbrev G29:=@Tryz.isAgg29
abbrev yM:=@Tryz.isAgg290
abbrev yN:=@Tryz.isAgg292
abbrev MG:=@Tryz.isAgg295
abbrev G3:=@Tryz.isAgg3
abbrev CF:=@Tryz.isAgg30
abbrev oL:=@Tryz.isAgg32
abbrev SF:=@Tryz.isAgg328
abbrev HQ:=@Tryz.isAgg329
abbrev wR:=@Tryz.isAgg33
abbrev SG:=@Tryz.isAgg330
abbrev MH:=@Tryz.isAgg337
abbrev G34:=@Tryz.isAgg34
abbrev aEz:=@Tryz.isAgg344
abbrev aE0:=@Tryz.isAgg345
abbrev G35:=@Tryz.isAgg35
abbrev G36:=@Tryz.isAgg36
abbrev aE1:=@Tryz.isAgg366
abbrev XG:=@Tryz.isAgg370
abbrev oR:=@Tryz.isAgg38
abbrev aE2:=@Tryz.isAgg387
abbrev CY:=@Tryz.isAgg39
abbrev G4:=@Tryz.isAgg4
abbrev G41:=@Tryz.isAgg41
abbrev vZ:=@Tryz.isAgg43
abbrev G5:=@Tryz.isAgg5
abbrev G51:=@Tryz.isAgg51
abbrev G62:=@Tryz.isAgg62
abbrev G82:=@Tryz.isAgg82
abbrev G83:=@Tryz.isAgg83
abbrev G85:=@Tryz.isAgg85
abbrev G9:=@Tryz.isAgg9
abbrev G91:=@Tryz.isAgg91
abbrev HR:=@Tryz.isAgg98
abbrev iU:=@Tryz.sizeOf119
abbrev XH:=@Tryz.sizeOf121
abbrev aE7:=@Tryz.sizeOf123
abbrev oD:=@Tryz.sizeOf125
abbrev qL:=@Tryz.sizeOf128
abbrev jY:=@Tryz.sizeOf130
abbrev nB:=@Tryz.sizeOf132
abbrev aE8:=@Tryz.sizeOf158
abbrev aE9:=@Tryz.sizeOf160
abbrev SH:=@Tryz.sizeOf169
abbrev SI:=@Tryz.sizeOf171
abbrev qS:=@Tryz.sizeOf22
abbrev yO:=@Tryz.sizeOf227
abbrev iB:=@Tryz.sizeOf234
abbrev MI:=@Tryz.sizeOf235
abbrev CZ:=@Tryz.sizeOf25
abbrev HT:=@Tryz.sizeOf268
abbrev CG:=@Tryz.sizeOf269
abbrev gZ:=@Tryz.sizeOf27
abbrev iX:=@Tryz.sizeOf271
abbrev wA:=@Tryz.sizeOf278
abbrev JC:=@Tryz.sizeOf28
abbrev CH:=@Tryz.sizeOf281
abbrev Z29:=@Tryz.sizeOf29
abbrev yP:=@Tryz.sizeOf290
abbrev jR:=@Tryz.sizeOf292
abbrev XI:=@Tryz.sizeOf295
abbrev Z3:=@Tryz.sizeOf3
abbrev yQ:=@Tryz.sizeOf30
abbrev kK:=@Tryz.sizeOf32
abbrev XJ:=@Tryz.sizeOf329
abbrev rZ:=@Tryz.sizeOf33
abbrev SK:=@Tryz.sizeOf330
abbrev SL:=@Tryz.sizeOf332
abbrev tL:=@Tryz.sizeOf337
abbrev JD:=@Tryz.sizeOf34
abbrev aFa:=@Tryz.sizeOf345
abbrev TS:=@Tryz.sizeOf35
abbrev Z36:=@Tryz.sizeOf36
abbrev aFb:=@Tryz.sizeOf370
abbrev iW:=@Tryz.sizeOf38
abbrev CI:=@Tryz.sizeOf39
abbrev Z4:=@Tryz.sizeOf4
abbrev eQ:=@Tryz.sizeOf41
abbrev DA:=@Tryz.sizeOf43
abbrev Z5:=@Tryz.sizeOf5
abbrev CJ:=@Tryz.sizeOf51
abbrev Z62:=@Tryz.sizeOf62
abbrev MJ:=@Tryz.sizeOf82
abbrev Z83:=@Tryz.sizeOf83
abbrev SM:=@Tryz.sizeOf85
abbrev Z9:=@Tryz.sizeOf9
abbrev XK:=@Tryz.sizeOf91
abbrev nC:=@Tryz.sizeOf98
abbrev gG:=@Tryz.underlying119
abbrev lC:=@Tryz.underlying121
abbrev mE:=@Tryz.underlying125
abbrev oS:=@Tryz.underlying127
abbrev oE:=@Tryz.underlying128
abbrev oF:=@Tryz.underlying130
abbrev rE:=@Tryz.underlying132
abbrev nD:=@Tryz.underlying134
abbrev aFc:=@Tryz.underlying155
abbrev SN:=@Tryz.underlying160
abbrev kL:=@Tryz.underlying162
abbrev SO:=@Tryz.underlying171
abbrev SP:=@Tryz.underlying172
abbrev tM:=@Tryz.underlying175
abbrev aFd:=@Tryz.underlying202
abbrev XL:=@Tryz.underlying211
abbrev jN:=@Tryz.underlying22
abbrev rF:=@Tryz.underlying227
abbrev fG:=@Tryz.underlying234
abbrev SQ:=@Tryz.underlying241
abbrev AL:=@Tryz.underlying25
abbrev HU:=@Tryz.underlying268
abbrev CK:=@Tryz.underlying269
abbrev mG:=@Tryz.underlying27
abbrev iV:=@Tryz.underlying271
abbrev CL:=@Tryz.underlying278
abbrev CM:=@Tryz.underlying28
abbrev jZ:=@Tryz.underlying281
abbrev wB:=@Tryz.underlying288
abbrev U29:=@Tryz.underlying29
abbrev nE:=@Tryz.underlying292
abbrev U3:=@Tryz.underlying3
abbrev tY:=@Tryz.underlying30
abbrev wC:=@Tryz.underlying32
abbrev eV:=@Tryz.underlying33
abbrev SR:=@Tryz.underlying332
abbrev MK:=@Tryz.underlying333
abbrev qM:=@Tryz.underlying337
abbrev OO:=@Tryz.underlying34
abbrev tN:=@Tryz.underlying345
abbrev TT:=@Tryz.underlying35
abbrev SS:=@Tryz.underlying36
abbrev XM:=@Tryz.underlying365
abbrev kI:=@Tryz.underlying38
abbrev lV:=@Tryz.underlying39
abbrev U4:=@Tryz.underlying4
abbrev eD:=@Tryz.underlying41
abbrev U42:=@Tryz.underlying42
abbrev XN:=@Tryz.underlying47
abbrev U5:=@Tryz.underlying5
abbrev SU:=@Tryz.underlying51
abbrev fH:=@Tryz.underlying77
abbrev TU:=@Tryz.underlying79
abbrev DB:=@Tryz.underlying82
abbrev HV:=@Tryz.underlying83
abbrev XO:=@Tryz.underlying85
abbrev U9:=@Tryz.underlying9
abbrev DD:=@Tryz.underlying91
abbrev CN:=@Tryz.underlying98
end T12
