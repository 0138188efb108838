/-
  The types and models of the functions of a session,printed by a program of ours;contracts of library functions.
-/
import Derived.Shelf.Strings.Cut
import Derived.Shelf.Strings.Search3
import Derived.Shelf.Strings.Prefix
import Derived.Shelf.Strings.Runes
import Derived.Shelf.Strings.OnBuilder
import Derived.Shelf.Strings.FieldsFuncAny
import Derived.Shelf.Strings.BuilderF
import Derived.Shelf.Small.Strs
import Derived.Shelf.Small.Wraps
import Derived.Shelf.Strconv.AtoiAll
import Derived.Shelf.Strconv.Itoa3
import Derived.Shelf.SlSortCmp.NoneTotal
import Derived.Shelf.LaysM
import Derived.Shelf.LaysC
import Derived.Test.YtbjagcngeobfpaaGreatDoorKitSix
import Derived.Test.YtbjagcngeobfpaaGreatDoorProg
import Derived.Shelf.Spec.SlicesInsert
import Derived.Lib.AppendZerosOnto
import Derived.Laws.NewBlocks
import Derived.Laws.CopyRow
import Derived.Recover
import Derived.Tactics
import Derived.Tactics2
set_option linter.all false
set_option maxHeartbeats 4000000
namespace Go.Proofs
open Go.Shelf Go.RowKit
def Tryz.laysC172_ren:Go.Shelf.Ren:=⟨fun | 172=>94 | 244=>136 | 245=>137 | 247=>193 | 279=>194 | 280=>195 | 281=>196 | 282=>197 | 287=>249 | 316=>250 | 171=>29 | 205=>251 | 321=>291 | 322=>292 | 243=>45 | 246=>62 | 283=>99 | 284=>100 | 285=>101 | 286=>102 | 129=>147 | 317=>146 | 318=>148 | 319=>149 | 320=>150 | 337=>204 | 338=>205 | n=>n,fun | 9=>9 | 3=>3 | 75=>103 | 76=>104 | 4=>4 | 5=>5 | 167=>290 | 37=>23 | 0=>0 | 85=>291 | 2=>2 | 168=>293 | 53=>191 | 175=>333 | 46=>241 | 210=>336 | 127=>138 | 145=>367 | 143=>365 | 21=>21 | 171=>190 | 173=>194 | 212=>238 | 51=>239 | 20=>20 | 213=>240 | 232=>345 | 233=>346 | 80=>113 | n=>n,fun | 15=>2 | 16=>3 | 17=>0 | 18=>4 | 19=>5 | n=>n⟩
theorem Tryz.laysC172:Go.Proofs.LaysC.n172 Tryz.prog Tryz.laysC172_ren:={
 mixed:=by kernel_rfl
 f129:=Tryz.func147.trans (congrArg some (by kernel_rfl))
 f171:=Tryz.func29.trans (congrArg some (by kernel_rfl))
 f172:=Tryz.func94.trans (congrArg some (by kernel_rfl))
 f205:=Tryz.func251.trans (congrArg some (by kernel_rfl))
 f243:=Tryz.func45.trans (congrArg some (by kernel_rfl))
 f244:=Tryz.func136.trans (congrArg some (by kernel_rfl))
 f245:=Tryz.func137.trans (congrArg some (by kernel_rfl))
 f246:=Tryz.func62.trans (congrArg some (by kernel_rfl))
 f247:=Tryz.func193.trans (congrArg some (by kernel_rfl))
 f279:=Tryz.func194.trans (congrArg some (by kernel_rfl))
 f280:=Tryz.func195.trans (congrArg some (by kernel_rfl))
 f281:=Tryz.func196.trans (congrArg some (by kernel_rfl))
 f282:=Tryz.func197.trans (congrArg some (by kernel_rfl))
 f283:=Tryz.func99.trans (congrArg some (by kernel_rfl))
 f284:=Tryz.func100.trans (congrArg some (by kernel_rfl))
 f285:=Tryz.func101.trans (congrArg some (by kernel_rfl))
 f286:=Tryz.func102.trans (congrArg some (by kernel_rfl))
 f287:=Tryz.func249.trans (congrArg some (by kernel_rfl))
 f316:=Tryz.func250.trans (congrArg some (by kernel_rfl))
 f317:=Tryz.func146.trans (congrArg some (by kernel_rfl))
 f318:=Tryz.func148.trans (congrArg some (by kernel_rfl))
 f319:=Tryz.func149.trans (congrArg some (by kernel_rfl))
 f320:=Tryz.func150.trans (congrArg some (by kernel_rfl))
 f321:=Tryz.func291.trans (congrArg some (by kernel_rfl))
 f322:=Tryz.func292.trans (congrArg some (by kernel_rfl))
 f337:=Tryz.func204.trans (congrArg some (by kernel_rfl))
 f338:=Tryz.func205.trans (congrArg some (by kernel_rfl))
 t0:=Tryz.underlying0
 a0:=Tryz.isAgg0
 z0:=Tryz.sizeOf0
 v0:=Tryz.zeroValue0
 t2:=Tryz.underlying2
 a2:=Tryz.isAgg2
 z2:=Tryz.sizeOf2
 v2:=Tryz.zeroValue2
 t3:=Tryz.underlying3
 a3:=Tryz.isAgg3
 z3:=Tryz.sizeOf3
 v3:=Tryz.zeroValue3
 t4:=Tryz.underlying4
 a4:=Tryz.isAgg4
 z4:=Tryz.sizeOf4
 v4:=Tryz.zeroValue4
 t5:=Tryz.underlying5
 a5:=Tryz.isAgg5
 z5:=Tryz.sizeOf5
 v5:=Tryz.zeroValue5
 t9:=Tryz.underlying9
 a9:=Tryz.isAgg9
 z9:=Tryz.sizeOf9
 v9:=Tryz.zeroValue9
 t20:=Tryz.underlying20
 a20:=Tryz.isAgg20
 z20:=Tryz.sizeOf20
 v20:=Tryz.zeroValue20
 t21:=Tryz.underlying21
 a21:=Tryz.isAgg21
 z21:=Tryz.sizeOf21
 v21:=Tryz.zeroValue21
 t37:=Tryz.underlying23
 a37:=Tryz.isAgg23
 z37:=Tryz.sizeOf23
 v37:=Tryz.zeroValue23
 t46:=Tryz.underlying241
 a46:=Tryz.isAgg241
 z46:=Tryz.sizeOf241
 v46:=Tryz.zeroValue241
 t51:=Tryz.underlying239
 a51:=Tryz.isAgg239
 z51:=Tryz.sizeOf239
 v51:=Tryz.zeroValue239
 t53:=Tryz.underlying191
 a53:=Tryz.isAgg191
 z53:=Tryz.sizeOf191
 v53:=Tryz.zeroValue191
 t75:=Tryz.underlying103
 a75:=Tryz.isAgg103
 z75:=Tryz.sizeOf103
 v75:=Tryz.zeroValue103
 t76:=Tryz.underlying104
 a76:=Tryz.isAgg104
 z76:=Tryz.sizeOf104
 v76:=Tryz.zeroValue104
 t85:=Tryz.underlying291
 a85:=Tryz.isAgg291
 z85:=Tryz.sizeOf291
 v85:=Tryz.zeroValue291
 t127:=Tryz.underlying138
 a127:=Tryz.isAgg138
 z127:=Tryz.sizeOf138
 v127:=Tryz.zeroValue138
 t143:=Tryz.underlying365
 a143:=Tryz.isAgg365
 z143:=Tryz.sizeOf365
 v143:=Tryz.zeroValue365
 t145:=Tryz.underlying367
 a145:=Tryz.isAgg367
 z145:=Tryz.sizeOf367
 v145:=Tryz.zeroValue367
 t167:=Tryz.underlying290
 a167:=Tryz.isAgg290
 z167:=Tryz.sizeOf290
 v167:=Tryz.zeroValue290
 t168:=Tryz.underlying293
 a168:=Tryz.isAgg293
 z168:=Tryz.sizeOf293
 v168:=Tryz.zeroValue293
 t171:=Tryz.underlying190
 a171:=Tryz.isAgg190
 z171:=Tryz.sizeOf190
 v171:=Tryz.zeroValue190
 t173:=Tryz.underlying194
 a173:=Tryz.isAgg194
 z173:=Tryz.sizeOf194
 v173:=Tryz.zeroValue194
 t175:=Tryz.underlying333
 a175:=Tryz.isAgg333
 z175:=Tryz.sizeOf333
 v175:=Tryz.zeroValue333
 t210:=Tryz.underlying336
 a210:=Tryz.isAgg336
 z210:=Tryz.sizeOf336
 v210:=Tryz.zeroValue336
 t212:=Tryz.underlying238
 a212:=Tryz.isAgg238
 z212:=Tryz.sizeOf238
 v212:=Tryz.zeroValue238
 t213:=Tryz.underlying240
 a213:=Tryz.isAgg240
 z213:=Tryz.sizeOf240
 t232:=Tryz.underlying345
 a232:=Tryz.isAgg345
 z232:=Tryz.sizeOf345
 v232:=Tryz.zeroValue345
 t233:=Tryz.underlying346
 a233:=Tryz.isAgg346
 z233:=Tryz.sizeOf346
 v233:=Tryz.zeroValue346
 g15:=by kernel_rfl
 g16:=by kernel_rfl
 g17:=by kernel_rfl
 g18:=by kernel_rfl
 g19:=by kernel_rfl
 t80:=Tryz.underlying113
 a80:=Tryz.isAgg113
 z80:=Tryz.sizeOf113
 v80:=Tryz.zeroValue113
 i0:=by kernel_rfl
 i2:=by kernel_rfl
 i3:=by kernel_rfl
 i4:=by kernel_rfl
 i5:=by kernel_rfl
 i9:=by kernel_rfl
 i20:=by kernel_rfl
 i21:=by kernel_rfl
 i37:=by kernel_rfl
 i46:=by kernel_rfl
 i51:=by kernel_rfl
 i53:=by kernel_rfl
 i75:=by kernel_rfl
 i76:=by kernel_rfl
 i80:=by kernel_rfl
 i85:=by kernel_rfl
 i127:=by kernel_rfl
 i143:=by kernel_rfl
 i145:=by kernel_rfl
 i167:=by kernel_rfl
 i168:=by kernel_rfl
 i171:=by kernel_rfl
 i173:=by kernel_rfl
 i175:=by kernel_rfl
 i210:=by kernel_rfl
 i212:=by kernel_rfl
 i232:=by kernel_rfl
 i233:=by kernel_rfl
 m15:=by kernel_rfl
 m16:=by kernel_rfl
 m17:=by kernel_rfl
 m18:=by kernel_rfl
 m19:=by kernel_rfl
 c0:=by kernel_rfl
 c2:=by kernel_rfl
 c3:=by kernel_rfl
 c4:=by kernel_rfl
 c5:=by kernel_rfl
 c9:=by kernel_rfl
 c20:=by kernel_rfl
 c21:=by kernel_rfl
 c37:=by kernel_rfl
 c46:=by kernel_rfl
 c51:=by kernel_rfl
 c53:=by kernel_rfl
 c75:=by kernel_rfl
 c76:=by kernel_rfl
 c80:=by kernel_rfl
 c85:=by kernel_rfl
 c127:=by kernel_rfl
 c143:=by kernel_rfl
 c145:=by kernel_rfl
 c167:=by kernel_rfl
 c168:=by kernel_rfl
 c171:=by kernel_rfl
 c173:=by kernel_rfl
 c175:=by kernel_rfl
 c210:=by kernel_rfl
 c212:=by kernel_rfl
 c213:=by kernel_rfl
 c232:=by kernel_rfl
 c233:=by kernel_rfl }
def Tryz.laysM171_ren:Go.Shelf.Ren:=⟨fun | 171=>29 | 243=>45 | 246=>62 | 283=>99 | 284=>100 | 285=>101 | 286=>102 | 129=>147 | 317=>146 | 318=>148 | 319=>149 | 320=>150 | 337=>204 | 338=>205 | n=>n,fun | 3=>3 | 9=>9 | 2=>2 | 4=>4 | 171=>190 | 0=>0 | 53=>191 | 37=>23 | 5=>5 | 173=>194 | 212=>238 | 51=>239 | 20=>20 | 213=>240 | 46=>241 | 232=>345 | 233=>346 | n=>n,fun | 17=>0 | 18=>4 | 19=>5 | n=>n⟩
theorem Tryz.laysM171:Go.Proofs.LaysM.n171 Tryz.prog Tryz.laysM171_ren:={
 mixed:=by kernel_rfl
 f129:=Tryz.func147.trans (congrArg some (by kernel_rfl))
 f171:=Tryz.func29.trans (congrArg some (by kernel_rfl))
 f243:=Tryz.func45.trans (congrArg some (by kernel_rfl))
 f246:=Tryz.func62.trans (congrArg some (by kernel_rfl))
 f283:=Tryz.func99.trans (congrArg some (by kernel_rfl))
 f284:=Tryz.func100.trans (congrArg some (by kernel_rfl))
 f285:=Tryz.func101.trans (congrArg some (by kernel_rfl))
 f286:=Tryz.func102.trans (congrArg some (by kernel_rfl))
 f317:=Tryz.func146.trans (congrArg some (by kernel_rfl))
 f318:=Tryz.func148.trans (congrArg some (by kernel_rfl))
 f319:=Tryz.func149.trans (congrArg some (by kernel_rfl))
 f320:=Tryz.func150.trans (congrArg some (by kernel_rfl))
 f337:=Tryz.func204.trans (congrArg some (by kernel_rfl))
 f338:=Tryz.func205.trans (congrArg some (by kernel_rfl))
 t0:=Tryz.underlying0
 a0:=Tryz.isAgg0
 z0:=Tryz.sizeOf0
 v0:=Tryz.zeroValue0
 t2:=Tryz.underlying2
 a2:=Tryz.isAgg2
 z2:=Tryz.sizeOf2
 v2:=Tryz.zeroValue2
 t3:=Tryz.underlying3
 a3:=Tryz.isAgg3
 z3:=Tryz.sizeOf3
 v3:=Tryz.zeroValue3
 t4:=Tryz.underlying4
 a4:=Tryz.isAgg4
 z4:=Tryz.sizeOf4
 v4:=Tryz.zeroValue4
 t5:=Tryz.underlying5
 a5:=Tryz.isAgg5
 z5:=Tryz.sizeOf5
 v5:=Tryz.zeroValue5
 t9:=Tryz.underlying9
 a9:=Tryz.isAgg9
 z9:=Tryz.sizeOf9
 v9:=Tryz.zeroValue9
 t20:=Tryz.underlying20
 a20:=Tryz.isAgg20
 z20:=Tryz.sizeOf20
 v20:=Tryz.zeroValue20
 t37:=Tryz.underlying23
 a37:=Tryz.isAgg23
 z37:=Tryz.sizeOf23
 v37:=Tryz.zeroValue23
 t46:=Tryz.underlying241
 a46:=Tryz.isAgg241
 z46:=Tryz.sizeOf241
 v46:=Tryz.zeroValue241
 t51:=Tryz.underlying239
 a51:=Tryz.isAgg239
 z51:=Tryz.sizeOf239
 v51:=Tryz.zeroValue239
 t53:=Tryz.underlying191
 a53:=Tryz.isAgg191
 z53:=Tryz.sizeOf191
 v53:=Tryz.zeroValue191
 t171:=Tryz.underlying190
 a171:=Tryz.isAgg190
 z171:=Tryz.sizeOf190
 v171:=Tryz.zeroValue190
 t173:=Tryz.underlying194
 a173:=Tryz.isAgg194
 z173:=Tryz.sizeOf194
 v173:=Tryz.zeroValue194
 t212:=Tryz.underlying238
 a212:=Tryz.isAgg238
 z212:=Tryz.sizeOf238
 v212:=Tryz.zeroValue238
 t213:=Tryz.underlying240
 a213:=Tryz.isAgg240
 z213:=Tryz.sizeOf240
 t232:=Tryz.underlying345
 a232:=Tryz.isAgg345
 z232:=Tryz.sizeOf345
 v232:=Tryz.zeroValue345
 t233:=Tryz.underlying346
 a233:=Tryz.isAgg346
 z233:=Tryz.sizeOf346
 v233:=Tryz.zeroValue346
 g17:=by kernel_rfl
 g18:=by kernel_rfl
 g19:=by kernel_rfl
 i0:=by kernel_rfl
 i2:=by kernel_rfl
 i3:=by kernel_rfl
 i4:=by kernel_rfl
 i5:=by kernel_rfl
 i9:=by kernel_rfl
 i20:=by kernel_rfl
 i37:=by kernel_rfl
 i46:=by kernel_rfl
 i51:=by kernel_rfl
 i53:=by kernel_rfl
 i171:=by kernel_rfl
 i173:=by kernel_rfl
 i212:=by kernel_rfl
 i232:=by kernel_rfl
 i233:=by kernel_rfl
 m17:=by kernel_rfl
 m18:=by kernel_rfl
 m19:=by kernel_rfl }
def Tryz.lays145_ren:Go.Shelf.Ren:=⟨fun | 145=>55 | 220=>76 | 219=>116 | 217=>163 | 225=>164 | 224=>165 | 267=>166 | 266=>214 | 314=>215 | n=>n,fun | 9=>9 | 4=>4 | 59=>142 | 3=>3 | 5=>5 | 46=>241 | 146=>306 | 51=>239 | n=>n,fun | 1=>1 | n=>n⟩
theorem Tryz.lays145:Go.Proofs.Lays.n145 Tryz.prog Tryz.lays145_ren:={
 mixed:=by kernel_rfl
 f145:=Tryz.func55.trans (congrArg some (by kernel_rfl))
 f217:=Tryz.func163.trans (congrArg some (by kernel_rfl))
 f219:=Tryz.func116.trans (congrArg some (by kernel_rfl))
 f220:=Tryz.func76.trans (congrArg some (by kernel_rfl))
 f224:=Tryz.func165.trans (congrArg some (by kernel_rfl))
 f225:=Tryz.func164.trans (congrArg some (by kernel_rfl))
 f266:=Tryz.func214.trans (congrArg some (by kernel_rfl))
 f267:=Tryz.func166.trans (congrArg some (by kernel_rfl))
 f314:=Tryz.func215.trans (congrArg some (by kernel_rfl))
 t3:=Tryz.underlying3
 a3:=Tryz.isAgg3
 z3:=Tryz.sizeOf3
 v3:=Tryz.zeroValue3
 t4:=Tryz.underlying4
 a4:=Tryz.isAgg4
 z4:=Tryz.sizeOf4
 v4:=Tryz.zeroValue4
 t5:=Tryz.underlying5
 a5:=Tryz.isAgg5
 z5:=Tryz.sizeOf5
 v5:=Tryz.zeroValue5
 t9:=Tryz.underlying9
 a9:=Tryz.isAgg9
 z9:=Tryz.sizeOf9
 v9:=Tryz.zeroValue9
 t46:=Tryz.underlying241
 a46:=Tryz.isAgg241
 z46:=Tryz.sizeOf241
 v46:=Tryz.zeroValue241
 t51:=Tryz.underlying239
 a51:=Tryz.isAgg239
 z51:=Tryz.sizeOf239
 v51:=Tryz.zeroValue239
 t59:=Tryz.underlying142
 a59:=Tryz.isAgg142
 z59:=Tryz.sizeOf142
 v59:=Tryz.zeroValue142
 t146:=Tryz.underlying306
 a146:=Tryz.isAgg306
 z146:=Tryz.sizeOf306
 v146:=Tryz.zeroValue306
 g1:=by kernel_rfl }
def Tryz.lays229_ren:Go.Shelf.Ren:=⟨fun | 229=>184 | n=>n,fun | 9=>9 | 40=>276 | 31=>22 | 152=>323 | 3=>3 | 0=>0 | 4=>4 | 21=>21 | 154=>325 | n=>n,fun | n=>n⟩
theorem Tryz.lays229:Go.Proofs.Lays.n229 Tryz.prog Tryz.lays229_ren:={
 mixed:=by kernel_rfl
 f229:=Tryz.func184.trans (congrArg some (by kernel_rfl))
 t0:=Tryz.underlying0
 a0:=Tryz.isAgg0
 z0:=Tryz.sizeOf0
 v0:=Tryz.zeroValue0
 t3:=Tryz.underlying3
 a3:=Tryz.isAgg3
 z3:=Tryz.sizeOf3
 v3:=Tryz.zeroValue3
 t4:=Tryz.underlying4
 a4:=Tryz.isAgg4
 z4:=Tryz.sizeOf4
 v4:=Tryz.zeroValue4
 t9:=Tryz.underlying9
 a9:=Tryz.isAgg9
 z9:=Tryz.sizeOf9
 v9:=Tryz.zeroValue9
 t21:=Tryz.underlying21
 a21:=Tryz.isAgg21
 z21:=Tryz.sizeOf21
 v21:=Tryz.zeroValue21
 t31:=Tryz.underlying22
 a31:=Tryz.isAgg22
 z31:=Tryz.sizeOf22
 v31:=Tryz.zeroValue22
 t40:=Tryz.underlying276
 a40:=Tryz.isAgg276
 z40:=Tryz.sizeOf276
 v40:=Tryz.zeroValue276
 t152:=Tryz.underlying323
 a152:=Tryz.isAgg323
 z152:=Tryz.sizeOf323
 v152:=Tryz.zeroValue323
 t154:=Tryz.underlying325
 a154:=Tryz.isAgg325
 z154:=Tryz.sizeOf325
 v154:=Tryz.zeroValue325 }
def Tryz.laysF140_ren:Go.Shelf.Ren:=⟨fun | 6=>140 | 15=>199 | 14=>198 | 28=>260 | 29=>147 | 20=>252 | 21=>253 | 22=>254 | 23=>255 | 24=>256 | 25=>257 | 26=>258 | 27=>259 | 46=>293 | 47=>294 | 48=>295 | 49=>296 | 50=>297 | 57=>321 | n=>n,fun | 22=>48 | 24=>172 | 25=>233 | 3=>3 | 39=>241 | 0=>0 | 53=>239 | 55=>191 | 4=>4 | 46=>340 | 45=>339 | 50=>213 | 5=>5 | 9=>9 | 66=>368 | 70=>372 | 76=>386 | 77=>387 | n=>n,fun | n=>n⟩
theorem Tryz.laysF140:Go.Proofs.SlLaysF0.n6 Tryz.prog Tryz.laysF140_ren:={
 mixed:=by kernel_rfl
 f6:=⟨Tryz.f140.name,by decide,Tryz.func140.trans (congrArg some (by kernel_rfl))⟩
 f14:=⟨Tryz.f198.name,by decide,Tryz.func198.trans (congrArg some (by kernel_rfl))⟩
 f15:=Tryz.func199.trans (congrArg some (by kernel_rfl))
 f20:=⟨Tryz.f252.name,by decide,Tryz.func252.trans (congrArg some (by kernel_rfl))⟩
 f21:=⟨Tryz.f253.name,by decide,Tryz.func253.trans (congrArg some (by kernel_rfl))⟩
 f22:=⟨Tryz.f254.name,by decide,Tryz.func254.trans (congrArg some (by kernel_rfl))⟩
 f23:=⟨Tryz.f255.name,by decide,Tryz.func255.trans (congrArg some (by kernel_rfl))⟩
 f24:=⟨Tryz.f256.name,by decide,Tryz.func256.trans (congrArg some (by kernel_rfl))⟩
 f25:=⟨Tryz.f257.name,by decide,Tryz.func257.trans (congrArg some (by kernel_rfl))⟩
 f26:=⟨Tryz.f258.name,by decide,Tryz.func258.trans (congrArg some (by kernel_rfl))⟩
 f27:=⟨Tryz.f259.name,by decide,Tryz.func259.trans (congrArg some (by kernel_rfl))⟩
 f28:=Tryz.func260.trans (congrArg some (by kernel_rfl))
 f29:=Tryz.func147.trans (congrArg some (by kernel_rfl))
 f46:=⟨Tryz.f293.name,by decide,Tryz.func293.trans (congrArg some (by kernel_rfl))⟩
 f47:=Tryz.func294.trans (congrArg some (by kernel_rfl))
 f48:=Tryz.func295.trans (congrArg some (by kernel_rfl))
 f49:=⟨Tryz.f296.name,by decide,Tryz.func296.trans (congrArg some (by kernel_rfl))⟩
 f50:=⟨Tryz.f297.name,by decide,Tryz.func297.trans (congrArg some (by kernel_rfl))⟩
 f57:=⟨Tryz.f321.name,by decide,Tryz.func321.trans (congrArg some (by kernel_rfl))⟩
 t0:=Tryz.underlying0
 a0:=Tryz.isAgg0
 z0:=Tryz.sizeOf0
 v0:=Tryz.zeroValue0
 t3:=Tryz.underlying3
 a3:=Tryz.isAgg3
 z3:=Tryz.sizeOf3
 v3:=Tryz.zeroValue3
 t4:=Tryz.underlying4
 a4:=Tryz.isAgg4
 z4:=Tryz.sizeOf4
 v4:=Tryz.zeroValue4
 t5:=Tryz.underlying5
 a5:=Tryz.isAgg5
 z5:=Tryz.sizeOf5
 v5:=Tryz.zeroValue5
 t9:=Tryz.underlying9
 a9:=Tryz.isAgg9
 z9:=Tryz.sizeOf9
 v9:=Tryz.zeroValue9
 t22:=Tryz.underlying48
 a22:=Tryz.isAgg48
 z22:=Tryz.sizeOf48
 v22:=Tryz.zeroValue48
 t25:=Tryz.underlying233
 a25:=Tryz.isAgg233
 z25:=Tryz.sizeOf233
 v25:=Tryz.zeroValue233
 t39:=Tryz.underlying241
 a39:=Tryz.isAgg241
 z39:=Tryz.sizeOf241
 v39:=Tryz.zeroValue241
 t45:=Tryz.underlying339
 a45:=Tryz.isAgg339
 z45:=Tryz.sizeOf339
 v45:=Tryz.zeroValue339
 t46:=Tryz.underlying340
 a46:=Tryz.isAgg340
 z46:=Tryz.sizeOf340
 v46:=Tryz.zeroValue340
 t50:=Tryz.underlying213
 a50:=Tryz.isAgg213
 z50:=Tryz.sizeOf213
 v50:=Tryz.zeroValue213
 t53:=Tryz.underlying239
 a53:=Tryz.isAgg239
 z53:=Tryz.sizeOf239
 v53:=Tryz.zeroValue239
 t55:=Tryz.underlying191
 a55:=Tryz.isAgg191
 z55:=Tryz.sizeOf191
 v55:=Tryz.zeroValue191
 t66:=Tryz.underlying368
 a66:=Tryz.isAgg368
 z66:=Tryz.sizeOf368
 v66:=Tryz.zeroValue368
 t70:=Tryz.underlying372
 a70:=Tryz.isAgg372
 z70:=Tryz.sizeOf372
 v70:=Tryz.zeroValue372
 t76:=Tryz.underlying386
 a76:=Tryz.isAgg386
 z76:=Tryz.sizeOf386
 v76:=Tryz.zeroValue386
 t77:=Tryz.underlying387
 a77:=Tryz.isAgg387
 z77:=Tryz.sizeOf387
 v77:=Tryz.zeroValue387 }
def Tryz.laysF246_ren:Go.Shelf.Ren:=⟨fun | 6=>246 | 15=>199 | 14=>290 | 28=>260 | 29=>147 | 20=>313 | 21=>314 | 22=>315 | 23=>316 | 24=>317 | 25=>318 | 26=>319 | 27=>320 | 46=>329 | 47=>294 | 48=>295 | 49=>330 | 50=>331 | 57=>334 | n=>n,fun | 22=>50 | 24=>226 | 25=>332 | 3=>3 | 39=>241 | 0=>0 | 53=>239 | 55=>191 | 4=>4 | 46=>340 | 45=>339 | 50=>213 | 5=>5 | 9=>9 | 66=>368 | 70=>372 | 76=>386 | 77=>387 | n=>n,fun | n=>n⟩
theorem Tryz.laysF246:Go.Proofs.SlLaysF0.n6 Tryz.prog Tryz.laysF246_ren:={
 mixed:=by kernel_rfl
 f6:=⟨Tryz.f246.name,by decide,Tryz.func246.trans (congrArg some (by kernel_rfl))⟩
 f14:=⟨Tryz.f290.name,by decide,Tryz.func290.trans (congrArg some (by kernel_rfl))⟩
 f15:=Tryz.func199.trans (congrArg some (by kernel_rfl))
 f20:=⟨Tryz.f313.name,by decide,Tryz.func313.trans (congrArg some (by kernel_rfl))⟩
 f21:=⟨Tryz.f314.name,by decide,Tryz.func314.trans (congrArg some (by kernel_rfl))⟩
 f22:=⟨Tryz.f315.name,by decide,Tryz.func315.trans (congrArg some (by kernel_rfl))⟩
 f23:=⟨Tryz.f316.name,by decide,Tryz.func316.trans (congrArg some (by kernel_rfl))⟩
 f24:=⟨Tryz.f317.name,by decide,Tryz.func317.trans (congrArg some (by kernel_rfl))⟩
 f25:=⟨Tryz.f318.name,by decide,Tryz.func318.trans (congrArg some (by kernel_rfl))⟩
 f26:=⟨Tryz.f319.name,by decide,Tryz.func319.trans (congrArg some (by kernel_rfl))⟩
 f27:=⟨Tryz.f320.name,by decide,Tryz.func320.trans (congrArg some (by kernel_rfl))⟩
 f28:=Tryz.func260.trans (congrArg some (by kernel_rfl))
 f29:=Tryz.func147.trans (congrArg some (by kernel_rfl))
 f46:=⟨Tryz.f329.name,by decide,Tryz.func329.trans (congrArg some (by kernel_rfl))⟩
 f47:=Tryz.func294.trans (congrArg some (by kernel_rfl))
 f48:=Tryz.func295.trans (congrArg some (by kernel_rfl))
 f49:=⟨Tryz.f330.name,by decide,Tryz.func330.trans (congrArg some (by kernel_rfl))⟩
 f50:=⟨Tryz.f331.name,by decide,Tryz.func331.trans (congrArg some (by kernel_rfl))⟩
 f57:=⟨Tryz.f334.name,by decide,Tryz.func334.trans (congrArg some (by kernel_rfl))⟩
 t0:=Tryz.underlying0
 a0:=Tryz.isAgg0
 z0:=Tryz.sizeOf0
 v0:=Tryz.zeroValue0
 t3:=Tryz.underlying3
 a3:=Tryz.isAgg3
 z3:=Tryz.sizeOf3
 v3:=Tryz.zeroValue3
 t4:=Tryz.underlying4
 a4:=Tryz.isAgg4
 z4:=Tryz.sizeOf4
 v4:=Tryz.zeroValue4
 t5:=Tryz.underlying5
 a5:=Tryz.isAgg5
 z5:=Tryz.sizeOf5
 v5:=Tryz.zeroValue5
 t9:=Tryz.underlying9
 a9:=Tryz.isAgg9
 z9:=Tryz.sizeOf9
 v9:=Tryz.zeroValue9
 t22:=Tryz.underlying50
 a22:=Tryz.isAgg50
 z22:=Tryz.sizeOf50
 v22:=Tryz.zeroValue50
 t25:=Tryz.underlying332
 a25:=Tryz.isAgg332
 z25:=Tryz.sizeOf332
 v25:=Tryz.zeroValue332
 t39:=Tryz.underlying241
 a39:=Tryz.isAgg241
 z39:=Tryz.sizeOf241
 v39:=Tryz.zeroValue241
 t45:=Tryz.underlying339
 a45:=Tryz.isAgg339
 z45:=Tryz.sizeOf339
 v45:=Tryz.zeroValue339
 t46:=Tryz.underlying340
 a46:=Tryz.isAgg340
 z46:=Tryz.sizeOf340
 v46:=Tryz.zeroValue340
 t50:=Tryz.underlying213
 a50:=Tryz.isAgg213
 z50:=Tryz.sizeOf213
 v50:=Tryz.zeroValue213
 t53:=Tryz.underlying239
 a53:=Tryz.isAgg239
 z53:=Tryz.sizeOf239
 v53:=Tryz.zeroValue239
 t55:=Tryz.underlying191
 a55:=Tryz.isAgg191
 z55:=Tryz.sizeOf191
 v55:=Tryz.zeroValue191
 t66:=Tryz.underlying368
 a66:=Tryz.isAgg368
 z66:=Tryz.sizeOf368
 v66:=Tryz.zeroValue368
 t70:=Tryz.underlying372
 a70:=Tryz.isAgg372
 z70:=Tryz.sizeOf372
 v70:=Tryz.zeroValue372
 t76:=Tryz.underlying386
 a76:=Tryz.isAgg386
 z76:=Tryz.sizeOf386
 v76:=Tryz.zeroValue386
 t77:=Tryz.underlying387
 a77:=Tryz.isAgg387
 z77:=Tryz.sizeOf387
 v77:=Tryz.zeroValue387 }
def Tryz.lays169_ren:Go.Shelf.Ren:=⟨fun | 169=>35 | n=>n,fun | 70=>99 | 9=>9 | 0=>0 | 72=>101 | 37=>23 | 127=>138 | 3=>3 | 5=>5 | n=>n,fun | n=>n⟩
theorem Tryz.lays169:Go.Proofs.Lays.n169 Tryz.prog Tryz.lays169_ren:={
 mixed:=by kernel_rfl
 f169:=Tryz.func35.trans (congrArg some (by kernel_rfl))
 t0:=Tryz.underlying0
 a0:=Tryz.isAgg0
 z0:=Tryz.sizeOf0
 v0:=Tryz.zeroValue0
 t3:=Tryz.underlying3
 a3:=Tryz.isAgg3
 z3:=Tryz.sizeOf3
 v3:=Tryz.zeroValue3
 t9:=Tryz.underlying9
 a9:=Tryz.isAgg9
 z9:=Tryz.sizeOf9
 v9:=Tryz.zeroValue9
 t37:=Tryz.underlying23
 a37:=Tryz.isAgg23
 z37:=Tryz.sizeOf23
 v37:=Tryz.zeroValue23
 t70:=Tryz.underlying99
 a70:=Tryz.isAgg99
 z70:=Tryz.sizeOf99
 v70:=Tryz.zeroValue99
 t72:=Tryz.underlying101
 a72:=Tryz.isAgg101
 z72:=Tryz.sizeOf101
 v72:=Tryz.zeroValue101
 t127:=Tryz.underlying138
 a127:=Tryz.isAgg138
 z127:=Tryz.sizeOf138
 v127:=Tryz.zeroValue138 }
theorem Tryz.Builder_Extra_169:Builder.Extra Tryz.prog Tryz.lays169_ren:={
 sizeBuilder:=by kernel_rfl
 liesBuilder:=by kernel_rfl
 t5:=Tryz.underlying5
 a5:=Tryz.isAgg5
 z5:=Tryz.sizeOf5
 v5:=Tryz.zeroValue5
 infoByte:=by kernel_rfl
 cellsByte:=by kernel_rfl
 sizeByte:=by kernel_rfl
 neB5:=by decide }
def Tryz.lays156_ren:Go.Shelf.Ren:=⟨fun | 156=>33 | 165=>49 | 166=>32 | 169=>35 | 240=>48 | 241=>70 | 276=>69 | 277=>110 | n=>n,fun | 31=>22 | 9=>9 | 3=>3 | 4=>4 | 0=>0 | 20=>20 | 72=>101 | 76=>104 | 70=>99 | 37=>23 | 75=>103 | 127=>138 | 164=>167 | 5=>5 | 80=>113 | n=>n,fun | n=>n⟩
theorem Tryz.lays156:Go.Proofs.Lays.n156 Tryz.prog Tryz.lays156_ren:={
 mixed:=by kernel_rfl
 f156:=Tryz.func33.trans (congrArg some (by kernel_rfl))
 f165:=Tryz.func49.trans (congrArg some (by kernel_rfl))
 f166:=Tryz.func32.trans (congrArg some (by kernel_rfl))
 f169:=Tryz.func35.trans (congrArg some (by kernel_rfl))
 f240:=Tryz.func48.trans (congrArg some (by kernel_rfl))
 f241:=Tryz.func70.trans (congrArg some (by kernel_rfl))
 f276:=Tryz.func69.trans (congrArg some (by kernel_rfl))
 f277:=Tryz.func110.trans (congrArg some (by kernel_rfl))
 t0:=Tryz.underlying0
 a0:=Tryz.isAgg0
 z0:=Tryz.sizeOf0
 v0:=Tryz.zeroValue0
 t3:=Tryz.underlying3
 a3:=Tryz.isAgg3
 z3:=Tryz.sizeOf3
 v3:=Tryz.zeroValue3
 t4:=Tryz.underlying4
 a4:=Tryz.isAgg4
 z4:=Tryz.sizeOf4
 v4:=Tryz.zeroValue4
 t9:=Tryz.underlying9
 a9:=Tryz.isAgg9
 z9:=Tryz.sizeOf9
 v9:=Tryz.zeroValue9
 t20:=Tryz.underlying20
 a20:=Tryz.isAgg20
 z20:=Tryz.sizeOf20
 v20:=Tryz.zeroValue20
 t31:=Tryz.underlying22
 a31:=Tryz.isAgg22
 z31:=Tryz.sizeOf22
 v31:=Tryz.zeroValue22
 t37:=Tryz.underlying23
 a37:=Tryz.isAgg23
 z37:=Tryz.sizeOf23
 v37:=Tryz.zeroValue23
 t70:=Tryz.underlying99
 a70:=Tryz.isAgg99
 z70:=Tryz.sizeOf99
 v70:=Tryz.zeroValue99
 t72:=Tryz.underlying101
 a72:=Tryz.isAgg101
 z72:=Tryz.sizeOf101
 v72:=Tryz.zeroValue101
 t75:=Tryz.underlying103
 a75:=Tryz.isAgg103
 z75:=Tryz.sizeOf103
 v75:=Tryz.zeroValue103
 t76:=Tryz.underlying104
 a76:=Tryz.isAgg104
 z76:=Tryz.sizeOf104
 v76:=Tryz.zeroValue104
 t127:=Tryz.underlying138
 a127:=Tryz.isAgg138
 z127:=Tryz.sizeOf138
 v127:=Tryz.zeroValue138
 t164:=Tryz.underlying167
 a164:=Tryz.isAgg167
 z164:=Tryz.sizeOf167
 v164:=Tryz.zeroValue167 }
theorem Tryz.Builder_Extra_156:Builder.Extra Tryz.prog Tryz.lays156_ren:={
 sizeBuilder:=by kernel_rfl
 liesBuilder:=by kernel_rfl
 t5:=Tryz.underlying5
 a5:=Tryz.isAgg5
 z5:=Tryz.sizeOf5
 v5:=Tryz.zeroValue5
 infoByte:=by kernel_rfl
 cellsByte:=by kernel_rfl
 sizeByte:=by kernel_rfl
 neB5:=by decide }
end Go.Proofs
namespace Go.Proofs
open Go Pk Go.RowKit
theorem Tryz.srt140:BH Tryz.prog 140 6 :=
  ⟨fun p cap fv w=>AnyF.slices_SortFunc_none Tryz.laysF140 p cap fv w,
   fun α _ enc hk h1 cf hO g cb blk off cap d w eg hc hH hb hs hT=>AnyQ.slices_SortFunc_total Tryz.laysF140 6 Tryz.isAgg172 Tryz.sizeOf172 enc hk h1 cf hO g cb blk off cap d w eg hc hH hb hs hT⟩
theorem Tryz.srt246:BH Tryz.prog 246 5 :=
  ⟨fun p cap fv w=>AnyF.slices_SortFunc_none Tryz.laysF246 p cap fv w,
   fun α _ enc hk h1 cf hO g cb blk off cap d w eg hc hH hb hs hT=>AnyQ.slices_SortFunc_total Tryz.laysF246 5 Tryz.isAgg226 Tryz.sizeOf226 enc hk h1 cf hO g cb blk off cap d w eg hc hH hb hs hT⟩
theorem Tryz.szB:(Tryz.prog.info? 101).map (·.size)=some 2:=by kernel_rfl
theorem Tryz.liesB:liesAt Tryz.prog Tryz.prog.depth 101 (2/Tryz.prog.cellsOf 101) 0 101 1=true:=by kernel_rfl
theorem Tryz.infoU8:(Tryz.prog.info? 5).map (fun i=>(i.zero,i.size,i.bytes))=some (some (.int .u8 0),1,1):=by kernel_rfl
set_option maxHeartbeats 1000000 in
set_option maxRecDepth 100000 in
theorem Tryz.cc_used (b:Nat) (w:World) (h0:w.cell? ⟨b,0,none⟩=some (.pointer (some ⟨b,0,none⟩))):Calls Tryz.prog 48 #[.pointer (some ⟨b,0,none⟩)] w fun e w'=>e=.returned (.tuple #[])∧w'=w:=by
 obtain ⟨j,hj,_⟩:=Option.map_eq_some_iff.1 Tryz.szB
 go_enter Tryz.func48,Tryz.ntmps48
 go_wp2
 rw [Lib.run_neq_ptr_same w _ Tryz.underlying99 hj]
 go_wp2
 go_end0
 exact ⟨rfl,rfl⟩
set_option maxHeartbeats 1000000 in
set_option maxRecDepth 100000 in
theorem Tryz.cc_new (b:Nat) (w:World) (h0:w.cell? ⟨b,0,none⟩=some (.pointer none)) (hs:w.shape? b=some (101,2)) (hz:w.frozen? ⟨b,0,none⟩=false):Calls Tryz.prog 48 #[.pointer (some ⟨b,0,none⟩)] w fun e w'=>e=.returned (.tuple #[])∧w'=w.setCell ⟨b,0,none⟩ (.pointer (some ⟨b,0,none⟩)):=by
 obtain ⟨j,hj,hjs⟩:=Option.map_eq_some_iff.1 Tryz.szB
 go_enter Tryz.func48,Tryz.ntmps48
 go_wp2
 rw [Lib.run_to_unsafe w ⟨b,0,none⟩ Tryz.underlying99 Tryz.underlying167 hj (by rw [hjs];decide) hs (Nat.zero_lt_succ 1)];simp only [Result.andThen];rw [Oper.upon_value]
 go_wp2
 rw [run_callFunc_extern Tryz.func69 (by kernel_rfl) (by kernel_rfl) (by kernel_rfl) (e:=Extern.AbiNoEscape.same) (by kernel_rfl)];rw [Lib.run_noEscape];simp only [Result.andThen];rw [Oper.upon_value]
 go_wp2
 rw [Lib.run_from_unsafe w ⟨b,0,none⟩ Tryz.underlying167 Tryz.underlying99 hj hs Tryz.liesB];simp only [Result.andThen];rw [Oper.upon_value]
 go_wp2
 go_end0
 exact ⟨rfl,rfl⟩
theorem Tryz.cc_any (B b:Nat) (l:List Value) (w:World) (h:Lib.IsBuilderF 101 5 B b l w):Calls Tryz.prog 48 #[.pointer (some ⟨b,0,none⟩)] w fun e w'=>e=.returned (.tuple #[])∧Lib.BuilderAtF 101 5 B b (.pointer (some ⟨b,0,none⟩)) l w'∧Below B w w':=by
 rcases h with h | h
 ·exact (Tryz.cc_new b w h.cell0 h.shape h.frozen0).mono fun e w' hw=>by
   obtain ⟨rfl,rfl⟩:=hw;exact ⟨rfl,h.used _,(Below.refl B w).setCell (p:=⟨b,0,none⟩) h.1 _⟩
 exact (Tryz.cc_used b w h.cell0).mono fun e w' hw=>by
  obtain ⟨rfl,rfl⟩:=hw;exact ⟨rfl,h,Below.refl B _⟩
set_option maxHeartbeats 2000000 in
set_option maxRecDepth 100000 in
theorem Tryz.bWrite (B b:Nat) (l:List Value) (s:ByteArray) (w:World) (h:Lib.IsBuilderF 101 5 B b l w) (hl:l.length+s.size≤140737488355328) (hB:B≤w.heap.size) :
  Calls Tryz.prog 32 #[.pointer (some ⟨b,0,none⟩),.string s] w fun e w'=>e=.returned (.tuple #[.int .i64 s.size,.nilIface])∧Lib.BuilderAtF 101 5 B b (.pointer (some ⟨b,0,none⟩)) (l++Lib.strCells s) w'∧Below B w w':=by
 obtain ⟨i0,hi,hz0,hz1,hz2⟩:=info_parts Tryz.infoU8;have e48:∀ args w,(callFunc 48 args).run Tryz.prog w=.ok (.enter 48 args) w:=enters_of Tryz.func48 (by kernel_rfl) rfl
 go_enter Tryz.func32,Tryz.ntmps32
 go_wp2_with (go_at_fn 48;refine (Tryz.cc_any B b l _ h).mono ?_)
 rintro e w1 ⟨rfl,⟨hBb,v,hbk,hown,hne⟩,hb1⟩;have c0:w1.cell? ⟨b,0,none⟩=some (.pointer (some ⟨b,0,none⟩)):=by rw [Lib.cell_of_heap hbk];rfl
 have c1:w1.cell? ⟨b,1,none⟩=some v:=by rw [Lib.cell_of_heap hbk];rfl
 go_wp2_with (at_builtin;refine Lib.wpList_append_own_stringF _ rfl _ _ 23 9 rfl B 5 i0 Tryz.underlying23 Tryz.underlying9 hi hz0 hz1 hz2 _ _ _ rfl hown s rfl ?c3 ?c4 ?c5 ?_)
 case c3=>unfold maxLen;omega
 case c4=>omega
 case c5=>have:=hb1.size;omega
 intro v' w2 hown' hgrow _;have hlt:b < w1.heap.size:=(Array.getElem?_eq_some_iff.1 hbk).1;have hb2:w2.heap[b]?=some (.cells #[.pointer (some ⟨b,0,none⟩),v] 101 (0,0)):=by
  rw [hgrow.block b hlt (fun e=>hne e.symm)];exact hbk
 have d0:w2.cell? ⟨b,0,none⟩=some (.pointer (some ⟨b,0,none⟩)):=by rw [Lib.cell_of_heap hb2];rfl
 have d1:w2.cell? ⟨b,1,none⟩=some v:=by rw [Lib.cell_of_heap hb2];rfl
 have f1:w2.frozen? ⟨b,1,none⟩=false:=Lib.frozen_of_heap hb2 1;obtain ⟨ao,n',cap,rfl⟩:∃ ao n' cap,v'=.slice ao n' cap:=by
  rcases hown'.2 with ⟨hv,_⟩ | ⟨g,cap,cur,fz,hv,_⟩
  ·exact ⟨_,_,_,hv⟩
  exact ⟨_,_,_,hv⟩
 go_wp2
 go_ret2
 exact ⟨rfl,Lib.BuilderAtF.put (T:=101) (e:=5) hBb hb2 (bs':=l++Lib.strCells s) (by simpa [Lib.strCells_length] using hown') (by decide),(hb1.grown hgrow (by have:=hb1.size;omega) (fun k hk=>(hown.lt k hk).1)).setCell (p:=⟨b,1,none⟩) hBb _⟩
end Go.Proofs
set_option maxHeartbeats 4000000
namespace T12
open Go Go.Proofs Pk Go.RowKit
structure Gv (M:Prop) (H:Hp):Prop where
 gl:Gl M 2 3 0 H
 mx:∃ m,aK H ⟨1,0,none⟩ [.int .i64 m]
theorem Gv.mono {M:Prop} {H K:Hp} (h:Gv M H) (hk:H.le K):Gv M K:=⟨h.gl.mono hk,h.mx.imp fun _ hm=>hm.mono hk⟩
noncomputable def RP (s:aC):Option (Int×Bool):=DJ s
noncomputable def RQ (n:Int):Option aC:=DK n
noncomputable def PR (s t:aC):Option (aC×aC×Bool):=bP (s.length≤1073741824) (some (Lib.cut s t))
theorem PS (s:aC):(bs s).data.toList=s:=by simp [bs]
theorem w94 {M:Prop} {W:World} {H:Hp} (hH:H.le (hp W)) (hg:Gv M H) (s:aC) {r:Int×Bool} (hr:RP s=some r):Calls Tryz.prog 94 [.string (bs s)].toArray W (dZ M H W (fun v K=>∃ (er1:Value),v=.tuple [.int .i64 r.1,er1].toArray∧Er er1 r.2)):=by
 unfold RP DJ at hr;obtain ⟨hl,hr⟩:=aB hr;obtain rfl:=Option.some.inj hr;have hz:(bs s).size=s.length:=eL s;obtain ⟨e0,h0,i0⟩:=hg.gl.syn;obtain ⟨e1,h1,i1⟩:=hg.gl.rng
 cases h:Lib.atoiAll s with
 | ok v =>
  refine (Any.strconv_Atoi_ok Tryz.laysC172 (bs s) (by omega) v (by rw [PS];exact h) W).mono ?_;rintro e w' ⟨rfl,hw⟩;refine ⟨⟨_,by simp [nA,h],.inl ⟨by simp [nA,h],rfl⟩⟩,?_⟩;rcases hw with rfl | ⟨t,rfl⟩
  ·exact fI.refl _ _
  exact fI.of_below hg.gl.nq (Lib.bytesWorld_below _ _ _)
 | range =>
  refine (Any.strconv_Atoi_range Tryz.laysC172 (bs s) (by omega) (by rw [PS];exact h) e1 W (pO hH h1) i1).mono ?_;rintro e w' ⟨N,rfl,_,_,hb⟩;have hr1:nA s=(Lib.atoiSat s,true):=by simp [nA,h]
  rw [hr1,PS];exact ⟨⟨_,rfl,.inr ⟨rfl,_,_,rfl⟩⟩,fI.of_below hg.gl.nq hb⟩
 | _ =>
  refine (Any.strconv_Atoi_syntax Tryz.laysC172 (bs s) (by omega) (by rw [PS];exact h) e0 W (pO hH h0) i0).mono ?_;rintro e w' ⟨N,rfl,_,_,hb⟩;have hr1:nA s=(0,true):=by simp [nA,h]
  rw [hr1];exact ⟨⟨_,rfl,.inr ⟨rfl,_,_,rfl⟩⟩,fI.of_below hg.gl.nq hb⟩
theorem DP {W:World} {H:Hp} (hH:H.le (hp W)) {M:Prop} (hg:Gv M H) (n:Int) (h1 : -9223372036854775808≤n) (h2:n≤9223372036854775807):Calls Tryz.prog 29 #[.int .i64 n] W fun e w'=>e=.returned (.string (bs (Lib.itoa n)))∧∃ k os,w'=Sort.grow (W.drewN k) os:=by
 refine (Any.strconv_Itoa Tryz.laysM171 n h1 h2 W (vN (by kernel_rfl) hH hg.gl.tab)).mono ?_;rintro e w' ⟨rfl,k,os,rfl⟩;exact ⟨rfl,k,os,rfl⟩
theorem rA (M:Prop) (W:World) (k:Nat) (os:Array Obj):fI M W (Sort.grow (W.drewN k) os) :=
 ⟨rfl,rfl,rfl,(by show W.heap.size≤(W.heap++os).size;rw [Array.size_append];omega),fun b hb=>Array.getElem?_append_left hb,fun _=>Nat.le_add_right _ _⟩
theorem w29 {M:Prop} {W:World} {H:Hp} (hH:H.le (hp W)) (hg:Gv M H) (n:Int) {r:aC} (hr:RQ n=some r):Calls Tryz.prog 29 [.int .i64 n].toArray W (bH M W (.string (bs r))):=by
 unfold RQ DK at hr;obtain ⟨hl,hr⟩:=aB hr;obtain rfl:=Option.some.inj hr;refine (DP hH hg n hl.1 hl.2).mono ?_;rintro e w' ⟨rfl,k,os,rfl⟩;exact ⟨rfl,rA M W k os⟩
theorem w55 {M:Prop} {W:World} {H:Hp} (hH:H.le (hp W)) (hg:Gv M H) (s t:aC) {r:aC×aC×Bool} (hr:PR s t=some r):Calls Tryz.prog 55 [.string (bs s),.string (bs t)].toArray W (bH M W (.tuple [.string (bs r.1),.string (bs r.2.1),.bool r.2.2].toArray)):=by
 unfold PR at hr;obtain ⟨hl,hr⟩:=aB hr;obtain rfl:=Option.some.inj hr;obtain ⟨m,hm⟩:=hg.mx;refine (Any.strings_Cut Tryz.lays145 (bs s) (bs t) m W (by rw [eL];omega) (pO hH hm)).mono ?_;rintro e w' ⟨rfl,k,rfl⟩;refine ⟨by simp [bs],?_⟩;exact ⟨rfl,rfl,rfl,Nat.le_refl _,fun _ _=>rfl,fun _=>Nat.le_add_right _ _⟩
noncomputable def RR (l:List aC) (sep:aC):Option aC:=bP (l.length≤1073741824∧(Lib.join l sep).length≤1073741824) (some (Lib.join l sep))
theorem w33 {M:Prop} {W:World} {H:Hp} (hH:H.le (hp W)) (hg:Gv M H) {ad:Option Addr} {cap:Nat} {l:List aC} (hl:Sl (aE bV) 1 H ad cap l) (sep:aC) {r:aC} (hr:RR l sep=some r):Calls Tryz.prog 33 [.slice ad l.length cap,.string (bs sep)].toArray W (bH M W (.string (bs r))):=by
 unfold RR at hr;obtain ⟨hb,hr⟩:=aB hr;obtain rfl:=Option.some.inj hr;have hx:(l.map bs).map (·.data.toList)=l:=by
  rw [List.map_map]
  conv=>rhs;rw [← List.map_id l]
  exact List.map_congr_left fun x _=>by simp [bs]
 cases l with
 | nil =>
  refine (Any.strings_Join_none Tryz.lays156 Tryz.Builder_Extra_156 ad cap (bs sep) W).mono ?_;rintro e w' ⟨rfl,rfl⟩;exact ⟨by simp [bs,Lib.join_nil],fI.refl _ _⟩
 | cons x l =>
  obtain ⟨p,cs,rfl,hp0,h2,h3,h4⟩:=hl.2 0 x rfl;obtain ⟨b,o,sp⟩:=p;obtain rfl:sp=none:=hp0;have hcell:∀ (j:Nat) y,((x::l).map bs)[j]?=some y→W.cell? ⟨b,o+j,none⟩=some (.string y):=fun j y hy=>by
   rw [List.getElem?_map,Option.map_eq_some_iff] at hy;obtain ⟨z,hz,rfl⟩:=hy;obtain ⟨p,cs,h1,_,_,h3,h4⟩:=hl.2 j z hz;cases h1;have h4:cs=bV z:=h4;subst h4;have:=(h3.mono hH).cell (j:=0) (v:=.string (bs z)) rfl;have e:((⟨b,o,none⟩:Addr).add (j*1)).add 0=⟨b,o+j,none⟩:=by rw [Nat.mul_one,cP (i:=j) rfl];rfl
   rwa [e] at this
  have hlt:b < W.heap.size:=by
   have h4:cs=bV x:=h4;subst h4;obtain ⟨c,ty,fz,h5,_⟩:=h3.2 0 (.string (bs x)) rfl;have h6:=hH _ _ h5;rw [Nat.zero_mul,cP rfl] at h6;exact (Array.getElem?_eq_some_iff.1 h6).1
  have hn:((x::l).map bs).length=(x::l).length:=List.length_map _;have:=Any.strings_Join Tryz.lays156 Tryz.Builder_Extra_156 b o cap ((x::l).map bs) (bs sep) W hcell hlt (by rw [hn];omega) (by rw [hn];exact hl.1.1) (by rw [hx,show (bs sep).data.toList=sep by simp [bs]];omega);rw [hx,hn] at this;refine this.mono ?_;rintro e w' ⟨rfl,hw⟩;exact ⟨by simp [bs],fI.of_below hg.gl.nq hw⟩
end T12
set_option maxHeartbeats 4000000
namespace T12
open Go Go.Proofs Pk Go.RowKit
def tX:Any→aC
 | .i n=>Lib.itoa n
 | .s b=>b
def DQ:Any→Prop
 | .i n=>-9223372036854775808≤n∧n≤9223372036854775807
 | .s _=>True
instance:(x:Any)→Decidable (DQ x)
 | .i _=>inferInstanceAs (Decidable (_∧_))
 | .s _=>inferInstanceAs (Decidable True)
def gB (l:List Any):aC:=l.flatMap tX
noncomputable def FQ (l:List Any):Option aC:=bP ((∀ x∈l,DQ x)∧(gB l).length≤1073741824) (some (gB l))
theorem oU {T e:TypeId} {B b:Nat} {p:Value} {l:List Value} {W W':World} (h:Lib.BuilderAtF T e B b p l W) (hb:Below W.heap.size W W'):Lib.BuilderAtF T e B b p l W':=by
 have hlt:=h.lt;obtain ⟨hB,v,hv,hown,hne⟩:=h;exact ⟨hB,v,(hb.block b hlt).trans hv,hown.kept (row:=none) ⟨hb.os,hb.tape,hb.output,hb.size,fun k hk _=>hb.block k hk⟩ (Classical.em _),hne⟩
theorem tY {T e:TypeId} {B b:Nat} {l:List Value} {W W':World} (h:Lib.IsBuilderF T e B b l W) (hb:Below W.heap.size W W'):Lib.IsBuilderF T e B b l W' :=
 h.elim (fun x=>.inl (oU x hb)) (fun x=>.inr (oU x hb))
theorem sA (W:World) (k:Nat) (os:Array Obj):Below W.heap.size W (Sort.grow (W.drewN k) os) :=
 ⟨rfl,rfl,rfl,(by show W.heap.size≤(W.heap++os).size;rw [Array.size_append];omega),fun b hb=>Array.getElem?_append_left hb⟩
theorem sB {l:List Any} {i:Nat} {x:Any} (h:l[i]?=some x):gB (l.take (i+1))=gB (l.take i)++tX x:=by
 unfold gB;rw [List.take_succ,h];simp
theorem wE {l:List Any} (i:Nat):(gB (l.take i)).length≤(gB l).length:=by
 have:gB l=gB (l.take i)++gB (l.drop i):=by unfold gB;rw [← List.flatMap_append,List.take_append_drop]
 rw [this];simp
section
variable {P:Program} {r:Option Nat} {n:aL} {p:List PanicEntry→aL} {a:Act} {w:World} {D:List Deferred} {k:Nat} {L:bT} {ops:Array Oper} {rest:List Oper} {d:Nat} {ty:TypeId} {pos:String} {af:Array Edge}
theorem DR {y:Operand} {xT t:TypeId} {v:Value} {ds:TypeDesc} (hA:aR D k a L) (hd:Nat.blt d k=true) (hu:P.underlying t=some ds) (hds:(match ds with | .interface _=>false | _=>true)=true) (hy:ev L y=some (.iface t v))
  (h:∀ a,aR D k a ((d,.tuple #[v,.bool true])::L)→O P r ops n p rest a w):O P r ops n p (⟨some d,.typeAssert y xT t true,ty,pos,af,none⟩::rest) a w :=
 cG rfl (fun _ h=>by cases h) (w':=w) (v:=.tuple #[v,.bool true]) (by
  simp only [execOp,Instr.typeAssert,hA.eval hy]
  cases ds <;> simp at hds <;> simp [run_underlying hu,Result.andThen]) (h _ (hA.put hd _))
theorem MH {y:Operand} {xT t t':TypeId} {v z:Value} {ds:TypeDesc} (hA:aR D k a L) (hd:Nat.blt d k=true) (hu:P.underlying t=some ds) (hds:(match ds with | .interface _=>false | _=>true)=true) (hz:∀ w,(zeroValue t).run P w=.ok z w) (hne:Nat.beq t' t=false) (hy:ev L y=some (.iface t' v))
  (h:∀ a,aR D k a ((d,.tuple #[z,.bool false])::L)→O P r ops n p rest a w):O P r ops n p (⟨some d,.typeAssert y xT t true,ty,pos,af,none⟩::rest) a w:=by
 have hn:¬t'=t:=FD hne
 exact cG rfl (fun _ h=>by cases h) (w':=w) (v:=.tuple #[z,.bool false]) (by
  simp only [execOp,Instr.typeAssert,hA.eval hy]
  cases ds <;> simp at hds <;> simp [run_underlying hu,Result.andThen,hn,hz]) (h _ (hA.put hd _))
theorem pS {x:Operand} {xs:List Operand} {ats:Array TypeId} {f:FuncId} {vs:List Value} {v:Value} {R:World→Prop} (hA:aR D k a L) (hd:Nat.blt d k=true) (hf:ev L x=some (.func (.func f) #[] #[])) (hxs:kH L xs=some vs)
  (hcall:∀ args w,(callFunc f args).run P w=.ok (.enter f args) w) (hc:Calls P f vs.toArray w fun e w'=>e=.returned v∧R w') (h:∀ w',R w'→∀ a,aR D k a ((d,v)::L)→O P r ops n p rest a w') :
  O P r ops n p (⟨some d,.call ⟨.value x,xs.toArray,ats⟩,ty,pos,af,none⟩::rest) a w:=by
 refine gE rfl (fun _ h=>by cases h) (fK (first:=#[]) (cap:=#[]) hA hf hxs hcall) (by simpa using hc) ?_ ?_ ?_
 ·intro v' w' hv;obtain ⟨e,hR⟩:=hv;cases e;exact h w' hR _ (hA.put hd _)
 ·intro ch w' hv;cases hv.1
 intro w' hv;cases hv.1
end
theorem RS {M:Prop} {W:World} {H:Hp} (hH:H.le (hp W)) (hg:Gv M H) {ad_p0_:Option Addr} {cap_p0_:Nat} {p0_:List Any} (h_p0_:Sl (aE rW) 1 H ad_p0_ cap_p0_ p0_) {r:aC} (hr:FQ p0_=some r):Calls Tryz.prog 169 [.slice ad_p0_ p0_.length cap_p0_].toArray W (bH M W (.string (bs r))):=by
 unfold FQ at hr;obtain ⟨⟨hok,hlen⟩,hr⟩:=aB hr;obtain rfl:=Option.some.inj hr;refine enter Tryz.func169 rfl Tryz.ntmps169 rfl ?_;intro a hA;refine fF (cN (eI hA rfl rfl fun a hA=>?_));refine eT (fF (cN (cG rfl (fun _ h=>by cases h) (w':=W.alloc (.cells #[.pointer none,.slice none 0 0] 101)) (v:=.pointer (some ⟨W.heap.size,0,none⟩)) (by simp [execOp,Instr.alloc,Tryz.zeroValue101,iJ,Value.cells]) ?_)));have hA1:=hA.put (d:=3) rfl (.pointer (some ⟨W.heap.size,0,none⟩));have hB1:Lib.IsBuilderF 101 5 W.heap.size W.heap.size (Lib.byteCells (gB (p0_.take 0))) (W.alloc (.cells #[.pointer none,.slice none 0 0] 101)):=(Lib.fresh_isBuilder 101 5 W).elim (fun h=>.inl (.of h)) (fun h=>.inr (.of h));have hW1:Below W.heap.size W (W.alloc (.cells #[.pointer none,.slice none 0 0] 101)):=(Below.refl _ _).alloc (Nat.le_refl _) _;generalize (a.put (some 3) (.pointer (some ⟨W.heap.size,0,none⟩)))=a1 at hA1 ⊢;generalize (W.alloc (.cells #[.pointer none,.slice none 0 0] 101))=w1 at hB1 hW1 ⊢;refine eT (fF (fF (cN (fC hA1 rfl rfl fun a hA=>DB hA rfl rfl Tryz.underlying308 fun a hA=>fC hA rfl rfl fun a hA=>?_))));refine eT (kI (uZ (fun j a w=>∃ i,i≤p0_.length∧j=p0_.length - i∧aR [] 35 a [(3,.pointer (some ⟨W.heap.size,0,none⟩)),(10,.slice ad_p0_ p0_.length cap_p0_),(11,.int .i64 p0_.length),(12,.int .i64 i)]∧Lib.IsBuilderF 101 5 W.heap.size W.heap.size (Lib.byteCells (gB (p0_.take i))) w∧Below W.heap.size W w) (j:=p0_.length) ⟨0,Nat.zero_le _,rfl,hA.cut ⟨rfl,rfl,rfl,rfl,trivial⟩,hB1,hW1⟩ ?_));rintro j a w ⟨i,hil,rfl,hA,hB,hW⟩;have hll:=h_p0_.len;refine fF (cN (KU hA rfl rfl rfl fun a hA=>eT (fF (KN hA rfl (fun hc=>uX ?_) (fun hc=>uY rfl ?_)))))
 ·have hi:i < p0_.length:=by omega
  obtain ⟨x,hx⟩:∃ x,p0_[i]?=some x:=⟨_,List.getElem?_eq_getElem hi⟩;have hxok:=hok x (List.mem_of_getElem? hx);have hHw:H.le (hp w):=hH.trans (fI.of_below hg.gl.nq hW).le;have hlen2:(gB (p0_.take (i+1))).length≤1073741824:=Nat.le_trans (wE _) hlen;have hst:=sB hx;have hcnt:(gB (p0_.take i)).length+(tX x).length≤1073741824:=by rw [hst,List.length_append] at hlen2;exact hlen2
  have hBle:W.heap.size≤w.heap.size:=hW.size;refine fF (mK (n:=fun a w'=>aR [] 35 a [(3,.pointer (some ⟨W.heap.size,0,none⟩)),(10,.slice ad_p0_ p0_.length cap_p0_),(11,.int .i64 p0_.length),(12,.int .i64 i)]∧Lib.BuilderAtF 101 5 W.heap.size W.heap.size (.pointer (some ⟨W.heap.size,0,none⟩)) (Lib.byteCells (gB (p0_.take i))++Lib.strCells (bs (tX x))) w'∧Below W.heap.size W w') ?_ (fun _ _ h=>h) (fun _ K _ _ hK h=>⟨K,hK,h⟩) (fun _ _ _ h=>h) ?_)
  ·rintro a w' ⟨hA,hB,hW⟩;exact cN (CY hA rfl rfl rfl (by omega) (by omega) fun a hA=>fC hA rfl rfl fun a hA=>eT ⟨p0_.length - (i+1),by omega,i+1,by omega,rfl,hA.cut ⟨rfl,rfl,rfl,by simp [lk],trivial⟩,.inr (by rw [hst];unfold Lib.byteCells at *;rw [List.map_append];exact hB),hW⟩)
  refine kI (fF (cN (QM hA rfl rfl rfl Tryz.underlying308 Tryz.sizeOf20 (h_p0_.mono (aE.mono _) hHw) rfl rfl hx fun q cs hq hcs hf a hA=>rP (v:=LW x) hA rfl rfl Tryz.isAgg20 hq (by rw [show cs=rW x from hf];rfl) fun a hA=>eI hA rfl rfl fun a hA=>eT ?_)));clear hf hq hcs
  cases x with
  | i z =>
   refine fF (cN (fC hA rfl rfl fun a hA=>DR hA rfl Tryz.underlying3 rfl rfl fun a hA=>fC hA rfl rfl fun a hA=>kM (vs:=[.int .i64 z,.bool true]) hA rfl rfl rfl fun a hA=>kM (vs:=[.int .i64 z,.bool true]) hA rfl rfl rfl fun a hA=>eI hA rfl rfl fun a hA=>eI hA rfl rfl fun a hA=>eT ?_));refine fF (cN (fC hA rfl rfl fun a hA=>eT (hU hA rfl (fun _=>?_) (fun h=>by cases h))));refine cN (fC hA rfl rfl fun a hA=>pS (x:=.func 29) (xs:=[.tmp 22]) hA rfl rfl rfl Tryz.call29 (DP hHw hg z hxok.1 hxok.2) ?_);rintro w' ⟨k,os,rfl⟩ a hA;have hb:=sA w k os;have hW':=hW.trans (hb.mono hBle);refine pS (x:=.func 32) (xs:=[.tmp 3,.tmp 23]) hA rfl rfl rfl Tryz.call32 (Tryz.bWrite W.heap.size W.heap.size _ (bs (Lib.itoa z)) _ (tY hB hb) ?_ hW'.size) ?_
   ·rw [Lib.byteCells_length,eL];have:(Lib.itoa z).length=(tX (.i z)).length:=rfl;omega
   rintro w' ⟨hB',hW2⟩ a hA;exact eT ⟨hA.cut ⟨rfl,rfl,rfl,rfl,trivial⟩,hB',hW'.trans hW2⟩
  | s z =>
   refine fF (cN (fC hA rfl rfl fun a hA=>MH hA rfl Tryz.underlying3 rfl Tryz.zeroValue3 rfl rfl fun a hA=>fC hA rfl rfl fun a hA=>kM (vs:=[.int .i64 0,.bool false]) hA rfl rfl rfl fun a hA=>kM (vs:=[.int .i64 0,.bool false]) hA rfl rfl rfl fun a hA=>eI hA rfl rfl fun a hA=>eI hA rfl rfl fun a hA=>eT ?_));refine fF (cN (fC hA rfl rfl fun a hA=>eT (hU hA rfl (fun h=>by cases h) (fun _=>?_))));refine fF (cN (fC hA rfl rfl fun a hA=>DR hA rfl Tryz.underlying9 rfl rfl fun a hA=>fC hA rfl rfl fun a hA=>kM (vs:=[.string (bs z),.bool true]) hA rfl rfl rfl fun a hA=>kM (vs:=[.string (bs z),.bool true]) hA rfl rfl rfl fun a hA=>eI hA rfl rfl fun a hA=>eI hA rfl rfl fun a hA=>eT ?_));refine fF (cN (fC hA rfl rfl fun a hA=>eT (hU hA rfl (fun _=>?_) (fun h=>by cases h))));refine cN (fC hA rfl rfl fun a hA=>pS (x:=.func 32) (xs:=[.tmp 3,.tmp 31]) hA rfl rfl rfl Tryz.call32 (Tryz.bWrite W.heap.size W.heap.size _ (bs z) _ hB ?_ hBle) ?_)
   ·rw [Lib.byteCells_length,eL];have:z.length=(tX (.s z)).length:=rfl;omega
   rintro w' ⟨hB',hW2⟩ a hA;exact eT ⟨hA.cut ⟨rfl,rfl,rfl,rfl,trivial⟩,hB',hW.trans hW2⟩
 have hi:i=p0_.length:=by omega
 subst hi;rw [List.take_length] at hB;refine fF (cN (pS (x:=.func 35) (xs:=[.tmp 3]) hA rfl rfl rfl Tryz.call35 (Any.Builder_String_any_f Tryz.lays169 Tryz.Builder_Extra_169 W.heap.size W.heap.size (gB p0_) w hB hW.size) ?_));rintro w' ⟨hB',hW'⟩ a hA;refine eI hA rfl rfl fun a hA=>eT (CW (aZ hA rfl rfl ?_));exact ⟨rfl,fI.of_below hg.gl.nq (hW.trans hW')⟩
end T12
namespace T12
open Go Go.Proofs Pk
theorem J.{u} {α:Sort u} {a:α}:a=a:=rfl
structure aI where
 anchor:Int
 text:aC
 deriving DecidableEq,Inhabited
def aV (x:aI):List Value:=[.int .i64 x.anchor,.string (bs x.text)]
structure dR where
 day:Int
 paragraphs:List aI
 deriving DecidableEq,Inhabited
def cE:Hp→List Value→dR→Prop:=fun H cs x=>∃ (ad0:Option Addr) (cap0:Nat),cs=[.int .i64 x.day,.slice ad0 x.paragraphs.length cap0]∧Sl (aE aV) 2 H ad0 cap0 x.paragraphs
theorem cE.one:lW cE:=fun _ _ _ ⟨_,_,h,_⟩=>by subst h;rfl
theorem cE.mono:fJ cE:=fun _ _ _ _ hk ⟨a0,c0,h,f0⟩=>⟨a0,c0,h,f0.mono (aE.mono _) hk⟩
structure cA where
 number:Int
 bound:Int
 height:Int
 width:Int
 parts:List dR
 deriving DecidableEq,Inhabited
def bY:Hp→List Value→cA→Prop:=fun H cs x=>∃ (ad0:Option Addr) (cap0:Nat),cs=[.int .i64 x.number,.int .i64 x.bound,.int .i64 x.height,.int .i64 x.width,.slice ad0 x.parts.length cap0]∧Sl (cE) 2 H ad0 cap0 x.parts
theorem bY.one:lW bY:=fun _ _ _ ⟨_,_,h,_⟩=>by subst h;rfl
theorem bY.mono:fJ bY:=fun _ _ _ _ hk ⟨a0,c0,h,f0⟩=>⟨a0,c0,h,f0.mono (cE.mono) hk⟩
structure aT where
 number:Int
 day:Int
 kind:Int
 anchor:Int
 text:aC
 new_:Int
 deriving DecidableEq,Inhabited
def aP (x:aT):List Value:=[.int .i64 x.number,.int .i64 x.day,.int .u8 x.kind,.int .i64 x.anchor,.string (bs x.text),.int .i64 x.new_]
structure fQ where
 anchor:Int
 kind:Int
 until_:Int
 deriving DecidableEq,Inhabited
def dW (x:fQ):List Value:=[.int .i64 x.anchor,.int .i64 x.kind,.int .i64 x.until_]
structure aX where
 number:Int
 of:Int
 from_:Int
 to_:Int
 words:List aC
 deriving DecidableEq,Inhabited
def aQ:Hp→List Value→aX→Prop:=fun H cs x=>∃ (ad0:Option Addr) (cap0:Nat),cs=[.int .i64 x.number,.int .i64 x.of,.int .i64 x.from_,.int .i64 x.to_,.slice ad0 x.words.length cap0]∧Sl (aE bV) 1 H ad0 cap0 x.words
theorem aQ.one:lW aQ:=fun _ _ _ ⟨_,_,h,_⟩=>by subst h;rfl
theorem aQ.mono:fJ aQ:=fun _ _ _ _ hk ⟨a0,c0,h,f0⟩=>⟨a0,c0,h,f0.mono (aE.mono _) hk⟩
structure bX where
 words:List aC
 papers:List aX
 deriving DecidableEq,Inhabited
def cC:Hp→List Value→bX→Prop:=fun H cs x=>∃ (ad0:Option Addr) (cap0:Nat) (ad1:Option Addr) (cap1:Nat),cs=[.slice ad0 x.words.length cap0,.slice ad1 x.papers.length cap1]∧Sl (aE bV) 1 H ad0 cap0 x.words∧Sl (aQ) 5 H ad1 cap1 x.papers
theorem cC.one:lW cC:=fun _ _ _ ⟨_,_,_,_,h,_⟩=>by subst h;rfl
theorem cC.mono:fJ cC:=fun _ _ _ _ hk ⟨a0,c0,a1,c1,h,f0,f1⟩=>⟨a0,c0,a1,c1,h,f0.mono (aE.mono _) hk,f1.mono (aQ.mono) hk⟩
structure bW where
 e0:List Int
 e1:List Int
 deriving DecidableEq,Inhabited
def gC:Hp→List Value→bW→Prop:=fun H cs x=>∃ (ad0:Option Addr) (cap0:Nat) (ad1:Option Addr) (cap1:Nat),cs=[.slice ad0 x.e0.length cap0,.slice ad1 x.e1.length cap1]∧Sl (aE (bL .i64)) 1 H ad0 cap0 x.e0∧Sl (aE (bL .i64)) 1 H ad1 cap1 x.e1
theorem gC.one:lW gC:=fun _ _ _ ⟨_,_,_,_,h,_⟩=>by subst h;rfl
theorem gC.mono:fJ gC:=fun _ _ _ _ hk ⟨a0,c0,a1,c1,h,f0,f1⟩=>⟨a0,c0,a1,c1,h,f0.mono (aE.mono _) hk,f1.mono (aE.mono _) hk⟩
structure fE where
 a:Int
 b:Int
 deriving DecidableEq,Inhabited
def dT (x:fE):List Value:=[.int .i64 x.a,.int .i64 x.b]
structure dX where
 holder:Int
 for_:Int
 deriving DecidableEq,Inhabited
def dP (x:dX):List Value:=[.int .i64 x.holder,.int .i64 x.for_]
structure aW where
 members:Int
 ayes:bW
 noes:bW
 pairs:List fE
 proxies:List dX
 rule:Int
 need:Int
 quorum:Int
 tie:Int
 deriving DecidableEq,Inhabited
structure PT where
 a0:Option Addr
 c0:Nat
 a1:Option Addr
 c1:Nat
 a2:Option Addr
 c2:Nat
 a3:Option Addr
 c3:Nat
 a4:Option Addr
 c4:Nat
 a5:Option Addr
 c5:Nat
abbrev cJ (x:aW) (z:PT):List Value:=[.int .i64 x.members,.slice z.a0 x.ayes.e0.length z.c0,.slice z.a1 x.ayes.e1.length z.c1,.slice z.a2 x.noes.e0.length z.c2,.slice z.a3 x.noes.e1.length z.c3,.slice z.a4 x.pairs.length z.c4,.slice z.a5 x.proxies.length z.c5,.int .u8 x.rule,.int .i64 x.need,.int .i64 x.quorum,.int .u8 x.tie]
structure gK (H:Hp) (x:aW) (z:PT):Prop where
 f0:Sl (aE (bL .i64)) 1 H z.a0 z.c0 x.ayes.e0
 f1:Sl (aE (bL .i64)) 1 H z.a1 z.c1 x.ayes.e1
 f2:Sl (aE (bL .i64)) 1 H z.a2 z.c2 x.noes.e0
 f3:Sl (aE (bL .i64)) 1 H z.a3 z.c3 x.noes.e1
 f4:Sl (aE dT) 2 H z.a4 z.c4 x.pairs
 f5:Sl (aE dP) 2 H z.a5 z.c5 x.proxies
theorem gK.mono {H K:Hp} {x:aW} {z:PT} (h:gK H x z) (k:H.le K):gK K x z:=⟨h.f0.mono (aE.mono _) k,h.f1.mono (aE.mono _) k,h.f2.mono (aE.mono _) k,h.f3.mono (aE.mono _) k,h.f4.mono (aE.mono _) k,h.f5.mono (aE.mono _) k⟩
theorem gK.lens {H:Hp} {x:aW} {z:PT} (h:gK H x z):x.ayes.e0.length≤9223372036854775807∧x.ayes.e1.length≤9223372036854775807∧x.noes.e0.length≤9223372036854775807∧x.noes.e1.length≤9223372036854775807∧x.pairs.length≤9223372036854775807∧x.proxies.length≤9223372036854775807:=⟨h.f0.len,h.f1.len,h.f2.len,h.f3.len,h.f4.len,h.f5.len⟩
def bM:Hp→List Value→aW→Prop:=fun H cs x=>∃ z,cs=cJ x z∧gK H x z
theorem bM.one:lW bM:=fun _ _ _ ⟨_,h,_⟩=>by subst h;rfl
theorem bM.mono:fJ bM:=fun _ _ _ _ hk ⟨z,h,f⟩=>⟨z,h,f.mono hk⟩
structure cQ where
 day:Int
 house:Int
 volume:cA
 bound:Bool
 errata:List aT
 hides:List fQ
 cites:List aC
 motion:bX
 moved:Bool
 choice:List Int
 division:aW
 open_:Bool
 results:List UInt8
 deriving DecidableEq,Inhabited
structure rB where
 a0:Option Addr
 c0:Nat
 a1:Option Addr
 c1:Nat
 a2:Option Addr
 c2:Nat
 a3:Option Addr
 c3:Nat
 a4:Option Addr
 c4:Nat
 a5:Option Addr
 c5:Nat
 a6:Option Addr
 c6:Nat
 a7:Option Addr
 c7:Nat
 a8:Option Addr
 c8:Nat
 a9:Option Addr
 c9:Nat
 a10:Option Addr
 c10:Nat
 a11:Option Addr
 c11:Nat
 a12:Option Addr
 c12:Nat
 a13:Option Addr
 c13:Nat
abbrev cV (x:cQ) (z:rB):List Value:=[.int .i64 x.day,.int .i64 x.house,.int .i64 x.volume.number,.int .i64 x.volume.bound,.int .i64 x.volume.height,.int .i64 x.volume.width,.slice z.a0 x.volume.parts.length z.c0,.bool x.bound,.slice z.a1 x.errata.length z.c1,.slice z.a2 x.hides.length z.c2,.slice z.a3 x.cites.length z.c3,.slice z.a4 x.motion.words.length z.c4,.slice z.a5 x.motion.papers.length z.c5,.bool x.moved,.slice z.a6 x.choice.length z.c6,.int .i64 x.division.members,.slice z.a7 x.division.ayes.e0.length z.c7,.slice z.a8 x.division.ayes.e1.length z.c8,.slice z.a9 x.division.noes.e0.length z.c9,.slice z.a10 x.division.noes.e1.length z.c10,.slice z.a11 x.division.pairs.length z.c11,.slice z.a12 x.division.proxies.length z.c12,.int .u8 x.division.rule,.int .i64 x.division.need,.int .i64 x.division.quorum,.int .u8 x.division.tie,.bool x.open_,.slice z.a13 x.results.length z.c13]
structure lN (H:Hp) (x:cQ) (z:rB):Prop where
 f0:Sl (cE) 2 H z.a0 z.c0 x.volume.parts
 f1:Sl (aE aP) 6 H z.a1 z.c1 x.errata
 f2:Sl (aE dW) 3 H z.a2 z.c2 x.hides
 f3:Sl (aE bV) 1 H z.a3 z.c3 x.cites
 f4:Sl (aE bV) 1 H z.a4 z.c4 x.motion.words
 f5:Sl (aQ) 5 H z.a5 z.c5 x.motion.papers
 f6:Sl (aE (bL .i64)) 1 H z.a6 z.c6 x.choice
 f7:Sl (aE (bL .i64)) 1 H z.a7 z.c7 x.division.ayes.e0
 f8:Sl (aE (bL .i64)) 1 H z.a8 z.c8 x.division.ayes.e1
 f9:Sl (aE (bL .i64)) 1 H z.a9 z.c9 x.division.noes.e0
 f10:Sl (aE (bL .i64)) 1 H z.a10 z.c10 x.division.noes.e1
 f11:Sl (aE dT) 2 H z.a11 z.c11 x.division.pairs
 f12:Sl (aE dP) 2 H z.a12 z.c12 x.division.proxies
 f13:Sl (aE bQ) 1 H z.a13 z.c13 x.results
theorem lN.mono {H K:Hp} {x:cQ} {z:rB} (h:lN H x z) (k:H.le K):lN K x z:=⟨h.f0.mono (cE.mono) k,h.f1.mono (aE.mono _) k,h.f2.mono (aE.mono _) k,h.f3.mono (aE.mono _) k,h.f4.mono (aE.mono _) k,h.f5.mono (aQ.mono) k,h.f6.mono (aE.mono _) k,h.f7.mono (aE.mono _) k,h.f8.mono (aE.mono _) k,h.f9.mono (aE.mono _) k,h.f10.mono (aE.mono _) k,h.f11.mono (aE.mono _) k,h.f12.mono (aE.mono _) k,h.f13.mono (aE.mono _) k⟩
theorem lN.lens {H:Hp} {x:cQ} {z:rB} (h:lN H x z):x.volume.parts.length≤9223372036854775807∧x.errata.length≤9223372036854775807∧x.hides.length≤9223372036854775807∧x.cites.length≤9223372036854775807∧x.motion.words.length≤9223372036854775807∧x.motion.papers.length≤9223372036854775807∧x.choice.length≤9223372036854775807∧x.division.ayes.e0.length≤9223372036854775807∧x.division.ayes.e1.length≤9223372036854775807∧x.division.noes.e0.length≤9223372036854775807∧x.division.noes.e1.length≤9223372036854775807∧x.division.pairs.length≤9223372036854775807∧x.division.proxies.length≤9223372036854775807∧x.results.length≤9223372036854775807:=⟨h.f0.len,h.f1.len,h.f2.len,h.f3.len,h.f4.len,h.f5.len,h.f6.len,h.f7.len,h.f8.len,h.f9.len,h.f10.len,h.f11.len,h.f12.len,h.f13.len⟩
def nE:Hp→List Value→cQ→Prop:=fun H cs x=>∃ z,cs=cV x z∧lN H x z
theorem nE.one:lW nE:=fun _ _ _ ⟨_,h,_⟩=>by subst h;rfl
theorem nE.mono:fJ nE:=fun _ _ _ _ hk ⟨z,h,f⟩=>⟨z,h,f.mono hk⟩
structure aF where
 state:cQ
 deriving DecidableEq,Inhabited
abbrev wF (x:aF) (z:rB):List Value:=[.int .i64 x.state.day,.int .i64 x.state.house,.int .i64 x.state.volume.number,.int .i64 x.state.volume.bound,.int .i64 x.state.volume.height,.int .i64 x.state.volume.width,.slice z.a0 x.state.volume.parts.length z.c0,.bool x.state.bound,.slice z.a1 x.state.errata.length z.c1,.slice z.a2 x.state.hides.length z.c2,.slice z.a3 x.state.cites.length z.c3,.slice z.a4 x.state.motion.words.length z.c4,.slice z.a5 x.state.motion.papers.length z.c5,.bool x.state.moved,.slice z.a6 x.state.choice.length z.c6,.int .i64 x.state.division.members,.slice z.a7 x.state.division.ayes.e0.length z.c7,.slice z.a8 x.state.division.ayes.e1.length z.c8,.slice z.a9 x.state.division.noes.e0.length z.c9,.slice z.a10 x.state.division.noes.e1.length z.c10,.slice z.a11 x.state.division.pairs.length z.c11,.slice z.a12 x.state.division.proxies.length z.c12,.int .u8 x.state.division.rule,.int .i64 x.state.division.need,.int .i64 x.state.division.quorum,.int .u8 x.state.division.tie,.bool x.state.open_,.slice z.a13 x.state.results.length z.c13]
structure iG (H:Hp) (x:aF) (z:rB):Prop where
 f0:Sl (cE) 2 H z.a0 z.c0 x.state.volume.parts
 f1:Sl (aE aP) 6 H z.a1 z.c1 x.state.errata
 f2:Sl (aE dW) 3 H z.a2 z.c2 x.state.hides
 f3:Sl (aE bV) 1 H z.a3 z.c3 x.state.cites
 f4:Sl (aE bV) 1 H z.a4 z.c4 x.state.motion.words
 f5:Sl (aQ) 5 H z.a5 z.c5 x.state.motion.papers
 f6:Sl (aE (bL .i64)) 1 H z.a6 z.c6 x.state.choice
 f7:Sl (aE (bL .i64)) 1 H z.a7 z.c7 x.state.division.ayes.e0
 f8:Sl (aE (bL .i64)) 1 H z.a8 z.c8 x.state.division.ayes.e1
 f9:Sl (aE (bL .i64)) 1 H z.a9 z.c9 x.state.division.noes.e0
 f10:Sl (aE (bL .i64)) 1 H z.a10 z.c10 x.state.division.noes.e1
 f11:Sl (aE dT) 2 H z.a11 z.c11 x.state.division.pairs
 f12:Sl (aE dP) 2 H z.a12 z.c12 x.state.division.proxies
 f13:Sl (aE bQ) 1 H z.a13 z.c13 x.state.results
theorem iG.mono {H K:Hp} {x:aF} {z:rB} (h:iG H x z) (k:H.le K):iG K x z:=⟨h.f0.mono (cE.mono) k,h.f1.mono (aE.mono _) k,h.f2.mono (aE.mono _) k,h.f3.mono (aE.mono _) k,h.f4.mono (aE.mono _) k,h.f5.mono (aQ.mono) k,h.f6.mono (aE.mono _) k,h.f7.mono (aE.mono _) k,h.f8.mono (aE.mono _) k,h.f9.mono (aE.mono _) k,h.f10.mono (aE.mono _) k,h.f11.mono (aE.mono _) k,h.f12.mono (aE.mono _) k,h.f13.mono (aE.mono _) k⟩
theorem iG.lens {H:Hp} {x:aF} {z:rB} (h:iG H x z):x.state.volume.parts.length≤9223372036854775807∧x.state.errata.length≤9223372036854775807∧x.state.hides.length≤9223372036854775807∧x.state.cites.length≤9223372036854775807∧x.state.motion.words.length≤9223372036854775807∧x.state.motion.papers.length≤9223372036854775807∧x.state.choice.length≤9223372036854775807∧x.state.division.ayes.e0.length≤9223372036854775807∧x.state.division.ayes.e1.length≤9223372036854775807∧x.state.division.noes.e0.length≤9223372036854775807∧x.state.division.noes.e1.length≤9223372036854775807∧x.state.division.pairs.length≤9223372036854775807∧x.state.division.proxies.length≤9223372036854775807∧x.state.results.length≤9223372036854775807:=⟨h.f0.len,h.f1.len,h.f2.len,h.f3.len,h.f4.len,h.f5.len,h.f6.len,h.f7.len,h.f8.len,h.f9.len,h.f10.len,h.f11.len,h.f12.len,h.f13.len⟩
def aM:Hp→List Value→aF→Prop:=fun H cs x=>∃ z,cs=wF x z∧iG H x z
theorem aM.one:lW aM:=fun _ _ _ ⟨_,h,_⟩=>by subst h;rfl
theorem aM.mono:fJ aM:=fun _ _ _ _ hk ⟨z,h,f⟩=>⟨z,h,f.mono hk⟩
structure fV where
 paragraph:aI
 removed:Bool
 deriving DecidableEq,Inhabited
def dH (x:fV):List Value:=[.int .i64 x.paragraph.anchor,.string (bs x.paragraph.text),.bool x.removed]
structure gH where
 volume:cA
 parts:List (List fV)
 deriving DecidableEq,Inhabited
def iH:Hp→List Value→gH→Prop:=fun H cs x=>∃ (ad0:Option Addr) (cap0:Nat) (ad1:Option Addr) (cap1:Nat),cs=[.int .i64 x.volume.number,.int .i64 x.volume.bound,.int .i64 x.volume.height,.int .i64 x.volume.width,.slice ad0 x.volume.parts.length cap0,.slice ad1 x.parts.length cap1]∧Sl (cE) 2 H ad0 cap0 x.volume.parts∧Sl (pW (aE dH) 3) 1 H ad1 cap1 x.parts
theorem iH.one:lW iH:=fun _ _ _ ⟨_,_,_,_,h,_⟩=>by subst h;rfl
theorem iH.mono:fJ iH:=fun _ _ _ _ hk ⟨a0,c0,a1,c1,h,f0,f1⟩=>⟨a0,c0,a1,c1,h,f0.mono (cE.mono) hk,f1.mono (pW.mono (aE.mono _)) hk⟩
structure nF where
 anchor:Int
 column:Int
 line:Int
 lines:Int
 deriving DecidableEq,Inhabited
structure cO where
 place:nF
 day:Int
 number:Int
 deriving DecidableEq,Inhabited
def eA (x:cO):List Value:=[.int .i64 x.place.anchor,.int .i64 x.place.column,.int .i64 x.place.line,.int .i64 x.place.lines,.int .i64 x.day,.int .i64 x.number]
structure fA where
 ayes:Int
 noes:Int
 deriving DecidableEq,Inhabited
def gP (x:fA):List Value:=[.int .i64 x.ayes,.int .i64 x.noes]
structure bK where
 e0:Bool
 e1:Bool
 e2:Bool
 e3:Bool
 e4:Bool
 e5:Bool
 e6:Bool
 e7:Bool
 e8:Bool
 e9:Bool
 e10:Bool
 e11:Bool
 e12:Bool
 e13:Bool
 e14:Bool
 e15:Bool
 e16:Bool
 e17:Bool
 e18:Bool
 e19:Bool
 e20:Bool
 e21:Bool
 e22:Bool
 e23:Bool
 e24:Bool
 e25:Bool
 e26:Bool
 e27:Bool
 e28:Bool
 e29:Bool
 e30:Bool
 e31:Bool
 e32:Bool
 e33:Bool
 e34:Bool
 e35:Bool
 e36:Bool
 e37:Bool
 e38:Bool
 e39:Bool
 deriving Inhabited
def bC (x:bK):List Value:=[.bool x.e0,.bool x.e1,.bool x.e2,.bool x.e3,.bool x.e4,.bool x.e5,.bool x.e6,.bool x.e7,.bool x.e8,.bool x.e9,.bool x.e10,.bool x.e11,.bool x.e12,.bool x.e13,.bool x.e14,.bool x.e15,.bool x.e16,.bool x.e17,.bool x.e18,.bool x.e19,.bool x.e20,.bool x.e21,.bool x.e22,.bool x.e23,.bool x.e24,.bool x.e25,.bool x.e26,.bool x.e27,.bool x.e28,.bool x.e29,.bool x.e30,.bool x.e31,.bool x.e32,.bool x.e33,.bool x.e34,.bool x.e35,.bool x.e36,.bool x.e37,.bool x.e38,.bool x.e39]
def bK.vals (x:bK):List Bool:=[x.e0,x.e1,x.e2,x.e3,x.e4,x.e5,x.e6,x.e7,x.e8,x.e9,x.e10,x.e11,x.e12,x.e13,x.e14,x.e15,x.e16,x.e17,x.e18,x.e19,x.e20,x.e21,x.e22,x.e23,x.e24,x.e25,x.e26,x.e27,x.e28,x.e29,x.e30,x.e31,x.e32,x.e33,x.e34,x.e35,x.e36,x.e37,x.e38,x.e39]
def bK.get (x:bK) (j:Nat):Bool:=x.vals.getD j default
def bK.set (x:bK) (j:Nat) (v:Bool):bK:=⟨if j=0 then v else x.e0,if j=1 then v else x.e1,if j=2 then v else x.e2,if j=3 then v else x.e3,if j=4 then v else x.e4,if j=5 then v else x.e5,if j=6 then v else x.e6,if j=7 then v else x.e7,if j=8 then v else x.e8,if j=9 then v else x.e9,if j=10 then v else x.e10,if j=11 then v else x.e11,if j=12 then v else x.e12,if j=13 then v else x.e13,if j=14 then v else x.e14,if j=15 then v else x.e15,if j=16 then v else x.e16,if j=17 then v else x.e17,if j=18 then v else x.e18,if j=19 then v else x.e19,if j=20 then v else x.e20,if j=21 then v else x.e21,if j=22 then v else x.e22,if j=23 then v else x.e23,if j=24 then v else x.e24,if j=25 then v else x.e25,if j=26 then v else x.e26,if j=27 then v else x.e27,if j=28 then v else x.e28,if j=29 then v else x.e29,if j=30 then v else x.e30,if j=31 then v else x.e31,if j=32 then v else x.e32,if j=33 then v else x.e33,if j=34 then v else x.e34,if j=35 then v else x.e35,if j=36 then v else x.e36,if j=37 then v else x.e37,if j=38 then v else x.e38,if j=39 then v else x.e39⟩
def bK.zero:bK:=⟨false,false,false,false,false,false,false,false,false,false,false,false,false,false,false,false,false,false,false,false,false,false,false,false,false,false,false,false,false,false,false,false,false,false,false,false,false,false,false,false⟩
theorem bK.vset (x:bK) (v:Bool):∀ (j:Nat),j < 40→(x.set j v).vals=x.vals.set j v
 | 0,_=>rfl
 | 1,_=>rfl
 | 2,_=>rfl
 | 3,_=>rfl
 | 4,_=>rfl
 | 5,_=>rfl
 | 6,_=>rfl
 | 7,_=>rfl
 | 8,_=>rfl
 | 9,_=>rfl
 | 10,_=>rfl
 | 11,_=>rfl
 | 12,_=>rfl
 | 13,_=>rfl
 | 14,_=>rfl
 | 15,_=>rfl
 | 16,_=>rfl
 | 17,_=>rfl
 | 18,_=>rfl
 | 19,_=>rfl
 | 20,_=>rfl
 | 21,_=>rfl
 | 22,_=>rfl
 | 23,_=>rfl
 | 24,_=>rfl
 | 25,_=>rfl
 | 26,_=>rfl
 | 27,_=>rfl
 | 28,_=>rfl
 | 29,_=>rfl
 | 30,_=>rfl
 | 31,_=>rfl
 | 32,_=>rfl
 | 33,_=>rfl
 | 34,_=>rfl
 | 35,_=>rfl
 | 36,_=>rfl
 | 37,_=>rfl
 | 38,_=>rfl
 | 39,_=>rfl
 | n+40,h=>absurd h (by omega)
theorem bK.em (x:bK):bC x=x.vals.map (fun v=>Value.bool v):=rfl
theorem bK.st {x:bK} {j:Nat} {v:Bool} (h:j < 40):(bC x).set j (Value.bool v)=bC (x.set j v):=by rw [bK.em,bK.em,bK.vset x v j h,List.map_set]
theorem bK.at {x:bK} {j:Nat} (h:j < 40):(bC x)[j]?=some (Value.bool (x.get j)):=by
 have h2:x.vals[j]?=some (x.get j):=by unfold bK.get;rw [List.getD_eq_getElem?_getD,List.getElem?_eq_getElem (show j < x.vals.length from h)];rfl
 rw [bK.em,List.getElem?_map,h2];rfl
structure dL where
 division:aW
 paired:bK
 may:List (List UInt8)
 deriving Inhabited
def eD:Hp→List Value→dL→Prop:=fun H cs x=>∃ (ad0:Option Addr) (cap0:Nat) (ad1:Option Addr) (cap1:Nat) (KH:Option Addr) (cap2:Nat) (RG:Option Addr) (cap3:Nat) (ad4:Option Addr) (cap4:Nat) (ad5:Option Addr) (cap5:Nat) (hs6:List hP),cs=(fP (fP [.int .i64 x.division.members,.slice ad0 x.division.ayes.e0.length cap0,.slice ad1 x.division.ayes.e1.length cap1,.slice KH x.division.noes.e0.length cap2,.slice RG x.division.noes.e1.length cap3,.slice ad4 x.division.pairs.length cap4,.slice ad5 x.division.proxies.length cap5,.int .u8 x.division.rule,.int .i64 x.division.need,.int .i64 x.division.quorum,.int .u8 x.division.tie] (bC x.paired)) (iC hs6 x.may))∧Sl (aE (bL .i64)) 1 H ad0 cap0 x.division.ayes.e0∧Sl (aE (bL .i64)) 1 H ad1 cap1 x.division.ayes.e1∧Sl (aE (bL .i64)) 1 H KH cap2 x.division.noes.e0∧Sl (aE (bL .i64)) 1 H RG cap3 x.division.noes.e1∧Sl (aE dT) 2 H ad4 cap4 x.division.pairs∧Sl (aE dP) 2 H ad5 cap5 x.division.proxies∧lQ (aE bQ) 1 40 H hs6 x.may
theorem eD.mono:fJ eD:=fun _ _ _ _ hk ⟨a0,c0,a1,c1,a2,c2,a3,c3,a4,c4,a5,c5,s6,h,f0,f1,f2,f3,f4,f5,f6⟩=>⟨a0,c0,a1,c1,a2,c2,a3,c3,a4,c4,a5,c5,s6,h,f0.mono (aE.mono _) hk,f1.mono (aE.mono _) hk,f2.mono (aE.mono _) hk,f3.mono (aE.mono _) hk,f4.mono (aE.mono _) hk,f5.mono (aE.mono _) hk,f6.mono (aE.mono _) hk⟩
structure bE where
 e0:Int
 e1:Int
 e2:Int
 e3:Int
 e4:Int
 e5:Int
 e6:Int
 e7:Int
 e8:Int
 e9:Int
 e10:Int
 e11:Int
 e12:Int
 e13:Int
 e14:Int
 e15:Int
 e16:Int
 e17:Int
 e18:Int
 e19:Int
 e20:Int
 e21:Int
 e22:Int
 e23:Int
 e24:Int
 e25:Int
 e26:Int
 e27:Int
 e28:Int
 e29:Int
 e30:Int
 e31:Int
 e32:Int
 e33:Int
 e34:Int
 e35:Int
 e36:Int
 e37:Int
 e38:Int
 e39:Int
 deriving Inhabited
def cI (x:bE):List Value:=[.int .u8 x.e0,.int .u8 x.e1,.int .u8 x.e2,.int .u8 x.e3,.int .u8 x.e4,.int .u8 x.e5,.int .u8 x.e6,.int .u8 x.e7,.int .u8 x.e8,.int .u8 x.e9,.int .u8 x.e10,.int .u8 x.e11,.int .u8 x.e12,.int .u8 x.e13,.int .u8 x.e14,.int .u8 x.e15,.int .u8 x.e16,.int .u8 x.e17,.int .u8 x.e18,.int .u8 x.e19,.int .u8 x.e20,.int .u8 x.e21,.int .u8 x.e22,.int .u8 x.e23,.int .u8 x.e24,.int .u8 x.e25,.int .u8 x.e26,.int .u8 x.e27,.int .u8 x.e28,.int .u8 x.e29,.int .u8 x.e30,.int .u8 x.e31,.int .u8 x.e32,.int .u8 x.e33,.int .u8 x.e34,.int .u8 x.e35,.int .u8 x.e36,.int .u8 x.e37,.int .u8 x.e38,.int .u8 x.e39]
def bE.vals (x:bE):List Int:=[x.e0,x.e1,x.e2,x.e3,x.e4,x.e5,x.e6,x.e7,x.e8,x.e9,x.e10,x.e11,x.e12,x.e13,x.e14,x.e15,x.e16,x.e17,x.e18,x.e19,x.e20,x.e21,x.e22,x.e23,x.e24,x.e25,x.e26,x.e27,x.e28,x.e29,x.e30,x.e31,x.e32,x.e33,x.e34,x.e35,x.e36,x.e37,x.e38,x.e39]
def bE.get (x:bE) (j:Nat):Int:=x.vals.getD j default
def bE.set (x:bE) (j:Nat) (v:Int):bE:=⟨if j=0 then v else x.e0,if j=1 then v else x.e1,if j=2 then v else x.e2,if j=3 then v else x.e3,if j=4 then v else x.e4,if j=5 then v else x.e5,if j=6 then v else x.e6,if j=7 then v else x.e7,if j=8 then v else x.e8,if j=9 then v else x.e9,if j=10 then v else x.e10,if j=11 then v else x.e11,if j=12 then v else x.e12,if j=13 then v else x.e13,if j=14 then v else x.e14,if j=15 then v else x.e15,if j=16 then v else x.e16,if j=17 then v else x.e17,if j=18 then v else x.e18,if j=19 then v else x.e19,if j=20 then v else x.e20,if j=21 then v else x.e21,if j=22 then v else x.e22,if j=23 then v else x.e23,if j=24 then v else x.e24,if j=25 then v else x.e25,if j=26 then v else x.e26,if j=27 then v else x.e27,if j=28 then v else x.e28,if j=29 then v else x.e29,if j=30 then v else x.e30,if j=31 then v else x.e31,if j=32 then v else x.e32,if j=33 then v else x.e33,if j=34 then v else x.e34,if j=35 then v else x.e35,if j=36 then v else x.e36,if j=37 then v else x.e37,if j=38 then v else x.e38,if j=39 then v else x.e39⟩
def bE.zero:bE:=⟨0,0,0,0,0,0,0,0,0,0,0,0,0,0,0,0,0,0,0,0,0,0,0,0,0,0,0,0,0,0,0,0,0,0,0,0,0,0,0,0⟩
theorem bE.vset (x:bE) (v:Int):∀ (j:Nat),j < 40→(x.set j v).vals=x.vals.set j v
 | 0,_=>rfl
 | 1,_=>rfl
 | 2,_=>rfl
 | 3,_=>rfl
 | 4,_=>rfl
 | 5,_=>rfl
 | 6,_=>rfl
 | 7,_=>rfl
 | 8,_=>rfl
 | 9,_=>rfl
 | 10,_=>rfl
 | 11,_=>rfl
 | 12,_=>rfl
 | 13,_=>rfl
 | 14,_=>rfl
 | 15,_=>rfl
 | 16,_=>rfl
 | 17,_=>rfl
 | 18,_=>rfl
 | 19,_=>rfl
 | 20,_=>rfl
 | 21,_=>rfl
 | 22,_=>rfl
 | 23,_=>rfl
 | 24,_=>rfl
 | 25,_=>rfl
 | 26,_=>rfl
 | 27,_=>rfl
 | 28,_=>rfl
 | 29,_=>rfl
 | 30,_=>rfl
 | 31,_=>rfl
 | 32,_=>rfl
 | 33,_=>rfl
 | 34,_=>rfl
 | 35,_=>rfl
 | 36,_=>rfl
 | 37,_=>rfl
 | 38,_=>rfl
 | 39,_=>rfl
 | n+40,h=>absurd h (by omega)
theorem bE.em (x:bE):cI x=x.vals.map (fun v=>Value.int .u8 v):=rfl
theorem bE.st {x:bE} {j:Nat} {v:Int} (h:j < 40):(cI x).set j (Value.int .u8 v)=cI (x.set j v):=by rw [bE.em,bE.em,bE.vset x v j h,List.map_set]
theorem bE.at {x:bE} {j:Nat} (h:j < 40):(cI x)[j]?=some (Value.int .u8 (x.get j)):=by
 have h2:x.vals[j]?=some (x.get j):=by unfold bE.get;rw [List.getD_eq_getElem?_getD,List.getElem?_eq_getElem (show j < x.vals.length from h)];rfl
 rw [bE.em,List.getElem?_map,h2];rfl
structure bJ where
 number:Int
 index:Int
 deriving DecidableEq,Inhabited
def bN (x:bJ):List Value:=[.int .i64 x.number,.int .i64 x.index]
structure dN where
 many:Int
 text:Bool
 do_:Option Nat
 deriving DecidableEq,Inhabited
def dF (x:dN):List Value:=[.int .i64 x.many,.bool x.text,oT x.do_]
structure cL where
 e0:Int
 e1:Int
 e2:Int
 e3:Int
 e4:Int
 e5:Int
 deriving Inhabited
def eN (x:cL):List Value:=[.int .u8 x.e0,.int .u8 x.e1,.int .u8 x.e2,.int .u8 x.e3,.int .u8 x.e4,.int .u8 x.e5]
def cL.vals (x:cL):List Int:=[x.e0,x.e1,x.e2,x.e3,x.e4,x.e5]
def cL.get (x:cL) (j:Nat):Int:=x.vals.getD j default
def cL.set (x:cL) (j:Nat) (v:Int):cL:=⟨if j=0 then v else x.e0,if j=1 then v else x.e1,if j=2 then v else x.e2,if j=3 then v else x.e3,if j=4 then v else x.e4,if j=5 then v else x.e5⟩
def cL.zero:cL:=⟨0,0,0,0,0,0⟩
theorem cL.vset (x:cL) (v:Int):∀ (j:Nat),j < 6→(x.set j v).vals=x.vals.set j v
 | 0,_=>rfl
 | 1,_=>rfl
 | 2,_=>rfl
 | 3,_=>rfl
 | 4,_=>rfl
 | 5,_=>rfl
 | n+6,h=>absurd h (by omega)
theorem cL.em (x:cL):eN x=x.vals.map (fun v=>Value.int .u8 v):=rfl
theorem cL.st {x:cL} {j:Nat} {v:Int} (h:j < 6):(eN x).set j (Value.int .u8 v)=eN (x.set j v):=by rw [cL.em,cL.em,cL.vset x v j h,List.map_set]
theorem cL.at {x:cL} {j:Nat} (h:j < 6):(eN x)[j]?=some (Value.int .u8 (x.get j)):=by
 have h2:x.vals[j]?=some (x.get j):=by unfold cL.get;rw [List.getD_eq_getElem?_getD,List.getElem?_eq_getElem (show j < x.vals.length from h)];rfl
 rw [cL.em,List.getElem?_map,h2];rfl
theorem mixed:Tryz.prog.follows .mixedOrders=true:=by kernel_rfl
theorem B47:cZ Tryz.prog 47 [.int .i64 0,.int .i64 0,.int .i64 0,.int .i64 0,.slice none 0 0] #[(0,1),(1,1),(2,1),(3,1),(4,1)]:=⟨⟨.agg [.int .i64 0,.int .i64 0,.int .i64 0,.int .i64 0,.slice none 0 0].toArray,rfl,Tryz.zeroValue47⟩,⟨_,Tryz.underlying47,fun _=>by kernel_rfl⟩⟩
theorem B52:cZ Tryz.prog 52 [.slice none 0 0,.slice none 0 0] #[(0,1),(1,1)]:=⟨⟨.agg [.slice none 0 0,.slice none 0 0].toArray,rfl,Tryz.zeroValue52⟩,⟨_,Tryz.underlying52,fun _=>by kernel_rfl⟩⟩
theorem B57:cZ Tryz.prog 57 [.int .i64 0,.slice none 0 0,.slice none 0 0,.slice none 0 0,.slice none 0 0,.slice none 0 0,.slice none 0 0,.int .u8 0,.int .i64 0,.int .i64 0,.int .u8 0] #[(0,1),(1,2),(3,2),(5,1),(6,1),(7,1),(8,1),(9,1),(10,1)]:=⟨⟨.agg [.int .i64 0,.slice none 0 0,.slice none 0 0,.slice none 0 0,.slice none 0 0,.slice none 0 0,.slice none 0 0,.int .u8 0,.int .i64 0,.int .i64 0,.int .u8 0].toArray,rfl,Tryz.zeroValue57⟩,⟨_,Tryz.underlying57,fun _=>by kernel_rfl⟩⟩
theorem B82:cZ Tryz.prog 82 [.int .i64 0,.string (bs [])] #[(0,1),(1,1)]:=⟨⟨.agg [.int .i64 0,.string (bs [])].toArray,rfl,Tryz.zeroValue82⟩,⟨_,Tryz.underlying82,fun _=>by kernel_rfl⟩⟩
theorem B87:cZ Tryz.prog 87 [.int .i64 0,.int .i64 0,.int .i64 0,.int .i64 0,.int .i64 0,.int .i64 0,.slice none 0 0,.bool false,.slice none 0 0,.slice none 0 0,.slice none 0 0,.slice none 0 0,.slice none 0 0,.bool false,.slice none 0 0,.int .i64 0,.slice none 0 0,.slice none 0 0,.slice none 0 0,.slice none 0 0,.slice none 0 0,.slice none 0 0,.int .u8 0,.int .i64 0,.int .i64 0,.int .u8 0,.bool false,.slice none 0 0] #[(0,28)]:=⟨⟨.agg [.int .i64 0,.int .i64 0,.int .i64 0,.int .i64 0,.int .i64 0,.int .i64 0,.slice none 0 0,.bool false,.slice none 0 0,.slice none 0 0,.slice none 0 0,.slice none 0 0,.slice none 0 0,.bool false,.slice none 0 0,.int .i64 0,.slice none 0 0,.slice none 0 0,.slice none 0 0,.slice none 0 0,.slice none 0 0,.slice none 0 0,.int .u8 0,.int .i64 0,.int .i64 0,.int .u8 0,.bool false,.slice none 0 0].toArray,rfl,Tryz.zeroValue87⟩,⟨_,Tryz.underlying87,fun _=>by kernel_rfl⟩⟩
theorem B89:cZ Tryz.prog 89 [.int .i64 0,.int .i64 0,.int .i64 0] #[(0,1),(1,1),(2,1)]:=⟨⟨.agg [.int .i64 0,.int .i64 0,.int .i64 0].toArray,rfl,Tryz.zeroValue89⟩,⟨_,Tryz.underlying89,fun _=>by kernel_rfl⟩⟩
theorem B112:cZ Tryz.prog 112 [.int .i64 0,.int .i64 0,.int .i64 0,.int .i64 0] #[(0,1),(1,1),(2,1),(3,1)]:=⟨⟨.agg [.int .i64 0,.int .i64 0,.int .i64 0,.int .i64 0].toArray,rfl,Tryz.zeroValue112⟩,⟨_,Tryz.underlying112,fun _=>by kernel_rfl⟩⟩
theorem B137:cZ Tryz.prog 137 [.int .i64 0,.int .i64 0,.int .i64 0,.int .i64 0,.int .i64 0,.int .i64 0] #[(0,4),(4,1),(5,1)]:=⟨⟨.agg [.int .i64 0,.int .i64 0,.int .i64 0,.int .i64 0,.int .i64 0,.int .i64 0].toArray,rfl,Tryz.zeroValue137⟩,⟨_,Tryz.underlying137,fun _=>by kernel_rfl⟩⟩
theorem B141:cZ Tryz.prog 141 [.int .i64 0] #[(0,1)]:=⟨⟨.agg [.int .i64 0].toArray,rfl,Tryz.zeroValue141⟩,⟨_,Tryz.underlying141,fun _=>by kernel_rfl⟩⟩
theorem B146:cZ Tryz.prog 146 [.int .i64 0,.bool false,.nilFunc] #[(0,1),(1,1),(2,1)]:=⟨⟨.agg [.int .i64 0,.bool false,.nilFunc].toArray,rfl,Tryz.zeroValue146⟩,⟨_,Tryz.underlying146,fun _=>by kernel_rfl⟩⟩
theorem B154:cZ Tryz.prog 154 [.int .i64 0,.int .i64 0,.int .i64 0,.int .i64 0,.slice none 0 0,.slice none 0 0] #[(0,5),(5,1)]:=⟨⟨.agg [.int .i64 0,.int .i64 0,.int .i64 0,.int .i64 0,.slice none 0 0,.slice none 0 0].toArray,rfl,Tryz.zeroValue154⟩,⟨_,Tryz.underlying154,fun _=>by kernel_rfl⟩⟩
theorem B159:cZ Tryz.prog 159 [.int .i64 0,.string (bs []),.bool false] #[(0,2),(2,1)]:=⟨⟨.agg [.int .i64 0,.string (bs []),.bool false].toArray,rfl,Tryz.zeroValue159⟩,⟨_,Tryz.underlying159,fun _=>by kernel_rfl⟩⟩
theorem B172:cZ Tryz.prog 172 [.int .i64 0,.int .i64 0,.int .u8 0,.int .i64 0,.string (bs []),.int .i64 0] #[(0,1),(1,1),(2,1),(3,1),(4,1),(5,1)]:=⟨⟨.agg [.int .i64 0,.int .i64 0,.int .u8 0,.int .i64 0,.string (bs []),.int .i64 0].toArray,rfl,Tryz.zeroValue172⟩,⟨_,Tryz.underlying172,fun _=>by kernel_rfl⟩⟩
theorem B177:cZ Tryz.prog 177 [.int .i64 0,.slice none 0 0] #[(0,1),(1,1)]:=⟨⟨.agg [.int .i64 0,.slice none 0 0].toArray,rfl,Tryz.zeroValue177⟩,⟨_,Tryz.underlying177,fun _=>by kernel_rfl⟩⟩
theorem B187:cZ Tryz.prog 187 [.nilFunc] #[(0,1)]:=⟨⟨.agg [.nilFunc].toArray,rfl,Tryz.zeroValue187⟩,⟨_,Tryz.underlying187,fun _=>by kernel_rfl⟩⟩
theorem B226:cZ Tryz.prog 226 [.int .i64 0,.int .i64 0,.int .i64 0,.int .i64 0,.slice none 0 0] #[(0,1),(1,1),(2,1),(3,1),(4,1)]:=⟨⟨.agg [.int .i64 0,.int .i64 0,.int .i64 0,.int .i64 0,.slice none 0 0].toArray,rfl,Tryz.zeroValue226⟩,⟨_,Tryz.underlying226,fun _=>by kernel_rfl⟩⟩
theorem B260:cZ Tryz.prog 260 (fP (fP [.int .i64 0,.slice none 0 0,.slice none 0 0,.slice none 0 0,.slice none 0 0,.slice none 0 0,.slice none 0 0,.int .u8 0,.int .i64 0,.int .i64 0,.int .u8 0] (bC bK.zero)) (iC (List.replicate 40 ((none,0):hP)) (List.replicate 40 ([]:List UInt8)))) #[(0,11),(11,40),(51,40)]:=⟨⟨.agg (fP (fP [.int .i64 0,.slice none 0 0,.slice none 0 0,.slice none 0 0,.slice none 0 0,.slice none 0 0,.slice none 0 0,.int .u8 0,.int .i64 0,.int .i64 0,.int .u8 0] (bC bK.zero)) (iC (List.replicate 40 ((none,0):hP)) (List.replicate 40 ([]:List UInt8)))).toArray,rfl,Tryz.zeroValue260⟩,⟨_,Tryz.underlying260,fun _=>by kernel_rfl⟩⟩
theorem B267:qV Tryz.prog 267 5 (cI bE.zero) 1:=⟨⟨.agg (cI bE.zero).toArray,rfl,Tryz.zeroValue267⟩,⟨_,Tryz.underlying267⟩,Tryz.sizeOf5⟩
theorem B281:cZ Tryz.prog 281 [.int .i64 0,.nilFunc] #[(0,1),(1,1)]:=⟨⟨.agg [.int .i64 0,.nilFunc].toArray,rfl,Tryz.zeroValue281⟩,⟨_,Tryz.underlying281,fun _=>by kernel_rfl⟩⟩
theorem B286:cZ Tryz.prog 286 [.int .i64 0,.int .i64 0] #[(0,1),(1,1)]:=⟨⟨.agg [.int .i64 0,.int .i64 0].toArray,rfl,Tryz.zeroValue286⟩,⟨_,Tryz.underlying286,fun _=>by kernel_rfl⟩⟩
theorem B315:cZ Tryz.prog 315 [.nilFunc] #[(0,1)]:=⟨⟨.agg [.nilFunc].toArray,rfl,Tryz.zeroValue315⟩,⟨_,Tryz.underlying315,fun _=>by kernel_rfl⟩⟩
theorem E22:cM Tryz.prog 22 9 [.string (bs [])] 1 16:=⟨Tryz.underlying22,⟨_,.string (bs []),dK Tryz.type9,rfl,rfl,rfl,rfl⟩,rfl,by decide⟩
theorem E23:cM Tryz.prog 23 5 [.int .u8 0] 1 1:=⟨Tryz.underlying23,⟨_,.int .u8 0,dK Tryz.type5,rfl,rfl,rfl,rfl⟩,rfl,by decide⟩
theorem E36:cM Tryz.prog 36 3 [.int .i64 0] 1 8:=⟨Tryz.underlying36,⟨_,.int .i64 0,dK Tryz.type3,rfl,rfl,rfl,rfl⟩,rfl,by decide⟩
theorem E45:cM Tryz.prog 45 177 [.int .i64 0,.slice none 0 0] 2 32:=⟨Tryz.underlying45,⟨_,.agg [.int .i64 0,.slice none 0 0].toArray,dK Tryz.type177,rfl,rfl,rfl,rfl⟩,rfl,by decide⟩
theorem E48:cM Tryz.prog 48 172 [.int .i64 0,.int .i64 0,.int .u8 0,.int .i64 0,.string (bs []),.int .i64 0] 6 56:=⟨Tryz.underlying48,⟨_,.agg [.int .i64 0,.int .i64 0,.int .u8 0,.int .i64 0,.string (bs []),.int .i64 0].toArray,dK Tryz.type172,rfl,rfl,rfl,rfl⟩,rfl,by decide⟩
theorem E49:cM Tryz.prog 49 89 [.int .i64 0,.int .i64 0,.int .i64 0] 3 24:=⟨Tryz.underlying49,⟨_,.agg [.int .i64 0,.int .i64 0,.int .i64 0].toArray,dK Tryz.type89,rfl,rfl,rfl,rfl⟩,rfl,by decide⟩
theorem E50:cM Tryz.prog 50 226 [.int .i64 0,.int .i64 0,.int .i64 0,.int .i64 0,.slice none 0 0] 5 56:=⟨Tryz.underlying50,⟨_,.agg [.int .i64 0,.int .i64 0,.int .i64 0,.int .i64 0,.slice none 0 0].toArray,dK Tryz.type226,rfl,rfl,rfl,rfl⟩,rfl,by decide⟩
theorem E54:cM Tryz.prog 54 219 [.int .i64 0,.int .i64 0] 2 16:=⟨Tryz.underlying54,⟨_,.agg [.int .i64 0,.int .i64 0].toArray,dK Tryz.type219,rfl,rfl,rfl,rfl⟩,rfl,by decide⟩
theorem E60:cM Tryz.prog 60 25 [.int .i64 0] 1 8:=⟨Tryz.underlying60,⟨_,.int .i64 0,dK Tryz.type25,rfl,rfl,rfl,rfl⟩,rfl,by decide⟩
theorem E75:cM Tryz.prog 75 82 [.int .i64 0,.string (bs [])] 2 24:=⟨Tryz.underlying75,⟨_,.agg [.int .i64 0,.string (bs [])].toArray,dK Tryz.type82,rfl,rfl,rfl,rfl⟩,rfl,by decide⟩
theorem E134:cM Tryz.prog 134 137 [.int .i64 0,.int .i64 0,.int .i64 0,.int .i64 0,.int .i64 0,.int .i64 0] 6 48:=⟨Tryz.underlying134,⟨_,.agg [.int .i64 0,.int .i64 0,.int .i64 0,.int .i64 0,.int .i64 0,.int .i64 0].toArray,dK Tryz.type137,rfl,rfl,rfl,rfl⟩,rfl,by decide⟩
theorem E152:cM Tryz.prog 152 157 [.slice none 0 0] 1 24:=⟨Tryz.underlying152,⟨_,.slice none 0 0,dK Tryz.type157,rfl,rfl,rfl,rfl⟩,rfl,by decide⟩
theorem E157:cM Tryz.prog 157 159 [.int .i64 0,.string (bs []),.bool false] 3 32:=⟨Tryz.underlying157,⟨_,.agg [.int .i64 0,.string (bs []),.bool false].toArray,dK Tryz.type159,rfl,rfl,rfl,rfl⟩,rfl,by decide⟩
theorem E188:cM Tryz.prog 188 187 [.nilFunc] 1 8:=⟨Tryz.underlying188,⟨_,.agg [.nilFunc].toArray,dK Tryz.type187,rfl,rfl,rfl,rfl⟩,rfl,by decide⟩
theorem E227:cM Tryz.prog 227 286 [.int .i64 0,.int .i64 0] 2 16:=⟨Tryz.underlying227,⟨_,.agg [.int .i64 0,.int .i64 0].toArray,dK Tryz.type286,rfl,rfl,rfl,rfl⟩,rfl,by decide⟩
theorem E277:cM Tryz.prog 277 281 [.int .i64 0,.nilFunc] 2 16:=⟨Tryz.underlying277,⟨_,.agg [.int .i64 0,.nilFunc].toArray,dK Tryz.type281,rfl,rfl,rfl,rfl⟩,rfl,by decide⟩
theorem E308:cM Tryz.prog 308 20 [.nilIface] 1 16:=⟨Tryz.underlying308,⟨_,.nilIface,dK Tryz.type20,rfl,rfl,rfl,rfl⟩,rfl,by decide⟩
theorem E316:cM Tryz.prog 316 315 [.nilFunc] 1 8:=⟨Tryz.underlying316,⟨_,.agg [.nilFunc].toArray,dK Tryz.type315,rfl,rfl,rfl,rfl⟩,rfl,by decide⟩
end T12
namespace Go.Proofs
open Go Go.Shelf Go.RowKit Pk
theorem rC {w:World} {q:Addr} {vs:List Value} (h:aK (hp w) q vs) (hv:0 < vs.length):∃ cs t z,w.heap[q.block]?=some (.cells cs t z)∧cs.size≠0:=by
 obtain ⟨c,t,z,h3,h4⟩:=h.2 0 _ (List.getElem?_eq_getElem hv);refine ⟨c,t,z,h3,fun h0=>?_⟩;have:=(Array.getElem?_eq_some_iff.1 h4).1;omega
theorem pU {P:Program} (w:World) (tS tR e:TypeId) (ht:P.underlying tS=some (.slice e)) (size:Nat) (hz:∀ w,(Go.sizeOf e).run P w=.ok size w) (a b:Addr) (la ca lb cb:Nat) (hne:a.block≠b.block)
  {ca':Array Value} {ta:TypeId} {za:Nat×Nat} (ha:w.heap[a.block]?=some (.cells ca' ta za)) (ha0:ca'.size≠0) {cur:Array Value} {te:TypeId} (hb:w.heap[b.block]?=some (.cells cur te (0,0))) (hc:cur.size≠0) :
  (Extern.SlicesOverlaps.overlaps #[tS,tS] #[tR] #[.slice (some a) la ca,.slice (some b) lb cb]).run P w=.ok (.bool false) w:=by
 have hnb:(a.block != b.block)=true:=by simpa using hne
 have hnb':(a.block==b.block)=false:=by simpa using hne
 have hf:∀ x:Addr,x.block=b.block→w.frozen? x=false:=fun x hx=>by simp [World.frozen?,hx,hb]
 have hsb:w.shape? b.block=some (te,cur.size):=by simp [World.shape?,hb]
 have hva:w.shape? a.block=some (ta,ca'.size):=by simp [World.shape?,ha]
 change Sem.run P (α:=Value) (do
  let some t := (#[tS, tS] : Array TypeId)[0]? | stuck "slices.overlaps: no parameter types"
  let .slice elem ← underlying t | stuck "slices.overlaps: slice type expected"
  let size ← sizeOf elem
  match (some a:Option Addr),(some b:Option Addr) with
  | some a,some b =>
   if la=0∨lb=0∨size=0 then pure (Value.bool false)
   else if a.block != b.block&&(← frozen a)&&(← frozen b) then unsupported .addressObserved
   else do
    if a.block != b.block then do
     noView a;noView b
     if ← mayBeOne a b then return Value.bool ((← choose (.extern "sameAddr.stringBytes" 2)) == 1)
    pure (Value.bool (a.block==b.block&&a.off < b.off+lb*size&&b.off < a.off+la*size))
  | _,_=>pure (Value.bool false)) w=_
 by_cases h0:la=0∨lb=0∨size=0
 ·simp [run_underlying ht,hz,h0]
 have e1:=hf b rfl;have e2:=hf { block:=b.block,off:=cur.size } rfl;have e3:(match some (te,cur.size) with | some (_,0)=>true | _=>false)=false:=by
  cases h:cur.size with
  | zero=>exact absurd h hc
  | succ n=>rfl
 have e4:(match some (ta,ca'.size) with | some (_,0)=>true | _=>false)=false:=by
  cases h:ca'.size with
  | zero=>exact absurd h ha0
  | succ n=>rfl
 cases hfa:w.frozen? a <;> cases hfe:w.frozen? { block:=a.block,off:=ca'.size } <;>
  simp [run_underlying ht,hz,h0,hnb,hnb',frozen,noView,viewAt,mayBeOne,stringish,shape,Sem.run,hva,hsb,e1,e2,hfa,hfe,hc,e4,ha0]
theorem jT {P:Program} (w:World) (t ty el k:Nat) (hu:P.underlying t=some (.slice el)) (hz:∀ w,(Go.sizeOf el).run P w=.ok k w) (b o dLen dCap:Nat) (a:Addr) (sLen sCap:Nat) (cs:List Value) {cur:Array Value} {te:TypeId} (hb:w.heap[b]?=some (.cells cur te (0,0)))
  (hn:cs.length=Nat.min sLen dLen*k) (hsrc:∀ j v,cs[j]?=some v→w.cell? (a.add j)=some v) (hfit:o+cs.length≤cur.size) (h1:∀ v∈cs,v.oneCell'=true) :
  (Builtin.copy_ #[t,t] ty #[.slice (some ⟨b,o,none⟩) dLen dCap,.slice (some a) sLen sCap]).run P w=.ok (goInt (Nat.min sLen dLen)) (w.setRow b (cur.toList.take o++cs++cur.toList.drop (o+cs.length)).toArray):=by
 have hl:=run_loadCells_list (P:=P) (w:=w) a cs hsrc;have hst:=run_storeCells_at P b o te cs 0 cur w hb (by simpa using hfit) h1;rw [hn] at hl;simp [Builtin.copy_,run_underlying hu,Builtin.lenOf,Builtin.firstCells,hz,hl];simp at hst;rw [hst];rfl
theorem jI {w:World} {b:Nat} {cur:Array Value} {t:TypeId} {z:Nat×Nat} (h:w.heap[b]?=some (.cells cur t z)) {j:Nat} {v:Value} (hv:cur.toList[j]?=some v):w.cell? ⟨b,j,none⟩=some v:=by
 rw [Array.getElem?_toList] at hv;simp [World.cell?,h,hv]
theorem nG (b o i:Nat):(⟨b,o,none⟩:Addr).add i=⟨b,o+i,none⟩:=cP (ad:=⟨b,o,none⟩) rfl i
theorem oV {w w':World} {b:Nat} (h:∀ k,k < w.heap.size→k≠b→w'.heap[k]?=w.heap[k]?) (ho:w'.os=w.os) (ht:w'.tape=w.tape) (hu:w'.output=w.output) (hs:w.heap.size≤w'.heap.size) (hd:w.drawn≤w'.drawn):kJ w w' (some b) :=
 ⟨⟨ho,ht,hu,hs,fun k hk hne=>h k hk (fun e=>hne (by rw [e]))⟩,hd⟩
theorem hQ (w:World) (b:Nat) (X:Array Value):(w.setRow b X).heap.size=w.heap.size:=by simp [World.setRow]
end Go.Proofs
namespace Go.Proofs
open Go Go.Shelf Go.RowKit Pk
set_option maxHeartbeats 4000000 in
set_option maxRecDepth 100000 in
theorem Tryz.ins_endM {w:World} {ad:Option Addr} {cap nn mv:Nat} (hm:1≤mv) {cs:List Value} {q:Addr} {vcap:Nat} {vs:List Value} (hr:(aN.row ad cap 3 1 nn cs).holds w) (hb:nn+mv≤1073741824) (hv:aK (hp w) q vs) (hvl:vs.length=mv) (h1:vs.all (·.oneCell')=true) :
  Calls Tryz.prog 127 #[.slice ad nn cap,.int .i64 nn,.slice (some q) mv vcap] w fun e w'=>∃ ad' cap',e=.returned (.slice ad' (nn+mv) cap')∧(aN.row ad' cap' 3 1 (nn+mv) (cs++vs)).holds w'∧kJ w w' (ad.map (·.block))∧∀ b,ad'.map (·.block)=some b→ad.map (·.block)=some b∨w.heap.size≤b:=by
 obtain ⟨ad',cap',w',hrun,hh,hg,hf⟩:=mN (P:=Tryz.prog) 36 T12.E36 hr (sad:=some q) (m:=mv) (c:=vcap) (news:=vs) ⟨by omega,h1,.inr ⟨q,rfl,hv⟩⟩ (by unfold maxLen;omega) (by omega);have hd:=oC _ hrun;have hcap:=(jL hr).2;refine Calls.mono (R:=fun e w''=>e=.returned (.slice ad' (nn+mv) cap')∧w''=w') ?_ fun e w'' hw=>by
  obtain ⟨rfl,rfl⟩:=hw;exact ⟨ad',cap',rfl,hh,⟨hg,hd⟩,hf⟩
 clear hf hh hg hd hr hv h1;by_cases hc:cap=nn
 ·subst hc
  go_enter Tryz.func127,Tryz.ntmps127
  go_wp2_with (at_builtin;refine Lib.wpList_append_run _ rfl _ _ _ _ rfl _ _ rfl rfl _ _ hrun ?_)
  go_ret
  exact ⟨rfl,rfl⟩
 go_enter Tryz.func127,Tryz.ntmps127
 go_wp2_with (at_builtin;refine Lib.wpList_append_run _ rfl _ _ _ _ rfl _ _ rfl rfl _ _ hrun ?_)
 go_ret
 exact ⟨rfl,rfl⟩
set_option maxHeartbeats 4000000 in
set_option maxRecDepth 100000 in
theorem Tryz.ins_roomM {w:World} {b cap nn j mv:Nat} (hm:1≤mv) {cs:List Value} {q:Addr} {vcap:Nat} {vs:List Value} {cur:Array Value} (hw:w.heap[b]?=some (.cells cur 3 (0,0))) (hcs:cur.size=cap) (ht:cur.toList.take (nn)=cs) (hcm:cap≤9223372036854775807) (hj:j < nn) (hroom:nn+mv≤cap) (hb:nn+mv≤1073741824) (hv:aK (hp w) q vs) (hvl:vs.length=mv) (h1:vs.all (·.oneCell')=true) (h2:cs.all (·.oneCell')=true) (hne:b≠q.block) :
  Calls Tryz.prog 127 #[.slice (some ⟨b,0,none⟩) nn cap,.int .i64 j,.slice (some q) mv vcap] w fun e w'=>e=.returned (.slice (some ⟨b,0,none⟩) (nn+mv) cap)∧w'=(w.drew.setRow b (cur.toList.take ((j+mv))++cs.drop (j)++cur.toList.drop ((nn+mv))).toArray).setRow b (cs.take (j)++vs++cs.drop (j)++cur.toList.drop ((nn+mv))).toArray:=by
 obtain ⟨c0,t0,z0,hq0,hq1⟩:=rC hv (by omega);have hcl:cs.length=nn:=by rw [← ht,List.length_take,Array.length_toList,hcs];omega
 have hcur:cur.toList=cs++cur.toList.drop (nn):=by rw [← ht,List.take_append_drop]
 have hov:∀ lb cb,(callFunc 174 #[.slice (some q) mv vcap,.slice (some ⟨b,(j+mv),none⟩) lb cb]).run Tryz.prog w=.ok (.value (.bool false)) w:=fun lb cb=>by
  rw [run_callFunc_extern Tryz.func174 (by kernel_rfl) (by kernel_rfl) (by kernel_rfl) (e:=Extern.SlicesOverlaps.overlaps #[36,36] #[4]) (by kernel_rfl),
   pU w 36 4 3 Tryz.underlying36 1 Tryz.sizeOf3 q ⟨b,(j+mv),none⟩ mv vcap lb cb (fun e=>hne e.symm) hq0 hq1 hw (by omega)]
  rfl
 have hcp1:∀ ty dc sc,(Builtin.copy_ #[36,36] ty #[.slice (some ⟨b,(j+mv),none⟩) (nn - j) dc,.slice (some ⟨b,j,none⟩) (nn+mv - j) sc]).run Tryz.prog w.drew=.ok (goInt (Nat.min (nn+mv - j) (nn - j))) (w.drew.setRow b (cur.toList.take ((j+mv))++cs.drop (j)++cur.toList.drop ((nn+mv))).toArray):=fun ty dc sc=>by
  have hl:(cs.drop (j)).length=Nat.min (nn+mv - j) (nn - j):=by
   rw [List.length_drop,hcl,show Nat.min (nn+mv - j) (nn - j)=nn - j by simp only [Nat.min_def];split <;> omega]
  have:=jT (P:=Tryz.prog) w.drew 36 ty 3 1 Tryz.underlying36 Tryz.sizeOf3 b ((j+mv)) (nn - j) dc ⟨b,j,none⟩ (nn+mv - j) sc (cs.drop (j)) (cur:=cur) hw (by rw [hl,Nat.mul_one]) (fun i v hi=>by
   rw [nG];refine jI (w:=w.drew) hw ?_;rw [hcur,List.getElem?_append_left (by rw [List.getElem?_drop] at hi;exact (List.getElem?_eq_some_iff.1 hi).1)]
   rwa [List.getElem?_drop] at hi) (by rw [List.length_drop,hcl,hcs];omega) (fun v hv=>List.all_eq_true.1 h2 v (List.mem_of_mem_drop hv))
  rw [this,show (j+mv)+(cs.drop (j)).length=(nn+mv) by rw [List.length_drop,hcl];omega]
 obtain ⟨X1,hX1⟩:∃ X1:List Value,X1=cur.toList.take ((j+mv))++cs.drop (j)++cur.toList.drop ((nn+mv)):=⟨_,rfl⟩;rw [← hX1] at hcp1 ⊢;obtain ⟨W1,hW1⟩:∃ W1,W1=w.drew.setRow b X1.toArray:=⟨_,rfl⟩;rw [← hW1] at hcp1 ⊢;have hw1:W1.heap[b]?=some (.cells X1.toArray 3 (0,0)):=by rw [hW1];exact setRow_heap w.drew b cur X1.toArray 3 (0,0) hw
 have hX1l:X1.length=cap:=by rw [hX1];simp only [List.length_append,List.length_take,List.length_drop,Array.length_toList,hcs,hcl];omega
 have hlen1:(cur.toList.take ((j+mv))).length=(j+mv):=by rw [List.length_take,Array.length_toList,hcs];omega
 have hcp2:∀ ty dc,(Builtin.copy_ #[36,36] ty #[.slice (some ⟨b,j,none⟩) (nn+mv - j) dc,.slice (some q) mv vcap]).run Tryz.prog W1=.ok (goInt (Nat.min mv (nn+mv - j))) (W1.setRow b (cs.take (j)++vs++cs.drop (j)++cur.toList.drop ((nn+mv))).toArray):=fun ty dc=>by
  have hm:Nat.min mv (nn+mv - j)=mv:=by simp only [Nat.min_def];split <;> omega
  have:=jT (P:=Tryz.prog) W1 36 ty 3 1 Tryz.underlying36 Tryz.sizeOf3 b (j) (nn+mv - j) dc q mv vcap vs (cur:=X1.toArray) hw1 (by rw [hvl,hm,Nat.mul_one]) (fun i v hi=>by
   have h0:=hv.cell hi;have hsp:(q.add i).block=q.block:=by unfold Addr.add;split <;> rfl
   rw [hW1];unfold World.cell? at h0 ⊢;rw [show (w.drew.setRow b X1.toArray).heap[(q.add i).block]?=w.heap[(q.add i).block]? from setRow_other w.drew b _ _ (by rw [hsp];exact fun e=>hne e.symm)]
   exact h0) (by rw [hvl,List.size_toArray,hX1l];omega) (fun v hv=>List.all_eq_true.1 h1 v hv)
  rw [this,hvl];congr 3;have e1:X1.take (j)=cs.take (j):=by
   rw [hX1,List.append_assoc,List.take_append_of_le_length (by rw [hlen1];omega),List.take_take,show min (j) ((j+mv))=j by omega,← ht,List.take_take,show min (j) (nn)=j by omega]
  have e2:X1.drop (j+mv)=cs.drop (j)++cur.toList.drop ((nn+mv)):=by
   rw [hX1,show j+mv=(j+mv) by omega,List.append_assoc,List.drop_append_of_le_length (by rw [hlen1];omega),List.drop_of_length_le (by rw [hlen1];omega),List.nil_append]
  simp only [List.toList_toArray,e1,e2,List.append_assoc]
 have hz2:¬((j:Int)=(nn:Int)):=by omega
 have hw2:IntKind.i64.wrap ((j:Int)+(mv:Int))=(j:Int)+(mv:Int):=by rw [IntKind.wrap_i64];omega
 have hw3:IntKind.i64.wrap ((nn:Int)+(mv:Int))=(nn:Int)+(mv:Int):=by rw [IntKind.wrap_i64];omega
 have htn:((j:Int)+(mv:Int)).toNat=j+mv:=by omega
 have htn2:((nn:Int)+(mv:Int)).toNat=nn+mv:=by omega
 have hb1:(0:Int)≤(j:Int)+(mv:Int):=by omega
 have hb2:¬(cap=j+mv):=by omega
 have hb4:¬(cap=j):=by omega
 have hb3:(j:Int)≤(nn:Int)+(mv:Int):=by omega
 have hin:j≤nn:=by omega
 have hro:¬((cap:Int) < (nn:Int)+(mv:Int)):=by omega
 clear hX1 hcur ht;have mixed:=T12.mixed;clear hw1;subst hW1
 go_enter Tryz.func127,Tryz.ntmps127
 go_wp2_with (simp only [hov])
 go_region_law_o (refine step_copy_runI rfl _ _ 36 36 rfl (.slice (some ⟨b,(j+mv),none⟩) (nn - j) (cap - (j+mv))) (.slice (some ⟨b,j,none⟩) (nn+mv - j) (cap - j)) (by first | (simp [Act.eval,Act.put];done) | (simp [Act.eval,Act.put];omega)) (by first | (simp [Act.eval,Act.put];done) | (simp [Act.eval,Act.put];omega)) (hcp1 3 (cap - (j+mv)) (cap - j)) ?_)
 go_wp2_with (at_builtin;refine wpList_copy_runI _ rfl _ _ 36 36 rfl _ _ rfl rfl (hcp2 _ _) ?_)
 go_ret
 exact ⟨rfl,by simp only [List.append_assoc]⟩
set_option maxHeartbeats 4000000 in
set_option maxRecDepth 100000 in
theorem Tryz.ins_growM {w:World} {b cap nn j mv:Nat} (hm:1≤mv) {cs:List Value} {q:Addr} {vcap:Nat} {vs:List Value} {cur:Array Value} (hw:w.heap[b]?=some (.cells cur 3 (0,0))) (hcs:cur.size=cap) (ht:cur.toList.take (nn)=cs) (hnc:nn≤cap) (hj:j < nn) (hroom:cap < nn+mv) (hb:nn+mv≤1073741824) (hv:aK (hp w) q vs) (hvl:vs.length=mv) (h1:vs.all (·.oneCell')=true) (h2:cs.all (·.oneCell')=true) :
  Calls Tryz.prog 127 #[.slice (some ⟨b,0,none⟩) nn cap,.int .i64 j,.slice (some q) mv vcap] w fun e w'=>∃ (G:Nat) (X:List Value),nn+mv≤G∧G≤maxLen∧X.length=G∧X.take ((nn+mv))=cs.take (j)++vs++cs.drop (j)∧e=.returned (.slice (some ⟨w.heap.size,0,none⟩) (nn+mv) G)∧∃ Y Z m,w'=(((w.alloc (.cells Y 3)).drewN m).setRow w.heap.size Z).setRow w.heap.size X.toArray:=by
 obtain ⟨i0,v0,hi0,hz0,hzv,hzs,hzb⟩:=T12.E36.info;have hzc:v0.cells.size=1:=by rw [fL,hzv];rfl
 have hcl:cs.length=nn:=by rw [← ht,List.length_take,Array.length_toList,hcs];omega
 have hcur:cur.toList=cs++cur.toList.drop (nn):=by rw [← ht,List.take_append_drop]
 have hold:(Builtin.firstCells i0.size j (.slice (some ⟨b,0,none⟩) j cap)).run Tryz.prog w.drew=.ok (cs.take (j)).toArray w.drew:=by
  rw [hzs];refine run_firstCells_some (w:=w.drew) 1 j ⟨b,0,none⟩ j cap (cs.take (j)) (by rw [List.length_take,hcl];omega) (fun i v hi=>?_);rw [nG,Nat.zero_add];refine jI (w:=w.drew) hw ?_;rw [List.getElem?_take] at hi
  split at hi
  ·rw [hcur,List.getElem?_append_left (by rw [hcl];omega)];exact hi
  cases hi
 have hik:j+(nn+mv - j)=nn+mv:=by omega
 have hkk:(nn:Int)+(mv:Int) - (j:Int)=((nn+mv - j:Nat):Int):=by omega
 obtain ⟨G,hG⟩:∃ G,G=grownCap w (nn+mv) cap 3:=⟨_,rfl⟩;have hGn:nn+mv≤G:=by rw [hG];exact grownCap_ge w _ _ _
 have hGm:G≤maxLen:=by rw [hG];exact grownCap_le_maxLen w (nn+mv) cap 3 (by unfold maxLen;omega)
 obtain ⟨R,hR⟩:∃ R:Array Value,R=(cs.take (j)).toArray++Builtin.zeroCells v0.cells (nn+mv - j)++Builtin.zeroCells v0.cells (G - (nn+mv)):=⟨_,rfl⟩;have hRs:R.size=G:=by
  rw [hR];simp only [Array.size_append,List.size_toArray,List.length_take,hcl,Builtin.zeroCells,Array.size_map,Array.size_range,hzc];omega
 have hRt:R.toList.take (j)=cs.take (j):=by
  rw [hR,Array.toList_append,Array.toList_append,List.append_assoc,List.take_append_of_le_length (by simp [hcl];omega)];simp only [List.toList_toArray,List.take_take,Nat.min_self]
 have hrz:∀ ty,(Builtin.append_ #[36,3] ty #[.slice (some ⟨b,0,none⟩) j cap,.int .i64 ((nn:Int)+(mv:Int) - (j:Int))]).run Tryz.prog w=.ok (.slice (some ⟨w.heap.size,0,none⟩) (nn+mv) G) (w.drew.alloc (.cells R 3)):=fun ty=>by
  have h:=Lib.run_append_grow_zeros w 36 3 ty 3 i0 _ .i64 .i64 Tryz.underlying36 Tryz.underlying3 hi0 hz0 (some ⟨b,0,none⟩) j cap (cs.take (j)) hold (nn+mv - j) (by omega) (by rw [hzs];decide) (by omega) (by omega) (by rw [hzb];omega) (by rw [hzb,hik];exact growslice_fits hroom (by omega));rw [hik] at h;rw [hkk,hR,hG];exact h
 have hN:(w.drew.alloc (.cells R 3)).heap[w.heap.size]?=some (.cells R 3 (0,0)):=dM w.drew _;have hbw:b < w.heap.size:=(Array.getElem?_eq_some_iff.1 hw).1;obtain ⟨X1,hX1⟩:∃ X1:List Value,X1=cs.take (j)++vs++R.toList.drop ((j+mv)):=⟨_,rfl⟩;obtain ⟨X2,hX2⟩:∃ X2:List Value,X2=cs.take (j)++vs++cs.drop (j)++R.toList.drop ((nn+mv)):=⟨_,rfl⟩;have hct:(cs.take (j)).length=j:=by rw [List.length_take,hcl];omega
 have hX1l:X1.length=G:=by rw [hX1];simp only [List.length_append,hct,hvl,List.length_drop,Array.length_toList,hRs];omega
 have hX2l:X2.length=G:=by rw [hX2];simp only [List.length_append,hct,hvl,List.length_drop,Array.length_toList,hRs,hcl];omega
 have hqn:∀ i,(q.add i).block=q.block:=fun i=>by unfold Addr.add;split <;> rfl
 obtain ⟨c0,t0,z0,hq0,_⟩:=rC hv (by omega);have hqw:q.block < w.heap.size:=(Array.getElem?_eq_some_iff.1 hq0).1;have hcpA:∀ (m:Nat) ty dc,(Builtin.copy_ #[36,36] ty #[.slice (some ⟨w.heap.size,j,none⟩) (nn+mv - j) dc,.slice (some q) mv vcap]).run Tryz.prog ((w.alloc (.cells R 3)).drewN m)=.ok (goInt (Nat.min mv (nn+mv - j))) (((w.alloc (.cells R 3)).drewN m).setRow w.heap.size X1.toArray):=fun m ty dc=>by
  have hm:Nat.min mv (nn+mv - j)=mv:=by simp only [Nat.min_def];split <;> omega
  have:=jT (P:=Tryz.prog) ((w.alloc (.cells R 3)).drewN m) 36 ty 3 1 Tryz.underlying36 Tryz.sizeOf3 w.heap.size (j) (nn+mv - j) dc q mv vcap vs (cur:=R) (te:=3) (dM w _) (by rw [hvl,hm,Nat.mul_one]) (fun i v hi=>by
   have h0:=hv.cell hi;unfold World.cell? at h0 ⊢;rw [show ((w.alloc (.cells R 3)).drewN m).heap[(q.add i).block]?=w.heap[(q.add i).block]? from (fI.alloc True w (.cells R 3)).keep _ (by rw [hqn];exact hqw)]
   exact h0) (by rw [hvl,hRs];omega) (fun v hv=>List.all_eq_true.1 h1 v hv)
  rw [this,hvl,hRt,hX1,show j+mv=(j+mv) by omega]
 have hcpB:∀ (m:Nat) ty dc sc,(Builtin.copy_ #[36,36] ty #[.slice (some ⟨w.heap.size,(j+mv),none⟩) (nn - j) dc,.slice (some ⟨b,j,none⟩) (nn - j) sc]).run Tryz.prog (((w.alloc (.cells R 3)).drewN m).setRow w.heap.size X1.toArray)=.ok (goInt (Nat.min (nn - j) (nn - j))) ((((w.alloc (.cells R 3)).drewN m).setRow w.heap.size X1.toArray).setRow w.heap.size X2.toArray):=fun m ty dc sc=>by
  have hm:Nat.min (nn - j) (nn - j)=nn - j:=Nat.min_self _;have hl:(cs.drop (j)).length=Nat.min (nn - j) (nn - j):=by rw [hm,List.length_drop,hcl]
  have:=jT (P:=Tryz.prog) (((w.alloc (.cells R 3)).drewN m).setRow w.heap.size X1.toArray) 36 ty 3 1 Tryz.underlying36 Tryz.sizeOf3 w.heap.size ((j+mv)) (nn - j) dc ⟨b,j,none⟩ (nn - j) sc (cs.drop (j)) (cur:=X1.toArray) (te:=3) (setRow_heap _ _ R X1.toArray 3 (0,0) (dM w _)) (by rw [hl,Nat.mul_one]) (fun i v hi=>by
   rw [nG];have hcell:w.cell? ⟨b,j+i,none⟩=some v:=by
    refine jI hw ?_;rw [hcur,List.getElem?_append_left (by rw [List.getElem?_drop] at hi;exact (List.getElem?_eq_some_iff.1 hi).1)]
    rwa [List.getElem?_drop] at hi
   unfold World.cell? at hcell ⊢;rw [show (((w.alloc (.cells R 3)).drewN m).setRow w.heap.size X1.toArray).heap[(⟨b,j+i,none⟩:Addr).block]?=w.heap[(⟨b,j+i,none⟩:Addr).block]? from (setRow_other _ _ _ _ (by show b≠w.heap.size;omega)).trans ((fI.alloc True w (.cells R 3)).keep _ hbw)]
   exact hcell) (by rw [List.length_drop,hcl,List.size_toArray,hX1l];omega) (fun v hv=>List.all_eq_true.1 h2 v (List.mem_of_mem_drop hv))
  rw [this,show (j+mv)+(cs.drop (j)).length=(nn+mv) by rw [List.length_drop,hcl];omega];congr 3;have e1:X1.take ((j+mv))=cs.take (j)++vs:=by
   rw [hX1,List.take_append_of_le_length (by rw [List.length_append,hct,hvl];omega),List.take_of_length_le (by rw [List.length_append,hct,hvl];omega)]
  have e2:X1.drop ((nn+mv))=R.toList.drop ((nn+mv)):=by
   rw [hX1,List.drop_append,List.drop_of_length_le (by rw [List.length_append,hct,hvl];omega),List.nil_append,List.drop_drop,List.length_append,hct,hvl,show (j+mv)+((nn+mv) - (j+mv))=(nn+mv) by omega]
  simp only [List.toList_toArray,e1,e2,hX2,List.append_assoc]
 have hX2t:X2.take ((nn+mv))=cs.take (j)++vs++cs.drop (j):=by
  rw [hX2,List.take_append_of_le_length (by simp only [List.length_append,hct,hvl,List.length_drop,hcl];omega),List.take_of_length_le (by simp only [List.length_append,hct,hvl,List.length_drop,hcl];omega)]
 refine Calls.mono (R:=fun e w''=>e=.returned (.slice (some ⟨w.heap.size,0,none⟩) (nn+mv) G)∧∃ m,w''=(((w.alloc (.cells R 3)).drewN m).setRow w.heap.size X1.toArray).setRow w.heap.size X2.toArray) ?_ fun e w'' hw=>by
  obtain ⟨rfl,m,rfl⟩:=hw;exact ⟨G,X2,hGn,hGm,hX2l,hX2t,rfl,R,X1.toArray,m,rfl⟩
 have mixed:=T12.mixed;have hz2:¬((j:Int)=(nn:Int)):=by omega
 have hw2:IntKind.i64.wrap ((j:Int)+(mv:Int))=(j:Int)+(mv:Int):=by rw [IntKind.wrap_i64];omega
 have hw3:IntKind.i64.wrap ((nn:Int)+(mv:Int))=(nn:Int)+(mv:Int):=by rw [IntKind.wrap_i64];omega
 have htn:((j:Int)+(mv:Int)).toNat=j+mv:=by omega
 have hb1:(0:Int)≤(j:Int)+(mv:Int):=by omega
 have hro:(cap:Int) < (nn:Int)+(mv:Int):=by omega
 have hGi:¬(G=j):=by omega
 have hGim:¬(G=j+mv):=by omega
 have hci:¬(cap=j):=by omega
 have hin:j≤nn:=by omega
 have hb3:(j:Int)≤(nn:Int):=by omega
 have hcpA0:∀ ty dc,(Builtin.copy_ #[36,36] ty #[.slice (some ⟨w.heap.size,j,none⟩) (nn+mv - j) dc,.slice (some q) mv vcap]).run Tryz.prog (w.drew.alloc (.cells R 3))=.ok (goInt (Nat.min mv (nn+mv - j))) ((w.drew.alloc (.cells R 3)).setRow w.heap.size X1.toArray):=fun ty dc=>hcpA 1 ty dc;have hcpA1:∀ ty dc,(Builtin.copy_ #[36,36] ty #[.slice (some ⟨w.heap.size,j,none⟩) (nn+mv - j) dc,.slice (some q) mv vcap]).run Tryz.prog ((w.alloc (.cells R 3)).drew)=.ok (goInt (Nat.min mv (nn+mv - j))) (((w.alloc (.cells R 3)).drew).setRow w.heap.size X1.toArray):=fun ty dc=>hcpA 1 ty dc;have hcpB0:∀ ty dc sc,(Builtin.copy_ #[36,36] ty #[.slice (some ⟨w.heap.size,(j+mv),none⟩) (nn - j) dc,.slice (some ⟨b,j,none⟩) (nn - j) sc]).run Tryz.prog (((w.alloc (.cells R 3)).drew.setRow w.heap.size X1.toArray).drew)=.ok (goInt (Nat.min (nn - j) (nn - j))) ((((w.alloc (.cells R 3)).drew.setRow w.heap.size X1.toArray).drew).setRow w.heap.size X2.toArray):=fun ty dc sc=>hcpB 2 ty dc sc;clear hG hcpA hcpB hR hold hkk hik hcur hRt hX1 hX2 hX2t hN hq0 hv ht
 go_enter Tryz.func127,Tryz.ntmps127
 go_wp2_with (first
  | (at_builtin;refine Lib.wpList_append_run _ rfl _ _ _ _ rfl _ _ rfl rfl _ _ (hrz _) ?_)
  | (at_builtin;refine wpList_copy_runI _ rfl _ _ 36 36 rfl _ _ rfl rfl (hcpA1 _ _) ?_)
  | (at_builtin;refine wpList_copy_runI _ rfl _ _ 36 36 rfl _ _ rfl rfl (hcpA0 _ _) ?_))
 go_region_law_o (refine step_copy_runI rfl _ _ 36 36 rfl (.slice (some ⟨w.heap.size,(j+mv),none⟩) (nn - j) (G - (j+mv))) (.slice (some ⟨b,j,none⟩) (nn - j) (cap - j)) (by first | (simp [Act.eval,Act.put];done) | (simp [Act.eval,Act.put];omega)) (by first | (simp [Act.eval,Act.put];done) | (simp [Act.eval,Act.put];omega)) (hcpB0 3 (G - (j+mv)) (cap - j)) ?_)
 go_wp2
 go_ret
 exact ⟨rfl,2,rfl⟩
set_option maxHeartbeats 4000000 in
set_option maxRecDepth 100000 in
theorem Tryz.ins_none {w:World} {ad vad:Option Addr} {cap nn j vcap:Nat} (hj:j≤nn) (hc:nn≤cap) (hcm:cap≤9223372036854775807):Calls Tryz.prog 127 #[.slice ad nn cap,.int .i64 j,.slice vad 0 vcap] w fun e w'=>e=.returned (.slice ad nn cap)∧∃ n,w'=w.drewN n:=by
 have hb3:(j:Int)≤(nn:Int):=by omega
 by_cases hcj:cap=j
 ·subst hcj
  go_enter Tryz.func127,Tryz.ntmps127
  go_wp2
  go_ret
  exact ⟨rfl,0,rfl⟩
 go_enter Tryz.func127,Tryz.ntmps127
 go_wp2
 go_ret
 exact ⟨rfl,0,rfl⟩
theorem Tryz.insM127:MB Tryz.prog 127 3 1:=by
 intro w ad cap nn cs j vad vcap mv vs hr hj hb hvl hsrc h2 hne hvc;have hcl:=(jL hr).1;have hnc0:=(jL hr).2;rw [Nat.mul_one] at hvl;simp only [Nat.mul_one];rcases Nat.eq_zero_or_pos mv with h0 | hm
 ·subst h0;have hv0:vs=[]:=List.eq_nil_of_length_eq_zero (by omega);subst hv0;have hrow:nn≤cap∧cap≤9223372036854775807:=by
   rcases hr.2 with ⟨e0,h0⟩ | ⟨b,cap',cur,he,hbb,hw,hnc,hcm,hcs,ht⟩
   ·cases e0;omega
   cases he;unfold maxLen at hcm;omega
  refine (Tryz.ins_none hj hrow.1 hrow.2).mono fun e w' h=>?_;obtain ⟨rfl,n,rfl⟩:=h;refine ⟨ad,cap,rfl,?_,?_,fun b hb'=>.inl hb'⟩
  ·rw [List.append_nil,List.take_append_drop];exact hr
  exact ⟨⟨rfl,rfl,rfl,Nat.le_refl _,fun k hk hne=>rfl⟩,Nat.le_add_right _ _⟩
 rcases hsrc with h0 | ⟨_,h1,⟨_,h0,_⟩ | ⟨q,rfl,hv⟩⟩
 ·omega
 ·omega
 by_cases hjn:j=nn
 ·subst hjn;refine (Tryz.ins_endM hm hr hb hv hvl h1).mono fun e w' h=>?_;rw [List.take_of_length_le (by omega),List.drop_of_length_le (by omega),List.append_nil];exact h
 have hlt:j < nn:=by omega
 rcases hr.2 with ⟨_,h0⟩ | ⟨b,cap',cur,he,hbb,hw,hnc,hcm,hcs,ht⟩
 ·omega
 simp only [Value.slice.injEq] at he;obtain ⟨rfl,_,rfl⟩:=he;rw [Nat.mul_one] at hcs ht;have hbw:b < w.heap.size:=(Array.getElem?_eq_some_iff.1 hw).1;have h3:cap≤9223372036854775807:=by unfold maxLen at hcm;omega
 have hln:(cs.take (j)++vs++cs.drop (j)).length=(nn+mv):=by
  simp only [List.length_append,List.length_take,List.length_drop,hvl,hcl];omega
 by_cases hroom:nn+mv≤cap
 ·refine (Tryz.ins_roomM hm hw hcs ht h3 hlt hroom hb hv hvl h1 h2 (hne q rfl hm b rfl)).mono fun e w' h=>?_;obtain ⟨rfl,rfl⟩:=h;refine ⟨_,_,rfl,?_,?_,fun b' hb'=>.inl hb'⟩
  ·refine ⟨by rw [hln,Nat.mul_one],.inr ⟨b,cap,_,rfl,hbb,setRow_heap _ b _ _ 3 (0,0) (setRow_heap w.drew b cur _ 3 (0,0) hw),hroom,hcm,?_,?_⟩⟩
   ·have:(cur.toList.drop ((nn+mv))).length=cap - (nn+mv):=by rw [List.length_drop,Array.length_toList,hcs]
    rw [List.size_toArray,List.length_append,hln,this];omega
   rw [Nat.mul_one,List.toList_toArray,List.take_append_of_le_length (by rw [hln];exact Nat.le_refl _),List.take_of_length_le (by rw [hln];exact Nat.le_refl _)]
  exact oV (fun k hk hkb=>(setRow_other _ _ _ _ hkb).trans (setRow_other _ _ _ _ hkb)) rfl rfl rfl (by rw [hQ,hQ];exact Nat.le_refl _) (Nat.le_succ _)
 refine (Tryz.ins_growM hm hw hcs ht hnc hlt (by omega) hb hv hvl h1 h2).mono fun e w' h=>?_;obtain ⟨G,X,hG1,hG2,hXl,hXt,rfl,Y,Z,m,rfl⟩:=h;refine ⟨_,_,rfl,?_,?_,fun b' hb'=>.inr (by simp at hb';omega)⟩
 ·refine ⟨by rw [hln,Nat.mul_one],.inr ⟨w.heap.size,G,X.toArray,rfl,Nat.zero_le _,setRow_heap _ _ Z _ 3 (0,0) (setRow_heap _ _ Y _ 3 (0,0) (dM w _)),hG1,hG2,by rw [List.size_toArray,hXl,Nat.mul_one],by rw [List.toList_toArray,Nat.mul_one];exact hXt⟩⟩
 refine oV (fun k hk hkb=>?_) rfl rfl rfl ?_ ?_
 ·have hkn:k≠w.heap.size:=by omega
  exact (setRow_other _ _ _ _ hkn).trans ((setRow_other _ _ _ _ hkn).trans ((fI.alloc True w (.cells Y 3)).keep k hk))
 ·rw [hQ,hQ];exact (fI.alloc True w (.cells Y 3)).size
 exact Nat.le_add_right _ _
end Go.Proofs
set_option maxHeartbeats 4000000
namespace T12
open Go Go.Proofs Pk Go.RowKit
section
variable {P:Program} {r:Option Nat} {n:aL} {p:List PanicEntry→aL} {a:Act} {w:World} {D:List Deferred} {k:Nat} {L:bT} {ops:Array Oper} {rest:List Oper} {d:Nat} {ty:TypeId} {pos:String} {af:Array Edge}
theorem FR {y:Operand} {t u te:TypeId} {pe:Value} {ms:_} (hA:aR D k a L) (hu':P.underlying t=some (.interface ms)) (hd:Nat.blt d k=true) (hy:ev L y=some (.iface te pe)) (h:∀ a,aR D k a ((d,.bool false)::L)→O P r ops n p rest a w):O P r ops n p (⟨some d,.binOp .eql t y (.const .nilIface) u,ty,pos,af,none⟩::rest) a w:=by
 have hu:P.underlying t=some (.interface (P.methodsAt t)):=by rw [hu'];simp [Program.methodsAt,hu']
 refine cG rfl (fun _ h=>by cases h) (w':=w) (v:=.bool false) ?_ (h _ (hA.put hd _));simp [execOp,hA.eval hy,show a.eval (.const .nilIface)=.nilIface from rfl,eqGuard,run_eql_held_nil w t _ _ hu,Result.andThen]
theorem FS {y:Operand} {t u:TypeId} {ms:_} (hA:aR D k a L) (hu':P.underlying t=some (.interface ms)) (hd:Nat.blt d k=true) (hy:ev L y=some .nilIface) (h:∀ a,aR D k a ((d,.bool true)::L)→O P r ops n p rest a w):O P r ops n p (⟨some d,.binOp .eql t y (.const .nilIface) u,ty,pos,af,none⟩::rest) a w:=by
 have hu:P.underlying t=some (.interface (P.methodsAt t)):=by rw [hu'];simp [Program.methodsAt,hu']
 refine cG rfl (fun _ h=>by cases h) (w':=w) (v:=.bool true) ?_ (h _ (hA.put hd _));simp only [execOp,hA.eval hy,show a.eval (.const .nilIface)=.nilIface from rfl];simp [eqGuard,run_eql_nil_nil w t hu,Result.andThen]
theorem FT {y:Operand} {xT t:TypeId} {v:Value} {ds:TypeDesc} (hA:aR D k a L) (hd:Nat.blt d k=true) (hu:P.underlying t=some ds) (hds:(match ds with | .interface _=>false | _=>true)=true) (hy:ev L y=some (.iface t v))
  (h:∀ a,aR D k a ((d,.tuple #[v,.bool true])::L)→O P r ops n p rest a w):O P r ops n p (⟨some d,.typeAssert y xT t true,ty,pos,af,none⟩::rest) a w :=
 cG rfl (fun _ h=>by cases h) (w':=w) (v:=.tuple #[v,.bool true]) (by
  simp only [execOp,Instr.typeAssert,hA.eval hy]
  cases ds <;> simp at hds <;> simp [run_underlying hu,Result.andThen]) (h _ (hA.put hd _))
end
theorem FU (q:Addr) (w:World):CallsD Tryz.prog 54 #[.pointer (some q)] .returning w fun e u' w'=>e=.returned (.tuple #[])∧u'=.returning∧w'=w:=by
 refine callsD_of_wpS Tryz.func54 rfl fun c₀ cs hu=>?_;apply wpS_seq;apply wpS_region;simp [wpOpsS,go_sem,recoverD,hu,Tryz.ntmps54,Exit.thenS];refine wpS_of_wp ?_;refine (wpIn_wide (n:=0)).1 (wpIn_mono (show Pk.W Tryz.prog none _ (fun a w'=>a.defers=[]∧w'=w) (fun _ _=>False) [] (fun _ _ _=>False) _ w from ?_) ?_)
 ·have hA:aR [] 12 { tmps:=#[.pointer (some q)]++((Array.replicate 11 undef).setIfInBounds 3 .nilIface),defers:=[] } [(0,.pointer (some q)),(4,.nilIface)]:=by
   refine ⟨rfl,by simp,fun i u h=>?_⟩;rcases i with _ | _ | _ | _ | _ | i
   ·exact h
   ·cases h
   ·cases h
   ·cases h
   ·exact h
   cases (show (none:Option Value)=some u from h)
  revert hA;generalize ({ tmps:=_,defers:=[] }:Act)=a;intro hA;refine kI (fF (cN (FS hA Tryz.underlying20 rfl rfl fun a hA=>eT (hU hA rfl (fun _=>?_) (fun h=>by cases h)))));exact cN (eI hA rfl rfl fun a hA=>eT ⟨hA.defers,rfl⟩)
 intro z a w' hz
 cases z with
 | normal =>
  obtain ⟨hd,rfl⟩:=hz;exact ⟨hd,.returning,by cases c₀;simp_all,.tuple #[],by simp [results,Tryz.results54],rfl,rfl,rfl⟩
 | ret=>exact hz.elim
 | panic ch=>exact hz.elim
 | exit id=>obtain ⟨K,hK,_⟩:=hz;simp [pY] at hK
 | goto l=>exact hz
 | outgrown=>exact hz.elim
theorem FV {M:Prop} {W w:World} {H:Hp} {Hs:List Hp} {b tE:Nat} {z0:Value} {u:Int} {σr:aG} (hS:St M W H Hs ((tE,bF b 25 [z0])::σr) w) (hT:Nat.beq 999999 tE=false) :
  CallsD Tryz.prog 54 #[.pointer (some ⟨b,0,none⟩)] (.panicking (zR (.iface 141 (.agg [.int .i64 u].toArray)))) w fun e u' w'=>(∃ v,e=.returned v)∧settle u'=.returning ∧
   ∃ b3 cs3,St M W H Hs ((999999,bF b3 141 cs3)::(tE,bF b 25 [.int .i64 u])::σr) w':=by
 refine callsD_of_wpS Tryz.func54 rfl fun c₀ cs hu=>?_;apply wpS_seq;apply wpS_region;obtain ⟨v,hv⟩:∃ v:Value,v=.agg [.int .i64 u].toArray:=⟨_,rfl⟩;rw [← hv] at hu;simp [wpOpsS,go_sem,recoverD,hu,Tryz.ntmps54,Exit.thenS,zR];refine wpS_of_wp ?_;refine (wpIn_wide (n:=0)).1 (wpIn_mono (show Pk.W Tryz.prog none _ (fun a w=>a.defers=[]∧∃ b3 cs3,St M W H Hs ((999999,bF b3 141 cs3)::(tE,bF b 25 [.int .i64 u])::σr) w) (fun _ _=>False) [] (fun _ _ _=>False) _ w from ?_) ?_)
 ·have hA:aR [] 12 { tmps:=#[.pointer (some ⟨b,0,none⟩)]++((Array.replicate 11 undef).setIfInBounds 3 (.iface 141 v)),defers:=[] } [(0,.pointer (some ⟨b,0,none⟩)),(4,.iface 141 v)]:=by
   refine ⟨rfl,by simp,fun i u h=>?_⟩;rcases i with _ | _ | _ | _ | _ | i
   ·exact h
   ·cases h
   ·cases h
   ·cases h
   ·exact h
   cases (show (none:Option Value)=some u from h)
  revert hA;generalize ({ tmps:=_,defers:=[] }:Act)=a;intro hA;subst hv;refine kI (fF (cN (FR hA Tryz.underlying20 rfl rfl fun a hA=>eT (hU hA rfl (fun h=>by cases h) (fun _=>?_)))));refine fF (cN (FT hA rfl Tryz.underlying141 rfl rfl fun a hA=>kM (vs:=[.agg [.int .i64 u].toArray,.bool true]) hA rfl rfl rfl fun a hA=>kM (vs:=[.agg [.int .i64 u].toArray,.bool true]) hA rfl rfl rfl fun a hA=>eT (hU hA rfl (fun _=>?_) (fun h=>by cases h))));refine fF (cN (pH 999999 hA rfl hS Tryz.zeroValue141 rfl fun b3 w hS hb a hA=>?_));refine kN 999999 (cs:=[.int .i64 u]) hA hS rfl rfl Tryz.sizeOf141 rfl rfl rfl rfl rfl fun w hS a hA=>eT ?_;refine cN (QL (cs:=[.int .i64 u]) (v:=.int .i64 u) hA rfl rfl rfl Tryz.underlying141 rfl Tryz.sizeOf25 Tryz.isAgg25 ?_ rfl fun a hA=>?_)
  ·exact sO (x:=⟨[],12,M,W,H⟩) 999999 rfl w hS
  refine kN tE (t0:=25) (l:=[z0]) (cs:=[.int .i64 u]) hA hS rfl rfl Tryz.sizeOf25 (by simp [cB,dD,hT]) rfl rfl rfl rfl fun w hS a hA=>eT ?_;refine ⟨hA.defers,b3,[.int .i64 u],?_⟩;simpa [dD,hT,iZ,bG] using hS
 intro z a w' hz
 cases z with
 | normal =>
  obtain ⟨hd,h⟩:=hz;subst hv;exact ⟨hd,.panicking [{ v:=.iface 141 (.agg [.int .i64 u].toArray),recovered:=true }],rfl,.tuple #[],by simp [results,Tryz.results54],⟨_,rfl⟩,rfl,h⟩
 | ret=>exact hz.elim
 | panic ch=>exact hz.elim
 | exit id=>obtain ⟨K,hK,_⟩:=hz;simp [pY] at hK
 | goto l=>exact hz
 | outgrown=>exact hz.elim
variable {R:Ending→World→Prop} {M:Prop} {W:World} {H:Hp} {Hs:List Hp} {σ:aG} {L:bT} {b:Nat}
theorem RT (h:TG ⟨[],56,M,W,H⟩ Hs σ L (Rt Tryz.prog Tryz.f42 R)):TG ⟨[DM 54 [.pointer (some ⟨b,0,none⟩)]],56,M,W,H⟩ Hs σ L (LY Tryz.prog Tryz.f42 R) :=
 rtF Tryz.call54 (fun w hS=>(FU ⟨b,0,none⟩ w).mono (by rintro e u w' ⟨rfl,rfl,rfl⟩;exact ⟨⟨_,rfl⟩,rfl,hS⟩)) h
theorem RU {tE:Nat} {u:Int} {z0:Value} {σr:aG} (hT:Nat.beq 999999 tE=false)
  (h:∀ b3 cs3,TG ⟨[],56,M,W,H⟩ Hs ((999999,bF b3 141 cs3)::(tE,bF b 25 [.int .i64 u])::σr) L (Rt Tryz.prog Tryz.f42 R)) :
  TG ⟨[DM 54 [.pointer (some ⟨b,0,none⟩)]],56,M,W,H⟩ Hs ((tE,bF b 25 [z0])::σr) L (LZ Tryz.prog Tryz.f42 R (zR (.iface 141 (.agg [.int .i64 u].toArray)))) :=
 pnF (σ':=fun b3 cs3=>(999999,bF b3 141 cs3)::(tE,bF b 25 [.int .i64 u])::σr) Tryz.call54 (fun w hS=>FV hS hT) h
section
open Go.Lib
theorem MI (w:World):PredAtRunes Tryz.prog 185 #[] (fun x=>x==32) w:=by
 intro W x hx hb;show Calls Tryz.prog 185 #[encR x] W _
 go_enter Tryz.func185,Tryz.ntmps185
 go_wp2
 first | go_ret | go_ret2
 exact ⟨by simp [encR];rw [Bool.eq_iff_iff];simp;omega,0,rfl⟩
noncomputable def FX (s:aC):Option (List aC):=bP (s.length≤1073741824) (some ((goFieldsP (fun x=>x==32) (bs s)).map (·.data.toList)))
theorem RV {M:Prop} {W:World} {H:Hp} (hH:H.le (hp W)) (hg:Gv M H) (s:aC) {r:List aC} (hr:FX s=some r):Calls Tryz.prog 184 [.string (bs s),.func (.func 185) [].toArray [].toArray].toArray W (dZ M H W (fun v K=>∃ (ad0:Option Addr) (cap0:Nat),v=.slice ad0 r.length cap0∧Sl (aE bV) 1 K ad0 cap0 r)):=by
 unfold FX at hr;obtain ⟨hl,hr⟩:=aB hr;obtain rfl:=Option.some.inj hr;refine (Any.strings_FieldsFunc_runes Tryz.lays229 185 #[] Tryz.call185 (fun x=>x==32) (bs s) W (by rw [eL];omega) (MI W) (by kernel_rfl) (by kernel_rfl)).mono ?_;rintro e w' ⟨A,rfl,hA,ho,hb⟩;have hE:fI M W w':=fI.of_below hg.gl.nq hb;generalize goFieldsP (fun x=>x==32) (bs s)=l at ho;refine ⟨⟨some ⟨A,0,none⟩,l.length,by rw [List.length_map],?_⟩,hE⟩;rcases ho.2 with ⟨h,_⟩ | ⟨g,cap,cur,h,_,hg,h1,h2,h3,h4⟩
 ·cases h
 cases h;refine ⟨by rw [List.length_map];unfold maxLen at h2;omega,fun i x hx=>?_⟩;rw [List.getElem?_map,Option.map_eq_some_iff] at hx;obtain ⟨y,hy,rfl⟩:=hx;refine ⟨_,bV y.data.toList,rfl,rfl,rfl,⟨by rw [cP rfl],fun j v hv=>?_⟩,rfl⟩;rw [cP rfl]
 cases j with
 | succ j=>simp [bV] at hv
 | zero =>
  have hv:v=.string (bs y.data.toList):=by simpa [bV] using hv.symm
  subst hv;refine ⟨cur,9,(0,0),by show (if A < W.heap.size then _ else w'.heap[A]?)=_;rw [if_neg (by omega)];exact hg,?_⟩;have hi:i < l.length:=(List.getElem?_eq_some_iff.1 hy).1;have:(cur.toList.take (l.length*1))[i]?=some (.string y):=by rw [h4];simp [hy]
  rw [List.getElem?_take,if_pos (by omega)] at this;rw [← KP y];simpa using this
end
end T12
set_option maxHeartbeats 4000000
namespace T12
open Go Go.Proofs Pk
noncomputable def RW  : Option (List aC) :=
 some ([[104,111,117,115,101,32,53],[115,97,121,32,49,49,32,84,104,101,32,72,111,117,115,101,32,109,101,116,46],[109,111,118,101,32,116,104,105,115,32,72,111,117,115,101,32,110,111,116,101,115,32,116,104,101,32,114,101,112,111,114,116],[112,97,112,101,114,32,51,32,48,32,50,32,51,32,119,101,108,99,111,109,101,115],[97,100,111,112,116,32,51],[100,105,118,105,100,101,32,48,32,48,32,51,32,50],[116,101,108,108,32,49,32,48,32,48],[116,101,108,108,32,49,32,49,32,48],[116,101,108,108,32,49,32,48,32,49],[116,101,108,108,32,49,32,49,32,49],[116,101,108,108,32,50,32,48,32,52],[114,101,115,117,108,116],[116,101,108,108,32,50,32,49,32,52],[114,101,115,117,108,116],[111,114,100,101,114,32,49,50],[98,105,110,100,32,51,32,52,32,50,48],[104,105,100,101,32,49,49,32,50,32,49,57,57,48],[99,105,116,101,32,49,50,32,48]]:List aC)
noncomputable def jY (s_0:List aC) (f_1:aC→Option Bool) (s0:Nat):Option ((Nat)⊕((Unit)⊕Int)) :=
 if (s0:Int) < (s_0.length:Int) then (
  (s_0[s0]?).bind fun x0 =>
  (f_1 x0).bind fun r0 =>
  if r0 then (
   some (.inr (.inr (s0:Int))))
  else
  some (.inl (s0+1)))
 else
 some (.inr (.inl ()))
noncomputable def MJ (s_0:List aC) (f_1:aC→Option Bool):Option (Int) :=
 (bA (jY s_0 f_1) 0).bind fun e19=>match e19 with
 | .inr z=>some z
 | .inl t0 =>
 some (-1)
noncomputable def KI (s_0:List aC) (f_1:aC→Option Bool):Option (Bool) :=
 (MJ s_0 f_1).bind fun r1 =>
 some (decide (0≤r1))
noncomputable def uR (s_0:aC):Option (Bool) :=
 some (decide (400 < (s_0.length:Int)))
noncomputable def m19 (lines:List aC):Option (Int) :=
 ((
  if 60 < (lines.length:Int) then (
   some true)
  else
  (KI lines (uR)).bind fun r0 =>
  some r0
 ):Option (Bool)).bind fun t8 =>
 if t8 then (
  some 3)
 else
 some 0
noncomputable def nH (n_0:Int) (low:Int) (high:Int):Option (Bool) :=
 ((
  if low≤n_0 then (
   some (decide (n_0≤high)))
  else
  some false
 ):Option (Bool)).bind fun t4 =>
 some t4
noncomputable def jZ (is_:Bool) (e:Int):Option (Unit⊕Unit) :=
 if is_ then (
  some (.inl ()))
 else
 some (.inr ())
noncomputable def RX (b_0:aF) (l_1:List Int) (__2:aC):Option (aF⊕Int) :=
 (l_1[0]?).bind fun x3 =>
 (nH x3 b_0.state.day 99999).bind fun r0 =>
 (jZ r0 2).bind fun r1=>match r1 with
 | .inl y0=>(
  none)
 | .inr _=>(
  none)
noncomputable def FY (s_0:List dR):Option (List dR) :=
 bP (([]:List dR).length+s_0.length≤1073741824) <|
 some (([]:List dR)++s_0)
noncomputable def FZ (s_0:List aI):Option (List aI) :=
 bP (([]:List aI).length+s_0.length≤1073741824) <|
 some (([]:List aI)++s_0)
noncomputable def GA (l_0:List aI) (x_1:aI):Option (List aI) :=
 (FZ l_0).bind fun r4 =>
 bP (r4.length+([x_1]:List aI).length≤1073741824) <|
 some (r4++([x_1]:List aI))
noncomputable def RY (b_0:aF) (parts:List dR):Option (cA) :=
 some (⟨1,b_0.state.day,1,10,parts⟩:cA)
noncomputable def MK (b_0:aF) (parts:List dR):Option (cA) :=
 some (⟨1,b_0.state.day,1,10,parts⟩:cA)
noncomputable def DS (v_0:cA) (s0:Nat×List aI):Option ((Nat×List aI)⊕(List aI)) :=
 if (s0.1:Int) < (v_0.parts.length:Int) then (
  (v_0.parts[s0.1]?).bind fun x0 =>
  bP (s0.2.length+x0.paragraphs.length≤1073741824) <|
  some (.inl ((s0.1+1),(s0.2++x0.paragraphs))))
 else
 some (.inr s0.2)
noncomputable def KJ (v_0:cA):Option (List aI) :=
 (bA (DS v_0) (0,([]:List aI))).bind fun e82 =>
 some e82
noncomputable def BP (n_0:Int) (low:Int) (high:Int):Option (Bool) :=
 if low≤n_0 then (
  some (decide (n_0≤high)))
 else
 none
noncomputable def ML (n_0:Int):Option (Bool) :=
 (BP n_0 0 99999).bind fun r1 =>
 some r1
noncomputable def wG (x_0:aI) (f0_:aI→Option Bool):Option (Bool) :=
 (f0_ x_0).bind fun r4 =>
 some (!r4)
noncomputable def wH (s_0:List aI) (f_1:aI→Option Bool) (s0:Nat):Option ((Nat)⊕(Unit)) :=
 if (s0:Int) < (s_0.length:Int) then (
  (s_0[s0]?).bind fun x0 =>
  (f_1 x0).bind fun r0 =>
  if r0 then (
   none)
  else
  some (.inl (s0+1)))
 else
 some (.inr ())
noncomputable def GB (s_0:List aI) (f_1:aI→Option Bool):Option (Int) :=
 (bA (wH s_0 f_1) 0).bind fun e19 =>
 some (-1)
noncomputable def GC (s_0:List aI) (f_1:aI→Option Bool):Option (Bool) :=
 (GB s_0 f_1).bind fun r1 =>
 some (decide (0≤r1))
noncomputable def GD (l_0:List aI) (right:aI→Option Bool):Option (Bool) :=
 (GC l_0 (fun x0_=>wG x0_ right)).bind fun r5 =>
 some (!r5)
noncomputable def GE (n_0:Int):Option (Bool) :=
 (BP n_0 1 999).bind fun r1 =>
 some r1
noncomputable def wI (x_0:Int) (f0_:Int→Option Bool):Option (Bool) :=
 (f0_ x_0).bind fun r1 =>
 some (!r1)
noncomputable def wJ (s_0:List UInt8) (f_1:Int→Option Bool) (s0:Nat):Option ((Nat)⊕(Unit)) :=
 if (s0:Int) < (s_0.length:Int) then (
  (s_0[s0]?).bind fun x0 =>
  (f_1 (x0.toNat:Int)).bind fun r0 =>
  if r0 then (
   none)
  else
  some (.inl (s0+1)))
 else
 some (.inr ())
noncomputable def GF (s_0:List UInt8) (f_1:Int→Option Bool):Option (Int) :=
 (bA (wJ s_0 f_1) 0).bind fun e19 =>
 some (-1)
noncomputable def BQ (s_0:List UInt8) (f_1:Int→Option Bool):Option (Bool) :=
 (GF s_0 f_1).bind fun r1 =>
 some (decide (0≤r1))
noncomputable def GG (l_0:List UInt8) (right:Int→Option Bool):Option (Bool) :=
 (BQ l_0 (fun x0_=>wI x0_ right)).bind fun r5 =>
 some (!r5)
noncomputable def wK (c_0:Int):Option (Bool) :=
 if (32:Int)≤c_0 then (
  some (decide (c_0≤126)))
 else
 none
noncomputable def GH (s_0:aC):Option (Bool) :=
 (BP (s_0.length:Int) 1 200).bind fun r0 =>
 if r0 then (
  bP (s_0.length≤1073741824) <|
  (GG s_0 (wK)).bind fun r1 =>
  some r1)
 else
 none
noncomputable def wL (p_0:aI):Option (Bool) :=
 (GE p_0.anchor).bind fun r0 =>
 if r0 then (
  (GH p_0.text).bind fun r1 =>
  some r1)
 else
 none
noncomputable def wM (v_0:cA) (s0:Nat):Option ((Nat)⊕(Unit)) :=
 if (s0:Int) < (v_0.parts.length:Int) then (
  (v_0.parts[s0]?).bind fun x0 =>
  (ML x0.day).bind fun r0 =>
  if r0 then (
   if v_0.bound < x0.day then (
    none)
   else
   if 0 < (s0:Int) then (
    none)
   else
   some (.inl (s0+1)))
  else
  none)
 else
 some (.inr ())
noncomputable def GI (v_0:cA):Option (Bool) :=
 (bA (wM v_0) 0).bind fun e37 =>
 (BP v_0.number 1 99).bind fun r0 =>
 if r0 then (
  (ML v_0.bound).bind fun r1 =>
  if r1 then (
   (BP v_0.height 1 60).bind fun r2 =>
   if r2 then (
    (BP v_0.width 10 80).bind fun r3 =>
    if r3 then (
     (KJ v_0).bind fun r4 =>
     (GD r4 (wL)).bind fun r5 =>
     some r5)
    else
    none)
   else
   none)
  else
  none)
 else
 none
noncomputable def DT (r7:List aI) (s0:Nat×(List (Int×Bool))):Option ((Nat×(List (Int×Bool)))⊕((List (Int×Bool)))) :=
 if (s0.1:Int) < (r7.length:Int) then (
  (r7[s0.1]?).bind fun x0 =>
  if (iB s0.2 x0.anchor).getD false then (
   none)
  else
  some (.inl ((s0.1+1),(put s0.2 x0.anchor true))))
 else
 some (.inr s0.2)
noncomputable def MM (v_0:cA):Option (Int) :=
 (KJ v_0).bind fun r7 =>
 if 6 < (v_0.parts.length:Int) then (
  none)
 else
 if 30 < (r7.length:Int) then (
  none)
 else
 (GI v_0).bind fun r0 =>
 if r0 then (
  (bA (DT r7) (0,([]:List (Int×Bool)))).bind fun e90 =>
  some 0)
 else
 none
noncomputable def mB (e:Int):Option (Unit⊕Unit) :=
 (jZ (decide (e=0)) e).bind fun r1=>match r1 with
 | .inl y4=>(
  some (.inl ()))
 | .inr _=>(
  none)
noncomputable def PU (b_0:aF) (l_1:List Int) (text:aC):Option (aF⊕Int) :=
 (jZ (!b_0.state.bound) 8).bind fun r3=>match r3 with
 | .inl y6=>(
  (l_1[0]?).bind fun x8 =>
  (FY b_0.state.volume.parts).bind fun r0 =>
  ((
   if 0≤((r0.length:Int) - 1) then (
    (r0[((r0.length:Int) - 1).toNat]?).bind fun x1 =>
    some (decide (x1.day=b_0.state.day)))
   else
   some false
  ):Option (Bool)).bind fun t1 =>
  ((
   if t1 then (
    bP (0≤((r0.length:Int) - 1)) <|
    (r0[((r0.length:Int) - 1).toNat]?).bind fun x0 =>
    (GA x0.paragraphs (⟨x8,text⟩:aI)).bind fun r1 =>
    some (r0.set (((r0.length:Int) - 1).toNat) (⟨x0.day,r1⟩:dR)))
   else
   bP (r0.length+([(⟨b_0.state.day,([(⟨x8,text⟩:aI)]:List aI)⟩:dR)]:List dR).length≤1073741824) <|
   some (r0++([(⟨b_0.state.day,([(⟨x8,text⟩:aI)]:List aI)⟩:dR)]:List dR))
  ):Option (List dR)).bind fun t0 =>
  (RY b_0 t0).bind fun r2 =>
  (MM r2).bind fun r4 =>
  (mB r4).bind fun r5=>match r5 with
  | .inl y0=>(
   some (.inl (⟨({b_0.state with volume:=({b_0.state.volume with parts:=t0}:cA)}:cQ)⟩:aF)))
  | .inr _=>(
   none))
 | .inr _=>(
  none)
noncomputable def RZ (b_0:aF) (l_1:List Int) (__2:aC):Option (aF⊕Int) :=
 (jZ (!b_0.state.bound) 8).bind fun r3=>match r3 with
 | .inl y6=>(
  (l_1[0]?).bind fun x8 =>
  (l_1[1]?).bind fun x0 =>
  (l_1[2]?).bind fun x1 =>
  (MM (⟨x8,b_0.state.day,x0,x1,b_0.state.volume.parts⟩:cA)).bind fun r0 =>
  (mB r0).bind fun r1=>match r1 with
  | .inl y0=>(
   some (.inl (⟨({b_0.state with volume:=(⟨x8,b_0.state.day,x0,x1,b_0.state.volume.parts⟩:cA),bound:=true}:cQ)⟩:aF)))
  | .inr _=>(
   none))
 | .inr _=>(
  none)
noncomputable def tZ (s_0:List aT):Option (List aT) :=
 bP (([]:List aT).length+s_0.length≤1073741824) <|
 some (([]:List aT)++s_0)
noncomputable def MN (l_0:List aT) (x_1:aT):Option (List aT) :=
 (tZ l_0).bind fun r4 =>
 bP (r4.length+([x_1]:List aT).length≤1073741824) <|
 some (r4++([x_1]:List aT))
noncomputable def wN (x_0:aT) (f0_:aT→Option Bool):Option (Bool) :=
 (f0_ x_0).bind fun r4 =>
 some (!r4)
noncomputable def wO (s_0:List aT) (s8:Nat):Option ((Nat)⊕(Unit)) :=
 if (s8:Int) < (s_0.length:Int) then (
  none)
 else
 some (.inr ())
noncomputable def GJ (s_0:List aT) (f_1:aT→Option Bool):Option (Int) :=
 (bA (wO s_0) 0).bind fun e5 =>
 some (-1)
noncomputable def GK (s_0:List aT) (f_1:aT→Option Bool):Option (Bool) :=
 (GJ s_0 f_1).bind fun r1 =>
 some (decide (0≤r1))
noncomputable def SA (l_0:List aT) (right:aT→Option Bool):Option (Bool) :=
 (GK l_0 (fun x0_=>wN x0_ right)).bind fun r5 =>
 some (!r5)
noncomputable def MO (x_0:aT):Option (Bool) :=
 (BP x_0.number 1 999).bind fun r0 =>
 if r0 then (
  none)
 else
 none
noncomputable def wP (x_0:Int):Option (Bool) :=
 some (decide (x_0≠x_0))
noncomputable def BS (x_0:Int) (y_1:Int):Option (Int) :=
 (wP x_0).bind fun r1 =>
 (wP y_1).bind fun r4 =>
 if r1 then (
  none)
 else
 none
noncomputable def wQ (vals:List Int) (s8:Nat):Option ((Nat)⊕(Int)) :=
 if (s8:Int) < (vals.length:Int) then (
  none)
 else
 none
noncomputable def GL (vals:List Int):Option (Int) :=
 (bA (wQ vals) 0).bind fun e5=>some e5
noncomputable def wR (a_0:aT) (b_1:aT):Option (Int) :=
 (BS a_0.day b_1.day).bind fun r7 =>
 (BS a_0.number b_1.number).bind fun r0 =>
 (GL ([r7,r0]:List Int)).bind fun r1 =>
 some r1
noncomputable def wS (r1:List aT) (s0:Nat):Option ((Nat)⊕(Unit)) :=
 if (s0:Int) < (r1.length:Int) then (
  none)
 else
 none
noncomputable def MP (yield:aT→Option Bool) (f0_:List aT) (f1_:Int):Option (Unit) :=
 (tZ f0_).bind fun r1 =>
 (iT (wR) r1).bind fun l6 =>
 (bA (wS r1) 0).bind fun e14=>some e14
noncomputable def DU (r0:List aI) (s0:Nat×(List (Int×Bool))):Option ((Nat×(List (Int×Bool)))⊕((List (Int×Bool)))) :=
 if (s0.1:Int) < (r0.length:Int) then (
  (r0[s0.1]?).bind fun x0 =>
  some (.inl ((s0.1+1),(put s0.2 x0.anchor true))))
 else
 some (.inr s0.2)
noncomputable def DV (r0:List aT) (s0:Nat):Option ((Nat)⊕(Unit)) :=
 if (s0:Int) < (r0.length:Int) then (
  none)
 else
 some (.inr ())
noncomputable def SB (v_0:cA) (errata:List aT):Option (Int) :=
 (KJ v_0).bind fun r1 =>
 (bA (DU r1) (0,([]:List (Int×Bool)))).bind fun e47 =>
 ((
  (tZ errata).bind fun r0 =>
  (iT (wR) r0).bind fun l0 =>
  (bA (DV r0) 0).bind fun eA1 =>
  some ()
 ):Option (Unit)).bind fun t0 =>
 some 0
noncomputable def DW (r0:List aI) (s0:Nat×(List (Int×Bool))):Option ((Nat×(List (Int×Bool)))⊕((List (Int×Bool)))) :=
 if (s0.1:Int) < (r0.length:Int) then (
  (r0[s0.1]?).bind fun x0 =>
  some (.inl ((s0.1+1),(put s0.2 x0.anchor true))))
 else
 some (.inr s0.2)
noncomputable def DX (errata:List aT) (s0:Nat):Option ((Nat)⊕(Unit)) :=
 if (s0:Int) < (errata.length:Int) then (
  none)
 else
 some (.inr ())
noncomputable def MQ (v_0:cA) (errata:List aT):Option (Int) :=
 (MM v_0).bind fun r7 =>
 if r7≠0 then (
  none)
 else
 if 20 < (errata.length:Int) then (
  none)
 else
 (SA errata (MO)).bind fun r0 =>
 if r0 then (
  (KJ v_0).bind fun r1 =>
  (bA (DW r1) (0,([]:List (Int×Bool)))).bind fun e88 =>
  (bA (DX errata) 0).bind fun eA1 =>
  (SB v_0 errata).bind fun r2 =>
  some r2)
 else
 none
noncomputable def DY (b_0:gH) (s0:Nat×Nat×Nat×Bool):Option ((Nat×Nat×Nat×Bool)⊕(Int×Int×Bool)) :=
 if (s0.2.2.1:Int) < (b_0.parts.length:Int) then (
  none)
 else
 none
noncomputable def m97 (b_0:gH) (anchor:Int):Option (Int×Int×Bool) :=
 (bA (DY b_0) (0,0,0,false)).bind fun e11=>some e11
noncomputable def m98  : Option (Unit) :=
 some ()
noncomputable def DZ (x0:dR) (s0:Nat×List fV):Option ((Nat×List fV)⊕(List fV)) :=
 if (s0.1:Int) < (x0.paragraphs.length:Int) then (
  (x0.paragraphs[s0.1]?).bind fun x1 =>
  bP (s0.2.length+1≤1073741824) <|
  some (.inl ((s0.1+1),(s0.2++[(⟨x1,false⟩:fV)]))))
 else
 some (.inr s0.2)
noncomputable def EA (v_0:cA) (s0:Nat×List (List fV)):Option ((Nat×List (List fV))⊕(List (List fV))) :=
 if (s0.1:Int) < (v_0.parts.length:Int) then (
  (v_0.parts[s0.1]?).bind fun x0 =>
  (bA (DZ x0) (0,([]:List fV))).bind fun eA1 =>
  bP (s0.2.length+1≤1073741824) <|
  some (.inl ((s0.1+1),(s0.2++[eA1]))))
 else
 some (.inr s0.2)
noncomputable def EB (r0:List aT) (s0:Nat):Option ((Nat)⊕(Unit)) :=
 if (s0:Int) < (r0.length:Int) then (
  none)
 else
 some (.inr ())
noncomputable def PV (v_0:cA) (errata:List aT) (to_2:Int):Option (gH) :=
 (bA (EA v_0) (0,([]:List (List fV)))).bind fun eA1 =>
 ((
  (tZ errata).bind fun r0 =>
  (iT (wR) r0).bind fun l0 =>
  (bA (EB r0) 0).bind fun eB1 =>
  some ()
 ):Option (Unit)).bind fun t0 =>
 some (⟨v_0,eA1⟩:gH)
noncomputable def m43 (v_0:cA) (errata:List aT) (to_2:Int):Option (List aI×Int) :=
 (MQ v_0 errata).bind fun r7 =>
 if r7≠0 then (
  none)
 else
 none
noncomputable def wT (b_0:aF) (x_1:aT):Option (aF⊕Int) :=
 if b_0.state.bound then (
  none)
 else
 none
noncomputable def SC (b_0:aF) (l_1:List Int) (text:aC):Option (aF⊕Int) :=
 (l_1[0]?).bind fun x3 =>
 (l_1[1]?).bind fun x0 =>
 (wT b_0 (⟨x3,0,0,x0,text,0⟩:aT)).bind fun r0=>match r0 with
 | .inl y0=>(
  none)
 | .inr _=>(
  none)
noncomputable def SD (b_0:aF) (l_1:List Int) (__2:aC):Option (aF⊕Int) :=
 (l_1[0]?).bind fun x3 =>
 (l_1[1]?).bind fun x0 =>
 (wT b_0 (⟨x3,0,1,x0,[],0⟩:aT)).bind fun r0=>match r0 with
 | .inl y0=>(
  none)
 | .inr _=>(
  none)
noncomputable def SE (b_0:aF) (l_1:List Int) (text:aC):Option (aF⊕Int) :=
 (l_1[0]?).bind fun x3 =>
 (l_1[1]?).bind fun x0 =>
 (l_1[2]?).bind fun x1 =>
 (wT b_0 (⟨x3,0,2,x0,text,x1⟩:aT)).bind fun r0=>match r0 with
 | .inl y0=>(
  none)
 | .inr _=>(
  none)
noncomputable def wU (x0:List fV) (anchor:Int) (s1:Nat×Nat×Nat×Bool) (s0:Nat×Nat×Nat×Bool):Option ((Nat×Nat×Nat×Bool)⊕((Nat×Nat×Nat×Bool)⊕(Nat×Nat×Bool))) :=
 if (s0.2.2.1:Int) < (x0.length:Int) then (
  (x0[s0.2.2.1]?).bind fun x1 =>
  if x1.paragraph.anchor=anchor then (
   Option.map (fun z=>.inr z) (
   some (.inr (s1.2.2.1,s0.2.2.1,true))))
  else
  none)
 else
 none
noncomputable def wV (r0:gH) (anchor:Int) (s0:Nat×Nat×Nat×Bool):Option ((Nat×Nat×Nat×Bool)⊕(Nat×Nat×Bool)) :=
 if (s0.2.2.1:Int) < (r0.parts.length:Int) then (
  (r0.parts[s0.2.2.1]?).bind fun x0 =>
  (bA (wU x0 anchor s0) (s0.1,s0.2.1,0,s0.2.2.2)).bind fun eA1=>some eA1)
 else
 none
noncomputable def GM (v_0:cA) (errata:List aT) (anchor:Int) (to_3:Int):Option (aC×Bool×Int) :=
 (MQ v_0 errata).bind fun r7 =>
 if r7≠0 then (
  none)
 else
 (ML to_3).bind fun r1 =>
 if r1 then (
  (PV v_0 errata to_3).bind fun r0 =>
  ((
   (bA (wV r0 anchor) (0,0,0,false)).bind fun eA1 =>
   some (eA1.2.1,eA1.1,eA1.2.2)
  ):Option (Nat×Nat×Bool)).bind fun t0 =>
  if t0.2.2 then (
   (r0.parts[t0.2.1]?).bind fun x1 =>
   (x1[t0.1]?).bind fun x0 =>
   some (x0.paragraph.text,x0.removed,0))
  else
  none)
 else
 none
noncomputable def EC (x1:List fV) (v_0:cA) (s1:Nat×Int×List cO) (s0:Nat×Nat×Int×List cO):Option ((Nat×Nat×Int×List cO)⊕(Int×List cO)) :=
 if (s0.2.1:Int) < (x1.length:Int) then (
  (x1[s0.2.1]?).bind fun x0 =>
  if x0.removed then (
   none)
  else
  bP (-9223372036854775808≤((s0.1:Int)+1)∧((s0.1:Int)+1)≤9223372036854775807) <|
  bP (-9223372036854775808≤((x0.paragraph.text.length:Int)+v_0.width)∧((x0.paragraph.text.length:Int)+v_0.width)≤9223372036854775807) <|
  bP (-9223372036854775808≤(((x0.paragraph.text.length:Int)+v_0.width) - 1)∧(((x0.paragraph.text.length:Int)+v_0.width) - 1)≤9223372036854775807) <|
  bP (0≤(((x0.paragraph.text.length:Int)+v_0.width) - 1)∧(((x0.paragraph.text.length:Int)+v_0.width) - 1)≤9223372036854775807∧0 < v_0.width) <|
  bP (0≤s0.2.2.1∧s0.2.2.1≤9223372036854775807∧0 < v_0.height) <|
  bP (-9223372036854775808≤(s1.2.1+(s0.2.2.1/v_0.height))∧(s1.2.1+(s0.2.2.1/v_0.height))≤9223372036854775807) <|
  bP (0≤s0.2.2.1∧0 < v_0.height) <|
  bP (-9223372036854775808≤((s0.2.2.1%v_0.height)+1)∧((s0.2.2.1%v_0.height)+1)≤9223372036854775807) <|
  (v_0.parts[s1.1]?).bind fun x2 =>
  bP (s0.2.2.2.length+([(⟨(⟨x0.paragraph.anchor,(s1.2.1+(s0.2.2.1/v_0.height)),((s0.2.2.1%v_0.height)+1),((((x0.paragraph.text.length:Int)+v_0.width) - 1)/v_0.width)⟩:nF),x2.day,((s0.1:Int)+1)⟩:cO)]:List cO).length≤1073741824) <|
  bP (-9223372036854775808≤(s0.2.2.1+((((x0.paragraph.text.length:Int)+v_0.width) - 1)/v_0.width))∧(s0.2.2.1+((((x0.paragraph.text.length:Int)+v_0.width) - 1)/v_0.width))≤9223372036854775807) <|
  some (.inl ((s0.1+1),(s0.2.1+1),(s0.2.2.1+((((x0.paragraph.text.length:Int)+v_0.width) - 1)/v_0.width)),(s0.2.2.2++([(⟨(⟨x0.paragraph.anchor,(s1.2.1+(s0.2.2.1/v_0.height)),((s0.2.2.1%v_0.height)+1),((((x0.paragraph.text.length:Int)+v_0.width) - 1)/v_0.width)⟩:nF),x2.day,((s0.1:Int)+1)⟩:cO)]:List cO)))))
 else
 some (.inr (s0.2.2.1,s0.2.2.2))
noncomputable def ED (r7:gH) (v_0:cA) (s0:Nat×Int×List cO):Option ((Nat×Int×List cO)⊕(List cO)) :=
 if (s0.1:Int) < (r7.parts.length:Int) then (
  (r7.parts[s0.1]?).bind fun x0 =>
  (bA (EC x0 v_0 s0) (0,0,0,s0.2.2)).bind fun eA1 =>
  bP (-9223372036854775808≤(eA1.1+v_0.height)∧(eA1.1+v_0.height)≤9223372036854775807) <|
  bP (-9223372036854775808≤((eA1.1+v_0.height) - 1)∧((eA1.1+v_0.height) - 1)≤9223372036854775807) <|
  bP (0≤((eA1.1+v_0.height) - 1)∧((eA1.1+v_0.height) - 1)≤9223372036854775807∧0 < v_0.height) <|
  bP (-9223372036854775808≤(s0.2.1+(((eA1.1+v_0.height) - 1)/v_0.height))∧(s0.2.1+(((eA1.1+v_0.height) - 1)/v_0.height))≤9223372036854775807) <|
  some (.inl ((s0.1+1),(s0.2.1+(((eA1.1+v_0.height) - 1)/v_0.height)),eA1.2)))
 else
 some (.inr s0.2.2)
noncomputable def SF (v_0:cA) (errata:List aT):Option (List cO) :=
 (PV v_0 errata v_0.bound).bind fun r7 =>
 (bA (ED r7 v_0) (0,1,([]:List cO))).bind fun eA1 =>
 some eA1
noncomputable def wW (r0:List cO) (anchor:Int) (style:Int) (v_0:cA) (s0:Nat):Option ((Nat)⊕(aC×Int)) :=
 if (s0:Int) < (r0.length:Int) then (
  (r0[s0]?).bind fun x0 =>
  if x0.place.anchor≠anchor then (
   some (.inl (s0+1)))
  else
  if style=0 then (
   (FQ ([(.s [118,111,108,46,32]:Any),(.i v_0.number:Any),(.s [44,32,99,111,108,46,32]:Any),(.i x0.place.column:Any),(.s [44,32,108,46,32]:Any),(.i x0.place.line:Any)]:List Any)).bind fun r1 =>
   some (.inr (r1,0)))
  else
  none)
 else
 none
noncomputable def GN (v_0:cA) (errata:List aT) (anchor:Int) (style:Int) (to_4:Int):Option (aC×Int) :=
 (MQ v_0 errata).bind fun r7 =>
 if r7≠0 then (
  none)
 else
 if 2 < style then (
  none)
 else
 if style=2 then (
  none)
 else
 (SF v_0 errata).bind fun r0 =>
 (bA (wW r0 anchor style v_0) 0).bind fun e64=>some e64
noncomputable def SG (s_0:List aC):Option (List aC) :=
 bP (([]:List aC).length+s_0.length≤1073741824) <|
 some (([]:List aC)++s_0)
noncomputable def GO (l_0:List aC) (x_1:aC):Option (List aC) :=
 (SG l_0).bind fun r1 =>
 bP (r1.length+1≤1073741824) <|
 some (r1++[x_1])
noncomputable def SH (b_0:aF) (l_1:List Int) (__2:aC):Option (aF⊕Int) :=
 (jZ b_0.state.bound 8).bind fun r3=>match r3 with
 | .inl y6=>(
  (l_1[1]?).bind fun x8 =>
  (nH x8 0 255).bind fun r1 =>
  (jZ r1 2).bind fun r2=>match r2 with
  | .inl y0=>(
   (l_1[0]?).bind fun x0 =>
   bP (0≤x8∧x8≤255) <|
   (GN b_0.state.volume b_0.state.errata x0 x8 b_0.state.day).bind fun r0 =>
   (mB r0.2).bind fun r4=>match r4 with
   | .inl y1=>(
    (GO b_0.state.cites r0.1).bind fun r5 =>
    some (.inl (⟨({b_0.state with cites:=r5}:cQ)⟩:aF)))
   | .inr _=>(
    none))
  | .inr _=>(
   none))
 | .inr _=>(
  none)
noncomputable def SI (b_0:aF):Option (cA) :=
 if b_0.state.bound then (
  some b_0.state.volume)
 else
 none
noncomputable def MR (b_0:aF):Option (cA) :=
 if b_0.state.bound then (
  some b_0.state.volume)
 else
 none
noncomputable def GP (s_0:List fQ):Option (List fQ) :=
 bP (([]:List fQ).length+s_0.length≤1073741824) <|
 some (([]:List fQ)++s_0)
noncomputable def GQ (l_0:List fQ) (x_1:fQ):Option (List fQ) :=
 (GP l_0).bind fun r4 =>
 bP (r4.length+([x_1]:List fQ).length≤1073741824) <|
 some (r4++([x_1]:List fQ))
noncomputable def SJ (b_0:aF) (l_1:List Int) (__2:aC):Option (aF⊕Int) :=
 (l_1[1]?).bind fun x0 =>
 (nH x0 0 7).bind fun r0 =>
 if r0 then (
  (l_1[2]?).bind fun x1 =>
  (nH x1 0 9999).bind fun r1 =>
  (jZ r1 1).bind fun r2=>match r2 with
  | .inl y0=>(
   (jZ (decide ((b_0.state.hides.length:Int) < 12)) 3).bind fun r3=>match r3 with
   | .inl y1=>(
    (SI b_0).bind fun r4 =>
    (l_1[0]?).bind fun x2 =>
    (GM r4 b_0.state.errata x2 b_0.state.day).bind fun r5 =>
    (mB r5.2.2).bind fun r6=>match r6 with
    | .inl y2=>(
     (GQ b_0.state.hides (⟨x2,x0,x1⟩:fQ)).bind fun r7 =>
     some (.inl (⟨({b_0.state with hides:=r7}:cQ)⟩:aF)))
    | .inr _=>(
     none))
   | .inr _=>(
    none))
  | .inr _=>(
   none))
 else
 none
noncomputable def SK (b_0:aF) (l_1:List Int) (__2:aC):Option (aF⊕Int) :=
 (jZ (!b_0.state.open_) 8).bind fun r3=>match r3 with
 | .inl y6=>(
  (l_1[0]?).bind fun x8 =>
  (nH x8 1 40).bind fun r0 =>
  (jZ r0 2).bind fun r1=>match r1 with
  | .inl y0=>(
   some (.inl (⟨({b_0.state with house:=x8}:cQ)⟩:aF)))
  | .inr _=>(
   none))
 | .inr _=>(
  none)
noncomputable def uA (n_0:Int) (low:Int) (high:Int):Option (Bool) :=
 if low≤n_0 then (
  some (decide (n_0≤high)))
 else
 none
noncomputable def wX (d_0:aW) (n_1:Int):Option (Bool) :=
 bP (-9223372036854775808≤(d_0.members - 1)∧(d_0.members - 1)≤9223372036854775807) <|
 (uA n_1 0 (d_0.members - 1)).bind fun r8 =>
 some r8
noncomputable def wY (x_0:Int) (f0_:Int→Option Bool):Option (Bool) :=
 (f0_ x_0).bind fun r1 =>
 some (!r1)
noncomputable def wZ (s_0:List Int) (f_1:Int→Option Bool) (s0:Nat):Option ((Nat)⊕(Unit)) :=
 if (s0:Int) < (s_0.length:Int) then (
  (s_0[s0]?).bind fun x0 =>
  (f_1 x0).bind fun r0 =>
  if r0 then (
   none)
  else
  some (.inl (s0+1)))
 else
 some (.inr ())
noncomputable def GR (s_0:List Int) (f_1:Int→Option Bool):Option (Int) :=
 (bA (wZ s_0 f_1) 0).bind fun e19 =>
 some (-1)
noncomputable def GS (s_0:List Int) (f_1:Int→Option Bool):Option (Bool) :=
 (GR s_0 f_1).bind fun r1 =>
 some (decide (0≤r1))
noncomputable def GT (l_0:List Int) (right:Int→Option Bool):Option (Bool) :=
 (GS l_0 (fun x0_=>wY x0_ right)).bind fun r5 =>
 some (!r5)
noncomputable def xA (l_0:List Int) (s0:Nat):Option ((Nat)⊕(Unit)) :=
 if (s0:Int) < (l_0.length:Int) then (
  ((
   if 0 < (s0:Int) then (
    (l_0[s0]?).bind fun x0 =>
    (l_0[((s0:Int) - 1).toNat]?).bind fun x1 =>
    some (decide (x0≤x1)))
   else
   some false
  ):Option (Bool)).bind fun t0 =>
  if t0 then (
   none)
  else
  some (.inl (s0+1)))
 else
 some (.inr ())
noncomputable def GU (l_0:List Int):Option (Bool) :=
 (bA (xA l_0) 0).bind fun e29 =>
 some true
noncomputable def rD (d_0:aW) (l_1:List Int):Option (Bool) :=
 (GT l_1 (wX d_0)).bind fun r0 =>
 if r0 then (
  (GU l_1).bind fun r1 =>
  some r1)
 else
 none
noncomputable def xB (x_0:List Int) (f0_:(List Int)→Option Bool):Option (Bool) :=
 (f0_ x_0).bind fun r1 =>
 some (!r1)
noncomputable def xC (s_0:List (List Int)) (f_1:(List Int)→Option Bool) (s0:Nat):Option ((Nat)⊕(Unit)) :=
 if (s0:Int) < (s_0.length:Int) then (
  (s_0[s0]?).bind fun x0 =>
  (f_1 x0).bind fun r0 =>
  if r0 then (
   none)
  else
  some (.inl (s0+1)))
 else
 some (.inr ())
noncomputable def GV (s_0:List (List Int)) (f_1:(List Int)→Option Bool):Option (Int) :=
 (bA (xC s_0 f_1) 0).bind fun e23 =>
 some (-1)
noncomputable def GW (s_0:List (List Int)) (f_1:(List Int)→Option Bool):Option (Bool) :=
 (GV s_0 f_1).bind fun r1 =>
 some (decide (0≤r1))
noncomputable def BT (l_0:List (List Int)) (right:(List Int)→Option Bool):Option (Bool) :=
 (GW l_0 (fun x0_=>xB x0_ right)).bind fun r5 =>
 some (!r5)
noncomputable def xD (p_0:dX) (f0_:List (Int×Bool)):Option (Bool) :=
 some (!((iB f0_ p_0.holder).getD false))
noncomputable def xE (x_0:dX) (f0_:dX→Option Bool):Option (Bool) :=
 (f0_ x_0).bind fun r4 =>
 some (!r4)
noncomputable def xF (s_0:List dX) (s8:Nat):Option ((Nat)⊕(Unit)) :=
 if (s8:Int) < (s_0.length:Int) then (
  none)
 else
 some (.inr ())
noncomputable def GX (s_0:List dX) (f_1:dX→Option Bool):Option (Int) :=
 (bA (xF s_0) 0).bind fun e5 =>
 some (-1)
noncomputable def GY (s_0:List dX) (f_1:dX→Option Bool):Option (Bool) :=
 (GX s_0 f_1).bind fun r1 =>
 some (decide (0≤r1))
noncomputable def GZ (l_0:List dX) (right:dX→Option Bool):Option (Bool) :=
 (GY l_0 (fun x0_=>xE x0_ right)).bind fun r5 =>
 some (!r5)
noncomputable def xG (d_0:aW) (s0:Nat):Option ((Nat)⊕(Unit)) :=
 if (s0:Int) < (d_0.pairs.length:Int) then (
  none)
 else
 some (.inr ())
noncomputable def xH (d_0:aW) (s0:Nat):Option ((Nat)⊕(Unit)) :=
 if (s0:Int) < (d_0.proxies.length:Int) then (
  none)
 else
 some (.inr ())
noncomputable def HA (d_0:aW):Option (Bool) :=
 (bA (xG d_0) 0).bind fun e13 =>
 (bA (xH d_0) 0).bind fun e30 =>
 (GZ d_0.proxies (fun x0_=>xD x0_ ([]:List (Int×Bool)))).bind fun r0 =>
 some r0
noncomputable def BU (d_0:aW):Option (Bool) :=
 some (decide (d_0.tie=1))
noncomputable def HB (d_0:aW) (n_1:fA) (f0_:aW→Option Bool):Option (Bool) :=
 if n_1.noes < n_1.ayes then (
  some true)
 else
 none
noncomputable def MS (d_0:aW) (n_1:fA) (f0_:aW→Option Bool):Option (Bool) :=
 if d_0.need≤n_1.ayes then (
  none)
 else
 none
noncomputable def MT (__0:aW) (n_1:fA):Option (Bool) :=
 bP (-9223372036854775808≤(3*n_1.ayes)∧(3*n_1.ayes)≤9223372036854775807) <|
 bP (-9223372036854775808≤(n_1.ayes+n_1.noes)∧(n_1.ayes+n_1.noes)≤9223372036854775807) <|
 bP (-9223372036854775808≤(2*(n_1.ayes+n_1.noes))∧(2*(n_1.ayes+n_1.noes))≤9223372036854775807) <|
 if (2*(n_1.ayes+n_1.noes))≤(3*n_1.ayes) then (
  none)
 else
 none
noncomputable def BV  : Option (Unit) :=
 some ()
noncomputable def BW (d_0:aW):Option (Bool) :=
 (uA d_0.members 1 40).bind fun r0 =>
 if r0 then (
  (BT ([d_0.ayes.e0,d_0.ayes.e1]:List (List Int)) (rD d_0)).bind fun r1 =>
  if r1 then (
   (BT ([d_0.noes.e0,d_0.noes.e1]:List (List Int)) (rD d_0)).bind fun r2 =>
   if r2 then (
    if (d_0.pairs.length:Int)≤10 then (
     if (d_0.proxies.length:Int)≤10 then (
      (HA d_0).bind fun r3 =>
      if r3 then (
       bP (-9223372036854775808≤d_0.rule∧d_0.rule≤9223372036854775807) <|
       (BV).bind fun r6 =>
       if d_0.rule < 3 then (
        (uA d_0.need 0 40).bind fun r4 =>
        if r4 then (
         (uA d_0.quorum 0 40).bind fun r5 =>
         if r5 then (
          if d_0.tie=1 then (
           none)
          else
          some (decide (d_0.tie=2)))
         else
         none)
        else
        none)
       else
       none)
      else
      none)
     else
     none)
    else
    none)
   else
   none)
  else
  none)
 else
 none
noncomputable def HD (d_0:aW):Option (Int) :=
 (BW d_0).bind fun r6 =>
 if r6 then (
  some 0)
 else
 none
noncomputable def HE (b_0:aF) (d_1:aW):Option (aF⊕Int) :=
 (HD d_1).bind fun r8 =>
 (mB r8).bind fun r0=>match r0 with
 | .inl y0=>(
  some (.inl (⟨({b_0.state with division:=d_1,open_:=true}:cQ)⟩:aF)))
 | .inr _=>(
  none)
noncomputable def SL (b_0:aF) (l_1:List Int) (__2:aC):Option (aF⊕Int) :=
 (jZ (!b_0.state.open_) 8).bind fun r3=>match r3 with
 | .inl y6=>(
  (l_1[0]?).bind fun x0 =>
  (nH x0 0 255).bind fun r0 =>
  if r0 then (
   (l_1[3]?).bind fun x1 =>
   (nH x1 0 255).bind fun r1 =>
   (jZ r1 2).bind fun r2=>match r2 with
   | .inl y1=>(
    bP (0≤x0∧x0≤255) <|
    (l_1[1]?).bind fun x2 =>
    (l_1[2]?).bind fun x3 =>
    bP (0≤x1∧x1≤255) <|
    (HE b_0 (⟨b_0.state.house,(⟨([]:List Int),([]:List Int)⟩:bW),(⟨([]:List Int),([]:List Int)⟩:bW),([]:List fE),([]:List dX),x0,x2,x3,x1⟩:aW)).bind fun r4=>match r4 with
    | .inl y0=>(
     some (.inl y0))
    | .inr _=>(
     none))
   | .inr _=>(
    none))
  else
  none)
 | .inr _=>(
  none)
noncomputable def HF (x_0:Int) (y_1:Int):Option (Bool) :=
 (wP x_0).bind fun r7 =>
 if r7 then (
  none)
 else
 some (decide (x_0 < y_1))
noncomputable def MU (x_0:Int):Option (Bool) :=
 some (decide (x_0≠x_0))
noncomputable def xI (x_0:List Int) (target:Int) (s0:Nat×Int):Option ((Nat×Int)⊕(Int)) :=
 if s0.2 < (s0.1:Int) then (
  bP (-9223372036854775808≤(s0.2+(s0.1:Int))∧(s0.2+(s0.1:Int))≤9223372036854775807) <|
  bP (0≤(s0.2+(s0.1:Int))∧(s0.2+(s0.1:Int))≤18446744073709551615) <|
  bP (0≤(s0.2+(s0.1:Int))) <|
  bP (-9223372036854775808≤((s0.2+(s0.1:Int))/2)∧((s0.2+(s0.1:Int))/2)≤9223372036854775807) <|
  (x_0[((s0.2+(s0.1:Int))/2).toNat]?).bind fun x0 =>
  (HF x0 target).bind fun r0 =>
  if r0 then (
   bP (-9223372036854775808≤(((s0.2+(s0.1:Int))/2)+1)∧(((s0.2+(s0.1:Int))/2)+1)≤9223372036854775807) <|
   some (.inl (s0.1,(((s0.2+(s0.1:Int))/2)+1))))
  else
  none)
 else
 some (.inr s0.2)
noncomputable def sC (x_0:List Int) (target:Int):Option (Int×Bool) :=
 (bA (xI x_0 target) (x_0.length,0)).bind fun e55 =>
 if e55 < (x_0.length:Int) then (
  none)
 else
 some (e55,false)
noncomputable def sD (s_0:List Int):Option (List Int) :=
 bP (([]:List Int).length+s_0.length≤1073741824) <|
 some (([]:List Int)++s_0)
noncomputable def SM (b_0:aF) (l_1:List Int) (__2:aC):Option (aF⊕Int) :=
 (jZ b_0.state.open_ 8).bind fun r3=>match r3 with
 | .inl y6=>(
  (l_1[0]?).bind fun x1 =>
  (nH x1 1 2).bind fun r9 =>
  if r9 then (
   (l_1[1]?).bind fun x2 =>
   (nH x2 0 1).bind fun r73 =>
   if r73 then (
    (l_1[2]?).bind fun x0 =>
    bP (-9223372036854775808≤(b_0.state.division.members - 1)∧(b_0.state.division.members - 1)≤9223372036854775807) <|
    (nH x0 0 (b_0.state.division.members - 1)).bind fun r88 =>
    (jZ r88 2).bind fun r91=>match r91 with
    | .inl y0=>(
     if x2=0 then (
      if x1=2 then (
       (sC b_0.state.division.noes.e0 x0).bind fun r0 =>
       (jZ (!r0.2) 6).bind fun rA1=>match rA1 with
       | .inl y1=>(
        (sD b_0.state.division.noes.e0).bind fun r5 =>
        bP (0≤r0.1) <|
        bP (r0.1.toNat≤r5.length) <|
        bP (r5.length+([x0]:List Int).length≤1073741824) <|
        some (.inl (⟨({b_0.state with division:=({b_0.state.division with noes:=(⟨(r5.take r0.1.toNat++([x0]:List Int)++r5.drop r0.1.toNat),b_0.state.division.noes.e1⟩:bW)}:aW)}:cQ)⟩:aF)))
       | .inr _=>(
        none))
      else
      (sC b_0.state.division.ayes.e0 x0).bind fun r1 =>
      (jZ (!r1.2) 6).bind fun rB1=>match rB1 with
      | .inl y2=>(
       (sD b_0.state.division.ayes.e0).bind fun r6 =>
       bP (0≤r1.1) <|
       bP (r1.1.toNat≤r6.length) <|
       bP (r6.length+([x0]:List Int).length≤1073741824) <|
       some (.inl (⟨({b_0.state with division:=({b_0.state.division with ayes:=(⟨(r6.take r1.1.toNat++([x0]:List Int)++r6.drop r1.1.toNat),b_0.state.division.ayes.e1⟩:bW)}:aW)}:cQ)⟩:aF)))
      | .inr _=>(
       none))
     else
     if x2=1 then (
      if x1=2 then (
       (sC b_0.state.division.noes.e1 x0).bind fun r2 =>
       (jZ (!r2.2) 6).bind fun rC1=>match rC1 with
       | .inl y3=>(
        (sD b_0.state.division.noes.e1).bind fun r7 =>
        bP (0≤r2.1) <|
        bP (r2.1.toNat≤r7.length) <|
        bP (r7.length+([x0]:List Int).length≤1073741824) <|
        some (.inl (⟨({b_0.state with division:=({b_0.state.division with noes:=(⟨b_0.state.division.noes.e0,(r7.take r2.1.toNat++([x0]:List Int)++r7.drop r2.1.toNat)⟩:bW)}:aW)}:cQ)⟩:aF)))
       | .inr _=>(
        none))
      else
      (sC b_0.state.division.ayes.e1 x0).bind fun r4 =>
      (jZ (!r4.2) 6).bind fun rD1=>match rD1 with
      | .inl y4=>(
       (sD b_0.state.division.ayes.e1).bind fun r8 =>
       bP (0≤r4.1) <|
       bP (r4.1.toNat≤r8.length) <|
       bP (r8.length+([x0]:List Int).length≤1073741824) <|
       some (.inl (⟨({b_0.state with division:=({b_0.state.division with ayes:=(⟨b_0.state.division.ayes.e0,(r8.take r4.1.toNat++([x0]:List Int)++r8.drop r4.1.toNat)⟩:bW)}:aW)}:cQ)⟩:aF)))
      | .inr _=>(
       none))
     else
     none)
    | .inr _=>(
     none))
   else
   none)
  else
  none)
 | .inr _=>(
  none)
noncomputable def HG (s_0:List fE):Option (List fE) :=
 bP (([]:List fE).length+s_0.length≤1073741824) <|
 some (([]:List fE)++s_0)
noncomputable def MV (l_0:List fE) (x_1:fE):Option (List fE) :=
 (HG l_0).bind fun r4 =>
 bP (r4.length+([x_1]:List fE).length≤1073741824) <|
 some (r4++([x_1]:List fE))
noncomputable def SN (b_0:aF) (l_1:List Int) (__2:aC):Option (aF⊕Int) :=
 (jZ b_0.state.open_ 8).bind fun r3=>match r3 with
 | .inl y6=>(
  none)
 | .inr _=>(
  none)
noncomputable def xJ (s_0:List Int) (v_1:Int) (s0:Nat):Option ((Nat)⊕((Unit)⊕Int)) :=
 if (s0:Int) < (s_0.length:Int) then (
  (s_0[s0]?).bind fun x0 =>
  if v_1=x0 then (
   some (.inr (.inr (s0:Int))))
  else
  some (.inl (s0+1)))
 else
 some (.inr (.inl ()))
noncomputable def HH (s_0:List Int) (v_1:Int):Option (Int) :=
 (bA (xJ s_0 v_1) 0).bind fun e16=>match e16 with
 | .inr z=>some z
 | .inl t0 =>
 some (-1)
noncomputable def xK (s_0:List Int) (v_1:Int):Option (Bool) :=
 (HH s_0 v_1).bind fun r1 =>
 some (decide (0≤r1))
noncomputable def BX (lobby:bW) (member:Int):Option (Int) :=
 (xK lobby.e0 member).bind fun r0 =>
 ((
  if r0 then (
   some 1)
  else
  some 0
 ):Option (Nat)).bind fun t0 =>
 (xK lobby.e1 member).bind fun r1 =>
 ((
  if r1 then (
   bP (-9223372036854775808≤((t0:Int)+1)∧((t0:Int)+1)≤9223372036854775807) <|
   some (t0+1))
  else
  some t0
 ):Option (Nat)).bind fun t1 =>
 some (t1:Int)
noncomputable def HI (d_0:aW) (member:Int):Option (List UInt8) :=
 (BX d_0.ayes member).bind fun r6 =>
 (BX d_0.noes member).bind fun r0 =>
 ((
  if r6 < 2 then (
   some (decide (r0 < 2)))
  else
  some false
 ):Option (Bool)).bind fun t2 =>
 ((
  if t2 then (
   bP (([]:List UInt8).length+1≤1073741824) <|
   some (([]:List UInt8)++[(0:UInt8)]))
  else
  some ([]:List UInt8)
 ):Option (List UInt8)).bind fun t0 =>
 ((
  if 0 < r6 then (
   some (decide (r0 < 2)))
  else
  some false
 ):Option (Bool)).bind fun t3 =>
 ((
  if t3 then (
   bP (t0.length+1≤1073741824) <|
   some (t0++[(1:UInt8)]))
  else
  some t0
 ):Option (List UInt8)).bind fun t1 =>
 ((
  if 0 < r0 then (
   some (decide (r6 < 2)))
  else
  some false
 ):Option (Bool)).bind fun t4 =>
 ((
  if t4 then (
   bP (t1.length+1≤1073741824) <|
   some (t1++[(2:UInt8)]))
  else
  some t1
 ):Option (List UInt8)).bind fun t5 =>
 some t5
noncomputable def xL (d_0:aW) (s0:Nat):Option ((Nat)⊕(Unit)) :=
 if (s0:Int) < (d_0.pairs.length:Int) then (
  none)
 else
 some (.inr ())
noncomputable def xM (d_0:aW) (s0:Nat×List (List UInt8)):Option ((Nat×List (List UInt8))⊕(List (List UInt8))) :=
 if (s0.1:Int) < d_0.members then (
  (HI d_0 (s0.1:Int)).bind fun r0 =>
  (s0.2[s0.1]?).bind fun x0 =>
  bP (-9223372036854775808≤((s0.1:Int)+1)∧((s0.1:Int)+1)≤9223372036854775807) <|
  some (.inl ((s0.1+1),(s0.2.set s0.1 r0))))
 else
 some (.inr s0.2)
noncomputable def HJ (d_0:aW):Option (dL) :=
 (bA (xL d_0) 0).bind fun e12 =>
 (bA (xM d_0) (0,(List.replicate 40 ([]:List UInt8)))).bind fun e77 =>
 some (⟨d_0,bK.zero,e77⟩:dL)
noncomputable def xN (x_0:dL) (s0:Nat×Nat×Bool):Option ((Nat×Nat×Bool)⊕(Nat×Bool)) :=
 if (s0.2.1:Int) < x_0.division.members then (
  (x_0.may[s0.2.1]?).bind fun x0 =>
  if (x0.length:Int)=0 then (
   none)
  else
  bP (-9223372036854775808≤((s0.2.1:Int)+1)∧((s0.2.1:Int)+1)≤9223372036854775807) <|
  some (.inl (s0.1,(s0.2.1+1),s0.2.2)))
 else
 some (.inr (s0.1,s0.2.2))
noncomputable def HK (x_0:dL):Option (Int×Bool) :=
 (bA (xN x_0) (0,0,false)).bind fun e41 =>
 some ((e41.1:Int),e41.2)
noncomputable def HL (d_0:aW):Option (dL×Int) :=
 (BW d_0).bind fun r7 =>
 if r7 then (
  (HJ d_0).bind fun r0 =>
  (HK r0).bind fun r1 =>
  if r1.2 then (
   none)
  else
  some (r0,0))
 else
 none
noncomputable def xO (x_0:dL) (s0:Nat×List Int):Option ((Nat×List Int)⊕(List Int)) :=
 if (s0.1:Int) < x_0.division.members then (
  (x_0.may[s0.1]?).bind fun x0 =>
  ((
   if 1 < (x0.length:Int) then (
    bP (s0.2.length+1≤1073741824) <|
    some (s0.2++[(s0.1:Int)]))
   else
   some s0.2
  ):Option (List Int)).bind fun t0 =>
  bP (-9223372036854775808≤((s0.1:Int)+1)∧((s0.1:Int)+1)≤9223372036854775807) <|
  some (.inl ((s0.1+1),t0)))
 else
 some (.inr s0.2)
noncomputable def HM (x_0:dL):Option (List Int) :=
 (bA (xO x_0) (0,([]:List Int))).bind fun eA1 =>
 some eA1
noncomputable def HN (d_0:aW):Option (dL×Int) :=
 (HL d_0).bind fun r7 =>
 if r7.2=0 then (
  (HM r7.1).bind fun r0 =>
  if 8 < (r0.length:Int) then (
   none)
  else
  some (r7.1,r7.2))
 else
 none
noncomputable def MW (t_0:bE) (m_1:Int) (f0_:dL) (f1_:bE→Option Bool) (f2_:bE→Int→Option Bool):Option (Bool) :=
 if m_1=f0_.division.members then (
  none)
 else
 none
noncomputable def xP (x_0:dL) (t_1:bE) (s0:Nat×Nat×Nat):Option ((Nat×Nat×Nat)⊕(Nat×Nat)) :=
 if (s0.1:Int) < x_0.division.members then (
  bP ((s0.1:Int) < 40) <|
  if bK.get x_0.paired s0.1 then (
   none)
  else
  ((
   ((
    if (bE.get t_1 s0.1)=1 then (
     bP (-9223372036854775808≤((s0.2.1:Int)+1)∧((s0.2.1:Int)+1)≤9223372036854775807) <|
     some ((s0.2.1+1),s0.2.2))
    else
    ((
     if (bE.get t_1 s0.1)=2 then (
      bP (-9223372036854775808≤((s0.2.2:Int)+1)∧((s0.2.2:Int)+1)≤9223372036854775807) <|
      some (s0.2.2+1))
     else
     some s0.2.2
    ):Option (Nat)).bind fun t2 =>
    some (s0.2.1,t2)
   ):Option (Nat×Nat)).bind fun t0 =>
   some (t0.1,t0.2)
  ):Option (Nat×Nat)).bind fun t1 =>
  bP (-9223372036854775808≤((s0.1:Int)+1)∧((s0.1:Int)+1)≤9223372036854775807) <|
  some (.inl ((s0.1+1),t1.1,t1.2)))
 else
 some (.inr (s0.2.1,s0.2.2))
noncomputable def xQ (x_0:dL) (s0:Nat):Option ((Nat)⊕(Unit)) :=
 if (s0:Int) < (x_0.division.proxies.length:Int) then (
  none)
 else
 some (.inr ())
noncomputable def HO (x_0:dL) (t_1:bE):Option (fA) :=
 (bA (xP x_0 t_1) (0,0,0)).bind fun e80 =>
 (bA (xQ x_0) 0).bind fun eA1 =>
 some (⟨(e80.1:Int),(e80.2:Int)⟩:fA)
noncomputable def HQ (x_0:dL) (n_1:fA):Option (Int) :=
 bP (-9223372036854775808≤(n_1.ayes+n_1.noes)∧(n_1.ayes+n_1.noes)≤9223372036854775807) <|
 if (n_1.ayes+n_1.noes) < x_0.division.quorum then (
  some 2)
 else
 (BV).bind fun r1 =>
 bP (0≤x_0.division.rule) <|
 if x_0.division.rule=0 then (
  (HB x_0.division n_1 (BU)).bind fun r0 =>
  if r0 then (
   some 1)
  else
  none)
 else
 none
noncomputable def xR (s_0:List UInt8) (v_1:Int) (s0:Nat):Option ((Nat)⊕(Unit)) :=
 if (s0:Int) < (s_0.length:Int) then (
  (s_0[s0]?).bind fun x0 =>
  if v_1=(x0.toNat:Int) then (
   none)
  else
  some (.inl (s0+1)))
 else
 some (.inr ())
noncomputable def HR (s_0:List UInt8) (v_1:Int):Option (Int) :=
 (bA (xR s_0 v_1) 0).bind fun e16 =>
 some (-1)
noncomputable def HT (s_0:List UInt8) (v_1:Int):Option (Bool) :=
 (HR s_0 v_1).bind fun r1 =>
 some (decide (0≤r1))
noncomputable def HU (x_0:Int):Option (Int) :=
 if 4294967296≤x_0 then (
  none)
 else
 if 65536≤x_0 then (
  none)
 else
 if 256≤x_0 then (
  none)
 else
 bP (0≤x_0∧x_0≤255) <|
 bP (0≤x_0) <|
 (([0,1,2,2,3,3,3,3,4,4,4,4,4,4,4,4,5,5,5,5,5,5,5,5,5,5,5,5,5,5,5,5,6,6,6,6,6,6,6,6,6,6,6,6,6,6,6,6,6,6,6,6,6,6,6,6,6,6,6,6,6,6,6,6,7,7,7,7,7,7,7,7,7,7,7,7,7,7,7,7,7,7,7,7,7,7,7,7,7,7,7,7,7,7,7,7,7,7,7,7,7,7,7,7,7,7,7,7,7,7,7,7,7,7,7,7,7,7,7,7,7,7,7,7,7,7,7,7,8,8,8,8,8,8,8,8,8,8,8,8,8,8,8,8,8,8,8,8,8,8,8,8,8,8,8,8,8,8,8,8,8,8,8,8,8,8,8,8,8,8,8,8,8,8,8,8,8,8,8,8,8,8,8,8,8,8,8,8,8,8,8,8,8,8,8,8,8,8,8,8,8,8,8,8,8,8,8,8,8,8,8,8,8,8,8,8,8,8,8,8,8,8,8,8,8,8,8,8,8,8,8,8,8,8,8,8,8,8,8,8,8,8,8,8,8,8,8,8,8,8,8,8,8,8,8,8]:aC)[x_0.toNat]?).bind fun x0 =>
 some (0+(x0.toNat:Int))
noncomputable def HV (x_0:Int):Option (Int) :=
 (HU x_0).bind fun r1 =>
 some r1
noncomputable def HW (x_0:Int):Option (Bool) :=
 some (decide (x_0≠x_0))
noncomputable def HX (x_0:Int) (y_1:Int):Option (Bool) :=
 (HW x_0).bind fun r7 =>
 if r7 then (
  none)
 else
 some (decide (x_0 < y_1))
noncomputable def xS (x0:List UInt8) (s1:Nat×bE×List UInt8) (R0_:(Nat×bE×List UInt8)→Option (List UInt8)) (s0:Nat×bE×List UInt8):Option ((Nat×bE×List UInt8)⊕(bE×List UInt8)) :=
 if (s0.1:Int) < (x0.length:Int) then (
  (x0[s0.1]?).bind fun x1 =>
  bP ((s1.1:Int) < 40) <|
  bP (-9223372036854775808≤((s1.1:Int)+1)∧((s1.1:Int)+1)≤9223372036854775807) <|
  (R0_ ((s1.1+1),(bE.set s0.2.1 s1.1 (x1.toNat:Int)),s0.2.2)).bind fun r0 =>
  some (.inl ((s0.1+1),(bE.set s0.2.1 s1.1 (x1.toNat:Int)),r0)))
 else
 some (.inr (s0.2.1,s0.2.2))
noncomputable def xU (r6:dL×Int) (R0_:(Nat×bE×List UInt8)→Option (List UInt8)) (s0:Nat×bE×List UInt8):Option (List UInt8) :=
 if (s0.1:Int)=r6.1.division.members then (
  ((
   (HO r6.1 s0.2.1).bind fun r1 =>
   (HQ r6.1 r1).bind fun r0 =>
   (HT s0.2.2 r0).bind fun r2 =>
   if r2 then (
    none)
   else
   bP (s0.2.2.length+1≤1073741824) <|
   bP (0≤r0∧r0≤255) <|
   some (s0.2.2++[(UInt8.ofNat r0.toNat)])
  ):Option (List UInt8)).bind fun t0 =>
  some t0)
 else
 (r6.1.may[s0.1]?).bind fun x0 =>
 (bA (xS x0 s0 R0_) (0,s0.2.1,s0.2.2)).bind fun eA1 =>
 some eA1.2
noncomputable def mH (r6:dL×Int):Nat→(Nat×bE×List UInt8)→Option (List UInt8)
 | 0,_=>none
 | n_+1,s0=>xU r6 (mH r6 n_) s0
noncomputable def xV (s1:Nat×Nat×Int×Bool×Bool) (s0:Int×List UInt8):Option ((Int×List UInt8)⊕(List UInt8)) :=
 ((
  if (s1.1:Int) < s0.1 then (
   bP (0≤s0.1) <|
   (s0.2[s0.1.toNat]?).bind fun x1 =>
   bP (-9223372036854775808≤(s0.1 - 1)∧(s0.1 - 1)≤9223372036854775807) <|
   bP (0≤(s0.1 - 1)) <|
   (s0.2[(s0.1 - 1).toNat]?).bind fun x2 =>
   (HX (x1.toNat:Int) (x2.toNat:Int)).bind fun r0 =>
   some r0)
  else
  some false
 ):Option (Bool)).bind fun t0 =>
 if t0 then (
  bP (-9223372036854775808≤(s0.1 - 1)∧(s0.1 - 1)≤9223372036854775807) <|
  bP (0≤(s0.1 - 1)) <|
  (s0.2[(s0.1 - 1).toNat]?).bind fun x0 =>
  bP (0≤s0.1) <|
  (s0.2[s0.1.toNat]?).bind fun x3 =>
  ((s0.2.set s0.1.toNat x0)[(s0.1 - 1).toNat]?).bind fun x4 =>
  some (.inl ((s0.1 - 1),((s0.2.set s0.1.toNat x0).set ((s0.1 - 1).toNat) x3))))
 else
 some (.inr s0.2)
noncomputable def xW (s1:Nat×Nat×Int×Bool×Bool) (s0:Nat×List UInt8):Option ((Nat×List UInt8)⊕(List UInt8)) :=
 if (s0.1:Int) < (s1.2.1:Int) then (
  (bA (xV s1) ((s0.1:Int),s0.2)).bind fun eA1 =>
  bP (-9223372036854775808≤((s0.1:Int)+1)∧((s0.1:Int)+1)≤9223372036854775807) <|
  some (.inl ((s0.1+1),eA1)))
 else
 some (.inr s0.2)
noncomputable def xX (t0:List UInt8) (s0:Nat×Nat×Int×Bool×Bool):Option ((Nat×Nat×Int×Bool×Bool)⊕(List UInt8)) :=
 bP (-9223372036854775808≤((s0.2.1:Int) - (s0.1:Int))∧((s0.2.1:Int) - (s0.1:Int))≤9223372036854775807) <|
 if ((s0.2.1:Int) - (s0.1:Int))≤12 then (
  ((
   bP (-9223372036854775808≤((s0.1:Int)+1)∧((s0.1:Int)+1)≤9223372036854775807) <|
   (bA (xW s0) ((s0.1+1),t0)).bind fun eA1 =>
   some eA1
  ):Option (List UInt8)).bind fun t1 =>
  some (.inr t1))
 else
 none
noncomputable def HY (d_0:aW):Option (List UInt8×Int) :=
 (HN d_0).bind fun r6 =>
 if r6.2≠0 then (
  none)
 else
 ((
  (AY (fun n_=>mH r6 n_ (0,bE.zero,([]:List UInt8)))).bind fun r0 =>
  some r0
 ):Option (List UInt8)).bind fun t0 =>
 ((
  (HV (t0.length:Int)).bind fun r1 =>
  ((
   (bA (xX t0) (0,t0.length,r1,true,true)).bind fun eA1=>some eA1
  ):Option (List UInt8)).bind fun t1 =>
  some t1
 ):Option (List UInt8)).bind fun t2 =>
 some (t2,0)
noncomputable def HZ (s_0:List UInt8):Option (List UInt8) :=
 bP (([]:List UInt8).length+s_0.length≤1073741824) <|
 some (([]:List UInt8)++s_0)
noncomputable def IA (l_0:List UInt8) (x_1:Int):Option (List UInt8) :=
 (HZ l_0).bind fun r1 =>
 bP (r1.length+1≤1073741824) <|
 bP (0≤x_1∧x_1≤255) <|
 some (r1++[(UInt8.ofNat x_1.toNat)])
noncomputable def SO (b_0:aF) (x_1:List Int) (x_2:aC):Option (aF⊕Int) :=
 (jZ b_0.state.open_ 8).bind fun r3=>match r3 with
 | .inl y6=>(
  (HY b_0.state.division).bind fun r8 =>
  (mB r8.2).bind fun r0=>match r0 with
  | .inl y0=>(
   (jZ (decide ((r8.1.length:Int)=1)) 10).bind fun r1=>match r1 with
   | .inl y1=>(
    (r8.1[0]?).bind fun x0 =>
    (IA b_0.state.results (x0.toNat:Int)).bind fun r2 =>
    some (.inl (⟨({b_0.state with division:=(⟨0,(⟨([]:List Int),([]:List Int)⟩:bW),(⟨([]:List Int),([]:List Int)⟩:bW),([]:List fE),([]:List dX),0,0,0,0⟩:aW),open_:=false,results:=r2}:cQ)⟩:aF)))
   | .inr _=>(
    some (.inr 10)))
  | .inr _=>(
   none))
 | .inr _=>(
  none)
noncomputable def MX (c_0:Int):Option (Bool) :=
 some (decide (c_0=32))
noncomputable def BY (text:aC):Option (List aC) :=
 (FX text).bind fun r1 =>
 some r1
noncomputable def xY (x_0:aX) (f0_:aX→Option Bool):Option (Bool) :=
 (f0_ x_0).bind fun r7 =>
 some (!r7)
noncomputable def xZ (s_0:List aX) (f_1:aX→Option Bool) (s0:Nat):Option ((Nat)⊕(Unit)) :=
 if (s0:Int) < (s_0.length:Int) then (
  (s_0[s0]?).bind fun x0 =>
  (f_1 x0).bind fun r0 =>
  if r0 then (
   none)
  else
  some (.inl (s0+1)))
 else
 some (.inr ())
noncomputable def IB (s_0:List aX) (f_1:aX→Option Bool):Option (Int) :=
 (bA (xZ s_0 f_1) 0).bind fun e23 =>
 some (-1)
noncomputable def IC (s_0:List aX) (f_1:aX→Option Bool):Option (Bool) :=
 (IB s_0 f_1).bind fun r1 =>
 some (decide (0≤r1))
noncomputable def sF (l_0:List aX) (right:aX→Option Bool):Option (Bool) :=
 (IC l_0 (fun x0_=>xY x0_ right)).bind fun r5 =>
 some (!r5)
noncomputable def yA (p_0:aX):Option (Bool) :=
 some (decide ((p_0.words.length:Int)≤60))
noncomputable def ID (m_0:bX):Option (Bool) :=
 if (m_0.papers.length:Int)≤10 then (
  if (m_0.words.length:Int)≤60 then (
   (sF m_0.papers (yA)).bind fun r0 =>
   some r0)
  else
  none)
 else
 none
noncomputable def yB (x_0:aC) (f0_:aC→Option Bool):Option (Bool) :=
 (f0_ x_0).bind fun r1 =>
 some (!r1)
noncomputable def BZ (l_0:List aC) (right:aC→Option Bool):Option (Bool) :=
 (KI l_0 (fun x0_=>yB x0_ right)).bind fun r5 =>
 some (!r5)
noncomputable def CA (n_0:Int) (low:Int) (high:Int):Option (Bool) :=
 if low≤n_0 then (
  some (decide (n_0≤high)))
 else
 none
noncomputable def yC (x_0:Int) (f0_:Int→Option Bool):Option (Bool) :=
 (f0_ x_0).bind fun r1 =>
 some (!r1)
noncomputable def IE (l_0:List UInt8) (right:Int→Option Bool):Option (Bool) :=
 (BQ l_0 (fun x0_=>yC x0_ right)).bind fun r5 =>
 some (!r5)
noncomputable def yD (c_0:Int):Option (Bool) :=
 if (33:Int)≤c_0 then (
  some (decide (c_0≤126)))
 else
 none
noncomputable def rE (s_0:aC):Option (Bool) :=
 (CA (s_0.length:Int) 1 20).bind fun r0 =>
 if r0 then (
  bP (s_0.length≤1073741824) <|
  (IE s_0 (yD)).bind fun r1 =>
  some r1)
 else
 none
noncomputable def yE (p_0:aX):Option (Bool) :=
 (BZ p_0.words (rE)).bind fun r8 =>
 some r8
noncomputable def IF (m_0:bX):Option (Bool) :=
 (BZ m_0.words (rE)).bind fun r0 =>
 if r0 then (
  (sF m_0.papers (yE)).bind fun r1 =>
  some r1)
 else
 none
noncomputable def yF (p_0:aX):Option (Bool) :=
 (CA p_0.number 1 999).bind fun r7 =>
 some r7
noncomputable def IG (m_0:bX):Option (Bool) :=
 (sF m_0.papers (yF)).bind fun r0 =>
 some r0
noncomputable def yG (m_0:bX) (s0:Nat×(List (Int×aX))):Option ((Nat×(List (Int×aX)))⊕((List (Int×aX)))) :=
 if (s0.1:Int) < (m_0.papers.length:Int) then (
  (m_0.papers[s0.1]?).bind fun x0 =>
  some (.inl ((s0.1+1),(put s0.2 x0.number x0))))
 else
 some (.inr s0.2)
noncomputable def rF (m_0:bX):Option ((List (Int×aX))) :=
 (bA (yG m_0) (0,([]:List (Int×aX)))).bind fun e60 =>
 some e60
noncomputable def IH (m_0:bX):Option (Bool) :=
 (rF m_0).bind fun r0 =>
 some (decide ((r0.length:Int)=(m_0.papers.length:Int)))
noncomputable def yH (p_0:aX) (f0_:List (Int×aX)):Option (Bool) :=
 if p_0.of=0 then (
  some true)
 else
 none
noncomputable def II (m_0:bX):Option (Bool) :=
 (rF m_0).bind fun r0 =>
 (sF m_0.papers (fun x0_=>yH x0_ r0)).bind fun r1 =>
 some r1
noncomputable def yI (x0:aX) (s0:Nat×Bool):Option ((Nat×Bool)⊕(Bool)) :=
 if x0.of≠0 then (
  none)
 else
 some (.inr s0.2)
noncomputable def yJ (m_0:bX) (s0:Nat×Bool):Option ((Nat×Bool)⊕(Bool)) :=
 if (s0.1:Int) < (m_0.papers.length:Int) then (
  (m_0.papers[s0.1]?).bind fun x0 =>
  (bA (yI x0) (0,s0.2)).bind fun e85 =>
  some (.inl ((s0.1+1),e85)))
 else
 some (.inr s0.2)
noncomputable def IJ (m_0:bX):Option (Bool) :=
 (rF m_0).bind fun r0 =>
 (bA (yJ m_0) (0,true)).bind fun e38 =>
 some e38
noncomputable def CB (m_0:bX) (number:Int):Option (List aC) :=
 if number=0 then (
  some m_0.words)
 else
 (rF m_0).bind fun r0 =>
 some (((iB r0 number).getD (⟨0,0,0,0,([]:List aC)⟩:aX)).words)
noncomputable def yK (p_0:aX) (f0_:bX):Option (Bool) :=
 if (0:Int)≤p_0.from_ then (
  if p_0.from_≤p_0.to_ then (
   (CB f0_ p_0.of).bind fun r0 =>
   some (decide (p_0.to_≤(r0.length:Int))))
  else
  none)
 else
 none
noncomputable def IK (m_0:bX):Option (Bool) :=
 (sF m_0.papers (fun x0_=>yK x0_ m_0)).bind fun r0 =>
 some r0
noncomputable def IL  : Option (Unit) :=
 some ()
noncomputable def yL (m_0:bX):Option (Int) :=
 (IL).bind fun r7 =>
 (ID m_0).bind fun r0 =>
 if r0 then (
  (IF m_0).bind fun r1 =>
  if r1 then (
   (IG m_0).bind fun r2 =>
   if r2 then (
    (IH m_0).bind fun r3 =>
    if r3 then (
     (II m_0).bind fun r4 =>
     if r4 then (
      (IJ m_0).bind fun r5 =>
      if r5 then (
       (IK m_0).bind fun r6 =>
       if r6 then (
        some 0)
       else
       none)
      else
      none)
     else
     none)
    else
    none)
   else
   none)
  else
  none)
 else
 none
noncomputable def SP (b_0:aF) (__1:List Int) (text:aC):Option (aF⊕Int) :=
 (jZ (!b_0.state.moved) 8).bind fun r3=>match r3 with
 | .inl y6=>(
  (BY text).bind fun r8 =>
  (yL (⟨r8,([]:List aX)⟩:bX)).bind fun r0 =>
  (mB r0).bind fun r1=>match r1 with
  | .inl y0=>(
   some (.inl (⟨({b_0.state with motion:=(⟨r8,([]:List aX)⟩:bX),moved:=true}:cQ)⟩:aF)))
  | .inr _=>(
   none))
 | .inr _=>(
  none)
noncomputable def IM (s_0:List aX):Option (List aX) :=
 bP (([]:List aX).length+s_0.length≤1073741824) <|
 some (([]:List aX)++s_0)
noncomputable def IN (l_0:List aX) (x_1:aX):Option (List aX) :=
 (IM l_0).bind fun r7 =>
 bP (r7.length+([x_1]:List aX).length≤1073741824) <|
 some (r7++([x_1]:List aX))
noncomputable def SQ (b_0:aF) (l_1:List Int) (text:aC):Option (aF⊕Int) :=
 (jZ b_0.state.moved 8).bind fun r3=>match r3 with
 | .inl y6=>(
  (l_1[0]?).bind fun x9 =>
  (l_1[1]?).bind fun x0 =>
  (l_1[2]?).bind fun x1 =>
  (l_1[3]?).bind fun x2 =>
  (BY text).bind fun r1 =>
  (IN b_0.state.motion.papers (⟨x9,x0,x1,x2,r1⟩:aX)).bind fun r0 =>
  (yL (⟨b_0.state.motion.words,r0⟩:bX)).bind fun r2 =>
  (mB r2).bind fun r4=>match r4 with
  | .inl y0=>(
   some (.inl (⟨({b_0.state with motion:=(⟨b_0.state.motion.words,r0⟩:bX)}:cQ)⟩:aF)))
  | .inr _=>(
   none))
 | .inr _=>(
  none)
noncomputable def IP (a_0:aX) (b_1:aX):Option (Bool) :=
 if a_0.number≠b_1.number then (
  none)
 else
 some false
noncomputable def yM (choice:List Int) (r0:(List (Int×aX))) (s0:Nat):Option ((Nat)⊕(Unit)) :=
 if (s0:Int) < (choice.length:Int) then (
  (choice[s0]?).bind fun x0 =>
  if ((iB r0 x0).getD (⟨0,0,0,0,([]:List aC)⟩:aX)).of≠0 then (
   none)
  else
  some (.inl (s0+1)))
 else
 some (.inr ())
noncomputable def yN (choice:List Int) (r0:(List (Int×aX))) (x0:Int) (s0:Nat):Option ((Nat)⊕(Unit)) :=
 if (s0:Int) < (choice.length:Int) then (
  (choice[s0]?).bind fun x1 =>
  (IP ((iB r0 x0).getD (⟨0,0,0,0,([]:List aC)⟩:aX)) ((iB r0 x1).getD (⟨0,0,0,0,([]:List aC)⟩:aX))).bind fun r1 =>
  if r1 then (
   none)
  else
  some (.inl (s0+1)))
 else
 some (.inr ())
noncomputable def yO (choice:List Int) (r0:(List (Int×aX))) (s0:Nat):Option ((Nat)⊕(Unit)) :=
 if (s0:Int) < (choice.length:Int) then (
  (choice[s0]?).bind fun x0 =>
  (bA (yN choice r0 x0) 0).bind fun eA1 =>
  some (.inl (s0+1)))
 else
 some (.inr ())
noncomputable def IQ (m_0:bX) (choice:List Int):Option (Int) :=
 (rF m_0).bind fun r0 =>
 (bA (yM choice r0) 0).bind fun e41 =>
 (bA (yO choice r0) 0).bind fun eA1 =>
 some 0
noncomputable def yP (choice:List Int) (r0:(List (Int×aX))) (s0:Nat):Option ((Nat)⊕(Unit)) :=
 if (s0:Int) < (choice.length:Int) then (
  (choice[s0]?).bind fun x0 =>
  if ((iB r0 x0).getD (⟨0,0,0,0,([]:List aC)⟩:aX)).number≠x0 then (
   none)
  else
  if x0=0 then (
   none)
  else
  if 0 < (s0:Int) then (
   none)
  else
  some (.inl (s0+1)))
 else
 some (.inr ())
noncomputable def IR (m_0:bX) (choice:List Int):Option (Int) :=
 (yL m_0).bind fun r0 =>
 if r0≠0 then (
  none)
 else
 (rF m_0).bind fun r1 =>
 (bA (yP choice r1) 0).bind fun e56 =>
 (IQ m_0 choice).bind fun r2 =>
 some r2
noncomputable def yQ (l_0:List Int) (s0:Nat):Option ((Nat)⊕(Unit)) :=
 if (s0:Int) < (l_0.length:Int) then (
  (l_0[s0]?).bind fun x0 =>
  if x0≠0 then (
   none)
  else
  some (.inl (s0+1)))
 else
 some (.inr ())
noncomputable def IS (l_0:List Int):Option (Int) :=
 (bA (yQ l_0) 0).bind fun e16 =>
 some 0
noncomputable def IT (a_0:aX) (b_1:aX):Option (Int) :=
 bP (-9223372036854775808≤(a_0.from_ - b_1.from_)∧(a_0.from_ - b_1.from_)≤9223372036854775807) <|
 bP (-9223372036854775808≤(a_0.to_ - b_1.to_)∧(a_0.to_ - b_1.to_)≤9223372036854775807) <|
 bP (-9223372036854775808≤(a_0.number - b_1.number)∧(a_0.number - b_1.number)≤9223372036854775807) <|
 (IS ([(a_0.from_ - b_1.from_),(a_0.to_ - b_1.to_),(a_0.number - b_1.number)]:List Int)).bind fun r0 =>
 some r0
noncomputable def yR (f0_:bX) (s0:Nat):Option ((Nat)⊕(Unit)) :=
 if (s0:Int) < (f0_.papers.length:Int) then (
  none)
 else
 none
noncomputable def MY (yield:aX→Option Bool) (f0_:bX) (f1_:Int):Option (Unit) :=
 (bA (yR f0_) 0).bind fun e11=>some e11
noncomputable def yS (m_0:bX) (s1:Int×List aC×List bJ) (s0:Nat×List aX):Option ((Nat×List aX)⊕(List aX)) :=
 if (s0.1:Int) < (m_0.papers.length:Int) then (
  (m_0.papers[s0.1]?).bind fun x0 =>
  ((
   if x0.of=s1.1 then (
    bP (s0.2.length+1≤1073741824) <|
    some (s0.2++[x0]))
   else
   some s0.2
  ):Option (List aX)).bind fun t0 =>
  some (.inl ((s0.1+1),t0)))
 else
 some (.inr s0.2)
noncomputable def yT (x1:aX) (r0:List aC) (s1:Int×List aC×List bJ) (s0:Int×List aC×List bJ):Option ((Int×List aC×List bJ)⊕(Int×List aC×List bJ)) :=
 if s0.1 < x1.from_ then (
  bP (0≤s0.1) <|
  (r0[s0.1.toNat]?).bind fun x0 =>
  bP (s0.2.1.length+([x0]:List aC).length≤1073741824) <|
  bP (s0.2.2.length+([(⟨s1.1,s0.1⟩:bJ)]:List bJ).length≤1073741824) <|
  bP (-9223372036854775808≤(s0.1+1)∧(s0.1+1)≤9223372036854775807) <|
  some (.inl ((s0.1+1),(s0.2.1++([x0]:List aC)),(s0.2.2++([(⟨s1.1,s0.1⟩:bJ)]:List bJ)))))
 else
 some (.inr (s0.1,s0.2.1,s0.2.2))
noncomputable def yU (eB1:List aX) (l0:List aX) (choice:List Int) (r1:List aC) (s1:Int×List aC×List bJ) (R0_:(Int×List aC×List bJ)→Option (List aC×List bJ)) (s0:Nat×Int×List aC×List bJ):Option ((Nat×Int×List aC×List bJ)⊕(Int×List aC×List bJ)) :=
 if (s0.1:Int) < (eB1.length:Int) then (
  (l0[s0.1]?).bind fun x0 =>
  ((
   (xK choice x0.number).bind fun r2 =>
   ((
    if r2 then (
     ((
      (bA (yT x0 r1 s1) (s0.2.1,s0.2.2.1,s0.2.2.2)).bind fun eA1 =>
      some (eA1.1,eA1.2.1,eA1.2.2)
     ):Option (Int×List aC×List bJ)).bind fun t2 =>
     (R0_ (x0.number,t2.2.1,t2.2.2)).bind fun r0 =>
     some (x0.to_,r0.1,r0.2))
    else
    some (s0.2.1,s0.2.2.1,s0.2.2.2)
   ):Option (Int×List aC×List bJ)).bind fun t0 =>
   some (t0.1,t0.2.1,t0.2.2)
  ):Option (Int×List aC×List bJ)).bind fun t1 =>
  some (.inl ((s0.1+1),t1.1,t1.2.1,t1.2.2)))
 else
 some (.inr (s0.2.1,s0.2.2.1,s0.2.2.2))
noncomputable def yV (r0:List aC) (s1:Int×List aC×List bJ) (s0:Int×List aC×List bJ):Option ((Int×List aC×List bJ)⊕(Int×List aC×List bJ)) :=
 if s0.1 < (r0.length:Int) then (
  bP (0≤s0.1) <|
  (r0[s0.1.toNat]?).bind fun x0 =>
  bP (s0.2.1.length+([x0]:List aC).length≤1073741824) <|
  bP (s0.2.2.length+([(⟨s1.1,s0.1⟩:bJ)]:List bJ).length≤1073741824) <|
  bP (-9223372036854775808≤(s0.1+1)∧(s0.1+1)≤9223372036854775807) <|
  some (.inl ((s0.1+1),(s0.2.1++([x0]:List aC)),(s0.2.2++([(⟨s1.1,s0.1⟩:bJ)]:List bJ)))))
 else
 some (.inr (s0.1,s0.2.1,s0.2.2))
noncomputable def yW (m_0:bX) (choice:List Int) (R0_:(Int×List aC×List bJ)→Option (List aC×List bJ)) (s0:Int×List aC×List bJ):Option (List aC×List bJ) :=
 (CB m_0 s0.1).bind fun r0 =>
 ((
  (bA (yS m_0 s0) (0,([]:List aX))).bind fun eA1 =>
  bP (eA1.Nodup) <|
  (iT (IT) eA1).bind fun l0 =>
  (bA (yU eA1 l0 choice r0 s0 R0_) (0,0,s0.2.1,s0.2.2)).bind fun eB1 =>
  some (eB1.1,eB1.2.1,eB1.2.2)
 ):Option (Int×List aC×List bJ)).bind fun t0 =>
 ((
  (bA (yV r0 s0) (t0.1,t0.2.1,t0.2.2)).bind fun eC1 =>
  some (eC1.1,eC1.2.1,eC1.2.2)
 ):Option (Int×List aC×List bJ)).bind fun t1 =>
 some (t1.2.1,t1.2.2)
noncomputable def mI (m_0:bX) (choice:List Int):Nat→(Int×List aC×List bJ)→Option (List aC×List bJ)
 | 0,_=>none
 | n_+1,s0=>yW m_0 choice (mI m_0 choice n_) s0
noncomputable def CC (m_0:bX) (choice:List Int):Option (List aC×List bJ×Int) :=
 (IR m_0 choice).bind fun r0 =>
 if r0≠0 then (
  some (([]:List aC),([]:List bJ),r0))
 else
 (AY (fun n_=>mI m_0 choice n_ (0,([]:List aC),([]:List bJ)))).bind fun r1 =>
 some (r1.1,r1.2,0)
noncomputable def SR (b_0:aF) (l_1:List Int) (__2:aC):Option (aF⊕Int) :=
 (jZ b_0.state.moved 8).bind fun r3=>match r3 with
 | .inl y6=>(
  (l_1[0]?).bind fun x8 =>
  (sC b_0.state.choice x8).bind fun r0 =>
  (jZ (!r0.2) 6).bind fun r2=>match r2 with
  | .inl y0=>(
   (sD b_0.state.choice).bind fun r1 =>
   bP (0≤r0.1) <|
   bP (r0.1.toNat≤r1.length) <|
   bP (r1.length+([x8]:List Int).length≤1073741824) <|
   (CC b_0.state.motion (r1.take r0.1.toNat++([x8]:List Int)++r1.drop r0.1.toNat)).bind fun r4 =>
   (mB r4.2.2).bind fun r5=>match r5 with
   | .inl y1=>(
    some (.inl (⟨({b_0.state with choice:=(r1.take r0.1.toNat++([x8]:List Int)++r1.drop r0.1.toNat)}:cQ)⟩:aF)))
   | .inr _=>(
    none))
  | .inr _=>(
   none))
 | .inr _=>(
  none)
noncomputable def SS (b_0:aF) (l_1:List Int) (__2:aC):Option (aF⊕Int) :=
 if b_0.state.moved then (
  (jZ (!b_0.state.bound) 8).bind fun r1=>match r1 with
  | .inl y1=>(
   (CC b_0.state.motion b_0.state.choice).bind fun r0 =>
   (mB r0.2.2).bind fun r2=>match r2 with
   | .inl y2=>(
    (RR r0.1 [32]).bind fun r3 =>
    (PU b_0 l_1 r3).bind fun r4=>match r4 with
    | .inl y0=>(
     some (.inl (⟨({y0.state with motion:=(⟨([]:List aC),([]:List aX)⟩:bX),moved:=false,choice:=([]:List Int)}:cQ)⟩:aF)))
    | .inr _=>(
     none))
   | .inr _=>(
    none))
  | .inr _=>(
   none))
 else
 none
noncomputable def SU  : Option ((List (aC×dN))) :=
 some (put (put (put (put (put (put (put (put (put (put (put (put (put (put (put (put (put ([]:List (aC×dN)) [100,97,121] (⟨1,false,(some 77)⟩:dN)) [115,97,121] (⟨1,true,(some 78)⟩:dN)) [98,105,110,100] (⟨3,false,(some 79)⟩:dN)) [99,104,97,110,103,101] (⟨2,true,(some 80)⟩:dN)) [114,101,109,111,118,101] (⟨2,false,(some 81)⟩:dN)) [97,100,100] (⟨3,true,(some 82)⟩:dN)) [99,105,116,101] (⟨2,false,(some 83)⟩:dN)) [104,105,100,101] (⟨3,false,(some 84)⟩:dN)) [104,111,117,115,101] (⟨1,false,(some 85)⟩:dN)) [100,105,118,105,100,101] (⟨4,false,(some 86)⟩:dN)) [116,101,108,108] (⟨3,false,(some 87)⟩:dN)) [112,97,105,114] (⟨2,false,(some 88)⟩:dN)) [114,101,115,117,108,116] (⟨0,false,(some 89)⟩:dN)) [109,111,118,101] (⟨0,true,(some 90)⟩:dN)) [112,97,112,101,114] (⟨4,true,(some 91)⟩:dN)) [97,100,111,112,116] (⟨1,false,(some 92)⟩:dN)) [111,114,100,101,114] (⟨1,false,(some 93)⟩:dN))
noncomputable def SV (s_0:aC):Option (Int⊕Unit) :=
 (RP s_0).bind fun r1 =>
 if r1.2 then (
  none)
 else
 (RQ r1.1).bind fun r0 =>
 if r0=s_0 then (
  (nH r1.1 (-999999999) 999999999).bind fun r2 =>
  (jZ r2 4).bind fun r3=>match r3 with
  | .inl y0=>(
   some (.inl r1.1))
  | .inr _=>(
   none))
 else
 none
noncomputable def MZ (q:Option Nat) (b_0:aF) (l_1:List Int) (__2:aC):Option (aF⊕Int) :=
 if q=some 77 then RX b_0 l_1 __2
 else if q=some 78 then PU b_0 l_1 __2
 else if q=some 79 then RZ b_0 l_1 __2
 else if q=some 80 then SC b_0 l_1 __2
 else if q=some 81 then SD b_0 l_1 __2
 else if q=some 82 then SE b_0 l_1 __2
 else if q=some 83 then SH b_0 l_1 __2
 else if q=some 84 then SJ b_0 l_1 __2
 else if q=some 85 then SK b_0 l_1 __2
 else if q=some 86 then SL b_0 l_1 __2
 else if q=some 87 then SM b_0 l_1 __2
 else if q=some 88 then SN b_0 l_1 __2
 else if q=some 89 then SO b_0 l_1 __2
 else if q=some 90 then SP b_0 l_1 __2
 else if q=some 91 then SQ b_0 l_1 __2
 else if q=some 92 then SR b_0 l_1 __2
 else if q=some 93 then SS b_0 l_1 __2
 else none
noncomputable def EE (r7:(List (aC×dN))) (r4:aC×aC×Bool) (s0:Nat×aC×Bool×List Int):Option ((Nat×aC×Bool×List Int)⊕(aC×Bool×List Int)) :=
 if (s0.1:Int) < ((iB r7 r4.1).getD (⟨0,false,(none:Option Nat)⟩:dN)).many then (
  (jZ s0.2.2.1 4).bind fun r1=>match r1 with
  | .inl y1=>(
   (PR s0.2.1 [32]).bind fun r0 =>
   (SV r0.1).bind fun r2=>match r2 with
   | .inl y0=>(
    bP (s0.2.2.2.length+1≤1073741824) <|
    bP (-9223372036854775808≤((s0.1:Int)+1)∧((s0.1:Int)+1)≤9223372036854775807) <|
    some (.inl ((s0.1+1),r0.2.1,r0.2.2,(s0.2.2.2++[y0]))))
   | .inr _=>(
    none))
  | .inr _=>(
   none))
 else
 some (.inr (s0.2.1,s0.2.2.1,s0.2.2.2))
noncomputable def SW (b_0:aF) (text:aC):Option (aF×Int) :=
 (PR text [32]).bind fun r4 =>
 (SU).bind fun r7 =>
 (jZ ((iB r7 r4.1).isSome) 4).bind fun r0=>match r0 with
 | .inl y1=>(
  (bA (EE r7 r4) (0,r4.2.1,r4.2.2,([]:List Int))).bind fun e99 =>
  (jZ (e99.2.1==((iB r7 r4.1).getD (⟨0,false,(none:Option Nat)⟩:dN)).text) 4).bind fun r1=>match r1 with
  | .inl y2=>(
   (MZ (((iB r7 r4.1).getD (⟨0,false,(none:Option Nat)⟩:dN)).do_) b_0 e99.2.2 e99.1).bind fun r2=>match r2 with
   | .inl y0=>(
    some (y0,0))
   | .inr y0=>(
    some (b_0,y0)))
  | .inr _=>(
   none))
 | .inr _=>(
  none)
noncomputable def EF (lines:List aC) (s:Nat×aF×List Int):Option ((Nat×aF×List Int)⊕(aF×List Int)) :=
 if (s.1:Int) < (lines.length:Int) then (
  (lines[s.1]?).bind fun x =>
  (SW s.2.1 x).bind fun r =>
  bP (s.2.2.length+1≤1073741824) <|
  some (.inl ((s.1+1),r.1,(s.2.2++[r.2]))))
 else
 some (.inr s.2)
noncomputable def SX (lines:List aC):Option (aF×List Int) :=
 (bA (EF lines) (0,(⟨(⟨0,0,(⟨0,0,0,0,([]:List dR)⟩:cA),false,([]:List aT),([]:List fQ),([]:List aC),(⟨([]:List aC),([]:List aX)⟩:bX),false,([]:List Int),(⟨0,(⟨([]:List Int),([]:List Int)⟩:bW),(⟨([]:List Int),([]:List Int)⟩:bW),([]:List fE),([]:List dX),0,0,0,0⟩:aW),false,([]:List UInt8)⟩:cQ)⟩:aF),([]:List Int))).bind fun e =>
 some e
noncomputable def m18 (lines:List aC):Option (cQ×List Int×Int) :=
 (m19 lines).bind fun r2 =>
 if r2≠0 then (
  none)
 else
 (SX lines).bind fun r0 =>
 some (r0.1.state,r0.2,0)
noncomputable def oW (turned:Bool) (s0:Int×Int×cL):Option ((Int×Int×cL)⊕(cL)) :=
 if 0≤s0.2.1 then (
  bP (0≤s0.1∧0 < (8:Int)) <|
  ((
   if turned then (
    some (7 - (s0.1%8)))
   else
   some (s0.1%8)
  ):Option (Int)).bind fun t0 =>
  bP (-9223372036854775808≤(48+t0)∧(48+t0)≤9223372036854775807) <|
  bP (0≤(48+t0)∧(48+t0)≤255) <|
  bP (s0.2.1 < 6) <|
  bP (0≤s0.1∧s0.1≤9223372036854775807∧0 < (8:Int)) <|
  bP (-9223372036854775808≤(s0.2.1 - 1)∧(s0.2.1 - 1)≤9223372036854775807) <|
  some (.inl ((s0.1/8),(s0.2.1 - 1),(cL.set s0.2.2 s0.2.1.toNat (48+t0)))))
 else
 some (.inr s0.2.2)
noncomputable def CD (n_0:Int) (many:Int) (turned:Bool):Option (aC) :=
 bP (-9223372036854775808≤(many - 1)∧(many - 1)≤9223372036854775807) <|
 (bA (oW turned) (n_0,(many - 1),cL.zero)).bind fun e46 =>
 bP (∀ v∈cL.vals e46,0≤v∧v≤255) <|
 bP (0≤many) <|
 bP (many.toNat≤6) <|
 some (((cL.vals e46).map wB).take many.toNat)
noncomputable def oX (s_0:aC) (s0:Nat×Int):Option ((Nat×Int)⊕(Int)) :=
 if (s0.1:Int) < (s_0.length:Int) then (
  (s_0[s0.1]?).bind fun x0 =>
  bP (-9223372036854775808≤(29*s0.2)∧(29*s0.2)≤9223372036854775807) <|
  bP (-9223372036854775808≤((29*s0.2)+(x0.toNat:Int))∧((29*s0.2)+(x0.toNat:Int))≤9223372036854775807) <|
  bP (-9223372036854775808≤(((29*s0.2)+(x0.toNat:Int))+3)∧(((29*s0.2)+(x0.toNat:Int))+3)≤9223372036854775807) <|
  bP (0≤(((29*s0.2)+(x0.toNat:Int))+3)∧0 < (262139:Int)) <|
  some (.inl ((s0.1+1),((((29*s0.2)+(x0.toNat:Int))+3)%262139))))
 else
 some (.inr s0.2)
noncomputable def IU (s_0:aC):Option (aC) :=
 bP (s_0.length≤1073741824) <|
 (bA (oX s_0) (0,11)).bind fun e47 =>
 (CD (s_0.length:Int) 4 false).bind fun r0 =>
 bP ([91].length+r0.length≤1073741824) <|
 (CD (s_0.length:Int) 4 true).bind fun r1 =>
 bP (([91]++r0).length+r1.length≤1073741824) <|
 (CD e47 6 false).bind fun r2 =>
 bP ((([91]++r0)++r1).length+r2.length≤1073741824) <|
 bP (((([91]++r0)++r1)++r2).length+[93].length≤1073741824) <|
 bP ((((([91]++r0)++r1)++r2)++[93]).length+s_0.length≤1073741824) <|
 bP (((((([91]++r0)++r1)++r2)++[93])++s_0).length+[10].length≤1073741824) <|
 some (((((([91]++r0)++r1)++r2)++[93])++s_0)++[10])
noncomputable def oY (lines:List aC) (s0:Nat×List UInt8):Option ((Nat×List UInt8)⊕(List UInt8)) :=
 if (s0.1:Int) < (lines.length:Int) then (
  (lines[s0.1]?).bind fun x0 =>
  (IU x0).bind fun r0 =>
  bP (s0.2.length+r0.length≤1073741824) <|
  some (.inl ((s0.1+1),(s0.2++r0))))
 else
 some (.inr s0.2)
noncomputable def NA (lines:List aC):Option (List UInt8) :=
 (bA (oY lines) (0,([]:List UInt8))).bind fun e64 =>
 some e64
noncomputable def m6 (lines:List aC):Option (List UInt8×Int) :=
 (m19 lines).bind fun r1 =>
 if r1≠0 then (
  some (([]:List UInt8),r1))
 else
 (NA lines).bind fun r0 =>
 some (r0,0)
noncomputable def oZ (a_0:List aC) (b_1:List aC) (s0:Nat):Option ((Nat)⊕((Unit)⊕Bool)) :=
 if (s0:Int) < (a_0.length:Int) then (
  (a_0[s0]?).bind fun x0 =>
  (b_1[s0]?).bind fun x1 =>
  if x0≠x1 then (
   some (.inr (.inr false)))
  else
  some (.inl (s0+1)))
 else
 some (.inr (.inl ()))
noncomputable def KK (a_0:List aC) (b_1:List aC):Option (Bool) :=
 if (a_0.length:Int)≠(b_1.length:Int) then (
  some false)
 else
 (bA (oZ a_0 b_1) 0).bind fun e31=>match e31 with
 | .inr z=>some z
 | .inl t0 =>
 some true
noncomputable def m5  : Option (Bool) :=
 (RW).bind fun r1 =>
 (m18 r1).bind fun r8 =>
 (m6 ([[97]]:List aC)).bind fun r0 =>
 if r8.2.2=0 then (
  if r0.2=0 then (
   if (r8.2.1.length:Int)=18 then (
    (r8.2.1[11]?).bind fun x0 =>
    if x0=10 then (
     (r8.2.1[17]?).bind fun x1 =>
     if x1=0 then (
      if r8.1.bound then (
       if (r8.1.results.length:Int)=1 then (
        (r8.1.results[0]?).bind fun x2 =>
        if (x2.toNat:Int)=1 then (
         (KK r8.1.cites ([[118,111,108,46,32,51,44,32,99,111,108,46,32,49,44,32,108,46,32,50]]:List aC)).bind fun r2 =>
         if r2 then (
          some (decide (r0.1=[91,48,48,48,49,55,55,55,54,48,48,48,54,52,51,93,97,10])))
         else
         none)
        else
        none)
       else
       none)
      else
      none)
     else
     none)
    else
    none)
   else
   none)
  else
  none)
 else
 none
noncomputable def m7 (l_0:List aC):Option (List aC) :=
 bP (([]:List aC).length+l_0.length≤1073741824) <|
 some (([]:List aC)++l_0)
noncomputable def lS (l_0:List UInt8) (s0:Nat×Int):Option ((Nat×Int)⊕((Int)⊕Int)) :=
 if (s0.1:Int) < (l_0.length:Int) then (
  (l_0[s0.1]?).bind fun x0 =>
  ((
   if (x0.toNat:Int) < 48 then (
    some true)
   else
   some (decide (55 < (x0.toNat:Int)))
  ):Option (Bool)).bind fun t0 =>
  if t0 then (
   some (.inr (.inr (-1))))
  else
  bP (-9223372036854775808≤(8*s0.2)∧(8*s0.2)≤9223372036854775807) <|
  bP (-9223372036854775808≤((8*s0.2)+(((x0.toNat:Int) - 48)%256))∧((8*s0.2)+(((x0.toNat:Int) - 48)%256))≤9223372036854775807) <|
  some (.inl ((s0.1+1),((8*s0.2)+(((x0.toNat:Int) - 48)%256)))))
 else
 some (.inr (.inl s0.2))
noncomputable def uU (l_0:List UInt8):Option (Int) :=
 (bA (lS l_0) (0,0)).bind fun e47=>match e47 with
 | .inr z=>some z
 | .inl t0 =>
 some t0
noncomputable def EG (f0_:List UInt8) (yield:Int→aC→Option Bool) (s0:Int):Option ((Int)⊕((Unit)⊕Unit)) :=
 bP (-9223372036854775808≤((f0_.length:Int) - s0)∧((f0_.length:Int) - s0)≤9223372036854775807) <|
 if 17≤((f0_.length:Int) - s0) then (
  bP (-9223372036854775808≤(s0+1)∧(s0+1)≤9223372036854775807) <|
  bP (-9223372036854775808≤((s0+1)+4)∧((s0+1)+4)≤9223372036854775807) <|
  bP (0≤(s0+1)) <|
  bP (0≤((s0+1)+4)) <|
  bP ((s0+1).toNat≤((s0+1)+4).toNat∧((s0+1)+4).toNat≤f0_.length) <|
  (uU ((f0_.drop ((s0+1).toNat)).take (((s0+1)+4).toNat - ((s0+1).toNat)))).bind fun r0 =>
  ((
   (nH r0 0 400).bind fun r1 =>
   if r1 then (
    bP (-9223372036854775808≤(17+r0)∧(17+r0)≤9223372036854775807) <|
    some (decide (((f0_.length:Int) - s0) < (17+r0))))
   else
   some true
  ):Option (Bool)).bind fun t0 =>
  if t0 then (
   some (.inr (.inr ())))
  else
  bP (-9223372036854775808≤(s0+17)∧(s0+17)≤9223372036854775807) <|
  bP (-9223372036854775808≤((s0+17)+r0)∧((s0+17)+r0)≤9223372036854775807) <|
  bP (-9223372036854775808≤(s0+16)∧(s0+16)≤9223372036854775807) <|
  bP (-9223372036854775808≤(((s0+17)+r0) - 1)∧(((s0+17)+r0) - 1)≤9223372036854775807) <|
  bP (0≤(s0+16)) <|
  bP (0≤(((s0+17)+r0) - 1)) <|
  bP ((s0+16).toNat≤(((s0+17)+r0) - 1).toNat∧(((s0+17)+r0) - 1).toNat≤f0_.length) <|
  ((
   (IU ((f0_.drop ((s0+16).toNat)).take ((((s0+17)+r0) - 1).toNat - ((s0+16).toNat)))).bind fun r2 =>
   bP (0≤s0) <|
   bP (0≤((s0+17)+r0)) <|
   bP (s0.toNat≤((s0+17)+r0).toNat∧((s0+17)+r0).toNat≤f0_.length) <|
   if r2≠((f0_.drop s0.toNat).take (((s0+17)+r0).toNat - s0.toNat)) then (
    some true)
   else
   (yield ((s0+17)+r0) ((f0_.drop ((s0+16).toNat)).take ((((s0+17)+r0) - 1).toNat - ((s0+16).toNat)))).bind fun r3 =>
   some (!r3)
  ):Option (Bool)).bind fun t1 =>
  if t1 then (
   some (.inr (.inr ())))
  else
  some (.inl ((s0+17)+r0)))
 else
 some (.inr (.inl ()))
noncomputable def m39 (yield:Int→aC→Option Bool) (f0_:List UInt8):Option (Unit) :=
 (bA (EG f0_ yield) 0).bind fun eA1=>match eA1 with
 | .inr z=>some z
 | .inl t0 =>
 some ()
noncomputable def kY (b_0:List UInt8) (s0:Int×Int×List aC):Option ((Int×Int×List aC)⊕((Int×List aC)⊕((Int×List aC)⊕(Int×List aC)))) :=
 bP (-9223372036854775808≤((b_0.length:Int) - s0.1)∧((b_0.length:Int) - s0.1)≤9223372036854775807) <|
 if 17≤((b_0.length:Int) - s0.1) then (
  bP (-9223372036854775808≤(s0.1+1)∧(s0.1+1)≤9223372036854775807) <|
  bP (-9223372036854775808≤((s0.1+1)+4)∧((s0.1+1)+4)≤9223372036854775807) <|
  bP (0≤(s0.1+1)) <|
  bP (0≤((s0.1+1)+4)) <|
  bP ((s0.1+1).toNat≤((s0.1+1)+4).toNat∧((s0.1+1)+4).toNat≤b_0.length) <|
  (uU ((b_0.drop ((s0.1+1).toNat)).take (((s0.1+1)+4).toNat - ((s0.1+1).toNat)))).bind fun r0 =>
  ((
   (nH r0 0 400).bind fun r1 =>
   if r1 then (
    bP (-9223372036854775808≤(17+r0)∧(17+r0)≤9223372036854775807) <|
    some (decide (((b_0.length:Int) - s0.1) < (17+r0))))
   else
   some true
  ):Option (Bool)).bind fun t1 =>
  if t1 then (
   some (.inr (.inr (.inl (s0.2.1,s0.2.2)))))
  else
  bP (-9223372036854775808≤(s0.1+17)∧(s0.1+17)≤9223372036854775807) <|
  bP (-9223372036854775808≤((s0.1+17)+r0)∧((s0.1+17)+r0)≤9223372036854775807) <|
  bP (-9223372036854775808≤(s0.1+16)∧(s0.1+16)≤9223372036854775807) <|
  bP (-9223372036854775808≤(((s0.1+17)+r0) - 1)∧(((s0.1+17)+r0) - 1)≤9223372036854775807) <|
  bP (0≤(s0.1+16)) <|
  bP (0≤(((s0.1+17)+r0) - 1)) <|
  bP ((s0.1+16).toNat≤(((s0.1+17)+r0) - 1).toNat∧(((s0.1+17)+r0) - 1).toNat≤b_0.length) <|
  (IU ((b_0.drop ((s0.1+16).toNat)).take ((((s0.1+17)+r0) - 1).toNat - ((s0.1+16).toNat)))).bind fun r2 =>
  bP (0≤s0.1) <|
  bP (0≤((s0.1+17)+r0)) <|
  bP (s0.1.toNat≤((s0.1+17)+r0).toNat∧((s0.1+17)+r0).toNat≤b_0.length) <|
  if r2≠((b_0.drop s0.1.toNat).take (((s0.1+17)+r0).toNat - s0.1.toNat)) then (
   some (.inr (.inr (.inl (s0.2.1,s0.2.2)))))
  else
  ((
   if (s0.2.2.length:Int)=60 then (
    some (.inl ()))
   else
   bP (s0.2.2.length+1≤1073741824) <|
   some (.inr (((s0.1+17)+r0),(s0.2.2++[((b_0.drop ((s0.1+16).toNat)).take ((((s0.1+17)+r0) - 1).toNat - ((s0.1+16).toNat)))])))
  ):Option ((Unit)⊕(Int×List aC))).bind fun t2=>match t2 with
  | .inl t3=>(
   some (.inr (.inr (.inr (s0.2.1,s0.2.2)))))
  | .inr t0=>(
   some (.inl (((s0.1+17)+r0),t0.1,t0.2))))
 else
 some (.inr (.inl (s0.2.1,s0.2.2)))
noncomputable def m8 (b_0:List UInt8):Option (List aC×Int) :=
 ((
  (bA (kY b_0) (0,0,([]:List aC))).bind fun eA1=>match eA1 with
  | .inr z=>some z
  | .inl t0 =>
  some (.inl (t0.1,t0.2))
 ):Option ((Int×List aC)⊕(Int×List aC))).bind fun t3=>match t3 with
 | .inl t1=>(
  some (t1.2,t1.1))
 | .inr t2=>(
  some (t2.2,t2.1))
noncomputable def rG (lines:List aC) (s0:Nat):Option ((Nat)⊕((Unit)⊕Bool)) :=
 if (s0:Int) < (lines.length:Int) then (
  (lines[s0]?).bind fun x0 =>
  if 400 < (x0.length:Int) then (
   some (.inr (.inr false)))
  else
  some (.inl (s0+1)))
 else
 some (.inr (.inl ()))
noncomputable def m9 (lines:List aC):Option (Bool) :=
 (bA (rG lines) 0).bind fun e16=>match e16 with
 | .inr z=>some z
 | .inl t0 =>
 some (decide ((lines.length:Int)≤60))
noncomputable def pA (many:Int) (turned:Bool) (s0:Nat×Int×aC):Option ((Nat×Int×aC)⊕(aC)) :=
 if (s0.1:Int) < many then (
  bP (0≤s0.2.1∧0 < (8:Int)) <|
  ((
   if turned then (
    some (7 - (s0.2.1%8)))
   else
   some (s0.2.1%8)
  ):Option (Int)).bind fun t0 =>
  bP (-9223372036854775808≤(48+t0)∧(48+t0)≤9223372036854775807) <|
  bP (0≤(48+t0)∧(48+t0)≤255) <|
  bP (([(UInt8.ofNat (48+t0).toNat)]:List UInt8).length+s0.2.2.length≤1073741824) <|
  bP (0≤s0.2.1∧s0.2.1≤9223372036854775807∧0 < (8:Int)) <|
  bP (-9223372036854775808≤((s0.1:Int)+1)∧((s0.1:Int)+1)≤9223372036854775807) <|
  some (.inl ((s0.1+1),(s0.2.1/8),(([(UInt8.ofNat (48+t0).toNat)]:List UInt8)++s0.2.2))))
 else
 some (.inr s0.2.2)
noncomputable def CE (n_0:Int) (many:Int) (turned:Bool):Option (aC) :=
 (bA (pA many turned) (0,n_0,[])).bind fun e26 =>
 some e26
noncomputable def pB (s_0:aC) (s0:Nat×Int):Option ((Nat×Int)⊕(Int)) :=
 if (s0.1:Int) < (s_0.length:Int) then (
  bP (-9223372036854775808≤(29*s0.2)∧(29*s0.2)≤9223372036854775807) <|
  (s_0[s0.1]?).bind fun x0 =>
  bP (-9223372036854775808≤((29*s0.2)+(x0.toNat:Int))∧((29*s0.2)+(x0.toNat:Int))≤9223372036854775807) <|
  bP (-9223372036854775808≤(((29*s0.2)+(x0.toNat:Int))+3)∧(((29*s0.2)+(x0.toNat:Int))+3)≤9223372036854775807) <|
  bP (0≤(((29*s0.2)+(x0.toNat:Int))+3)∧0 < (262139:Int)) <|
  bP (-9223372036854775808≤((s0.1:Int)+1)∧((s0.1:Int)+1)≤9223372036854775807) <|
  some (.inl ((s0.1+1),((((29*s0.2)+(x0.toNat:Int))+3)%262139))))
 else
 some (.inr s0.2)
noncomputable def KL (s_0:aC):Option (aC) :=
 (bA (pB s_0) (0,11)).bind fun e35 =>
 (CE (s_0.length:Int) 4 false).bind fun r0 =>
 bP ([91].length+r0.length≤1073741824) <|
 (CE (s_0.length:Int) 4 true).bind fun r1 =>
 bP (([91]++r0).length+r1.length≤1073741824) <|
 (CE e35 6 false).bind fun r2 =>
 bP ((([91]++r0)++r1).length+r2.length≤1073741824) <|
 bP (((([91]++r0)++r1)++r2).length+[93].length≤1073741824) <|
 bP ((((([91]++r0)++r1)++r2)++[93]).length+s_0.length≤1073741824) <|
 bP (((((([91]++r0)++r1)++r2)++[93])++s_0).length+[10].length≤1073741824) <|
 some (((((([91]++r0)++r1)++r2)++[93])++s_0)++[10])
noncomputable def pC (lines:List aC) (s0:Nat×aC):Option ((Nat×aC)⊕(aC)) :=
 if (s0.1:Int) < (lines.length:Int) then (
  (lines[s0.1]?).bind fun x0 =>
  (KL x0).bind fun r0 =>
  bP (s0.2.length+r0.length≤1073741824) <|
  some (.inl ((s0.1+1),(s0.2++r0))))
 else
 some (.inr s0.2)
noncomputable def NB (lines:List aC):Option (aC) :=
 (bA (pC lines) (0,[])).bind fun e18 =>
 some e18
noncomputable def lT (s1:Int×List aC) (b_0:aC) (s0:Int×Int):Option ((Int×Int)⊕((Int)⊕((Int×List aC)⊕((Int×List aC)⊕(List aC×Int))))) :=
 bP (-9223372036854775808≤(s1.1+4)∧(s1.1+4)≤9223372036854775807) <|
 if s0.2≤(s1.1+4) then (
  ((
   bP (0≤s0.2) <|
   (b_0[s0.2.toNat]?).bind fun x1 =>
   if (x1.toNat:Int) < 48 then (
    some true)
   else
   some (decide (55 < (x1.toNat:Int)))
  ):Option (Bool)).bind fun t0 =>
  if t0 then (
   some (.inr (.inr (.inr (.inr (s1.2,s1.1))))))
  else
  bP (-9223372036854775808≤(8*s0.1)∧(8*s0.1)≤9223372036854775807) <|
  bP (0≤s0.2) <|
  (b_0[s0.2.toNat]?).bind fun x0 =>
  bP (-9223372036854775808≤((8*s0.1)+(((x0.toNat:Int) - 48)%256))∧((8*s0.1)+(((x0.toNat:Int) - 48)%256))≤9223372036854775807) <|
  bP (-9223372036854775808≤(s0.2+1)∧(s0.2+1)≤9223372036854775807) <|
  some (.inl (((8*s0.1)+(((x0.toNat:Int) - 48)%256)),(s0.2+1))))
 else
 some (.inr (.inl s0.1))
noncomputable def jJ (b_0:aC) (s0:Int×List aC):Option ((Int×List aC)⊕((Int×List aC)⊕(List aC×Int))) :=
 ((
  if (s0.2.length:Int) < 60 then (
   bP (-9223372036854775808≤(s0.1+17)∧(s0.1+17)≤9223372036854775807) <|
   some (decide ((s0.1+17)≤(b_0.length:Int))))
  else
  some false
 ):Option (Bool)).bind fun t1 =>
 if t1 then (
  bP (-9223372036854775808≤(s0.1+1)∧(s0.1+1)≤9223372036854775807) <|
  (bA (lT s0 b_0) (0,(s0.1+1))).bind fun eA1=>match eA1 with
  | .inr z=>some z
  | .inl t0 =>
  ((
   if 400 < t0 then (
    some true)
   else
   bP (-9223372036854775808≤(s0.1+17)∧(s0.1+17)≤9223372036854775807) <|
   bP (-9223372036854775808≤((s0.1+17)+t0)∧((s0.1+17)+t0)≤9223372036854775807) <|
   if (b_0.length:Int) < ((s0.1+17)+t0) then (
    some true)
   else
   bP (-9223372036854775808≤(s0.1+16)∧(s0.1+16)≤9223372036854775807) <|
   bP (-9223372036854775808≤((s0.1+16)+t0)∧((s0.1+16)+t0)≤9223372036854775807) <|
   bP (0≤(s0.1+16)) <|
   bP (0≤((s0.1+16)+t0)) <|
   bP ((s0.1+16).toNat≤((s0.1+16)+t0).toNat∧((s0.1+16)+t0).toNat≤b_0.length) <|
   (KL ((b_0.drop ((s0.1+16).toNat)).take (((s0.1+16)+t0).toNat - ((s0.1+16).toNat)))).bind fun r0 =>
   bP (0≤s0.1) <|
   bP (0≤((s0.1+17)+t0)) <|
   bP (s0.1.toNat≤((s0.1+17)+t0).toNat∧((s0.1+17)+t0).toNat≤b_0.length) <|
   some (decide (r0≠((b_0.drop s0.1.toNat).take (((s0.1+17)+t0).toNat - s0.1.toNat))))
  ):Option (Bool)).bind fun t2 =>
  if t2 then (
   some (.inr (.inr (s0.2,s0.1))))
  else
  bP (-9223372036854775808≤(s0.1+16)∧(s0.1+16)≤9223372036854775807) <|
  bP (-9223372036854775808≤((s0.1+16)+t0)∧((s0.1+16)+t0)≤9223372036854775807) <|
  bP (0≤(s0.1+16)) <|
  bP (0≤((s0.1+16)+t0)) <|
  bP ((s0.1+16).toNat≤((s0.1+16)+t0).toNat∧((s0.1+16)+t0).toNat≤b_0.length) <|
  bP (s0.2.length+1≤1073741824) <|
  bP (-9223372036854775808≤(s0.1+17)∧(s0.1+17)≤9223372036854775807) <|
  bP (-9223372036854775808≤((s0.1+17)+t0)∧((s0.1+17)+t0)≤9223372036854775807) <|
  some (.inl (((s0.1+17)+t0),(s0.2++[((b_0.drop ((s0.1+16).toNat)).take (((s0.1+16)+t0).toNat - ((s0.1+16).toNat)))]))))
 else
 some (.inr (.inl (s0.1,s0.2)))
noncomputable def NC (b_0:aC):Option (List aC×Int) :=
 (bA (jJ b_0) (0,([]:List aC))).bind fun eA1=>match eA1 with
 | .inr z=>some z
 | .inl t0 =>
 some (t0.2,t0.1)
noncomputable def uB (lines:List aC) (s0:Nat×Int):Option ((Nat×Int)⊕(Int)) :=
 if (s0.1:Int) < (lines.length:Int) then (
  (lines[s0.1]?).bind fun x0 =>
  some (.inl ((s0.1+1),(IntKind.i64.wrap (s0.2+(x0.length:Int))))))
 else
 some (.inr s0.2)
noncomputable def m3 (lines:List aC) (b_1:List UInt8):Option (Bool) :=
 (bA (uB lines) (0,0)).bind fun e25 =>
 ((
  if 62 < (lines.length:Int) then (
   some true)
  else
  if 4000 < e25 then (
   some true)
  else
  some (decide (4000 < (b_1.length:Int)))
 ):Option (Bool)).bind fun t0 =>
 if t0 then (
  (m5).bind fun r3 =>
  some r3)
 else
 (m7 lines).bind fun r4 =>
 (m6 r4).bind fun r0 =>
 bP (([]:List UInt8).length+b_1.length≤1073741824) <|
 (m8 (([]:List UInt8)++b_1)).bind fun r1 =>
 (m9 lines).bind fun r5 =>
 ((
  if r5 then (
   ((
    if r0.2≠0 then (
     some true)
    else
    (NB lines).bind fun r6 =>
    some (decide (r0.1≠r6))
   ):Option (Bool)).bind fun t1 =>
   if t1 then (
    some (.inr false))
   else
   some (.inl ()))
  else
  ((
   if r0.2≠3 then (
    some true)
   else
   some (decide ((r0.1.length:Int)≠0))
  ):Option (Bool)).bind fun t2 =>
  if t2 then (
   some (.inr false))
  else
  some (.inl ())
 ):Option ((Unit)⊕Bool)).bind fun t3=>match t3 with
 | .inr z=>some z
 | .inl t5 =>
 (NC b_1).bind fun r2 =>
 ((
  (KK r1.1 r2.1).bind fun r7 =>
  if r7 then (
   if r1.2=r2.2 then (
    (m5).bind fun r8 =>
    some r8)
   else
   some false)
  else
  some false
 ):Option (Bool)).bind fun t4 =>
 some t4
end T12
namespace T12
open Go.Proofs
abbrev C10:=@Tryz.call10
abbrev C11:=@Tryz.call11
abbrev SY:=@Tryz.call111
abbrev SZ:=@Tryz.call112
abbrev TA:=@Tryz.call113
abbrev TB:=@Tryz.call114
abbrev TC:=@Tryz.call115
abbrev TD:=@Tryz.call117
abbrev TE:=@Tryz.call118
abbrev nY:=@Tryz.call119
abbrev C12:=@Tryz.call12
abbrev TF:=@Tryz.call121
abbrev TH:=@Tryz.call122
abbrev TI:=@Tryz.call123
abbrev TJ:=@Tryz.call124
abbrev TK:=@Tryz.call125
abbrev yX:=@Tryz.call126
abbrev yY:=@Tryz.call127
abbrev yZ:=@Tryz.call128
abbrev TL:=@Tryz.call130
abbrev TM:=@Tryz.call131
abbrev ND:=@Tryz.call132
abbrev IV:=@Tryz.call133
abbrev TN:=@Tryz.call134
abbrev NE:=@Tryz.call135
abbrev NF:=@Tryz.call138
abbrev CF:=@Tryz.call139
abbrev C14:=@Tryz.call14
abbrev IW:=@Tryz.call140
abbrev IX:=@Tryz.call141
abbrev TO:=@Tryz.call147
abbrev IY:=@Tryz.call157
abbrev TP:=@Tryz.call158
abbrev TQ:=@Tryz.call159
abbrev TR:=@Tryz.call160
abbrev TS:=@Tryz.call161
abbrev TT:=@Tryz.call162
abbrev TU:=@Tryz.call167
abbrev TV:=@Tryz.call169
abbrev TW:=@Tryz.call170
abbrev TX:=@Tryz.call171
abbrev TY:=@Tryz.call172
abbrev TZ:=@Tryz.call176
abbrev UA:=@Tryz.call177
abbrev UB:=@Tryz.call178
abbrev UC:=@Tryz.call179
abbrev C18:=@Tryz.call18
abbrev UD:=@Tryz.call180
abbrev UE:=@Tryz.call181
abbrev UF:=@Tryz.call182
abbrev UG:=@Tryz.call183
abbrev UH:=@Tryz.call184
abbrev UI:=@Tryz.call186
abbrev UJ:=@Tryz.call187
abbrev UK:=@Tryz.call188
abbrev NG:=@Tryz.call189
abbrev C19:=@Tryz.call19
abbrev NH:=@Tryz.call190
abbrev NI:=@Tryz.call191
abbrev UL:=@Tryz.call192
abbrev UM:=@Tryz.call199
abbrev C20:=@Tryz.call20
abbrev UN:=@Tryz.call200
abbrev NJ:=@Tryz.call201
abbrev NK:=@Tryz.call207
abbrev C21:=@Tryz.call21
abbrev UO:=@Tryz.call210
abbrev UP:=@Tryz.call211
abbrev UQ:=@Tryz.call212
abbrev UR:=@Tryz.call213
abbrev NL:=@Tryz.call216
abbrev IZ:=@Tryz.call217
abbrev US:=@Tryz.call219
abbrev C22:=@Tryz.call22
abbrev UT:=@Tryz.call220
abbrev UU:=@Tryz.call221
abbrev NM:=@Tryz.call222
abbrev NN:=@Tryz.call223
abbrev UV:=@Tryz.call224
abbrev UW:=@Tryz.call225
abbrev UX:=@Tryz.call226
abbrev UY:=@Tryz.call227
abbrev zA:=@Tryz.call228
abbrev UZ:=@Tryz.call229
abbrev uD:=@Tryz.call23
abbrev VA:=@Tryz.call230
abbrev NO:=@Tryz.call231
abbrev NP:=@Tryz.call232
abbrev VB:=@Tryz.call233
abbrev VC:=@Tryz.call234
abbrev VD:=@Tryz.call235
abbrev NQ:=@Tryz.call236
abbrev VE:=@Tryz.call237
abbrev uE:=@Tryz.call238
abbrev VF:=@Tryz.call239
abbrev C24:=@Tryz.call24
abbrev VG:=@Tryz.call240
abbrev VH:=@Tryz.call241
abbrev VI:=@Tryz.call242
abbrev VJ:=@Tryz.call243
abbrev VK:=@Tryz.call244
abbrev VL:=@Tryz.call245
abbrev VM:=@Tryz.call246
abbrev VN:=@Tryz.call247
abbrev VO:=@Tryz.call248
abbrev VP:=@Tryz.call262
abbrev VQ:=@Tryz.call263
abbrev CG:=@Tryz.call264
abbrev NR:=@Tryz.call265
abbrev NS:=@Tryz.call266
abbrev VR:=@Tryz.call267
abbrev VS:=@Tryz.call269
abbrev C27:=@Tryz.call27
abbrev VT:=@Tryz.call270
abbrev VU:=@Tryz.call271
abbrev VV:=@Tryz.call272
abbrev VW:=@Tryz.call275
abbrev VX:=@Tryz.call281
abbrev VY:=@Tryz.call284
abbrev VZ:=@Tryz.call285
abbrev WA:=@Tryz.call286
abbrev WB:=@Tryz.call287
abbrev WC:=@Tryz.call288
abbrev WD:=@Tryz.call289
abbrev C29:=@Tryz.call29
abbrev WE:=@Tryz.call299
abbrev WF:=@Tryz.call300
abbrev WG:=@Tryz.call301
abbrev WH:=@Tryz.call302
abbrev WI:=@Tryz.call303
abbrev WJ:=@Tryz.call304
abbrev WK:=@Tryz.call305
abbrev WL:=@Tryz.call306
abbrev WM:=@Tryz.call310
abbrev WN:=@Tryz.call311
abbrev WO:=@Tryz.call312
abbrev WP:=@Tryz.call322
abbrev WQ:=@Tryz.call323
abbrev WR:=@Tryz.call324
abbrev WS:=@Tryz.call325
abbrev WT:=@Tryz.call326
abbrev NT:=@Tryz.call327
abbrev C33:=@Tryz.call33
abbrev WU:=@Tryz.call332
abbrev WV:=@Tryz.call333
abbrev C36:=@Tryz.call36
abbrev C37:=@Tryz.call37
abbrev WW:=@Tryz.call38
abbrev C39:=@Tryz.call39
abbrev C40:=@Tryz.call40
abbrev WX:=@Tryz.call41
abbrev C42:=@Tryz.call42
abbrev C44:=@Tryz.call44
abbrev C5:=@Tryz.call5
abbrev WY:=@Tryz.call50
abbrev C51:=@Tryz.call51
abbrev C52:=@Tryz.call52
abbrev WZ:=@Tryz.call53
abbrev C55:=@Tryz.call55
abbrev C56:=@Tryz.call56
abbrev kZ:=@Tryz.call57
abbrev C58:=@Tryz.call58
abbrev XA:=@Tryz.call59
abbrev C6:=@Tryz.call6
abbrev C60:=@Tryz.call60
abbrev C61:=@Tryz.call61
abbrev C7:=@Tryz.call7
abbrev XB:=@Tryz.call71
abbrev C72:=@Tryz.call72
abbrev C73:=@Tryz.call73
abbrev PW:=@Tryz.call74
abbrev C75:=@Tryz.call75
abbrev C77:=@Tryz.call77
abbrev C78:=@Tryz.call78
abbrev C79:=@Tryz.call79
abbrev C8:=@Tryz.call8
abbrev C80:=@Tryz.call80
abbrev C81:=@Tryz.call81
abbrev C82:=@Tryz.call82
abbrev C83:=@Tryz.call83
abbrev C84:=@Tryz.call84
abbrev C85:=@Tryz.call85
abbrev C86:=@Tryz.call86
abbrev C87:=@Tryz.call87
abbrev C88:=@Tryz.call88
abbrev C89:=@Tryz.call89
abbrev C9:=@Tryz.call9
abbrev C90:=@Tryz.call90
abbrev C91:=@Tryz.call91
abbrev C92:=@Tryz.call92
abbrev C93:=@Tryz.call93
abbrev C94:=@Tryz.call94
abbrev JA:=@Tryz.call95
abbrev C96:=@Tryz.call96
abbrev C97:=@Tryz.call97
abbrev XC:=@Tryz.isAgg115
abbrev CH:=@Tryz.isAgg132
abbrev XD:=@Tryz.isAgg137
abbrev XE:=@Tryz.isAgg144
abbrev zB:=@Tryz.isAgg152
abbrev JB:=@Tryz.isAgg155
abbrev JC:=@Tryz.isAgg157
abbrev JD:=@Tryz.isAgg159
abbrev NU:=@Tryz.isAgg172
abbrev XF:=@Tryz.isAgg173
abbrev NV:=@Tryz.isAgg174
abbrev JE:=@Tryz.isAgg177
abbrev XG:=@Tryz.isAgg219
abbrev nO:=@Tryz.isAgg22
abbrev nZ:=@Tryz.isAgg226
abbrev zC:=@Tryz.isAgg227
abbrev pD:=@Tryz.isAgg23
abbrev NW:=@Tryz.isAgg244
abbrev XH:=@Tryz.isAgg246
abbrev NX:=@Tryz.isAgg25
abbrev nI:=@Tryz.isAgg260
abbrev JF:=@Tryz.isAgg267
abbrev JG:=@Tryz.isAgg270
abbrev sG:=@Tryz.isAgg279
abbrev sH:=@Tryz.isAgg281
abbrev G3:=@Tryz.isAgg3
abbrev XI:=@Tryz.isAgg311
abbrev NY:=@Tryz.isAgg312
abbrev XJ:=@Tryz.isAgg313
abbrev XK:=@Tryz.isAgg320
abbrev XL:=@Tryz.isAgg327
abbrev XM:=@Tryz.isAgg351
abbrev rN:=@Tryz.isAgg36
abbrev XN:=@Tryz.isAgg377
abbrev G4:=@Tryz.isAgg4
abbrev JH:=@Tryz.isAgg45
abbrev nJ:=@Tryz.isAgg47
abbrev NZ:=@Tryz.isAgg48
abbrev G49:=@Tryz.isAgg49
abbrev G5:=@Tryz.isAgg5
abbrev uV:=@Tryz.isAgg50
abbrev lU:=@Tryz.isAgg52
abbrev XO:=@Tryz.isAgg53
abbrev XP:=@Tryz.isAgg54
abbrev PX:=@Tryz.isAgg55
abbrev sI:=@Tryz.isAgg57
abbrev G59:=@Tryz.isAgg59
abbrev G74:=@Tryz.isAgg74
abbrev XQ:=@Tryz.isAgg75
abbrev zV:=@Tryz.isAgg82
abbrev G89:=@Tryz.isAgg89
abbrev G9:=@Tryz.isAgg9
abbrev JI:=@Tryz.sizeOf112
abbrev OA:=@Tryz.sizeOf132
abbrev JJ:=@Tryz.sizeOf137
abbrev XR:=@Tryz.sizeOf144
abbrev XS:=@Tryz.sizeOf146
abbrev sJ:=@Tryz.sizeOf152
abbrev XT:=@Tryz.sizeOf155
abbrev JK:=@Tryz.sizeOf157
abbrev pV:=@Tryz.sizeOf159
abbrev OB:=@Tryz.sizeOf172
abbrev OC:=@Tryz.sizeOf174
abbrev lO:=@Tryz.sizeOf177
abbrev XU:=@Tryz.sizeOf219
abbrev rH:=@Tryz.sizeOf22
abbrev iI:=@Tryz.sizeOf226
abbrev CI:=@Tryz.sizeOf227
abbrev zD:=@Tryz.sizeOf23
abbrev PY:=@Tryz.sizeOf25
abbrev XV:=@Tryz.sizeOf257
abbrev CJ:=@Tryz.sizeOf258
abbrev iV:=@Tryz.sizeOf260
abbrev CK:=@Tryz.sizeOf267
abbrev CL:=@Tryz.sizeOf270
abbrev sK:=@Tryz.sizeOf279
abbrev iA:=@Tryz.sizeOf281
abbrev Z3:=@Tryz.sizeOf3
abbrev XW:=@Tryz.sizeOf312
abbrev XX:=@Tryz.sizeOf313
abbrev XY:=@Tryz.sizeOf315
abbrev XZ:=@Tryz.sizeOf320
abbrev YA:=@Tryz.sizeOf328
abbrev YB:=@Tryz.sizeOf355
abbrev pE:=@Tryz.sizeOf36
abbrev Z4:=@Tryz.sizeOf4
abbrev CM:=@Tryz.sizeOf45
abbrev iY:=@Tryz.sizeOf47
abbrev Z48:=@Tryz.sizeOf48
abbrev PZ:=@Tryz.sizeOf49
abbrev Z5:=@Tryz.sizeOf5
abbrev tH:=@Tryz.sizeOf50
abbrev iW:=@Tryz.sizeOf52
abbrev zW:=@Tryz.sizeOf53
abbrev YC:=@Tryz.sizeOf54
abbrev QA:=@Tryz.sizeOf55
abbrev jV:=@Tryz.sizeOf57
abbrev eK:=@Tryz.sizeOf59
abbrev OD:=@Tryz.sizeOf75
abbrev mJ:=@Tryz.sizeOf82
abbrev Z89:=@Tryz.sizeOf89
abbrev Z9:=@Tryz.sizeOf9
abbrev YD:=@Tryz.underlying103
abbrev JL:=@Tryz.underlying112
abbrev OE:=@Tryz.underlying134
abbrev JM:=@Tryz.underlying137
abbrev YE:=@Tryz.underlying141
abbrev JN:=@Tryz.underlying146
abbrev iX:=@Tryz.underlying148
abbrev uG:=@Tryz.underlying152
abbrev uH:=@Tryz.underlying154
abbrev zE:=@Tryz.underlying157
abbrev uI:=@Tryz.underlying159
abbrev zF:=@Tryz.underlying172
abbrev zG:=@Tryz.underlying174
abbrev rI:=@Tryz.underlying177
abbrev OF:=@Tryz.underlying178
abbrev YF:=@Tryz.underlying191
abbrev lA:=@Tryz.underlying22
abbrev fY:=@Tryz.underlying226
abbrev gI:=@Tryz.underlying23
abbrev JO:=@Tryz.underlying241
abbrev YG:=@Tryz.underlying257
abbrev CN:=@Tryz.underlying258
abbrev lB:=@Tryz.underlying260
abbrev OH:=@Tryz.underlying267
abbrev mC:=@Tryz.underlying270
abbrev rJ:=@Tryz.underlying277
abbrev sL:=@Tryz.underlying281
abbrev U3:=@Tryz.underlying3
abbrev YH:=@Tryz.underlying315
abbrev OI:=@Tryz.underlying316
abbrev YI:=@Tryz.underlying320
abbrev sM:=@Tryz.underlying328
abbrev OJ:=@Tryz.underlying350
abbrev eH:=@Tryz.underlying36
abbrev U4:=@Tryz.underlying4
abbrev uJ:=@Tryz.underlying45
abbrev oA:=@Tryz.underlying47
abbrev JP:=@Tryz.underlying48
abbrev U49:=@Tryz.underlying49
abbrev U5:=@Tryz.underlying5
abbrev tI:=@Tryz.underlying50
abbrev rO:=@Tryz.underlying52
abbrev EH:=@Tryz.underlying53
abbrev QB:=@Tryz.underlying54
abbrev QC:=@Tryz.underlying55
abbrev kA:=@Tryz.underlying57
abbrev eO:=@Tryz.underlying59
abbrev YJ:=@Tryz.underlying60
abbrev uW:=@Tryz.underlying75
abbrev zX:=@Tryz.underlying82
abbrev eS:=@Tryz.underlying87
abbrev U9:=@Tryz.underlying9
end T12
