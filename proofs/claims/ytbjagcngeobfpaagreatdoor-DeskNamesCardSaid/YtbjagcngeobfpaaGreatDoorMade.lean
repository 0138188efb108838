/-
  The types and models of the functions of a session,printed by a program of ours;contracts of library functions.
-/
import Derived.Shelf.Strings.Cut
import Derived.Shelf.Strings.Search3
import Derived.Shelf.Strings.Prefix
import Derived.Shelf.Strings.Runes
import Derived.Shelf.Strings.OnBuilder
import Derived.Shelf.Strings.FieldsFuncAny
import Derived.Shelf.Strings.BuilderF
import Derived.Shelf.Small.Strs
import Derived.Shelf.Small.Wraps
import Derived.Shelf.Strconv.AtoiAll
import Derived.Shelf.Strconv.Itoa3
import Derived.Shelf.SlSortCmp.NoneTotal
import Derived.Shelf.LaysM
import Derived.Shelf.LaysC
import Derived.Test.YtbjagcngeobfpaaGreatDoorKitSix
import Derived.Test.YtbjagcngeobfpaaGreatDoorProg
import Derived.Shelf.Spec.SlicesInsert
import Derived.Lib.AppendZerosOnto
import Derived.Laws.NewBlocks
import Derived.Laws.CopyRow
import Derived.Recover
import Derived.Tactics
import Derived.Tactics2
import Derived.Shelf.Slices.Delete
import Derived.Shelf.Slices.Empties
set_option linter.all false
set_option maxHeartbeats 4000000
namespace Go.Proofs
open Go.Shelf Go.RowKit
def Tryz.laysC172_ren:Go.Shelf.Ren:=⟨fun | 172=>94 | 244=>136 | 245=>137 | 247=>193 | 279=>194 | 280=>195 | 281=>196 | 282=>197 | 287=>249 | 316=>250 | 171=>29 | 205=>251 | 321=>291 | 322=>292 | 243=>45 | 246=>62 | 283=>99 | 284=>100 | 285=>101 | 286=>102 | 129=>147 | 317=>146 | 318=>148 | 319=>149 | 320=>150 | 337=>204 | 338=>205 | n=>n,fun | 9=>9 | 3=>3 | 75=>103 | 76=>104 | 4=>4 | 5=>5 | 167=>290 | 37=>23 | 0=>0 | 85=>291 | 2=>2 | 168=>293 | 53=>191 | 175=>333 | 46=>241 | 210=>336 | 127=>138 | 145=>367 | 143=>365 | 21=>21 | 171=>190 | 173=>194 | 212=>238 | 51=>239 | 20=>20 | 213=>240 | 232=>345 | 233=>346 | 80=>113 | n=>n,fun | 15=>2 | 16=>3 | 17=>0 | 18=>4 | 19=>5 | n=>n⟩
theorem Tryz.laysC172:Go.Proofs.LaysC.n172 Tryz.prog Tryz.laysC172_ren:={
 mixed:=by kernel_rfl
 f129:=Tryz.func147.trans (congrArg some (by kernel_rfl))
 f171:=Tryz.func29.trans (congrArg some (by kernel_rfl))
 f172:=Tryz.func94.trans (congrArg some (by kernel_rfl))
 f205:=Tryz.func251.trans (congrArg some (by kernel_rfl))
 f243:=Tryz.func45.trans (congrArg some (by kernel_rfl))
 f244:=Tryz.func136.trans (congrArg some (by kernel_rfl))
 f245:=Tryz.func137.trans (congrArg some (by kernel_rfl))
 f246:=Tryz.func62.trans (congrArg some (by kernel_rfl))
 f247:=Tryz.func193.trans (congrArg some (by kernel_rfl))
 f279:=Tryz.func194.trans (congrArg some (by kernel_rfl))
 f280:=Tryz.func195.trans (congrArg some (by kernel_rfl))
 f281:=Tryz.func196.trans (congrArg some (by kernel_rfl))
 f282:=Tryz.func197.trans (congrArg some (by kernel_rfl))
 f283:=Tryz.func99.trans (congrArg some (by kernel_rfl))
 f284:=Tryz.func100.trans (congrArg some (by kernel_rfl))
 f285:=Tryz.func101.trans (congrArg some (by kernel_rfl))
 f286:=Tryz.func102.trans (congrArg some (by kernel_rfl))
 f287:=Tryz.func249.trans (congrArg some (by kernel_rfl))
 f316:=Tryz.func250.trans (congrArg some (by kernel_rfl))
 f317:=Tryz.func146.trans (congrArg some (by kernel_rfl))
 f318:=Tryz.func148.trans (congrArg some (by kernel_rfl))
 f319:=Tryz.func149.trans (congrArg some (by kernel_rfl))
 f320:=Tryz.func150.trans (congrArg some (by kernel_rfl))
 f321:=Tryz.func291.trans (congrArg some (by kernel_rfl))
 f322:=Tryz.func292.trans (congrArg some (by kernel_rfl))
 f337:=Tryz.func204.trans (congrArg some (by kernel_rfl))
 f338:=Tryz.func205.trans (congrArg some (by kernel_rfl))
 t0:=Tryz.underlying0
 a0:=Tryz.isAgg0
 z0:=Tryz.sizeOf0
 v0:=Tryz.zeroValue0
 t2:=Tryz.underlying2
 a2:=Tryz.isAgg2
 z2:=Tryz.sizeOf2
 v2:=Tryz.zeroValue2
 t3:=Tryz.underlying3
 a3:=Tryz.isAgg3
 z3:=Tryz.sizeOf3
 v3:=Tryz.zeroValue3
 t4:=Tryz.underlying4
 a4:=Tryz.isAgg4
 z4:=Tryz.sizeOf4
 v4:=Tryz.zeroValue4
 t5:=Tryz.underlying5
 a5:=Tryz.isAgg5
 z5:=Tryz.sizeOf5
 v5:=Tryz.zeroValue5
 t9:=Tryz.underlying9
 a9:=Tryz.isAgg9
 z9:=Tryz.sizeOf9
 v9:=Tryz.zeroValue9
 t20:=Tryz.underlying20
 a20:=Tryz.isAgg20
 z20:=Tryz.sizeOf20
 v20:=Tryz.zeroValue20
 t21:=Tryz.underlying21
 a21:=Tryz.isAgg21
 z21:=Tryz.sizeOf21
 v21:=Tryz.zeroValue21
 t37:=Tryz.underlying23
 a37:=Tryz.isAgg23
 z37:=Tryz.sizeOf23
 v37:=Tryz.zeroValue23
 t46:=Tryz.underlying241
 a46:=Tryz.isAgg241
 z46:=Tryz.sizeOf241
 v46:=Tryz.zeroValue241
 t51:=Tryz.underlying239
 a51:=Tryz.isAgg239
 z51:=Tryz.sizeOf239
 v51:=Tryz.zeroValue239
 t53:=Tryz.underlying191
 a53:=Tryz.isAgg191
 z53:=Tryz.sizeOf191
 v53:=Tryz.zeroValue191
 t75:=Tryz.underlying103
 a75:=Tryz.isAgg103
 z75:=Tryz.sizeOf103
 v75:=Tryz.zeroValue103
 t76:=Tryz.underlying104
 a76:=Tryz.isAgg104
 z76:=Tryz.sizeOf104
 v76:=Tryz.zeroValue104
 t85:=Tryz.underlying291
 a85:=Tryz.isAgg291
 z85:=Tryz.sizeOf291
 v85:=Tryz.zeroValue291
 t127:=Tryz.underlying138
 a127:=Tryz.isAgg138
 z127:=Tryz.sizeOf138
 v127:=Tryz.zeroValue138
 t143:=Tryz.underlying365
 a143:=Tryz.isAgg365
 z143:=Tryz.sizeOf365
 v143:=Tryz.zeroValue365
 t145:=Tryz.underlying367
 a145:=Tryz.isAgg367
 z145:=Tryz.sizeOf367
 v145:=Tryz.zeroValue367
 t167:=Tryz.underlying290
 a167:=Tryz.isAgg290
 z167:=Tryz.sizeOf290
 v167:=Tryz.zeroValue290
 t168:=Tryz.underlying293
 a168:=Tryz.isAgg293
 z168:=Tryz.sizeOf293
 v168:=Tryz.zeroValue293
 t171:=Tryz.underlying190
 a171:=Tryz.isAgg190
 z171:=Tryz.sizeOf190
 v171:=Tryz.zeroValue190
 t173:=Tryz.underlying194
 a173:=Tryz.isAgg194
 z173:=Tryz.sizeOf194
 v173:=Tryz.zeroValue194
 t175:=Tryz.underlying333
 a175:=Tryz.isAgg333
 z175:=Tryz.sizeOf333
 v175:=Tryz.zeroValue333
 t210:=Tryz.underlying336
 a210:=Tryz.isAgg336
 z210:=Tryz.sizeOf336
 v210:=Tryz.zeroValue336
 t212:=Tryz.underlying238
 a212:=Tryz.isAgg238
 z212:=Tryz.sizeOf238
 v212:=Tryz.zeroValue238
 t213:=Tryz.underlying240
 a213:=Tryz.isAgg240
 z213:=Tryz.sizeOf240
 t232:=Tryz.underlying345
 a232:=Tryz.isAgg345
 z232:=Tryz.sizeOf345
 v232:=Tryz.zeroValue345
 t233:=Tryz.underlying346
 a233:=Tryz.isAgg346
 z233:=Tryz.sizeOf346
 v233:=Tryz.zeroValue346
 g15:=by kernel_rfl
 g16:=by kernel_rfl
 g17:=by kernel_rfl
 g18:=by kernel_rfl
 g19:=by kernel_rfl
 t80:=Tryz.underlying113
 a80:=Tryz.isAgg113
 z80:=Tryz.sizeOf113
 v80:=Tryz.zeroValue113
 i0:=by kernel_rfl
 i2:=by kernel_rfl
 i3:=by kernel_rfl
 i4:=by kernel_rfl
 i5:=by kernel_rfl
 i9:=by kernel_rfl
 i20:=by kernel_rfl
 i21:=by kernel_rfl
 i37:=by kernel_rfl
 i46:=by kernel_rfl
 i51:=by kernel_rfl
 i53:=by kernel_rfl
 i75:=by kernel_rfl
 i76:=by kernel_rfl
 i80:=by kernel_rfl
 i85:=by kernel_rfl
 i127:=by kernel_rfl
 i143:=by kernel_rfl
 i145:=by kernel_rfl
 i167:=by kernel_rfl
 i168:=by kernel_rfl
 i171:=by kernel_rfl
 i173:=by kernel_rfl
 i175:=by kernel_rfl
 i210:=by kernel_rfl
 i212:=by kernel_rfl
 i232:=by kernel_rfl
 i233:=by kernel_rfl
 m15:=by kernel_rfl
 m16:=by kernel_rfl
 m17:=by kernel_rfl
 m18:=by kernel_rfl
 m19:=by kernel_rfl
 c0:=by kernel_rfl
 c2:=by kernel_rfl
 c3:=by kernel_rfl
 c4:=by kernel_rfl
 c5:=by kernel_rfl
 c9:=by kernel_rfl
 c20:=by kernel_rfl
 c21:=by kernel_rfl
 c37:=by kernel_rfl
 c46:=by kernel_rfl
 c51:=by kernel_rfl
 c53:=by kernel_rfl
 c75:=by kernel_rfl
 c76:=by kernel_rfl
 c80:=by kernel_rfl
 c85:=by kernel_rfl
 c127:=by kernel_rfl
 c143:=by kernel_rfl
 c145:=by kernel_rfl
 c167:=by kernel_rfl
 c168:=by kernel_rfl
 c171:=by kernel_rfl
 c173:=by kernel_rfl
 c175:=by kernel_rfl
 c210:=by kernel_rfl
 c212:=by kernel_rfl
 c213:=by kernel_rfl
 c232:=by kernel_rfl
 c233:=by kernel_rfl }
def Tryz.laysM171_ren:Go.Shelf.Ren:=⟨fun | 171=>29 | 243=>45 | 246=>62 | 283=>99 | 284=>100 | 285=>101 | 286=>102 | 129=>147 | 317=>146 | 318=>148 | 319=>149 | 320=>150 | 337=>204 | 338=>205 | n=>n,fun | 3=>3 | 9=>9 | 2=>2 | 4=>4 | 171=>190 | 0=>0 | 53=>191 | 37=>23 | 5=>5 | 173=>194 | 212=>238 | 51=>239 | 20=>20 | 213=>240 | 46=>241 | 232=>345 | 233=>346 | n=>n,fun | 17=>0 | 18=>4 | 19=>5 | n=>n⟩
theorem Tryz.laysM171:Go.Proofs.LaysM.n171 Tryz.prog Tryz.laysM171_ren:={
 mixed:=by kernel_rfl
 f129:=Tryz.func147.trans (congrArg some (by kernel_rfl))
 f171:=Tryz.func29.trans (congrArg some (by kernel_rfl))
 f243:=Tryz.func45.trans (congrArg some (by kernel_rfl))
 f246:=Tryz.func62.trans (congrArg some (by kernel_rfl))
 f283:=Tryz.func99.trans (congrArg some (by kernel_rfl))
 f284:=Tryz.func100.trans (congrArg some (by kernel_rfl))
 f285:=Tryz.func101.trans (congrArg some (by kernel_rfl))
 f286:=Tryz.func102.trans (congrArg some (by kernel_rfl))
 f317:=Tryz.func146.trans (congrArg some (by kernel_rfl))
 f318:=Tryz.func148.trans (congrArg some (by kernel_rfl))
 f319:=Tryz.func149.trans (congrArg some (by kernel_rfl))
 f320:=Tryz.func150.trans (congrArg some (by kernel_rfl))
 f337:=Tryz.func204.trans (congrArg some (by kernel_rfl))
 f338:=Tryz.func205.trans (congrArg some (by kernel_rfl))
 t0:=Tryz.underlying0
 a0:=Tryz.isAgg0
 z0:=Tryz.sizeOf0
 v0:=Tryz.zeroValue0
 t2:=Tryz.underlying2
 a2:=Tryz.isAgg2
 z2:=Tryz.sizeOf2
 v2:=Tryz.zeroValue2
 t3:=Tryz.underlying3
 a3:=Tryz.isAgg3
 z3:=Tryz.sizeOf3
 v3:=Tryz.zeroValue3
 t4:=Tryz.underlying4
 a4:=Tryz.isAgg4
 z4:=Tryz.sizeOf4
 v4:=Tryz.zeroValue4
 t5:=Tryz.underlying5
 a5:=Tryz.isAgg5
 z5:=Tryz.sizeOf5
 v5:=Tryz.zeroValue5
 t9:=Tryz.underlying9
 a9:=Tryz.isAgg9
 z9:=Tryz.sizeOf9
 v9:=Tryz.zeroValue9
 t20:=Tryz.underlying20
 a20:=Tryz.isAgg20
 z20:=Tryz.sizeOf20
 v20:=Tryz.zeroValue20
 t37:=Tryz.underlying23
 a37:=Tryz.isAgg23
 z37:=Tryz.sizeOf23
 v37:=Tryz.zeroValue23
 t46:=Tryz.underlying241
 a46:=Tryz.isAgg241
 z46:=Tryz.sizeOf241
 v46:=Tryz.zeroValue241
 t51:=Tryz.underlying239
 a51:=Tryz.isAgg239
 z51:=Tryz.sizeOf239
 v51:=Tryz.zeroValue239
 t53:=Tryz.underlying191
 a53:=Tryz.isAgg191
 z53:=Tryz.sizeOf191
 v53:=Tryz.zeroValue191
 t171:=Tryz.underlying190
 a171:=Tryz.isAgg190
 z171:=Tryz.sizeOf190
 v171:=Tryz.zeroValue190
 t173:=Tryz.underlying194
 a173:=Tryz.isAgg194
 z173:=Tryz.sizeOf194
 v173:=Tryz.zeroValue194
 t212:=Tryz.underlying238
 a212:=Tryz.isAgg238
 z212:=Tryz.sizeOf238
 v212:=Tryz.zeroValue238
 t213:=Tryz.underlying240
 a213:=Tryz.isAgg240
 z213:=Tryz.sizeOf240
 t232:=Tryz.underlying345
 a232:=Tryz.isAgg345
 z232:=Tryz.sizeOf345
 v232:=Tryz.zeroValue345
 t233:=Tryz.underlying346
 a233:=Tryz.isAgg346
 z233:=Tryz.sizeOf346
 v233:=Tryz.zeroValue346
 g17:=by kernel_rfl
 g18:=by kernel_rfl
 g19:=by kernel_rfl
 i0:=by kernel_rfl
 i2:=by kernel_rfl
 i3:=by kernel_rfl
 i4:=by kernel_rfl
 i5:=by kernel_rfl
 i9:=by kernel_rfl
 i20:=by kernel_rfl
 i37:=by kernel_rfl
 i46:=by kernel_rfl
 i51:=by kernel_rfl
 i53:=by kernel_rfl
 i171:=by kernel_rfl
 i173:=by kernel_rfl
 i212:=by kernel_rfl
 i232:=by kernel_rfl
 i233:=by kernel_rfl
 m17:=by kernel_rfl
 m18:=by kernel_rfl
 m19:=by kernel_rfl }
def Tryz.lays145_ren:Go.Shelf.Ren:=⟨fun | 145=>55 | 220=>76 | 219=>116 | 217=>163 | 225=>164 | 224=>165 | 267=>166 | 266=>214 | 314=>215 | n=>n,fun | 9=>9 | 4=>4 | 59=>142 | 3=>3 | 5=>5 | 46=>241 | 146=>306 | 51=>239 | n=>n,fun | 1=>1 | n=>n⟩
theorem Tryz.lays145:Go.Proofs.Lays.n145 Tryz.prog Tryz.lays145_ren:={
 mixed:=by kernel_rfl
 f145:=Tryz.func55.trans (congrArg some (by kernel_rfl))
 f217:=Tryz.func163.trans (congrArg some (by kernel_rfl))
 f219:=Tryz.func116.trans (congrArg some (by kernel_rfl))
 f220:=Tryz.func76.trans (congrArg some (by kernel_rfl))
 f224:=Tryz.func165.trans (congrArg some (by kernel_rfl))
 f225:=Tryz.func164.trans (congrArg some (by kernel_rfl))
 f266:=Tryz.func214.trans (congrArg some (by kernel_rfl))
 f267:=Tryz.func166.trans (congrArg some (by kernel_rfl))
 f314:=Tryz.func215.trans (congrArg some (by kernel_rfl))
 t3:=Tryz.underlying3
 a3:=Tryz.isAgg3
 z3:=Tryz.sizeOf3
 v3:=Tryz.zeroValue3
 t4:=Tryz.underlying4
 a4:=Tryz.isAgg4
 z4:=Tryz.sizeOf4
 v4:=Tryz.zeroValue4
 t5:=Tryz.underlying5
 a5:=Tryz.isAgg5
 z5:=Tryz.sizeOf5
 v5:=Tryz.zeroValue5
 t9:=Tryz.underlying9
 a9:=Tryz.isAgg9
 z9:=Tryz.sizeOf9
 v9:=Tryz.zeroValue9
 t46:=Tryz.underlying241
 a46:=Tryz.isAgg241
 z46:=Tryz.sizeOf241
 v46:=Tryz.zeroValue241
 t51:=Tryz.underlying239
 a51:=Tryz.isAgg239
 z51:=Tryz.sizeOf239
 v51:=Tryz.zeroValue239
 t59:=Tryz.underlying142
 a59:=Tryz.isAgg142
 z59:=Tryz.sizeOf142
 v59:=Tryz.zeroValue142
 t146:=Tryz.underlying306
 a146:=Tryz.isAgg306
 z146:=Tryz.sizeOf306
 v146:=Tryz.zeroValue306
 g1:=by kernel_rfl }
def Tryz.lays229_ren:Go.Shelf.Ren:=⟨fun | 229=>184 | n=>n,fun | 9=>9 | 40=>276 | 31=>22 | 152=>323 | 3=>3 | 0=>0 | 4=>4 | 21=>21 | 154=>325 | n=>n,fun | n=>n⟩
theorem Tryz.lays229:Go.Proofs.Lays.n229 Tryz.prog Tryz.lays229_ren:={
 mixed:=by kernel_rfl
 f229:=Tryz.func184.trans (congrArg some (by kernel_rfl))
 t0:=Tryz.underlying0
 a0:=Tryz.isAgg0
 z0:=Tryz.sizeOf0
 v0:=Tryz.zeroValue0
 t3:=Tryz.underlying3
 a3:=Tryz.isAgg3
 z3:=Tryz.sizeOf3
 v3:=Tryz.zeroValue3
 t4:=Tryz.underlying4
 a4:=Tryz.isAgg4
 z4:=Tryz.sizeOf4
 v4:=Tryz.zeroValue4
 t9:=Tryz.underlying9
 a9:=Tryz.isAgg9
 z9:=Tryz.sizeOf9
 v9:=Tryz.zeroValue9
 t21:=Tryz.underlying21
 a21:=Tryz.isAgg21
 z21:=Tryz.sizeOf21
 v21:=Tryz.zeroValue21
 t31:=Tryz.underlying22
 a31:=Tryz.isAgg22
 z31:=Tryz.sizeOf22
 v31:=Tryz.zeroValue22
 t40:=Tryz.underlying276
 a40:=Tryz.isAgg276
 z40:=Tryz.sizeOf276
 v40:=Tryz.zeroValue276
 t152:=Tryz.underlying323
 a152:=Tryz.isAgg323
 z152:=Tryz.sizeOf323
 v152:=Tryz.zeroValue323
 t154:=Tryz.underlying325
 a154:=Tryz.isAgg325
 z154:=Tryz.sizeOf325
 v154:=Tryz.zeroValue325 }
def Tryz.laysF140_ren:Go.Shelf.Ren:=⟨fun | 6=>140 | 15=>199 | 14=>198 | 28=>260 | 29=>147 | 20=>252 | 21=>253 | 22=>254 | 23=>255 | 24=>256 | 25=>257 | 26=>258 | 27=>259 | 46=>293 | 47=>294 | 48=>295 | 49=>296 | 50=>297 | 57=>321 | n=>n,fun | 22=>48 | 24=>172 | 25=>233 | 3=>3 | 39=>241 | 0=>0 | 53=>239 | 55=>191 | 4=>4 | 46=>340 | 45=>339 | 50=>213 | 5=>5 | 9=>9 | 66=>368 | 70=>372 | 76=>386 | 77=>387 | n=>n,fun | n=>n⟩
theorem Tryz.laysF140:Go.Proofs.SlLaysF0.n6 Tryz.prog Tryz.laysF140_ren:={
 mixed:=by kernel_rfl
 f6:=⟨Tryz.f140.name,by decide,Tryz.func140.trans (congrArg some (by kernel_rfl))⟩
 f14:=⟨Tryz.f198.name,by decide,Tryz.func198.trans (congrArg some (by kernel_rfl))⟩
 f15:=Tryz.func199.trans (congrArg some (by kernel_rfl))
 f20:=⟨Tryz.f252.name,by decide,Tryz.func252.trans (congrArg some (by kernel_rfl))⟩
 f21:=⟨Tryz.f253.name,by decide,Tryz.func253.trans (congrArg some (by kernel_rfl))⟩
 f22:=⟨Tryz.f254.name,by decide,Tryz.func254.trans (congrArg some (by kernel_rfl))⟩
 f23:=⟨Tryz.f255.name,by decide,Tryz.func255.trans (congrArg some (by kernel_rfl))⟩
 f24:=⟨Tryz.f256.name,by decide,Tryz.func256.trans (congrArg some (by kernel_rfl))⟩
 f25:=⟨Tryz.f257.name,by decide,Tryz.func257.trans (congrArg some (by kernel_rfl))⟩
 f26:=⟨Tryz.f258.name,by decide,Tryz.func258.trans (congrArg some (by kernel_rfl))⟩
 f27:=⟨Tryz.f259.name,by decide,Tryz.func259.trans (congrArg some (by kernel_rfl))⟩
 f28:=Tryz.func260.trans (congrArg some (by kernel_rfl))
 f29:=Tryz.func147.trans (congrArg some (by kernel_rfl))
 f46:=⟨Tryz.f293.name,by decide,Tryz.func293.trans (congrArg some (by kernel_rfl))⟩
 f47:=Tryz.func294.trans (congrArg some (by kernel_rfl))
 f48:=Tryz.func295.trans (congrArg some (by kernel_rfl))
 f49:=⟨Tryz.f296.name,by decide,Tryz.func296.trans (congrArg some (by kernel_rfl))⟩
 f50:=⟨Tryz.f297.name,by decide,Tryz.func297.trans (congrArg some (by kernel_rfl))⟩
 f57:=⟨Tryz.f321.name,by decide,Tryz.func321.trans (congrArg some (by kernel_rfl))⟩
 t0:=Tryz.underlying0
 a0:=Tryz.isAgg0
 z0:=Tryz.sizeOf0
 v0:=Tryz.zeroValue0
 t3:=Tryz.underlying3
 a3:=Tryz.isAgg3
 z3:=Tryz.sizeOf3
 v3:=Tryz.zeroValue3
 t4:=Tryz.underlying4
 a4:=Tryz.isAgg4
 z4:=Tryz.sizeOf4
 v4:=Tryz.zeroValue4
 t5:=Tryz.underlying5
 a5:=Tryz.isAgg5
 z5:=Tryz.sizeOf5
 v5:=Tryz.zeroValue5
 t9:=Tryz.underlying9
 a9:=Tryz.isAgg9
 z9:=Tryz.sizeOf9
 v9:=Tryz.zeroValue9
 t22:=Tryz.underlying48
 a22:=Tryz.isAgg48
 z22:=Tryz.sizeOf48
 v22:=Tryz.zeroValue48
 t25:=Tryz.underlying233
 a25:=Tryz.isAgg233
 z25:=Tryz.sizeOf233
 v25:=Tryz.zeroValue233
 t39:=Tryz.underlying241
 a39:=Tryz.isAgg241
 z39:=Tryz.sizeOf241
 v39:=Tryz.zeroValue241
 t45:=Tryz.underlying339
 a45:=Tryz.isAgg339
 z45:=Tryz.sizeOf339
 v45:=Tryz.zeroValue339
 t46:=Tryz.underlying340
 a46:=Tryz.isAgg340
 z46:=Tryz.sizeOf340
 v46:=Tryz.zeroValue340
 t50:=Tryz.underlying213
 a50:=Tryz.isAgg213
 z50:=Tryz.sizeOf213
 v50:=Tryz.zeroValue213
 t53:=Tryz.underlying239
 a53:=Tryz.isAgg239
 z53:=Tryz.sizeOf239
 v53:=Tryz.zeroValue239
 t55:=Tryz.underlying191
 a55:=Tryz.isAgg191
 z55:=Tryz.sizeOf191
 v55:=Tryz.zeroValue191
 t66:=Tryz.underlying368
 a66:=Tryz.isAgg368
 z66:=Tryz.sizeOf368
 v66:=Tryz.zeroValue368
 t70:=Tryz.underlying372
 a70:=Tryz.isAgg372
 z70:=Tryz.sizeOf372
 v70:=Tryz.zeroValue372
 t76:=Tryz.underlying386
 a76:=Tryz.isAgg386
 z76:=Tryz.sizeOf386
 v76:=Tryz.zeroValue386
 t77:=Tryz.underlying387
 a77:=Tryz.isAgg387
 z77:=Tryz.sizeOf387
 v77:=Tryz.zeroValue387 }
def Tryz.laysF246_ren:Go.Shelf.Ren:=⟨fun | 6=>246 | 15=>199 | 14=>290 | 28=>260 | 29=>147 | 20=>313 | 21=>314 | 22=>315 | 23=>316 | 24=>317 | 25=>318 | 26=>319 | 27=>320 | 46=>329 | 47=>294 | 48=>295 | 49=>330 | 50=>331 | 57=>334 | n=>n,fun | 22=>50 | 24=>226 | 25=>332 | 3=>3 | 39=>241 | 0=>0 | 53=>239 | 55=>191 | 4=>4 | 46=>340 | 45=>339 | 50=>213 | 5=>5 | 9=>9 | 66=>368 | 70=>372 | 76=>386 | 77=>387 | n=>n,fun | n=>n⟩
theorem Tryz.laysF246:Go.Proofs.SlLaysF0.n6 Tryz.prog Tryz.laysF246_ren:={
 mixed:=by kernel_rfl
 f6:=⟨Tryz.f246.name,by decide,Tryz.func246.trans (congrArg some (by kernel_rfl))⟩
 f14:=⟨Tryz.f290.name,by decide,Tryz.func290.trans (congrArg some (by kernel_rfl))⟩
 f15:=Tryz.func199.trans (congrArg some (by kernel_rfl))
 f20:=⟨Tryz.f313.name,by decide,Tryz.func313.trans (congrArg some (by kernel_rfl))⟩
 f21:=⟨Tryz.f314.name,by decide,Tryz.func314.trans (congrArg some (by kernel_rfl))⟩
 f22:=⟨Tryz.f315.name,by decide,Tryz.func315.trans (congrArg some (by kernel_rfl))⟩
 f23:=⟨Tryz.f316.name,by decide,Tryz.func316.trans (congrArg some (by kernel_rfl))⟩
 f24:=⟨Tryz.f317.name,by decide,Tryz.func317.trans (congrArg some (by kernel_rfl))⟩
 f25:=⟨Tryz.f318.name,by decide,Tryz.func318.trans (congrArg some (by kernel_rfl))⟩
 f26:=⟨Tryz.f319.name,by decide,Tryz.func319.trans (congrArg some (by kernel_rfl))⟩
 f27:=⟨Tryz.f320.name,by decide,Tryz.func320.trans (congrArg some (by kernel_rfl))⟩
 f28:=Tryz.func260.trans (congrArg some (by kernel_rfl))
 f29:=Tryz.func147.trans (congrArg some (by kernel_rfl))
 f46:=⟨Tryz.f329.name,by decide,Tryz.func329.trans (congrArg some (by kernel_rfl))⟩
 f47:=Tryz.func294.trans (congrArg some (by kernel_rfl))
 f48:=Tryz.func295.trans (congrArg some (by kernel_rfl))
 f49:=⟨Tryz.f330.name,by decide,Tryz.func330.trans (congrArg some (by kernel_rfl))⟩
 f50:=⟨Tryz.f331.name,by decide,Tryz.func331.trans (congrArg some (by kernel_rfl))⟩
 f57:=⟨Tryz.f334.name,by decide,Tryz.func334.trans (congrArg some (by kernel_rfl))⟩
 t0:=Tryz.underlying0
 a0:=Tryz.isAgg0
 z0:=Tryz.sizeOf0
 v0:=Tryz.zeroValue0
 t3:=Tryz.underlying3
 a3:=Tryz.isAgg3
 z3:=Tryz.sizeOf3
 v3:=Tryz.zeroValue3
 t4:=Tryz.underlying4
 a4:=Tryz.isAgg4
 z4:=Tryz.sizeOf4
 v4:=Tryz.zeroValue4
 t5:=Tryz.underlying5
 a5:=Tryz.isAgg5
 z5:=Tryz.sizeOf5
 v5:=Tryz.zeroValue5
 t9:=Tryz.underlying9
 a9:=Tryz.isAgg9
 z9:=Tryz.sizeOf9
 v9:=Tryz.zeroValue9
 t22:=Tryz.underlying50
 a22:=Tryz.isAgg50
 z22:=Tryz.sizeOf50
 v22:=Tryz.zeroValue50
 t25:=Tryz.underlying332
 a25:=Tryz.isAgg332
 z25:=Tryz.sizeOf332
 v25:=Tryz.zeroValue332
 t39:=Tryz.underlying241
 a39:=Tryz.isAgg241
 z39:=Tryz.sizeOf241
 v39:=Tryz.zeroValue241
 t45:=Tryz.underlying339
 a45:=Tryz.isAgg339
 z45:=Tryz.sizeOf339
 v45:=Tryz.zeroValue339
 t46:=Tryz.underlying340
 a46:=Tryz.isAgg340
 z46:=Tryz.sizeOf340
 v46:=Tryz.zeroValue340
 t50:=Tryz.underlying213
 a50:=Tryz.isAgg213
 z50:=Tryz.sizeOf213
 v50:=Tryz.zeroValue213
 t53:=Tryz.underlying239
 a53:=Tryz.isAgg239
 z53:=Tryz.sizeOf239
 v53:=Tryz.zeroValue239
 t55:=Tryz.underlying191
 a55:=Tryz.isAgg191
 z55:=Tryz.sizeOf191
 v55:=Tryz.zeroValue191
 t66:=Tryz.underlying368
 a66:=Tryz.isAgg368
 z66:=Tryz.sizeOf368
 v66:=Tryz.zeroValue368
 t70:=Tryz.underlying372
 a70:=Tryz.isAgg372
 z70:=Tryz.sizeOf372
 v70:=Tryz.zeroValue372
 t76:=Tryz.underlying386
 a76:=Tryz.isAgg386
 z76:=Tryz.sizeOf386
 v76:=Tryz.zeroValue386
 t77:=Tryz.underlying387
 a77:=Tryz.isAgg387
 z77:=Tryz.sizeOf387
 v77:=Tryz.zeroValue387 }
def Tryz.lays169_ren:Go.Shelf.Ren:=⟨fun | 169=>35 | n=>n,fun | 70=>99 | 9=>9 | 0=>0 | 72=>101 | 37=>23 | 127=>138 | 3=>3 | 5=>5 | n=>n,fun | n=>n⟩
theorem Tryz.lays169:Go.Proofs.Lays.n169 Tryz.prog Tryz.lays169_ren:={
 mixed:=by kernel_rfl
 f169:=Tryz.func35.trans (congrArg some (by kernel_rfl))
 t0:=Tryz.underlying0
 a0:=Tryz.isAgg0
 z0:=Tryz.sizeOf0
 v0:=Tryz.zeroValue0
 t3:=Tryz.underlying3
 a3:=Tryz.isAgg3
 z3:=Tryz.sizeOf3
 v3:=Tryz.zeroValue3
 t9:=Tryz.underlying9
 a9:=Tryz.isAgg9
 z9:=Tryz.sizeOf9
 v9:=Tryz.zeroValue9
 t37:=Tryz.underlying23
 a37:=Tryz.isAgg23
 z37:=Tryz.sizeOf23
 v37:=Tryz.zeroValue23
 t70:=Tryz.underlying99
 a70:=Tryz.isAgg99
 z70:=Tryz.sizeOf99
 v70:=Tryz.zeroValue99
 t72:=Tryz.underlying101
 a72:=Tryz.isAgg101
 z72:=Tryz.sizeOf101
 v72:=Tryz.zeroValue101
 t127:=Tryz.underlying138
 a127:=Tryz.isAgg138
 z127:=Tryz.sizeOf138
 v127:=Tryz.zeroValue138 }
theorem Tryz.Builder_Extra_169:Builder.Extra Tryz.prog Tryz.lays169_ren:={
 sizeBuilder:=by kernel_rfl
 liesBuilder:=by kernel_rfl
 t5:=Tryz.underlying5
 a5:=Tryz.isAgg5
 z5:=Tryz.sizeOf5
 v5:=Tryz.zeroValue5
 infoByte:=by kernel_rfl
 cellsByte:=by kernel_rfl
 sizeByte:=by kernel_rfl
 neB5:=by decide }
def Tryz.lays156_ren:Go.Shelf.Ren:=⟨fun | 156=>33 | 165=>49 | 166=>32 | 169=>35 | 240=>48 | 241=>70 | 276=>69 | 277=>110 | n=>n,fun | 31=>22 | 9=>9 | 3=>3 | 4=>4 | 0=>0 | 20=>20 | 72=>101 | 76=>104 | 70=>99 | 37=>23 | 75=>103 | 127=>138 | 164=>167 | 5=>5 | 80=>113 | n=>n,fun | n=>n⟩
theorem Tryz.lays156:Go.Proofs.Lays.n156 Tryz.prog Tryz.lays156_ren:={
 mixed:=by kernel_rfl
 f156:=Tryz.func33.trans (congrArg some (by kernel_rfl))
 f165:=Tryz.func49.trans (congrArg some (by kernel_rfl))
 f166:=Tryz.func32.trans (congrArg some (by kernel_rfl))
 f169:=Tryz.func35.trans (congrArg some (by kernel_rfl))
 f240:=Tryz.func48.trans (congrArg some (by kernel_rfl))
 f241:=Tryz.func70.trans (congrArg some (by kernel_rfl))
 f276:=Tryz.func69.trans (congrArg some (by kernel_rfl))
 f277:=Tryz.func110.trans (congrArg some (by kernel_rfl))
 t0:=Tryz.underlying0
 a0:=Tryz.isAgg0
 z0:=Tryz.sizeOf0
 v0:=Tryz.zeroValue0
 t3:=Tryz.underlying3
 a3:=Tryz.isAgg3
 z3:=Tryz.sizeOf3
 v3:=Tryz.zeroValue3
 t4:=Tryz.underlying4
 a4:=Tryz.isAgg4
 z4:=Tryz.sizeOf4
 v4:=Tryz.zeroValue4
 t9:=Tryz.underlying9
 a9:=Tryz.isAgg9
 z9:=Tryz.sizeOf9
 v9:=Tryz.zeroValue9
 t20:=Tryz.underlying20
 a20:=Tryz.isAgg20
 z20:=Tryz.sizeOf20
 v20:=Tryz.zeroValue20
 t31:=Tryz.underlying22
 a31:=Tryz.isAgg22
 z31:=Tryz.sizeOf22
 v31:=Tryz.zeroValue22
 t37:=Tryz.underlying23
 a37:=Tryz.isAgg23
 z37:=Tryz.sizeOf23
 v37:=Tryz.zeroValue23
 t70:=Tryz.underlying99
 a70:=Tryz.isAgg99
 z70:=Tryz.sizeOf99
 v70:=Tryz.zeroValue99
 t72:=Tryz.underlying101
 a72:=Tryz.isAgg101
 z72:=Tryz.sizeOf101
 v72:=Tryz.zeroValue101
 t75:=Tryz.underlying103
 a75:=Tryz.isAgg103
 z75:=Tryz.sizeOf103
 v75:=Tryz.zeroValue103
 t76:=Tryz.underlying104
 a76:=Tryz.isAgg104
 z76:=Tryz.sizeOf104
 v76:=Tryz.zeroValue104
 t127:=Tryz.underlying138
 a127:=Tryz.isAgg138
 z127:=Tryz.sizeOf138
 v127:=Tryz.zeroValue138
 t164:=Tryz.underlying167
 a164:=Tryz.isAgg167
 z164:=Tryz.sizeOf167
 v164:=Tryz.zeroValue167 }
theorem Tryz.Builder_Extra_156:Builder.Extra Tryz.prog Tryz.lays156_ren:={
 sizeBuilder:=by kernel_rfl
 liesBuilder:=by kernel_rfl
 t5:=Tryz.underlying5
 a5:=Tryz.isAgg5
 z5:=Tryz.sizeOf5
 v5:=Tryz.zeroValue5
 infoByte:=by kernel_rfl
 cellsByte:=by kernel_rfl
 sizeByte:=by kernel_rfl
 neB5:=by decide }
end Go.Proofs
namespace Go.Proofs
open Go Pk Go.RowKit
theorem Tryz.srt140:BZ Tryz.prog 140 6 :=
  ⟨fun p cap fv w=>AnyF.slices_SortFunc_none Tryz.laysF140 p cap fv w,
   fun α _ enc hk h1 cf hO g cb blk off cap d w eg hc hH hb hs hT=>AnyQ.slices_SortFunc_total Tryz.laysF140 6 Tryz.isAgg172 Tryz.sizeOf172 enc hk h1 cf hO g cb blk off cap d w eg hc hH hb hs hT⟩
theorem Tryz.srt246:BZ Tryz.prog 246 5 :=
  ⟨fun p cap fv w=>AnyF.slices_SortFunc_none Tryz.laysF246 p cap fv w,
   fun α _ enc hk h1 cf hO g cb blk off cap d w eg hc hH hb hs hT=>AnyQ.slices_SortFunc_total Tryz.laysF246 5 Tryz.isAgg226 Tryz.sizeOf226 enc hk h1 cf hO g cb blk off cap d w eg hc hH hb hs hT⟩
theorem Tryz.szB:(Tryz.prog.info? 101).map (·.size)=some 2:=by kernel_rfl
theorem Tryz.liesB:liesAt Tryz.prog Tryz.prog.depth 101 (2/Tryz.prog.cellsOf 101) 0 101 1=true:=by kernel_rfl
theorem Tryz.infoU8:(Tryz.prog.info? 5).map (fun i=>(i.zero,i.size,i.bytes))=some (some (.int .u8 0),1,1):=by kernel_rfl
set_option maxHeartbeats 1000000 in
set_option maxRecDepth 100000 in
theorem Tryz.cc_used (b:Nat) (w:World) (h0:w.cell? ⟨b,0,none⟩=some (.pointer (some ⟨b,0,none⟩))):Calls Tryz.prog 48 #[.pointer (some ⟨b,0,none⟩)] w fun e w'=>e=.returned (.tuple #[])∧w'=w:=by
 obtain ⟨j,hj,_⟩:=Option.map_eq_some_iff.1 Tryz.szB
 go_enter Tryz.func48,Tryz.ntmps48
 go_wp2
 rw [Lib.run_neq_ptr_same w _ Tryz.underlying99 hj]
 go_wp2
 go_end0
 exact ⟨rfl,rfl⟩
set_option maxHeartbeats 1000000 in
set_option maxRecDepth 100000 in
theorem Tryz.cc_new (b:Nat) (w:World) (h0:w.cell? ⟨b,0,none⟩=some (.pointer none)) (hs:w.shape? b=some (101,2)) (hz:w.frozen? ⟨b,0,none⟩=false):Calls Tryz.prog 48 #[.pointer (some ⟨b,0,none⟩)] w fun e w'=>e=.returned (.tuple #[])∧w'=w.setCell ⟨b,0,none⟩ (.pointer (some ⟨b,0,none⟩)):=by
 obtain ⟨j,hj,hjs⟩:=Option.map_eq_some_iff.1 Tryz.szB
 go_enter Tryz.func48,Tryz.ntmps48
 go_wp2
 rw [Lib.run_to_unsafe w ⟨b,0,none⟩ Tryz.underlying99 Tryz.underlying167 hj (by rw [hjs];decide) hs (Nat.zero_lt_succ 1)];simp only [Result.andThen];rw [Oper.upon_value]
 go_wp2
 rw [run_callFunc_extern Tryz.func69 (by kernel_rfl) (by kernel_rfl) (by kernel_rfl) (e:=Extern.AbiNoEscape.same) (by kernel_rfl)];rw [Lib.run_noEscape];simp only [Result.andThen];rw [Oper.upon_value]
 go_wp2
 rw [Lib.run_from_unsafe w ⟨b,0,none⟩ Tryz.underlying167 Tryz.underlying99 hj hs Tryz.liesB];simp only [Result.andThen];rw [Oper.upon_value]
 go_wp2
 go_end0
 exact ⟨rfl,rfl⟩
theorem Tryz.cc_any (B b:Nat) (l:List Value) (w:World) (h:Lib.IsBuilderF 101 5 B b l w):Calls Tryz.prog 48 #[.pointer (some ⟨b,0,none⟩)] w fun e w'=>e=.returned (.tuple #[])∧Lib.BuilderAtF 101 5 B b (.pointer (some ⟨b,0,none⟩)) l w'∧Below B w w':=by
 rcases h with h | h
 ·exact (Tryz.cc_new b w h.cell0 h.shape h.frozen0).mono fun e w' hw=>by
   obtain ⟨rfl,rfl⟩:=hw;exact ⟨rfl,h.used _,(Below.refl B w).setCell (p:=⟨b,0,none⟩) h.1 _⟩
 exact (Tryz.cc_used b w h.cell0).mono fun e w' hw=>by
  obtain ⟨rfl,rfl⟩:=hw;exact ⟨rfl,h,Below.refl B _⟩
set_option maxHeartbeats 2000000 in
set_option maxRecDepth 100000 in
theorem Tryz.bWrite (B b:Nat) (l:List Value) (s:ByteArray) (w:World) (h:Lib.IsBuilderF 101 5 B b l w) (hl:l.length+s.size≤140737488355328) (hB:B≤w.heap.size) :
  Calls Tryz.prog 32 #[.pointer (some ⟨b,0,none⟩),.string s] w fun e w'=>e=.returned (.tuple #[.int .i64 s.size,.nilIface])∧Lib.BuilderAtF 101 5 B b (.pointer (some ⟨b,0,none⟩)) (l++Lib.strCells s) w'∧Below B w w':=by
 obtain ⟨i0,hi,hz0,hz1,hz2⟩:=info_parts Tryz.infoU8;have e48:∀ args w,(callFunc 48 args).run Tryz.prog w=.ok (.enter 48 args) w:=enters_of Tryz.func48 (by kernel_rfl) rfl
 go_enter Tryz.func32,Tryz.ntmps32
 go_wp2_with (go_at_fn 48;refine (Tryz.cc_any B b l _ h).mono ?_)
 rintro e w1 ⟨rfl,⟨hBb,v,hbk,hown,hne⟩,hb1⟩;have c0:w1.cell? ⟨b,0,none⟩=some (.pointer (some ⟨b,0,none⟩)):=by rw [Lib.cell_of_heap hbk];rfl
 have c1:w1.cell? ⟨b,1,none⟩=some v:=by rw [Lib.cell_of_heap hbk];rfl
 go_wp2_with (at_builtin;refine Lib.wpList_append_own_stringF _ rfl _ _ 23 9 rfl B 5 i0 Tryz.underlying23 Tryz.underlying9 hi hz0 hz1 hz2 _ _ _ rfl hown s rfl ?c3 ?c4 ?c5 ?_)
 case c3=>unfold maxLen;omega
 case c4=>omega
 case c5=>have:=hb1.size;omega
 intro v' w2 hown' hgrow _;have hlt:b < w1.heap.size:=(Array.getElem?_eq_some_iff.1 hbk).1;have hb2:w2.heap[b]?=some (.cells #[.pointer (some ⟨b,0,none⟩),v] 101 (0,0)):=by
  rw [hgrow.block b hlt (fun e=>hne e.symm)];exact hbk
 have d0:w2.cell? ⟨b,0,none⟩=some (.pointer (some ⟨b,0,none⟩)):=by rw [Lib.cell_of_heap hb2];rfl
 have d1:w2.cell? ⟨b,1,none⟩=some v:=by rw [Lib.cell_of_heap hb2];rfl
 have f1:w2.frozen? ⟨b,1,none⟩=false:=Lib.frozen_of_heap hb2 1;obtain ⟨ao,n',cap,rfl⟩:∃ ao n' cap,v'=.slice ao n' cap:=by
  rcases hown'.2 with ⟨hv,_⟩ | ⟨g,cap,cur,fz,hv,_⟩
  ·exact ⟨_,_,_,hv⟩
  exact ⟨_,_,_,hv⟩
 go_wp2
 go_ret2
 exact ⟨rfl,Lib.BuilderAtF.put (T:=101) (e:=5) hBb hb2 (bs':=l++Lib.strCells s) (by simpa [Lib.strCells_length] using hown') (by decide),(hb1.grown hgrow (by have:=hb1.size;omega) (fun k hk=>(hown.lt k hk).1)).setCell (p:=⟨b,1,none⟩) hBb _⟩
end Go.Proofs
set_option maxHeartbeats 4000000
namespace T12
open Go Go.Proofs Pk Go.RowKit
structure Gv (M:Prop) (H:Hp):Prop where
 gl:Gl M 2 3 0 H
 mx:∃ m,aL H ⟨1,0,none⟩ [.int .i64 m]
theorem Gv.mono {M:Prop} {H K:Hp} (h:Gv M H) (hk:H.le K):Gv M K:=⟨h.gl.mono hk,h.mx.imp fun _ hm=>hm.mono hk⟩
noncomputable def UE (s:aE):Option (Int×Bool):=EE s
noncomputable def vK (n:Int):Option aE:=EF n
noncomputable def RT (s t:aE):Option (aE×aE×Bool):=cD (s.length≤1073741824) (some (Lib.cut s t))
theorem RU (s:aE):(bs s).data.toList=s:=by simp [bs]
theorem w94 {M:Prop} {W:World} {H:Hp} (hH:H.le (hp W)) (hg:Gv M H) (s:aE) {r:Int×Bool} (hr:UE s=some r):Calls Tryz.prog 94 [.string (bs s)].toArray W (eH M H W (fun v K=>∃ (er1:Value),v=.tuple [.int .i64 r.1,er1].toArray∧Er er1 r.2)):=by
 unfold UE EE at hr;obtain ⟨hl,hr⟩:=aD hr;obtain rfl:=Option.some.inj hr;have hz:(bs s).size=s.length:=fK s;obtain ⟨e0,h0,i0⟩:=hg.gl.syn;obtain ⟨e1,h1,i1⟩:=hg.gl.rng
 cases h:Lib.atoiAll s with
 | ok v =>
  refine (Any.strconv_Atoi_ok Tryz.laysC172 (bs s) (by omega) v (by rw [RU];exact h) W).mono ?_;rintro e w' ⟨rfl,hw⟩;refine ⟨⟨_,by simp [nV,h],.inl ⟨by simp [nV,h],rfl⟩⟩,?_⟩;rcases hw with rfl | ⟨t,rfl⟩
  ·exact fO.refl _ _
  exact fO.of_below hg.gl.nq (Lib.bytesWorld_below _ _ _)
 | range =>
  refine (Any.strconv_Atoi_range Tryz.laysC172 (bs s) (by omega) (by rw [RU];exact h) e1 W (pZ hH h1) i1).mono ?_;rintro e w' ⟨N,rfl,_,_,hb⟩;have hr1:nV s=(Lib.atoiSat s,true):=by simp [nV,h]
  rw [hr1,RU];exact ⟨⟨_,rfl,.inr ⟨rfl,_,_,rfl⟩⟩,fO.of_below hg.gl.nq hb⟩
 | _ =>
  refine (Any.strconv_Atoi_syntax Tryz.laysC172 (bs s) (by omega) (by rw [RU];exact h) e0 W (pZ hH h0) i0).mono ?_;rintro e w' ⟨N,rfl,_,_,hb⟩;have hr1:nV s=(0,true):=by simp [nV,h]
  rw [hr1];exact ⟨⟨_,rfl,.inr ⟨rfl,_,_,rfl⟩⟩,fO.of_below hg.gl.nq hb⟩
theorem EK {W:World} {H:Hp} (hH:H.le (hp W)) {M:Prop} (hg:Gv M H) (n:Int) (h1 : -9223372036854775808≤n) (h2:n≤9223372036854775807):Calls Tryz.prog 29 #[.int .i64 n] W fun e w'=>e=.returned (.string (bs (Lib.itoa n)))∧∃ k os,w'=Sort.grow (W.drewN k) os:=by
 refine (Any.strconv_Itoa Tryz.laysM171 n h1 h2 W (wE (by kernel_rfl) hH hg.gl.tab)).mono ?_;rintro e w' ⟨rfl,k,os,rfl⟩;exact ⟨rfl,k,os,rfl⟩
theorem rK (M:Prop) (W:World) (k:Nat) (os:Array Obj):fO M W (Sort.grow (W.drewN k) os) :=
 ⟨rfl,rfl,rfl,(by show W.heap.size≤(W.heap++os).size;rw [Array.size_append];omega),fun b hb=>Array.getElem?_append_left hb,fun _=>Nat.le_add_right _ _⟩
theorem AM {M:Prop} {W:World} {H:Hp} (hH:H.le (hp W)) (hg:Gv M H) (n:Int) {r:aE} (hr:vK n=some r):Calls Tryz.prog 29 [.int .i64 n].toArray W (bB M W (.string (bs r))):=by
 unfold vK EF at hr;obtain ⟨hl,hr⟩:=aD hr;obtain rfl:=Option.some.inj hr;refine (EK hH hg n hl.1 hl.2).mono ?_;rintro e w' ⟨rfl,k,os,rfl⟩;exact ⟨rfl,rK M W k os⟩
theorem w55 {M:Prop} {W:World} {H:Hp} (hH:H.le (hp W)) (hg:Gv M H) (s t:aE) {r:aE×aE×Bool} (hr:RT s t=some r):Calls Tryz.prog 55 [.string (bs s),.string (bs t)].toArray W (bB M W (.tuple [.string (bs r.1),.string (bs r.2.1),.bool r.2.2].toArray)):=by
 unfold RT at hr;obtain ⟨hl,hr⟩:=aD hr;obtain rfl:=Option.some.inj hr;obtain ⟨m,hm⟩:=hg.mx;refine (Any.strings_Cut Tryz.lays145 (bs s) (bs t) m W (by rw [fK];omega) (pZ hH hm)).mono ?_;rintro e w' ⟨rfl,k,rfl⟩;refine ⟨by simp [bs],?_⟩;exact ⟨rfl,rfl,rfl,Nat.le_refl _,fun _ _=>rfl,fun _=>Nat.le_add_right _ _⟩
noncomputable def EM (l:List aE) (sep:aE):Option aE:=cD (l.length≤1073741824∧(Lib.join l sep).length≤1073741824) (some (Lib.join l sep))
theorem ME {M:Prop} {W:World} {H:Hp} (hH:H.le (hp W)) (hg:Gv M H) {ad:Option Addr} {cap:Nat} {l:List aE} (hl:Sl (aC bF) 1 H ad cap l) (sep:aE) {r:aE} (hr:EM l sep=some r):Calls Tryz.prog 33 [.slice ad l.length cap,.string (bs sep)].toArray W (bB M W (.string (bs r))):=by
 unfold EM at hr;obtain ⟨hb,hr⟩:=aD hr;obtain rfl:=Option.some.inj hr;have hx:(l.map bs).map (·.data.toList)=l:=by
  rw [List.map_map]
  conv=>rhs;rw [← List.map_id l]
  exact List.map_congr_left fun x _=>by simp [bs]
 cases l with
 | nil =>
  refine (Any.strings_Join_none Tryz.lays156 Tryz.Builder_Extra_156 ad cap (bs sep) W).mono ?_;rintro e w' ⟨rfl,rfl⟩;exact ⟨by simp [bs,Lib.join_nil],fO.refl _ _⟩
 | cons x l =>
  obtain ⟨p,cs,rfl,hp0,h2,h3,h4⟩:=hl.2 0 x rfl;obtain ⟨b,o,sp⟩:=p;obtain rfl:sp=none:=hp0;have hcell:∀ (j:Nat) y,((x::l).map bs)[j]?=some y→W.cell? ⟨b,o+j,none⟩=some (.string y):=fun j y hy=>by
   rw [List.getElem?_map,Option.map_eq_some_iff] at hy;obtain ⟨z,hz,rfl⟩:=hy;obtain ⟨p,cs,h1,_,_,h3,h4⟩:=hl.2 j z hz;cases h1;have h4:cs=bF z:=h4;subst h4;have:=(h3.mono hH).cell (j:=0) (v:=.string (bs z)) rfl;have e:((⟨b,o,none⟩:Addr).add (j*1)).add 0=⟨b,o+j,none⟩:=by rw [Nat.mul_one,dE (i:=j) rfl];rfl
   rwa [e] at this
  have hlt:b < W.heap.size:=by
   have h4:cs=bF x:=h4;subst h4;obtain ⟨c,ty,fz,h5,_⟩:=h3.2 0 (.string (bs x)) rfl;have h6:=hH _ _ h5;rw [Nat.zero_mul,dE rfl] at h6;exact (Array.getElem?_eq_some_iff.1 h6).1
  have hn:((x::l).map bs).length=(x::l).length:=List.length_map _;have:=Any.strings_Join Tryz.lays156 Tryz.Builder_Extra_156 b o cap ((x::l).map bs) (bs sep) W hcell hlt (by rw [hn];omega) (by rw [hn];exact hl.1.1) (by rw [hx,show (bs sep).data.toList=sep by simp [bs]];omega);rw [hx,hn] at this;refine this.mono ?_;rintro e w' ⟨rfl,hw⟩;exact ⟨by simp [bs],fO.of_below hg.gl.nq hw⟩
end T12
set_option maxHeartbeats 4000000
namespace T12
open Go Go.Proofs Pk Go.RowKit
def uO:Any→aE
 | .i n=>Lib.itoa n
 | .s b=>b
def EN:Any→Prop
 | .i n=>-9223372036854775808≤n∧n≤9223372036854775807
 | .s _=>True
instance:(x:Any)→Decidable (EN x)
 | .i _=>inferInstanceAs (Decidable (_∧_))
 | .s _=>inferInstanceAs (Decidable True)
def gW (l:List Any):aE:=l.flatMap uO
noncomputable def HM (l:List Any):Option aE:=cD ((∀ x∈l,EN x)∧(gW l).length≤1073741824) (some (gW l))
theorem pL {T e:TypeId} {B b:Nat} {p:Value} {l:List Value} {W W':World} (h:Lib.BuilderAtF T e B b p l W) (hb:Below W.heap.size W W'):Lib.BuilderAtF T e B b p l W':=by
 have hlt:=h.lt;obtain ⟨hB,v,hv,hown,hne⟩:=h;exact ⟨hB,v,(hb.block b hlt).trans hv,hown.kept (row:=none) ⟨hb.os,hb.tape,hb.output,hb.size,fun k hk _=>hb.block k hk⟩ (Classical.em _),hne⟩
theorem uP {T e:TypeId} {B b:Nat} {l:List Value} {W W':World} (h:Lib.IsBuilderF T e B b l W) (hb:Below W.heap.size W W'):Lib.IsBuilderF T e B b l W' :=
 h.elim (fun x=>.inl (pL x hb)) (fun x=>.inr (pL x hb))
theorem sP (W:World) (k:Nat) (os:Array Obj):Below W.heap.size W (Sort.grow (W.drewN k) os) :=
 ⟨rfl,rfl,rfl,(by show W.heap.size≤(W.heap++os).size;rw [Array.size_append];omega),fun b hb=>Array.getElem?_append_left hb⟩
theorem sQ {l:List Any} {i:Nat} {x:Any} (h:l[i]?=some x):gW (l.take (i+1))=gW (l.take i)++uO x:=by
 unfold gW;rw [List.take_succ,h];simp
theorem wP {l:List Any} (i:Nat):(gW (l.take i)).length≤(gW l).length:=by
 have:gW l=gW (l.take i)++gW (l.drop i):=by unfold gW;rw [← List.flatMap_append,List.take_append_drop]
 rw [this];simp
section
variable {P:Program} {r:Option Nat} {n:aO} {p:List PanicEntry→aO} {a:Act} {w:World} {D:List Deferred} {k:Nat} {L:bX} {ops:Array Oper} {rest:List Oper} {d:Nat} {ty:TypeId} {pos:String} {af:Array Edge}
theorem EO {y:Operand} {xT t:TypeId} {v:Value} {ds:TypeDesc} (hA:aT D k a L) (hd:Nat.blt d k=true) (hu:P.underlying t=some ds) (hds:(match ds with | .interface _=>false | _=>true)=true) (hy:ev L y=some (.iface t v))
  (h:∀ a,aT D k a ((d,.tuple #[v,.bool true])::L)→O P r ops n p rest a w):O P r ops n p (⟨some d,.typeAssert y xT t true,ty,pos,af,none⟩::rest) a w :=
 cG rfl (fun _ h=>by cases h) (w':=w) (v:=.tuple #[v,.bool true]) (by
  simp only [execOp,Instr.typeAssert,hA.eval hy]
  cases ds <;> simp at hds <;> simp [run_underlying hu,Result.andThen]) (h _ (hA.put hd _))
theorem OE {y:Operand} {xT t t':TypeId} {v z:Value} {ds:TypeDesc} (hA:aT D k a L) (hd:Nat.blt d k=true) (hu:P.underlying t=some ds) (hds:(match ds with | .interface _=>false | _=>true)=true) (hz:∀ w,(zeroValue t).run P w=.ok z w) (hne:Nat.beq t' t=false) (hy:ev L y=some (.iface t' v))
  (h:∀ a,aT D k a ((d,.tuple #[z,.bool false])::L)→O P r ops n p rest a w):O P r ops n p (⟨some d,.typeAssert y xT t true,ty,pos,af,none⟩::rest) a w:=by
 have hn:¬t'=t:=HA hne
 exact cG rfl (fun _ h=>by cases h) (w':=w) (v:=.tuple #[z,.bool false]) (by
  simp only [execOp,Instr.typeAssert,hA.eval hy]
  cases ds <;> simp at hds <;> simp [run_underlying hu,Result.andThen,hn,hz]) (h _ (hA.put hd _))
theorem qC {x:Operand} {xs:List Operand} {ats:Array TypeId} {f:FuncId} {vs:List Value} {v:Value} {R:World→Prop} (hA:aT D k a L) (hd:Nat.blt d k=true) (hf:ev L x=some (.func (.func f) #[] #[])) (hxs:kF L xs=some vs)
  (hcall:∀ args w,(callFunc f args).run P w=.ok (.enter f args) w) (hc:Calls P f vs.toArray w fun e w'=>e=.returned v∧R w') (h:∀ w',R w'→∀ a,aT D k a ((d,v)::L)→O P r ops n p rest a w') :
  O P r ops n p (⟨some d,.call ⟨.value x,xs.toArray,ats⟩,ty,pos,af,none⟩::rest) a w:=by
 refine fW rfl (fun _ h=>by cases h) (eY (first:=#[]) (cap:=#[]) hA hf hxs hcall) (by simpa using hc) ?_ ?_ ?_
 ·intro v' w' hv;obtain ⟨e,hR⟩:=hv;cases e;exact h w' hR _ (hA.put hd _)
 ·intro ch w' hv;cases hv.1
 intro w' hv;cases hv.1
end
theorem UF {M:Prop} {W:World} {H:Hp} (hH:H.le (hp W)) (hg:Gv M H) {ad_p0_:Option Addr} {cap_p0_:Nat} {p0_:List Any} (h_p0_:Sl (aC sJ) 1 H ad_p0_ cap_p0_ p0_) {r:aE} (hr:HM p0_=some r):Calls Tryz.prog 169 [.slice ad_p0_ p0_.length cap_p0_].toArray W (bB M W (.string (bs r))):=by
 unfold HM at hr;obtain ⟨⟨hok,hlen⟩,hr⟩:=aD hr;obtain rfl:=Option.some.inj hr;refine enter Tryz.func169 rfl Tryz.ntmps169 rfl ?_;intro a hA;refine fR (cY (eW hA rfl rfl fun a hA=>?_));refine fF (fR (cY (cG rfl (fun _ h=>by cases h) (w':=W.alloc (.cells #[.pointer none,.slice none 0 0] 101)) (v:=.pointer (some ⟨W.heap.size,0,none⟩)) (by simp [execOp,Instr.alloc,Tryz.zeroValue101,jI,Value.cells]) ?_)));have hA1:=hA.put (d:=3) rfl (.pointer (some ⟨W.heap.size,0,none⟩));have hB1:Lib.IsBuilderF 101 5 W.heap.size W.heap.size (Lib.byteCells (gW (p0_.take 0))) (W.alloc (.cells #[.pointer none,.slice none 0 0] 101)):=(Lib.fresh_isBuilder 101 5 W).elim (fun h=>.inl (.of h)) (fun h=>.inr (.of h));have hW1:Below W.heap.size W (W.alloc (.cells #[.pointer none,.slice none 0 0] 101)):=(Below.refl _ _).alloc (Nat.le_refl _) _;generalize (a.put (some 3) (.pointer (some ⟨W.heap.size,0,none⟩)))=a1 at hA1 ⊢;generalize (W.alloc (.cells #[.pointer none,.slice none 0 0] 101))=w1 at hB1 hW1 ⊢;refine fF (fR (fR (cY (fN hA1 rfl rfl fun a hA=>DX hA rfl rfl Tryz.underlying308 fun a hA=>fN hA rfl rfl fun a hA=>?_))));refine fF (lF (vP (fun j a w=>∃ i,i≤p0_.length∧j=p0_.length - i∧aT [] 35 a [(3,.pointer (some ⟨W.heap.size,0,none⟩)),(10,.slice ad_p0_ p0_.length cap_p0_),(11,.int .i64 p0_.length),(12,.int .i64 i)]∧Lib.IsBuilderF 101 5 W.heap.size W.heap.size (Lib.byteCells (gW (p0_.take i))) w∧Below W.heap.size W w) (j:=p0_.length) ⟨0,Nat.zero_le _,rfl,hA.cut ⟨rfl,rfl,rfl,rfl,trivial⟩,hB1,hW1⟩ ?_));rintro j a w ⟨i,hil,rfl,hA,hB,hW⟩;have hll:=h_p0_.len;refine fR (cY (MV hA rfl rfl rfl fun a hA=>fF (fR (MO hA rfl (fun hc=>vN ?_) (fun hc=>vO rfl ?_)))))
 ·have hi:i < p0_.length:=by omega
  obtain ⟨x,hx⟩:∃ x,p0_[i]?=some x:=⟨_,List.getElem?_eq_getElem hi⟩;have hxok:=hok x (List.mem_of_getElem? hx);have hHw:H.le (hp w):=hH.trans (fO.of_below hg.gl.nq hW).le;have hlen2:(gW (p0_.take (i+1))).length≤1073741824:=Nat.le_trans (wP _) hlen;have hst:=sQ hx;have hcnt:(gW (p0_.take i)).length+(uO x).length≤1073741824:=by rw [hst,List.length_append] at hlen2;exact hlen2
  have hBle:W.heap.size≤w.heap.size:=hW.size;refine fR (nG (n:=fun a w'=>aT [] 35 a [(3,.pointer (some ⟨W.heap.size,0,none⟩)),(10,.slice ad_p0_ p0_.length cap_p0_),(11,.int .i64 p0_.length),(12,.int .i64 i)]∧Lib.BuilderAtF 101 5 W.heap.size W.heap.size (.pointer (some ⟨W.heap.size,0,none⟩)) (Lib.byteCells (gW (p0_.take i))++Lib.strCells (bs (uO x))) w'∧Below W.heap.size W w') ?_ (fun _ _ h=>h) (fun _ K _ _ hK h=>⟨K,hK,h⟩) (fun _ _ _ h=>h) ?_)
  ·rintro a w' ⟨hA,hB,hW⟩;exact cY (DU hA rfl rfl rfl (by omega) (by omega) fun a hA=>fN hA rfl rfl fun a hA=>fF ⟨p0_.length - (i+1),by omega,i+1,by omega,rfl,hA.cut ⟨rfl,rfl,rfl,by simp [lk],trivial⟩,.inr (by rw [hst];unfold Lib.byteCells at *;rw [List.map_append];exact hB),hW⟩)
  refine lF (fR (cY (TF hA rfl rfl rfl Tryz.underlying308 Tryz.sizeOf20 (h_p0_.mono (aC.mono _) hHw) rfl rfl hx fun q cs hq hcs hf a hA=>sA (v:=NR x) hA rfl rfl Tryz.isAgg20 hq (by rw [show cs=sJ x from hf];rfl) fun a hA=>eW hA rfl rfl fun a hA=>fF ?_)));clear hf hq hcs
  cases x with
  | i z =>
   refine fR (cY (fN hA rfl rfl fun a hA=>EO hA rfl Tryz.underlying3 rfl rfl fun a hA=>fN hA rfl rfl fun a hA=>lJ (vs:=[.int .i64 z,.bool true]) hA rfl rfl rfl fun a hA=>lJ (vs:=[.int .i64 z,.bool true]) hA rfl rfl rfl fun a hA=>eW hA rfl rfl fun a hA=>eW hA rfl rfl fun a hA=>fF ?_));refine fR (cY (fN hA rfl rfl fun a hA=>fF (iW hA rfl (fun _=>?_) (fun h=>by cases h))));refine cY (fN hA rfl rfl fun a hA=>qC (x:=.func 29) (xs:=[.tmp 22]) hA rfl rfl rfl Tryz.call29 (EK hHw hg z hxok.1 hxok.2) ?_);rintro w' ⟨k,os,rfl⟩ a hA;have hb:=sP w k os;have hW':=hW.trans (hb.mono hBle);refine qC (x:=.func 32) (xs:=[.tmp 3,.tmp 23]) hA rfl rfl rfl Tryz.call32 (Tryz.bWrite W.heap.size W.heap.size _ (bs (Lib.itoa z)) _ (uP hB hb) ?_ hW'.size) ?_
   ·rw [Lib.byteCells_length,fK];have:(Lib.itoa z).length=(uO (.i z)).length:=rfl;omega
   rintro w' ⟨hB',hW2⟩ a hA;exact fF ⟨hA.cut ⟨rfl,rfl,rfl,rfl,trivial⟩,hB',hW'.trans hW2⟩
  | s z =>
   refine fR (cY (fN hA rfl rfl fun a hA=>OE hA rfl Tryz.underlying3 rfl Tryz.zeroValue3 rfl rfl fun a hA=>fN hA rfl rfl fun a hA=>lJ (vs:=[.int .i64 0,.bool false]) hA rfl rfl rfl fun a hA=>lJ (vs:=[.int .i64 0,.bool false]) hA rfl rfl rfl fun a hA=>eW hA rfl rfl fun a hA=>eW hA rfl rfl fun a hA=>fF ?_));refine fR (cY (fN hA rfl rfl fun a hA=>fF (iW hA rfl (fun h=>by cases h) (fun _=>?_))));refine fR (cY (fN hA rfl rfl fun a hA=>EO hA rfl Tryz.underlying9 rfl rfl fun a hA=>fN hA rfl rfl fun a hA=>lJ (vs:=[.string (bs z),.bool true]) hA rfl rfl rfl fun a hA=>lJ (vs:=[.string (bs z),.bool true]) hA rfl rfl rfl fun a hA=>eW hA rfl rfl fun a hA=>eW hA rfl rfl fun a hA=>fF ?_));refine fR (cY (fN hA rfl rfl fun a hA=>fF (iW hA rfl (fun _=>?_) (fun h=>by cases h))));refine cY (fN hA rfl rfl fun a hA=>qC (x:=.func 32) (xs:=[.tmp 3,.tmp 31]) hA rfl rfl rfl Tryz.call32 (Tryz.bWrite W.heap.size W.heap.size _ (bs z) _ hB ?_ hBle) ?_)
   ·rw [Lib.byteCells_length,fK];have:z.length=(uO (.s z)).length:=rfl;omega
   rintro w' ⟨hB',hW2⟩ a hA;exact fF ⟨hA.cut ⟨rfl,rfl,rfl,rfl,trivial⟩,hB',hW.trans hW2⟩
 have hi:i=p0_.length:=by omega
 subst hi;rw [List.take_length] at hB;refine fR (cY (qC (x:=.func 35) (xs:=[.tmp 3]) hA rfl rfl rfl Tryz.call35 (Any.Builder_String_any_f Tryz.lays169 Tryz.Builder_Extra_169 W.heap.size W.heap.size (gW p0_) w hB hW.size) ?_));rintro w' ⟨hB',hW'⟩ a hA;refine eW hA rfl rfl fun a hA=>fF (DS (aV hA rfl rfl ?_));exact ⟨rfl,fO.of_below hg.gl.nq (hW.trans hW')⟩
end T12
namespace T12
open Go Go.Proofs Pk
theorem J.{u} {α:Sort u} {a:α}:a=a:=rfl
structure aG where
 anchor:Int
 text:aE
 deriving DecidableEq,Inhabited
def aK (x:aG):List Value:=[.int .i64 x.anchor,.string (bs x.text)]
structure eA where
 day:Int
 paragraphs:List aG
 deriving DecidableEq,Inhabited
def bZ:Hp→List Value→eA→Prop:=fun H cs x=>∃ (ad0:Option Addr) (cap0:Nat),cs=[.int .i64 x.day,.slice ad0 x.paragraphs.length cap0]∧Sl (aC aK) 2 H ad0 cap0 x.paragraphs
theorem bZ.one:kR bZ:=fun _ _ _ ⟨_,_,h,_⟩=>by subst h;rfl
theorem bZ.mono:fB bZ:=fun _ _ _ _ hk ⟨a0,c0,h,f0⟩=>⟨a0,c0,h,f0.mono (aC.mono _) hk⟩
structure cA where
 number:Int
 bound:Int
 height:Int
 width:Int
 parts:List eA
 deriving DecidableEq,Inhabited
def bE:Hp→List Value→cA→Prop:=fun H cs x=>∃ (ad0:Option Addr) (cap0:Nat),cs=[.int .i64 x.number,.int .i64 x.bound,.int .i64 x.height,.int .i64 x.width,.slice ad0 x.parts.length cap0]∧Sl (bZ) 2 H ad0 cap0 x.parts
theorem bE.one:kR bE:=fun _ _ _ ⟨_,_,h,_⟩=>by subst h;rfl
theorem bE.mono:fB bE:=fun _ _ _ _ hk ⟨a0,c0,h,f0⟩=>⟨a0,c0,h,f0.mono (bZ.mono) hk⟩
structure aQ where
 number:Int
 day:Int
 kind:Int
 anchor:Int
 text:aE
 new_:Int
 deriving DecidableEq,Inhabited
def aN (x:aQ):List Value:=[.int .i64 x.number,.int .i64 x.day,.int .u8 x.kind,.int .i64 x.anchor,.string (bs x.text),.int .i64 x.new_]
structure fQ where
 anchor:Int
 kind:Int
 until_:Int
 deriving DecidableEq,Inhabited
def eJ (x:fQ):List Value:=[.int .i64 x.anchor,.int .i64 x.kind,.int .i64 x.until_]
structure aX where
 number:Int
 of:Int
 from_:Int
 to_:Int
 words:List aE
 deriving DecidableEq,Inhabited
def aU:Hp→List Value→aX→Prop:=fun H cs x=>∃ (ad0:Option Addr) (cap0:Nat),cs=[.int .i64 x.number,.int .i64 x.of,.int .i64 x.from_,.int .i64 x.to_,.slice ad0 x.words.length cap0]∧Sl (aC bF) 1 H ad0 cap0 x.words
theorem aU.one:kR aU:=fun _ _ _ ⟨_,_,h,_⟩=>by subst h;rfl
theorem aU.mono:fB aU:=fun _ _ _ _ hk ⟨a0,c0,h,f0⟩=>⟨a0,c0,h,f0.mono (aC.mono _) hk⟩
structure cB where
 words:List aE
 papers:List aX
 deriving DecidableEq,Inhabited
def cE:Hp→List Value→cB→Prop:=fun H cs x=>∃ (ad0:Option Addr) (cap0:Nat) (ad1:Option Addr) (cap1:Nat),cs=[.slice ad0 x.words.length cap0,.slice ad1 x.papers.length cap1]∧Sl (aC bF) 1 H ad0 cap0 x.words∧Sl (aU) 5 H ad1 cap1 x.papers
theorem cE.one:kR cE:=fun _ _ _ ⟨_,_,_,_,h,_⟩=>by subst h;rfl
theorem cE.mono:fB cE:=fun _ _ _ _ hk ⟨a0,c0,a1,c1,h,f0,f1⟩=>⟨a0,c0,a1,c1,h,f0.mono (aC.mono _) hk,f1.mono (aU.mono) hk⟩
structure bQ where
 e0:List Int
 e1:List Int
 deriving DecidableEq,Inhabited
def gX:Hp→List Value→bQ→Prop:=fun H cs x=>∃ (ad0:Option Addr) (cap0:Nat) (ad1:Option Addr) (cap1:Nat),cs=[.slice ad0 x.e0.length cap0,.slice ad1 x.e1.length cap1]∧Sl (aC (bK .i64)) 1 H ad0 cap0 x.e0∧Sl (aC (bK .i64)) 1 H ad1 cap1 x.e1
theorem gX.one:kR gX:=fun _ _ _ ⟨_,_,_,_,h,_⟩=>by subst h;rfl
theorem gX.mono:fB gX:=fun _ _ _ _ hk ⟨a0,c0,a1,c1,h,f0,f1⟩=>⟨a0,c0,a1,c1,h,f0.mono (aC.mono _) hk,f1.mono (aC.mono _) hk⟩
structure fE where
 a:Int
 b:Int
 deriving DecidableEq,Inhabited
def eE (x:fE):List Value:=[.int .i64 x.a,.int .i64 x.b]
structure eF where
 holder:Int
 for_:Int
 deriving DecidableEq,Inhabited
def dY (x:eF):List Value:=[.int .i64 x.holder,.int .i64 x.for_]
structure aW where
 members:Int
 ayes:bQ
 noes:bQ
 pairs:List fE
 proxies:List eF
 rule:Int
 need:Int
 quorum:Int
 tie:Int
 deriving DecidableEq,Inhabited
structure RV where
 a0:Option Addr
 c0:Nat
 a1:Option Addr
 c1:Nat
 a2:Option Addr
 c2:Nat
 a3:Option Addr
 c3:Nat
 a4:Option Addr
 c4:Nat
 a5:Option Addr
 c5:Nat
abbrev cM (x:aW) (z:RV):List Value:=[.int .i64 x.members,.slice z.a0 x.ayes.e0.length z.c0,.slice z.a1 x.ayes.e1.length z.c1,.slice z.a2 x.noes.e0.length z.c2,.slice z.a3 x.noes.e1.length z.c3,.slice z.a4 x.pairs.length z.c4,.slice z.a5 x.proxies.length z.c5,.int .u8 x.rule,.int .i64 x.need,.int .i64 x.quorum,.int .u8 x.tie]
structure iC (H:Hp) (x:aW) (z:RV):Prop where
 f0:Sl (aC (bK .i64)) 1 H z.a0 z.c0 x.ayes.e0
 f1:Sl (aC (bK .i64)) 1 H z.a1 z.c1 x.ayes.e1
 f2:Sl (aC (bK .i64)) 1 H z.a2 z.c2 x.noes.e0
 f3:Sl (aC (bK .i64)) 1 H z.a3 z.c3 x.noes.e1
 f4:Sl (aC eE) 2 H z.a4 z.c4 x.pairs
 f5:Sl (aC dY) 2 H z.a5 z.c5 x.proxies
theorem iC.mono {H K:Hp} {x:aW} {z:RV} (h:iC H x z) (k:H.le K):iC K x z:=⟨h.f0.mono (aC.mono _) k,h.f1.mono (aC.mono _) k,h.f2.mono (aC.mono _) k,h.f3.mono (aC.mono _) k,h.f4.mono (aC.mono _) k,h.f5.mono (aC.mono _) k⟩
theorem iC.lens {H:Hp} {x:aW} {z:RV} (h:iC H x z):x.ayes.e0.length≤9223372036854775807∧x.ayes.e1.length≤9223372036854775807∧x.noes.e0.length≤9223372036854775807∧x.noes.e1.length≤9223372036854775807∧x.pairs.length≤9223372036854775807∧x.proxies.length≤9223372036854775807:=⟨h.f0.len,h.f1.len,h.f2.len,h.f3.len,h.f4.len,h.f5.len⟩
def bU:Hp→List Value→aW→Prop:=fun H cs x=>∃ z,cs=cM x z∧iC H x z
theorem bU.one:kR bU:=fun _ _ _ ⟨_,h,_⟩=>by subst h;rfl
theorem bU.mono:fB bU:=fun _ _ _ _ hk ⟨z,h,f⟩=>⟨z,h,f.mono hk⟩
structure cV where
 day:Int
 house:Int
 volume:cA
 bound:Bool
 errata:List aQ
 hides:List fQ
 cites:List aE
 motion:cB
 moved:Bool
 choice:List Int
 division:aW
 open_:Bool
 results:List UInt8
 deriving DecidableEq,Inhabited
structure rL where
 a0:Option Addr
 c0:Nat
 a1:Option Addr
 c1:Nat
 a2:Option Addr
 c2:Nat
 a3:Option Addr
 c3:Nat
 a4:Option Addr
 c4:Nat
 a5:Option Addr
 c5:Nat
 a6:Option Addr
 c6:Nat
 a7:Option Addr
 c7:Nat
 a8:Option Addr
 c8:Nat
 a9:Option Addr
 c9:Nat
 a10:Option Addr
 c10:Nat
 a11:Option Addr
 c11:Nat
 a12:Option Addr
 c12:Nat
 a13:Option Addr
 c13:Nat
abbrev cJ (x:cV) (z:rL):List Value:=[.int .i64 x.day,.int .i64 x.house,.int .i64 x.volume.number,.int .i64 x.volume.bound,.int .i64 x.volume.height,.int .i64 x.volume.width,.slice z.a0 x.volume.parts.length z.c0,.bool x.bound,.slice z.a1 x.errata.length z.c1,.slice z.a2 x.hides.length z.c2,.slice z.a3 x.cites.length z.c3,.slice z.a4 x.motion.words.length z.c4,.slice z.a5 x.motion.papers.length z.c5,.bool x.moved,.slice z.a6 x.choice.length z.c6,.int .i64 x.division.members,.slice z.a7 x.division.ayes.e0.length z.c7,.slice z.a8 x.division.ayes.e1.length z.c8,.slice z.a9 x.division.noes.e0.length z.c9,.slice z.a10 x.division.noes.e1.length z.c10,.slice z.a11 x.division.pairs.length z.c11,.slice z.a12 x.division.proxies.length z.c12,.int .u8 x.division.rule,.int .i64 x.division.need,.int .i64 x.division.quorum,.int .u8 x.division.tie,.bool x.open_,.slice z.a13 x.results.length z.c13]
structure mI (H:Hp) (x:cV) (z:rL):Prop where
 f0:Sl (bZ) 2 H z.a0 z.c0 x.volume.parts
 f1:Sl (aC aN) 6 H z.a1 z.c1 x.errata
 f2:Sl (aC eJ) 3 H z.a2 z.c2 x.hides
 f3:Sl (aC bF) 1 H z.a3 z.c3 x.cites
 f4:Sl (aC bF) 1 H z.a4 z.c4 x.motion.words
 f5:Sl (aU) 5 H z.a5 z.c5 x.motion.papers
 f6:Sl (aC (bK .i64)) 1 H z.a6 z.c6 x.choice
 f7:Sl (aC (bK .i64)) 1 H z.a7 z.c7 x.division.ayes.e0
 f8:Sl (aC (bK .i64)) 1 H z.a8 z.c8 x.division.ayes.e1
 f9:Sl (aC (bK .i64)) 1 H z.a9 z.c9 x.division.noes.e0
 f10:Sl (aC (bK .i64)) 1 H z.a10 z.c10 x.division.noes.e1
 f11:Sl (aC eE) 2 H z.a11 z.c11 x.division.pairs
 f12:Sl (aC dY) 2 H z.a12 z.c12 x.division.proxies
 f13:Sl (aC bN) 1 H z.a13 z.c13 x.results
theorem mI.mono {H K:Hp} {x:cV} {z:rL} (h:mI H x z) (k:H.le K):mI K x z:=⟨h.f0.mono (bZ.mono) k,h.f1.mono (aC.mono _) k,h.f2.mono (aC.mono _) k,h.f3.mono (aC.mono _) k,h.f4.mono (aC.mono _) k,h.f5.mono (aU.mono) k,h.f6.mono (aC.mono _) k,h.f7.mono (aC.mono _) k,h.f8.mono (aC.mono _) k,h.f9.mono (aC.mono _) k,h.f10.mono (aC.mono _) k,h.f11.mono (aC.mono _) k,h.f12.mono (aC.mono _) k,h.f13.mono (aC.mono _) k⟩
theorem mI.lens {H:Hp} {x:cV} {z:rL} (h:mI H x z):x.volume.parts.length≤9223372036854775807∧x.errata.length≤9223372036854775807∧x.hides.length≤9223372036854775807∧x.cites.length≤9223372036854775807∧x.motion.words.length≤9223372036854775807∧x.motion.papers.length≤9223372036854775807∧x.choice.length≤9223372036854775807∧x.division.ayes.e0.length≤9223372036854775807∧x.division.ayes.e1.length≤9223372036854775807∧x.division.noes.e0.length≤9223372036854775807∧x.division.noes.e1.length≤9223372036854775807∧x.division.pairs.length≤9223372036854775807∧x.division.proxies.length≤9223372036854775807∧x.results.length≤9223372036854775807:=⟨h.f0.len,h.f1.len,h.f2.len,h.f3.len,h.f4.len,h.f5.len,h.f6.len,h.f7.len,h.f8.len,h.f9.len,h.f10.len,h.f11.len,h.f12.len,h.f13.len⟩
def oA:Hp→List Value→cV→Prop:=fun H cs x=>∃ z,cs=cJ x z∧mI H x z
theorem oA.one:kR oA:=fun _ _ _ ⟨_,h,_⟩=>by subst h;rfl
theorem oA.mono:fB oA:=fun _ _ _ _ hk ⟨z,h,f⟩=>⟨z,h,f.mono hk⟩
structure aF where
 state:cV
 deriving DecidableEq,Inhabited
abbrev wQ (x:aF) (z:rL):List Value:=[.int .i64 x.state.day,.int .i64 x.state.house,.int .i64 x.state.volume.number,.int .i64 x.state.volume.bound,.int .i64 x.state.volume.height,.int .i64 x.state.volume.width,.slice z.a0 x.state.volume.parts.length z.c0,.bool x.state.bound,.slice z.a1 x.state.errata.length z.c1,.slice z.a2 x.state.hides.length z.c2,.slice z.a3 x.state.cites.length z.c3,.slice z.a4 x.state.motion.words.length z.c4,.slice z.a5 x.state.motion.papers.length z.c5,.bool x.state.moved,.slice z.a6 x.state.choice.length z.c6,.int .i64 x.state.division.members,.slice z.a7 x.state.division.ayes.e0.length z.c7,.slice z.a8 x.state.division.ayes.e1.length z.c8,.slice z.a9 x.state.division.noes.e0.length z.c9,.slice z.a10 x.state.division.noes.e1.length z.c10,.slice z.a11 x.state.division.pairs.length z.c11,.slice z.a12 x.state.division.proxies.length z.c12,.int .u8 x.state.division.rule,.int .i64 x.state.division.need,.int .i64 x.state.division.quorum,.int .u8 x.state.division.tie,.bool x.state.open_,.slice z.a13 x.state.results.length z.c13]
structure jE (H:Hp) (x:aF) (z:rL):Prop where
 f0:Sl (bZ) 2 H z.a0 z.c0 x.state.volume.parts
 f1:Sl (aC aN) 6 H z.a1 z.c1 x.state.errata
 f2:Sl (aC eJ) 3 H z.a2 z.c2 x.state.hides
 f3:Sl (aC bF) 1 H z.a3 z.c3 x.state.cites
 f4:Sl (aC bF) 1 H z.a4 z.c4 x.state.motion.words
 f5:Sl (aU) 5 H z.a5 z.c5 x.state.motion.papers
 f6:Sl (aC (bK .i64)) 1 H z.a6 z.c6 x.state.choice
 f7:Sl (aC (bK .i64)) 1 H z.a7 z.c7 x.state.division.ayes.e0
 f8:Sl (aC (bK .i64)) 1 H z.a8 z.c8 x.state.division.ayes.e1
 f9:Sl (aC (bK .i64)) 1 H z.a9 z.c9 x.state.division.noes.e0
 f10:Sl (aC (bK .i64)) 1 H z.a10 z.c10 x.state.division.noes.e1
 f11:Sl (aC eE) 2 H z.a11 z.c11 x.state.division.pairs
 f12:Sl (aC dY) 2 H z.a12 z.c12 x.state.division.proxies
 f13:Sl (aC bN) 1 H z.a13 z.c13 x.state.results
theorem jE.mono {H K:Hp} {x:aF} {z:rL} (h:jE H x z) (k:H.le K):jE K x z:=⟨h.f0.mono (bZ.mono) k,h.f1.mono (aC.mono _) k,h.f2.mono (aC.mono _) k,h.f3.mono (aC.mono _) k,h.f4.mono (aC.mono _) k,h.f5.mono (aU.mono) k,h.f6.mono (aC.mono _) k,h.f7.mono (aC.mono _) k,h.f8.mono (aC.mono _) k,h.f9.mono (aC.mono _) k,h.f10.mono (aC.mono _) k,h.f11.mono (aC.mono _) k,h.f12.mono (aC.mono _) k,h.f13.mono (aC.mono _) k⟩
theorem jE.lens {H:Hp} {x:aF} {z:rL} (h:jE H x z):x.state.volume.parts.length≤9223372036854775807∧x.state.errata.length≤9223372036854775807∧x.state.hides.length≤9223372036854775807∧x.state.cites.length≤9223372036854775807∧x.state.motion.words.length≤9223372036854775807∧x.state.motion.papers.length≤9223372036854775807∧x.state.choice.length≤9223372036854775807∧x.state.division.ayes.e0.length≤9223372036854775807∧x.state.division.ayes.e1.length≤9223372036854775807∧x.state.division.noes.e0.length≤9223372036854775807∧x.state.division.noes.e1.length≤9223372036854775807∧x.state.division.pairs.length≤9223372036854775807∧x.state.division.proxies.length≤9223372036854775807∧x.state.results.length≤9223372036854775807:=⟨h.f0.len,h.f1.len,h.f2.len,h.f3.len,h.f4.len,h.f5.len,h.f6.len,h.f7.len,h.f8.len,h.f9.len,h.f10.len,h.f11.len,h.f12.len,h.f13.len⟩
def aP:Hp→List Value→aF→Prop:=fun H cs x=>∃ z,cs=wQ x z∧jE H x z
theorem aP.one:kR aP:=fun _ _ _ ⟨_,h,_⟩=>by subst h;rfl
theorem aP.mono:fB aP:=fun _ _ _ _ hk ⟨z,h,f⟩=>⟨z,h,f.mono hk⟩
structure dU where
 paragraph:aG
 removed:Bool
 deriving DecidableEq,Inhabited
def cL (x:dU):List Value:=[.int .i64 x.paragraph.anchor,.string (bs x.paragraph.text),.bool x.removed]
structure gM where
 volume:cA
 parts:List (List dU)
 deriving DecidableEq,Inhabited
def jF:Hp→List Value→gM→Prop:=fun H cs x=>∃ (ad0:Option Addr) (cap0:Nat) (ad1:Option Addr) (cap1:Nat),cs=[.int .i64 x.volume.number,.int .i64 x.volume.bound,.int .i64 x.volume.height,.int .i64 x.volume.width,.slice ad0 x.volume.parts.length cap0,.slice ad1 x.parts.length cap1]∧Sl (bZ) 2 H ad0 cap0 x.volume.parts∧Sl (sC (aC cL) 3) 1 H ad1 cap1 x.parts
theorem jF.one:kR jF:=fun _ _ _ ⟨_,_,_,_,h,_⟩=>by subst h;rfl
theorem jF.mono:fB jF:=fun _ _ _ _ hk ⟨a0,c0,a1,c1,h,f0,f1⟩=>⟨a0,c0,a1,c1,h,f0.mono (bZ.mono) hk,f1.mono (sC.mono (aC.mono _)) hk⟩
structure hY where
 anchor:Int
 column:Int
 line:Int
 lines:Int
 deriving DecidableEq,Inhabited
def fJ (x:hY):List Value:=[.int .i64 x.anchor,.int .i64 x.column,.int .i64 x.line,.int .i64 x.lines]
structure dC where
 place:hY
 day:Int
 number:Int
 deriving DecidableEq,Inhabited
def eQ (x:dC):List Value:=[.int .i64 x.place.anchor,.int .i64 x.place.column,.int .i64 x.place.line,.int .i64 x.place.lines,.int .i64 x.day,.int .i64 x.number]
structure fM where
 ayes:Int
 noes:Int
 deriving DecidableEq,Inhabited
def iK (x:fM):List Value:=[.int .i64 x.ayes,.int .i64 x.noes]
structure bM where
 e0:Bool
 e1:Bool
 e2:Bool
 e3:Bool
 e4:Bool
 e5:Bool
 e6:Bool
 e7:Bool
 e8:Bool
 e9:Bool
 e10:Bool
 e11:Bool
 e12:Bool
 e13:Bool
 e14:Bool
 e15:Bool
 e16:Bool
 e17:Bool
 e18:Bool
 e19:Bool
 e20:Bool
 e21:Bool
 e22:Bool
 e23:Bool
 e24:Bool
 e25:Bool
 e26:Bool
 e27:Bool
 e28:Bool
 e29:Bool
 e30:Bool
 e31:Bool
 e32:Bool
 e33:Bool
 e34:Bool
 e35:Bool
 e36:Bool
 e37:Bool
 e38:Bool
 e39:Bool
 deriving Inhabited
def bA (x:bM):List Value:=[.bool x.e0,.bool x.e1,.bool x.e2,.bool x.e3,.bool x.e4,.bool x.e5,.bool x.e6,.bool x.e7,.bool x.e8,.bool x.e9,.bool x.e10,.bool x.e11,.bool x.e12,.bool x.e13,.bool x.e14,.bool x.e15,.bool x.e16,.bool x.e17,.bool x.e18,.bool x.e19,.bool x.e20,.bool x.e21,.bool x.e22,.bool x.e23,.bool x.e24,.bool x.e25,.bool x.e26,.bool x.e27,.bool x.e28,.bool x.e29,.bool x.e30,.bool x.e31,.bool x.e32,.bool x.e33,.bool x.e34,.bool x.e35,.bool x.e36,.bool x.e37,.bool x.e38,.bool x.e39]
def bM.vals (x:bM):List Bool:=[x.e0,x.e1,x.e2,x.e3,x.e4,x.e5,x.e6,x.e7,x.e8,x.e9,x.e10,x.e11,x.e12,x.e13,x.e14,x.e15,x.e16,x.e17,x.e18,x.e19,x.e20,x.e21,x.e22,x.e23,x.e24,x.e25,x.e26,x.e27,x.e28,x.e29,x.e30,x.e31,x.e32,x.e33,x.e34,x.e35,x.e36,x.e37,x.e38,x.e39]
def bM.get (x:bM) (j:Nat):Bool:=x.vals.getD j default
def bM.set (x:bM) (j:Nat) (v:Bool):bM:=⟨if j=0 then v else x.e0,if j=1 then v else x.e1,if j=2 then v else x.e2,if j=3 then v else x.e3,if j=4 then v else x.e4,if j=5 then v else x.e5,if j=6 then v else x.e6,if j=7 then v else x.e7,if j=8 then v else x.e8,if j=9 then v else x.e9,if j=10 then v else x.e10,if j=11 then v else x.e11,if j=12 then v else x.e12,if j=13 then v else x.e13,if j=14 then v else x.e14,if j=15 then v else x.e15,if j=16 then v else x.e16,if j=17 then v else x.e17,if j=18 then v else x.e18,if j=19 then v else x.e19,if j=20 then v else x.e20,if j=21 then v else x.e21,if j=22 then v else x.e22,if j=23 then v else x.e23,if j=24 then v else x.e24,if j=25 then v else x.e25,if j=26 then v else x.e26,if j=27 then v else x.e27,if j=28 then v else x.e28,if j=29 then v else x.e29,if j=30 then v else x.e30,if j=31 then v else x.e31,if j=32 then v else x.e32,if j=33 then v else x.e33,if j=34 then v else x.e34,if j=35 then v else x.e35,if j=36 then v else x.e36,if j=37 then v else x.e37,if j=38 then v else x.e38,if j=39 then v else x.e39⟩
def bM.zero:bM:=⟨false,false,false,false,false,false,false,false,false,false,false,false,false,false,false,false,false,false,false,false,false,false,false,false,false,false,false,false,false,false,false,false,false,false,false,false,false,false,false,false⟩
theorem bM.vset (x:bM) (v:Bool):∀ (j:Nat),j < 40→(x.set j v).vals=x.vals.set j v
 | 0,_=>rfl
 | 1,_=>rfl
 | 2,_=>rfl
 | 3,_=>rfl
 | 4,_=>rfl
 | 5,_=>rfl
 | 6,_=>rfl
 | 7,_=>rfl
 | 8,_=>rfl
 | 9,_=>rfl
 | 10,_=>rfl
 | 11,_=>rfl
 | 12,_=>rfl
 | 13,_=>rfl
 | 14,_=>rfl
 | 15,_=>rfl
 | 16,_=>rfl
 | 17,_=>rfl
 | 18,_=>rfl
 | 19,_=>rfl
 | 20,_=>rfl
 | 21,_=>rfl
 | 22,_=>rfl
 | 23,_=>rfl
 | 24,_=>rfl
 | 25,_=>rfl
 | 26,_=>rfl
 | 27,_=>rfl
 | 28,_=>rfl
 | 29,_=>rfl
 | 30,_=>rfl
 | 31,_=>rfl
 | 32,_=>rfl
 | 33,_=>rfl
 | 34,_=>rfl
 | 35,_=>rfl
 | 36,_=>rfl
 | 37,_=>rfl
 | 38,_=>rfl
 | 39,_=>rfl
 | n+40,h=>absurd h (by omega)
theorem bM.em (x:bM):bA x=x.vals.map (fun v=>Value.bool v):=rfl
theorem bM.st {x:bM} {j:Nat} {v:Bool} (h:j < 40):(bA x).set j (Value.bool v)=bA (x.set j v):=by rw [bM.em,bM.em,bM.vset x v j h,List.map_set]
theorem bM.at {x:bM} {j:Nat} (h:j < 40):(bA x)[j]?=some (Value.bool (x.get j)):=by
 have h2:x.vals[j]?=some (x.get j):=by unfold bM.get;rw [List.getD_eq_getElem?_getD,List.getElem?_eq_getElem (show j < x.vals.length from h)];rfl
 rw [bM.em,List.getElem?_map,h2];rfl
structure dQ where
 division:aW
 paired:bM
 may:List (List UInt8)
 deriving Inhabited
def eU:Hp→List Value→dQ→Prop:=fun H cs x=>∃ (ad0:Option Addr) (cap0:Nat) (ad1:Option Addr) (cap1:Nat) (MC:Option Addr) (cap2:Nat) (RQ:Option Addr) (cap3:Nat) (ad4:Option Addr) (cap4:Nat) (ad5:Option Addr) (cap5:Nat) (hs6:List gZ),cs=(eO (eO [.int .i64 x.division.members,.slice ad0 x.division.ayes.e0.length cap0,.slice ad1 x.division.ayes.e1.length cap1,.slice MC x.division.noes.e0.length cap2,.slice RQ x.division.noes.e1.length cap3,.slice ad4 x.division.pairs.length cap4,.slice ad5 x.division.proxies.length cap5,.int .u8 x.division.rule,.int .i64 x.division.need,.int .i64 x.division.quorum,.int .u8 x.division.tie] (bA x.paired)) (jA hs6 x.may))∧Sl (aC (bK .i64)) 1 H ad0 cap0 x.division.ayes.e0∧Sl (aC (bK .i64)) 1 H ad1 cap1 x.division.ayes.e1∧Sl (aC (bK .i64)) 1 H MC cap2 x.division.noes.e0∧Sl (aC (bK .i64)) 1 H RQ cap3 x.division.noes.e1∧Sl (aC eE) 2 H ad4 cap4 x.division.pairs∧Sl (aC dY) 2 H ad5 cap5 x.division.proxies∧mP (aC bN) 1 40 H hs6 x.may
theorem eU.mono:fB eU:=fun _ _ _ _ hk ⟨a0,c0,a1,c1,a2,c2,a3,c3,a4,c4,a5,c5,s6,h,f0,f1,f2,f3,f4,f5,f6⟩=>⟨a0,c0,a1,c1,a2,c2,a3,c3,a4,c4,a5,c5,s6,h,f0.mono (aC.mono _) hk,f1.mono (aC.mono _) hk,f2.mono (aC.mono _) hk,f3.mono (aC.mono _) hk,f4.mono (aC.mono _) hk,f5.mono (aC.mono _) hk,f6.mono (aC.mono _) hk⟩
structure bH where
 e0:Int
 e1:Int
 e2:Int
 e3:Int
 e4:Int
 e5:Int
 e6:Int
 e7:Int
 e8:Int
 e9:Int
 e10:Int
 e11:Int
 e12:Int
 e13:Int
 e14:Int
 e15:Int
 e16:Int
 e17:Int
 e18:Int
 e19:Int
 e20:Int
 e21:Int
 e22:Int
 e23:Int
 e24:Int
 e25:Int
 e26:Int
 e27:Int
 e28:Int
 e29:Int
 e30:Int
 e31:Int
 e32:Int
 e33:Int
 e34:Int
 e35:Int
 e36:Int
 e37:Int
 e38:Int
 e39:Int
 deriving Inhabited
def cH (x:bH):List Value:=[.int .u8 x.e0,.int .u8 x.e1,.int .u8 x.e2,.int .u8 x.e3,.int .u8 x.e4,.int .u8 x.e5,.int .u8 x.e6,.int .u8 x.e7,.int .u8 x.e8,.int .u8 x.e9,.int .u8 x.e10,.int .u8 x.e11,.int .u8 x.e12,.int .u8 x.e13,.int .u8 x.e14,.int .u8 x.e15,.int .u8 x.e16,.int .u8 x.e17,.int .u8 x.e18,.int .u8 x.e19,.int .u8 x.e20,.int .u8 x.e21,.int .u8 x.e22,.int .u8 x.e23,.int .u8 x.e24,.int .u8 x.e25,.int .u8 x.e26,.int .u8 x.e27,.int .u8 x.e28,.int .u8 x.e29,.int .u8 x.e30,.int .u8 x.e31,.int .u8 x.e32,.int .u8 x.e33,.int .u8 x.e34,.int .u8 x.e35,.int .u8 x.e36,.int .u8 x.e37,.int .u8 x.e38,.int .u8 x.e39]
def bH.vals (x:bH):List Int:=[x.e0,x.e1,x.e2,x.e3,x.e4,x.e5,x.e6,x.e7,x.e8,x.e9,x.e10,x.e11,x.e12,x.e13,x.e14,x.e15,x.e16,x.e17,x.e18,x.e19,x.e20,x.e21,x.e22,x.e23,x.e24,x.e25,x.e26,x.e27,x.e28,x.e29,x.e30,x.e31,x.e32,x.e33,x.e34,x.e35,x.e36,x.e37,x.e38,x.e39]
def bH.get (x:bH) (j:Nat):Int:=x.vals.getD j default
def bH.set (x:bH) (j:Nat) (v:Int):bH:=⟨if j=0 then v else x.e0,if j=1 then v else x.e1,if j=2 then v else x.e2,if j=3 then v else x.e3,if j=4 then v else x.e4,if j=5 then v else x.e5,if j=6 then v else x.e6,if j=7 then v else x.e7,if j=8 then v else x.e8,if j=9 then v else x.e9,if j=10 then v else x.e10,if j=11 then v else x.e11,if j=12 then v else x.e12,if j=13 then v else x.e13,if j=14 then v else x.e14,if j=15 then v else x.e15,if j=16 then v else x.e16,if j=17 then v else x.e17,if j=18 then v else x.e18,if j=19 then v else x.e19,if j=20 then v else x.e20,if j=21 then v else x.e21,if j=22 then v else x.e22,if j=23 then v else x.e23,if j=24 then v else x.e24,if j=25 then v else x.e25,if j=26 then v else x.e26,if j=27 then v else x.e27,if j=28 then v else x.e28,if j=29 then v else x.e29,if j=30 then v else x.e30,if j=31 then v else x.e31,if j=32 then v else x.e32,if j=33 then v else x.e33,if j=34 then v else x.e34,if j=35 then v else x.e35,if j=36 then v else x.e36,if j=37 then v else x.e37,if j=38 then v else x.e38,if j=39 then v else x.e39⟩
def bH.zero:bH:=⟨0,0,0,0,0,0,0,0,0,0,0,0,0,0,0,0,0,0,0,0,0,0,0,0,0,0,0,0,0,0,0,0,0,0,0,0,0,0,0,0⟩
theorem bH.vset (x:bH) (v:Int):∀ (j:Nat),j < 40→(x.set j v).vals=x.vals.set j v
 | 0,_=>rfl
 | 1,_=>rfl
 | 2,_=>rfl
 | 3,_=>rfl
 | 4,_=>rfl
 | 5,_=>rfl
 | 6,_=>rfl
 | 7,_=>rfl
 | 8,_=>rfl
 | 9,_=>rfl
 | 10,_=>rfl
 | 11,_=>rfl
 | 12,_=>rfl
 | 13,_=>rfl
 | 14,_=>rfl
 | 15,_=>rfl
 | 16,_=>rfl
 | 17,_=>rfl
 | 18,_=>rfl
 | 19,_=>rfl
 | 20,_=>rfl
 | 21,_=>rfl
 | 22,_=>rfl
 | 23,_=>rfl
 | 24,_=>rfl
 | 25,_=>rfl
 | 26,_=>rfl
 | 27,_=>rfl
 | 28,_=>rfl
 | 29,_=>rfl
 | 30,_=>rfl
 | 31,_=>rfl
 | 32,_=>rfl
 | 33,_=>rfl
 | 34,_=>rfl
 | 35,_=>rfl
 | 36,_=>rfl
 | 37,_=>rfl
 | 38,_=>rfl
 | 39,_=>rfl
 | n+40,h=>absurd h (by omega)
theorem bH.em (x:bH):cH x=x.vals.map (fun v=>Value.int .u8 v):=rfl
theorem bH.st {x:bH} {j:Nat} {v:Int} (h:j < 40):(cH x).set j (Value.int .u8 v)=cH (x.set j v):=by rw [bH.em,bH.em,bH.vset x v j h,List.map_set]
theorem bH.at {x:bH} {j:Nat} (h:j < 40):(cH x)[j]?=some (Value.int .u8 (x.get j)):=by
 have h2:x.vals[j]?=some (x.get j):=by unfold bH.get;rw [List.getD_eq_getElem?_getD,List.getElem?_eq_getElem (show j < x.vals.length from h)];rfl
 rw [bH.em,List.getElem?_map,h2];rfl
structure bL where
 number:Int
 index:Int
 deriving DecidableEq,Inhabited
def bV (x:bL):List Value:=[.int .i64 x.number,.int .i64 x.index]
structure dR where
 many:Int
 text:Bool
 do_:Option Nat
 deriving DecidableEq,Inhabited
def dP (x:dR):List Value:=[.int .i64 x.many,.bool x.text,pK x.do_]
structure dF where
 from_:Int
 to_:Int
 kind:Int
 until_:Int
 deriving DecidableEq,Inhabited
def dG (x:dF):List Value:=[.int .i64 x.from_,.int .i64 x.to_,.int .i64 x.kind,.int .i64 x.until_]
structure dS where
 text:aE
 heads:List Int
 deriving DecidableEq,Inhabited
def dD:Hp→List Value→dS→Prop:=fun H cs x=>∃ (ad0:Option Addr) (cap0:Nat),cs=[.string (bs x.text),.slice ad0 x.heads.length cap0]∧Sl (aC (bK .i64)) 1 H ad0 cap0 x.heads
theorem dD.one:kR dD:=fun _ _ _ ⟨_,_,h,_⟩=>by subst h;rfl
theorem dD.mono:fB dD:=fun _ _ _ _ hk ⟨a0,c0,h,f0⟩=>⟨a0,c0,h,f0.mono (aC.mono _) hk⟩
structure gC where
 words:List dS
 orders:List dF
 columns:Int
 deriving DecidableEq,Inhabited
def gO:Hp→List Value→gC→Prop:=fun H cs x=>∃ (ad0:Option Addr) (cap0:Nat) (ad1:Option Addr) (cap1:Nat),cs=[.slice ad0 x.words.length cap0,.slice ad1 x.orders.length cap1,.int .i64 x.columns]∧Sl (dD) 2 H ad0 cap0 x.words∧Sl (aC dG) 4 H ad1 cap1 x.orders
theorem gO.one:kR gO:=fun _ _ _ ⟨_,_,_,_,h,_⟩=>by subst h;rfl
theorem gO.mono:fB gO:=fun _ _ _ _ hk ⟨a0,c0,a1,c1,h,f0,f1⟩=>⟨a0,c0,a1,c1,h,f0.mono (dD.mono) hk,f1.mono (aC.mono _) hk⟩
structure iY where
 year:Int
 may:List Int
 deriving DecidableEq,Inhabited
def jM:Hp→List Value→iY→Prop:=fun H cs x=>∃ (ad0:Option Addr) (cap0:Nat),cs=[.int .i64 x.year,.slice ad0 x.may.length cap0]∧Sl (aC (bK .i64)) 1 H ad0 cap0 x.may
theorem jM.one:kR jM:=fun _ _ _ ⟨_,_,h,_⟩=>by subst h;rfl
theorem jM.mono:fB jM:=fun _ _ _ _ hk ⟨a0,c0,h,f0⟩=>⟨a0,c0,h,f0.mono (aC.mono _) hk⟩
structure aY where
 e0:Bool
 e1:Bool
 e2:Bool
 e3:Bool
 e4:Bool
 e5:Bool
 e6:Bool
 e7:Bool
 e8:Bool
 e9:Bool
 e10:Bool
 e11:Bool
 e12:Bool
 e13:Bool
 e14:Bool
 e15:Bool
 e16:Bool
 e17:Bool
 e18:Bool
 e19:Bool
 e20:Bool
 e21:Bool
 e22:Bool
 e23:Bool
 e24:Bool
 e25:Bool
 e26:Bool
 e27:Bool
 e28:Bool
 e29:Bool
 e30:Bool
 e31:Bool
 e32:Bool
 e33:Bool
 e34:Bool
 e35:Bool
 e36:Bool
 e37:Bool
 e38:Bool
 e39:Bool
 e40:Bool
 e41:Bool
 e42:Bool
 e43:Bool
 e44:Bool
 e45:Bool
 e46:Bool
 e47:Bool
 e48:Bool
 e49:Bool
 e50:Bool
 e51:Bool
 e52:Bool
 e53:Bool
 e54:Bool
 e55:Bool
 e56:Bool
 e57:Bool
 e58:Bool
 e59:Bool
 deriving Inhabited
def bC (x:aY):List Value:=[.bool x.e0,.bool x.e1,.bool x.e2,.bool x.e3,.bool x.e4,.bool x.e5,.bool x.e6,.bool x.e7,.bool x.e8,.bool x.e9,.bool x.e10,.bool x.e11,.bool x.e12,.bool x.e13,.bool x.e14,.bool x.e15,.bool x.e16,.bool x.e17,.bool x.e18,.bool x.e19,.bool x.e20,.bool x.e21,.bool x.e22,.bool x.e23,.bool x.e24,.bool x.e25,.bool x.e26,.bool x.e27,.bool x.e28,.bool x.e29,.bool x.e30,.bool x.e31,.bool x.e32,.bool x.e33,.bool x.e34,.bool x.e35,.bool x.e36,.bool x.e37,.bool x.e38,.bool x.e39,.bool x.e40,.bool x.e41,.bool x.e42,.bool x.e43,.bool x.e44,.bool x.e45,.bool x.e46,.bool x.e47,.bool x.e48,.bool x.e49,.bool x.e50,.bool x.e51,.bool x.e52,.bool x.e53,.bool x.e54,.bool x.e55,.bool x.e56,.bool x.e57,.bool x.e58,.bool x.e59]
def aY.vals (x:aY):List Bool:=[x.e0,x.e1,x.e2,x.e3,x.e4,x.e5,x.e6,x.e7,x.e8,x.e9,x.e10,x.e11,x.e12,x.e13,x.e14,x.e15,x.e16,x.e17,x.e18,x.e19,x.e20,x.e21,x.e22,x.e23,x.e24,x.e25,x.e26,x.e27,x.e28,x.e29,x.e30,x.e31,x.e32,x.e33,x.e34,x.e35,x.e36,x.e37,x.e38,x.e39,x.e40,x.e41,x.e42,x.e43,x.e44,x.e45,x.e46,x.e47,x.e48,x.e49,x.e50,x.e51,x.e52,x.e53,x.e54,x.e55,x.e56,x.e57,x.e58,x.e59]
def aY.get (x:aY) (j:Nat):Bool:=x.vals.getD j default
def aY.set (x:aY) (j:Nat) (v:Bool):aY:=⟨if j=0 then v else x.e0,if j=1 then v else x.e1,if j=2 then v else x.e2,if j=3 then v else x.e3,if j=4 then v else x.e4,if j=5 then v else x.e5,if j=6 then v else x.e6,if j=7 then v else x.e7,if j=8 then v else x.e8,if j=9 then v else x.e9,if j=10 then v else x.e10,if j=11 then v else x.e11,if j=12 then v else x.e12,if j=13 then v else x.e13,if j=14 then v else x.e14,if j=15 then v else x.e15,if j=16 then v else x.e16,if j=17 then v else x.e17,if j=18 then v else x.e18,if j=19 then v else x.e19,if j=20 then v else x.e20,if j=21 then v else x.e21,if j=22 then v else x.e22,if j=23 then v else x.e23,if j=24 then v else x.e24,if j=25 then v else x.e25,if j=26 then v else x.e26,if j=27 then v else x.e27,if j=28 then v else x.e28,if j=29 then v else x.e29,if j=30 then v else x.e30,if j=31 then v else x.e31,if j=32 then v else x.e32,if j=33 then v else x.e33,if j=34 then v else x.e34,if j=35 then v else x.e35,if j=36 then v else x.e36,if j=37 then v else x.e37,if j=38 then v else x.e38,if j=39 then v else x.e39,if j=40 then v else x.e40,if j=41 then v else x.e41,if j=42 then v else x.e42,if j=43 then v else x.e43,if j=44 then v else x.e44,if j=45 then v else x.e45,if j=46 then v else x.e46,if j=47 then v else x.e47,if j=48 then v else x.e48,if j=49 then v else x.e49,if j=50 then v else x.e50,if j=51 then v else x.e51,if j=52 then v else x.e52,if j=53 then v else x.e53,if j=54 then v else x.e54,if j=55 then v else x.e55,if j=56 then v else x.e56,if j=57 then v else x.e57,if j=58 then v else x.e58,if j=59 then v else x.e59⟩
def aY.zero:aY:=⟨false,false,false,false,false,false,false,false,false,false,false,false,false,false,false,false,false,false,false,false,false,false,false,false,false,false,false,false,false,false,false,false,false,false,false,false,false,false,false,false,false,false,false,false,false,false,false,false,false,false,false,false,false,false,false,false,false,false,false,false⟩
theorem aY.vset (x:aY) (v:Bool):∀ (j:Nat),j < 60→(x.set j v).vals=x.vals.set j v
 | 0,_=>rfl
 | 1,_=>rfl
 | 2,_=>rfl
 | 3,_=>rfl
 | 4,_=>rfl
 | 5,_=>rfl
 | 6,_=>rfl
 | 7,_=>rfl
 | 8,_=>rfl
 | 9,_=>rfl
 | 10,_=>rfl
 | 11,_=>rfl
 | 12,_=>rfl
 | 13,_=>rfl
 | 14,_=>rfl
 | 15,_=>rfl
 | 16,_=>rfl
 | 17,_=>rfl
 | 18,_=>rfl
 | 19,_=>rfl
 | 20,_=>rfl
 | 21,_=>rfl
 | 22,_=>rfl
 | 23,_=>rfl
 | 24,_=>rfl
 | 25,_=>rfl
 | 26,_=>rfl
 | 27,_=>rfl
 | 28,_=>rfl
 | 29,_=>rfl
 | 30,_=>rfl
 | 31,_=>rfl
 | 32,_=>rfl
 | 33,_=>rfl
 | 34,_=>rfl
 | 35,_=>rfl
 | 36,_=>rfl
 | 37,_=>rfl
 | 38,_=>rfl
 | 39,_=>rfl
 | 40,_=>rfl
 | 41,_=>rfl
 | 42,_=>rfl
 | 43,_=>rfl
 | 44,_=>rfl
 | 45,_=>rfl
 | 46,_=>rfl
 | 47,_=>rfl
 | 48,_=>rfl
 | 49,_=>rfl
 | 50,_=>rfl
 | 51,_=>rfl
 | 52,_=>rfl
 | 53,_=>rfl
 | 54,_=>rfl
 | 55,_=>rfl
 | 56,_=>rfl
 | 57,_=>rfl
 | 58,_=>rfl
 | 59,_=>rfl
 | n+60,h=>absurd h (by omega)
theorem aY.em (x:aY):bC x=x.vals.map (fun v=>Value.bool v):=rfl
theorem aY.st {x:aY} {j:Nat} {v:Bool} (h:j < 60):(bC x).set j (Value.bool v)=bC (x.set j v):=by rw [aY.em,aY.em,aY.vset x v j h,List.map_set]
theorem aY.at {x:aY} {j:Nat} (h:j < 60):(bC x)[j]?=some (Value.bool (x.get j)):=by
 have h2:x.vals[j]?=some (x.get j):=by unfold aY.get;rw [List.getD_eq_getElem?_getD,List.getElem?_eq_getElem (show j < x.vals.length from h)];rfl
 rw [aY.em,List.getElem?_map,h2];rfl
structure dT where
 report:gC
 reader:iY
 veil:aY
 deriving Inhabited
structure RW where
 a0:Option Addr
 c0:Nat
 a1:Option Addr
 c1:Nat
 a2:Option Addr
 c2:Nat
abbrev wR (x:dT) (z:RW):List Value:=(eO [.slice z.a0 x.report.words.length z.c0,.slice z.a1 x.report.orders.length z.c1,.int .i64 x.report.columns,.int .i64 x.reader.year,.slice z.a2 x.reader.may.length z.c2] (bC x.veil))
structure jG (H:Hp) (x:dT) (z:RW):Prop where
 f0:Sl (dD) 2 H z.a0 z.c0 x.report.words
 f1:Sl (aC dG) 4 H z.a1 z.c1 x.report.orders
 f2:Sl (aC (bK .i64)) 1 H z.a2 z.c2 x.reader.may
theorem jG.mono {H K:Hp} {x:dT} {z:RW} (h:jG H x z) (k:H.le K):jG K x z:=⟨h.f0.mono (dD.mono) k,h.f1.mono (aC.mono _) k,h.f2.mono (aC.mono _) k⟩
theorem jG.lens {H:Hp} {x:dT} {z:RW} (h:jG H x z):x.report.words.length≤9223372036854775807∧x.report.orders.length≤9223372036854775807∧x.reader.may.length≤9223372036854775807:=⟨h.f0.len,h.f1.len,h.f2.len⟩
def gD:Hp→List Value→dT→Prop:=fun H cs x=>∃ z,cs=wR x z∧jG H x z
theorem gD.one:kR gD:=fun _ _ _ ⟨_,h,_⟩=>by subst h;rfl
theorem gD.mono:fB gD:=fun _ _ _ _ hk ⟨z,h,f⟩=>⟨z,h,f.mono hk⟩
structure gE where
 text:aE
 column:Int
 deriving DecidableEq,Inhabited
def gG (x:gE):List Value:=[.string (bs x.text),.int .i64 x.column]
structure cX where
 e0:Int
 e1:Int
 e2:Int
 e3:Int
 e4:Int
 e5:Int
 deriving Inhabited
def fA (x:cX):List Value:=[.int .u8 x.e0,.int .u8 x.e1,.int .u8 x.e2,.int .u8 x.e3,.int .u8 x.e4,.int .u8 x.e5]
def cX.vals (x:cX):List Int:=[x.e0,x.e1,x.e2,x.e3,x.e4,x.e5]
def cX.get (x:cX) (j:Nat):Int:=x.vals.getD j default
def cX.set (x:cX) (j:Nat) (v:Int):cX:=⟨if j=0 then v else x.e0,if j=1 then v else x.e1,if j=2 then v else x.e2,if j=3 then v else x.e3,if j=4 then v else x.e4,if j=5 then v else x.e5⟩
def cX.zero:cX:=⟨0,0,0,0,0,0⟩
theorem cX.vset (x:cX) (v:Int):∀ (j:Nat),j < 6→(x.set j v).vals=x.vals.set j v
 | 0,_=>rfl
 | 1,_=>rfl
 | 2,_=>rfl
 | 3,_=>rfl
 | 4,_=>rfl
 | 5,_=>rfl
 | n+6,h=>absurd h (by omega)
theorem cX.em (x:cX):fA x=x.vals.map (fun v=>Value.int .u8 v):=rfl
theorem cX.st {x:cX} {j:Nat} {v:Int} (h:j < 6):(fA x).set j (Value.int .u8 v)=fA (x.set j v):=by rw [cX.em,cX.em,cX.vset x v j h,List.map_set]
theorem cX.at {x:cX} {j:Nat} (h:j < 6):(fA x)[j]?=some (Value.int .u8 (x.get j)):=by
 have h2:x.vals[j]?=some (x.get j):=by unfold cX.get;rw [List.getD_eq_getElem?_getD,List.getElem?_eq_getElem (show j < x.vals.length from h)];rfl
 rw [cX.em,List.getElem?_map,h2];rfl
theorem mixed:Tryz.prog.follows .mixedOrders=true:=by kernel_rfl
theorem B47:cP Tryz.prog 47 [.int .i64 0,.int .i64 0,.int .i64 0,.int .i64 0,.slice none 0 0] #[(0,1),(1,1),(2,1),(3,1),(4,1)]:=⟨⟨.agg [.int .i64 0,.int .i64 0,.int .i64 0,.int .i64 0,.slice none 0 0].toArray,rfl,Tryz.zeroValue47⟩,⟨_,Tryz.underlying47,fun _=>by kernel_rfl⟩⟩
theorem B52:cP Tryz.prog 52 [.slice none 0 0,.slice none 0 0] #[(0,1),(1,1)]:=⟨⟨.agg [.slice none 0 0,.slice none 0 0].toArray,rfl,Tryz.zeroValue52⟩,⟨_,Tryz.underlying52,fun _=>by kernel_rfl⟩⟩
theorem B57:cP Tryz.prog 57 [.int .i64 0,.slice none 0 0,.slice none 0 0,.slice none 0 0,.slice none 0 0,.slice none 0 0,.slice none 0 0,.int .u8 0,.int .i64 0,.int .i64 0,.int .u8 0] #[(0,1),(1,2),(3,2),(5,1),(6,1),(7,1),(8,1),(9,1),(10,1)]:=⟨⟨.agg [.int .i64 0,.slice none 0 0,.slice none 0 0,.slice none 0 0,.slice none 0 0,.slice none 0 0,.slice none 0 0,.int .u8 0,.int .i64 0,.int .i64 0,.int .u8 0].toArray,rfl,Tryz.zeroValue57⟩,⟨_,Tryz.underlying57,fun _=>by kernel_rfl⟩⟩
theorem B59:cP Tryz.prog 59 [.int .i64 0,.int .i64 0,.int .i64 0,.int .i64 0,.int .i64 0,.int .i64 0,.slice none 0 0,.bool false,.slice none 0 0,.slice none 0 0,.slice none 0 0,.slice none 0 0,.slice none 0 0,.bool false,.slice none 0 0,.int .i64 0,.slice none 0 0,.slice none 0 0,.slice none 0 0,.slice none 0 0,.slice none 0 0,.slice none 0 0,.int .u8 0,.int .i64 0,.int .i64 0,.int .u8 0,.bool false,.slice none 0 0] #[(0,1),(1,1),(2,5),(7,1),(8,1),(9,1),(10,1),(11,2),(13,1),(14,1),(15,11),(26,1),(27,1)]:=⟨⟨.agg [.int .i64 0,.int .i64 0,.int .i64 0,.int .i64 0,.int .i64 0,.int .i64 0,.slice none 0 0,.bool false,.slice none 0 0,.slice none 0 0,.slice none 0 0,.slice none 0 0,.slice none 0 0,.bool false,.slice none 0 0,.int .i64 0,.slice none 0 0,.slice none 0 0,.slice none 0 0,.slice none 0 0,.slice none 0 0,.slice none 0 0,.int .u8 0,.int .i64 0,.int .i64 0,.int .u8 0,.bool false,.slice none 0 0].toArray,rfl,Tryz.zeroValue59⟩,⟨_,Tryz.underlying59,fun _=>by kernel_rfl⟩⟩
theorem B80:cP Tryz.prog 80 [.slice none 0 0,.slice none 0 0,.int .i64 0] #[(0,1),(1,1),(2,1)]:=⟨⟨.agg [.slice none 0 0,.slice none 0 0,.int .i64 0].toArray,rfl,Tryz.zeroValue80⟩,⟨_,Tryz.underlying80,fun _=>by kernel_rfl⟩⟩
theorem B82:cP Tryz.prog 82 [.int .i64 0,.string (bs [])] #[(0,1),(1,1)]:=⟨⟨.agg [.int .i64 0,.string (bs [])].toArray,rfl,Tryz.zeroValue82⟩,⟨_,Tryz.underlying82,fun _=>by kernel_rfl⟩⟩
theorem B85:cP Tryz.prog 85 [.string (bs []),.slice none 0 0] #[(0,1),(1,1)]:=⟨⟨.agg [.string (bs []),.slice none 0 0].toArray,rfl,Tryz.zeroValue85⟩,⟨_,Tryz.underlying85,fun _=>by kernel_rfl⟩⟩
theorem B87:cP Tryz.prog 87 [.int .i64 0,.int .i64 0,.int .i64 0,.int .i64 0,.int .i64 0,.int .i64 0,.slice none 0 0,.bool false,.slice none 0 0,.slice none 0 0,.slice none 0 0,.slice none 0 0,.slice none 0 0,.bool false,.slice none 0 0,.int .i64 0,.slice none 0 0,.slice none 0 0,.slice none 0 0,.slice none 0 0,.slice none 0 0,.slice none 0 0,.int .u8 0,.int .i64 0,.int .i64 0,.int .u8 0,.bool false,.slice none 0 0] #[(0,28)]:=⟨⟨.agg [.int .i64 0,.int .i64 0,.int .i64 0,.int .i64 0,.int .i64 0,.int .i64 0,.slice none 0 0,.bool false,.slice none 0 0,.slice none 0 0,.slice none 0 0,.slice none 0 0,.slice none 0 0,.bool false,.slice none 0 0,.int .i64 0,.slice none 0 0,.slice none 0 0,.slice none 0 0,.slice none 0 0,.slice none 0 0,.slice none 0 0,.int .u8 0,.int .i64 0,.int .i64 0,.int .u8 0,.bool false,.slice none 0 0].toArray,rfl,Tryz.zeroValue87⟩,⟨_,Tryz.underlying87,fun _=>by kernel_rfl⟩⟩
theorem B89:cP Tryz.prog 89 [.int .i64 0,.int .i64 0,.int .i64 0] #[(0,1),(1,1),(2,1)]:=⟨⟨.agg [.int .i64 0,.int .i64 0,.int .i64 0].toArray,rfl,Tryz.zeroValue89⟩,⟨_,Tryz.underlying89,fun _=>by kernel_rfl⟩⟩
theorem B91:cP Tryz.prog 91 [.int .i64 0,.int .i64 0,.int .i64 0,.int .i64 0] #[(0,1),(1,1),(2,1),(3,1)]:=⟨⟨.agg [.int .i64 0,.int .i64 0,.int .i64 0,.int .i64 0].toArray,rfl,Tryz.zeroValue91⟩,⟨_,Tryz.underlying91,fun _=>by kernel_rfl⟩⟩
theorem B96:cP Tryz.prog 96 [.int .i64 0,.slice none 0 0] #[(0,1),(1,1)]:=⟨⟨.agg [.int .i64 0,.slice none 0 0].toArray,rfl,Tryz.zeroValue96⟩,⟨_,Tryz.underlying96,fun _=>by kernel_rfl⟩⟩
theorem B98:cP Tryz.prog 98 [.string (bs []),.int .i64 0] #[(0,1),(1,1)]:=⟨⟨.agg [.string (bs []),.int .i64 0].toArray,rfl,Tryz.zeroValue98⟩,⟨_,Tryz.underlying98,fun _=>by kernel_rfl⟩⟩
theorem B112:cP Tryz.prog 112 [.int .i64 0,.int .i64 0,.int .i64 0,.int .i64 0] #[(0,1),(1,1),(2,1),(3,1)]:=⟨⟨.agg [.int .i64 0,.int .i64 0,.int .i64 0,.int .i64 0].toArray,rfl,Tryz.zeroValue112⟩,⟨_,Tryz.underlying112,fun _=>by kernel_rfl⟩⟩
theorem B124:nX Tryz.prog 124 4 (bC aY.zero) 1:=⟨⟨.agg (bC aY.zero).toArray,rfl,Tryz.zeroValue124⟩,⟨_,Tryz.underlying124⟩,Tryz.sizeOf4⟩
theorem B126:cP Tryz.prog 126 (eO [.slice none 0 0,.slice none 0 0,.int .i64 0,.int .i64 0,.slice none 0 0] (bC aY.zero)) #[(0,3),(3,2),(5,60)]:=⟨⟨.agg (eO [.slice none 0 0,.slice none 0 0,.int .i64 0,.int .i64 0,.slice none 0 0] (bC aY.zero)).toArray,rfl,Tryz.zeroValue126⟩,⟨_,Tryz.underlying126,fun _=>by kernel_rfl⟩⟩
theorem B137:cP Tryz.prog 137 [.int .i64 0,.int .i64 0,.int .i64 0,.int .i64 0,.int .i64 0,.int .i64 0] #[(0,4),(4,1),(5,1)]:=⟨⟨.agg [.int .i64 0,.int .i64 0,.int .i64 0,.int .i64 0,.int .i64 0,.int .i64 0].toArray,rfl,Tryz.zeroValue137⟩,⟨_,Tryz.underlying137,fun _=>by kernel_rfl⟩⟩
theorem B141:cP Tryz.prog 141 [.int .i64 0] #[(0,1)]:=⟨⟨.agg [.int .i64 0].toArray,rfl,Tryz.zeroValue141⟩,⟨_,Tryz.underlying141,fun _=>by kernel_rfl⟩⟩
theorem B146:cP Tryz.prog 146 [.int .i64 0,.bool false,.nilFunc] #[(0,1),(1,1),(2,1)]:=⟨⟨.agg [.int .i64 0,.bool false,.nilFunc].toArray,rfl,Tryz.zeroValue146⟩,⟨_,Tryz.underlying146,fun _=>by kernel_rfl⟩⟩
theorem B154:cP Tryz.prog 154 [.int .i64 0,.int .i64 0,.int .i64 0,.int .i64 0,.slice none 0 0,.slice none 0 0] #[(0,5),(5,1)]:=⟨⟨.agg [.int .i64 0,.int .i64 0,.int .i64 0,.int .i64 0,.slice none 0 0,.slice none 0 0].toArray,rfl,Tryz.zeroValue154⟩,⟨_,Tryz.underlying154,fun _=>by kernel_rfl⟩⟩
theorem B159:cP Tryz.prog 159 [.int .i64 0,.string (bs []),.bool false] #[(0,2),(2,1)]:=⟨⟨.agg [.int .i64 0,.string (bs []),.bool false].toArray,rfl,Tryz.zeroValue159⟩,⟨_,Tryz.underlying159,fun _=>by kernel_rfl⟩⟩
theorem B172:cP Tryz.prog 172 [.int .i64 0,.int .i64 0,.int .u8 0,.int .i64 0,.string (bs []),.int .i64 0] #[(0,1),(1,1),(2,1),(3,1),(4,1),(5,1)]:=⟨⟨.agg [.int .i64 0,.int .i64 0,.int .u8 0,.int .i64 0,.string (bs []),.int .i64 0].toArray,rfl,Tryz.zeroValue172⟩,⟨_,Tryz.underlying172,fun _=>by kernel_rfl⟩⟩
theorem B177:cP Tryz.prog 177 [.int .i64 0,.slice none 0 0] #[(0,1),(1,1)]:=⟨⟨.agg [.int .i64 0,.slice none 0 0].toArray,rfl,Tryz.zeroValue177⟩,⟨_,Tryz.underlying177,fun _=>by kernel_rfl⟩⟩
theorem B187:cP Tryz.prog 187 [.nilFunc] #[(0,1)]:=⟨⟨.agg [.nilFunc].toArray,rfl,Tryz.zeroValue187⟩,⟨_,Tryz.underlying187,fun _=>by kernel_rfl⟩⟩
theorem B226:cP Tryz.prog 226 [.int .i64 0,.int .i64 0,.int .i64 0,.int .i64 0,.slice none 0 0] #[(0,1),(1,1),(2,1),(3,1),(4,1)]:=⟨⟨.agg [.int .i64 0,.int .i64 0,.int .i64 0,.int .i64 0,.slice none 0 0].toArray,rfl,Tryz.zeroValue226⟩,⟨_,Tryz.underlying226,fun _=>by kernel_rfl⟩⟩
theorem B260:cP Tryz.prog 260 (eO (eO [.int .i64 0,.slice none 0 0,.slice none 0 0,.slice none 0 0,.slice none 0 0,.slice none 0 0,.slice none 0 0,.int .u8 0,.int .i64 0,.int .i64 0,.int .u8 0] (bA bM.zero)) (jA (List.replicate 40 ((none,0):gZ)) (List.replicate 40 ([]:List UInt8)))) #[(0,11),(11,40),(51,40)]:=⟨⟨.agg (eO (eO [.int .i64 0,.slice none 0 0,.slice none 0 0,.slice none 0 0,.slice none 0 0,.slice none 0 0,.slice none 0 0,.int .u8 0,.int .i64 0,.int .i64 0,.int .u8 0] (bA bM.zero)) (jA (List.replicate 40 ((none,0):gZ)) (List.replicate 40 ([]:List UInt8)))).toArray,rfl,Tryz.zeroValue260⟩,⟨_,Tryz.underlying260,fun _=>by kernel_rfl⟩⟩
theorem B267:nX Tryz.prog 267 5 (cH bH.zero) 1:=⟨⟨.agg (cH bH.zero).toArray,rfl,Tryz.zeroValue267⟩,⟨_,Tryz.underlying267⟩,Tryz.sizeOf5⟩
theorem B281:cP Tryz.prog 281 [.int .i64 0,.nilFunc] #[(0,1),(1,1)]:=⟨⟨.agg [.int .i64 0,.nilFunc].toArray,rfl,Tryz.zeroValue281⟩,⟨_,Tryz.underlying281,fun _=>by kernel_rfl⟩⟩
theorem B286:cP Tryz.prog 286 [.int .i64 0,.int .i64 0] #[(0,1),(1,1)]:=⟨⟨.agg [.int .i64 0,.int .i64 0].toArray,rfl,Tryz.zeroValue286⟩,⟨_,Tryz.underlying286,fun _=>by kernel_rfl⟩⟩
theorem B315:cP Tryz.prog 315 [.nilFunc] #[(0,1)]:=⟨⟨.agg [.nilFunc].toArray,rfl,Tryz.zeroValue315⟩,⟨_,Tryz.underlying315,fun _=>by kernel_rfl⟩⟩
theorem E22:cI Tryz.prog 22 9 [.string (bs [])] 1 16:=⟨Tryz.underlying22,⟨_,.string (bs []),cQ Tryz.type9,rfl,rfl,rfl,rfl⟩,rfl,by decide⟩
theorem E23:cI Tryz.prog 23 5 [.int .u8 0] 1 1:=⟨Tryz.underlying23,⟨_,.int .u8 0,cQ Tryz.type5,rfl,rfl,rfl,rfl⟩,rfl,by decide⟩
theorem E36:cI Tryz.prog 36 3 [.int .i64 0] 1 8:=⟨Tryz.underlying36,⟨_,.int .i64 0,cQ Tryz.type3,rfl,rfl,rfl,rfl⟩,rfl,by decide⟩
theorem E45:cI Tryz.prog 45 177 [.int .i64 0,.slice none 0 0] 2 32:=⟨Tryz.underlying45,⟨_,.agg [.int .i64 0,.slice none 0 0].toArray,cQ Tryz.type177,rfl,rfl,rfl,rfl⟩,rfl,by decide⟩
theorem E48:cI Tryz.prog 48 172 [.int .i64 0,.int .i64 0,.int .u8 0,.int .i64 0,.string (bs []),.int .i64 0] 6 56:=⟨Tryz.underlying48,⟨_,.agg [.int .i64 0,.int .i64 0,.int .u8 0,.int .i64 0,.string (bs []),.int .i64 0].toArray,cQ Tryz.type172,rfl,rfl,rfl,rfl⟩,rfl,by decide⟩
theorem E49:cI Tryz.prog 49 89 [.int .i64 0,.int .i64 0,.int .i64 0] 3 24:=⟨Tryz.underlying49,⟨_,.agg [.int .i64 0,.int .i64 0,.int .i64 0].toArray,cQ Tryz.type89,rfl,rfl,rfl,rfl⟩,rfl,by decide⟩
theorem E50:cI Tryz.prog 50 226 [.int .i64 0,.int .i64 0,.int .i64 0,.int .i64 0,.slice none 0 0] 5 56:=⟨Tryz.underlying50,⟨_,.agg [.int .i64 0,.int .i64 0,.int .i64 0,.int .i64 0,.slice none 0 0].toArray,cQ Tryz.type226,rfl,rfl,rfl,rfl⟩,rfl,by decide⟩
theorem E54:cI Tryz.prog 54 219 [.int .i64 0,.int .i64 0] 2 16:=⟨Tryz.underlying54,⟨_,.agg [.int .i64 0,.int .i64 0].toArray,cQ Tryz.type219,rfl,rfl,rfl,rfl⟩,rfl,by decide⟩
theorem E60:cI Tryz.prog 60 25 [.int .i64 0] 1 8:=⟨Tryz.underlying60,⟨_,.int .i64 0,cQ Tryz.type25,rfl,rfl,rfl,rfl⟩,rfl,by decide⟩
theorem E75:cI Tryz.prog 75 82 [.int .i64 0,.string (bs [])] 2 24:=⟨Tryz.underlying75,⟨_,.agg [.int .i64 0,.string (bs [])].toArray,cQ Tryz.type82,rfl,rfl,rfl,rfl⟩,rfl,by decide⟩
theorem E77:cI Tryz.prog 77 85 [.string (bs []),.slice none 0 0] 2 40:=⟨Tryz.underlying77,⟨_,.agg [.string (bs []),.slice none 0 0].toArray,cQ Tryz.type85,rfl,rfl,rfl,rfl⟩,rfl,by decide⟩
theorem E78:cI Tryz.prog 78 91 [.int .i64 0,.int .i64 0,.int .i64 0,.int .i64 0] 4 32:=⟨Tryz.underlying78,⟨_,.agg [.int .i64 0,.int .i64 0,.int .i64 0,.int .i64 0].toArray,cQ Tryz.type91,rfl,rfl,rfl,rfl⟩,rfl,by decide⟩
theorem E92:cI Tryz.prog 92 98 [.string (bs []),.int .i64 0] 2 24:=⟨Tryz.underlying92,⟨_,.agg [.string (bs []),.int .i64 0].toArray,cQ Tryz.type98,rfl,rfl,rfl,rfl⟩,rfl,by decide⟩
theorem E108:cI Tryz.prog 108 112 [.int .i64 0,.int .i64 0,.int .i64 0,.int .i64 0] 4 32:=⟨Tryz.underlying108,⟨_,.agg [.int .i64 0,.int .i64 0,.int .i64 0,.int .i64 0].toArray,cQ Tryz.type112,rfl,rfl,rfl,rfl⟩,rfl,by decide⟩
theorem E134:cI Tryz.prog 134 137 [.int .i64 0,.int .i64 0,.int .i64 0,.int .i64 0,.int .i64 0,.int .i64 0] 6 48:=⟨Tryz.underlying134,⟨_,.agg [.int .i64 0,.int .i64 0,.int .i64 0,.int .i64 0,.int .i64 0,.int .i64 0].toArray,cQ Tryz.type137,rfl,rfl,rfl,rfl⟩,rfl,by decide⟩
theorem E152:cI Tryz.prog 152 157 [.slice none 0 0] 1 24:=⟨Tryz.underlying152,⟨_,.slice none 0 0,cQ Tryz.type157,rfl,rfl,rfl,rfl⟩,rfl,by decide⟩
theorem E157:cI Tryz.prog 157 159 [.int .i64 0,.string (bs []),.bool false] 3 32:=⟨Tryz.underlying157,⟨_,.agg [.int .i64 0,.string (bs []),.bool false].toArray,cQ Tryz.type159,rfl,rfl,rfl,rfl⟩,rfl,by decide⟩
theorem E188:cI Tryz.prog 188 187 [.nilFunc] 1 8:=⟨Tryz.underlying188,⟨_,.agg [.nilFunc].toArray,cQ Tryz.type187,rfl,rfl,rfl,rfl⟩,rfl,by decide⟩
theorem E227:cI Tryz.prog 227 286 [.int .i64 0,.int .i64 0] 2 16:=⟨Tryz.underlying227,⟨_,.agg [.int .i64 0,.int .i64 0].toArray,cQ Tryz.type286,rfl,rfl,rfl,rfl⟩,rfl,by decide⟩
theorem E277:cI Tryz.prog 277 281 [.int .i64 0,.nilFunc] 2 16:=⟨Tryz.underlying277,⟨_,.agg [.int .i64 0,.nilFunc].toArray,cQ Tryz.type281,rfl,rfl,rfl,rfl⟩,rfl,by decide⟩
theorem E308:cI Tryz.prog 308 20 [.nilIface] 1 16:=⟨Tryz.underlying308,⟨_,.nilIface,cQ Tryz.type20,rfl,rfl,rfl,rfl⟩,rfl,by decide⟩
theorem E316:cI Tryz.prog 316 315 [.nilFunc] 1 8:=⟨Tryz.underlying316,⟨_,.agg [.nilFunc].toArray,cQ Tryz.type315,rfl,rfl,rfl,rfl⟩,rfl,by decide⟩
end T12
namespace Go.Proofs
open Go Go.Shelf Go.RowKit Pk
theorem rM {w:World} {q:Addr} {vs:List Value} (h:aL (hp w) q vs) (hv:0 < vs.length):∃ cs t z,w.heap[q.block]?=some (.cells cs t z)∧cs.size≠0:=by
 obtain ⟨c,t,z,h3,h4⟩:=h.2 0 _ (List.getElem?_eq_getElem hv);refine ⟨c,t,z,h3,fun h0=>?_⟩;have:=(Array.getElem?_eq_some_iff.1 h4).1;omega
theorem qD {P:Program} (w:World) (tS tR e:TypeId) (ht:P.underlying tS=some (.slice e)) (size:Nat) (hz:∀ w,(Go.sizeOf e).run P w=.ok size w) (a b:Addr) (la ca lb cb:Nat) (hne:a.block≠b.block)
  {ca':Array Value} {ta:TypeId} {za:Nat×Nat} (ha:w.heap[a.block]?=some (.cells ca' ta za)) (ha0:ca'.size≠0) {cur:Array Value} {te:TypeId} (hb:w.heap[b.block]?=some (.cells cur te (0,0))) (hc:cur.size≠0) :
  (Extern.SlicesOverlaps.overlaps #[tS,tS] #[tR] #[.slice (some a) la ca,.slice (some b) lb cb]).run P w=.ok (.bool false) w:=by
 have hnb:(a.block != b.block)=true:=by simpa using hne
 have hnb':(a.block==b.block)=false:=by simpa using hne
 have hf:∀ x:Addr,x.block=b.block→w.frozen? x=false:=fun x hx=>by simp [World.frozen?,hx,hb]
 have hsb:w.shape? b.block=some (te,cur.size):=by simp [World.shape?,hb]
 have hva:w.shape? a.block=some (ta,ca'.size):=by simp [World.shape?,ha]
 change Sem.run P (α:=Value) (do
  let some t := (#[tS, tS] : Array TypeId)[0]? | stuck "slices.overlaps: no parameter types"
  let .slice elem ← underlying t | stuck "slices.overlaps: slice type expected"
  let size ← sizeOf elem
  match (some a:Option Addr),(some b:Option Addr) with
  | some a,some b =>
   if la=0∨lb=0∨size=0 then pure (Value.bool false)
   else if a.block != b.block&&(← frozen a)&&(← frozen b) then unsupported .addressObserved
   else do
    if a.block != b.block then do
     noView a;noView b
     if ← mayBeOne a b then return Value.bool ((← choose (.extern "sameAddr.stringBytes" 2)) == 1)
    pure (Value.bool (a.block==b.block&&a.off < b.off+lb*size&&b.off < a.off+la*size))
  | _,_=>pure (Value.bool false)) w=_
 by_cases h0:la=0∨lb=0∨size=0
 ·simp [run_underlying ht,hz,h0]
 have e1:=hf b rfl;have e2:=hf { block:=b.block,off:=cur.size } rfl;have e3:(match some (te,cur.size) with | some (_,0)=>true | _=>false)=false:=by
  cases h:cur.size with
  | zero=>exact absurd h hc
  | succ n=>rfl
 have e4:(match some (ta,ca'.size) with | some (_,0)=>true | _=>false)=false:=by
  cases h:ca'.size with
  | zero=>exact absurd h ha0
  | succ n=>rfl
 cases hfa:w.frozen? a <;> cases hfe:w.frozen? { block:=a.block,off:=ca'.size } <;>
  simp [run_underlying ht,hz,h0,hnb,hnb',frozen,noView,viewAt,mayBeOne,stringish,shape,Sem.run,hva,hsb,e1,e2,hfa,hfe,hc,e4,ha0]
theorem kP {P:Program} (w:World) (t ty el k:Nat) (hu:P.underlying t=some (.slice el)) (hz:∀ w,(Go.sizeOf el).run P w=.ok k w) (b o dLen dCap:Nat) (a:Addr) (sLen sCap:Nat) (cs:List Value) {cur:Array Value} {te:TypeId} (hb:w.heap[b]?=some (.cells cur te (0,0)))
  (hn:cs.length=Nat.min sLen dLen*k) (hsrc:∀ j v,cs[j]?=some v→w.cell? (a.add j)=some v) (hfit:o+cs.length≤cur.size) (h1:∀ v∈cs,v.oneCell'=true) :
  (Builtin.copy_ #[t,t] ty #[.slice (some ⟨b,o,none⟩) dLen dCap,.slice (some a) sLen sCap]).run P w=.ok (goInt (Nat.min sLen dLen)) (w.setRow b (cur.toList.take o++cs++cur.toList.drop (o+cs.length)).toArray):=by
 have hl:=run_loadCells_list (P:=P) (w:=w) a cs hsrc;have hst:=run_storeCells_at P b o te cs 0 cur w hb (by simpa using hfit) h1;rw [hn] at hl;simp [Builtin.copy_,run_underlying hu,Builtin.lenOf,Builtin.firstCells,hz,hl];simp at hst;rw [hst];rfl
theorem kE {w:World} {b:Nat} {cur:Array Value} {t:TypeId} {z:Nat×Nat} (h:w.heap[b]?=some (.cells cur t z)) {j:Nat} {v:Value} (hv:cur.toList[j]?=some v):w.cell? ⟨b,j,none⟩=some v:=by
 rw [Array.getElem?_toList] at hv;simp [World.cell?,h,hv]
theorem oB (b o i:Nat):(⟨b,o,none⟩:Addr).add i=⟨b,o+i,none⟩:=dE (ad:=⟨b,o,none⟩) rfl i
theorem pM {w w':World} {b:Nat} (h:∀ k,k < w.heap.size→k≠b→w'.heap[k]?=w.heap[k]?) (ho:w'.os=w.os) (ht:w'.tape=w.tape) (hu:w'.output=w.output) (hs:w.heap.size≤w'.heap.size) (hd:w.drawn≤w'.drawn):lG w w' (some b) :=
 ⟨⟨ho,ht,hu,hs,fun k hk hne=>h k hk (fun e=>hne (by rw [e]))⟩,hd⟩
theorem iV (w:World) (b:Nat) (X:Array Value):(w.setRow b X).heap.size=w.heap.size:=by simp [World.setRow]
end Go.Proofs
namespace Go.Proofs
open Go Go.Shelf Go.RowKit Pk
set_option maxHeartbeats 4000000 in
set_option maxRecDepth 100000 in
theorem Tryz.ins_endM {w:World} {ad:Option Addr} {cap nn mv:Nat} (hm:1≤mv) {cs:List Value} {q:Addr} {vcap:Nat} {vs:List Value} (hr:(aM.row ad cap 3 1 nn cs).holds w) (hb:nn+mv≤1073741824) (hv:aL (hp w) q vs) (hvl:vs.length=mv) (h1:vs.all (·.oneCell')=true) :
  Calls Tryz.prog 127 #[.slice ad nn cap,.int .i64 nn,.slice (some q) mv vcap] w fun e w'=>∃ ad' cap',e=.returned (.slice ad' (nn+mv) cap')∧(aM.row ad' cap' 3 1 (nn+mv) (cs++vs)).holds w'∧lG w w' (ad.map (·.block))∧∀ b,ad'.map (·.block)=some b→ad.map (·.block)=some b∨w.heap.size≤b:=by
 obtain ⟨ad',cap',w',hrun,hh,hg,hf⟩:=nJ (P:=Tryz.prog) 36 T12.E36 hr (sad:=some q) (m:=mv) (c:=vcap) (news:=vs) ⟨by omega,h1,.inr ⟨q,rfl,hv⟩⟩ (by unfold maxLen;omega) (by omega);have hd:=mA _ hrun;have hcap:=(kG hr).2;refine Calls.mono (R:=fun e w''=>e=.returned (.slice ad' (nn+mv) cap')∧w''=w') ?_ fun e w'' hw=>by
  obtain ⟨rfl,rfl⟩:=hw;exact ⟨ad',cap',rfl,hh,⟨hg,hd⟩,hf⟩
 clear hf hh hg hd hr hv h1;by_cases hc:cap=nn
 ·subst hc
  go_enter Tryz.func127,Tryz.ntmps127
  go_wp2_with (at_builtin;refine Lib.wpList_append_run _ rfl _ _ _ _ rfl _ _ rfl rfl _ _ hrun ?_)
  go_ret
  exact ⟨rfl,rfl⟩
 go_enter Tryz.func127,Tryz.ntmps127
 go_wp2_with (at_builtin;refine Lib.wpList_append_run _ rfl _ _ _ _ rfl _ _ rfl rfl _ _ hrun ?_)
 go_ret
 exact ⟨rfl,rfl⟩
set_option maxHeartbeats 4000000 in
set_option maxRecDepth 100000 in
theorem Tryz.ins_roomM {w:World} {b cap nn j mv:Nat} (hm:1≤mv) {cs:List Value} {q:Addr} {vcap:Nat} {vs:List Value} {cur:Array Value} (hw:w.heap[b]?=some (.cells cur 3 (0,0))) (hcs:cur.size=cap) (ht:cur.toList.take (nn)=cs) (hcm:cap≤9223372036854775807) (hj:j < nn) (hroom:nn+mv≤cap) (hb:nn+mv≤1073741824) (hv:aL (hp w) q vs) (hvl:vs.length=mv) (h1:vs.all (·.oneCell')=true) (h2:cs.all (·.oneCell')=true) (hne:b≠q.block) :
  Calls Tryz.prog 127 #[.slice (some ⟨b,0,none⟩) nn cap,.int .i64 j,.slice (some q) mv vcap] w fun e w'=>e=.returned (.slice (some ⟨b,0,none⟩) (nn+mv) cap)∧w'=(w.drew.setRow b (cur.toList.take ((j+mv))++cs.drop (j)++cur.toList.drop ((nn+mv))).toArray).setRow b (cs.take (j)++vs++cs.drop (j)++cur.toList.drop ((nn+mv))).toArray:=by
 obtain ⟨c0,t0,z0,hq0,hq1⟩:=rM hv (by omega);have hcl:cs.length=nn:=by rw [← ht,List.length_take,Array.length_toList,hcs];omega
 have hcur:cur.toList=cs++cur.toList.drop (nn):=by rw [← ht,List.take_append_drop]
 have hov:∀ lb cb,(callFunc 174 #[.slice (some q) mv vcap,.slice (some ⟨b,(j+mv),none⟩) lb cb]).run Tryz.prog w=.ok (.value (.bool false)) w:=fun lb cb=>by
  rw [run_callFunc_extern Tryz.func174 (by kernel_rfl) (by kernel_rfl) (by kernel_rfl) (e:=Extern.SlicesOverlaps.overlaps #[36,36] #[4]) (by kernel_rfl),
   qD w 36 4 3 Tryz.underlying36 1 Tryz.sizeOf3 q ⟨b,(j+mv),none⟩ mv vcap lb cb (fun e=>hne e.symm) hq0 hq1 hw (by omega)]
  rfl
 have hcp1:∀ ty dc sc,(Builtin.copy_ #[36,36] ty #[.slice (some ⟨b,(j+mv),none⟩) (nn - j) dc,.slice (some ⟨b,j,none⟩) (nn+mv - j) sc]).run Tryz.prog w.drew=.ok (goInt (Nat.min (nn+mv - j) (nn - j))) (w.drew.setRow b (cur.toList.take ((j+mv))++cs.drop (j)++cur.toList.drop ((nn+mv))).toArray):=fun ty dc sc=>by
  have hl:(cs.drop (j)).length=Nat.min (nn+mv - j) (nn - j):=by
   rw [List.length_drop,hcl,show Nat.min (nn+mv - j) (nn - j)=nn - j by simp only [Nat.min_def];split <;> omega]
  have:=kP (P:=Tryz.prog) w.drew 36 ty 3 1 Tryz.underlying36 Tryz.sizeOf3 b ((j+mv)) (nn - j) dc ⟨b,j,none⟩ (nn+mv - j) sc (cs.drop (j)) (cur:=cur) hw (by rw [hl,Nat.mul_one]) (fun i v hi=>by
   rw [oB];refine kE (w:=w.drew) hw ?_;rw [hcur,List.getElem?_append_left (by rw [List.getElem?_drop] at hi;exact (List.getElem?_eq_some_iff.1 hi).1)]
   rwa [List.getElem?_drop] at hi) (by rw [List.length_drop,hcl,hcs];omega) (fun v hv=>List.all_eq_true.1 h2 v (List.mem_of_mem_drop hv))
  rw [this,show (j+mv)+(cs.drop (j)).length=(nn+mv) by rw [List.length_drop,hcl];omega]
 obtain ⟨X1,hX1⟩:∃ X1:List Value,X1=cur.toList.take ((j+mv))++cs.drop (j)++cur.toList.drop ((nn+mv)):=⟨_,rfl⟩;rw [← hX1] at hcp1 ⊢;obtain ⟨W1,hW1⟩:∃ W1,W1=w.drew.setRow b X1.toArray:=⟨_,rfl⟩;rw [← hW1] at hcp1 ⊢;have hw1:W1.heap[b]?=some (.cells X1.toArray 3 (0,0)):=by rw [hW1];exact setRow_heap w.drew b cur X1.toArray 3 (0,0) hw
 have hX1l:X1.length=cap:=by rw [hX1];simp only [List.length_append,List.length_take,List.length_drop,Array.length_toList,hcs,hcl];omega
 have hlen1:(cur.toList.take ((j+mv))).length=(j+mv):=by rw [List.length_take,Array.length_toList,hcs];omega
 have hcp2:∀ ty dc,(Builtin.copy_ #[36,36] ty #[.slice (some ⟨b,j,none⟩) (nn+mv - j) dc,.slice (some q) mv vcap]).run Tryz.prog W1=.ok (goInt (Nat.min mv (nn+mv - j))) (W1.setRow b (cs.take (j)++vs++cs.drop (j)++cur.toList.drop ((nn+mv))).toArray):=fun ty dc=>by
  have hm:Nat.min mv (nn+mv - j)=mv:=by simp only [Nat.min_def];split <;> omega
  have:=kP (P:=Tryz.prog) W1 36 ty 3 1 Tryz.underlying36 Tryz.sizeOf3 b (j) (nn+mv - j) dc q mv vcap vs (cur:=X1.toArray) hw1 (by rw [hvl,hm,Nat.mul_one]) (fun i v hi=>by
   have h0:=hv.cell hi;have hsp:(q.add i).block=q.block:=by unfold Addr.add;split <;> rfl
   rw [hW1];unfold World.cell? at h0 ⊢;rw [show (w.drew.setRow b X1.toArray).heap[(q.add i).block]?=w.heap[(q.add i).block]? from setRow_other w.drew b _ _ (by rw [hsp];exact fun e=>hne e.symm)]
   exact h0) (by rw [hvl,List.size_toArray,hX1l];omega) (fun v hv=>List.all_eq_true.1 h1 v hv)
  rw [this,hvl];congr 3;have e1:X1.take (j)=cs.take (j):=by
   rw [hX1,List.append_assoc,List.take_append_of_le_length (by rw [hlen1];omega),List.take_take,show min (j) ((j+mv))=j by omega,← ht,List.take_take,show min (j) (nn)=j by omega]
  have e2:X1.drop (j+mv)=cs.drop (j)++cur.toList.drop ((nn+mv)):=by
   rw [hX1,show j+mv=(j+mv) by omega,List.append_assoc,List.drop_append_of_le_length (by rw [hlen1];omega),List.drop_of_length_le (by rw [hlen1];omega),List.nil_append]
  simp only [List.toList_toArray,e1,e2,List.append_assoc]
 have hz2:¬((j:Int)=(nn:Int)):=by omega
 have hw2:IntKind.i64.wrap ((j:Int)+(mv:Int))=(j:Int)+(mv:Int):=by rw [IntKind.wrap_i64];omega
 have hw3:IntKind.i64.wrap ((nn:Int)+(mv:Int))=(nn:Int)+(mv:Int):=by rw [IntKind.wrap_i64];omega
 have htn:((j:Int)+(mv:Int)).toNat=j+mv:=by omega
 have htn2:((nn:Int)+(mv:Int)).toNat=nn+mv:=by omega
 have hb1:(0:Int)≤(j:Int)+(mv:Int):=by omega
 have hb2:¬(cap=j+mv):=by omega
 have hb4:¬(cap=j):=by omega
 have hb3:(j:Int)≤(nn:Int)+(mv:Int):=by omega
 have hin:j≤nn:=by omega
 have hro:¬((cap:Int) < (nn:Int)+(mv:Int)):=by omega
 clear hX1 hcur ht;have mixed:=T12.mixed;clear hw1;subst hW1
 go_enter Tryz.func127,Tryz.ntmps127
 go_wp2_with (simp only [hov])
 go_region_law_o (refine step_copy_runI rfl _ _ 36 36 rfl (.slice (some ⟨b,(j+mv),none⟩) (nn - j) (cap - (j+mv))) (.slice (some ⟨b,j,none⟩) (nn+mv - j) (cap - j)) (by first | (simp [Act.eval,Act.put];done) | (simp [Act.eval,Act.put];omega)) (by first | (simp [Act.eval,Act.put];done) | (simp [Act.eval,Act.put];omega)) (hcp1 3 (cap - (j+mv)) (cap - j)) ?_)
 go_wp2_with (at_builtin;refine wpList_copy_runI _ rfl _ _ 36 36 rfl _ _ rfl rfl (hcp2 _ _) ?_)
 go_ret
 exact ⟨rfl,by simp only [List.append_assoc]⟩
set_option maxHeartbeats 4000000 in
set_option maxRecDepth 100000 in
theorem Tryz.ins_growM {w:World} {b cap nn j mv:Nat} (hm:1≤mv) {cs:List Value} {q:Addr} {vcap:Nat} {vs:List Value} {cur:Array Value} (hw:w.heap[b]?=some (.cells cur 3 (0,0))) (hcs:cur.size=cap) (ht:cur.toList.take (nn)=cs) (hnc:nn≤cap) (hj:j < nn) (hroom:cap < nn+mv) (hb:nn+mv≤1073741824) (hv:aL (hp w) q vs) (hvl:vs.length=mv) (h1:vs.all (·.oneCell')=true) (h2:cs.all (·.oneCell')=true) :
  Calls Tryz.prog 127 #[.slice (some ⟨b,0,none⟩) nn cap,.int .i64 j,.slice (some q) mv vcap] w fun e w'=>∃ (G:Nat) (X:List Value),nn+mv≤G∧G≤maxLen∧X.length=G∧X.take ((nn+mv))=cs.take (j)++vs++cs.drop (j)∧e=.returned (.slice (some ⟨w.heap.size,0,none⟩) (nn+mv) G)∧∃ Y Z m,w'=(((w.alloc (.cells Y 3)).drewN m).setRow w.heap.size Z).setRow w.heap.size X.toArray:=by
 obtain ⟨i0,v0,hi0,hz0,hzv,hzs,hzb⟩:=T12.E36.info;have hzc:v0.cells.size=1:=by rw [fL,hzv];rfl
 have hcl:cs.length=nn:=by rw [← ht,List.length_take,Array.length_toList,hcs];omega
 have hcur:cur.toList=cs++cur.toList.drop (nn):=by rw [← ht,List.take_append_drop]
 have hold:(Builtin.firstCells i0.size j (.slice (some ⟨b,0,none⟩) j cap)).run Tryz.prog w.drew=.ok (cs.take (j)).toArray w.drew:=by
  rw [hzs];refine run_firstCells_some (w:=w.drew) 1 j ⟨b,0,none⟩ j cap (cs.take (j)) (by rw [List.length_take,hcl];omega) (fun i v hi=>?_);rw [oB,Nat.zero_add];refine kE (w:=w.drew) hw ?_;rw [List.getElem?_take] at hi
  split at hi
  ·rw [hcur,List.getElem?_append_left (by rw [hcl];omega)];exact hi
  cases hi
 have hik:j+(nn+mv - j)=nn+mv:=by omega
 have hkk:(nn:Int)+(mv:Int) - (j:Int)=((nn+mv - j:Nat):Int):=by omega
 obtain ⟨G,hG⟩:∃ G,G=grownCap w (nn+mv) cap 3:=⟨_,rfl⟩;have hGn:nn+mv≤G:=by rw [hG];exact grownCap_ge w _ _ _
 have hGm:G≤maxLen:=by rw [hG];exact grownCap_le_maxLen w (nn+mv) cap 3 (by unfold maxLen;omega)
 obtain ⟨R,hR⟩:∃ R:Array Value,R=(cs.take (j)).toArray++Builtin.zeroCells v0.cells (nn+mv - j)++Builtin.zeroCells v0.cells (G - (nn+mv)):=⟨_,rfl⟩;have hRs:R.size=G:=by
  rw [hR];simp only [Array.size_append,List.size_toArray,List.length_take,hcl,Builtin.zeroCells,Array.size_map,Array.size_range,hzc];omega
 have hRt:R.toList.take (j)=cs.take (j):=by
  rw [hR,Array.toList_append,Array.toList_append,List.append_assoc,List.take_append_of_le_length (by simp [hcl];omega)];simp only [List.toList_toArray,List.take_take,Nat.min_self]
 have hrz:∀ ty,(Builtin.append_ #[36,3] ty #[.slice (some ⟨b,0,none⟩) j cap,.int .i64 ((nn:Int)+(mv:Int) - (j:Int))]).run Tryz.prog w=.ok (.slice (some ⟨w.heap.size,0,none⟩) (nn+mv) G) (w.drew.alloc (.cells R 3)):=fun ty=>by
  have h:=Lib.run_append_grow_zeros w 36 3 ty 3 i0 _ .i64 .i64 Tryz.underlying36 Tryz.underlying3 hi0 hz0 (some ⟨b,0,none⟩) j cap (cs.take (j)) hold (nn+mv - j) (by omega) (by rw [hzs];decide) (by omega) (by omega) (by rw [hzb];omega) (by rw [hzb,hik];exact growslice_fits hroom (by omega));rw [hik] at h;rw [hkk,hR,hG];exact h
 have hN:(w.drew.alloc (.cells R 3)).heap[w.heap.size]?=some (.cells R 3 (0,0)):=dO w.drew _;have hbw:b < w.heap.size:=(Array.getElem?_eq_some_iff.1 hw).1;obtain ⟨X1,hX1⟩:∃ X1:List Value,X1=cs.take (j)++vs++R.toList.drop ((j+mv)):=⟨_,rfl⟩;obtain ⟨X2,hX2⟩:∃ X2:List Value,X2=cs.take (j)++vs++cs.drop (j)++R.toList.drop ((nn+mv)):=⟨_,rfl⟩;have hct:(cs.take (j)).length=j:=by rw [List.length_take,hcl];omega
 have hX1l:X1.length=G:=by rw [hX1];simp only [List.length_append,hct,hvl,List.length_drop,Array.length_toList,hRs];omega
 have hX2l:X2.length=G:=by rw [hX2];simp only [List.length_append,hct,hvl,List.length_drop,Array.length_toList,hRs,hcl];omega
 have hqn:∀ i,(q.add i).block=q.block:=fun i=>by unfold Addr.add;split <;> rfl
 obtain ⟨c0,t0,z0,hq0,_⟩:=rM hv (by omega);have hqw:q.block < w.heap.size:=(Array.getElem?_eq_some_iff.1 hq0).1;have hcpA:∀ (m:Nat) ty dc,(Builtin.copy_ #[36,36] ty #[.slice (some ⟨w.heap.size,j,none⟩) (nn+mv - j) dc,.slice (some q) mv vcap]).run Tryz.prog ((w.alloc (.cells R 3)).drewN m)=.ok (goInt (Nat.min mv (nn+mv - j))) (((w.alloc (.cells R 3)).drewN m).setRow w.heap.size X1.toArray):=fun m ty dc=>by
  have hm:Nat.min mv (nn+mv - j)=mv:=by simp only [Nat.min_def];split <;> omega
  have:=kP (P:=Tryz.prog) ((w.alloc (.cells R 3)).drewN m) 36 ty 3 1 Tryz.underlying36 Tryz.sizeOf3 w.heap.size (j) (nn+mv - j) dc q mv vcap vs (cur:=R) (te:=3) (dO w _) (by rw [hvl,hm,Nat.mul_one]) (fun i v hi=>by
   have h0:=hv.cell hi;unfold World.cell? at h0 ⊢;rw [show ((w.alloc (.cells R 3)).drewN m).heap[(q.add i).block]?=w.heap[(q.add i).block]? from (fO.alloc True w (.cells R 3)).keep _ (by rw [hqn];exact hqw)]
   exact h0) (by rw [hvl,hRs];omega) (fun v hv=>List.all_eq_true.1 h1 v hv)
  rw [this,hvl,hRt,hX1,show j+mv=(j+mv) by omega]
 have hcpB:∀ (m:Nat) ty dc sc,(Builtin.copy_ #[36,36] ty #[.slice (some ⟨w.heap.size,(j+mv),none⟩) (nn - j) dc,.slice (some ⟨b,j,none⟩) (nn - j) sc]).run Tryz.prog (((w.alloc (.cells R 3)).drewN m).setRow w.heap.size X1.toArray)=.ok (goInt (Nat.min (nn - j) (nn - j))) ((((w.alloc (.cells R 3)).drewN m).setRow w.heap.size X1.toArray).setRow w.heap.size X2.toArray):=fun m ty dc sc=>by
  have hm:Nat.min (nn - j) (nn - j)=nn - j:=Nat.min_self _;have hl:(cs.drop (j)).length=Nat.min (nn - j) (nn - j):=by rw [hm,List.length_drop,hcl]
  have:=kP (P:=Tryz.prog) (((w.alloc (.cells R 3)).drewN m).setRow w.heap.size X1.toArray) 36 ty 3 1 Tryz.underlying36 Tryz.sizeOf3 w.heap.size ((j+mv)) (nn - j) dc ⟨b,j,none⟩ (nn - j) sc (cs.drop (j)) (cur:=X1.toArray) (te:=3) (setRow_heap _ _ R X1.toArray 3 (0,0) (dO w _)) (by rw [hl,Nat.mul_one]) (fun i v hi=>by
   rw [oB];have hcell:w.cell? ⟨b,j+i,none⟩=some v:=by
    refine kE hw ?_;rw [hcur,List.getElem?_append_left (by rw [List.getElem?_drop] at hi;exact (List.getElem?_eq_some_iff.1 hi).1)]
    rwa [List.getElem?_drop] at hi
   unfold World.cell? at hcell ⊢;rw [show (((w.alloc (.cells R 3)).drewN m).setRow w.heap.size X1.toArray).heap[(⟨b,j+i,none⟩:Addr).block]?=w.heap[(⟨b,j+i,none⟩:Addr).block]? from (setRow_other _ _ _ _ (by show b≠w.heap.size;omega)).trans ((fO.alloc True w (.cells R 3)).keep _ hbw)]
   exact hcell) (by rw [List.length_drop,hcl,List.size_toArray,hX1l];omega) (fun v hv=>List.all_eq_true.1 h2 v (List.mem_of_mem_drop hv))
  rw [this,show (j+mv)+(cs.drop (j)).length=(nn+mv) by rw [List.length_drop,hcl];omega];congr 3;have e1:X1.take ((j+mv))=cs.take (j)++vs:=by
   rw [hX1,List.take_append_of_le_length (by rw [List.length_append,hct,hvl];omega),List.take_of_length_le (by rw [List.length_append,hct,hvl];omega)]
  have e2:X1.drop ((nn+mv))=R.toList.drop ((nn+mv)):=by
   rw [hX1,List.drop_append,List.drop_of_length_le (by rw [List.length_append,hct,hvl];omega),List.nil_append,List.drop_drop,List.length_append,hct,hvl,show (j+mv)+((nn+mv) - (j+mv))=(nn+mv) by omega]
  simp only [List.toList_toArray,e1,e2,hX2,List.append_assoc]
 have hX2t:X2.take ((nn+mv))=cs.take (j)++vs++cs.drop (j):=by
  rw [hX2,List.take_append_of_le_length (by simp only [List.length_append,hct,hvl,List.length_drop,hcl];omega),List.take_of_length_le (by simp only [List.length_append,hct,hvl,List.length_drop,hcl];omega)]
 refine Calls.mono (R:=fun e w''=>e=.returned (.slice (some ⟨w.heap.size,0,none⟩) (nn+mv) G)∧∃ m,w''=(((w.alloc (.cells R 3)).drewN m).setRow w.heap.size X1.toArray).setRow w.heap.size X2.toArray) ?_ fun e w'' hw=>by
  obtain ⟨rfl,m,rfl⟩:=hw;exact ⟨G,X2,hGn,hGm,hX2l,hX2t,rfl,R,X1.toArray,m,rfl⟩
 have mixed:=T12.mixed;have hz2:¬((j:Int)=(nn:Int)):=by omega
 have hw2:IntKind.i64.wrap ((j:Int)+(mv:Int))=(j:Int)+(mv:Int):=by rw [IntKind.wrap_i64];omega
 have hw3:IntKind.i64.wrap ((nn:Int)+(mv:Int))=(nn:Int)+(mv:Int):=by rw [IntKind.wrap_i64];omega
 have htn:((j:Int)+(mv:Int)).toNat=j+mv:=by omega
 have hb1:(0:Int)≤(j:Int)+(mv:Int):=by omega
 have hro:(cap:Int) < (nn:Int)+(mv:Int):=by omega
 have hGi:¬(G=j):=by omega
 have hGim:¬(G=j+mv):=by omega
 have hci:¬(cap=j):=by omega
 have hin:j≤nn:=by omega
 have hb3:(j:Int)≤(nn:Int):=by omega
 have hcpA0:∀ ty dc,(Builtin.copy_ #[36,36] ty #[.slice (some ⟨w.heap.size,j,none⟩) (nn+mv - j) dc,.slice (some q) mv vcap]).run Tryz.prog (w.drew.alloc (.cells R 3))=.ok (goInt (Nat.min mv (nn+mv - j))) ((w.drew.alloc (.cells R 3)).setRow w.heap.size X1.toArray):=fun ty dc=>hcpA 1 ty dc;have hcpA1:∀ ty dc,(Builtin.copy_ #[36,36] ty #[.slice (some ⟨w.heap.size,j,none⟩) (nn+mv - j) dc,.slice (some q) mv vcap]).run Tryz.prog ((w.alloc (.cells R 3)).drew)=.ok (goInt (Nat.min mv (nn+mv - j))) (((w.alloc (.cells R 3)).drew).setRow w.heap.size X1.toArray):=fun ty dc=>hcpA 1 ty dc;have hcpB0:∀ ty dc sc,(Builtin.copy_ #[36,36] ty #[.slice (some ⟨w.heap.size,(j+mv),none⟩) (nn - j) dc,.slice (some ⟨b,j,none⟩) (nn - j) sc]).run Tryz.prog (((w.alloc (.cells R 3)).drew.setRow w.heap.size X1.toArray).drew)=.ok (goInt (Nat.min (nn - j) (nn - j))) ((((w.alloc (.cells R 3)).drew.setRow w.heap.size X1.toArray).drew).setRow w.heap.size X2.toArray):=fun ty dc sc=>hcpB 2 ty dc sc;clear hG hcpA hcpB hR hold hkk hik hcur hRt hX1 hX2 hX2t hN hq0 hv ht
 go_enter Tryz.func127,Tryz.ntmps127
 go_wp2_with (first
  | (at_builtin;refine Lib.wpList_append_run _ rfl _ _ _ _ rfl _ _ rfl rfl _ _ (hrz _) ?_)
  | (at_builtin;refine wpList_copy_runI _ rfl _ _ 36 36 rfl _ _ rfl rfl (hcpA1 _ _) ?_)
  | (at_builtin;refine wpList_copy_runI _ rfl _ _ 36 36 rfl _ _ rfl rfl (hcpA0 _ _) ?_))
 go_region_law_o (refine step_copy_runI rfl _ _ 36 36 rfl (.slice (some ⟨w.heap.size,(j+mv),none⟩) (nn - j) (G - (j+mv))) (.slice (some ⟨b,j,none⟩) (nn - j) (cap - j)) (by first | (simp [Act.eval,Act.put];done) | (simp [Act.eval,Act.put];omega)) (by first | (simp [Act.eval,Act.put];done) | (simp [Act.eval,Act.put];omega)) (hcpB0 3 (G - (j+mv)) (cap - j)) ?_)
 go_wp2
 go_ret
 exact ⟨rfl,2,rfl⟩
set_option maxHeartbeats 4000000 in
set_option maxRecDepth 100000 in
theorem Tryz.ins_none {w:World} {ad vad:Option Addr} {cap nn j vcap:Nat} (hj:j≤nn) (hc:nn≤cap) (hcm:cap≤9223372036854775807):Calls Tryz.prog 127 #[.slice ad nn cap,.int .i64 j,.slice vad 0 vcap] w fun e w'=>e=.returned (.slice ad nn cap)∧∃ n,w'=w.drewN n:=by
 have hb3:(j:Int)≤(nn:Int):=by omega
 by_cases hcj:cap=j
 ·subst hcj
  go_enter Tryz.func127,Tryz.ntmps127
  go_wp2
  go_ret
  exact ⟨rfl,0,rfl⟩
 go_enter Tryz.func127,Tryz.ntmps127
 go_wp2
 go_ret
 exact ⟨rfl,0,rfl⟩
theorem Tryz.insM127:NX Tryz.prog 127 3 1:=by
 intro w ad cap nn cs j vad vcap mv vs hr hj hb hvl hsrc h2 hne hvc;have hcl:=(kG hr).1;have hnc0:=(kG hr).2;rw [Nat.mul_one] at hvl;simp only [Nat.mul_one];rcases Nat.eq_zero_or_pos mv with h0 | hm
 ·subst h0;have hv0:vs=[]:=List.eq_nil_of_length_eq_zero (by omega);subst hv0;have hrow:nn≤cap∧cap≤9223372036854775807:=by
   rcases hr.2 with ⟨e0,h0⟩ | ⟨b,cap',cur,he,hbb,hw,hnc,hcm,hcs,ht⟩
   ·cases e0;omega
   cases he;unfold maxLen at hcm;omega
  refine (Tryz.ins_none hj hrow.1 hrow.2).mono fun e w' h=>?_;obtain ⟨rfl,n,rfl⟩:=h;refine ⟨ad,cap,rfl,?_,?_,fun b hb'=>.inl hb'⟩
  ·rw [List.append_nil,List.take_append_drop];exact hr
  exact ⟨⟨rfl,rfl,rfl,Nat.le_refl _,fun k hk hne=>rfl⟩,Nat.le_add_right _ _⟩
 rcases hsrc with h0 | ⟨_,h1,⟨_,h0,_⟩ | ⟨q,rfl,hv⟩⟩
 ·omega
 ·omega
 by_cases hjn:j=nn
 ·subst hjn;refine (Tryz.ins_endM hm hr hb hv hvl h1).mono fun e w' h=>?_;rw [List.take_of_length_le (by omega),List.drop_of_length_le (by omega),List.append_nil];exact h
 have hlt:j < nn:=by omega
 rcases hr.2 with ⟨_,h0⟩ | ⟨b,cap',cur,he,hbb,hw,hnc,hcm,hcs,ht⟩
 ·omega
 simp only [Value.slice.injEq] at he;obtain ⟨rfl,_,rfl⟩:=he;rw [Nat.mul_one] at hcs ht;have hbw:b < w.heap.size:=(Array.getElem?_eq_some_iff.1 hw).1;have h3:cap≤9223372036854775807:=by unfold maxLen at hcm;omega
 have hln:(cs.take (j)++vs++cs.drop (j)).length=(nn+mv):=by
  simp only [List.length_append,List.length_take,List.length_drop,hvl,hcl];omega
 by_cases hroom:nn+mv≤cap
 ·refine (Tryz.ins_roomM hm hw hcs ht h3 hlt hroom hb hv hvl h1 h2 (hne q rfl hm b rfl)).mono fun e w' h=>?_;obtain ⟨rfl,rfl⟩:=h;refine ⟨_,_,rfl,?_,?_,fun b' hb'=>.inl hb'⟩
  ·refine ⟨by rw [hln,Nat.mul_one],.inr ⟨b,cap,_,rfl,hbb,setRow_heap _ b _ _ 3 (0,0) (setRow_heap w.drew b cur _ 3 (0,0) hw),hroom,hcm,?_,?_⟩⟩
   ·have:(cur.toList.drop ((nn+mv))).length=cap - (nn+mv):=by rw [List.length_drop,Array.length_toList,hcs]
    rw [List.size_toArray,List.length_append,hln,this];omega
   rw [Nat.mul_one,List.toList_toArray,List.take_append_of_le_length (by rw [hln];exact Nat.le_refl _),List.take_of_length_le (by rw [hln];exact Nat.le_refl _)]
  exact pM (fun k hk hkb=>(setRow_other _ _ _ _ hkb).trans (setRow_other _ _ _ _ hkb)) rfl rfl rfl (by rw [iV,iV];exact Nat.le_refl _) (Nat.le_succ _)
 refine (Tryz.ins_growM hm hw hcs ht hnc hlt (by omega) hb hv hvl h1 h2).mono fun e w' h=>?_;obtain ⟨G,X,hG1,hG2,hXl,hXt,rfl,Y,Z,m,rfl⟩:=h;refine ⟨_,_,rfl,?_,?_,fun b' hb'=>.inr (by simp at hb';omega)⟩
 ·refine ⟨by rw [hln,Nat.mul_one],.inr ⟨w.heap.size,G,X.toArray,rfl,Nat.zero_le _,setRow_heap _ _ Z _ 3 (0,0) (setRow_heap _ _ Y _ 3 (0,0) (dO w _)),hG1,hG2,by rw [List.size_toArray,hXl,Nat.mul_one],by rw [List.toList_toArray,Nat.mul_one];exact hXt⟩⟩
 refine pM (fun k hk hkb=>?_) rfl rfl rfl ?_ ?_
 ·have hkn:k≠w.heap.size:=by omega
  exact (setRow_other _ _ _ _ hkn).trans ((setRow_other _ _ _ _ hkn).trans ((fO.alloc True w (.cells Y 3)).keep k hk))
 ·rw [iV,iV];exact (fO.alloc True w (.cells Y 3)).size
 exact Nat.le_add_right _ _
end Go.Proofs
set_option maxHeartbeats 4000000
namespace T12
open Go Go.Proofs Pk Go.RowKit
section
variable {P:Program} {r:Option Nat} {n:aO} {p:List PanicEntry→aO} {a:Act} {w:World} {D:List Deferred} {k:Nat} {L:bX} {ops:Array Oper} {rest:List Oper} {d:Nat} {ty:TypeId} {pos:String} {af:Array Edge}
theorem HN {y:Operand} {t u te:TypeId} {pe:Value} {ms:_} (hA:aT D k a L) (hu':P.underlying t=some (.interface ms)) (hd:Nat.blt d k=true) (hy:ev L y=some (.iface te pe)) (h:∀ a,aT D k a ((d,.bool false)::L)→O P r ops n p rest a w):O P r ops n p (⟨some d,.binOp .eql t y (.const .nilIface) u,ty,pos,af,none⟩::rest) a w:=by
 have hu:P.underlying t=some (.interface (P.methodsAt t)):=by rw [hu'];simp [Program.methodsAt,hu']
 refine cG rfl (fun _ h=>by cases h) (w':=w) (v:=.bool false) ?_ (h _ (hA.put hd _));simp [execOp,hA.eval hy,show a.eval (.const .nilIface)=.nilIface from rfl,eqGuard,run_eql_held_nil w t _ _ hu,Result.andThen]
theorem HO {y:Operand} {t u:TypeId} {ms:_} (hA:aT D k a L) (hu':P.underlying t=some (.interface ms)) (hd:Nat.blt d k=true) (hy:ev L y=some .nilIface) (h:∀ a,aT D k a ((d,.bool true)::L)→O P r ops n p rest a w):O P r ops n p (⟨some d,.binOp .eql t y (.const .nilIface) u,ty,pos,af,none⟩::rest) a w:=by
 have hu:P.underlying t=some (.interface (P.methodsAt t)):=by rw [hu'];simp [Program.methodsAt,hu']
 refine cG rfl (fun _ h=>by cases h) (w':=w) (v:=.bool true) ?_ (h _ (hA.put hd _));simp only [execOp,hA.eval hy,show a.eval (.const .nilIface)=.nilIface from rfl];simp [eqGuard,run_eql_nil_nil w t hu,Result.andThen]
theorem HQ {y:Operand} {xT t:TypeId} {v:Value} {ds:TypeDesc} (hA:aT D k a L) (hd:Nat.blt d k=true) (hu:P.underlying t=some ds) (hds:(match ds with | .interface _=>false | _=>true)=true) (hy:ev L y=some (.iface t v))
  (h:∀ a,aT D k a ((d,.tuple #[v,.bool true])::L)→O P r ops n p rest a w):O P r ops n p (⟨some d,.typeAssert y xT t true,ty,pos,af,none⟩::rest) a w :=
 cG rfl (fun _ h=>by cases h) (w':=w) (v:=.tuple #[v,.bool true]) (by
  simp only [execOp,Instr.typeAssert,hA.eval hy]
  cases ds <;> simp at hds <;> simp [run_underlying hu,Result.andThen]) (h _ (hA.put hd _))
end
theorem HR (q:Addr) (w:World):CallsD Tryz.prog 54 #[.pointer (some q)] .returning w fun e u' w'=>e=.returned (.tuple #[])∧u'=.returning∧w'=w:=by
 refine callsD_of_wpS Tryz.func54 rfl fun c₀ cs hu=>?_;apply wpS_seq;apply wpS_region;simp [wpOpsS,go_sem,recoverD,hu,Tryz.ntmps54,Exit.thenS];refine wpS_of_wp ?_;refine (wpIn_wide (n:=0)).1 (wpIn_mono (show Pk.W Tryz.prog none _ (fun a w'=>a.defers=[]∧w'=w) (fun _ _=>False) [] (fun _ _ _=>False) _ w from ?_) ?_)
 ·have hA:aT [] 12 { tmps:=#[.pointer (some q)]++((Array.replicate 11 undef).setIfInBounds 3 .nilIface),defers:=[] } [(0,.pointer (some q)),(4,.nilIface)]:=by
   refine ⟨rfl,by simp,fun i u h=>?_⟩;rcases i with _ | _ | _ | _ | _ | i
   ·exact h
   ·cases h
   ·cases h
   ·cases h
   ·exact h
   cases (show (none:Option Value)=some u from h)
  revert hA;generalize ({ tmps:=_,defers:=[] }:Act)=a;intro hA;refine lF (fR (cY (HO hA Tryz.underlying20 rfl rfl fun a hA=>fF (iW hA rfl (fun _=>?_) (fun h=>by cases h)))));exact cY (eW hA rfl rfl fun a hA=>fF ⟨hA.defers,rfl⟩)
 intro z a w' hz
 cases z with
 | normal =>
  obtain ⟨hd,rfl⟩:=hz;exact ⟨hd,.returning,by cases c₀;simp_all,.tuple #[],by simp [results,Tryz.results54],rfl,rfl,rfl⟩
 | ret=>exact hz.elim
 | panic ch=>exact hz.elim
 | exit id=>obtain ⟨K,hK,_⟩:=hz;simp [qH] at hK
 | goto l=>exact hz
 | outgrown=>exact hz.elim
theorem HT {M:Prop} {W w:World} {H:Hp} {Hs:List Hp} {b tE:Nat} {z0:Value} {u:Int} {σr:aJ} (hS:St M W H Hs ((tE,aZ b 25 [z0])::σr) w) (hT:Nat.beq 999999 tE=false) :
  CallsD Tryz.prog 54 #[.pointer (some ⟨b,0,none⟩)] (.panicking (AJ (.iface 141 (.agg [.int .i64 u].toArray)))) w fun e u' w'=>(∃ v,e=.returned v)∧settle u'=.returning ∧
   ∃ b3 cs3,St M W H Hs ((999999,aZ b3 141 cs3)::(tE,aZ b 25 [.int .i64 u])::σr) w':=by
 refine callsD_of_wpS Tryz.func54 rfl fun c₀ cs hu=>?_;apply wpS_seq;apply wpS_region;obtain ⟨v,hv⟩:∃ v:Value,v=.agg [.int .i64 u].toArray:=⟨_,rfl⟩;rw [← hv] at hu;simp [wpOpsS,go_sem,recoverD,hu,Tryz.ntmps54,Exit.thenS,AJ];refine wpS_of_wp ?_;refine (wpIn_wide (n:=0)).1 (wpIn_mono (show Pk.W Tryz.prog none _ (fun a w=>a.defers=[]∧∃ b3 cs3,St M W H Hs ((999999,aZ b3 141 cs3)::(tE,aZ b 25 [.int .i64 u])::σr) w) (fun _ _=>False) [] (fun _ _ _=>False) _ w from ?_) ?_)
 ·have hA:aT [] 12 { tmps:=#[.pointer (some ⟨b,0,none⟩)]++((Array.replicate 11 undef).setIfInBounds 3 (.iface 141 v)),defers:=[] } [(0,.pointer (some ⟨b,0,none⟩)),(4,.iface 141 v)]:=by
   refine ⟨rfl,by simp,fun i u h=>?_⟩;rcases i with _ | _ | _ | _ | _ | i
   ·exact h
   ·cases h
   ·cases h
   ·cases h
   ·exact h
   cases (show (none:Option Value)=some u from h)
  revert hA;generalize ({ tmps:=_,defers:=[] }:Act)=a;intro hA;subst hv;refine lF (fR (cY (HN hA Tryz.underlying20 rfl rfl fun a hA=>fF (iW hA rfl (fun h=>by cases h) (fun _=>?_)))));refine fR (cY (HQ hA rfl Tryz.underlying141 rfl rfl fun a hA=>lJ (vs:=[.agg [.int .i64 u].toArray,.bool true]) hA rfl rfl rfl fun a hA=>lJ (vs:=[.agg [.int .i64 u].toArray,.bool true]) hA rfl rfl rfl fun a hA=>fF (iW hA rfl (fun _=>?_) (fun h=>by cases h))));refine fR (cY (pP 999999 hA rfl hS Tryz.zeroValue141 rfl fun b3 w hS hb a hA=>?_));refine lK 999999 (cs:=[.int .i64 u]) hA hS rfl rfl Tryz.sizeOf141 rfl rfl rfl rfl rfl fun w hS a hA=>fF ?_;refine cY (TE (cs:=[.int .i64 u]) (v:=.int .i64 u) hA rfl rfl rfl Tryz.underlying141 rfl Tryz.sizeOf25 Tryz.isAgg25 ?_ rfl fun a hA=>?_)
  ·exact sO (x:=⟨[],12,M,W,H⟩) 999999 rfl w hS
  refine lK tE (t0:=25) (l:=[z0]) (cs:=[.int .i64 u]) hA hS rfl rfl Tryz.sizeOf25 (by simp [cC,cW,hT]) rfl rfl rfl rfl fun w hS a hA=>fF ?_;refine ⟨hA.defers,b3,[.int .i64 u],?_⟩;simpa [cW,hT,jW,bJ] using hS
 intro z a w' hz
 cases z with
 | normal =>
  obtain ⟨hd,h⟩:=hz;subst hv;exact ⟨hd,.panicking [{ v:=.iface 141 (.agg [.int .i64 u].toArray),recovered:=true }],rfl,.tuple #[],by simp [results,Tryz.results54],⟨_,rfl⟩,rfl,h⟩
 | ret=>exact hz.elim
 | panic ch=>exact hz.elim
 | exit id=>obtain ⟨K,hK,_⟩:=hz;simp [qH] at hK
 | goto l=>exact hz
 | outgrown=>exact hz.elim
variable {R:Ending→World→Prop} {M:Prop} {W:World} {H:Hp} {Hs:List Hp} {σ:aJ} {L:bX} {b:Nat}
theorem UG (h:TG ⟨[],56,M,W,H⟩ Hs σ L (Rt Tryz.prog Tryz.f42 R)):TG ⟨[EH 54 [.pointer (some ⟨b,0,none⟩)]],56,M,W,H⟩ Hs σ L (NU Tryz.prog Tryz.f42 R) :=
 rtF Tryz.call54 (fun w hS=>(HR ⟨b,0,none⟩ w).mono (by rintro e u w' ⟨rfl,rfl,rfl⟩;exact ⟨⟨_,rfl⟩,rfl,hS⟩)) h
theorem HU {tE:Nat} {u:Int} {z0:Value} {σr:aJ} (hT:Nat.beq 999999 tE=false)
  (h:∀ b3 cs3,TG ⟨[],56,M,W,H⟩ Hs ((999999,aZ b3 141 cs3)::(tE,aZ b 25 [.int .i64 u])::σr) L (Rt Tryz.prog Tryz.f42 R)) :
  TG ⟨[EH 54 [.pointer (some ⟨b,0,none⟩)]],56,M,W,H⟩ Hs ((tE,aZ b 25 [z0])::σr) L (NV Tryz.prog Tryz.f42 R (AJ (.iface 141 (.agg [.int .i64 u].toArray)))) :=
 pnF (σ':=fun b3 cs3=>(999999,aZ b3 141 cs3)::(tE,aZ b 25 [.int .i64 u])::σr) Tryz.call54 (fun w hS=>HT hS hT) h
section
open Go.Lib
theorem OF (w:World):PredAtRunes Tryz.prog 185 #[] (fun x=>x==32) w:=by
 intro W x hx hb;show Calls Tryz.prog 185 #[encR x] W _
 go_enter Tryz.func185,Tryz.ntmps185
 go_wp2
 first | go_ret | go_ret2
 exact ⟨by simp [encR];rw [Bool.eq_iff_iff];simp;omega,0,rfl⟩
noncomputable def HV (s:aE):Option (List aE):=cD (s.length≤1073741824) (some ((goFieldsP (fun x=>x==32) (bs s)).map (·.data.toList)))
theorem UH {M:Prop} {W:World} {H:Hp} (hH:H.le (hp W)) (hg:Gv M H) (s:aE) {r:List aE} (hr:HV s=some r):Calls Tryz.prog 184 [.string (bs s),.func (.func 185) [].toArray [].toArray].toArray W (eH M H W (fun v K=>∃ (ad0:Option Addr) (cap0:Nat),v=.slice ad0 r.length cap0∧Sl (aC bF) 1 K ad0 cap0 r)):=by
 unfold HV at hr;obtain ⟨hl,hr⟩:=aD hr;obtain rfl:=Option.some.inj hr;refine (Any.strings_FieldsFunc_runes Tryz.lays229 185 #[] Tryz.call185 (fun x=>x==32) (bs s) W (by rw [fK];omega) (OF W) (by kernel_rfl) (by kernel_rfl)).mono ?_;rintro e w' ⟨A,rfl,hA,ho,hb⟩;have hE:fO M W w':=fO.of_below hg.gl.nq hb;generalize goFieldsP (fun x=>x==32) (bs s)=l at ho;refine ⟨⟨some ⟨A,0,none⟩,l.length,by rw [List.length_map],?_⟩,hE⟩;rcases ho.2 with ⟨h,_⟩ | ⟨g,cap,cur,h,_,hg,h1,h2,h3,h4⟩
 ·cases h
 cases h;refine ⟨by rw [List.length_map];unfold maxLen at h2;omega,fun i x hx=>?_⟩;rw [List.getElem?_map,Option.map_eq_some_iff] at hx;obtain ⟨y,hy,rfl⟩:=hx;refine ⟨_,bF y.data.toList,rfl,rfl,rfl,⟨by rw [dE rfl],fun j v hv=>?_⟩,rfl⟩;rw [dE rfl]
 cases j with
 | succ j=>simp [bF] at hv
 | zero =>
  have hv:v=.string (bs y.data.toList):=by simpa [bF] using hv.symm
  subst hv;refine ⟨cur,9,(0,0),by show (if A < W.heap.size then _ else w'.heap[A]?)=_;rw [if_neg (by omega)];exact hg,?_⟩;have hi:i < l.length:=(List.getElem?_eq_some_iff.1 hy).1;have:(cur.toList.take (l.length*1))[i]?=some (.string y):=by rw [h4];simp [hy]
  rw [List.getElem?_take,if_pos (by omega)] at this;rw [← MQ y];simpa using this
end
end T12
set_option maxHeartbeats 4000000
namespace Go.Proofs
open Go Go.Shelf Go.RowKit Pk Go.Sort
def Tryz.laysNm224_ren:Go.Shelf.Ren:=⟨fun | 24=>26 | n=>n,fun | 24=>22 | 9=>9 | 3=>3 | 4=>4 | 0=>0 | n=>n,fun | n=>n⟩
theorem Tryz.laysNm224:Go.Proofs.Lays2.n24 Tryz.prog Tryz.laysNm224_ren:={
 mixed:=by kernel_rfl
 f24:=Tryz.func26.trans (congrArg some (by kernel_rfl))
 t0:=Tryz.underlying0
 a0:=Tryz.isAgg0
 z0:=Tryz.sizeOf0
 v0:=Tryz.zeroValue0
 t3:=Tryz.underlying3
 a3:=Tryz.isAgg3
 z3:=Tryz.sizeOf3
 v3:=Tryz.zeroValue3
 t4:=Tryz.underlying4
 a4:=Tryz.isAgg4
 z4:=Tryz.sizeOf4
 v4:=Tryz.zeroValue4
 t9:=Tryz.underlying9
 a9:=Tryz.isAgg9
 z9:=Tryz.sizeOf9
 v9:=Tryz.zeroValue9
 t24:=Tryz.underlying22
 a24:=Tryz.isAgg22
 z24:=Tryz.sizeOf22
 v24:=Tryz.zeroValue22
 i9:=by kernel_rfl }
theorem CF (w:World):Sort.grow w #[]=w:=by
 show { w with heap:=w.heap ++ #[] }=w;simp
theorem Tryz.dlt26 (l:List aE) (hl:l.length≤9223372036854775807) (i j:Int) (h:0≤i∧i≤j∧j≤(l.length:Int)) (w:World) (V:Hp):NT Tryz.prog 26 [.int .i64 i,.int .i64 j] l (l.take i.toNat++l.drop j.toNat) w V:=by
 obtain ⟨h1,h2,h3⟩:=h;obtain ⟨a,rfl⟩:=Int.eq_ofNat_of_zero_le h1;obtain ⟨b,rfl⟩:=Int.eq_ofNat_of_zero_le (Int.le_trans h1 h2);refine ⟨fun h ad cap=>?_,fun blk cap _ hH hc hm=>?_⟩
 ·subst h;obtain rfl:b=0:=by simp at h3;omega
  obtain rfl:a=0:=by omega
  exact Any.slices_Delete_string_empty Tryz.laysNm224 ad cap w
 have e1:(l.take (Int.toNat a)++l.drop (Int.toNat b)).length=l.length - (b - a):=by simp;omega
 rw [e1];refine (Any.slices_Delete_string Tryz.laysNm224 blk 0 cap a b l w hH hc hm (by omega) (by omega)).mono ?_;rintro e w' ⟨rfl,q,rfl⟩;refine ⟨rfl,q,#[],List.replicate (b - a) [],?_,?_⟩
 ·unfold sortWorld;rw [CF];rfl
 simp;omega
end Go.Proofs
set_option linter.unusedVariables false
namespace Go.Proofs
open Go.Shelf Go.RowKit Pk
set_option maxHeartbeats 4000000
set_option maxRecDepth 100000
theorem wS {w:World} {b:Nat} {v u z:Value} {t:TypeId} (h:w.heap[b]?=some (.cells #[v,z] t (0,0))):(w.setCell ⟨b,0,none⟩ u).heap[b]?=some (.cells #[u,z] t (0,0)):=by
 unfold World.setCell;simp [Array.getElem?_modify,h]
theorem Tryz.ccS {M:Prop} {w0 w:World} {H0:Hp} {Hs:List Hp} {σ:aJ} (hS:St M w0 H0 Hs σ w) {T b:Nat} {k:Bool} {v:Value} (hσ:cC σ T=some (aZ b 101 [eS b k,v])) :
  Calls Tryz.prog 48 [.pointer (some ⟨b,0,none⟩)].toArray w fun e w'=>e=.returned (.tuple #[])∧St M w0 H0 Hs (cW σ T (aZ b 101 [eS b true,v])) w':=by
 have hb:w.heap[b]?=some (.cells #[eS b k,v] 101 (0,0)):=hS.get hσ;have hc:w.cell? ⟨b,0,none⟩=some (eS b k):=by unfold World.cell?;simp [hb]
 cases k with
 | true =>
  refine (Tryz.cc_used b w hc).mono ?_;rintro e w' ⟨rfl,rfl⟩;exact ⟨rfl,hS.as T hσ rfl⟩
 | false =>
  refine (Tryz.cc_new b w hc (by unfold World.shape?;simp [hb]) (by unfold World.frozen?;simp [hb])).mono ?_;rintro e w' ⟨rfl,rfl⟩
  refine ⟨rfl,hS.step hσ ⟨⟨rfl,rfl,rfl,by simp [World.setCell],fun k _ hk=>by
   have e:k≠b:=fun e=>hk (by rw [e];rfl);unfold World.setCell
   simp [Array.getElem?_modify,Ne.symm e]⟩,Nat.le_refl _⟩ (wS hb) fun b' h=>.inl h⟩
section
variable {P:Program} {ρ:Go.Shelf.Ren}
open Go.Shelf Go.RowKit
set_option maxHeartbeats 2000000 in
set_option maxRecDepth 100000 in
theorem UI (L:Lays.n169 P ρ) (X:Builder.Extra P ρ) {b g cap:Nat} {cur:Array Value} {p:Value} {l:List UInt8} {w:World} (h0:l≠[]) (hbk:w.heap[b]?=some (.cells #[p,.slice (some ⟨g,0,none⟩) l.length cap] (ρ.t 72) (0,0))) (hg:w.heap[g]?=some (.cells cur (ρ.t 5) (0,0)))
  (hnc:l.length≤cap) (hcm:cap≤maxLen) (hcs:cur.size=cap*1) (ht:cur.toList.take (l.length*1)=Lib.byteCells l) :
  Calls P (ρ.f 169) #[.pointer (some ⟨b,0,none⟩)] w fun e w'=>e=.returned (.string ⟨l.toArray⟩)∧w'=w.drew.freeze ⟨g,0,none⟩ l.length:=by
 have hl0:l.length≠0:=by simpa using h0
 have c1:w.drew.cell? ⟨b,1,none⟩=some (.slice (some ⟨g,0,none⟩) l.length cap):=by
  have:w.drew.heap[b]?=some (.cells #[p,.slice (some ⟨g,0,none⟩) l.length cap] (ρ.t 72) (0,0)):=hbk;rw [Lib.cell_of_heap this];rfl
 have hSD:(Builtin.unsafeSliceData_ #[(ρ.t 37)] (ρ.t 127) #[.slice (some ⟨g,0,none⟩) l.length cap]).run P w.drew=.ok (.pointer (some ⟨g,0,none⟩)) w.drew :=
  Lib.run_unsafeSliceData_row _ _ _ _ _ _ (by omega)
 have hg':w.drew.heap[g]?=some (.cells cur (ρ.t 5) (0,0)):=hg;have hUS:(Builtin.unsafeString_ #[(ρ.t 127),(ρ.t 3)] (ρ.t 9) #[.pointer (some ⟨g,0,none⟩),.int .i64 l.length]).run P w.drew=.ok (.string ⟨l.toArray⟩) (w.drew.freeze ⟨g,0,none⟩ l.length):=by
  refine Lib.run_unsafeString_row w.drew (ρ.t 127) (ρ.t 3) (ρ.t 9) (ρ.t 5) L.t127 X.cellsByte g cur.size (by simp [World.shape?,hg']) l h0 (by omega) (by unfold maxLen at hcm;omega) ?_;intro j x hx;have h2:cur[j]?=some (.int .u8 x.toNat):=by
   have h3:(cur.toList.take (l.length*1))[j]?=some (.int .u8 x.toNat):=by rw [ht];simp [Lib.byteCells,hx]
   rw [List.getElem?_take] at h3
   split at h3
   ·rw [Array.getElem?_toList] at h3;exact h3
   cases h3
  have e:(⟨g,0,none⟩:Addr).add j=⟨g,j,none⟩:=by rw [dE rfl];simp
  rw [e,Lib.cell_of_heap hg'];exact h2
 have mixed:=L.mixed;have t72:=L.t72;have a72:=L.a72;have z72:=L.z72;have v72:=L.v72;have u0:=run_underlying L.t72;have t70:=L.t70;have a70:=L.a70;have z70:=L.z70;have v70:=L.v70;have u1:=run_underlying L.t70;have t37:=L.t37;have a37:=L.a37;have z37:=L.z37;have v37:=L.v37;have u2:=run_underlying L.t37;have t127:=L.t127;have a127:=L.a127;have z127:=L.z127;have v127:=L.v127;have u4:=run_underlying L.t127;have t3:=L.t3;have a3:=L.a3;have z3:=L.z3;have v3:=L.v3;have u3:=run_underlying L.t3;have t9:=L.t9;have a9:=L.a9;have z9:=L.z9;have v9:=L.v9;have u9:=run_underlying L.t9;have t5:=X.t5;have a5:=X.a5;have z5:=X.z5;have v5:=X.v5;have u5:=run_underlying X.t5
 go_enter L.f169,Body.n169_ntmps ρ
 go_wp2
 go_region_o
 all_goals (go_wp2;go_ret;exact ⟨rfl,rfl⟩)
end
theorem Tryz.strS {M:Prop} (hM:¬M) {w0 w:World} {H0:Hp} {Hs:List Hp} {σ:aJ} (hS:St M w0 H0 Hs σ w) {T T2 b:Nat} {k:Bool} {ad:Option Addr} {cap:Nat} {l:aE} (hσ:cC σ T=some (aZ b 101 [eS b k,.slice ad l.length cap])) (h2:cC σ T2=some (.list ad cap 5 1 bN l)) :
  Calls Tryz.prog 35 [.pointer (some ⟨b,0,none⟩)].toArray w fun e w'=>e=.returned (.string (bs l))∧St M w0 H0 Hs (dH (dH σ T2) T) w':=by
 have hb:w.heap[b]?=some (.cells #[eS b k,.slice ad l.length cap] 101 (0,0)):=hS.get hσ;have hrow:w.ownsRow 0 5 1 (.slice ad l.length cap) l.length (l.flatMap bN):=hS.get h2;have hcells:Lib.byteCells l=l.flatMap bN:=by rw [kO];rfl
 have fin:∀ {w'},Go.RowKit.Below w.heap.size w w'→St M w0 H0 Hs (dH (dH σ T2) T) w':=fun hw=>((hS.ext' (fO.of_below hM hw)).del T2).del T;by_cases hl:l=[]
 ·subst hl;rcases hrow.2 with ⟨hv,_⟩ | ⟨g,cap',cur,hv,_,hg0,_⟩
  ·simp only [Value.slice.injEq] at hv;obtain ⟨rfl,_,rfl⟩:=hv;refine (Any.Builder_String_nil Tryz.lays169 Tryz.Builder_Extra_169 w.heap.size b (eS b k) w hb).mono ?_;rintro e w' ⟨rfl,hw⟩;exact ⟨rfl,fin hw⟩
  simp only [Value.slice.injEq] at hv;obtain ⟨rfl,_,rfl⟩:=hv;by_cases hc0:cap=0
  ·subst hc0;refine (Any.Builder_String_noroom Tryz.lays169 Tryz.Builder_Extra_169 w.heap.size b g (eS b k) cur w (Nat.le_refl _) hb hg0).mono ?_;rintro e w' ⟨rfl,hw⟩;exact ⟨rfl,fin hw⟩
  refine (Any.Builder_String_room Tryz.lays169 Tryz.Builder_Extra_169 w.heap.size b g cap (eS b k) w hc0 hb).mono ?_;rintro e w' ⟨rfl,hw⟩;exact ⟨rfl,fin hw⟩
 rcases hrow.2 with ⟨_,hn⟩ | ⟨g,cap',cur,hv,_,hg0,hnc,hcm,hcs,ht⟩
 ·exact absurd (List.eq_nil_of_length_eq_zero hn) hl
 simp only [Value.slice.injEq] at hv;obtain ⟨rfl,_,rfl⟩:=hv;refine (UI Tryz.lays169 Tryz.Builder_Extra_169 hl hb hg0 hnc hcm hcs (by rw [ht,hcells])).mono ?_;rintro e w' ⟨rfl,rfl⟩;have hz:l.length≠0:=by simpa using hl
 have hoth:∀ c,c≠g→(w.drew.freeze ⟨g,0,none⟩ l.length).heap[c]?=w.heap[c]?:=fun c hc=>by
  unfold World.freeze;rw [if_neg hz];simp only [Array.getElem?_modify];rw [if_neg (Ne.symm hc)];rfl
 obtain ⟨o,ho⟩:∃ o,(w.drew.freeze ⟨g,0,none⟩ l.length).heap[g]?=some o:=by
  unfold World.freeze;rw [if_neg hz];simp only [Array.getElem?_modify,if_true];have:w.drew.heap[g]?=some (.cells cur 5 (0,0)):=hg0;rw [this];exact ⟨_,rfl⟩
 have hsz:w.heap.size≤(w.drew.freeze ⟨g,0,none⟩ l.length).heap.size:=by
  unfold World.freeze;rw [if_neg hz];simp
 have hS2:=hS.stepB hM h2 (y:=.blk g o) (w':=w.drew.freeze ⟨g,0,none⟩ l.length) ⟨by unfold World.freeze;rw [if_neg hz];rfl,by unfold World.freeze;rw [if_neg hz];rfl,by unfold World.freeze;rw [if_neg hz];rfl,hsz,fun c _ hc=>hoth c (fun e=>hc (by rw [e];rfl))⟩ ho (fun c hc=>.inl hc);have hd:∀ {σ:Pk.aJ} {t:Nat} {y:Pk.aM},dH (cW σ t y) t=dH σ t:=by
  intro σ t y
  induction σ with
  | nil=>rfl
  | cons z σ ih =>
   obtain ⟨i,u⟩:=z;by_cases e:i=t
   ·subst e;simp [cW,dH,eX]
   simp only [cW,dH,dI e,cond_false,ih]
 have hS3:=(hS2.del T2).del T;rw [hd] at hS3;exact ⟨rfl,hS3⟩
end Go.Proofs
set_option maxHeartbeats 4000000
namespace T12
open Go Go.Proofs Pk
noncomputable def UJ  : Option (List aE) :=
 some ([[104,111,117,115,101,32,53],[115,97,121,32,49,49,32,84,104,101,32,72,111,117,115,101,32,109,101,116,46],[109,111,118,101,32,116,104,105,115,32,72,111,117,115,101,32,110,111,116,101,115,32,116,104,101,32,114,101,112,111,114,116],[112,97,112,101,114,32,51,32,48,32,50,32,51,32,119,101,108,99,111,109,101,115],[97,100,111,112,116,32,51],[100,105,118,105,100,101,32,48,32,48,32,51,32,50],[116,101,108,108,32,49,32,48,32,48],[116,101,108,108,32,49,32,49,32,48],[116,101,108,108,32,49,32,48,32,49],[116,101,108,108,32,49,32,49,32,49],[116,101,108,108,32,50,32,48,32,52],[114,101,115,117,108,116],[116,101,108,108,32,50,32,49,32,52],[114,101,115,117,108,116],[111,114,100,101,114,32,49,50],[98,105,110,100,32,51,32,52,32,50,48],[104,105,100,101,32,49,49,32,50,32,49,57,57,48],[99,105,116,101,32,49,50,32,48]]:List aE)
noncomputable def EP (s_0:List aE) (f_1:aE→Option Bool) (s0:Nat):Option ((Nat)⊕(Unit)) :=
 if (s0:Int) < (s_0.length:Int) then (
  (s_0[s0]?).bind fun x0 =>
  (f_1 x0).bind fun r0 =>
  if r0 then (
   none)
  else
  some (.inl (s0+1)))
 else
 some (.inr ())
noncomputable def UK (s_0:List aE) (f_1:aE→Option Bool):Option (Int) :=
 (bG (EP s_0 f_1) 0).bind fun e19 =>
 some (-1)
noncomputable def RX (s_0:List aE) (f_1:aE→Option Bool):Option (Bool) :=
 (UK s_0 f_1).bind fun r1 =>
 some (decide (0≤r1))
noncomputable def OH (s_0:aE):Option (Bool) :=
 some (decide (400 < (s_0.length:Int)))
noncomputable def m19 (lines:List aE):Option (Int) :=
 ((
  if 60 < (lines.length:Int) then (
   some true)
  else
  (RX lines (OH)).bind fun r0 =>
  some r0
 ):Option (Bool)).bind fun t8 =>
 if t8 then (
  some 3)
 else
 some 0
noncomputable def sR (n_0:Int) (low:Int) (high:Int):Option (Bool) :=
 ((
  if low≤n_0 then (
   some (decide (n_0≤high)))
  else
  some false
 ):Option (Bool)).bind fun t4 =>
 some t4
noncomputable def jS (is_:Bool) (e:Int):Option (Unit⊕Unit) :=
 if is_ then (
  some (.inl ()))
 else
 some (.inr ())
noncomputable def UL (b_0:aF) (l_1:List Int) (__2:aE):Option (aF⊕Int) :=
 (l_1[0]?).bind fun x3 =>
 (sR x3 b_0.state.day 99999).bind fun r0 =>
 (jS r0 2).bind fun r1=>match r1 with
 | .inl y0=>(
  some (.inl (⟨({b_0.state with day:=x3}:cV)⟩:aF)))
 | .inr _=>(
  some (.inr 2))
noncomputable def HW (s_0:List eA):Option (List eA) :=
 cD (([]:List eA).length+s_0.length≤1073741824) <|
 some (([]:List eA)++s_0)
noncomputable def HX (s_0:List aG):Option (List aG) :=
 cD (([]:List aG).length+s_0.length≤1073741824) <|
 some (([]:List aG)++s_0)
noncomputable def HY (l_0:List aG) (x_1:aG):Option (List aG) :=
 (HX l_0).bind fun r4 =>
 cD (r4.length+([x_1]:List aG).length≤1073741824) <|
 some (r4++([x_1]:List aG))
noncomputable def UM (b_0:aF) (parts:List eA):Option (cA) :=
 some (⟨1,b_0.state.day,1,10,parts⟩:cA)
noncomputable def OI (b_0:aF) (parts:List eA):Option (cA) :=
 some (⟨1,b_0.state.day,1,10,parts⟩:cA)
noncomputable def EQ (v_0:cA) (s0:Nat×List aG):Option ((Nat×List aG)⊕(List aG)) :=
 if (s0.1:Int) < (v_0.parts.length:Int) then (
  (v_0.parts[s0.1]?).bind fun x0 =>
  cD (s0.2.length+x0.paragraphs.length≤1073741824) <|
  some (.inl ((s0.1+1),(s0.2++x0.paragraphs))))
 else
 some (.inr s0.2)
noncomputable def MF (v_0:cA):Option (List aG) :=
 (bG (EQ v_0) (0,([]:List aG))).bind fun e82 =>
 some e82
noncomputable def CG (n_0:Int) (low:Int) (high:Int):Option (Bool) :=
 if low≤n_0 then (
  some (decide (n_0≤high)))
 else
 none
noncomputable def ER (n_0:Int):Option (Bool) :=
 (CG n_0 0 99999).bind fun r1 =>
 some r1
noncomputable def wT (x_0:aG) (f0_:aG→Option Bool):Option (Bool) :=
 (f0_ x_0).bind fun r4 =>
 some (!r4)
noncomputable def wU (s_0:List aG) (f_1:aG→Option Bool) (s0:Nat):Option ((Nat)⊕(Unit)) :=
 if (s0:Int) < (s_0.length:Int) then (
  (s_0[s0]?).bind fun x0 =>
  (f_1 x0).bind fun r0 =>
  if r0 then (
   none)
  else
  some (.inl (s0+1)))
 else
 some (.inr ())
noncomputable def HZ (s_0:List aG) (f_1:aG→Option Bool):Option (Int) :=
 (bG (wU s_0 f_1) 0).bind fun e19 =>
 some (-1)
noncomputable def IA (s_0:List aG) (f_1:aG→Option Bool):Option (Bool) :=
 (HZ s_0 f_1).bind fun r1 =>
 some (decide (0≤r1))
noncomputable def IB (l_0:List aG) (right:aG→Option Bool):Option (Bool) :=
 (IA l_0 (fun x0_=>wT x0_ right)).bind fun r5 =>
 some (!r5)
noncomputable def wV (n_0:Int):Option (Bool) :=
 (CG n_0 1 999).bind fun r1 =>
 some r1
noncomputable def wW (x_0:Int) (f0_:Int→Option Bool):Option (Bool) :=
 (f0_ x_0).bind fun r1 =>
 some (!r1)
noncomputable def wX (s_0:List UInt8) (f_1:Int→Option Bool) (s0:Nat):Option ((Nat)⊕(Unit)) :=
 if (s0:Int) < (s_0.length:Int) then (
  (s_0[s0]?).bind fun x0 =>
  (f_1 (x0.toNat:Int)).bind fun r0 =>
  if r0 then (
   none)
  else
  some (.inl (s0+1)))
 else
 some (.inr ())
noncomputable def IC (s_0:List UInt8) (f_1:Int→Option Bool):Option (Int) :=
 (bG (wX s_0 f_1) 0).bind fun e19 =>
 some (-1)
noncomputable def wY (s_0:List UInt8) (f_1:Int→Option Bool):Option (Bool) :=
 (IC s_0 f_1).bind fun r1 =>
 some (decide (0≤r1))
noncomputable def ID (l_0:List UInt8) (right:Int→Option Bool):Option (Bool) :=
 (wY l_0 (fun x0_=>wW x0_ right)).bind fun r5 =>
 some (!r5)
noncomputable def wZ (c_0:Int):Option (Bool) :=
 if (32:Int)≤c_0 then (
  some (decide (c_0≤126)))
 else
 none
noncomputable def xA (s_0:aE):Option (Bool) :=
 (CG (s_0.length:Int) 1 200).bind fun r0 =>
 if r0 then (
  cD (s_0.length≤1073741824) <|
  (ID s_0 (wZ)).bind fun r1 =>
  some r1)
 else
 none
noncomputable def xB (p_0:aG):Option (Bool) :=
 (wV p_0.anchor).bind fun r0 =>
 if r0 then (
  (xA p_0.text).bind fun r1 =>
  some r1)
 else
 none
noncomputable def xC (v_0:cA) (s0:Nat):Option ((Nat)⊕(Unit)) :=
 if (s0:Int) < (v_0.parts.length:Int) then (
  (v_0.parts[s0]?).bind fun x0 =>
  (ER x0.day).bind fun r0 =>
  if r0 then (
   if v_0.bound < x0.day then (
    none)
   else
   if 0 < (s0:Int) then (
    none)
   else
   some (.inl (s0+1)))
  else
  none)
 else
 some (.inr ())
noncomputable def IE (v_0:cA):Option (Bool) :=
 (bG (xC v_0) 0).bind fun e37 =>
 (CG v_0.number 1 99).bind fun r0 =>
 if r0 then (
  (ER v_0.bound).bind fun r1 =>
  if r1 then (
   (CG v_0.height 1 60).bind fun r2 =>
   if r2 then (
    (CG v_0.width 10 80).bind fun r3 =>
    if r3 then (
     (MF v_0).bind fun r4 =>
     (IB r4 (xB)).bind fun r5 =>
     some r5)
    else
    none)
   else
   none)
  else
  none)
 else
 none
noncomputable def ES (r7:List aG) (s0:Nat×(List (Int×Bool))):Option ((Nat×(List (Int×Bool)))⊕((List (Int×Bool)))) :=
 if (s0.1:Int) < (r7.length:Int) then (
  (r7[s0.1]?).bind fun x0 =>
  if (iH s0.2 x0.anchor).getD false then (
   none)
  else
  some (.inl ((s0.1+1),(put s0.2 x0.anchor true))))
 else
 some (.inr s0.2)
noncomputable def OJ (v_0:cA):Option (Int) :=
 (MF v_0).bind fun r7 =>
 if 6 < (v_0.parts.length:Int) then (
  none)
 else
 if 30 < (r7.length:Int) then (
  none)
 else
 (IE v_0).bind fun r0 =>
 if r0 then (
  (bG (ES r7) (0,([]:List (Int×Bool)))).bind fun e90 =>
  some 0)
 else
 none
noncomputable def mJ (e:Int):Option (Unit⊕Unit) :=
 (jS (decide (e=0)) e).bind fun r1=>match r1 with
 | .inl y4=>(
  some (.inl ()))
 | .inr _=>(
  some (.inr ()))
noncomputable def RY (b_0:aF) (l_1:List Int) (text:aE):Option (aF⊕Int) :=
 (jS (!b_0.state.bound) 8).bind fun r3=>match r3 with
 | .inl y6=>(
  (l_1[0]?).bind fun x8 =>
  (HW b_0.state.volume.parts).bind fun r0 =>
  ((
   if 0≤((r0.length:Int) - 1) then (
    (r0[((r0.length:Int) - 1).toNat]?).bind fun x1 =>
    some (decide (x1.day=b_0.state.day)))
   else
   some false
  ):Option (Bool)).bind fun t1 =>
  ((
   if t1 then (
    cD (0≤((r0.length:Int) - 1)) <|
    (r0[((r0.length:Int) - 1).toNat]?).bind fun x0 =>
    (HY x0.paragraphs (⟨x8,text⟩:aG)).bind fun r1 =>
    some (r0.set (((r0.length:Int) - 1).toNat) (⟨x0.day,r1⟩:eA)))
   else
   cD (r0.length+([(⟨b_0.state.day,([(⟨x8,text⟩:aG)]:List aG)⟩:eA)]:List eA).length≤1073741824) <|
   some (r0++([(⟨b_0.state.day,([(⟨x8,text⟩:aG)]:List aG)⟩:eA)]:List eA))
  ):Option (List eA)).bind fun t0 =>
  (UM b_0 t0).bind fun r2 =>
  (OJ r2).bind fun r4 =>
  (mJ r4).bind fun r5=>match r5 with
  | .inl y0=>(
   some (.inl (⟨({b_0.state with volume:=({b_0.state.volume with parts:=t0}:cA)}:cV)⟩:aF)))
  | .inr _=>(
   none))
 | .inr _=>(
  some (.inr 8))
noncomputable def UN (b_0:aF) (l_1:List Int) (__2:aE):Option (aF⊕Int) :=
 (jS (!b_0.state.bound) 8).bind fun r3=>match r3 with
 | .inl y6=>(
  (l_1[0]?).bind fun x8 =>
  (l_1[1]?).bind fun x0 =>
  (l_1[2]?).bind fun x1 =>
  (OJ (⟨x8,b_0.state.day,x0,x1,b_0.state.volume.parts⟩:cA)).bind fun r0 =>
  (mJ r0).bind fun r1=>match r1 with
  | .inl y0=>(
   some (.inl (⟨({b_0.state with volume:=(⟨x8,b_0.state.day,x0,x1,b_0.state.volume.parts⟩:cA),bound:=true}:cV)⟩:aF)))
  | .inr _=>(
   none))
 | .inr _=>(
  some (.inr 8))
noncomputable def uQ (s_0:List aQ):Option (List aQ) :=
 cD (([]:List aQ).length+s_0.length≤1073741824) <|
 some (([]:List aQ)++s_0)
noncomputable def IF (l_0:List aQ) (x_1:aQ):Option (List aQ) :=
 (uQ l_0).bind fun r4 =>
 cD (r4.length+([x_1]:List aQ).length≤1073741824) <|
 some (r4++([x_1]:List aQ))
noncomputable def xD (x_0:aQ) (f0_:aQ→Option Bool):Option (Bool) :=
 (f0_ x_0).bind fun r4 =>
 some (!r4)
noncomputable def xE (s_0:List aQ) (f_1:aQ→Option Bool) (s0:Nat):Option ((Nat)⊕(Unit)) :=
 if (s0:Int) < (s_0.length:Int) then (
  (s_0[s0]?).bind fun x0 =>
  (f_1 x0).bind fun r0 =>
  if r0 then (
   none)
  else
  some (.inl (s0+1)))
 else
 some (.inr ())
noncomputable def IG (s_0:List aQ) (f_1:aQ→Option Bool):Option (Int) :=
 (bG (xE s_0 f_1) 0).bind fun e19 =>
 some (-1)
noncomputable def IH (s_0:List aQ) (f_1:aQ→Option Bool):Option (Bool) :=
 (IG s_0 f_1).bind fun r1 =>
 some (decide (0≤r1))
noncomputable def UO (l_0:List aQ) (right:aQ→Option Bool):Option (Bool) :=
 (IH l_0 (fun x0_=>xD x0_ right)).bind fun r5 =>
 some (!r5)
noncomputable def OL (x_0:aQ):Option (Bool) :=
 (CG x_0.number 1 999).bind fun r0 =>
 if r0 then (
  (ER x_0.day).bind fun r1 =>
  if r1 then (
   (wV x_0.anchor).bind fun r2 =>
   if r2 then (
    if x_0.kind=0 then (
     (xA x_0.text).bind fun r3 =>
     if r3 then (
      some (decide (x_0.new_=0)))
     else
     none)
    else
    if x_0.kind=1 then (
     if x_0.text=[] then (
      some (decide (x_0.new_=0)))
     else
     none)
    else
    if x_0.kind=2 then (
     (xA x_0.text).bind fun r4 =>
     if r4 then (
      (wV x_0.new_).bind fun r5 =>
      some r5)
     else
     none)
    else
    none)
   else
   none)
  else
  none)
 else
 none
noncomputable def xF (x_0:Int):Option (Bool) :=
 some (decide (x_0≠x_0))
noncomputable def CH (x_0:Int) (y_1:Int):Option (Int) :=
 (xF x_0).bind fun r1 =>
 (xF y_1).bind fun r4 =>
 if r1 then (
  none)
 else
 if r4 then (
  none)
 else
 if x_0 < y_1 then (
  some (-1))
 else
 if y_1 < x_0 then (
  some 1)
 else
 some 0
noncomputable def xG (vals:List Int) (s0:Nat):Option ((Nat)⊕((Unit)⊕Int)) :=
 if (s0:Int) < (vals.length:Int) then (
  (vals[s0]?).bind fun x0 =>
  if x0≠0 then (
   some (.inr (.inr x0)))
  else
  some (.inl (s0+1)))
 else
 some (.inr (.inl ()))
noncomputable def II (vals:List Int):Option (Int) :=
 (bG (xG vals) 0).bind fun e16=>match e16 with
 | .inr z=>some z
 | .inl t0 =>
 some 0
noncomputable def xH (a_0:aQ) (b_1:aQ):Option (Int) :=
 (CH a_0.day b_1.day).bind fun r7 =>
 (CH a_0.number b_1.number).bind fun r0 =>
 (II ([r7,r0]:List Int)).bind fun r1 =>
 some r1
noncomputable def xI (r1:List aQ) (s0:Nat):Option ((Nat)⊕(Unit)) :=
 if (s0:Int) < (r1.length:Int) then (
  none)
 else
 none
noncomputable def OM (yield:aQ→Option Bool) (f0_:List aQ) (f1_:Int):Option (Unit) :=
 (uQ f0_).bind fun r1 =>
 (jQ (xH) r1).bind fun l6 =>
 (bG (xI r1) 0).bind fun e14=>some e14
noncomputable def ET (r0:List aG) (s0:Nat×(List (Int×Bool))):Option ((Nat×(List (Int×Bool)))⊕((List (Int×Bool)))) :=
 if (s0.1:Int) < (r0.length:Int) then (
  (r0[s0.1]?).bind fun x0 =>
  some (.inl ((s0.1+1),(put s0.2 x0.anchor true))))
 else
 some (.inr s0.2)
noncomputable def EU (r0:List aQ) (l0:List aQ) (e47:(List (Int×Bool))) (s0:Nat):Option ((Nat)⊕((Unit)⊕((Nat)⊕(Unit)))) :=
 if (s0:Int) < (r0.length:Int) then (
  (l0[s0]?).bind fun x0 =>
  if 99999 < x0.day then (
   none)
  else
  ((
   if (iH e47 x0.anchor).getD false then (
    if x0.kind=2 then (
     none)
    else
    some (.inr ()))
   else
   some (.inl 7)
  ):Option ((Nat)⊕(Unit))).bind fun t0=>match t0 with
  | .inl t1=>(
   some (.inr (.inr (.inl t1))))
  | .inr t2=>(
   some (.inl (s0+1))))
 else
 some (.inr (.inl ()))
noncomputable def UP (v_0:cA) (errata:List aQ):Option (Int) :=
 (MF v_0).bind fun r1 =>
 (bG (ET r1) (0,([]:List (Int×Bool)))).bind fun e47 =>
 ((
  (uQ errata).bind fun r0 =>
  (jQ (xH) r0).bind fun l0 =>
  (bG (EU r0 l0 e47) 0).bind fun eA1=>match eA1 with
  | .inr z=>some z
  | .inl t2 =>
  some (.inr ())
 ):Option ((Nat)⊕(Unit))).bind fun t0=>match t0 with
 | .inl t1=>(
  some (t1:Int))
 | .inr t3=>(
  some 0)
noncomputable def EV (r0:List aG) (s0:Nat×(List (Int×Bool))):Option ((Nat×(List (Int×Bool)))⊕((List (Int×Bool)))) :=
 if (s0.1:Int) < (r0.length:Int) then (
  (r0[s0.1]?).bind fun x0 =>
  some (.inl ((s0.1+1),(put s0.2 x0.anchor true))))
 else
 some (.inr s0.2)
noncomputable def EW (errata:List aQ) (e88:(List (Int×Bool))) (s0:Nat×(List (Int×Bool))):Option ((Nat×(List (Int×Bool)))⊕(((List (Int×Bool)))⊕Int)) :=
 if (s0.1:Int) < (errata.length:Int) then (
  (errata[s0.1]?).bind fun x0 =>
  ((
   if (iH s0.2 x0.number).getD false then (
    some true)
   else
   if x0.kind=2 then (
    some ((iH e88 x0.new_).getD false))
   else
   some false
  ):Option (Bool)).bind fun t0 =>
  if t0 then (
   some (.inr (.inr 6)))
  else
  if x0.kind=2 then (
   none)
  else
  some (.inl ((s0.1+1),(put s0.2 x0.number true))))
 else
 some (.inr (.inl s0.2))
noncomputable def MG (v_0:cA) (errata:List aQ):Option (Int) :=
 (OJ v_0).bind fun r7 =>
 if r7≠0 then (
  none)
 else
 if 20 < (errata.length:Int) then (
  none)
 else
 (UO errata (OL)).bind fun r0 =>
 if r0 then (
  (MF v_0).bind fun r1 =>
  (bG (EV r1) (0,([]:List (Int×Bool)))).bind fun e88 =>
  (bG (EW errata e88) (0,([]:List (Int×Bool)))).bind fun eA1=>match eA1 with
  | .inr z=>some z
  | .inl t0 =>
  (UP v_0 errata).bind fun r2 =>
  some r2)
 else
 none
noncomputable def EX (b_0:gM) (s0:Nat×Nat×Nat×Bool):Option ((Nat×Nat×Nat×Bool)⊕(Int×Int×Bool)) :=
 if (s0.2.2.1:Int) < (b_0.parts.length:Int) then (
  none)
 else
 none
noncomputable def m97 (b_0:gM) (anchor:Int):Option (Int×Int×Bool) :=
 (bG (EX b_0) (0,0,0,false)).bind fun e11=>some e11
noncomputable def UQ  : Option (Unit) :=
 some ()
noncomputable def EY (x0:eA) (s0:Nat×List dU):Option ((Nat×List dU)⊕(List dU)) :=
 if (s0.1:Int) < (x0.paragraphs.length:Int) then (
  (x0.paragraphs[s0.1]?).bind fun x1 =>
  cD (s0.2.length+1≤1073741824) <|
  some (.inl ((s0.1+1),(s0.2++[(⟨x1,false⟩:dU)]))))
 else
 some (.inr s0.2)
noncomputable def EZ (v_0:cA) (s0:Nat×List (List dU)):Option ((Nat×List (List dU))⊕(List (List dU))) :=
 if (s0.1:Int) < (v_0.parts.length:Int) then (
  (v_0.parts[s0.1]?).bind fun x0 =>
  (bG (EY x0) (0,([]:List dU))).bind fun eA1 =>
  cD (s0.2.length+1≤1073741824) <|
  some (.inl ((s0.1+1),(s0.2++[eA1]))))
 else
 some (.inr s0.2)
noncomputable def FA (x0:List dU) (x1:aQ) (s1:Nat×Nat×Nat×Bool) (s0:Nat×Nat×Nat×Bool):Option ((Nat×Nat×Nat×Bool)⊕((Nat×Nat×Nat×Bool)⊕(Nat×Nat×Bool))) :=
 if (s0.2.2.1:Int) < (x0.length:Int) then (
  (x0[s0.2.2.1]?).bind fun x2 =>
  if x2.paragraph.anchor=x1.anchor then (
   Option.map (fun z=>.inr z) (
   some (.inr (s1.2.2.1,s0.2.2.1,true))))
  else
  none)
 else
 none
noncomputable def FB (s1:Nat×List (List dU)) (x0:aQ) (s0:Nat×Nat×Nat×Bool):Option ((Nat×Nat×Nat×Bool)⊕(Nat×Nat×Bool)) :=
 if (s0.2.2.1:Int) < (s1.2.length:Int) then (
  (s1.2[s0.2.2.1]?).bind fun x1 =>
  (bG (FA x1 x0 s0) (s0.1,s0.2.1,0,s0.2.2.2)).bind fun eA1=>some eA1)
 else
 none
noncomputable def FC (r0:List aQ) (l0:List aQ) (to_2:Int) (s0:Nat×List (List dU)):Option ((Nat×List (List dU))⊕((List (List dU))⊕(List (List dU)))) :=
 if (s0.1:Int) < (r0.length:Int) then (
  (l0[s0.1]?).bind fun x0 =>
  ((
   if to_2 < x0.day then (
    some (true,s0.2))
   else
   ((
    ((
     (bG (FB s0 x0) (0,0,0,false)).bind fun eA1 =>
     some (eA1.2.1,eA1.1,eA1.2.2)
    ):Option (Nat×Nat×Bool)).bind fun t0 =>
    if t0.2.2 then (
     (UQ).bind fun r1 =>
     cD (0≤x0.kind) <|
     if x0.kind=0 then (
      ((
       (s0.2[t0.2.1]?).bind fun x2 =>
       (x2[t0.1]?).bind fun x1 =>
       if x1.removed then (
        none)
       else
       some (s0.2.set t0.2.1 (x2.set t0.1 (⟨(⟨x1.paragraph.anchor,x0.text⟩:aG),x1.removed⟩:dU)))
      ):Option (List (List dU))).bind fun t2 =>
      some t2)
     else
     none)
    else
    none
   ):Option (List (List dU))).bind fun t3 =>
   some (false,t3)
  ):Option (Bool×List (List dU))).bind fun t1 =>
  if t1.1 then (
   some (.inr (.inr t1.2)))
  else
  some (.inl ((s0.1+1),t1.2)))
 else
 some (.inr (.inl s0.2))
noncomputable def ON (v_0:cA) (errata:List aQ) (to_2:Int):Option (gM) :=
 (bG (EZ v_0) (0,([]:List (List dU)))).bind fun eA1 =>
 ((
  (uQ errata).bind fun r0 =>
  (jQ (xH) r0).bind fun l0 =>
  (bG (FC r0 l0 to_2) (0,eA1)).bind fun eB1=>match eB1 with
  | .inr z=>some z
  | .inl t0 =>
  some t0
 ):Option (List (List dU))).bind fun t1 =>
 some (⟨v_0,t1⟩:gM)
noncomputable def FD (x0:List dU) (s0:Nat×List aG):Option ((Nat×List aG)⊕(List aG)) :=
 if (s0.1:Int) < (x0.length:Int) then (
  (x0[s0.1]?).bind fun x1 =>
  if x1.removed then (
   none)
  else
  cD (s0.2.length+1≤1073741824) <|
  some (.inl ((s0.1+1),(s0.2++[x1.paragraph]))))
 else
 some (.inr s0.2)
noncomputable def FE (r0:gM) (s0:Nat×List aG):Option ((Nat×List aG)⊕(List aG)) :=
 if (s0.1:Int) < (r0.parts.length:Int) then (
  (r0.parts[s0.1]?).bind fun x0 =>
  (bG (FD x0) (0,s0.2)).bind fun eA1 =>
  some (.inl ((s0.1+1),eA1)))
 else
 some (.inr s0.2)
noncomputable def OO (v_0:cA) (errata:List aQ) (to_2:Int):Option (List aG×Int) :=
 (MG v_0 errata).bind fun r7 =>
 if r7≠0 then (
  some (([]:List aG),r7))
 else
 (ER to_2).bind fun r0 =>
 if r0 then (
  (ON v_0 errata to_2).bind fun r1 =>
  (bG (FE r1) (0,([]:List aG))).bind fun eA1 =>
  some (eA1,0))
 else
 none
noncomputable def xJ (b_0:aF) (x_1:aQ):Option (aF⊕Int) :=
 if b_0.state.bound then (
  (jS (decide (b_0.state.volume.bound < b_0.state.day)) 8).bind fun r2=>match r2 with
  | .inl y0=>(
   (IF b_0.state.errata ({x_1 with day:=b_0.state.day}:aQ)).bind fun r0 =>
   (OO b_0.state.volume r0 b_0.state.day).bind fun r1 =>
   (mJ r1.2).bind fun r3=>match r3 with
   | .inl y1=>(
    some (.inl (⟨({b_0.state with errata:=r0}:cV)⟩:aF)))
   | .inr _=>(
    some (.inr r1.2)))
  | .inr _=>(
   some (.inr 8)))
 else
 none
noncomputable def UR (b_0:aF) (l_1:List Int) (text:aE):Option (aF⊕Int) :=
 (l_1[0]?).bind fun x3 =>
 (l_1[1]?).bind fun x0 =>
 (xJ b_0 (⟨x3,0,0,x0,text,0⟩:aQ)).bind fun r0=>match r0 with
 | .inl y0=>(
  some (.inl y0))
 | .inr y0=>(
  some (.inr y0))
noncomputable def US (b_0:aF) (l_1:List Int) (__2:aE):Option (aF⊕Int) :=
 (l_1[0]?).bind fun x3 =>
 (l_1[1]?).bind fun x0 =>
 (xJ b_0 (⟨x3,0,1,x0,[],0⟩:aQ)).bind fun r0=>match r0 with
 | .inl y0=>(
  none)
 | .inr y0=>(
  some (.inr y0))
noncomputable def UT (b_0:aF) (l_1:List Int) (text:aE):Option (aF⊕Int) :=
 (l_1[0]?).bind fun x3 =>
 (l_1[1]?).bind fun x0 =>
 (l_1[2]?).bind fun x1 =>
 (xJ b_0 (⟨x3,0,2,x0,text,x1⟩:aQ)).bind fun r0=>match r0 with
 | .inl y0=>(
  none)
 | .inr y0=>(
  some (.inr y0))
noncomputable def xK (x0:List dU) (anchor:Int) (s1:Nat×Nat×Nat×Bool) (s0:Nat×Nat×Nat×Bool):Option ((Nat×Nat×Nat×Bool)⊕((Nat×Nat×Bool)⊕((Nat×Nat×Nat×Bool)⊕(Nat×Nat×Bool)))) :=
 if (s0.2.2.1:Int) < (x0.length:Int) then (
  (x0[s0.2.2.1]?).bind fun x1 =>
  if x1.paragraph.anchor=anchor then (
   Option.map (fun z=>.inr (.inr z)) (
   some (.inr (s1.2.2.1,s0.2.2.1,true))))
  else
  some (.inl (s0.1,s0.2.1,(s0.2.2.1+1),s0.2.2.2)))
 else
 some (.inr (.inl (s0.1,s0.2.1,s0.2.2.2)))
noncomputable def xL (r0:gM) (anchor:Int) (s0:Nat×Nat×Nat×Bool):Option ((Nat×Nat×Nat×Bool)⊕(Nat×Nat×Bool)) :=
 if (s0.2.2.1:Int) < (r0.parts.length:Int) then (
  (r0.parts[s0.2.2.1]?).bind fun x0 =>
  (bG (xK x0 anchor s0) (s0.1,s0.2.1,0,s0.2.2.2)).bind fun eA1=>match eA1 with
  | .inr z=>some z
  | .inl t0 =>
  some (.inl (t0.1,t0.2.1,(s0.2.2.1+1),t0.2.2)))
 else
 some (.inr (s0.1,s0.2.1,s0.2.2.2))
noncomputable def CI (v_0:cA) (errata:List aQ) (anchor:Int) (to_3:Int):Option (aE×Bool×Int) :=
 (MG v_0 errata).bind fun r7 =>
 if r7≠0 then (
  none)
 else
 (ER to_3).bind fun r1 =>
 if r1 then (
  (ON v_0 errata to_3).bind fun r0 =>
  ((
   (bG (xL r0 anchor) (0,0,0,false)).bind fun eA1 =>
   some (eA1.2.1,eA1.1,eA1.2.2)
  ):Option (Nat×Nat×Bool)).bind fun t0 =>
  if t0.2.2 then (
   (r0.parts[t0.2.1]?).bind fun x1 =>
   (x1[t0.1]?).bind fun x0 =>
   some (x0.paragraph.text,x0.removed,0))
  else
  some ([],false,7))
 else
 none
noncomputable def FF (x1:List dU) (v_0:cA) (s1:Nat×Int×List dC) (s0:Nat×Nat×Int×List dC):Option ((Nat×Nat×Int×List dC)⊕(Int×List dC)) :=
 if (s0.2.1:Int) < (x1.length:Int) then (
  (x1[s0.2.1]?).bind fun x0 =>
  if x0.removed then (
   none)
  else
  cD (-9223372036854775808≤((s0.1:Int)+1)∧((s0.1:Int)+1)≤9223372036854775807) <|
  cD (-9223372036854775808≤((x0.paragraph.text.length:Int)+v_0.width)∧((x0.paragraph.text.length:Int)+v_0.width)≤9223372036854775807) <|
  cD (-9223372036854775808≤(((x0.paragraph.text.length:Int)+v_0.width) - 1)∧(((x0.paragraph.text.length:Int)+v_0.width) - 1)≤9223372036854775807) <|
  cD (0≤(((x0.paragraph.text.length:Int)+v_0.width) - 1)∧(((x0.paragraph.text.length:Int)+v_0.width) - 1)≤9223372036854775807∧0 < v_0.width) <|
  cD (0≤s0.2.2.1∧s0.2.2.1≤9223372036854775807∧0 < v_0.height) <|
  cD (-9223372036854775808≤(s1.2.1+(s0.2.2.1/v_0.height))∧(s1.2.1+(s0.2.2.1/v_0.height))≤9223372036854775807) <|
  cD (0≤s0.2.2.1∧0 < v_0.height) <|
  cD (-9223372036854775808≤((s0.2.2.1%v_0.height)+1)∧((s0.2.2.1%v_0.height)+1)≤9223372036854775807) <|
  (v_0.parts[s1.1]?).bind fun x2 =>
  cD (s0.2.2.2.length+([(⟨(⟨x0.paragraph.anchor,(s1.2.1+(s0.2.2.1/v_0.height)),((s0.2.2.1%v_0.height)+1),((((x0.paragraph.text.length:Int)+v_0.width) - 1)/v_0.width)⟩:hY),x2.day,((s0.1:Int)+1)⟩:dC)]:List dC).length≤1073741824) <|
  cD (-9223372036854775808≤(s0.2.2.1+((((x0.paragraph.text.length:Int)+v_0.width) - 1)/v_0.width))∧(s0.2.2.1+((((x0.paragraph.text.length:Int)+v_0.width) - 1)/v_0.width))≤9223372036854775807) <|
  some (.inl ((s0.1+1),(s0.2.1+1),(s0.2.2.1+((((x0.paragraph.text.length:Int)+v_0.width) - 1)/v_0.width)),(s0.2.2.2++([(⟨(⟨x0.paragraph.anchor,(s1.2.1+(s0.2.2.1/v_0.height)),((s0.2.2.1%v_0.height)+1),((((x0.paragraph.text.length:Int)+v_0.width) - 1)/v_0.width)⟩:hY),x2.day,((s0.1:Int)+1)⟩:dC)]:List dC)))))
 else
 some (.inr (s0.2.2.1,s0.2.2.2))
noncomputable def FG (r7:gM) (v_0:cA) (s0:Nat×Int×List dC):Option ((Nat×Int×List dC)⊕(List dC)) :=
 if (s0.1:Int) < (r7.parts.length:Int) then (
  (r7.parts[s0.1]?).bind fun x0 =>
  (bG (FF x0 v_0 s0) (0,0,0,s0.2.2)).bind fun eA1 =>
  cD (-9223372036854775808≤(eA1.1+v_0.height)∧(eA1.1+v_0.height)≤9223372036854775807) <|
  cD (-9223372036854775808≤((eA1.1+v_0.height) - 1)∧((eA1.1+v_0.height) - 1)≤9223372036854775807) <|
  cD (0≤((eA1.1+v_0.height) - 1)∧((eA1.1+v_0.height) - 1)≤9223372036854775807∧0 < v_0.height) <|
  cD (-9223372036854775808≤(s0.2.1+(((eA1.1+v_0.height) - 1)/v_0.height))∧(s0.2.1+(((eA1.1+v_0.height) - 1)/v_0.height))≤9223372036854775807) <|
  some (.inl ((s0.1+1),(s0.2.1+(((eA1.1+v_0.height) - 1)/v_0.height)),eA1.2)))
 else
 some (.inr s0.2.2)
noncomputable def RZ (v_0:cA) (errata:List aQ):Option (List dC) :=
 (ON v_0 errata v_0.bound).bind fun r7 =>
 (bG (FG r7 v_0) (0,1,([]:List dC))).bind fun eA1 =>
 some eA1
noncomputable def xM (r0:List dC) (anchor:Int) (style:Int) (v_0:cA) (s0:Nat):Option ((Nat)⊕((Unit)⊕(aE×Int))) :=
 if (s0:Int) < (r0.length:Int) then (
  (r0[s0]?).bind fun x0 =>
  if x0.place.anchor≠anchor then (
   some (.inl (s0+1)))
  else
  if style=0 then (
   (HM ([(.s [118,111,108,46,32]:Any),(.i v_0.number:Any),(.s [44,32,99,111,108,46,32]:Any),(.i x0.place.column:Any),(.s [44,32,108,46,32]:Any),(.i x0.place.line:Any)]:List Any)).bind fun r1 =>
   some (.inr (.inr (r1,0))))
  else
  none)
 else
 some (.inr (.inl ()))
noncomputable def IJ (v_0:cA) (errata:List aQ) (anchor:Int) (style:Int) (to_4:Int):Option (aE×Int) :=
 (MG v_0 errata).bind fun r7 =>
 if r7≠0 then (
  none)
 else
 ((
  if 2 < style then (
   some true)
  else
  if style=2 then (
   (ER to_4).bind fun r1 =>
   some (!r1))
  else
  some false
 ):Option (Bool)).bind fun t0 =>
 if t0 then (
  some ([],2))
 else
 if style=2 then (
  (CI v_0 errata anchor to_4).bind fun r0 =>
  if r0.2.2≠0 then (
   some ([],r0.2.2))
  else
  none)
 else
 (RZ v_0 errata).bind fun r2 =>
 (bG (xM r2 anchor style v_0) 0).bind fun eA1=>match eA1 with
 | .inr z=>some z
 | .inl t1 =>
 some ([],7)
noncomputable def SA (s_0:List aE):Option (List aE) :=
 cD (([]:List aE).length+s_0.length≤1073741824) <|
 some (([]:List aE)++s_0)
noncomputable def IK (l_0:List aE) (x_1:aE):Option (List aE) :=
 (SA l_0).bind fun r1 =>
 cD (r1.length+1≤1073741824) <|
 some (r1++[x_1])
noncomputable def UU (b_0:aF) (l_1:List Int) (__2:aE):Option (aF⊕Int) :=
 (jS b_0.state.bound 8).bind fun r3=>match r3 with
 | .inl y6=>(
  (l_1[1]?).bind fun x8 =>
  (sR x8 0 255).bind fun r1 =>
  (jS r1 2).bind fun r2=>match r2 with
  | .inl y0=>(
   (l_1[0]?).bind fun x0 =>
   cD (0≤x8∧x8≤255) <|
   (IJ b_0.state.volume b_0.state.errata x0 x8 b_0.state.day).bind fun r0 =>
   (mJ r0.2).bind fun r4=>match r4 with
   | .inl y1=>(
    (IK b_0.state.cites r0.1).bind fun r5 =>
    some (.inl (⟨({b_0.state with cites:=r5}:cV)⟩:aF)))
   | .inr _=>(
    some (.inr r0.2)))
  | .inr _=>(
   none))
 | .inr _=>(
  none)
noncomputable def UV (b_0:aF):Option (cA) :=
 if b_0.state.bound then (
  some b_0.state.volume)
 else
 none
noncomputable def CJ (b_0:aF):Option (cA) :=
 if b_0.state.bound then (
  some b_0.state.volume)
 else
 none
noncomputable def IL (s_0:List fQ):Option (List fQ) :=
 cD (([]:List fQ).length+s_0.length≤1073741824) <|
 some (([]:List fQ)++s_0)
noncomputable def IM (l_0:List fQ) (x_1:fQ):Option (List fQ) :=
 (IL l_0).bind fun r4 =>
 cD (r4.length+([x_1]:List fQ).length≤1073741824) <|
 some (r4++([x_1]:List fQ))
noncomputable def UW (b_0:aF) (l_1:List Int) (__2:aE):Option (aF⊕Int) :=
 ((
  (l_1[1]?).bind fun x1 =>
  (sR x1 0 7).bind fun r1 =>
  if r1 then (
   (l_1[2]?).bind fun x2 =>
   (sR x2 0 9999).bind fun r2 =>
   (jS r2 1).bind fun r3=>match r3 with
   | .inl y0=>(
    some (.inl ()))
   | .inr _=>(
    some (.inr (.inr 1))))
  else
  (jS false 1).bind fun r4=>match r4 with
  | .inl y1=>(
   some (.inl ()))
  | .inr _=>(
   some (.inr (.inr 1)))
 ):Option ((Unit)⊕(aF⊕Int))).bind fun t0=>match t0 with
 | .inr z=>some z
 | .inl t1 =>
 (jS (decide ((b_0.state.hides.length:Int) < 12)) 3).bind fun r5=>match r5 with
 | .inl y2=>(
  (UV b_0).bind fun r6 =>
  (l_1[0]?).bind fun x0 =>
  (CI r6 b_0.state.errata x0 b_0.state.day).bind fun r0 =>
  (mJ r0.2.2).bind fun r7=>match r7 with
  | .inl y3=>(
   (l_1[1]?).bind fun x3 =>
   (l_1[2]?).bind fun x4 =>
   (IM b_0.state.hides (⟨x0,x3,x4⟩:fQ)).bind fun r8 =>
   some (.inl (⟨({b_0.state with hides:=r8}:cV)⟩:aF)))
  | .inr _=>(
   some (.inr r0.2.2)))
 | .inr _=>(
  none)
noncomputable def UX (b_0:aF) (l_1:List Int) (__2:aE):Option (aF⊕Int) :=
 (jS (!b_0.state.open_) 8).bind fun r3=>match r3 with
 | .inl y6=>(
  (l_1[0]?).bind fun x8 =>
  (sR x8 1 40).bind fun r0 =>
  (jS r0 2).bind fun r1=>match r1 with
  | .inl y0=>(
   some (.inl (⟨({b_0.state with house:=x8}:cV)⟩:aF)))
  | .inr _=>(
   some (.inr 2)))
 | .inr _=>(
  none)
noncomputable def uR (n_0:Int) (low:Int) (high:Int):Option (Bool) :=
 ((
  if low≤n_0 then (
   some (decide (n_0≤high)))
  else
  some false
 ):Option (Bool)).bind fun t4 =>
 some t4
noncomputable def xN (d_0:aW) (n_1:Int):Option (Bool) :=
 cD (-9223372036854775808≤(d_0.members - 1)∧(d_0.members - 1)≤9223372036854775807) <|
 (uR n_1 0 (d_0.members - 1)).bind fun r8 =>
 some r8
noncomputable def xO (x_0:Int) (f0_:Int→Option Bool):Option (Bool) :=
 (f0_ x_0).bind fun r1 =>
 some (!r1)
noncomputable def xP (s_0:List Int) (f_1:Int→Option Bool) (s0:Nat):Option ((Nat)⊕(Unit)) :=
 if (s0:Int) < (s_0.length:Int) then (
  (s_0[s0]?).bind fun x0 =>
  (f_1 x0).bind fun r0 =>
  if r0 then (
   none)
  else
  some (.inl (s0+1)))
 else
 some (.inr ())
noncomputable def IN (s_0:List Int) (f_1:Int→Option Bool):Option (Int) :=
 (bG (xP s_0 f_1) 0).bind fun e19 =>
 some (-1)
noncomputable def IP (s_0:List Int) (f_1:Int→Option Bool):Option (Bool) :=
 (IN s_0 f_1).bind fun r1 =>
 some (decide (0≤r1))
noncomputable def IQ (l_0:List Int) (right:Int→Option Bool):Option (Bool) :=
 (IP l_0 (fun x0_=>xO x0_ right)).bind fun r5 =>
 some (!r5)
noncomputable def xQ (l_0:List Int) (s0:Nat):Option ((Nat)⊕(Unit)) :=
 if (s0:Int) < (l_0.length:Int) then (
  ((
   if 0 < (s0:Int) then (
    (l_0[s0]?).bind fun x0 =>
    (l_0[((s0:Int) - 1).toNat]?).bind fun x1 =>
    some (decide (x0≤x1)))
   else
   some false
  ):Option (Bool)).bind fun t0 =>
  if t0 then (
   none)
  else
  some (.inl (s0+1)))
 else
 some (.inr ())
noncomputable def IR (l_0:List Int):Option (Bool) :=
 (bG (xQ l_0) 0).bind fun e29 =>
 some true
noncomputable def rN (d_0:aW) (l_1:List Int):Option (Bool) :=
 (IQ l_1 (xN d_0)).bind fun r0 =>
 if r0 then (
  (IR l_1).bind fun r1 =>
  some r1)
 else
 none
noncomputable def xR (x_0:List Int) (f0_:(List Int)→Option Bool):Option (Bool) :=
 (f0_ x_0).bind fun r1 =>
 some (!r1)
noncomputable def xS (s_0:List (List Int)) (f_1:(List Int)→Option Bool) (s0:Nat):Option ((Nat)⊕(Unit)) :=
 if (s0:Int) < (s_0.length:Int) then (
  (s_0[s0]?).bind fun x0 =>
  (f_1 x0).bind fun r0 =>
  if r0 then (
   none)
  else
  some (.inl (s0+1)))
 else
 some (.inr ())
noncomputable def IS (s_0:List (List Int)) (f_1:(List Int)→Option Bool):Option (Int) :=
 (bG (xS s_0 f_1) 0).bind fun e23 =>
 some (-1)
noncomputable def IT (s_0:List (List Int)) (f_1:(List Int)→Option Bool):Option (Bool) :=
 (IS s_0 f_1).bind fun r1 =>
 some (decide (0≤r1))
noncomputable def CK (l_0:List (List Int)) (right:(List Int)→Option Bool):Option (Bool) :=
 (IT l_0 (fun x0_=>xR x0_ right)).bind fun r5 =>
 some (!r5)
noncomputable def xU (p_0:eF) (f0_:List (Int×Bool)):Option (Bool) :=
 some (!((iH f0_ p_0.holder).getD false))
noncomputable def xV (x_0:eF) (f0_:eF→Option Bool):Option (Bool) :=
 (f0_ x_0).bind fun r4 =>
 some (!r4)
noncomputable def xW (s_0:List eF) (s8:Nat):Option ((Nat)⊕(Unit)) :=
 if (s8:Int) < (s_0.length:Int) then (
  none)
 else
 some (.inr ())
noncomputable def IU (s_0:List eF) (f_1:eF→Option Bool):Option (Int) :=
 (bG (xW s_0) 0).bind fun e5 =>
 some (-1)
noncomputable def IV (s_0:List eF) (f_1:eF→Option Bool):Option (Bool) :=
 (IU s_0 f_1).bind fun r1 =>
 some (decide (0≤r1))
noncomputable def IW (l_0:List eF) (right:eF→Option Bool):Option (Bool) :=
 (IV l_0 (fun x0_=>xV x0_ right)).bind fun r5 =>
 some (!r5)
noncomputable def xX (d_0:aW) (s0:Nat):Option ((Nat)⊕(Unit)) :=
 if (s0:Int) < (d_0.pairs.length:Int) then (
  none)
 else
 some (.inr ())
noncomputable def xY (d_0:aW) (s0:Nat):Option ((Nat)⊕(Unit)) :=
 if (s0:Int) < (d_0.proxies.length:Int) then (
  none)
 else
 some (.inr ())
noncomputable def IX (d_0:aW):Option (Bool) :=
 (bG (xX d_0) 0).bind fun e13 =>
 (bG (xY d_0) 0).bind fun e30 =>
 (IW d_0.proxies (fun x0_=>xU x0_ ([]:List (Int×Bool)))).bind fun r0 =>
 some r0
noncomputable def CL (d_0:aW):Option (Bool) :=
 some (decide (d_0.tie=1))
noncomputable def IY (d_0:aW) (n_1:fM) (f0_:aW→Option Bool):Option (Bool) :=
 if n_1.noes < n_1.ayes then (
  some true)
 else
 none
noncomputable def OP (d_0:aW) (n_1:fM) (f0_:aW→Option Bool):Option (Bool) :=
 if d_0.need≤n_1.ayes then (
  none)
 else
 none
noncomputable def OQ (__0:aW) (n_1:fM):Option (Bool) :=
 cD (-9223372036854775808≤(3*n_1.ayes)∧(3*n_1.ayes)≤9223372036854775807) <|
 cD (-9223372036854775808≤(n_1.ayes+n_1.noes)∧(n_1.ayes+n_1.noes)≤9223372036854775807) <|
 cD (-9223372036854775808≤(2*(n_1.ayes+n_1.noes))∧(2*(n_1.ayes+n_1.noes))≤9223372036854775807) <|
 if (2*(n_1.ayes+n_1.noes))≤(3*n_1.ayes) then (
  none)
 else
 none
noncomputable def CM  : Option (Unit) :=
 some ()
noncomputable def CN (d_0:aW):Option (Bool) :=
 ((
  (uR d_0.members 1 40).bind fun r0 =>
  if r0 then (
   (CK ([d_0.ayes.e0,d_0.ayes.e1]:List (List Int)) (rN d_0)).bind fun r1 =>
   if r1 then (
    (CK ([d_0.noes.e0,d_0.noes.e1]:List (List Int)) (rN d_0)).bind fun r2 =>
    if r2 then (
     if (d_0.pairs.length:Int)≤10 then (
      if (d_0.proxies.length:Int)≤10 then (
       (IX d_0).bind fun r3 =>
       if r3 then (
        cD (-9223372036854775808≤d_0.rule∧d_0.rule≤9223372036854775807) <|
        (CM).bind fun r6 =>
        if d_0.rule < 3 then (
         (uR d_0.need 0 40).bind fun r4 =>
         if r4 then (
          (uR d_0.quorum 0 40).bind fun r5 =>
          if r5 then (
           if d_0.tie=1 then (
            none)
           else
           some (decide (d_0.tie=2)))
          else
          none)
         else
         none)
        else
        some false)
       else
       some false)
      else
      none)
     else
     none)
    else
    some false)
   else
   some false)
  else
  some false
 ):Option (Bool)).bind fun t0 =>
 some t0
noncomputable def IZ (d_0:aW):Option (Int) :=
 (CN d_0).bind fun r6 =>
 if r6 then (
  some 0)
 else
 some 1
noncomputable def JA (b_0:aF) (d_1:aW):Option (aF⊕Int) :=
 (IZ d_1).bind fun r8 =>
 (mJ r8).bind fun r0=>match r0 with
 | .inl y0=>(
  some (.inl (⟨({b_0.state with division:=d_1,open_:=true}:cV)⟩:aF)))
 | .inr _=>(
  some (.inr r8))
noncomputable def UY (b_0:aF) (l_1:List Int) (__2:aE):Option (aF⊕Int) :=
 (jS (!b_0.state.open_) 8).bind fun r3=>match r3 with
 | .inl y6=>(
  ((
   (l_1[0]?).bind fun x2 =>
   (sR x2 0 255).bind fun r0 =>
   if r0 then (
    (l_1[3]?).bind fun x3 =>
    (sR x3 0 255).bind fun r1 =>
    (jS r1 2).bind fun r2=>match r2 with
    | .inl y1=>(
     some (.inl ()))
    | .inr _=>(
     some (.inr (.inr 2))))
   else
   (jS false 2).bind fun r4=>match r4 with
   | .inl y2=>(
    some (.inl ()))
   | .inr _=>(
    some (.inr (.inr 2)))
  ):Option ((Unit)⊕(aF⊕Int))).bind fun t0=>match t0 with
  | .inr z=>some z
  | .inl t1 =>
  (l_1[0]?).bind fun x0 =>
  cD (0≤x0∧x0≤255) <|
  (l_1[1]?).bind fun x4 =>
  (l_1[2]?).bind fun x5 =>
  (l_1[3]?).bind fun x1 =>
  cD (0≤x1∧x1≤255) <|
  (JA b_0 (⟨b_0.state.house,(⟨([]:List Int),([]:List Int)⟩:bQ),(⟨([]:List Int),([]:List Int)⟩:bQ),([]:List fE),([]:List eF),x0,x4,x5,x1⟩:aW)).bind fun r5=>match r5 with
  | .inl y0=>(
   some (.inl y0))
  | .inr y0=>(
   some (.inr y0)))
 | .inr _=>(
  none)
noncomputable def JB (x_0:Int) (y_1:Int):Option (Bool) :=
 (xF x_0).bind fun r7 =>
 if r7 then (
  none)
 else
 some (decide (x_0 < y_1))
noncomputable def OR (x_0:Int):Option (Bool) :=
 some (decide (x_0≠x_0))
noncomputable def xZ (x_0:List Int) (target:Int) (s0:Nat×Int):Option ((Nat×Int)⊕(Int)) :=
 if s0.2 < (s0.1:Int) then (
  cD (-9223372036854775808≤(s0.2+(s0.1:Int))∧(s0.2+(s0.1:Int))≤9223372036854775807) <|
  cD (0≤(s0.2+(s0.1:Int))∧(s0.2+(s0.1:Int))≤18446744073709551615) <|
  cD (0≤(s0.2+(s0.1:Int))) <|
  cD (-9223372036854775808≤((s0.2+(s0.1:Int))/2)∧((s0.2+(s0.1:Int))/2)≤9223372036854775807) <|
  (x_0[((s0.2+(s0.1:Int))/2).toNat]?).bind fun x0 =>
  (JB x0 target).bind fun r0 =>
  if r0 then (
   cD (-9223372036854775808≤(((s0.2+(s0.1:Int))/2)+1)∧(((s0.2+(s0.1:Int))/2)+1)≤9223372036854775807) <|
   some (.inl (s0.1,(((s0.2+(s0.1:Int))/2)+1))))
  else
  none)
 else
 some (.inr s0.2)
noncomputable def sT (x_0:List Int) (target:Int):Option (Int×Bool) :=
 (bG (xZ x_0 target) (x_0.length,0)).bind fun e55 =>
 if e55 < (x_0.length:Int) then (
  none)
 else
 some (e55,false)
noncomputable def sU (s_0:List Int):Option (List Int) :=
 cD (([]:List Int).length+s_0.length≤1073741824) <|
 some (([]:List Int)++s_0)
noncomputable def UZ (b_0:aF) (l_1:List Int) (__2:aE):Option (aF⊕Int) :=
 (jS b_0.state.open_ 8).bind fun r3=>match r3 with
 | .inl y6=>(
  (l_1[0]?).bind fun x1 =>
  (sR x1 1 2).bind fun r9 =>
  if r9 then (
   (l_1[1]?).bind fun x2 =>
   (sR x2 0 1).bind fun r73 =>
   if r73 then (
    (l_1[2]?).bind fun x0 =>
    cD (-9223372036854775808≤(b_0.state.division.members - 1)∧(b_0.state.division.members - 1)≤9223372036854775807) <|
    (sR x0 0 (b_0.state.division.members - 1)).bind fun r88 =>
    (jS r88 2).bind fun r91=>match r91 with
    | .inl y0=>(
     if x2=0 then (
      if x1=2 then (
       (sT b_0.state.division.noes.e0 x0).bind fun r0 =>
       (jS (!r0.2) 6).bind fun rA1=>match rA1 with
       | .inl y1=>(
        (sU b_0.state.division.noes.e0).bind fun r5 =>
        cD (0≤r0.1) <|
        cD (r0.1.toNat≤r5.length) <|
        cD (r5.length+([x0]:List Int).length≤1073741824) <|
        some (.inl (⟨({b_0.state with division:=({b_0.state.division with noes:=(⟨(r5.take r0.1.toNat++([x0]:List Int)++r5.drop r0.1.toNat),b_0.state.division.noes.e1⟩:bQ)}:aW)}:cV)⟩:aF)))
       | .inr _=>(
        none))
      else
      (sT b_0.state.division.ayes.e0 x0).bind fun r1 =>
      (jS (!r1.2) 6).bind fun rB1=>match rB1 with
      | .inl y2=>(
       (sU b_0.state.division.ayes.e0).bind fun r6 =>
       cD (0≤r1.1) <|
       cD (r1.1.toNat≤r6.length) <|
       cD (r6.length+([x0]:List Int).length≤1073741824) <|
       some (.inl (⟨({b_0.state with division:=({b_0.state.division with ayes:=(⟨(r6.take r1.1.toNat++([x0]:List Int)++r6.drop r1.1.toNat),b_0.state.division.ayes.e1⟩:bQ)}:aW)}:cV)⟩:aF)))
      | .inr _=>(
       none))
     else
     if x2=1 then (
      if x1=2 then (
       (sT b_0.state.division.noes.e1 x0).bind fun r2 =>
       (jS (!r2.2) 6).bind fun rC1=>match rC1 with
       | .inl y3=>(
        (sU b_0.state.division.noes.e1).bind fun r7 =>
        cD (0≤r2.1) <|
        cD (r2.1.toNat≤r7.length) <|
        cD (r7.length+([x0]:List Int).length≤1073741824) <|
        some (.inl (⟨({b_0.state with division:=({b_0.state.division with noes:=(⟨b_0.state.division.noes.e0,(r7.take r2.1.toNat++([x0]:List Int)++r7.drop r2.1.toNat)⟩:bQ)}:aW)}:cV)⟩:aF)))
       | .inr _=>(
        none))
      else
      (sT b_0.state.division.ayes.e1 x0).bind fun r4 =>
      (jS (!r4.2) 6).bind fun rD1=>match rD1 with
      | .inl y4=>(
       (sU b_0.state.division.ayes.e1).bind fun r8 =>
       cD (0≤r4.1) <|
       cD (r4.1.toNat≤r8.length) <|
       cD (r8.length+([x0]:List Int).length≤1073741824) <|
       some (.inl (⟨({b_0.state with division:=({b_0.state.division with ayes:=(⟨b_0.state.division.ayes.e0,(r8.take r4.1.toNat++([x0]:List Int)++r8.drop r4.1.toNat)⟩:bQ)}:aW)}:cV)⟩:aF)))
      | .inr _=>(
       none))
     else
     none)
    | .inr _=>(
     none))
   else
   none)
  else
  none)
 | .inr _=>(
  some (.inr 8))
noncomputable def JC (s_0:List fE):Option (List fE) :=
 cD (([]:List fE).length+s_0.length≤1073741824) <|
 some (([]:List fE)++s_0)
noncomputable def OS (l_0:List fE) (x_1:fE):Option (List fE) :=
 (JC l_0).bind fun r4 =>
 cD (r4.length+([x_1]:List fE).length≤1073741824) <|
 some (r4++([x_1]:List fE))
noncomputable def VA (b_0:aF) (l_1:List Int) (__2:aE):Option (aF⊕Int) :=
 (jS b_0.state.open_ 8).bind fun r3=>match r3 with
 | .inl y6=>(
  none)
 | .inr _=>(
  none)
noncomputable def yA (s_0:List Int) (v_1:Int) (s0:Nat):Option ((Nat)⊕((Unit)⊕Int)) :=
 if (s0:Int) < (s_0.length:Int) then (
  (s_0[s0]?).bind fun x0 =>
  if v_1=x0 then (
   some (.inr (.inr (s0:Int))))
  else
  some (.inl (s0+1)))
 else
 some (.inr (.inl ()))
noncomputable def JD (s_0:List Int) (v_1:Int):Option (Int) :=
 (bG (yA s_0 v_1) 0).bind fun e16=>match e16 with
 | .inr z=>some z
 | .inl t0 =>
 some (-1)
noncomputable def uU (s_0:List Int) (v_1:Int):Option (Bool) :=
 (JD s_0 v_1).bind fun r1 =>
 some (decide (0≤r1))
noncomputable def CO (lobby:bQ) (member:Int):Option (Int) :=
 (uU lobby.e0 member).bind fun r0 =>
 ((
  if r0 then (
   some 1)
  else
  some 0
 ):Option (Nat)).bind fun t0 =>
 (uU lobby.e1 member).bind fun r1 =>
 ((
  if r1 then (
   cD (-9223372036854775808≤((t0:Int)+1)∧((t0:Int)+1)≤9223372036854775807) <|
   some (t0+1))
  else
  some t0
 ):Option (Nat)).bind fun t1 =>
 some (t1:Int)
noncomputable def JE (d_0:aW) (member:Int):Option (List UInt8) :=
 (CO d_0.ayes member).bind fun r6 =>
 (CO d_0.noes member).bind fun r0 =>
 ((
  if r6 < 2 then (
   some (decide (r0 < 2)))
  else
  some false
 ):Option (Bool)).bind fun t2 =>
 ((
  if t2 then (
   cD (([]:List UInt8).length+1≤1073741824) <|
   some (([]:List UInt8)++[(0:UInt8)]))
  else
  some ([]:List UInt8)
 ):Option (List UInt8)).bind fun t0 =>
 ((
  if 0 < r6 then (
   some (decide (r0 < 2)))
  else
  some false
 ):Option (Bool)).bind fun t3 =>
 ((
  if t3 then (
   cD (t0.length+1≤1073741824) <|
   some (t0++[(1:UInt8)]))
  else
  some t0
 ):Option (List UInt8)).bind fun t1 =>
 ((
  if 0 < r0 then (
   some (decide (r6 < 2)))
  else
  some false
 ):Option (Bool)).bind fun t4 =>
 ((
  if t4 then (
   cD (t1.length+1≤1073741824) <|
   some (t1++[(2:UInt8)]))
  else
  some t1
 ):Option (List UInt8)).bind fun t5 =>
 some t5
noncomputable def yB (d_0:aW) (s0:Nat):Option ((Nat)⊕(Unit)) :=
 if (s0:Int) < (d_0.pairs.length:Int) then (
  none)
 else
 some (.inr ())
noncomputable def yC (d_0:aW) (s0:Nat×List (List UInt8)):Option ((Nat×List (List UInt8))⊕(List (List UInt8))) :=
 if (s0.1:Int) < d_0.members then (
  (JE d_0 (s0.1:Int)).bind fun r0 =>
  (s0.2[s0.1]?).bind fun x0 =>
  cD (-9223372036854775808≤((s0.1:Int)+1)∧((s0.1:Int)+1)≤9223372036854775807) <|
  some (.inl ((s0.1+1),(s0.2.set s0.1 r0))))
 else
 some (.inr s0.2)
noncomputable def JF (d_0:aW):Option (dQ) :=
 (bG (yB d_0) 0).bind fun e12 =>
 (bG (yC d_0) (0,(List.replicate 40 ([]:List UInt8)))).bind fun e77 =>
 some (⟨d_0,bM.zero,e77⟩:dQ)
noncomputable def yD (x_0:dQ) (s0:Nat×Nat×Bool):Option ((Nat×Nat×Bool)⊕(Nat×Bool)) :=
 if (s0.2.1:Int) < x_0.division.members then (
  (x_0.may[s0.2.1]?).bind fun x0 =>
  if (x0.length:Int)=0 then (
   none)
  else
  cD (-9223372036854775808≤((s0.2.1:Int)+1)∧((s0.2.1:Int)+1)≤9223372036854775807) <|
  some (.inl (s0.1,(s0.2.1+1),s0.2.2)))
 else
 some (.inr (s0.1,s0.2.2))
noncomputable def JG (x_0:dQ):Option (Int×Bool) :=
 (bG (yD x_0) (0,0,false)).bind fun e41 =>
 some ((e41.1:Int),e41.2)
noncomputable def JH (d_0:aW):Option (dQ×Int) :=
 (CN d_0).bind fun r7 =>
 if r7 then (
  (JF d_0).bind fun r0 =>
  (JG r0).bind fun r1 =>
  if r1.2 then (
   none)
  else
  some (r0,0))
 else
 none
noncomputable def yE (x_0:dQ) (s0:Nat×List Int):Option ((Nat×List Int)⊕(List Int)) :=
 if (s0.1:Int) < x_0.division.members then (
  (x_0.may[s0.1]?).bind fun x0 =>
  ((
   if 1 < (x0.length:Int) then (
    cD (s0.2.length+1≤1073741824) <|
    some (s0.2++[(s0.1:Int)]))
   else
   some s0.2
  ):Option (List Int)).bind fun t0 =>
  cD (-9223372036854775808≤((s0.1:Int)+1)∧((s0.1:Int)+1)≤9223372036854775807) <|
  some (.inl ((s0.1+1),t0)))
 else
 some (.inr s0.2)
noncomputable def JI (x_0:dQ):Option (List Int) :=
 (bG (yE x_0) (0,([]:List Int))).bind fun eA1 =>
 some eA1
noncomputable def JJ (d_0:aW):Option (dQ×Int) :=
 (JH d_0).bind fun r7 =>
 if r7.2=0 then (
  (JI r7.1).bind fun r0 =>
  if 8 < (r0.length:Int) then (
   none)
  else
  some (r7.1,r7.2))
 else
 none
noncomputable def OT (t_0:bH) (m_1:Int) (f0_:dQ) (f1_:bH→Option Bool) (f2_:bH→Int→Option Bool):Option (Bool) :=
 if m_1=f0_.division.members then (
  none)
 else
 none
noncomputable def yF (x_0:dQ) (t_1:bH) (s0:Nat×Nat×Nat):Option ((Nat×Nat×Nat)⊕(Nat×Nat)) :=
 if (s0.1:Int) < x_0.division.members then (
  cD ((s0.1:Int) < 40) <|
  if bM.get x_0.paired s0.1 then (
   none)
  else
  ((
   ((
    if (bH.get t_1 s0.1)=1 then (
     cD (-9223372036854775808≤((s0.2.1:Int)+1)∧((s0.2.1:Int)+1)≤9223372036854775807) <|
     some ((s0.2.1+1),s0.2.2))
    else
    ((
     if (bH.get t_1 s0.1)=2 then (
      cD (-9223372036854775808≤((s0.2.2:Int)+1)∧((s0.2.2:Int)+1)≤9223372036854775807) <|
      some (s0.2.2+1))
     else
     some s0.2.2
    ):Option (Nat)).bind fun t2 =>
    some (s0.2.1,t2)
   ):Option (Nat×Nat)).bind fun t0 =>
   some (t0.1,t0.2)
  ):Option (Nat×Nat)).bind fun t1 =>
  cD (-9223372036854775808≤((s0.1:Int)+1)∧((s0.1:Int)+1)≤9223372036854775807) <|
  some (.inl ((s0.1+1),t1.1,t1.2)))
 else
 some (.inr (s0.2.1,s0.2.2))
noncomputable def yG (x_0:dQ) (s0:Nat):Option ((Nat)⊕(Unit)) :=
 if (s0:Int) < (x_0.division.proxies.length:Int) then (
  none)
 else
 some (.inr ())
noncomputable def JK (x_0:dQ) (t_1:bH):Option (fM) :=
 (bG (yF x_0 t_1) (0,0,0)).bind fun e80 =>
 (bG (yG x_0) 0).bind fun eA1 =>
 some (⟨(e80.1:Int),(e80.2:Int)⟩:fM)
noncomputable def JL (x_0:dQ) (n_1:fM):Option (Int) :=
 cD (-9223372036854775808≤(n_1.ayes+n_1.noes)∧(n_1.ayes+n_1.noes)≤9223372036854775807) <|
 if (n_1.ayes+n_1.noes) < x_0.division.quorum then (
  some 2)
 else
 (CM).bind fun r1 =>
 cD (0≤x_0.division.rule) <|
 if x_0.division.rule=0 then (
  (IY x_0.division n_1 (CL)).bind fun r0 =>
  if r0 then (
   some 1)
  else
  none)
 else
 none
noncomputable def yH (s_0:List UInt8) (v_1:Int) (s0:Nat):Option ((Nat)⊕((Unit)⊕Int)) :=
 if (s0:Int) < (s_0.length:Int) then (
  (s_0[s0]?).bind fun x0 =>
  if v_1=(x0.toNat:Int) then (
   some (.inr (.inr (s0:Int))))
  else
  some (.inl (s0+1)))
 else
 some (.inr (.inl ()))
noncomputable def JM (s_0:List UInt8) (v_1:Int):Option (Int) :=
 (bG (yH s_0 v_1) 0).bind fun e16=>match e16 with
 | .inr z=>some z
 | .inl t0 =>
 some (-1)
noncomputable def JN (s_0:List UInt8) (v_1:Int):Option (Bool) :=
 (JM s_0 v_1).bind fun r1 =>
 some (decide (0≤r1))
noncomputable def JO (x_0:Int):Option (Int) :=
 if 4294967296≤x_0 then (
  none)
 else
 if 65536≤x_0 then (
  none)
 else
 if 256≤x_0 then (
  none)
 else
 cD (0≤x_0∧x_0≤255) <|
 cD (0≤x_0) <|
 (([0,1,2,2,3,3,3,3,4,4,4,4,4,4,4,4,5,5,5,5,5,5,5,5,5,5,5,5,5,5,5,5,6,6,6,6,6,6,6,6,6,6,6,6,6,6,6,6,6,6,6,6,6,6,6,6,6,6,6,6,6,6,6,6,7,7,7,7,7,7,7,7,7,7,7,7,7,7,7,7,7,7,7,7,7,7,7,7,7,7,7,7,7,7,7,7,7,7,7,7,7,7,7,7,7,7,7,7,7,7,7,7,7,7,7,7,7,7,7,7,7,7,7,7,7,7,7,7,8,8,8,8,8,8,8,8,8,8,8,8,8,8,8,8,8,8,8,8,8,8,8,8,8,8,8,8,8,8,8,8,8,8,8,8,8,8,8,8,8,8,8,8,8,8,8,8,8,8,8,8,8,8,8,8,8,8,8,8,8,8,8,8,8,8,8,8,8,8,8,8,8,8,8,8,8,8,8,8,8,8,8,8,8,8,8,8,8,8,8,8,8,8,8,8,8,8,8,8,8,8,8,8,8,8,8,8,8,8,8,8,8,8,8,8,8,8,8,8,8,8,8,8,8,8,8,8]:aE)[x_0.toNat]?).bind fun x0 =>
 some (0+(x0.toNat:Int))
noncomputable def JP (x_0:Int):Option (Int) :=
 (JO x_0).bind fun r1 =>
 some r1
noncomputable def JQ (x_0:Int):Option (Bool) :=
 some (decide (x_0≠x_0))
noncomputable def JR (x_0:Int) (y_1:Int):Option (Bool) :=
 (JQ x_0).bind fun r7 =>
 if r7 then (
  none)
 else
 some (decide (x_0 < y_1))
noncomputable def yI (x0:List UInt8) (s1:Nat×bH×List UInt8) (R0_:(Nat×bH×List UInt8)→Option (List UInt8)) (s0:Nat×bH×List UInt8):Option ((Nat×bH×List UInt8)⊕(bH×List UInt8)) :=
 if (s0.1:Int) < (x0.length:Int) then (
  (x0[s0.1]?).bind fun x1 =>
  cD ((s1.1:Int) < 40) <|
  cD (-9223372036854775808≤((s1.1:Int)+1)∧((s1.1:Int)+1)≤9223372036854775807) <|
  (R0_ ((s1.1+1),(bH.set s0.2.1 s1.1 (x1.toNat:Int)),s0.2.2)).bind fun r0 =>
  some (.inl ((s0.1+1),(bH.set s0.2.1 s1.1 (x1.toNat:Int)),r0)))
 else
 some (.inr (s0.2.1,s0.2.2))
noncomputable def yJ (r6:dQ×Int) (R0_:(Nat×bH×List UInt8)→Option (List UInt8)) (s0:Nat×bH×List UInt8):Option (List UInt8) :=
 if (s0.1:Int)=r6.1.division.members then (
  ((
   (JK r6.1 s0.2.1).bind fun r1 =>
   (JL r6.1 r1).bind fun r0 =>
   (JN s0.2.2 r0).bind fun r2 =>
   ((
    if r2 then (
     some s0.2.2)
    else
    cD (s0.2.2.length+1≤1073741824) <|
    cD (0≤r0∧r0≤255) <|
    some (s0.2.2++[(UInt8.ofNat r0.toNat)])
   ):Option (List UInt8)).bind fun t0 =>
   some t0
  ):Option (List UInt8)).bind fun t1 =>
  some t1)
 else
 (r6.1.may[s0.1]?).bind fun x0 =>
 (bG (yI x0 s0 R0_) (0,s0.2.1,s0.2.2)).bind fun eA1 =>
 some eA1.2
noncomputable def nD (r6:dQ×Int):Nat→(Nat×bH×List UInt8)→Option (List UInt8)
 | 0,_=>none
 | n_+1,s0=>yJ r6 (nD r6 n_) s0
noncomputable def yK (s1:Nat×Nat×Int×Bool×Bool) (s0:Int×List UInt8):Option ((Int×List UInt8)⊕(List UInt8)) :=
 ((
  if (s1.1:Int) < s0.1 then (
   cD (0≤s0.1) <|
   (s0.2[s0.1.toNat]?).bind fun x1 =>
   cD (-9223372036854775808≤(s0.1 - 1)∧(s0.1 - 1)≤9223372036854775807) <|
   cD (0≤(s0.1 - 1)) <|
   (s0.2[(s0.1 - 1).toNat]?).bind fun x2 =>
   (JR (x1.toNat:Int) (x2.toNat:Int)).bind fun r0 =>
   some r0)
  else
  some false
 ):Option (Bool)).bind fun t0 =>
 if t0 then (
  cD (-9223372036854775808≤(s0.1 - 1)∧(s0.1 - 1)≤9223372036854775807) <|
  cD (0≤(s0.1 - 1)) <|
  (s0.2[(s0.1 - 1).toNat]?).bind fun x0 =>
  cD (0≤s0.1) <|
  (s0.2[s0.1.toNat]?).bind fun x3 =>
  ((s0.2.set s0.1.toNat x0)[(s0.1 - 1).toNat]?).bind fun x4 =>
  some (.inl ((s0.1 - 1),((s0.2.set s0.1.toNat x0).set ((s0.1 - 1).toNat) x3))))
 else
 some (.inr s0.2)
noncomputable def yL (s1:Nat×Nat×Int×Bool×Bool) (s0:Nat×List UInt8):Option ((Nat×List UInt8)⊕(List UInt8)) :=
 if (s0.1:Int) < (s1.2.1:Int) then (
  (bG (yK s1) ((s0.1:Int),s0.2)).bind fun eA1 =>
  cD (-9223372036854775808≤((s0.1:Int)+1)∧((s0.1:Int)+1)≤9223372036854775807) <|
  some (.inl ((s0.1+1),eA1)))
 else
 some (.inr s0.2)
noncomputable def yM (t0:List UInt8) (s0:Nat×Nat×Int×Bool×Bool):Option ((Nat×Nat×Int×Bool×Bool)⊕(List UInt8)) :=
 cD (-9223372036854775808≤((s0.2.1:Int) - (s0.1:Int))∧((s0.2.1:Int) - (s0.1:Int))≤9223372036854775807) <|
 if ((s0.2.1:Int) - (s0.1:Int))≤12 then (
  ((
   cD (-9223372036854775808≤((s0.1:Int)+1)∧((s0.1:Int)+1)≤9223372036854775807) <|
   (bG (yL s0) ((s0.1+1),t0)).bind fun eA1 =>
   some eA1
  ):Option (List UInt8)).bind fun t1 =>
  some (.inr t1))
 else
 none
noncomputable def JS (d_0:aW):Option (List UInt8×Int) :=
 (JJ d_0).bind fun r6 =>
 if r6.2≠0 then (
  none)
 else
 ((
  (BQ (fun n_=>nD r6 n_ (0,bH.zero,([]:List UInt8)))).bind fun r0 =>
  some r0
 ):Option (List UInt8)).bind fun t0 =>
 ((
  (JP (t0.length:Int)).bind fun r1 =>
  ((
   (bG (yM t0) (0,t0.length,r1,true,true)).bind fun eA1=>some eA1
  ):Option (List UInt8)).bind fun t1 =>
  some t1
 ):Option (List UInt8)).bind fun t2 =>
 some (t2,0)
noncomputable def JT (s_0:List UInt8):Option (List UInt8) :=
 cD (([]:List UInt8).length+s_0.length≤1073741824) <|
 some (([]:List UInt8)++s_0)
noncomputable def JU (l_0:List UInt8) (x_1:Int):Option (List UInt8) :=
 (JT l_0).bind fun r1 =>
 cD (r1.length+1≤1073741824) <|
 cD (0≤x_1∧x_1≤255) <|
 some (r1++[(UInt8.ofNat x_1.toNat)])
noncomputable def VB (b_0:aF) (x_1:List Int) (x_2:aE):Option (aF⊕Int) :=
 (jS b_0.state.open_ 8).bind fun r3=>match r3 with
 | .inl y6=>(
  (JS b_0.state.division).bind fun r8 =>
  (mJ r8.2).bind fun r0=>match r0 with
  | .inl y0=>(
   (jS (decide ((r8.1.length:Int)=1)) 10).bind fun r1=>match r1 with
   | .inl y1=>(
    (r8.1[0]?).bind fun x0 =>
    (JU b_0.state.results (x0.toNat:Int)).bind fun r2 =>
    some (.inl (⟨({b_0.state with division:=(⟨0,(⟨([]:List Int),([]:List Int)⟩:bQ),(⟨([]:List Int),([]:List Int)⟩:bQ),([]:List fE),([]:List eF),0,0,0,0⟩:aW),open_:=false,results:=r2}:cV)⟩:aF)))
   | .inr _=>(
    some (.inr 10)))
  | .inr _=>(
   none))
 | .inr _=>(
  some (.inr 8))
noncomputable def OU (c_0:Int):Option (Bool) :=
 some (decide (c_0=32))
noncomputable def CP (text:aE):Option (List aE) :=
 (HV text).bind fun r1 =>
 some r1
noncomputable def yN (x_0:aX) (f0_:aX→Option Bool):Option (Bool) :=
 (f0_ x_0).bind fun r7 =>
 some (!r7)
noncomputable def yO (s_0:List aX) (f_1:aX→Option Bool) (s0:Nat):Option ((Nat)⊕(Unit)) :=
 if (s0:Int) < (s_0.length:Int) then (
  (s_0[s0]?).bind fun x0 =>
  (f_1 x0).bind fun r0 =>
  if r0 then (
   none)
  else
  some (.inl (s0+1)))
 else
 some (.inr ())
noncomputable def JV (s_0:List aX) (f_1:aX→Option Bool):Option (Int) :=
 (bG (yO s_0 f_1) 0).bind fun e23 =>
 some (-1)
noncomputable def JW (s_0:List aX) (f_1:aX→Option Bool):Option (Bool) :=
 (JV s_0 f_1).bind fun r1 =>
 some (decide (0≤r1))
noncomputable def sV (l_0:List aX) (right:aX→Option Bool):Option (Bool) :=
 (JW l_0 (fun x0_=>yN x0_ right)).bind fun r5 =>
 some (!r5)
noncomputable def yP (p_0:aX):Option (Bool) :=
 some (decide ((p_0.words.length:Int)≤60))
noncomputable def JX (m_0:cB):Option (Bool) :=
 if (m_0.papers.length:Int)≤10 then (
  if (m_0.words.length:Int)≤60 then (
   (sV m_0.papers (yP)).bind fun r0 =>
   some r0)
  else
  none)
 else
 none
noncomputable def yQ (x_0:aE) (f0_:aE→Option Bool):Option (Bool) :=
 (f0_ x_0).bind fun r1 =>
 some (!r1)
noncomputable def CQ (l_0:List aE) (right:aE→Option Bool):Option (Bool) :=
 (RX l_0 (fun x0_=>yQ x0_ right)).bind fun r5 =>
 some (!r5)
noncomputable def CR (n_0:Int) (low:Int) (high:Int):Option (Bool) :=
 if low≤n_0 then (
  some (decide (n_0≤high)))
 else
 none
noncomputable def yR (x_0:Int) (f0_:Int→Option Bool):Option (Bool) :=
 (f0_ x_0).bind fun r1 =>
 some (!r1)
noncomputable def JY (l_0:List UInt8) (right:Int→Option Bool):Option (Bool) :=
 (wY l_0 (fun x0_=>yR x0_ right)).bind fun r5 =>
 some (!r5)
noncomputable def yS (c_0:Int):Option (Bool) :=
 if (33:Int)≤c_0 then (
  some (decide (c_0≤126)))
 else
 none
noncomputable def rO (s_0:aE):Option (Bool) :=
 (CR (s_0.length:Int) 1 20).bind fun r0 =>
 if r0 then (
  cD (s_0.length≤1073741824) <|
  (JY s_0 (yS)).bind fun r1 =>
  some r1)
 else
 none
noncomputable def yT (p_0:aX):Option (Bool) :=
 (CQ p_0.words (rO)).bind fun r8 =>
 some r8
noncomputable def JZ (m_0:cB):Option (Bool) :=
 (CQ m_0.words (rO)).bind fun r0 =>
 if r0 then (
  (sV m_0.papers (yT)).bind fun r1 =>
  some r1)
 else
 none
noncomputable def yU (p_0:aX):Option (Bool) :=
 (CR p_0.number 1 999).bind fun r7 =>
 some r7
noncomputable def KA (m_0:cB):Option (Bool) :=
 (sV m_0.papers (yU)).bind fun r0 =>
 some r0
noncomputable def yV (m_0:cB) (s0:Nat×(List (Int×aX))):Option ((Nat×(List (Int×aX)))⊕((List (Int×aX)))) :=
 if (s0.1:Int) < (m_0.papers.length:Int) then (
  (m_0.papers[s0.1]?).bind fun x0 =>
  some (.inl ((s0.1+1),(put s0.2 x0.number x0))))
 else
 some (.inr s0.2)
noncomputable def rP (m_0:cB):Option ((List (Int×aX))) :=
 (bG (yV m_0) (0,([]:List (Int×aX)))).bind fun e60 =>
 some e60
noncomputable def KB (m_0:cB):Option (Bool) :=
 (rP m_0).bind fun r0 =>
 some (decide ((r0.length:Int)=(m_0.papers.length:Int)))
noncomputable def yW (p_0:aX) (f0_:List (Int×aX)):Option (Bool) :=
 if p_0.of=0 then (
  some true)
 else
 none
noncomputable def KC (m_0:cB):Option (Bool) :=
 (rP m_0).bind fun r0 =>
 (sV m_0.papers (fun x0_=>yW x0_ r0)).bind fun r1 =>
 some r1
noncomputable def yX (x0:aX) (s0:Nat×Bool):Option ((Nat×Bool)⊕(Bool)) :=
 if x0.of≠0 then (
  none)
 else
 some (.inr s0.2)
noncomputable def yY (m_0:cB) (s0:Nat×Bool):Option ((Nat×Bool)⊕(Bool)) :=
 if (s0.1:Int) < (m_0.papers.length:Int) then (
  (m_0.papers[s0.1]?).bind fun x0 =>
  (bG (yX x0) (0,s0.2)).bind fun e85 =>
  some (.inl ((s0.1+1),e85)))
 else
 some (.inr s0.2)
noncomputable def KD (m_0:cB):Option (Bool) :=
 (rP m_0).bind fun r0 =>
 (bG (yY m_0) (0,true)).bind fun e38 =>
 some e38
noncomputable def CS (m_0:cB) (number:Int):Option (List aE) :=
 if number=0 then (
  some m_0.words)
 else
 (rP m_0).bind fun r0 =>
 some (((iH r0 number).getD (⟨0,0,0,0,([]:List aE)⟩:aX)).words)
noncomputable def yZ (p_0:aX) (f0_:cB):Option (Bool) :=
 if (0:Int)≤p_0.from_ then (
  if p_0.from_≤p_0.to_ then (
   (CS f0_ p_0.of).bind fun r0 =>
   some (decide (p_0.to_≤(r0.length:Int))))
  else
  none)
 else
 none
noncomputable def KE (m_0:cB):Option (Bool) :=
 (sV m_0.papers (fun x0_=>yZ x0_ m_0)).bind fun r0 =>
 some r0
noncomputable def KF  : Option (Unit) :=
 some ()
noncomputable def zA (m_0:cB):Option (Int) :=
 (KF).bind fun r7 =>
 (JX m_0).bind fun r0 =>
 if r0 then (
  (JZ m_0).bind fun r1 =>
  if r1 then (
   (KA m_0).bind fun r2 =>
   if r2 then (
    (KB m_0).bind fun r3 =>
    if r3 then (
     (KC m_0).bind fun r4 =>
     if r4 then (
      (KD m_0).bind fun r5 =>
      if r5 then (
       (KE m_0).bind fun r6 =>
       if r6 then (
        some 0)
       else
       none)
      else
      none)
     else
     none)
    else
    none)
   else
   none)
  else
  none)
 else
 none
noncomputable def VC (b_0:aF) (__1:List Int) (text:aE):Option (aF⊕Int) :=
 (jS (!b_0.state.moved) 8).bind fun r3=>match r3 with
 | .inl y6=>(
  (CP text).bind fun r8 =>
  (zA (⟨r8,([]:List aX)⟩:cB)).bind fun r0 =>
  (mJ r0).bind fun r1=>match r1 with
  | .inl y0=>(
   some (.inl (⟨({b_0.state with motion:=(⟨r8,([]:List aX)⟩:cB),moved:=true}:cV)⟩:aF)))
  | .inr _=>(
   none))
 | .inr _=>(
  none)
noncomputable def KG (s_0:List aX):Option (List aX) :=
 cD (([]:List aX).length+s_0.length≤1073741824) <|
 some (([]:List aX)++s_0)
noncomputable def KH (l_0:List aX) (x_1:aX):Option (List aX) :=
 (KG l_0).bind fun r7 =>
 cD (r7.length+([x_1]:List aX).length≤1073741824) <|
 some (r7++([x_1]:List aX))
noncomputable def VD (b_0:aF) (l_1:List Int) (text:aE):Option (aF⊕Int) :=
 (jS b_0.state.moved 8).bind fun r3=>match r3 with
 | .inl y6=>(
  (l_1[0]?).bind fun x9 =>
  (l_1[1]?).bind fun x0 =>
  (l_1[2]?).bind fun x1 =>
  (l_1[3]?).bind fun x2 =>
  (CP text).bind fun r1 =>
  (KH b_0.state.motion.papers (⟨x9,x0,x1,x2,r1⟩:aX)).bind fun r0 =>
  (zA (⟨b_0.state.motion.words,r0⟩:cB)).bind fun r2 =>
  (mJ r2).bind fun r4=>match r4 with
  | .inl y0=>(
   some (.inl (⟨({b_0.state with motion:=(⟨b_0.state.motion.words,r0⟩:cB)}:cV)⟩:aF)))
  | .inr _=>(
   none))
 | .inr _=>(
  some (.inr 8))
noncomputable def KI (a_0:aX) (b_1:aX):Option (Bool) :=
 if a_0.number≠b_1.number then (
  none)
 else
 some false
noncomputable def zB (choice:List Int) (r0:(List (Int×aX))) (s0:Nat):Option ((Nat)⊕(Unit)) :=
 if (s0:Int) < (choice.length:Int) then (
  (choice[s0]?).bind fun x0 =>
  if ((iH r0 x0).getD (⟨0,0,0,0,([]:List aE)⟩:aX)).of≠0 then (
   none)
  else
  some (.inl (s0+1)))
 else
 some (.inr ())
noncomputable def zC (choice:List Int) (r0:(List (Int×aX))) (x0:Int) (s0:Nat):Option ((Nat)⊕(Unit)) :=
 if (s0:Int) < (choice.length:Int) then (
  (choice[s0]?).bind fun x1 =>
  (KI ((iH r0 x0).getD (⟨0,0,0,0,([]:List aE)⟩:aX)) ((iH r0 x1).getD (⟨0,0,0,0,([]:List aE)⟩:aX))).bind fun r1 =>
  if r1 then (
   none)
  else
  some (.inl (s0+1)))
 else
 some (.inr ())
noncomputable def zD (choice:List Int) (r0:(List (Int×aX))) (s0:Nat):Option ((Nat)⊕(Unit)) :=
 if (s0:Int) < (choice.length:Int) then (
  (choice[s0]?).bind fun x0 =>
  (bG (zC choice r0 x0) 0).bind fun eA1 =>
  some (.inl (s0+1)))
 else
 some (.inr ())
noncomputable def KJ (m_0:cB) (choice:List Int):Option (Int) :=
 (rP m_0).bind fun r0 =>
 (bG (zB choice r0) 0).bind fun e41 =>
 (bG (zD choice r0) 0).bind fun eA1 =>
 some 0
noncomputable def zE (choice:List Int) (r0:(List (Int×aX))) (s0:Nat):Option ((Nat)⊕((Unit)⊕Int)) :=
 if (s0:Int) < (choice.length:Int) then (
  (choice[s0]?).bind fun x0 =>
  ((
   if ((iH r0 x0).getD (⟨0,0,0,0,([]:List aE)⟩:aX)).number≠x0 then (
    some true)
   else
   if x0=0 then (
    none)
   else
   if 0 < (s0:Int) then (
    none)
   else
   some false
  ):Option (Bool)).bind fun t0 =>
  if t0 then (
   some (.inr (.inr 2)))
  else
  some (.inl (s0+1)))
 else
 some (.inr (.inl ()))
noncomputable def KK (m_0:cB) (choice:List Int):Option (Int) :=
 (zA m_0).bind fun r0 =>
 if r0≠0 then (
  none)
 else
 (rP m_0).bind fun r1 =>
 (bG (zE choice r1) 0).bind fun e60=>match e60 with
 | .inr z=>some z
 | .inl t0 =>
 (KJ m_0 choice).bind fun r2 =>
 some r2
noncomputable def zF (l_0:List Int) (s0:Nat):Option ((Nat)⊕(Unit)) :=
 if (s0:Int) < (l_0.length:Int) then (
  (l_0[s0]?).bind fun x0 =>
  if x0≠0 then (
   none)
  else
  some (.inl (s0+1)))
 else
 some (.inr ())
noncomputable def KL (l_0:List Int):Option (Int) :=
 (bG (zF l_0) 0).bind fun e16 =>
 some 0
noncomputable def KM (a_0:aX) (b_1:aX):Option (Int) :=
 cD (-9223372036854775808≤(a_0.from_ - b_1.from_)∧(a_0.from_ - b_1.from_)≤9223372036854775807) <|
 cD (-9223372036854775808≤(a_0.to_ - b_1.to_)∧(a_0.to_ - b_1.to_)≤9223372036854775807) <|
 cD (-9223372036854775808≤(a_0.number - b_1.number)∧(a_0.number - b_1.number)≤9223372036854775807) <|
 (KL ([(a_0.from_ - b_1.from_),(a_0.to_ - b_1.to_),(a_0.number - b_1.number)]:List Int)).bind fun r0 =>
 some r0
noncomputable def zG (f0_:cB) (s0:Nat):Option ((Nat)⊕(Unit)) :=
 if (s0:Int) < (f0_.papers.length:Int) then (
  none)
 else
 none
noncomputable def OV (yield:aX→Option Bool) (f0_:cB) (f1_:Int):Option (Unit) :=
 (bG (zG f0_) 0).bind fun e11=>some e11
noncomputable def zH (m_0:cB) (s1:Int×List aE×List bL) (s0:Nat×List aX):Option ((Nat×List aX)⊕(List aX)) :=
 if (s0.1:Int) < (m_0.papers.length:Int) then (
  (m_0.papers[s0.1]?).bind fun x0 =>
  ((
   if x0.of=s1.1 then (
    cD (s0.2.length+1≤1073741824) <|
    some (s0.2++[x0]))
   else
   some s0.2
  ):Option (List aX)).bind fun t0 =>
  some (.inl ((s0.1+1),t0)))
 else
 some (.inr s0.2)
noncomputable def zI (x1:aX) (r0:List aE) (s1:Int×List aE×List bL) (s0:Int×List aE×List bL):Option ((Int×List aE×List bL)⊕(Int×List aE×List bL)) :=
 if s0.1 < x1.from_ then (
  cD (0≤s0.1) <|
  (r0[s0.1.toNat]?).bind fun x0 =>
  cD (s0.2.1.length+([x0]:List aE).length≤1073741824) <|
  cD (s0.2.2.length+([(⟨s1.1,s0.1⟩:bL)]:List bL).length≤1073741824) <|
  cD (-9223372036854775808≤(s0.1+1)∧(s0.1+1)≤9223372036854775807) <|
  some (.inl ((s0.1+1),(s0.2.1++([x0]:List aE)),(s0.2.2++([(⟨s1.1,s0.1⟩:bL)]:List bL)))))
 else
 some (.inr (s0.1,s0.2.1,s0.2.2))
noncomputable def zJ (eB1:List aX) (l0:List aX) (choice:List Int) (r1:List aE) (s1:Int×List aE×List bL) (R0_:(Int×List aE×List bL)→Option (List aE×List bL)) (s0:Nat×Int×List aE×List bL):Option ((Nat×Int×List aE×List bL)⊕(Int×List aE×List bL)) :=
 if (s0.1:Int) < (eB1.length:Int) then (
  (l0[s0.1]?).bind fun x0 =>
  ((
   (uU choice x0.number).bind fun r2 =>
   ((
    if r2 then (
     ((
      (bG (zI x0 r1 s1) (s0.2.1,s0.2.2.1,s0.2.2.2)).bind fun eA1 =>
      some (eA1.1,eA1.2.1,eA1.2.2)
     ):Option (Int×List aE×List bL)).bind fun t2 =>
     (R0_ (x0.number,t2.2.1,t2.2.2)).bind fun r0 =>
     some (x0.to_,r0.1,r0.2))
    else
    some (s0.2.1,s0.2.2.1,s0.2.2.2)
   ):Option (Int×List aE×List bL)).bind fun t0 =>
   some (t0.1,t0.2.1,t0.2.2)
  ):Option (Int×List aE×List bL)).bind fun t1 =>
  some (.inl ((s0.1+1),t1.1,t1.2.1,t1.2.2)))
 else
 some (.inr (s0.2.1,s0.2.2.1,s0.2.2.2))
noncomputable def zK (r0:List aE) (s1:Int×List aE×List bL) (s0:Int×List aE×List bL):Option ((Int×List aE×List bL)⊕(Int×List aE×List bL)) :=
 if s0.1 < (r0.length:Int) then (
  cD (0≤s0.1) <|
  (r0[s0.1.toNat]?).bind fun x0 =>
  cD (s0.2.1.length+([x0]:List aE).length≤1073741824) <|
  cD (s0.2.2.length+([(⟨s1.1,s0.1⟩:bL)]:List bL).length≤1073741824) <|
  cD (-9223372036854775808≤(s0.1+1)∧(s0.1+1)≤9223372036854775807) <|
  some (.inl ((s0.1+1),(s0.2.1++([x0]:List aE)),(s0.2.2++([(⟨s1.1,s0.1⟩:bL)]:List bL)))))
 else
 some (.inr (s0.1,s0.2.1,s0.2.2))
noncomputable def zL (m_0:cB) (choice:List Int) (R0_:(Int×List aE×List bL)→Option (List aE×List bL)) (s0:Int×List aE×List bL):Option (List aE×List bL) :=
 (CS m_0 s0.1).bind fun r0 =>
 ((
  (bG (zH m_0 s0) (0,([]:List aX))).bind fun eA1 =>
  cD (eA1.Nodup) <|
  (jQ (KM) eA1).bind fun l0 =>
  (bG (zJ eA1 l0 choice r0 s0 R0_) (0,0,s0.2.1,s0.2.2)).bind fun eB1 =>
  some (eB1.1,eB1.2.1,eB1.2.2)
 ):Option (Int×List aE×List bL)).bind fun t0 =>
 ((
  (bG (zK r0 s0) (t0.1,t0.2.1,t0.2.2)).bind fun eC1 =>
  some (eC1.1,eC1.2.1,eC1.2.2)
 ):Option (Int×List aE×List bL)).bind fun t1 =>
 some (t1.2.1,t1.2.2)
noncomputable def nE (m_0:cB) (choice:List Int):Nat→(Int×List aE×List bL)→Option (List aE×List bL)
 | 0,_=>none
 | n_+1,s0=>zL m_0 choice (nE m_0 choice n_) s0
noncomputable def CT (m_0:cB) (choice:List Int):Option (List aE×List bL×Int) :=
 (KK m_0 choice).bind fun r0 =>
 if r0≠0 then (
  some (([]:List aE),([]:List bL),r0))
 else
 (BQ (fun n_=>nE m_0 choice n_ (0,([]:List aE),([]:List bL)))).bind fun r1 =>
 some (r1.1,r1.2,0)
noncomputable def VE (b_0:aF) (l_1:List Int) (__2:aE):Option (aF⊕Int) :=
 (jS b_0.state.moved 8).bind fun r3=>match r3 with
 | .inl y6=>(
  (l_1[0]?).bind fun x8 =>
  (sT b_0.state.choice x8).bind fun r0 =>
  (jS (!r0.2) 6).bind fun r4=>match r4 with
  | .inl y0=>(
   (sU b_0.state.choice).bind fun r1 =>
   cD (0≤r0.1) <|
   cD (r0.1.toNat≤r1.length) <|
   cD (r1.length+([x8]:List Int).length≤1073741824) <|
   (CT b_0.state.motion (r1.take r0.1.toNat++([x8]:List Int)++r1.drop r0.1.toNat)).bind fun r2 =>
   (mJ r2.2.2).bind fun r5=>match r5 with
   | .inl y1=>(
    some (.inl (⟨({b_0.state with choice:=(r1.take r0.1.toNat++([x8]:List Int)++r1.drop r0.1.toNat)}:cV)⟩:aF)))
   | .inr _=>(
    some (.inr r2.2.2)))
  | .inr _=>(
   none))
 | .inr _=>(
  some (.inr 8))
noncomputable def VF (b_0:aF) (l_1:List Int) (__2:aE):Option (aF⊕Int) :=
 ((
  if b_0.state.moved then (
   (jS (!b_0.state.bound) 8).bind fun r1=>match r1 with
   | .inl y1=>(
    some (.inl ()))
   | .inr _=>(
    some (.inr (.inr 8))))
  else
  (jS false 8).bind fun r2=>match r2 with
  | .inl y2=>(
   some (.inl ()))
  | .inr _=>(
   some (.inr (.inr 8)))
 ):Option ((Unit)⊕(aF⊕Int))).bind fun t0=>match t0 with
 | .inr z=>some z
 | .inl t1 =>
 (CT b_0.state.motion b_0.state.choice).bind fun r0 =>
 (mJ r0.2.2).bind fun r3=>match r3 with
 | .inl y3=>(
  (EM r0.1 [32]).bind fun r4 =>
  (RY b_0 l_1 r4).bind fun r5=>match r5 with
  | .inl y0=>(
   some (.inl (⟨({y0.state with motion:=(⟨([]:List aE),([]:List aX)⟩:cB),moved:=false,choice:=([]:List Int)}:cV)⟩:aF)))
  | .inr _=>(
   none))
 | .inr _=>(
  none)
noncomputable def VG  : Option ((List (aE×dR))) :=
 some (put (put (put (put (put (put (put (put (put (put (put (put (put (put (put (put (put ([]:List (aE×dR)) [100,97,121] (⟨1,false,(some 77)⟩:dR)) [115,97,121] (⟨1,true,(some 78)⟩:dR)) [98,105,110,100] (⟨3,false,(some 79)⟩:dR)) [99,104,97,110,103,101] (⟨2,true,(some 80)⟩:dR)) [114,101,109,111,118,101] (⟨2,false,(some 81)⟩:dR)) [97,100,100] (⟨3,true,(some 82)⟩:dR)) [99,105,116,101] (⟨2,false,(some 83)⟩:dR)) [104,105,100,101] (⟨3,false,(some 84)⟩:dR)) [104,111,117,115,101] (⟨1,false,(some 85)⟩:dR)) [100,105,118,105,100,101] (⟨4,false,(some 86)⟩:dR)) [116,101,108,108] (⟨3,false,(some 87)⟩:dR)) [112,97,105,114] (⟨2,false,(some 88)⟩:dR)) [114,101,115,117,108,116] (⟨0,false,(some 89)⟩:dR)) [109,111,118,101] (⟨0,true,(some 90)⟩:dR)) [112,97,112,101,114] (⟨4,true,(some 91)⟩:dR)) [97,100,111,112,116] (⟨1,false,(some 92)⟩:dR)) [111,114,100,101,114] (⟨1,false,(some 93)⟩:dR))
noncomputable def VH (s_0:aE):Option (Int⊕Unit) :=
 (UE s_0).bind fun r1 =>
 ((
  if r1.2 then (
   none)
  else
  (vK r1.1).bind fun r0 =>
  if r0=s_0 then (
   (sR r1.1 (-999999999) 999999999).bind fun r2 =>
   (jS r2 4).bind fun r3=>match r3 with
   | .inl y0=>(
    some (.inl ()))
   | .inr _=>(
    some (.inr (.inr ()))))
  else
  (jS false 4).bind fun r4=>match r4 with
  | .inl y1=>(
   some (.inl ()))
  | .inr _=>(
   some (.inr (.inr ())))
 ):Option ((Unit)⊕(Int⊕Unit))).bind fun t0=>match t0 with
 | .inr z=>some z
 | .inl t1 =>
 some (.inl r1.1)
noncomputable def OW (q:Option Nat) (b_0:aF) (l_1:List Int) (__2:aE):Option (aF⊕Int) :=
 if q=some 77 then UL b_0 l_1 __2
 else if q=some 78 then RY b_0 l_1 __2
 else if q=some 79 then UN b_0 l_1 __2
 else if q=some 80 then UR b_0 l_1 __2
 else if q=some 81 then US b_0 l_1 __2
 else if q=some 82 then UT b_0 l_1 __2
 else if q=some 83 then UU b_0 l_1 __2
 else if q=some 84 then UW b_0 l_1 __2
 else if q=some 85 then UX b_0 l_1 __2
 else if q=some 86 then UY b_0 l_1 __2
 else if q=some 87 then UZ b_0 l_1 __2
 else if q=some 88 then VA b_0 l_1 __2
 else if q=some 89 then VB b_0 l_1 __2
 else if q=some 90 then VC b_0 l_1 __2
 else if q=some 91 then VD b_0 l_1 __2
 else if q=some 92 then VE b_0 l_1 __2
 else if q=some 93 then VF b_0 l_1 __2
 else none
noncomputable def FH (r7:(List (aE×dR))) (r4:aE×aE×Bool) (b_0:aF) (s0:Nat×aE×Bool×List Int):Option ((Nat×aE×Bool×List Int)⊕((aE×Bool×List Int)⊕(aF×Int))) :=
 if (s0.1:Int) < ((iH r7 r4.1).getD (⟨0,false,(none:Option Nat)⟩:dR)).many then (
  (jS s0.2.2.1 4).bind fun r1=>match r1 with
  | .inl y1=>(
   (RT s0.2.1 [32]).bind fun r0 =>
   (VH r0.1).bind fun r2=>match r2 with
   | .inl y0=>(
    cD (s0.2.2.2.length+1≤1073741824) <|
    cD (-9223372036854775808≤((s0.1:Int)+1)∧((s0.1:Int)+1)≤9223372036854775807) <|
    some (.inl ((s0.1+1),r0.2.1,r0.2.2,(s0.2.2.2++[y0]))))
   | .inr _=>(
    some (.inr (.inr (b_0,4)))))
  | .inr _=>(
   none))
 else
 some (.inr (.inl (s0.2.1,s0.2.2.1,s0.2.2.2)))
noncomputable def VI (b_0:aF) (text:aE):Option (aF×Int) :=
 (RT text [32]).bind fun r4 =>
 (VG).bind fun r7 =>
 (jS ((iH r7 r4.1).isSome) 4).bind fun r0=>match r0 with
 | .inl y1=>(
  (bG (FH r7 r4 b_0) (0,r4.2.1,r4.2.2,([]:List Int))).bind fun e99=>match e99 with
  | .inr z=>some z
  | .inl t0 =>
  (jS (t0.2.1==((iH r7 r4.1).getD (⟨0,false,(none:Option Nat)⟩:dR)).text) 4).bind fun r1=>match r1 with
  | .inl y2=>(
   (OW (((iH r7 r4.1).getD (⟨0,false,(none:Option Nat)⟩:dR)).do_) b_0 t0.2.2 t0.1).bind fun r2=>match r2 with
   | .inl y0=>(
    some (y0,0))
   | .inr y0=>(
    some (b_0,y0)))
  | .inr _=>(
   some (b_0,4)))
 | .inr _=>(
  none)
noncomputable def FI (lines:List aE) (s:Nat×aF×List Int):Option ((Nat×aF×List Int)⊕(aF×List Int)) :=
 if (s.1:Int) < (lines.length:Int) then (
  (lines[s.1]?).bind fun x =>
  (VI s.2.1 x).bind fun r =>
  cD (s.2.2.length+1≤1073741824) <|
  some (.inl ((s.1+1),r.1,(s.2.2++[r.2]))))
 else
 some (.inr s.2)
noncomputable def KN (lines:List aE):Option (aF×List Int) :=
 (bG (FI lines) (0,(⟨(⟨0,0,(⟨0,0,0,0,([]:List eA)⟩:cA),false,([]:List aQ),([]:List fQ),([]:List aE),(⟨([]:List aE),([]:List aX)⟩:cB),false,([]:List Int),(⟨0,(⟨([]:List Int),([]:List Int)⟩:bQ),(⟨([]:List Int),([]:List Int)⟩:bQ),([]:List fE),([]:List eF),0,0,0,0⟩:aW),false,([]:List UInt8)⟩:cV)⟩:aF),([]:List Int))).bind fun e =>
 some e
noncomputable def VJ (k_0:Int) (f0_:List aE) (f1_:Int):Option (Bool) :=
 cD (-9223372036854775808≤(f1_+1)∧(f1_+1)≤9223372036854775807) <|
 cD (0≤(f1_+1)) <|
 cD ((f1_+1).toNat≤f0_.length) <|
 (SA (f0_.take ((f1_+1).toNat))).bind fun r0 =>
 cD (-9223372036854775808≤(k_0+1)∧(k_0+1)≤9223372036854775807) <|
 cD (0≤k_0∧k_0≤(k_0+1)∧(k_0+1)≤(r0.length:Int)) <|
 (KN (r0.take k_0.toNat++r0.drop ((k_0+1).toNat))).bind fun r1 =>
 cD (-9223372036854775808≤(f1_ - 1)∧(f1_ - 1)≤9223372036854775807) <|
 cD (0≤(f1_ - 1)) <|
 (r1.2[(f1_ - 1).toNat]?).bind fun x0 =>
 some (decide (x0=0))
noncomputable def FJ (line:Int) (r0:aF×List Int) (lines:List aE) (s0:Nat×List Int):Option ((Nat×List Int)⊕(List Int)) :=
 if (s0.1:Int) < line then (
  cD (0≤line) <|
  (r0.2[line.toNat]?).bind fun x0 =>
  if x0≠0 then (
   (r0.2[s0.1]?).bind fun x1 =>
   if x1=0 then (
    (VJ (s0.1:Int) lines line).bind fun r1 =>
    ((
     if r1 then (
      cD (s0.2.length+1≤1073741824) <|
      some (s0.2++[(s0.1:Int)]))
     else
     some s0.2
    ):Option (List Int)).bind fun t0 =>
    cD (-9223372036854775808≤((s0.1:Int)+1)∧((s0.1:Int)+1)≤9223372036854775807) <|
    some (.inl ((s0.1+1),t0)))
   else
   none)
  else
  none)
 else
 some (.inr s0.2)
noncomputable def SB (lines:List aE) (line:Int):Option (List Int×Int) :=
 (m19 lines).bind fun r7 =>
 if r7≠0 then (
  none)
 else
 (sR line 0 ((lines.length:Int) - 1)).bind fun r0 =>
 if r0 then (
  cD (-9223372036854775808≤(line+1)∧(line+1)≤9223372036854775807) <|
  cD (0≤(line+1)) <|
  cD ((line+1).toNat≤lines.length) <|
  (KN (lines.take ((line+1).toNat))).bind fun r1 =>
  (bG (FJ line r1 lines) (0,([]:List Int))).bind fun eA1 =>
  some (eA1,0))
 else
 some (([]:List Int),2)
noncomputable def m28 (b_0:aF):Option (List aG) :=
 (CJ b_0).bind fun r3 =>
 (OO r3 b_0.state.errata b_0.state.day).bind fun r0 =>
 some r0.1
noncomputable def sW (n_0:Int) (low:Int) (high:Int):Option (Bool) :=
 ((
  if low≤n_0 then (
   some (decide (n_0≤high)))
  else
  some false
 ):Option (Bool)).bind fun t4 =>
 some t4
noncomputable def SC (n_0:Int):Option (Bool) :=
 (sW n_0 0 9999).bind fun r1 =>
 some r1
noncomputable def zM (o_0:dF) (f0_:gC):Option (Bool) :=
 if (0:Int)≤o_0.from_ then (
  if o_0.from_ < o_0.to_ then (
   if o_0.to_≤(f0_.words.length:Int) then (
    (sW o_0.kind 0 7).bind fun r0 =>
    if r0 then (
     (SC o_0.until_).bind fun r1 =>
     some r1)
    else
    none)
   else
   none)
  else
  none)
 else
 none
noncomputable def zN (x_0:dS) (f0_:dS→Option Bool):Option (Bool) :=
 (f0_ x_0).bind fun r7 =>
 some (!r7)
noncomputable def zO (s_0:List dS) (f_1:dS→Option Bool) (s0:Nat):Option ((Nat)⊕(Unit)) :=
 if (s0:Int) < (s_0.length:Int) then (
  (s_0[s0]?).bind fun x0 =>
  (f_1 x0).bind fun r0 =>
  if r0 then (
   none)
  else
  some (.inl (s0+1)))
 else
 some (.inr ())
noncomputable def KO (s_0:List dS) (f_1:dS→Option Bool):Option (Int) :=
 (bG (zO s_0 f_1) 0).bind fun e23 =>
 some (-1)
noncomputable def KP (s_0:List dS) (f_1:dS→Option Bool):Option (Bool) :=
 (KO s_0 f_1).bind fun r1 =>
 some (decide (0≤r1))
noncomputable def CU (l_0:List dS) (right:dS→Option Bool):Option (Bool) :=
 (KP l_0 (fun x0_=>zN x0_ right)).bind fun r5 =>
 some (!r5)
noncomputable def zP (w_0:dS):Option (Bool) :=
 some (decide ((w_0.heads.length:Int)≤5))
noncomputable def zQ (x_0:Int) (f0_:Int→Option Bool):Option (Bool) :=
 (f0_ x_0).bind fun r1 =>
 some (!r1)
noncomputable def KQ (l_0:List UInt8) (right:Int→Option Bool):Option (Bool) :=
 (wY l_0 (fun x0_=>zQ x0_ right)).bind fun r5 =>
 some (!r5)
noncomputable def zR (c_0:Int):Option (Bool) :=
 if (33:Int)≤c_0 then (
  some (decide (c_0≤126)))
 else
 none
noncomputable def FK (l_0:List Int) (most:Int) (s0:Nat):Option ((Nat)⊕(Unit)) :=
 if (s0:Int) < (l_0.length:Int) then (
  (l_0[s0]?).bind fun x0 =>
  (sW x0 0 most).bind fun r0 =>
  if r0 then (
   if 0 < (s0:Int) then (
    none)
   else
   some (.inl (s0+1)))
  else
  none)
 else
 some (.inr ())
noncomputable def SD (l_0:List Int) (most:Int):Option (Bool) :=
 (bG (FK l_0 most) 0).bind fun e22 =>
 some true
noncomputable def zS (w_0:dS):Option (Bool) :=
 (sW (w_0.text.length:Int) 1 20).bind fun r0 =>
 if r0 then (
  cD (w_0.text.length≤1073741824) <|
  (KQ w_0.text (zR)).bind fun r1 =>
  if r1 then (
   (SD w_0.heads 99).bind fun r2 =>
   some r2)
  else
  none)
 else
 none
noncomputable def zT (x_0:dF) (f0_:dF→Option Bool):Option (Bool) :=
 (f0_ x_0).bind fun r4 =>
 some (!r4)
noncomputable def zU (s_0:List dF) (f_1:dF→Option Bool) (s0:Nat):Option ((Nat)⊕(Unit)) :=
 if (s0:Int) < (s_0.length:Int) then (
  (s_0[s0]?).bind fun x0 =>
  (f_1 x0).bind fun r0 =>
  if r0 then (
   none)
  else
  some (.inl (s0+1)))
 else
 some (.inr ())
noncomputable def KR (s_0:List dF) (f_1:dF→Option Bool):Option (Int) :=
 (bG (zU s_0 f_1) 0).bind fun e19 =>
 some (-1)
noncomputable def KS (s_0:List dF) (f_1:dF→Option Bool):Option (Bool) :=
 (KR s_0 f_1).bind fun r1 =>
 some (decide (0≤r1))
noncomputable def KT (l_0:List dF) (right:dF→Option Bool):Option (Bool) :=
 (KS l_0 (fun x0_=>zT x0_ right)).bind fun r5 =>
 some (!r5)
noncomputable def VK (r_0:gC):Option (Int) :=
 if 60 < (r_0.words.length:Int) then (
  none)
 else
 if 12 < (r_0.orders.length:Int) then (
  none)
 else
 (CU r_0.words (zP)).bind fun r0 =>
 if r0 then (
  (CU r_0.words (zS)).bind fun r1 =>
  if r1 then (
   (KT r_0.orders (fun x0_=>zM x0_ r_0)).bind fun r2 =>
   if r2 then (
    (sW r_0.columns 1 20).bind fun r3 =>
    if r3 then (
     some 0)
    else
    none)
   else
   none)
  else
  none)
 else
 none
noncomputable def KU (b_0:dT) (o_1:dF):Option (Bool) :=
 (uU b_0.reader.may o_1.kind).bind fun r9 =>
 some (!r9)
noncomputable def VL (b_0:dT) (o_1:dF):Option (Bool) :=
 if b_0.reader.year < o_1.until_ then (
  (KU b_0 o_1).bind fun r0 =>
  some r0)
 else
 none
noncomputable def FL (x0:dF) (s0:Int×aY):Option ((Int×aY)⊕(aY)) :=
 if s0.1 < x0.to_ then (
  cD (0≤s0.1) <|
  cD (s0.1 < 60) <|
  cD (-9223372036854775808≤(s0.1+1)∧(s0.1+1)≤9223372036854775807) <|
  some (.inl ((s0.1+1),(aY.set s0.2 s0.1.toNat true))))
 else
 some (.inr s0.2)
noncomputable def FM (r_0:gC) (x_1:iY) (s0:Nat×aY):Option ((Nat×aY)⊕(aY)) :=
 if (s0.1:Int) < (r_0.orders.length:Int) then (
  (r_0.orders[s0.1]?).bind fun x0 =>
  (VL (⟨r_0,x_1,s0.2⟩:dT) x0).bind fun r0 =>
  ((
   if r0 then (
    ((
     (bG (FL x0) (x0.from_,s0.2)).bind fun eA1 =>
     some eA1
    ):Option (aY)).bind fun t0 =>
    some t0)
   else
   some s0.2
  ):Option (aY)).bind fun t1 =>
  some (.inl ((s0.1+1),t1)))
 else
 some (.inr s0.2)
noncomputable def VM (r_0:gC) (x_1:iY):Option (dT×Int) :=
 (VK r_0).bind fun r0 =>
 if r0≠0 then (
  none)
 else
 ((
  (SC x_1.year).bind fun r1 =>
  if r1 then (
   (SD x_1.may 7).bind fun r2 =>
   some (!r2))
  else
  some true
 ):Option (Bool)).bind fun t0 =>
 if t0 then (
  some ((⟨(⟨([]:List dS),([]:List dF),0⟩:gC),(⟨0,([]:List Int)⟩:iY),aY.zero⟩:dT),2))
 else
 (bG (FM r_0 x_1) (0,aY.zero)).bind fun eA1 =>
 some ((⟨r_0,x_1,eA1⟩:dT),0)
noncomputable def FN (f0_:dT) (s0:Nat×Nat):Option ((Nat×Nat)⊕(Unit)) :=
 if (s0.2:Int) < (f0_.report.words.length:Int) then (
  none)
 else
 none
noncomputable def m68 (yield:Int→gE→Option Bool) (f0_:dT):Option (Unit) :=
 (bG (FN f0_) (0,0)).bind fun e7=>some e7
noncomputable def FO (r0:dT×Int) (s0:Nat×Nat×List gE):Option ((Nat×Nat×List gE)⊕(List gE)) :=
 if (s0.2.1:Int) < (r0.1.report.words.length:Int) then (
  (r0.1.report.words[s0.2.1]?).bind fun x0 =>
  cD (0≤(s0.1:Int)∧(s0.1:Int)≤9223372036854775807∧0 < r0.1.report.columns) <|
  cD (-9223372036854775808≤(((s0.1:Int)/r0.1.report.columns)+1)∧(((s0.1:Int)/r0.1.report.columns)+1)≤9223372036854775807) <|
  cD ((s0.2.1:Int) < 60) <|
  ((
   if aY.get r0.1.veil s0.2.1 then (
    if 0 < (s0.2.1:Int) then (
     none)
    else
    some ((-1),[]))
   else
   some ((s0.2.1:Int),x0.text)
  ):Option (Int×aE)).bind fun t0 =>
  ((
   cD (s0.2.2.length+1≤1073741824) <|
   some (s0.2.2++[(⟨t0.2,(((s0.1:Int)/r0.1.report.columns)+1)⟩:gE)])
  ):Option (List gE)).bind fun t1 =>
  cD (-9223372036854775808≤((s0.1:Int)+1)∧((s0.1:Int)+1)≤9223372036854775807) <|
  some (.inl ((s0.1+1),(s0.2.1+1),t1)))
 else
 some (.inr s0.2.2)
noncomputable def VN (r_0:gC) (x_1:iY):Option (List gE×Int) :=
 (VM r_0 x_1).bind fun r0 =>
 if r0.2≠0 then (
  some (([]:List gE),r0.2))
 else
 ((
  (bG (FO r0) (0,0,([]:List gE))).bind fun eA1 =>
  some eA1
 ):Option (List gE)).bind fun t0 =>
 some (t0,0)
noncomputable def FP (t0:List aG) (s0:Nat×List dS):Option ((Nat×List dS)⊕(List dS)) :=
 if (s0.1:Int) < (t0.length:Int) then (
  (t0[s0.1]?).bind fun x0 =>
  (vK x0.anchor).bind fun r0 =>
  cD (s0.2.length+([(⟨r0,([]:List Int)⟩:dS)]:List dS).length≤1073741824) <|
  some (.inl ((s0.1+1),(s0.2++([(⟨r0,([]:List Int)⟩:dS)]:List dS)))))
 else
 some (.inr s0.2)
noncomputable def FQ (t0:List aG) (x0:fQ) (s1:Nat×List dF) (s0:Nat):Option ((Nat)⊕((Nat×List dF)⊕(List dF))) :=
 if (s0:Int) < (t0.length:Int) then (
  (t0[s0]?).bind fun x1 =>
  if x1.anchor=x0.anchor then (
   cD (s1.2.length+1≤1073741824) <|
   Option.map (fun z=>.inr z) (
   some (.inl ((s1.1+1),(s1.2++[({x0 with from_:=(s0:Int),to_:=((s0:Int)+1)}:dF)])))))
  else
  none)
 else
 none
noncomputable def FR (r0:aF×List Int) (t0:List aG) (s0:Nat×List dF):Option ((Nat×List dF)⊕(List dF)) :=
 if (s0.1:Int) < (r0.1.state.hides.length:Int) then (
  (r0.1.state.hides[s0.1]?).bind fun x0 =>
  (bG (FQ t0 x0 s0) 0).bind fun eA1=>some eA1)
 else
 some (.inr s0.2)
noncomputable def FS (r0:List gE×Int) (s0:Nat×List aE):Option ((Nat×List aE)⊕(List aE)) :=
 if (s0.1:Int) < (r0.1.length:Int) then (
  (r0.1[s0.1]?).bind fun x0 =>
  ((
   if x0.text=[] then (
    some [42])
   else
   some x0.text
  ):Option (aE)).bind fun t0 =>
  cD (s0.2.length+1≤1073741824) <|
  some (.inl ((s0.1+1),(s0.2++[t0]))))
 else
 some (.inr s0.2)
noncomputable def m15 (lines:List aE) (year:Int) (may:List Int):Option (List aE×Int) :=
 (m19 lines).bind fun r1 =>
 if r1≠0 then (
  none)
 else
 (KN lines).bind fun r0 =>
 ((
  (CJ r0.1).bind fun r3 =>
  (OO r3 r0.1.state.errata r0.1.state.day).bind fun r4 =>
  some r4.1
 ):Option (List aG)).bind fun t0 =>
 (bG (FP t0) (0,([]:List dS))).bind fun eA1 =>
 (bG (FR r0 t0) (0,([]:List dF))).bind fun eB1 =>
 (VN (⟨eA1,eB1,5⟩:gC) (⟨year,may⟩:iY)).bind fun r2 =>
 if r2.2≠0 then (
  some (([]:List aE),r2.2))
 else
 (bG (FS r2) (0,([]:List aE))).bind fun eC1 =>
 some (eC1,0)
noncomputable def FT (r0:List dC) (s0:Nat×List hY):Option ((Nat×List hY)⊕(List hY)) :=
 if (s0.1:Int) < (r0.length:Int) then (
  (r0[s0.1]?).bind fun x0 =>
  cD (s0.2.length+1≤1073741824) <|
  some (.inl ((s0.1+1),(s0.2++[x0.place]))))
 else
 some (.inr s0.2)
noncomputable def VO (v_0:cA) (errata:List aQ):Option (List hY×Int) :=
 (MG v_0 errata).bind fun r7 =>
 if r7≠0 then (
  none)
 else
 (RZ v_0 errata).bind fun r0 =>
 (bG (FT r0) (0,([]:List hY))).bind fun e89 =>
 some (e89,0)
noncomputable def FU (r2:List hY×Int) (lines:List aE) (s0:Nat×Bool×List UInt8):Option ((Nat×Bool×List UInt8)⊕(Bool×List UInt8)) :=
 if (s0.1:Int) < (r2.1.length:Int) then (
  (r2.1[s0.1]?).bind fun x0 =>
  (vK x0.anchor).bind fun r4 =>
  (vK x0.column).bind fun r1 =>
  cD (r1.length+[46].length≤1073741824) <|
  (vK x0.line).bind fun r3 =>
  cD ((r1++[46]).length+r3.length≤1073741824) <|
  (vK x0.lines).bind fun r5 =>
  ((
   (EM ([r4,((r1++[46])++r3),r5]:List aE) [32]).bind fun r0 =>
   cD (r0.length+[10].length≤1073741824) <|
   ((
    cD (s0.2.2.length+(r0++[10]).length≤1073741824) <|
    some ((r0++[10]).length,true,(s0.2.2++(r0++[10])))
   ):Option (Nat×Bool×List UInt8)).bind fun t0 =>
   some (t0.2.1,t0.2.2)
  ):Option (Bool×List UInt8)).bind fun t1 =>
  some (.inl ((s0.1+1),t1.1,t1.2)))
 else
 some (.inr (s0.2.1,s0.2.2))
noncomputable def FV (r1:aF×List Int) (s0:Nat×Bool×List UInt8):Option ((Nat×Bool×List UInt8)⊕(Bool×List UInt8)) :=
 if (s0.1:Int) < (r1.1.state.results.length:Int) then (
  (r1.1.state.results[s0.1]?).bind fun x0 =>
  (([[108,111,115,116],[99,97,114,114,105,101,100],[118,111,105,100]]:List aE)[(x0.toNat:Int).toNat]?).bind fun x1 =>
  ((
   (EM ([x1]:List aE) [32]).bind fun r0 =>
   cD (r0.length+[10].length≤1073741824) <|
   ((
    cD (s0.2.2.length+(r0++[10]).length≤1073741824) <|
    some ((r0++[10]).length,true,(s0.2.2++(r0++[10])))
   ):Option (Nat×Bool×List UInt8)).bind fun t0 =>
   some (t0.2.1,t0.2.2)
  ):Option (Bool×List UInt8)).bind fun t1 =>
  some (.inl ((s0.1+1),t1.1,t1.2)))
 else
 some (.inr (s0.2.1,s0.2.2))
noncomputable def FX (r1:aF×List Int) (s0:Nat×Bool×List UInt8):Option ((Nat×Bool×List UInt8)⊕(Bool×List UInt8)) :=
 if (s0.1:Int) < (r1.1.state.cites.length:Int) then (
  (r1.1.state.cites[s0.1]?).bind fun x0 =>
  ((
   (EM ([x0]:List aE) [32]).bind fun r0 =>
   cD (r0.length+[10].length≤1073741824) <|
   ((
    cD (s0.2.2.length+(r0++[10]).length≤1073741824) <|
    some ((r0++[10]).length,true,(s0.2.2++(r0++[10])))
   ):Option (Nat×Bool×List UInt8)).bind fun t0 =>
   some (t0.2.1,t0.2.2)
  ):Option (Bool×List UInt8)).bind fun t1 =>
  some (.inl ((s0.1+1),t1.1,t1.2)))
 else
 some (.inr (s0.2.1,s0.2.2))
noncomputable def m16 (lines:List aE):Option (aE×Int) :=
 (m19 lines).bind fun r1 =>
 if r1≠0 then (
  none)
 else
 (KN lines).bind fun r0 =>
 (vK r0.1.state.day).bind fun r4 =>
 (vK r0.1.state.house).bind fun r5 =>
 ((
  (EM ([[100,97,121],r4,[104,111,117,115,101],r5]:List aE) [32]).bind fun r2 =>
  cD (r2.length+[10].length≤1073741824) <|
  ((
   cD (([]:List UInt8).length+(r2++[10]).length≤1073741824) <|
   some ((r2++[10]).length,true,(([]:List UInt8)++(r2++[10])))
  ):Option (Nat×Bool×List UInt8)).bind fun t0 =>
  some (t0.2.1,t0.2.2)
 ):Option (Bool×List UInt8)).bind fun t1 =>
 if r0.1.state.bound then (
  (vK r0.1.state.volume.number).bind fun r6 =>
  (vK (r0.1.state.errata.length:Int)).bind fun r7 =>
  ((
   (EM ([[118,111,108,117,109,101],r6,[101,114,114,97,116,97],r7]:List aE) [32]).bind fun r3 =>
   cD (r3.length+[10].length≤1073741824) <|
   ((
    cD (t1.2.length+(r3++[10]).length≤1073741824) <|
    some ((r3++[10]).length,true,(t1.2++(r3++[10])))
   ):Option (Nat×Bool×List UInt8)).bind fun t2 =>
   some (t2.2.1,t2.2.2)
  ):Option (Bool×List UInt8)).bind fun t3 =>
  (VO r0.1.state.volume r0.1.state.errata).bind fun r8 =>
  (bG (FU r8 lines) (0,t3.1,t3.2)).bind fun eA1 =>
  if r0.1.state.moved then (
   none)
  else
  if r0.1.state.open_ then (
   none)
  else
  (bG (FV r0) (0,eA1.1,eA1.2)).bind fun eB1 =>
  (bG (FX r0) (0,eB1.1,eB1.2)).bind fun eC1 =>
  some (eC1.2,0))
 else
 none
noncomputable def FY (a_0:List Int) (b_1:List Int) (s0:Nat):Option ((Nat)⊕(Unit)) :=
 if (s0:Int) < (a_0.length:Int) then (
  (a_0[s0]?).bind fun x0 =>
  (b_1[s0]?).bind fun x1 =>
  if x0≠x1 then (
   none)
  else
  some (.inl (s0+1)))
 else
 some (.inr ())
noncomputable def m17 (a_0:List Int) (b_1:List Int):Option (Bool) :=
 if (a_0.length:Int)≠(b_1.length:Int) then (
  none)
 else
 (bG (FY a_0 b_1) 0).bind fun e31 =>
 some true
noncomputable def FZ (a_0:List aE) (b_1:List aE) (s0:Nat):Option ((Nat)⊕(Unit)) :=
 if (s0:Int) < (a_0.length:Int) then (
  (a_0[s0]?).bind fun x0 =>
  (b_1[s0]?).bind fun x1 =>
  if x0≠x1 then (
   none)
  else
  some (.inl (s0+1)))
 else
 some (.inr ())
noncomputable def MH (a_0:List aE) (b_1:List aE):Option (Bool) :=
 if (a_0.length:Int)≠(b_1.length:Int) then (
  none)
 else
 (bG (FZ a_0 b_1) 0).bind fun e31 =>
 some true
noncomputable def m18 (lines:List aE):Option (cV×List Int×Int) :=
 (m19 lines).bind fun r2 =>
 if r2≠0 then (
  some ((⟨0,0,(⟨0,0,0,0,([]:List eA)⟩:cA),false,([]:List aQ),([]:List fQ),([]:List aE),(⟨([]:List aE),([]:List aX)⟩:cB),false,([]:List Int),(⟨0,(⟨([]:List Int),([]:List Int)⟩:bQ),(⟨([]:List Int),([]:List Int)⟩:bQ),([]:List fE),([]:List eF),0,0,0,0⟩:aW),false,([]:List UInt8)⟩:cV),([]:List Int),r2))
 else
 (KN lines).bind fun r0 =>
 some (r0.1.state,r0.2,0)
noncomputable def GA (l_0:List UInt8) (s0:Nat×Int):Option ((Nat×Int)⊕(Int)) :=
 if (s0.1:Int) < (l_0.length:Int) then (
  (l_0[s0.1]?).bind fun x0 =>
  if (x0.toNat:Int) < 48 then (
   none)
  else
  if 55 < (x0.toNat:Int) then (
   none)
  else
  cD (-9223372036854775808≤(8*s0.2)∧(8*s0.2)≤9223372036854775807) <|
  cD (-9223372036854775808≤((8*s0.2)+(((x0.toNat:Int) - 48)%256))∧((8*s0.2)+(((x0.toNat:Int) - 48)%256))≤9223372036854775807) <|
  some (.inl ((s0.1+1),((8*s0.2)+(((x0.toNat:Int) - 48)%256)))))
 else
 some (.inr s0.2)
noncomputable def VP (l_0:List UInt8):Option (Int) :=
 (bG (GA l_0) (0,0)).bind fun e45 =>
 some e45
noncomputable def GB (turned:Bool) (s0:Int×Int×cX):Option ((Int×Int×cX)⊕(cX)) :=
 if 0≤s0.2.1 then (
  cD (0≤s0.1∧0 < (8:Int)) <|
  ((
   if turned then (
    some (7 - (s0.1%8)))
   else
   some (s0.1%8)
  ):Option (Int)).bind fun t0 =>
  cD (-9223372036854775808≤(48+t0)∧(48+t0)≤9223372036854775807) <|
  cD (0≤(48+t0)∧(48+t0)≤255) <|
  cD (s0.2.1 < 6) <|
  cD (0≤s0.1∧s0.1≤9223372036854775807∧0 < (8:Int)) <|
  cD (-9223372036854775808≤(s0.2.1 - 1)∧(s0.2.1 - 1)≤9223372036854775807) <|
  some (.inl ((s0.1/8),(s0.2.1 - 1),(cX.set s0.2.2 s0.2.1.toNat (48+t0)))))
 else
 some (.inr s0.2.2)
noncomputable def OX (n_0:Int) (many:Int) (turned:Bool):Option (aE) :=
 cD (-9223372036854775808≤(many - 1)∧(many - 1)≤9223372036854775807) <|
 (bG (GB turned) (n_0,(many - 1),cX.zero)).bind fun e46 =>
 cD (∀ v∈cX.vals e46,0≤v∧v≤255) <|
 cD (0≤many) <|
 cD (many.toNat≤6) <|
 some (((cX.vals e46).map AK).take many.toNat)
noncomputable def GC (s_0:aE) (s0:Nat×Int):Option ((Nat×Int)⊕(Int)) :=
 if (s0.1:Int) < (s_0.length:Int) then (
  (s_0[s0.1]?).bind fun x0 =>
  cD (-9223372036854775808≤(29*s0.2)∧(29*s0.2)≤9223372036854775807) <|
  cD (-9223372036854775808≤((29*s0.2)+(x0.toNat:Int))∧((29*s0.2)+(x0.toNat:Int))≤9223372036854775807) <|
  cD (-9223372036854775808≤(((29*s0.2)+(x0.toNat:Int))+3)∧(((29*s0.2)+(x0.toNat:Int))+3)≤9223372036854775807) <|
  cD (0≤(((29*s0.2)+(x0.toNat:Int))+3)∧0 < (262139:Int)) <|
  some (.inl ((s0.1+1),((((29*s0.2)+(x0.toNat:Int))+3)%262139))))
 else
 some (.inr s0.2)
noncomputable def SE (s_0:aE):Option (aE) :=
 cD (s_0.length≤1073741824) <|
 (bG (GC s_0) (0,11)).bind fun e47 =>
 (OX (s_0.length:Int) 4 false).bind fun r0 =>
 cD ([91].length+r0.length≤1073741824) <|
 (OX (s_0.length:Int) 4 true).bind fun r1 =>
 cD (([91]++r0).length+r1.length≤1073741824) <|
 (OX e47 6 false).bind fun r2 =>
 cD ((([91]++r0)++r1).length+r2.length≤1073741824) <|
 cD (((([91]++r0)++r1)++r2).length+[93].length≤1073741824) <|
 cD ((((([91]++r0)++r1)++r2)++[93]).length+s_0.length≤1073741824) <|
 cD (((((([91]++r0)++r1)++r2)++[93])++s_0).length+[10].length≤1073741824) <|
 some (((((([91]++r0)++r1)++r2)++[93])++s_0)++[10])
noncomputable def GD (f0_:List UInt8) (s0:Nat):Option ((Nat)⊕(Unit)) :=
 cD (-9223372036854775808≤((f0_.length:Int) - (s0:Int))∧((f0_.length:Int) - (s0:Int))≤9223372036854775807) <|
 if 17≤((f0_.length:Int) - (s0:Int)) then (
  none)
 else
 none
noncomputable def m39 (yield:Int→aE→Option Bool) (f0_:List UInt8):Option (Unit) :=
 (bG (GD f0_) 0).bind fun e7=>some e7
noncomputable def OY (b_0:List UInt8) (s0:Int×Int×List aE):Option ((Int×Int×List aE)⊕(Int×List aE)) :=
 cD (-9223372036854775808≤((b_0.length:Int) - s0.1)∧((b_0.length:Int) - s0.1)≤9223372036854775807) <|
 if 17≤((b_0.length:Int) - s0.1) then (
  cD (-9223372036854775808≤(s0.1+1)∧(s0.1+1)≤9223372036854775807) <|
  cD (-9223372036854775808≤((s0.1+1)+4)∧((s0.1+1)+4)≤9223372036854775807) <|
  cD (0≤(s0.1+1)) <|
  cD (0≤((s0.1+1)+4)) <|
  cD ((s0.1+1).toNat≤((s0.1+1)+4).toNat∧((s0.1+1)+4).toNat≤b_0.length) <|
  (VP ((b_0.drop ((s0.1+1).toNat)).take (((s0.1+1)+4).toNat - ((s0.1+1).toNat)))).bind fun r0 =>
  (sR r0 0 400).bind fun r1 =>
  if r1 then (
   cD (-9223372036854775808≤(17+r0)∧(17+r0)≤9223372036854775807) <|
   if ((b_0.length:Int) - s0.1) < (17+r0) then (
    none)
   else
   cD (-9223372036854775808≤(s0.1+17)∧(s0.1+17)≤9223372036854775807) <|
   cD (-9223372036854775808≤((s0.1+17)+r0)∧((s0.1+17)+r0)≤9223372036854775807) <|
   cD (-9223372036854775808≤(s0.1+16)∧(s0.1+16)≤9223372036854775807) <|
   cD (-9223372036854775808≤(((s0.1+17)+r0) - 1)∧(((s0.1+17)+r0) - 1)≤9223372036854775807) <|
   cD (0≤(s0.1+16)) <|
   cD (0≤(((s0.1+17)+r0) - 1)) <|
   cD ((s0.1+16).toNat≤(((s0.1+17)+r0) - 1).toNat∧(((s0.1+17)+r0) - 1).toNat≤b_0.length) <|
   ((
    (SE ((b_0.drop ((s0.1+16).toNat)).take ((((s0.1+17)+r0) - 1).toNat - ((s0.1+16).toNat)))).bind fun r2 =>
    cD (0≤s0.1) <|
    cD (0≤((s0.1+17)+r0)) <|
    cD (s0.1.toNat≤((s0.1+17)+r0).toNat∧((s0.1+17)+r0).toNat≤b_0.length) <|
    if r2≠((b_0.drop s0.1.toNat).take (((s0.1+17)+r0).toNat - s0.1.toNat)) then (
     some (true,s0.2.1,s0.2.2))
    else
    ((
     if (s0.2.2.length:Int)=60 then (
      none)
     else
     cD (s0.2.2.length+1≤1073741824) <|
     some (((s0.1+17)+r0),(s0.2.2++[((b_0.drop ((s0.1+16).toNat)).take ((((s0.1+17)+r0) - 1).toNat - ((s0.1+16).toNat)))]))
    ):Option (Int×List aE)).bind fun t1 =>
    some (false,t1.1,t1.2)
   ):Option (Bool×Int×List aE)).bind fun t0 =>
   if t0.1 then (
    some (.inr (t0.2.1,t0.2.2)))
   else
   some (.inl (((s0.1+17)+r0),t0.2.1,t0.2.2)))
  else
  none)
 else
 none
noncomputable def m8 (b_0:List UInt8):Option (List aE×Int) :=
 ((
  (bG (OY b_0) (0,0,([]:List aE))).bind fun eA1=>some eA1
 ):Option (Int×List aE)).bind fun t0 =>
 some (t0.2,t0.1)
noncomputable def GE (lines:List aE) (s0:Nat×List UInt8):Option ((Nat×List UInt8)⊕(List UInt8)) :=
 if (s0.1:Int) < (lines.length:Int) then (
  (lines[s0.1]?).bind fun x0 =>
  (SE x0).bind fun r0 =>
  cD (s0.2.length+r0.length≤1073741824) <|
  some (.inl ((s0.1+1),(s0.2++r0))))
 else
 some (.inr s0.2)
noncomputable def VQ (lines:List aE):Option (List UInt8) :=
 (bG (GE lines) (0,([]:List UInt8))).bind fun e64 =>
 some e64
noncomputable def m6 (lines:List aE):Option (List UInt8×Int) :=
 (m19 lines).bind fun r1 =>
 if r1≠0 then (
  none)
 else
 (VQ lines).bind fun r0 =>
 some (r0,0)
noncomputable def m5  : Option (Bool) :=
 (UJ).bind fun r1 =>
 (m18 r1).bind fun r8 =>
 (m6 ([[97]]:List aE)).bind fun r0 =>
 if r8.2.2=0 then (
  if r0.2=0 then (
   if (r8.2.1.length:Int)=18 then (
    (r8.2.1[11]?).bind fun x0 =>
    if x0=10 then (
     (r8.2.1[17]?).bind fun x1 =>
     if x1=0 then (
      if r8.1.bound then (
       if (r8.1.results.length:Int)=1 then (
        (r8.1.results[0]?).bind fun x2 =>
        if (x2.toNat:Int)=1 then (
         (MH r8.1.cites ([[118,111,108,46,32,51,44,32,99,111,108,46,32,49,44,32,108,46,32,50]]:List aE)).bind fun r2 =>
         if r2 then (
          some (decide (r0.1=[91,48,48,48,49,55,55,55,54,48,48,48,54,52,51,93,97,10])))
         else
         none)
        else
        none)
       else
       none)
      else
      none)
     else
     none)
    else
    none)
   else
   none)
  else
  none)
 else
 none
noncomputable def OZ (r0:cV×List Int×Int) (s0:Nat):Option ((Nat)⊕(Unit)) :=
 if (s0:Int) < 25 then (
  (r0.2.1[(18+(s0:Int)).toNat]?).bind fun x0 =>
  (([8,8,8,0,0,7,6,6,2,7,7,7,1,2,1,2,8,8,4,8,8,2,4,4,4]:List Int)[s0]?).bind fun x1 =>
  if x0≠x1 then (
   none)
  else
  some (.inl (s0+1)))
 else
 some (.inr ())
noncomputable def m4  : Option (Bool) :=
 ((
  some ([[104,111,117,115,101,32,53],[115,97,121,32,49,49,32,84,104,101,32,72,111,117,115,101,32,109,101,116,46],[109,111,118,101,32,116,104,105,115,32,72,111,117,115,101,32,110,111,116,101,115,32,116,104,101,32,114,101,112,111,114,116],[112,97,112,101,114,32,51,32,48,32,50,32,51,32,119,101,108,99,111,109,101,115],[97,100,111,112,116,32,51],[100,105,118,105,100,101,32,48,32,48,32,51,32,50],[116,101,108,108,32,49,32,48,32,48],[116,101,108,108,32,49,32,49,32,48],[116,101,108,108,32,49,32,48,32,49],[116,101,108,108,32,49,32,49,32,49],[116,101,108,108,32,50,32,48,32,52],[114,101,115,117,108,116],[116,101,108,108,32,50,32,49,32,52],[114,101,115,117,108,116],[111,114,100,101,114,32,49,50],[98,105,110,100,32,51,32,52,32,50,48],[104,105,100,101,32,49,49,32,50,32,49,57,57,48],[99,105,116,101,32,49,50,32,48]]:List aE)
 ):Option (List aE)).bind fun t2 =>
 (SB t2 11).bind fun r1 =>
 ((
  some ([[104,111,117,115,101,32,53],[115,97,121,32,49,49,32,84,104,101,32,72,111,117,115,101,32,109,101,116,46],[109,111,118,101,32,116,104,105,115,32,72,111,117,115,101,32,110,111,116,101,115,32,116,104,101,32,114,101,112,111,114,116],[112,97,112,101,114,32,51,32,48,32,50,32,51,32,119,101,108,99,111,109,101,115],[97,100,111,112,116,32,51],[100,105,118,105,100,101,32,48,32,48,32,51,32,50],[116,101,108,108,32,49,32,48,32,48],[116,101,108,108,32,49,32,49,32,48],[116,101,108,108,32,49,32,48,32,49],[116,101,108,108,32,49,32,49,32,49],[116,101,108,108,32,50,32,48,32,52],[114,101,115,117,108,116],[116,101,108,108,32,50,32,49,32,52],[114,101,115,117,108,116],[111,114,100,101,114,32,49,50],[98,105,110,100,32,51,32,52,32,50,48],[104,105,100,101,32,49,49,32,50,32,49,57,57,48],[99,105,116,101,32,49,50,32,48]]:List aE)
 ):Option (List aE)).bind fun t1 =>
 (m15 t1 1980 ([]:List Int)).bind fun r2 =>
 ((
  some ([[104,111,117,115,101,32,53],[115,97,121,32,49,49,32,84,104,101,32,72,111,117,115,101,32,109,101,116,46],[109,111,118,101,32,116,104,105,115,32,72,111,117,115,101,32,110,111,116,101,115,32,116,104,101,32,114,101,112,111,114,116],[112,97,112,101,114,32,51,32,48,32,50,32,51,32,119,101,108,99,111,109,101,115],[97,100,111,112,116,32,51],[100,105,118,105,100,101,32,48,32,48,32,51,32,50],[116,101,108,108,32,49,32,48,32,48],[116,101,108,108,32,49,32,49,32,48],[116,101,108,108,32,49,32,48,32,49],[116,101,108,108,32,49,32,49,32,49],[116,101,108,108,32,50,32,48,32,52],[114,101,115,117,108,116],[116,101,108,108,32,50,32,49,32,52],[114,101,115,117,108,116],[111,114,100,101,114,32,49,50],[98,105,110,100,32,51,32,52,32,50,48],[104,105,100,101,32,49,49,32,50,32,49,57,57,48],[99,105,116,101,32,49,50,32,48]]:List aE)
 ):Option (List aE)).bind fun t3 =>
 (m15 t3 1980 ([2]:List Int)).bind fun r3 =>
 ((
  some ([[104,111,117,115,101,32,53],[115,97,121,32,49,49,32,84,104,101,32,72,111,117,115,101,32,109,101,116,46],[109,111,118,101,32,116,104,105,115,32,72,111,117,115,101,32,110,111,116,101,115,32,116,104,101,32,114,101,112,111,114,116],[112,97,112,101,114,32,51,32,48,32,50,32,51,32,119,101,108,99,111,109,101,115],[97,100,111,112,116,32,51],[100,105,118,105,100,101,32,48,32,48,32,51,32,50],[116,101,108,108,32,49,32,48,32,48],[116,101,108,108,32,49,32,49,32,48],[116,101,108,108,32,49,32,48,32,49],[116,101,108,108,32,49,32,49,32,49],[116,101,108,108,32,50,32,48,32,52],[114,101,115,117,108,116],[116,101,108,108,32,50,32,49,32,52],[114,101,115,117,108,116],[111,114,100,101,114,32,49,50],[98,105,110,100,32,51,32,52,32,50,48],[104,105,100,101,32,49,49,32,50,32,49,57,57,48],[99,105,116,101,32,49,50,32,48]]:List aE)
 ):Option (List aE)).bind fun t4 =>
 (m16 t4).bind fun r4 =>
 if r1.2≠0 then (
  none)
 else
 if r2.2≠0 then (
  none)
 else
 if r3.2≠0 then (
  none)
 else
 if r4.2≠0 then (
  none)
 else
 (m17 r1.1 ([10]:List Int)).bind fun r6 =>
 if r6 then (
  (MH r2.1 ([[42],[49,50]]:List aE)).bind fun r7 =>
  if r7 then (
   (MH r3.1 ([[49,49],[49,50]]:List aE)).bind fun r8 =>
   if r8 then (
    if r4.1≠[100,97,121,32,48,32,104,111,117,115,101,32,53,10,118,111,108,117,109,101,32,51,32,101,114,114,97,116,97,32,48,10,49,49,32,49,46,49,32,49,10,49,50,32,49,46,50,32,50,10,99,97,114,114,105,101,100,10,118,111,108,46,32,51,44,32,99,111,108,46,32,49,44,32,108,46,32,50,10] then (
     none)
    else
    ((
     some ([[104,111,117,115,101,32,53],[115,97,121,32,49,49,32,84,104,101,32,72,111,117,115,101,32,109,101,116,46],[109,111,118,101,32,116,104,105,115,32,72,111,117,115,101,32,110,111,116,101,115,32,116,104,101,32,114,101,112,111,114,116],[112,97,112,101,114,32,51,32,48,32,50,32,51,32,119,101,108,99,111,109,101,115],[97,100,111,112,116,32,51],[100,105,118,105,100,101,32,48,32,48,32,51,32,50],[116,101,108,108,32,49,32,48,32,48],[116,101,108,108,32,49,32,49,32,48],[116,101,108,108,32,49,32,48,32,49],[116,101,108,108,32,49,32,49,32,49],[116,101,108,108,32,50,32,48,32,52],[114,101,115,117,108,116],[116,101,108,108,32,50,32,49,32,52],[114,101,115,117,108,116],[111,114,100,101,114,32,49,50],[98,105,110,100,32,51,32,52,32,50,48],[104,105,100,101,32,49,49,32,50,32,49,57,57,48],[99,105,116,101,32,49,50,32,48]]:List aE)
    ):Option (List aE)).bind fun t0 =>
    cD (t0.length+([[115,97,121,32,49,51,32,120],[98,105,110,100,32,49,32,49,32,49,48],[99,104,97,110,103,101,32,49,32,49,49,32,120],[100,97,121,32,51],[99,104,97,110,103,101,32,49,32,49,49,32,120],[114,101,109,111,118,101,32,50,32,49,51],[97,100,100,32,50,32,49,50,32,49,49,32,121],[114,101,109,111,118,101,32,49,32,49,50],[99,105,116,101,32,49,50,32,51],[99,105,116,101,32,49,51,32,48],[99,105,116,101,32,49,51,32,50],[104,105,100,101,32,49,51,32,48,32,48],[104,105,100,101,32,49,49,32,56,32,48],[104,111,117,115,101,32,52,49],[100,105,118,105,100,101,32,51,32,48,32,48,32,49],[100,105,118,105,100,101,32,50,53,54,32,48,32,48,32,49],[116,101,108,108,32,49,32,48,32,48],[114,101,115,117,108,116],[112,97,112,101,114,32,49,32,48,32,48,32,48],[97,100,111,112,116,32,49],[111,114,100,101,114,32,49,52],[100,97,121,32,50],[100,97,121,32,48,51],[109,111,118,101],[114,101,115,117,108,116,32]]:List aE).length≤1073741824) <|
    (m18 (t0++([[115,97,121,32,49,51,32,120],[98,105,110,100,32,49,32,49,32,49,48],[99,104,97,110,103,101,32,49,32,49,49,32,120],[100,97,121,32,51],[99,104,97,110,103,101,32,49,32,49,49,32,120],[114,101,109,111,118,101,32,50,32,49,51],[97,100,100,32,50,32,49,50,32,49,49,32,121],[114,101,109,111,118,101,32,49,32,49,50],[99,105,116,101,32,49,50,32,51],[99,105,116,101,32,49,51,32,48],[99,105,116,101,32,49,51,32,50],[104,105,100,101,32,49,51,32,48,32,48],[104,105,100,101,32,49,49,32,56,32,48],[104,111,117,115,101,32,52,49],[100,105,118,105,100,101,32,51,32,48,32,48,32,49],[100,105,118,105,100,101,32,50,53,54,32,48,32,48,32,49],[116,101,108,108,32,49,32,48,32,48],[114,101,115,117,108,116],[112,97,112,101,114,32,49,32,48,32,48,32,48],[97,100,111,112,116,32,49],[111,114,100,101,114,32,49,52],[100,97,121,32,50],[100,97,121,32,48,51],[109,111,118,101],[114,101,115,117,108,116,32]]:List aE))).bind fun r0 =>
    if r0.2.2≠0 then (
     none)
    else
    if (r0.2.1.length:Int)≠43 then (
     none)
    else
    (bG (OZ r0) 0).bind fun eA1 =>
    cD (61≤1073741824) <|
    (m18 (List.replicate 61 ([]:aE))).bind fun r9 =>
    ((
     some ([[104,111,117,115,101,32,53],[115,97,121,32,49,49,32,84,104,101,32,72,111,117,115,101,32,109,101,116,46],[109,111,118,101,32,116,104,105,115,32,72,111,117,115,101,32,110,111,116,101,115,32,116,104,101,32,114,101,112,111,114,116],[112,97,112,101,114,32,51,32,48,32,50,32,51,32,119,101,108,99,111,109,101,115],[97,100,111,112,116,32,51],[100,105,118,105,100,101,32,48,32,48,32,51,32,50],[116,101,108,108,32,49,32,48,32,48],[116,101,108,108,32,49,32,49,32,48],[116,101,108,108,32,49,32,48,32,49],[116,101,108,108,32,49,32,49,32,49],[116,101,108,108,32,50,32,48,32,52],[114,101,115,117,108,116],[116,101,108,108,32,50,32,49,32,52],[114,101,115,117,108,116],[111,114,100,101,114,32,49,50],[98,105,110,100,32,51,32,52,32,50,48],[104,105,100,101,32,49,49,32,50,32,49,57,57,48],[99,105,116,101,32,49,50,32,48]]:List aE)
    ):Option (List aE)).bind fun t5 =>
    (SB t5 18).bind fun rA1 =>
    ((
     some ([[104,111,117,115,101,32,53],[115,97,121,32,49,49,32,84,104,101,32,72,111,117,115,101,32,109,101,116,46],[109,111,118,101,32,116,104,105,115,32,72,111,117,115,101,32,110,111,116,101,115,32,116,104,101,32,114,101,112,111,114,116],[112,97,112,101,114,32,51,32,48,32,50,32,51,32,119,101,108,99,111,109,101,115],[97,100,111,112,116,32,51],[100,105,118,105,100,101,32,48,32,48,32,51,32,50],[116,101,108,108,32,49,32,48,32,48],[116,101,108,108,32,49,32,49,32,48],[116,101,108,108,32,49,32,48,32,49],[116,101,108,108,32,49,32,49,32,49],[116,101,108,108,32,50,32,48,32,52],[114,101,115,117,108,116],[116,101,108,108,32,50,32,49,32,52],[114,101,115,117,108,116],[111,114,100,101,114,32,49,50],[98,105,110,100,32,51,32,52,32,50,48],[104,105,100,101,32,49,49,32,50,32,49,57,57,48],[99,105,116,101,32,49,50,32,48]]:List aE)
    ):Option (List aE)).bind fun t6 =>
    (m15 t6 (-1) ([]:List Int)).bind fun rB1 =>
    (m8 ([(91:UInt8),(48:UInt8),(48:UInt8),(48:UInt8),(49:UInt8),(55:UInt8),(55:UInt8),(55:UInt8),(54:UInt8),(48:UInt8),(48:UInt8),(48:UInt8),(54:UInt8),(52:UInt8),(51:UInt8),(93:UInt8),(97:UInt8),(10:UInt8),(91:UInt8),(48:UInt8),(48:UInt8),(48:UInt8),(49:UInt8),(55:UInt8),(55:UInt8),(55:UInt8),(54:UInt8),(48:UInt8),(48:UInt8),(48:UInt8),(54:UInt8),(52:UInt8),(51:UInt8),(93:UInt8),(98:UInt8),(10:UInt8)]:List UInt8)).bind fun r5 =>
    if r9.2.2=3 then (
     if rA1.2=2 then (
      if rB1.2=2 then (
       (MH r5.1 ([[97]]:List aE)).bind fun rC1 =>
       if rC1 then (
        if r5.2=18 then (
         (m5).bind fun rD1 =>
         some rD1)
        else
        none)
       else
       none)
      else
      none)
     else
     none)
    else
    none)
   else
   none)
  else
  none)
 else
 none
end T12
namespace T12
open Go.Proofs
abbrev VR:=@Tryz.call103
abbrev zV:=@Tryz.call104
abbrev PA:=@Tryz.call105
abbrev VS:=@Tryz.call106
abbrev VT:=@Tryz.call107
abbrev VU:=@Tryz.call108
abbrev VV:=@Tryz.call109
abbrev VW:=@Tryz.call111
abbrev VX:=@Tryz.call112
abbrev VY:=@Tryz.call113
abbrev KV:=@Tryz.call114
abbrev KW:=@Tryz.call115
abbrev VZ:=@Tryz.call117
abbrev WA:=@Tryz.call118
abbrev kU:=@Tryz.call119
abbrev SF:=@Tryz.call12
abbrev CV:=@Tryz.call120
abbrev WB:=@Tryz.call121
abbrev WC:=@Tryz.call122
abbrev PB:=@Tryz.call123
abbrev WD:=@Tryz.call124
abbrev PC:=@Tryz.call125
abbrev zW:=@Tryz.call126
abbrev zX:=@Tryz.call127
abbrev zY:=@Tryz.call128
abbrev C13:=@Tryz.call13
abbrev WE:=@Tryz.call130
abbrev WF:=@Tryz.call131
abbrev PD:=@Tryz.call132
abbrev KX:=@Tryz.call133
abbrev WG:=@Tryz.call134
abbrev PE:=@Tryz.call135
abbrev PF:=@Tryz.call138
abbrev CW:=@Tryz.call139
abbrev GF:=@Tryz.call14
abbrev KY:=@Tryz.call140
abbrev KZ:=@Tryz.call141
abbrev WH:=@Tryz.call142
abbrev WI:=@Tryz.call147
abbrev WJ:=@Tryz.call15
abbrev WK:=@Tryz.call151
abbrev WL:=@Tryz.call152
abbrev WM:=@Tryz.call153
abbrev WN:=@Tryz.call154
abbrev WO:=@Tryz.call155
abbrev WP:=@Tryz.call156
abbrev CX:=@Tryz.call157
abbrev WQ:=@Tryz.call158
abbrev WR:=@Tryz.call159
abbrev C16:=@Tryz.call16
abbrev WS:=@Tryz.call160
abbrev WT:=@Tryz.call161
abbrev WU:=@Tryz.call162
abbrev WV:=@Tryz.call167
abbrev WW:=@Tryz.call168
abbrev WX:=@Tryz.call169
abbrev C17:=@Tryz.call17
abbrev WY:=@Tryz.call170
abbrev WZ:=@Tryz.call171
abbrev XA:=@Tryz.call172
abbrev XB:=@Tryz.call176
abbrev XC:=@Tryz.call177
abbrev XD:=@Tryz.call178
abbrev XE:=@Tryz.call179
abbrev XF:=@Tryz.call18
abbrev XG:=@Tryz.call180
abbrev XH:=@Tryz.call181
abbrev XI:=@Tryz.call182
abbrev XJ:=@Tryz.call183
abbrev XK:=@Tryz.call184
abbrev XL:=@Tryz.call186
abbrev XM:=@Tryz.call187
abbrev XN:=@Tryz.call188
abbrev PG:=@Tryz.call189
abbrev PH:=@Tryz.call19
abbrev PI:=@Tryz.call190
abbrev PJ:=@Tryz.call191
abbrev XO:=@Tryz.call192
abbrev XP:=@Tryz.call199
abbrev C20:=@Tryz.call20
abbrev XQ:=@Tryz.call200
abbrev PK:=@Tryz.call201
abbrev XR:=@Tryz.call206
abbrev LA:=@Tryz.call207
abbrev XS:=@Tryz.call208
abbrev XT:=@Tryz.call209
abbrev C21:=@Tryz.call21
abbrev XU:=@Tryz.call210
abbrev XV:=@Tryz.call211
abbrev XW:=@Tryz.call212
abbrev XX:=@Tryz.call213
abbrev PL:=@Tryz.call216
abbrev LB:=@Tryz.call217
abbrev XY:=@Tryz.call219
abbrev XZ:=@Tryz.call220
abbrev YA:=@Tryz.call221
abbrev PM:=@Tryz.call222
abbrev PN:=@Tryz.call223
abbrev YB:=@Tryz.call224
abbrev YC:=@Tryz.call225
abbrev YD:=@Tryz.call226
abbrev YE:=@Tryz.call227
abbrev zZ:=@Tryz.call228
abbrev YF:=@Tryz.call229
abbrev uV:=@Tryz.call23
abbrev YG:=@Tryz.call230
abbrev PO:=@Tryz.call231
abbrev PP:=@Tryz.call232
abbrev YH:=@Tryz.call233
abbrev YI:=@Tryz.call234
abbrev YJ:=@Tryz.call235
abbrev PQ:=@Tryz.call236
abbrev YK:=@Tryz.call237
abbrev uW:=@Tryz.call238
abbrev YM:=@Tryz.call239
abbrev PR:=@Tryz.call24
abbrev YN:=@Tryz.call240
abbrev YO:=@Tryz.call241
abbrev YP:=@Tryz.call242
abbrev YQ:=@Tryz.call243
abbrev YR:=@Tryz.call244
abbrev YS:=@Tryz.call245
abbrev YT:=@Tryz.call246
abbrev YU:=@Tryz.call247
abbrev YV:=@Tryz.call248
abbrev C25:=@Tryz.call25
abbrev C26:=@Tryz.call26
abbrev YW:=@Tryz.call262
abbrev YX:=@Tryz.call263
abbrev CY:=@Tryz.call264
abbrev PS:=@Tryz.call265
abbrev PT:=@Tryz.call266
abbrev YY:=@Tryz.call267
abbrev YZ:=@Tryz.call269
abbrev C27:=@Tryz.call27
abbrev ZA:=@Tryz.call270
abbrev ZB:=@Tryz.call271
abbrev ZC:=@Tryz.call272
abbrev ZD:=@Tryz.call275
abbrev C28:=@Tryz.call28
abbrev ZE:=@Tryz.call281
abbrev ZF:=@Tryz.call284
abbrev ZG:=@Tryz.call285
abbrev ZH:=@Tryz.call286
abbrev ZI:=@Tryz.call287
abbrev ZJ:=@Tryz.call288
abbrev ZK:=@Tryz.call289
abbrev AN:=@Tryz.call29
abbrev ZL:=@Tryz.call299
abbrev C30:=@Tryz.call30
abbrev ZM:=@Tryz.call300
abbrev ZN:=@Tryz.call301
abbrev ZO:=@Tryz.call302
abbrev ZP:=@Tryz.call303
abbrev ZQ:=@Tryz.call304
abbrev ZR:=@Tryz.call305
abbrev ZS:=@Tryz.call306
abbrev PU:=@Tryz.call31
abbrev ZT:=@Tryz.call310
abbrev ZU:=@Tryz.call311
abbrev ZV:=@Tryz.call312
abbrev PV:=@Tryz.call32
abbrev ZW:=@Tryz.call322
abbrev ZX:=@Tryz.call323
abbrev ZY:=@Tryz.call324
abbrev ZZ:=@Tryz.call325
abbrev aAa:=@Tryz.call326
abbrev PW:=@Tryz.call327
abbrev MI:=@Tryz.call33
abbrev aAb:=@Tryz.call332
abbrev aAc:=@Tryz.call333
abbrev C34:=@Tryz.call34
abbrev C35:=@Tryz.call35
abbrev C36:=@Tryz.call36
abbrev C37:=@Tryz.call37
abbrev C38:=@Tryz.call38
abbrev C39:=@Tryz.call39
abbrev C40:=@Tryz.call40
abbrev C42:=@Tryz.call42
abbrev C43:=@Tryz.call43
abbrev C44:=@Tryz.call44
abbrev C46:=@Tryz.call46
abbrev C47:=@Tryz.call47
abbrev PX:=@Tryz.call48
abbrev C5:=@Tryz.call5
abbrev SG:=@Tryz.call50
abbrev C51:=@Tryz.call51
abbrev C52:=@Tryz.call52
abbrev C53:=@Tryz.call53
abbrev C55:=@Tryz.call55
abbrev C56:=@Tryz.call56
abbrev gP:=@Tryz.call57
abbrev C58:=@Tryz.call58
abbrev MJ:=@Tryz.call59
abbrev C6:=@Tryz.call6
abbrev C60:=@Tryz.call60
abbrev C61:=@Tryz.call61
abbrev C63:=@Tryz.call63
abbrev C64:=@Tryz.call64
abbrev C65:=@Tryz.call65
abbrev C66:=@Tryz.call66
abbrev C67:=@Tryz.call67
abbrev C68:=@Tryz.call68
abbrev C71:=@Tryz.call71
abbrev C72:=@Tryz.call72
abbrev C73:=@Tryz.call73
abbrev SH:=@Tryz.call74
abbrev C75:=@Tryz.call75
abbrev C77:=@Tryz.call77
abbrev C78:=@Tryz.call78
abbrev C79:=@Tryz.call79
abbrev C8:=@Tryz.call8
abbrev C80:=@Tryz.call80
abbrev C81:=@Tryz.call81
abbrev C82:=@Tryz.call82
abbrev C83:=@Tryz.call83
abbrev C84:=@Tryz.call84
abbrev C85:=@Tryz.call85
abbrev C86:=@Tryz.call86
abbrev C87:=@Tryz.call87
abbrev C88:=@Tryz.call88
abbrev C89:=@Tryz.call89
abbrev C90:=@Tryz.call90
abbrev C91:=@Tryz.call91
abbrev C92:=@Tryz.call92
abbrev C93:=@Tryz.call93
abbrev C94:=@Tryz.call94
abbrev LC:=@Tryz.call95
abbrev C96:=@Tryz.call96
abbrev C97:=@Tryz.call97
abbrev C98:=@Tryz.call98
abbrev PY:=@Tryz.isAgg112
abbrev aAi:=@Tryz.isAgg115
abbrev uX:=@Tryz.isAgg126
abbrev CZ:=@Tryz.isAgg132
abbrev PZ:=@Tryz.isAgg137
abbrev aAj:=@Tryz.isAgg144
abbrev rQ:=@Tryz.isAgg152
abbrev AA:=@Tryz.isAgg155
abbrev uY:=@Tryz.isAgg157
abbrev AB:=@Tryz.isAgg159
abbrev aAk:=@Tryz.isAgg164
abbrev oQ:=@Tryz.isAgg172
abbrev aAl:=@Tryz.isAgg173
abbrev LD:=@Tryz.isAgg174
abbrev LE:=@Tryz.isAgg177
abbrev aAm:=@Tryz.isAgg185
abbrev aAn:=@Tryz.isAgg197
abbrev aAo:=@Tryz.isAgg219
abbrev mU:=@Tryz.isAgg22
abbrev oR:=@Tryz.isAgg226
abbrev AC:=@Tryz.isAgg227
abbrev oK:=@Tryz.isAgg23
abbrev LF:=@Tryz.isAgg244
abbrev aAp:=@Tryz.isAgg246
abbrev uZ:=@Tryz.isAgg25
abbrev oC:=@Tryz.isAgg260
abbrev LG:=@Tryz.isAgg267
abbrev LH:=@Tryz.isAgg270
abbrev sX:=@Tryz.isAgg279
abbrev sY:=@Tryz.isAgg281
abbrev G3:=@Tryz.isAgg3
abbrev aAq:=@Tryz.isAgg311
abbrev QA:=@Tryz.isAgg312
abbrev aAr:=@Tryz.isAgg313
abbrev aAs:=@Tryz.isAgg320
abbrev aAt:=@Tryz.isAgg327
abbrev aAu:=@Tryz.isAgg351
abbrev pN:=@Tryz.isAgg36
abbrev aAv:=@Tryz.isAgg377
abbrev G4:=@Tryz.isAgg4
abbrev LI:=@Tryz.isAgg45
abbrev lW:=@Tryz.isAgg47
abbrev AO:=@Tryz.isAgg48
abbrev G49:=@Tryz.isAgg49
abbrev G5:=@Tryz.isAgg5
abbrev vL:=@Tryz.isAgg50
abbrev mQ:=@Tryz.isAgg52
abbrev G53:=@Tryz.isAgg53
abbrev G54:=@Tryz.isAgg54
abbrev SI:=@Tryz.isAgg55
abbrev sZ:=@Tryz.isAgg57
abbrev G59:=@Tryz.isAgg59
abbrev G74:=@Tryz.isAgg74
abbrev G75:=@Tryz.isAgg75
abbrev LJ:=@Tryz.isAgg77
abbrev SJ:=@Tryz.isAgg78
abbrev SK:=@Tryz.isAgg80
abbrev vA:=@Tryz.isAgg82
abbrev G85:=@Tryz.isAgg85
abbrev G89:=@Tryz.isAgg89
abbrev G9:=@Tryz.isAgg9
abbrev MK:=@Tryz.isAgg91
abbrev G92:=@Tryz.isAgg92
abbrev G96:=@Tryz.isAgg96
abbrev G98:=@Tryz.isAgg98
abbrev rR:=@Tryz.sizeOf112
abbrev QB:=@Tryz.sizeOf124
abbrev oS:=@Tryz.sizeOf126
abbrev QC:=@Tryz.sizeOf132
abbrev vB:=@Tryz.sizeOf137
abbrev aA3:=@Tryz.sizeOf144
abbrev aA4:=@Tryz.sizeOf146
abbrev oT:=@Tryz.sizeOf152
abbrev aA5:=@Tryz.sizeOf155
abbrev vC:=@Tryz.sizeOf157
abbrev kV:=@Tryz.sizeOf159
abbrev jN:=@Tryz.sizeOf172
abbrev QD:=@Tryz.sizeOf174
abbrev mK:=@Tryz.sizeOf177
abbrev aA6:=@Tryz.sizeOf185
abbrev aA7:=@Tryz.sizeOf187
abbrev aA8:=@Tryz.sizeOf219
abbrev rS:=@Tryz.sizeOf22
abbrev jH:=@Tryz.sizeOf226
abbrev DA:=@Tryz.sizeOf227
abbrev mL:=@Tryz.sizeOf23
abbrev AP:=@Tryz.sizeOf25
abbrev aA9:=@Tryz.sizeOf257
abbrev DB:=@Tryz.sizeOf258
abbrev jT:=@Tryz.sizeOf260
abbrev DD:=@Tryz.sizeOf267
abbrev DE:=@Tryz.sizeOf270
abbrev tA:=@Tryz.sizeOf279
abbrev iZ:=@Tryz.sizeOf281
abbrev Z3:=@Tryz.sizeOf3
abbrev aBa:=@Tryz.sizeOf312
abbrev aBb:=@Tryz.sizeOf313
abbrev aBc:=@Tryz.sizeOf315
abbrev aBd:=@Tryz.sizeOf320
abbrev aBe:=@Tryz.sizeOf328
abbrev aBf:=@Tryz.sizeOf355
abbrev nF:=@Tryz.sizeOf36
abbrev Z4:=@Tryz.sizeOf4
abbrev DG:=@Tryz.sizeOf45
abbrev iN:=@Tryz.sizeOf47
abbrev DH:=@Tryz.sizeOf48
abbrev QE:=@Tryz.sizeOf49
abbrev Z5:=@Tryz.sizeOf5
abbrev tZ:=@Tryz.sizeOf50
abbrev jU:=@Tryz.sizeOf52
abbrev AQ:=@Tryz.sizeOf53
abbrev Z54:=@Tryz.sizeOf54
abbrev SL:=@Tryz.sizeOf55
abbrev kW:=@Tryz.sizeOf57
abbrev dV:=@Tryz.sizeOf59
abbrev QF:=@Tryz.sizeOf75
abbrev DI:=@Tryz.sizeOf77
abbrev ML:=@Tryz.sizeOf78
abbrev GG:=@Tryz.sizeOf80
abbrev kQ:=@Tryz.sizeOf82
abbrev MM:=@Tryz.sizeOf85
abbrev SM:=@Tryz.sizeOf89
abbrev Z9:=@Tryz.sizeOf9
abbrev DJ:=@Tryz.sizeOf91
abbrev Z92:=@Tryz.sizeOf92
abbrev SN:=@Tryz.sizeOf96
abbrev LK:=@Tryz.sizeOf98
abbrev oU:=@Tryz.underlying101
abbrev aBh:=@Tryz.underlying103
abbrev QG:=@Tryz.underlying108
abbrev tB:=@Tryz.underlying112
abbrev QH:=@Tryz.underlying124
abbrev tC:=@Tryz.underlying126
abbrev DK:=@Tryz.underlying134
abbrev DL:=@Tryz.underlying137
abbrev aBi:=@Tryz.underlying141
abbrev LL:=@Tryz.underlying146
abbrev jV:=@Tryz.underlying148
abbrev oD:=@Tryz.underlying152
abbrev qE:=@Tryz.underlying154
abbrev oV:=@Tryz.underlying157
abbrev oE:=@Tryz.underlying159
abbrev gK:=@Tryz.underlying172
abbrev qF:=@Tryz.underlying174
abbrev rT:=@Tryz.underlying177
abbrev QI:=@Tryz.underlying178
abbrev aBj:=@Tryz.underlying187
abbrev aBk:=@Tryz.underlying188
abbrev aBl:=@Tryz.underlying191
abbrev mR:=@Tryz.underlying22
abbrev gL:=@Tryz.underlying226
abbrev iL:=@Tryz.underlying23
abbrev LM:=@Tryz.underlying241
abbrev aBm:=@Tryz.underlying257
abbrev DM:=@Tryz.underlying258
abbrev lX:=@Tryz.underlying260
abbrev QJ:=@Tryz.underlying267
abbrev mV:=@Tryz.underlying270
abbrev rU:=@Tryz.underlying277
abbrev tF:=@Tryz.underlying281
abbrev U3:=@Tryz.underlying3
abbrev aBn:=@Tryz.underlying315
abbrev QK:=@Tryz.underlying316
abbrev aBo:=@Tryz.underlying320
abbrev tG:=@Tryz.underlying328
abbrev QL:=@Tryz.underlying350
abbrev eM:=@Tryz.underlying36
abbrev U4:=@Tryz.underlying4
abbrev vD:=@Tryz.underlying45
abbrev oF:=@Tryz.underlying47
abbrev vM:=@Tryz.underlying48
abbrev SO:=@Tryz.underlying49
abbrev U5:=@Tryz.underlying5
abbrev uA:=@Tryz.underlying50
abbrev rY:=@Tryz.underlying52
abbrev GH:=@Tryz.underlying53
abbrev SP:=@Tryz.underlying54
abbrev SQ:=@Tryz.underlying55
abbrev lA:=@Tryz.underlying57
abbrev eB:=@Tryz.underlying59
abbrev AD:=@Tryz.underlying60
abbrev rZ:=@Tryz.underlying75
abbrev LN:=@Tryz.underlying77
abbrev QM:=@Tryz.underlying78
abbrev tH:=@Tryz.underlying80
abbrev uB:=@Tryz.underlying82
abbrev QN:=@Tryz.underlying85
abbrev eD:=@Tryz.underlying87
abbrev U89:=@Tryz.underlying89
abbrev U9:=@Tryz.underlying9
abbrev AR:=@Tryz.underlying91
abbrev U92:=@Tryz.underlying92
abbrev SR:=@Tryz.underlying96
abbrev SS:=@Tryz.underlying98
end T12
