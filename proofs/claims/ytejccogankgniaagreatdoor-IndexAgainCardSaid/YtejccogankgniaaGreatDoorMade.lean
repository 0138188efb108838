/-
  The types and models of the functions of an index,printed by a program of ours; contracts of library functions.
-/
import Derived.Shelf.Strings.OnBuilder
import Derived.Shelf.Strings.Trim
import Derived.Shelf.Strings.Split
import Derived.Shelf.Strings.Prefix
import Derived.Shelf.Strings.Runes
import Derived.Shelf.Strings.Cut
import Derived.Shelf.Strings.Search3
import Derived.Shelf.Small.Strs
import Derived.Shelf.Strconv.AtoiAll
import Derived.Shelf.Strconv.Itoa3
import Derived.Shelf.Slices.CompactS
import Derived.Shelf.SlicesE.DeleteFunc
import Derived.Shelf.LaysM
import Derived.Shelf.LaysC
import Derived.Test.YtejccogankgniaaGreatDoorKitSix
import Derived.Test.YtejccogankgniaaGreatDoorProg
import Derived.Tactics
import Derived.Tactics2
import Derived.Shelf.SlSortCmp.NoneTotal
import Derived.Shelf.Strings.BuilderF
import Derived.Recover
set_option linter.all false
set_option maxHeartbeats 4000000
namespace Go.Proofs
open Go.Shelf Go.RowKit
def Tryz.laysC172_ren : Go.Shelf.Ren:=⟨fun | 172=>189 | 244=>214 | 245=>215 | 247=>225 | 279=>226 | 280=>227 | 281=>228 | 282=>229 | 287=>235 | 316=>236 | 171=>179 | 205=>237 | 321=>242 | 322=>243 | 243=>209 | 246=>223 | 283=>231 | 284=>232 | 285=>233 | 286=>234 | 129=>138 | 317=>238 | 318=>239 | 319=>240 | 320=>241 | 337=>244 | 338=>245 | n=>n,fun | 9=>9 | 3=>3 | 75=>149 | 76=>150 | 4=>4 | 5=>5 | 167=>239 | 37=>37 | 0=>0 | 85=>240 | 2=>2 | 168=>242 | 53=>178 | 175=>249 | 46=>143 | 210=>252 | 127=>180 | 145=>261 | 143=>259 | 21=>21 | 171=>245 | 173=>247 | 212=>255 | 51=>176 | 20=>20 | 213=>256 | 232=>262 | 233=>263 | 80=>82 | n=>n,fun | 15=>3 | 16=>4 | 17=>5 | 18=>6 | 19=>7 | n=>n⟩
theorem Tryz.laysC172 : Go.Proofs.LaysC.n172 Tryz.prog Tryz.laysC172_ren:={
 mixed:=by kernel_rfl
 f129:=Tryz.func138.trans (congrArg some (by kernel_rfl))
 f171:=Tryz.func179.trans (congrArg some (by kernel_rfl))
 f172:=Tryz.func189.trans (congrArg some (by kernel_rfl))
 f205:=Tryz.func237.trans (congrArg some (by kernel_rfl))
 f243:=Tryz.func209.trans (congrArg some (by kernel_rfl))
 f244:=Tryz.func214.trans (congrArg some (by kernel_rfl))
 f245:=Tryz.func215.trans (congrArg some (by kernel_rfl))
 f246:=Tryz.func223.trans (congrArg some (by kernel_rfl))
 f247:=Tryz.func225.trans (congrArg some (by kernel_rfl))
 f279:=Tryz.func226.trans (congrArg some (by kernel_rfl))
 f280:=Tryz.func227.trans (congrArg some (by kernel_rfl))
 f281:=Tryz.func228.trans (congrArg some (by kernel_rfl))
 f282:=Tryz.func229.trans (congrArg some (by kernel_rfl))
 f283:=Tryz.func231.trans (congrArg some (by kernel_rfl))
 f284:=Tryz.func232.trans (congrArg some (by kernel_rfl))
 f285:=Tryz.func233.trans (congrArg some (by kernel_rfl))
 f286:=Tryz.func234.trans (congrArg some (by kernel_rfl))
 f287:=Tryz.func235.trans (congrArg some (by kernel_rfl))
 f316:=Tryz.func236.trans (congrArg some (by kernel_rfl))
 f317:=Tryz.func238.trans (congrArg some (by kernel_rfl))
 f318:=Tryz.func239.trans (congrArg some (by kernel_rfl))
 f319:=Tryz.func240.trans (congrArg some (by kernel_rfl))
 f320:=Tryz.func241.trans (congrArg some (by kernel_rfl))
 f321:=Tryz.func242.trans (congrArg some (by kernel_rfl))
 f322:=Tryz.func243.trans (congrArg some (by kernel_rfl))
 f337:=Tryz.func244.trans (congrArg some (by kernel_rfl))
 f338:=Tryz.func245.trans (congrArg some (by kernel_rfl))
 t0:=Tryz.underlying0
 a0:=Tryz.isAgg0
 z0:=Tryz.sizeOf0
 v0:=Tryz.zeroValue0
 t2:=Tryz.underlying2
 a2:=Tryz.isAgg2
 z2:=Tryz.sizeOf2
 v2:=Tryz.zeroValue2
 t3:=Tryz.underlying3
 a3:=Tryz.isAgg3
 z3:=Tryz.sizeOf3
 v3:=Tryz.zeroValue3
 t4:=Tryz.underlying4
 a4:=Tryz.isAgg4
 z4:=Tryz.sizeOf4
 v4:=Tryz.zeroValue4
 t5:=Tryz.underlying5
 a5:=Tryz.isAgg5
 z5:=Tryz.sizeOf5
 v5:=Tryz.zeroValue5
 t9:=Tryz.underlying9
 a9:=Tryz.isAgg9
 z9:=Tryz.sizeOf9
 v9:=Tryz.zeroValue9
 t20:=Tryz.underlying20
 a20:=Tryz.isAgg20
 z20:=Tryz.sizeOf20
 v20:=Tryz.zeroValue20
 t21:=Tryz.underlying21
 a21:=Tryz.isAgg21
 z21:=Tryz.sizeOf21
 v21:=Tryz.zeroValue21
 t37:=Tryz.underlying37
 a37:=Tryz.isAgg37
 z37:=Tryz.sizeOf37
 v37:=Tryz.zeroValue37
 t46:=Tryz.underlying143
 a46:=Tryz.isAgg143
 z46:=Tryz.sizeOf143
 v46:=Tryz.zeroValue143
 t51:=Tryz.underlying176
 a51:=Tryz.isAgg176
 z51:=Tryz.sizeOf176
 v51:=Tryz.zeroValue176
 t53:=Tryz.underlying178
 a53:=Tryz.isAgg178
 z53:=Tryz.sizeOf178
 v53:=Tryz.zeroValue178
 t75:=Tryz.underlying149
 a75:=Tryz.isAgg149
 z75:=Tryz.sizeOf149
 v75:=Tryz.zeroValue149
 t76:=Tryz.underlying150
 a76:=Tryz.isAgg150
 z76:=Tryz.sizeOf150
 v76:=Tryz.zeroValue150
 t85:=Tryz.underlying240
 a85:=Tryz.isAgg240
 z85:=Tryz.sizeOf240
 v85:=Tryz.zeroValue240
 t127:=Tryz.underlying180
 a127:=Tryz.isAgg180
 z127:=Tryz.sizeOf180
 v127:=Tryz.zeroValue180
 t143:=Tryz.underlying259
 a143:=Tryz.isAgg259
 z143:=Tryz.sizeOf259
 v143:=Tryz.zeroValue259
 t145:=Tryz.underlying261
 a145:=Tryz.isAgg261
 z145:=Tryz.sizeOf261
 v145:=Tryz.zeroValue261
 t167:=Tryz.underlying239
 a167:=Tryz.isAgg239
 z167:=Tryz.sizeOf239
 v167:=Tryz.zeroValue239
 t168:=Tryz.underlying242
 a168:=Tryz.isAgg242
 z168:=Tryz.sizeOf242
 v168:=Tryz.zeroValue242
 t171:=Tryz.underlying245
 a171:=Tryz.isAgg245
 z171:=Tryz.sizeOf245
 v171:=Tryz.zeroValue245
 t173:=Tryz.underlying247
 a173:=Tryz.isAgg247
 z173:=Tryz.sizeOf247
 v173:=Tryz.zeroValue247
 t175:=Tryz.underlying249
 a175:=Tryz.isAgg249
 z175:=Tryz.sizeOf249
 v175:=Tryz.zeroValue249
 t210:=Tryz.underlying252
 a210:=Tryz.isAgg252
 z210:=Tryz.sizeOf252
 v210:=Tryz.zeroValue252
 t212:=Tryz.underlying255
 a212:=Tryz.isAgg255
 z212:=Tryz.sizeOf255
 v212:=Tryz.zeroValue255
 t213:=Tryz.underlying256
 a213:=Tryz.isAgg256
 z213:=Tryz.sizeOf256
 t232:=Tryz.underlying262
 a232:=Tryz.isAgg262
 z232:=Tryz.sizeOf262
 v232:=Tryz.zeroValue262
 t233:=Tryz.underlying263
 a233:=Tryz.isAgg263
 z233:=Tryz.sizeOf263
 v233:=Tryz.zeroValue263
 g15:=by kernel_rfl
 g16:=by kernel_rfl
 g17:=by kernel_rfl
 g18:=by kernel_rfl
 g19:=by kernel_rfl
 t80:=Tryz.underlying82
 a80:=Tryz.isAgg82
 z80:=Tryz.sizeOf82
 v80:=Tryz.zeroValue82
 i0:=by kernel_rfl
 i2:=by kernel_rfl
 i3:=by kernel_rfl
 i4:=by kernel_rfl
 i5:=by kernel_rfl
 i9:=by kernel_rfl
 i20:=by kernel_rfl
 i21:=by kernel_rfl
 i37:=by kernel_rfl
 i46:=by kernel_rfl
 i51:=by kernel_rfl
 i53:=by kernel_rfl
 i75:=by kernel_rfl
 i76:=by kernel_rfl
 i80:=by kernel_rfl
 i85:=by kernel_rfl
 i127:=by kernel_rfl
 i143:=by kernel_rfl
 i145:=by kernel_rfl
 i167:=by kernel_rfl
 i168:=by kernel_rfl
 i171:=by kernel_rfl
 i173:=by kernel_rfl
 i175:=by kernel_rfl
 i210:=by kernel_rfl
 i212:=by kernel_rfl
 i232:=by kernel_rfl
 i233:=by kernel_rfl
 m15:=by kernel_rfl
 m16:=by kernel_rfl
 m17:=by kernel_rfl
 m18:=by kernel_rfl
 m19:=by kernel_rfl
 c0:=by kernel_rfl
 c2:=by kernel_rfl
 c3:=by kernel_rfl
 c4:=by kernel_rfl
 c5:=by kernel_rfl
 c9:=by kernel_rfl
 c20:=by kernel_rfl
 c21:=by kernel_rfl
 c37:=by kernel_rfl
 c46:=by kernel_rfl
 c51:=by kernel_rfl
 c53:=by kernel_rfl
 c75:=by kernel_rfl
 c76:=by kernel_rfl
 c80:=by kernel_rfl
 c85:=by kernel_rfl
 c127:=by kernel_rfl
 c143:=by kernel_rfl
 c145:=by kernel_rfl
 c167:=by kernel_rfl
 c168:=by kernel_rfl
 c171:=by kernel_rfl
 c173:=by kernel_rfl
 c175:=by kernel_rfl
 c210:=by kernel_rfl
 c212:=by kernel_rfl
 c213:=by kernel_rfl
 c232:=by kernel_rfl
 c233:=by kernel_rfl }
def Tryz.laysM171_ren : Go.Shelf.Ren:=⟨fun | 171=>179 | 243=>209 | 246=>223 | 283=>231 | 284=>232 | 285=>233 | 286=>234 | 129=>138 | 317=>238 | 318=>239 | 319=>240 | 320=>241 | 337=>244 | 338=>245 | n=>n,fun | 3=>3 | 9=>9 | 2=>2 | 4=>4 | 171=>245 | 0=>0 | 53=>178 | 37=>37 | 5=>5 | 173=>247 | 212=>255 | 51=>176 | 20=>20 | 213=>256 | 46=>143 | 232=>262 | 233=>263 | n=>n,fun | 17=>5 | 18=>6 | 19=>7 | n=>n⟩
theorem Tryz.laysM171 : Go.Proofs.LaysM.n171 Tryz.prog Tryz.laysM171_ren:={
 mixed:=by kernel_rfl
 f129:=Tryz.func138.trans (congrArg some (by kernel_rfl))
 f171:=Tryz.func179.trans (congrArg some (by kernel_rfl))
 f243:=Tryz.func209.trans (congrArg some (by kernel_rfl))
 f246:=Tryz.func223.trans (congrArg some (by kernel_rfl))
 f283:=Tryz.func231.trans (congrArg some (by kernel_rfl))
 f284:=Tryz.func232.trans (congrArg some (by kernel_rfl))
 f285:=Tryz.func233.trans (congrArg some (by kernel_rfl))
 f286:=Tryz.func234.trans (congrArg some (by kernel_rfl))
 f317:=Tryz.func238.trans (congrArg some (by kernel_rfl))
 f318:=Tryz.func239.trans (congrArg some (by kernel_rfl))
 f319:=Tryz.func240.trans (congrArg some (by kernel_rfl))
 f320:=Tryz.func241.trans (congrArg some (by kernel_rfl))
 f337:=Tryz.func244.trans (congrArg some (by kernel_rfl))
 f338:=Tryz.func245.trans (congrArg some (by kernel_rfl))
 t0:=Tryz.underlying0
 a0:=Tryz.isAgg0
 z0:=Tryz.sizeOf0
 v0:=Tryz.zeroValue0
 t2:=Tryz.underlying2
 a2:=Tryz.isAgg2
 z2:=Tryz.sizeOf2
 v2:=Tryz.zeroValue2
 t3:=Tryz.underlying3
 a3:=Tryz.isAgg3
 z3:=Tryz.sizeOf3
 v3:=Tryz.zeroValue3
 t4:=Tryz.underlying4
 a4:=Tryz.isAgg4
 z4:=Tryz.sizeOf4
 v4:=Tryz.zeroValue4
 t5:=Tryz.underlying5
 a5:=Tryz.isAgg5
 z5:=Tryz.sizeOf5
 v5:=Tryz.zeroValue5
 t9:=Tryz.underlying9
 a9:=Tryz.isAgg9
 z9:=Tryz.sizeOf9
 v9:=Tryz.zeroValue9
 t20:=Tryz.underlying20
 a20:=Tryz.isAgg20
 z20:=Tryz.sizeOf20
 v20:=Tryz.zeroValue20
 t37:=Tryz.underlying37
 a37:=Tryz.isAgg37
 z37:=Tryz.sizeOf37
 v37:=Tryz.zeroValue37
 t46:=Tryz.underlying143
 a46:=Tryz.isAgg143
 z46:=Tryz.sizeOf143
 v46:=Tryz.zeroValue143
 t51:=Tryz.underlying176
 a51:=Tryz.isAgg176
 z51:=Tryz.sizeOf176
 v51:=Tryz.zeroValue176
 t53:=Tryz.underlying178
 a53:=Tryz.isAgg178
 z53:=Tryz.sizeOf178
 v53:=Tryz.zeroValue178
 t171:=Tryz.underlying245
 a171:=Tryz.isAgg245
 z171:=Tryz.sizeOf245
 v171:=Tryz.zeroValue245
 t173:=Tryz.underlying247
 a173:=Tryz.isAgg247
 z173:=Tryz.sizeOf247
 v173:=Tryz.zeroValue247
 t212:=Tryz.underlying255
 a212:=Tryz.isAgg255
 z212:=Tryz.sizeOf255
 v212:=Tryz.zeroValue255
 t213:=Tryz.underlying256
 a213:=Tryz.isAgg256
 z213:=Tryz.sizeOf256
 t232:=Tryz.underlying262
 a232:=Tryz.isAgg262
 z232:=Tryz.sizeOf262
 v232:=Tryz.zeroValue262
 t233:=Tryz.underlying263
 a233:=Tryz.isAgg263
 z233:=Tryz.sizeOf263
 v233:=Tryz.zeroValue263
 g17:=by kernel_rfl
 g18:=by kernel_rfl
 g19:=by kernel_rfl
 i0:=by kernel_rfl
 i2:=by kernel_rfl
 i3:=by kernel_rfl
 i4:=by kernel_rfl
 i5:=by kernel_rfl
 i9:=by kernel_rfl
 i20:=by kernel_rfl
 i37:=by kernel_rfl
 i46:=by kernel_rfl
 i51:=by kernel_rfl
 i53:=by kernel_rfl
 i171:=by kernel_rfl
 i173:=by kernel_rfl
 i212:=by kernel_rfl
 i232:=by kernel_rfl
 i233:=by kernel_rfl
 m17:=by kernel_rfl
 m18:=by kernel_rfl
 m19:=by kernel_rfl }
def Tryz.lays145_ren : Go.Shelf.Ren:=⟨fun | 145=>68 | 220=>108 | 219=>145 | 217=>185 | 225=>186 | 224=>187 | 267=>188 | 266=>212 | 314=>213 | n=>n,fun | 9=>9 | 4=>4 | 59=>115 | 3=>3 | 5=>5 | 46=>143 | 146=>226 | 51=>176 | n=>n,fun | 1=>0 | n=>n⟩
theorem Tryz.lays145 : Go.Proofs.Lays.n145 Tryz.prog Tryz.lays145_ren:={
 mixed:=by kernel_rfl
 f145:=Tryz.func68.trans (congrArg some (by kernel_rfl))
 f217:=Tryz.func185.trans (congrArg some (by kernel_rfl))
 f219:=Tryz.func145.trans (congrArg some (by kernel_rfl))
 f220:=Tryz.func108.trans (congrArg some (by kernel_rfl))
 f224:=Tryz.func187.trans (congrArg some (by kernel_rfl))
 f225:=Tryz.func186.trans (congrArg some (by kernel_rfl))
 f266:=Tryz.func212.trans (congrArg some (by kernel_rfl))
 f267:=Tryz.func188.trans (congrArg some (by kernel_rfl))
 f314:=Tryz.func213.trans (congrArg some (by kernel_rfl))
 t3:=Tryz.underlying3
 a3:=Tryz.isAgg3
 z3:=Tryz.sizeOf3
 v3:=Tryz.zeroValue3
 t4:=Tryz.underlying4
 a4:=Tryz.isAgg4
 z4:=Tryz.sizeOf4
 v4:=Tryz.zeroValue4
 t5:=Tryz.underlying5
 a5:=Tryz.isAgg5
 z5:=Tryz.sizeOf5
 v5:=Tryz.zeroValue5
 t9:=Tryz.underlying9
 a9:=Tryz.isAgg9
 z9:=Tryz.sizeOf9
 v9:=Tryz.zeroValue9
 t46:=Tryz.underlying143
 a46:=Tryz.isAgg143
 z46:=Tryz.sizeOf143
 v46:=Tryz.zeroValue143
 t51:=Tryz.underlying176
 a51:=Tryz.isAgg176
 z51:=Tryz.sizeOf176
 v51:=Tryz.zeroValue176
 t59:=Tryz.underlying115
 a59:=Tryz.isAgg115
 z59:=Tryz.sizeOf115
 v59:=Tryz.zeroValue115
 t146:=Tryz.underlying226
 a146:=Tryz.isAgg226
 z146:=Tryz.sizeOf226
 v146:=Tryz.zeroValue226
 g1:=by kernel_rfl }
def Tryz.lays144_ren : Go.Shelf.Ren:=⟨fun | 144=>154 | 143=>144 | 219=>145 | 217=>185 | 225=>186 | 224=>187 | 267=>188 | 266=>212 | 314=>213 | n=>n,fun | 9=>9 | 4=>4 | 3=>3 | 5=>5 | 46=>143 | 146=>226 | 51=>176 | n=>n,fun | 1=>0 | n=>n⟩
theorem Tryz.lays144 : Go.Proofs.Lays.n144 Tryz.prog Tryz.lays144_ren:={
 mixed:=by kernel_rfl
 f143:=Tryz.func144.trans (congrArg some (by kernel_rfl))
 f144:=Tryz.func154.trans (congrArg some (by kernel_rfl))
 f217:=Tryz.func185.trans (congrArg some (by kernel_rfl))
 f219:=Tryz.func145.trans (congrArg some (by kernel_rfl))
 f224:=Tryz.func187.trans (congrArg some (by kernel_rfl))
 f225:=Tryz.func186.trans (congrArg some (by kernel_rfl))
 f266:=Tryz.func212.trans (congrArg some (by kernel_rfl))
 f267:=Tryz.func188.trans (congrArg some (by kernel_rfl))
 f314:=Tryz.func213.trans (congrArg some (by kernel_rfl))
 t3:=Tryz.underlying3
 a3:=Tryz.isAgg3
 z3:=Tryz.sizeOf3
 v3:=Tryz.zeroValue3
 t4:=Tryz.underlying4
 a4:=Tryz.isAgg4
 z4:=Tryz.sizeOf4
 v4:=Tryz.zeroValue4
 t5:=Tryz.underlying5
 a5:=Tryz.isAgg5
 z5:=Tryz.sizeOf5
 v5:=Tryz.zeroValue5
 t9:=Tryz.underlying9
 a9:=Tryz.isAgg9
 z9:=Tryz.sizeOf9
 v9:=Tryz.zeroValue9
 t46:=Tryz.underlying143
 a46:=Tryz.isAgg143
 z46:=Tryz.sizeOf143
 v46:=Tryz.zeroValue143
 t51:=Tryz.underlying176
 a51:=Tryz.isAgg176
 z51:=Tryz.sizeOf176
 v51:=Tryz.zeroValue176
 t146:=Tryz.underlying226
 a146:=Tryz.isAgg226
 z146:=Tryz.sizeOf226
 v146:=Tryz.zeroValue226
 g1:=by kernel_rfl }
def Tryz.lays146_ren : Go.Shelf.Ren:=⟨fun | 146=>67 | 221=>107 | 268=>142 | 138=>143 | 143=>144 | 195=>182 | 197=>183 | 218=>184 | 219=>145 | 260=>211 | 217=>185 | 225=>186 | 224=>187 | 267=>188 | 266=>212 | 314=>213 | n=>n,fun | 9=>9 | 31=>50 | 3=>3 | 4=>4 | 0=>0 | 105=>206 | 21=>21 | 5=>5 | 46=>143 | 119=>235 | 139=>238 | 138=>237 | 146=>226 | 51=>176 | n=>n,fun | 1=>0 | 3=>1 | 4=>2 | n=>n⟩
theorem Tryz.lays146 : Go.Proofs.Lays.n146 Tryz.prog Tryz.lays146_ren:={
 mixed:=by kernel_rfl
 f138:=Tryz.func143.trans (congrArg some (by kernel_rfl))
 f143:=Tryz.func144.trans (congrArg some (by kernel_rfl))
 f146:=Tryz.func67.trans (congrArg some (by kernel_rfl))
 f195:=Tryz.func182.trans (congrArg some (by kernel_rfl))
 f197:=Tryz.func183.trans (congrArg some (by kernel_rfl))
 f217:=Tryz.func185.trans (congrArg some (by kernel_rfl))
 f218:=Tryz.func184.trans (congrArg some (by kernel_rfl))
 f219:=Tryz.func145.trans (congrArg some (by kernel_rfl))
 f221:=Tryz.func107.trans (congrArg some (by kernel_rfl))
 f224:=Tryz.func187.trans (congrArg some (by kernel_rfl))
 f225:=Tryz.func186.trans (congrArg some (by kernel_rfl))
 f260:=Tryz.func211.trans (congrArg some (by kernel_rfl))
 f266:=Tryz.func212.trans (congrArg some (by kernel_rfl))
 f267:=Tryz.func188.trans (congrArg some (by kernel_rfl))
 f268:=Tryz.func142.trans (congrArg some (by kernel_rfl))
 f314:=Tryz.func213.trans (congrArg some (by kernel_rfl))
 t0:=Tryz.underlying0
 a0:=Tryz.isAgg0
 z0:=Tryz.sizeOf0
 v0:=Tryz.zeroValue0
 t3:=Tryz.underlying3
 a3:=Tryz.isAgg3
 z3:=Tryz.sizeOf3
 v3:=Tryz.zeroValue3
 t4:=Tryz.underlying4
 a4:=Tryz.isAgg4
 z4:=Tryz.sizeOf4
 v4:=Tryz.zeroValue4
 t5:=Tryz.underlying5
 a5:=Tryz.isAgg5
 z5:=Tryz.sizeOf5
 v5:=Tryz.zeroValue5
 t9:=Tryz.underlying9
 a9:=Tryz.isAgg9
 z9:=Tryz.sizeOf9
 v9:=Tryz.zeroValue9
 t21:=Tryz.underlying21
 a21:=Tryz.isAgg21
 z21:=Tryz.sizeOf21
 v21:=Tryz.zeroValue21
 t31:=Tryz.underlying50
 a31:=Tryz.isAgg50
 z31:=Tryz.sizeOf50
 v31:=Tryz.zeroValue50
 t46:=Tryz.underlying143
 a46:=Tryz.isAgg143
 z46:=Tryz.sizeOf143
 v46:=Tryz.zeroValue143
 t51:=Tryz.underlying176
 a51:=Tryz.isAgg176
 z51:=Tryz.sizeOf176
 v51:=Tryz.zeroValue176
 t105:=Tryz.underlying206
 a105:=Tryz.isAgg206
 z105:=Tryz.sizeOf206
 v105:=Tryz.zeroValue206
 t119:=Tryz.underlying235
 a119:=Tryz.isAgg235
 z119:=Tryz.sizeOf235
 t138:=Tryz.underlying237
 a138:=Tryz.isAgg237
 z138:=Tryz.sizeOf237
 v138:=Tryz.zeroValue237
 t139:=Tryz.underlying238
 a139:=Tryz.isAgg238
 z139:=Tryz.sizeOf238
 v139:=Tryz.zeroValue238
 t146:=Tryz.underlying226
 a146:=Tryz.isAgg226
 z146:=Tryz.sizeOf226
 v146:=Tryz.zeroValue226
 g1:=by kernel_rfl
 g3:=by kernel_rfl
 g4:=by kernel_rfl }
def Tryz.lays101_ren : Go.Shelf.Ren:=⟨fun | 101=>110 | 208=>147 | 206=>190 | n=>n,fun | 9=>9 | 4=>4 | 3=>3 | n=>n,fun | n=>n⟩
theorem Tryz.lays101 : Go.Proofs.Lays.n101 Tryz.prog Tryz.lays101_ren:={
 mixed:=by kernel_rfl
 f101:=Tryz.func110.trans (congrArg some (by kernel_rfl))
 f206:=Tryz.func190.trans (congrArg some (by kernel_rfl))
 f208:=Tryz.func147.trans (congrArg some (by kernel_rfl))
 t3:=Tryz.underlying3
 a3:=Tryz.isAgg3
 z3:=Tryz.sizeOf3
 v3:=Tryz.zeroValue3
 t4:=Tryz.underlying4
 a4:=Tryz.isAgg4
 z4:=Tryz.sizeOf4
 v4:=Tryz.zeroValue4
 t9:=Tryz.underlying9
 a9:=Tryz.isAgg9
 z9:=Tryz.sizeOf9
 v9:=Tryz.zeroValue9 }
def Tryz.lays151_ren : Go.Shelf.Ren:=⟨fun | 151=>151 | 152=>191 | 137=>216 | 119=>217 | 224=>187 | 225=>186 | 217=>185 | 266=>212 | n=>n,fun | 9=>9 | 21=>21 | 4=>4 | 3=>3 | 5=>5 | 0=>0 | 46=>143 | n=>n,fun | n=>n⟩
theorem Tryz.lays151 : Go.Proofs.Lays.n151 Tryz.prog Tryz.lays151_ren:={
 mixed:=by kernel_rfl
 f119:=Tryz.func217.trans (congrArg some (by kernel_rfl))
 f137:=Tryz.func216.trans (congrArg some (by kernel_rfl))
 f151:=Tryz.func151.trans (congrArg some (by kernel_rfl))
 f152:=Tryz.func191.trans (congrArg some (by kernel_rfl))
 f217:=Tryz.func185.trans (congrArg some (by kernel_rfl))
 f224:=Tryz.func187.trans (congrArg some (by kernel_rfl))
 f225:=Tryz.func186.trans (congrArg some (by kernel_rfl))
 f266:=Tryz.func212.trans (congrArg some (by kernel_rfl))
 t0:=Tryz.underlying0
 a0:=Tryz.isAgg0
 z0:=Tryz.sizeOf0
 v0:=Tryz.zeroValue0
 t3:=Tryz.underlying3
 a3:=Tryz.isAgg3
 z3:=Tryz.sizeOf3
 v3:=Tryz.zeroValue3
 t4:=Tryz.underlying4
 a4:=Tryz.isAgg4
 z4:=Tryz.sizeOf4
 v4:=Tryz.zeroValue4
 t5:=Tryz.underlying5
 a5:=Tryz.isAgg5
 z5:=Tryz.sizeOf5
 v5:=Tryz.zeroValue5
 t9:=Tryz.underlying9
 a9:=Tryz.isAgg9
 z9:=Tryz.sizeOf9
 v9:=Tryz.zeroValue9
 t21:=Tryz.underlying21
 a21:=Tryz.isAgg21
 z21:=Tryz.sizeOf21
 v21:=Tryz.zeroValue21
 t46:=Tryz.underlying143
 a46:=Tryz.isAgg143
 z46:=Tryz.sizeOf143
 v46:=Tryz.zeroValue143 }
def Tryz.lays106_ren : Go.Shelf.Ren:=⟨fun | 106=>87 | 213=>124 | 265=>157 | n=>n,fun | 9=>9 | 3=>3 | n=>n,fun | n=>n⟩
theorem Tryz.lays106 : Go.Proofs.Lays.n106 Tryz.prog Tryz.lays106_ren:={
 mixed:=by kernel_rfl
 f106:=Tryz.func87.trans (congrArg some (by kernel_rfl))
 f213:=Tryz.func124.trans (congrArg some (by kernel_rfl))
 f265:=Tryz.func157.trans (congrArg some (by kernel_rfl))
 t3:=Tryz.underlying3
 a3:=Tryz.isAgg3
 z3:=Tryz.sizeOf3
 v3:=Tryz.zeroValue3
 t9:=Tryz.underlying9
 a9:=Tryz.isAgg9
 z9:=Tryz.sizeOf9
 v9:=Tryz.zeroValue9 }
def Tryz.lays160_ren : Go.Shelf.Ren:=⟨fun | 160=>153 | 232=>195 | 231=>194 | 227=>196 | 234=>198 | 233=>197 | 236=>200 | 235=>199 | 228=>219 | 271=>220 | 151=>151 | 197=>183 | 120=>230 | 152=>191 | 260=>211 | 137=>216 | 119=>217 | 224=>187 | 225=>186 | 217=>185 | 266=>212 | n=>n,fun | 9=>9 | 4=>4 | 3=>3 | 5=>5 | 117=>214 | 116=>213 | 0=>0 | 124=>217 | 21=>21 | 105=>206 | 46=>143 | 119=>235 | 139=>238 | 138=>237 | n=>n,fun | 3=>1 | 4=>2 | n=>n⟩
theorem Tryz.lays160 : Go.Proofs.Lays.n160 Tryz.prog Tryz.lays160_ren:={
 mixed:=by kernel_rfl
 f119:=Tryz.func217.trans (congrArg some (by kernel_rfl))
 f120:=Tryz.func230.trans (congrArg some (by kernel_rfl))
 f137:=Tryz.func216.trans (congrArg some (by kernel_rfl))
 f151:=Tryz.func151.trans (congrArg some (by kernel_rfl))
 f152:=Tryz.func191.trans (congrArg some (by kernel_rfl))
 f160:=Tryz.func153.trans (congrArg some (by kernel_rfl))
 f197:=Tryz.func183.trans (congrArg some (by kernel_rfl))
 f217:=Tryz.func185.trans (congrArg some (by kernel_rfl))
 f224:=Tryz.func187.trans (congrArg some (by kernel_rfl))
 f225:=Tryz.func186.trans (congrArg some (by kernel_rfl))
 f227:=Tryz.func196.trans (congrArg some (by kernel_rfl))
 f228:=Tryz.func219.trans (congrArg some (by kernel_rfl))
 f231:=Tryz.func194.trans (congrArg some (by kernel_rfl))
 f232:=Tryz.func195.trans (congrArg some (by kernel_rfl))
 f233:=Tryz.func197.trans (congrArg some (by kernel_rfl))
 f234:=Tryz.func198.trans (congrArg some (by kernel_rfl))
 f235:=Tryz.func199.trans (congrArg some (by kernel_rfl))
 f236:=Tryz.func200.trans (congrArg some (by kernel_rfl))
 f260:=Tryz.func211.trans (congrArg some (by kernel_rfl))
 f266:=Tryz.func212.trans (congrArg some (by kernel_rfl))
 f271:=Tryz.func220.trans (congrArg some (by kernel_rfl))
 t0:=Tryz.underlying0
 a0:=Tryz.isAgg0
 z0:=Tryz.sizeOf0
 v0:=Tryz.zeroValue0
 t3:=Tryz.underlying3
 a3:=Tryz.isAgg3
 z3:=Tryz.sizeOf3
 v3:=Tryz.zeroValue3
 t4:=Tryz.underlying4
 a4:=Tryz.isAgg4
 z4:=Tryz.sizeOf4
 v4:=Tryz.zeroValue4
 t5:=Tryz.underlying5
 a5:=Tryz.isAgg5
 z5:=Tryz.sizeOf5
 v5:=Tryz.zeroValue5
 t9:=Tryz.underlying9
 a9:=Tryz.isAgg9
 z9:=Tryz.sizeOf9
 v9:=Tryz.zeroValue9
 t21:=Tryz.underlying21
 a21:=Tryz.isAgg21
 z21:=Tryz.sizeOf21
 v21:=Tryz.zeroValue21
 t46:=Tryz.underlying143
 a46:=Tryz.isAgg143
 z46:=Tryz.sizeOf143
 v46:=Tryz.zeroValue143
 t105:=Tryz.underlying206
 a105:=Tryz.isAgg206
 z105:=Tryz.sizeOf206
 v105:=Tryz.zeroValue206
 t116:=Tryz.underlying213
 a116:=Tryz.isAgg213
 z116:=Tryz.sizeOf213
 t117:=Tryz.underlying214
 a117:=Tryz.isAgg214
 z117:=Tryz.sizeOf214
 v117:=Tryz.zeroValue214
 t119:=Tryz.underlying235
 a119:=Tryz.isAgg235
 z119:=Tryz.sizeOf235
 t124:=Tryz.underlying217
 a124:=Tryz.isAgg217
 z124:=Tryz.sizeOf217
 v124:=Tryz.zeroValue217
 t138:=Tryz.underlying237
 a138:=Tryz.isAgg237
 z138:=Tryz.sizeOf237
 v138:=Tryz.zeroValue237
 t139:=Tryz.underlying238
 a139:=Tryz.isAgg238
 z139:=Tryz.sizeOf238
 v139:=Tryz.zeroValue238
 g3:=by kernel_rfl
 g4:=by kernel_rfl }
def Tryz.lays156_ren : Go.Shelf.Ren:=⟨fun | 156=>140 | 165=>180 | 166=>101 | 169=>102 | 240=>141 | 241=>210 | 276=>181 | 277=>224 | n=>n,fun | 31=>50 | 9=>9 | 3=>3 | 4=>4 | 0=>0 | 20=>20 | 72=>147 | 76=>150 | 70=>145 | 37=>37 | 75=>149 | 127=>180 | 164=>204 | 5=>5 | 80=>82 | n=>n,fun | n=>n⟩
theorem Tryz.lays156 : Go.Proofs.Lays.n156 Tryz.prog Tryz.lays156_ren:={
 mixed:=by kernel_rfl
 f156:=Tryz.func140.trans (congrArg some (by kernel_rfl))
 f165:=Tryz.func180.trans (congrArg some (by kernel_rfl))
 f166:=Tryz.func101.trans (congrArg some (by kernel_rfl))
 f169:=Tryz.func102.trans (congrArg some (by kernel_rfl))
 f240:=Tryz.func141.trans (congrArg some (by kernel_rfl))
 f241:=Tryz.func210.trans (congrArg some (by kernel_rfl))
 f276:=Tryz.func181.trans (congrArg some (by kernel_rfl))
 f277:=Tryz.func224.trans (congrArg some (by kernel_rfl))
 t0:=Tryz.underlying0
 a0:=Tryz.isAgg0
 z0:=Tryz.sizeOf0
 v0:=Tryz.zeroValue0
 t3:=Tryz.underlying3
 a3:=Tryz.isAgg3
 z3:=Tryz.sizeOf3
 v3:=Tryz.zeroValue3
 t4:=Tryz.underlying4
 a4:=Tryz.isAgg4
 z4:=Tryz.sizeOf4
 v4:=Tryz.zeroValue4
 t9:=Tryz.underlying9
 a9:=Tryz.isAgg9
 z9:=Tryz.sizeOf9
 v9:=Tryz.zeroValue9
 t20:=Tryz.underlying20
 a20:=Tryz.isAgg20
 z20:=Tryz.sizeOf20
 v20:=Tryz.zeroValue20
 t31:=Tryz.underlying50
 a31:=Tryz.isAgg50
 z31:=Tryz.sizeOf50
 v31:=Tryz.zeroValue50
 t37:=Tryz.underlying37
 a37:=Tryz.isAgg37
 z37:=Tryz.sizeOf37
 v37:=Tryz.zeroValue37
 t70:=Tryz.underlying145
 a70:=Tryz.isAgg145
 z70:=Tryz.sizeOf145
 v70:=Tryz.zeroValue145
 t72:=Tryz.underlying147
 a72:=Tryz.isAgg147
 z72:=Tryz.sizeOf147
 v72:=Tryz.zeroValue147
 t75:=Tryz.underlying149
 a75:=Tryz.isAgg149
 z75:=Tryz.sizeOf149
 v75:=Tryz.zeroValue149
 t76:=Tryz.underlying150
 a76:=Tryz.isAgg150
 z76:=Tryz.sizeOf150
 v76:=Tryz.zeroValue150
 t127:=Tryz.underlying180
 a127:=Tryz.isAgg180
 z127:=Tryz.sizeOf180
 v127:=Tryz.zeroValue180
 t164:=Tryz.underlying204
 a164:=Tryz.isAgg204
 z164:=Tryz.sizeOf204
 v164:=Tryz.zeroValue204 }
theorem Tryz.Builder_Extra_156 : Builder.Extra Tryz.prog Tryz.lays156_ren:={
 sizeBuilder:=by kernel_rfl
 liesBuilder:=by kernel_rfl
 t5:=Tryz.underlying5
 a5:=Tryz.isAgg5
 z5:=Tryz.sizeOf5
 v5:=Tryz.zeroValue5
 infoByte:=by kernel_rfl
 cellsByte:=by kernel_rfl
 sizeByte:=by kernel_rfl
 neB5:=by decide }
def Tryz.lays194_ren : Go.Shelf.Ren:=⟨fun | 194=>92 | n=>n,fun | 31=>50 | 9=>9 | 3=>3 | 4=>4 | 0=>0 | n=>n,fun | n=>n⟩
theorem Tryz.lays194 : Go.Proofs.Lays.n194 Tryz.prog Tryz.lays194_ren:={
 mixed:=by kernel_rfl
 f194:=Tryz.func92.trans (congrArg some (by kernel_rfl))
 t0:=Tryz.underlying0
 a0:=Tryz.isAgg0
 z0:=Tryz.sizeOf0
 v0:=Tryz.zeroValue0
 t3:=Tryz.underlying3
 a3:=Tryz.isAgg3
 z3:=Tryz.sizeOf3
 v3:=Tryz.zeroValue3
 t4:=Tryz.underlying4
 a4:=Tryz.isAgg4
 z4:=Tryz.sizeOf4
 v4:=Tryz.zeroValue4
 t9:=Tryz.underlying9
 a9:=Tryz.isAgg9
 z9:=Tryz.sizeOf9
 v9:=Tryz.zeroValue9
 t31:=Tryz.underlying50
 a31:=Tryz.isAgg50
 z31:=Tryz.sizeOf50
 v31:=Tryz.zeroValue50 }
def Tryz.laysSlH6_f127_ren : Go.Shelf.Ren:=⟨fun | 6=>127 | n=>n,fun | 22=>50 | 23=>9 | 25=>130 | 3=>3 | 0=>0 | 4=>4 | n=>n,fun | n=>n⟩
theorem Tryz.laysSlH6_f127 : Go.Proofs.SlLaysH.n6 Tryz.prog Tryz.laysSlH6_f127_ren:={
 mixed:=by kernel_rfl
 f6:=⟨Tryz.f127.name,by decide,Tryz.func127.trans (congrArg some (by kernel_rfl))⟩
 t0:=Tryz.underlying0
 a0:=Tryz.isAgg0
 z0:=Tryz.sizeOf0
 v0:=Tryz.zeroValue0
 t3:=Tryz.underlying3
 a3:=Tryz.isAgg3
 z3:=Tryz.sizeOf3
 v3:=Tryz.zeroValue3
 t4:=Tryz.underlying4
 a4:=Tryz.isAgg4
 z4:=Tryz.sizeOf4
 v4:=Tryz.zeroValue4
 t22:=Tryz.underlying50
 a22:=Tryz.isAgg50
 z22:=Tryz.sizeOf50
 v22:=Tryz.zeroValue50
 a23:=Tryz.isAgg9
 z23:=Tryz.sizeOf9
 t25:=Tryz.underlying130
 a25:=Tryz.isAgg130
 z25:=Tryz.sizeOf130
 v25:=Tryz.zeroValue130 }
def Tryz.laysSlH10_f91_ren : Go.Shelf.Ren:=⟨fun | 10=>91 | 6=>127 | n=>n,fun | 22=>50 | 23=>9 | 25=>130 | 3=>3 | 4=>4 | 0=>0 | n=>n,fun | n=>n⟩
theorem Tryz.laysSlH10_f91 : Go.Proofs.SlLaysH.n10 Tryz.prog Tryz.laysSlH10_f91_ren:={
 mixed:=by kernel_rfl
 f6:=⟨Tryz.f127.name,by decide,Tryz.func127.trans (congrArg some (by kernel_rfl))⟩
 f10:=⟨Tryz.f91.name,by decide,Tryz.func91.trans (congrArg some (by kernel_rfl))⟩
 t0:=Tryz.underlying0
 a0:=Tryz.isAgg0
 z0:=Tryz.sizeOf0
 v0:=Tryz.zeroValue0
 t3:=Tryz.underlying3
 a3:=Tryz.isAgg3
 z3:=Tryz.sizeOf3
 v3:=Tryz.zeroValue3
 t4:=Tryz.underlying4
 a4:=Tryz.isAgg4
 z4:=Tryz.sizeOf4
 v4:=Tryz.zeroValue4
 t22:=Tryz.underlying50
 a22:=Tryz.isAgg50
 z22:=Tryz.sizeOf50
 v22:=Tryz.zeroValue50
 a23:=Tryz.isAgg9
 z23:=Tryz.sizeOf9
 t25:=Tryz.underlying130
 a25:=Tryz.isAgg130
 z25:=Tryz.sizeOf130
 v25:=Tryz.zeroValue130 }
end Go.Proofs
set_option maxHeartbeats 4000000
namespace T11
open Go Go.Proofs Pk Go.RowKit
structure Gv (M : Prop) (H : Hp) : Prop where
 gl : Gl M 3 4 5 H
 mx : ∃ m,CellsAt H ⟨0,0,none⟩ [.int .i64 m]
theorem Gv.mono {M : Prop} {H K : Hp} (h : Gv M H) (hk : H.le K) : Gv M K:=⟨h.gl.mono hk,h.mx.imp fun _ hm=>hm.mono hk⟩
noncomputable def m189 (s : Bytes) : Option (Int × Bool):=atoiM s
noncomputable def m179 (n : Int) : Option Bytes:=itoaM n
noncomputable def m68 (s t : Bytes) : Option (Bytes × Bytes × Bool):=chk (s.length ≤ 1073741824) (some (Lib.cut s t))
noncomputable def m154 (s t : Bytes) : Option Bool:=chk (s.length ≤ 1073741824) (some (Lib.contains s t))
noncomputable def m110 (s t : Bytes) : Option Bytes:=some (Lib.trimPrefix s t)
noncomputable def m87 (a b : Bytes) : Option Int:=some (Lib.compareBytes a b)
noncomputable def m151 (s : Bytes) (r : Int) : Option Bool:=chk (0 ≤ r ∧ r < 128) (some (decide (0 ≤ Lib.indexByte s r.toNat.toUInt8)))
noncomputable def m153 (s t : Bytes) : Option Bytes:=match t with
 | [c]=>chk (s.length ≤ 1073741824 ∧ c.toNat < 128) (some (Lib.trimB s c))
 | _=>none
theorem bsd (s : Bytes) : (bs s).data.toList = s:=by simp [bs]
theorem w189 {M : Prop} {W : World} {H : Hp} (hH : H.le (hp W)) (hg : Gv M H) (s : Bytes) {r : Int × Bool} (hr : m189 s = some r) : Calls Tryz.prog 189 [.string (bs s)].toArray W (RetK M H W (fun v K=>∃ (er1 : Value),v = .tuple [.int .i64 r.1,er1].toArray ∧ Er er1 r.2)):=by
 unfold m189 atoiM at hr;obtain ⟨hl,hr⟩:=chk_some hr;obtain rfl:=Option.some.inj hr;have hz : (bs s).size = s.length:=bs_size s;obtain ⟨e0,h0,i0⟩:=hg.gl.syn;obtain ⟨e1,h1,i1⟩:=hg.gl.rng
 cases h : Lib.atoiAll s with
 | ok v =>
  refine (Any.strconv_Atoi_ok Tryz.laysC172 (bs s) (by omega) v (by rw [bsd]; exact h) W).mono ?_;rintro e w' ⟨rfl,hw⟩;refine ⟨⟨_,by simp [atoiR,h],.inl ⟨by simp [atoiR,h],rfl⟩⟩,?_⟩;rcases hw with rfl | ⟨t,rfl⟩
  ·exact Ext.refl _ _
  exact Ext.of_below hg.gl.nq (Lib.bytesWorld_below _ _ _)
 | range =>
  refine (Any.strconv_Atoi_range Tryz.laysC172 (bs s) (by omega) (by rw [bsd]; exact h) e1 W (cell_of hH h1) i1).mono ?_;rintro e w' ⟨N,rfl,_,_,hb⟩;have hr1 : atoiR s = (Lib.atoiSat s,true):=by simp [atoiR,h]
  rw [hr1,bsd];exact ⟨⟨_,rfl,.inr ⟨rfl,_,_,rfl⟩⟩,Ext.of_below hg.gl.nq hb⟩
 | _ =>
  refine (Any.strconv_Atoi_syntax Tryz.laysC172 (bs s) (by omega) (by rw [bsd]; exact h) e0 W (cell_of hH h0) i0).mono ?_;rintro e w' ⟨N,rfl,_,_,hb⟩;have hr1 : atoiR s = (0,true):=by simp [atoiR,h]
  rw [hr1];exact ⟨⟨_,rfl,.inr ⟨rfl,_,_,rfl⟩⟩,Ext.of_below hg.gl.nq hb⟩
theorem itoaC {W : World} {H : Hp} (hH : H.le (hp W)) {M : Prop} (hg : Gv M H) (n : Int) (h1 : -9223372036854775808 ≤ n) (h2 : n ≤ 9223372036854775807) : Calls Tryz.prog 179 #[.int .i64 n] W fun e w'=>e = .returned (.string (bs (Lib.itoa n))) ∧ ∃ k os,w' = Sort.grow (W.drewN k) os:=by
 refine (Any.strconv_Itoa Tryz.laysM171 n h1 h2 W (tabIs_of (by kernel_rfl) hH hg.gl.tab)).mono ?_;rintro e w' ⟨rfl,k,os,rfl⟩;exact ⟨rfl,k,os,rfl⟩
theorem ext_of_grow (M : Prop) (W : World) (k : Nat) (os : Array Obj) : Ext M W (Sort.grow (W.drewN k) os) :=
 ⟨rfl,rfl,rfl,(by show W.heap.size ≤ (W.heap ++ os).size; rw [Array.size_append]; omega),fun b hb=>Array.getElem?_append_left hb,fun _=>Nat.le_add_right _ _⟩
theorem w179 {M : Prop} {W : World} {H : Hp} (hH : H.le (hp W)) (hg : Gv M H) (n : Int) {r : Bytes} (hr : m179 n = some r) : Calls Tryz.prog 179 [.int .i64 n].toArray W (RetS M W (.string (bs r))):=by
 unfold m179 itoaM at hr;obtain ⟨hl,hr⟩:=chk_some hr;obtain rfl:=Option.some.inj hr;refine (itoaC hH hg n hl.1 hl.2).mono ?_;rintro e w' ⟨rfl,k,os,rfl⟩;exact ⟨rfl,ext_of_grow M W k os⟩
theorem ext_drewN (M : Prop) (W : World) (k : Nat) : Ext M W (W.drewN k):=⟨rfl,rfl,rfl,Nat.le_refl _,fun _ _=>rfl,fun _=>Nat.le_add_right _ _⟩
theorem w68 {M : Prop} {W : World} {H : Hp} (hH : H.le (hp W)) (hg : Gv M H) (s t : Bytes) {r : Bytes × Bytes × Bool} (hr : m68 s t = some r) : Calls Tryz.prog 68 [.string (bs s),.string (bs t)].toArray W (RetS M W (.tuple [.string (bs r.1),.string (bs r.2.1),.bool r.2.2].toArray)):=by
 unfold m68 at hr;obtain ⟨hl,hr⟩:=chk_some hr;obtain rfl:=Option.some.inj hr;obtain ⟨m,hm⟩:=hg.mx;refine (Any.strings_Cut Tryz.lays145 (bs s) (bs t) m W (by rw [bs_size]; omega) (cell_of hH hm)).mono ?_;rintro e w' ⟨rfl,k,rfl⟩;exact ⟨by simp [bs],ext_drewN M W k⟩
theorem w154 {M : Prop} {W : World} {H : Hp} (hH : H.le (hp W)) (hg : Gv M H) (s t : Bytes) {r : Bool} (hr : m154 s t = some r) : Calls Tryz.prog 154 [.string (bs s),.string (bs t)].toArray W (RetS M W (.bool r)):=by
 unfold m154 at hr;obtain ⟨hl,hr⟩:=chk_some hr;obtain rfl:=Option.some.inj hr;obtain ⟨m,hm⟩:=hg.mx;refine (Any.strings_Contains Tryz.lays144 (bs s) (bs t) m W (by rw [bs_size]; omega) (cell_of hH hm)).mono ?_;rintro e w' ⟨rfl,rfl⟩;exact ⟨by simp [bs],Ext.refl _ _⟩
theorem w110 {M : Prop} {W : World} (s t : Bytes) {r : Bytes} (hr : m110 s t = some r) : Calls Tryz.prog 110 [.string (bs s),.string (bs t)].toArray W (RetS M W (.string (bs r))):=by
 obtain rfl:=Option.some.inj hr;refine (Any.strings_TrimPrefix Tryz.lays101 (bs s) (bs t) W).mono ?_;rintro e w' ⟨rfl,rfl⟩;exact ⟨by simp [bs],Ext.refl _ _⟩
theorem w87 {M : Prop} {W : World} (a b : Bytes) {r : Int} (hr : m87 a b = some r) : Calls Tryz.prog 87 [.string (bs a),.string (bs b)].toArray W (RetS M W (.int .i64 r)):=by
 obtain rfl:=Option.some.inj hr;refine (Any.strings_Compare Tryz.lays106 (bs a) (bs b) W).mono ?_;rintro e w' ⟨rfl,rfl⟩;exact ⟨by simp [bs],Ext.refl _ _⟩
theorem w151 {M : Prop} {W : World} (s : Bytes) (k : Int) {r : Bool} (hr : m151 s k = some r) : Calls Tryz.prog 151 [.string (bs s),.int .i32 k].toArray W (RetS M W (.bool r)):=by
 unfold m151 at hr;obtain ⟨hl,hr⟩:=chk_some hr;obtain rfl:=Option.some.inj hr;refine (Any.strings_ContainsRune_ascii Tryz.lays151 (bs s) k W hl.1 hl.2).mono ?_;rintro e w' ⟨rfl,rfl⟩;exact ⟨by simp [bs],Ext.refl _ _⟩
theorem w153 {M : Prop} {W : World} (s t : Bytes) {r : Bytes} (hr : m153 s t = some r) : Calls Tryz.prog 153 [.string (bs s),.string (bs t)].toArray W (RetS M W (.string (bs r))):=by
 unfold m153 at hr
 split at hr
 ·rename_i c
  obtain ⟨hl,hr⟩:=chk_some hr;obtain rfl:=Option.some.inj hr;refine (Any.strings_Trim_one Tryz.lays160 (bs s) c hl.2 W (by rw [bs_size]; omega)).mono ?_;rintro e w' ⟨rfl,hw⟩;refine ⟨by simp [bs],?_⟩;rcases hw with rfl | rfl
  ·exact Ext.refl _ _
  exact ext_drewN M W 1
 cases hr
noncomputable def m67 (s t : Bytes) : Option (List Bytes):=chk (s.length ≤ 1073741824 ∧ 1 ≤ t.length) (some ((Lib.splitB (bs t) 0 (Lib.countB (bs s) (bs t)) (bs s)).map (·.data.toList)))
theorem w67 {M : Prop} {W : World} {H : Hp} (hH : H.le (hp W)) (hg : Gv M H) (s t : Bytes) {r : List Bytes} (hr : m67 s t = some r) : Calls Tryz.prog 67 [.string (bs s),.string (bs t)].toArray W (RetK M H W (fun v K=>∃ (ad0 : Option Addr) (cap0 : Nat),v = .slice ad0 r.length cap0 ∧ Sl (Flat encS) 1 K ad0 cap0 r)):=by
 unfold m67 at hr;obtain ⟨hl,hr⟩:=chk_some hr;obtain rfl:=Option.some.inj hr;obtain ⟨m,hm⟩:=hg.mx;have hs1 : 1 ≤ (bs t).size:=by rw [bs_size]; omega
 have hlen:=Lib.splitB_all (bs t) hs1 0 (Lib.countB (bs s) (bs t)) (bs s) rfl;have hcn:=Lib.countB_le (bs t) hs1 (bs s).size (bs s) (Nat.le_refl _);rw [bs_size] at hcn;refine (Any.strings_Split Tryz.lays146 (by kernel_rfl) (bs s) (bs t) m W (by rw [bs_size]; omega) (cell_of hH hm) hs1).mono ?_;rintro e w' ⟨rfl,rfl⟩;generalize Lib.splitB (bs t) 0 (Lib.countB (bs s) (bs t)) (bs s) = l at hlen;refine ⟨⟨some ⟨W.heap.size,0,none⟩,_,by rw [List.length_map,hlen],⟨by rw [List.length_map,hlen]; omega,fun i x hx=>?_⟩⟩,Ext.alloc M W _⟩;rw [List.getElem?_map,Option.map_eq_some_iff] at hx;obtain ⟨y,hy,rfl⟩:=hx;refine ⟨_,encS y.data.toList,rfl,rfl,rfl,⟨by rw [addr_add rfl],fun j v hv=>?_⟩,rfl⟩;rw [addr_add rfl]
 cases j with
 | succ j=>simp [encS] at hv
 | zero =>
  refine ⟨(l.map Value.string).toArray,9,(0,0),?_,?_⟩
  ·show (if W.heap.size < W.heap.size then _ else (W.heap.push _)[W.heap.size]?) = _;rw [if_neg (by omega)]; simp; rfl
  have hv : v = .string (bs y.data.toList):=by simpa [encS] using hv.symm
  subst hv;rw [← bs_of y];simp [hy]
noncomputable def m140 (l : List Bytes) (sep : Bytes) : Option Bytes:=chk (l.length ≤ 1073741824 ∧ (Lib.join l sep).length ≤ 1073741824) (some (Lib.join l sep))
theorem w140 {M : Prop} {W : World} {H : Hp} (hH : H.le (hp W)) (hg : Gv M H) {ad : Option Addr} {cap : Nat} {l : List Bytes} (hl : Sl (Flat encS) 1 H ad cap l) (sep : Bytes) {r : Bytes} (hr : m140 l sep = some r) : Calls Tryz.prog 140 [.slice ad l.length cap,.string (bs sep)].toArray W (RetS M W (.string (bs r))):=by
 unfold m140 at hr;obtain ⟨hb,hr⟩:=chk_some hr;obtain rfl:=Option.some.inj hr;have hx : (l.map bs).map (·.data.toList) = l:=by
  rw [List.map_map]
  conv=>rhs; rw [← List.map_id l]
  exact List.map_congr_left fun x _=>by simp [bs]
 cases l with
 | nil =>
  refine (Any.strings_Join_none Tryz.lays156 Tryz.Builder_Extra_156 ad cap (bs sep) W).mono ?_;rintro e w' ⟨rfl,rfl⟩;exact ⟨by simp [bs,Lib.join_nil],Ext.refl _ _⟩
 | cons x l =>
  obtain ⟨p,cs,rfl,hp0,h2,h3,h4⟩:=hl.2 0 x rfl;obtain ⟨b,o,sp⟩:=p;obtain rfl : sp = none:=hp0;have hcell : ∀ (j : Nat) y,((x :: l).map bs)[j]? = some y → W.cell? ⟨b,o + j,none⟩ = some (.string y):=fun j y hy=>by
   rw [List.getElem?_map,Option.map_eq_some_iff] at hy;obtain ⟨z,hz,rfl⟩:=hy;obtain ⟨p,cs,h1,_,_,h3,h4⟩:=hl.2 j z hz;cases h1;have h4 : cs = encS z:=h4;subst h4;have:=(h3.mono hH).cell (j:=0) (v:=.string (bs z)) rfl;have e : ((⟨b,o,none⟩ : Addr).add (j * 1)).add 0 = ⟨b,o + j,none⟩:=by rw [Nat.mul_one,addr_add (i:=j) rfl]; rfl
   rwa [e] at this
  have hlt : b < W.heap.size:=by
   have h4 : cs = encS x:=h4;subst h4;obtain ⟨c,ty,fz,h5,_⟩:=h3.2 0 (.string (bs x)) rfl;have h6:=hH _ _ h5;rw [Nat.zero_mul,addr_add rfl] at h6;exact (Array.getElem?_eq_some_iff.1 h6).1
  have hn : ((x :: l).map bs).length = (x :: l).length:=List.length_map _;have:=Any.strings_Join Tryz.lays156 Tryz.Builder_Extra_156 b o cap ((x :: l).map bs) (bs sep) W hcell hlt (by rw [hn]; omega) (by rw [hn]; exact hl.1.1) (by rw [hx,show (bs sep).data.toList = sep by simp [bs]]; omega);rw [hx,hn] at this;refine this.mono ?_;rintro e w' ⟨rfl,hw⟩;exact ⟨by simp [bs],Ext.of_below hg.gl.nq hw⟩
end T11
namespace T11
open Go Go.Proofs Pk
theorem J.{u} {α : Sort u} {a : α} : a = a:=rfl
structure Place where
 volume : Int
 from_ : Int
 to_ : Int
 deriving DecidableEq,Inhabited
def encPlace (x : Place) : List Value:=[.int .i64 x.volume,.int .i64 x.from_,.int .i64 x.to_]
structure Heading where
 name : Bytes
 variants : List Bytes
 also : List Bytes
 places : List Place
 deriving DecidableEq,Inhabited
def RHeading : Hp → List Value → Heading → Prop:=fun H cs x=>∃ (ad0 : Option Addr) (cap0 : Nat) (ad1 : Option Addr) (cap1 : Nat) (ad2 : Option Addr) (cap2 : Nat),cs = [.string (bs x.name),.slice ad0 x.variants.length cap0,.slice ad1 x.also.length cap1,.slice ad2 x.places.length cap2] ∧ Sl (Flat encS) 1 H ad0 cap0 x.variants ∧ Sl (Flat encS) 1 H ad1 cap1 x.also ∧ Sl (Flat encPlace) 3 H ad2 cap2 x.places
theorem RHeading.one : OneR RHeading:=fun _ _ _ ⟨_,_,_,_,_,_,h,_⟩=>by subst h; rfl
theorem RHeading.mono : Mono RHeading:=fun _ _ _ _ hk ⟨a0,c0,a1,c1,a2,c2,h,f0,f1,f2⟩=>⟨a0,c0,a1,c1,a2,c2,h,f0.mono (Flat.mono _) hk,f1.mono (Flat.mono _) hk,f2.mono (Flat.mono _) hk⟩
structure grown where
 heading : Heading
 heads : List Bytes
 deriving DecidableEq,Inhabited
def Rgrown : Hp → List Value → grown → Prop:=fun H cs x=>∃ (ad0 : Option Addr) (cap0 : Nat) (ad1 : Option Addr) (cap1 : Nat) (ad2 : Option Addr) (cap2 : Nat) (ad3 : Option Addr) (cap3 : Nat),cs = [.string (bs x.heading.name),.slice ad0 x.heading.variants.length cap0,.slice ad1 x.heading.also.length cap1,.slice ad2 x.heading.places.length cap2,.slice ad3 x.heads.length cap3] ∧ Sl (Flat encS) 1 H ad0 cap0 x.heading.variants ∧ Sl (Flat encS) 1 H ad1 cap1 x.heading.also ∧ Sl (Flat encPlace) 3 H ad2 cap2 x.heading.places ∧ Sl (Flat encS) 1 H ad3 cap3 x.heads
theorem Rgrown.one : OneR Rgrown:=fun _ _ _ ⟨_,_,_,_,_,_,_,_,h,_⟩=>by subst h; rfl
theorem Rgrown.mono : Mono Rgrown:=fun _ _ _ _ hk ⟨a0,c0,a1,c1,a2,c2,a3,c3,h,f0,f1,f2,f3⟩=>⟨a0,c0,a1,c1,a2,c2,a3,c3,h,f0.mono (Flat.mono _) hk,f1.mono (Flat.mono _) hk,f2.mono (Flat.mono _) hk,f3.mono (Flat.mono _) hk⟩
structure odd where
 line : Bytes
 deriving DecidableEq,Inhabited
def encodd (x : odd) : List Value:=[.string (bs x.line)]
structure A2_Int where
 e0 : Int
 e1 : Int
 deriving DecidableEq,Inhabited
def encA2_Int (x : A2_Int) : List Value:=[.int .i64 x.e0,.int .i64 x.e1]
theorem mixed : Tryz.prog.follows .mixedOrders = true:=by kernel_rfl
theorem B64 : BuildAt Tryz.prog 64 [.string (bs []),.slice none 0 0,.slice none 0 0,.slice none 0 0] #[(0,1),(1,1),(2,1),(3,1)]:=⟨⟨.agg [.string (bs []),.slice none 0 0,.slice none 0 0,.slice none 0 0].toArray,rfl,Tryz.zeroValue64⟩,⟨_,Tryz.underlying64,fun _=>by kernel_rfl⟩⟩
theorem B81 : BuildAt Tryz.prog 81 [.int .i64 0,.int .i64 0,.int .i64 0] #[(0,1),(1,1),(2,1)]:=⟨⟨.agg [.int .i64 0,.int .i64 0,.int .i64 0].toArray,rfl,Tryz.zeroValue81⟩,⟨_,Tryz.underlying81,fun _=>by kernel_rfl⟩⟩
theorem B98 : BuildAt Tryz.prog 98 [.string (bs []),.slice none 0 0,.slice none 0 0,.slice none 0 0,.slice none 0 0] #[(0,4),(4,1)]:=⟨⟨.agg [.string (bs []),.slice none 0 0,.slice none 0 0,.slice none 0 0,.slice none 0 0].toArray,rfl,Tryz.zeroValue98⟩,⟨_,Tryz.underlying98,fun _=>by kernel_rfl⟩⟩
theorem B111 : BuildAt Tryz.prog 111 [.string (bs [])] #[(0,1)]:=⟨⟨.agg [.string (bs [])].toArray,rfl,Tryz.zeroValue111⟩,⟨_,Tryz.underlying111,fun _=>by kernel_rfl⟩⟩
theorem B121 : BuildArr Tryz.prog 121 3 [.int .i64 0,.int .i64 0] 1:=⟨⟨.agg [.int .i64 0,.int .i64 0].toArray,rfl,Tryz.zeroValue121⟩,⟨_,Tryz.underlying121⟩,Tryz.sizeOf3⟩
theorem E26 : ElemAt Tryz.prog 26 64 [.string (bs []),.slice none 0 0,.slice none 0 0,.slice none 0 0] 4 88:=⟨Tryz.underlying26,⟨_,.agg [.string (bs []),.slice none 0 0,.slice none 0 0,.slice none 0 0].toArray,info_of Tryz.type64,rfl,rfl,rfl,rfl⟩,rfl,by decide⟩
theorem E30 : ElemAt Tryz.prog 30 26 [.slice none 0 0] 1 24:=⟨Tryz.underlying30,⟨_,.slice none 0 0,info_of Tryz.type26,rfl,rfl,rfl,rfl⟩,rfl,by decide⟩
theorem E37 : ElemAt Tryz.prog 37 5 [.int .u8 0] 1 1:=⟨Tryz.underlying37,⟨_,.int .u8 0,info_of Tryz.type5,rfl,rfl,rfl,rfl⟩,rfl,by decide⟩
theorem E50 : ElemAt Tryz.prog 50 9 [.string (bs [])] 1 16:=⟨Tryz.underlying50,⟨_,.string (bs []),info_of Tryz.type9,rfl,rfl,rfl,rfl⟩,rfl,by decide⟩
theorem E62 : ElemAt Tryz.prog 62 81 [.int .i64 0,.int .i64 0,.int .i64 0] 3 24:=⟨Tryz.underlying62,⟨_,.agg [.int .i64 0,.int .i64 0,.int .i64 0].toArray,info_of Tryz.type81,rfl,rfl,rfl,rfl⟩,rfl,by decide⟩
theorem E125 : ElemAt Tryz.prog 125 3 [.int .i64 0] 1 8:=⟨Tryz.underlying125,⟨_,.int .i64 0,info_of Tryz.type3,rfl,rfl,rfl,rfl⟩,rfl,by decide⟩
theorem E134 : ElemAt Tryz.prog 134 50 [.slice none 0 0] 1 24:=⟨Tryz.underlying134,⟨_,.slice none 0 0,info_of Tryz.type50,rfl,rfl,rfl,rfl⟩,rfl,by decide⟩
theorem Q81 : EqAt Tryz.prog 81 encPlace:=⟨fun x y w=>by
 have h0 : Tryz.prog.underlying 81 = some (.struct (Tryz.prog.fieldsOf 81)):=by kernel_rfl
 rw [run_equalIn_struct w 9999 81 _ _ h0 (by kernel_rfl)];simp only [Program.fieldsOf,Tryz.underlying81];have e : (x = y) = (x.volume = y.volume ∧ x.from_ = y.from_ ∧ x.to_ = y.to_):=by cases x; cases y; simp
 simp only [e];simp [Op.eqFields,encPlace,part,Tryz.isAgg3,eqI9 Tryz.underlying3,eqI9 Tryz.underlying3,eqI9 Tryz.underlying3]
 by_cases h0 : x.volume = y.volume <;> by_cases h1 : x.from_ = y.from_ <;> by_cases h2 : x.to_ = y.to_ <;> simp [h0,h1,h2],by kernel_rfl⟩
end T11
set_option maxHeartbeats 4000000
namespace T11
open Go Go.Proofs Pk
abbrev GA:=Nat × Adr × Adr × Adr × Adr
def gcs (a : GA) (y : grown) : List Value:=[.string (bs y.heading.name),.slice a.2.1.1 y.heading.variants.length a.2.1.2,.slice a.2.2.1.1 y.heading.also.length a.2.2.1.2,.slice a.2.2.2.1.1 y.heading.places.length a.2.2.2.1.2,.slice a.2.2.2.2.1 y.heads.length a.2.2.2.2.2]
def entG (a : GA) (y : grown) : List Own:=[cel a.1 98 (gcs a y),.list a.2.1.1 a.2.1.2 9 1 encS y.heading.variants,.list a.2.2.1.1 a.2.2.1.2 9 1 encS y.heading.also,.list a.2.2.2.1.1 a.2.2.2.1.2 81 3 encPlace y.heading.places,.list a.2.2.2.2.1 a.2.2.2.2.2 9 1 encS y.heads]
def hvG (a : GA) (y : grown) : Value:=.pointer (some ⟨a.1,0,none⟩)
def zeroG : grown:=⟨⟨[],[],[],[]⟩,[]⟩
section
variable {hs : List (Bytes × Value)} {az : List GA} {m : List (Bytes × grown)} {key : Bytes}
theorem lookG (h : Fam hvG hs az m) {y : grown} (hy : lkp m key = some y) : ∃ j b a1 c1 a2 c2 a3 c3 a4 c4,az[j]? = some (b,(a1,c1),(a2,c2),(a3,c3),(a4,c4)) ∧ m[j]? = some (key,y) ∧ (lkp hs key).getD (.pointer none) = .pointer (some ⟨b,0,none⟩) ∧ ∀ y',put m key y' = m.set j (key,y'):=by
 rcases h.lkp key with ⟨e,_⟩ | ⟨j,a,y',ha,hm,e1,e2,_,e4⟩
 ·rw [e] at hy; cases hy
 rw [e1] at hy; cases hy;obtain ⟨b,⟨a1,c1⟩,⟨a2,c2⟩,⟨a3,c3⟩,⟨a4,c4⟩⟩:=a;exact ⟨j,b,a1,c1,a2,c2,a3,c3,a4,c4,ha,hm,by rw [e2]; rfl,e4⟩
theorem ptrG (h : Fam hvG hs az m) (key : Bytes) : ((lkp hs key).getD (.pointer none) = .pointer none ∧ (!(lkp m key).isSome) = true) ∨ ((∃ q,(lkp hs key).getD (.pointer none) = .pointer (some q)) ∧ (!(lkp m key).isSome) = false):=by
 rcases h.lkp key with ⟨e,e2⟩ | ⟨j,a,y',ha,hm,e1,e2,_,e4⟩
 ·exact .inl ⟨by simp [e2],by simp [e]⟩
 exact .inr ⟨⟨_,by rw [e2]; rfl⟩,by simp [e1]⟩
theorem atG (h : Fam hvG hs az m) {j : Nat} {q : Bytes × grown} (hq : m[j]? = some q) : ∃ b a1 c1 a2 c2 a3 c3 a4 c4,az[j]? = some (b,(a1,c1),(a2,c2),(a3,c3),(a4,c4)) ∧ hs[j]? = some (q.1,.pointer (some ⟨b,0,none⟩)):=by
 obtain ⟨a,ha,hh⟩:=h.at hq;obtain ⟨b,⟨a1,c1⟩,⟨a2,c2⟩,⟨a3,c3⟩,⟨a4,c4⟩⟩:=a;exact ⟨b,a1,c1,a2,c2,a3,c3,a4,c4,ha,hh⟩
theorem focG (A : Owns) {B : Owns} (t1 t2 t3 t4 t5 : Nat) {j b : Nat} {a1 a2 a3 a4 : Option Addr} {c1 c2 c3 c4 : Nat} {q : Bytes × grown} (ha : az[j]? = some (b,(a1,c1),(a2,c2),(a3,c3),(a4,c4))) (hm : m[j]? = some q) {x : Fr} {Hs : List Hp} {L : Env} {N : Cont}
  (h : TG x Hs ((t1,cel b 98 [.string (bs q.2.heading.name),.slice a1 q.2.heading.variants.length c1,.slice a2 q.2.heading.also.length c2,.slice a3 q.2.heading.places.length c3,.slice a4 q.2.heads.length c4]) :: (t2,.list a1 c1 9 1 encS q.2.heading.variants) :: (t3,.list a2 c2 9 1 encS q.2.heading.also) :: (t4,.list a3 c3 81 3 encPlace q.2.heading.places) :: (t5,.list a4 c4 9 1 encS q.2.heads) :: (A ++ (famO entG (az.eraseIdx j) (m.eraseIdx j) ++ B))) L N) : TG x Hs (A ++ (famO entG az m ++ B)) L N :=
 TG.famF (ent:=entG) A [t1,t2,t3,t4,t5] ha (show m[j]? = some (q.1,q.2) from hm) rfl h
theorem insF (h : Fam hvG hs az m) (hn : (lkp m key).isSome = false) (b : Nat) : Fam hvG (put hs key (.pointer (some ⟨b,0,none⟩))) (az ++ [(b,(none,0),(none,0),(none,0),(none,0))]) (put m key zeroG):=by
 have e : lkp m key = none:=by simpa using hn
 rcases h.lkp key with ⟨_,e2⟩ | ⟨j,a,y',ha,hm,e1,_⟩
 ·rw [put_none _ e,put_none _ e2]; exact h.snoc key (b,(none,0),(none,0),(none,0),(none,0)) zeroG
 rw [e] at e1; cases e1
theorem updF (h : Fam hvG hs az m) {j b : Nat} {p q r s p' q' r' s' : Adr} {y y' : grown} (ha : az[j]? = some (b,p,q,r,s)) (hm : m[j]? = some (key,y)) {m' : List (Bytes × grown)} (hp : m' = m.set j (key,y')) : Fam hvG hs (az.set j (b,p',q',r',s')) m':=by
 rw [hp]; exact h.upd ha hm rfl
variable {x : Fr} {Hs : List Hp} {L : Env} {N : Cont} {B : Owns}
theorem insG (A : Owns) {A' : Owns} (t : Nat) {b : Nat} (h : Fam hvG hs az m) (hn : (lkp m key).isSome = false) (ht : getO A t = some (cel b 98 [.string (bs []),.slice none 0 0,.slice none 0 0,.slice none 0 0,.slice none 0 0])) (hA : delO A t = A')
  (h2 : TG x Hs (A' ++ (famO entG (az ++ [(b,(none,0),(none,0),(none,0),(none,0))]) (put m key zeroG) ++ B)) L N) : TG x Hs (A ++ (famO entG az m ++ B)) L N:=by
 have e : lkp m key = none:=by simpa using hn
 rw [put_none _ e] at h2
 refine TG.famI A [.row none 0 9 1 0 [],.row none 0 9 1 0 [],.row none 0 81 3 0 [],.row none 0 9 1 0 []] (a:=(b,(none,0),(none,0),(none,0),(none,0))) (k:=key) (y:=zeroG) ?_ (by
  intro z hz;simp only [List.mem_cons,List.not_mem_nil,or_false] at hz
  rcases hz with rfl | rfl | rfl | rfl <;> exact ⟨_,_,rfl⟩) h.len h2
 subst hA;refine (List.Perm.append_left _ (delO_perm ht).symm).trans ?_;exact List.perm_middle
theorem backG (A : Owns) {A' : Owns} (t1 t2 t3 t4 t5 : Nat) {j b b0 : Nat} {p q r s p' q' r' s' : Adr} {y y' : grown} {cs : List Value} (ha : az[j]? = some (b0,p,q,r,s)) (hm : m[j]? = some (key,y)) {m' : List (Bytes × grown)} (hp : m' = m.set j (key,y')) (hcs : gcs (b,p',q',r',s') y' = cs)
  (h1 : getO A t1 = some (cel b 98 cs)) (h2 : getO (delO A t1) t2 = some (.list p'.1 p'.2 9 1 encS y'.heading.variants)) (h3 : getO (delO (delO A t1) t2) t3 = some (.list q'.1 q'.2 9 1 encS y'.heading.also)) (h4 : getO (delO (delO (delO A t1) t2) t3) t4 = some (.list r'.1 r'.2 81 3 encPlace y'.heading.places)) (h5 : getO (delO (delO (delO (delO A t1) t2) t3) t4) t5 = some (.list s'.1 s'.2 9 1 encS y'.heads)) (hA : delO (delO (delO (delO (delO A t1) t2) t3) t4) t5 = A')
  (h : TG x Hs (A' ++ (famO entG (az.set j (b,p',q',r',s')) m' ++ B)) L N) : TG x Hs (A ++ (famO entG (az.eraseIdx j) (m.eraseIdx j) ++ B)) L N:=by
 subst hcs;rw [hp] at h;exact TG.famB A (del1 h1 (del1 h2 (del1 h3 (del1 h4 (del1 h5 (del0 hA)))))) (lt_of ha) (lt_of hm) h
def Mg (K : Hp) (b : Nat) (hs : List (Bytes × Value)) (az : List GA) (m : List (Bytes × grown)) : Prop :=
 Mp keS (fun v : Value=>v) K (.map (some b)) hs ∧ ∀ (j : Nat) (a : GA) (q : Bytes × grown),az[j]? = some a → m[j]? = some q → CellsAt K ⟨a.1,0,none⟩ (gcs a q.2) ∧ Sl (Flat encS) 1 K a.2.1.1 a.2.1.2 q.2.heading.variants ∧ Sl (Flat encS) 1 K a.2.2.1.1 a.2.2.1.2 q.2.heading.also ∧ Sl (Flat encS) 1 K a.2.2.2.2.1 a.2.2.2.2.2 q.2.heads
theorem Mg.mono {H K : Hp} {b : Nat} (h : Mg H b hs az m) (hk : H.le K) : Mg K b hs az m:=⟨h.1.mono hk,fun j a q ha hm=>by
 obtain ⟨h1,h2,h3,h4⟩:=h.2 j a q ha hm
 exact ⟨h1.mono hk,h2.mono (Flat.mono _) hk,h3.mono (Flat.mono _) hk,h4.mono (Flat.mono _) hk⟩⟩
theorem Mg.at {K : Hp} {b : Nat} (h : Mg K b hs az m) (hF : Fam hvG hs az m) {j : Nat} {q : Bytes × grown} (hm : m[j]? = some q) : ∃ b' a1 c1 a2 c2 a3 c3 a4 c4,az[j]? = some (b',(a1,c1),(a2,c2),(a3,c3),(a4,c4)) ∧ hs[j]? = some (q.1,.pointer (some ⟨b',0,none⟩)) ∧ CellsAt K ⟨b',0,none⟩ [.string (bs q.2.heading.name),.slice a1 q.2.heading.variants.length c1,.slice a2 q.2.heading.also.length c2,.slice a3 q.2.heading.places.length c3,.slice a4 q.2.heads.length c4] ∧ Sl (Flat encS) 1 K a1 c1 q.2.heading.variants ∧ Sl (Flat encS) 1 K a2 c2 q.2.heading.also ∧ Sl (Flat encS) 1 K a4 c4 q.2.heads:=by
 obtain ⟨a,ha,hh⟩:=hF.at hm;have h1:=h.2 j a q ha hm;obtain ⟨b',⟨a1,c1⟩,⟨a2,c2⟩,⟨a3,c3⟩,⟨a4,c4⟩⟩:=a;exact ⟨b',a1,c1,a2,c2,a3,c3,a4,c4,ha,hh,h1.1,h1.2.1,h1.2.2.1,h1.2.2.2⟩
theorem Mg.look {K : Hp} {b : Nat} (h : Mg K b hs az m) (hF : Fam hvG hs az m) {y : grown} (hy : lkp m key = some y) : ∃ b' a1 c1 a2 c2 a3 c3 a4 c4,(lkp hs key).getD (.pointer none) = .pointer (some ⟨b',0,none⟩) ∧ CellsAt K ⟨b',0,none⟩ [.string (bs y.heading.name),.slice a1 y.heading.variants.length c1,.slice a2 y.heading.also.length c2,.slice a3 y.heading.places.length c3,.slice a4 y.heads.length c4]:=by
 obtain ⟨j,b',a1,c1,a2,c2,a3,c3,a4,c4,ha,hm,e,_⟩:=lookG hF hy;exact ⟨b',a1,c1,a2,c2,a3,c3,a4,c4,e,(h.2 j _ _ ha hm).1⟩
def plO (az : List GA) (m : List (Bytes × grown)) (seen : List Nat) : Owns:=(((az.zip m).zipIdx.filter fun q=>!seen.contains q.2).flatMap fun q=>[Own.list q.1.1.2.2.2.1.1 q.1.1.2.2.2.1.2 81 3 encPlace q.1.2.2.heading.places]).map fun o=>(1000000,o)
theorem plO_snd (az : List GA) (m : List (Bytes × grown)) (seen : List Nat) : (plO az m seen).map Prod.snd = ((az.zip m).zipIdx.filter fun q=>!seen.contains q.2).flatMap fun q=>[Own.list q.1.1.2.2.2.1.1 q.1.1.2.2.2.1.2 81 3 encPlace q.1.2.2.heading.places]:=by
 simp only [plO,List.map_map,Function.comp_def,List.map_id']
theorem filt_perm {α : Type} {seen : List Nat} {q : α} {i : Nat} : ∀ {zs : List (α × Nat)},(zs.map Prod.snd).Nodup → (q,i) ∈ zs → i ∉ seen → (zs.filter fun q=>!seen.contains q.2).Perm ((q,i) :: zs.filter fun q=>!(seen ++ [i]).contains q.2)
 | [],_,h,_=>by cases h
 | (p,j) :: zs,hn,hm,hi=>by
  simp only [List.map_cons,List.nodup_cons] at hn;rcases List.mem_cons.1 hm with e | hm'
  ·cases e;have e1 : (!seen.contains i) = true:=by simpa using hi
   have e2 : (!(seen ++ [i]).contains i) = false:=by simp
   rw [List.filter_cons_of_pos (by simpa using hi),List.filter_cons_of_neg (by simp)];refine List.Perm.cons _ ?_;rw [List.filter_congr (fun (u : α × Nat) hu=>?_)];have hne : u.2 ≠ i:=fun e=>hn.1 (e ▸ List.mem_map.2 ⟨u,hu,rfl⟩);simp [hne]
  have hne : j ≠ i:=fun e=>hn.1 (e ▸ List.mem_map.2 ⟨(q,i),hm',rfl⟩);have ih:=filt_perm hn.2 hm' hi;by_cases hj : j ∈ seen
  ·rw [List.filter_cons_of_neg (by simpa using hj),List.filter_cons_of_neg (by simp [hj])];exact ih
  rw [List.filter_cons_of_pos (by simpa using hj),List.filter_cons_of_pos (by simp [hj,hne])];exact (ih.cons _).trans (List.Perm.swap _ _ _)
theorem TG.dropM {A F : Owns} (h : TG x Hs (A ++ B) L N) : TG x Hs (A ++ (F ++ B)) L N:=by
 refine TG.permO (σ':=(A ++ B) ++ F) ?_ (TG.dropF h);simp only [List.map_append,List.append_assoc];exact List.Perm.append_left _ List.perm_append_comm
theorem plF (A : Owns) (tp : Nat) {seen : List Nat} {i b : Nat} {a1 a2 a4 : Adr} {a3 : Option Addr} {c3 : Nat} {q : Bytes × grown} (ha : az[i]? = some (b,a1,a2,(a3,c3),a4)) (hm : m[i]? = some q) (hni : i ∉ seen) (h : TG x Hs ((tp,.list a3 c3 81 3 encPlace q.2.heading.places) :: (A ++ (plO az m (seen ++ [i]) ++ B))) L N) : TG x Hs (A ++ (plO az m seen ++ B)) L N:=by
 refine TG.permO ?_ h;simp only [List.map_cons,List.map_append,plO_snd];have hz : ((b,a1,a2,(a3,c3),a4),q) ∈ az.zip m:=List.mem_of_getElem? (zip_at ha hm);have hz2 : (((b,a1,a2,(a3,c3),a4),q),i) ∈ (az.zip m).zipIdx:=by
  rw [List.mem_zipIdx_iff_getElem?]; exact zip_at ha hm
 have hp:=filt_perm (seen:=seen) (zs:=(az.zip m).zipIdx) (by
  rw [List.zipIdx_map_snd]; exact List.nodup_range') hz2 hni
 have hf:=hp.flatMap_right (fun q : (GA × (Bytes × grown)) × Nat=>[Own.list q.1.1.2.2.2.1.1 q.1.1.2.2.2.1.2 81 3 encPlace q.1.2.2.heading.places]);refine List.Perm.trans ?_ (List.Perm.append_left _ (hf.symm.append_right _));simp only [List.flatMap_cons,List.cons_append,List.nil_append];exact List.perm_middle.symm
theorem lieG (A : Owns) (t : Nat) {b : Nat} (hF : Fam hvG hs az m) (ht : getO A t = some (Own.map' keS (fun v : Value=>v) b hs)) (h : ∀ K,Mg K b hs az m → TG x (K :: Hs) (delO A t ++ (plO az m [] ++ B)) L N) : TG x Hs (A ++ (famO entG az m ++ B)) L N:=by
 refine TG.lie (F:=Own.map' keS (fun v : Value=>v) b hs :: (az.zip m).flatMap fun q=>[cel q.1.1 98 (gcs q.1 q.2.2),.list q.1.2.1.1 q.1.2.1.2 9 1 encS q.2.2.heading.variants,.list q.1.2.2.1.1 q.1.2.2.1.2 9 1 encS q.2.2.heading.also,.list q.1.2.2.2.2.1 q.1.2.2.2.2.2 9 1 encS q.2.2.heads]) (Φ:=fun K=>Mg K b hs az m) ?_ (fun K w hK=>?_) h
 ·rw [List.map_append,List.map_append,famO_snd,List.map_append,List.map_append,plO_snd];have e1 : ((az.zip m).zipIdx.filter fun q=>!([] : List Nat).contains q.2) = (az.zip m).zipIdx:=by simp
  have e2 : ((az.zip m).zipIdx.flatMap fun q=>[Own.list q.1.1.2.2.2.1.1 q.1.1.2.2.2.1.2 81 3 encPlace q.1.2.2.heading.places]) = (az.zip m).flatMap fun q=>[Own.list q.1.2.2.2.1.1 q.1.2.2.2.1.2 81 3 encPlace q.2.2.heading.places]:=by
   have : (az.zip m).zipIdx.map Prod.fst = az.zip m:=List.zipIdx_map_fst 0 _
   conv=>rhs; rw [← this]
   rw [List.flatMap_map]
  rw [e1,e2];have e3 : ∀ l : List (GA × (Bytes × grown)),(l.flatMap fun q=>entG q.1 q.2.2).Perm ((l.flatMap fun q=>[cel q.1.1 98 (gcs q.1 q.2.2),.list q.1.2.1.1 q.1.2.1.2 9 1 encS q.2.2.heading.variants,.list q.1.2.2.1.1 q.1.2.2.1.2 9 1 encS q.2.2.heading.also,.list q.1.2.2.2.2.1 q.1.2.2.2.2.2 9 1 encS q.2.2.heads]) ++ l.flatMap fun q=>[Own.list q.1.2.2.2.1.1 q.1.2.2.2.1.2 81 3 encPlace q.2.2.heading.places]):=by
   intro l
   induction l with
   | nil=>exact List.Perm.refl _
   | cons q l ih =>
    simp only [List.flatMap_cons,entG,List.cons_append,List.nil_append];refine List.Perm.cons _ (List.Perm.cons _ (List.Perm.cons _ ?_));refine List.Perm.trans (List.Perm.cons _ (List.Perm.cons _ ih)) ?_;refine List.Perm.trans (List.Perm.swap _ _ _) (List.Perm.cons _ ?_);exact List.perm_middle.symm
  refine (List.Perm.append (delO_perm ht).symm ((e3 _).append_right _)).trans ?_;rw [List.cons_append,List.cons_append,List.append_assoc];refine List.Perm.cons _ ?_;exact List.perm_append_comm_assoc _ _ _
 have h0:=hK _ List.mem_cons_self;refine ⟨.inl ⟨b,rfl,h0.2 b rfl _ h0.1⟩,fun j a q ha hm=>?_⟩;have hz : (a,q) ∈ az.zip m:=List.mem_of_getElem? (zip_at ha hm);have hin : ∀ z,z ∈ [cel a.1 98 (gcs a q.2),Own.list a.2.1.1 a.2.1.2 9 1 encS q.2.heading.variants,.list a.2.2.1.1 a.2.2.1.2 9 1 encS q.2.heading.also,.list a.2.2.2.2.1 a.2.2.2.2.2 9 1 encS q.2.heads] → z.holds w ∧ ∀ c,z.foot = some c → ∀ o,w.heap[c]? = some o → K c = some o:=fun z hzz=>hK z (List.mem_cons_of_mem _ (List.mem_flatMap.2 ⟨(a,q),hz,hzz⟩));have h1:=hin _ (by simp : cel a.1 98 (gcs a q.2) ∈ _);have h2:=hin (Own.list a.2.1.1 a.2.1.2 9 1 encS q.2.heading.variants) (by simp);have h3:=hin (Own.list a.2.2.1.1 a.2.2.1.2 9 1 encS q.2.heading.also) (by simp);have h4:=hin (Own.list a.2.2.2.2.1 a.2.2.2.2.2 9 1 encS q.2.heads) (by simp);refine ⟨⟨rfl,fun i v hi=>⟨(gcs a q.2).toArray,98,(0,0),h1.2 a.1 rfl _ h1.1,by simpa using hi⟩⟩,list_sl (enc:=encS) (size:=1) (fun _=>rfl) h2.1 (fun c hc o ho=>h2.2 c hc o ho),list_sl (enc:=encS) (size:=1) (fun _=>rfl) h3.1 (fun c hc o ho=>h3.2 c hc o ho),list_sl (enc:=encS) (size:=1) (fun _=>rfl) h4.1 (fun c hc o ho=>h4.2 c hc o ho)⟩
end
end T11
set_option maxHeartbeats 4000000
namespace Go.Proofs
open Go Go.Shelf Go.RowKit Pk
set_option maxRecDepth 100000 in
theorem Tryz.grow125 : GrowC Tryz.prog 125 9 1:=by
 intro w n hn;by_cases h0 : n = 0
 ·subst h0;refine Calls.mono (R:=fun e w'=>e = .returned (.slice none 0 0) ∧ w' = w) ?_ fun e w' h=>by
   obtain ⟨rfl,rfl⟩:=h;exact ⟨none,0,rfl,⟨by simp,.inl ⟨rfl,rfl⟩⟩,fun M=>Ext.refl M _,fun b hb=>by cases hb⟩
  go_enter Tryz.func125,Tryz.ntmps125
  go_wp2
  go_ret
  exact ⟨rfl,rfl⟩
 obtain ⟨i,z,hi,hz,hc,hs,hb⟩:=T11.E50.info;have hzs : z.cells.size = 1:=by
  have:=congrArg List.length hc;rw [T11.E50.zl] at this;rw [cells_L]; simpa using this
 obtain ⟨Y,hY⟩ : ∃ Y,Y = Builtin.zeroCells z.cells n ++ Builtin.zeroCells z.cells (grownCap w n 0 9 - n):=⟨_,rfl⟩;have hrun : ∀ ty,(Builtin.append_ #[50,3] ty #[.slice none 0 0,.int .i64 n]).run Tryz.prog w = .ok (.slice (some ⟨w.heap.size,0,none⟩) n (grownCap w n 0 9)) (w.drew.alloc (.cells Y 9)):=fun ty=>by
  rw [hY]; exact Lib.run_append_nil_zeros (P:=Tryz.prog) w 50 3 ty 9 i z .i64 .i64 Tryz.underlying50 Tryz.underlying3 hi hz n (by omega) (by omega) (by omega) (by rw [hb]; omega)
 obtain ⟨G,hG⟩ : ∃ G,G = grownCap w n 0 9:=⟨_,rfl⟩;have hgr:=grow_row (w:=w) (el:=9) hzs hn;rw [← hY] at hgr;rw [← hG] at hrun hgr;obtain ⟨W1,hW1⟩ : ∃ W1,W1 = w.drew.alloc (.cells Y 9):=⟨_,rfl⟩;have hE : ∀ M,Ext M w W1:=fun M=>by rw [hW1]; exact ext_drew M w _
 rw [← hW1] at hrun hgr;clear hW1 hY hG hzs hb hs hc hz hi;refine Calls.mono (R:=fun e w'=>e = .returned (.slice (some ⟨w.heap.size,0,none⟩) 0 G) ∧ w' = W1) ?_ fun e w' h=>by
  obtain ⟨rfl,rfl⟩:=h;exact ⟨_,_,rfl,hgr,hE,fun b hb=>by simp at hb; omega⟩
 clear hgr hE;have h1 : ¬ ((n : Int) < 0):=by omega
 have h4 : (0 : Int) < (n : Int):=by omega
 have h3 : IntKind.i64.wrap (n : Int) = (n : Int):=by rw [IntKind.wrap_i64]; omega
 go_enter Tryz.func125,Tryz.ntmps125
 go_wp2_with (at_builtin; refine Lib.wpList_append_run _ rfl _ _ _ _ rfl _ _ rfl rfl _ _ (hrun _) ?_)
 go_ret
 exact ⟨rfl,rfl⟩
end Go.Proofs
set_option maxHeartbeats 4000000
namespace Go.Proofs
open Go Go.Shelf Go.RowKit Pk Go.Sort
theorem cpt_le (l : List Bytes) : (Lib.compact l).length ≤ l.length:=by
 unfold Lib.compact Lib.compactUpTo;rw [List.length_map];exact Nat.le_trans (List.length_filter_le _ _) (by simp)
theorem cpt0 (l : List Bytes) : l = [] → Lib.compact l = []:=by rintro rfl; rfl
theorem grow_nil (w : World) : Sort.grow w #[] = w:=by
 show { w with heap:=w.heap ++ #[] } = w;simp
theorem Tryz.cpt92 (l : List Bytes) (hl : l.length ≤ 9223372036854775807) (w : World) (V : Hp) : RowC Tryz.prog 92 [] l (Lib.compact l) w V:=by
 refine ⟨fun h a cap=>?_,fun blk cap _ hH hc=>?_⟩
 ·exact Any.slices_Compact_string_empty Tryz.lays194 a cap w
 refine (Any.slices_Compact_string Tryz.lays194 blk 0 cap l w hH hl hc).mono ?_;rintro e w' ⟨rfl,q,rfl⟩;refine ⟨rfl,q,#[],List.replicate (l.length - (Lib.compact l).length) [],?_,?_⟩
 ·unfold sortWorld;rw [grow_nil]; rfl
 rw [List.length_append,List.length_replicate];have:=cpt_le l;omega
end Go.Proofs
set_option maxHeartbeats 4000000
namespace Go.Proofs
open Go Go.Shelf Go.RowKit Pk Go.Sort
theorem gives93 (x but : Bytes) (q : Addr) (W : World) (hc : W.cell? q = some (.string (bs but))) : Calls Tryz.prog 93 (#[str1 x] ++ #[.pointer (some q)]) W fun e w'=>e = .returned (.bool (decide (x = but))) ∧ ∃ n,w' = W.drewN n:=by
 show Calls Tryz.prog 93 #[.string (bs x),.pointer (some q)] W _;refine Calls.mono (R:=fun e w'=>e = .returned (.bool (decide (x = but))) ∧ w' = W) ?_ fun e w' h=>⟨h.1,0,h.2⟩
 go_enter Tryz.func93,Tryz.ntmps93
 go_wp2
 go_ret
 refine ⟨?_,rfl⟩;show Ending.returned (.bool ((bs x).toList == (bs but).toList)) = _;rw [bs_toList,bs_toList];by_cases h : x = but <;> simp [h]
theorem below_sort {w : World} {blk n : Nat} {os : Array Obj} {dk : Array Bytes} {b : Nat} (hb : b < w.heap.size) (hne : b ≠ blk) : (sortWorld str1 w blk 0 n dk os).heap[b]? = w.heap[b]?:=by
 show ((Sort.putRow str1 (Sort.ahead w n) blk 0 dk).heap ++ os)[b]? = _;rw [Array.getElem?_append_left (by simp [Sort.putRow,Sort.mapBlock,Sort.ahead]; exact hb)];exact (mapBlock_other (w:=Sort.ahead w n) hne)
theorem oneS : OneCell str1:=fun _=>rfl
theorem Tryz.del91 (l : List Bytes) (hl : l.length ≤ 9223372036854775807) (but : Bytes) (q : Addr) (w : World) (V : Hp) (hV : V.le (hp w)) (hq : CellsAt V q [.string (bs but)]) :
  RowC Tryz.prog 91 [.func (.func 93) #[] #[.pointer (some q)]] l (l.filter fun x=>!decide (x = but)) w V:=by
 obtain ⟨c,t,z,h1,h2⟩:=hq.2 0 _ rfl;have hw:=hV _ _ h1;have hlt : q.block < w.heap.size:=(Array.getElem?_eq_some_iff.1 hw).1;have hcell : ∀ W : World,W.heap[q.block]? = w.heap[q.block]? → W.cell? q = some (.string (bs but)):=fun W hW=>by
  obtain ⟨b,o,s⟩:=q;obtain rfl : s = none:=hq.1;unfold World.cell?;simp only [hW];have hw : w.heap[b]? = _:=hw;rw [hw];simpa using h2
 refine ⟨fun h a cap=>?_,fun blk cap hb hH hc=>?_⟩
 ·show Calls Tryz.prog 91 #[.slice a 0 cap,.func (.func 93) #[] #[.pointer (some q)]] w _;have e127:=Tryz.call127;have hI : ∀ fv w,Calls Tryz.prog 127 #[.slice a 0 cap,fv] w fun e w'=>e = .returned (.int .i64 (-1)) ∧ w' = w:=fun fv w=>AnyE.slices_IndexFunc_empty Tryz.laysSlH6_f127 a cap fv w
  go_enter Tryz.func91,Tryz.ntmps91
  go_wp2_with (go_at_fn 127; refine (hI _ _).mono ?_; rintro e w' ⟨rfl,rfl⟩)
  refine (hI _ _).mono ?_;rintro e w' ⟨rfl,rfl⟩
  go_wp2
  go_ret
  exact ⟨rfl,rfl⟩
 have hne : q.block ≠ blk:=by rintro rfl; rw [hb] at h1; cases h1
 have hcon:=AnyE.slices_DeleteFunc Tryz.laysSlH10_f91 str1 oneS (fun x=>decide (x = but)) 93 #[.pointer (some q)] Tryz.call93 [] Tryz.zeroValue9 blk 0 cap l.toArray w
  (fun W x hb=>gives93 x but q W (hcell W (hb.block _ hlt))) (fun n os dk x _=>gives93 x but q _ (hcell _ (below_sort hlt hne))) hH (by simpa using hl) (by simpa using hc)
 have hsz : l.toArray.size = l.length:=by simp
 rw [hsz] at hcon;refine hcon.mono ?_;rintro e w' ⟨rfl,n,rfl⟩;refine ⟨rfl,n,#[],List.replicate (l.length - (l.filter fun x=>!decide (x = but)).length) [],?_,?_⟩
 ·unfold sortWorld;rw [grow_nil]
 rw [List.length_append,List.length_replicate];have:=List.length_filter_le (fun x=>!decide (x = but)) l;omega
end Go.Proofs
namespace Go.Proofs
open Go.Shelf Go.RowKit
def Tryz.laysSlF6_f90_ren : Go.Shelf.Ren:=⟨fun | 6=>90 | 15=>98 | 14=>126 | 28=>137 | 29=>138 | 20=>158 | 21=>159 | 22=>160 | 23=>161 | 24=>162 | 25=>163 | 26=>164 | 27=>165 | 46=>202 | 47=>175 | 48=>176 | 49=>203 | 50=>204 | 57=>221 | n=>n,fun | 22=>50 | 24=>9 | 25=>100 | 3=>3 | 39=>143 | 0=>0 | 53=>176 | 55=>178 | 4=>4 | 46=>170 | 45=>169 | 50=>123 | 5=>5 | 9=>9 | 66=>197 | 70=>201 | 76=>223 | 77=>224 | n=>n,fun | n=>n⟩
theorem Tryz.laysSlF6_f90 : Go.Proofs.SlLaysF.n6 Tryz.prog Tryz.laysSlF6_f90_ren:={
 mixed:=by kernel_rfl
 f6:=⟨Tryz.f90.name,by decide,Tryz.func90.trans (congrArg some (by kernel_rfl))⟩
 f14:=⟨Tryz.f126.name,by decide,Tryz.func126.trans (congrArg some (by kernel_rfl))⟩
 f15:=Tryz.func98.trans (congrArg some (by kernel_rfl))
 f20:=⟨Tryz.f158.name,by decide,Tryz.func158.trans (congrArg some (by kernel_rfl))⟩
 f21:=⟨Tryz.f159.name,by decide,Tryz.func159.trans (congrArg some (by kernel_rfl))⟩
 f22:=⟨Tryz.f160.name,by decide,Tryz.func160.trans (congrArg some (by kernel_rfl))⟩
 f23:=⟨Tryz.f161.name,by decide,Tryz.func161.trans (congrArg some (by kernel_rfl))⟩
 f24:=⟨Tryz.f162.name,by decide,Tryz.func162.trans (congrArg some (by kernel_rfl))⟩
 f25:=⟨Tryz.f163.name,by decide,Tryz.func163.trans (congrArg some (by kernel_rfl))⟩
 f26:=⟨Tryz.f164.name,by decide,Tryz.func164.trans (congrArg some (by kernel_rfl))⟩
 f27:=⟨Tryz.f165.name,by decide,Tryz.func165.trans (congrArg some (by kernel_rfl))⟩
 f28:=Tryz.func137.trans (congrArg some (by kernel_rfl))
 f29:=Tryz.func138.trans (congrArg some (by kernel_rfl))
 f46:=⟨Tryz.f202.name,by decide,Tryz.func202.trans (congrArg some (by kernel_rfl))⟩
 f47:=Tryz.func175.trans (congrArg some (by kernel_rfl))
 f48:=Tryz.func176.trans (congrArg some (by kernel_rfl))
 f49:=⟨Tryz.f203.name,by decide,Tryz.func203.trans (congrArg some (by kernel_rfl))⟩
 f50:=⟨Tryz.f204.name,by decide,Tryz.func204.trans (congrArg some (by kernel_rfl))⟩
 f57:=⟨Tryz.f221.name,by decide,Tryz.func221.trans (congrArg some (by kernel_rfl))⟩
 t0:=Tryz.underlying0
 a0:=Tryz.isAgg0
 z0:=Tryz.sizeOf0
 v0:=Tryz.zeroValue0
 t3:=Tryz.underlying3
 a3:=Tryz.isAgg3
 z3:=Tryz.sizeOf3
 v3:=Tryz.zeroValue3
 t4:=Tryz.underlying4
 a4:=Tryz.isAgg4
 z4:=Tryz.sizeOf4
 v4:=Tryz.zeroValue4
 t5:=Tryz.underlying5
 a5:=Tryz.isAgg5
 z5:=Tryz.sizeOf5
 v5:=Tryz.zeroValue5
 t9:=Tryz.underlying9
 a9:=Tryz.isAgg9
 z9:=Tryz.sizeOf9
 v9:=Tryz.zeroValue9
 t22:=Tryz.underlying50
 a22:=Tryz.isAgg50
 z22:=Tryz.sizeOf50
 v22:=Tryz.zeroValue50
 a24:=Tryz.isAgg9
 z24:=Tryz.sizeOf9
 t25:=Tryz.underlying100
 a25:=Tryz.isAgg100
 z25:=Tryz.sizeOf100
 v25:=Tryz.zeroValue100
 t39:=Tryz.underlying143
 a39:=Tryz.isAgg143
 z39:=Tryz.sizeOf143
 v39:=Tryz.zeroValue143
 t45:=Tryz.underlying169
 a45:=Tryz.isAgg169
 z45:=Tryz.sizeOf169
 v45:=Tryz.zeroValue169
 t46:=Tryz.underlying170
 a46:=Tryz.isAgg170
 z46:=Tryz.sizeOf170
 v46:=Tryz.zeroValue170
 t50:=Tryz.underlying123
 a50:=Tryz.isAgg123
 z50:=Tryz.sizeOf123
 v50:=Tryz.zeroValue123
 t53:=Tryz.underlying176
 a53:=Tryz.isAgg176
 z53:=Tryz.sizeOf176
 v53:=Tryz.zeroValue176
 t55:=Tryz.underlying178
 a55:=Tryz.isAgg178
 z55:=Tryz.sizeOf178
 v55:=Tryz.zeroValue178
 t66:=Tryz.underlying197
 a66:=Tryz.isAgg197
 z66:=Tryz.sizeOf197
 v66:=Tryz.zeroValue197
 t70:=Tryz.underlying201
 a70:=Tryz.isAgg201
 z70:=Tryz.sizeOf201
 v70:=Tryz.zeroValue201
 t76:=Tryz.underlying223
 a76:=Tryz.isAgg223
 z76:=Tryz.sizeOf223
 v76:=Tryz.zeroValue223
 t77:=Tryz.underlying224
 a77:=Tryz.isAgg224
 z77:=Tryz.sizeOf224
 v77:=Tryz.zeroValue224 }
end Go.Proofs
namespace Go.Proofs
open Go Pk
theorem Tryz.srt90 : Srt1 Tryz.prog 90 :=
  ⟨fun p cap fv w=>AnyF.slices_SortFunc_none (P:=Tryz.prog) (ρ:=Tryz.laysSlF6_f90_ren) { Tryz.laysSlF6_f90 with } p cap fv w,
   fun α _ enc h1 cf hO g cb blk off cap d w eg hc hH hb hs hT=>Any.slices_SortFunc_total Tryz.laysSlF6_f90 enc h1 cf hO g cb blk off cap d w eg hc hH hb hs hT⟩
end Go.Proofs
namespace Go.Proofs
open Go.Shelf Go.RowKit
def Tryz.laysF58_ren : Go.Shelf.Ren:=⟨fun | 6=>58 | 15=>98 | 14=>97 | 28=>137 | 29=>138 | 20=>129 | 21=>130 | 22=>131 | 23=>132 | 24=>133 | 25=>134 | 26=>135 | 27=>136 | 46=>174 | 47=>175 | 48=>176 | 49=>177 | 50=>178 | 57=>208 | n=>n,fun | 22=>26 | 24=>64 | 25=>104 | 3=>3 | 39=>143 | 0=>0 | 53=>176 | 55=>178 | 4=>4 | 46=>170 | 45=>169 | 50=>123 | 5=>5 | 9=>9 | 66=>197 | 70=>201 | 76=>223 | 77=>224 | n=>n,fun | n=>n⟩
theorem Tryz.laysF58 : Go.Proofs.SlLaysF0.n6 Tryz.prog Tryz.laysF58_ren:={
 mixed:=by kernel_rfl
 f6:=⟨Tryz.f58.name,by decide,Tryz.func58.trans (congrArg some (by kernel_rfl))⟩
 f14:=⟨Tryz.f97.name,by decide,Tryz.func97.trans (congrArg some (by kernel_rfl))⟩
 f15:=Tryz.func98.trans (congrArg some (by kernel_rfl))
 f20:=⟨Tryz.f129.name,by decide,Tryz.func129.trans (congrArg some (by kernel_rfl))⟩
 f21:=⟨Tryz.f130.name,by decide,Tryz.func130.trans (congrArg some (by kernel_rfl))⟩
 f22:=⟨Tryz.f131.name,by decide,Tryz.func131.trans (congrArg some (by kernel_rfl))⟩
 f23:=⟨Tryz.f132.name,by decide,Tryz.func132.trans (congrArg some (by kernel_rfl))⟩
 f24:=⟨Tryz.f133.name,by decide,Tryz.func133.trans (congrArg some (by kernel_rfl))⟩
 f25:=⟨Tryz.f134.name,by decide,Tryz.func134.trans (congrArg some (by kernel_rfl))⟩
 f26:=⟨Tryz.f135.name,by decide,Tryz.func135.trans (congrArg some (by kernel_rfl))⟩
 f27:=⟨Tryz.f136.name,by decide,Tryz.func136.trans (congrArg some (by kernel_rfl))⟩
 f28:=Tryz.func137.trans (congrArg some (by kernel_rfl))
 f29:=Tryz.func138.trans (congrArg some (by kernel_rfl))
 f46:=⟨Tryz.f174.name,by decide,Tryz.func174.trans (congrArg some (by kernel_rfl))⟩
 f47:=Tryz.func175.trans (congrArg some (by kernel_rfl))
 f48:=Tryz.func176.trans (congrArg some (by kernel_rfl))
 f49:=⟨Tryz.f177.name,by decide,Tryz.func177.trans (congrArg some (by kernel_rfl))⟩
 f50:=⟨Tryz.f178.name,by decide,Tryz.func178.trans (congrArg some (by kernel_rfl))⟩
 f57:=⟨Tryz.f208.name,by decide,Tryz.func208.trans (congrArg some (by kernel_rfl))⟩
 t0:=Tryz.underlying0
 a0:=Tryz.isAgg0
 z0:=Tryz.sizeOf0
 v0:=Tryz.zeroValue0
 t3:=Tryz.underlying3
 a3:=Tryz.isAgg3
 z3:=Tryz.sizeOf3
 v3:=Tryz.zeroValue3
 t4:=Tryz.underlying4
 a4:=Tryz.isAgg4
 z4:=Tryz.sizeOf4
 v4:=Tryz.zeroValue4
 t5:=Tryz.underlying5
 a5:=Tryz.isAgg5
 z5:=Tryz.sizeOf5
 v5:=Tryz.zeroValue5
 t9:=Tryz.underlying9
 a9:=Tryz.isAgg9
 z9:=Tryz.sizeOf9
 v9:=Tryz.zeroValue9
 t22:=Tryz.underlying26
 a22:=Tryz.isAgg26
 z22:=Tryz.sizeOf26
 v22:=Tryz.zeroValue26
 t25:=Tryz.underlying104
 a25:=Tryz.isAgg104
 z25:=Tryz.sizeOf104
 v25:=Tryz.zeroValue104
 t39:=Tryz.underlying143
 a39:=Tryz.isAgg143
 z39:=Tryz.sizeOf143
 v39:=Tryz.zeroValue143
 t45:=Tryz.underlying169
 a45:=Tryz.isAgg169
 z45:=Tryz.sizeOf169
 v45:=Tryz.zeroValue169
 t46:=Tryz.underlying170
 a46:=Tryz.isAgg170
 z46:=Tryz.sizeOf170
 v46:=Tryz.zeroValue170
 t50:=Tryz.underlying123
 a50:=Tryz.isAgg123
 z50:=Tryz.sizeOf123
 v50:=Tryz.zeroValue123
 t53:=Tryz.underlying176
 a53:=Tryz.isAgg176
 z53:=Tryz.sizeOf176
 v53:=Tryz.zeroValue176
 t55:=Tryz.underlying178
 a55:=Tryz.isAgg178
 z55:=Tryz.sizeOf178
 v55:=Tryz.zeroValue178
 t66:=Tryz.underlying197
 a66:=Tryz.isAgg197
 z66:=Tryz.sizeOf197
 v66:=Tryz.zeroValue197
 t70:=Tryz.underlying201
 a70:=Tryz.isAgg201
 z70:=Tryz.sizeOf201
 v70:=Tryz.zeroValue201
 t76:=Tryz.underlying223
 a76:=Tryz.isAgg223
 z76:=Tryz.sizeOf223
 v76:=Tryz.zeroValue223
 t77:=Tryz.underlying224
 a77:=Tryz.isAgg224
 z77:=Tryz.sizeOf224
 v77:=Tryz.zeroValue224 }
def Tryz.laysF94_ren : Go.Shelf.Ren:=⟨fun | 6=>94 | 15=>98 | 14=>128 | 28=>137 | 29=>138 | 20=>166 | 21=>167 | 22=>168 | 23=>169 | 24=>170 | 25=>171 | 26=>172 | 27=>173 | 46=>205 | 47=>175 | 48=>176 | 49=>206 | 50=>207 | 57=>222 | n=>n,fun | 22=>62 | 24=>81 | 25=>139 | 3=>3 | 39=>143 | 0=>0 | 53=>176 | 55=>178 | 4=>4 | 46=>170 | 45=>169 | 50=>123 | 5=>5 | 9=>9 | 66=>197 | 70=>201 | 76=>223 | 77=>224 | n=>n,fun | n=>n⟩
theorem Tryz.laysF94 : Go.Proofs.SlLaysF0.n6 Tryz.prog Tryz.laysF94_ren:={
 mixed:=by kernel_rfl
 f6:=⟨Tryz.f94.name,by decide,Tryz.func94.trans (congrArg some (by kernel_rfl))⟩
 f14:=⟨Tryz.f128.name,by decide,Tryz.func128.trans (congrArg some (by kernel_rfl))⟩
 f15:=Tryz.func98.trans (congrArg some (by kernel_rfl))
 f20:=⟨Tryz.f166.name,by decide,Tryz.func166.trans (congrArg some (by kernel_rfl))⟩
 f21:=⟨Tryz.f167.name,by decide,Tryz.func167.trans (congrArg some (by kernel_rfl))⟩
 f22:=⟨Tryz.f168.name,by decide,Tryz.func168.trans (congrArg some (by kernel_rfl))⟩
 f23:=⟨Tryz.f169.name,by decide,Tryz.func169.trans (congrArg some (by kernel_rfl))⟩
 f24:=⟨Tryz.f170.name,by decide,Tryz.func170.trans (congrArg some (by kernel_rfl))⟩
 f25:=⟨Tryz.f171.name,by decide,Tryz.func171.trans (congrArg some (by kernel_rfl))⟩
 f26:=⟨Tryz.f172.name,by decide,Tryz.func172.trans (congrArg some (by kernel_rfl))⟩
 f27:=⟨Tryz.f173.name,by decide,Tryz.func173.trans (congrArg some (by kernel_rfl))⟩
 f28:=Tryz.func137.trans (congrArg some (by kernel_rfl))
 f29:=Tryz.func138.trans (congrArg some (by kernel_rfl))
 f46:=⟨Tryz.f205.name,by decide,Tryz.func205.trans (congrArg some (by kernel_rfl))⟩
 f47:=Tryz.func175.trans (congrArg some (by kernel_rfl))
 f48:=Tryz.func176.trans (congrArg some (by kernel_rfl))
 f49:=⟨Tryz.f206.name,by decide,Tryz.func206.trans (congrArg some (by kernel_rfl))⟩
 f50:=⟨Tryz.f207.name,by decide,Tryz.func207.trans (congrArg some (by kernel_rfl))⟩
 f57:=⟨Tryz.f222.name,by decide,Tryz.func222.trans (congrArg some (by kernel_rfl))⟩
 t0:=Tryz.underlying0
 a0:=Tryz.isAgg0
 z0:=Tryz.sizeOf0
 v0:=Tryz.zeroValue0
 t3:=Tryz.underlying3
 a3:=Tryz.isAgg3
 z3:=Tryz.sizeOf3
 v3:=Tryz.zeroValue3
 t4:=Tryz.underlying4
 a4:=Tryz.isAgg4
 z4:=Tryz.sizeOf4
 v4:=Tryz.zeroValue4
 t5:=Tryz.underlying5
 a5:=Tryz.isAgg5
 z5:=Tryz.sizeOf5
 v5:=Tryz.zeroValue5
 t9:=Tryz.underlying9
 a9:=Tryz.isAgg9
 z9:=Tryz.sizeOf9
 v9:=Tryz.zeroValue9
 t22:=Tryz.underlying62
 a22:=Tryz.isAgg62
 z22:=Tryz.sizeOf62
 v22:=Tryz.zeroValue62
 t25:=Tryz.underlying139
 a25:=Tryz.isAgg139
 z25:=Tryz.sizeOf139
 v25:=Tryz.zeroValue139
 t39:=Tryz.underlying143
 a39:=Tryz.isAgg143
 z39:=Tryz.sizeOf143
 v39:=Tryz.zeroValue143
 t45:=Tryz.underlying169
 a45:=Tryz.isAgg169
 z45:=Tryz.sizeOf169
 v45:=Tryz.zeroValue169
 t46:=Tryz.underlying170
 a46:=Tryz.isAgg170
 z46:=Tryz.sizeOf170
 v46:=Tryz.zeroValue170
 t50:=Tryz.underlying123
 a50:=Tryz.isAgg123
 z50:=Tryz.sizeOf123
 v50:=Tryz.zeroValue123
 t53:=Tryz.underlying176
 a53:=Tryz.isAgg176
 z53:=Tryz.sizeOf176
 v53:=Tryz.zeroValue176
 t55:=Tryz.underlying178
 a55:=Tryz.isAgg178
 z55:=Tryz.sizeOf178
 v55:=Tryz.zeroValue178
 t66:=Tryz.underlying197
 a66:=Tryz.isAgg197
 z66:=Tryz.sizeOf197
 v66:=Tryz.zeroValue197
 t70:=Tryz.underlying201
 a70:=Tryz.isAgg201
 z70:=Tryz.sizeOf201
 v70:=Tryz.zeroValue201
 t76:=Tryz.underlying223
 a76:=Tryz.isAgg223
 z76:=Tryz.sizeOf223
 v76:=Tryz.zeroValue223
 t77:=Tryz.underlying224
 a77:=Tryz.isAgg224
 z77:=Tryz.sizeOf224
 v77:=Tryz.zeroValue224 }
end Go.Proofs
namespace Go.Proofs
open Go Pk
theorem Tryz.srt58 : SrtK Tryz.prog 58 4 :=
  ⟨fun p cap fv w=>AnyF.slices_SortFunc_none Tryz.laysF58 p cap fv w,
   fun α _ enc hk h1 cf hO g cb blk off cap d w eg hc hH hb hs hT=>AnyQ.slices_SortFunc_total Tryz.laysF58 4 Tryz.isAgg64 Tryz.sizeOf64 enc hk h1 cf hO g cb blk off cap d w eg hc hH hb hs hT⟩
theorem Tryz.srw94 : SrtW Tryz.prog 94 3 :=
  ⟨fun p cap fv w=>AnyF.slices_SortFunc_none Tryz.laysF94 p cap fv w,
   fun α _ enc hk h1 cf hO g cb blk off cap d w eg hc hH hb hs=>AnyQ.slices_SortFunc Tryz.laysF94 3 Tryz.isAgg81 Tryz.sizeOf81 enc hk h1 cf hO g cb blk off cap d w eg hc hH hb hs⟩
end Go.Proofs
set_option linter.unusedVariables false
namespace Go.Proofs
open Go.Shelf Go.RowKit
def Tryz.lays169_ren : Go.Shelf.Ren:=⟨fun | 169=>102 | n=>n,fun | 70=>145 | 9=>9 | 0=>0 | 72=>147 | 37=>37 | 127=>180 | 3=>3 | 5=>5 | n=>n,fun | n=>n⟩
theorem Tryz.lays169 : Go.Proofs.Lays.n169 Tryz.prog Tryz.lays169_ren:={
 mixed:=by kernel_rfl
 f169:=Tryz.func102.trans (congrArg some (by kernel_rfl))
 t0:=Tryz.underlying0
 a0:=Tryz.isAgg0
 z0:=Tryz.sizeOf0
 v0:=Tryz.zeroValue0
 t3:=Tryz.underlying3
 a3:=Tryz.isAgg3
 z3:=Tryz.sizeOf3
 v3:=Tryz.zeroValue3
 t9:=Tryz.underlying9
 a9:=Tryz.isAgg9
 z9:=Tryz.sizeOf9
 v9:=Tryz.zeroValue9
 t37:=Tryz.underlying37
 a37:=Tryz.isAgg37
 z37:=Tryz.sizeOf37
 v37:=Tryz.zeroValue37
 t70:=Tryz.underlying145
 a70:=Tryz.isAgg145
 z70:=Tryz.sizeOf145
 v70:=Tryz.zeroValue145
 t72:=Tryz.underlying147
 a72:=Tryz.isAgg147
 z72:=Tryz.sizeOf147
 v72:=Tryz.zeroValue147
 t127:=Tryz.underlying180
 a127:=Tryz.isAgg180
 z127:=Tryz.sizeOf180
 v127:=Tryz.zeroValue180 }
theorem Tryz.Builder_Extra_169 : Builder.Extra Tryz.prog Tryz.lays169_ren:={
 sizeBuilder:=by kernel_rfl
 liesBuilder:=by kernel_rfl
 t5:=Tryz.underlying5
 a5:=Tryz.isAgg5
 z5:=Tryz.sizeOf5
 v5:=Tryz.zeroValue5
 infoByte:=by kernel_rfl
 cellsByte:=by kernel_rfl
 sizeByte:=by kernel_rfl
 neB5:=by decide }
theorem Tryz.szB : (Tryz.prog.info? 147).map (·.size) = some 2:=by kernel_rfl
theorem Tryz.liesB : liesAt Tryz.prog Tryz.prog.depth 147 (2 / Tryz.prog.cellsOf 147) 0 147 1 = true:=by kernel_rfl
set_option maxHeartbeats 1000000 in
set_option maxRecDepth 100000 in
theorem Tryz.cc_used (b : Nat) (w : World) (h0 : w.cell? ⟨b,0,none⟩ = some (.pointer (some ⟨b,0,none⟩))) : Calls Tryz.prog 141 #[.pointer (some ⟨b,0,none⟩)] w fun e w'=>e = .returned (.tuple #[]) ∧ w' = w:=by
 obtain ⟨j,hj,_⟩:=Option.map_eq_some_iff.1 Tryz.szB
 go_enter Tryz.func141,Tryz.ntmps141
 go_wp2
 rw [Lib.run_neq_ptr_same w _ Tryz.underlying145 hj]
 go_wp2
 go_end0
 exact ⟨rfl,rfl⟩
set_option maxHeartbeats 1000000 in
set_option maxRecDepth 100000 in
theorem Tryz.cc_new (b : Nat) (w : World) (h0 : w.cell? ⟨b,0,none⟩ = some (.pointer none)) (hs : w.shape? b = some (147,2)) (hz : w.frozen? ⟨b,0,none⟩ = false) : Calls Tryz.prog 141 #[.pointer (some ⟨b,0,none⟩)] w fun e w'=>e = .returned (.tuple #[]) ∧ w' = w.setCell ⟨b,0,none⟩ (.pointer (some ⟨b,0,none⟩)):=by
 obtain ⟨j,hj,hjs⟩:=Option.map_eq_some_iff.1 Tryz.szB
 go_enter Tryz.func141,Tryz.ntmps141
 go_wp2
 rw [Lib.run_to_unsafe w ⟨b,0,none⟩ Tryz.underlying145 Tryz.underlying204 hj (by rw [hjs]; decide) hs (Nat.zero_lt_succ 1)];simp only [Result.andThen];rw [Oper.upon_value]
 go_wp2
 rw [run_callFunc_extern Tryz.func181 (by kernel_rfl) (by kernel_rfl) (by kernel_rfl) (e:=Extern.AbiNoEscape.same) (by kernel_rfl)];rw [Lib.run_noEscape];simp only [Result.andThen];rw [Oper.upon_value]
 go_wp2
 rw [Lib.run_from_unsafe w ⟨b,0,none⟩ Tryz.underlying204 Tryz.underlying145 hj hs Tryz.liesB];simp only [Result.andThen];rw [Oper.upon_value]
 go_wp2
 go_end0
 exact ⟨rfl,rfl⟩
end Go.Proofs
namespace Go.Proofs
open Go Pk
theorem setCell0 {w : World} {b : Nat} {v u z : Value} {t : TypeId} (h : w.heap[b]? = some (.cells #[v,z] t (0,0))) : (w.setCell ⟨b,0,none⟩ u).heap[b]? = some (.cells #[u,z] t (0,0)):=by
 unfold World.setCell;simp [Array.getElem?_modify,h]
theorem Tryz.ccS {M : Prop} {w0 w : World} {H0 : Hp} {Hs : List Hp} {σ : Owns} (hS : St M w0 H0 Hs σ w) {T b : Nat} {k : Bool} {v : Value} (hσ : getO σ T = some (cel b 147 [selfP b k,v])) :
  Calls Tryz.prog 141 [.pointer (some ⟨b,0,none⟩)].toArray w fun e w'=>e = .returned (.tuple #[]) ∧ St M w0 H0 Hs (setO σ T (cel b 147 [selfP b true,v])) w':=by
 have hb : w.heap[b]? = some (.cells #[selfP b k,v] 147 (0,0)):=hS.get hσ;have hc : w.cell? ⟨b,0,none⟩ = some (selfP b k):=by unfold World.cell?; simp [hb]
 cases k with
 | true =>
  refine (Tryz.cc_used b w hc).mono ?_;rintro e w' ⟨rfl,rfl⟩;exact ⟨rfl,hS.as T hσ rfl⟩
 | false =>
  refine (Tryz.cc_new b w hc (by unfold World.shape?; simp [hb]) (by unfold World.frozen?; simp [hb])).mono ?_;rintro e w' ⟨rfl,rfl⟩
  refine ⟨rfl,hS.step hσ ⟨⟨rfl,rfl,rfl,by simp [World.setCell],fun k _ hk=>by
   have e : k ≠ b:=fun e=>hk (by rw [e]; rfl);unfold World.setCell
   simp [Array.getElem?_modify,Ne.symm e]⟩,Nat.le_refl _⟩ (setCell0 hb) fun b' h=>.inl h⟩
section
variable {P : Program} {ρ : Go.Shelf.Ren}
open Go.Shelf Go.RowKit
set_option maxHeartbeats 2000000 in
set_option maxRecDepth 100000 in
theorem strG (L : Lays.n169 P ρ) (X : Builder.Extra P ρ) {b g cap : Nat} {cur : Array Value} {p : Value} {l : List UInt8} {w : World} (h0 : l ≠ []) (hbk : w.heap[b]? = some (.cells #[p,.slice (some ⟨g,0,none⟩) l.length cap] (ρ.t 72) (0,0))) (hg : w.heap[g]? = some (.cells cur (ρ.t 5) (0,0)))
  (hnc : l.length ≤ cap) (hcm : cap ≤ maxLen) (hcs : cur.size = cap * 1) (ht : cur.toList.take (l.length * 1) = Lib.byteCells l) :
  Calls P (ρ.f 169) #[.pointer (some ⟨b,0,none⟩)] w fun e w'=>e = .returned (.string ⟨l.toArray⟩) ∧ w' = w.drew.freeze ⟨g,0,none⟩ l.length:=by
 have hl0 : l.length ≠ 0:=by simpa using h0
 have c1 : w.drew.cell? ⟨b,1,none⟩ = some (.slice (some ⟨g,0,none⟩) l.length cap):=by
  have : w.drew.heap[b]? = some (.cells #[p,.slice (some ⟨g,0,none⟩) l.length cap] (ρ.t 72) (0,0)):=hbk;rw [Lib.cell_of_heap this]; rfl
 have hSD : (Builtin.unsafeSliceData_ #[(ρ.t 37)] (ρ.t 127) #[.slice (some ⟨g,0,none⟩) l.length cap]).run P w.drew = .ok (.pointer (some ⟨g,0,none⟩)) w.drew :=
  Lib.run_unsafeSliceData_row _ _ _ _ _ _ (by omega)
 have hg' : w.drew.heap[g]? = some (.cells cur (ρ.t 5) (0,0)):=hg;have hUS : (Builtin.unsafeString_ #[(ρ.t 127),(ρ.t 3)] (ρ.t 9) #[.pointer (some ⟨g,0,none⟩),.int .i64 l.length]).run P w.drew = .ok (.string ⟨l.toArray⟩) (w.drew.freeze ⟨g,0,none⟩ l.length):=by
  refine Lib.run_unsafeString_row w.drew (ρ.t 127) (ρ.t 3) (ρ.t 9) (ρ.t 5) L.t127 X.cellsByte g cur.size (by simp [World.shape?,hg']) l h0 (by omega) (by unfold maxLen at hcm; omega) ?_;intro j x hx;have h2 : cur[j]? = some (.int .u8 x.toNat):=by
   have h3 : (cur.toList.take (l.length * 1))[j]? = some (.int .u8 x.toNat):=by rw [ht]; simp [Lib.byteCells,hx]
   rw [List.getElem?_take] at h3
   split at h3
   ·rw [Array.getElem?_toList] at h3; exact h3
   cases h3
  have e : (⟨g,0,none⟩ : Addr).add j = ⟨g,j,none⟩:=by rw [addr_add rfl]; simp
  rw [e,Lib.cell_of_heap hg']; exact h2
 have mixed:=L.mixed;have t72:=L.t72; have a72:=L.a72; have z72:=L.z72; have v72:=L.v72; have u72:=run_underlying L.t72;have t70:=L.t70; have a70:=L.a70; have z70:=L.z70; have v70:=L.v70; have u70:=run_underlying L.t70;have t37:=L.t37; have a37:=L.a37; have z37:=L.z37; have v37:=L.v37; have u37:=run_underlying L.t37;have t127:=L.t127; have a127:=L.a127; have z127:=L.z127; have v127:=L.v127; have u127:=run_underlying L.t127;have t3:=L.t3; have a3:=L.a3; have z3:=L.z3; have v3:=L.v3; have u3:=run_underlying L.t3;have t9:=L.t9; have a9:=L.a9; have z9:=L.z9; have v9:=L.v9; have u9:=run_underlying L.t9;have t5:=X.t5; have a5:=X.a5; have z5:=X.z5; have v5:=X.v5; have u5:=run_underlying X.t5
 go_enter L.f169,Body.n169_ntmps ρ
 go_wp2
 go_region_o
 all_goals (go_wp2; go_ret; exact ⟨rfl,rfl⟩)
end
theorem Tryz.strS {M : Prop} (hM : ¬ M) {w0 w : World} {H0 : Hp} {Hs : List Hp} {σ : Owns} (hS : St M w0 H0 Hs σ w) {T T2 b : Nat} {k : Bool} {ad : Option Addr} {cap : Nat} {l : Bytes} (hσ : getO σ T = some (cel b 147 [selfP b k,.slice ad l.length cap])) (h2 : getO σ T2 = some (.list ad cap 5 1 encC l)) :
  Calls Tryz.prog 102 [.pointer (some ⟨b,0,none⟩)].toArray w fun e w'=>e = .returned (.string (bs l)) ∧ St M w0 H0 Hs (delO (delO σ T2) T) w':=by
 have hb : w.heap[b]? = some (.cells #[selfP b k,.slice ad l.length cap] 147 (0,0)):=hS.get hσ;have hrow : w.ownsRow 0 5 1 (.slice ad l.length cap) l.length (l.flatMap encC):=hS.get h2;have hcells : Lib.byteCells l = l.flatMap encC:=by rw [flat_encC]; rfl
 have fin : ∀ {w'},Go.RowKit.Below w.heap.size w w' → St M w0 H0 Hs (delO (delO σ T2) T) w':=fun hw=>((hS.ext' (Ext.of_below hM hw)).del T2).del T;by_cases hl : l = []
 ·subst hl;rcases hrow.2 with ⟨hv,_⟩ | ⟨g,cap',cur,hv,_,hg0,_⟩
  ·simp only [Value.slice.injEq] at hv;obtain ⟨rfl,_,rfl⟩:=hv;refine (Any.Builder_String_nil Tryz.lays169 Tryz.Builder_Extra_169 w.heap.size b (selfP b k) w hb).mono ?_;rintro e w' ⟨rfl,hw⟩;exact ⟨rfl,fin hw⟩
  simp only [Value.slice.injEq] at hv;obtain ⟨rfl,_,rfl⟩:=hv;by_cases hc0 : cap = 0
  ·subst hc0;refine (Any.Builder_String_noroom Tryz.lays169 Tryz.Builder_Extra_169 w.heap.size b g (selfP b k) cur w (Nat.le_refl _) hb hg0).mono ?_;rintro e w' ⟨rfl,hw⟩;exact ⟨rfl,fin hw⟩
  refine (Any.Builder_String_room Tryz.lays169 Tryz.Builder_Extra_169 w.heap.size b g cap (selfP b k) w hc0 hb).mono ?_;rintro e w' ⟨rfl,hw⟩;exact ⟨rfl,fin hw⟩
 rcases hrow.2 with ⟨_,hn⟩ | ⟨g,cap',cur,hv,_,hg0,hnc,hcm,hcs,ht⟩
 ·exact absurd (List.eq_nil_of_length_eq_zero hn) hl
 simp only [Value.slice.injEq] at hv;obtain ⟨rfl,_,rfl⟩:=hv;refine (strG Tryz.lays169 Tryz.Builder_Extra_169 hl hb hg0 hnc hcm hcs (by rw [ht,hcells])).mono ?_;rintro e w' ⟨rfl,rfl⟩;have hz : l.length ≠ 0:=by simpa using hl
 have hoth : ∀ c,c ≠ g → (w.drew.freeze ⟨g,0,none⟩ l.length).heap[c]? = w.heap[c]?:=fun c hc=>by
  unfold World.freeze;rw [if_neg hz];simp only [Array.getElem?_modify];rw [if_neg (Ne.symm hc)]; rfl
 obtain ⟨o,ho⟩ : ∃ o,(w.drew.freeze ⟨g,0,none⟩ l.length).heap[g]? = some o:=by
  unfold World.freeze;rw [if_neg hz];simp only [Array.getElem?_modify,if_true];have : w.drew.heap[g]? = some (.cells cur 5 (0,0)):=hg0;rw [this]; exact ⟨_,rfl⟩
 have hsz : w.heap.size ≤ (w.drew.freeze ⟨g,0,none⟩ l.length).heap.size:=by
  unfold World.freeze; rw [if_neg hz]; simp
 have hS2:=hS.stepB hM h2 (y:=.blk g o) (w':=w.drew.freeze ⟨g,0,none⟩ l.length) ⟨by unfold World.freeze; rw [if_neg hz]; rfl,by unfold World.freeze; rw [if_neg hz]; rfl,by unfold World.freeze; rw [if_neg hz]; rfl,hsz,fun c _ hc=>hoth c (fun e=>hc (by rw [e]; rfl))⟩ ho (fun c hc=>.inl hc);have hd : ∀ {σ : Pk.Owns} {t : Nat} {y : Pk.Own},delO (setO σ t y) t = delO σ t:=by
  intro σ t y
  induction σ with
  | nil=>rfl
  | cons z σ ih =>
   obtain ⟨i,u⟩:=z;by_cases e : i = t
   ·subst e; simp [setO,delO,beq_self]
   simp only [setO,delO,beq_ne e,cond_false,ih]
 have hS3:=(hS2.del T2).del T;rw [hd] at hS3;exact ⟨rfl,hS3⟩
end Go.Proofs
set_option maxHeartbeats 4000000
namespace T11
open Go Go.Proofs Pk Go.RowKit
theorem idle66 (p q : Addr) (w : World) : CallsD Tryz.prog 66 #[.pointer (some p),.pointer (some q)] .returning w fun e u' w'=>e = .returned (.tuple #[]) ∧ u' = .returning ∧ w' = w:=by
 refine callsD_of_wpS Tryz.func66 rfl fun c₀ cs hu=>?_;apply wpS_seq;apply wpS_region;simp [wpOpsS,go_sem,recoverD,hu,Tryz.ntmps66,Exit.thenS];apply wpS_seq;apply wpS_seq;apply wpS_region;simp [wpOpsS,go_sem,Exit.thenS];refine wpS_cond (t:=true) (by simp [Act.eval,Array.replicate]) ?_;simp only [if_true];refine wpS_of_wp (wp_ret ?_);cases c₀
 simp_all [Exit.thenS,bodyPostS,results,Tryz.results66]
section
variable {P : Program} {r : Option Nat} {n : Cont} {p : List PanicEntry → Cont} {a : Act} {w : World} {D : List Deferred} {k : Nat} {L : Env} {ops : Array Oper} {rest : List Oper} {d : Nat} {ty : TypeId} {pos : String} {af : Array Edge}
theorem o_eqN {y : Operand} {t u te : TypeId} {pe : Value} {ms : _} (hA : Has D k a L) (hu' : P.underlying t = some (.interface ms)) (hd : Nat.blt d k = true) (hy : ev L y = some (.iface te pe)) (h : ∀ a,Has D k a ((d,.bool false) :: L) → O P r ops n p rest a w) : O P r ops n p (⟨some d,.binOp .eql t y (.const .nilIface) u,ty,pos,af,none⟩ :: rest) a w:=by
 have hu : P.underlying t = some (.interface (P.methodsAt t)):=by rw [hu']; simp [Program.methodsAt,hu']
 refine O_run rfl (fun _ h=>by cases h) (w':=w) (v:=.bool false) ?_ (h _ (hA.put hd _));simp [execOp,hA.eval hy,show a.eval (.const .nilIface) = .nilIface from rfl,eqGuard,run_eql_held_nil w t _ _ hu,Result.andThen]
theorem o_taY {y : Operand} {xT t : TypeId} {v : Value} {ds : TypeDesc} (hA : Has D k a L) (hd : Nat.blt d k = true) (hu : P.underlying t = some ds) (hds : (match ds with | .interface _=>false | _=>true) = true) (hy : ev L y = some (.iface t v))
  (h : ∀ a,Has D k a ((d,.tuple #[v,.bool true]) :: L) → O P r ops n p rest a w) : O P r ops n p (⟨some d,.typeAssert y xT t true,ty,pos,af,none⟩ :: rest) a w :=
 O_run rfl (fun _ h=>by cases h) (w':=w) (v:=.tuple #[v,.bool true]) (by
  simp only [execOp,Instr.typeAssert,hA.eval hy]
  cases ds <;> simp at hds <;> simp [run_underlying hu,Result.andThen]) (h _ (hA.put hd _))
end
theorem back66 {M : Prop} {W w : World} {H : Hp} {Hs : List Hp} {b b2 tA tB : Nat} {v0 z0 : Value} {s : Bytes} (hS : St M W H Hs [(tB,cel b2 27 [z0]),(tA,cel b 26 [v0])] w) (hT : Nat.beq tB tA = false) (hTB : Nat.beq 999999 tB = false) (hTA : Nat.beq 999999 tA = false) :
  CallsD Tryz.prog 66 #[.pointer (some ⟨b,0,none⟩),.pointer (some ⟨b2,0,none⟩)] (.panicking (thr (.iface 111 (.agg [.string (bs s)].toArray)))) w fun e u' w'=>(∃ v,e = .returned v) ∧ settle u' = .returning ∧
   ∃ b3 cs3,St M W H Hs [(999999,cel b3 111 cs3),(tB,cel b2 27 [.int .i64 4]),(tA,cel b 26 [.slice none 0 0])] w':=by
 refine callsD_of_wpS Tryz.func66 rfl fun c₀ cs hu=>?_;apply wpS_seq;apply wpS_region;obtain ⟨v,hv⟩ : ∃ v : Value,v = .agg [.string (bs s)].toArray:=⟨_,rfl⟩;rw [← hv] at hu;simp [wpOpsS,go_sem,recoverD,hu,Tryz.ntmps66,Exit.thenS,thr];refine wpS_of_wp ?_;refine (wpIn_wide (n:=0)).1 (wpIn_mono (show Pk.W Tryz.prog none _ (fun a w=>a.defers = [] ∧ ∃ b3 cs3,St M W H Hs [(999999,cel b3 111 cs3),(tB,cel b2 27 [.int .i64 4]),(tA,cel b 26 [.slice none 0 0])] w) (fun _ _=>False) [] (fun _ _ _=>False) _ w from ?_) ?_)
 ·have hA : Has [] 16 { tmps:=#[.pointer (some ⟨b,0,none⟩),.pointer (some ⟨b2,0,none⟩)] ++ ((Array.replicate 14 undef).setIfInBounds 3 (.iface 111 v)).setIfInBounds 0 (.iface 111 v),defers:=[] } [(0,.pointer (some ⟨b,0,none⟩)),(1,.pointer (some ⟨b2,0,none⟩)),(2,.iface 111 v)]:=by
   refine ⟨rfl,by simp,fun i u h=>?_⟩;rcases i with _ | _ | _ | i
   ·exact h
   ·exact h
   ·exact h
   cases (show (none : Option Value) = some u from h)
  revert hA;generalize ({ tmps:=_,defers:=[] } : Act) = a;intro hA;subst hv;refine W_seq (W_seq (W_region ?_));refine o_move hA rfl rfl fun a hA=>?_;refine o_eqN hA Tryz.underlying20 rfl rfl fun a hA=>O_nil (W_cond hA rfl (fun h=>by cases h) (fun _=>W_skip ?_));refine W_seq (W_seq (W_region (o_move hA rfl rfl fun a hA=>o_taY hA rfl Tryz.underlying111 rfl rfl fun a hA=>o_move hA rfl rfl fun a hA=>o_ext (vs:=[.agg [.string (bs s)].toArray,.bool true]) hA rfl rfl rfl fun a hA=>o_ext (vs:=[.agg [.string (bs s)].toArray,.bool true]) hA rfl rfl rfl fun a hA=>o_alloc 999999 hA rfl hS Tryz.zeroValue111 rfl fun b3 w hS hb a hA=>?_)));refine o_store 999999 (cs:=[.string (bs s)]) hA hS rfl rfl Tryz.sizeOf111 rfl rfl rfl rfl rfl fun w hS a hA=>o_assign hA rfl rfl fun a hA=>O_nil ?_;refine W_seq (W_region (o_move hA rfl rfl fun a hA=>o_not hA rfl rfl fun a hA=>O_nil (W_cond hA rfl (fun h=>by cases h) (fun _=>W_skip ?_))));refine W_region ?_;refine o_store tA (t0:=26) (l:=[v0]) (cs:=[.slice none 0 0]) hA hS rfl rfl Tryz.sizeOf26 (by simp [getO,setO,hT,hTA]) rfl rfl rfl rfl fun w hS a hA=>?_;refine o_store tB (t0:=27) (l:=[z0]) (cs:=[.int .i64 4]) hA hS rfl rfl Tryz.sizeOf27 (by simp [getO,setO,hT,hTB,hTA]) rfl rfl rfl rfl fun w hS a hA=>O_nil ?_;refine ⟨hA.defers,b3,[.string (bs s)],?_⟩;simpa [setO,hT,hTB,hTA,spl,cellsL] using hS
 intro z a w' hz
 cases z with
 | normal =>
  obtain ⟨hd,h⟩:=hz;subst hv;exact ⟨hd,.panicking [{ v:=.iface 111 (.agg [.string (bs s)].toArray),recovered:=true }],rfl,.tuple #[],by simp [results,Tryz.results66],⟨_,rfl⟩,rfl,h⟩
 | ret=>exact hz.elim
 | panic ch=>exact hz.elim
 | exit id=>obtain ⟨K,hK,_⟩:=hz; simp [lkE] at hK
 | goto l=>exact hz
 | outgrown=>exact hz.elim
variable {R : Ending → World → Prop} {M : Prop} {W : World} {H : Hp} {Hs : List Hp} {σ : Owns} {L : Env} {b b2 : Nat}
theorem rt28 (h : TG ⟨[],88,M,W,H⟩ Hs σ L (Rt Tryz.prog Tryz.f28 R)) : TG ⟨[dfc 66 [.pointer (some ⟨b,0,none⟩),.pointer (some ⟨b2,0,none⟩)]],88,M,W,H⟩ Hs σ L (RtF Tryz.prog Tryz.f28 R) :=
 rtF Tryz.call66 (fun w hS=>(idle66 ⟨b,0,none⟩ ⟨b2,0,none⟩ w).mono (by rintro e u w' ⟨rfl,rfl,rfl⟩; exact ⟨⟨_,rfl⟩,rfl,hS⟩)) h
theorem pn28 {tA tB : Nat} {v0 z0 : Value} {s : Bytes} (hT : Nat.beq tB tA = false) (hTB : Nat.beq 999999 tB = false) (hTA : Nat.beq 999999 tA = false)
  (h : ∀ b3 cs3,TG ⟨[],88,M,W,H⟩ Hs [(999999,cel b3 111 cs3),(tB,cel b2 27 [.int .i64 4]),(tA,cel b 26 [.slice none 0 0])] L (Rt Tryz.prog Tryz.f28 R)) :
  TG ⟨[dfc 66 [.pointer (some ⟨b,0,none⟩),.pointer (some ⟨b2,0,none⟩)]],88,M,W,H⟩ Hs [(tB,cel b2 27 [z0]),(tA,cel b 26 [v0])] L (PnF Tryz.prog Tryz.f28 R (thr (.iface 111 (.agg [.string (bs s)].toArray)))) :=
 pnF (σ':=fun b3 cs3=>[(999999,cel b3 111 cs3),(tB,cel b2 27 [.int .i64 4]),(tA,cel b 26 [.slice none 0 0])]) Tryz.call66 (fun w hS=>back66 hS hT hTB hTA) h
end T11
set_option maxHeartbeats 4000000
namespace T11
open Go Go.Proofs Pk
noncomputable def m47  : Option (List (List Heading)) :=
 some ([([(⟨[67,111,114,110,32,76,97,119,115],([] : List Bytes),([[84,114,97,100,101]] : List Bytes),([(⟨3,12,14⟩ : Place),(⟨4,1,1⟩ : Place)] : List Place)⟩ : Heading),(⟨[76,101,101,32,65,110,110],([[65,32,76,101,101]] : List Bytes),([] : List Bytes),([(⟨3,7,7⟩ : Place)] : List Place)⟩ : Heading),(⟨[84,114,97,100,101],([] : List Bytes),([] : List Bytes),([(⟨3,13,13⟩ : Place)] : List Place)⟩ : Heading)] : List Heading),([(⟨[65,32,76,101,101],([[76,97,100,121,32,76,101,101]] : List Bytes),([] : List Bytes),([(⟨9,1,2⟩ : Place)] : List Place)⟩ : Heading),(⟨[67,111,114,110,32,108,97,119,115],([[67,111,114,110,32,76,97,119,115]] : List Bytes),([] : List Bytes),([(⟨4,2,2⟩ : Place)] : List Place)⟩ : Heading)] : List Heading)] : List (List Heading))
noncomputable def m115 (x_0 : Heading) (f0_ : Heading → Option Bool) : Option (Bool) :=
 (f0_ x_0).bind fun r13 =>
 some (!r13)
noncomputable def m149_1 (s_0 : List Heading) (f_1 : Heading → Option Bool) (s33 : Nat) : Option ((Nat) ⊕ ((Unit) ⊕ Int)) :=
 if (s33 : Int) < (s_0.length : Int) then (
  (s_0[s33]?).bind fun x66 =>
  (f_1 x66).bind fun r84 =>
  if r84 then (
   some (.inr (.inr (s33 : Int))))
  else
  some (.inl (s33 + 1)))
 else
 some (.inr (.inl ()))
noncomputable def m149 (s_0 : List Heading) (f_1 : Heading → Option Bool) : Option (Int) :=
 (loopO (m149_1 s_0 f_1) 0).bind fun e29=>match e29 with
 | .inr z=>some z
 | .inl t32 =>
 some (-1)
noncomputable def m114 (s_0 : List Heading) (f_1 : Heading → Option Bool) : Option (Bool) :=
 (m149 s_0 f_1).bind fun r1 =>
 some (decide (0 ≤ r1))
noncomputable def m77 (l_0 : List Heading) (right : Heading → Option Bool) : Option (Bool) :=
 (m114 l_0 (fun x0_=>m115 x0_ right)).bind fun r5 =>
 some (!r5)
noncomputable def m123 (x_0 : Bytes) (f0_ : Bytes → Option Bool) : Option (Bool) :=
 (f0_ x_0).bind fun r1 =>
 some (!r1)
noncomputable def m127_1 (s_0 : List Bytes) (f_1 : Bytes → Option Bool) (s23 : Nat) : Option ((Nat) ⊕ ((Unit) ⊕ Int)) :=
 if (s23 : Int) < (s_0.length : Int) then (
  (s_0[s23]?).bind fun x46 =>
  (f_1 x46).bind fun r54 =>
  if r54 then (
   some (.inr (.inr (s23 : Int))))
  else
  some (.inl (s23 + 1)))
 else
 some (.inr (.inl ()))
noncomputable def m127 (s_0 : List Bytes) (f_1 : Bytes → Option Bool) : Option (Int) :=
 (loopO (m127_1 s_0 f_1) 0).bind fun e19=>match e19 with
 | .inr z=>some z
 | .inl t22 =>
 some (-1)
noncomputable def m122 (s_0 : List Bytes) (f_1 : Bytes → Option Bool) : Option (Bool) :=
 (m127 s_0 f_1).bind fun r1 =>
 some (decide (0 ≤ r1))
noncomputable def m80 (l_0 : List Bytes) (right : Bytes → Option Bool) : Option (Bool) :=
 (m122 l_0 (fun x0_=>m123 x0_ right)).bind fun r5 =>
 some (!r5)
noncomputable def m150 (b_0 : Int) : Option (Bool) :=
 ((
  if (32 : Int) ≤ b_0 then (
   if b_0 ≤ 126 then (
    (m151 [44,58,59,61] b_0).bind fun r17 =>
    some (!r17))
   else
   some false)
  else
  some false
 ) : Option (Bool)).bind fun t10 =>
 some t10
noncomputable def m72 (n_0 : Int) (low : Int) (high : Int) : Option (Bool) :=
 ((
  if low ≤ n_0 then (
   some (decide (n_0 ≤ high)))
  else
  some false
 ) : Option (Bool)).bind fun t4 =>
 some t4
noncomputable def m193 (x_0 : Int) (f0_ : Int → Option Bool) : Option (Bool) :=
 (f0_ x_0).bind fun r1 =>
 some (!r1)
noncomputable def m218_1 (s_0 : List UInt8) (f_1 : Int → Option Bool) (s23 : Nat) : Option ((Nat) ⊕ ((Unit) ⊕ Int)) :=
 if (s23 : Int) < (s_0.length : Int) then (
  (s_0[s23]?).bind fun x46 =>
  (f_1 (x46.toNat : Int)).bind fun r54 =>
  if r54 then (
   some (.inr (.inr (s23 : Int))))
  else
  some (.inl (s23 + 1)))
 else
 some (.inr (.inl ()))
noncomputable def m218 (s_0 : List UInt8) (f_1 : Int → Option Bool) : Option (Int) :=
 (loopO (m218_1 s_0 f_1) 0).bind fun e19=>match e19 with
 | .inr z=>some z
 | .inl t22 =>
 some (-1)
noncomputable def m192 (s_0 : List UInt8) (f_1 : Int → Option Bool) : Option (Bool) :=
 (m218 s_0 f_1).bind fun r1 =>
 some (decide (0 ≤ r1))
noncomputable def m152 (l_0 : List UInt8) (right : Int → Option Bool) : Option (Bool) :=
 (m192 l_0 (fun x0_=>m193 x0_ right)).bind fun r5 =>
 some (!r5)
noncomputable def m117 (s_0 : Bytes) : Option (Bool) :=
 ((
  (m72 (s_0.length : Int) 1 40).bind fun r32 =>
  if r32 then (
   chk (s_0.length ≤ 1073741824) <|
   (m152 s_0 (m150)).bind fun r44 =>
   if r44 then (
    (m153 s_0 [32]).bind fun r49 =>
    if r49 = s_0 then (
     (m154 s_0 [32,32]).bind fun r54 =>
     some (!r54))
    else
    some false)
   else
   some false)
  else
  some false
 ) : Option (Bool)).bind fun t29 =>
 some t29
noncomputable def m118_1 (l_0 : List Bytes) (before : Bytes → Bytes → Option Bool) (s36 : Nat) : Option ((Nat) ⊕ ((Unit) ⊕ Bool)) :=
 if (s36 : Int) < (l_0.length : Int) then (
  ((
   if 0 < (s36 : Int) then (
    (l_0[((s36 : Int) - 1).toNat]?).bind fun x100 =>
    (l_0[s36]?).bind fun x108 =>
    (before x100 x108).bind fun r116 =>
    some (!r116))
   else
   some false
  ) : Option (Bool)).bind fun t95 =>
  if t95 then (
   some (.inr (.inr false)))
  else
  some (.inl (s36 + 1)))
 else
 some (.inr (.inl ()))
noncomputable def m118 (l_0 : List Bytes) (before : Bytes → Bytes → Option Bool) : Option (Bool) :=
 (loopO (m118_1 l_0 before) 0).bind fun e32=>match e32 with
 | .inr z=>some z
 | .inl t35 =>
 some true
noncomputable def m88_1 (s_0 : Bytes) (s229 : Nat × List UInt8) : Option ((Nat × List UInt8) ⊕ (List UInt8)) :=
 if (s229.1 : Int) < (s_0.length : Int) then (
  (s_0[s229.1]?).bind fun x291 =>
  ((
   if (65 : Int) ≤ (x291.toNat : Int) then (
    some (decide ((x291.toNat : Int) ≤ 90)))
   else
   some false
  ) : Option (Bool)).bind fun t345 =>
  ((
   if t345 then (
    chk (0 ≤ ((x291.toNat : Int) - 65) ∧ ((x291.toNat : Int) - 65) ≤ 255) <|
    chk (0 ≤ (((x291.toNat : Int) - 65) + 97) ∧ (((x291.toNat : Int) - 65) + 97) ≤ 255) <|
    chk (s229.2.length + 1 ≤ 1073741824) <|
    some (s229.2 ++ [(UInt8.ofNat (((x291.toNat : Int) - 65) + 97).toNat)]))
   else
   ((
    if (97 : Int) ≤ (x291.toNat : Int) then (
     if (x291.toNat : Int) ≤ 122 then (
      some true)
     else
     if (48 : Int) ≤ (x291.toNat : Int) then (
      some (decide ((x291.toNat : Int) ≤ 57)))
     else
     some false)
    else
    if (48 : Int) ≤ (x291.toNat : Int) then (
     some (decide ((x291.toNat : Int) ≤ 57)))
    else
    some false
   ) : Option (Bool)).bind fun t416 =>
   ((
    if t416 then (
     chk (s229.2.length + 1 ≤ 1073741824) <|
     some (s229.2 ++ [x291]))
    else
    some s229.2
   ) : Option (List UInt8)).bind fun t439 =>
   some t439
  ) : Option (List UInt8)).bind fun t387 =>
  some (.inl ((s229.1 + 1),t387)))
 else
 some (.inr s229.2)
noncomputable def m88 (s_0 : Bytes) : Option (Bytes) :=
 chk (s_0.length ≤ 1073741824) <|
 (loopO (m88_1 s_0) (0,([] : List UInt8))).bind fun e224 =>
 some e224
noncomputable def m86_1 (vals : List Int) (s20 : Nat) : Option ((Nat) ⊕ ((Unit) ⊕ Int)) :=
 if (s20 : Int) < (vals.length : Int) then (
  (vals[s20]?).bind fun x40 =>
  if x40 ≠ 0 then (
   some (.inr (.inr x40)))
  else
  some (.inl (s20 + 1)))
 else
 some (.inr (.inl ()))
noncomputable def m86 (vals : List Int) : Option (Int) :=
 (loopO (m86_1 vals) 0).bind fun e16=>match e16 with
 | .inr z=>some z
 | .inl t19 =>
 some 0
noncomputable def m55 (a_0 : Bytes) (b_1 : Bytes) : Option (Int) :=
 (m88 a_0).bind fun r1 =>
 (m88 b_1).bind fun r4 =>
 (m87 r1 r4).bind fun r7 =>
 (m87 a_0 b_1).bind fun r10 =>
 (m86 ([r7,r10] : List Int)).bind fun r18 =>
 some r18
noncomputable def m32 (a_0 : Bytes) (b_1 : Bytes) : Option (Bool) :=
 (m55 a_0 b_1).bind fun r1 =>
 some (decide (r1 < 0))
noncomputable def m116 (l_0 : List Bytes) : Option (Bool) :=
 ((
  if (l_0.length : Int) ≤ 8 then (
   (m80 l_0 (m117)).bind fun r21 =>
   if r21 then (
    (m118 l_0 (m32)).bind fun r27 =>
    some r27)
   else
   some false)
  else
  some false
 ) : Option (Bool)).bind fun t15 =>
 some t15
noncomputable def m156 (x_0 : Place) (f0_ : Place → Option Bool) : Option (Bool) :=
 (f0_ x_0).bind fun r4 =>
 some (!r4)
noncomputable def m201_1 (s_0 : List Place) (f_1 : Place → Option Bool) (s23 : Nat) : Option ((Nat) ⊕ ((Unit) ⊕ Int)) :=
 if (s23 : Int) < (s_0.length : Int) then (
  (s_0[s23]?).bind fun x46 =>
  (f_1 x46).bind fun r54 =>
  if r54 then (
   some (.inr (.inr (s23 : Int))))
  else
  some (.inl (s23 + 1)))
 else
 some (.inr (.inl ()))
noncomputable def m201 (s_0 : List Place) (f_1 : Place → Option Bool) : Option (Int) :=
 (loopO (m201_1 s_0 f_1) 0).bind fun e19=>match e19 with
 | .inr z=>some z
 | .inl t22 =>
 some (-1)
noncomputable def m155 (s_0 : List Place) (f_1 : Place → Option Bool) : Option (Bool) :=
 (m201 s_0 f_1).bind fun r1 =>
 some (decide (0 ≤ r1))
noncomputable def m119 (l_0 : List Place) (right : Place → Option Bool) : Option (Bool) :=
 (m155 l_0 (fun x0_=>m156 x0_ right)).bind fun r5 =>
 some (!r5)
noncomputable def m120 (p_0 : Place) : Option (Bool) :=
 ((
  (m72 p_0.volume 1 999).bind fun r19 =>
  if r19 then (
   (m72 p_0.from_ 1 p_0.to_).bind fun r24 =>
   if r24 then (
    some (decide (p_0.to_ ≤ 9999)))
   else
   some false)
  else
  some false
 ) : Option (Bool)).bind fun t16 =>
 some t16
noncomputable def m121_1 (l_0 : List Place) (before : Place → Place → Option Bool) (s36 : Nat) : Option ((Nat) ⊕ ((Unit) ⊕ Bool)) :=
 if (s36 : Int) < (l_0.length : Int) then (
  ((
   if 0 < (s36 : Int) then (
    (l_0[((s36 : Int) - 1).toNat]?).bind fun x100 =>
    (l_0[s36]?).bind fun x108 =>
    (before x100 x108).bind fun r116 =>
    some (!r116))
   else
   some false
  ) : Option (Bool)).bind fun t95 =>
  if t95 then (
   some (.inr (.inr false)))
  else
  some (.inl (s36 + 1)))
 else
 some (.inr (.inl ()))
noncomputable def m121 (l_0 : List Place) (before : Place → Place → Option Bool) : Option (Bool) :=
 (loopO (m121_1 l_0 before) 0).bind fun e32=>match e32 with
 | .inr z=>some z
 | .inl t35 =>
 some true
noncomputable def m96 (p_0 : Place) (o_1 : Place) : Option (Bool) :=
 ((
  if p_0.volume < o_1.volume then (
   some true)
  else
  if p_0.volume = o_1.volume then (
   chk (-9223372036854775808 ≤ (p_0.to_ + 1) ∧ (p_0.to_ + 1) ≤ 9223372036854775807) <|
   some (decide ((p_0.to_ + 1) < o_1.from_)))
  else
  some false
 ) : Option (Bool)).bind fun t15 =>
 some t15
noncomputable def m78 (h_0 : Heading) : Option (Bool) :=
 ((
  (m117 h_0.name).bind fun r48 =>
  if r48 then (
   (m116 h_0.variants).bind fun r53 =>
   if r53 then (
    (m116 h_0.also).bind fun r58 =>
    if r58 then (
     if (h_0.places.length : Int) ≤ 30 then (
      (m119 h_0.places (m120)).bind fun r66 =>
      if r66 then (
       (m121 h_0.places (m96)).bind fun r72 =>
       some r72)
      else
      some false)
     else
     some false)
    else
    some false)
   else
   some false)
  else
  some false
 ) : Option (Bool)).bind fun t45 =>
 some t45
noncomputable def m84_1 (f0_ : Heading) (yield : Bytes → Option Bool) (s41 : Nat) : Option ((Nat) ⊕ ((Unit) ⊕ Unit)) :=
 if (s41 : Int) < (f0_.variants.length : Int) then (
  (f0_.variants[s41]?).bind fun x64 =>
  (yield x64).bind fun r72 =>
  if r72 then (
   some (.inl (s41 + 1)))
  else
  some (.inr (.inr ())))
 else
 some (.inr (.inl ()))
noncomputable def m84 (yield : Bytes → Option Bool) (f0_ : Heading) : Option (Unit) :=
 (yield f0_.name).bind fun r10 =>
 if r10 then (
  (loopO (m84_1 f0_ yield) 0).bind fun e37=>match e37 with
  | .inr z=>some z
  | .inl t40 =>
  some ())
 else
 some ()
noncomputable def m81 (s_0 : Bytes) (f0_ : List (Bytes × Int)) (f1_ : List Heading) (f2_ : Heading) : Option (Bool) :=
 ((
  if (lkp f0_ s_0).isSome then (
   chk (0 ≤ ((lkp f0_ s_0).getD (0 : Int))) <|
   (f1_[((lkp f0_ s_0).getD (0 : Int)).toNat]?).bind fun x43 =>
   if x43.name = s_0 then (
    some (decide (s_0 ≠ f2_.name)))
   else
   some false)
  else
  some false
 ) : Option (Bool)).bind fun t36 =>
 some t36
noncomputable def m79 (h_0 : Heading) (f0_ : List (Bytes × Int)) (f1_ : List Heading) : Option (Bool) :=
 (m80 h_0.also (fun x0_=>m81 x0_ f0_ f1_ h_0)).bind fun r14 =>
 some r14
noncomputable def m82_1 (l_0 : List Heading) (before : Heading → Heading → Option Bool) (s56 : Nat) : Option ((Nat) ⊕ ((Unit) ⊕ Bool)) :=
 if (s56 : Int) < (l_0.length : Int) then (
  ((
   if 0 < (s56 : Int) then (
    (l_0[((s56 : Int) - 1).toNat]?).bind fun x160 =>
    (l_0[s56]?).bind fun x178 =>
    (before x160 x178).bind fun r196 =>
    some (!r196))
   else
   some false
  ) : Option (Bool)).bind fun t155 =>
  if t155 then (
   some (.inr (.inr false)))
  else
  some (.inl (s56 + 1)))
 else
 some (.inr (.inl ()))
noncomputable def m82 (l_0 : List Heading) (before : Heading → Heading → Option Bool) : Option (Bool) :=
 (loopO (m82_1 l_0 before) 0).bind fun e52=>match e52 with
 | .inr z=>some z
 | .inl t55 =>
 some true
noncomputable def m83 (a_0 : Heading) (b_1 : Heading) : Option (Bool) :=
 (m32 a_0.name b_1.name).bind fun r25 =>
 some r25
noncomputable def m50_2 (x316 : Heading) (s223 : Nat × (List (Bytes × Int))) (s523 : Nat × (List (Bytes × Int))) : Option ((Nat × (List (Bytes × Int))) ⊕ (((List (Bytes × Int))) ⊕ ((Nat × (List (Bytes × Int))) ⊕ ((List (Bytes × Int)))))) :=
 if (s523.1 : Int) < (x316.variants.length : Int) then (
  (x316.variants[s523.1]?).bind fun x548 =>
  ((
   if (lkp s523.2 x548).isSome then (
    some (.inl 6))
   else
   some (.inr (put s523.2 x548 (s223.1 : Int)))
  ) : Option ((Nat) ⊕ ((List (Bytes × Int))))).bind fun t559=>match t559 with
  | .inl t562=>(
   some (.inr (.inr (.inl (t562,s523.2)))))
  | .inr t563=>(
   some (.inl ((s523.1 + 1),t563))))
 else
 some (.inr (.inl s523.2))
noncomputable def m50_1 (l_0 : List Heading) (s223 : Nat × (List (Bytes × Int))) : Option ((Nat × (List (Bytes × Int))) ⊕ (((List (Bytes × Int))) ⊕ ((List (Bytes × Int)) × Int))) :=
 if (s223.1 : Int) < (l_0.length : Int) then (
  (l_0[s223.1]?).bind fun x316 =>
  ((
   ((
    if (lkp s223.2 x316.name).isSome then (
     some (.inl 6))
    else
    some (.inr (put s223.2 x316.name (s223.1 : Int)))
   ) : Option ((Nat) ⊕ ((List (Bytes × Int))))).bind fun t465=>match t465 with
   | .inl t468=>(
    some (.inl (t468,s223.2)))
   | .inr t469=>(
    (loopO (m50_2 x316 s223) (0,t469)).bind fun e519=>match e519 with
    | .inr z=>some z
    | .inl t522 =>
    some (.inr t522))
  ) : Option ((Nat × (List (Bytes × Int))) ⊕ ((List (Bytes × Int))))).bind fun t457=>match t457 with
  | .inl t460=>(
   some (.inr (.inr ([],(t460.1 : Int)))))
  | .inr t461=>(
   some (.inl ((s223.1 + 1),t461))))
 else
 some (.inr (.inl s223.2))
noncomputable def m50 (l_0 : List Heading) : Option ((List (Bytes × Int)) × Int) :=
 if 60 < (l_0.length : Int) then (
  some ([],3))
 else
 (m77 l_0 (m78)).bind fun r30 =>
 if r30 then (
  (loopO (m50_1 l_0) (0,([] : List (Bytes × Int)))).bind fun e218=>match e218 with
  | .inr z=>some z
  | .inl t221 =>
  ((
   (m77 l_0 (fun x0_=>m79 x0_ t221 l_0)).bind fun r590 =>
   if r590 then (
    (m82 l_0 (m83)).bind fun r596 =>
    some (!r596))
   else
   some true
  ) : Option (Bool)).bind fun t586 =>
  if t586 then (
   some ([],1))
  else
  some (t221,0))
 else
 some ([],1)
noncomputable def m85F : Nat → Bytes → (List (Bytes × Bytes)) → Option (Bytes)
 | 0,_,_=>none
 | n_ + 1,s_0,f0_ =>
 ((
  if (lkp f0_ s_0).isSome then (
   some (decide (((lkp f0_ s_0).getD ([] : Bytes)) ≠ s_0)))
  else
  some false
 ) : Option (Bool)).bind fun t4 =>
 if t4 then (
  (m85F n_ ((lkp f0_ s_0).getD ([] : Bytes)) f0_).bind fun r18 =>
  some r18)
 else
 some s_0
noncomputable def m85 (s_0 : Bytes) (f0_ : List (Bytes × Bytes)) : Option (Bytes):=recO (fun n_=>m85F n_ s_0 f0_)
noncomputable def m53 (l_0 : List (Bytes × Bytes)) (s_1 : Bytes) : Option (Bytes) :=
 (m85 s_1 l_0).bind fun r6 =>
 some r6
noncomputable def m54_1 (x_0 : List Bytes) (cmp : Bytes → Bytes → Option Int) (s36 : Nat × Bytes) : Option ((Nat × Bytes) ⊕ (Bytes)) :=
 if (s36.1 : Int) < (x_0.length : Int) then (
  (x_0[s36.1]?).bind fun x59 =>
  (cmp x59 s36.2).bind fun r66 =>
  ((
   if r66 < 0 then (
    some x59)
   else
   some s36.2
  ) : Option (Bytes)).bind fun t72 =>
  some (.inl ((s36.1 + 1),t72)))
 else
 some (.inr s36.2)
noncomputable def m54 (x_0 : List Bytes) (cmp : Bytes → Bytes → Option Int) : Option (Bytes) :=
 if (x_0.length : Int) < 1 then (
  none)
 else
 (x_0[0]?).bind fun x7 =>
 (loopO (m54_1 x_0 cmp) (1,x7)).bind fun e33 =>
 some e33
noncomputable def m89_1 (slices : List (List Bytes)) (s25 : Nat × Nat) : Option ((Nat × Nat) ⊕ (Nat)) :=
 if (s25.2 : Int) < (slices.length : Int) then (
  (slices[s25.2]?).bind fun x51 =>
  chk (-9223372036854775808 ≤ ((s25.1 : Int) + (x51.length : Int)) ∧ ((s25.1 : Int) + (x51.length : Int)) ≤ 9223372036854775807) <|
  if ((s25.1 : Int) + (x51.length : Int)) < 0 then (
   none)
  else
  some (.inl ((s25.1 + x51.length),(s25.2 + 1))))
 else
 some (.inr s25.1)
noncomputable def m89_2 (slices : List (List Bytes)) (s146 : Nat × List Bytes) : Option ((Nat × List Bytes) ⊕ (List Bytes)) :=
 if (s146.1 : Int) < (slices.length : Int) then (
  (slices[s146.1]?).bind fun x173 =>
  chk (s146.2.length + x173.length ≤ 1073741824) <|
  some (.inl ((s146.1 + 1),(s146.2 ++ x173))))
 else
 some (.inr s146.2)
noncomputable def m89 (slices : List (List Bytes)) : Option (List Bytes) :=
 (loopO (m89_1 slices) (0,0)).bind fun e22 =>
 chk (e22 ≤ 1073741824) <|
 (loopO (m89_2 slices) (0,([] : List Bytes))).bind fun e141 =>
 some e141
noncomputable def m93 (s_0 : Bytes) (f0_ : Bytes) : Option (Bool) :=
 some (decide (s_0 = f0_))
noncomputable def m56_1 (lists : List (List Bytes)) (s127 : Nat × Nat) : Option ((Nat × Nat) ⊕ (Nat)) :=
 if (s127.2 : Int) < (lists.length : Int) then (
  (lists[s127.2]?).bind fun x153 =>
  chk (-9223372036854775808 ≤ ((s127.1 : Int) + (x153.length : Int)) ∧ ((s127.1 : Int) + (x153.length : Int)) ≤ 9223372036854775807) <|
  if ((s127.1 : Int) + (x153.length : Int)) < 0 then (
   none)
  else
  some (.inl ((s127.1 + x153.length),(s127.2 + 1))))
 else
 some (.inr s127.1)
noncomputable def m56_2 (lists : List (List Bytes)) (s248 : Nat × List Bytes) : Option ((Nat × List Bytes) ⊕ (List Bytes)) :=
 if (s248.1 : Int) < (lists.length : Int) then (
  (lists[s248.1]?).bind fun x275 =>
  chk (s248.2.length + x275.length ≤ 1073741824) <|
  some (.inl ((s248.1 + 1),(s248.2 ++ x275))))
 else
 some (.inr s248.2)
noncomputable def m56 (but : Bytes) (lists : List (List Bytes)) : Option (List Bytes) :=
 ((
  (loopO (m56_1 lists) (0,0)).bind fun e124 =>
  chk (e124 ≤ 1073741824) <|
  (loopO (m56_2 lists) (0,([] : List Bytes))).bind fun e243 =>
  some e243
 ) : Option (List Bytes)).bind fun t98 =>
 (sortO (m55) t98).bind fun l292 =>
 some ((Lib.compact l292).filter fun x=>!decide (x = but))
noncomputable def m95 (a_0 : Place) (b_1 : Place) : Option (Int) :=
 chk (-9223372036854775808 ≤ (a_0.volume - b_1.volume) ∧ (a_0.volume - b_1.volume) ≤ 9223372036854775807) <|
 chk (-9223372036854775808 ≤ (a_0.from_ - b_1.from_) ∧ (a_0.from_ - b_1.from_) ≤ 9223372036854775807) <|
 (m86 ([(a_0.volume - b_1.volume),(a_0.from_ - b_1.from_)] : List Int)).bind fun r16 =>
 some r16
noncomputable def m57_1 (l_0 : List Place) (l1 : List Place) (s181 : Nat × Int × Int × Int × List Place) : Option ((Nat × Int × Int × Int × List Place) ⊕ (Int × Int × Int × List Place)) :=
 if (s181.1 : Int) < (l_0.length : Int) then (
  (l1[s181.1]?).bind fun x230 =>
  ((
   if (⟨s181.2.1,s181.2.2.1,s181.2.2.2.1⟩ : Place) = (⟨0,0,0⟩ : Place) then (
    some false)
   else
   (m96 (⟨s181.2.1,s181.2.2.1,s181.2.2.2.1⟩ : Place) x230).bind fun r249 =>
   some (!r249)
  ) : Option (Bool)).bind fun t243 =>
  ((
   if t243 then (
    chk (0 ≤ ((s181.2.2.2.2.length : Int) - 1)) <|
    (s181.2.2.2.2[((s181.2.2.2.2.length : Int) - 1).toNat]?).bind fun x276 =>
    some (s181.2.2.2.2.set (((s181.2.2.2.2.length : Int) - 1).toNat) (⟨x276.volume,x276.from_,(max s181.2.2.2.1 x230.to_)⟩ : Place)))
   else
   chk (s181.2.2.2.2.length + 1 ≤ 1073741824) <|
   some (s181.2.2.2.2 ++ [x230])
  ) : Option (List Place)).bind fun t267 =>
  chk (0 ≤ ((t267.length : Int) - 1)) <|
  (t267[((t267.length : Int) - 1).toNat]?).bind fun x289 =>
  some (.inl ((s181.1 + 1),x289.volume,x289.from_,x289.to_,t267)))
 else
 some (.inr (s181.2.1,s181.2.2.1,s181.2.2.2.1,s181.2.2.2.2))
noncomputable def m57 (l_0 : List Place) : Option (List Place) :=
 sortW (m95) l_0 fun l1 =>
 (loopO (m57_1 l_0 l1) (0,0,0,0,([] : List Place))).bind fun e176 =>
 some e176.2.2.2
noncomputable def m59 (a_0 : Heading) (b_1 : Heading) : Option (Int) :=
 (m55 a_0.name b_1.name).bind fun r25 =>
 some r25
noncomputable def m18_3 (x1289 : Heading) (s1525 : Nat × (List (Bytes × Bytes))) : Option ((Nat × (List (Bytes × Bytes))) ⊕ ((List (Bytes × Bytes)))) :=
 if (s1525.1 : Int) < (x1289.variants.length : Int) then (
  (x1289.variants[s1525.1]?).bind fun x1554 =>
  ((
   ((
    (m53 s1525.2 x1554).bind fun r1592 =>
    (m53 s1525.2 x1289.name).bind fun r1595 =>
    some (put s1525.2 r1592 r1595)
   ) : Option ((List (Bytes × Bytes)))).bind fun t1589 =>
   some t1589
  ) : Option ((List (Bytes × Bytes)))).bind fun t1571 =>
  some (.inl ((s1525.1 + 1),t1571)))
 else
 some (.inr s1525.2)
noncomputable def m18_2 (x967 : List Heading) (s1188 : Nat × (List (Bytes × Bytes))) : Option ((Nat × (List (Bytes × Bytes))) ⊕ ((List (Bytes × Bytes)))) :=
 if (s1188.1 : Int) < (x967.length : Int) then (
  (x967[s1188.1]?).bind fun x1289 =>
  ((
   ((
    ((
     (m53 s1188.2 x1289.name).bind fun r1471 =>
     some (put s1188.2 r1471 r1471)
    ) : Option ((List (Bytes × Bytes)))).bind fun t1468 =>
    some t1468
   ) : Option ((List (Bytes × Bytes)))).bind fun t1456 =>
   (loopO (m18_3 x1289) (0,t1456)).bind fun e1522 =>
   some e1522
  ) : Option ((List (Bytes × Bytes)))).bind fun t1447 =>
  some (.inl ((s1188.1 + 1),t1447)))
 else
 some (.inr s1188.2)
noncomputable def m18_1 (indices : List (List Heading)) (s727 : Nat × List Heading × (List (Bytes × Bytes))) : Option ((Nat × List Heading × (List (Bytes × Bytes))) ⊕ ((List Heading × (List (Bytes × Bytes))) ⊕ (List Heading × Int))) :=
 if (s727.1 : Int) < (indices.length : Int) then (
  (indices[s727.1]?).bind fun x967 =>
  (m50 x967).bind fun r979 =>
  if r979.2 ≠ 0 then (
   some (.inr (.inr (([] : List Heading),r979.2))))
  else
  (loopO (m18_2 x967) (0,s727.2.2)).bind fun e1184 =>
  chk (s727.2.1.length + x967.length ≤ 1073741824) <|
  some (.inl ((s727.1 + 1),(s727.2.1 ++ x967),e1184)))
 else
 some (.inr (.inl (s727.2.1,s727.2.2)))
noncomputable def m18_4 (t720 : List Heading × (List (Bytes × Bytes))) (s1878 : Nat × (List (Bytes × grown))) : Option ((Nat × (List (Bytes × grown))) ⊕ ((List (Bytes × grown)))) :=
 if (s1878.1 : Int) < (t720.1.length : Int) then (
  (t720.1[s1878.1]?).bind fun x1969 =>
  (m53 t720.2 x1969.name).bind fun r1991 =>
  ((
   if (lkp s1878.2 r1991).isSome then (
    some s1878.2)
   else
   some (put s1878.2 r1991 zeroG)
  ) : Option ((List (Bytes × grown)))).bind fun t1999 =>
  (lkp t1999 r1991).bind fun y2010 =>
  chk (y2010.heads.length + ([x1969.name] : List Bytes).length ≤ 1073741824) <|
  chk (y2010.heading.variants.length + x1969.variants.length ≤ 1073741824) <|
  chk (y2010.heading.also.length + x1969.also.length ≤ 1073741824) <|
  chk (y2010.heading.places.length + x1969.places.length ≤ 1073741824) <|
  some (.inl ((s1878.1 + 1),(put t1999 r1991 (⟨⟨y2010.heading.name,(y2010.heading.variants ++ x1969.variants),(y2010.heading.also ++ x1969.also),(y2010.heading.places ++ x1969.places)⟩,(y2010.heads ++ ([x1969.name] : List Bytes))⟩ : grown)))))
 else
 some (.inr s1878.2)
noncomputable def m18_9 (q2811 : Bytes × grown) (t720 : List Heading × (List (Bytes × Bytes))) (s2127 : (List (Bytes × grown))) (s3149 : Nat × List Bytes) : Option ((Nat × List Bytes) ⊕ (List Bytes)) :=
 if (s3149.1 : Int) < (q2811.2.heading.also.length : Int) then (
  (q2811.2.heading.also[s3149.1]?).bind fun x3190 =>
  (m53 t720.2 x3190).bind fun r3198 =>
  (lkp s2127 r3198).bind fun y3201 =>
  chk (s3149.2.length + 1 ≤ 1073741824) <|
  some (.inl ((s3149.1 + 1),(s3149.2 ++ [y3201.heading.name]))))
 else
 some (.inr s3149.2)
noncomputable def m18_8  (s2778 : List Heading) : Option (List Heading × Int) :=
 if 60 < (s2778.length : Int) then (
  some (([] : List Heading),3))
 else
 chk (s2778.Nodup) <|
 (sortO (m59) s2778).bind fun l2801 =>
 some (l2801,0)
noncomputable def m18_7 (s2127 : (List (Bytes × grown))) (t720 : List Heading × (List (Bytes × Bytes))) (s2778 : List Heading) (i2785 : Nat) : Option ((List Heading) ⊕ (List Heading × Int)) :=
 (s2127[i2785]?).bind fun q2811 =>
 (m56 q2811.2.heading.name ([q2811.2.heading.variants,q2811.2.heads] : List (List Bytes))).bind fun r3013 =>
 (m57 q2811.2.heading.places).bind fun r3023 =>
 (loopO (m18_9 q2811 t720 s2127) (0,([] : List Bytes))).bind fun e3144 =>
 (m56 q2811.2.heading.name ([e3144] : List (List Bytes))).bind fun r3229 =>
 ((
  if 8 < (r3013.length : Int) then (
   some true)
  else
  if 8 < (r3229.length : Int) then (
   some true)
  else
  some (decide (30 < (r3023.length : Int)))
 ) : Option (Bool)).bind fun t3242 =>
 if t3242 then (
  some (.inr (([] : List Heading),3)))
 else
 chk (s2778.length + 1 ≤ 1073741824) <|
 some (.inl (s2778 ++ [(⟨q2811.2.heading.name,r3013,r3229,r3023⟩ : Heading)]))
noncomputable def m18_6 (t720 : List Heading × (List (Bytes × Bytes))) (s2127 : (List (Bytes × grown))) : Option (List Heading × Int) :=
 ordO s2127.length (m18_7 s2127 t720) m18_8 ([] : List Heading)
noncomputable def m18_5  (s2127 : (List (Bytes × grown))) (i2131 : Nat) : Option (((List (Bytes × grown))) ⊕ (List Heading × Int)) :=
 (s2127[i2131]?).bind fun q3269 =>
 (m54 q3269.2.heads (m55)).bind fun r3288 =>
 some (.inl (s2127.set i2131 (q3269.1,(⟨⟨r3288,q3269.2.heading.variants,q3269.2.heading.also,q3269.2.heading.places⟩,q3269.2.heads⟩ : grown))))
noncomputable def m18 (indices : List (List Heading)) : Option (List Heading × Int) :=
 if 12 < (indices.length : Int) then (
  some (([] : List Heading),3))
 else
 (loopO (m18_1 indices) (0,([] : List Heading),([] : List (Bytes × Bytes)))).bind fun e717=>match e717 with
 | .inr z=>some z
 | .inl t720 =>
 (loopO (m18_4 t720) (0,([] : List (Bytes × grown)))).bind fun e1872 =>
 ordO e1872.length m18_5 (m18_6 t720) e1872
noncomputable def m139 (p_0 : Place) : Option (Bytes) :=
 (m179 p_0.volume).bind fun r4 =>
 chk (r4.length + [47].length ≤ 1073741824) <|
 (m179 p_0.from_).bind fun r9 =>
 chk ((r4 ++ [47]).length + r9.length ≤ 1073741824) <|
 ((
  if p_0.from_ < p_0.to_ then (
   (m179 p_0.to_).bind fun r30 =>
   chk ([45].length + r30.length ≤ 1073741824) <|
   chk (((r4 ++ [47]) ++ r9).length + ([45] ++ r30).length ≤ 1073741824) <|
   some (((r4 ++ [47]) ++ r9) ++ ([45] ++ r30)))
  else
  some ((r4 ++ [47]) ++ r9)
 ) : Option (Bytes)).bind fun t25 =>
 some t25
noncomputable def m100_1 (h_0 : Heading) (s99 : Nat × List Bytes) : Option ((Nat × List Bytes) ⊕ (List Bytes)) :=
 if (s99.1 : Int) < (h_0.places.length : Int) then (
  (h_0.places[s99.1]?).bind fun x131 =>
  (m139 x131).bind fun r142 =>
  chk ([32].length + r142.length ≤ 1073741824) <|
  chk (s99.2.length + 1 ≤ 1073741824) <|
  some (.inl ((s99.1 + 1),(s99.2 ++ [([32] ++ r142)]))))
 else
 some (.inr s99.2)
noncomputable def m100 (h_0 : Heading) : Option (Bytes) :=
 (loopO (m100_1 h_0) (0,([] : List Bytes))).bind fun e94 =>
 chk (h_0.name.length + [58].length ≤ 1073741824) <|
 (m140 e94 [44]).bind fun r155 =>
 chk ((h_0.name ++ [58]).length + r155.length ≤ 1073741824) <|
 ((
  if 0 < (h_0.also.length : Int) then (
   (m140 h_0.also [44,32]).bind fun r176 =>
   chk ([59,32].length + r176.length ≤ 1073741824) <|
   chk (((h_0.name ++ [58]) ++ r155).length + ([59,32] ++ r176).length ≤ 1073741824) <|
   some (((h_0.name ++ [58]) ++ r155) ++ ([59,32] ++ r176)))
  else
  some ((h_0.name ++ [58]) ++ r155)
 ) : Option (Bytes)).bind fun t171 =>
 some t171
noncomputable def m63_2 (x709 : Heading) (s1078 : Nat × List Bytes × (List (Bytes × Bytes))) : Option ((Nat × List Bytes × (List (Bytes × Bytes))) ⊕ (List Bytes × (List (Bytes × Bytes)))) :=
 if (s1078.1 : Int) < (x709.variants.length : Int) then (
  (x709.variants[s1078.1]?).bind fun x1111 =>
  ((
   chk (s1078.2.1.length + 1 ≤ 1073741824) <|
   chk (x1111.length + [32,61,32].length ≤ 1073741824) <|
   chk ((x1111 ++ [32,61,32]).length + x709.name.length ≤ 1073741824) <|
   some ((s1078.2.1 ++ [x1111]),(put s1078.2.2 x1111 ((x1111 ++ [32,61,32]) ++ x709.name)))
  ) : Option (List Bytes × (List (Bytes × Bytes)))).bind fun t1128 =>
  some (.inl ((s1078.1 + 1),t1128.1,t1128.2)))
 else
 some (.inr (s1078.2.1,s1078.2.2))
noncomputable def m63_1 (l_0 : List Heading) (s558 : Nat × List Bytes × (List (Bytes × Bytes))) : Option ((Nat × List Bytes × (List (Bytes × Bytes))) ⊕ (List Bytes × (List (Bytes × Bytes)))) :=
 if (s558.1 : Int) < (l_0.length : Int) then (
  (l_0[s558.1]?).bind fun x709 =>
  ((
   ((
    chk (s558.2.1.length + 1 ≤ 1073741824) <|
    chk (x709.name.length + [32,61,32].length ≤ 1073741824) <|
    chk ((x709.name ++ [32,61,32]).length + x709.name.length ≤ 1073741824) <|
    some ((s558.2.1 ++ [x709.name]),(put s558.2.2 x709.name ((x709.name ++ [32,61,32]) ++ x709.name)))
   ) : Option (List Bytes × (List (Bytes × Bytes)))).bind fun t967 =>
   (loopO (m63_2 x709) (0,t967.1,t967.2)).bind fun e1073 =>
   some (e1073.1,e1073.2)
  ) : Option (List Bytes × (List (Bytes × Bytes)))).bind fun t953 =>
  (m100 x709).bind fun r1152 =>
  some (.inl ((s558.1 + 1),t953.1,(put t953.2 x709.name r1152))))
 else
 some (.inr (s558.2.1,s558.2.2))
noncomputable def m63_3 (e552 : List Bytes × (List (Bytes × Bytes))) (l1157 : List Bytes) (s1234 : Nat × Bool × List UInt8) : Option ((Nat × Bool × List UInt8) ⊕ (Bool × List UInt8)) :=
 if (s1234.1 : Int) < (e552.1.length : Int) then (
  (l1157[s1234.1]?).bind fun x1260 =>
  chk (((lkp e552.2 x1260).getD ([] : Bytes)).length + [10].length ≤ 1073741824) <|
  ((
   chk (s1234.2.2.length + (((lkp e552.2 x1260).getD ([] : Bytes)) ++ [10]).length ≤ 1073741824) <|
   some ((((lkp e552.2 x1260).getD ([] : Bytes)) ++ [10]).length,true,(s1234.2.2 ++ (((lkp e552.2 x1260).getD ([] : Bytes)) ++ [10])))
  ) : Option (Nat × Bool × List UInt8)).bind fun t1270 =>
  some (.inl ((s1234.1 + 1),t1270.2.1,t1270.2.2)))
 else
 some (.inr (s1234.2.1,s1234.2.2))
noncomputable def m63 (l_0 : List Heading) : Option (Bytes) :=
 (loopO (m63_1 l_0) (0,([] : List Bytes),([] : List (Bytes × Bytes)))).bind fun e552 =>
 (sortO (m55) e552.1).bind fun l1157 =>
 (loopO (m63_3 e552 l1157) (0,false,([] : List UInt8))).bind fun e1229 =>
 some e1229.2
noncomputable def m25 (l_0 : List Heading) : Option (List UInt8 × Int) :=
 (m50 l_0).bind fun r1 =>
 if r1.2 ≠ 0 then (
  some (([] : List UInt8),r1.2))
 else
 (m63 l_0).bind fun r13 =>
 chk (r13.length ≤ 1073741824) <|
 some (r13,0)
noncomputable def m48  : Option (Bytes) :=
 some [65,32,76,101,101,58,32,51,47,55,44,32,57,47,49,45,50,10,67,111,114,110,32,76,97,119,115,58,32,51,47,49,50,45,49,52,44,32,52,47,49,45,50,59,32,84,114,97,100,101,10,67,111,114,110,32,108,97,119,115,32,61,32,67,111,114,110,32,76,97,119,115,10,76,97,100,121,32,76,101,101,32,61,32,65,32,76,101,101,10,76,101,101,32,65,110,110,32,61,32,65,32,76,101,101,10,84,114,97,100,101,58,32,51,47,49,51,10]
noncomputable def m146 (o_0 : odd) (s_1 : Bytes) : Option (Int ⊕ Unit) :=
 (m189 s_1).bind fun r4 =>
 if r4.2 then (
  some (.inr ()))
 else
 some (.inl r4.1)
noncomputable def m109 (o_0 : odd) (s_1 : Bytes) : Option (Place ⊕ Unit) :=
 (m68 s_1 [47]).bind fun r5 =>
 (m68 r5.2.1 [45]).bind fun r8 =>
 (m146 o_0 r5.1).bind fun r11=>match r11 with
 | .inl y14=>(
  (m146 o_0 r8.1).bind fun r16=>match r16 with
  | .inl y19=>(
   ((
    if r8.2.2 then (
     (m146 o_0 r8.2.1).bind fun r36=>match r36 with
     | .inl y39=>(
      some (.inl y39))
     | .inr _=>(
      some (.inr (.inr ()))))
    else
    some (.inl y19)
   ) : Option ((Int) ⊕ (Place ⊕ Unit))).bind fun t30=>match t30 with
   | .inr z=>some z
   | .inl t33 =>
   some (.inl (⟨y14,y19,t33⟩ : Place)))
  | .inr _=>(
   some (.inr ())))
 | .inr _=>(
  some (.inr ()))
noncomputable def m69_1 (r238 : List Bytes) (o_0 : odd) (s329 : Nat × List Place) : Option ((Nat × List Place) ⊕ ((List Place) ⊕ ((List Place) ⊕ (Heading ⊕ Unit)))) :=
 if (s329.1 : Int) < (r238.length : Int) then (
  (r238[s329.1]?).bind fun x372 =>
  (m110 x372 [32]).bind fun r380 =>
  (m109 o_0 r380).bind fun r383=>match r383 with
  | .inl y386=>(
   chk (s329.2.length + ([y386] : List Place).length ≤ 1073741824) <|
   some (.inl ((s329.1 + 1),(s329.2 ++ ([y386] : List Place)))))
  | .inr _=>(
   some (.inr (.inr (.inr (.inr ()))))))
 else
 some (.inr (.inl s329.2))
noncomputable def m69 (o_0 : odd) : Option (Heading ⊕ Unit) :=
 (m68 o_0.line [58]).bind fun r5 =>
 (m68 r5.2.1 [59,32]).bind fun r8 =>
 ((
  if r8.1 ≠ [] then (
   (m67 r8.1 [44]).bind fun r238 =>
   (loopO (m69_1 r238 o_0) (0,([] : List Place))).bind fun e323=>match e323 with
   | .inr z=>some z
   | .inl t326 =>
   some (.inl t326))
  else
  some (.inl ([] : List Place))
 ) : Option ((List Place) ⊕ (Heading ⊕ Unit))).bind fun t230=>match t230 with
 | .inr z=>some z
 | .inl t233 =>
 ((
  if r8.2.2 then (
   (m67 r8.2.1 [44,32]).bind fun r425 =>
   some r425)
  else
  some ([] : List Bytes)
 ) : Option (List Bytes)).bind fun t416 =>
 some (.inl (⟨r5.1,([] : List Bytes),t416,t233⟩ : Heading))
noncomputable def m28_1 (r9 : List Bytes) (s385 : Nat × List Heading × (List (Bytes × (List Bytes)))) : Option ((Nat × List Heading × (List (Bytes × (List Bytes)))) ⊕ ((List Heading × (List (Bytes × (List Bytes)))) ⊕ (List Heading × Int))) :=
 if (s385.1 : Int) < ((r9.take (((r9.length : Int) - 1).toNat)).length : Int) then (
  ((r9.take (((r9.length : Int) - 1).toNat))[s385.1]?).bind fun x485 =>
  (m68 x485 [32,61,32]).bind fun r493 =>
  ((
   if r493.2.2 then (
    chk (((lkp s385.2.2 r493.2.1).getD []).length + 1 ≤ 1073741824) <|
    some (.inl (s385.2.1,(put s385.2.2 r493.2.1 (((lkp s385.2.2 r493.2.1).getD []) ++ [r493.1])))))
   else
   (m69 (⟨x485⟩ : odd)).bind fun r583=>match r583 with
   | .inl y586=>(
    chk (s385.2.1.length + ([y586] : List Heading).length ≤ 1073741824) <|
    some (.inl ((s385.2.1 ++ ([y586] : List Heading)),s385.2.2)))
   | .inr _=>(
    some (.inr (.inr (.inr (([] : List Heading),4)))))
  ) : Option ((List Heading × (List (Bytes × (List Bytes)))) ⊕ ((Nat × List Heading × (List (Bytes × (List Bytes)))) ⊕ ((List Heading × (List (Bytes × (List Bytes)))) ⊕ (List Heading × Int))))).bind fun t559=>match t559 with
  | .inr z=>some z
  | .inl t562 =>
  some (.inl ((s385.1 + 1),t562.1,t562.2)))
 else
 some (.inr (.inl (s385.2.1,s385.2.2)))
noncomputable def m28_2 (t376 : List Heading × (List (Bytes × (List Bytes)))) (s752 : Nat × (List (Bytes × (List Bytes))) × List Heading) : Option ((Nat × (List (Bytes × (List Bytes))) × List Heading) ⊕ (List Heading)) :=
 if (s752.1 : Int) < (t376.1.length : Int) then (
  (s752.2.2[s752.1]?).bind fun x798 =>
  some (.inl ((s752.1 + 1),s752.2.1,(s752.2.2.set s752.1 (⟨x798.name,((lkp s752.2.1 x798.name).getD []),x798.also,x798.places⟩ : Heading)))))
 else
 some (.inr s752.2.2)
noncomputable def m28 (b_0 : List UInt8) : Option (List Heading × Int) :=
 if 200000 < (b_0.length : Int) then (
  some (([] : List Heading),3))
 else
 (m67 b_0 [10]).bind fun r9 =>
 chk (0 ≤ ((r9.length : Int) - 1)) <|
 chk (((r9.length : Int) - 1).toNat ≤ r9.length) <|
 (loopO (m28_1 r9) (0,([] : List Heading),([] : List (Bytes × (List Bytes))))).bind fun e373=>match e373 with
 | .inr z=>some z
 | .inl t376 =>
 (loopO (m28_2 t376) (0,t376.2,t376.1)).bind fun e744 =>
 (m50 e744).bind fun r830 =>
 ((
  if r830.2 ≠ 0 then (
   some true)
  else
  (m63 e744).bind fun r851 =>
  some (decide (r851 ≠ b_0))
 ) : Option (Bool)).bind fun t844 =>
 if t844 then (
  some (([] : List Heading),4))
 else
 some (e744,0)
noncomputable def m73 (p_0 : Place) (c_1 : A2_Int) : Option (Bool) :=
 ((
  if p_0.volume = c_1.e0 then (
   (m72 c_1.e1 p_0.from_ p_0.to_).bind fun r18 =>
   some r18)
  else
  some false
 ) : Option (Bool)).bind fun t13 =>
 some t13
noncomputable def m33_2 (x337 : Heading) (volume : Int) (number : Int) (s273 : Nat × List Bytes) (s388 : Nat) : Option ((Nat) ⊕ ((Unit) ⊕ (List Bytes))) :=
 if (s388 : Int) < (x337.places.length : Int) then (
  (x337.places[s388]?).bind fun x419 =>
  (m73 x419 (⟨volume,number⟩ : A2_Int)).bind fun r430 =>
  if r430 then (
   chk (s273.2.length + 1 ≤ 1073741824) <|
   Option.map (fun z=>.inr (.inr z)) (
   some (s273.2 ++ [x337.name])))
  else
  some (.inl (s388 + 1)))
 else
 some (.inr (.inl ()))
noncomputable def m33_1 (l_0 : List Heading) (volume : Int) (number : Int) (s273 : Nat × List Bytes) : Option ((Nat × List Bytes) ⊕ (List Bytes)) :=
 if (s273.1 : Int) < (l_0.length : Int) then (
  ((
   (l_0[s273.1]?).bind fun x337 =>
   (loopO (m33_2 x337 volume number s273) 0).bind fun e384=>match e384 with
   | .inr z=>some z
   | .inl t387 =>
   some s273.2
  ) : Option (List Bytes)).bind fun t332 =>
  some (.inl ((s273.1 + 1),t332)))
 else
 some (.inr s273.2)
noncomputable def m33 (l_0 : List Heading) (volume : Int) (number : Int) : Option (List Bytes × Int) :=
 (m50 l_0).bind fun r1 =>
 if r1.2 ≠ 0 then (
  some (([] : List Bytes),r1.2))
 else
 ((
  (m72 volume 1 999).bind fun r25 =>
  if r25 then (
   (m72 number 1 9999).bind fun r30 =>
   some (!r30))
  else
  some true
 ) : Option (Bool)).bind fun t22 =>
 if t22 then (
  some (([] : List Bytes),2))
 else
 (loopO (m33_1 l_0 volume number) (0,([] : List Bytes))).bind fun e268 =>
 some (e268,0)
noncomputable def m44_1 (a_0 : List Bytes) (b_1 : List Bytes) (s35 : Nat) : Option ((Nat) ⊕ ((Unit) ⊕ Bool)) :=
 if (s35 : Int) < (a_0.length : Int) then (
  (a_0[s35]?).bind fun x64 =>
  (b_1[s35]?).bind fun x72 =>
  if x64 ≠ x72 then (
   some (.inr (.inr false)))
  else
  some (.inl (s35 + 1)))
 else
 some (.inr (.inl ()))
noncomputable def m44 (a_0 : List Bytes) (b_1 : List Bytes) : Option (Bool) :=
 if (a_0.length : Int) ≠ (b_1.length : Int) then (
  some false)
 else
 (loopO (m44_1 a_0 b_1) 0).bind fun e31=>match e31 with
 | .inr z=>some z
 | .inl t34 =>
 some true
noncomputable def m40_1 (a_0 : Heading) (b_1 : Heading) (s92 : Nat) : Option ((Nat) ⊕ ((Unit) ⊕ Bool)) :=
 if (s92 : Int) < (a_0.places.length : Int) then (
  (a_0.places[s92]?).bind fun x121 =>
  (b_1.places[s92]?).bind fun x129 =>
  if x121 = x129 then (
   some (.inl (s92 + 1)))
  else
  some (.inr (.inr false)))
 else
 some (.inr (.inl ()))
noncomputable def m40 (a_0 : Heading) (b_1 : Heading) : Option (Bool) :=
 ((
  if a_0.name ≠ b_1.name then (
   some true)
  else
  (m44 a_0.variants b_1.variants).bind fun r46 =>
  if r46 then (
   (m44 a_0.also b_1.also).bind fun r51 =>
   if r51 then (
    some (decide ((a_0.places.length : Int) ≠ (b_1.places.length : Int))))
   else
   some true)
  else
  some true
 ) : Option (Bool)).bind fun t40 =>
 if t40 then (
  some false)
 else
 (loopO (m40_1 a_0 b_1) 0).bind fun e88=>match e88 with
 | .inr z=>some z
 | .inl t91 =>
 some true
noncomputable def m23_1 (a_0 : List Heading) (b_1 : List Heading) (s58 : Nat) : Option ((Nat) ⊕ ((Unit) ⊕ Bool)) :=
 if (s58 : Int) < (a_0.length : Int) then (
  (a_0[s58]?).bind fun x110 =>
  (b_1[s58]?).bind fun x128 =>
  (m40 x110 x128).bind fun r147 =>
  if r147 then (
   some (.inl (s58 + 1)))
  else
  some (.inr (.inr false)))
 else
 some (.inr (.inl ()))
noncomputable def m23 (a_0 : List Heading) (b_1 : List Heading) : Option (Bool) :=
 if (a_0.length : Int) ≠ (b_1.length : Int) then (
  some false)
 else
 (loopO (m23_1 a_0 b_1) 0).bind fun e54=>match e54 with
 | .inr z=>some z
 | .inl t57 =>
 some true
noncomputable def m16  : Option (Bool) :=
 (m47).bind fun r1 =>
 (m18 r1).bind fun r8 =>
 (m25 r8.1).bind fun r15 =>
 (m48).bind fun r22 =>
 chk (r22.length ≤ 1073741824) <|
 (m28 r22).bind fun r31 =>
 (m33 r8.1 3 13).bind fun r38 =>
 ((
  if r8.2 = 0 then (
   if r15.2 = 0 then (
    if r15.1 = r22 then (
     if r31.2 = 0 then (
      (m23 r8.1 r31.1).bind fun r95 =>
      if r95 then (
       if r38.2 = 0 then (
        (m44 r38.1 ([[67,111,114,110,32,76,97,119,115],[84,114,97,100,101]] : List Bytes)).bind fun r111 =>
        some r111)
       else
       some false)
      else
      some false)
     else
     some false)
    else
    some false)
   else
   some false)
  else
  some false
 ) : Option (Bool)).bind fun t84 =>
 some t84
noncomputable def m76_1 (l_0 : List Bytes) (s20 : Nat) : Option ((Nat) ⊕ ((Unit) ⊕ Bool)) :=
 if (s20 : Int) < (l_0.length : Int) then (
  (l_0[s20]?).bind fun x40 =>
  if 45 < (x40.length : Int) then (
   some (.inr (.inr false)))
  else
  some (.inl (s20 + 1)))
 else
 some (.inr (.inl ()))
noncomputable def m76 (l_0 : List Bytes) (most : Int) : Option (Bool) :=
 (loopO (m76_1 l_0) 0).bind fun e16=>match e16 with
 | .inr z=>some z
 | .inl t19 =>
 some (decide ((l_0.length : Int) ≤ most))
noncomputable def m49_1 (l_0 : List Heading) (s52 : Nat) : Option ((Nat) ⊕ ((Unit) ⊕ Bool)) :=
 if (s52 : Int) < (l_0.length : Int) then (
  ((
   (l_0[s52]?).bind fun x134 =>
   if 45 < (x134.name.length : Int) then (
    some true)
   else
   (m76 x134.variants 10).bind fun r155 =>
   if r155 then (
    (m76 x134.also 10).bind fun r160 =>
    if r160 then (
     some (decide (35 < (x134.places.length : Int))))
    else
    some true)
   else
   some true
  ) : Option (Bool)).bind fun t131 =>
  if t131 then (
   some (.inr (.inr false)))
  else
  some (.inl (s52 + 1)))
 else
 some (.inr (.inl ()))
noncomputable def m49 (l_0 : List Heading) (most : Int) : Option (Bool) :=
 if most < (l_0.length : Int) then (
  some false)
 else
 (loopO (m49_1 l_0) 0).bind fun e48=>match e48 with
 | .inr z=>some z
 | .inl t51 =>
 some true
noncomputable def m17 (l_0 : List Heading) : Option (Bool) :=
 ((
  (m49 l_0 62).bind fun r13 =>
  if r13 then (
   if (l_0.length : Int) ≤ 12 then (
    some true)
   else
   some (decide (60 < (l_0.length : Int))))
  else
  some false
 ) : Option (Bool)).bind fun t10 =>
 some t10
noncomputable def m62 (l_0 : List Bytes) : Option (List Bytes) :=
 chk (([] : List Bytes).length + l_0.length ≤ 1073741824) <|
 some (([] : List Bytes) ++ l_0)
noncomputable def m24_2 (x528 : Heading) (s640 : Nat × List Place) : Option ((Nat × List Place) ⊕ (List Place)) :=
 if (s640.1 : Int) < (x528.places.length : Int) then (
  (x528.places[s640.1]?).bind fun x667 =>
  chk (s640.2.length + 1 ≤ 1073741824) <|
  some (.inl ((s640.1 + 1),(s640.2 ++ [x667]))))
 else
 some (.inr s640.2)
noncomputable def m24_1 (l_0 : List Heading) (s395 : Nat × List Heading) : Option ((Nat × List Heading) ⊕ (List Heading)) :=
 if (s395.1 : Int) < (l_0.length : Int) then (
  (l_0[s395.1]?).bind fun x528 =>
  (m62 x528.variants).bind fun r546 =>
  (m62 x528.also).bind fun r556 =>
  (loopO (m24_2 x528) (0,([] : List Place))).bind fun e635 =>
  chk (s395.2.length + 1 ≤ 1073741824) <|
  some (.inl ((s395.1 + 1),(s395.2 ++ [(⟨x528.name,r546,r556,e635⟩ : Heading)]))))
 else
 some (.inr s395.2)
noncomputable def m24 (l_0 : List Heading) : Option (List Heading) :=
 (loopO (m24_1 l_0) (0,([] : List Heading))).bind fun e387 =>
 some e387
noncomputable def m19_1 (l_0 : List (List Heading)) (s116 : Nat × List (List Heading)) : Option ((Nat × List (List Heading)) ⊕ (List (List Heading))) :=
 if (s116.1 : Int) < (l_0.length : Int) then (
  (l_0[s116.1]?).bind fun x156 =>
  (m24 x156).bind fun r168 =>
  chk (s116.2.length + 1 ≤ 1073741824) <|
  some (.inl ((s116.1 + 1),(s116.2 ++ [r168]))))
 else
 some (.inr s116.2)
noncomputable def m19 (l_0 : List (List Heading)) : Option (List (List Heading)) :=
 (loopO (m19_1 l_0) (0,([] : List (List Heading)))).bind fun e108 =>
 some e108
noncomputable def m42 (n_0 : Int) (low : Int) (high : Int) : Option (Bool) :=
 ((
  if low ≤ n_0 then (
   some (decide (n_0 ≤ high)))
  else
  some false
 ) : Option (Bool)).bind fun t4 =>
 some t4
noncomputable def m103_1 (s_0 : Bytes) (s93 : Nat) : Option ((Nat) ⊕ ((Unit) ⊕ Bool)) :=
 if (s93 : Int) < (s_0.length : Int) then (
  (s_0[s93]?).bind fun x137 =>
  ((
   if (x137.toNat : Int) < 32 then (
    some true)
   else
   if 126 < (x137.toNat : Int) then (
    some true)
   else
   if (x137.toNat : Int) = 44 then (
    some true)
   else
   if (x137.toNat : Int) = 58 then (
    some true)
   else
   if (x137.toNat : Int) = 59 then (
    some true)
   else
   if (x137.toNat : Int) = 61 then (
    some true)
   else
   if (x137.toNat : Int) = 32 then (
    chk (-9223372036854775808 ≤ ((s93 : Int) - 1) ∧ ((s93 : Int) - 1) ≤ 9223372036854775807) <|
    chk (0 ≤ ((s93 : Int) - 1)) <|
    (s_0[((s93 : Int) - 1).toNat]?).bind fun x195 =>
    some (decide ((x195.toNat : Int) = 32)))
   else
   some false
  ) : Option (Bool)).bind fun t168 =>
  if t168 then (
   some (.inr (.inr false)))
  else
  chk (-9223372036854775808 ≤ ((s93 : Int) + 1) ∧ ((s93 : Int) + 1) ≤ 9223372036854775807) <|
  some (.inl (s93 + 1)))
 else
 some (.inr (.inl ()))
noncomputable def m103 (s_0 : Bytes) : Option (Bool) :=
 ((
  (m42 (s_0.length : Int) 1 40).bind fun r23 =>
  if r23 then (
   (s_0[0]?).bind fun x28 =>
   if (x28.toNat : Int) = 32 then (
    some true)
   else
   chk (-9223372036854775808 ≤ ((s_0.length : Int) - 1) ∧ ((s_0.length : Int) - 1) ≤ 9223372036854775807) <|
   chk (0 ≤ ((s_0.length : Int) - 1)) <|
   (s_0[((s_0.length : Int) - 1).toNat]?).bind fun x38 =>
   some (decide ((x38.toNat : Int) = 32)))
  else
  some true
 ) : Option (Bool)).bind fun t20 =>
 if t20 then (
  some false)
 else
 (loopO (m103_1 s_0) 0).bind fun e89=>match e89 with
 | .inr z=>some z
 | .inl t92 =>
 some true
noncomputable def m74_1 (s_0 : Bytes) (s163 : Nat × List UInt8) : Option ((Nat × List UInt8) ⊕ (List UInt8)) :=
 if (s163.1 : Int) < (s_0.length : Int) then (
  (s_0[s163.1]?).bind fun x215 =>
  ((
   if 65 ≤ (x215.toNat : Int) then (
    some (decide ((x215.toNat : Int) ≤ 90)))
   else
   some false
  ) : Option (Bool)).bind fun t221 =>
  ((
   if t221 then (
    chk (0 ≤ ((x215.toNat : Int) - 65) ∧ ((x215.toNat : Int) - 65) ≤ 255) <|
    chk (0 ≤ (((x215.toNat : Int) - 65) + 97) ∧ (((x215.toNat : Int) - 65) + 97) ≤ 255) <|
    some (((x215.toNat : Int) - 65) + 97))
   else
   some (x215.toNat : Int)
  ) : Option (Int)).bind fun t234 =>
  ((
   if 97 ≤ t234 then (
    if t234 ≤ 122 then (
     some true)
    else
    if 48 ≤ t234 then (
     some (decide (t234 ≤ 57)))
    else
    some false)
   else
   if 48 ≤ t234 then (
    some (decide (t234 ≤ 57)))
   else
   some false
  ) : Option (Bool)).bind fun t256 =>
  ((
   if t256 then (
    chk (s163.2.length + 1 ≤ 1073741824) <|
    chk (0 ≤ t234 ∧ t234 ≤ 255) <|
    some (s163.2 ++ [(UInt8.ofNat t234.toNat)]))
   else
   some s163.2
  ) : Option (List UInt8)).bind fun t281 =>
  chk (-9223372036854775808 ≤ ((s163.1 : Int) + 1) ∧ ((s163.1 : Int) + 1) ≤ 9223372036854775807) <|
  some (.inl ((s163.1 + 1),t281)))
 else
 some (.inr s163.2)
noncomputable def m74 (s_0 : Bytes) : Option (Bytes) :=
 (loopO (m74_1 s_0) (0,([] : List UInt8))).bind fun e158 =>
 some e158
noncomputable def m35 (a_0 : Bytes) (b_1 : Bytes) : Option (Bool) :=
 (m74 a_0).bind fun r1 =>
 (m74 b_1).bind fun r4 =>
 if r1 ≠ r4 then (
  some (Op.bytesLess r1 r4))
 else
 some (Op.bytesLess a_0 b_1)
noncomputable def m104_1 (l_0 : List Bytes) (s43 : Nat) : Option ((Nat) ⊕ ((Unit) ⊕ Bool)) :=
 if (s43 : Int) < (l_0.length : Int) then (
  ((
   (l_0[s43]?).bind fun x119 =>
   (m103 x119).bind fun r127 =>
   if r127 then (
    if 0 < (s43 : Int) then (
     (l_0[((s43 : Int) - 1).toNat]?).bind fun x134 =>
     (m35 x134 x119).bind fun r142 =>
     some (!r142))
    else
    some false)
   else
   some true
  ) : Option (Bool)).bind fun t116 =>
  if t116 then (
   some (.inr (.inr false)))
  else
  some (.inl (s43 + 1)))
 else
 some (.inr (.inl ()))
noncomputable def m104 (l_0 : List Bytes) : Option (Bool) :=
 (loopO (m104_1 l_0) 0).bind fun e39=>match e39 with
 | .inr z=>some z
 | .inl t42 =>
 some (decide ((l_0.length : Int) ≤ 8))
noncomputable def m105_1 (l_0 : List Place) (s62 : Nat) : Option ((Nat) ⊕ ((Unit) ⊕ Bool)) :=
 if (s62 : Int) < (l_0.length : Int) then (
  (l_0[s62]?).bind fun x124 =>
  ((
   (m42 x124.volume 1 999).bind fun r150 =>
   if r150 then (
    (m42 x124.from_ 1 x124.to_).bind fun r155 =>
    if r155 then (
     some (decide (9999 < x124.to_)))
    else
    some true)
   else
   some true
  ) : Option (Bool)).bind fun t147 =>
  if t147 then (
   some (.inr (.inr false)))
  else
  ((
   if 0 < (s62 : Int) then (
    (l_0[((s62 : Int) - 1).toNat]?).bind fun x195 =>
    if x124.volume < x195.volume then (
     some true)
    else
    if x124.volume = x195.volume then (
     chk (-9223372036854775808 ≤ (x195.to_ + 1) ∧ (x195.to_ + 1) ≤ 9223372036854775807) <|
     some (decide (x124.from_ ≤ (x195.to_ + 1))))
    else
    some false)
   else
   some false
  ) : Option (Bool)).bind fun t190 =>
  if t190 then (
   some (.inr (.inr false)))
  else
  some (.inl (s62 + 1)))
 else
 some (.inr (.inl ()))
noncomputable def m105 (l_0 : List Place) : Option (Bool) :=
 (loopO (m105_1 l_0) 0).bind fun e58=>match e58 with
 | .inr z=>some z
 | .inl t61 =>
 some true
noncomputable def m64 (h_0 : Heading) : Option (Bool) :=
 ((
  (m103 h_0.name).bind fun r40 =>
  if r40 then (
   (m104 h_0.variants).bind fun r45 =>
   if r45 then (
    (m104 h_0.also).bind fun r50 =>
    if r50 then (
     if (h_0.places.length : Int) ≤ 30 then (
      (m105 h_0.places).bind fun r57 =>
      some r57)
     else
     some false)
    else
    some false)
   else
   some false)
  else
  some false
 ) : Option (Bool)).bind fun t37 =>
 some t37
noncomputable def m36 (h_0 : Heading) : Option (List Bytes) :=
 chk (([h_0.name] : List Bytes).length + h_0.variants.length ≤ 1073741824) <|
 some (([h_0.name] : List Bytes) ++ h_0.variants)
noncomputable def m37_1 (l_0 : List Bytes) (s_1 : Bytes) (s20 : Nat) : Option ((Nat) ⊕ ((Unit) ⊕ Bool)) :=
 if (s20 : Int) < (l_0.length : Int) then (
  (l_0[s20]?).bind fun x40 =>
  if x40 = s_1 then (
   some (.inr (.inr true)))
  else
  some (.inl (s20 + 1)))
 else
 some (.inr (.inl ()))
noncomputable def m37 (l_0 : List Bytes) (s_1 : Bytes) : Option (Bool) :=
 (loopO (m37_1 l_0 s_1) 0).bind fun e16=>match e16 with
 | .inr z=>some z
 | .inl t19 =>
 some false
noncomputable def m41_1 (l_0 : List Heading) (name : Bytes) (s40 : Nat) : Option ((Nat) ⊕ ((Unit) ⊕ Int)) :=
 if (s40 : Int) < (l_0.length : Int) then (
  (l_0[s40]?).bind fun x80 =>
  (m36 x80).bind fun r98 =>
  (m37 r98 name).bind fun r105 =>
  if r105 then (
   some (.inr (.inr (s40 : Int))))
  else
  some (.inl (s40 + 1)))
 else
 some (.inr (.inl ()))
noncomputable def m41 (l_0 : List Heading) (name : Bytes) : Option (Int) :=
 (loopO (m41_1 l_0 name) 0).bind fun e36=>match e36 with
 | .inr z=>some z
 | .inl t39 =>
 some (-1)
noncomputable def m26_1 (l_0 : List Heading) (s39 : Nat) : Option ((Nat) ⊕ ((Unit) ⊕ Int)) :=
 if (s39 : Int) < (l_0.length : Int) then (
  (l_0[s39]?).bind fun x72 =>
  (m64 x72).bind fun r90 =>
  if r90 then (
   some (.inl (s39 + 1)))
  else
  some (.inr (.inr 1)))
 else
 some (.inr (.inl ()))
noncomputable def m26_3 (r562 : List Bytes) (s649 : Nat × List Bytes) : Option ((Nat × List Bytes) ⊕ ((List Bytes) ⊕ ((Nat × List Bytes) ⊕ ((List Bytes) ⊕ Int)))) :=
 if (s649.1 : Int) < (r562.length : Int) then (
  (r562[s649.1]?).bind fun x679 =>
  (m37 s649.2 x679).bind fun r687 =>
  if r687 then (
   some (.inr (.inr (.inr (.inr 6)))))
  else
  chk (s649.2.length + 1 ≤ 1073741824) <|
  some (.inl ((s649.1 + 1),(s649.2 ++ [x679]))))
 else
 some (.inr (.inl s649.2))
noncomputable def m26_2 (l_0 : List Heading) (s431 : Nat × List Bytes) : Option ((Nat × List Bytes) ⊕ ((List Bytes) ⊕ Int)) :=
 if (s431.1 : Int) < (l_0.length : Int) then (
  (l_0[s431.1]?).bind fun x544 =>
  (m36 x544).bind fun r562 =>
  (loopO (m26_3 r562) (0,s431.2)).bind fun e643=>match e643 with
  | .inr z=>some z
  | .inl t646 =>
  some (.inl ((s431.1 + 1),t646)))
 else
 some (.inr (.inl s431.2))
noncomputable def m26_5 (l_0 : List Heading) (s824 : Nat) (s1110 : Nat) : Option ((Nat) ⊕ ((Unit) ⊕ ((Nat) ⊕ ((Unit) ⊕ Int)))) :=
 (l_0[s824]?).bind fun x1114 =>
 if (s1110 : Int) < (x1114.also.length : Int) then (
  (x1114.also[s1110]?).bind fun x1180 =>
  (m41 l_0 x1180).bind fun r1188 =>
  ((
   if r1188 < 0 then (
    some true)
   else
   if r1188 = (s824 : Int) then (
    some true)
   else
   chk (0 ≤ r1188) <|
   (l_0[r1188.toNat]?).bind fun x1232 =>
   some (decide (x1232.name ≠ x1180))
  ) : Option (Bool)).bind fun t1219 =>
  if t1219 then (
   some (.inr (.inr (.inr (.inr 1)))))
  else
  some (.inl (s1110 + 1)))
 else
 some (.inr (.inl ()))
noncomputable def m26_4 (l_0 : List Heading) (s824 : Nat) : Option ((Nat) ⊕ ((Unit) ⊕ Int)) :=
 if (s824 : Int) < (l_0.length : Int) then (
  ((
   if 0 < (s824 : Int) then (
    (l_0[((s824 : Int) - 1).toNat]?).bind fun x994 =>
    (l_0[s824]?).bind fun x1012 =>
    (m35 x994.name x1012.name).bind fun r1030 =>
    some (!r1030))
   else
   some false
  ) : Option (Bool)).bind fun t989 =>
  if t989 then (
   some (.inr (.inr 1)))
  else
  (loopO (m26_5 l_0 s824) 0).bind fun e1106=>match e1106 with
  | .inr z=>some z
  | .inl t1109 =>
  some (.inl (s824 + 1)))
 else
 some (.inr (.inl ()))
noncomputable def m26 (l_0 : List Heading) : Option (Int) :=
 if 60 < (l_0.length : Int) then (
  some 3)
 else
 (loopO (m26_1 l_0) 0).bind fun e35=>match e35 with
 | .inr z=>some z
 | .inl t38 =>
 (loopO (m26_2 l_0) (0,([] : List Bytes))).bind fun e425=>match e425 with
 | .inr z=>some z
 | .inl t428 =>
 (loopO (m26_4 l_0) 0).bind fun e820=>match e820 with
 | .inr z=>some z
 | .inl t823 =>
 some 0
noncomputable def m38_2  (s684 : Int × List Bytes) : Option ((Int × List Bytes) ⊕ (List Bytes)) :=
 ((
  if 0 < s684.1 then (
   (s684.2[s684.1.toNat]?).bind fun x711 =>
   chk (-9223372036854775808 ≤ (s684.1 - 1) ∧ (s684.1 - 1) ≤ 9223372036854775807) <|
   (s684.2[(s684.1 - 1).toNat]?).bind fun x717 =>
   (m35 x711 x717).bind fun r721 =>
   some r721)
  else
  some false
 ) : Option (Bool)).bind fun t706 =>
 if t706 then (
  chk (-9223372036854775808 ≤ (s684.1 - 1) ∧ (s684.1 - 1) ≤ 9223372036854775807) <|
  chk (0 ≤ (s684.1 - 1)) <|
  (s684.2[(s684.1 - 1).toNat]?).bind fun x754 =>
  chk (0 ≤ s684.1) <|
  (s684.2[s684.1.toNat]?).bind fun x760 =>
  ((s684.2.set s684.1.toNat x754)[(s684.1 - 1).toNat]?).bind fun x765 =>
  some (.inl ((s684.1 - 1),((s684.2.set s684.1.toNat x754).set ((s684.1 - 1).toNat) x760))))
 else
 some (.inr s684.2)
noncomputable def m38_1 (l_0 : List Bytes) (s453 : Nat × List Bytes) : Option ((Nat × List Bytes) ⊕ (List Bytes)) :=
 if (s453.1 : Int) < (l_0.length : Int) then (
  ((
   (l_0[s453.1]?).bind fun x574 =>
   (m37 s453.2 x574).bind fun r582 =>
   if r582 then (
    some s453.2)
   else
   chk (s453.2.length + 1 ≤ 1073741824) <|
   (loopO m38_2 ((((s453.2 ++ [x574]).length : Int) - 1),(s453.2 ++ [x574]))).bind fun e680 =>
   some e680
  ) : Option (List Bytes)).bind fun t569 =>
  some (.inl ((s453.1 + 1),t569)))
 else
 some (.inr s453.2)
noncomputable def m38 (l_0 : List Bytes) : Option (List Bytes) :=
 (loopO (m38_1 l_0) (0,([] : List Bytes))).bind fun e448 =>
 some e448
noncomputable def m30_1 (l_0 : List (List Heading)) (s34 : Nat) : Option ((Nat) ⊕ ((Unit) ⊕ Bool)) :=
 if (s34 : Int) < (l_0.length : Int) then (
  ((
   (l_0[s34]?).bind fun x92 =>
   (m49 x92 12).bind fun r104 =>
   if r104 then (
    (m26 x92).bind fun r109 =>
    some (decide (r109 ≠ 0)))
   else
   some true
  ) : Option (Bool)).bind fun t89 =>
  if t89 then (
   some (.inr (.inr false)))
  else
  some (.inl (s34 + 1)))
 else
 some (.inr (.inl ()))
noncomputable def m30 (l_0 : List (List Heading)) : Option (Bool) :=
 (loopO (m30_1 l_0) 0).bind fun e30=>match e30 with
 | .inr z=>some z
 | .inl t33 =>
 some (decide ((l_0.length : Int) ≤ 6))
noncomputable def m31 (l_0 : List Heading) : Option (Bool) :=
 ((
  (m49 l_0 60).bind fun r13 =>
  if r13 then (
   (m26 l_0).bind fun r18 =>
   some (decide (r18 = 0)))
  else
  some false
 ) : Option (Bool)).bind fun t10 =>
 some t10
noncomputable def m34 (l_0 : List Heading) : Option (Int) :=
 (m50 l_0).bind fun r1 =>
 some r1.2
noncomputable def m10_2 (l_0 : List (List Heading)) (s529 : Nat × List Bytes) (s828 : Nat × List Bytes) : Option ((Nat × List Bytes) ⊕ (List Bytes)) :=
 (l_0[s529.1]?).bind fun x834 =>
 if (s828.1 : Int) < (x834.length : Int) then (
  (x834[s828.1]?).bind fun x880 =>
  (m36 x880).bind fun r898 =>
  chk (s828.2.length + r898.length ≤ 1073741824) <|
  some (.inl ((s828.1 + 1),(s828.2 ++ r898))))
 else
 some (.inr s828.2)
noncomputable def m10_1 (l_0 : List (List Heading)) (s529 : Nat × List Bytes) : Option ((Nat × List Bytes) ⊕ (List Bytes)) :=
 if (s529.1 : Int) < (l_0.length : Int) then (
  (loopO (m10_2 l_0 s529) (0,s529.2)).bind fun e823 =>
  some (.inl ((s529.1 + 1),e823)))
 else
 some (.inr s529.2)
noncomputable def m10_3 (r23 : List Heading × Int) (e524 : List Bytes) (s979 : Nat × Int) : Option ((Nat × Int) ⊕ ((Int) ⊕ Bool)) :=
 if (s979.1 : Int) < (r23.1.length : Int) then (
  (r23.1[s979.1]?).bind fun x1016 =>
  chk (-9223372036854775808 ≤ (1 + (x1016.variants.length : Int)) ∧ (1 + (x1016.variants.length : Int)) ≤ 9223372036854775807) <|
  chk (-9223372036854775808 ≤ (s979.2 + (1 + (x1016.variants.length : Int))) ∧ (s979.2 + (1 + (x1016.variants.length : Int))) ≤ 9223372036854775807) <|
  (m37 e524 x1016.name).bind fun r1038 =>
  if r1038 then (
   some (.inl ((s979.1 + 1),(s979.2 + (1 + (x1016.variants.length : Int))))))
  else
  some (.inr (.inr false)))
 else
 some (.inr (.inl s979.2))
noncomputable def m10 (l_0 : List (List Heading)) : Option (Bool) :=
 (m30 l_0).bind fun r1 =>
 if r1 then (
  (m19 l_0).bind fun r16 =>
  (m18 r16).bind fun r23 =>
  if r23.2 ≠ 0 then (
   ((
    if r23.2 = 3 then (
     if (r23.1.length : Int) = 0 then (
      (m16).bind fun r61 =>
      some r61)
     else
     some false)
    else
    some false
   ) : Option (Bool)).bind fun t54 =>
   some t54)
  else
  (m34 r23.1).bind fun r67 =>
  if r67 ≠ 0 then (
   some false)
  else
  (loopO (m10_1 l_0) (0,([] : List Bytes))).bind fun e524 =>
  (loopO (m10_3 r23 e524) (0,0)).bind fun e975=>match e975 with
  | .inr z=>some z
  | .inl t978 =>
  ((
   (m38 e524).bind fun r1068 =>
   if t978 = (r1068.length : Int) then (
    (m16).bind fun r1077 =>
    some r1077)
   else
   some false
  ) : Option (Bool)).bind fun t1063 =>
  some t1063)
 else
 (m16).bind fun r12 =>
 some r12
noncomputable def m112 (s_0 : List Bytes) : Option (List Bytes) :=
 chk (([] : List Bytes).length + s_0.length ≤ 1073741824) <|
 some (([] : List Bytes) ++ s_0)
noncomputable def m113 (s_0 : List Place) : Option (List Place) :=
 chk (([] : List Place).length + s_0.length ≤ 1073741824) <|
 some (([] : List Place) ++ s_0)
noncomputable def m75 (h_0 : Heading) : Option (Heading) :=
 (m112 h_0.variants).bind fun r14 =>
 (m112 h_0.also).bind fun r24 =>
 (m113 h_0.places).bind fun r34 =>
 some (⟨h_0.name,r14,r24,r34⟩ : Heading)
noncomputable def m39 (l_0 : List Heading) (name : Bytes) : Option (Heading × Int) :=
 (m50 l_0).bind fun r2 =>
 if r2.2 ≠ 0 then (
  some ((⟨[],([] : List Bytes),([] : List Bytes),([] : List Place)⟩ : Heading),r2.2))
 else
 if (lkp r2.1 name).isSome then (
  chk (0 ≤ ((lkp r2.1 name).getD (0 : Int))) <|
  (l_0[((lkp r2.1 name).getD (0 : Int)).toNat]?).bind fun x22 =>
  (m75 x22).bind fun r40 =>
  some (r40,0))
 else
 some ((⟨[],([] : List Bytes),([] : List Bytes),([] : List Place)⟩ : Heading),7)
noncomputable def m45_3 (x1592 : Heading) (r1 : (List (Bytes × Int)) × Int) (s1689 : Nat × List Int × (List (Int × Bool))) : Option ((Nat × List Int × (List (Int × Bool))) ⊕ (List Int × (List (Int × Bool)))) :=
 if (s1689.1 : Int) < (x1592.also.length : Int) then (
  (x1592.also[s1689.1]?).bind fun x1719 =>
  ((
   if (lkp s1689.2.2 ((lkp r1.1 x1719).getD (0 : Int))).getD false then (
    some (s1689.2.1,s1689.2.2))
   else
   chk (s1689.2.1.length + 1 ≤ 1073741824) <|
   some ((s1689.2.1 ++ [((lkp r1.1 x1719).getD (0 : Int))]),(put s1689.2.2 ((lkp r1.1 x1719).getD (0 : Int)) true))
  ) : Option (List Int × (List (Int × Bool)))).bind fun t1735 =>
  some (.inl ((s1689.1 + 1),t1735.1,t1735.2)))
 else
 some (.inr (s1689.2.1,s1689.2.2))
noncomputable def m45_2 (s752 : Int × List Int × (List (Int × Bool))) (l_0 : List Heading) (r1 : (List (Bytes × Int)) × Int) (s1466 : Nat × List Int × (List (Int × Bool))) : Option ((Nat × List Int × (List (Int × Bool))) ⊕ (List Int × (List (Int × Bool)))) :=
 if (s1466.1 : Int) < (s752.2.1.length : Int) then (
  (s752.2.1[s1466.1]?).bind fun x1582 =>
  chk (0 ≤ x1582) <|
  (l_0[x1582.toNat]?).bind fun x1592 =>
  (loopO (m45_3 x1592 r1) (0,s1466.2.1,s1466.2.2)).bind fun e1684 =>
  some (.inl ((s1466.1 + 1),e1684.1,e1684.2)))
 else
 some (.inr (s1466.2.1,s1466.2.2))
noncomputable def m45_1 (l_0 : List Heading) (r1 : (List (Bytes × Int)) × Int) (s752 : Int × List Int × (List (Int × Bool))) : Option ((Int × List Int × (List (Int × Bool))) ⊕ ((List (Int × Bool)))) :=
 ((
  if 0 < s752.1 then (
   some (decide (0 < (s752.2.1.length : Int))))
  else
  some false
 ) : Option (Bool)).bind fun t763 =>
 if t763 then (
  (loopO (m45_2 s752 l_0 r1) (0,([] : List Int),s752.2.2)).bind fun e1461 =>
  chk (-9223372036854775808 ≤ (s752.1 - 1) ∧ (s752.1 - 1) ≤ 9223372036854775807) <|
  some (.inl ((s752.1 - 1),e1461.1,e1461.2)))
 else
 some (.inr s752.2.2)
noncomputable def m45_4 (l_0 : List Heading) (e749 : (List (Int × Bool))) (name : Bytes) (s1876 : Nat × List Bytes) : Option ((Nat × List Bytes) ⊕ (List Bytes)) :=
 if (s1876.1 : Int) < (l_0.length : Int) then (
  (l_0[s1876.1]?).bind fun x1917 =>
  ((
   if (lkp e749 (s1876.1 : Int)).getD false then (
    chk (s1876.2.length + 1 ≤ 1073741824) <|
    some (s1876.2 ++ [x1917.name]))
   else
   some s1876.2
  ) : Option (List Bytes)).bind fun t1944 =>
  some (.inl ((s1876.1 + 1),t1944)))
 else
 some (.inr s1876.2)
noncomputable def m45 (l_0 : List Heading) (name : Bytes) (steps : Int) : Option (List Bytes × Int) :=
 (m50 l_0).bind fun r1 =>
 if r1.2 ≠ 0 then (
  some (([] : List Bytes),r1.2))
 else
 (m72 steps 0 60).bind fun r13 =>
 if r13 then (
  if (lkp r1.1 name).isSome then (
   (loopO (m45_1 l_0 r1) (steps,([((lkp r1.1 name).getD (0 : Int))] : List Int),(put ([] : List (Int × Bool)) ((lkp r1.1 name).getD (0 : Int)) true))).bind fun e749 =>
   (loopO (m45_4 l_0 e749 name) (0,([] : List Bytes))).bind fun e1871 =>
   some (e1871,0))
  else
  some (([] : List Bytes),7))
 else
 some (([] : List Bytes),2)
noncomputable def m15  : Option (Bool) :=
 (m47).bind fun r1 =>
 (m18 r1).bind fun r8 =>
 (m39 r8.1 [76,97,100,121,32,76,101,101]).bind fun r15 =>
 (m45 r8.1 [67,111,114,110,32,108,97,119,115] 1).bind fun r34 =>
 ((
  if r8.2 ≠ 0 then (
   some true)
  else
  if (r8.1.length : Int) ≠ 3 then (
   some true)
  else
  if r15.2 ≠ 0 then (
   some true)
  else
  (m40 r15.1 (⟨[65,32,76,101,101],([[76,97,100,121,32,76,101,101],[76,101,101,32,65,110,110]] : List Bytes),([] : List Bytes),([(⟨3,7,7⟩ : Place),(⟨9,1,2⟩ : Place)] : List Place)⟩ : Heading)).bind fun r99 =>
  if r99 then (
   if r34.2 ≠ 0 then (
    some true)
   else
   (m44 r34.1 ([[67,111,114,110,32,76,97,119,115],[84,114,97,100,101]] : List Bytes)).bind fun r112 =>
   some (!r112))
  else
  some true
 ) : Option (Bool)).bind fun t77 =>
 if t77 then (
  some false)
 else
 (m39 r8.1 [78,111,98,111,100,121]).bind fun r122 =>
 (m33 r8.1 0 1).bind fun r141 =>
 (m45 r8.1 [78,111,98,111,100,121] (-1)).bind fun r148 =>
 chk (13 ≤ 1073741824) <|
 (m18 (List.replicate 13 ([] : List Heading))).bind fun r161 =>
 (m28 ([(65 : UInt8),(58 : UInt8),(32 : UInt8),(49 : UInt8),(47 : UInt8),(50 : UInt8),(44 : UInt8),(32 : UInt8),(49 : UInt8),(47 : UInt8),(51 : UInt8),(10 : UInt8)] : List UInt8)).bind fun r173 =>
 chk (200001 ≤ 1073741824) <|
 (m28 (List.replicate 200001 (0 : UInt8))).bind fun r185 =>
 (m28 ([(65 : UInt8),(58 : UInt8),(32 : UInt8),(49 : UInt8),(47 : UInt8),(48 : UInt8),(50 : UInt8),(10 : UInt8)] : List UInt8)).bind fun r197 =>
 (m28 ([] : List UInt8)).bind fun r204 =>
 (m34 ([(⟨[66],([] : List Bytes),([] : List Bytes),([] : List Place)⟩ : Heading),(⟨[65],([] : List Bytes),([] : List Bytes),([] : List Place)⟩ : Heading)] : List Heading)).bind fun r217 =>
 (m34 ([(⟨[65],([[65]] : List Bytes),([] : List Bytes),([] : List Place)⟩ : Heading)] : List Heading)).bind fun r231 =>
 (m34 ([(⟨[65],([] : List Bytes),([[65]] : List Bytes),([] : List Place)⟩ : Heading)] : List Heading)).bind fun r245 =>
 ((
  if r122.2 = 7 then (
   if r141.2 = 2 then (
    if r148.2 = 2 then (
     if r161.2 = 3 then (
      if r173.2 = 4 then (
       if r185.2 = 3 then (
        if r197.2 = 4 then (
         if (r204.1.length : Int) = 0 then (
          if r204.2 = 0 then (
           if r217 = 1 then (
            if r231 = 6 then (
             if r245 = 1 then (
              chk (61 ≤ 1073741824) <|
              (m34 (List.replicate 61 (⟨[],([] : List Bytes),([] : List Bytes),([] : List Place)⟩ : Heading))).bind fun r350 =>
              if r350 = 3 then (
               (m32 [67,111,114,110,32,76,97,119,115] [67,111,114,110,32,108,97,119,115]).bind fun r355 =>
               if r355 then (
                (m32 [67,111,114,110,32,108,97,119,115] [67,111,114,110,76,97,119,122]).bind fun r360 =>
                if r360 then (
                 (m32 [76,101,101,32,65,110,110] [65,32,76,101,101]).bind fun r365 =>
                 if r365 then (
                  some false)
                 else
                 (m16).bind fun r371 =>
                 some r371)
                else
                some false)
               else
               some false)
              else
              some false)
             else
             some false)
            else
            some false)
           else
           some false)
          else
          some false)
         else
         some false)
        else
        some false)
       else
       some false)
      else
      some false)
     else
     some false)
    else
    some false)
   else
   some false)
  else
  some false
 ) : Option (Bool)).bind fun t317 =>
 some t317
end T11
namespace T11
open Go.Proofs
abbrev C100:=@Tryz.call100
abbrev C101:=@Tryz.call101
abbrev C102:=@Tryz.call102
abbrev C103:=@Tryz.call103
abbrev C104:=@Tryz.call104
abbrev C105:=@Tryz.call105
abbrev C109:=@Tryz.call109
abbrev C110:=@Tryz.call110
abbrev C114:=@Tryz.call114
abbrev C115:=@Tryz.call115
abbrev C116:=@Tryz.call116
abbrev C117:=@Tryz.call117
abbrev C118:=@Tryz.call118
abbrev C119:=@Tryz.call119
abbrev C120:=@Tryz.call120
abbrev C121:=@Tryz.call121
abbrev C122:=@Tryz.call122
abbrev C123:=@Tryz.call123
abbrev C125:=@Tryz.call125
abbrev C127:=@Tryz.call127
abbrev C139:=@Tryz.call139
abbrev C140:=@Tryz.call140
abbrev C141:=@Tryz.call141
abbrev C146:=@Tryz.call146
abbrev C149:=@Tryz.call149
abbrev C150:=@Tryz.call150
abbrev C151:=@Tryz.call151
abbrev C152:=@Tryz.call152
abbrev C153:=@Tryz.call153
abbrev C154:=@Tryz.call154
abbrev C155:=@Tryz.call155
abbrev C156:=@Tryz.call156
abbrev C16:=@Tryz.call16
abbrev C179:=@Tryz.call179
abbrev C18:=@Tryz.call18
abbrev C189:=@Tryz.call189
abbrev C19:=@Tryz.call19
abbrev C192:=@Tryz.call192
abbrev C193:=@Tryz.call193
abbrev C201:=@Tryz.call201
abbrev C218:=@Tryz.call218
abbrev C23:=@Tryz.call23
abbrev C24:=@Tryz.call24
abbrev C25:=@Tryz.call25
abbrev C26:=@Tryz.call26
abbrev C28:=@Tryz.call28
abbrev C30:=@Tryz.call30
abbrev C32:=@Tryz.call32
abbrev C33:=@Tryz.call33
abbrev C34:=@Tryz.call34
abbrev C35:=@Tryz.call35
abbrev C36:=@Tryz.call36
abbrev C37:=@Tryz.call37
abbrev C38:=@Tryz.call38
abbrev C40:=@Tryz.call40
abbrev C41:=@Tryz.call41
abbrev C42:=@Tryz.call42
abbrev C44:=@Tryz.call44
abbrev C47:=@Tryz.call47
abbrev C48:=@Tryz.call48
abbrev C49:=@Tryz.call49
abbrev C50:=@Tryz.call50
abbrev C51:=@Tryz.call51
abbrev C52:=@Tryz.call52
abbrev C53:=@Tryz.call53
abbrev C54:=@Tryz.call54
abbrev C55:=@Tryz.call55
abbrev C56:=@Tryz.call56
abbrev C57:=@Tryz.call57
abbrev C58:=@Tryz.call58
abbrev C59:=@Tryz.call59
abbrev C62:=@Tryz.call62
abbrev C63:=@Tryz.call63
abbrev C64:=@Tryz.call64
abbrev C67:=@Tryz.call67
abbrev C68:=@Tryz.call68
abbrev C69:=@Tryz.call69
abbrev C72:=@Tryz.call72
abbrev C73:=@Tryz.call73
abbrev C74:=@Tryz.call74
abbrev C76:=@Tryz.call76
abbrev C77:=@Tryz.call77
abbrev C78:=@Tryz.call78
abbrev C79:=@Tryz.call79
abbrev C80:=@Tryz.call80
abbrev C81:=@Tryz.call81
abbrev C82:=@Tryz.call82
abbrev C83:=@Tryz.call83
abbrev C84:=@Tryz.call84
abbrev C85:=@Tryz.call85
abbrev C86:=@Tryz.call86
abbrev C87:=@Tryz.call87
abbrev C88:=@Tryz.call88
abbrev C89:=@Tryz.call89
abbrev C90:=@Tryz.call90
abbrev C91:=@Tryz.call91
abbrev C92:=@Tryz.call92
abbrev C94:=@Tryz.call94
abbrev C95:=@Tryz.call95
abbrev C96:=@Tryz.call96
abbrev G111:=@Tryz.isAgg111
abbrev G121:=@Tryz.isAgg121
abbrev G128:=@Tryz.isAgg128
abbrev G130:=@Tryz.isAgg130
abbrev G140:=@Tryz.isAgg140
abbrev G185:=@Tryz.isAgg185
abbrev G25:=@Tryz.isAgg25
abbrev G26:=@Tryz.isAgg26
abbrev G27:=@Tryz.isAgg27
abbrev G3:=@Tryz.isAgg3
abbrev G37:=@Tryz.isAgg37
abbrev G5:=@Tryz.isAgg5
abbrev G50:=@Tryz.isAgg50
abbrev G51:=@Tryz.isAgg51
abbrev G53:=@Tryz.isAgg53
abbrev G55:=@Tryz.isAgg55
abbrev G62:=@Tryz.isAgg62
abbrev G64:=@Tryz.isAgg64
abbrev G81:=@Tryz.isAgg81
abbrev G84:=@Tryz.isAgg84
abbrev G85:=@Tryz.isAgg85
abbrev G87:=@Tryz.isAgg87
abbrev G9:=@Tryz.isAgg9
abbrev G95:=@Tryz.isAgg95
abbrev Z111:=@Tryz.sizeOf111
abbrev Z121:=@Tryz.sizeOf121
abbrev Z25:=@Tryz.sizeOf25
abbrev Z26:=@Tryz.sizeOf26
abbrev Z27:=@Tryz.sizeOf27
abbrev Z3:=@Tryz.sizeOf3
abbrev Z37:=@Tryz.sizeOf37
abbrev Z5:=@Tryz.sizeOf5
abbrev Z50:=@Tryz.sizeOf50
abbrev Z51:=@Tryz.sizeOf51
abbrev Z53:=@Tryz.sizeOf53
abbrev Z55:=@Tryz.sizeOf55
abbrev Z62:=@Tryz.sizeOf62
abbrev Z64:=@Tryz.sizeOf64
abbrev Z81:=@Tryz.sizeOf81
abbrev Z84:=@Tryz.sizeOf84
abbrev Z85:=@Tryz.sizeOf85
abbrev Z87:=@Tryz.sizeOf87
abbrev Z9:=@Tryz.sizeOf9
abbrev Z95:=@Tryz.sizeOf95
abbrev U111:=@Tryz.underlying111
abbrev U114:=@Tryz.underlying114
abbrev U121:=@Tryz.underlying121
abbrev U125:=@Tryz.underlying125
abbrev U134:=@Tryz.underlying134
abbrev U147:=@Tryz.underlying147
abbrev U149:=@Tryz.underlying149
abbrev U21:=@Tryz.underlying21
abbrev U22:=@Tryz.underlying22
abbrev U25:=@Tryz.underlying25
abbrev U26:=@Tryz.underlying26
abbrev U30:=@Tryz.underlying30
abbrev U37:=@Tryz.underlying37
abbrev U5:=@Tryz.underlying5
abbrev U50:=@Tryz.underlying50
abbrev U51:=@Tryz.underlying51
abbrev U53:=@Tryz.underlying53
abbrev U55:=@Tryz.underlying55
abbrev U62:=@Tryz.underlying62
abbrev U64:=@Tryz.underlying64
abbrev U81:=@Tryz.underlying81
abbrev U84:=@Tryz.underlying84
abbrev U85:=@Tryz.underlying85
abbrev U87:=@Tryz.underlying87
abbrev U9:=@Tryz.underlying9
abbrev U94:=@Tryz.underlying94
abbrev U96:=@Tryz.underlying96
abbrev U98:=@Tryz.underlying98
end T11
