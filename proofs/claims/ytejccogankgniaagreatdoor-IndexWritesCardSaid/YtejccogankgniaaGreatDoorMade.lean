/-
  The types and models of the functions of an index,printed by a program of ours;contracts of library functions.
-/
import Derived.Shelf.Strings.OnBuilder
import Derived.Shelf.Strings.Trim
import Derived.Shelf.Strings.Split
import Derived.Shelf.Strings.Prefix
import Derived.Shelf.Strings.Runes
import Derived.Shelf.Strings.Cut
import Derived.Shelf.Strings.Search3
import Derived.Shelf.Small.Strs
import Derived.Shelf.Strconv.AtoiAll
import Derived.Shelf.Strconv.Itoa3
import Derived.Shelf.Slices.CompactS
import Derived.Shelf.SlicesE.DeleteFunc
import Derived.Shelf.LaysM
import Derived.Shelf.LaysC
import Derived.Test.YtejccogankgniaaGreatDoorKitSix
import Derived.Test.YtejccogankgniaaGreatDoorProg
import Derived.Tactics
import Derived.Tactics2
import Derived.Shelf.SlSortCmp.NoneTotal
import Derived.Shelf.Strings.BuilderF
import Derived.Recover
set_option linter.all false
set_option maxHeartbeats 4000000
namespace Go.Proofs
open Go.Shelf Go.RowKit
def Tryz.laysC172_ren:Go.Shelf.Ren:=⟨fun | 172=>189 | 244=>214 | 245=>215 | 247=>225 | 279=>226 | 280=>227 | 281=>228 | 282=>229 | 287=>235 | 316=>236 | 171=>179 | 205=>237 | 321=>242 | 322=>243 | 243=>209 | 246=>223 | 283=>231 | 284=>232 | 285=>233 | 286=>234 | 129=>138 | 317=>238 | 318=>239 | 319=>240 | 320=>241 | 337=>244 | 338=>245 | n=>n,fun | 9=>9 | 3=>3 | 75=>149 | 76=>150 | 4=>4 | 5=>5 | 167=>239 | 37=>37 | 0=>0 | 85=>240 | 2=>2 | 168=>242 | 53=>178 | 175=>249 | 46=>143 | 210=>252 | 127=>180 | 145=>261 | 143=>259 | 21=>21 | 171=>245 | 173=>247 | 212=>255 | 51=>176 | 20=>20 | 213=>256 | 232=>262 | 233=>263 | 80=>82 | n=>n,fun | 15=>3 | 16=>4 | 17=>5 | 18=>6 | 19=>7 | n=>n⟩
theorem Tryz.laysC172:Go.Proofs.LaysC.n172 Tryz.prog Tryz.laysC172_ren:={
 mixed:=by kernel_rfl
 f129:=Tryz.func138.trans (congrArg some (by kernel_rfl))
 f171:=Tryz.func179.trans (congrArg some (by kernel_rfl))
 f172:=Tryz.func189.trans (congrArg some (by kernel_rfl))
 f205:=Tryz.func237.trans (congrArg some (by kernel_rfl))
 f243:=Tryz.func209.trans (congrArg some (by kernel_rfl))
 f244:=Tryz.func214.trans (congrArg some (by kernel_rfl))
 f245:=Tryz.func215.trans (congrArg some (by kernel_rfl))
 f246:=Tryz.func223.trans (congrArg some (by kernel_rfl))
 f247:=Tryz.func225.trans (congrArg some (by kernel_rfl))
 f279:=Tryz.func226.trans (congrArg some (by kernel_rfl))
 f280:=Tryz.func227.trans (congrArg some (by kernel_rfl))
 f281:=Tryz.func228.trans (congrArg some (by kernel_rfl))
 f282:=Tryz.func229.trans (congrArg some (by kernel_rfl))
 f283:=Tryz.func231.trans (congrArg some (by kernel_rfl))
 f284:=Tryz.func232.trans (congrArg some (by kernel_rfl))
 f285:=Tryz.func233.trans (congrArg some (by kernel_rfl))
 f286:=Tryz.func234.trans (congrArg some (by kernel_rfl))
 f287:=Tryz.func235.trans (congrArg some (by kernel_rfl))
 f316:=Tryz.func236.trans (congrArg some (by kernel_rfl))
 f317:=Tryz.func238.trans (congrArg some (by kernel_rfl))
 f318:=Tryz.func239.trans (congrArg some (by kernel_rfl))
 f319:=Tryz.func240.trans (congrArg some (by kernel_rfl))
 f320:=Tryz.func241.trans (congrArg some (by kernel_rfl))
 f321:=Tryz.func242.trans (congrArg some (by kernel_rfl))
 f322:=Tryz.func243.trans (congrArg some (by kernel_rfl))
 f337:=Tryz.func244.trans (congrArg some (by kernel_rfl))
 f338:=Tryz.func245.trans (congrArg some (by kernel_rfl))
 t0:=Tryz.underlying0
 a0:=Tryz.isAgg0
 z0:=Tryz.sizeOf0
 v0:=Tryz.zeroValue0
 t2:=Tryz.underlying2
 a2:=Tryz.isAgg2
 z2:=Tryz.sizeOf2
 v2:=Tryz.zeroValue2
 t3:=Tryz.underlying3
 a3:=Tryz.isAgg3
 z3:=Tryz.sizeOf3
 v3:=Tryz.zeroValue3
 t4:=Tryz.underlying4
 a4:=Tryz.isAgg4
 z4:=Tryz.sizeOf4
 v4:=Tryz.zeroValue4
 t5:=Tryz.underlying5
 a5:=Tryz.isAgg5
 z5:=Tryz.sizeOf5
 v5:=Tryz.zeroValue5
 t9:=Tryz.underlying9
 a9:=Tryz.isAgg9
 z9:=Tryz.sizeOf9
 v9:=Tryz.zeroValue9
 t20:=Tryz.underlying20
 a20:=Tryz.isAgg20
 z20:=Tryz.sizeOf20
 v20:=Tryz.zeroValue20
 t21:=Tryz.underlying21
 a21:=Tryz.isAgg21
 z21:=Tryz.sizeOf21
 v21:=Tryz.zeroValue21
 t37:=Tryz.underlying37
 a37:=Tryz.isAgg37
 z37:=Tryz.sizeOf37
 v37:=Tryz.zeroValue37
 t46:=Tryz.underlying143
 a46:=Tryz.isAgg143
 z46:=Tryz.sizeOf143
 v46:=Tryz.zeroValue143
 t51:=Tryz.underlying176
 a51:=Tryz.isAgg176
 z51:=Tryz.sizeOf176
 v51:=Tryz.zeroValue176
 t53:=Tryz.underlying178
 a53:=Tryz.isAgg178
 z53:=Tryz.sizeOf178
 v53:=Tryz.zeroValue178
 t75:=Tryz.underlying149
 a75:=Tryz.isAgg149
 z75:=Tryz.sizeOf149
 v75:=Tryz.zeroValue149
 t76:=Tryz.underlying150
 a76:=Tryz.isAgg150
 z76:=Tryz.sizeOf150
 v76:=Tryz.zeroValue150
 t85:=Tryz.underlying240
 a85:=Tryz.isAgg240
 z85:=Tryz.sizeOf240
 v85:=Tryz.zeroValue240
 t127:=Tryz.underlying180
 a127:=Tryz.isAgg180
 z127:=Tryz.sizeOf180
 v127:=Tryz.zeroValue180
 t143:=Tryz.underlying259
 a143:=Tryz.isAgg259
 z143:=Tryz.sizeOf259
 v143:=Tryz.zeroValue259
 t145:=Tryz.underlying261
 a145:=Tryz.isAgg261
 z145:=Tryz.sizeOf261
 v145:=Tryz.zeroValue261
 t167:=Tryz.underlying239
 a167:=Tryz.isAgg239
 z167:=Tryz.sizeOf239
 v167:=Tryz.zeroValue239
 t168:=Tryz.underlying242
 a168:=Tryz.isAgg242
 z168:=Tryz.sizeOf242
 v168:=Tryz.zeroValue242
 t171:=Tryz.underlying245
 a171:=Tryz.isAgg245
 z171:=Tryz.sizeOf245
 v171:=Tryz.zeroValue245
 t173:=Tryz.underlying247
 a173:=Tryz.isAgg247
 z173:=Tryz.sizeOf247
 v173:=Tryz.zeroValue247
 t175:=Tryz.underlying249
 a175:=Tryz.isAgg249
 z175:=Tryz.sizeOf249
 v175:=Tryz.zeroValue249
 t210:=Tryz.underlying252
 a210:=Tryz.isAgg252
 z210:=Tryz.sizeOf252
 v210:=Tryz.zeroValue252
 t212:=Tryz.underlying255
 a212:=Tryz.isAgg255
 z212:=Tryz.sizeOf255
 v212:=Tryz.zeroValue255
 t213:=Tryz.underlying256
 a213:=Tryz.isAgg256
 z213:=Tryz.sizeOf256
 t232:=Tryz.underlying262
 a232:=Tryz.isAgg262
 z232:=Tryz.sizeOf262
 v232:=Tryz.zeroValue262
 t233:=Tryz.underlying263
 a233:=Tryz.isAgg263
 z233:=Tryz.sizeOf263
 v233:=Tryz.zeroValue263
 g15:=by kernel_rfl
 g16:=by kernel_rfl
 g17:=by kernel_rfl
 g18:=by kernel_rfl
 g19:=by kernel_rfl
 t80:=Tryz.underlying82
 a80:=Tryz.isAgg82
 z80:=Tryz.sizeOf82
 v80:=Tryz.zeroValue82
 i0:=by kernel_rfl
 i2:=by kernel_rfl
 i3:=by kernel_rfl
 i4:=by kernel_rfl
 i5:=by kernel_rfl
 i9:=by kernel_rfl
 i20:=by kernel_rfl
 i21:=by kernel_rfl
 i37:=by kernel_rfl
 i46:=by kernel_rfl
 i51:=by kernel_rfl
 i53:=by kernel_rfl
 i75:=by kernel_rfl
 i76:=by kernel_rfl
 i80:=by kernel_rfl
 i85:=by kernel_rfl
 i127:=by kernel_rfl
 i143:=by kernel_rfl
 i145:=by kernel_rfl
 i167:=by kernel_rfl
 i168:=by kernel_rfl
 i171:=by kernel_rfl
 i173:=by kernel_rfl
 i175:=by kernel_rfl
 i210:=by kernel_rfl
 i212:=by kernel_rfl
 i232:=by kernel_rfl
 i233:=by kernel_rfl
 m15:=by kernel_rfl
 m16:=by kernel_rfl
 m17:=by kernel_rfl
 m18:=by kernel_rfl
 m19:=by kernel_rfl
 c0:=by kernel_rfl
 c2:=by kernel_rfl
 c3:=by kernel_rfl
 c4:=by kernel_rfl
 c5:=by kernel_rfl
 c9:=by kernel_rfl
 c20:=by kernel_rfl
 c21:=by kernel_rfl
 c37:=by kernel_rfl
 c46:=by kernel_rfl
 c51:=by kernel_rfl
 c53:=by kernel_rfl
 c75:=by kernel_rfl
 c76:=by kernel_rfl
 c80:=by kernel_rfl
 c85:=by kernel_rfl
 c127:=by kernel_rfl
 c143:=by kernel_rfl
 c145:=by kernel_rfl
 c167:=by kernel_rfl
 c168:=by kernel_rfl
 c171:=by kernel_rfl
 c173:=by kernel_rfl
 c175:=by kernel_rfl
 c210:=by kernel_rfl
 c212:=by kernel_rfl
 c213:=by kernel_rfl
 c232:=by kernel_rfl
 c233:=by kernel_rfl }
def Tryz.laysM171_ren:Go.Shelf.Ren:=⟨fun | 171=>179 | 243=>209 | 246=>223 | 283=>231 | 284=>232 | 285=>233 | 286=>234 | 129=>138 | 317=>238 | 318=>239 | 319=>240 | 320=>241 | 337=>244 | 338=>245 | n=>n,fun | 3=>3 | 9=>9 | 2=>2 | 4=>4 | 171=>245 | 0=>0 | 53=>178 | 37=>37 | 5=>5 | 173=>247 | 212=>255 | 51=>176 | 20=>20 | 213=>256 | 46=>143 | 232=>262 | 233=>263 | n=>n,fun | 17=>5 | 18=>6 | 19=>7 | n=>n⟩
theorem Tryz.laysM171:Go.Proofs.LaysM.n171 Tryz.prog Tryz.laysM171_ren:={
 mixed:=by kernel_rfl
 f129:=Tryz.func138.trans (congrArg some (by kernel_rfl))
 f171:=Tryz.func179.trans (congrArg some (by kernel_rfl))
 f243:=Tryz.func209.trans (congrArg some (by kernel_rfl))
 f246:=Tryz.func223.trans (congrArg some (by kernel_rfl))
 f283:=Tryz.func231.trans (congrArg some (by kernel_rfl))
 f284:=Tryz.func232.trans (congrArg some (by kernel_rfl))
 f285:=Tryz.func233.trans (congrArg some (by kernel_rfl))
 f286:=Tryz.func234.trans (congrArg some (by kernel_rfl))
 f317:=Tryz.func238.trans (congrArg some (by kernel_rfl))
 f318:=Tryz.func239.trans (congrArg some (by kernel_rfl))
 f319:=Tryz.func240.trans (congrArg some (by kernel_rfl))
 f320:=Tryz.func241.trans (congrArg some (by kernel_rfl))
 f337:=Tryz.func244.trans (congrArg some (by kernel_rfl))
 f338:=Tryz.func245.trans (congrArg some (by kernel_rfl))
 t0:=Tryz.underlying0
 a0:=Tryz.isAgg0
 z0:=Tryz.sizeOf0
 v0:=Tryz.zeroValue0
 t2:=Tryz.underlying2
 a2:=Tryz.isAgg2
 z2:=Tryz.sizeOf2
 v2:=Tryz.zeroValue2
 t3:=Tryz.underlying3
 a3:=Tryz.isAgg3
 z3:=Tryz.sizeOf3
 v3:=Tryz.zeroValue3
 t4:=Tryz.underlying4
 a4:=Tryz.isAgg4
 z4:=Tryz.sizeOf4
 v4:=Tryz.zeroValue4
 t5:=Tryz.underlying5
 a5:=Tryz.isAgg5
 z5:=Tryz.sizeOf5
 v5:=Tryz.zeroValue5
 t9:=Tryz.underlying9
 a9:=Tryz.isAgg9
 z9:=Tryz.sizeOf9
 v9:=Tryz.zeroValue9
 t20:=Tryz.underlying20
 a20:=Tryz.isAgg20
 z20:=Tryz.sizeOf20
 v20:=Tryz.zeroValue20
 t37:=Tryz.underlying37
 a37:=Tryz.isAgg37
 z37:=Tryz.sizeOf37
 v37:=Tryz.zeroValue37
 t46:=Tryz.underlying143
 a46:=Tryz.isAgg143
 z46:=Tryz.sizeOf143
 v46:=Tryz.zeroValue143
 t51:=Tryz.underlying176
 a51:=Tryz.isAgg176
 z51:=Tryz.sizeOf176
 v51:=Tryz.zeroValue176
 t53:=Tryz.underlying178
 a53:=Tryz.isAgg178
 z53:=Tryz.sizeOf178
 v53:=Tryz.zeroValue178
 t171:=Tryz.underlying245
 a171:=Tryz.isAgg245
 z171:=Tryz.sizeOf245
 v171:=Tryz.zeroValue245
 t173:=Tryz.underlying247
 a173:=Tryz.isAgg247
 z173:=Tryz.sizeOf247
 v173:=Tryz.zeroValue247
 t212:=Tryz.underlying255
 a212:=Tryz.isAgg255
 z212:=Tryz.sizeOf255
 v212:=Tryz.zeroValue255
 t213:=Tryz.underlying256
 a213:=Tryz.isAgg256
 z213:=Tryz.sizeOf256
 t232:=Tryz.underlying262
 a232:=Tryz.isAgg262
 z232:=Tryz.sizeOf262
 v232:=Tryz.zeroValue262
 t233:=Tryz.underlying263
 a233:=Tryz.isAgg263
 z233:=Tryz.sizeOf263
 v233:=Tryz.zeroValue263
 g17:=by kernel_rfl
 g18:=by kernel_rfl
 g19:=by kernel_rfl
 i0:=by kernel_rfl
 i2:=by kernel_rfl
 i3:=by kernel_rfl
 i4:=by kernel_rfl
 i5:=by kernel_rfl
 i9:=by kernel_rfl
 i20:=by kernel_rfl
 i37:=by kernel_rfl
 i46:=by kernel_rfl
 i51:=by kernel_rfl
 i53:=by kernel_rfl
 i171:=by kernel_rfl
 i173:=by kernel_rfl
 i212:=by kernel_rfl
 i232:=by kernel_rfl
 i233:=by kernel_rfl
 m17:=by kernel_rfl
 m18:=by kernel_rfl
 m19:=by kernel_rfl }
def Tryz.lays145_ren:Go.Shelf.Ren:=⟨fun | 145=>68 | 220=>108 | 219=>145 | 217=>185 | 225=>186 | 224=>187 | 267=>188 | 266=>212 | 314=>213 | n=>n,fun | 9=>9 | 4=>4 | 59=>115 | 3=>3 | 5=>5 | 46=>143 | 146=>226 | 51=>176 | n=>n,fun | 1=>0 | n=>n⟩
theorem Tryz.lays145:Go.Proofs.Lays.n145 Tryz.prog Tryz.lays145_ren:={
 mixed:=by kernel_rfl
 f145:=Tryz.func68.trans (congrArg some (by kernel_rfl))
 f217:=Tryz.func185.trans (congrArg some (by kernel_rfl))
 f219:=Tryz.func145.trans (congrArg some (by kernel_rfl))
 f220:=Tryz.func108.trans (congrArg some (by kernel_rfl))
 f224:=Tryz.func187.trans (congrArg some (by kernel_rfl))
 f225:=Tryz.func186.trans (congrArg some (by kernel_rfl))
 f266:=Tryz.func212.trans (congrArg some (by kernel_rfl))
 f267:=Tryz.func188.trans (congrArg some (by kernel_rfl))
 f314:=Tryz.func213.trans (congrArg some (by kernel_rfl))
 t3:=Tryz.underlying3
 a3:=Tryz.isAgg3
 z3:=Tryz.sizeOf3
 v3:=Tryz.zeroValue3
 t4:=Tryz.underlying4
 a4:=Tryz.isAgg4
 z4:=Tryz.sizeOf4
 v4:=Tryz.zeroValue4
 t5:=Tryz.underlying5
 a5:=Tryz.isAgg5
 z5:=Tryz.sizeOf5
 v5:=Tryz.zeroValue5
 t9:=Tryz.underlying9
 a9:=Tryz.isAgg9
 z9:=Tryz.sizeOf9
 v9:=Tryz.zeroValue9
 t46:=Tryz.underlying143
 a46:=Tryz.isAgg143
 z46:=Tryz.sizeOf143
 v46:=Tryz.zeroValue143
 t51:=Tryz.underlying176
 a51:=Tryz.isAgg176
 z51:=Tryz.sizeOf176
 v51:=Tryz.zeroValue176
 t59:=Tryz.underlying115
 a59:=Tryz.isAgg115
 z59:=Tryz.sizeOf115
 v59:=Tryz.zeroValue115
 t146:=Tryz.underlying226
 a146:=Tryz.isAgg226
 z146:=Tryz.sizeOf226
 v146:=Tryz.zeroValue226
 g1:=by kernel_rfl }
def Tryz.lays144_ren:Go.Shelf.Ren:=⟨fun | 144=>154 | 143=>144 | 219=>145 | 217=>185 | 225=>186 | 224=>187 | 267=>188 | 266=>212 | 314=>213 | n=>n,fun | 9=>9 | 4=>4 | 3=>3 | 5=>5 | 46=>143 | 146=>226 | 51=>176 | n=>n,fun | 1=>0 | n=>n⟩
theorem Tryz.lays144:Go.Proofs.Lays.n144 Tryz.prog Tryz.lays144_ren:={
 mixed:=by kernel_rfl
 f143:=Tryz.func144.trans (congrArg some (by kernel_rfl))
 f144:=Tryz.func154.trans (congrArg some (by kernel_rfl))
 f217:=Tryz.func185.trans (congrArg some (by kernel_rfl))
 f219:=Tryz.func145.trans (congrArg some (by kernel_rfl))
 f224:=Tryz.func187.trans (congrArg some (by kernel_rfl))
 f225:=Tryz.func186.trans (congrArg some (by kernel_rfl))
 f266:=Tryz.func212.trans (congrArg some (by kernel_rfl))
 f267:=Tryz.func188.trans (congrArg some (by kernel_rfl))
 f314:=Tryz.func213.trans (congrArg some (by kernel_rfl))
 t3:=Tryz.underlying3
 a3:=Tryz.isAgg3
 z3:=Tryz.sizeOf3
 v3:=Tryz.zeroValue3
 t4:=Tryz.underlying4
 a4:=Tryz.isAgg4
 z4:=Tryz.sizeOf4
 v4:=Tryz.zeroValue4
 t5:=Tryz.underlying5
 a5:=Tryz.isAgg5
 z5:=Tryz.sizeOf5
 v5:=Tryz.zeroValue5
 t9:=Tryz.underlying9
 a9:=Tryz.isAgg9
 z9:=Tryz.sizeOf9
 v9:=Tryz.zeroValue9
 t46:=Tryz.underlying143
 a46:=Tryz.isAgg143
 z46:=Tryz.sizeOf143
 v46:=Tryz.zeroValue143
 t51:=Tryz.underlying176
 a51:=Tryz.isAgg176
 z51:=Tryz.sizeOf176
 v51:=Tryz.zeroValue176
 t146:=Tryz.underlying226
 a146:=Tryz.isAgg226
 z146:=Tryz.sizeOf226
 v146:=Tryz.zeroValue226
 g1:=by kernel_rfl }
def Tryz.lays146_ren:Go.Shelf.Ren:=⟨fun | 146=>67 | 221=>107 | 268=>142 | 138=>143 | 143=>144 | 195=>182 | 197=>183 | 218=>184 | 219=>145 | 260=>211 | 217=>185 | 225=>186 | 224=>187 | 267=>188 | 266=>212 | 314=>213 | n=>n,fun | 9=>9 | 31=>50 | 3=>3 | 4=>4 | 0=>0 | 105=>206 | 21=>21 | 5=>5 | 46=>143 | 119=>235 | 139=>238 | 138=>237 | 146=>226 | 51=>176 | n=>n,fun | 1=>0 | 3=>1 | 4=>2 | n=>n⟩
theorem Tryz.lays146:Go.Proofs.Lays.n146 Tryz.prog Tryz.lays146_ren:={
 mixed:=by kernel_rfl
 f138:=Tryz.func143.trans (congrArg some (by kernel_rfl))
 f143:=Tryz.func144.trans (congrArg some (by kernel_rfl))
 f146:=Tryz.func67.trans (congrArg some (by kernel_rfl))
 f195:=Tryz.func182.trans (congrArg some (by kernel_rfl))
 f197:=Tryz.func183.trans (congrArg some (by kernel_rfl))
 f217:=Tryz.func185.trans (congrArg some (by kernel_rfl))
 f218:=Tryz.func184.trans (congrArg some (by kernel_rfl))
 f219:=Tryz.func145.trans (congrArg some (by kernel_rfl))
 f221:=Tryz.func107.trans (congrArg some (by kernel_rfl))
 f224:=Tryz.func187.trans (congrArg some (by kernel_rfl))
 f225:=Tryz.func186.trans (congrArg some (by kernel_rfl))
 f260:=Tryz.func211.trans (congrArg some (by kernel_rfl))
 f266:=Tryz.func212.trans (congrArg some (by kernel_rfl))
 f267:=Tryz.func188.trans (congrArg some (by kernel_rfl))
 f268:=Tryz.func142.trans (congrArg some (by kernel_rfl))
 f314:=Tryz.func213.trans (congrArg some (by kernel_rfl))
 t0:=Tryz.underlying0
 a0:=Tryz.isAgg0
 z0:=Tryz.sizeOf0
 v0:=Tryz.zeroValue0
 t3:=Tryz.underlying3
 a3:=Tryz.isAgg3
 z3:=Tryz.sizeOf3
 v3:=Tryz.zeroValue3
 t4:=Tryz.underlying4
 a4:=Tryz.isAgg4
 z4:=Tryz.sizeOf4
 v4:=Tryz.zeroValue4
 t5:=Tryz.underlying5
 a5:=Tryz.isAgg5
 z5:=Tryz.sizeOf5
 v5:=Tryz.zeroValue5
 t9:=Tryz.underlying9
 a9:=Tryz.isAgg9
 z9:=Tryz.sizeOf9
 v9:=Tryz.zeroValue9
 t21:=Tryz.underlying21
 a21:=Tryz.isAgg21
 z21:=Tryz.sizeOf21
 v21:=Tryz.zeroValue21
 t31:=Tryz.underlying50
 a31:=Tryz.isAgg50
 z31:=Tryz.sizeOf50
 v31:=Tryz.zeroValue50
 t46:=Tryz.underlying143
 a46:=Tryz.isAgg143
 z46:=Tryz.sizeOf143
 v46:=Tryz.zeroValue143
 t51:=Tryz.underlying176
 a51:=Tryz.isAgg176
 z51:=Tryz.sizeOf176
 v51:=Tryz.zeroValue176
 t105:=Tryz.underlying206
 a105:=Tryz.isAgg206
 z105:=Tryz.sizeOf206
 v105:=Tryz.zeroValue206
 t119:=Tryz.underlying235
 a119:=Tryz.isAgg235
 z119:=Tryz.sizeOf235
 t138:=Tryz.underlying237
 a138:=Tryz.isAgg237
 z138:=Tryz.sizeOf237
 v138:=Tryz.zeroValue237
 t139:=Tryz.underlying238
 a139:=Tryz.isAgg238
 z139:=Tryz.sizeOf238
 v139:=Tryz.zeroValue238
 t146:=Tryz.underlying226
 a146:=Tryz.isAgg226
 z146:=Tryz.sizeOf226
 v146:=Tryz.zeroValue226
 g1:=by kernel_rfl
 g3:=by kernel_rfl
 g4:=by kernel_rfl }
def Tryz.lays101_ren:Go.Shelf.Ren:=⟨fun | 101=>110 | 208=>147 | 206=>190 | n=>n,fun | 9=>9 | 4=>4 | 3=>3 | n=>n,fun | n=>n⟩
theorem Tryz.lays101:Go.Proofs.Lays.n101 Tryz.prog Tryz.lays101_ren:={
 mixed:=by kernel_rfl
 f101:=Tryz.func110.trans (congrArg some (by kernel_rfl))
 f206:=Tryz.func190.trans (congrArg some (by kernel_rfl))
 f208:=Tryz.func147.trans (congrArg some (by kernel_rfl))
 t3:=Tryz.underlying3
 a3:=Tryz.isAgg3
 z3:=Tryz.sizeOf3
 v3:=Tryz.zeroValue3
 t4:=Tryz.underlying4
 a4:=Tryz.isAgg4
 z4:=Tryz.sizeOf4
 v4:=Tryz.zeroValue4
 t9:=Tryz.underlying9
 a9:=Tryz.isAgg9
 z9:=Tryz.sizeOf9
 v9:=Tryz.zeroValue9 }
def Tryz.lays151_ren:Go.Shelf.Ren:=⟨fun | 151=>151 | 152=>191 | 137=>216 | 119=>217 | 224=>187 | 225=>186 | 217=>185 | 266=>212 | n=>n,fun | 9=>9 | 21=>21 | 4=>4 | 3=>3 | 5=>5 | 0=>0 | 46=>143 | n=>n,fun | n=>n⟩
theorem Tryz.lays151:Go.Proofs.Lays.n151 Tryz.prog Tryz.lays151_ren:={
 mixed:=by kernel_rfl
 f119:=Tryz.func217.trans (congrArg some (by kernel_rfl))
 f137:=Tryz.func216.trans (congrArg some (by kernel_rfl))
 f151:=Tryz.func151.trans (congrArg some (by kernel_rfl))
 f152:=Tryz.func191.trans (congrArg some (by kernel_rfl))
 f217:=Tryz.func185.trans (congrArg some (by kernel_rfl))
 f224:=Tryz.func187.trans (congrArg some (by kernel_rfl))
 f225:=Tryz.func186.trans (congrArg some (by kernel_rfl))
 f266:=Tryz.func212.trans (congrArg some (by kernel_rfl))
 t0:=Tryz.underlying0
 a0:=Tryz.isAgg0
 z0:=Tryz.sizeOf0
 v0:=Tryz.zeroValue0
 t3:=Tryz.underlying3
 a3:=Tryz.isAgg3
 z3:=Tryz.sizeOf3
 v3:=Tryz.zeroValue3
 t4:=Tryz.underlying4
 a4:=Tryz.isAgg4
 z4:=Tryz.sizeOf4
 v4:=Tryz.zeroValue4
 t5:=Tryz.underlying5
 a5:=Tryz.isAgg5
 z5:=Tryz.sizeOf5
 v5:=Tryz.zeroValue5
 t9:=Tryz.underlying9
 a9:=Tryz.isAgg9
 z9:=Tryz.sizeOf9
 v9:=Tryz.zeroValue9
 t21:=Tryz.underlying21
 a21:=Tryz.isAgg21
 z21:=Tryz.sizeOf21
 v21:=Tryz.zeroValue21
 t46:=Tryz.underlying143
 a46:=Tryz.isAgg143
 z46:=Tryz.sizeOf143
 v46:=Tryz.zeroValue143 }
def Tryz.lays106_ren:Go.Shelf.Ren:=⟨fun | 106=>87 | 213=>124 | 265=>157 | n=>n,fun | 9=>9 | 3=>3 | n=>n,fun | n=>n⟩
theorem Tryz.lays106:Go.Proofs.Lays.n106 Tryz.prog Tryz.lays106_ren:={
 mixed:=by kernel_rfl
 f106:=Tryz.func87.trans (congrArg some (by kernel_rfl))
 f213:=Tryz.func124.trans (congrArg some (by kernel_rfl))
 f265:=Tryz.func157.trans (congrArg some (by kernel_rfl))
 t3:=Tryz.underlying3
 a3:=Tryz.isAgg3
 z3:=Tryz.sizeOf3
 v3:=Tryz.zeroValue3
 t9:=Tryz.underlying9
 a9:=Tryz.isAgg9
 z9:=Tryz.sizeOf9
 v9:=Tryz.zeroValue9 }
def Tryz.lays160_ren:Go.Shelf.Ren:=⟨fun | 160=>153 | 232=>195 | 231=>194 | 227=>196 | 234=>198 | 233=>197 | 236=>200 | 235=>199 | 228=>219 | 271=>220 | 151=>151 | 197=>183 | 120=>230 | 152=>191 | 260=>211 | 137=>216 | 119=>217 | 224=>187 | 225=>186 | 217=>185 | 266=>212 | n=>n,fun | 9=>9 | 4=>4 | 3=>3 | 5=>5 | 117=>214 | 116=>213 | 0=>0 | 124=>217 | 21=>21 | 105=>206 | 46=>143 | 119=>235 | 139=>238 | 138=>237 | n=>n,fun | 3=>1 | 4=>2 | n=>n⟩
theorem Tryz.lays160:Go.Proofs.Lays.n160 Tryz.prog Tryz.lays160_ren:={
 mixed:=by kernel_rfl
 f119:=Tryz.func217.trans (congrArg some (by kernel_rfl))
 f120:=Tryz.func230.trans (congrArg some (by kernel_rfl))
 f137:=Tryz.func216.trans (congrArg some (by kernel_rfl))
 f151:=Tryz.func151.trans (congrArg some (by kernel_rfl))
 f152:=Tryz.func191.trans (congrArg some (by kernel_rfl))
 f160:=Tryz.func153.trans (congrArg some (by kernel_rfl))
 f197:=Tryz.func183.trans (congrArg some (by kernel_rfl))
 f217:=Tryz.func185.trans (congrArg some (by kernel_rfl))
 f224:=Tryz.func187.trans (congrArg some (by kernel_rfl))
 f225:=Tryz.func186.trans (congrArg some (by kernel_rfl))
 f227:=Tryz.func196.trans (congrArg some (by kernel_rfl))
 f228:=Tryz.func219.trans (congrArg some (by kernel_rfl))
 f231:=Tryz.func194.trans (congrArg some (by kernel_rfl))
 f232:=Tryz.func195.trans (congrArg some (by kernel_rfl))
 f233:=Tryz.func197.trans (congrArg some (by kernel_rfl))
 f234:=Tryz.func198.trans (congrArg some (by kernel_rfl))
 f235:=Tryz.func199.trans (congrArg some (by kernel_rfl))
 f236:=Tryz.func200.trans (congrArg some (by kernel_rfl))
 f260:=Tryz.func211.trans (congrArg some (by kernel_rfl))
 f266:=Tryz.func212.trans (congrArg some (by kernel_rfl))
 f271:=Tryz.func220.trans (congrArg some (by kernel_rfl))
 t0:=Tryz.underlying0
 a0:=Tryz.isAgg0
 z0:=Tryz.sizeOf0
 v0:=Tryz.zeroValue0
 t3:=Tryz.underlying3
 a3:=Tryz.isAgg3
 z3:=Tryz.sizeOf3
 v3:=Tryz.zeroValue3
 t4:=Tryz.underlying4
 a4:=Tryz.isAgg4
 z4:=Tryz.sizeOf4
 v4:=Tryz.zeroValue4
 t5:=Tryz.underlying5
 a5:=Tryz.isAgg5
 z5:=Tryz.sizeOf5
 v5:=Tryz.zeroValue5
 t9:=Tryz.underlying9
 a9:=Tryz.isAgg9
 z9:=Tryz.sizeOf9
 v9:=Tryz.zeroValue9
 t21:=Tryz.underlying21
 a21:=Tryz.isAgg21
 z21:=Tryz.sizeOf21
 v21:=Tryz.zeroValue21
 t46:=Tryz.underlying143
 a46:=Tryz.isAgg143
 z46:=Tryz.sizeOf143
 v46:=Tryz.zeroValue143
 t105:=Tryz.underlying206
 a105:=Tryz.isAgg206
 z105:=Tryz.sizeOf206
 v105:=Tryz.zeroValue206
 t116:=Tryz.underlying213
 a116:=Tryz.isAgg213
 z116:=Tryz.sizeOf213
 t117:=Tryz.underlying214
 a117:=Tryz.isAgg214
 z117:=Tryz.sizeOf214
 v117:=Tryz.zeroValue214
 t119:=Tryz.underlying235
 a119:=Tryz.isAgg235
 z119:=Tryz.sizeOf235
 t124:=Tryz.underlying217
 a124:=Tryz.isAgg217
 z124:=Tryz.sizeOf217
 v124:=Tryz.zeroValue217
 t138:=Tryz.underlying237
 a138:=Tryz.isAgg237
 z138:=Tryz.sizeOf237
 v138:=Tryz.zeroValue237
 t139:=Tryz.underlying238
 a139:=Tryz.isAgg238
 z139:=Tryz.sizeOf238
 v139:=Tryz.zeroValue238
 g3:=by kernel_rfl
 g4:=by kernel_rfl }
def Tryz.lays156_ren:Go.Shelf.Ren:=⟨fun | 156=>140 | 165=>180 | 166=>101 | 169=>102 | 240=>141 | 241=>210 | 276=>181 | 277=>224 | n=>n,fun | 31=>50 | 9=>9 | 3=>3 | 4=>4 | 0=>0 | 20=>20 | 72=>147 | 76=>150 | 70=>145 | 37=>37 | 75=>149 | 127=>180 | 164=>204 | 5=>5 | 80=>82 | n=>n,fun | n=>n⟩
theorem Tryz.lays156:Go.Proofs.Lays.n156 Tryz.prog Tryz.lays156_ren:={
 mixed:=by kernel_rfl
 f156:=Tryz.func140.trans (congrArg some (by kernel_rfl))
 f165:=Tryz.func180.trans (congrArg some (by kernel_rfl))
 f166:=Tryz.func101.trans (congrArg some (by kernel_rfl))
 f169:=Tryz.func102.trans (congrArg some (by kernel_rfl))
 f240:=Tryz.func141.trans (congrArg some (by kernel_rfl))
 f241:=Tryz.func210.trans (congrArg some (by kernel_rfl))
 f276:=Tryz.func181.trans (congrArg some (by kernel_rfl))
 f277:=Tryz.func224.trans (congrArg some (by kernel_rfl))
 t0:=Tryz.underlying0
 a0:=Tryz.isAgg0
 z0:=Tryz.sizeOf0
 v0:=Tryz.zeroValue0
 t3:=Tryz.underlying3
 a3:=Tryz.isAgg3
 z3:=Tryz.sizeOf3
 v3:=Tryz.zeroValue3
 t4:=Tryz.underlying4
 a4:=Tryz.isAgg4
 z4:=Tryz.sizeOf4
 v4:=Tryz.zeroValue4
 t9:=Tryz.underlying9
 a9:=Tryz.isAgg9
 z9:=Tryz.sizeOf9
 v9:=Tryz.zeroValue9
 t20:=Tryz.underlying20
 a20:=Tryz.isAgg20
 z20:=Tryz.sizeOf20
 v20:=Tryz.zeroValue20
 t31:=Tryz.underlying50
 a31:=Tryz.isAgg50
 z31:=Tryz.sizeOf50
 v31:=Tryz.zeroValue50
 t37:=Tryz.underlying37
 a37:=Tryz.isAgg37
 z37:=Tryz.sizeOf37
 v37:=Tryz.zeroValue37
 t70:=Tryz.underlying145
 a70:=Tryz.isAgg145
 z70:=Tryz.sizeOf145
 v70:=Tryz.zeroValue145
 t72:=Tryz.underlying147
 a72:=Tryz.isAgg147
 z72:=Tryz.sizeOf147
 v72:=Tryz.zeroValue147
 t75:=Tryz.underlying149
 a75:=Tryz.isAgg149
 z75:=Tryz.sizeOf149
 v75:=Tryz.zeroValue149
 t76:=Tryz.underlying150
 a76:=Tryz.isAgg150
 z76:=Tryz.sizeOf150
 v76:=Tryz.zeroValue150
 t127:=Tryz.underlying180
 a127:=Tryz.isAgg180
 z127:=Tryz.sizeOf180
 v127:=Tryz.zeroValue180
 t164:=Tryz.underlying204
 a164:=Tryz.isAgg204
 z164:=Tryz.sizeOf204
 v164:=Tryz.zeroValue204 }
theorem Tryz.Builder_Extra_156:Builder.Extra Tryz.prog Tryz.lays156_ren:={
 sizeBuilder:=by kernel_rfl
 liesBuilder:=by kernel_rfl
 t5:=Tryz.underlying5
 a5:=Tryz.isAgg5
 z5:=Tryz.sizeOf5
 v5:=Tryz.zeroValue5
 infoByte:=by kernel_rfl
 cellsByte:=by kernel_rfl
 sizeByte:=by kernel_rfl
 neB5:=by decide }
def Tryz.lays194_ren:Go.Shelf.Ren:=⟨fun | 194=>92 | n=>n,fun | 31=>50 | 9=>9 | 3=>3 | 4=>4 | 0=>0 | n=>n,fun | n=>n⟩
theorem Tryz.lays194:Go.Proofs.Lays.n194 Tryz.prog Tryz.lays194_ren:={
 mixed:=by kernel_rfl
 f194:=Tryz.func92.trans (congrArg some (by kernel_rfl))
 t0:=Tryz.underlying0
 a0:=Tryz.isAgg0
 z0:=Tryz.sizeOf0
 v0:=Tryz.zeroValue0
 t3:=Tryz.underlying3
 a3:=Tryz.isAgg3
 z3:=Tryz.sizeOf3
 v3:=Tryz.zeroValue3
 t4:=Tryz.underlying4
 a4:=Tryz.isAgg4
 z4:=Tryz.sizeOf4
 v4:=Tryz.zeroValue4
 t9:=Tryz.underlying9
 a9:=Tryz.isAgg9
 z9:=Tryz.sizeOf9
 v9:=Tryz.zeroValue9
 t31:=Tryz.underlying50
 a31:=Tryz.isAgg50
 z31:=Tryz.sizeOf50
 v31:=Tryz.zeroValue50 }
def Tryz.laysSlH6_f127_ren:Go.Shelf.Ren:=⟨fun | 6=>127 | n=>n,fun | 22=>50 | 23=>9 | 25=>130 | 3=>3 | 0=>0 | 4=>4 | n=>n,fun | n=>n⟩
theorem Tryz.laysSlH6_f127:Go.Proofs.SlLaysH.n6 Tryz.prog Tryz.laysSlH6_f127_ren:={
 mixed:=by kernel_rfl
 f6:=⟨Tryz.f127.name,by decide,Tryz.func127.trans (congrArg some (by kernel_rfl))⟩
 t0:=Tryz.underlying0
 a0:=Tryz.isAgg0
 z0:=Tryz.sizeOf0
 v0:=Tryz.zeroValue0
 t3:=Tryz.underlying3
 a3:=Tryz.isAgg3
 z3:=Tryz.sizeOf3
 v3:=Tryz.zeroValue3
 t4:=Tryz.underlying4
 a4:=Tryz.isAgg4
 z4:=Tryz.sizeOf4
 v4:=Tryz.zeroValue4
 t22:=Tryz.underlying50
 a22:=Tryz.isAgg50
 z22:=Tryz.sizeOf50
 v22:=Tryz.zeroValue50
 a23:=Tryz.isAgg9
 z23:=Tryz.sizeOf9
 t25:=Tryz.underlying130
 a25:=Tryz.isAgg130
 z25:=Tryz.sizeOf130
 v25:=Tryz.zeroValue130 }
def Tryz.laysSlH10_f91_ren:Go.Shelf.Ren:=⟨fun | 10=>91 | 6=>127 | n=>n,fun | 22=>50 | 23=>9 | 25=>130 | 3=>3 | 4=>4 | 0=>0 | n=>n,fun | n=>n⟩
theorem Tryz.laysSlH10_f91:Go.Proofs.SlLaysH.n10 Tryz.prog Tryz.laysSlH10_f91_ren:={
 mixed:=by kernel_rfl
 f6:=⟨Tryz.f127.name,by decide,Tryz.func127.trans (congrArg some (by kernel_rfl))⟩
 f10:=⟨Tryz.f91.name,by decide,Tryz.func91.trans (congrArg some (by kernel_rfl))⟩
 t0:=Tryz.underlying0
 a0:=Tryz.isAgg0
 z0:=Tryz.sizeOf0
 v0:=Tryz.zeroValue0
 t3:=Tryz.underlying3
 a3:=Tryz.isAgg3
 z3:=Tryz.sizeOf3
 v3:=Tryz.zeroValue3
 t4:=Tryz.underlying4
 a4:=Tryz.isAgg4
 z4:=Tryz.sizeOf4
 v4:=Tryz.zeroValue4
 t22:=Tryz.underlying50
 a22:=Tryz.isAgg50
 z22:=Tryz.sizeOf50
 v22:=Tryz.zeroValue50
 a23:=Tryz.isAgg9
 z23:=Tryz.sizeOf9
 t25:=Tryz.underlying130
 a25:=Tryz.isAgg130
 z25:=Tryz.sizeOf130
 v25:=Tryz.zeroValue130 }
end Go.Proofs
set_option maxHeartbeats 4000000
namespace T11
open Go Go.Proofs Pk Go.RowKit
structure Gv (M:Prop) (H:Hp):Prop where
 gl:Gl M 3 4 5 H
 mx:∃ m,bD H ⟨0,0,none⟩ [.int .i64 m]
theorem Gv.mono {M:Prop} {H K:Hp} (h:Gv M H) (hk:H.le K):Gv M K:=⟨h.gl.mono hk,h.mx.imp fun _ hm=>hm.mono hk⟩
noncomputable def wZ (s:aA):Option (Int×Bool):=CN s
noncomputable def pG (n:Int):Option aA:=yS n
noncomputable def xW (s t:aA):Option (aA×aA×Bool):=chk (s.length≤1073741824) (some (Lib.cut s t))
noncomputable def zF (s t:aA):Option Bool:=chk (s.length≤1073741824) (some (Lib.contains s t))
noncomputable def zG (s t:aA):Option aA:=some (Lib.trimPrefix s t)
noncomputable def KP (a b:aA):Option Int:=some (Lib.compareBytes a b)
noncomputable def zH (s:aA) (r:Int):Option Bool:=chk (0≤r∧r < 128) (some (decide (0≤Lib.indexByte s r.toNat.toUInt8)))
noncomputable def uN (s t:aA):Option aA:=match t with
 | [c]=>chk (s.length≤1073741824∧c.toNat < 128) (some (Lib.trimB s c))
 | _=>none
theorem XG (s:aA):(bs s).data.toList=s:=by simp [bs]
theorem ZL {M:Prop} {W:World} {H:Hp} (hH:H.le (hp W)) (hg:Gv M H) (s:aA) {r:Int×Bool} (hr:wZ s=some r):Calls Tryz.prog 189 [.string (bs s)].toArray W (iM M H W (fun v K=>∃ (er1:Value),v=.tuple [.int .i64 r.1,er1].toArray∧Er er1 r.2)):=by
 unfold wZ CN at hr;obtain ⟨hl,hr⟩:=aL hr;obtain rfl:=Option.some.inj hr;have hz:(bs s).size=s.length:=dQ s;obtain ⟨e0,h0,i0⟩:=hg.gl.syn;obtain ⟨e1,h1,i1⟩:=hg.gl.rng
 cases h:Lib.atoiAll s with
 | ok v =>
  refine (Any.strconv_Atoi_ok Tryz.laysC172 (bs s) (by omega) v (by rw [XG];exact h) W).mono ?_;rintro e w' ⟨rfl,hw⟩;refine ⟨⟨_,by simp [mH,h],.inl ⟨by simp [mH,h],rfl⟩⟩,?_⟩;rcases hw with rfl | ⟨t,rfl⟩
  ·exact dZ.refl _ _
  exact dZ.of_below hg.gl.nq (Lib.bytesWorld_below _ _ _)
 | range =>
  refine (Any.strconv_Atoi_range Tryz.laysC172 (bs s) (by omega) (by rw [XG];exact h) e1 W (nV hH h1) i1).mono ?_;rintro e w' ⟨N,rfl,_,_,hb⟩;have hr1:mH s=(Lib.atoiSat s,true):=by simp [mH,h]
  rw [hr1,XG];exact ⟨⟨_,rfl,.inr ⟨rfl,_,_,rfl⟩⟩,dZ.of_below hg.gl.nq hb⟩
 | _ =>
  refine (Any.strconv_Atoi_syntax Tryz.laysC172 (bs s) (by omega) (by rw [XG];exact h) e0 W (nV hH h0) i0).mono ?_;rintro e w' ⟨N,rfl,_,_,hb⟩;have hr1:mH s=(0,true):=by simp [mH,h]
  rw [hr1];exact ⟨⟨_,rfl,.inr ⟨rfl,_,_,rfl⟩⟩,dZ.of_below hg.gl.nq hb⟩
theorem TK {W:World} {H:Hp} (hH:H.le (hp W)) {M:Prop} (hg:Gv M H) (n:Int) (h1 : -9223372036854775808≤n) (h2:n≤9223372036854775807):Calls Tryz.prog 179 #[.int .i64 n] W fun e w'=>e=.returned (.string (bs (Lib.itoa n)))∧∃ k os,w'=Sort.grow (W.drewN k) os:=by
 refine (Any.strconv_Itoa Tryz.laysM171 n h1 h2 W (GV (by kernel_rfl) hH hg.gl.tab)).mono ?_;rintro e w' ⟨rfl,k,os,rfl⟩;exact ⟨rfl,k,os,rfl⟩
theorem zI (M:Prop) (W:World) (k:Nat) (os:Array Obj):dZ M W (Sort.grow (W.drewN k) os) :=
 ⟨rfl,rfl,rfl,(by show W.heap.size≤(W.heap++os).size;rw [Array.size_append];omega),fun b hb=>Array.getElem?_append_left hb,fun _=>Nat.le_add_right _ _⟩
theorem OP {M:Prop} {W:World} {H:Hp} (hH:H.le (hp W)) (hg:Gv M H) (n:Int) {r:aA} (hr:pG n=some r):Calls Tryz.prog 179 [.int .i64 n].toArray W (bV M W (.string (bs r))):=by
 unfold pG yS at hr;obtain ⟨hl,hr⟩:=aL hr;obtain rfl:=Option.some.inj hr;refine (TK hH hg n hl.1 hl.2).mono ?_;rintro e w' ⟨rfl,k,os,rfl⟩;exact ⟨rfl,zI M W k os⟩
theorem vG (M:Prop) (W:World) (k:Nat):dZ M W (W.drewN k):=⟨rfl,rfl,rfl,Nat.le_refl _,fun _ _=>rfl,fun _=>Nat.le_add_right _ _⟩
theorem TL {M:Prop} {W:World} {H:Hp} (hH:H.le (hp W)) (hg:Gv M H) (s t:aA) {r:aA×aA×Bool} (hr:xW s t=some r):Calls Tryz.prog 68 [.string (bs s),.string (bs t)].toArray W (bV M W (.tuple [.string (bs r.1),.string (bs r.2.1),.bool r.2.2].toArray)):=by
 unfold xW at hr;obtain ⟨hl,hr⟩:=aL hr;obtain rfl:=Option.some.inj hr;obtain ⟨m,hm⟩:=hg.mx;refine (Any.strings_Cut Tryz.lays145 (bs s) (bs t) m W (by rw [dQ];omega) (nV hH hm)).mono ?_;rintro e w' ⟨rfl,k,rfl⟩;exact ⟨by simp [bs],vG M W k⟩
theorem ZM {M:Prop} {W:World} {H:Hp} (hH:H.le (hp W)) (hg:Gv M H) (s t:aA) {r:Bool} (hr:zF s t=some r):Calls Tryz.prog 154 [.string (bs s),.string (bs t)].toArray W (bV M W (.bool r)):=by
 unfold zF at hr;obtain ⟨hl,hr⟩:=aL hr;obtain rfl:=Option.some.inj hr;obtain ⟨m,hm⟩:=hg.mx;refine (Any.strings_Contains Tryz.lays144 (bs s) (bs t) m W (by rw [dQ];omega) (nV hH hm)).mono ?_;rintro e w' ⟨rfl,rfl⟩;exact ⟨by simp [bs],dZ.refl _ _⟩
theorem TM {M:Prop} {W:World} (s t:aA) {r:aA} (hr:zG s t=some r):Calls Tryz.prog 110 [.string (bs s),.string (bs t)].toArray W (bV M W (.string (bs r))):=by
 obtain rfl:=Option.some.inj hr;refine (Any.strings_TrimPrefix Tryz.lays101 (bs s) (bs t) W).mono ?_;rintro e w' ⟨rfl,rfl⟩;exact ⟨by simp [bs],dZ.refl _ _⟩
theorem w87 {M:Prop} {W:World} (a b:aA) {r:Int} (hr:KP a b=some r):Calls Tryz.prog 87 [.string (bs a),.string (bs b)].toArray W (bV M W (.int .i64 r)):=by
 obtain rfl:=Option.some.inj hr;refine (Any.strings_Compare Tryz.lays106 (bs a) (bs b) W).mono ?_;rintro e w' ⟨rfl,rfl⟩;exact ⟨by simp [bs],dZ.refl _ _⟩
theorem ZN {M:Prop} {W:World} (s:aA) (k:Int) {r:Bool} (hr:zH s k=some r):Calls Tryz.prog 151 [.string (bs s),.int .i32 k].toArray W (bV M W (.bool r)):=by
 unfold zH at hr;obtain ⟨hl,hr⟩:=aL hr;obtain rfl:=Option.some.inj hr;refine (Any.strings_ContainsRune_ascii Tryz.lays151 (bs s) k W hl.1 hl.2).mono ?_;rintro e w' ⟨rfl,rfl⟩;exact ⟨by simp [bs],dZ.refl _ _⟩
theorem ZO {M:Prop} {W:World} (s t:aA) {r:aA} (hr:uN s t=some r):Calls Tryz.prog 153 [.string (bs s),.string (bs t)].toArray W (bV M W (.string (bs r))):=by
 unfold uN at hr
 split at hr
 ·rename_i c
  obtain ⟨hl,hr⟩:=aL hr;obtain rfl:=Option.some.inj hr;refine (Any.strings_Trim_one Tryz.lays160 (bs s) c hl.2 W (by rw [dQ];omega)).mono ?_;rintro e w' ⟨rfl,hw⟩;refine ⟨by simp [bs],?_⟩;rcases hw with rfl | rfl
  ·exact dZ.refl _ _
  exact vG M W 1
 cases hr
noncomputable def CZ (s t:aA):Option (List aA):=chk (s.length≤1073741824∧1≤t.length) (some ((Lib.splitB (bs t) 0 (Lib.countB (bs s) (bs t)) (bs s)).map (·.data.toList)))
theorem ZP {M:Prop} {W:World} {H:Hp} (hH:H.le (hp W)) (hg:Gv M H) (s t:aA) {r:List aA} (hr:CZ s t=some r):Calls Tryz.prog 67 [.string (bs s),.string (bs t)].toArray W (iM M H W (fun v K=>∃ (ad0:Option Addr) (cap0:Nat),v=.slice ad0 r.length cap0∧Sl (aS aN) 1 K ad0 cap0 r)):=by
 unfold CZ at hr;obtain ⟨hl,hr⟩:=aL hr;obtain rfl:=Option.some.inj hr;obtain ⟨m,hm⟩:=hg.mx;have hs1:1≤(bs t).size:=by rw [dQ];omega
 have hlen:=Lib.splitB_all (bs t) hs1 0 (Lib.countB (bs s) (bs t)) (bs s) rfl;have hcn:=Lib.countB_le (bs t) hs1 (bs s).size (bs s) (Nat.le_refl _);rw [dQ] at hcn;refine (Any.strings_Split Tryz.lays146 (by kernel_rfl) (bs s) (bs t) m W (by rw [dQ];omega) (nV hH hm) hs1).mono ?_;rintro e w' ⟨rfl,rfl⟩;generalize Lib.splitB (bs t) 0 (Lib.countB (bs s) (bs t)) (bs s)=l at hlen;refine ⟨⟨some ⟨W.heap.size,0,none⟩,_,by rw [List.length_map,hlen],⟨by rw [List.length_map,hlen];omega,fun i x hx=>?_⟩⟩,dZ.alloc M W _⟩;rw [List.getElem?_map,Option.map_eq_some_iff] at hx;obtain ⟨y,hy,rfl⟩:=hx;refine ⟨_,aN y.data.toList,rfl,rfl,rfl,⟨by rw [cP rfl],fun j v hv=>?_⟩,rfl⟩;rw [cP rfl]
 cases j with
 | succ j=>simp [aN] at hv
 | zero =>
  refine ⟨(l.map Value.string).toArray,9,(0,0),?_,?_⟩
  ·show (if W.heap.size < W.heap.size then _ else (W.heap.push _)[W.heap.size]?)=_;rw [if_neg (by omega)];simp;rfl
  have hv:v=.string (bs y.data.toList):=by simpa [aN] using hv.symm
  subst hv;rw [← SD y];simp [hy]
noncomputable def pH (l:List aA) (sep:aA):Option aA:=chk (l.length≤1073741824∧(Lib.join l sep).length≤1073741824) (some (Lib.join l sep))
theorem TN {M:Prop} {W:World} {H:Hp} (hH:H.le (hp W)) (hg:Gv M H) {ad:Option Addr} {cap:Nat} {l:List aA} (hl:Sl (aS aN) 1 H ad cap l) (sep:aA) {r:aA} (hr:pH l sep=some r):Calls Tryz.prog 140 [.slice ad l.length cap,.string (bs sep)].toArray W (bV M W (.string (bs r))):=by
 unfold pH at hr;obtain ⟨hb,hr⟩:=aL hr;obtain rfl:=Option.some.inj hr;have hx:(l.map bs).map (·.data.toList)=l:=by
  rw [List.map_map]
  conv=>rhs;rw [← List.map_id l]
  exact List.map_congr_left fun x _=>by simp [bs]
 cases l with
 | nil =>
  refine (Any.strings_Join_none Tryz.lays156 Tryz.Builder_Extra_156 ad cap (bs sep) W).mono ?_;rintro e w' ⟨rfl,rfl⟩;exact ⟨by simp [bs,Lib.join_nil],dZ.refl _ _⟩
 | cons x l =>
  obtain ⟨p,cs,rfl,hp0,h2,h3,h4⟩:=hl.2 0 x rfl;obtain ⟨b,o,sp⟩:=p;obtain rfl:sp=none:=hp0;have hcell:∀ (j:Nat) y,((x::l).map bs)[j]?=some y→W.cell? ⟨b,o+j,none⟩=some (.string y):=fun j y hy=>by
   rw [List.getElem?_map,Option.map_eq_some_iff] at hy;obtain ⟨z,hz,rfl⟩:=hy;obtain ⟨p,cs,h1,_,_,h3,h4⟩:=hl.2 j z hz;cases h1;have h4:cs=aN z:=h4;subst h4;have:=(h3.mono hH).cell (j:=0) (v:=.string (bs z)) rfl;have e:((⟨b,o,none⟩:Addr).add (j*1)).add 0=⟨b,o+j,none⟩:=by rw [Nat.mul_one,cP (i:=j) rfl];rfl
   rwa [e] at this
  have hlt:b < W.heap.size:=by
   have h4:cs=aN x:=h4;subst h4;obtain ⟨c,ty,fz,h5,_⟩:=h3.2 0 (.string (bs x)) rfl;have h6:=hH _ _ h5;rw [Nat.zero_mul,cP rfl] at h6;exact (Array.getElem?_eq_some_iff.1 h6).1
  have hn:((x::l).map bs).length=(x::l).length:=List.length_map _;have:=Any.strings_Join Tryz.lays156 Tryz.Builder_Extra_156 b o cap ((x::l).map bs) (bs sep) W hcell hlt (by rw [hn];omega) (by rw [hn];exact hl.1.1) (by rw [hx,show (bs sep).data.toList=sep by simp [bs]];omega);rw [hx,hn] at this;refine this.mono ?_;rintro e w' ⟨rfl,hw⟩;exact ⟨by simp [bs],dZ.of_below hg.gl.nq hw⟩
end T11
namespace T11
open Go Go.Proofs Pk
theorem J.{u} {α:Sort u} {a:α}:a=a:=rfl
structure aH where
 aM:Int
 aV:Int
 cM:Int
 deriving DecidableEq,Inhabited
def aJ (x:aH):List Value:=[.int .i64 x.aM,.int .i64 x.aV,.int .i64 x.cM]
structure aB where
 name:aA
 aC:List aA
 aO:List aA
 aG:List aH
 deriving DecidableEq,Inhabited
def aI:Hp→List Value→aB→Prop:=fun H cs x=>∃ (ad0:Option Addr) (cap0:Nat) (ad1:Option Addr) (cap1:Nat) (rB:Option Addr) (cap2:Nat),cs=[.string (bs x.name),.slice ad0 x.aC.length cap0,.slice ad1 x.aO.length cap1,.slice rB x.aG.length cap2]∧Sl (aS aN) 1 H ad0 cap0 x.aC∧Sl (aS aN) 1 H ad1 cap1 x.aO∧Sl (aS aJ) 3 H rB cap2 x.aG
theorem aI.one:EN aI:=fun _ _ _ ⟨_,_,_,_,_,_,h,_⟩=>by subst h;rfl
theorem aI.mono:oP aI:=fun _ _ _ _ hk ⟨a0,c0,a1,c1,a2,c2,h,f0,f1,f2⟩=>⟨a0,c0,a1,c1,a2,c2,h,f0.mono (aS.mono _) hk,f1.mono (aS.mono _) hk,f2.mono (aS.mono _) hk⟩
structure bQ where
 aD:aB
 aZ:List aA
 deriving DecidableEq,Inhabited
def xA:Hp→List Value→bQ→Prop:=fun H cs x=>∃ (ad0:Option Addr) (cap0:Nat) (ad1:Option Addr) (cap1:Nat) (rB:Option Addr) (cap2:Nat) (RF:Option Addr) (cap3:Nat),cs=[.string (bs x.aD.name),.slice ad0 x.aD.aC.length cap0,.slice ad1 x.aD.aO.length cap1,.slice rB x.aD.aG.length cap2,.slice RF x.aZ.length cap3]∧Sl (aS aN) 1 H ad0 cap0 x.aD.aC∧Sl (aS aN) 1 H ad1 cap1 x.aD.aO∧Sl (aS aJ) 3 H rB cap2 x.aD.aG∧Sl (aS aN) 1 H RF cap3 x.aZ
theorem xA.one:EN xA:=fun _ _ _ ⟨_,_,_,_,_,_,_,_,h,_⟩=>by subst h;rfl
theorem xA.mono:oP xA:=fun _ _ _ _ hk ⟨a0,c0,a1,c1,a2,c2,a3,c3,h,f0,f1,f2,f3⟩=>⟨a0,c0,a1,c1,a2,c2,a3,c3,h,f0.mono (aS.mono _) hk,f1.mono (aS.mono _) hk,f2.mono (aS.mono _) hk,f3.mono (aS.mono _) hk⟩
structure vH where
 line:aA
 deriving DecidableEq,Inhabited
def pI (x:vH):List Value:=[.string (bs x.line)]
structure mY where
 e0:Int
 e1:Int
 deriving DecidableEq,Inhabited
def FE (x:mY):List Value:=[.int .i64 x.e0,.int .i64 x.e1]
theorem mixed:Tryz.prog.follows .mixedOrders=true:=by kernel_rfl
theorem RG:iF Tryz.prog 53 [.string (bs []),.slice none 0 0,.slice none 0 0,.slice none 0 0] #[(0,1),(1,1),(2,1),(3,1)]:=⟨⟨.agg [.string (bs []),.slice none 0 0,.slice none 0 0,.slice none 0 0].toArray,rfl,Tryz.zeroValue53⟩,⟨_,Tryz.underlying53,fun _=>by kernel_rfl⟩⟩
theorem ZQ:iF Tryz.prog 55 [.int .i64 0,.int .i64 0,.int .i64 0] #[(0,1),(1,1),(2,1)]:=⟨⟨.agg [.int .i64 0,.int .i64 0,.int .i64 0].toArray,rfl,Tryz.zeroValue55⟩,⟨_,Tryz.underlying55,fun _=>by kernel_rfl⟩⟩
theorem MM:iF Tryz.prog 64 [.string (bs []),.slice none 0 0,.slice none 0 0,.slice none 0 0] #[(0,1),(1,1),(2,1),(3,1)]:=⟨⟨.agg [.string (bs []),.slice none 0 0,.slice none 0 0,.slice none 0 0].toArray,rfl,Tryz.zeroValue64⟩,⟨_,Tryz.underlying64,fun _=>by kernel_rfl⟩⟩
theorem JA:iF Tryz.prog 81 [.int .i64 0,.int .i64 0,.int .i64 0] #[(0,1),(1,1),(2,1)]:=⟨⟨.agg [.int .i64 0,.int .i64 0,.int .i64 0].toArray,rfl,Tryz.zeroValue81⟩,⟨_,Tryz.underlying81,fun _=>by kernel_rfl⟩⟩
theorem B98:iF Tryz.prog 98 [.string (bs []),.slice none 0 0,.slice none 0 0,.slice none 0 0,.slice none 0 0] #[(0,4),(4,1)]:=⟨⟨.agg [.string (bs []),.slice none 0 0,.slice none 0 0,.slice none 0 0,.slice none 0 0].toArray,rfl,Tryz.zeroValue98⟩,⟨_,Tryz.underlying98,fun _=>by kernel_rfl⟩⟩
theorem OQ:iF Tryz.prog 111 [.string (bs [])] #[(0,1)]:=⟨⟨.agg [.string (bs [])].toArray,rfl,Tryz.zeroValue111⟩,⟨_,Tryz.underlying111,fun _=>by kernel_rfl⟩⟩
theorem ZR:yW Tryz.prog 121 3 [.int .i64 0,.int .i64 0] 1:=⟨⟨.agg [.int .i64 0,.int .i64 0].toArray,rfl,Tryz.zeroValue121⟩,⟨_,Tryz.underlying121⟩,Tryz.sizeOf3⟩
theorem E25:cW Tryz.prog 25 53 [.string (bs []),.slice none 0 0,.slice none 0 0,.slice none 0 0] 4 88:=⟨Tryz.underlying25,⟨_,.agg [.string (bs []),.slice none 0 0,.slice none 0 0,.slice none 0 0].toArray,fR Tryz.type53,rfl,rfl,rfl,rfl⟩,rfl,by decide⟩
theorem OR:cW Tryz.prog 26 64 [.string (bs []),.slice none 0 0,.slice none 0 0,.slice none 0 0] 4 88:=⟨Tryz.underlying26,⟨_,.agg [.string (bs []),.slice none 0 0,.slice none 0 0,.slice none 0 0].toArray,fR Tryz.type64,rfl,rfl,rfl,rfl⟩,rfl,by decide⟩
theorem E30:cW Tryz.prog 30 26 [.slice none 0 0] 1 24:=⟨Tryz.underlying30,⟨_,.slice none 0 0,fR Tryz.type26,rfl,rfl,rfl,rfl⟩,rfl,by decide⟩
theorem TO:cW Tryz.prog 37 5 [.int .u8 0] 1 1:=⟨Tryz.underlying37,⟨_,.int .u8 0,fR Tryz.type5,rfl,rfl,rfl,rfl⟩,rfl,by decide⟩
theorem E50:cW Tryz.prog 50 9 [.string (bs [])] 1 16:=⟨Tryz.underlying50,⟨_,.string (bs []),fR Tryz.type9,rfl,rfl,rfl,rfl⟩,rfl,by decide⟩
theorem E51:cW Tryz.prog 51 55 [.int .i64 0,.int .i64 0,.int .i64 0] 3 24:=⟨Tryz.underlying51,⟨_,.agg [.int .i64 0,.int .i64 0,.int .i64 0].toArray,fR Tryz.type55,rfl,rfl,rfl,rfl⟩,rfl,by decide⟩
theorem JB:cW Tryz.prog 62 81 [.int .i64 0,.int .i64 0,.int .i64 0] 3 24:=⟨Tryz.underlying62,⟨_,.agg [.int .i64 0,.int .i64 0,.int .i64 0].toArray,fR Tryz.type81,rfl,rfl,rfl,rfl⟩,rfl,by decide⟩
theorem TP:cW Tryz.prog 125 3 [.int .i64 0] 1 8:=⟨Tryz.underlying125,⟨_,.int .i64 0,fR Tryz.type3,rfl,rfl,rfl,rfl⟩,rfl,by decide⟩
theorem TQ:cW Tryz.prog 134 50 [.slice none 0 0] 1 24:=⟨Tryz.underlying134,⟨_,.slice none 0 0,fR Tryz.type50,rfl,rfl,rfl,rfl⟩,rfl,by decide⟩
theorem Q81:NR Tryz.prog 81 aJ:=⟨fun x y w=>by
 have h0:Tryz.prog.underlying 81=some (.struct (Tryz.prog.fieldsOf 81)):=by kernel_rfl
 rw [run_equalIn_struct w 9999 81 _ _ h0 (by kernel_rfl)];simp only [Program.fieldsOf,Tryz.underlying81];have e:(x=y)=(x.aM=y.aM∧x.aV=y.aV∧x.cM=y.cM):=by cases x;cases y;simp
 simp only [e];simp [Op.eqFields,aJ,part,Tryz.isAgg3,NV Tryz.underlying3,NV Tryz.underlying3,NV Tryz.underlying3]
 by_cases h0:x.aM=y.aM <;> by_cases h1:x.aV=y.aV <;> by_cases h2:x.cM=y.cM <;> simp [h0,h1,h2],by kernel_rfl⟩
end T11
set_option maxHeartbeats 4000000
namespace T11
open Go Go.Proofs Pk
abbrev GA:=Nat×kD×kD×kD×kD
def MN (a:GA) (y:bQ):List Value:=[.string (bs y.aD.name),.slice a.2.1.1 y.aD.aC.length a.2.1.2,.slice a.2.2.1.1 y.aD.aO.length a.2.2.1.2,.slice a.2.2.2.1.1 y.aD.aG.length a.2.2.2.1.2,.slice a.2.2.2.2.1 y.aZ.length a.2.2.2.2.2]
def cU (a:GA) (y:bQ):List aK:=[bA a.1 98 (MN a y),.list a.2.1.1 a.2.1.2 9 1 aN y.aD.aC,.list a.2.2.1.1 a.2.2.1.2 9 1 aN y.aD.aO,.list a.2.2.2.1.1 a.2.2.2.1.2 81 3 aJ y.aD.aG,.list a.2.2.2.2.1 a.2.2.2.2.2 9 1 aN y.aZ]
def xX (a:GA) (y:bQ):Value:=.pointer (some ⟨a.1,0,none⟩)
def sX:bQ:=⟨⟨[],[],[],[]⟩,[]⟩
section
variable {hs:List (aA×Value)} {az:List GA} {m:List (aA×bQ)} {key:aA}
theorem MO (h:iG xX hs az m) {y:bQ} (hy:lkp m key=some y):∃ j b a1 c1 a2 c2 a3 c3 a4 c4,az[j]?=some (b,(a1,c1),(a2,c2),(a3,c3),(a4,c4))∧m[j]?=some (key,y)∧(lkp hs key).getD (.pointer none)=.pointer (some ⟨b,0,none⟩)∧∀ y',put m key y'=m.set j (key,y'):=by
 rcases h.lkp key with ⟨e,_⟩ | ⟨j,a,y',ha,hm,e1,e2,_,e4⟩
 ·rw [e] at hy;cases hy
 rw [e1] at hy;cases hy;obtain ⟨b,⟨a1,c1⟩,⟨a2,c2⟩,⟨a3,c3⟩,⟨a4,c4⟩⟩:=a;exact ⟨j,b,a1,c1,a2,c2,a3,c3,a4,c4,ha,hm,by rw [e2];rfl,e4⟩
theorem ZS (h:iG xX hs az m) (key:aA):((lkp hs key).getD (.pointer none)=.pointer none∧(!(lkp m key).isSome)=true)∨((∃ q,(lkp hs key).getD (.pointer none)=.pointer (some q))∧(!(lkp m key).isSome)=false):=by
 rcases h.lkp key with ⟨e,e2⟩ | ⟨j,a,y',ha,hm,e1,e2,_,e4⟩
 ·exact .inl ⟨by simp [e2],by simp [e]⟩
 exact .inr ⟨⟨_,by rw [e2];rfl⟩,by simp [e1]⟩
theorem atG (h:iG xX hs az m) {j:Nat} {q:aA×bQ} (hq:m[j]?=some q):∃ b a1 c1 a2 c2 a3 c3 a4 c4,az[j]?=some (b,(a1,c1),(a2,c2),(a3,c3),(a4,c4))∧hs[j]?=some (q.1,.pointer (some ⟨b,0,none⟩)):=by
 obtain ⟨a,ha,hh⟩:=h.at hq;obtain ⟨b,⟨a1,c1⟩,⟨a2,c2⟩,⟨a3,c3⟩,⟨a4,c4⟩⟩:=a;exact ⟨b,a1,c1,a2,c2,a3,c3,a4,c4,ha,hh⟩
theorem TR (A:aP) {B:aP} (t1 t2 t3 t4 t5:Nat) {j b:Nat} {a1 a2 a3 a4:Option Addr} {c1 c2 c3 c4:Nat} {q:aA×bQ} (ha:az[j]?=some (b,(a1,c1),(a2,c2),(a3,c3),(a4,c4))) (hm:m[j]?=some q) {x:Fr} {Hs:List Hp} {L:bM} {N:aU}
  (h:TG x Hs ((t1,bA b 98 [.string (bs q.2.aD.name),.slice a1 q.2.aD.aC.length c1,.slice a2 q.2.aD.aO.length c2,.slice a3 q.2.aD.aG.length c3,.slice a4 q.2.aZ.length c4])::(t2,.list a1 c1 9 1 aN q.2.aD.aC)::(t3,.list a2 c2 9 1 aN q.2.aD.aO)::(t4,.list a3 c3 81 3 aJ q.2.aD.aG)::(t5,.list a4 c4 9 1 aN q.2.aZ)::(A++(cA cU (az.eraseIdx j) (m.eraseIdx j)++B))) L N):TG x Hs (A++(cA cU az m++B)) L N :=
 TG.famF (ent:=cU) A [t1,t2,t3,t4,t5] ha (show m[j]?=some (q.1,q.2) from hm) rfl h
theorem FD (h:iG xX hs az m) (hn:(lkp m key).isSome=false) (b:Nat):iG xX (put hs key (.pointer (some ⟨b,0,none⟩))) (az++[(b,(none,0),(none,0),(none,0),(none,0))]) (put m key sX):=by
 have e:lkp m key=none:=by simpa using hn
 rcases h.lkp key with ⟨_,e2⟩ | ⟨j,a,y',ha,hm,e1,_⟩
 ·rw [fV _ e,fV _ e2];exact h.snoc key (b,(none,0),(none,0),(none,0),(none,0)) sX
 rw [e] at e1;cases e1
theorem TS (h:iG xX hs az m) {j b:Nat} {p q r s p' q' r' s':kD} {y y':bQ} (ha:az[j]?=some (b,p,q,r,s)) (hm:m[j]?=some (key,y)) {m':List (aA×bQ)} (hp:m'=m.set j (key,y')):iG xX hs (az.set j (b,p',q',r',s')) m':=by
 rw [hp];exact h.upd ha hm rfl
variable {x:Fr} {Hs:List Hp} {L:bM} {N:aU} {B:aP}
theorem ZT (A:aP) {A':aP} (t:Nat) {b:Nat} (h:iG xX hs az m) (hn:(lkp m key).isSome=false) (ht:bJ A t=some (bA b 98 [.string (bs []),.slice none 0 0,.slice none 0 0,.slice none 0 0,.slice none 0 0])) (hA:cD A t=A')
  (h2:TG x Hs (A'++(cA cU (az++[(b,(none,0),(none,0),(none,0),(none,0))]) (put m key sX)++B)) L N):TG x Hs (A++(cA cU az m++B)) L N:=by
 have e:lkp m key=none:=by simpa using hn
 rw [fV _ e] at h2
 refine TG.famI A [.row none 0 9 1 0 [],.row none 0 9 1 0 [],.row none 0 81 3 0 [],.row none 0 9 1 0 []] (a:=(b,(none,0),(none,0),(none,0),(none,0))) (k:=key) (y:=sX) ?_ (by
  intro z hz;simp only [List.mem_cons,List.not_mem_nil,or_false] at hz
  rcases hz with rfl | rfl | rfl | rfl <;> exact ⟨_,_,rfl⟩) h.len h2
 subst hA;refine (List.Perm.append_left _ (dT ht).symm).trans ?_;exact List.perm_middle
theorem MP (A:aP) {A':aP} (t1 t2 t3 t4 t5:Nat) {j b b0:Nat} {p q r s p' q' r' s':kD} {y y':bQ} {cs:List Value} (ha:az[j]?=some (b0,p,q,r,s)) (hm:m[j]?=some (key,y)) {m':List (aA×bQ)} (hp:m'=m.set j (key,y')) (hcs:MN (b,p',q',r',s') y'=cs)
  (h1:bJ A t1=some (bA b 98 cs)) (h2:bJ (cD A t1) t2=some (.list p'.1 p'.2 9 1 aN y'.aD.aC)) (h3:bJ (cD (cD A t1) t2) t3=some (.list q'.1 q'.2 9 1 aN y'.aD.aO)) (h4:bJ (cD (cD (cD A t1) t2) t3) t4=some (.list r'.1 r'.2 81 3 aJ y'.aD.aG)) (h5:bJ (cD (cD (cD (cD A t1) t2) t3) t4) t5=some (.list s'.1 s'.2 9 1 aN y'.aZ)) (hA:cD (cD (cD (cD (cD A t1) t2) t3) t4) t5=A')
  (h:TG x Hs (A'++(cA cU (az.set j (b,p',q',r',s')) m'++B)) L N):TG x Hs (A++(cA cU (az.eraseIdx j) (m.eraseIdx j)++B)) L N:=by
 subst hcs;rw [hp] at h;exact TG.famB A (HH h1 (HH h2 (HH h3 (HH h4 (HH h5 (ZF hA)))))) (aW ha) (aW hm) h
def Mg (K:Hp) (b:Nat) (hs:List (aA×Value)) (az:List GA) (m:List (aA×bQ)):Prop :=
 Mp bK (fun v:Value=>v) K (.map (some b)) hs∧∀ (j:Nat) (a:GA) (q:aA×bQ),az[j]?=some a→m[j]?=some q→bD K ⟨a.1,0,none⟩ (MN a q.2)∧Sl (aS aN) 1 K a.2.1.1 a.2.1.2 q.2.aD.aC∧Sl (aS aN) 1 K a.2.2.1.1 a.2.2.1.2 q.2.aD.aO∧Sl (aS aN) 1 K a.2.2.2.2.1 a.2.2.2.2.2 q.2.aZ
theorem Mg.mono {H K:Hp} {b:Nat} (h:Mg H b hs az m) (hk:H.le K):Mg K b hs az m:=⟨h.1.mono hk,fun j a q ha hm=>by
 obtain ⟨h1,h2,h3,h4⟩:=h.2 j a q ha hm
 exact ⟨h1.mono hk,h2.mono (aS.mono _) hk,h3.mono (aS.mono _) hk,h4.mono (aS.mono _) hk⟩⟩
theorem Mg.at {K:Hp} {b:Nat} (h:Mg K b hs az m) (hF:iG xX hs az m) {j:Nat} {q:aA×bQ} (hm:m[j]?=some q):∃ b' a1 c1 a2 c2 a3 c3 a4 c4,az[j]?=some (b',(a1,c1),(a2,c2),(a3,c3),(a4,c4))∧hs[j]?=some (q.1,.pointer (some ⟨b',0,none⟩))∧bD K ⟨b',0,none⟩ [.string (bs q.2.aD.name),.slice a1 q.2.aD.aC.length c1,.slice a2 q.2.aD.aO.length c2,.slice a3 q.2.aD.aG.length c3,.slice a4 q.2.aZ.length c4]∧Sl (aS aN) 1 K a1 c1 q.2.aD.aC∧Sl (aS aN) 1 K a2 c2 q.2.aD.aO∧Sl (aS aN) 1 K a4 c4 q.2.aZ:=by
 obtain ⟨a,ha,hh⟩:=hF.at hm;have h1:=h.2 j a q ha hm;obtain ⟨b',⟨a1,c1⟩,⟨a2,c2⟩,⟨a3,c3⟩,⟨a4,c4⟩⟩:=a;exact ⟨b',a1,c1,a2,c2,a3,c3,a4,c4,ha,hh,h1.1,h1.2.1,h1.2.2.1,h1.2.2.2⟩
theorem Mg.look {K:Hp} {b:Nat} (h:Mg K b hs az m) (hF:iG xX hs az m) {y:bQ} (hy:lkp m key=some y):∃ b' a1 c1 a2 c2 a3 c3 a4 c4,(lkp hs key).getD (.pointer none)=.pointer (some ⟨b',0,none⟩)∧bD K ⟨b',0,none⟩ [.string (bs y.aD.name),.slice a1 y.aD.aC.length c1,.slice a2 y.aD.aO.length c2,.slice a3 y.aD.aG.length c3,.slice a4 y.aZ.length c4]:=by
 obtain ⟨j,b',a1,c1,a2,c2,a3,c3,a4,c4,ha,hm,e,_⟩:=MO hF hy;exact ⟨b',a1,c1,a2,c2,a3,c3,a4,c4,e,(h.2 j _ _ ha hm).1⟩
def BO (az:List GA) (m:List (aA×bQ)) (seen:List Nat):aP:=(((az.zip m).zipIdx.filter fun q=>!seen.contains q.2).flatMap fun q=>[aK.list q.1.1.2.2.2.1.1 q.1.1.2.2.2.1.2 81 3 aJ q.1.2.2.aD.aG]).map fun o=>(1000000,o)
theorem DA (az:List GA) (m:List (aA×bQ)) (seen:List Nat):(BO az m seen).map Prod.snd=((az.zip m).zipIdx.filter fun q=>!seen.contains q.2).flatMap fun q=>[aK.list q.1.1.2.2.2.1.1 q.1.1.2.2.2.1.2 81 3 aJ q.1.2.2.aD.aG]:=by
 simp only [BO,List.map_map,Function.comp_def,List.map_id']
theorem vI {α:Type} {seen:List Nat} {q:α} {i:Nat}:∀ {zs:List (α×Nat)},(zs.map Prod.snd).Nodup→(q,i)∈zs→i∉seen→(zs.filter fun q=>!seen.contains q.2).Perm ((q,i)::zs.filter fun q=>!(seen++[i]).contains q.2)
 | [],_,h,_=>by cases h
 | (p,j)::zs,hn,hm,hi=>by
  simp only [List.map_cons,List.nodup_cons] at hn;rcases List.mem_cons.1 hm with e | hm'
  ·cases e;have e1:(!seen.contains i)=true:=by simpa using hi
   have e2:(!(seen++[i]).contains i)=false:=by simp
   rw [List.filter_cons_of_pos (by simpa using hi),List.filter_cons_of_neg (by simp)];refine List.Perm.cons _ ?_;rw [List.filter_congr (fun (u:α×Nat) hu=>?_)];have hne:u.2≠i:=fun e=>hn.1 (e▸List.mem_map.2 ⟨u,hu,rfl⟩);simp [hne]
  have hne:j≠i:=fun e=>hn.1 (e▸List.mem_map.2 ⟨(q,i),hm',rfl⟩);have ih:=vI hn.2 hm' hi;by_cases hj:j∈seen
  ·rw [List.filter_cons_of_neg (by simpa using hj),List.filter_cons_of_neg (by simp [hj])];exact ih
  rw [List.filter_cons_of_pos (by simpa using hj),List.filter_cons_of_pos (by simp [hj,hne])];exact (ih.cons _).trans (List.Perm.swap _ _ _)
theorem TG.dropM {A F:aP} (h:TG x Hs (A++B) L N):TG x Hs (A++(F++B)) L N:=by
 refine TG.permO (σ':=(A++B)++F) ?_ (TG.dropF h);simp only [List.map_append,List.append_assoc];exact List.Perm.append_left _ List.perm_append_comm
theorem plF (A:aP) (tp:Nat) {seen:List Nat} {i b:Nat} {a1 a2 a4:kD} {a3:Option Addr} {c3:Nat} {q:aA×bQ} (ha:az[i]?=some (b,a1,a2,(a3,c3),a4)) (hm:m[i]?=some q) (hni:i∉seen) (h:TG x Hs ((tp,.list a3 c3 81 3 aJ q.2.aD.aG)::(A++(BO az m (seen++[i])++B))) L N):TG x Hs (A++(BO az m seen++B)) L N:=by
 refine TG.permO ?_ h;simp only [List.map_cons,List.map_append,DA];have hz:((b,a1,a2,(a3,c3),a4),q)∈az.zip m:=List.mem_of_getElem? (kL ha hm);have hz2:(((b,a1,a2,(a3,c3),a4),q),i)∈(az.zip m).zipIdx:=by
  rw [List.mem_zipIdx_iff_getElem?];exact kL ha hm
 have hp:=vI (seen:=seen) (zs:=(az.zip m).zipIdx) (by
  rw [List.zipIdx_map_snd];exact List.nodup_range') hz2 hni
 have hf:=hp.flatMap_right (fun q:(GA×(aA×bQ))×Nat=>[aK.list q.1.1.2.2.2.1.1 q.1.1.2.2.2.1.2 81 3 aJ q.1.2.2.aD.aG]);refine List.Perm.trans ?_ (List.Perm.append_left _ (hf.symm.append_right _));simp only [List.flatMap_cons,List.cons_append,List.nil_append];exact List.perm_middle.symm
theorem ZU (A:aP) (t:Nat) {b:Nat} (hF:iG xX hs az m) (ht:bJ A t=some (aK.map' bK (fun v:Value=>v) b hs)) (h:∀ K,Mg K b hs az m→TG x (K::Hs) (cD A t++(BO az m []++B)) L N):TG x Hs (A++(cA cU az m++B)) L N:=by
 refine TG.lie (F:=aK.map' bK (fun v:Value=>v) b hs::(az.zip m).flatMap fun q=>[bA q.1.1 98 (MN q.1 q.2.2),.list q.1.2.1.1 q.1.2.1.2 9 1 aN q.2.2.aD.aC,.list q.1.2.2.1.1 q.1.2.2.1.2 9 1 aN q.2.2.aD.aO,.list q.1.2.2.2.2.1 q.1.2.2.2.2.2 9 1 aN q.2.2.aZ]) (Φ:=fun K=>Mg K b hs az m) ?_ (fun K w hK=>?_) h
 ·rw [List.map_append,List.map_append,iY,List.map_append,List.map_append,DA];have e1:((az.zip m).zipIdx.filter fun q=>!([]:List Nat).contains q.2)=(az.zip m).zipIdx:=by simp
  have e2:((az.zip m).zipIdx.flatMap fun q=>[aK.list q.1.1.2.2.2.1.1 q.1.1.2.2.2.1.2 81 3 aJ q.1.2.2.aD.aG])=(az.zip m).flatMap fun q=>[aK.list q.1.2.2.2.1.1 q.1.2.2.2.1.2 81 3 aJ q.2.2.aD.aG]:=by
   have:(az.zip m).zipIdx.map Prod.fst=az.zip m:=List.zipIdx_map_fst 0 _
   conv=>rhs;rw [← this]
   rw [List.flatMap_map]
  rw [e1,e2];have e3:∀ l:List (GA×(aA×bQ)),(l.flatMap fun q=>cU q.1 q.2.2).Perm ((l.flatMap fun q=>[bA q.1.1 98 (MN q.1 q.2.2),.list q.1.2.1.1 q.1.2.1.2 9 1 aN q.2.2.aD.aC,.list q.1.2.2.1.1 q.1.2.2.1.2 9 1 aN q.2.2.aD.aO,.list q.1.2.2.2.2.1 q.1.2.2.2.2.2 9 1 aN q.2.2.aZ])++l.flatMap fun q=>[aK.list q.1.2.2.2.1.1 q.1.2.2.2.1.2 81 3 aJ q.2.2.aD.aG]):=by
   intro l
   induction l with
   | nil=>exact List.Perm.refl _
   | cons q l ih =>
    simp only [List.flatMap_cons,cU,List.cons_append,List.nil_append];refine List.Perm.cons _ (List.Perm.cons _ (List.Perm.cons _ ?_));refine List.Perm.trans (List.Perm.cons _ (List.Perm.cons _ ih)) ?_;refine List.Perm.trans (List.Perm.swap _ _ _) (List.Perm.cons _ ?_);exact List.perm_middle.symm
  refine (List.Perm.append (dT ht).symm ((e3 _).append_right _)).trans ?_;rw [List.cons_append,List.cons_append,List.append_assoc];refine List.Perm.cons _ ?_;exact List.perm_append_comm_assoc _ _ _
 have h0:=hK _ List.mem_cons_self;refine ⟨.inl ⟨b,rfl,h0.2 b rfl _ h0.1⟩,fun j a q ha hm=>?_⟩;have hz:(a,q)∈az.zip m:=List.mem_of_getElem? (kL ha hm);have hin:∀ z,z∈[bA a.1 98 (MN a q.2),aK.list a.2.1.1 a.2.1.2 9 1 aN q.2.aD.aC,.list a.2.2.1.1 a.2.2.1.2 9 1 aN q.2.aD.aO,.list a.2.2.2.2.1 a.2.2.2.2.2 9 1 aN q.2.aZ]→z.holds w∧∀ c,z.foot=some c→∀ o,w.heap[c]?=some o→K c=some o:=fun z hzz=>hK z (List.mem_cons_of_mem _ (List.mem_flatMap.2 ⟨(a,q),hz,hzz⟩));have h1:=hin _ (by simp:bA a.1 98 (MN a q.2)∈_);have h2:=hin (aK.list a.2.1.1 a.2.1.2 9 1 aN q.2.aD.aC) (by simp);have h3:=hin (aK.list a.2.2.1.1 a.2.2.1.2 9 1 aN q.2.aD.aO) (by simp);have h4:=hin (aK.list a.2.2.2.2.1 a.2.2.2.2.2 9 1 aN q.2.aZ) (by simp);refine ⟨⟨rfl,fun i v hi=>⟨(MN a q.2).toArray,98,(0,0),h1.2 a.1 rfl _ h1.1,by simpa using hi⟩⟩,fB (enc:=aN) (size:=1) (fun _=>rfl) h2.1 (fun c hc o ho=>h2.2 c hc o ho),fB (enc:=aN) (size:=1) (fun _=>rfl) h3.1 (fun c hc o ho=>h3.2 c hc o ho),fB (enc:=aN) (size:=1) (fun _=>rfl) h4.1 (fun c hc o ho=>h4.2 c hc o ho)⟩
end
end T11
set_option maxHeartbeats 4000000
namespace Go.Proofs
open Go Go.Shelf Go.RowKit Pk
set_option maxRecDepth 100000 in
theorem Tryz.grow125:MJ Tryz.prog 125 9 1:=by
 intro w n hn;by_cases h0:n=0
 ·subst h0;refine Calls.mono (R:=fun e w'=>e=.returned (.slice none 0 0)∧w'=w) ?_ fun e w' h=>by
   obtain ⟨rfl,rfl⟩:=h;exact ⟨none,0,rfl,⟨by simp,.inl ⟨rfl,rfl⟩⟩,fun M=>dZ.refl M _,fun b hb=>by cases hb⟩
  go_enter Tryz.func125,Tryz.ntmps125
  go_wp2
  go_ret
  exact ⟨rfl,rfl⟩
 obtain ⟨i,z,hi,hz,hc,hs,hb⟩:=T11.E50.info;have hzs:z.cells.size=1:=by
  have:=congrArg List.length hc;rw [T11.E50.zl] at this;rw [eY];simpa using this
 obtain ⟨Y,hY⟩:∃ Y,Y=Builtin.zeroCells z.cells n++Builtin.zeroCells z.cells (grownCap w n 0 9 - n):=⟨_,rfl⟩;have hrun:∀ ty,(Builtin.append_ #[50,3] ty #[.slice none 0 0,.int .i64 n]).run Tryz.prog w=.ok (.slice (some ⟨w.heap.size,0,none⟩) n (grownCap w n 0 9)) (w.drew.alloc (.cells Y 9)):=fun ty=>by
  rw [hY];exact Lib.run_append_nil_zeros (P:=Tryz.prog) w 50 3 ty 9 i z .i64 .i64 Tryz.underlying50 Tryz.underlying3 hi hz n (by omega) (by omega) (by omega) (by rw [hb];omega)
 obtain ⟨G,hG⟩:∃ G,G=grownCap w n 0 9:=⟨_,rfl⟩;have hgr:=HB (w:=w) (el:=9) hzs hn;rw [← hY] at hgr;rw [← hG] at hrun hgr;obtain ⟨W1,hW1⟩:∃ W1,W1=w.drew.alloc (.cells Y 9):=⟨_,rfl⟩;have hE:∀ M,dZ M w W1:=fun M=>by rw [hW1];exact HD M w _
 rw [← hW1] at hrun hgr;clear hW1 hY hG hzs hb hs hc hz hi;refine Calls.mono (R:=fun e w'=>e=.returned (.slice (some ⟨w.heap.size,0,none⟩) 0 G)∧w'=W1) ?_ fun e w' h=>by
  obtain ⟨rfl,rfl⟩:=h;exact ⟨_,_,rfl,hgr,hE,fun b hb=>by simp at hb;omega⟩
 clear hgr hE;have h1:¬((n:Int) < 0):=by omega
 have h4:(0:Int) < (n:Int):=by omega
 have h3:IntKind.i64.wrap (n:Int)=(n:Int):=by rw [IntKind.wrap_i64];omega
 go_enter Tryz.func125,Tryz.ntmps125
 go_wp2_with (at_builtin;refine Lib.wpList_append_run _ rfl _ _ _ _ rfl _ _ rfl rfl _ _ (hrun _) ?_)
 go_ret
 exact ⟨rfl,rfl⟩
end Go.Proofs
set_option maxHeartbeats 4000000
namespace Go.Proofs
open Go Go.Shelf Go.RowKit Pk Go.Sort
theorem HQ (l:List aA):(Lib.compact l).length≤l.length:=by
 unfold Lib.compact Lib.compactUpTo;rw [List.length_map];exact Nat.le_trans (List.length_filter_le _ _) (by simp)
theorem ZV (l:List aA):l=[]→Lib.compact l=[]:=by rintro rfl;rfl
theorem zJ (w:World):Sort.grow w #[]=w:=by
 show { w with heap:=w.heap ++ #[] }=w;simp
theorem Tryz.cpt92 (l:List aA) (hl:l.length≤9223372036854775807) (w:World) (V:Hp):OJ Tryz.prog 92 [] l (Lib.compact l) w V:=by
 refine ⟨fun h a cap=>?_,fun blk cap _ hH hc=>?_⟩
 ·exact Any.slices_Compact_string_empty Tryz.lays194 a cap w
 refine (Any.slices_Compact_string Tryz.lays194 blk 0 cap l w hH hl hc).mono ?_;rintro e w' ⟨rfl,q,rfl⟩;refine ⟨rfl,q,#[],List.replicate (l.length - (Lib.compact l).length) [],?_,?_⟩
 ·unfold sortWorld;rw [zJ];rfl
 rw [List.length_append,List.length_replicate];have:=HQ l;omega
end Go.Proofs
set_option maxHeartbeats 4000000
namespace Go.Proofs
open Go Go.Shelf Go.RowKit Pk Go.Sort
theorem DB (x but:aA) (q:Addr) (W:World) (hc:W.cell? q=some (.string (bs but))):Calls Tryz.prog 93 (#[oY x] ++ #[.pointer (some q)]) W fun e w'=>e=.returned (.bool (decide (x=but)))∧∃ n,w'=W.drewN n:=by
 show Calls Tryz.prog 93 #[.string (bs x),.pointer (some q)] W _;refine Calls.mono (R:=fun e w'=>e=.returned (.bool (decide (x=but)))∧w'=W) ?_ fun e w' h=>⟨h.1,0,h.2⟩
 go_enter Tryz.func93,Tryz.ntmps93
 go_wp2
 go_ret
 refine ⟨?_,rfl⟩;show Ending.returned (.bool ((bs x).toList==(bs but).toList))=_;rw [iU,iU];by_cases h:x=but <;> simp [h]
theorem BP {w:World} {blk n:Nat} {os:Array Obj} {dk:Array aA} {b:Nat} (hb:b < w.heap.size) (hne:b≠blk):(sortWorld oY w blk 0 n dk os).heap[b]?=w.heap[b]?:=by
 show ((Sort.putRow oY (Sort.ahead w n) blk 0 dk).heap++os)[b]?=_;rw [Array.getElem?_append_left (by simp [Sort.putRow,Sort.mapBlock,Sort.ahead];exact hb)];exact (gX (w:=Sort.ahead w n) hne)
theorem ZW:OneCell oY:=fun _=>rfl
theorem Tryz.del91 (l:List aA) (hl:l.length≤9223372036854775807) (but:aA) (q:Addr) (w:World) (V:Hp) (hV:V.le (hp w)) (hq:bD V q [.string (bs but)]) :
  OJ Tryz.prog 91 [.func (.func 93) #[] #[.pointer (some q)]] l (l.filter fun x=>!decide (x=but)) w V:=by
 obtain ⟨c,t,z,h1,h2⟩:=hq.2 0 _ rfl;have hw:=hV _ _ h1;have hlt:q.block < w.heap.size:=(Array.getElem?_eq_some_iff.1 hw).1;have hcell:∀ W:World,W.heap[q.block]?=w.heap[q.block]?→W.cell? q=some (.string (bs but)):=fun W hW=>by
  obtain ⟨b,o,s⟩:=q;obtain rfl:s=none:=hq.1;unfold World.cell?;simp only [hW];have hw:w.heap[b]?=_:=hw;rw [hw];simpa using h2
 refine ⟨fun h a cap=>?_,fun blk cap hb hH hc=>?_⟩
 ·show Calls Tryz.prog 91 #[.slice a 0 cap,.func (.func 93) #[] #[.pointer (some q)]] w _;have eA1:=Tryz.call127;have hI:∀ fv w,Calls Tryz.prog 127 #[.slice a 0 cap,fv] w fun e w'=>e=.returned (.int .i64 (-1))∧w'=w:=fun fv w=>AnyE.slices_IndexFunc_empty Tryz.laysSlH6_f127 a cap fv w
  go_enter Tryz.func91,Tryz.ntmps91
  go_wp2_with (go_at_fn 127;refine (hI _ _).mono ?_;rintro e w' ⟨rfl,rfl⟩)
  refine (hI _ _).mono ?_;rintro e w' ⟨rfl,rfl⟩
  go_wp2
  go_ret
  exact ⟨rfl,rfl⟩
 have hne:q.block≠blk:=by rintro rfl;rw [hb] at h1;cases h1
 have hcon:=AnyE.slices_DeleteFunc Tryz.laysSlH10_f91 oY ZW (fun x=>decide (x=but)) 93 #[.pointer (some q)] Tryz.call93 [] Tryz.zeroValue9 blk 0 cap l.toArray w
  (fun W x hb=>DB x but q W (hcell W (hb.block _ hlt))) (fun n os dk x _=>DB x but q _ (hcell _ (BP hlt hne))) hH (by simpa using hl) (by simpa using hc)
 have hsz:l.toArray.size=l.length:=by simp
 rw [hsz] at hcon;refine hcon.mono ?_;rintro e w' ⟨rfl,n,rfl⟩;refine ⟨rfl,n,#[],List.replicate (l.length - (l.filter fun x=>!decide (x=but)).length) [],?_,?_⟩
 ·unfold sortWorld;rw [zJ]
 rw [List.length_append,List.length_replicate];have:=List.length_filter_le (fun x=>!decide (x=but)) l;omega
end Go.Proofs
namespace Go.Proofs
open Go.Shelf Go.RowKit
def Tryz.laysSlF6_f90_ren:Go.Shelf.Ren:=⟨fun | 6=>90 | 15=>98 | 14=>126 | 28=>137 | 29=>138 | 20=>158 | 21=>159 | 22=>160 | 23=>161 | 24=>162 | 25=>163 | 26=>164 | 27=>165 | 46=>202 | 47=>175 | 48=>176 | 49=>203 | 50=>204 | 57=>221 | n=>n,fun | 22=>50 | 24=>9 | 25=>100 | 3=>3 | 39=>143 | 0=>0 | 53=>176 | 55=>178 | 4=>4 | 46=>170 | 45=>169 | 50=>123 | 5=>5 | 9=>9 | 66=>197 | 70=>201 | 76=>223 | 77=>224 | n=>n,fun | n=>n⟩
theorem Tryz.laysSlF6_f90:Go.Proofs.SlLaysF.n6 Tryz.prog Tryz.laysSlF6_f90_ren:={
 mixed:=by kernel_rfl
 f6:=⟨Tryz.f90.name,by decide,Tryz.func90.trans (congrArg some (by kernel_rfl))⟩
 f14:=⟨Tryz.f126.name,by decide,Tryz.func126.trans (congrArg some (by kernel_rfl))⟩
 f15:=Tryz.func98.trans (congrArg some (by kernel_rfl))
 f20:=⟨Tryz.f158.name,by decide,Tryz.func158.trans (congrArg some (by kernel_rfl))⟩
 f21:=⟨Tryz.f159.name,by decide,Tryz.func159.trans (congrArg some (by kernel_rfl))⟩
 f22:=⟨Tryz.f160.name,by decide,Tryz.func160.trans (congrArg some (by kernel_rfl))⟩
 f23:=⟨Tryz.f161.name,by decide,Tryz.func161.trans (congrArg some (by kernel_rfl))⟩
 f24:=⟨Tryz.f162.name,by decide,Tryz.func162.trans (congrArg some (by kernel_rfl))⟩
 f25:=⟨Tryz.f163.name,by decide,Tryz.func163.trans (congrArg some (by kernel_rfl))⟩
 f26:=⟨Tryz.f164.name,by decide,Tryz.func164.trans (congrArg some (by kernel_rfl))⟩
 f27:=⟨Tryz.f165.name,by decide,Tryz.func165.trans (congrArg some (by kernel_rfl))⟩
 f28:=Tryz.func137.trans (congrArg some (by kernel_rfl))
 f29:=Tryz.func138.trans (congrArg some (by kernel_rfl))
 f46:=⟨Tryz.f202.name,by decide,Tryz.func202.trans (congrArg some (by kernel_rfl))⟩
 f47:=Tryz.func175.trans (congrArg some (by kernel_rfl))
 f48:=Tryz.func176.trans (congrArg some (by kernel_rfl))
 f49:=⟨Tryz.f203.name,by decide,Tryz.func203.trans (congrArg some (by kernel_rfl))⟩
 f50:=⟨Tryz.f204.name,by decide,Tryz.func204.trans (congrArg some (by kernel_rfl))⟩
 f57:=⟨Tryz.f221.name,by decide,Tryz.func221.trans (congrArg some (by kernel_rfl))⟩
 t0:=Tryz.underlying0
 a0:=Tryz.isAgg0
 z0:=Tryz.sizeOf0
 v0:=Tryz.zeroValue0
 t3:=Tryz.underlying3
 a3:=Tryz.isAgg3
 z3:=Tryz.sizeOf3
 v3:=Tryz.zeroValue3
 t4:=Tryz.underlying4
 a4:=Tryz.isAgg4
 z4:=Tryz.sizeOf4
 v4:=Tryz.zeroValue4
 t5:=Tryz.underlying5
 a5:=Tryz.isAgg5
 z5:=Tryz.sizeOf5
 v5:=Tryz.zeroValue5
 t9:=Tryz.underlying9
 a9:=Tryz.isAgg9
 z9:=Tryz.sizeOf9
 v9:=Tryz.zeroValue9
 t22:=Tryz.underlying50
 a22:=Tryz.isAgg50
 z22:=Tryz.sizeOf50
 v22:=Tryz.zeroValue50
 a24:=Tryz.isAgg9
 z24:=Tryz.sizeOf9
 t25:=Tryz.underlying100
 a25:=Tryz.isAgg100
 z25:=Tryz.sizeOf100
 v25:=Tryz.zeroValue100
 t39:=Tryz.underlying143
 a39:=Tryz.isAgg143
 z39:=Tryz.sizeOf143
 v39:=Tryz.zeroValue143
 t45:=Tryz.underlying169
 a45:=Tryz.isAgg169
 z45:=Tryz.sizeOf169
 v45:=Tryz.zeroValue169
 t46:=Tryz.underlying170
 a46:=Tryz.isAgg170
 z46:=Tryz.sizeOf170
 v46:=Tryz.zeroValue170
 t50:=Tryz.underlying123
 a50:=Tryz.isAgg123
 z50:=Tryz.sizeOf123
 v50:=Tryz.zeroValue123
 t53:=Tryz.underlying176
 a53:=Tryz.isAgg176
 z53:=Tryz.sizeOf176
 v53:=Tryz.zeroValue176
 t55:=Tryz.underlying178
 a55:=Tryz.isAgg178
 z55:=Tryz.sizeOf178
 v55:=Tryz.zeroValue178
 t66:=Tryz.underlying197
 a66:=Tryz.isAgg197
 z66:=Tryz.sizeOf197
 v66:=Tryz.zeroValue197
 t70:=Tryz.underlying201
 a70:=Tryz.isAgg201
 z70:=Tryz.sizeOf201
 v70:=Tryz.zeroValue201
 t76:=Tryz.underlying223
 a76:=Tryz.isAgg223
 z76:=Tryz.sizeOf223
 v76:=Tryz.zeroValue223
 t77:=Tryz.underlying224
 a77:=Tryz.isAgg224
 z77:=Tryz.sizeOf224
 v77:=Tryz.zeroValue224 }
end Go.Proofs
namespace Go.Proofs
open Go Pk
theorem Tryz.srt90:SZ Tryz.prog 90 :=
  ⟨fun p cap fv w=>AnyF.slices_SortFunc_none (P:=Tryz.prog) (ρ:=Tryz.laysSlF6_f90_ren) { Tryz.laysSlF6_f90 with } p cap fv w,
   fun α _ enc h1 cf hO g cb blk off cap d w eg hc hH hb hs hT=>Any.slices_SortFunc_total Tryz.laysSlF6_f90 enc h1 cf hO g cb blk off cap d w eg hc hH hb hs hT⟩
end Go.Proofs
namespace Go.Proofs
open Go.Shelf Go.RowKit
def Tryz.laysF58_ren:Go.Shelf.Ren:=⟨fun | 6=>58 | 15=>98 | 14=>97 | 28=>137 | 29=>138 | 20=>129 | 21=>130 | 22=>131 | 23=>132 | 24=>133 | 25=>134 | 26=>135 | 27=>136 | 46=>174 | 47=>175 | 48=>176 | 49=>177 | 50=>178 | 57=>208 | n=>n,fun | 22=>26 | 24=>64 | 25=>104 | 3=>3 | 39=>143 | 0=>0 | 53=>176 | 55=>178 | 4=>4 | 46=>170 | 45=>169 | 50=>123 | 5=>5 | 9=>9 | 66=>197 | 70=>201 | 76=>223 | 77=>224 | n=>n,fun | n=>n⟩
theorem Tryz.laysF58:Go.Proofs.SlLaysF0.n6 Tryz.prog Tryz.laysF58_ren:={
 mixed:=by kernel_rfl
 f6:=⟨Tryz.f58.name,by decide,Tryz.func58.trans (congrArg some (by kernel_rfl))⟩
 f14:=⟨Tryz.f97.name,by decide,Tryz.func97.trans (congrArg some (by kernel_rfl))⟩
 f15:=Tryz.func98.trans (congrArg some (by kernel_rfl))
 f20:=⟨Tryz.f129.name,by decide,Tryz.func129.trans (congrArg some (by kernel_rfl))⟩
 f21:=⟨Tryz.f130.name,by decide,Tryz.func130.trans (congrArg some (by kernel_rfl))⟩
 f22:=⟨Tryz.f131.name,by decide,Tryz.func131.trans (congrArg some (by kernel_rfl))⟩
 f23:=⟨Tryz.f132.name,by decide,Tryz.func132.trans (congrArg some (by kernel_rfl))⟩
 f24:=⟨Tryz.f133.name,by decide,Tryz.func133.trans (congrArg some (by kernel_rfl))⟩
 f25:=⟨Tryz.f134.name,by decide,Tryz.func134.trans (congrArg some (by kernel_rfl))⟩
 f26:=⟨Tryz.f135.name,by decide,Tryz.func135.trans (congrArg some (by kernel_rfl))⟩
 f27:=⟨Tryz.f136.name,by decide,Tryz.func136.trans (congrArg some (by kernel_rfl))⟩
 f28:=Tryz.func137.trans (congrArg some (by kernel_rfl))
 f29:=Tryz.func138.trans (congrArg some (by kernel_rfl))
 f46:=⟨Tryz.f174.name,by decide,Tryz.func174.trans (congrArg some (by kernel_rfl))⟩
 f47:=Tryz.func175.trans (congrArg some (by kernel_rfl))
 f48:=Tryz.func176.trans (congrArg some (by kernel_rfl))
 f49:=⟨Tryz.f177.name,by decide,Tryz.func177.trans (congrArg some (by kernel_rfl))⟩
 f50:=⟨Tryz.f178.name,by decide,Tryz.func178.trans (congrArg some (by kernel_rfl))⟩
 f57:=⟨Tryz.f208.name,by decide,Tryz.func208.trans (congrArg some (by kernel_rfl))⟩
 t0:=Tryz.underlying0
 a0:=Tryz.isAgg0
 z0:=Tryz.sizeOf0
 v0:=Tryz.zeroValue0
 t3:=Tryz.underlying3
 a3:=Tryz.isAgg3
 z3:=Tryz.sizeOf3
 v3:=Tryz.zeroValue3
 t4:=Tryz.underlying4
 a4:=Tryz.isAgg4
 z4:=Tryz.sizeOf4
 v4:=Tryz.zeroValue4
 t5:=Tryz.underlying5
 a5:=Tryz.isAgg5
 z5:=Tryz.sizeOf5
 v5:=Tryz.zeroValue5
 t9:=Tryz.underlying9
 a9:=Tryz.isAgg9
 z9:=Tryz.sizeOf9
 v9:=Tryz.zeroValue9
 t22:=Tryz.underlying26
 a22:=Tryz.isAgg26
 z22:=Tryz.sizeOf26
 v22:=Tryz.zeroValue26
 t25:=Tryz.underlying104
 a25:=Tryz.isAgg104
 z25:=Tryz.sizeOf104
 v25:=Tryz.zeroValue104
 t39:=Tryz.underlying143
 a39:=Tryz.isAgg143
 z39:=Tryz.sizeOf143
 v39:=Tryz.zeroValue143
 t45:=Tryz.underlying169
 a45:=Tryz.isAgg169
 z45:=Tryz.sizeOf169
 v45:=Tryz.zeroValue169
 t46:=Tryz.underlying170
 a46:=Tryz.isAgg170
 z46:=Tryz.sizeOf170
 v46:=Tryz.zeroValue170
 t50:=Tryz.underlying123
 a50:=Tryz.isAgg123
 z50:=Tryz.sizeOf123
 v50:=Tryz.zeroValue123
 t53:=Tryz.underlying176
 a53:=Tryz.isAgg176
 z53:=Tryz.sizeOf176
 v53:=Tryz.zeroValue176
 t55:=Tryz.underlying178
 a55:=Tryz.isAgg178
 z55:=Tryz.sizeOf178
 v55:=Tryz.zeroValue178
 t66:=Tryz.underlying197
 a66:=Tryz.isAgg197
 z66:=Tryz.sizeOf197
 v66:=Tryz.zeroValue197
 t70:=Tryz.underlying201
 a70:=Tryz.isAgg201
 z70:=Tryz.sizeOf201
 v70:=Tryz.zeroValue201
 t76:=Tryz.underlying223
 a76:=Tryz.isAgg223
 z76:=Tryz.sizeOf223
 v76:=Tryz.zeroValue223
 t77:=Tryz.underlying224
 a77:=Tryz.isAgg224
 z77:=Tryz.sizeOf224
 v77:=Tryz.zeroValue224 }
def Tryz.laysF94_ren:Go.Shelf.Ren:=⟨fun | 6=>94 | 15=>98 | 14=>128 | 28=>137 | 29=>138 | 20=>166 | 21=>167 | 22=>168 | 23=>169 | 24=>170 | 25=>171 | 26=>172 | 27=>173 | 46=>205 | 47=>175 | 48=>176 | 49=>206 | 50=>207 | 57=>222 | n=>n,fun | 22=>62 | 24=>81 | 25=>139 | 3=>3 | 39=>143 | 0=>0 | 53=>176 | 55=>178 | 4=>4 | 46=>170 | 45=>169 | 50=>123 | 5=>5 | 9=>9 | 66=>197 | 70=>201 | 76=>223 | 77=>224 | n=>n,fun | n=>n⟩
theorem Tryz.laysF94:Go.Proofs.SlLaysF0.n6 Tryz.prog Tryz.laysF94_ren:={
 mixed:=by kernel_rfl
 f6:=⟨Tryz.f94.name,by decide,Tryz.func94.trans (congrArg some (by kernel_rfl))⟩
 f14:=⟨Tryz.f128.name,by decide,Tryz.func128.trans (congrArg some (by kernel_rfl))⟩
 f15:=Tryz.func98.trans (congrArg some (by kernel_rfl))
 f20:=⟨Tryz.f166.name,by decide,Tryz.func166.trans (congrArg some (by kernel_rfl))⟩
 f21:=⟨Tryz.f167.name,by decide,Tryz.func167.trans (congrArg some (by kernel_rfl))⟩
 f22:=⟨Tryz.f168.name,by decide,Tryz.func168.trans (congrArg some (by kernel_rfl))⟩
 f23:=⟨Tryz.f169.name,by decide,Tryz.func169.trans (congrArg some (by kernel_rfl))⟩
 f24:=⟨Tryz.f170.name,by decide,Tryz.func170.trans (congrArg some (by kernel_rfl))⟩
 f25:=⟨Tryz.f171.name,by decide,Tryz.func171.trans (congrArg some (by kernel_rfl))⟩
 f26:=⟨Tryz.f172.name,by decide,Tryz.func172.trans (congrArg some (by kernel_rfl))⟩
 f27:=⟨Tryz.f173.name,by decide,Tryz.func173.trans (congrArg some (by kernel_rfl))⟩
 f28:=Tryz.func137.trans (congrArg some (by kernel_rfl))
 f29:=Tryz.func138.trans (congrArg some (by kernel_rfl))
 f46:=⟨Tryz.f205.name,by decide,Tryz.func205.trans (congrArg some (by kernel_rfl))⟩
 f47:=Tryz.func175.trans (congrArg some (by kernel_rfl))
 f48:=Tryz.func176.trans (congrArg some (by kernel_rfl))
 f49:=⟨Tryz.f206.name,by decide,Tryz.func206.trans (congrArg some (by kernel_rfl))⟩
 f50:=⟨Tryz.f207.name,by decide,Tryz.func207.trans (congrArg some (by kernel_rfl))⟩
 f57:=⟨Tryz.f222.name,by decide,Tryz.func222.trans (congrArg some (by kernel_rfl))⟩
 t0:=Tryz.underlying0
 a0:=Tryz.isAgg0
 z0:=Tryz.sizeOf0
 v0:=Tryz.zeroValue0
 t3:=Tryz.underlying3
 a3:=Tryz.isAgg3
 z3:=Tryz.sizeOf3
 v3:=Tryz.zeroValue3
 t4:=Tryz.underlying4
 a4:=Tryz.isAgg4
 z4:=Tryz.sizeOf4
 v4:=Tryz.zeroValue4
 t5:=Tryz.underlying5
 a5:=Tryz.isAgg5
 z5:=Tryz.sizeOf5
 v5:=Tryz.zeroValue5
 t9:=Tryz.underlying9
 a9:=Tryz.isAgg9
 z9:=Tryz.sizeOf9
 v9:=Tryz.zeroValue9
 t22:=Tryz.underlying62
 a22:=Tryz.isAgg62
 z22:=Tryz.sizeOf62
 v22:=Tryz.zeroValue62
 t25:=Tryz.underlying139
 a25:=Tryz.isAgg139
 z25:=Tryz.sizeOf139
 v25:=Tryz.zeroValue139
 t39:=Tryz.underlying143
 a39:=Tryz.isAgg143
 z39:=Tryz.sizeOf143
 v39:=Tryz.zeroValue143
 t45:=Tryz.underlying169
 a45:=Tryz.isAgg169
 z45:=Tryz.sizeOf169
 v45:=Tryz.zeroValue169
 t46:=Tryz.underlying170
 a46:=Tryz.isAgg170
 z46:=Tryz.sizeOf170
 v46:=Tryz.zeroValue170
 t50:=Tryz.underlying123
 a50:=Tryz.isAgg123
 z50:=Tryz.sizeOf123
 v50:=Tryz.zeroValue123
 t53:=Tryz.underlying176
 a53:=Tryz.isAgg176
 z53:=Tryz.sizeOf176
 v53:=Tryz.zeroValue176
 t55:=Tryz.underlying178
 a55:=Tryz.isAgg178
 z55:=Tryz.sizeOf178
 v55:=Tryz.zeroValue178
 t66:=Tryz.underlying197
 a66:=Tryz.isAgg197
 z66:=Tryz.sizeOf197
 v66:=Tryz.zeroValue197
 t70:=Tryz.underlying201
 a70:=Tryz.isAgg201
 z70:=Tryz.sizeOf201
 v70:=Tryz.zeroValue201
 t76:=Tryz.underlying223
 a76:=Tryz.isAgg223
 z76:=Tryz.sizeOf223
 v76:=Tryz.zeroValue223
 t77:=Tryz.underlying224
 a77:=Tryz.isAgg224
 z77:=Tryz.sizeOf224
 v77:=Tryz.zeroValue224 }
end Go.Proofs
namespace Go.Proofs
open Go Pk
theorem Tryz.srt58:OH Tryz.prog 58 4 :=
  ⟨fun p cap fv w=>AnyF.slices_SortFunc_none Tryz.laysF58 p cap fv w,
   fun α _ enc hk h1 cf hO g cb blk off cap d w eg hc hH hb hs hT=>AnyQ.slices_SortFunc_total Tryz.laysF58 4 Tryz.isAgg64 Tryz.sizeOf64 enc hk h1 cf hO g cb blk off cap d w eg hc hH hb hs hT⟩
theorem Tryz.srw94:TH Tryz.prog 94 3 :=
  ⟨fun p cap fv w=>AnyF.slices_SortFunc_none Tryz.laysF94 p cap fv w,
   fun α _ enc hk h1 cf hO g cb blk off cap d w eg hc hH hb hs=>AnyQ.slices_SortFunc Tryz.laysF94 3 Tryz.isAgg81 Tryz.sizeOf81 enc hk h1 cf hO g cb blk off cap d w eg hc hH hb hs⟩
end Go.Proofs
set_option linter.unusedVariables false
namespace Go.Proofs
open Go.Shelf Go.RowKit
def Tryz.lays169_ren:Go.Shelf.Ren:=⟨fun | 169=>102 | n=>n,fun | 70=>145 | 9=>9 | 0=>0 | 72=>147 | 37=>37 | 127=>180 | 3=>3 | 5=>5 | n=>n,fun | n=>n⟩
theorem Tryz.lays169:Go.Proofs.Lays.n169 Tryz.prog Tryz.lays169_ren:={
 mixed:=by kernel_rfl
 f169:=Tryz.func102.trans (congrArg some (by kernel_rfl))
 t0:=Tryz.underlying0
 a0:=Tryz.isAgg0
 z0:=Tryz.sizeOf0
 v0:=Tryz.zeroValue0
 t3:=Tryz.underlying3
 a3:=Tryz.isAgg3
 z3:=Tryz.sizeOf3
 v3:=Tryz.zeroValue3
 t9:=Tryz.underlying9
 a9:=Tryz.isAgg9
 z9:=Tryz.sizeOf9
 v9:=Tryz.zeroValue9
 t37:=Tryz.underlying37
 a37:=Tryz.isAgg37
 z37:=Tryz.sizeOf37
 v37:=Tryz.zeroValue37
 t70:=Tryz.underlying145
 a70:=Tryz.isAgg145
 z70:=Tryz.sizeOf145
 v70:=Tryz.zeroValue145
 t72:=Tryz.underlying147
 a72:=Tryz.isAgg147
 z72:=Tryz.sizeOf147
 v72:=Tryz.zeroValue147
 t127:=Tryz.underlying180
 a127:=Tryz.isAgg180
 z127:=Tryz.sizeOf180
 v127:=Tryz.zeroValue180 }
theorem Tryz.Builder_Extra_169:Builder.Extra Tryz.prog Tryz.lays169_ren:={
 sizeBuilder:=by kernel_rfl
 liesBuilder:=by kernel_rfl
 t5:=Tryz.underlying5
 a5:=Tryz.isAgg5
 z5:=Tryz.sizeOf5
 v5:=Tryz.zeroValue5
 infoByte:=by kernel_rfl
 cellsByte:=by kernel_rfl
 sizeByte:=by kernel_rfl
 neB5:=by decide }
theorem Tryz.szB:(Tryz.prog.info? 147).map (·.size)=some 2:=by kernel_rfl
theorem Tryz.liesB:liesAt Tryz.prog Tryz.prog.depth 147 (2/Tryz.prog.cellsOf 147) 0 147 1=true:=by kernel_rfl
set_option maxHeartbeats 1000000 in
set_option maxRecDepth 100000 in
theorem Tryz.cc_used (b:Nat) (w:World) (h0:w.cell? ⟨b,0,none⟩=some (.pointer (some ⟨b,0,none⟩))):Calls Tryz.prog 141 #[.pointer (some ⟨b,0,none⟩)] w fun e w'=>e=.returned (.tuple #[])∧w'=w:=by
 obtain ⟨j,hj,_⟩:=Option.map_eq_some_iff.1 Tryz.szB
 go_enter Tryz.func141,Tryz.ntmps141
 go_wp2
 rw [Lib.run_neq_ptr_same w _ Tryz.underlying145 hj]
 go_wp2
 go_end0
 exact ⟨rfl,rfl⟩
set_option maxHeartbeats 1000000 in
set_option maxRecDepth 100000 in
theorem Tryz.cc_new (b:Nat) (w:World) (h0:w.cell? ⟨b,0,none⟩=some (.pointer none)) (hs:w.shape? b=some (147,2)) (hz:w.frozen? ⟨b,0,none⟩=false):Calls Tryz.prog 141 #[.pointer (some ⟨b,0,none⟩)] w fun e w'=>e=.returned (.tuple #[])∧w'=w.setCell ⟨b,0,none⟩ (.pointer (some ⟨b,0,none⟩)):=by
 obtain ⟨j,hj,hjs⟩:=Option.map_eq_some_iff.1 Tryz.szB
 go_enter Tryz.func141,Tryz.ntmps141
 go_wp2
 rw [Lib.run_to_unsafe w ⟨b,0,none⟩ Tryz.underlying145 Tryz.underlying204 hj (by rw [hjs];decide) hs (Nat.zero_lt_succ 1)];simp only [Result.andThen];rw [Oper.upon_value]
 go_wp2
 rw [run_callFunc_extern Tryz.func181 (by kernel_rfl) (by kernel_rfl) (by kernel_rfl) (e:=Extern.AbiNoEscape.same) (by kernel_rfl)];rw [Lib.run_noEscape];simp only [Result.andThen];rw [Oper.upon_value]
 go_wp2
 rw [Lib.run_from_unsafe w ⟨b,0,none⟩ Tryz.underlying204 Tryz.underlying145 hj hs Tryz.liesB];simp only [Result.andThen];rw [Oper.upon_value]
 go_wp2
 go_end0
 exact ⟨rfl,rfl⟩
end Go.Proofs
namespace Go.Proofs
open Go Pk
theorem HR {w:World} {b:Nat} {v u z:Value} {t:TypeId} (h:w.heap[b]?=some (.cells #[v,z] t (0,0))):(w.setCell ⟨b,0,none⟩ u).heap[b]?=some (.cells #[u,z] t (0,0)):=by
 unfold World.setCell;simp [Array.getElem?_modify,h]
theorem Tryz.ccS {M:Prop} {w0 w:World} {H0:Hp} {Hs:List Hp} {σ:aP} (hS:St M w0 H0 Hs σ w) {T b:Nat} {k:Bool} {v:Value} (hσ:bJ σ T=some (bA b 147 [jX b k,v])) :
  Calls Tryz.prog 141 [.pointer (some ⟨b,0,none⟩)].toArray w fun e w'=>e=.returned (.tuple #[])∧St M w0 H0 Hs (cE σ T (bA b 147 [jX b true,v])) w':=by
 have hb:w.heap[b]?=some (.cells #[jX b k,v] 147 (0,0)):=hS.get hσ;have hc:w.cell? ⟨b,0,none⟩=some (jX b k):=by unfold World.cell?;simp [hb]
 cases k with
 | true =>
  refine (Tryz.cc_used b w hc).mono ?_;rintro e w' ⟨rfl,rfl⟩;exact ⟨rfl,hS.as T hσ rfl⟩
 | false =>
  refine (Tryz.cc_new b w hc (by unfold World.shape?;simp [hb]) (by unfold World.frozen?;simp [hb])).mono ?_;rintro e w' ⟨rfl,rfl⟩
  refine ⟨rfl,hS.step hσ ⟨⟨rfl,rfl,rfl,by simp [World.setCell],fun k _ hk=>by
   have e:k≠b:=fun e=>hk (by rw [e];rfl);unfold World.setCell
   simp [Array.getElem?_modify,Ne.symm e]⟩,Nat.le_refl _⟩ (HR hb) fun b' h=>.inl h⟩
section
variable {P:Program} {ρ:Go.Shelf.Ren}
open Go.Shelf Go.RowKit
set_option maxHeartbeats 2000000 in
set_option maxRecDepth 100000 in
theorem ZX (L:Lays.n169 P ρ) (X:Builder.Extra P ρ) {b g cap:Nat} {cur:Array Value} {p:Value} {l:List UInt8} {w:World} (h0:l≠[]) (hbk:w.heap[b]?=some (.cells #[p,.slice (some ⟨g,0,none⟩) l.length cap] (ρ.t 72) (0,0))) (hg:w.heap[g]?=some (.cells cur (ρ.t 5) (0,0)))
  (hnc:l.length≤cap) (hcm:cap≤maxLen) (hcs:cur.size=cap*1) (ht:cur.toList.take (l.length*1)=Lib.byteCells l) :
  Calls P (ρ.f 169) #[.pointer (some ⟨b,0,none⟩)] w fun e w'=>e=.returned (.string ⟨l.toArray⟩)∧w'=w.drew.freeze ⟨g,0,none⟩ l.length:=by
 have hl0:l.length≠0:=by simpa using h0
 have c1:w.drew.cell? ⟨b,1,none⟩=some (.slice (some ⟨g,0,none⟩) l.length cap):=by
  have:w.drew.heap[b]?=some (.cells #[p,.slice (some ⟨g,0,none⟩) l.length cap] (ρ.t 72) (0,0)):=hbk;rw [Lib.cell_of_heap this];rfl
 have hSD:(Builtin.unsafeSliceData_ #[(ρ.t 37)] (ρ.t 127) #[.slice (some ⟨g,0,none⟩) l.length cap]).run P w.drew=.ok (.pointer (some ⟨g,0,none⟩)) w.drew :=
  Lib.run_unsafeSliceData_row _ _ _ _ _ _ (by omega)
 have hg':w.drew.heap[g]?=some (.cells cur (ρ.t 5) (0,0)):=hg;have hUS:(Builtin.unsafeString_ #[(ρ.t 127),(ρ.t 3)] (ρ.t 9) #[.pointer (some ⟨g,0,none⟩),.int .i64 l.length]).run P w.drew=.ok (.string ⟨l.toArray⟩) (w.drew.freeze ⟨g,0,none⟩ l.length):=by
  refine Lib.run_unsafeString_row w.drew (ρ.t 127) (ρ.t 3) (ρ.t 9) (ρ.t 5) L.t127 X.cellsByte g cur.size (by simp [World.shape?,hg']) l h0 (by omega) (by unfold maxLen at hcm;omega) ?_;intro j x hx;have h2:cur[j]?=some (.int .u8 x.toNat):=by
   have h3:(cur.toList.take (l.length*1))[j]?=some (.int .u8 x.toNat):=by rw [ht];simp [Lib.byteCells,hx]
   rw [List.getElem?_take] at h3
   split at h3
   ·rw [Array.getElem?_toList] at h3;exact h3
   cases h3
  have e:(⟨g,0,none⟩:Addr).add j=⟨g,j,none⟩:=by rw [cP rfl];simp
  rw [e,Lib.cell_of_heap hg'];exact h2
 have mixed:=L.mixed;have t72:=L.t72;have a72:=L.a72;have z72:=L.z72;have v72:=L.v72;have u0:=run_underlying L.t72;have t70:=L.t70;have a70:=L.a70;have z70:=L.z70;have v70:=L.v70;have u1:=run_underlying L.t70;have t37:=L.t37;have a37:=L.a37;have z37:=L.z37;have v37:=L.v37;have u2:=run_underlying L.t37;have t127:=L.t127;have a127:=L.a127;have z127:=L.z127;have v127:=L.v127;have u4:=run_underlying L.t127;have t3:=L.t3;have a3:=L.a3;have z3:=L.z3;have v3:=L.v3;have u3:=run_underlying L.t3;have t9:=L.t9;have a9:=L.a9;have z9:=L.z9;have v9:=L.v9;have u9:=run_underlying L.t9;have t5:=X.t5;have a5:=X.a5;have z5:=X.z5;have v5:=X.v5;have u5:=run_underlying X.t5
 go_enter L.f169,Body.n169_ntmps ρ
 go_wp2
 go_region_o
 all_goals (go_wp2;go_ret;exact ⟨rfl,rfl⟩)
end
theorem Tryz.strS {M:Prop} (hM:¬M) {w0 w:World} {H0:Hp} {Hs:List Hp} {σ:aP} (hS:St M w0 H0 Hs σ w) {T T2 b:Nat} {k:Bool} {ad:Option Addr} {cap:Nat} {l:aA} (hσ:bJ σ T=some (bA b 147 [jX b k,.slice ad l.length cap])) (h2:bJ σ T2=some (.list ad cap 5 1 cN l)) :
  Calls Tryz.prog 102 [.pointer (some ⟨b,0,none⟩)].toArray w fun e w'=>e=.returned (.string (bs l))∧St M w0 H0 Hs (cD (cD σ T2) T) w':=by
 have hb:w.heap[b]?=some (.cells #[jX b k,.slice ad l.length cap] 147 (0,0)):=hS.get hσ;have hrow:w.ownsRow 0 5 1 (.slice ad l.length cap) l.length (l.flatMap cN):=hS.get h2;have hcells:Lib.byteCells l=l.flatMap cN:=by rw [lT];rfl
 have fin:∀ {w'},Go.RowKit.Below w.heap.size w w'→St M w0 H0 Hs (cD (cD σ T2) T) w':=fun hw=>((hS.ext' (dZ.of_below hM hw)).del T2).del T;by_cases hl:l=[]
 ·subst hl;rcases hrow.2 with ⟨hv,_⟩ | ⟨g,cap',cur,hv,_,hg0,_⟩
  ·simp only [Value.slice.injEq] at hv;obtain ⟨rfl,_,rfl⟩:=hv;refine (Any.Builder_String_nil Tryz.lays169 Tryz.Builder_Extra_169 w.heap.size b (jX b k) w hb).mono ?_;rintro e w' ⟨rfl,hw⟩;exact ⟨rfl,fin hw⟩
  simp only [Value.slice.injEq] at hv;obtain ⟨rfl,_,rfl⟩:=hv;by_cases hc0:cap=0
  ·subst hc0;refine (Any.Builder_String_noroom Tryz.lays169 Tryz.Builder_Extra_169 w.heap.size b g (jX b k) cur w (Nat.le_refl _) hb hg0).mono ?_;rintro e w' ⟨rfl,hw⟩;exact ⟨rfl,fin hw⟩
  refine (Any.Builder_String_room Tryz.lays169 Tryz.Builder_Extra_169 w.heap.size b g cap (jX b k) w hc0 hb).mono ?_;rintro e w' ⟨rfl,hw⟩;exact ⟨rfl,fin hw⟩
 rcases hrow.2 with ⟨_,hn⟩ | ⟨g,cap',cur,hv,_,hg0,hnc,hcm,hcs,ht⟩
 ·exact absurd (List.eq_nil_of_length_eq_zero hn) hl
 simp only [Value.slice.injEq] at hv;obtain ⟨rfl,_,rfl⟩:=hv;refine (ZX Tryz.lays169 Tryz.Builder_Extra_169 hl hb hg0 hnc hcm hcs (by rw [ht,hcells])).mono ?_;rintro e w' ⟨rfl,rfl⟩;have hz:l.length≠0:=by simpa using hl
 have hoth:∀ c,c≠g→(w.drew.freeze ⟨g,0,none⟩ l.length).heap[c]?=w.heap[c]?:=fun c hc=>by
  unfold World.freeze;rw [if_neg hz];simp only [Array.getElem?_modify];rw [if_neg (Ne.symm hc)];rfl
 obtain ⟨o,ho⟩:∃ o,(w.drew.freeze ⟨g,0,none⟩ l.length).heap[g]?=some o:=by
  unfold World.freeze;rw [if_neg hz];simp only [Array.getElem?_modify,if_true];have:w.drew.heap[g]?=some (.cells cur 5 (0,0)):=hg0;rw [this];exact ⟨_,rfl⟩
 have hsz:w.heap.size≤(w.drew.freeze ⟨g,0,none⟩ l.length).heap.size:=by
  unfold World.freeze;rw [if_neg hz];simp
 have hS2:=hS.stepB hM h2 (y:=.blk g o) (w':=w.drew.freeze ⟨g,0,none⟩ l.length) ⟨by unfold World.freeze;rw [if_neg hz];rfl,by unfold World.freeze;rw [if_neg hz];rfl,by unfold World.freeze;rw [if_neg hz];rfl,hsz,fun c _ hc=>hoth c (fun e=>hc (by rw [e];rfl))⟩ ho (fun c hc=>.inl hc);have hd:∀ {σ:Pk.aP} {t:Nat} {y:Pk.aK},cD (cE σ t y) t=cD σ t:=by
  intro σ t y
  induction σ with
  | nil=>rfl
  | cons z σ ih =>
   obtain ⟨i,u⟩:=z;by_cases e:i=t
   ·subst e;simp [cE,cD,dN]
   simp only [cE,cD,cV e,cond_false,ih]
 have hS3:=(hS2.del T2).del T;rw [hd] at hS3;exact ⟨rfl,hS3⟩
end Go.Proofs
set_option maxHeartbeats 4000000
namespace T11
open Go Go.Proofs Pk Go.RowKit
theorem OS (p q:Addr) (w:World):CallsD Tryz.prog 66 #[.pointer (some p),.pointer (some q)] .returning w fun e u' w'=>e=.returned (.tuple #[])∧u'=.returning∧w'=w:=by
 refine callsD_of_wpS Tryz.func66 rfl fun c₀ cs hu=>?_;apply wpS_seq;apply wpS_region;simp [wpOpsS,go_sem,recoverD,hu,Tryz.ntmps66,Exit.thenS];apply wpS_seq;apply wpS_seq;apply wpS_region;simp [wpOpsS,go_sem,Exit.thenS];refine wpS_cond (t:=true) (by simp [Act.eval,Array.replicate]) ?_;simp only [if_true];refine wpS_of_wp (wp_ret ?_);cases c₀
 simp_all [Exit.thenS,bodyPostS,results,Tryz.results66]
section
variable {P:Program} {r:Option Nat} {n:aU} {p:List PanicEntry→aU} {a:Act} {w:World} {D:List Deferred} {k:Nat} {L:bM} {ops:Array Oper} {rest:List Oper} {d:Nat} {ty:TypeId} {pos:String} {af:Array Edge}
theorem TT {y:Operand} {t u te:TypeId} {pe:Value} {ms:_} (hA:aX D k a L) (hu':P.underlying t=some (.interface ms)) (hd:Nat.blt d k=true) (hy:ev L y=some (.iface te pe)) (h:∀ a,aX D k a ((d,.bool false)::L)→O P r ops n p rest a w):O P r ops n p (⟨some d,.binOp .eql t y (.const .nilIface) u,ty,pos,af,none⟩::rest) a w:=by
 have hu:P.underlying t=some (.interface (P.methodsAt t)):=by rw [hu'];simp [Program.methodsAt,hu']
 refine cB rfl (fun _ h=>by cases h) (w':=w) (v:=.bool false) ?_ (h _ (hA.put hd _));simp [execOp,hA.eval hy,show a.eval (.const .nilIface)=.nilIface from rfl,eqGuard,run_eql_held_nil w t _ _ hu,Result.andThen]
theorem TU {y:Operand} {xT t:TypeId} {v:Value} {ds:TypeDesc} (hA:aX D k a L) (hd:Nat.blt d k=true) (hu:P.underlying t=some ds) (hds:(match ds with | .interface _=>false | _=>true)=true) (hy:ev L y=some (.iface t v))
  (h:∀ a,aX D k a ((d,.tuple #[v,.bool true])::L)→O P r ops n p rest a w):O P r ops n p (⟨some d,.typeAssert y xT t true,ty,pos,af,none⟩::rest) a w :=
 cB rfl (fun _ h=>by cases h) (w':=w) (v:=.tuple #[v,.bool true]) (by
  simp only [execOp,Instr.typeAssert,hA.eval hy]
  cases ds <;> simp at hds <;> simp [run_underlying hu,Result.andThen]) (h _ (hA.put hd _))
end
theorem OT {M:Prop} {W w:World} {H:Hp} {Hs:List Hp} {b b2 tA tB:Nat} {v0 z0:Value} {s:aA} (hS:St M W H Hs [(tB,bA b2 27 [z0]),(tA,bA b 26 [v0])] w) (hT:Nat.beq tB tA=false) (hTB:Nat.beq 999999 tB=false) (hTA:Nat.beq 999999 tA=false) :
  CallsD Tryz.prog 66 #[.pointer (some ⟨b,0,none⟩),.pointer (some ⟨b2,0,none⟩)] (.panicking (FX (.iface 111 (.agg [.string (bs s)].toArray)))) w fun e u' w'=>(∃ v,e=.returned v)∧settle u'=.returning ∧
   ∃ b3 cs3,St M W H Hs [(999999,bA b3 111 cs3),(tB,bA b2 27 [.int .i64 4]),(tA,bA b 26 [.slice none 0 0])] w':=by
 refine callsD_of_wpS Tryz.func66 rfl fun c₀ cs hu=>?_;apply wpS_seq;apply wpS_region;obtain ⟨v,hv⟩:∃ v:Value,v=.agg [.string (bs s)].toArray:=⟨_,rfl⟩;rw [← hv] at hu;simp [wpOpsS,go_sem,recoverD,hu,Tryz.ntmps66,Exit.thenS,FX];refine wpS_of_wp ?_;refine (wpIn_wide (n:=0)).1 (wpIn_mono (show Pk.W Tryz.prog none _ (fun a w=>a.defers=[]∧∃ b3 cs3,St M W H Hs [(999999,bA b3 111 cs3),(tB,bA b2 27 [.int .i64 4]),(tA,bA b 26 [.slice none 0 0])] w) (fun _ _=>False) [] (fun _ _ _=>False) _ w from ?_) ?_)
 ·have hA:aX [] 16 { tmps:=#[.pointer (some ⟨b,0,none⟩),.pointer (some ⟨b2,0,none⟩)]++((Array.replicate 14 undef).setIfInBounds 3 (.iface 111 v)).setIfInBounds 0 (.iface 111 v),defers:=[] } [(0,.pointer (some ⟨b,0,none⟩)),(1,.pointer (some ⟨b2,0,none⟩)),(2,.iface 111 v)]:=by
   refine ⟨rfl,by simp,fun i u h=>?_⟩;rcases i with _ | _ | _ | i
   ·exact h
   ·exact h
   ·exact h
   cases (show (none:Option Value)=some u from h)
  revert hA;generalize ({ tmps:=_,defers:=[] }:Act)=a;intro hA;subst hv;refine uQ (uQ (kF ?_));refine rX hA rfl rfl fun a hA=>?_;refine TT hA Tryz.underlying20 rfl rfl fun a hA=>CJ (oO hA rfl (fun h=>by cases h) (fun _=>AX ?_));refine uQ (uQ (kF (rX hA rfl rfl fun a hA=>TU hA rfl Tryz.underlying111 rfl rfl fun a hA=>rX hA rfl rfl fun a hA=>GJ (vs:=[.agg [.string (bs s)].toArray,.bool true]) hA rfl rfl rfl fun a hA=>GJ (vs:=[.agg [.string (bs s)].toArray,.bool true]) hA rfl rfl rfl fun a hA=>wB 999999 hA rfl hS Tryz.zeroValue111 rfl fun b3 w hS hb a hA=>?_)));refine nN 999999 (cs:=[.string (bs s)]) hA hS rfl rfl Tryz.sizeOf111 rfl rfl rfl rfl rfl fun w hS a hA=>yC hA rfl rfl fun a hA=>CJ ?_;refine uQ (kF (rX hA rfl rfl fun a hA=>ME hA rfl rfl fun a hA=>CJ (oO hA rfl (fun h=>by cases h) (fun _=>AX ?_))));refine kF ?_;refine nN tA (t0:=26) (l:=[v0]) (cs:=[.slice none 0 0]) hA hS rfl rfl Tryz.sizeOf26 (by simp [bJ,cE,hT,hTA]) rfl rfl rfl rfl fun w hS a hA=>?_;refine nN tB (t0:=27) (l:=[z0]) (cs:=[.int .i64 4]) hA hS rfl rfl Tryz.sizeOf27 (by simp [bJ,cE,hT,hTB,hTA]) rfl rfl rfl rfl fun w hS a hA=>CJ ?_;refine ⟨hA.defers,b3,[.string (bs s)],?_⟩;simpa [cE,hT,hTB,hTA,mA,bF] using hS
 intro z a w' hz
 cases z with
 | normal =>
  obtain ⟨hd,h⟩:=hz;subst hv;exact ⟨hd,.panicking [{ v:=.iface 111 (.agg [.string (bs s)].toArray),recovered:=true }],rfl,.tuple #[],by simp [results,Tryz.results66],⟨_,rfl⟩,rfl,h⟩
 | ret=>exact hz.elim
 | panic ch=>exact hz.elim
 | exit id=>obtain ⟨K,hK,_⟩:=hz;simp [AQ] at hK
 | goto l=>exact hz
 | outgrown=>exact hz.elim
variable {R:Ending→World→Prop} {M:Prop} {W:World} {H:Hp} {Hs:List Hp} {σ:aP} {L:bM} {b b2:Nat}
theorem ZY (h:TG ⟨[],88,M,W,H⟩ Hs σ L (Rt Tryz.prog Tryz.f28 R)):TG ⟨[FZ 66 [.pointer (some ⟨b,0,none⟩),.pointer (some ⟨b2,0,none⟩)]],88,M,W,H⟩ Hs σ L (OL Tryz.prog Tryz.f28 R) :=
 rtF Tryz.call66 (fun w hS=>(OS ⟨b,0,none⟩ ⟨b2,0,none⟩ w).mono (by rintro e u w' ⟨rfl,rfl,rfl⟩;exact ⟨⟨_,rfl⟩,rfl,hS⟩)) h
theorem TV {tA tB:Nat} {v0 z0:Value} {s:aA} (hT:Nat.beq tB tA=false) (hTB:Nat.beq 999999 tB=false) (hTA:Nat.beq 999999 tA=false)
  (h:∀ b3 cs3,TG ⟨[],88,M,W,H⟩ Hs [(999999,bA b3 111 cs3),(tB,bA b2 27 [.int .i64 4]),(tA,bA b 26 [.slice none 0 0])] L (Rt Tryz.prog Tryz.f28 R)) :
  TG ⟨[FZ 66 [.pointer (some ⟨b,0,none⟩),.pointer (some ⟨b2,0,none⟩)]],88,M,W,H⟩ Hs [(tB,bA b2 27 [z0]),(tA,bA b 26 [v0])] L (TF Tryz.prog Tryz.f28 R (FX (.iface 111 (.agg [.string (bs s)].toArray)))) :=
 pnF (σ':=fun b3 cs3=>[(999999,bA b3 111 cs3),(tB,bA b2 27 [.int .i64 4]),(tA,bA b 26 [.slice none 0 0])]) Tryz.call66 (fun w hS=>OT hS hT hTB hTA) h
end T11
namespace T11
open Go Go.Proofs Pk
def fF:Hp→List Value→aB→Prop:=fun H cs x=>∃ (ad1:Option Addr) (cap1:Nat) (rB:Option Addr) (cap2:Nat),cs=[.string (bs x.name),.slice none 0 0,.slice ad1 x.aO.length cap1,.slice rB x.aG.length cap2]∧x.aC=[]∧Sl (aS aN) 1 H ad1 cap1 x.aO∧Sl (aS aJ) 3 H rB cap2 x.aG
theorem fF.one:EN fF:=fun _ _ _ ⟨_,_,_,_,h,_⟩=>by subst h;rfl
theorem fF.mono:oP fF:=fun _ _ _ _ hk ⟨a1,c1,a2,c2,h,e,f1,f2⟩=>⟨a1,c1,a2,c2,h,e,f1.mono (aS.mono _) hk,f2.mono (aS.mono _) hk⟩
def OU:Hp→List Value→kD×aB→Prop:=fun H cs q=>∃ (ad1:Option Addr) (cap1:Nat) (rB:Option Addr) (cap2:Nat),cs=[.string (bs q.2.name),.slice q.1.1 q.2.aC.length q.1.2,.slice ad1 q.2.aO.length cap1,.slice rB q.2.aG.length cap2]∧Sl (aS aN) 1 H ad1 cap1 q.2.aO∧Sl (aS aJ) 3 H rB cap2 q.2.aG
theorem OU.mono:oP OU:=fun _ _ _ _ hk ⟨a1,c1,a2,c2,h,f1,f2⟩=>⟨a1,c1,a2,c2,h,f1.mono (aS.mono _) hk,f2.mono (aS.mono _) hk⟩
structure xB (K:Hp) (css:List (List Value)) (az:List kD) (l:List aB):Prop where
 len:az.length=l.length
 rows:Rows OU 4 K css (az.zip l)
section
variable {K K':Hp} {css:List (List Value)} {az:List kD} {l:List aB} {x:Fr} {Hs:List Hp} {σ:aP} {L:bM} {N:aU} {ad:Option Addr} {cap:Nat} {el:TypeId}
theorem xB.zlen (h:xB K css az l):(az.zip l).length=l.length:=by rw [List.length_zip,h.len,Nat.min_self]
theorem xB.mono (h:xB K css az l) (hk:K.le K'):xB K' css az l:=⟨h.len,h.rows.mono OU.mono hk⟩
theorem xB.at (h:xB K css az l) {j:Nat} {y:aB} (hy:l[j]?=some y):∃ (a:Option Addr) (c:Nat) (ad1:Option Addr) (cap1:Nat) (rB:Option Addr) (cap2:Nat),az[j]?=some (a,c)∧(l.map (·.aC))[j]?=some y.aC∧css[j]?=some [.string (bs y.name),.slice a y.aC.length c,.slice ad1 y.aO.length cap1,.slice rB y.aG.length cap2]∧Sl (aS aN) 1 K ad1 cap1 y.aO∧Sl (aS aJ) 3 K rB cap2 y.aG ∧
  ∀ {x:Fr} {Hs:List Hp} {σ:aP} {t:Nat} {p:Addr} {cap:Nat} {el:TypeId},bJ σ t=some (.rows (some p) cap el 4 css l)→Sr x Hs σ (p.add (j*4)) [.string (bs y.name),.slice a y.aC.length c,.slice ad1 y.aO.length cap1,.slice rB y.aG.length cap2]:=by
 have hj:j < az.length:=by rw [h.len];exact aW hy
 have ha:az[j]?=some az[j]:=List.getElem?_eq_getElem hj;obtain ⟨cs,hr,hl,hcs,hsr⟩:=YO h.rows (kL ha hy);obtain ⟨a1,c1,a2,c2,rfl,f1,f2⟩:=hr;refine ⟨az[j].1,az[j].2,a1,c1,a2,c2,ha,by rw [List.getElem?_map,hy];rfl,hcs,f1,f2,fun {x Hs σ t p cap el} ht=>hsr (t:=t) (cap:=cap) (el:=el) ?_⟩;rw [ht];unfold aK.rows;rw [h.zlen]
theorem xB.set (h:xB K css az l) {j:Nat} {y:aB} (hy:l[j]?=some y) {cs:List Value} (hcs:css[j]?=some cs) (a:Option Addr) (c:Nat) (v:List aA) {ad1:Option Addr} {cap1:Nat} {rB:Option Addr} {cap2:Nat} (f1:Sl (aS aN) 1 K ad1 cap1 y.aO) (f2:Sl (aS aJ) 3 K rB cap2 y.aG) :
  xB K (css.set j [.string (bs y.name),.slice a v.length c,.slice ad1 y.aO.length cap1,.slice rB y.aG.length cap2]) (az.set j (a,c)) (l.set j ⟨y.name,v,y.aO,y.aG⟩):=by
 refine ⟨by simp [h.len],?_⟩;rw [wQ];exact Rows.set (R:=OU) (y:=((a,c),⟨y.name,v,y.aO,y.aG⟩)) rfl rfl ⟨ad1,cap1,rB,cap2,rfl,f1,f2⟩ j h.rows
theorem rvN:∀ {css:List (List Value)} {l:List aB},Rows fF 4 K css l→Rows OU 4 K css ((List.replicate l.length ((none,0):kD)).zip l)∧l.map (·.aC)=List.replicate l.length []
 | [],[],_=>⟨trivial,rfl⟩
 | cs::css,y::l,h=>by
  obtain ⟨h1,h2⟩:=rvN (css:=css) (l:=l) h.2;obtain ⟨hl,ho,a1,c1,a2,c2,e,ev,f1,f2⟩:=h.1;refine ⟨⟨⟨hl,ho,a1,c1,a2,c2,by rw [e];simp only [ev];rfl,f1,f2⟩,h1⟩,?_⟩;simp only [List.map_cons,List.length_cons,List.replicate_succ,ev,h2]
 | [],_::_,h=>h.elim
 | _::_,[],h=>h.elim
theorem TG.rvOpen (b:Nat) (hR:Rows fF 4 K css l) (h:xB K css (List.replicate l.length (none,0)) l→TG x Hs (σ++dS 9 1 aN b (List.replicate l.length (none,0)) (l.map (·.aC))) L N):TG x Hs σ L N:=by
 obtain ⟨h1,h2⟩:=rvN hR;refine TG.gopen (α:=aA) 9 1 aN b l.length ?_;have:=h ⟨by simp,h1⟩;rw [h2] at this;exact this
theorem TG.rvStill (A:aP) {B:aP} (t:Nat) {b:Nat} (i:Nat) (hK:Hs[i]?=some K) (hF:xB K css az l) (ht:bJ A t=some (.rows ad cap el 4 css l)) (hB:cD A t=B) (h:∀ K,Sl aI 4 K ad cap l→TG x (K::Hs) B L N):TG x Hs (A++dS 9 1 aN b az (l.map (·.aC))) L N:=by
 subst hB;refine TG.lie2 (F:=aK.rows ad cap el 4 css l::(dS 9 1 aN b az (l.map (·.aC))).map Prod.snd) (Φ:=fun K=>Sl aI 4 K ad cap l) ?_ (fun K1 w hle hK1=>?_) h
 ·rw [List.map_append];refine ((sP ht).append_right _).trans ?_;rw [List.cons_append,List.cons_append];exact List.perm_append_comm.cons _
 have h0:=hK1 _ List.mem_cons_self;have hR:Rows aI 4 K1 css l:=by
  have hk:=hle i K hK;have key:∀ {css:List (List Value)} {az:List kD} {l:List aB} {b:Nat},az.length=l.length→Rows OU 4 K css (az.zip l)→(∀ z∈(dS 9 1 aN b az (l.map (·.aC))).map Prod.snd,z.holds w∧∀ c,z.foot=some c→∀ o,w.heap[c]?=some o→K1 c=some o)→Rows aI 4 K1 css l:=by
   intro css az
   induction az generalizing css with
   | nil =>
    intro l b hl hr _
    cases l with
    | nil=>cases css with
     | nil=>trivial
     | cons _ _=>exact hr.elim
    | cons _ _=>simp at hl
   | cons a az ih =>
    intro l b hl hr hz
    cases l with
    | nil=>simp at hl
    | cons y l=>cases css with
     | nil=>exact hr.elim
     | cons cs css =>
      obtain ⟨⟨h1,h2,a1,c1,a2,c2,e,f1,f2⟩,h3⟩:=hr;have hv:=hz (.list a.1 a.2 9 1 aN y.aC) (by simp [dS]);refine ⟨⟨h1,h2,a.1,a.2,a1,c1,a2,c2,e,(fB (enc:=aN) (size:=1) (fun _=>rfl) hv.1 (fun c hc o ho=>hv.2 c hc o ho)),f1.mono (aS.mono _) hk,f2.mono (aS.mono _) hk⟩,ih (b:=b+1) (by simpa using hl) h3 fun z hz'=>hz z (by simp only [List.map_cons,dS];exact List.mem_cons_of_mem _ hz')⟩
  exact key hF.len hF.rows fun z hz=>hK1 z (List.mem_cons_of_mem _ hz)
 exact wI h0.1 hR fun c hc o ho=>h0.2 c hc o ho
end
section
variable {P:Program} {r:Option Nat} {n:aU} {p:List PanicEntry→aU} {ops:Array Oper} {rest:List Oper} {d:Nat} {ty:TypeId} {pos:String} {af:Array Edge} {x:Fr} {Hs:List Hp} {σ:aP} {L:bM}
theorem stV (tg:Nat) {K:Hp} (y:aB) (cs1:List Value) {l:List aB} {az:List kD} {css:List (List Value)} {c0:List Value} {t t0:TypeId} {u z:Operand} {v:Value} {cs:List Value} {q:Addr} {cap j off s:Nat} (hs:∀ w,(Go.sizeOf t).run P w=.ok s w) (hu:ev L u=some (.pointer (some (q.add (j*4+off))))) (hz:ev L z=some v) (hσ:bJ σ tg=some (.rows (some q) cap t0 4 css l)) (hF:xB K css az l) (hj:css[j]?=some c0) (hv:bF v=cs) (hcl:cs.length=s) (h1:cs.all (·.oneCell')=true) (hfit:Nat.ble (off+s) 4=true) (hsp:mA c0 off cs=cs1) (hc1:cs1.length=4)
  (h:OG P r ops n p x Hs (cE σ tg (.rows (some q) cap t0 4 (css.set j cs1) (l.set j y))) L rest):OG P r ops n p x Hs σ L (⟨none,.store t u z,ty,pos,af,none⟩::rest):=by
 have e:∀ css:List (List Value),aK.rows (some q) cap t0 4 css l=aK.rows (some q) cap t0 4 css (az.zip l):=fun css=>by unfold aK.rows;rw [hF.zlen]
 refine stR tg ((none,0),y) cs1 hs hu hz (hσ.trans (congrArg some (e css))) hF.rows hj hv hcl h1 hfit hsp hc1 ?_;have e2:aK.rows (some q) cap t0 4 (css.set j cs1) ((az.zip l).set j ((none,0),y))=aK.rows (some q) cap t0 4 (css.set j cs1) (l.set j y):=by unfold aK.rows;rw [List.length_set,hF.zlen,List.length_set]
 rw [e2];exact h
end
end T11
set_option maxHeartbeats 4000000
namespace T11
open Go Go.Proofs Pk
noncomputable def JC  : Option (List (List aB)) :=
 some ([([(⟨[67,111,114,110,32,76,97,119,115],([]:List aA),([[84,114,97,100,101]]:List aA),([(⟨3,12,14⟩:aH),(⟨4,1,1⟩:aH)]:List aH)⟩:aB),(⟨[76,101,101,32,65,110,110],([[65,32,76,101,101]]:List aA),([]:List aA),([(⟨3,7,7⟩:aH)]:List aH)⟩:aB),(⟨[84,114,97,100,101],([]:List aA),([]:List aA),([(⟨3,13,13⟩:aH)]:List aH)⟩:aB)]:List aB),([(⟨[65,32,76,101,101],([[76,97,100,121,32,76,101,101]]:List aA),([]:List aA),([(⟨9,1,2⟩:aH)]:List aH)⟩:aB),(⟨[67,111,114,110,32,108,97,119,115],([[67,111,114,110,32,76,97,119,115]]:List aA),([]:List aA),([(⟨4,2,2⟩:aH)]:List aH)⟩:aB)]:List aB)]:List (List aB))
noncomputable def sY (x_0:aB) (f0_:aB→Option Bool):Option (Bool) :=
 (f0_ x_0).bind fun r0 =>
 some (!r0)
noncomputable def kN (s_0:List aB) (f_1:aB→Option Bool) (s0:Nat):Option ((Nat)⊕((Unit)⊕Int)) :=
 if (s0:Int) < (s_0.length:Int) then (
  (s_0[s0]?).bind fun x0 =>
  (f_1 x0).bind fun r0 =>
  if r0 then (
   some (.inr (.inr (s0:Int))))
  else
  some (.inl (s0+1)))
 else
 some (.inr (.inl ()))
noncomputable def xC (s_0:List aB) (f_1:aB→Option Bool):Option (Int) :=
 (aY (kN s_0 f_1) 0).bind fun e29=>match e29 with
 | .inr z=>some z
 | .inl t0 =>
 some (-1)
noncomputable def xD (s_0:List aB) (f_1:aB→Option Bool):Option (Bool) :=
 (xC s_0 f_1).bind fun r1 =>
 some (decide (0≤r1))
noncomputable def BQ (l_0:List aB) (right:aB→Option Bool):Option (Bool) :=
 (xD l_0 (fun x0_=>sY x0_ right)).bind fun r5 =>
 some (!r5)
noncomputable def sZ (x_0:aA) (f0_:aA→Option Bool):Option (Bool) :=
 (f0_ x_0).bind fun r1 =>
 some (!r1)
noncomputable def kO (s_0:List aA) (f_1:aA→Option Bool) (s0:Nat):Option ((Nat)⊕((Unit)⊕Int)) :=
 if (s0:Int) < (s_0.length:Int) then (
  (s_0[s0]?).bind fun x0 =>
  (f_1 x0).bind fun r0 =>
  if r0 then (
   some (.inr (.inr (s0:Int))))
  else
  some (.inl (s0+1)))
 else
 some (.inr (.inl ()))
noncomputable def xE (s_0:List aA) (f_1:aA→Option Bool):Option (Int) :=
 (aY (kO s_0 f_1) 0).bind fun yB=>match yB with
 | .inr z=>some z
 | .inl t0 =>
 some (-1)
noncomputable def xF (s_0:List aA) (f_1:aA→Option Bool):Option (Bool) :=
 (xE s_0 f_1).bind fun r1 =>
 some (decide (0≤r1))
noncomputable def DD (l_0:List aA) (right:aA→Option Bool):Option (Bool) :=
 (xF l_0 (fun x0_=>sZ x0_ right)).bind fun r5 =>
 some (!r5)
noncomputable def mE (b_0:Int):Option (Bool) :=
 ((
  if (32:Int)≤b_0 then (
   if b_0≤126 then (
    (zH [44,58,59,61] b_0).bind fun r0 =>
    some (!r0))
   else
   some false)
  else
  some false
 ):Option (Bool)).bind fun t0 =>
 some t0
noncomputable def uH (n_0:Int) (low:Int) (high:Int):Option (Bool) :=
 ((
  if low≤n_0 then (
   some (decide (n_0≤high)))
  else
  some false
 ):Option (Bool)).bind fun t4 =>
 some t4
noncomputable def tC (x_0:Int) (f0_:Int→Option Bool):Option (Bool) :=
 (f0_ x_0).bind fun r1 =>
 some (!r1)
noncomputable def kP (s_0:List UInt8) (f_1:Int→Option Bool) (s0:Nat):Option ((Nat)⊕((Unit)⊕Int)) :=
 if (s0:Int) < (s_0.length:Int) then (
  (s_0[s0]?).bind fun x0 =>
  (f_1 (x0.toNat:Int)).bind fun r0 =>
  if r0 then (
   some (.inr (.inr (s0:Int))))
  else
  some (.inl (s0+1)))
 else
 some (.inr (.inl ()))
noncomputable def xG (s_0:List UInt8) (f_1:Int→Option Bool):Option (Int) :=
 (aY (kP s_0 f_1) 0).bind fun yB=>match yB with
 | .inr z=>some z
 | .inl t0 =>
 some (-1)
noncomputable def xH (s_0:List UInt8) (f_1:Int→Option Bool):Option (Bool) :=
 (xG s_0 f_1).bind fun r1 =>
 some (decide (0≤r1))
noncomputable def tE (l_0:List UInt8) (right:Int→Option Bool):Option (Bool) :=
 (xH l_0 (fun x0_=>tC x0_ right)).bind fun r5 =>
 some (!r5)
noncomputable def kE (s_0:aA):Option (Bool) :=
 ((
  (uH (s_0.length:Int) 1 40).bind fun r0 =>
  if r0 then (
   chk (s_0.length≤1073741824) <|
   (tE s_0 (mE)).bind fun r1 =>
   if r1 then (
    (uN s_0 [32]).bind fun r2 =>
    if r2=s_0 then (
     (zF s_0 [32,32]).bind fun r3 =>
     some (!r3))
    else
    some false)
   else
   some false)
  else
  some false
 ):Option (Bool)).bind fun PT =>
 some PT
noncomputable def kQ (l_0:List aA) (before:aA→aA→Option Bool) (s0:Nat):Option ((Nat)⊕((Unit)⊕Bool)) :=
 if (s0:Int) < (l_0.length:Int) then (
  ((
   if 0 < (s0:Int) then (
    (l_0[((s0:Int) - 1).toNat]?).bind fun x0 =>
    (l_0[s0]?).bind fun x1 =>
    (before x0 x1).bind fun r0 =>
    some (!r0))
   else
   some false
  ):Option (Bool)).bind fun t0 =>
  if t0 then (
   some (.inr (.inr false)))
  else
  some (.inl (s0+1)))
 else
 some (.inr (.inl ()))
noncomputable def tF (l_0:List aA) (before:aA→aA→Option Bool):Option (Bool) :=
 (aY (kQ l_0 before) 0).bind fun tP=>match tP with
 | .inr z=>some z
 | .inl t0 =>
 some true
noncomputable def kR (s_0:aA) (s0:Nat×List UInt8):Option ((Nat×List UInt8)⊕(List UInt8)) :=
 if (s0.1:Int) < (s_0.length:Int) then (
  (s_0[s0.1]?).bind fun x0 =>
  ((
   if (65:Int)≤(x0.toNat:Int) then (
    some (decide ((x0.toNat:Int)≤90)))
   else
   some false
  ):Option (Bool)).bind fun t0 =>
  ((
   if t0 then (
    chk (0≤((x0.toNat:Int) - 65)∧((x0.toNat:Int) - 65)≤255) <|
    chk (0≤(((x0.toNat:Int) - 65)+97)∧(((x0.toNat:Int) - 65)+97)≤255) <|
    chk (s0.2.length+1≤1073741824) <|
    some (s0.2++[(UInt8.ofNat (((x0.toNat:Int) - 65)+97).toNat)]))
   else
   ((
    if (97:Int)≤(x0.toNat:Int) then (
     if (x0.toNat:Int)≤122 then (
      some true)
     else
     if (48:Int)≤(x0.toNat:Int) then (
      some (decide ((x0.toNat:Int)≤57)))
     else
     some false)
    else
    if (48:Int)≤(x0.toNat:Int) then (
     some (decide ((x0.toNat:Int)≤57)))
    else
    some false
   ):Option (Bool)).bind fun t1 =>
   ((
    if t1 then (
     chk (s0.2.length+1≤1073741824) <|
     some (s0.2++[x0]))
    else
    some s0.2
   ):Option (List UInt8)).bind fun t2 =>
   some t2
  ):Option (List UInt8)).bind fun t3 =>
  some (.inl ((s0.1+1),t3)))
 else
 some (.inr s0.2)
noncomputable def FF (s_0:aA):Option (aA) :=
 chk (s_0.length≤1073741824) <|
 (aY (kR s_0) (0,([]:List UInt8))).bind fun eA1 =>
 some eA1
noncomputable def kS (vals:List Int) (s0:Nat):Option ((Nat)⊕((Unit)⊕Int)) :=
 if (s0:Int) < (vals.length:Int) then (
  (vals[s0]?).bind fun x0 =>
  if x0≠0 then (
   some (.inr (.inr x0)))
  else
  some (.inl (s0+1)))
 else
 some (.inr (.inl ()))
noncomputable def FG (vals:List Int):Option (Int) :=
 (aY (kS vals) 0).bind fun e16=>match e16 with
 | .inr z=>some z
 | .inl t0 =>
 some 0
noncomputable def pJ (a_0:aA) (b_1:aA):Option (Int) :=
 (FF a_0).bind fun r1 =>
 (FF b_1).bind fun r4 =>
 (KP r1 r4).bind fun r7 =>
 (KP a_0 b_1).bind fun r0 =>
 (FG ([r7,r0]:List Int)).bind fun r2 =>
 some r2
noncomputable def uO (a_0:aA) (b_1:aA):Option (Bool) :=
 (pJ a_0 b_1).bind fun r1 =>
 some (decide (r1 < 0))
noncomputable def pK (l_0:List aA):Option (Bool) :=
 ((
  if (l_0.length:Int)≤8 then (
   (DD l_0 (kE)).bind fun r0 =>
   if r0 then (
    (tF l_0 (uO)).bind fun r1 =>
    some r1)
   else
   some false)
  else
  some false
 ):Option (Bool)).bind fun t0 =>
 some t0
noncomputable def tG (x_0:aH) (f0_:aH→Option Bool):Option (Bool) :=
 (f0_ x_0).bind fun r4 =>
 some (!r4)
noncomputable def kT (s_0:List aH) (f_1:aH→Option Bool) (s0:Nat):Option ((Nat)⊕((Unit)⊕Int)) :=
 if (s0:Int) < (s_0.length:Int) then (
  (s_0[s0]?).bind fun x0 =>
  (f_1 x0).bind fun r0 =>
  if r0 then (
   some (.inr (.inr (s0:Int))))
  else
  some (.inl (s0+1)))
 else
 some (.inr (.inl ()))
noncomputable def xI (s_0:List aH) (f_1:aH→Option Bool):Option (Int) :=
 (aY (kT s_0 f_1) 0).bind fun yB=>match yB with
 | .inr z=>some z
 | .inl t0 =>
 some (-1)
noncomputable def xJ (s_0:List aH) (f_1:aH→Option Bool):Option (Bool) :=
 (xI s_0 f_1).bind fun r1 =>
 some (decide (0≤r1))
noncomputable def tH (l_0:List aH) (right:aH→Option Bool):Option (Bool) :=
 (xJ l_0 (fun x0_=>tG x0_ right)).bind fun r5 =>
 some (!r5)
noncomputable def mF (p_0:aH):Option (Bool) :=
 ((
  (uH p_0.aM 1 999).bind fun r0 =>
  if r0 then (
   (uH p_0.aV 1 p_0.cM).bind fun r1 =>
   if r1 then (
    some (decide (p_0.cM≤9999)))
   else
   some false)
  else
  some false
 ):Option (Bool)).bind fun t0 =>
 some t0
noncomputable def kU (l_0:List aH) (before:aH→aH→Option Bool) (s0:Nat):Option ((Nat)⊕((Unit)⊕Bool)) :=
 if (s0:Int) < (l_0.length:Int) then (
  ((
   if 0 < (s0:Int) then (
    (l_0[((s0:Int) - 1).toNat]?).bind fun x0 =>
    (l_0[s0]?).bind fun x1 =>
    (before x0 x1).bind fun r0 =>
    some (!r0))
   else
   some false
  ):Option (Bool)).bind fun t0 =>
  if t0 then (
   some (.inr (.inr false)))
  else
  some (.inl (s0+1)))
 else
 some (.inr (.inl ()))
noncomputable def tI (l_0:List aH) (before:aH→aH→Option Bool):Option (Bool) :=
 (aY (kU l_0 before) 0).bind fun tP=>match tP with
 | .inr z=>some z
 | .inl t0 =>
 some true
noncomputable def xY (p_0:aH) (o_1:aH):Option (Bool) :=
 ((
  if p_0.aM < o_1.aM then (
   some true)
  else
  if p_0.aM=o_1.aM then (
   chk (-9223372036854775808≤(p_0.cM+1)∧(p_0.cM+1)≤9223372036854775807) <|
   some (decide ((p_0.cM+1) < o_1.aV)))
  else
  some false
 ):Option (Bool)).bind fun t0 =>
 some t0
noncomputable def AT (h_0:aB):Option (Bool) :=
 ((
  (kE h_0.name).bind fun r0 =>
  if r0 then (
   (pK h_0.aC).bind fun r1 =>
   if r1 then (
    (pK h_0.aO).bind fun r2 =>
    if r2 then (
     if (h_0.aG.length:Int)≤30 then (
      (tH h_0.aG (mF)).bind fun r3 =>
      if r3 then (
       (tI h_0.aG (xY)).bind fun r4 =>
       some r4)
      else
      some false)
     else
     some false)
    else
    some false)
   else
   some false)
  else
  some false
 ):Option (Bool)).bind fun t0 =>
 some t0
noncomputable def MQ (f0_:aB) (yield:aA→Option Bool) (s0:Nat):Option ((Nat)⊕((Unit)⊕Unit)) :=
 if (s0:Int) < (f0_.aC.length:Int) then (
  (f0_.aC[s0]?).bind fun x0 =>
  (yield x0).bind fun r0 =>
  if r0 then (
   some (.inl (s0+1)))
  else
  some (.inr (.inr ())))
 else
 some (.inr (.inl ()))
noncomputable def m84 (yield:aA→Option Bool) (f0_:aB):Option (Unit) :=
 (yield f0_.name).bind fun r0 =>
 if r0 then (
  (aY (MQ f0_ yield) 0).bind fun PL=>match PL with
  | .inr z=>some z
  | .inl t0 =>
  some ())
 else
 some ()
noncomputable def DE (s_0:aA) (f0_:List (aA×Int)) (f1_:List aB) (f2_:aB):Option (Bool) :=
 ((
  if (lkp f0_ s_0).isSome then (
   chk (0≤((lkp f0_ s_0).getD (0:Int))) <|
   (f1_[((lkp f0_ s_0).getD (0:Int)).toNat]?).bind fun x0 =>
   if x0.name=s_0 then (
    some (decide (s_0≠f2_.name)))
   else
   some false)
  else
  some false
 ):Option (Bool)).bind fun t0 =>
 some t0
noncomputable def AU (h_0:aB) (f0_:List (aA×Int)) (f1_:List aB):Option (Bool) :=
 (DD h_0.aO (fun x0_=>DE x0_ f0_ f1_ h_0)).bind fun r0 =>
 some r0
noncomputable def qB (l_0:List aB) (before:aB→aB→Option Bool) (s0:Nat):Option ((Nat)⊕((Unit)⊕Bool)) :=
 if (s0:Int) < (l_0.length:Int) then (
  ((
   if 0 < (s0:Int) then (
    (l_0[((s0:Int) - 1).toNat]?).bind fun x0 =>
    (l_0[s0]?).bind fun x1 =>
    (before x0 x1).bind fun r0 =>
    some (!r0))
   else
   some false
  ):Option (Bool)).bind fun t0 =>
  if t0 then (
   some (.inr (.inr false)))
  else
  some (.inl (s0+1)))
 else
 some (.inr (.inl ()))
noncomputable def HT (l_0:List aB) (before:aB→aB→Option Bool):Option (Bool) :=
 (aY (qB l_0 before) 0).bind fun e52=>match e52 with
 | .inr z=>some z
 | .inl t0 =>
 some true
noncomputable def BS (a_0:aB) (b_1:aB):Option (Bool) :=
 (uO a_0.name b_1.name).bind fun r0 =>
 some r0
noncomputable def kV (x0:aB) (s1:Nat×(List (aA×Int))) (s0:Nat×(List (aA×Int))):Option ((Nat×(List (aA×Int)))⊕(((List (aA×Int)))⊕((Nat×(List (aA×Int)))⊕((List (aA×Int)))))) :=
 if (s0.1:Int) < (x0.aC.length:Int) then (
  (x0.aC[s0.1]?).bind fun x1 =>
  ((
   if (lkp s0.2 x1).isSome then (
    some (.inl 6))
   else
   some (.inr (put s0.2 x1 (s1.1:Int)))
  ):Option ((Nat)⊕((List (aA×Int))))).bind fun t0=>match t0 with
  | .inl t1=>(
   some (.inr (.inr (.inl (t1,s0.2)))))
  | .inr t2=>(
   some (.inl ((s0.1+1),t2))))
 else
 some (.inr (.inl s0.2))
noncomputable def jA (l_0:List aB) (s0:Nat×(List (aA×Int))):Option ((Nat×(List (aA×Int)))⊕(((List (aA×Int)))⊕((List (aA×Int))×Int))) :=
 if (s0.1:Int) < (l_0.length:Int) then (
  (l_0[s0.1]?).bind fun x0 =>
  ((
   ((
    if (lkp s0.2 x0.name).isSome then (
     some (.inl 6))
    else
    some (.inr (put s0.2 x0.name (s0.1:Int)))
   ):Option ((Nat)⊕((List (aA×Int))))).bind fun t0=>match t0 with
   | .inl t1=>(
    some (.inl (t1,s0.2)))
   | .inr t2=>(
    (aY (kV x0 s0) (0,t2)).bind fun eA1=>match eA1 with
    | .inr z=>some z
    | .inl t3 =>
    some (.inr t3))
  ):Option ((Nat×(List (aA×Int)))⊕((List (aA×Int))))).bind fun t4=>match t4 with
  | .inl t5=>(
   some (.inr (.inr ([],(t5.1:Int)))))
  | .inr t6=>(
   some (.inl ((s0.1+1),t6))))
 else
 some (.inr (.inl s0.2))
noncomputable def qC (l_0:List aB):Option ((List (aA×Int))×Int) :=
 if 60 < (l_0.length:Int) then (
  some ([],3))
 else
 (BQ l_0 (AT)).bind fun r0 =>
 if r0 then (
  (aY (jA l_0) (0,([]:List (aA×Int)))).bind fun eA1=>match eA1 with
  | .inr z=>some z
  | .inl t0 =>
  ((
   (BQ l_0 (fun x0_=>AU x0_ t0 l_0)).bind fun r1 =>
   if r1 then (
    (HT l_0 (BS)).bind fun r2 =>
    some (!r2))
   else
   some true
  ):Option (Bool)).bind fun t1 =>
  if t1 then (
   some ([],1))
  else
  some (t0,0))
 else
 some ([],1)
noncomputable def jB:Nat→aA→(List (aA×aA))→Option (aA)
 | 0,_,_=>none
 | n_+1,s_0,f0_ =>
 ((
  if (lkp f0_ s_0).isSome then (
   some (decide (((lkp f0_ s_0).getD ([]:aA))≠s_0)))
  else
  some false
 ):Option (Bool)).bind fun t4 =>
 if t4 then (
  (jB n_ ((lkp f0_ s_0).getD ([]:aA)) f0_).bind fun r0 =>
  some r0)
 else
 some s_0
noncomputable def OV (s_0:aA) (f0_:List (aA×aA)):Option (aA):=recO (fun n_=>jB n_ s_0 f0_)
noncomputable def uP (l_0:List (aA×aA)) (s_1:aA):Option (aA) :=
 (OV s_1 l_0).bind fun r6 =>
 some r6
noncomputable def jY (x_0:List aA) (cmp:aA→aA→Option Int) (s0:Nat×aA):Option ((Nat×aA)⊕(aA)) :=
 if (s0.1:Int) < (x_0.length:Int) then (
  (x_0[s0.1]?).bind fun x0 =>
  (cmp x0 s0.2).bind fun r0 =>
  ((
   if r0 < 0 then (
    some x0)
   else
   some s0.2
  ):Option (aA)).bind fun t0 =>
  some (.inl ((s0.1+1),t0)))
 else
 some (.inr s0.2)
noncomputable def HU (x_0:List aA) (cmp:aA→aA→Option Int):Option (aA) :=
 if (x_0.length:Int) < 1 then (
  none)
 else
 (x_0[0]?).bind fun x7 =>
 (aY (jY x_0 cmp) (1,x7)).bind fun RX =>
 some RX
noncomputable def MR (slices:List (List aA)) (s0:Nat×Nat):Option ((Nat×Nat)⊕(Nat)) :=
 if (s0.2:Int) < (slices.length:Int) then (
  (slices[s0.2]?).bind fun x0 =>
  chk (-9223372036854775808≤((s0.1:Int)+(x0.length:Int))∧((s0.1:Int)+(x0.length:Int))≤9223372036854775807) <|
  if ((s0.1:Int)+(x0.length:Int)) < 0 then (
   none)
  else
  some (.inl ((s0.1+x0.length),(s0.2+1))))
 else
 some (.inr s0.1)
noncomputable def MS (slices:List (List aA)) (s0:Nat×List aA):Option ((Nat×List aA)⊕(List aA)) :=
 if (s0.1:Int) < (slices.length:Int) then (
  (slices[s0.1]?).bind fun x0 =>
  chk (s0.2.length+x0.length≤1073741824) <|
  some (.inl ((s0.1+1),(s0.2++x0))))
 else
 some (.inr s0.2)
noncomputable def m89 (slices:List (List aA)):Option (List aA) :=
 (aY (MR slices) (0,0)).bind fun e22 =>
 chk (e22≤1073741824) <|
 (aY (MS slices) (0,([]:List aA))).bind fun eA1 =>
 some eA1
noncomputable def m93 (s_0:aA) (f0_:aA):Option (Bool) :=
 some (decide (s_0=f0_))
noncomputable def kW (lists:List (List aA)) (s0:Nat×Nat):Option ((Nat×Nat)⊕(Nat)) :=
 if (s0.2:Int) < (lists.length:Int) then (
  (lists[s0.2]?).bind fun x0 =>
  chk (-9223372036854775808≤((s0.1:Int)+(x0.length:Int))∧((s0.1:Int)+(x0.length:Int))≤9223372036854775807) <|
  if ((s0.1:Int)+(x0.length:Int)) < 0 then (
   none)
  else
  some (.inl ((s0.1+x0.length),(s0.2+1))))
 else
 some (.inr s0.1)
noncomputable def kX (lists:List (List aA)) (s0:Nat×List aA):Option ((Nat×List aA)⊕(List aA)) :=
 if (s0.1:Int) < (lists.length:Int) then (
  (lists[s0.1]?).bind fun x0 =>
  chk (s0.2.length+x0.length≤1073741824) <|
  some (.inl ((s0.1+1),(s0.2++x0))))
 else
 some (.inr s0.2)
noncomputable def BT (but:aA) (lists:List (List aA)):Option (List aA) :=
 ((
  (aY (kW lists) (0,0)).bind fun eA1 =>
  chk (eA1≤1073741824) <|
  (aY (kX lists) (0,([]:List aA))).bind fun eB1 =>
  some eB1
 ):Option (List aA)).bind fun t0 =>
 (fU (pJ) t0).bind fun l0 =>
 some ((Lib.compact l0).filter fun x=>!decide (x=but))
noncomputable def DG (a_0:aH) (b_1:aH):Option (Int) :=
 chk (-9223372036854775808≤(a_0.aM - b_1.aM)∧(a_0.aM - b_1.aM)≤9223372036854775807) <|
 chk (-9223372036854775808≤(a_0.aV - b_1.aV)∧(a_0.aV - b_1.aV)≤9223372036854775807) <|
 (FG ([(a_0.aM - b_1.aM),(a_0.aV - b_1.aV)]:List Int)).bind fun r0 =>
 some r0
noncomputable def gG (l_0:List aH) (l1:List aH) (s0:Nat×Int×Int×Int×List aH):Option ((Nat×Int×Int×Int×List aH)⊕(Int×Int×Int×List aH)) :=
 if (s0.1:Int) < (l_0.length:Int) then (
  (l1[s0.1]?).bind fun x0 =>
  ((
   if (⟨s0.2.1,s0.2.2.1,s0.2.2.2.1⟩:aH)=(⟨0,0,0⟩:aH) then (
    some false)
   else
   (xY (⟨s0.2.1,s0.2.2.1,s0.2.2.2.1⟩:aH) x0).bind fun r0 =>
   some (!r0)
  ):Option (Bool)).bind fun t1 =>
  ((
   if t1 then (
    chk (0≤((s0.2.2.2.2.length:Int) - 1)) <|
    (s0.2.2.2.2[((s0.2.2.2.2.length:Int) - 1).toNat]?).bind fun x2 =>
    some (s0.2.2.2.2.set (((s0.2.2.2.2.length:Int) - 1).toNat) (⟨x2.aM,x2.aV,(max s0.2.2.2.1 x0.cM)⟩:aH)))
   else
   chk (s0.2.2.2.2.length+1≤1073741824) <|
   some (s0.2.2.2.2++[x0])
  ):Option (List aH)).bind fun t0 =>
  chk (0≤((t0.length:Int) - 1)) <|
  (t0[((t0.length:Int) - 1).toNat]?).bind fun x1 =>
  some (.inl ((s0.1+1),x1.aM,x1.aV,x1.cM,t0)))
 else
 some (.inr (s0.2.1,s0.2.2.1,s0.2.2.2.1,s0.2.2.2.2))
noncomputable def AV (l_0:List aH):Option (List aH) :=
 mK (DG) l_0 fun l1 =>
 (aY (gG l_0 l1) (0,0,0,0,([]:List aH))).bind fun eA1 =>
 some eA1.2.2.2
noncomputable def KQ (a_0:aB) (b_1:aB):Option (Int) :=
 (pJ a_0.name b_1.name).bind fun r0 =>
 some r0
noncomputable def qD (x0:aB) (s0:Nat×(List (aA×aA))):Option ((Nat×(List (aA×aA)))⊕((List (aA×aA)))) :=
 if (s0.1:Int) < (x0.aC.length:Int) then (
  (x0.aC[s0.1]?).bind fun x1 =>
  ((
   ((
    (uP s0.2 x1).bind fun r0 =>
    (uP s0.2 x0.name).bind fun r1 =>
    some (put s0.2 r0 r1)
   ):Option ((List (aA×aA)))).bind fun t0 =>
   some t0
  ):Option ((List (aA×aA)))).bind fun t1 =>
  some (.inl ((s0.1+1),t1)))
 else
 some (.inr s0.2)
noncomputable def qE (x0:List aB) (s0:Nat×(List (aA×aA))):Option ((Nat×(List (aA×aA)))⊕((List (aA×aA)))) :=
 if (s0.1:Int) < (x0.length:Int) then (
  (x0[s0.1]?).bind fun x1 =>
  ((
   ((
    ((
     (uP s0.2 x1.name).bind fun r0 =>
     some (put s0.2 r0 r0)
    ):Option ((List (aA×aA)))).bind fun t0 =>
    some t0
   ):Option ((List (aA×aA)))).bind fun t1 =>
   (aY (qD x1) (0,t1)).bind fun eA1 =>
   some eA1
  ):Option ((List (aA×aA)))).bind fun t2 =>
  some (.inl ((s0.1+1),t2)))
 else
 some (.inr s0.2)
noncomputable def qF (indices:List (List aB)) (s0:Nat×List aB×(List (aA×aA))):Option ((Nat×List aB×(List (aA×aA)))⊕((List aB×(List (aA×aA)))⊕(List aB×Int))) :=
 if (s0.1:Int) < (indices.length:Int) then (
  (indices[s0.1]?).bind fun x0 =>
  (qC x0).bind fun r0 =>
  if r0.2≠0 then (
   some (.inr (.inr (([]:List aB),r0.2))))
  else
  (aY (qE x0) (0,s0.2.2)).bind fun eA1 =>
  chk (s0.2.1.length+x0.length≤1073741824) <|
  some (.inl ((s0.1+1),(s0.2.1++x0),eA1)))
 else
 some (.inr (.inl (s0.2.1,s0.2.2)))
noncomputable def qG (t0:List aB×(List (aA×aA))) (s0:Nat×(List (aA×bQ))):Option ((Nat×(List (aA×bQ)))⊕((List (aA×bQ)))) :=
 if (s0.1:Int) < (t0.1.length:Int) then (
  (t0.1[s0.1]?).bind fun x0 =>
  (uP t0.2 x0.name).bind fun r0 =>
  ((
   if (lkp s0.2 r0).isSome then (
    some s0.2)
   else
   some (put s0.2 r0 sX)
  ):Option ((List (aA×bQ)))).bind fun t1 =>
  (lkp t1 r0).bind fun y0 =>
  chk (y0.aZ.length+([x0.name]:List aA).length≤1073741824) <|
  chk (y0.aD.aC.length+x0.aC.length≤1073741824) <|
  chk (y0.aD.aO.length+x0.aO.length≤1073741824) <|
  chk (y0.aD.aG.length+x0.aG.length≤1073741824) <|
  some (.inl ((s0.1+1),(put t1 r0 (⟨⟨y0.aD.name,(y0.aD.aC++x0.aC),(y0.aD.aO++x0.aO),(y0.aD.aG++x0.aG)⟩,(y0.aZ++([x0.name]:List aA))⟩:bQ)))))
 else
 some (.inr s0.2)
noncomputable def kY (q0:aA×bQ) (t0:List aB×(List (aA×aA))) (s1:(List (aA×bQ))) (s0:Nat×List aA):Option ((Nat×List aA)⊕(List aA)) :=
 if (s0.1:Int) < (q0.2.aD.aO.length:Int) then (
  (q0.2.aD.aO[s0.1]?).bind fun x0 =>
  (uP t0.2 x0).bind fun r0 =>
  (lkp s1 r0).bind fun y0 =>
  chk (s0.2.length+1≤1073741824) <|
  some (.inl ((s0.1+1),(s0.2++[y0.aD.name]))))
 else
 some (.inr s0.2)
noncomputable def qH  (s0:List aB):Option (List aB×Int) :=
 if 60 < (s0.length:Int) then (
  some (([]:List aB),3))
 else
 chk (s0.Nodup) <|
 (fU (KQ) s0).bind fun l0 =>
 some (l0,0)
noncomputable def mL (s0:(List (aA×bQ))) (t0:List aB×(List (aA×aA))) (s1:List aB) (i0:Nat):Option ((List aB)⊕(List aB×Int)) :=
 (s0[i0]?).bind fun q0 =>
 (BT q0.2.aD.name ([q0.2.aD.aC,q0.2.aZ]:List (List aA))).bind fun r0 =>
 (AV q0.2.aD.aG).bind fun r1 =>
 (aY (kY q0 t0 s0) (0,([]:List aA))).bind fun eA1 =>
 (BT q0.2.aD.name ([eA1]:List (List aA))).bind fun r2 =>
 ((
  if 8 < (r0.length:Int) then (
   some true)
  else
  if 8 < (r2.length:Int) then (
   some true)
  else
  some (decide (30 < (r1.length:Int)))
 ):Option (Bool)).bind fun t1 =>
 if t1 then (
  some (.inr (([]:List aB),3)))
 else
 chk (s1.length+1≤1073741824) <|
 some (.inl (s1++[(⟨q0.2.aD.name,r0,r2,r1⟩:aB)]))
noncomputable def qI (t0:List aB×(List (aA×aA))) (s0:(List (aA×bQ))):Option (List aB×Int) :=
 wS s0.length (mL s0 t0) qH ([]:List aB)
noncomputable def qJ  (s0:(List (aA×bQ))) (i0:Nat):Option (((List (aA×bQ)))⊕(List aB×Int)) :=
 (s0[i0]?).bind fun q0 =>
 (HU q0.2.aZ (pJ)).bind fun r0 =>
 some (.inl (s0.set i0 (q0.1,(⟨⟨r0,q0.2.aD.aC,q0.2.aD.aO,q0.2.aD.aG⟩,q0.2.aZ⟩:bQ))))
noncomputable def m18 (indices:List (List aB)):Option (List aB×Int) :=
 if 12 < (indices.length:Int) then (
  some (([]:List aB),3))
 else
 (aY (qF indices) (0,([]:List aB),([]:List (aA×aA)))).bind fun eB1=>match eB1 with
 | .inr z=>some z
 | .inl t0 =>
 (aY (qG t0) (0,([]:List (aA×bQ)))).bind fun eA1 =>
 wS eA1.length qJ (qI t0) eA1
noncomputable def tJ (p_0:aH):Option (aA) :=
 (pG p_0.aM).bind fun r4 =>
 chk (r4.length+[47].length≤1073741824) <|
 (pG p_0.aV).bind fun r9 =>
 chk ((r4++[47]).length+r9.length≤1073741824) <|
 ((
  if p_0.aV < p_0.cM then (
   (pG p_0.cM).bind fun r0 =>
   chk ([45].length+r0.length≤1073741824) <|
   chk (((r4++[47])++r9).length+([45]++r0).length≤1073741824) <|
   some (((r4++[47])++r9)++([45]++r0)))
  else
  some ((r4++[47])++r9)
 ):Option (aA)).bind fun t0 =>
 some t0
noncomputable def gZ (h_0:aB) (s0:Nat×List aA):Option ((Nat×List aA)⊕(List aA)) :=
 if (s0.1:Int) < (h_0.aG.length:Int) then (
  (h_0.aG[s0.1]?).bind fun x0 =>
  (tJ x0).bind fun r0 =>
  chk ([32].length+r0.length≤1073741824) <|
  chk (s0.2.length+1≤1073741824) <|
  some (.inl ((s0.1+1),(s0.2++[([32]++r0)]))))
 else
 some (.inr s0.2)
noncomputable def tK (h_0:aB):Option (aA) :=
 (aY (gZ h_0) (0,([]:List aA))).bind fun e94 =>
 chk (h_0.name.length+[58].length≤1073741824) <|
 (pH e94 [44]).bind fun r0 =>
 chk ((h_0.name++[58]).length+r0.length≤1073741824) <|
 ((
  if 0 < (h_0.aO.length:Int) then (
   (pH h_0.aO [44,32]).bind fun r1 =>
   chk ([59,32].length+r1.length≤1073741824) <|
   chk (((h_0.name++[58])++r0).length+([59,32]++r1).length≤1073741824) <|
   some (((h_0.name++[58])++r0)++([59,32]++r1)))
  else
  some ((h_0.name++[58])++r0)
 ):Option (aA)).bind fun t0 =>
 some t0
noncomputable def kZ (x1:aB) (s0:Nat×List aA×(List (aA×aA))):Option ((Nat×List aA×(List (aA×aA)))⊕(List aA×(List (aA×aA)))) :=
 if (s0.1:Int) < (x1.aC.length:Int) then (
  (x1.aC[s0.1]?).bind fun x0 =>
  ((
   chk (s0.2.1.length+1≤1073741824) <|
   chk (x0.length+[32,61,32].length≤1073741824) <|
   chk ((x0++[32,61,32]).length+x1.name.length≤1073741824) <|
   some ((s0.2.1++[x0]),(put s0.2.2 x0 ((x0++[32,61,32])++x1.name)))
  ):Option (List aA×(List (aA×aA)))).bind fun t0 =>
  some (.inl ((s0.1+1),t0.1,t0.2)))
 else
 some (.inr (s0.2.1,s0.2.2))
noncomputable def lA (l_0:List aB) (s0:Nat×List aA×(List (aA×aA))):Option ((Nat×List aA×(List (aA×aA)))⊕(List aA×(List (aA×aA)))) :=
 if (s0.1:Int) < (l_0.length:Int) then (
  (l_0[s0.1]?).bind fun x0 =>
  ((
   ((
    chk (s0.2.1.length+1≤1073741824) <|
    chk (x0.name.length+[32,61,32].length≤1073741824) <|
    chk ((x0.name++[32,61,32]).length+x0.name.length≤1073741824) <|
    some ((s0.2.1++[x0.name]),(put s0.2.2 x0.name ((x0.name++[32,61,32])++x0.name)))
   ):Option (List aA×(List (aA×aA)))).bind fun t0 =>
   (aY (kZ x0) (0,t0.1,t0.2)).bind fun eA1 =>
   some (eA1.1,eA1.2)
  ):Option (List aA×(List (aA×aA)))).bind fun t1 =>
  (tK x0).bind fun r0 =>
  some (.inl ((s0.1+1),t1.1,(put t1.2 x0.name r0))))
 else
 some (.inr (s0.2.1,s0.2.2))
noncomputable def lB (eA1:List aA×(List (aA×aA))) (l0:List aA) (s0:Nat×Bool×List UInt8):Option ((Nat×Bool×List UInt8)⊕(Bool×List UInt8)) :=
 if (s0.1:Int) < (eA1.1.length:Int) then (
  (l0[s0.1]?).bind fun x0 =>
  chk (((lkp eA1.2 x0).getD ([]:aA)).length+[10].length≤1073741824) <|
  ((
   chk (s0.2.2.length+(((lkp eA1.2 x0).getD ([]:aA))++[10]).length≤1073741824) <|
   some ((((lkp eA1.2 x0).getD ([]:aA))++[10]).length,true,(s0.2.2++(((lkp eA1.2 x0).getD ([]:aA))++[10])))
  ):Option (Nat×Bool×List UInt8)).bind fun t0 =>
  some (.inl ((s0.1+1),t0.2.1,t0.2.2)))
 else
 some (.inr (s0.2.1,s0.2.2))
noncomputable def FH (l_0:List aB):Option (aA) :=
 (aY (lA l_0) (0,([]:List aA),([]:List (aA×aA)))).bind fun eA1 =>
 (fU (pJ) eA1.1).bind fun l0 =>
 (aY (lB eA1 l0) (0,false,([]:List UInt8))).bind fun eB1 =>
 some eB1.2
noncomputable def DH (l_0:List aB):Option (List UInt8×Int) :=
 (qC l_0).bind fun r1 =>
 if r1.2≠0 then (
  some (([]:List UInt8),r1.2))
 else
 (FH l_0).bind fun r0 =>
 chk (r0.length≤1073741824) <|
 some (r0,0)
noncomputable def KR  : Option (aA) :=
 some [65,32,76,101,101,58,32,51,47,55,44,32,57,47,49,45,50,10,67,111,114,110,32,76,97,119,115,58,32,51,47,49,50,45,49,52,44,32,52,47,49,45,50,59,32,84,114,97,100,101,10,67,111,114,110,32,108,97,119,115,32,61,32,67,111,114,110,32,76,97,119,115,10,76,97,100,121,32,76,101,101,32,61,32,65,32,76,101,101,10,76,101,101,32,65,110,110,32,61,32,65,32,76,101,101,10,84,114,97,100,101,58,32,51,47,49,51,10]
noncomputable def lC (o_0:vH) (s_1:aA):Option (Int⊕Unit) :=
 (wZ s_1).bind fun r4 =>
 if r4.2 then (
  some (.inr ()))
 else
 some (.inl r4.1)
noncomputable def pL (o_0:vH) (s_1:aA):Option (aH⊕Unit) :=
 (xW s_1 [47]).bind fun r5 =>
 (xW r5.2.1 [45]).bind fun r8 =>
 (lC o_0 r5.1).bind fun r0=>match r0 with
 | .inl y1=>(
  (lC o_0 r8.1).bind fun r1=>match r1 with
  | .inl y0=>(
   ((
    if r8.2.2 then (
     (lC o_0 r8.2.1).bind fun r2=>match r2 with
     | .inl y2=>(
      some (.inl y2))
     | .inr _=>(
      some (.inr (.inr ()))))
    else
    some (.inl y0)
   ):Option ((Int)⊕(aH⊕Unit))).bind fun t0=>match t0 with
   | .inr z=>some z
   | .inl t1 =>
   some (.inl (⟨y1,y0,t1⟩:aH)))
  | .inr _=>(
   some (.inr ())))
 | .inr _=>(
  some (.inr ()))
noncomputable def iH (r0:List aA) (o_0:vH) (s0:Nat×List aH):Option ((Nat×List aH)⊕((List aH)⊕((List aH)⊕(aB⊕Unit)))) :=
 if (s0.1:Int) < (r0.length:Int) then (
  (r0[s0.1]?).bind fun x0 =>
  (zG x0 [32]).bind fun r1 =>
  (pL o_0 r1).bind fun r2=>match r2 with
  | .inl y0=>(
   chk (s0.2.length+([y0]:List aH).length≤1073741824) <|
   some (.inl ((s0.1+1),(s0.2++([y0]:List aH)))))
  | .inr _=>(
   some (.inr (.inr (.inr (.inr ()))))))
 else
 some (.inr (.inl s0.2))
noncomputable def FI (o_0:vH):Option (aB⊕Unit) :=
 (xW o_0.line [58]).bind fun r5 =>
 (xW r5.2.1 [59,32]).bind fun r8 =>
 ((
  if r8.1≠[] then (
   (CZ r8.1 [44]).bind fun r0 =>
   (aY (iH r0 o_0) (0,([]:List aH))).bind fun eA1=>match eA1 with
   | .inr z=>some z
   | .inl t0 =>
   some (.inl t0))
  else
  some (.inl ([]:List aH))
 ):Option ((List aH)⊕(aB⊕Unit))).bind fun t1=>match t1 with
 | .inr z=>some z
 | .inl t2 =>
 ((
  if r8.2.2 then (
   (CZ r8.2.1 [44,32]).bind fun r1 =>
   some r1)
  else
  some ([]:List aA)
 ):Option (List aA)).bind fun t3 =>
 some (.inl (⟨r5.1,([]:List aA),t3,t2⟩:aB))
noncomputable def iI (r9:List aA) (s0:Nat×List aB×(List (aA×(List aA)))):Option ((Nat×List aB×(List (aA×(List aA))))⊕((List aB×(List (aA×(List aA))))⊕(List aB×Int))) :=
 if (s0.1:Int) < ((r9.take (((r9.length:Int) - 1).toNat)).length:Int) then (
  ((r9.take (((r9.length:Int) - 1).toNat))[s0.1]?).bind fun x0 =>
  (xW x0 [32,61,32]).bind fun r0 =>
  ((
   if r0.2.2 then (
    chk (((lkp s0.2.2 r0.2.1).getD []).length+1≤1073741824) <|
    some (.inl (s0.2.1,(put s0.2.2 r0.2.1 (((lkp s0.2.2 r0.2.1).getD [])++[r0.1])))))
   else
   (FI (⟨x0⟩:vH)).bind fun r1=>match r1 with
   | .inl y0=>(
    chk (s0.2.1.length+([y0]:List aB).length≤1073741824) <|
    some (.inl ((s0.2.1++([y0]:List aB)),s0.2.2)))
   | .inr _=>(
    some (.inr (.inr (.inr (([]:List aB),4)))))
  ):Option ((List aB×(List (aA×(List aA))))⊕((Nat×List aB×(List (aA×(List aA))))⊕((List aB×(List (aA×(List aA))))⊕(List aB×Int))))).bind fun t1=>match t1 with
  | .inr z=>some z
  | .inl t0 =>
  some (.inl ((s0.1+1),t0.1,t0.2)))
 else
 some (.inr (.inl (s0.2.1,s0.2.2)))
noncomputable def iJ (t0:List aB×(List (aA×(List aA)))) (s0:Nat×(List (aA×(List aA)))×List aB):Option ((Nat×(List (aA×(List aA)))×List aB)⊕(List aB)) :=
 if (s0.1:Int) < (t0.1.length:Int) then (
  (s0.2.2[s0.1]?).bind fun x0 =>
  some (.inl ((s0.1+1),s0.2.1,(s0.2.2.set s0.1 (⟨x0.name,((lkp s0.2.1 x0.name).getD []),x0.aO,x0.aG⟩:aB)))))
 else
 some (.inr s0.2.2)
noncomputable def vJ (b_0:List UInt8):Option (List aB×Int) :=
 if 200000 < (b_0.length:Int) then (
  some (([]:List aB),3))
 else
 (CZ b_0 [10]).bind fun r9 =>
 chk (0≤((r9.length:Int) - 1)) <|
 chk (((r9.length:Int) - 1).toNat≤r9.length) <|
 (aY (iI r9) (0,([]:List aB),([]:List (aA×(List aA))))).bind fun eB1=>match eB1 with
 | .inr z=>some z
 | .inl t0 =>
 (aY (iJ t0) (0,t0.2,t0.1)).bind fun eA1 =>
 (qC eA1).bind fun r0 =>
 ((
  if r0.2≠0 then (
   some true)
  else
  (FH eA1).bind fun r1 =>
  some (decide (r1≠b_0))
 ):Option (Bool)).bind fun t1 =>
 if t1 then (
  some (([]:List aB),4))
 else
 some (eA1,0)
noncomputable def HV (p_0:aH) (c_1:mY):Option (Bool) :=
 ((
  if p_0.aM=c_1.e0 then (
   (uH c_1.e1 p_0.aV p_0.cM).bind fun r0 =>
   some r0)
  else
  some false
 ):Option (Bool)).bind fun t0 =>
 some t0
noncomputable def lD (x0:aB) (aM:Int) (number:Int) (s1:Nat×List aA) (s0:Nat):Option ((Nat)⊕((Unit)⊕(List aA))) :=
 if (s0:Int) < (x0.aG.length:Int) then (
  (x0.aG[s0]?).bind fun x1 =>
  (HV x1 (⟨aM,number⟩:mY)).bind fun r0 =>
  if r0 then (
   chk (s1.2.length+1≤1073741824) <|
   Option.map (fun z=>.inr (.inr z)) (
   some (s1.2++[x0.name])))
  else
  some (.inl (s0+1)))
 else
 some (.inr (.inl ()))
noncomputable def jZ (l_0:List aB) (aM:Int) (number:Int) (s0:Nat×List aA):Option ((Nat×List aA)⊕(List aA)) :=
 if (s0.1:Int) < (l_0.length:Int) then (
  ((
   (l_0[s0.1]?).bind fun x0 =>
   (aY (lD x0 aM number s0) 0).bind fun eA1=>match eA1 with
   | .inr z=>some z
   | .inl t1 =>
   some s0.2
  ):Option (List aA)).bind fun t0 =>
  some (.inl ((s0.1+1),t0)))
 else
 some (.inr s0.2)
noncomputable def GB (l_0:List aB) (aM:Int) (number:Int):Option (List aA×Int) :=
 (qC l_0).bind fun r1 =>
 if r1.2≠0 then (
  some (([]:List aA),r1.2))
 else
 ((
  (uH aM 1 999).bind fun r0 =>
  if r0 then (
   (uH number 1 9999).bind fun r2 =>
   some (!r2))
  else
  some true
 ):Option (Bool)).bind fun t0 =>
 if t0 then (
  some (([]:List aA),2))
 else
 (aY (jZ l_0 aM number) (0,([]:List aA))).bind fun eA1 =>
 some (eA1,0)
noncomputable def qK (a_0:List aA) (b_1:List aA) (s0:Nat):Option ((Nat)⊕((Unit)⊕Bool)) :=
 if (s0:Int) < (a_0.length:Int) then (
  (a_0[s0]?).bind fun x0 =>
  (b_1[s0]?).bind fun x1 =>
  if x0≠x1 then (
   some (.inr (.inr false)))
  else
  some (.inl (s0+1)))
 else
 some (.inr (.inl ()))
noncomputable def AW (a_0:List aA) (b_1:List aA):Option (Bool) :=
 if (a_0.length:Int)≠(b_1.length:Int) then (
  some false)
 else
 (aY (qK a_0 b_1) 0).bind fun RY=>match RY with
 | .inr z=>some z
 | .inl t0 =>
 some true
noncomputable def lE (a_0:aB) (b_1:aB) (s0:Nat):Option ((Nat)⊕((Unit)⊕Bool)) :=
 if (s0:Int) < (a_0.aG.length:Int) then (
  (a_0.aG[s0]?).bind fun x0 =>
  (b_1.aG[s0]?).bind fun x1 =>
  if x0=x1 then (
   some (.inl (s0+1)))
  else
  some (.inr (.inr false)))
 else
 some (.inr (.inl ()))
noncomputable def FJ (a_0:aB) (b_1:aB):Option (Bool) :=
 ((
  if a_0.name≠b_1.name then (
   some true)
  else
  (AW a_0.aC b_1.aC).bind fun r0 =>
  if r0 then (
   (AW a_0.aO b_1.aO).bind fun r1 =>
   if r1 then (
    some (decide ((a_0.aG.length:Int)≠(b_1.aG.length:Int))))
   else
   some true)
  else
  some true
 ):Option (Bool)).bind fun t0 =>
 if t0 then (
  some false)
 else
 (aY (lE a_0 b_1) 0).bind fun tO=>match tO with
 | .inr z=>some z
 | .inl t1 =>
 some true
noncomputable def qL (a_0:List aB) (b_1:List aB) (s0:Nat):Option ((Nat)⊕((Unit)⊕Bool)) :=
 if (s0:Int) < (a_0.length:Int) then (
  (a_0[s0]?).bind fun x0 =>
  (b_1[s0]?).bind fun x1 =>
  (FJ x0 x1).bind fun r0 =>
  if r0 then (
   some (.inl (s0+1)))
  else
  some (.inr (.inr false)))
 else
 some (.inr (.inl ()))
noncomputable def GC (a_0:List aB) (b_1:List aB):Option (Bool) :=
 if (a_0.length:Int)≠(b_1.length:Int) then (
  some false)
 else
 (aY (qL a_0 b_1) 0).bind fun RZ=>match RZ with
 | .inr z=>some z
 | .inl t0 =>
 some true
noncomputable def m16  : Option (Bool) :=
 (JC).bind fun r1 =>
 (m18 r1).bind fun r8 =>
 (DH r8.1).bind fun r2 =>
 (KR).bind fun r0 =>
 chk (r0.length≤1073741824) <|
 (vJ r0).bind fun r3 =>
 (GB r8.1 3 13).bind fun r4 =>
 ((
  if r8.2=0 then (
   if r2.2=0 then (
    if r2.1=r0 then (
     if r3.2=0 then (
      (GC r8.1 r3.1).bind fun r5 =>
      if r5 then (
       if r4.2=0 then (
        (AW r4.1 ([[67,111,114,110,32,76,97,119,115],[84,114,97,100,101]]:List aA)).bind fun CI =>
        some CI)
       else
       some false)
      else
      some false)
     else
     some false)
    else
    some false)
   else
   some false)
  else
  some false
 ):Option (Bool)).bind fun t0 =>
 some t0
noncomputable def zK (l_0:List aA) (s0:Nat):Option ((Nat)⊕((Unit)⊕Bool)) :=
 if (s0:Int) < (l_0.length:Int) then (
  (l_0[s0]?).bind fun x0 =>
  if 45 < (x0.length:Int) then (
   some (.inr (.inr false)))
  else
  some (.inl (s0+1)))
 else
 some (.inr (.inl ()))
noncomputable def RH (l_0:List aA) (most:Int):Option (Bool) :=
 (aY (zK l_0) 0).bind fun e16=>match e16 with
 | .inr z=>some z
 | .inl t0 =>
 some (decide ((l_0.length:Int)≤most))
noncomputable def zL (l_0:List aB) (s0:Nat):Option ((Nat)⊕((Unit)⊕Bool)) :=
 if (s0:Int) < (l_0.length:Int) then (
  ((
   (l_0[s0]?).bind fun x0 =>
   if 45 < (x0.name.length:Int) then (
    some true)
   else
   (RH x0.aC 10).bind fun r0 =>
   if r0 then (
    (RH x0.aO 10).bind fun r1 =>
    if r1 then (
     some (decide (35 < (x0.aG.length:Int))))
    else
    some true)
   else
   some true
  ):Option (Bool)).bind fun t0 =>
  if t0 then (
   some (.inr (.inr false)))
  else
  some (.inl (s0+1)))
 else
 some (.inr (.inl ()))
noncomputable def RI (l_0:List aB) (most:Int):Option (Bool) :=
 if most < (l_0.length:Int) then (
  some false)
 else
 (aY (zL l_0) 0).bind fun e48=>match e48 with
 | .inr z=>some z
 | .inl t0 =>
 some true
noncomputable def m17 (l_0:List aB):Option (Bool) :=
 ((
  (RI l_0 62).bind fun r0 =>
  if r0 then (
   if (l_0.length:Int)≤12 then (
    some true)
   else
   some (decide (60 < (l_0.length:Int))))
  else
  some false
 ):Option (Bool)).bind fun t0 =>
 some t0
noncomputable def RJ (l_0:List aA):Option (List aA) :=
 chk (([]:List aA).length+l_0.length≤1073741824) <|
 some (([]:List aA)++l_0)
noncomputable def zM (x0:aB) (s0:Nat×List aH):Option ((Nat×List aH)⊕(List aH)) :=
 if (s0.1:Int) < (x0.aG.length:Int) then (
  (x0.aG[s0.1]?).bind fun x1 =>
  chk (s0.2.length+1≤1073741824) <|
  some (.inl ((s0.1+1),(s0.2++[x1]))))
 else
 some (.inr s0.2)
noncomputable def zN (l_0:List aB) (s0:Nat×List aB):Option ((Nat×List aB)⊕(List aB)) :=
 if (s0.1:Int) < (l_0.length:Int) then (
  (l_0[s0.1]?).bind fun x0 =>
  (RJ x0.aC).bind fun r0 =>
  (RJ x0.aO).bind fun r1 =>
  (aY (zM x0) (0,([]:List aH))).bind fun eA1 =>
  chk (s0.2.length+1≤1073741824) <|
  some (.inl ((s0.1+1),(s0.2++[(⟨x0.name,r0,r1,eA1⟩:aB)]))))
 else
 some (.inr s0.2)
noncomputable def KS (l_0:List aB):Option (List aB) :=
 (aY (zN l_0) (0,([]:List aB))).bind fun eA1 =>
 some eA1
noncomputable def DI (l_0:List (List aB)) (s0:Nat×List (List aB)):Option ((Nat×List (List aB))⊕(List (List aB))) :=
 if (s0.1:Int) < (l_0.length:Int) then (
  (l_0[s0.1]?).bind fun x0 =>
  (KS x0).bind fun r0 =>
  chk (s0.2.length+1≤1073741824) <|
  some (.inl ((s0.1+1),(s0.2++[r0]))))
 else
 some (.inr s0.2)
noncomputable def m19 (l_0:List (List aB)):Option (List (List aB)) :=
 (aY (DI l_0) (0,([]:List (List aB)))).bind fun eA1 =>
 some eA1
noncomputable def MT (n_0:Int) (low:Int) (high:Int):Option (Bool) :=
 ((
  if low≤n_0 then (
   some (decide (n_0≤high)))
  else
  some false
 ):Option (Bool)).bind fun t4 =>
 some t4
noncomputable def pM (s_0:aA) (s0:Nat):Option ((Nat)⊕((Unit)⊕Bool)) :=
 if (s0:Int) < (s_0.length:Int) then (
  (s_0[s0]?).bind fun x0 =>
  ((
   if (x0.toNat:Int) < 32 then (
    some true)
   else
   if 126 < (x0.toNat:Int) then (
    some true)
   else
   if (x0.toNat:Int)=44 then (
    some true)
   else
   if (x0.toNat:Int)=58 then (
    some true)
   else
   if (x0.toNat:Int)=59 then (
    some true)
   else
   if (x0.toNat:Int)=61 then (
    some true)
   else
   if (x0.toNat:Int)=32 then (
    chk (-9223372036854775808≤((s0:Int) - 1)∧((s0:Int) - 1)≤9223372036854775807) <|
    chk (0≤((s0:Int) - 1)) <|
    (s_0[((s0:Int) - 1).toNat]?).bind fun x1 =>
    some (decide ((x1.toNat:Int)=32)))
   else
   some false
  ):Option (Bool)).bind fun t0 =>
  if t0 then (
   some (.inr (.inr false)))
  else
  chk (-9223372036854775808≤((s0:Int)+1)∧((s0:Int)+1)≤9223372036854775807) <|
  some (.inl (s0+1)))
 else
 some (.inr (.inl ()))
noncomputable def FK (s_0:aA):Option (Bool) :=
 ((
  (MT (s_0.length:Int) 1 40).bind fun r0 =>
  if r0 then (
   (s_0[0]?).bind fun x0 =>
   if (x0.toNat:Int)=32 then (
    some true)
   else
   chk (-9223372036854775808≤((s_0.length:Int) - 1)∧((s_0.length:Int) - 1)≤9223372036854775807) <|
   chk (0≤((s_0.length:Int) - 1)) <|
   (s_0[((s_0.length:Int) - 1).toNat]?).bind fun x1 =>
   some (decide ((x1.toNat:Int)=32)))
  else
  some true
 ):Option (Bool)).bind fun t0 =>
 if t0 then (
  some false)
 else
 (aY (pM s_0) 0).bind fun e89=>match e89 with
 | .inr z=>some z
 | .inl t1 =>
 some true
noncomputable def zO (s_0:aA) (s0:Nat×List UInt8):Option ((Nat×List UInt8)⊕(List UInt8)) :=
 if (s0.1:Int) < (s_0.length:Int) then (
  (s_0[s0.1]?).bind fun x0 =>
  ((
   if 65≤(x0.toNat:Int) then (
    some (decide ((x0.toNat:Int)≤90)))
   else
   some false
  ):Option (Bool)).bind fun t1 =>
  ((
   if t1 then (
    chk (0≤((x0.toNat:Int) - 65)∧((x0.toNat:Int) - 65)≤255) <|
    chk (0≤(((x0.toNat:Int) - 65)+97)∧(((x0.toNat:Int) - 65)+97)≤255) <|
    some (((x0.toNat:Int) - 65)+97))
   else
   some (x0.toNat:Int)
  ):Option (Int)).bind fun t0 =>
  ((
   if 97≤t0 then (
    if t0≤122 then (
     some true)
    else
    if 48≤t0 then (
     some (decide (t0≤57)))
    else
    some false)
   else
   if 48≤t0 then (
    some (decide (t0≤57)))
   else
   some false
  ):Option (Bool)).bind fun t2 =>
  ((
   if t2 then (
    chk (s0.2.length+1≤1073741824) <|
    chk (0≤t0∧t0≤255) <|
    some (s0.2++[(UInt8.ofNat t0.toNat)]))
   else
   some s0.2
  ):Option (List UInt8)).bind fun t3 =>
  chk (-9223372036854775808≤((s0.1:Int)+1)∧((s0.1:Int)+1)≤9223372036854775807) <|
  some (.inl ((s0.1+1),t3)))
 else
 some (.inr s0.2)
noncomputable def RK (s_0:aA):Option (aA) :=
 (aY (zO s_0) (0,([]:List UInt8))).bind fun eA1 =>
 some eA1
noncomputable def OW (a_0:aA) (b_1:aA):Option (Bool) :=
 (RK a_0).bind fun r1 =>
 (RK b_1).bind fun r4 =>
 if r1≠r4 then (
  some (Op.bytesLess r1 r4))
 else
 some (Op.bytesLess a_0 b_1)
noncomputable def pN (l_0:List aA) (s0:Nat):Option ((Nat)⊕((Unit)⊕Bool)) :=
 if (s0:Int) < (l_0.length:Int) then (
  ((
   (l_0[s0]?).bind fun x0 =>
   (FK x0).bind fun r0 =>
   if r0 then (
    if 0 < (s0:Int) then (
     (l_0[((s0:Int) - 1).toNat]?).bind fun x1 =>
     (OW x1 x0).bind fun r1 =>
     some (!r1))
    else
    some false)
   else
   some true
  ):Option (Bool)).bind fun t0 =>
  if t0 then (
   some (.inr (.inr false)))
  else
  some (.inl (s0+1)))
 else
 some (.inr (.inl ()))
noncomputable def FL (l_0:List aA):Option (Bool) :=
 (aY (pN l_0) 0).bind fun XX=>match XX with
 | .inr z=>some z
 | .inl t0 =>
 some (decide ((l_0.length:Int)≤8))
noncomputable def pO (l_0:List aH) (s0:Nat):Option ((Nat)⊕((Unit)⊕Bool)) :=
 if (s0:Int) < (l_0.length:Int) then (
  (l_0[s0]?).bind fun x0 =>
  ((
   (MT x0.aM 1 999).bind fun r0 =>
   if r0 then (
    (MT x0.aV 1 x0.cM).bind fun r1 =>
    if r1 then (
     some (decide (9999 < x0.cM)))
    else
    some true)
   else
   some true
  ):Option (Bool)).bind fun t0 =>
  if t0 then (
   some (.inr (.inr false)))
  else
  ((
   if 0 < (s0:Int) then (
    (l_0[((s0:Int) - 1).toNat]?).bind fun x1 =>
    if x0.aM < x1.aM then (
     some true)
    else
    if x0.aM=x1.aM then (
     chk (-9223372036854775808≤(x1.cM+1)∧(x1.cM+1)≤9223372036854775807) <|
     some (decide (x0.aV≤(x1.cM+1))))
    else
    some false)
   else
   some false
  ):Option (Bool)).bind fun t1 =>
  if t1 then (
   some (.inr (.inr false)))
  else
  some (.inl (s0+1)))
 else
 some (.inr (.inl ()))
noncomputable def HW (l_0:List aH):Option (Bool) :=
 (aY (pO l_0) 0).bind fun e58=>match e58 with
 | .inr z=>some z
 | .inl t0 =>
 some true
noncomputable def TW (h_0:aB):Option (Bool) :=
 ((
  (FK h_0.name).bind fun r0 =>
  if r0 then (
   (FL h_0.aC).bind fun r1 =>
   if r1 then (
    (FL h_0.aO).bind fun r2 =>
    if r2 then (
     if (h_0.aG.length:Int)≤30 then (
      (HW h_0.aG).bind fun r3 =>
      some r3)
     else
     some false)
    else
    some false)
   else
   some false)
  else
  some false
 ):Option (Bool)).bind fun t0 =>
 some t0
noncomputable def OX (h_0:aB):Option (List aA) :=
 chk (([h_0.name]:List aA).length+h_0.aC.length≤1073741824) <|
 some (([h_0.name]:List aA)++h_0.aC)
noncomputable def zP (l_0:List aA) (s_1:aA) (s0:Nat):Option ((Nat)⊕((Unit)⊕Bool)) :=
 if (s0:Int) < (l_0.length:Int) then (
  (l_0[s0]?).bind fun x0 =>
  if x0=s_1 then (
   some (.inr (.inr true)))
  else
  some (.inl (s0+1)))
 else
 some (.inr (.inl ()))
noncomputable def OY (l_0:List aA) (s_1:aA):Option (Bool) :=
 (aY (zP l_0 s_1) 0).bind fun e16=>match e16 with
 | .inr z=>some z
 | .inl t0 =>
 some false
noncomputable def DJ (l_0:List aB) (name:aA) (s0:Nat):Option ((Nat)⊕((Unit)⊕Int)) :=
 if (s0:Int) < (l_0.length:Int) then (
  (l_0[s0]?).bind fun x0 =>
  (OX x0).bind fun r0 =>
  (OY r0 name).bind fun r1 =>
  if r1 then (
   some (.inr (.inr (s0:Int))))
  else
  some (.inl (s0+1)))
 else
 some (.inr (.inl ()))
noncomputable def RL (l_0:List aB) (name:aA):Option (Int) :=
 (aY (DJ l_0 name) 0).bind fun PM=>match PM with
 | .inr z=>some z
 | .inl t0 =>
 some (-1)
noncomputable def zQ (l_0:List aB) (s0:Nat):Option ((Nat)⊕((Unit)⊕Int)) :=
 if (s0:Int) < (l_0.length:Int) then (
  (l_0[s0]?).bind fun x0 =>
  (TW x0).bind fun r0 =>
  if r0 then (
   some (.inl (s0+1)))
  else
  some (.inr (.inr 1)))
 else
 some (.inr (.inl ()))
noncomputable def zR (r0:List aA) (s0:Nat×List aA):Option ((Nat×List aA)⊕((List aA)⊕((Nat×List aA)⊕((List aA)⊕Int)))) :=
 if (s0.1:Int) < (r0.length:Int) then (
  (r0[s0.1]?).bind fun x0 =>
  (OY s0.2 x0).bind fun r1 =>
  if r1 then (
   some (.inr (.inr (.inr (.inr 6)))))
  else
  chk (s0.2.length+1≤1073741824) <|
  some (.inl ((s0.1+1),(s0.2++[x0]))))
 else
 some (.inr (.inl s0.2))
noncomputable def tL (l_0:List aB) (s0:Nat×List aA):Option ((Nat×List aA)⊕((List aA)⊕Int)) :=
 if (s0.1:Int) < (l_0.length:Int) then (
  (l_0[s0.1]?).bind fun x0 =>
  (OX x0).bind fun r0 =>
  (aY (zR r0) (0,s0.2)).bind fun eA1=>match eA1 with
  | .inr z=>some z
  | .inl t0 =>
  some (.inl ((s0.1+1),t0)))
 else
 some (.inr (.inl s0.2))
noncomputable def zS (l_0:List aB) (s1:Nat) (s0:Nat):Option ((Nat)⊕((Unit)⊕((Nat)⊕((Unit)⊕Int)))) :=
 (l_0[s1]?).bind fun x0 =>
 if (s0:Int) < (x0.aO.length:Int) then (
  (x0.aO[s0]?).bind fun x1 =>
  (RL l_0 x1).bind fun r0 =>
  ((
   if r0 < 0 then (
    some true)
   else
   if r0=(s1:Int) then (
    some true)
   else
   chk (0≤r0) <|
   (l_0[r0.toNat]?).bind fun x2 =>
   some (decide (x2.name≠x1))
  ):Option (Bool)).bind fun t0 =>
  if t0 then (
   some (.inr (.inr (.inr (.inr 1)))))
  else
  some (.inl (s0+1)))
 else
 some (.inr (.inl ()))
noncomputable def zT (l_0:List aB) (s0:Nat):Option ((Nat)⊕((Unit)⊕Int)) :=
 if (s0:Int) < (l_0.length:Int) then (
  ((
   if 0 < (s0:Int) then (
    (l_0[((s0:Int) - 1).toNat]?).bind fun x0 =>
    (l_0[s0]?).bind fun x1 =>
    (OW x0.name x1.name).bind fun r0 =>
    some (!r0))
   else
   some false
  ):Option (Bool)).bind fun t0 =>
  if t0 then (
   some (.inr (.inr 1)))
  else
  (aY (zS l_0 s0) 0).bind fun eA1=>match eA1 with
  | .inr z=>some z
  | .inl t1 =>
  some (.inl (s0+1)))
 else
 some (.inr (.inl ()))
noncomputable def OZ (l_0:List aB):Option (Int) :=
 if 60 < (l_0.length:Int) then (
  some 3)
 else
 (aY (zQ l_0) 0).bind fun PK=>match PK with
 | .inr z=>some z
 | .inl t0 =>
 (aY (tL l_0) (0,([]:List aA))).bind fun eA1=>match eA1 with
 | .inr z=>some z
 | .inl t1 =>
 (aY (zT l_0) 0).bind fun eB1=>match eB1 with
 | .inr z=>some z
 | .inl t2 =>
 some 0
noncomputable def vK  (s0:Int×List aA):Option ((Int×List aA)⊕(List aA)) :=
 ((
  if 0 < s0.1 then (
   (s0.2[s0.1.toNat]?).bind fun x1 =>
   chk (-9223372036854775808≤(s0.1 - 1)∧(s0.1 - 1)≤9223372036854775807) <|
   (s0.2[(s0.1 - 1).toNat]?).bind fun x2 =>
   (OW x1 x2).bind fun r0 =>
   some r0)
  else
  some false
 ):Option (Bool)).bind fun t0 =>
 if t0 then (
  chk (-9223372036854775808≤(s0.1 - 1)∧(s0.1 - 1)≤9223372036854775807) <|
  chk (0≤(s0.1 - 1)) <|
  (s0.2[(s0.1 - 1).toNat]?).bind fun x0 =>
  chk (0≤s0.1) <|
  (s0.2[s0.1.toNat]?).bind fun x3 =>
  ((s0.2.set s0.1.toNat x0)[(s0.1 - 1).toNat]?).bind fun x4 =>
  some (.inl ((s0.1 - 1),((s0.2.set s0.1.toNat x0).set ((s0.1 - 1).toNat) x3))))
 else
 some (.inr s0.2)
noncomputable def zU (l_0:List aA) (s0:Nat×List aA):Option ((Nat×List aA)⊕(List aA)) :=
 if (s0.1:Int) < (l_0.length:Int) then (
  ((
   (l_0[s0.1]?).bind fun x0 =>
   (OY s0.2 x0).bind fun r0 =>
   if r0 then (
    some s0.2)
   else
   chk (s0.2.length+1≤1073741824) <|
   (aY vK ((((s0.2++[x0]).length:Int) - 1),(s0.2++[x0]))).bind fun eA1 =>
   some eA1
  ):Option (List aA)).bind fun t0 =>
  some (.inl ((s0.1+1),t0)))
 else
 some (.inr s0.2)
noncomputable def TX (l_0:List aA):Option (List aA) :=
 (aY (zU l_0) (0,([]:List aA))).bind fun eA1 =>
 some eA1
noncomputable def gH:Nat→Int→Option (aA)
 | 0,_=>none
 | n_+1,n_0 =>
 if n_0 < 0 then (
  some [98,101,108,111,119])
 else
 if n_0 < 10 then (
  chk (-9223372036854775808≤(48+n_0)∧(48+n_0)≤9223372036854775807) <|
  chk (0≤(48+n_0)∧(48+n_0)≤255) <|
  some ([(UInt8.ofNat (48+n_0).toNat)]:List UInt8))
 else
 chk (0≤n_0∧n_0≤9223372036854775807∧0 < (10:Int)) <|
 (gH n_ (n_0/10)).bind fun r0 =>
 chk (0≤n_0∧0 < (10:Int)) <|
 (gH n_ (n_0%10)).bind fun r1 =>
 chk (r0.length+r1.length≤1073741824) <|
 some (r0++r1)
noncomputable def FM (n_0:Int):Option (aA):=recO (fun n_=>gH n_ n_0)
noncomputable def zV (h_0:aB) (s0:Nat×aA):Option ((Nat×aA)⊕(aA)) :=
 if (s0.1:Int) < (h_0.aG.length:Int) then (
  (h_0.aG[s0.1]?).bind fun x0 =>
  ((
   if 0 < (s0.1:Int) then (
    chk (s0.2.length+[44].length≤1073741824) <|
    some (s0.2++[44]))
   else
   some s0.2
  ):Option (aA)).bind fun t0 =>
  chk (t0.length+[32].length≤1073741824) <|
  (FM x0.aM).bind fun r0 =>
  chk ((t0++[32]).length+r0.length≤1073741824) <|
  chk (((t0++[32])++r0).length+[47].length≤1073741824) <|
  (FM x0.aV).bind fun r1 =>
  chk ((((t0++[32])++r0)++[47]).length+r1.length≤1073741824) <|
  ((
   if x0.aV < x0.cM then (
    chk (((((t0++[32])++r0)++[47])++r1).length+[45].length≤1073741824) <|
    (FM x0.cM).bind fun r2 =>
    chk ((((((t0++[32])++r0)++[47])++r1)++[45]).length+r2.length≤1073741824) <|
    some ((((((t0++[32])++r0)++[47])++r1)++[45])++r2))
   else
   some ((((t0++[32])++r0)++[47])++r1)
  ):Option (aA)).bind fun t1 =>
  some (.inl ((s0.1+1),t1)))
 else
 some (.inr s0.2)
noncomputable def zW (h_0:aB) (s0:Nat×aA):Option ((Nat×aA)⊕(aA)) :=
 if (s0.1:Int) < (h_0.aO.length:Int) then (
  ((
   if (s0.1:Int)=0 then (
    chk (s0.2.length+[59].length≤1073741824) <|
    some (s0.2++[59]))
   else
   chk (s0.2.length+[44].length≤1073741824) <|
   some (s0.2++[44])
  ):Option (aA)).bind fun t0 =>
  chk (t0.length+[32].length≤1073741824) <|
  (h_0.aO[s0.1]?).bind fun x0 =>
  chk ((t0++[32]).length+x0.length≤1073741824) <|
  some (.inl ((s0.1+1),((t0++[32])++x0))))
 else
 some (.inr s0.2)
noncomputable def TY (h_0:aB):Option (aA) :=
 chk (h_0.name.length+[58].length≤1073741824) <|
 (aY (zV h_0) (0,(h_0.name++[58]))).bind fun RW =>
 (aY (zW h_0) (0,RW)).bind fun eA1 =>
 some eA1
noncomputable def zX (l_0:List aB) (s0:Nat×List aA):Option ((Nat×List aA)⊕(List aA)) :=
 if (s0.1:Int) < (l_0.length:Int) then (
  (l_0[s0.1]?).bind fun x0 =>
  (OX x0).bind fun r0 =>
  chk (s0.2.length+r0.length≤1073741824) <|
  some (.inl ((s0.1+1),(s0.2++r0))))
 else
 some (.inr s0.2)
noncomputable def zY (r1:List aA) (l_0:List aB) (s0:Nat×aA):Option ((Nat×aA)⊕(aA)) :=
 if (s0.1:Int) < (r1.length:Int) then (
  (r1[s0.1]?).bind fun x0 =>
  (RL l_0 x0).bind fun r2 =>
  chk (0≤r2) <|
  (l_0[r2.toNat]?).bind fun x1 =>
  ((
   if x1.name=x0 then (
    (TY x1).bind fun r0 =>
    chk (s0.2.length+r0.length≤1073741824) <|
    chk ((s0.2++r0).length+[10].length≤1073741824) <|
    some ((s0.2++r0)++[10]))
   else
   chk (s0.2.length+x0.length≤1073741824) <|
   chk ((s0.2++x0).length+[32,61,32].length≤1073741824) <|
   chk (((s0.2++x0)++[32,61,32]).length+x1.name.length≤1073741824) <|
   chk ((((s0.2++x0)++[32,61,32])++x1.name).length+[10].length≤1073741824) <|
   some ((((s0.2++x0)++[32,61,32])++x1.name)++[10])
  ):Option (aA)).bind fun t0 =>
  some (.inl ((s0.1+1),t0)))
 else
 some (.inr s0.2)
noncomputable def RM (l_0:List aB):Option (aA) :=
 (aY (zX l_0) (0,([]:List aA))).bind fun e106 =>
 (TX e106).bind fun r0 =>
 (aY (zY r0 l_0) (0,[])).bind fun eA1 =>
 some eA1
noncomputable def qM (by_1:aA) (s_0:aA) (s0:Nat×Nat×List aA):Option ((Nat×Nat×List aA)⊕(Nat×List aA)) :=
 chk (-9223372036854775808≤((s0.2.1:Int)+(by_1.length:Int))∧((s0.2.1:Int)+(by_1.length:Int))≤9223372036854775807) <|
 if ((s0.2.1:Int)+(by_1.length:Int))≤(s_0.length:Int) then (
  chk (s0.2.1≤((s0.2.1:Int)+(by_1.length:Int)).toNat∧((s0.2.1:Int)+(by_1.length:Int)).toNat≤s_0.length) <|
  ((
   if ((s_0.drop s0.2.1).take (((s0.2.1:Int)+(by_1.length:Int)).toNat - s0.2.1))=by_1 then (
    chk (s0.1≤s0.2.1∧s0.2.1≤s_0.length) <|
    chk (s0.2.2.length+1≤1073741824) <|
    some ((s0.2.1+by_1.length),(s0.2.1+by_1.length),(s0.2.2++[((s_0.drop s0.1).take (s0.2.1 - s0.1))])))
   else
   chk (-9223372036854775808≤((s0.2.1:Int)+1)∧((s0.2.1:Int)+1)≤9223372036854775807) <|
   some (s0.1,(s0.2.1+1),s0.2.2)
  ):Option (Nat×Nat×List aA)).bind fun t0 =>
  some (.inl (t0.1,t0.2.1,t0.2.2)))
 else
 some (.inr (s0.1,s0.2.2))
noncomputable def FN (s_0:aA) (by_1:aA):Option (List aA) :=
 (aY (qM by_1 s_0) (0,0,([]:List aA))).bind fun tO =>
 chk (tO.1≤s_0.length) <|
 chk (tO.2.length+1≤1073741824) <|
 some (tO.2++[(s_0.drop tO.1)])
noncomputable def lF (s_0:aA) (s0:Nat×Int):Option ((Nat×Int)⊕((Int)⊕Int)) :=
 if (s0.1:Int) < (s_0.length:Int) then (
  ((
   (s_0[s0.1]?).bind fun x1 =>
   if (x1.toNat:Int) < 48 then (
    some true)
   else
   some (decide (57 < (x1.toNat:Int)))
  ):Option (Bool)).bind fun t0 =>
  if t0 then (
   some (.inr (.inr (-1))))
  else
  chk (-9223372036854775808≤(10*s0.2)∧(10*s0.2)≤9223372036854775807) <|
  (s_0[s0.1]?).bind fun x0 =>
  chk (0≤((x0.toNat:Int) - 48)∧((x0.toNat:Int) - 48)≤255) <|
  chk (-9223372036854775808≤((10*s0.2)+((x0.toNat:Int) - 48))∧((10*s0.2)+((x0.toNat:Int) - 48))≤9223372036854775807) <|
  chk (-9223372036854775808≤((s0.1:Int)+1)∧((s0.1:Int)+1)≤9223372036854775807) <|
  some (.inl ((s0.1+1),((10*s0.2)+((x0.toNat:Int) - 48)))))
 else
 some (.inr (.inl s0.2))
noncomputable def xK (s_0:aA):Option (Int) :=
 ((
  if (s_0.length:Int) < 1 then (
   some true)
  else
  some (decide (4 < (s_0.length:Int)))
 ):Option (Bool)).bind fun t4 =>
 if t4 then (
  some (-1))
 else
 (aY (lF s_0) (0,0)).bind fun e66=>match e66 with
 | .inr z=>some z
 | .inl PR =>
 some PR
noncomputable def BU (s_0:aA):Option (aH×Bool) :=
 (FN s_0 [47]).bind fun r2 =>
 if (r2.length:Int)≠2 then (
  some ((⟨0,0,0⟩:aH),false))
 else
 (r2[1]?).bind fun x0 =>
 (FN x0 [45]).bind fun r0 =>
 if 2 < (r0.length:Int) then (
  some ((⟨0,0,0⟩:aH),false))
 else
 (r2[0]?).bind fun x1 =>
 (xK x1).bind fun r1 =>
 (r0[0]?).bind fun x2 =>
 (xK x2).bind fun r3 =>
 chk (0≤((r0.length:Int) - 1)) <|
 (r0[((r0.length:Int) - 1).toNat]?).bind fun x3 =>
 (xK x3).bind fun r4 =>
 ((
  if 0≤r1 then (
   if 0≤r3 then (
    some (decide (0≤r4),r1,r3,r4))
   else
   some (false,r1,r3,r4))
  else
  some (false,r1,r3,r4)
 ):Option (Bool×Int×Int×Int)).bind fun t0 =>
 some ((⟨t0.2.1,t0.2.2.1,t0.2.2.2⟩:aH),t0.1)
noncomputable def lG (r0:List aA) (s0:Nat×List aH):Option ((Nat×List aH)⊕((List aH)⊕((List aH)⊕(aB×Bool)))) :=
 if (s0.1:Int) < (r0.length:Int) then (
  (r0[s0.1]?).bind fun x0 =>
  if (x0.length:Int) < 1 then (
   some (.inr (.inr (.inr ((⟨[],([]:List aA),([]:List aA),([]:List aH)⟩:aB),false)))))
  else
  chk (1≤x0.length) <|
  (BU (x0.drop 1)).bind fun r1 =>
  if r1.2 then (
   chk (s0.2.length+1≤1073741824) <|
   some (.inl ((s0.1+1),(s0.2++[r1.1]))))
  else
  some (.inr (.inr (.inr ((⟨[],([]:List aA),([]:List aA),([]:List aH)⟩:aB),false)))))
 else
 some (.inr (.inl s0.2))
noncomputable def qN (r0:List aA) (s0:Nat×List aA):Option ((Nat×List aA)⊕((List aA)⊕((List aA)⊕(aB×Bool)))) :=
 if (s0.1:Int) < (r0.length:Int) then (
  (r0[s0.1]?).bind fun x0 =>
  if (x0.length:Int) < 1 then (
   some (.inr (.inr (.inr ((⟨[],([]:List aA),([]:List aA),([]:List aH)⟩:aB),false)))))
  else
  chk (1≤x0.length) <|
  chk (s0.2.length+([(x0.drop 1)]:List aA).length≤1073741824) <|
  some (.inl ((s0.1+1),(s0.2++([(x0.drop 1)]:List aA)))))
 else
 some (.inr (.inl s0.2))
noncomputable def PA (line:aA):Option (aB×Bool) :=
 (FN line [58]).bind fun r2 =>
 if (r2.length:Int)≠2 then (
  some ((⟨[],([]:List aA),([]:List aA),([]:List aH)⟩:aB),false))
 else
 (r2[0]?).bind fun x1 =>
 (r2[1]?).bind fun x2 =>
 (FN x2 [59]).bind fun r0 =>
 if 2 < (r0.length:Int) then (
  some ((⟨[],([]:List aA),([]:List aA),([]:List aH)⟩:aB),false))
 else
 (r0[0]?).bind fun x0 =>
 ((
  if x0≠[] then (
   (FN x0 [44]).bind fun r1 =>
   (aY (lG r1) (0,([]:List aH))).bind fun eA1=>match eA1 with
   | .inr z=>some z
   | .inl t0 =>
   some (.inl t0))
  else
  some (.inl ([]:List aH))
 ):Option ((List aH)⊕(aB×Bool))).bind fun t1=>match t1 with
 | .inr z=>some z
 | .inl t2 =>
 ((
  if (r0.length:Int)=2 then (
   (r0[1]?).bind fun x3 =>
   (FN x3 [44]).bind fun r3 =>
   (aY (qN r3) (0,([]:List aA))).bind fun eB1=>match eB1 with
   | .inr z=>some z
   | .inl t3 =>
   some (.inl t3))
  else
  some (.inl ([]:List aA))
 ):Option ((List aA)⊕(aB×Bool))).bind fun t4=>match t4 with
 | .inr z=>some z
 | .inl t5 =>
 some ((⟨x1,([]:List aA),t5,t2⟩:aB),true)
noncomputable def qO (r1:List aA) (s0:Nat×List aB):Option ((Nat×List aB)⊕((List aB)⊕(List aB×Bool))) :=
 chk (-9223372036854775808≤((s0.1:Int)+1)∧((s0.1:Int)+1)≤9223372036854775807) <|
 if ((s0.1:Int)+1) < (r1.length:Int) then (
  ((
   (r1[s0.1]?).bind fun x0 =>
   (FN x0 [32,61,32]).bind fun r2 =>
   if (r2.length:Int)=2 then (
    some (.inl s0.2))
   else
   (PA x0).bind fun r0 =>
   ((
    if r0.2 then (
     some (decide (60≤(s0.2.length:Int))))
    else
    some true
   ):Option (Bool)).bind fun t0 =>
   if t0 then (
    some (.inr (.inr (.inr (([]:List aB),false)))))
   else
   chk (s0.2.length+1≤1073741824) <|
   some (.inl (s0.2++[r0.1]))
  ):Option ((List aB)⊕((Nat×List aB)⊕((List aB)⊕(List aB×Bool))))).bind fun t1=>match t1 with
  | .inr z=>some z
  | .inl t2 =>
  some (.inl ((s0.1+1),t2)))
 else
 some (.inr (.inl s0.2))
noncomputable def tM (t1:List aB) (r0:List aA) (s0:Nat×Bool×List aB):Option ((Nat×Bool×List aB)⊕(Bool×List aB)) :=
 if (s0.1:Int) < (t1.length:Int) then (
  ((
   (s0.2.2[s0.1]?).bind fun x1 =>
   (r0[1]?).bind fun x3 =>
   if x1.name=x3 then (
    some (decide ((x1.aC.length:Int) < 8)))
   else
   some false
  ):Option (Bool)).bind fun t2 =>
  ((
   if t2 then (
    (s0.2.2[s0.1]?).bind fun x0 =>
    (r0[0]?).bind fun x2 =>
    chk (x0.aC.length+([x2]:List aA).length≤1073741824) <|
    some (true,(s0.2.2.set s0.1 (⟨x0.name,(x0.aC++([x2]:List aA)),x0.aO,x0.aG⟩:aB))))
   else
   some (s0.2.1,s0.2.2)
  ):Option (Bool×List aB)).bind fun t0 =>
  some (.inl ((s0.1+1),t0.1,t0.2)))
 else
 some (.inr (s0.2.1,s0.2.2))
noncomputable def qP (r1:List aA) (t0:List aB) (s0:Nat×List aB):Option ((Nat×List aB)⊕((List aB)⊕(List aB×Bool))) :=
 chk (-9223372036854775808≤((s0.1:Int)+1)∧((s0.1:Int)+1)≤9223372036854775807) <|
 if ((s0.1:Int)+1) < (r1.length:Int) then (
  ((
   (r1[s0.1]?).bind fun x0 =>
   (FN x0 [32,61,32]).bind fun r0 =>
   if (r0.length:Int)≠2 then (
    some (.inl s0.2))
   else
   (aY (tM t0 r0) (0,false,s0.2)).bind fun eA1 =>
   if eA1.1 then (
    some (.inl eA1.2))
   else
   some (.inr (.inr (.inr (([]:List aB),false))))
  ):Option ((List aB)⊕((Nat×List aB)⊕((List aB)⊕(List aB×Bool))))).bind fun t1=>match t1 with
  | .inr z=>some z
  | .inl t2 =>
  some (.inl ((s0.1+1),t2)))
 else
 some (.inr (.inl s0.2))
noncomputable def PB (s_0:aA):Option (List aB×Bool) :=
 (FN s_0 [10]).bind fun r1 =>
 (aY (qO r1) (0,([]:List aB))).bind fun eA1=>match eA1 with
 | .inr z=>some z
 | .inl t1 =>
 (aY (qP r1 t1) (0,t1)).bind fun eB1=>match eB1 with
 | .inr z=>some z
 | .inl t0 =>
 ((
  (OZ t0).bind fun r0 =>
  if r0≠0 then (
   some (t0,true))
  else
  (RM t0).bind fun r2 =>
  some (t0,decide (r2≠s_0))
 ):Option (List aB×Bool)).bind fun t2 =>
 if t2.2 then (
  some (([]:List aB),false))
 else
 some (t2.1,true)
noncomputable def m4 (l_0:List aB) (b_1:List UInt8):Option (Bool) :=
 ((
  (m17 l_0).bind fun r4 =>
  if r4 then (
   if 2000 < (b_1.length:Int) then (
    some (decide ((b_1.length:Int)≠200001)))
   else
   some false)
  else
  some true
 ):Option (Bool)).bind fun t0 =>
 if t0 then (
  (m16).bind fun r5 =>
  some r5)
 else
 (KS l_0).bind fun r6 =>
 (DH r6).bind fun r1 =>
 (OZ l_0).bind fun r2 =>
 ((
  if r2≠0 then (
   ((
    if r1.2≠r2 then (
     some true)
    else
    some (decide ((r1.1.length:Int)≠0))
   ):Option (Bool)).bind fun t1 =>
   if t1 then (
    some (.inr false))
   else
   some (.inl ()))
  else
  ((
   if r1.2≠0 then (
    some true)
   else
   (RM l_0).bind fun r7 =>
   some (decide (r1.1≠r7))
  ):Option (Bool)).bind fun t2 =>
  if t2 then (
   some (.inr false))
  else
  some (.inl ())
 ):Option ((Unit)⊕Bool)).bind fun t3=>match t3 with
 | .inr z=>some z
 | .inl t7 =>
 chk (([]:List UInt8).length+b_1.length≤1073741824) <|
 (vJ (([]:List UInt8)++b_1)).bind fun r0 =>
 if 200000 < (b_1.length:Int) then (
  ((
   if r0.2=3 then (
    if (r0.1.length:Int)=0 then (
     (m16).bind fun r8 =>
     some r8)
    else
    some false)
   else
   some false
  ):Option (Bool)).bind fun t4 =>
  some t4)
 else
 (PB b_1).bind fun r3 =>
 if r3.2 then (
  ((
   if r0.2=0 then (
    (KS r3.1).bind fun r9 =>
    (GC r0.1 r9).bind fun rA1 =>
    if rA1 then (
     (m16).bind fun rB1 =>
     some rB1)
    else
    some false)
   else
   some false
  ):Option (Bool)).bind fun t5 =>
  some t5)
 else
 ((
  if r0.2=4 then (
   if (r0.1.length:Int)=0 then (
    (m16).bind fun rC1 =>
    some rC1)
   else
   some false)
  else
  some false
 ):Option (Bool)).bind fun t6 =>
 some t6
noncomputable def m31 (l_0:List aB):Option (Bool) :=
 ((
  (RI l_0 60).bind fun r0 =>
  if r0 then (
   (OZ l_0).bind fun r1 =>
   some (decide (r1=0)))
  else
  some false
 ):Option (Bool)).bind fun t0 =>
 some t0
noncomputable def XH (l_0:List aB):Option (Int) :=
 (qC l_0).bind fun r1 =>
 some r1.2
noncomputable def PC (s_0:List aA):Option (List aA) :=
 chk (([]:List aA).length+s_0.length≤1073741824) <|
 some (([]:List aA)++s_0)
noncomputable def TZ (s_0:List aH):Option (List aH) :=
 chk (([]:List aH).length+s_0.length≤1073741824) <|
 some (([]:List aH)++s_0)
noncomputable def ZZ (h_0:aB):Option (aB) :=
 (PC h_0.aC).bind fun r0 =>
 (PC h_0.aO).bind fun r1 =>
 (TZ h_0.aG).bind fun r2 =>
 some (⟨h_0.name,r0,r1,r2⟩:aB)
noncomputable def XI (l_0:List aB) (name:aA):Option (aB×Int) :=
 (qC l_0).bind fun r2 =>
 if r2.2≠0 then (
  some ((⟨[],([]:List aA),([]:List aA),([]:List aH)⟩:aB),r2.2))
 else
 if (lkp r2.1 name).isSome then (
  chk (0≤((lkp r2.1 name).getD (0:Int))) <|
  (l_0[((lkp r2.1 name).getD (0:Int)).toNat]?).bind fun x0 =>
  (ZZ x0).bind fun r0 =>
  some (r0,0))
 else
 some ((⟨[],([]:List aA),([]:List aA),([]:List aH)⟩:aB),7)
noncomputable def UA (x1:aB) (r1:(List (aA×Int))×Int) (s0:Nat×List Int×(List (Int×Bool))):Option ((Nat×List Int×(List (Int×Bool)))⊕(List Int×(List (Int×Bool)))) :=
 if (s0.1:Int) < (x1.aO.length:Int) then (
  (x1.aO[s0.1]?).bind fun x0 =>
  ((
   if (lkp s0.2.2 ((lkp r1.1 x0).getD (0:Int))).getD false then (
    some (s0.2.1,s0.2.2))
   else
   chk (s0.2.1.length+1≤1073741824) <|
   some ((s0.2.1++[((lkp r1.1 x0).getD (0:Int))]),(put s0.2.2 ((lkp r1.1 x0).getD (0:Int)) true))
  ):Option (List Int×(List (Int×Bool)))).bind fun t0 =>
  some (.inl ((s0.1+1),t0.1,t0.2)))
 else
 some (.inr (s0.2.1,s0.2.2))
noncomputable def UB (s1:Int×List Int×(List (Int×Bool))) (l_0:List aB) (r1:(List (aA×Int))×Int) (s0:Nat×List Int×(List (Int×Bool))):Option ((Nat×List Int×(List (Int×Bool)))⊕(List Int×(List (Int×Bool)))) :=
 if (s0.1:Int) < (s1.2.1.length:Int) then (
  (s1.2.1[s0.1]?).bind fun x0 =>
  chk (0≤x0) <|
  (l_0[x0.toNat]?).bind fun x1 =>
  (aY (UA x1 r1) (0,s0.2.1,s0.2.2)).bind fun eA1 =>
  some (.inl ((s0.1+1),eA1.1,eA1.2)))
 else
 some (.inr (s0.2.1,s0.2.2))
noncomputable def UC (l_0:List aB) (r1:(List (aA×Int))×Int) (s0:Int×List Int×(List (Int×Bool))):Option ((Int×List Int×(List (Int×Bool)))⊕((List (Int×Bool)))) :=
 ((
  if 0 < s0.1 then (
   some (decide (0 < (s0.2.1.length:Int))))
  else
  some false
 ):Option (Bool)).bind fun t0 =>
 if t0 then (
  (aY (UB s0 l_0 r1) (0,([]:List Int),s0.2.2)).bind fun eA1 =>
  chk (-9223372036854775808≤(s0.1 - 1)∧(s0.1 - 1)≤9223372036854775807) <|
  some (.inl ((s0.1 - 1),eA1.1,eA1.2)))
 else
 some (.inr s0.2.2)
noncomputable def UD (l_0:List aB) (eA1:(List (Int×Bool))) (name:aA) (s0:Nat×List aA):Option ((Nat×List aA)⊕(List aA)) :=
 if (s0.1:Int) < (l_0.length:Int) then (
  (l_0[s0.1]?).bind fun x0 =>
  ((
   if (lkp eA1 (s0.1:Int)).getD false then (
    chk (s0.2.length+1≤1073741824) <|
    some (s0.2++[x0.name]))
   else
   some s0.2
  ):Option (List aA)).bind fun t0 =>
  some (.inl ((s0.1+1),t0)))
 else
 some (.inr s0.2)
noncomputable def m45 (l_0:List aB) (name:aA) (steps:Int):Option (List aA×Int) :=
 (qC l_0).bind fun r1 =>
 if r1.2≠0 then (
  some (([]:List aA),r1.2))
 else
 (uH steps 0 60).bind fun r0 =>
 if r0 then (
  if (lkp r1.1 name).isSome then (
   (aY (UC l_0 r1) (steps,([((lkp r1.1 name).getD (0:Int))]:List Int),(put ([]:List (Int×Bool)) ((lkp r1.1 name).getD (0:Int)) true))).bind fun eA1 =>
   (aY (UD l_0 eA1 name) (0,([]:List aA))).bind fun eB1 =>
   some (eB1,0))
  else
  some (([]:List aA),7))
 else
 some (([]:List aA),2)
noncomputable def m15  : Option (Bool) :=
 (JC).bind fun r1 =>
 (m18 r1).bind fun r8 =>
 (XI r8.1 [76,97,100,121,32,76,101,101]).bind fun r0 =>
 (m45 r8.1 [67,111,114,110,32,108,97,119,115] 1).bind fun r2 =>
 ((
  if r8.2≠0 then (
   some true)
  else
  if (r8.1.length:Int)≠3 then (
   some true)
  else
  if r0.2≠0 then (
   some true)
  else
  (FJ r0.1 (⟨[65,32,76,101,101],([[76,97,100,121,32,76,101,101],[76,101,101,32,65,110,110]]:List aA),([]:List aA),([(⟨3,7,7⟩:aH),(⟨9,1,2⟩:aH)]:List aH)⟩:aB)).bind fun r4 =>
  if r4 then (
   if r2.2≠0 then (
    some true)
   else
   (AW r2.1 ([[67,111,114,110,32,76,97,119,115],[84,114,97,100,101]]:List aA)).bind fun r5 =>
   some (!r5))
  else
  some true
 ):Option (Bool)).bind fun t0 =>
 if t0 then (
  some false)
 else
 (XI r8.1 [78,111,98,111,100,121]).bind fun r6 =>
 (GB r8.1 0 1).bind fun r7 =>
 (m45 r8.1 [78,111,98,111,100,121] (-1)).bind fun AO =>
 chk (13≤1073741824) <|
 (m18 (List.replicate 13 ([]:List aB))).bind fun r9 =>
 (vJ ([(65:UInt8),(58:UInt8),(32:UInt8),(49:UInt8),(47:UInt8),(50:UInt8),(44:UInt8),(32:UInt8),(49:UInt8),(47:UInt8),(51:UInt8),(10:UInt8)]:List UInt8)).bind fun rA1 =>
 chk (200001≤1073741824) <|
 (vJ (List.replicate 200001 (0:UInt8))).bind fun rB1 =>
 (vJ ([(65:UInt8),(58:UInt8),(32:UInt8),(49:UInt8),(47:UInt8),(48:UInt8),(50:UInt8),(10:UInt8)]:List UInt8)).bind fun rC1 =>
 (vJ ([]:List UInt8)).bind fun r3 =>
 (XH ([(⟨[66],([]:List aA),([]:List aA),([]:List aH)⟩:aB),(⟨[65],([]:List aA),([]:List aA),([]:List aH)⟩:aB)]:List aB)).bind fun rD1 =>
 (XH ([(⟨[65],([[65]]:List aA),([]:List aA),([]:List aH)⟩:aB)]:List aB)).bind fun rE1 =>
 (XH ([(⟨[65],([]:List aA),([[65]]:List aA),([]:List aH)⟩:aB)]:List aB)).bind fun rF1 =>
 ((
  if r6.2=7 then (
   if r7.2=2 then (
    if AO.2=2 then (
     if r9.2=3 then (
      if rA1.2=4 then (
       if rB1.2=3 then (
        if rC1.2=4 then (
         if (r3.1.length:Int)=0 then (
          if r3.2=0 then (
           if rD1=1 then (
            if rE1=6 then (
             if rF1=1 then (
              chk (61≤1073741824) <|
              (XH (List.replicate 61 (⟨[],([]:List aA),([]:List aA),([]:List aH)⟩:aB))).bind fun rG1 =>
              if rG1=3 then (
               (uO [67,111,114,110,32,76,97,119,115] [67,111,114,110,32,108,97,119,115]).bind fun rH1 =>
               if rH1 then (
                (uO [67,111,114,110,32,108,97,119,115] [67,111,114,110,76,97,119,122]).bind fun rI1 =>
                if rI1 then (
                 (uO [76,101,101,32,65,110,110] [65,32,76,101,101]).bind fun rJ1 =>
                 if rJ1 then (
                  some false)
                 else
                 (m16).bind fun rK1 =>
                 some rK1)
                else
                some false)
               else
               some false)
              else
              some false)
             else
             some false)
            else
            some false)
           else
           some false)
          else
          some false)
         else
         some false)
        else
        some false)
       else
       some false)
      else
      some false)
     else
     some false)
    else
    some false)
   else
   some false)
  else
  some false
 ):Option (Bool)).bind fun t1 =>
 some t1
end T11
namespace T11
open Go.Proofs
abbrev aAa:=@Tryz.call100
abbrev aAb:=@Tryz.call101
abbrev aAc:=@Tryz.call102
abbrev KT:=@Tryz.call103
abbrev UE:=@Tryz.call104
abbrev aAd:=@Tryz.call105
abbrev HX:=@Tryz.call106
abbrev UG:=@Tryz.call109
abbrev UH:=@Tryz.call110
abbrev aAe:=@Tryz.call111
abbrev aAf:=@Tryz.call114
abbrev aAg:=@Tryz.call115
abbrev UI:=@Tryz.call116
abbrev UJ:=@Tryz.call117
abbrev aAh:=@Tryz.call118
abbrev aAi:=@Tryz.call119
abbrev aAj:=@Tryz.call120
abbrev aAk:=@Tryz.call121
abbrev aAl:=@Tryz.call122
abbrev aAm:=@Tryz.call123
abbrev UK:=@Tryz.call125
abbrev aAn:=@Tryz.call127
abbrev aAo:=@Tryz.call139
abbrev UL:=@Tryz.call140
abbrev aAp:=@Tryz.call141
abbrev BV:=@Tryz.call146
abbrev PD:=@Tryz.call148
abbrev aAq:=@Tryz.call149
abbrev aAr:=@Tryz.call150
abbrev aAs:=@Tryz.call151
abbrev aAt:=@Tryz.call152
abbrev aAu:=@Tryz.call153
abbrev aAv:=@Tryz.call154
abbrev aAw:=@Tryz.call155
abbrev aAx:=@Tryz.call156
abbrev XJ:=@Tryz.call16
abbrev C17:=@Tryz.call17
abbrev PE:=@Tryz.call179
abbrev C18:=@Tryz.call18
abbrev aAy:=@Tryz.call189
abbrev aAz:=@Tryz.call192
abbrev aA0:=@Tryz.call193
abbrev aA1:=@Tryz.call201
abbrev aA2:=@Tryz.call218
abbrev XK:=@Tryz.call23
abbrev C24:=@Tryz.call24
abbrev C25:=@Tryz.call25
abbrev C26:=@Tryz.call26
abbrev C27:=@Tryz.call27
abbrev C28:=@Tryz.call28
abbrev C29:=@Tryz.call29
abbrev C32:=@Tryz.call32
abbrev C33:=@Tryz.call33
abbrev C35:=@Tryz.call35
abbrev C36:=@Tryz.call36
abbrev C37:=@Tryz.call37
abbrev C38:=@Tryz.call38
abbrev C40:=@Tryz.call40
abbrev C41:=@Tryz.call41
abbrev C42:=@Tryz.call42
abbrev C44:=@Tryz.call44
abbrev C47:=@Tryz.call47
abbrev RN:=@Tryz.call48
abbrev C49:=@Tryz.call49
abbrev XL:=@Tryz.call50
abbrev C51:=@Tryz.call51
abbrev C52:=@Tryz.call52
abbrev RO:=@Tryz.call53
abbrev C54:=@Tryz.call54
abbrev UM:=@Tryz.call55
abbrev C56:=@Tryz.call56
abbrev C57:=@Tryz.call57
abbrev C58:=@Tryz.call58
abbrev C59:=@Tryz.call59
abbrev C62:=@Tryz.call62
abbrev C63:=@Tryz.call63
abbrev C64:=@Tryz.call64
abbrev C65:=@Tryz.call65
abbrev C67:=@Tryz.call67
abbrev UN:=@Tryz.call68
abbrev C69:=@Tryz.call69
abbrev KU:=@Tryz.call70
abbrev C71:=@Tryz.call71
abbrev RP:=@Tryz.call72
abbrev C73:=@Tryz.call73
abbrev XM:=@Tryz.call74
abbrev C76:=@Tryz.call76
abbrev C77:=@Tryz.call77
abbrev C78:=@Tryz.call78
abbrev C79:=@Tryz.call79
abbrev C80:=@Tryz.call80
abbrev C81:=@Tryz.call81
abbrev C82:=@Tryz.call82
abbrev C83:=@Tryz.call83
abbrev C84:=@Tryz.call84
abbrev C85:=@Tryz.call85
abbrev C86:=@Tryz.call86
abbrev C87:=@Tryz.call87
abbrev C88:=@Tryz.call88
abbrev C89:=@Tryz.call89
abbrev C90:=@Tryz.call90
abbrev C91:=@Tryz.call91
abbrev C92:=@Tryz.call92
abbrev C94:=@Tryz.call94
abbrev C95:=@Tryz.call95
abbrev C96:=@Tryz.call96
abbrev KV:=@Tryz.isAgg111
abbrev aBb:=@Tryz.isAgg121
abbrev aBc:=@Tryz.isAgg128
abbrev aBd:=@Tryz.isAgg130
abbrev aBe:=@Tryz.isAgg140
abbrev aBf:=@Tryz.isAgg185
abbrev xL:=@Tryz.isAgg26
abbrev KW:=@Tryz.isAgg27
abbrev G3:=@Tryz.isAgg3
abbrev G37:=@Tryz.isAgg37
abbrev G5:=@Tryz.isAgg5
abbrev hQ:=@Tryz.isAgg50
abbrev MU:=@Tryz.isAgg51
abbrev DK:=@Tryz.isAgg53
abbrev JD:=@Tryz.isAgg55
abbrev zZ:=@Tryz.isAgg62
abbrev xM:=@Tryz.isAgg64
abbrev xZ:=@Tryz.isAgg81
abbrev XN:=@Tryz.isAgg84
abbrev UO:=@Tryz.isAgg85
abbrev HY:=@Tryz.isAgg87
abbrev G9:=@Tryz.isAgg9
abbrev G95:=@Tryz.isAgg95
abbrev KX:=@Tryz.sizeOf111
abbrev UP:=@Tryz.sizeOf121
abbrev XO:=@Tryz.sizeOf26
abbrev MV:=@Tryz.sizeOf27
abbrev Z3:=@Tryz.sizeOf3
abbrev Z37:=@Tryz.sizeOf37
abbrev Z5:=@Tryz.sizeOf5
abbrev eV:=@Tryz.sizeOf50
abbrev JE:=@Tryz.sizeOf51
abbrev gM:=@Tryz.sizeOf53
abbrev nZ:=@Tryz.sizeOf55
abbrev tN:=@Tryz.sizeOf62
abbrev fM:=@Tryz.sizeOf64
abbrev lH:=@Tryz.sizeOf81
abbrev Z84:=@Tryz.sizeOf84
abbrev Z85:=@Tryz.sizeOf85
abbrev PF:=@Tryz.sizeOf87
abbrev Z9:=@Tryz.sizeOf9
abbrev Z95:=@Tryz.sizeOf95
abbrev PG:=@Tryz.underlying111
abbrev UQ:=@Tryz.underlying114
abbrev UR:=@Tryz.underlying121
abbrev US:=@Tryz.underlying125
abbrev AA:=@Tryz.underlying134
abbrev UT:=@Tryz.underlying147
abbrev aBh:=@Tryz.underlying149
abbrev U21:=@Tryz.underlying21
abbrev kA:=@Tryz.underlying25
abbrev oM:=@Tryz.underlying26
abbrev U3:=@Tryz.underlying3
abbrev U30:=@Tryz.underlying30
abbrev qQ:=@Tryz.underlying37
abbrev U5:=@Tryz.underlying5
abbrev dD:=@Tryz.underlying50
abbrev DL:=@Tryz.underlying51
abbrev kB:=@Tryz.underlying53
abbrev nJ:=@Tryz.underlying55
abbrev uI:=@Tryz.underlying62
abbrev dW:=@Tryz.underlying64
abbrev qR:=@Tryz.underlying81
abbrev XP:=@Tryz.underlying84
abbrev U85:=@Tryz.underlying85
abbrev UU:=@Tryz.underlying87
abbrev U9:=@Tryz.underlying9
abbrev RQ:=@Tryz.underlying94
abbrev U96:=@Tryz.underlying96
abbrev yA:=@Tryz.underlying98
end T11
