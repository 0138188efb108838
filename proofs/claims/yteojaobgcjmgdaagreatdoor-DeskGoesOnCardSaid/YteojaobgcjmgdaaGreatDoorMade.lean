/-
  The types and models of the functions of a session,printed by a program of ours;contracts of library functions.
-/
import Derived.Shelf.Strings.Cut
import Derived.Shelf.Strings.Search3
import Derived.Shelf.Strings.Prefix
import Derived.Shelf.Strings.Runes
import Derived.Shelf.Strings.OnBuilder
import Derived.Shelf.Strings.FieldsFuncAny
import Derived.Shelf.Strings.BuilderF
import Derived.Shelf.Small.Strs
import Derived.Shelf.Small.Wraps
import Derived.Shelf.Strconv.AtoiAll
import Derived.Shelf.Strconv.Itoa3
import Derived.Shelf.SlSortCmp.NoneTotal
import Derived.Shelf.LaysM
import Derived.Shelf.LaysC
import Derived.Test.YteojaobgcjmgdaaGreatDoorKitSix
import Derived.Test.YteojaobgcjmgdaaGreatDoorProg
import Derived.Shelf.Spec.SlicesInsert
import Derived.Lib.AppendZerosOnto
import Derived.Laws.NewBlocks
import Derived.Laws.CopyRow
import Derived.Recover
import Derived.Tactics
import Derived.Tactics2
set_option linter.all false
set_option maxHeartbeats 4000000
namespace Go.Proofs
open Go.Shelf Go.RowKit
def Tryz.laysC172_ren:Go.Shelf.Ren:=⟨fun | 172=>87 | 244=>122 | 245=>123 | 247=>174 | 279=>175 | 280=>176 | 281=>177 | 282=>178 | 287=>227 | 316=>228 | 171=>21 | 205=>229 | 321=>269 | 322=>270 | 243=>40 | 246=>57 | 283=>88 | 284=>89 | 285=>90 | 286=>91 | 129=>125 | 317=>124 | 318=>126 | 319=>127 | 320=>128 | 337=>179 | 338=>180 | n=>n,fun | 9=>9 | 3=>3 | 75=>73 | 76=>74 | 4=>4 | 5=>5 | 167=>264 | 37=>39 | 0=>0 | 85=>265 | 2=>2 | 168=>267 | 53=>162 | 175=>303 | 46=>209 | 210=>306 | 127=>113 | 145=>337 | 143=>335 | 21=>21 | 171=>161 | 173=>165 | 212=>206 | 51=>207 | 20=>20 | 213=>208 | 232=>308 | 233=>309 | 80=>85 | n=>n,fun | 15=>2 | 16=>3 | 17=>0 | 18=>4 | 19=>5 | n=>n⟩
theorem Tryz.laysC172:Go.Proofs.LaysC.n172 Tryz.prog Tryz.laysC172_ren:={
 mixed:=by kernel_rfl
 f129:=Tryz.func125.trans (congrArg some (by kernel_rfl))
 f171:=Tryz.func21.trans (congrArg some (by kernel_rfl))
 f172:=Tryz.func87.trans (congrArg some (by kernel_rfl))
 f205:=Tryz.func229.trans (congrArg some (by kernel_rfl))
 f243:=Tryz.func40.trans (congrArg some (by kernel_rfl))
 f244:=Tryz.func122.trans (congrArg some (by kernel_rfl))
 f245:=Tryz.func123.trans (congrArg some (by kernel_rfl))
 f246:=Tryz.func57.trans (congrArg some (by kernel_rfl))
 f247:=Tryz.func174.trans (congrArg some (by kernel_rfl))
 f279:=Tryz.func175.trans (congrArg some (by kernel_rfl))
 f280:=Tryz.func176.trans (congrArg some (by kernel_rfl))
 f281:=Tryz.func177.trans (congrArg some (by kernel_rfl))
 f282:=Tryz.func178.trans (congrArg some (by kernel_rfl))
 f283:=Tryz.func88.trans (congrArg some (by kernel_rfl))
 f284:=Tryz.func89.trans (congrArg some (by kernel_rfl))
 f285:=Tryz.func90.trans (congrArg some (by kernel_rfl))
 f286:=Tryz.func91.trans (congrArg some (by kernel_rfl))
 f287:=Tryz.func227.trans (congrArg some (by kernel_rfl))
 f316:=Tryz.func228.trans (congrArg some (by kernel_rfl))
 f317:=Tryz.func124.trans (congrArg some (by kernel_rfl))
 f318:=Tryz.func126.trans (congrArg some (by kernel_rfl))
 f319:=Tryz.func127.trans (congrArg some (by kernel_rfl))
 f320:=Tryz.func128.trans (congrArg some (by kernel_rfl))
 f321:=Tryz.func269.trans (congrArg some (by kernel_rfl))
 f322:=Tryz.func270.trans (congrArg some (by kernel_rfl))
 f337:=Tryz.func179.trans (congrArg some (by kernel_rfl))
 f338:=Tryz.func180.trans (congrArg some (by kernel_rfl))
 t0:=Tryz.underlying0
 a0:=Tryz.isAgg0
 z0:=Tryz.sizeOf0
 v0:=Tryz.zeroValue0
 t2:=Tryz.underlying2
 a2:=Tryz.isAgg2
 z2:=Tryz.sizeOf2
 v2:=Tryz.zeroValue2
 t3:=Tryz.underlying3
 a3:=Tryz.isAgg3
 z3:=Tryz.sizeOf3
 v3:=Tryz.zeroValue3
 t4:=Tryz.underlying4
 a4:=Tryz.isAgg4
 z4:=Tryz.sizeOf4
 v4:=Tryz.zeroValue4
 t5:=Tryz.underlying5
 a5:=Tryz.isAgg5
 z5:=Tryz.sizeOf5
 v5:=Tryz.zeroValue5
 t9:=Tryz.underlying9
 a9:=Tryz.isAgg9
 z9:=Tryz.sizeOf9
 v9:=Tryz.zeroValue9
 t20:=Tryz.underlying20
 a20:=Tryz.isAgg20
 z20:=Tryz.sizeOf20
 v20:=Tryz.zeroValue20
 t21:=Tryz.underlying21
 a21:=Tryz.isAgg21
 z21:=Tryz.sizeOf21
 v21:=Tryz.zeroValue21
 t37:=Tryz.underlying39
 a37:=Tryz.isAgg39
 z37:=Tryz.sizeOf39
 v37:=Tryz.zeroValue39
 t46:=Tryz.underlying209
 a46:=Tryz.isAgg209
 z46:=Tryz.sizeOf209
 v46:=Tryz.zeroValue209
 t51:=Tryz.underlying207
 a51:=Tryz.isAgg207
 z51:=Tryz.sizeOf207
 v51:=Tryz.zeroValue207
 t53:=Tryz.underlying162
 a53:=Tryz.isAgg162
 z53:=Tryz.sizeOf162
 v53:=Tryz.zeroValue162
 t75:=Tryz.underlying73
 a75:=Tryz.isAgg73
 z75:=Tryz.sizeOf73
 v75:=Tryz.zeroValue73
 t76:=Tryz.underlying74
 a76:=Tryz.isAgg74
 z76:=Tryz.sizeOf74
 v76:=Tryz.zeroValue74
 t85:=Tryz.underlying265
 a85:=Tryz.isAgg265
 z85:=Tryz.sizeOf265
 v85:=Tryz.zeroValue265
 t127:=Tryz.underlying113
 a127:=Tryz.isAgg113
 z127:=Tryz.sizeOf113
 v127:=Tryz.zeroValue113
 t143:=Tryz.underlying335
 a143:=Tryz.isAgg335
 z143:=Tryz.sizeOf335
 v143:=Tryz.zeroValue335
 t145:=Tryz.underlying337
 a145:=Tryz.isAgg337
 z145:=Tryz.sizeOf337
 v145:=Tryz.zeroValue337
 t167:=Tryz.underlying264
 a167:=Tryz.isAgg264
 z167:=Tryz.sizeOf264
 v167:=Tryz.zeroValue264
 t168:=Tryz.underlying267
 a168:=Tryz.isAgg267
 z168:=Tryz.sizeOf267
 v168:=Tryz.zeroValue267
 t171:=Tryz.underlying161
 a171:=Tryz.isAgg161
 z171:=Tryz.sizeOf161
 v171:=Tryz.zeroValue161
 t173:=Tryz.underlying165
 a173:=Tryz.isAgg165
 z173:=Tryz.sizeOf165
 v173:=Tryz.zeroValue165
 t175:=Tryz.underlying303
 a175:=Tryz.isAgg303
 z175:=Tryz.sizeOf303
 v175:=Tryz.zeroValue303
 t210:=Tryz.underlying306
 a210:=Tryz.isAgg306
 z210:=Tryz.sizeOf306
 v210:=Tryz.zeroValue306
 t212:=Tryz.underlying206
 a212:=Tryz.isAgg206
 z212:=Tryz.sizeOf206
 v212:=Tryz.zeroValue206
 t213:=Tryz.underlying208
 a213:=Tryz.isAgg208
 z213:=Tryz.sizeOf208
 t232:=Tryz.underlying308
 a232:=Tryz.isAgg308
 z232:=Tryz.sizeOf308
 v232:=Tryz.zeroValue308
 t233:=Tryz.underlying309
 a233:=Tryz.isAgg309
 z233:=Tryz.sizeOf309
 v233:=Tryz.zeroValue309
 g15:=by kernel_rfl
 g16:=by kernel_rfl
 g17:=by kernel_rfl
 g18:=by kernel_rfl
 g19:=by kernel_rfl
 t80:=Tryz.underlying85
 a80:=Tryz.isAgg85
 z80:=Tryz.sizeOf85
 v80:=Tryz.zeroValue85
 i0:=by kernel_rfl
 i2:=by kernel_rfl
 i3:=by kernel_rfl
 i4:=by kernel_rfl
 i5:=by kernel_rfl
 i9:=by kernel_rfl
 i20:=by kernel_rfl
 i21:=by kernel_rfl
 i37:=by kernel_rfl
 i46:=by kernel_rfl
 i51:=by kernel_rfl
 i53:=by kernel_rfl
 i75:=by kernel_rfl
 i76:=by kernel_rfl
 i80:=by kernel_rfl
 i85:=by kernel_rfl
 i127:=by kernel_rfl
 i143:=by kernel_rfl
 i145:=by kernel_rfl
 i167:=by kernel_rfl
 i168:=by kernel_rfl
 i171:=by kernel_rfl
 i173:=by kernel_rfl
 i175:=by kernel_rfl
 i210:=by kernel_rfl
 i212:=by kernel_rfl
 i232:=by kernel_rfl
 i233:=by kernel_rfl
 m15:=by kernel_rfl
 m16:=by kernel_rfl
 m17:=by kernel_rfl
 m18:=by kernel_rfl
 m19:=by kernel_rfl
 c0:=by kernel_rfl
 c2:=by kernel_rfl
 c3:=by kernel_rfl
 c4:=by kernel_rfl
 c5:=by kernel_rfl
 c9:=by kernel_rfl
 c20:=by kernel_rfl
 c21:=by kernel_rfl
 c37:=by kernel_rfl
 c46:=by kernel_rfl
 c51:=by kernel_rfl
 c53:=by kernel_rfl
 c75:=by kernel_rfl
 c76:=by kernel_rfl
 c80:=by kernel_rfl
 c85:=by kernel_rfl
 c127:=by kernel_rfl
 c143:=by kernel_rfl
 c145:=by kernel_rfl
 c167:=by kernel_rfl
 c168:=by kernel_rfl
 c171:=by kernel_rfl
 c173:=by kernel_rfl
 c175:=by kernel_rfl
 c210:=by kernel_rfl
 c212:=by kernel_rfl
 c213:=by kernel_rfl
 c232:=by kernel_rfl
 c233:=by kernel_rfl }
def Tryz.laysM171_ren:Go.Shelf.Ren:=⟨fun | 171=>21 | 243=>40 | 246=>57 | 283=>88 | 284=>89 | 285=>90 | 286=>91 | 129=>125 | 317=>124 | 318=>126 | 319=>127 | 320=>128 | 337=>179 | 338=>180 | n=>n,fun | 3=>3 | 9=>9 | 2=>2 | 4=>4 | 171=>161 | 0=>0 | 53=>162 | 37=>39 | 5=>5 | 173=>165 | 212=>206 | 51=>207 | 20=>20 | 213=>208 | 46=>209 | 232=>308 | 233=>309 | n=>n,fun | 17=>0 | 18=>4 | 19=>5 | n=>n⟩
theorem Tryz.laysM171:Go.Proofs.LaysM.n171 Tryz.prog Tryz.laysM171_ren:={
 mixed:=by kernel_rfl
 f129:=Tryz.func125.trans (congrArg some (by kernel_rfl))
 f171:=Tryz.func21.trans (congrArg some (by kernel_rfl))
 f243:=Tryz.func40.trans (congrArg some (by kernel_rfl))
 f246:=Tryz.func57.trans (congrArg some (by kernel_rfl))
 f283:=Tryz.func88.trans (congrArg some (by kernel_rfl))
 f284:=Tryz.func89.trans (congrArg some (by kernel_rfl))
 f285:=Tryz.func90.trans (congrArg some (by kernel_rfl))
 f286:=Tryz.func91.trans (congrArg some (by kernel_rfl))
 f317:=Tryz.func124.trans (congrArg some (by kernel_rfl))
 f318:=Tryz.func126.trans (congrArg some (by kernel_rfl))
 f319:=Tryz.func127.trans (congrArg some (by kernel_rfl))
 f320:=Tryz.func128.trans (congrArg some (by kernel_rfl))
 f337:=Tryz.func179.trans (congrArg some (by kernel_rfl))
 f338:=Tryz.func180.trans (congrArg some (by kernel_rfl))
 t0:=Tryz.underlying0
 a0:=Tryz.isAgg0
 z0:=Tryz.sizeOf0
 v0:=Tryz.zeroValue0
 t2:=Tryz.underlying2
 a2:=Tryz.isAgg2
 z2:=Tryz.sizeOf2
 v2:=Tryz.zeroValue2
 t3:=Tryz.underlying3
 a3:=Tryz.isAgg3
 z3:=Tryz.sizeOf3
 v3:=Tryz.zeroValue3
 t4:=Tryz.underlying4
 a4:=Tryz.isAgg4
 z4:=Tryz.sizeOf4
 v4:=Tryz.zeroValue4
 t5:=Tryz.underlying5
 a5:=Tryz.isAgg5
 z5:=Tryz.sizeOf5
 v5:=Tryz.zeroValue5
 t9:=Tryz.underlying9
 a9:=Tryz.isAgg9
 z9:=Tryz.sizeOf9
 v9:=Tryz.zeroValue9
 t20:=Tryz.underlying20
 a20:=Tryz.isAgg20
 z20:=Tryz.sizeOf20
 v20:=Tryz.zeroValue20
 t37:=Tryz.underlying39
 a37:=Tryz.isAgg39
 z37:=Tryz.sizeOf39
 v37:=Tryz.zeroValue39
 t46:=Tryz.underlying209
 a46:=Tryz.isAgg209
 z46:=Tryz.sizeOf209
 v46:=Tryz.zeroValue209
 t51:=Tryz.underlying207
 a51:=Tryz.isAgg207
 z51:=Tryz.sizeOf207
 v51:=Tryz.zeroValue207
 t53:=Tryz.underlying162
 a53:=Tryz.isAgg162
 z53:=Tryz.sizeOf162
 v53:=Tryz.zeroValue162
 t171:=Tryz.underlying161
 a171:=Tryz.isAgg161
 z171:=Tryz.sizeOf161
 v171:=Tryz.zeroValue161
 t173:=Tryz.underlying165
 a173:=Tryz.isAgg165
 z173:=Tryz.sizeOf165
 v173:=Tryz.zeroValue165
 t212:=Tryz.underlying206
 a212:=Tryz.isAgg206
 z212:=Tryz.sizeOf206
 v212:=Tryz.zeroValue206
 t213:=Tryz.underlying208
 a213:=Tryz.isAgg208
 z213:=Tryz.sizeOf208
 t232:=Tryz.underlying308
 a232:=Tryz.isAgg308
 z232:=Tryz.sizeOf308
 v232:=Tryz.zeroValue308
 t233:=Tryz.underlying309
 a233:=Tryz.isAgg309
 z233:=Tryz.sizeOf309
 v233:=Tryz.zeroValue309
 g17:=by kernel_rfl
 g18:=by kernel_rfl
 g19:=by kernel_rfl
 i0:=by kernel_rfl
 i2:=by kernel_rfl
 i3:=by kernel_rfl
 i4:=by kernel_rfl
 i5:=by kernel_rfl
 i9:=by kernel_rfl
 i20:=by kernel_rfl
 i37:=by kernel_rfl
 i46:=by kernel_rfl
 i51:=by kernel_rfl
 i53:=by kernel_rfl
 i171:=by kernel_rfl
 i173:=by kernel_rfl
 i212:=by kernel_rfl
 i232:=by kernel_rfl
 i233:=by kernel_rfl
 m17:=by kernel_rfl
 m18:=by kernel_rfl
 m19:=by kernel_rfl }
def Tryz.lays145_ren:Go.Shelf.Ren:=⟨fun | 145=>49 | 220=>69 | 219=>102 | 217=>142 | 225=>143 | 224=>144 | 267=>145 | 266=>191 | 314=>192 | n=>n,fun | 9=>9 | 4=>4 | 59=>127 | 3=>3 | 5=>5 | 46=>209 | 146=>277 | 51=>207 | n=>n,fun | 1=>1 | n=>n⟩
theorem Tryz.lays145:Go.Proofs.Lays.n145 Tryz.prog Tryz.lays145_ren:={
 mixed:=by kernel_rfl
 f145:=Tryz.func49.trans (congrArg some (by kernel_rfl))
 f217:=Tryz.func142.trans (congrArg some (by kernel_rfl))
 f219:=Tryz.func102.trans (congrArg some (by kernel_rfl))
 f220:=Tryz.func69.trans (congrArg some (by kernel_rfl))
 f224:=Tryz.func144.trans (congrArg some (by kernel_rfl))
 f225:=Tryz.func143.trans (congrArg some (by kernel_rfl))
 f266:=Tryz.func191.trans (congrArg some (by kernel_rfl))
 f267:=Tryz.func145.trans (congrArg some (by kernel_rfl))
 f314:=Tryz.func192.trans (congrArg some (by kernel_rfl))
 t3:=Tryz.underlying3
 a3:=Tryz.isAgg3
 z3:=Tryz.sizeOf3
 v3:=Tryz.zeroValue3
 t4:=Tryz.underlying4
 a4:=Tryz.isAgg4
 z4:=Tryz.sizeOf4
 v4:=Tryz.zeroValue4
 t5:=Tryz.underlying5
 a5:=Tryz.isAgg5
 z5:=Tryz.sizeOf5
 v5:=Tryz.zeroValue5
 t9:=Tryz.underlying9
 a9:=Tryz.isAgg9
 z9:=Tryz.sizeOf9
 v9:=Tryz.zeroValue9
 t46:=Tryz.underlying209
 a46:=Tryz.isAgg209
 z46:=Tryz.sizeOf209
 v46:=Tryz.zeroValue209
 t51:=Tryz.underlying207
 a51:=Tryz.isAgg207
 z51:=Tryz.sizeOf207
 v51:=Tryz.zeroValue207
 t59:=Tryz.underlying127
 a59:=Tryz.isAgg127
 z59:=Tryz.sizeOf127
 v59:=Tryz.zeroValue127
 t146:=Tryz.underlying277
 a146:=Tryz.isAgg277
 z146:=Tryz.sizeOf277
 v146:=Tryz.zeroValue277
 g1:=by kernel_rfl }
def Tryz.lays229_ren:Go.Shelf.Ren:=⟨fun | 229=>164 | n=>n,fun | 9=>9 | 40=>249 | 31=>22 | 152=>292 | 3=>3 | 0=>0 | 4=>4 | 21=>21 | 154=>294 | n=>n,fun | n=>n⟩
theorem Tryz.lays229:Go.Proofs.Lays.n229 Tryz.prog Tryz.lays229_ren:={
 mixed:=by kernel_rfl
 f229:=Tryz.func164.trans (congrArg some (by kernel_rfl))
 t0:=Tryz.underlying0
 a0:=Tryz.isAgg0
 z0:=Tryz.sizeOf0
 v0:=Tryz.zeroValue0
 t3:=Tryz.underlying3
 a3:=Tryz.isAgg3
 z3:=Tryz.sizeOf3
 v3:=Tryz.zeroValue3
 t4:=Tryz.underlying4
 a4:=Tryz.isAgg4
 z4:=Tryz.sizeOf4
 v4:=Tryz.zeroValue4
 t9:=Tryz.underlying9
 a9:=Tryz.isAgg9
 z9:=Tryz.sizeOf9
 v9:=Tryz.zeroValue9
 t21:=Tryz.underlying21
 a21:=Tryz.isAgg21
 z21:=Tryz.sizeOf21
 v21:=Tryz.zeroValue21
 t31:=Tryz.underlying22
 a31:=Tryz.isAgg22
 z31:=Tryz.sizeOf22
 v31:=Tryz.zeroValue22
 t40:=Tryz.underlying249
 a40:=Tryz.isAgg249
 z40:=Tryz.sizeOf249
 v40:=Tryz.zeroValue249
 t152:=Tryz.underlying292
 a152:=Tryz.isAgg292
 z152:=Tryz.sizeOf292
 v152:=Tryz.zeroValue292
 t154:=Tryz.underlying294
 a154:=Tryz.isAgg294
 z154:=Tryz.sizeOf294
 v154:=Tryz.zeroValue294 }
def Tryz.laysF136_ren:Go.Shelf.Ren:=⟨fun | 6=>136 | 15=>186 | 14=>185 | 28=>240 | 29=>125 | 20=>232 | 21=>233 | 22=>234 | 23=>235 | 24=>236 | 25=>237 | 26=>238 | 27=>239 | 46=>271 | 47=>272 | 48=>273 | 49=>274 | 50=>275 | 57=>299 | n=>n,fun | 22=>28 | 24=>91 | 25=>218 | 3=>3 | 39=>209 | 0=>0 | 53=>207 | 55=>162 | 4=>4 | 46=>314 | 45=>313 | 50=>100 | 5=>5 | 9=>9 | 66=>338 | 70=>342 | 76=>356 | 77=>357 | n=>n,fun | n=>n⟩
theorem Tryz.laysF136:Go.Proofs.SlLaysF0.n6 Tryz.prog Tryz.laysF136_ren:={
 mixed:=by kernel_rfl
 f6:=⟨Tryz.f136.name,by decide,Tryz.func136.trans (congrArg some (by kernel_rfl))⟩
 f14:=⟨Tryz.f185.name,by decide,Tryz.func185.trans (congrArg some (by kernel_rfl))⟩
 f15:=Tryz.func186.trans (congrArg some (by kernel_rfl))
 f20:=⟨Tryz.f232.name,by decide,Tryz.func232.trans (congrArg some (by kernel_rfl))⟩
 f21:=⟨Tryz.f233.name,by decide,Tryz.func233.trans (congrArg some (by kernel_rfl))⟩
 f22:=⟨Tryz.f234.name,by decide,Tryz.func234.trans (congrArg some (by kernel_rfl))⟩
 f23:=⟨Tryz.f235.name,by decide,Tryz.func235.trans (congrArg some (by kernel_rfl))⟩
 f24:=⟨Tryz.f236.name,by decide,Tryz.func236.trans (congrArg some (by kernel_rfl))⟩
 f25:=⟨Tryz.f237.name,by decide,Tryz.func237.trans (congrArg some (by kernel_rfl))⟩
 f26:=⟨Tryz.f238.name,by decide,Tryz.func238.trans (congrArg some (by kernel_rfl))⟩
 f27:=⟨Tryz.f239.name,by decide,Tryz.func239.trans (congrArg some (by kernel_rfl))⟩
 f28:=Tryz.func240.trans (congrArg some (by kernel_rfl))
 f29:=Tryz.func125.trans (congrArg some (by kernel_rfl))
 f46:=⟨Tryz.f271.name,by decide,Tryz.func271.trans (congrArg some (by kernel_rfl))⟩
 f47:=Tryz.func272.trans (congrArg some (by kernel_rfl))
 f48:=Tryz.func273.trans (congrArg some (by kernel_rfl))
 f49:=⟨Tryz.f274.name,by decide,Tryz.func274.trans (congrArg some (by kernel_rfl))⟩
 f50:=⟨Tryz.f275.name,by decide,Tryz.func275.trans (congrArg some (by kernel_rfl))⟩
 f57:=⟨Tryz.f299.name,by decide,Tryz.func299.trans (congrArg some (by kernel_rfl))⟩
 t0:=Tryz.underlying0
 a0:=Tryz.isAgg0
 z0:=Tryz.sizeOf0
 v0:=Tryz.zeroValue0
 t3:=Tryz.underlying3
 a3:=Tryz.isAgg3
 z3:=Tryz.sizeOf3
 v3:=Tryz.zeroValue3
 t4:=Tryz.underlying4
 a4:=Tryz.isAgg4
 z4:=Tryz.sizeOf4
 v4:=Tryz.zeroValue4
 t5:=Tryz.underlying5
 a5:=Tryz.isAgg5
 z5:=Tryz.sizeOf5
 v5:=Tryz.zeroValue5
 t9:=Tryz.underlying9
 a9:=Tryz.isAgg9
 z9:=Tryz.sizeOf9
 v9:=Tryz.zeroValue9
 t22:=Tryz.underlying28
 a22:=Tryz.isAgg28
 z22:=Tryz.sizeOf28
 v22:=Tryz.zeroValue28
 t25:=Tryz.underlying218
 a25:=Tryz.isAgg218
 z25:=Tryz.sizeOf218
 v25:=Tryz.zeroValue218
 t39:=Tryz.underlying209
 a39:=Tryz.isAgg209
 z39:=Tryz.sizeOf209
 v39:=Tryz.zeroValue209
 t45:=Tryz.underlying313
 a45:=Tryz.isAgg313
 z45:=Tryz.sizeOf313
 v45:=Tryz.zeroValue313
 t46:=Tryz.underlying314
 a46:=Tryz.isAgg314
 z46:=Tryz.sizeOf314
 v46:=Tryz.zeroValue314
 t50:=Tryz.underlying100
 a50:=Tryz.isAgg100
 z50:=Tryz.sizeOf100
 v50:=Tryz.zeroValue100
 t53:=Tryz.underlying207
 a53:=Tryz.isAgg207
 z53:=Tryz.sizeOf207
 v53:=Tryz.zeroValue207
 t55:=Tryz.underlying162
 a55:=Tryz.isAgg162
 z55:=Tryz.sizeOf162
 v55:=Tryz.zeroValue162
 t66:=Tryz.underlying338
 a66:=Tryz.isAgg338
 z66:=Tryz.sizeOf338
 v66:=Tryz.zeroValue338
 t70:=Tryz.underlying342
 a70:=Tryz.isAgg342
 z70:=Tryz.sizeOf342
 v70:=Tryz.zeroValue342
 t76:=Tryz.underlying356
 a76:=Tryz.isAgg356
 z76:=Tryz.sizeOf356
 v76:=Tryz.zeroValue356
 t77:=Tryz.underlying357
 a77:=Tryz.isAgg357
 z77:=Tryz.sizeOf357
 v77:=Tryz.zeroValue357 }
def Tryz.laysF223_ren:Go.Shelf.Ren:=⟨fun | 6=>223 | 15=>186 | 14=>268 | 28=>240 | 29=>125 | 20=>291 | 21=>292 | 22=>293 | 23=>294 | 24=>295 | 25=>296 | 26=>297 | 27=>298 | 46=>307 | 47=>272 | 48=>273 | 49=>308 | 50=>309 | 57=>312 | n=>n,fun | 22=>30 | 24=>119 | 25=>301 | 3=>3 | 39=>209 | 0=>0 | 53=>207 | 55=>162 | 4=>4 | 46=>314 | 45=>313 | 50=>100 | 5=>5 | 9=>9 | 66=>338 | 70=>342 | 76=>356 | 77=>357 | n=>n,fun | n=>n⟩
theorem Tryz.laysF223:Go.Proofs.SlLaysF0.n6 Tryz.prog Tryz.laysF223_ren:={
 mixed:=by kernel_rfl
 f6:=⟨Tryz.f223.name,by decide,Tryz.func223.trans (congrArg some (by kernel_rfl))⟩
 f14:=⟨Tryz.f268.name,by decide,Tryz.func268.trans (congrArg some (by kernel_rfl))⟩
 f15:=Tryz.func186.trans (congrArg some (by kernel_rfl))
 f20:=⟨Tryz.f291.name,by decide,Tryz.func291.trans (congrArg some (by kernel_rfl))⟩
 f21:=⟨Tryz.f292.name,by decide,Tryz.func292.trans (congrArg some (by kernel_rfl))⟩
 f22:=⟨Tryz.f293.name,by decide,Tryz.func293.trans (congrArg some (by kernel_rfl))⟩
 f23:=⟨Tryz.f294.name,by decide,Tryz.func294.trans (congrArg some (by kernel_rfl))⟩
 f24:=⟨Tryz.f295.name,by decide,Tryz.func295.trans (congrArg some (by kernel_rfl))⟩
 f25:=⟨Tryz.f296.name,by decide,Tryz.func296.trans (congrArg some (by kernel_rfl))⟩
 f26:=⟨Tryz.f297.name,by decide,Tryz.func297.trans (congrArg some (by kernel_rfl))⟩
 f27:=⟨Tryz.f298.name,by decide,Tryz.func298.trans (congrArg some (by kernel_rfl))⟩
 f28:=Tryz.func240.trans (congrArg some (by kernel_rfl))
 f29:=Tryz.func125.trans (congrArg some (by kernel_rfl))
 f46:=⟨Tryz.f307.name,by decide,Tryz.func307.trans (congrArg some (by kernel_rfl))⟩
 f47:=Tryz.func272.trans (congrArg some (by kernel_rfl))
 f48:=Tryz.func273.trans (congrArg some (by kernel_rfl))
 f49:=⟨Tryz.f308.name,by decide,Tryz.func308.trans (congrArg some (by kernel_rfl))⟩
 f50:=⟨Tryz.f309.name,by decide,Tryz.func309.trans (congrArg some (by kernel_rfl))⟩
 f57:=⟨Tryz.f312.name,by decide,Tryz.func312.trans (congrArg some (by kernel_rfl))⟩
 t0:=Tryz.underlying0
 a0:=Tryz.isAgg0
 z0:=Tryz.sizeOf0
 v0:=Tryz.zeroValue0
 t3:=Tryz.underlying3
 a3:=Tryz.isAgg3
 z3:=Tryz.sizeOf3
 v3:=Tryz.zeroValue3
 t4:=Tryz.underlying4
 a4:=Tryz.isAgg4
 z4:=Tryz.sizeOf4
 v4:=Tryz.zeroValue4
 t5:=Tryz.underlying5
 a5:=Tryz.isAgg5
 z5:=Tryz.sizeOf5
 v5:=Tryz.zeroValue5
 t9:=Tryz.underlying9
 a9:=Tryz.isAgg9
 z9:=Tryz.sizeOf9
 v9:=Tryz.zeroValue9
 t22:=Tryz.underlying30
 a22:=Tryz.isAgg30
 z22:=Tryz.sizeOf30
 v22:=Tryz.zeroValue30
 t25:=Tryz.underlying301
 a25:=Tryz.isAgg301
 z25:=Tryz.sizeOf301
 v25:=Tryz.zeroValue301
 t39:=Tryz.underlying209
 a39:=Tryz.isAgg209
 z39:=Tryz.sizeOf209
 v39:=Tryz.zeroValue209
 t45:=Tryz.underlying313
 a45:=Tryz.isAgg313
 z45:=Tryz.sizeOf313
 v45:=Tryz.zeroValue313
 t46:=Tryz.underlying314
 a46:=Tryz.isAgg314
 z46:=Tryz.sizeOf314
 v46:=Tryz.zeroValue314
 t50:=Tryz.underlying100
 a50:=Tryz.isAgg100
 z50:=Tryz.sizeOf100
 v50:=Tryz.zeroValue100
 t53:=Tryz.underlying207
 a53:=Tryz.isAgg207
 z53:=Tryz.sizeOf207
 v53:=Tryz.zeroValue207
 t55:=Tryz.underlying162
 a55:=Tryz.isAgg162
 z55:=Tryz.sizeOf162
 v55:=Tryz.zeroValue162
 t66:=Tryz.underlying338
 a66:=Tryz.isAgg338
 z66:=Tryz.sizeOf338
 v66:=Tryz.zeroValue338
 t70:=Tryz.underlying342
 a70:=Tryz.isAgg342
 z70:=Tryz.sizeOf342
 v70:=Tryz.zeroValue342
 t76:=Tryz.underlying356
 a76:=Tryz.isAgg356
 z76:=Tryz.sizeOf356
 v76:=Tryz.zeroValue356
 t77:=Tryz.underlying357
 a77:=Tryz.isAgg357
 z77:=Tryz.sizeOf357
 v77:=Tryz.zeroValue357 }
def Tryz.lays169_ren:Go.Shelf.Ren:=⟨fun | 169=>27 | n=>n,fun | 70=>68 | 9=>9 | 0=>0 | 72=>70 | 37=>39 | 127=>113 | 3=>3 | 5=>5 | n=>n,fun | n=>n⟩
theorem Tryz.lays169:Go.Proofs.Lays.n169 Tryz.prog Tryz.lays169_ren:={
 mixed:=by kernel_rfl
 f169:=Tryz.func27.trans (congrArg some (by kernel_rfl))
 t0:=Tryz.underlying0
 a0:=Tryz.isAgg0
 z0:=Tryz.sizeOf0
 v0:=Tryz.zeroValue0
 t3:=Tryz.underlying3
 a3:=Tryz.isAgg3
 z3:=Tryz.sizeOf3
 v3:=Tryz.zeroValue3
 t9:=Tryz.underlying9
 a9:=Tryz.isAgg9
 z9:=Tryz.sizeOf9
 v9:=Tryz.zeroValue9
 t37:=Tryz.underlying39
 a37:=Tryz.isAgg39
 z37:=Tryz.sizeOf39
 v37:=Tryz.zeroValue39
 t70:=Tryz.underlying68
 a70:=Tryz.isAgg68
 z70:=Tryz.sizeOf68
 v70:=Tryz.zeroValue68
 t72:=Tryz.underlying70
 a72:=Tryz.isAgg70
 z72:=Tryz.sizeOf70
 v72:=Tryz.zeroValue70
 t127:=Tryz.underlying113
 a127:=Tryz.isAgg113
 z127:=Tryz.sizeOf113
 v127:=Tryz.zeroValue113 }
theorem Tryz.Builder_Extra_169:Builder.Extra Tryz.prog Tryz.lays169_ren:={
 sizeBuilder:=by kernel_rfl
 liesBuilder:=by kernel_rfl
 t5:=Tryz.underlying5
 a5:=Tryz.isAgg5
 z5:=Tryz.sizeOf5
 v5:=Tryz.zeroValue5
 infoByte:=by kernel_rfl
 cellsByte:=by kernel_rfl
 sizeByte:=by kernel_rfl
 neB5:=by decide }
def Tryz.lays156_ren:Go.Shelf.Ren:=⟨fun | 156=>24 | 165=>42 | 166=>23 | 169=>27 | 240=>41 | 241=>59 | 276=>58 | 277=>92 | n=>n,fun | 31=>22 | 9=>9 | 3=>3 | 4=>4 | 0=>0 | 20=>20 | 72=>70 | 76=>74 | 70=>68 | 37=>39 | 75=>73 | 127=>113 | 164=>142 | 5=>5 | 80=>85 | n=>n,fun | n=>n⟩
theorem Tryz.lays156:Go.Proofs.Lays.n156 Tryz.prog Tryz.lays156_ren:={
 mixed:=by kernel_rfl
 f156:=Tryz.func24.trans (congrArg some (by kernel_rfl))
 f165:=Tryz.func42.trans (congrArg some (by kernel_rfl))
 f166:=Tryz.func23.trans (congrArg some (by kernel_rfl))
 f169:=Tryz.func27.trans (congrArg some (by kernel_rfl))
 f240:=Tryz.func41.trans (congrArg some (by kernel_rfl))
 f241:=Tryz.func59.trans (congrArg some (by kernel_rfl))
 f276:=Tryz.func58.trans (congrArg some (by kernel_rfl))
 f277:=Tryz.func92.trans (congrArg some (by kernel_rfl))
 t0:=Tryz.underlying0
 a0:=Tryz.isAgg0
 z0:=Tryz.sizeOf0
 v0:=Tryz.zeroValue0
 t3:=Tryz.underlying3
 a3:=Tryz.isAgg3
 z3:=Tryz.sizeOf3
 v3:=Tryz.zeroValue3
 t4:=Tryz.underlying4
 a4:=Tryz.isAgg4
 z4:=Tryz.sizeOf4
 v4:=Tryz.zeroValue4
 t9:=Tryz.underlying9
 a9:=Tryz.isAgg9
 z9:=Tryz.sizeOf9
 v9:=Tryz.zeroValue9
 t20:=Tryz.underlying20
 a20:=Tryz.isAgg20
 z20:=Tryz.sizeOf20
 v20:=Tryz.zeroValue20
 t31:=Tryz.underlying22
 a31:=Tryz.isAgg22
 z31:=Tryz.sizeOf22
 v31:=Tryz.zeroValue22
 t37:=Tryz.underlying39
 a37:=Tryz.isAgg39
 z37:=Tryz.sizeOf39
 v37:=Tryz.zeroValue39
 t70:=Tryz.underlying68
 a70:=Tryz.isAgg68
 z70:=Tryz.sizeOf68
 v70:=Tryz.zeroValue68
 t72:=Tryz.underlying70
 a72:=Tryz.isAgg70
 z72:=Tryz.sizeOf70
 v72:=Tryz.zeroValue70
 t75:=Tryz.underlying73
 a75:=Tryz.isAgg73
 z75:=Tryz.sizeOf73
 v75:=Tryz.zeroValue73
 t76:=Tryz.underlying74
 a76:=Tryz.isAgg74
 z76:=Tryz.sizeOf74
 v76:=Tryz.zeroValue74
 t127:=Tryz.underlying113
 a127:=Tryz.isAgg113
 z127:=Tryz.sizeOf113
 v127:=Tryz.zeroValue113
 t164:=Tryz.underlying142
 a164:=Tryz.isAgg142
 z164:=Tryz.sizeOf142
 v164:=Tryz.zeroValue142 }
theorem Tryz.Builder_Extra_156:Builder.Extra Tryz.prog Tryz.lays156_ren:={
 sizeBuilder:=by kernel_rfl
 liesBuilder:=by kernel_rfl
 t5:=Tryz.underlying5
 a5:=Tryz.isAgg5
 z5:=Tryz.sizeOf5
 v5:=Tryz.zeroValue5
 infoByte:=by kernel_rfl
 cellsByte:=by kernel_rfl
 sizeByte:=by kernel_rfl
 neB5:=by decide }
end Go.Proofs
namespace Go.Proofs
open Go Pk Go.RowKit
theorem Tryz.srt136:IW Tryz.prog 136 6 :=
  ⟨fun p cap fv w=>AnyF.slices_SortFunc_none Tryz.laysF136 p cap fv w,
   fun α _ enc hk h1 cf hO g cb blk off cap d w eg hc hH hb hs hT=>AnyQ.slices_SortFunc_total Tryz.laysF136 6 Tryz.isAgg91 Tryz.sizeOf91 enc hk h1 cf hO g cb blk off cap d w eg hc hH hb hs hT⟩
theorem Tryz.srt223:IW Tryz.prog 223 5 :=
  ⟨fun p cap fv w=>AnyF.slices_SortFunc_none Tryz.laysF223 p cap fv w,
   fun α _ enc hk h1 cf hO g cb blk off cap d w eg hc hH hb hs hT=>AnyQ.slices_SortFunc_total Tryz.laysF223 5 Tryz.isAgg119 Tryz.sizeOf119 enc hk h1 cf hO g cb blk off cap d w eg hc hH hb hs hT⟩
theorem Tryz.szB:(Tryz.prog.info? 70).map (·.size)=some 2:=by kernel_rfl
theorem Tryz.liesB:liesAt Tryz.prog Tryz.prog.depth 70 (2/Tryz.prog.cellsOf 70) 0 70 1=true:=by kernel_rfl
theorem Tryz.infoU8:(Tryz.prog.info? 5).map (fun i=>(i.zero,i.size,i.bytes))=some (some (.int .u8 0),1,1):=by kernel_rfl
set_option maxHeartbeats 1000000 in
set_option maxRecDepth 100000 in
theorem Tryz.cc_used (b:Nat) (w:World) (h0:w.cell? ⟨b,0,none⟩=some (.pointer (some ⟨b,0,none⟩))):Calls Tryz.prog 41 #[.pointer (some ⟨b,0,none⟩)] w fun e w'=>e=.returned (.tuple #[])∧w'=w:=by
 obtain ⟨j,hj,_⟩:=Option.map_eq_some_iff.1 Tryz.szB
 go_enter Tryz.func41,Tryz.ntmps41
 go_wp2
 rw [Lib.run_neq_ptr_same w _ Tryz.underlying68 hj]
 go_wp2
 go_end0
 exact ⟨rfl,rfl⟩
set_option maxHeartbeats 1000000 in
set_option maxRecDepth 100000 in
theorem Tryz.cc_new (b:Nat) (w:World) (h0:w.cell? ⟨b,0,none⟩=some (.pointer none)) (hs:w.shape? b=some (70,2)) (hz:w.frozen? ⟨b,0,none⟩=false):Calls Tryz.prog 41 #[.pointer (some ⟨b,0,none⟩)] w fun e w'=>e=.returned (.tuple #[])∧w'=w.setCell ⟨b,0,none⟩ (.pointer (some ⟨b,0,none⟩)):=by
 obtain ⟨j,hj,hjs⟩:=Option.map_eq_some_iff.1 Tryz.szB
 go_enter Tryz.func41,Tryz.ntmps41
 go_wp2
 rw [Lib.run_to_unsafe w ⟨b,0,none⟩ Tryz.underlying68 Tryz.underlying142 hj (by rw [hjs];decide) hs (Nat.zero_lt_succ 1)];simp only [Result.andThen];rw [Oper.upon_value]
 go_wp2
 rw [run_callFunc_extern Tryz.func58 (by kernel_rfl) (by kernel_rfl) (by kernel_rfl) (e:=Extern.AbiNoEscape.same) (by kernel_rfl)];rw [Lib.run_noEscape];simp only [Result.andThen];rw [Oper.upon_value]
 go_wp2
 rw [Lib.run_from_unsafe w ⟨b,0,none⟩ Tryz.underlying142 Tryz.underlying68 hj hs Tryz.liesB];simp only [Result.andThen];rw [Oper.upon_value]
 go_wp2
 go_end0
 exact ⟨rfl,rfl⟩
theorem Tryz.cc_any (B b:Nat) (l:List Value) (w:World) (h:Lib.IsBuilderF 70 5 B b l w):Calls Tryz.prog 41 #[.pointer (some ⟨b,0,none⟩)] w fun e w'=>e=.returned (.tuple #[])∧Lib.BuilderAtF 70 5 B b (.pointer (some ⟨b,0,none⟩)) l w'∧Below B w w':=by
 rcases h with h | h
 ·exact (Tryz.cc_new b w h.cell0 h.shape h.frozen0).mono fun e w' hw=>by
   obtain ⟨rfl,rfl⟩:=hw;exact ⟨rfl,h.used _,(Below.refl B w).setCell (p:=⟨b,0,none⟩) h.1 _⟩
 exact (Tryz.cc_used b w h.cell0).mono fun e w' hw=>by
  obtain ⟨rfl,rfl⟩:=hw;exact ⟨rfl,h,Below.refl B _⟩
set_option maxHeartbeats 2000000 in
set_option maxRecDepth 100000 in
theorem Tryz.bWrite (B b:Nat) (l:List Value) (s:ByteArray) (w:World) (h:Lib.IsBuilderF 70 5 B b l w) (hl:l.length+s.size≤140737488355328) (hB:B≤w.heap.size) :
  Calls Tryz.prog 23 #[.pointer (some ⟨b,0,none⟩),.string s] w fun e w'=>e=.returned (.tuple #[.int .i64 s.size,.nilIface])∧Lib.BuilderAtF 70 5 B b (.pointer (some ⟨b,0,none⟩)) (l++Lib.strCells s) w'∧Below B w w':=by
 obtain ⟨i0,hi,hz0,hz1,hz2⟩:=info_parts Tryz.infoU8;have e41:∀ args w,(callFunc 41 args).run Tryz.prog w=.ok (.enter 41 args) w:=enters_of Tryz.func41 (by kernel_rfl) rfl
 go_enter Tryz.func23,Tryz.ntmps23
 go_wp2_with (go_at_fn 41;refine (Tryz.cc_any B b l _ h).mono ?_)
 rintro e w1 ⟨rfl,⟨hBb,v,hbk,hown,hne⟩,hb1⟩;have c0:w1.cell? ⟨b,0,none⟩=some (.pointer (some ⟨b,0,none⟩)):=by rw [Lib.cell_of_heap hbk];rfl
 have c1:w1.cell? ⟨b,1,none⟩=some v:=by rw [Lib.cell_of_heap hbk];rfl
 go_wp2_with (at_builtin;refine Lib.wpList_append_own_stringF _ rfl _ _ 39 9 rfl B 5 i0 Tryz.underlying39 Tryz.underlying9 hi hz0 hz1 hz2 _ _ _ rfl hown s rfl ?c3 ?c4 ?c5 ?_)
 case c3=>unfold maxLen;omega
 case c4=>omega
 case c5=>have:=hb1.size;omega
 intro v' w2 hown' hgrow _;have hlt:b < w1.heap.size:=(Array.getElem?_eq_some_iff.1 hbk).1;have hb2:w2.heap[b]?=some (.cells #[.pointer (some ⟨b,0,none⟩),v] 70 (0,0)):=by
  rw [hgrow.block b hlt (fun e=>hne e.symm)];exact hbk
 have d0:w2.cell? ⟨b,0,none⟩=some (.pointer (some ⟨b,0,none⟩)):=by rw [Lib.cell_of_heap hb2];rfl
 have d1:w2.cell? ⟨b,1,none⟩=some v:=by rw [Lib.cell_of_heap hb2];rfl
 have f1:w2.frozen? ⟨b,1,none⟩=false:=Lib.frozen_of_heap hb2 1;obtain ⟨ao,n',cap,rfl⟩:∃ ao n' cap,v'=.slice ao n' cap:=by
  rcases hown'.2 with ⟨hv,_⟩ | ⟨g,cap,cur,fz,hv,_⟩
  ·exact ⟨_,_,_,hv⟩
  exact ⟨_,_,_,hv⟩
 go_wp2
 go_ret2
 exact ⟨rfl,Lib.BuilderAtF.put (T:=70) (e:=5) hBb hb2 (bs':=l++Lib.strCells s) (by simpa [Lib.strCells_length] using hown') (by decide),(hb1.grown hgrow (by have:=hb1.size;omega) (fun k hk=>(hown.lt k hk).1)).setCell (p:=⟨b,1,none⟩) hBb _⟩
end Go.Proofs
set_option maxHeartbeats 4000000
namespace T12
open Go Go.Proofs Pk Go.RowKit
structure Gv (M:Prop) (H:Hp):Prop where
 gl:Gl M 2 3 0 H
 mx:∃ m,aL H ⟨1,0,none⟩ [.int .i64 m]
theorem Gv.mono {M:Prop} {H K:Hp} (h:Gv M H) (hk:H.le K):Gv M K:=⟨h.gl.mono hk,h.mx.imp fun _ hm=>hm.mono hk⟩
noncomputable def YC (s:aD):Option (Int×Bool):=CD s
noncomputable def YD (n:Int):Option aD:=CE n
noncomputable def QS (s t:aD):Option (aD×aD×Bool):=bN (s.length≤1073741824) (some (Lib.cut s t))
theorem YE (s:aD):(bs s).data.toList=s:=by simp [bs]
theorem w87 {M:Prop} {W:World} {H:Hp} (hH:H.le (hp W)) (hg:Gv M H) (s:aD) {r:Int×Bool} (hr:YC s=some r):Calls Tryz.prog 87 #[.string (bs s)] W (eS M H W (fun v K=>∃ (er1:Value),v=.tuple #[.int .i64 r.1,er1]∧Er er1 r.2)):=by
 unfold YC CD at hr;obtain ⟨hl,hr⟩:=aC hr;obtain rfl:=Option.some.inj hr;have hz:(bs s).size=s.length:=fP s;obtain ⟨e0,h0,i0⟩:=hg.gl.syn;obtain ⟨e1,h1,i1⟩:=hg.gl.rng
 cases h:Lib.atoiAll s with
 | ok v =>
  refine (Any.strconv_Atoi_ok Tryz.laysC172 (bs s) (by omega) v (by rw [YE];exact h) W).mono ?_;rintro e w' ⟨rfl,hw⟩;refine ⟨⟨_,by simp [kA,h],.inl ⟨by simp [kA,h],rfl⟩⟩,?_⟩;rcases hw with rfl | ⟨t,rfl⟩
  ·exact gB.refl _ _
  exact gB.of_below hg.gl.nq (Lib.bytesWorld_below _ _ _)
 | range =>
  refine (Any.strconv_Atoi_range Tryz.laysC172 (bs s) (by omega) (by rw [YE];exact h) e1 W (rV hH h1) i1).mono ?_;rintro e w' ⟨N,rfl,_,_,hb⟩;have hr1:kA s=(Lib.atoiSat s,true):=by simp [kA,h]
  rw [hr1,YE];exact ⟨⟨_,rfl,.inr ⟨rfl,_,_,rfl⟩⟩,gB.of_below hg.gl.nq hb⟩
 | _ =>
  refine (Any.strconv_Atoi_syntax Tryz.laysC172 (bs s) (by omega) (by rw [YE];exact h) e0 W (rV hH h0) i0).mono ?_;rintro e w' ⟨N,rfl,_,_,hb⟩;have hr1:kA s=(0,true):=by simp [kA,h]
  rw [hr1];exact ⟨⟨_,rfl,.inr ⟨rfl,_,_,rfl⟩⟩,gB.of_below hg.gl.nq hb⟩
theorem LZ {W:World} {H:Hp} (hH:H.le (hp W)) {M:Prop} (hg:Gv M H) (n:Int) (h1 : -9223372036854775808≤n) (h2:n≤9223372036854775807):Calls Tryz.prog 21 #[.int .i64 n] W fun e w'=>e=.returned (.string (bs (Lib.itoa n)))∧∃ k os,w'=Sort.grow (W.drewN k) os:=by
 refine (Any.strconv_Itoa Tryz.laysM171 n h1 h2 W (CC (by kernel_rfl) hH hg.gl.tab)).mono ?_;rintro e w' ⟨rfl,k,os,rfl⟩;exact ⟨rfl,k,os,rfl⟩
theorem uK (M:Prop) (W:World) (k:Nat) (os:Array Obj):gB M W (Sort.grow (W.drewN k) os) :=
 ⟨rfl,rfl,rfl,(by show W.heap.size≤(W.heap++os).size;rw [Array.size_append];omega),fun b hb=>Array.getElem?_append_left hb,fun _=>Nat.le_add_right _ _⟩
theorem w21 {M:Prop} {W:World} {H:Hp} (hH:H.le (hp W)) (hg:Gv M H) (n:Int) {r:aD} (hr:YD n=some r):Calls Tryz.prog 21 #[.int .i64 n] W (bU M W (.string (bs r))):=by
 unfold YD CE at hr;obtain ⟨hl,hr⟩:=aC hr;obtain rfl:=Option.some.inj hr;refine (LZ hH hg n hl.1 hl.2).mono ?_;rintro e w' ⟨rfl,k,os,rfl⟩;exact ⟨rfl,uK M W k os⟩
theorem w49 {M:Prop} {W:World} {H:Hp} (hH:H.le (hp W)) (hg:Gv M H) (s t:aD) {r:aD×aD×Bool} (hr:QS s t=some r):Calls Tryz.prog 49 #[.string (bs s),.string (bs t)] W (bU M W (.tuple #[.string (bs r.1),.string (bs r.2.1),.bool r.2.2])):=by
 unfold QS at hr;obtain ⟨hl,hr⟩:=aC hr;obtain rfl:=Option.some.inj hr;obtain ⟨m,hm⟩:=hg.mx;refine (Any.strings_Cut Tryz.lays145 (bs s) (bs t) m W (by rw [fP];omega) (rV hH hm)).mono ?_;rintro e w' ⟨rfl,k,rfl⟩;refine ⟨by simp [bs],?_⟩;exact ⟨rfl,rfl,rfl,Nat.le_refl _,fun _ _=>rfl,fun _=>Nat.le_add_right _ _⟩
noncomputable def SZ (l:List aD) (sep:aD):Option aD:=bN (l.length≤1073741824∧(Lib.join l sep).length≤1073741824) (some (Lib.join l sep))
theorem w24 {M:Prop} {W:World} {H:Hp} (hH:H.le (hp W)) (hg:Gv M H) {ad:Option Addr} {cap:Nat} {l:List aD} (hl:Sl (aG bQ) 1 H ad cap l) (sep:aD) {r:aD} (hr:SZ l sep=some r):Calls Tryz.prog 24 #[.slice ad l.length cap,.string (bs sep)] W (bU M W (.string (bs r))):=by
 unfold SZ at hr;obtain ⟨hb,hr⟩:=aC hr;obtain rfl:=Option.some.inj hr;have hx:(l.map bs).map (·.data.toList)=l:=by
  rw [List.map_map]
  conv=>rhs;rw [← List.map_id l]
  exact List.map_congr_left fun x _=>by simp [bs]
 cases l with
 | nil =>
  refine (Any.strings_Join_none Tryz.lays156 Tryz.Builder_Extra_156 ad cap (bs sep) W).mono ?_;rintro e w' ⟨rfl,rfl⟩;exact ⟨by simp [bs,Lib.join_nil],gB.refl _ _⟩
 | cons x l =>
  obtain ⟨p,cs,rfl,hp0,h2,h3,h4⟩:=hl.2 0 x rfl;obtain ⟨b,o,sp⟩:=p;obtain rfl:sp=none:=hp0;have hcell:∀ (j:Nat) y,((x::l).map bs)[j]?=some y→W.cell? ⟨b,o+j,none⟩=some (.string y):=fun j y hy=>by
   rw [List.getElem?_map,Option.map_eq_some_iff] at hy;obtain ⟨z,hz,rfl⟩:=hy;obtain ⟨p,cs,h1,_,_,h3,h4⟩:=hl.2 j z hz;cases h1;have h4:cs=bQ z:=h4;subst h4;have:=(h3.mono hH).cell (j:=0) (v:=.string (bs z)) rfl;have e:((⟨b,o,none⟩:Addr).add (j*1)).add 0=⟨b,o+j,none⟩:=by rw [Nat.mul_one,dO (i:=j) rfl];rfl
   rwa [e] at this
  have hlt:b < W.heap.size:=by
   have h4:cs=bQ x:=h4;subst h4;obtain ⟨c,ty,fz,h5,_⟩:=h3.2 0 (.string (bs x)) rfl;have h6:=hH _ _ h5;rw [Nat.zero_mul,dO rfl] at h6;exact (Array.getElem?_eq_some_iff.1 h6).1
  have hn:((x::l).map bs).length=(x::l).length:=List.length_map _;have:=Any.strings_Join Tryz.lays156 Tryz.Builder_Extra_156 b o cap ((x::l).map bs) (bs sep) W hcell hlt (by rw [hn];omega) (by rw [hn];exact hl.1.1) (by rw [hx,show (bs sep).data.toList=sep by simp [bs]];omega);rw [hx,hn] at this;refine this.mono ?_;rintro e w' ⟨rfl,hw⟩;exact ⟨by simp [bs],gB.of_below hg.gl.nq hw⟩
end T12
set_option maxHeartbeats 4000000
namespace T12
open Go Go.Proofs Pk Go.RowKit
def uL:Any→aD
 | .i n=>Lib.itoa n
 | .s b=>b
def MA:Any→Prop
 | .i n=>-9223372036854775808≤n∧n≤9223372036854775807
 | .s _=>True
instance:(x:Any)→Decidable (MA x)
 | .i _=>inferInstanceAs (Decidable (_∧_))
 | .s _=>inferInstanceAs (Decidable True)
def gA (l:List Any):aD:=l.flatMap uL
noncomputable def wD (l:List Any):Option aD:=bN ((∀ x∈l,MA x)∧(gA l).length≤1073741824) (some (gA l))
theorem rI {T e:TypeId} {B b:Nat} {p:Value} {l:List Value} {W W':World} (h:Lib.BuilderAtF T e B b p l W) (hb:Below W.heap.size W W'):Lib.BuilderAtF T e B b p l W':=by
 have hlt:=h.lt;obtain ⟨hB,v,hv,hown,hne⟩:=h;exact ⟨hB,v,(hb.block b hlt).trans hv,hown.kept (row:=none) ⟨hb.os,hb.tape,hb.output,hb.size,fun k hk _=>hb.block k hk⟩ (Classical.em _),hne⟩
theorem zT {T e:TypeId} {B b:Nat} {l:List Value} {W W':World} (h:Lib.IsBuilderF T e B b l W) (hb:Below W.heap.size W W'):Lib.IsBuilderF T e B b l W' :=
 h.elim (fun x=>.inl (rI x hb)) (fun x=>.inr (rI x hb))
theorem wE (W:World) (k:Nat) (os:Array Obj):Below W.heap.size W (Sort.grow (W.drewN k) os) :=
 ⟨rfl,rfl,rfl,(by show W.heap.size≤(W.heap++os).size;rw [Array.size_append];omega),fun b hb=>Array.getElem?_append_left hb⟩
theorem wF {l:List Any} {i:Nat} {x:Any} (h:l[i]?=some x):gA (l.take (i+1))=gA (l.take i)++uL x:=by
 unfold gA;rw [List.take_succ,h];simp
theorem CW {l:List Any} (i:Nat):(gA (l.take i)).length≤(gA l).length:=by
 have:gA l=gA (l.take i)++gA (l.drop i):=by unfold gA;rw [← List.flatMap_append,List.take_append_drop]
 rw [this];simp
section
variable {P:Program} {r:Option Nat} {n:aT} {p:List PanicEntry→aT} {a:Act} {w:World} {D:List Deferred} {k:Nat} {L:cC} {ops:Array Oper} {rest:List Oper} {d:Nat} {ty:TypeId} {pos:String} {af:Array Edge}
theorem MB {y:Operand} {xT t:TypeId} {v:Value} {ds:TypeDesc} (hA:aS D k a L) (hd:Nat.blt d k=true) (hu:P.underlying t=some ds) (hds:(match ds with | .interface _=>false | _=>true)=true) (hy:ev L y=some (.iface t v))
  (h:∀ a,aS D k a ((d,.tuple #[v,.bool true])::L)→O P r ops n p rest a w):O P r ops n p (⟨some d,.typeAssert y xT t true,ty,pos,af,none⟩::rest) a w :=
 cO rfl (fun _ h=>by cases h) (w':=w) (v:=.tuple #[v,.bool true]) (by
  simp only [execOp,Instr.typeAssert,hA.eval hy]
  cases ds <;> simp at hds <;> simp [run_underlying hu,Result.andThen]) (h _ (hA.put hd _))
theorem TA {y:Operand} {xT t t':TypeId} {v z:Value} {ds:TypeDesc} (hA:aS D k a L) (hd:Nat.blt d k=true) (hu:P.underlying t=some ds) (hds:(match ds with | .interface _=>false | _=>true)=true) (hz:∀ w,(zeroValue t).run P w=.ok z w) (hne:Nat.beq t' t=false) (hy:ev L y=some (.iface t' v))
  (h:∀ a,aS D k a ((d,.tuple #[z,.bool false])::L)→O P r ops n p rest a w):O P r ops n p (⟨some d,.typeAssert y xT t true,ty,pos,af,none⟩::rest) a w:=by
 have hn:¬t'=t:=NR hne
 exact cO rfl (fun _ h=>by cases h) (w':=w) (v:=.tuple #[z,.bool false]) (by
  simp only [execOp,Instr.typeAssert,hA.eval hy]
  cases ds <;> simp at hds <;> simp [run_underlying hu,Result.andThen,hn,hz]) (h _ (hA.put hd _))
theorem sB {x:Operand} {xs:List Operand} {ats:Array TypeId} {f:FuncId} {vs:List Value} {v:Value} {R:World→Prop} (hA:aS D k a L) (hd:Nat.blt d k=true) (hf:ev L x=some (.func (.func f) #[] #[])) (hxs:kU L xs=some vs)
  (hcall:∀ args w,(callFunc f args).run P w=.ok (.enter f args) w) (hc:Calls P f vs.toArray w fun e w'=>e=.returned v∧R w') (h:∀ w',R w'→∀ a,aS D k a ((d,v)::L)→O P r ops n p rest a w') :
  O P r ops n p (⟨some d,.call ⟨.value x,xs.toArray,ats⟩,ty,pos,af,none⟩::rest) a w:=by
 refine gX rfl (fun _ h=>by cases h) (fK (first:=#[]) (cap:=#[]) hA hf hxs hcall) (by simpa using hc) ?_ ?_ ?_
 ·intro v' w' hv;obtain ⟨e,hR⟩:=hv;cases e;exact h w' hR _ (hA.put hd _)
 ·intro ch w' hv;cases hv.1
 intro w' hv;cases hv.1
end
theorem OF {M:Prop} {W:World} {H:Hp} (hH:H.le (hp W)) (hg:Gv M H) {ad_p0_:Option Addr} {cap_p0_:Nat} {p0_:List Any} (h_p0_:Sl (aG pN) 1 H ad_p0_ cap_p0_ p0_) {r:aD} (hr:wD p0_=some r):Calls Tryz.prog 148 #[.slice ad_p0_ p0_.length cap_p0_] W (bU M W (.string (bs r))):=by
 unfold wD at hr;obtain ⟨⟨hok,hlen⟩,hr⟩:=aC hr;obtain rfl:=Option.some.inj hr;refine enter Tryz.func148 rfl Tryz.ntmps148 rfl ?_;intro a hA;refine gI (dM (fJ hA rfl rfl fun a hA=>?_));refine fW (gI (dM (cO rfl (fun _ h=>by cases h) (w':=W.alloc (.cells #[.pointer none,.slice none 0 0] 70)) (v:=.pointer (some ⟨W.heap.size,0,none⟩)) (by simp [execOp,Instr.alloc,Tryz.zeroValue70,jQ,Value.cells]) ?_)));have hA1:=hA.put (d:=3) rfl (.pointer (some ⟨W.heap.size,0,none⟩));have hB1:Lib.IsBuilderF 70 5 W.heap.size W.heap.size (Lib.byteCells (gA (p0_.take 0))) (W.alloc (.cells #[.pointer none,.slice none 0 0] 70)):=(Lib.fresh_isBuilder 70 5 W).elim (fun h=>.inl (.of h)) (fun h=>.inr (.of h));have hW1:Below W.heap.size W (W.alloc (.cells #[.pointer none,.slice none 0 0] 70)):=(Below.refl _ _).alloc (Nat.le_refl _) _;generalize (a.put (some 3) (.pointer (some ⟨W.heap.size,0,none⟩)))=a1 at hA1 ⊢;generalize (W.alloc (.cells #[.pointer none,.slice none 0 0] 70))=w1 at hB1 hW1 ⊢;refine fW (gI (gI (dM (gD hA1 rfl rfl fun a hA=>LN hA rfl rfl Tryz.underlying279 fun a hA=>gD hA rfl rfl fun a hA=>?_))));refine fW (lT (BK (fun j a w=>∃ i,i≤p0_.length∧j=p0_.length - i∧aS [] 35 a [(3,.pointer (some ⟨W.heap.size,0,none⟩)),(10,.slice ad_p0_ p0_.length cap_p0_),(11,.int .i64 p0_.length),(12,.int .i64 i)]∧Lib.IsBuilderF 70 5 W.heap.size W.heap.size (Lib.byteCells (gA (p0_.take i))) w∧Below W.heap.size W w) (j:=p0_.length) ⟨0,Nat.zero_le _,rfl,hA.cut ⟨rfl,rfl,rfl,rfl,trivial⟩,hB1,hW1⟩ ?_));rintro j a w ⟨i,hil,rfl,hA,hB,hW⟩;have hll:=h_p0_.len;refine gI (dM (RP hA rfl rfl rfl fun a hA=>fW (gI (RI hA rfl (fun hc=>BI ?_) (fun hc=>BJ rfl ?_)))))
 ·have hi:i < p0_.length:=by omega
  obtain ⟨x,hx⟩:∃ x,p0_[i]?=some x:=⟨_,List.getElem?_eq_getElem hi⟩;have hxok:=hok x (List.mem_of_getElem? hx);have hHw:H.le (hp w):=hH.trans (gB.of_below hg.gl.nq hW).le;have hlen2:(gA (p0_.take (i+1))).length≤1073741824:=Nat.le_trans (CW _) hlen;have hst:=wF hx;have hcnt:(gA (p0_.take i)).length+(uL x).length≤1073741824:=by rw [hst,List.length_append] at hlen2;exact hlen2
  have hBle:W.heap.size≤w.heap.size:=hW.size;refine gI (mV (n:=fun a w'=>aS [] 35 a [(3,.pointer (some ⟨W.heap.size,0,none⟩)),(10,.slice ad_p0_ p0_.length cap_p0_),(11,.int .i64 p0_.length),(12,.int .i64 i)]∧Lib.BuilderAtF 70 5 W.heap.size W.heap.size (.pointer (some ⟨W.heap.size,0,none⟩)) (Lib.byteCells (gA (p0_.take i))++Lib.strCells (bs (uL x))) w'∧Below W.heap.size W w') ?_ (fun _ _ h=>h) (fun _ K _ _ hK h=>⟨K,hK,h⟩) (fun _ _ _ h=>h) ?_)
  ·rintro a w' ⟨hA,hB,hW⟩;exact dM (LK hA rfl rfl rfl (by omega) (by omega) fun a hA=>gD hA rfl rfl fun a hA=>fW ⟨p0_.length - (i+1),by omega,i+1,by omega,rfl,hA.cut ⟨rfl,rfl,rfl,by simp [lk],trivial⟩,.inr (by rw [hst];unfold Lib.byteCells at *;rw [List.map_append];exact hB),hW⟩)
  refine lT (gI (dM (ZC hA rfl rfl rfl Tryz.underlying279 Tryz.sizeOf20 (h_p0_.mono (aG.mono _) hHw) rfl rfl hx fun q cs hq hcs hf a hA=>vO (v:=SM x) hA rfl rfl Tryz.isAgg20 hq (by rw [show cs=pN x from hf];rfl) fun a hA=>fJ hA rfl rfl fun a hA=>fW ?_)));clear hf hq hcs
  cases x with
  | i z =>
   refine gI (dM (gD hA rfl rfl fun a hA=>MB hA rfl Tryz.underlying3 rfl rfl fun a hA=>gD hA rfl rfl fun a hA=>lW (vs:=[.int .i64 z,.bool true]) hA rfl rfl rfl fun a hA=>lW (vs:=[.int .i64 z,.bool true]) hA rfl rfl rfl fun a hA=>fJ hA rfl rfl fun a hA=>fJ hA rfl rfl fun a hA=>fW ?_));refine gI (dM (gD hA rfl rfl fun a hA=>fW (jE hA rfl (fun _=>?_) (fun h=>by cases h))));refine dM (gD hA rfl rfl fun a hA=>sB (x:=.func 21) (xs:=[.tmp 22]) hA rfl rfl rfl Tryz.call21 (LZ hHw hg z hxok.1 hxok.2) ?_);rintro w' ⟨k,os,rfl⟩ a hA;have hb:=wE w k os;have hW':=hW.trans (hb.mono hBle);refine sB (x:=.func 23) (xs:=[.tmp 3,.tmp 23]) hA rfl rfl rfl Tryz.call23 (Tryz.bWrite W.heap.size W.heap.size _ (bs (Lib.itoa z)) _ (zT hB hb) ?_ hW'.size) ?_
   ·rw [Lib.byteCells_length,fP];have:(Lib.itoa z).length=(uL (.i z)).length:=rfl;omega
   rintro w' ⟨hB',hW2⟩ a hA;exact fW ⟨hA.cut ⟨rfl,rfl,rfl,rfl,trivial⟩,hB',hW'.trans hW2⟩
  | s z =>
   refine gI (dM (gD hA rfl rfl fun a hA=>TA hA rfl Tryz.underlying3 rfl Tryz.zeroValue3 rfl rfl fun a hA=>gD hA rfl rfl fun a hA=>lW (vs:=[.int .i64 0,.bool false]) hA rfl rfl rfl fun a hA=>lW (vs:=[.int .i64 0,.bool false]) hA rfl rfl rfl fun a hA=>fJ hA rfl rfl fun a hA=>fJ hA rfl rfl fun a hA=>fW ?_));refine gI (dM (gD hA rfl rfl fun a hA=>fW (jE hA rfl (fun h=>by cases h) (fun _=>?_))));refine gI (dM (gD hA rfl rfl fun a hA=>MB hA rfl Tryz.underlying9 rfl rfl fun a hA=>gD hA rfl rfl fun a hA=>lW (vs:=[.string (bs z),.bool true]) hA rfl rfl rfl fun a hA=>lW (vs:=[.string (bs z),.bool true]) hA rfl rfl rfl fun a hA=>fJ hA rfl rfl fun a hA=>fJ hA rfl rfl fun a hA=>fW ?_));refine gI (dM (gD hA rfl rfl fun a hA=>fW (jE hA rfl (fun _=>?_) (fun h=>by cases h))));refine dM (gD hA rfl rfl fun a hA=>sB (x:=.func 23) (xs:=[.tmp 3,.tmp 31]) hA rfl rfl rfl Tryz.call23 (Tryz.bWrite W.heap.size W.heap.size _ (bs z) _ hB ?_ hBle) ?_)
   ·rw [Lib.byteCells_length,fP];have:z.length=(uL (.s z)).length:=rfl;omega
   rintro w' ⟨hB',hW2⟩ a hA;exact fW ⟨hA.cut ⟨rfl,rfl,rfl,rfl,trivial⟩,hB',hW.trans hW2⟩
 have hi:i=p0_.length:=by omega
 subst hi;rw [List.take_length] at hB;refine gI (dM (sB (x:=.func 27) (xs:=[.tmp 3]) hA rfl rfl rfl Tryz.call27 (Any.Builder_String_any_f Tryz.lays169 Tryz.Builder_Extra_169 W.heap.size W.heap.size (gA p0_) w hB hW.size) ?_));rintro w' ⟨hB',hW'⟩ a hA;refine fJ hA rfl rfl fun a hA=>fW (LJ (dT hA rfl rfl ?_));exact ⟨rfl,gB.of_below hg.gl.nq (hW.trans hW')⟩
end T12
namespace T12
open Go Go.Proofs Pk Tryz
theorem J.{u} {α:Sort u} {a:α}:a=a:=rfl
structure aH where
 anchor:Int
 text:aD
 deriving DecidableEq,Inhabited
def aY (x:aH):List Value:=[.int .i64 x.anchor,.string (bs x.text)]
structure eB where
 day:Int
 paragraphs:List aH
 deriving DecidableEq,Inhabited
def bY:Hp→List Value→eB→Prop:=fun H cs x=>∃ (ad0:Option Addr) (cap0:Nat),cs=[.int .i64 x.day,.slice ad0 x.paragraphs.length cap0]∧Sl (aG aY) 2 H ad0 cap0 x.paragraphs
theorem bY.one:oF bY:=fun _ _ _ ⟨_,_,h,_⟩=>by subst h;rfl
theorem bY.mono:gY bY:=fun _ _ _ _ hk ⟨a0,c0,h,f0⟩=>⟨a0,c0,h,f0.mono (aG.mono _) hk⟩
structure bX where
 number:Int
 bound:Int
 height:Int
 width:Int
 parts:List eB
 deriving DecidableEq,Inhabited
def cD:Hp→List Value→bX→Prop:=fun H cs x=>∃ (ad0:Option Addr) (cap0:Nat),cs=[.int .i64 x.number,.int .i64 x.bound,.int .i64 x.height,.int .i64 x.width,.slice ad0 x.parts.length cap0]∧Sl (bY) 2 H ad0 cap0 x.parts
theorem cD.one:oF cD:=fun _ _ _ ⟨_,_,h,_⟩=>by subst h;rfl
theorem cD.mono:gY cD:=fun _ _ _ _ hk ⟨a0,c0,h,f0⟩=>⟨a0,c0,h,f0.mono (bY.mono) hk⟩
structure aP where
 number:Int
 day:Int
 kind:Int
 anchor:Int
 text:aD
 new_:Int
 deriving DecidableEq,Inhabited
def aO (x:aP):List Value:=[.int .i64 x.number,.int .i64 x.day,.int .u8 x.kind,.int .i64 x.anchor,.string (bs x.text),.int .i64 x.new_]
structure gH where
 anchor:Int
 kind:Int
 until_:Int
 deriving DecidableEq,Inhabited
def eP (x:gH):List Value:=[.int .i64 x.anchor,.int .i64 x.kind,.int .i64 x.until_]
structure aR where
 number:Int
 of:Int
 from_:Int
 to_:Int
 words:List aD
 deriving DecidableEq,Inhabited
def bB:Hp→List Value→aR→Prop:=fun H cs x=>∃ (ad0:Option Addr) (cap0:Nat),cs=[.int .i64 x.number,.int .i64 x.of,.int .i64 x.from_,.int .i64 x.to_,.slice ad0 x.words.length cap0]∧Sl (aG bQ) 1 H ad0 cap0 x.words
theorem bB.one:oF bB:=fun _ _ _ ⟨_,_,h,_⟩=>by subst h;rfl
theorem bB.mono:gY bB:=fun _ _ _ _ hk ⟨a0,c0,h,f0⟩=>⟨a0,c0,h,f0.mono (aG.mono _) hk⟩
structure bL where
 words:List aD
 papers:List aR
 deriving DecidableEq,Inhabited
def cL:Hp→List Value→bL→Prop:=fun H cs x=>∃ (ad0:Option Addr) (cap0:Nat) (ad1:Option Addr) (cap1:Nat),cs=[.slice ad0 x.words.length cap0,.slice ad1 x.papers.length cap1]∧Sl (aG bQ) 1 H ad0 cap0 x.words∧Sl (bB) 5 H ad1 cap1 x.papers
theorem cL.one:oF cL:=fun _ _ _ ⟨_,_,_,_,h,_⟩=>by subst h;rfl
theorem cL.mono:gY cL:=fun _ _ _ _ hk ⟨a0,c0,a1,c1,h,f0,f1⟩=>⟨a0,c0,a1,c1,h,f0.mono (aG.mono _) hk,f1.mono (bB.mono) hk⟩
structure bJ where
 e0:List Int
 e1:List Int
 deriving DecidableEq,Inhabited
def iH:Hp→List Value→bJ→Prop:=fun H cs x=>∃ (ad0:Option Addr) (cap0:Nat) (ad1:Option Addr) (cap1:Nat),cs=[.slice ad0 x.e0.length cap0,.slice ad1 x.e1.length cap1]∧Sl (aG (bV .i64)) 1 H ad0 cap0 x.e0∧Sl (aG (bV .i64)) 1 H ad1 cap1 x.e1
theorem iH.one:oF iH:=fun _ _ _ ⟨_,_,_,_,h,_⟩=>by subst h;rfl
theorem iH.mono:gY iH:=fun _ _ _ _ hk ⟨a0,c0,a1,c1,h,f0,f1⟩=>⟨a0,c0,a1,c1,h,f0.mono (aG.mono _) hk,f1.mono (aG.mono _) hk⟩
structure eY where
 a:Int
 b:Int
 deriving DecidableEq,Inhabited
def eL (x:eY):List Value:=[.int .i64 x.a,.int .i64 x.b]
structure dU where
 holder:Int
 for_:Int
 deriving DecidableEq,Inhabited
def eH (x:dU):List Value:=[.int .i64 x.holder,.int .i64 x.for_]
structure aV where
 members:Int
 ayes:bJ
 noes:bJ
 pairs:List eY
 proxies:List dU
 rule:Int
 need:Int
 quorum:Int
 tie:Int
 deriving DecidableEq,Inhabited
structure YF where
 a0:Option Addr
 c0:Nat
 a1:Option Addr
 c1:Nat
 a2:Option Addr
 c2:Nat
 a3:Option Addr
 c3:Nat
 a4:Option Addr
 c4:Nat
 a5:Option Addr
 c5:Nat
abbrev dG (x:aV) (z:YF):List Value:=[.int .i64 x.members,.slice z.a0 x.ayes.e0.length z.c0,.slice z.a1 x.ayes.e1.length z.c1,.slice z.a2 x.noes.e0.length z.c2,.slice z.a3 x.noes.e1.length z.c3,.slice z.a4 x.pairs.length z.c4,.slice z.a5 x.proxies.length z.c5,.int .u8 x.rule,.int .i64 x.need,.int .i64 x.quorum,.int .u8 x.tie]
structure iP (H:Hp) (x:aV) (z:YF):Prop where
 f0:Sl (aG (bV .i64)) 1 H z.a0 z.c0 x.ayes.e0
 f1:Sl (aG (bV .i64)) 1 H z.a1 z.c1 x.ayes.e1
 f2:Sl (aG (bV .i64)) 1 H z.a2 z.c2 x.noes.e0
 f3:Sl (aG (bV .i64)) 1 H z.a3 z.c3 x.noes.e1
 f4:Sl (aG eL) 2 H z.a4 z.c4 x.pairs
 f5:Sl (aG eH) 2 H z.a5 z.c5 x.proxies
theorem iP.mono {H K:Hp} {x:aV} {z:YF} (h:iP H x z) (k:H.le K):iP K x z:=⟨h.f0.mono (aG.mono _) k,h.f1.mono (aG.mono _) k,h.f2.mono (aG.mono _) k,h.f3.mono (aG.mono _) k,h.f4.mono (aG.mono _) k,h.f5.mono (aG.mono _) k⟩
theorem iP.lens {H:Hp} {x:aV} {z:YF} (h:iP H x z):x.ayes.e0.length≤9223372036854775807∧x.ayes.e1.length≤9223372036854775807∧x.noes.e0.length≤9223372036854775807∧x.noes.e1.length≤9223372036854775807∧x.pairs.length≤9223372036854775807∧x.proxies.length≤9223372036854775807:=⟨h.f0.len,h.f1.len,h.f2.len,h.f3.len,h.f4.len,h.f5.len⟩
def bP:Hp→List Value→aV→Prop:=fun H cs x=>∃ z,cs=dG x z∧iP H x z
theorem bP.one:oF bP:=fun _ _ _ ⟨_,h,_⟩=>by subst h;rfl
theorem bP.mono:gY bP:=fun _ _ _ _ hk ⟨z,h,f⟩=>⟨z,h,f.mono hk⟩
structure dE where
 day:Int
 house:Int
 volume:bX
 bound:Bool
 errata:List aP
 hides:List gH
 cites:List aD
 motion:bL
 moved:Bool
 choice:List Int
 division:aV
 open_:Bool
 results:List UInt8
 deriving DecidableEq,Inhabited
structure uM where
 a0:Option Addr
 c0:Nat
 a1:Option Addr
 c1:Nat
 a2:Option Addr
 c2:Nat
 a3:Option Addr
 c3:Nat
 a4:Option Addr
 c4:Nat
 a5:Option Addr
 c5:Nat
 a6:Option Addr
 c6:Nat
 a7:Option Addr
 c7:Nat
 a8:Option Addr
 c8:Nat
 a9:Option Addr
 c9:Nat
 a10:Option Addr
 c10:Nat
 a11:Option Addr
 c11:Nat
 a12:Option Addr
 c12:Nat
 a13:Option Addr
 c13:Nat
abbrev cJ (x:dE) (z:uM):List Value:=[.int .i64 x.day,.int .i64 x.house,.int .i64 x.volume.number,.int .i64 x.volume.bound,.int .i64 x.volume.height,.int .i64 x.volume.width,.slice z.a0 x.volume.parts.length z.c0,.bool x.bound,.slice z.a1 x.errata.length z.c1,.slice z.a2 x.hides.length z.c2,.slice z.a3 x.cites.length z.c3,.slice z.a4 x.motion.words.length z.c4,.slice z.a5 x.motion.papers.length z.c5,.bool x.moved,.slice z.a6 x.choice.length z.c6,.int .i64 x.division.members,.slice z.a7 x.division.ayes.e0.length z.c7,.slice z.a8 x.division.ayes.e1.length z.c8,.slice z.a9 x.division.noes.e0.length z.c9,.slice z.a10 x.division.noes.e1.length z.c10,.slice z.a11 x.division.pairs.length z.c11,.slice z.a12 x.division.proxies.length z.c12,.int .u8 x.division.rule,.int .i64 x.division.need,.int .i64 x.division.quorum,.int .u8 x.division.tie,.bool x.open_,.slice z.a13 x.results.length z.c13]
structure nK (H:Hp) (x:dE) (z:uM):Prop where
 f0:Sl (bY) 2 H z.a0 z.c0 x.volume.parts
 f1:Sl (aG aO) 6 H z.a1 z.c1 x.errata
 f2:Sl (aG eP) 3 H z.a2 z.c2 x.hides
 f3:Sl (aG bQ) 1 H z.a3 z.c3 x.cites
 f4:Sl (aG bQ) 1 H z.a4 z.c4 x.motion.words
 f5:Sl (bB) 5 H z.a5 z.c5 x.motion.papers
 f6:Sl (aG (bV .i64)) 1 H z.a6 z.c6 x.choice
 f7:Sl (aG (bV .i64)) 1 H z.a7 z.c7 x.division.ayes.e0
 f8:Sl (aG (bV .i64)) 1 H z.a8 z.c8 x.division.ayes.e1
 f9:Sl (aG (bV .i64)) 1 H z.a9 z.c9 x.division.noes.e0
 f10:Sl (aG (bV .i64)) 1 H z.a10 z.c10 x.division.noes.e1
 f11:Sl (aG eL) 2 H z.a11 z.c11 x.division.pairs
 f12:Sl (aG eH) 2 H z.a12 z.c12 x.division.proxies
 f13:Sl (aG bT) 1 H z.a13 z.c13 x.results
theorem nK.mono {H K:Hp} {x:dE} {z:uM} (h:nK H x z) (k:H.le K):nK K x z:=⟨h.f0.mono (bY.mono) k,h.f1.mono (aG.mono _) k,h.f2.mono (aG.mono _) k,h.f3.mono (aG.mono _) k,h.f4.mono (aG.mono _) k,h.f5.mono (bB.mono) k,h.f6.mono (aG.mono _) k,h.f7.mono (aG.mono _) k,h.f8.mono (aG.mono _) k,h.f9.mono (aG.mono _) k,h.f10.mono (aG.mono _) k,h.f11.mono (aG.mono _) k,h.f12.mono (aG.mono _) k,h.f13.mono (aG.mono _) k⟩
theorem nK.lens {H:Hp} {x:dE} {z:uM} (h:nK H x z):x.volume.parts.length≤9223372036854775807∧x.errata.length≤9223372036854775807∧x.hides.length≤9223372036854775807∧x.cites.length≤9223372036854775807∧x.motion.words.length≤9223372036854775807∧x.motion.papers.length≤9223372036854775807∧x.choice.length≤9223372036854775807∧x.division.ayes.e0.length≤9223372036854775807∧x.division.ayes.e1.length≤9223372036854775807∧x.division.noes.e0.length≤9223372036854775807∧x.division.noes.e1.length≤9223372036854775807∧x.division.pairs.length≤9223372036854775807∧x.division.proxies.length≤9223372036854775807∧x.results.length≤9223372036854775807:=⟨h.f0.len,h.f1.len,h.f2.len,h.f3.len,h.f4.len,h.f5.len,h.f6.len,h.f7.len,h.f8.len,h.f9.len,h.f10.len,h.f11.len,h.f12.len,h.f13.len⟩
def pS:Hp→List Value→dE→Prop:=fun H cs x=>∃ z,cs=cJ x z∧nK H x z
theorem pS.one:oF pS:=fun _ _ _ ⟨_,h,_⟩=>by subst h;rfl
theorem pS.mono:gY pS:=fun _ _ _ _ hk ⟨z,h,f⟩=>⟨z,h,f.mono hk⟩
structure aI where
 state:dE
 deriving DecidableEq,Inhabited
abbrev CX (x:aI) (z:uM):List Value:=[.int .i64 x.state.day,.int .i64 x.state.house,.int .i64 x.state.volume.number,.int .i64 x.state.volume.bound,.int .i64 x.state.volume.height,.int .i64 x.state.volume.width,.slice z.a0 x.state.volume.parts.length z.c0,.bool x.state.bound,.slice z.a1 x.state.errata.length z.c1,.slice z.a2 x.state.hides.length z.c2,.slice z.a3 x.state.cites.length z.c3,.slice z.a4 x.state.motion.words.length z.c4,.slice z.a5 x.state.motion.papers.length z.c5,.bool x.state.moved,.slice z.a6 x.state.choice.length z.c6,.int .i64 x.state.division.members,.slice z.a7 x.state.division.ayes.e0.length z.c7,.slice z.a8 x.state.division.ayes.e1.length z.c8,.slice z.a9 x.state.division.noes.e0.length z.c9,.slice z.a10 x.state.division.noes.e1.length z.c10,.slice z.a11 x.state.division.pairs.length z.c11,.slice z.a12 x.state.division.proxies.length z.c12,.int .u8 x.state.division.rule,.int .i64 x.state.division.need,.int .i64 x.state.division.quorum,.int .u8 x.state.division.tie,.bool x.state.open_,.slice z.a13 x.state.results.length z.c13]
structure jL (H:Hp) (x:aI) (z:uM):Prop where
 f0:Sl (bY) 2 H z.a0 z.c0 x.state.volume.parts
 f1:Sl (aG aO) 6 H z.a1 z.c1 x.state.errata
 f2:Sl (aG eP) 3 H z.a2 z.c2 x.state.hides
 f3:Sl (aG bQ) 1 H z.a3 z.c3 x.state.cites
 f4:Sl (aG bQ) 1 H z.a4 z.c4 x.state.motion.words
 f5:Sl (bB) 5 H z.a5 z.c5 x.state.motion.papers
 f6:Sl (aG (bV .i64)) 1 H z.a6 z.c6 x.state.choice
 f7:Sl (aG (bV .i64)) 1 H z.a7 z.c7 x.state.division.ayes.e0
 f8:Sl (aG (bV .i64)) 1 H z.a8 z.c8 x.state.division.ayes.e1
 f9:Sl (aG (bV .i64)) 1 H z.a9 z.c9 x.state.division.noes.e0
 f10:Sl (aG (bV .i64)) 1 H z.a10 z.c10 x.state.division.noes.e1
 f11:Sl (aG eL) 2 H z.a11 z.c11 x.state.division.pairs
 f12:Sl (aG eH) 2 H z.a12 z.c12 x.state.division.proxies
 f13:Sl (aG bT) 1 H z.a13 z.c13 x.state.results
theorem jL.mono {H K:Hp} {x:aI} {z:uM} (h:jL H x z) (k:H.le K):jL K x z:=⟨h.f0.mono (bY.mono) k,h.f1.mono (aG.mono _) k,h.f2.mono (aG.mono _) k,h.f3.mono (aG.mono _) k,h.f4.mono (aG.mono _) k,h.f5.mono (bB.mono) k,h.f6.mono (aG.mono _) k,h.f7.mono (aG.mono _) k,h.f8.mono (aG.mono _) k,h.f9.mono (aG.mono _) k,h.f10.mono (aG.mono _) k,h.f11.mono (aG.mono _) k,h.f12.mono (aG.mono _) k,h.f13.mono (aG.mono _) k⟩
theorem jL.lens {H:Hp} {x:aI} {z:uM} (h:jL H x z):x.state.volume.parts.length≤9223372036854775807∧x.state.errata.length≤9223372036854775807∧x.state.hides.length≤9223372036854775807∧x.state.cites.length≤9223372036854775807∧x.state.motion.words.length≤9223372036854775807∧x.state.motion.papers.length≤9223372036854775807∧x.state.choice.length≤9223372036854775807∧x.state.division.ayes.e0.length≤9223372036854775807∧x.state.division.ayes.e1.length≤9223372036854775807∧x.state.division.noes.e0.length≤9223372036854775807∧x.state.division.noes.e1.length≤9223372036854775807∧x.state.division.pairs.length≤9223372036854775807∧x.state.division.proxies.length≤9223372036854775807∧x.state.results.length≤9223372036854775807:=⟨h.f0.len,h.f1.len,h.f2.len,h.f3.len,h.f4.len,h.f5.len,h.f6.len,h.f7.len,h.f8.len,h.f9.len,h.f10.len,h.f11.len,h.f12.len,h.f13.len⟩
def aQ:Hp→List Value→aI→Prop:=fun H cs x=>∃ z,cs=CX x z∧jL H x z
theorem aQ.one:oF aQ:=fun _ _ _ ⟨_,h,_⟩=>by subst h;rfl
theorem aQ.mono:gY aQ:=fun _ _ _ _ hk ⟨z,h,f⟩=>⟨z,h,f.mono hk⟩
structure cN where
 paragraph:aH
 removed:Bool
 deriving DecidableEq,Inhabited
def cA (x:cN):List Value:=[.int .i64 x.paragraph.anchor,.string (bs x.paragraph.text),.bool x.removed]
structure hQ where
 volume:bX
 parts:List (List cN)
 deriving DecidableEq,Inhabited
def jM:Hp→List Value→hQ→Prop:=fun H cs x=>∃ (ad0:Option Addr) (cap0:Nat) (ad1:Option Addr) (cap1:Nat),cs=[.int .i64 x.volume.number,.int .i64 x.volume.bound,.int .i64 x.volume.height,.int .i64 x.volume.width,.slice ad0 x.volume.parts.length cap0,.slice ad1 x.parts.length cap1]∧Sl (bY) 2 H ad0 cap0 x.volume.parts∧Sl (tK (aG cA) 3) 1 H ad1 cap1 x.parts
theorem jM.one:oF jM:=fun _ _ _ ⟨_,_,_,_,h,_⟩=>by subst h;rfl
theorem jM.mono:gY jM:=fun _ _ _ _ hk ⟨a0,c0,a1,c1,h,f0,f1⟩=>⟨a0,c0,a1,c1,h,f0.mono (bY.mono) hk,f1.mono (tK.mono (aG.mono _)) hk⟩
structure pU where
 anchor:Int
 column:Int
 line:Int
 lines:Int
 deriving DecidableEq,Inhabited
structure cZ where
 place:pU
 day:Int
 number:Int
 deriving DecidableEq,Inhabited
def eN (x:cZ):List Value:=[.int .i64 x.place.anchor,.int .i64 x.place.column,.int .i64 x.place.line,.int .i64 x.place.lines,.int .i64 x.day,.int .i64 x.number]
structure fI where
 ayes:Int
 noes:Int
 deriving DecidableEq,Inhabited
def iX (x:fI):List Value:=[.int .i64 x.ayes,.int .i64 x.noes]
structure bE where
 e0:Bool
 e1:Bool
 e2:Bool
 e3:Bool
 e4:Bool
 e5:Bool
 e6:Bool
 e7:Bool
 e8:Bool
 e9:Bool
 e10:Bool
 e11:Bool
 e12:Bool
 e13:Bool
 e14:Bool
 e15:Bool
 e16:Bool
 e17:Bool
 e18:Bool
 e19:Bool
 e20:Bool
 e21:Bool
 e22:Bool
 e23:Bool
 e24:Bool
 e25:Bool
 e26:Bool
 e27:Bool
 e28:Bool
 e29:Bool
 e30:Bool
 e31:Bool
 e32:Bool
 e33:Bool
 e34:Bool
 e35:Bool
 e36:Bool
 e37:Bool
 e38:Bool
 e39:Bool
 deriving Inhabited
def bC (x:bE):List Value:=[.bool x.e0,.bool x.e1,.bool x.e2,.bool x.e3,.bool x.e4,.bool x.e5,.bool x.e6,.bool x.e7,.bool x.e8,.bool x.e9,.bool x.e10,.bool x.e11,.bool x.e12,.bool x.e13,.bool x.e14,.bool x.e15,.bool x.e16,.bool x.e17,.bool x.e18,.bool x.e19,.bool x.e20,.bool x.e21,.bool x.e22,.bool x.e23,.bool x.e24,.bool x.e25,.bool x.e26,.bool x.e27,.bool x.e28,.bool x.e29,.bool x.e30,.bool x.e31,.bool x.e32,.bool x.e33,.bool x.e34,.bool x.e35,.bool x.e36,.bool x.e37,.bool x.e38,.bool x.e39]
def bE.vals (x:bE):List Bool:=[x.e0,x.e1,x.e2,x.e3,x.e4,x.e5,x.e6,x.e7,x.e8,x.e9,x.e10,x.e11,x.e12,x.e13,x.e14,x.e15,x.e16,x.e17,x.e18,x.e19,x.e20,x.e21,x.e22,x.e23,x.e24,x.e25,x.e26,x.e27,x.e28,x.e29,x.e30,x.e31,x.e32,x.e33,x.e34,x.e35,x.e36,x.e37,x.e38,x.e39]
def bE.get (x:bE) (j:Nat):Bool:=x.vals.getD j default
def bE.set (x:bE) (j:Nat) (v:Bool):bE:=⟨if j=0 then v else x.e0,if j=1 then v else x.e1,if j=2 then v else x.e2,if j=3 then v else x.e3,if j=4 then v else x.e4,if j=5 then v else x.e5,if j=6 then v else x.e6,if j=7 then v else x.e7,if j=8 then v else x.e8,if j=9 then v else x.e9,if j=10 then v else x.e10,if j=11 then v else x.e11,if j=12 then v else x.e12,if j=13 then v else x.e13,if j=14 then v else x.e14,if j=15 then v else x.e15,if j=16 then v else x.e16,if j=17 then v else x.e17,if j=18 then v else x.e18,if j=19 then v else x.e19,if j=20 then v else x.e20,if j=21 then v else x.e21,if j=22 then v else x.e22,if j=23 then v else x.e23,if j=24 then v else x.e24,if j=25 then v else x.e25,if j=26 then v else x.e26,if j=27 then v else x.e27,if j=28 then v else x.e28,if j=29 then v else x.e29,if j=30 then v else x.e30,if j=31 then v else x.e31,if j=32 then v else x.e32,if j=33 then v else x.e33,if j=34 then v else x.e34,if j=35 then v else x.e35,if j=36 then v else x.e36,if j=37 then v else x.e37,if j=38 then v else x.e38,if j=39 then v else x.e39⟩
def bE.zero:bE:=⟨false,false,false,false,false,false,false,false,false,false,false,false,false,false,false,false,false,false,false,false,false,false,false,false,false,false,false,false,false,false,false,false,false,false,false,false,false,false,false,false⟩
theorem bE.vset (x:bE) (v:Bool):∀ (j:Nat),j < 40→(x.set j v).vals=x.vals.set j v
 | 0,_=>rfl
 | 1,_=>rfl
 | 2,_=>rfl
 | 3,_=>rfl
 | 4,_=>rfl
 | 5,_=>rfl
 | 6,_=>rfl
 | 7,_=>rfl
 | 8,_=>rfl
 | 9,_=>rfl
 | 10,_=>rfl
 | 11,_=>rfl
 | 12,_=>rfl
 | 13,_=>rfl
 | 14,_=>rfl
 | 15,_=>rfl
 | 16,_=>rfl
 | 17,_=>rfl
 | 18,_=>rfl
 | 19,_=>rfl
 | 20,_=>rfl
 | 21,_=>rfl
 | 22,_=>rfl
 | 23,_=>rfl
 | 24,_=>rfl
 | 25,_=>rfl
 | 26,_=>rfl
 | 27,_=>rfl
 | 28,_=>rfl
 | 29,_=>rfl
 | 30,_=>rfl
 | 31,_=>rfl
 | 32,_=>rfl
 | 33,_=>rfl
 | 34,_=>rfl
 | 35,_=>rfl
 | 36,_=>rfl
 | 37,_=>rfl
 | 38,_=>rfl
 | 39,_=>rfl
 | n+40,h=>absurd h (by omega)
theorem bE.em (x:bE):bC x=x.vals.map (fun v=>Value.bool v):=rfl
theorem bE.st {x:bE} {j:Nat} {v:Bool} (h:j < 40):(bC x).set j (Value.bool v)=bC (x.set j v):=by rw [bE.em,bE.em,bE.vset x v j h,List.map_set]
theorem bE.at {x:bE} {j:Nat} (h:j < 40):(bC x)[j]?=some (Value.bool (x.get j)):=by
 have h2:x.vals[j]?=some (x.get j):=by unfold bE.get;rw [List.getD_eq_getElem?_getD,List.getElem?_eq_getElem (show j < x.vals.length from h)];rfl
 rw [bE.em,List.getElem?_map,h2];rfl
structure dC where
 division:aV
 paired:bE
 may:List (List UInt8)
 deriving Inhabited
def eZ:Hp→List Value→dC→Prop:=fun H cs x=>∃ (ad0:Option Addr) (cap0:Nat) (ad1:Option Addr) (cap1:Nat) (vM:Option Addr) (cap2:Nat) (XX:Option Addr) (cap3:Nat) (ad4:Option Addr) (cap4:Nat) (ad5:Option Addr) (cap5:Nat) (hs6:List fO),cs=(eX (eX [.int .i64 x.division.members,.slice ad0 x.division.ayes.e0.length cap0,.slice ad1 x.division.ayes.e1.length cap1,.slice vM x.division.noes.e0.length cap2,.slice XX x.division.noes.e1.length cap3,.slice ad4 x.division.pairs.length cap4,.slice ad5 x.division.proxies.length cap5,.int .u8 x.division.rule,.int .i64 x.division.need,.int .i64 x.division.quorum,.int .u8 x.division.tie] (bC x.paired)) (iG hs6 x.may))∧Sl (aG (bV .i64)) 1 H ad0 cap0 x.division.ayes.e0∧Sl (aG (bV .i64)) 1 H ad1 cap1 x.division.ayes.e1∧Sl (aG (bV .i64)) 1 H vM cap2 x.division.noes.e0∧Sl (aG (bV .i64)) 1 H XX cap3 x.division.noes.e1∧Sl (aG eL) 2 H ad4 cap4 x.division.pairs∧Sl (aG eH) 2 H ad5 cap5 x.division.proxies∧kB (aG bT) 1 40 H hs6 x.may
theorem eZ.mono:gY eZ:=fun _ _ _ _ hk ⟨a0,c0,a1,c1,a2,c2,a3,c3,a4,c4,a5,c5,s6,h,f0,f1,f2,f3,f4,f5,f6⟩=>⟨a0,c0,a1,c1,a2,c2,a3,c3,a4,c4,a5,c5,s6,h,f0.mono (aG.mono _) hk,f1.mono (aG.mono _) hk,f2.mono (aG.mono _) hk,f3.mono (aG.mono _) hk,f4.mono (aG.mono _) hk,f5.mono (aG.mono _) hk,f6.mono (aG.mono _) hk⟩
structure bA where
 e0:Int
 e1:Int
 e2:Int
 e3:Int
 e4:Int
 e5:Int
 e6:Int
 e7:Int
 e8:Int
 e9:Int
 e10:Int
 e11:Int
 e12:Int
 e13:Int
 e14:Int
 e15:Int
 e16:Int
 e17:Int
 e18:Int
 e19:Int
 e20:Int
 e21:Int
 e22:Int
 e23:Int
 e24:Int
 e25:Int
 e26:Int
 e27:Int
 e28:Int
 e29:Int
 e30:Int
 e31:Int
 e32:Int
 e33:Int
 e34:Int
 e35:Int
 e36:Int
 e37:Int
 e38:Int
 e39:Int
 deriving Inhabited
def bZ (x:bA):List Value:=[.int .u8 x.e0,.int .u8 x.e1,.int .u8 x.e2,.int .u8 x.e3,.int .u8 x.e4,.int .u8 x.e5,.int .u8 x.e6,.int .u8 x.e7,.int .u8 x.e8,.int .u8 x.e9,.int .u8 x.e10,.int .u8 x.e11,.int .u8 x.e12,.int .u8 x.e13,.int .u8 x.e14,.int .u8 x.e15,.int .u8 x.e16,.int .u8 x.e17,.int .u8 x.e18,.int .u8 x.e19,.int .u8 x.e20,.int .u8 x.e21,.int .u8 x.e22,.int .u8 x.e23,.int .u8 x.e24,.int .u8 x.e25,.int .u8 x.e26,.int .u8 x.e27,.int .u8 x.e28,.int .u8 x.e29,.int .u8 x.e30,.int .u8 x.e31,.int .u8 x.e32,.int .u8 x.e33,.int .u8 x.e34,.int .u8 x.e35,.int .u8 x.e36,.int .u8 x.e37,.int .u8 x.e38,.int .u8 x.e39]
def bA.vals (x:bA):List Int:=[x.e0,x.e1,x.e2,x.e3,x.e4,x.e5,x.e6,x.e7,x.e8,x.e9,x.e10,x.e11,x.e12,x.e13,x.e14,x.e15,x.e16,x.e17,x.e18,x.e19,x.e20,x.e21,x.e22,x.e23,x.e24,x.e25,x.e26,x.e27,x.e28,x.e29,x.e30,x.e31,x.e32,x.e33,x.e34,x.e35,x.e36,x.e37,x.e38,x.e39]
def bA.get (x:bA) (j:Nat):Int:=x.vals.getD j default
def bA.set (x:bA) (j:Nat) (v:Int):bA:=⟨if j=0 then v else x.e0,if j=1 then v else x.e1,if j=2 then v else x.e2,if j=3 then v else x.e3,if j=4 then v else x.e4,if j=5 then v else x.e5,if j=6 then v else x.e6,if j=7 then v else x.e7,if j=8 then v else x.e8,if j=9 then v else x.e9,if j=10 then v else x.e10,if j=11 then v else x.e11,if j=12 then v else x.e12,if j=13 then v else x.e13,if j=14 then v else x.e14,if j=15 then v else x.e15,if j=16 then v else x.e16,if j=17 then v else x.e17,if j=18 then v else x.e18,if j=19 then v else x.e19,if j=20 then v else x.e20,if j=21 then v else x.e21,if j=22 then v else x.e22,if j=23 then v else x.e23,if j=24 then v else x.e24,if j=25 then v else x.e25,if j=26 then v else x.e26,if j=27 then v else x.e27,if j=28 then v else x.e28,if j=29 then v else x.e29,if j=30 then v else x.e30,if j=31 then v else x.e31,if j=32 then v else x.e32,if j=33 then v else x.e33,if j=34 then v else x.e34,if j=35 then v else x.e35,if j=36 then v else x.e36,if j=37 then v else x.e37,if j=38 then v else x.e38,if j=39 then v else x.e39⟩
def bA.zero:bA:=⟨0,0,0,0,0,0,0,0,0,0,0,0,0,0,0,0,0,0,0,0,0,0,0,0,0,0,0,0,0,0,0,0,0,0,0,0,0,0,0,0⟩
theorem bA.vset (x:bA) (v:Int):∀ (j:Nat),j < 40→(x.set j v).vals=x.vals.set j v
 | 0,_=>rfl
 | 1,_=>rfl
 | 2,_=>rfl
 | 3,_=>rfl
 | 4,_=>rfl
 | 5,_=>rfl
 | 6,_=>rfl
 | 7,_=>rfl
 | 8,_=>rfl
 | 9,_=>rfl
 | 10,_=>rfl
 | 11,_=>rfl
 | 12,_=>rfl
 | 13,_=>rfl
 | 14,_=>rfl
 | 15,_=>rfl
 | 16,_=>rfl
 | 17,_=>rfl
 | 18,_=>rfl
 | 19,_=>rfl
 | 20,_=>rfl
 | 21,_=>rfl
 | 22,_=>rfl
 | 23,_=>rfl
 | 24,_=>rfl
 | 25,_=>rfl
 | 26,_=>rfl
 | 27,_=>rfl
 | 28,_=>rfl
 | 29,_=>rfl
 | 30,_=>rfl
 | 31,_=>rfl
 | 32,_=>rfl
 | 33,_=>rfl
 | 34,_=>rfl
 | 35,_=>rfl
 | 36,_=>rfl
 | 37,_=>rfl
 | 38,_=>rfl
 | 39,_=>rfl
 | n+40,h=>absurd h (by omega)
theorem bA.em (x:bA):bZ x=x.vals.map (fun v=>Value.int .u8 v):=rfl
theorem bA.st {x:bA} {j:Nat} {v:Int} (h:j < 40):(bZ x).set j (Value.int .u8 v)=bZ (x.set j v):=by rw [bA.em,bA.em,bA.vset x v j h,List.map_set]
theorem bA.at {x:bA} {j:Nat} (h:j < 40):(bZ x)[j]?=some (Value.int .u8 (x.get j)):=by
 have h2:x.vals[j]?=some (x.get j):=by unfold bA.get;rw [List.getD_eq_getElem?_getD,List.getElem?_eq_getElem (show j < x.vals.length from h)];rfl
 rw [bA.em,List.getElem?_map,h2];rfl
structure bG where
 number:Int
 index:Int
 deriving DecidableEq,Inhabited
def cB (x:bG):List Value:=[.int .i64 x.number,.int .i64 x.index]
structure cQ where
 many:Int
 text:Bool
 do_:Option Nat
 deriving DecidableEq,Inhabited
def dZ (x:cQ):List Value:=[.int .i64 x.many,.bool x.text,rH x.do_]
structure dD where
 e0:Int
 e1:Int
 e2:Int
 e3:Int
 e4:Int
 e5:Int
 deriving Inhabited
def fU (x:dD):List Value:=[.int .u8 x.e0,.int .u8 x.e1,.int .u8 x.e2,.int .u8 x.e3,.int .u8 x.e4,.int .u8 x.e5]
def dD.vals (x:dD):List Int:=[x.e0,x.e1,x.e2,x.e3,x.e4,x.e5]
def dD.get (x:dD) (j:Nat):Int:=x.vals.getD j default
def dD.set (x:dD) (j:Nat) (v:Int):dD:=⟨if j=0 then v else x.e0,if j=1 then v else x.e1,if j=2 then v else x.e2,if j=3 then v else x.e3,if j=4 then v else x.e4,if j=5 then v else x.e5⟩
def dD.zero:dD:=⟨0,0,0,0,0,0⟩
theorem dD.vset (x:dD) (v:Int):∀ (j:Nat),j < 6→(x.set j v).vals=x.vals.set j v
 | 0,_=>rfl
 | 1,_=>rfl
 | 2,_=>rfl
 | 3,_=>rfl
 | 4,_=>rfl
 | 5,_=>rfl
 | n+6,h=>absurd h (by omega)
theorem dD.em (x:dD):fU x=x.vals.map (fun v=>Value.int .u8 v):=rfl
theorem dD.st {x:dD} {j:Nat} {v:Int} (h:j < 6):(fU x).set j (Value.int .u8 v)=fU (x.set j v):=by rw [dD.em,dD.em,dD.vset x v j h,List.map_set]
theorem dD.at {x:dD} {j:Nat} (h:j < 6):(fU x)[j]?=some (Value.int .u8 (x.get j)):=by
 have h2:x.vals[j]?=some (x.get j):=by unfold dD.get;rw [List.getD_eq_getElem?_getD,List.getElem?_eq_getElem (show j < x.vals.length from h)];rfl
 rw [dD.em,List.getElem?_map,h2];rfl
theorem mixed:prog.follows .mixedOrders=true:=by kernel_rfl
theorem B27:dQ prog 27 [.int .i64 0,.int .i64 0,.int .i64 0,.int .i64 0,.slice none 0 0] #[(0,1),(1,1),(2,1),(3,1),(4,1)]:=⟨⟨.agg #[.int .i64 0,.int .i64 0,.int .i64 0,.int .i64 0,.slice none 0 0],rfl,zeroValue27⟩,⟨_,underlying27,fun _=>by kernel_rfl⟩⟩
theorem B32:dQ prog 32 [.slice none 0 0,.slice none 0 0] #[(0,1),(1,1)]:=⟨⟨.agg #[.slice none 0 0,.slice none 0 0],rfl,zeroValue32⟩,⟨_,underlying32,fun _=>by kernel_rfl⟩⟩
theorem B38:dQ prog 38 [.int .i64 0,.slice none 0 0,.slice none 0 0,.slice none 0 0,.slice none 0 0,.slice none 0 0,.slice none 0 0,.int .u8 0,.int .i64 0,.int .i64 0,.int .u8 0] #[(0,1),(1,2),(3,2),(5,1),(6,1),(7,1),(8,1),(9,1),(10,1)]:=⟨⟨.agg #[.int .i64 0,.slice none 0 0,.slice none 0 0,.slice none 0 0,.slice none 0 0,.slice none 0 0,.slice none 0 0,.int .u8 0,.int .i64 0,.int .i64 0,.int .u8 0],rfl,zeroValue38⟩,⟨_,underlying38,fun _=>by kernel_rfl⟩⟩
theorem B41:dQ prog 41 [.int .i64 0,.int .i64 0,.int .i64 0,.int .i64 0,.int .i64 0,.int .i64 0,.slice none 0 0,.bool false,.slice none 0 0,.slice none 0 0,.slice none 0 0,.slice none 0 0,.slice none 0 0,.bool false,.slice none 0 0,.int .i64 0,.slice none 0 0,.slice none 0 0,.slice none 0 0,.slice none 0 0,.slice none 0 0,.slice none 0 0,.int .u8 0,.int .i64 0,.int .i64 0,.int .u8 0,.bool false,.slice none 0 0] #[(0,1),(1,1),(2,5),(7,1),(8,1),(9,1),(10,1),(11,2),(13,1),(14,1),(15,11),(26,1),(27,1)]:=⟨⟨.agg #[.int .i64 0,.int .i64 0,.int .i64 0,.int .i64 0,.int .i64 0,.int .i64 0,.slice none 0 0,.bool false,.slice none 0 0,.slice none 0 0,.slice none 0 0,.slice none 0 0,.slice none 0 0,.bool false,.slice none 0 0,.int .i64 0,.slice none 0 0,.slice none 0 0,.slice none 0 0,.slice none 0 0,.slice none 0 0,.slice none 0 0,.int .u8 0,.int .i64 0,.int .i64 0,.int .u8 0,.bool false,.slice none 0 0],rfl,zeroValue41⟩,⟨_,underlying41,fun _=>by kernel_rfl⟩⟩
theorem B67:dQ prog 67 [.int .i64 0,.int .i64 0,.int .i64 0,.int .i64 0,.int .i64 0,.int .i64 0,.slice none 0 0,.bool false,.slice none 0 0,.slice none 0 0,.slice none 0 0,.slice none 0 0,.slice none 0 0,.bool false,.slice none 0 0,.int .i64 0,.slice none 0 0,.slice none 0 0,.slice none 0 0,.slice none 0 0,.slice none 0 0,.slice none 0 0,.int .u8 0,.int .i64 0,.int .i64 0,.int .u8 0,.bool false,.slice none 0 0] #[(0,28)]:=⟨⟨.agg #[.int .i64 0,.int .i64 0,.int .i64 0,.int .i64 0,.int .i64 0,.int .i64 0,.slice none 0 0,.bool false,.slice none 0 0,.slice none 0 0,.slice none 0 0,.slice none 0 0,.slice none 0 0,.bool false,.slice none 0 0,.int .i64 0,.slice none 0 0,.slice none 0 0,.slice none 0 0,.slice none 0 0,.slice none 0 0,.slice none 0 0,.int .u8 0,.int .i64 0,.int .i64 0,.int .u8 0,.bool false,.slice none 0 0],rfl,zeroValue67⟩,⟨_,underlying67,fun _=>by kernel_rfl⟩⟩
theorem B82:dQ prog 82 [.int .i64 0,.int .i64 0,.int .i64 0,.int .i64 0] #[(0,1),(1,1),(2,1),(3,1)]:=⟨⟨.agg #[.int .i64 0,.int .i64 0,.int .i64 0,.int .i64 0],rfl,zeroValue82⟩,⟨_,underlying82,fun _=>by kernel_rfl⟩⟩
theorem B91:dQ prog 91 [.int .i64 0,.int .i64 0,.int .u8 0,.int .i64 0,.string (bs []),.int .i64 0] #[(0,1),(1,1),(2,1),(3,1),(4,1),(5,1)]:=⟨⟨.agg #[.int .i64 0,.int .i64 0,.int .u8 0,.int .i64 0,.string (bs []),.int .i64 0],rfl,zeroValue91⟩,⟨_,underlying91,fun _=>by kernel_rfl⟩⟩
theorem B93:dQ prog 93 [.int .i64 0,.int .i64 0,.int .i64 0] #[(0,1),(1,1),(2,1)]:=⟨⟨.agg #[.int .i64 0,.int .i64 0,.int .i64 0],rfl,zeroValue93⟩,⟨_,underlying93,fun _=>by kernel_rfl⟩⟩
theorem B109:dQ prog 109 [.int .i64 0,.int .i64 0,.int .i64 0,.int .i64 0,.int .i64 0,.int .i64 0] #[(0,4),(4,1),(5,1)]:=⟨⟨.agg #[.int .i64 0,.int .i64 0,.int .i64 0,.int .i64 0,.int .i64 0,.int .i64 0],rfl,zeroValue109⟩,⟨_,underlying109,fun _=>by kernel_rfl⟩⟩
theorem B115:dQ prog 115 [.int .i64 0,.slice none 0 0] #[(0,1),(1,1)]:=⟨⟨.agg #[.int .i64 0,.slice none 0 0],rfl,zeroValue115⟩,⟨_,underlying115,fun _=>by kernel_rfl⟩⟩
theorem B117:dQ prog 117 [.int .i64 0,.string (bs [])] #[(0,1),(1,1)]:=⟨⟨.agg #[.int .i64 0,.string (bs [])],rfl,zeroValue117⟩,⟨_,underlying117,fun _=>by kernel_rfl⟩⟩
theorem B119:dQ prog 119 [.int .i64 0,.int .i64 0,.int .i64 0,.int .i64 0,.slice none 0 0] #[(0,1),(1,1),(2,1),(3,1),(4,1)]:=⟨⟨.agg #[.int .i64 0,.int .i64 0,.int .i64 0,.int .i64 0,.slice none 0 0],rfl,zeroValue119⟩,⟨_,underlying119,fun _=>by kernel_rfl⟩⟩
theorem B121:dQ prog 121 [.int .i64 0,.int .i64 0] #[(0,1),(1,1)]:=⟨⟨.agg #[.int .i64 0,.int .i64 0],rfl,zeroValue121⟩,⟨_,underlying121,fun _=>by kernel_rfl⟩⟩
theorem B126:dQ prog 126 [.int .i64 0] #[(0,1)]:=⟨⟨.agg #[.int .i64 0],rfl,zeroValue126⟩,⟨_,underlying126,fun _=>by kernel_rfl⟩⟩
theorem B131:dQ prog 131 [.int .i64 0,.bool false,.nilFunc] #[(0,1),(1,1),(2,1)]:=⟨⟨.agg #[.int .i64 0,.bool false,.nilFunc],rfl,zeroValue131⟩,⟨_,underlying131,fun _=>by kernel_rfl⟩⟩
theorem B153:dQ prog 153 [.int .i64 0,.int .i64 0,.int .i64 0,.int .i64 0,.slice none 0 0,.slice none 0 0] #[(0,5),(5,1)]:=⟨⟨.agg #[.int .i64 0,.int .i64 0,.int .i64 0,.int .i64 0,.slice none 0 0,.slice none 0 0],rfl,zeroValue153⟩,⟨_,underlying153,fun _=>by kernel_rfl⟩⟩
theorem B156:dQ prog 156 [.int .i64 0,.string (bs []),.bool false] #[(0,2),(2,1)]:=⟨⟨.agg #[.int .i64 0,.string (bs []),.bool false],rfl,zeroValue156⟩,⟨_,underlying156,fun _=>by kernel_rfl⟩⟩
theorem B175:dQ prog 175 [.nilFunc] #[(0,1)]:=⟨⟨.agg #[.nilFunc],rfl,zeroValue175⟩,⟨_,underlying175,fun _=>by kernel_rfl⟩⟩
theorem B233:dQ prog 233 (eX (eX [.int .i64 0,.slice none 0 0,.slice none 0 0,.slice none 0 0,.slice none 0 0,.slice none 0 0,.slice none 0 0,.int .u8 0,.int .i64 0,.int .i64 0,.int .u8 0] (bC bE.zero)) (iG (List.replicate 40 ((none,0):fO)) (List.replicate 40 ([]:List UInt8)))) #[(0,11),(11,40),(51,40)]:=⟨⟨.agg (eX (eX [.int .i64 0,.slice none 0 0,.slice none 0 0,.slice none 0 0,.slice none 0 0,.slice none 0 0,.slice none 0 0,.int .u8 0,.int .i64 0,.int .i64 0,.int .u8 0] (bC bE.zero)) (iG (List.replicate 40 ((none,0):fO)) (List.replicate 40 ([]:List UInt8)))).toArray,rfl,zeroValue233⟩,⟨_,underlying233,fun _=>by kernel_rfl⟩⟩
theorem B240:uD prog 240 5 (bZ bA.zero) 1:=⟨⟨.agg (bZ bA.zero).toArray,rfl,zeroValue240⟩,⟨_,underlying240⟩,sizeOf5⟩
theorem B254:dQ prog 254 [.int .i64 0,.nilFunc] #[(0,1),(1,1)]:=⟨⟨.agg #[.int .i64 0,.nilFunc],rfl,zeroValue254⟩,⟨_,underlying254,fun _=>by kernel_rfl⟩⟩
theorem B259:dQ prog 259 [.int .i64 0,.int .i64 0] #[(0,1),(1,1)]:=⟨⟨.agg #[.int .i64 0,.int .i64 0],rfl,zeroValue259⟩,⟨_,underlying259,fun _=>by kernel_rfl⟩⟩
theorem B286:dQ prog 286 [.nilFunc] #[(0,1)]:=⟨⟨.agg #[.nilFunc],rfl,zeroValue286⟩,⟨_,underlying286,fun _=>by kernel_rfl⟩⟩
theorem E22:dH prog 22 9 [.string (bs [])] 1 16:=⟨underlying22,⟨_,.string (bs []),eC type9,rfl,rfl,rfl,rfl⟩,rfl,by decide⟩
theorem E25:dH prog 25 115 [.int .i64 0,.slice none 0 0] 2 32:=⟨underlying25,⟨_,.agg #[.int .i64 0,.slice none 0 0],eC type115,rfl,rfl,rfl,rfl⟩,rfl,by decide⟩
theorem E28:dH prog 28 91 [.int .i64 0,.int .i64 0,.int .u8 0,.int .i64 0,.string (bs []),.int .i64 0] 6 56:=⟨underlying28,⟨_,.agg #[.int .i64 0,.int .i64 0,.int .u8 0,.int .i64 0,.string (bs []),.int .i64 0],eC type91,rfl,rfl,rfl,rfl⟩,rfl,by decide⟩
theorem E29:dH prog 29 93 [.int .i64 0,.int .i64 0,.int .i64 0] 3 24:=⟨underlying29,⟨_,.agg #[.int .i64 0,.int .i64 0,.int .i64 0],eC type93,rfl,rfl,rfl,rfl⟩,rfl,by decide⟩
theorem E30:dH prog 30 119 [.int .i64 0,.int .i64 0,.int .i64 0,.int .i64 0,.slice none 0 0] 5 56:=⟨underlying30,⟨_,.agg #[.int .i64 0,.int .i64 0,.int .i64 0,.int .i64 0,.slice none 0 0],eC type119,rfl,rfl,rfl,rfl⟩,rfl,by decide⟩
theorem E33:dH prog 33 3 [.int .i64 0] 1 8:=⟨underlying33,⟨_,.int .i64 0,eC type3,rfl,rfl,rfl,rfl⟩,rfl,by decide⟩
theorem E35:dH prog 35 121 [.int .i64 0,.int .i64 0] 2 16:=⟨underlying35,⟨_,.agg #[.int .i64 0,.int .i64 0],eC type121,rfl,rfl,rfl,rfl⟩,rfl,by decide⟩
theorem E39:dH prog 39 5 [.int .u8 0] 1 1:=⟨underlying39,⟨_,.int .u8 0,eC type5,rfl,rfl,rfl,rfl⟩,rfl,by decide⟩
theorem E42:dH prog 42 43 [.int .i64 0] 1 8:=⟨underlying42,⟨_,.int .i64 0,eC type43,rfl,rfl,rfl,rfl⟩,rfl,by decide⟩
theorem E83:dH prog 83 117 [.int .i64 0,.string (bs [])] 2 24:=⟨underlying83,⟨_,.agg #[.int .i64 0,.string (bs [])],eC type117,rfl,rfl,rfl,rfl⟩,rfl,by decide⟩
theorem E106:dH prog 106 109 [.int .i64 0,.int .i64 0,.int .i64 0,.int .i64 0,.int .i64 0,.int .i64 0] 6 48:=⟨underlying106,⟨_,.agg #[.int .i64 0,.int .i64 0,.int .i64 0,.int .i64 0,.int .i64 0,.int .i64 0],eC type109,rfl,rfl,rfl,rfl⟩,rfl,by decide⟩
theorem E151:dH prog 151 154 [.slice none 0 0] 1 24:=⟨underlying151,⟨_,.slice none 0 0,eC type154,rfl,rfl,rfl,rfl⟩,rfl,by decide⟩
theorem E154:dH prog 154 156 [.int .i64 0,.string (bs []),.bool false] 3 32:=⟨underlying154,⟨_,.agg #[.int .i64 0,.string (bs []),.bool false],eC type156,rfl,rfl,rfl,rfl⟩,rfl,by decide⟩
theorem E176:dH prog 176 175 [.nilFunc] 1 8:=⟨underlying176,⟨_,.agg #[.nilFunc],eC type175,rfl,rfl,rfl,rfl⟩,rfl,by decide⟩
theorem E200:dH prog 200 259 [.int .i64 0,.int .i64 0] 2 16:=⟨underlying200,⟨_,.agg #[.int .i64 0,.int .i64 0],eC type259,rfl,rfl,rfl,rfl⟩,rfl,by decide⟩
theorem E250:dH prog 250 254 [.int .i64 0,.nilFunc] 2 16:=⟨underlying250,⟨_,.agg #[.int .i64 0,.nilFunc],eC type254,rfl,rfl,rfl,rfl⟩,rfl,by decide⟩
theorem E279:dH prog 279 20 [.nilIface] 1 16:=⟨underlying279,⟨_,.nilIface,eC type20,rfl,rfl,rfl,rfl⟩,rfl,by decide⟩
theorem E287:dH prog 287 286 [.nilFunc] 1 8:=⟨underlying287,⟨_,.agg #[.nilFunc],eC type286,rfl,rfl,rfl,rfl⟩,rfl,by decide⟩
end T12
namespace Go.Proofs
open Go Go.Shelf Go.RowKit Pk
theorem mG {w:World} {q:Addr} {vs:List Value} (h:aL (hp w) q vs) (hv:0 < vs.length):∃ cs t z,w.heap[q.block]?=some (.cells cs t z)∧cs.size≠0:=by
 obtain ⟨c,t,z,h3,h4⟩:=h.2 0 _ (List.getElem?_eq_getElem hv);refine ⟨c,t,z,h3,fun h0=>?_⟩;have:=(Array.getElem?_eq_some_iff.1 h4).1;omega
theorem mH {P:Program} (w:World) (tS tR e:TypeId) (ht:P.underlying tS=some (.slice e)) (size:Nat) (hz:∀ w,(Go.sizeOf e).run P w=.ok size w) (a b:Addr) (la ca lb cb:Nat) (hne:a.block≠b.block)
  {ca':Array Value} {ta:TypeId} {za:Nat×Nat} (ha:w.heap[a.block]?=some (.cells ca' ta za)) (ha0:ca'.size≠0) {cur:Array Value} {te:TypeId} (hb:w.heap[b.block]?=some (.cells cur te (0,0))) (hc:cur.size≠0) :
  (Extern.SlicesOverlaps.overlaps #[tS,tS] #[tR] #[.slice (some a) la ca,.slice (some b) lb cb]).run P w=.ok (.bool false) w:=by
 have hnb:(a.block != b.block)=true:=by simpa using hne
 have hnb':(a.block==b.block)=false:=by simpa using hne
 have hf:∀ x:Addr,x.block=b.block→w.frozen? x=false:=fun x hx=>by simp [World.frozen?,hx,hb]
 have hsb:w.shape? b.block=some (te,cur.size):=by simp [World.shape?,hb]
 have hva:w.shape? a.block=some (ta,ca'.size):=by simp [World.shape?,ha]
 change Sem.run P (α:=Value) (do
  let some t := (#[tS, tS] : Array TypeId)[0]? | stuck "slices.overlaps: no parameter types"
  let .slice elem ← underlying t | stuck "slices.overlaps: slice type expected"
  let size ← sizeOf elem
  match (some a:Option Addr),(some b:Option Addr) with
  | some a,some b =>
   if la=0∨lb=0∨size=0 then pure (Value.bool false)
   else if a.block != b.block&&(← frozen a)&&(← frozen b) then unsupported .addressObserved
   else do
    if a.block != b.block then do
     noView a;noView b
     if ← mayBeOne a b then return Value.bool ((← choose (.extern "sameAddr.stringBytes" 2)) == 1)
    pure (Value.bool (a.block==b.block&&a.off < b.off+lb*size&&b.off < a.off+la*size))
  | _,_=>pure (Value.bool false)) w=_
 by_cases h0:la=0∨lb=0∨size=0
 ·simp [run_underlying ht,hz,h0]
 have e1:=hf b rfl;have e2:=hf { block:=b.block,off:=cur.size } rfl;have e3:(match some (te,cur.size) with | some (_,0)=>true | _=>false)=false:=by
  cases h:cur.size with
  | zero=>exact absurd h hc
  | succ n=>rfl
 have e4:(match some (ta,ca'.size) with | some (_,0)=>true | _=>false)=false:=by
  cases h:ca'.size with
  | zero=>exact absurd h ha0
  | succ n=>rfl
 cases hfa:w.frozen? a <;> cases hfe:w.frozen? { block:=a.block,off:=ca'.size } <;>
  simp [run_underlying ht,hz,h0,hnb,hnb',frozen,noView,viewAt,mayBeOne,stringish,shape,Sem.run,hva,hsb,e1,e2,hfa,hfe,hc,e4,ha0]
theorem gM {P:Program} (w:World) (t ty el k:Nat) (hu:P.underlying t=some (.slice el)) (hz:∀ w,(Go.sizeOf el).run P w=.ok k w) (b o dLen dCap:Nat) (a:Addr) (sLen sCap:Nat) (cs:List Value) {cur:Array Value} {te:TypeId} (hb:w.heap[b]?=some (.cells cur te (0,0)))
  (hn:cs.length=Nat.min sLen dLen*k) (hsrc:∀ j v,cs[j]?=some v→w.cell? (a.add j)=some v) (hfit:o+cs.length≤cur.size) (h1:∀ v∈cs,v.oneCell'=true) :
  (Builtin.copy_ #[t,t] ty #[.slice (some ⟨b,o,none⟩) dLen dCap,.slice (some a) sLen sCap]).run P w=.ok (goInt (Nat.min sLen dLen)) (w.setRow b (cur.toList.take o++cs++cur.toList.drop (o+cs.length)).toArray):=by
 have hl:=run_loadCells_list (P:=P) (w:=w) a cs hsrc;have hst:=run_storeCells_at P b o te cs 0 cur w hb (by simpa using hfit) h1;rw [hn] at hl;simp [Builtin.copy_,run_underlying hu,Builtin.lenOf,Builtin.firstCells,hz,hl];simp at hst;rw [hst];rfl
set_option maxHeartbeats 4000000 in
set_option maxRecDepth 100000 in
theorem Tryz.ins_end {w:World} {ad:Option Addr} {cap nn:Nat} {cs:List Value} {q:Addr} {vcap:Nat} {vs:List Value} (hr:(aN.row ad cap 156 3 nn cs).holds w) (hb:nn+1≤1073741824) (hv:aL (hp w) q vs) (hvl:vs.length=3) (h1:vs.all (·.oneCell')=true) :
  Calls Tryz.prog 141 #[.slice ad nn cap,.int .i64 nn,.slice (some q) 1 vcap] w fun e w'=>∃ ad' cap',e=.returned (.slice ad' (nn+1) cap')∧(aN.row ad' cap' 156 3 (nn+1) (cs++vs)).holds w'∧kI w w' (ad.map (·.block))∧∀ b,ad'.map (·.block)=some b→ad.map (·.block)=some b∨w.heap.size≤b:=by
 obtain ⟨ad',cap',w',hrun,hh,hg,hf⟩:=lM (P:=Tryz.prog) 154 T12.E154 hr (sad:=some q) (m:=1) (c:=vcap) (news:=vs) ⟨by omega,h1,.inr ⟨q,rfl,hv⟩⟩ (by unfold maxLen;omega) (by omega);have hd:=mY _ hrun;have hcap:=(jC hr).2;refine Calls.mono (R:=fun e w''=>e=.returned (.slice ad' (nn+1) cap')∧w''=w') ?_ fun e w'' hw=>by
  obtain ⟨rfl,rfl⟩:=hw;exact ⟨ad',cap',rfl,hh,⟨hg,hd⟩,hf⟩
 clear hf hh hg hd hr hv h1;by_cases hc:cap=nn
 ·subst hc
  go_enter Tryz.func141,Tryz.ntmps141
  go_wp2_with (at_builtin;refine Lib.wpList_append_run _ rfl _ _ _ _ rfl _ _ rfl rfl _ _ hrun ?_)
  go_ret
  exact ⟨rfl,rfl⟩
 go_enter Tryz.func141,Tryz.ntmps141
 go_wp2_with (at_builtin;refine Lib.wpList_append_run _ rfl _ _ _ _ rfl _ _ rfl rfl _ _ hrun ?_)
 go_ret
 exact ⟨rfl,rfl⟩
theorem gO {w:World} {b:Nat} {cur:Array Value} {t:TypeId} {z:Nat×Nat} (h:w.heap[b]?=some (.cells cur t z)) {j:Nat} {v:Value} (hv:cur.toList[j]?=some v):w.cell? ⟨b,j,none⟩=some v:=by
 rw [Array.getElem?_toList] at hv;simp [World.cell?,h,hv]
theorem jN (b o i:Nat):(⟨b,o,none⟩:Addr).add i=⟨b,o+i,none⟩:=dO (ad:=⟨b,o,none⟩) rfl i
set_option maxHeartbeats 4000000 in
set_option maxRecDepth 100000 in
theorem Tryz.ins_room {w:World} {b cap nn j:Nat} {cs:List Value} {q:Addr} {vcap:Nat} {vs:List Value} {cur:Array Value} (hw:w.heap[b]?=some (.cells cur 156 (0,0))) (hcs:cur.size=cap*3) (ht:cur.toList.take (nn*3)=cs) (hcm:cap≤9223372036854775807) (hj:j < nn) (hroom:nn+1≤cap) (hb:nn+1≤1073741824) (hv:aL (hp w) q vs) (hvl:vs.length=3) (h1:vs.all (·.oneCell')=true) (h2:cs.all (·.oneCell')=true) (hne:b≠q.block) :
  Calls Tryz.prog 141 #[.slice (some ⟨b,0,none⟩) nn cap,.int .i64 j,.slice (some q) 1 vcap] w fun e w'=>e=.returned (.slice (some ⟨b,0,none⟩) (nn+1) cap)∧w'=(w.drew.setRow b (cur.toList.take ((j+1)*3)++cs.drop (j*3)++cur.toList.drop ((nn+1)*3)).toArray).setRow b (cs.take (j*3)++vs++cs.drop (j*3)++cur.toList.drop ((nn+1)*3)).toArray:=by
 obtain ⟨c0,t0,z0,hq0,hq1⟩:=mG hv (by omega);have hcl:cs.length=nn*3:=by rw [← ht,List.length_take,Array.length_toList,hcs];omega
 have hcur:cur.toList=cs++cur.toList.drop (nn*3):=by rw [← ht,List.take_append_drop]
 have hov:∀ lb cb,(callFunc 189 #[.slice (some q) 1 vcap,.slice (some ⟨b,(j+1)*3,none⟩) lb cb]).run Tryz.prog w=.ok (.value (.bool false)) w:=fun lb cb=>by
  rw [run_callFunc_extern Tryz.func189 (by kernel_rfl) (by kernel_rfl) (by kernel_rfl) (e:=Extern.SlicesOverlaps.overlaps #[154,154] #[4]) (by kernel_rfl),
   mH w 154 4 156 Tryz.underlying154 3 Tryz.sizeOf156 q ⟨b,(j+1)*3,none⟩ 1 vcap lb cb (fun e=>hne e.symm) hq0 hq1 hw (by omega)]
  rfl
 have hcp1:∀ ty dc sc,(Builtin.copy_ #[154,154] ty #[.slice (some ⟨b,(j+1)*3,none⟩) (nn - j) dc,.slice (some ⟨b,j*3,none⟩) (nn+1 - j) sc]).run Tryz.prog w.drew=.ok (goInt (Nat.min (nn+1 - j) (nn - j))) (w.drew.setRow b (cur.toList.take ((j+1)*3)++cs.drop (j*3)++cur.toList.drop ((nn+1)*3)).toArray):=fun ty dc sc=>by
  have hl:(cs.drop (j*3)).length=Nat.min (nn+1 - j) (nn - j)*3:=by
   rw [List.length_drop,hcl,show Nat.min (nn+1 - j) (nn - j)=nn - j by simp only [Nat.min_def];split <;> omega,Nat.sub_mul]
  have:=gM (P:=Tryz.prog) w.drew 154 ty 156 3 Tryz.underlying154 Tryz.sizeOf156 b ((j+1)*3) (nn - j) dc ⟨b,j*3,none⟩ (nn+1 - j) sc (cs.drop (j*3)) (cur:=cur) hw hl (fun i v hi=>by
   rw [jN];refine gO (w:=w.drew) hw ?_;rw [hcur,List.getElem?_append_left (by rw [List.getElem?_drop] at hi;exact (List.getElem?_eq_some_iff.1 hi).1)]
   rwa [List.getElem?_drop] at hi) (by rw [List.length_drop,hcl,hcs];omega) (fun v hv=>List.all_eq_true.1 h2 v (List.mem_of_mem_drop hv))
  rw [this,show (j+1)*3+(cs.drop (j*3)).length=(nn+1)*3 by rw [List.length_drop,hcl];omega]
 obtain ⟨X1,hX1⟩:∃ X1:List Value,X1=cur.toList.take ((j+1)*3)++cs.drop (j*3)++cur.toList.drop ((nn+1)*3):=⟨_,rfl⟩;rw [← hX1] at hcp1 ⊢;obtain ⟨W1,hW1⟩:∃ W1,W1=w.drew.setRow b X1.toArray:=⟨_,rfl⟩;rw [← hW1] at hcp1 ⊢;have hw1:W1.heap[b]?=some (.cells X1.toArray 156 (0,0)):=by rw [hW1];exact setRow_heap w.drew b cur X1.toArray 156 (0,0) hw
 have hX1l:X1.length=cap*3:=by rw [hX1];simp only [List.length_append,List.length_take,List.length_drop,Array.length_toList,hcs,hcl];omega
 have hlen1:(cur.toList.take ((j+1)*3)).length=(j+1)*3:=by rw [List.length_take,Array.length_toList,hcs];omega
 have hcp2:∀ ty dc,(Builtin.copy_ #[154,154] ty #[.slice (some ⟨b,j*3,none⟩) (nn+1 - j) dc,.slice (some q) 1 vcap]).run Tryz.prog W1=.ok (goInt (Nat.min 1 (nn+1 - j))) (W1.setRow b (cs.take (j*3)++vs++cs.drop (j*3)++cur.toList.drop ((nn+1)*3)).toArray):=fun ty dc=>by
  have hm:Nat.min 1 (nn+1 - j)=1:=by simp only [Nat.min_def];split <;> omega
  have:=gM (P:=Tryz.prog) W1 154 ty 156 3 Tryz.underlying154 Tryz.sizeOf156 b (j*3) (nn+1 - j) dc q 1 vcap vs (cur:=X1.toArray) hw1 (by rw [hvl,hm]) (fun i v hi=>by
   have h0:=hv.cell hi;have hsp:(q.add i).block=q.block:=by unfold Addr.add;split <;> rfl
   rw [hW1];unfold World.cell? at h0 ⊢;rw [show (w.drew.setRow b X1.toArray).heap[(q.add i).block]?=w.heap[(q.add i).block]? from setRow_other w.drew b _ _ (by rw [hsp];exact fun e=>hne e.symm)]
   exact h0) (by rw [hvl,List.size_toArray,hX1l];omega) (fun v hv=>List.all_eq_true.1 h1 v hv)
  rw [this,hvl];congr 3;have e1:X1.take (j*3)=cs.take (j*3):=by
   rw [hX1,List.append_assoc,List.take_append_of_le_length (by rw [hlen1];omega),List.take_take,show min (j*3) ((j+1)*3)=j*3 by omega,← ht,List.take_take,show min (j*3) (nn*3)=j*3 by omega]
  have e2:X1.drop (j*3+3)=cs.drop (j*3)++cur.toList.drop ((nn+1)*3):=by
   rw [hX1,show j*3+3=(j+1)*3 by omega,List.append_assoc,List.drop_append_of_le_length (by rw [hlen1];omega),List.drop_of_length_le (by rw [hlen1];omega),List.nil_append]
  simp only [List.toList_toArray,e1,e2,List.append_assoc]
 have hz2:¬((j:Int)=(nn:Int)):=by omega
 have hw2:IntKind.i64.wrap ((j:Int)+1)=(j:Int)+1:=by rw [IntKind.wrap_i64];omega
 have hw3:IntKind.i64.wrap ((nn:Int)+1)=(nn:Int)+1:=by rw [IntKind.wrap_i64];omega
 have htn:((j:Int)+1).toNat=j+1:=by omega
 have htn2:((nn:Int)+1).toNat=nn+1:=by omega
 have hb1:(0:Int)≤(j:Int)+1:=by omega
 have hb2:¬(cap=j+1):=by omega
 have hb4:¬(cap=j):=by omega
 have hb3:(j:Int)≤(nn:Int)+1:=by omega
 have hin:j≤nn:=by omega
 have hro:¬((cap:Int) < (nn:Int)+1):=by omega
 clear hX1 hcur ht;have mixed:=T12.mixed;clear hw1;subst hW1
 go_enter Tryz.func141,Tryz.ntmps141
 go_wp2_with (simp only [hov])
 go_region_law_o (refine step_copy_runI rfl _ _ 154 154 rfl _ _ (by simp [Act.eval,Act.put]) (by simp [Act.eval,Act.put]) (hcp1 _ _ _) ?_)
 go_wp2_with (at_builtin;refine wpList_copy_runI _ rfl _ _ 154 154 rfl _ _ rfl rfl (hcp2 _ _) ?_)
 go_ret
 exact ⟨rfl,by simp only [List.append_assoc]⟩
set_option maxHeartbeats 4000000 in
set_option maxRecDepth 100000 in
theorem Tryz.ins_grow {w:World} {b cap nn j:Nat} {cs:List Value} {q:Addr} {vcap:Nat} {vs:List Value} {cur:Array Value} (hw:w.heap[b]?=some (.cells cur 156 (0,0))) (hcs:cur.size=cap*3) (ht:cur.toList.take (nn*3)=cs) (hnc:nn≤cap) (hj:j < nn) (hroom:cap < nn+1) (hb:nn+1≤1073741824) (hv:aL (hp w) q vs) (hvl:vs.length=3) (h1:vs.all (·.oneCell')=true) (h2:cs.all (·.oneCell')=true) :
  Calls Tryz.prog 141 #[.slice (some ⟨b,0,none⟩) nn cap,.int .i64 j,.slice (some q) 1 vcap] w fun e w'=>∃ (G:Nat) (X:List Value),nn+1≤G∧G≤maxLen∧X.length=G*3∧X.take ((nn+1)*3)=cs.take (j*3)++vs++cs.drop (j*3)∧e=.returned (.slice (some ⟨w.heap.size,0,none⟩) (nn+1) G)∧∃ Y Z m,w'=(((w.alloc (.cells Y 156)).drewN m).setRow w.heap.size Z).setRow w.heap.size X.toArray:=by
 obtain ⟨i0,v0,hi0,hz0,hzv,hzs,hzb⟩:=T12.E154.info;have hzc:v0.cells.size=3:=by rw [gC,hzv];rfl
 have hcl:cs.length=nn*3:=by rw [← ht,List.length_take,Array.length_toList,hcs];omega
 have hcur:cur.toList=cs++cur.toList.drop (nn*3):=by rw [← ht,List.take_append_drop]
 have hold:(Builtin.firstCells i0.size j (.slice (some ⟨b,0,none⟩) j cap)).run Tryz.prog w.drew=.ok (cs.take (j*3)).toArray w.drew:=by
  rw [hzs];refine run_firstCells_some (w:=w.drew) 3 j ⟨b,0,none⟩ j cap (cs.take (j*3)) (by rw [List.length_take,hcl];omega) (fun i v hi=>?_);rw [jN,Nat.zero_add];refine gO (w:=w.drew) hw ?_;rw [List.getElem?_take] at hi
  split at hi
  ·rw [hcur,List.getElem?_append_left (by rw [hcl];omega)];exact hi
  cases hi
 have hik:j+(nn+1 - j)=nn+1:=by omega
 have hkk:(nn:Int)+1 - (j:Int)=((nn+1 - j:Nat):Int):=by omega
 obtain ⟨G,hG⟩:∃ G,G=grownCap w (nn+1) cap 156:=⟨_,rfl⟩;have hGn:nn+1≤G:=by rw [hG];exact grownCap_ge w _ _ _
 have hGm:G≤maxLen:=by rw [hG];exact grownCap_le_maxLen w (nn+1) cap 156 (by unfold maxLen;omega)
 obtain ⟨R,hR⟩:∃ R:Array Value,R=(cs.take (j*3)).toArray++Builtin.zeroCells v0.cells (nn+1 - j)++Builtin.zeroCells v0.cells (G - (nn+1)):=⟨_,rfl⟩;have hRs:R.size=G*3:=by
  rw [hR];simp only [Array.size_append,List.size_toArray,List.length_take,hcl,Builtin.zeroCells,Array.size_map,Array.size_range,hzc];omega
 have hRt:R.toList.take (j*3)=cs.take (j*3):=by
  rw [hR,Array.toList_append,Array.toList_append,List.append_assoc,List.take_append_of_le_length (by simp [hcl];omega)];simp only [List.toList_toArray,List.take_take,Nat.min_self]
 have hrz:∀ ty,(Builtin.append_ #[154,3] ty #[.slice (some ⟨b,0,none⟩) j cap,.int .i64 ((nn:Int)+1 - (j:Int))]).run Tryz.prog w=.ok (.slice (some ⟨w.heap.size,0,none⟩) (nn+1) G) (w.drew.alloc (.cells R 156)):=fun ty=>by
  have h:=Lib.run_append_grow_zeros w 154 3 ty 156 i0 _ .i64 .i64 Tryz.underlying154 Tryz.underlying3 hi0 hz0 (some ⟨b,0,none⟩) j cap (cs.take (j*3)) hold (nn+1 - j) (by omega) (by rw [hzs];decide) (by omega) (by omega) (by rw [hzb];omega) (by rw [hzb,hik];exact growslice_fits hroom (by omega));rw [hik] at h;rw [hkk,hR,hG];exact h
 have hN:(w.drew.alloc (.cells R 156)).heap[w.heap.size]?=some (.cells R 156 (0,0)):=dP w.drew _;have hbw:b < w.heap.size:=(Array.getElem?_eq_some_iff.1 hw).1;obtain ⟨X1,hX1⟩:∃ X1:List Value,X1=cs.take (j*3)++vs++R.toList.drop ((j+1)*3):=⟨_,rfl⟩;obtain ⟨X2,hX2⟩:∃ X2:List Value,X2=cs.take (j*3)++vs++cs.drop (j*3)++R.toList.drop ((nn+1)*3):=⟨_,rfl⟩;have hct:(cs.take (j*3)).length=j*3:=by rw [List.length_take,hcl];omega
 have hX1l:X1.length=G*3:=by rw [hX1];simp only [List.length_append,hct,hvl,List.length_drop,Array.length_toList,hRs];omega
 have hX2l:X2.length=G*3:=by rw [hX2];simp only [List.length_append,hct,hvl,List.length_drop,Array.length_toList,hRs,hcl];omega
 have hqn:∀ i,(q.add i).block=q.block:=fun i=>by unfold Addr.add;split <;> rfl
 obtain ⟨c0,t0,z0,hq0,_⟩:=mG hv (by omega);have hqw:q.block < w.heap.size:=(Array.getElem?_eq_some_iff.1 hq0).1;have hcpA:∀ (m:Nat) ty dc,(Builtin.copy_ #[154,154] ty #[.slice (some ⟨w.heap.size,j*3,none⟩) (nn+1 - j) dc,.slice (some q) 1 vcap]).run Tryz.prog ((w.alloc (.cells R 156)).drewN m)=.ok (goInt (Nat.min 1 (nn+1 - j))) (((w.alloc (.cells R 156)).drewN m).setRow w.heap.size X1.toArray):=fun m ty dc=>by
  have hm:Nat.min 1 (nn+1 - j)=1:=by simp only [Nat.min_def];split <;> omega
  have:=gM (P:=Tryz.prog) ((w.alloc (.cells R 156)).drewN m) 154 ty 156 3 Tryz.underlying154 Tryz.sizeOf156 w.heap.size (j*3) (nn+1 - j) dc q 1 vcap vs (cur:=R) (te:=156) (dP w _) (by rw [hvl,hm]) (fun i v hi=>by
   have h0:=hv.cell hi;unfold World.cell? at h0 ⊢;rw [show ((w.alloc (.cells R 156)).drewN m).heap[(q.add i).block]?=w.heap[(q.add i).block]? from (gB.alloc True w (.cells R 156)).keep _ (by rw [hqn];exact hqw)]
   exact h0) (by rw [hvl,hRs];omega) (fun v hv=>List.all_eq_true.1 h1 v hv)
  rw [this,hvl,hRt,hX1,show j*3+3=(j+1)*3 by omega]
 have hcpB:∀ (m:Nat) ty dc sc,(Builtin.copy_ #[154,154] ty #[.slice (some ⟨w.heap.size,(j+1)*3,none⟩) (nn - j) dc,.slice (some ⟨b,j*3,none⟩) (nn - j) sc]).run Tryz.prog (((w.alloc (.cells R 156)).drewN m).setRow w.heap.size X1.toArray)=.ok (goInt (Nat.min (nn - j) (nn - j))) ((((w.alloc (.cells R 156)).drewN m).setRow w.heap.size X1.toArray).setRow w.heap.size X2.toArray):=fun m ty dc sc=>by
  have hm:Nat.min (nn - j) (nn - j)=nn - j:=Nat.min_self _;have hl:(cs.drop (j*3)).length=Nat.min (nn - j) (nn - j)*3:=by rw [hm,List.length_drop,hcl,Nat.sub_mul]
  have:=gM (P:=Tryz.prog) (((w.alloc (.cells R 156)).drewN m).setRow w.heap.size X1.toArray) 154 ty 156 3 Tryz.underlying154 Tryz.sizeOf156 w.heap.size ((j+1)*3) (nn - j) dc ⟨b,j*3,none⟩ (nn - j) sc (cs.drop (j*3)) (cur:=X1.toArray) (te:=156) (setRow_heap _ _ R X1.toArray 156 (0,0) (dP w _)) hl (fun i v hi=>by
   rw [jN];have hcell:w.cell? ⟨b,j*3+i,none⟩=some v:=by
    refine gO hw ?_;rw [hcur,List.getElem?_append_left (by rw [List.getElem?_drop] at hi;exact (List.getElem?_eq_some_iff.1 hi).1)]
    rwa [List.getElem?_drop] at hi
   unfold World.cell? at hcell ⊢;rw [show (((w.alloc (.cells R 156)).drewN m).setRow w.heap.size X1.toArray).heap[(⟨b,j*3+i,none⟩:Addr).block]?=w.heap[(⟨b,j*3+i,none⟩:Addr).block]? from (setRow_other _ _ _ _ (by show b≠w.heap.size;omega)).trans ((gB.alloc True w (.cells R 156)).keep _ hbw)]
   exact hcell) (by rw [List.length_drop,hcl,List.size_toArray,hX1l];omega) (fun v hv=>List.all_eq_true.1 h2 v (List.mem_of_mem_drop hv))
  rw [this,show (j+1)*3+(cs.drop (j*3)).length=(nn+1)*3 by rw [List.length_drop,hcl];omega];congr 3;have e1:X1.take ((j+1)*3)=cs.take (j*3)++vs:=by
   rw [hX1,List.take_append_of_le_length (by rw [List.length_append,hct,hvl];omega),List.take_of_length_le (by rw [List.length_append,hct,hvl];omega)]
  have e2:X1.drop ((nn+1)*3)=R.toList.drop ((nn+1)*3):=by
   rw [hX1,List.drop_append,List.drop_of_length_le (by rw [List.length_append,hct,hvl];omega),List.nil_append,List.drop_drop,List.length_append,hct,hvl,show (j+1)*3+((nn+1)*3 - (j*3+3))=(nn+1)*3 by omega]
  simp only [List.toList_toArray,e1,e2,hX2,List.append_assoc]
 have hX2t:X2.take ((nn+1)*3)=cs.take (j*3)++vs++cs.drop (j*3):=by
  rw [hX2,List.take_append_of_le_length (by simp only [List.length_append,hct,hvl,List.length_drop,hcl];omega),List.take_of_length_le (by simp only [List.length_append,hct,hvl,List.length_drop,hcl];omega)]
 refine Calls.mono (R:=fun e w''=>e=.returned (.slice (some ⟨w.heap.size,0,none⟩) (nn+1) G)∧∃ m,w''=(((w.alloc (.cells R 156)).drewN m).setRow w.heap.size X1.toArray).setRow w.heap.size X2.toArray) ?_ fun e w'' hw=>by
  obtain ⟨rfl,m,rfl⟩:=hw;exact ⟨G,X2,hGn,hGm,hX2l,hX2t,rfl,R,X1.toArray,m,rfl⟩
 have mixed:=T12.mixed;have hz2:¬((j:Int)=(nn:Int)):=by omega
 have hw2:IntKind.i64.wrap ((j:Int)+1)=(j:Int)+1:=by rw [IntKind.wrap_i64];omega
 have hw3:IntKind.i64.wrap ((nn:Int)+1)=(nn:Int)+1:=by rw [IntKind.wrap_i64];omega
 have htn:((j:Int)+1).toNat=j+1:=by omega
 have hb1:(0:Int)≤(j:Int)+1:=by omega
 have hro:(cap:Int) < (nn:Int)+1:=by omega
 have hGi:¬(G=j):=by omega
 have hGim:¬(G=j+1):=by omega
 have hci:¬(cap=j):=by omega
 have hin:j≤nn:=by omega
 have hb3:(j:Int)≤(nn:Int):=by omega
 have hcpA0:∀ ty dc,(Builtin.copy_ #[154,154] ty #[.slice (some ⟨w.heap.size,j*3,none⟩) (nn+1 - j) dc,.slice (some q) 1 vcap]).run Tryz.prog (w.drew.alloc (.cells R 156))=.ok (goInt (Nat.min 1 (nn+1 - j))) ((w.drew.alloc (.cells R 156)).setRow w.heap.size X1.toArray):=fun ty dc=>hcpA 1 ty dc;have hcpA1:∀ ty dc,(Builtin.copy_ #[154,154] ty #[.slice (some ⟨w.heap.size,j*3,none⟩) (nn+1 - j) dc,.slice (some q) 1 vcap]).run Tryz.prog ((w.alloc (.cells R 156)).drew)=.ok (goInt (Nat.min 1 (nn+1 - j))) (((w.alloc (.cells R 156)).drew).setRow w.heap.size X1.toArray):=fun ty dc=>hcpA 1 ty dc;have hcpB0:∀ ty dc sc,(Builtin.copy_ #[154,154] ty #[.slice (some ⟨w.heap.size,(j+1)*3,none⟩) (nn - j) dc,.slice (some ⟨b,j*3,none⟩) (nn - j) sc]).run Tryz.prog (((w.alloc (.cells R 156)).drew.setRow w.heap.size X1.toArray).drew)=.ok (goInt (Nat.min (nn - j) (nn - j))) ((((w.alloc (.cells R 156)).drew.setRow w.heap.size X1.toArray).drew).setRow w.heap.size X2.toArray):=fun ty dc sc=>hcpB 2 ty dc sc;clear hG hcpA hcpB hR hold hkk hik hcur hRt hX1 hX2 hX2t hN hq0 hv ht
 go_enter Tryz.func141,Tryz.ntmps141
 go_wp2_with (first
  | (at_builtin;refine Lib.wpList_append_run _ rfl _ _ _ _ rfl _ _ rfl rfl _ _ (hrz _) ?_)
  | (at_builtin;refine wpList_copy_runI _ rfl _ _ 154 154 rfl _ _ rfl rfl (hcpA1 _ _) ?_)
  | (at_builtin;refine wpList_copy_runI _ rfl _ _ 154 154 rfl _ _ rfl rfl (hcpA0 _ _) ?_))
 go_region_law_o (refine step_copy_runI rfl _ _ 154 154 rfl (.slice (some ⟨w.heap.size,(j+1)*3,none⟩) (nn - j) (G - (j+1))) (.slice (some ⟨b,j*3,none⟩) (nn - j) (cap - j)) (by simp [Act.eval,Act.put]) (by simp [Act.eval,Act.put]) (hcpB0 3 (G - (j+1)) (cap - j)) ?_)
 go_wp2
 go_ret
 exact ⟨rfl,2,rfl⟩
theorem lC {w w':World} {b:Nat} (h:∀ k,k < w.heap.size→k≠b→w'.heap[k]?=w.heap[k]?) (ho:w'.os=w.os) (ht:w'.tape=w.tape) (hu:w'.output=w.output) (hs:w.heap.size≤w'.heap.size) (hd:w.drawn≤w'.drawn):kI w w' (some b) :=
 ⟨⟨ho,ht,hu,hs,fun k hk hne=>h k hk (fun e=>hne (by rw [e]))⟩,hd⟩
theorem eU (w:World) (b:Nat) (X:Array Value):(w.setRow b X).heap.size=w.heap.size:=by simp [World.setRow]
theorem Tryz.ins141:SL Tryz.prog 141 156 3:=by
 intro w ad cap nn cs j q vcap vs hr hj hb hv hvl h1 h2 hne _;have hcl:=(jC hr).1;by_cases hjn:j=nn
 ·subst hjn;refine (Tryz.ins_end hr hb hv hvl h1).mono fun e w' h=>?_;rw [List.take_of_length_le (by omega),List.drop_of_length_le (by omega),List.append_nil];exact h
 have hlt:j < nn:=by omega
 rcases hr.2 with ⟨_,h0⟩ | ⟨b,cap',cur,he,hbb,hw,hnc,hcm,hcs,ht⟩
 ·omega
 simp only [Value.slice.injEq] at he;obtain ⟨rfl,_,rfl⟩:=he;have hbw:b < w.heap.size:=(Array.getElem?_eq_some_iff.1 hw).1;have h3:cap≤9223372036854775807:=by unfold maxLen at hcm;omega
 have hln:(cs.take (j*3)++vs++cs.drop (j*3)).length=(nn+1)*3:=by
  simp only [List.length_append,List.length_take,List.length_drop,hvl,hcl];omega
 by_cases hroom:nn+1≤cap
 ·refine (Tryz.ins_room hw hcs ht h3 hlt hroom hb hv hvl h1 h2 (hne b rfl)).mono fun e w' h=>?_;obtain ⟨rfl,rfl⟩:=h;refine ⟨_,_,rfl,?_,?_,fun b' hb'=>.inl hb'⟩
  ·refine ⟨hln,.inr ⟨b,cap,_,rfl,hbb,setRow_heap _ b _ _ 156 (0,0) (setRow_heap w.drew b cur _ 156 (0,0) hw),hroom,hcm,?_,?_⟩⟩
   ·have:(cur.toList.drop ((nn+1)*3)).length=cap*3 - (nn+1)*3:=by rw [List.length_drop,Array.length_toList,hcs]
    rw [List.size_toArray,List.length_append,hln,this];omega
   rw [List.toList_toArray,List.take_append_of_le_length (by rw [hln];exact Nat.le_refl _),List.take_of_length_le (by rw [hln];exact Nat.le_refl _)]
  exact lC (fun k hk hkb=>(setRow_other _ _ _ _ hkb).trans (setRow_other _ _ _ _ hkb)) rfl rfl rfl (by rw [eU,eU];exact Nat.le_refl _) (Nat.le_succ _)
 refine (Tryz.ins_grow hw hcs ht hnc hlt (by omega) hb hv hvl h1 h2).mono fun e w' h=>?_;obtain ⟨G,X,hG1,hG2,hXl,hXt,rfl,Y,Z,m,rfl⟩:=h;refine ⟨_,_,rfl,?_,?_,fun b' hb'=>.inr (by simp at hb';omega)⟩
 ·refine ⟨hln,.inr ⟨w.heap.size,G,X.toArray,rfl,Nat.zero_le _,setRow_heap _ _ Z _ 156 (0,0) (setRow_heap _ _ Y _ 156 (0,0) (dP w _)),hG1,hG2,by rw [List.size_toArray,hXl],by rw [List.toList_toArray];exact hXt⟩⟩
 refine lC (fun k hk hkb=>?_) rfl rfl rfl ?_ ?_
 ·have hkn:k≠w.heap.size:=by omega
  exact (setRow_other _ _ _ _ hkn).trans ((setRow_other _ _ _ _ hkn).trans ((gB.alloc True w (.cells Y 156)).keep k hk))
 ·rw [eU,eU];exact (gB.alloc True w (.cells Y 156)).size
 exact Nat.le_add_right _ _
end Go.Proofs
namespace Go.Proofs
open Go Go.Shelf Go.RowKit Pk
set_option maxHeartbeats 4000000 in
set_option maxRecDepth 100000 in
theorem Tryz.ins_endM {w:World} {ad:Option Addr} {cap nn mv:Nat} (hm:1≤mv) {cs:List Value} {q:Addr} {vcap:Nat} {vs:List Value} (hr:(aN.row ad cap 3 1 nn cs).holds w) (hb:nn+mv≤1073741824) (hv:aL (hp w) q vs) (hvl:vs.length=mv) (h1:vs.all (·.oneCell')=true) :
  Calls Tryz.prog 113 #[.slice ad nn cap,.int .i64 nn,.slice (some q) mv vcap] w fun e w'=>∃ ad' cap',e=.returned (.slice ad' (nn+mv) cap')∧(aN.row ad' cap' 3 1 (nn+mv) (cs++vs)).holds w'∧kI w w' (ad.map (·.block))∧∀ b,ad'.map (·.block)=some b→ad.map (·.block)=some b∨w.heap.size≤b:=by
 obtain ⟨ad',cap',w',hrun,hh,hg,hf⟩:=lM (P:=Tryz.prog) 33 T12.E33 hr (sad:=some q) (m:=mv) (c:=vcap) (news:=vs) ⟨by omega,h1,.inr ⟨q,rfl,hv⟩⟩ (by unfold maxLen;omega) (by omega);have hd:=mY _ hrun;have hcap:=(jC hr).2;refine Calls.mono (R:=fun e w''=>e=.returned (.slice ad' (nn+mv) cap')∧w''=w') ?_ fun e w'' hw=>by
  obtain ⟨rfl,rfl⟩:=hw;exact ⟨ad',cap',rfl,hh,⟨hg,hd⟩,hf⟩
 clear hf hh hg hd hr hv h1;by_cases hc:cap=nn
 ·subst hc
  go_enter Tryz.func113,Tryz.ntmps113
  go_wp2_with (at_builtin;refine Lib.wpList_append_run _ rfl _ _ _ _ rfl _ _ rfl rfl _ _ hrun ?_)
  go_ret
  exact ⟨rfl,rfl⟩
 go_enter Tryz.func113,Tryz.ntmps113
 go_wp2_with (at_builtin;refine Lib.wpList_append_run _ rfl _ _ _ _ rfl _ _ rfl rfl _ _ hrun ?_)
 go_ret
 exact ⟨rfl,rfl⟩
set_option maxHeartbeats 4000000 in
set_option maxRecDepth 100000 in
theorem Tryz.ins_roomM {w:World} {b cap nn j mv:Nat} (hm:1≤mv) {cs:List Value} {q:Addr} {vcap:Nat} {vs:List Value} {cur:Array Value} (hw:w.heap[b]?=some (.cells cur 3 (0,0))) (hcs:cur.size=cap) (ht:cur.toList.take (nn)=cs) (hcm:cap≤9223372036854775807) (hj:j < nn) (hroom:nn+mv≤cap) (hb:nn+mv≤1073741824) (hv:aL (hp w) q vs) (hvl:vs.length=mv) (h1:vs.all (·.oneCell')=true) (h2:cs.all (·.oneCell')=true) (hne:b≠q.block) :
  Calls Tryz.prog 113 #[.slice (some ⟨b,0,none⟩) nn cap,.int .i64 j,.slice (some q) mv vcap] w fun e w'=>e=.returned (.slice (some ⟨b,0,none⟩) (nn+mv) cap)∧w'=(w.drew.setRow b (cur.toList.take ((j+mv))++cs.drop (j)++cur.toList.drop ((nn+mv))).toArray).setRow b (cs.take (j)++vs++cs.drop (j)++cur.toList.drop ((nn+mv))).toArray:=by
 obtain ⟨c0,t0,z0,hq0,hq1⟩:=mG hv (by omega);have hcl:cs.length=nn:=by rw [← ht,List.length_take,Array.length_toList,hcs];omega
 have hcur:cur.toList=cs++cur.toList.drop (nn):=by rw [← ht,List.take_append_drop]
 have hov:∀ lb cb,(callFunc 154 #[.slice (some q) mv vcap,.slice (some ⟨b,(j+mv),none⟩) lb cb]).run Tryz.prog w=.ok (.value (.bool false)) w:=fun lb cb=>by
  rw [run_callFunc_extern Tryz.func154 (by kernel_rfl) (by kernel_rfl) (by kernel_rfl) (e:=Extern.SlicesOverlaps.overlaps #[33,33] #[4]) (by kernel_rfl),
   mH w 33 4 3 Tryz.underlying33 1 Tryz.sizeOf3 q ⟨b,(j+mv),none⟩ mv vcap lb cb (fun e=>hne e.symm) hq0 hq1 hw (by omega)]
  rfl
 have hcp1:∀ ty dc sc,(Builtin.copy_ #[33,33] ty #[.slice (some ⟨b,(j+mv),none⟩) (nn - j) dc,.slice (some ⟨b,j,none⟩) (nn+mv - j) sc]).run Tryz.prog w.drew=.ok (goInt (Nat.min (nn+mv - j) (nn - j))) (w.drew.setRow b (cur.toList.take ((j+mv))++cs.drop (j)++cur.toList.drop ((nn+mv))).toArray):=fun ty dc sc=>by
  have hl:(cs.drop (j)).length=Nat.min (nn+mv - j) (nn - j):=by
   rw [List.length_drop,hcl,show Nat.min (nn+mv - j) (nn - j)=nn - j by simp only [Nat.min_def];split <;> omega]
  have:=gM (P:=Tryz.prog) w.drew 33 ty 3 1 Tryz.underlying33 Tryz.sizeOf3 b ((j+mv)) (nn - j) dc ⟨b,j,none⟩ (nn+mv - j) sc (cs.drop (j)) (cur:=cur) hw (by rw [hl,Nat.mul_one]) (fun i v hi=>by
   rw [jN];refine gO (w:=w.drew) hw ?_;rw [hcur,List.getElem?_append_left (by rw [List.getElem?_drop] at hi;exact (List.getElem?_eq_some_iff.1 hi).1)]
   rwa [List.getElem?_drop] at hi) (by rw [List.length_drop,hcl,hcs];omega) (fun v hv=>List.all_eq_true.1 h2 v (List.mem_of_mem_drop hv))
  rw [this,show (j+mv)+(cs.drop (j)).length=(nn+mv) by rw [List.length_drop,hcl];omega]
 obtain ⟨X1,hX1⟩:∃ X1:List Value,X1=cur.toList.take ((j+mv))++cs.drop (j)++cur.toList.drop ((nn+mv)):=⟨_,rfl⟩;rw [← hX1] at hcp1 ⊢;obtain ⟨W1,hW1⟩:∃ W1,W1=w.drew.setRow b X1.toArray:=⟨_,rfl⟩;rw [← hW1] at hcp1 ⊢;have hw1:W1.heap[b]?=some (.cells X1.toArray 3 (0,0)):=by rw [hW1];exact setRow_heap w.drew b cur X1.toArray 3 (0,0) hw
 have hX1l:X1.length=cap:=by rw [hX1];simp only [List.length_append,List.length_take,List.length_drop,Array.length_toList,hcs,hcl];omega
 have hlen1:(cur.toList.take ((j+mv))).length=(j+mv):=by rw [List.length_take,Array.length_toList,hcs];omega
 have hcp2:∀ ty dc,(Builtin.copy_ #[33,33] ty #[.slice (some ⟨b,j,none⟩) (nn+mv - j) dc,.slice (some q) mv vcap]).run Tryz.prog W1=.ok (goInt (Nat.min mv (nn+mv - j))) (W1.setRow b (cs.take (j)++vs++cs.drop (j)++cur.toList.drop ((nn+mv))).toArray):=fun ty dc=>by
  have hm:Nat.min mv (nn+mv - j)=mv:=by simp only [Nat.min_def];split <;> omega
  have:=gM (P:=Tryz.prog) W1 33 ty 3 1 Tryz.underlying33 Tryz.sizeOf3 b (j) (nn+mv - j) dc q mv vcap vs (cur:=X1.toArray) hw1 (by rw [hvl,hm,Nat.mul_one]) (fun i v hi=>by
   have h0:=hv.cell hi;have hsp:(q.add i).block=q.block:=by unfold Addr.add;split <;> rfl
   rw [hW1];unfold World.cell? at h0 ⊢;rw [show (w.drew.setRow b X1.toArray).heap[(q.add i).block]?=w.heap[(q.add i).block]? from setRow_other w.drew b _ _ (by rw [hsp];exact fun e=>hne e.symm)]
   exact h0) (by rw [hvl,List.size_toArray,hX1l];omega) (fun v hv=>List.all_eq_true.1 h1 v hv)
  rw [this,hvl];congr 3;have e1:X1.take (j)=cs.take (j):=by
   rw [hX1,List.append_assoc,List.take_append_of_le_length (by rw [hlen1];omega),List.take_take,show min (j) ((j+mv))=j by omega,← ht,List.take_take,show min (j) (nn)=j by omega]
  have e2:X1.drop (j+mv)=cs.drop (j)++cur.toList.drop ((nn+mv)):=by
   rw [hX1,show j+mv=(j+mv) by omega,List.append_assoc,List.drop_append_of_le_length (by rw [hlen1];omega),List.drop_of_length_le (by rw [hlen1];omega),List.nil_append]
  simp only [List.toList_toArray,e1,e2,List.append_assoc]
 have hz2:¬((j:Int)=(nn:Int)):=by omega
 have hw2:IntKind.i64.wrap ((j:Int)+(mv:Int))=(j:Int)+(mv:Int):=by rw [IntKind.wrap_i64];omega
 have hw3:IntKind.i64.wrap ((nn:Int)+(mv:Int))=(nn:Int)+(mv:Int):=by rw [IntKind.wrap_i64];omega
 have htn:((j:Int)+(mv:Int)).toNat=j+mv:=by omega
 have htn2:((nn:Int)+(mv:Int)).toNat=nn+mv:=by omega
 have hb1:(0:Int)≤(j:Int)+(mv:Int):=by omega
 have hb2:¬(cap=j+mv):=by omega
 have hb4:¬(cap=j):=by omega
 have hb3:(j:Int)≤(nn:Int)+(mv:Int):=by omega
 have hin:j≤nn:=by omega
 have hro:¬((cap:Int) < (nn:Int)+(mv:Int)):=by omega
 clear hX1 hcur ht;have mixed:=T12.mixed;clear hw1;subst hW1
 go_enter Tryz.func113,Tryz.ntmps113
 go_wp2_with (simp only [hov])
 go_region_law_o (refine step_copy_runI rfl _ _ 33 33 rfl (.slice (some ⟨b,(j+mv),none⟩) (nn - j) (cap - (j+mv))) (.slice (some ⟨b,j,none⟩) (nn+mv - j) (cap - j)) (by first | (simp [Act.eval,Act.put];done) | (simp [Act.eval,Act.put];omega)) (by first | (simp [Act.eval,Act.put];done) | (simp [Act.eval,Act.put];omega)) (hcp1 3 (cap - (j+mv)) (cap - j)) ?_)
 go_wp2_with (at_builtin;refine wpList_copy_runI _ rfl _ _ 33 33 rfl _ _ rfl rfl (hcp2 _ _) ?_)
 go_ret
 exact ⟨rfl,by simp only [List.append_assoc]⟩
set_option maxHeartbeats 4000000 in
set_option maxRecDepth 100000 in
theorem Tryz.ins_growM {w:World} {b cap nn j mv:Nat} (hm:1≤mv) {cs:List Value} {q:Addr} {vcap:Nat} {vs:List Value} {cur:Array Value} (hw:w.heap[b]?=some (.cells cur 3 (0,0))) (hcs:cur.size=cap) (ht:cur.toList.take (nn)=cs) (hnc:nn≤cap) (hj:j < nn) (hroom:cap < nn+mv) (hb:nn+mv≤1073741824) (hv:aL (hp w) q vs) (hvl:vs.length=mv) (h1:vs.all (·.oneCell')=true) (h2:cs.all (·.oneCell')=true) :
  Calls Tryz.prog 113 #[.slice (some ⟨b,0,none⟩) nn cap,.int .i64 j,.slice (some q) mv vcap] w fun e w'=>∃ (G:Nat) (X:List Value),nn+mv≤G∧G≤maxLen∧X.length=G∧X.take ((nn+mv))=cs.take (j)++vs++cs.drop (j)∧e=.returned (.slice (some ⟨w.heap.size,0,none⟩) (nn+mv) G)∧∃ Y Z m,w'=(((w.alloc (.cells Y 3)).drewN m).setRow w.heap.size Z).setRow w.heap.size X.toArray:=by
 obtain ⟨i0,v0,hi0,hz0,hzv,hzs,hzb⟩:=T12.E33.info;have hzc:v0.cells.size=1:=by rw [gC,hzv];rfl
 have hcl:cs.length=nn:=by rw [← ht,List.length_take,Array.length_toList,hcs];omega
 have hcur:cur.toList=cs++cur.toList.drop (nn):=by rw [← ht,List.take_append_drop]
 have hold:(Builtin.firstCells i0.size j (.slice (some ⟨b,0,none⟩) j cap)).run Tryz.prog w.drew=.ok (cs.take (j)).toArray w.drew:=by
  rw [hzs];refine run_firstCells_some (w:=w.drew) 1 j ⟨b,0,none⟩ j cap (cs.take (j)) (by rw [List.length_take,hcl];omega) (fun i v hi=>?_);rw [jN,Nat.zero_add];refine gO (w:=w.drew) hw ?_;rw [List.getElem?_take] at hi
  split at hi
  ·rw [hcur,List.getElem?_append_left (by rw [hcl];omega)];exact hi
  cases hi
 have hik:j+(nn+mv - j)=nn+mv:=by omega
 have hkk:(nn:Int)+(mv:Int) - (j:Int)=((nn+mv - j:Nat):Int):=by omega
 obtain ⟨G,hG⟩:∃ G,G=grownCap w (nn+mv) cap 3:=⟨_,rfl⟩;have hGn:nn+mv≤G:=by rw [hG];exact grownCap_ge w _ _ _
 have hGm:G≤maxLen:=by rw [hG];exact grownCap_le_maxLen w (nn+mv) cap 3 (by unfold maxLen;omega)
 obtain ⟨R,hR⟩:∃ R:Array Value,R=(cs.take (j)).toArray++Builtin.zeroCells v0.cells (nn+mv - j)++Builtin.zeroCells v0.cells (G - (nn+mv)):=⟨_,rfl⟩;have hRs:R.size=G:=by
  rw [hR];simp only [Array.size_append,List.size_toArray,List.length_take,hcl,Builtin.zeroCells,Array.size_map,Array.size_range,hzc];omega
 have hRt:R.toList.take (j)=cs.take (j):=by
  rw [hR,Array.toList_append,Array.toList_append,List.append_assoc,List.take_append_of_le_length (by simp [hcl];omega)];simp only [List.toList_toArray,List.take_take,Nat.min_self]
 have hrz:∀ ty,(Builtin.append_ #[33,3] ty #[.slice (some ⟨b,0,none⟩) j cap,.int .i64 ((nn:Int)+(mv:Int) - (j:Int))]).run Tryz.prog w=.ok (.slice (some ⟨w.heap.size,0,none⟩) (nn+mv) G) (w.drew.alloc (.cells R 3)):=fun ty=>by
  have h:=Lib.run_append_grow_zeros w 33 3 ty 3 i0 _ .i64 .i64 Tryz.underlying33 Tryz.underlying3 hi0 hz0 (some ⟨b,0,none⟩) j cap (cs.take (j)) hold (nn+mv - j) (by omega) (by rw [hzs];decide) (by omega) (by omega) (by rw [hzb];omega) (by rw [hzb,hik];exact growslice_fits hroom (by omega));rw [hik] at h;rw [hkk,hR,hG];exact h
 have hN:(w.drew.alloc (.cells R 3)).heap[w.heap.size]?=some (.cells R 3 (0,0)):=dP w.drew _;have hbw:b < w.heap.size:=(Array.getElem?_eq_some_iff.1 hw).1;obtain ⟨X1,hX1⟩:∃ X1:List Value,X1=cs.take (j)++vs++R.toList.drop ((j+mv)):=⟨_,rfl⟩;obtain ⟨X2,hX2⟩:∃ X2:List Value,X2=cs.take (j)++vs++cs.drop (j)++R.toList.drop ((nn+mv)):=⟨_,rfl⟩;have hct:(cs.take (j)).length=j:=by rw [List.length_take,hcl];omega
 have hX1l:X1.length=G:=by rw [hX1];simp only [List.length_append,hct,hvl,List.length_drop,Array.length_toList,hRs];omega
 have hX2l:X2.length=G:=by rw [hX2];simp only [List.length_append,hct,hvl,List.length_drop,Array.length_toList,hRs,hcl];omega
 have hqn:∀ i,(q.add i).block=q.block:=fun i=>by unfold Addr.add;split <;> rfl
 obtain ⟨c0,t0,z0,hq0,_⟩:=mG hv (by omega);have hqw:q.block < w.heap.size:=(Array.getElem?_eq_some_iff.1 hq0).1;have hcpA:∀ (m:Nat) ty dc,(Builtin.copy_ #[33,33] ty #[.slice (some ⟨w.heap.size,j,none⟩) (nn+mv - j) dc,.slice (some q) mv vcap]).run Tryz.prog ((w.alloc (.cells R 3)).drewN m)=.ok (goInt (Nat.min mv (nn+mv - j))) (((w.alloc (.cells R 3)).drewN m).setRow w.heap.size X1.toArray):=fun m ty dc=>by
  have hm:Nat.min mv (nn+mv - j)=mv:=by simp only [Nat.min_def];split <;> omega
  have:=gM (P:=Tryz.prog) ((w.alloc (.cells R 3)).drewN m) 33 ty 3 1 Tryz.underlying33 Tryz.sizeOf3 w.heap.size (j) (nn+mv - j) dc q mv vcap vs (cur:=R) (te:=3) (dP w _) (by rw [hvl,hm,Nat.mul_one]) (fun i v hi=>by
   have h0:=hv.cell hi;unfold World.cell? at h0 ⊢;rw [show ((w.alloc (.cells R 3)).drewN m).heap[(q.add i).block]?=w.heap[(q.add i).block]? from (gB.alloc True w (.cells R 3)).keep _ (by rw [hqn];exact hqw)]
   exact h0) (by rw [hvl,hRs];omega) (fun v hv=>List.all_eq_true.1 h1 v hv)
  rw [this,hvl,hRt,hX1,show j+mv=(j+mv) by omega]
 have hcpB:∀ (m:Nat) ty dc sc,(Builtin.copy_ #[33,33] ty #[.slice (some ⟨w.heap.size,(j+mv),none⟩) (nn - j) dc,.slice (some ⟨b,j,none⟩) (nn - j) sc]).run Tryz.prog (((w.alloc (.cells R 3)).drewN m).setRow w.heap.size X1.toArray)=.ok (goInt (Nat.min (nn - j) (nn - j))) ((((w.alloc (.cells R 3)).drewN m).setRow w.heap.size X1.toArray).setRow w.heap.size X2.toArray):=fun m ty dc sc=>by
  have hm:Nat.min (nn - j) (nn - j)=nn - j:=Nat.min_self _;have hl:(cs.drop (j)).length=Nat.min (nn - j) (nn - j):=by rw [hm,List.length_drop,hcl]
  have:=gM (P:=Tryz.prog) (((w.alloc (.cells R 3)).drewN m).setRow w.heap.size X1.toArray) 33 ty 3 1 Tryz.underlying33 Tryz.sizeOf3 w.heap.size ((j+mv)) (nn - j) dc ⟨b,j,none⟩ (nn - j) sc (cs.drop (j)) (cur:=X1.toArray) (te:=3) (setRow_heap _ _ R X1.toArray 3 (0,0) (dP w _)) (by rw [hl,Nat.mul_one]) (fun i v hi=>by
   rw [jN];have hcell:w.cell? ⟨b,j+i,none⟩=some v:=by
    refine gO hw ?_;rw [hcur,List.getElem?_append_left (by rw [List.getElem?_drop] at hi;exact (List.getElem?_eq_some_iff.1 hi).1)]
    rwa [List.getElem?_drop] at hi
   unfold World.cell? at hcell ⊢;rw [show (((w.alloc (.cells R 3)).drewN m).setRow w.heap.size X1.toArray).heap[(⟨b,j+i,none⟩:Addr).block]?=w.heap[(⟨b,j+i,none⟩:Addr).block]? from (setRow_other _ _ _ _ (by show b≠w.heap.size;omega)).trans ((gB.alloc True w (.cells R 3)).keep _ hbw)]
   exact hcell) (by rw [List.length_drop,hcl,List.size_toArray,hX1l];omega) (fun v hv=>List.all_eq_true.1 h2 v (List.mem_of_mem_drop hv))
  rw [this,show (j+mv)+(cs.drop (j)).length=(nn+mv) by rw [List.length_drop,hcl];omega];congr 3;have e1:X1.take ((j+mv))=cs.take (j)++vs:=by
   rw [hX1,List.take_append_of_le_length (by rw [List.length_append,hct,hvl];omega),List.take_of_length_le (by rw [List.length_append,hct,hvl];omega)]
  have e2:X1.drop ((nn+mv))=R.toList.drop ((nn+mv)):=by
   rw [hX1,List.drop_append,List.drop_of_length_le (by rw [List.length_append,hct,hvl];omega),List.nil_append,List.drop_drop,List.length_append,hct,hvl,show (j+mv)+((nn+mv) - (j+mv))=(nn+mv) by omega]
  simp only [List.toList_toArray,e1,e2,hX2,List.append_assoc]
 have hX2t:X2.take ((nn+mv))=cs.take (j)++vs++cs.drop (j):=by
  rw [hX2,List.take_append_of_le_length (by simp only [List.length_append,hct,hvl,List.length_drop,hcl];omega),List.take_of_length_le (by simp only [List.length_append,hct,hvl,List.length_drop,hcl];omega)]
 refine Calls.mono (R:=fun e w''=>e=.returned (.slice (some ⟨w.heap.size,0,none⟩) (nn+mv) G)∧∃ m,w''=(((w.alloc (.cells R 3)).drewN m).setRow w.heap.size X1.toArray).setRow w.heap.size X2.toArray) ?_ fun e w'' hw=>by
  obtain ⟨rfl,m,rfl⟩:=hw;exact ⟨G,X2,hGn,hGm,hX2l,hX2t,rfl,R,X1.toArray,m,rfl⟩
 have mixed:=T12.mixed;have hz2:¬((j:Int)=(nn:Int)):=by omega
 have hw2:IntKind.i64.wrap ((j:Int)+(mv:Int))=(j:Int)+(mv:Int):=by rw [IntKind.wrap_i64];omega
 have hw3:IntKind.i64.wrap ((nn:Int)+(mv:Int))=(nn:Int)+(mv:Int):=by rw [IntKind.wrap_i64];omega
 have htn:((j:Int)+(mv:Int)).toNat=j+mv:=by omega
 have hb1:(0:Int)≤(j:Int)+(mv:Int):=by omega
 have hro:(cap:Int) < (nn:Int)+(mv:Int):=by omega
 have hGi:¬(G=j):=by omega
 have hGim:¬(G=j+mv):=by omega
 have hci:¬(cap=j):=by omega
 have hin:j≤nn:=by omega
 have hb3:(j:Int)≤(nn:Int):=by omega
 have hcpA0:∀ ty dc,(Builtin.copy_ #[33,33] ty #[.slice (some ⟨w.heap.size,j,none⟩) (nn+mv - j) dc,.slice (some q) mv vcap]).run Tryz.prog (w.drew.alloc (.cells R 3))=.ok (goInt (Nat.min mv (nn+mv - j))) ((w.drew.alloc (.cells R 3)).setRow w.heap.size X1.toArray):=fun ty dc=>hcpA 1 ty dc;have hcpA1:∀ ty dc,(Builtin.copy_ #[33,33] ty #[.slice (some ⟨w.heap.size,j,none⟩) (nn+mv - j) dc,.slice (some q) mv vcap]).run Tryz.prog ((w.alloc (.cells R 3)).drew)=.ok (goInt (Nat.min mv (nn+mv - j))) (((w.alloc (.cells R 3)).drew).setRow w.heap.size X1.toArray):=fun ty dc=>hcpA 1 ty dc;have hcpB0:∀ ty dc sc,(Builtin.copy_ #[33,33] ty #[.slice (some ⟨w.heap.size,(j+mv),none⟩) (nn - j) dc,.slice (some ⟨b,j,none⟩) (nn - j) sc]).run Tryz.prog (((w.alloc (.cells R 3)).drew.setRow w.heap.size X1.toArray).drew)=.ok (goInt (Nat.min (nn - j) (nn - j))) ((((w.alloc (.cells R 3)).drew.setRow w.heap.size X1.toArray).drew).setRow w.heap.size X2.toArray):=fun ty dc sc=>hcpB 2 ty dc sc;clear hG hcpA hcpB hR hold hkk hik hcur hRt hX1 hX2 hX2t hN hq0 hv ht
 go_enter Tryz.func113,Tryz.ntmps113
 go_wp2_with (first
  | (at_builtin;refine Lib.wpList_append_run _ rfl _ _ _ _ rfl _ _ rfl rfl _ _ (hrz _) ?_)
  | (at_builtin;refine wpList_copy_runI _ rfl _ _ 33 33 rfl _ _ rfl rfl (hcpA1 _ _) ?_)
  | (at_builtin;refine wpList_copy_runI _ rfl _ _ 33 33 rfl _ _ rfl rfl (hcpA0 _ _) ?_))
 go_region_law_o (refine step_copy_runI rfl _ _ 33 33 rfl (.slice (some ⟨w.heap.size,(j+mv),none⟩) (nn - j) (G - (j+mv))) (.slice (some ⟨b,j,none⟩) (nn - j) (cap - j)) (by first | (simp [Act.eval,Act.put];done) | (simp [Act.eval,Act.put];omega)) (by first | (simp [Act.eval,Act.put];done) | (simp [Act.eval,Act.put];omega)) (hcpB0 3 (G - (j+mv)) (cap - j)) ?_)
 go_wp2
 go_ret
 exact ⟨rfl,2,rfl⟩
set_option maxHeartbeats 4000000 in
set_option maxRecDepth 100000 in
theorem Tryz.ins_none {w:World} {ad vad:Option Addr} {cap nn j vcap:Nat} (hj:j≤nn) (hc:nn≤cap) (hcm:cap≤9223372036854775807):Calls Tryz.prog 113 #[.slice ad nn cap,.int .i64 j,.slice vad 0 vcap] w fun e w'=>e=.returned (.slice ad nn cap)∧∃ n,w'=w.drewN n:=by
 have hb3:(j:Int)≤(nn:Int):=by omega
 by_cases hcj:cap=j
 ·subst hcj
  go_enter Tryz.func113,Tryz.ntmps113
  go_wp2
  go_ret
  exact ⟨rfl,0,rfl⟩
 go_enter Tryz.func113,Tryz.ntmps113
 go_wp2
 go_ret
 exact ⟨rfl,0,rfl⟩
theorem Tryz.insM113:SR Tryz.prog 113 3 1:=by
 intro w ad cap nn cs j vad vcap mv vs hr hj hb hvl hsrc h2 hne hvc;have hcl:=(jC hr).1;have hnc0:=(jC hr).2;rw [Nat.mul_one] at hvl;simp only [Nat.mul_one];rcases Nat.eq_zero_or_pos mv with h0 | hm
 ·subst h0;have hv0:vs=[]:=List.eq_nil_of_length_eq_zero (by omega);subst hv0;have hrow:nn≤cap∧cap≤9223372036854775807:=by
   rcases hr.2 with ⟨e0,h0⟩ | ⟨b,cap',cur,he,hbb,hw,hnc,hcm,hcs,ht⟩
   ·cases e0;omega
   cases he;unfold maxLen at hcm;omega
  refine (Tryz.ins_none hj hrow.1 hrow.2).mono fun e w' h=>?_;obtain ⟨rfl,n,rfl⟩:=h;refine ⟨ad,cap,rfl,?_,?_,fun b hb'=>.inl hb'⟩
  ·rw [List.append_nil,List.take_append_drop];exact hr
  exact ⟨⟨rfl,rfl,rfl,Nat.le_refl _,fun k hk hne=>rfl⟩,Nat.le_add_right _ _⟩
 rcases hsrc with h0 | ⟨_,h1,⟨_,h0,_⟩ | ⟨q,rfl,hv⟩⟩
 ·omega
 ·omega
 by_cases hjn:j=nn
 ·subst hjn;refine (Tryz.ins_endM hm hr hb hv hvl h1).mono fun e w' h=>?_;rw [List.take_of_length_le (by omega),List.drop_of_length_le (by omega),List.append_nil];exact h
 have hlt:j < nn:=by omega
 rcases hr.2 with ⟨_,h0⟩ | ⟨b,cap',cur,he,hbb,hw,hnc,hcm,hcs,ht⟩
 ·omega
 simp only [Value.slice.injEq] at he;obtain ⟨rfl,_,rfl⟩:=he;rw [Nat.mul_one] at hcs ht;have hbw:b < w.heap.size:=(Array.getElem?_eq_some_iff.1 hw).1;have h3:cap≤9223372036854775807:=by unfold maxLen at hcm;omega
 have hln:(cs.take (j)++vs++cs.drop (j)).length=(nn+mv):=by
  simp only [List.length_append,List.length_take,List.length_drop,hvl,hcl];omega
 by_cases hroom:nn+mv≤cap
 ·refine (Tryz.ins_roomM hm hw hcs ht h3 hlt hroom hb hv hvl h1 h2 (hne q rfl hm b rfl)).mono fun e w' h=>?_;obtain ⟨rfl,rfl⟩:=h;refine ⟨_,_,rfl,?_,?_,fun b' hb'=>.inl hb'⟩
  ·refine ⟨by rw [hln,Nat.mul_one],.inr ⟨b,cap,_,rfl,hbb,setRow_heap _ b _ _ 3 (0,0) (setRow_heap w.drew b cur _ 3 (0,0) hw),hroom,hcm,?_,?_⟩⟩
   ·have:(cur.toList.drop ((nn+mv))).length=cap - (nn+mv):=by rw [List.length_drop,Array.length_toList,hcs]
    rw [List.size_toArray,List.length_append,hln,this];omega
   rw [Nat.mul_one,List.toList_toArray,List.take_append_of_le_length (by rw [hln];exact Nat.le_refl _),List.take_of_length_le (by rw [hln];exact Nat.le_refl _)]
  exact lC (fun k hk hkb=>(setRow_other _ _ _ _ hkb).trans (setRow_other _ _ _ _ hkb)) rfl rfl rfl (by rw [eU,eU];exact Nat.le_refl _) (Nat.le_succ _)
 refine (Tryz.ins_growM hm hw hcs ht hnc hlt (by omega) hb hv hvl h1 h2).mono fun e w' h=>?_;obtain ⟨G,X,hG1,hG2,hXl,hXt,rfl,Y,Z,m,rfl⟩:=h;refine ⟨_,_,rfl,?_,?_,fun b' hb'=>.inr (by simp at hb';omega)⟩
 ·refine ⟨by rw [hln,Nat.mul_one],.inr ⟨w.heap.size,G,X.toArray,rfl,Nat.zero_le _,setRow_heap _ _ Z _ 3 (0,0) (setRow_heap _ _ Y _ 3 (0,0) (dP w _)),hG1,hG2,by rw [List.size_toArray,hXl,Nat.mul_one],by rw [List.toList_toArray,Nat.mul_one];exact hXt⟩⟩
 refine lC (fun k hk hkb=>?_) rfl rfl rfl ?_ ?_
 ·have hkn:k≠w.heap.size:=by omega
  exact (setRow_other _ _ _ _ hkn).trans ((setRow_other _ _ _ _ hkn).trans ((gB.alloc True w (.cells Y 3)).keep k hk))
 ·rw [eU,eU];exact (gB.alloc True w (.cells Y 3)).size
 exact Nat.le_add_right _ _
end Go.Proofs
set_option maxHeartbeats 4000000
namespace T12
open Go Go.Proofs Pk Go.RowKit
section
variable {P:Program} {r:Option Nat} {n:aT} {p:List PanicEntry→aT} {a:Act} {w:World} {D:List Deferred} {k:Nat} {L:cC} {ops:Array Oper} {rest:List Oper} {d:Nat} {ty:TypeId} {pos:String} {af:Array Edge}
theorem OH {y:Operand} {t u te:TypeId} {pe:Value} {ms:_} (hA:aS D k a L) (hu':P.underlying t=some (.interface ms)) (hd:Nat.blt d k=true) (hy:ev L y=some (.iface te pe)) (h:∀ a,aS D k a ((d,.bool false)::L)→O P r ops n p rest a w):O P r ops n p (⟨some d,.binOp .eql t y (.const .nilIface) u,ty,pos,af,none⟩::rest) a w:=by
 have hu:P.underlying t=some (.interface (P.methodsAt t)):=by rw [hu'];simp [Program.methodsAt,hu']
 refine cO rfl (fun _ h=>by cases h) (w':=w) (v:=.bool false) ?_ (h _ (hA.put hd _));simp [execOp,hA.eval hy,show a.eval (.const .nilIface)=.nilIface from rfl,eqGuard,run_eql_held_nil w t _ _ hu,Result.andThen]
theorem OI {y:Operand} {t u:TypeId} {ms:_} (hA:aS D k a L) (hu':P.underlying t=some (.interface ms)) (hd:Nat.blt d k=true) (hy:ev L y=some .nilIface) (h:∀ a,aS D k a ((d,.bool true)::L)→O P r ops n p rest a w):O P r ops n p (⟨some d,.binOp .eql t y (.const .nilIface) u,ty,pos,af,none⟩::rest) a w:=by
 have hu:P.underlying t=some (.interface (P.methodsAt t)):=by rw [hu'];simp [Program.methodsAt,hu']
 refine cO rfl (fun _ h=>by cases h) (w':=w) (v:=.bool true) ?_ (h _ (hA.put hd _));simp only [execOp,hA.eval hy,show a.eval (.const .nilIface)=.nilIface from rfl];simp [eqGuard,run_eql_nil_nil w t hu,Result.andThen]
theorem OJ {y:Operand} {xT t:TypeId} {v:Value} {ds:TypeDesc} (hA:aS D k a L) (hd:Nat.blt d k=true) (hu:P.underlying t=some ds) (hds:(match ds with | .interface _=>false | _=>true)=true) (hy:ev L y=some (.iface t v))
  (h:∀ a,aS D k a ((d,.tuple #[v,.bool true])::L)→O P r ops n p rest a w):O P r ops n p (⟨some d,.typeAssert y xT t true,ty,pos,af,none⟩::rest) a w :=
 cO rfl (fun _ h=>by cases h) (w':=w) (v:=.tuple #[v,.bool true]) (by
  simp only [execOp,Instr.typeAssert,hA.eval hy]
  cases ds <;> simp at hds <;> simp [run_underlying hu,Result.andThen]) (h _ (hA.put hd _))
end
theorem OL (q:Addr) (w:World):CallsD Tryz.prog 48 #[.pointer (some q)] .returning w fun e u' w'=>e=.returned (.tuple #[])∧u'=.returning∧w'=w:=by
 refine callsD_of_wpS Tryz.func48 rfl fun c₀ cs hu=>?_;apply wpS_seq;apply wpS_region;simp [wpOpsS,go_sem,recoverD,hu,Tryz.ntmps48,Exit.thenS];refine wpS_of_wp ?_;refine (wpIn_wide (n:=0)).1 (wpIn_mono (show Pk.W Tryz.prog none _ (fun a w'=>a.defers=[]∧w'=w) (fun _ _=>False) [] (fun _ _ _=>False) _ w from ?_) ?_)
 ·have hA:aS [] 12 { tmps:=#[.pointer (some q)]++((Array.replicate 11 undef).setIfInBounds 3 .nilIface),defers:=[] } [(0,.pointer (some q)),(4,.nilIface)]:=by
   refine ⟨rfl,by simp,fun i u h=>?_⟩;rcases i with _ | _ | _ | _ | _ | i
   ·exact h
   ·cases h
   ·cases h
   ·cases h
   ·exact h
   cases (show (none:Option Value)=some u from h)
  revert hA;generalize ({ tmps:=_,defers:=[] }:Act)=a;intro hA;refine lT (gI (dM (OI hA Tryz.underlying20 rfl rfl fun a hA=>fW (jE hA rfl (fun _=>?_) (fun h=>by cases h)))));exact dM (fJ hA rfl rfl fun a hA=>fW ⟨hA.defers,rfl⟩)
 intro z a w' hz
 cases z with
 | normal =>
  obtain ⟨hd,rfl⟩:=hz;exact ⟨hd,.returning,by cases c₀;simp_all,.tuple #[],by simp [results,Tryz.results48],rfl,rfl,rfl⟩
 | ret=>exact hz.elim
 | panic ch=>exact hz.elim
 | exit id=>obtain ⟨K,hK,_⟩:=hz;simp [tF] at hK
 | goto l=>exact hz
 | outgrown=>exact hz.elim
theorem OM {M:Prop} {W w:World} {H:Hp} {Hs:List Hp} {b tE:Nat} {z0:Value} {u:Int} {σr:aK} (hS:St M W H Hs ((tE,bH b 43 [z0])::σr) w) (hT:Nat.beq 999999 tE=false) :
  CallsD Tryz.prog 48 #[.pointer (some ⟨b,0,none⟩)] (.panicking (HH (.iface 126 (.agg #[.int .i64 u])))) w fun e u' w'=>(∃ v,e=.returned v)∧settle u'=.returning ∧
   ∃ b3 cs3,St M W H Hs ((999999,bH b3 126 cs3)::(tE,bH b 43 [.int .i64 u])::σr) w':=by
 refine callsD_of_wpS Tryz.func48 rfl fun c₀ cs hu=>?_;apply wpS_seq;apply wpS_region;obtain ⟨v,hv⟩:∃ v:Value,v=.agg #[.int .i64 u]:=⟨_,rfl⟩;rw [← hv] at hu;simp [wpOpsS,go_sem,recoverD,hu,Tryz.ntmps48,Exit.thenS,HH];refine wpS_of_wp ?_;refine (wpIn_wide (n:=0)).1 (wpIn_mono (show Pk.W Tryz.prog none _ (fun a w=>a.defers=[]∧∃ b3 cs3,St M W H Hs ((999999,bH b3 126 cs3)::(tE,bH b 43 [.int .i64 u])::σr) w) (fun _ _=>False) [] (fun _ _ _=>False) _ w from ?_) ?_)
 ·have hA:aS [] 12 { tmps:=#[.pointer (some ⟨b,0,none⟩)]++((Array.replicate 11 undef).setIfInBounds 3 (.iface 126 v)),defers:=[] } [(0,.pointer (some ⟨b,0,none⟩)),(4,.iface 126 v)]:=by
   refine ⟨rfl,by simp,fun i u h=>?_⟩;rcases i with _ | _ | _ | _ | _ | i
   ·exact h
   ·cases h
   ·cases h
   ·cases h
   ·exact h
   cases (show (none:Option Value)=some u from h)
  revert hA;generalize ({ tmps:=_,defers:=[] }:Act)=a;intro hA;subst hv;refine lT (gI (dM (OH hA Tryz.underlying20 rfl rfl fun a hA=>fW (jE hA rfl (fun h=>by cases h) (fun _=>?_)))));refine gI (dM (OJ hA rfl Tryz.underlying126 rfl rfl fun a hA=>lW (vs:=[.agg #[.int .i64 u],.bool true]) hA rfl rfl rfl fun a hA=>lW (vs:=[.agg #[.int .i64 u],.bool true]) hA rfl rfl rfl fun a hA=>fW (jE hA rfl (fun _=>?_) (fun h=>by cases h))));refine gI (dM (rS 999999 hA rfl hS Tryz.zeroValue126 rfl fun b3 w hS hb a hA=>?_));refine lX 999999 (cs:=[.int .i64 u]) hA hS rfl rfl Tryz.sizeOf126 rfl rfl rfl rfl rfl fun w hS a hA=>fW ?_;refine dM (ZB (cs:=[.int .i64 u]) (v:=.int .i64 u) hA rfl rfl rfl Tryz.underlying126 rfl Tryz.sizeOf43 Tryz.isAgg43 ?_ rfl fun a hA=>?_)
  ·exact sO (x:=⟨[],12,M,W,H⟩) 999999 rfl w hS
  refine lX tE (t0:=43) (l:=[z0]) (cs:=[.int .i64 u]) hA hS rfl rfl Tryz.sizeOf43 (by simp [cH,dN,hT]) rfl rfl rfl rfl fun w hS a hA=>fW ?_;refine ⟨hA.defers,b3,[.int .i64 u],?_⟩;simpa [dN,hT,kJ,bW] using hS
 intro z a w' hz
 cases z with
 | normal =>
  obtain ⟨hd,h⟩:=hz;subst hv;exact ⟨hd,.panicking [{ v:=.iface 126 (.agg #[.int .i64 u]),recovered:=true }],rfl,.tuple #[],by simp [results,Tryz.results48],⟨_,rfl⟩,rfl,h⟩
 | ret=>exact hz.elim
 | panic ch=>exact hz.elim
 | exit id=>obtain ⟨K,hK,_⟩:=hz;simp [tF] at hK
 | goto l=>exact hz
 | outgrown=>exact hz.elim
variable {R:Ending→World→Prop} {M:Prop} {W:World} {H:Hp} {Hs:List Hp} {σ:aK} {L:cC} {b:Nat}
theorem ZS (h:TG ⟨[],56,M,W,H⟩ Hs σ L (Rt Tryz.prog Tryz.f33 R)):TG ⟨[LU 48 [.pointer (some ⟨b,0,none⟩)]],56,M,W,H⟩ Hs σ L (SO Tryz.prog Tryz.f33 R) :=
 rtF Tryz.call48 (fun w hS=>(OL ⟨b,0,none⟩ w).mono (by rintro e u w' ⟨rfl,rfl,rfl⟩;exact ⟨⟨_,rfl⟩,rfl,hS⟩)) h
theorem CY {tE:Nat} {u:Int} {z0:Value} {σr:aK} (hT:Nat.beq 999999 tE=false)
  (h:∀ b3 cs3,TG ⟨[],56,M,W,H⟩ Hs ((999999,bH b3 126 cs3)::(tE,bH b 43 [.int .i64 u])::σr) L (Rt Tryz.prog Tryz.f33 R)) :
  TG ⟨[LU 48 [.pointer (some ⟨b,0,none⟩)]],56,M,W,H⟩ Hs ((tE,bH b 43 [z0])::σr) L (SP Tryz.prog Tryz.f33 R (HH (.iface 126 (.agg #[.int .i64 u])))) :=
 pnF (σ':=fun b3 cs3=>(999999,bH b3 126 cs3)::(tE,bH b 43 [.int .i64 u])::σr) Tryz.call48 (fun w hS=>OM hS hT) h
section
open Go.Lib
theorem TB (w:World):PredAtRunes Tryz.prog 165 #[] (fun x=>x==32) w:=by
 intro W x hx hb;show Calls Tryz.prog 165 #[encR x] W _
 go_enter Tryz.func165,Tryz.ntmps165
 go_wp2
 first | go_ret | go_ret2
 exact ⟨by simp [encR];rw [Bool.eq_iff_iff];simp;omega,0,rfl⟩
noncomputable def JC (s:aD):Option (List aD):=bN (s.length≤1073741824) (some ((goFieldsP (fun x=>x==32) (bs s)).map (·.data.toList)))
theorem ZT {M:Prop} {W:World} {H:Hp} (hH:H.le (hp W)) (hg:Gv M H) (s:aD) {r:List aD} (hr:JC s=some r):Calls Tryz.prog 164 #[.string (bs s),.func (.func 165) #[] #[]] W (eS M H W (fun v K=>∃ (ad0:Option Addr) (cap0:Nat),v=.slice ad0 r.length cap0∧Sl (aG bQ) 1 K ad0 cap0 r)):=by
 unfold JC at hr;obtain ⟨hl,hr⟩:=aC hr;obtain rfl:=Option.some.inj hr;refine (Any.strings_FieldsFunc_runes Tryz.lays229 165 #[] Tryz.call165 (fun x=>x==32) (bs s) W (by rw [fP];omega) (TB W) (by kernel_rfl) (by kernel_rfl)).mono ?_;rintro e w' ⟨A,rfl,hA,ho,hb⟩;have hE:gB M W w':=gB.of_below hg.gl.nq hb;generalize goFieldsP (fun x=>x==32) (bs s)=l at ho;refine ⟨⟨some ⟨A,0,none⟩,l.length,by rw [List.length_map],?_⟩,hE⟩;rcases ho.2 with ⟨h,_⟩ | ⟨g,cap,cur,h,_,hg,h1,h2,h3,h4⟩
 ·cases h
 cases h;refine ⟨by rw [List.length_map];unfold maxLen at h2;omega,fun i x hx=>?_⟩;rw [List.getElem?_map,Option.map_eq_some_iff] at hx;obtain ⟨y,hy,rfl⟩:=hx;refine ⟨_,bQ y.data.toList,rfl,rfl,rfl,⟨by rw [dO rfl],fun j v hv=>?_⟩,rfl⟩;rw [dO rfl]
 cases j with
 | succ j=>simp [bQ] at hv
 | zero =>
  have hv:v=.string (bs y.data.toList):=by simpa [bQ] using hv.symm
  subst hv;refine ⟨cur,9,(0,0),by show (if A < W.heap.size then _ else w'.heap[A]?)=_;rw [if_neg (by omega)];exact hg,?_⟩;have hi:i < l.length:=(List.getElem?_eq_some_iff.1 hy).1;have:(cur.toList.take (l.length*1))[i]?=some (.string y):=by rw [h4];simp [hy]
  rw [List.getElem?_take,if_pos (by omega)] at this;rw [← RK y];simpa using this
end
end T12
set_option linter.unusedVariables false
namespace Go.Proofs
open Go.Shelf Go.RowKit Pk
set_option maxHeartbeats 4000000
set_option maxRecDepth 100000
section
variable {P:Program} {ρ:Go.Shelf.Ren}
open Go.Shelf Go.RowKit
end
end Go.Proofs
set_option maxHeartbeats 4000000
namespace T12
open Go Go.Proofs Pk Tryz
noncomputable section
def CZ (line:aD) (s1:Int):Option ((Int)⊕(Int)) :=
 ((
  if s1 < (line.length:Int) then (
   bN (0≤s1) <|
   (line[s1.toNat]?).bind fun x0 =>
   some (decide ((x0.toNat:Int)≠32)))
  else
  some false
 ):Option (Bool)).bind fun t31 =>
 if t31 then (
  bN (-9223372036854775808≤(s1+1)∧(s1+1)≤9223372036854775807) <|
  some (.inl (s1+1)))
 else
 some (.inr s1)
def QT (line:aD) (fy:Int):Option (Int) :=
 (bF (CZ line) fy).bind fun e16 =>
 some e16
def QU (cQ:aD):Option (Int×Bool) :=
 if cQ=[114,101,115,117,108,116] then (
  some (0,false))
 else
 if cQ=[109,111,118,101] then (
  some (0,true))
 else
 ((
  if cQ=[100,97,121] then (
   some (decide (cQ=[100,97,121])))
  else
  ((
   if cQ=[104,111,117,115,101] then (
    some (decide (cQ=[104,111,117,115,101])))
   else
   ((
    if cQ=[97,100,111,112,116] then (
     some (decide (cQ=[97,100,111,112,116])))
    else
    some (decide (cQ=[111,114,100,101,114]))
   ):Option (Bool)).bind fun t0 =>
   some t0
  ):Option (Bool)).bind fun t1 =>
  some t1
 ):Option (Bool)).bind fun t2 =>
 if t2 then (
  some (1,false))
 else
 if cQ=[115,97,121] then (
  some (1,true))
 else
 ((
  if cQ=[114,101,109,111,118,101] then (
   some (decide (cQ=[114,101,109,111,118,101])))
  else
  ((
   if cQ=[99,105,116,101] then (
    some (decide (cQ=[99,105,116,101])))
   else
   some (decide (cQ=[112,97,105,114]))
  ):Option (Bool)).bind fun t3 =>
  some t3
 ):Option (Bool)).bind fun t4 =>
 if t4 then (
  some (2,false))
 else
 if cQ=[99,104,97,110,103,101] then (
  some (2,true))
 else
 ((
  if cQ=[98,105,110,100] then (
   some (decide (cQ=[98,105,110,100])))
  else
  ((
   if cQ=[104,105,100,101] then (
    some (decide (cQ=[104,105,100,101])))
   else
   some (decide (cQ=[116,101,108,108]))
  ):Option (Bool)).bind fun t5 =>
  some t5
 ):Option (Bool)).bind fun t6 =>
 if t6 then (
  some (3,false))
 else
 if cQ=[97,100,100] then (
  some (3,true))
 else
 if cQ=[100,105,118,105,100,101] then (
  some (4,false))
 else
 if cQ=[112,97,112,101,114] then (
  some (4,true))
 else
 some ((-1),false)
def yS (t21:aD) (s1:Nat×Int):Option ((Nat×Int)⊕((Int)⊕(Int×Bool))) :=
 if (s1.1:Int) < (t21.length:Int) then (
  ((
   (t21[s1.1]?).bind fun x1 =>
   if (x1.toNat:Int) < 48 then (
    some true)
   else
   some (decide (57 < (x1.toNat:Int)))
  ):Option (Bool)).bind fun t0 =>
  if t0 then (
   some (.inr (.inr (0,false))))
  else
  bN (-9223372036854775808≤(10*s1.2)∧(10*s1.2)≤9223372036854775807) <|
  (t21[s1.1]?).bind fun x0 =>
  bN (-9223372036854775808≤((10*s1.2)+(((x0.toNat:Int) - 48)%256))∧((10*s1.2)+(((x0.toNat:Int) - 48)%256))≤9223372036854775807) <|
  bN (-9223372036854775808≤((s1.1:Int)+1)∧((s1.1:Int)+1)≤9223372036854775807) <|
  some (.inl ((s1.1+1),((10*s1.2)+(((x0.toNat:Int) - 48)%256)))))
 else
 some (.inr (.inl s1.2))
def MC (ai:aD):Option (Int×Bool) :=
 ((
  if 0 < (ai.length:Int) then (
   (ai[0]?).bind fun x0 =>
   some (decide ((x0.toNat:Int)=45)))
  else
  some false
 ):Option (Bool)).bind fun t7 =>
 ((
  if t7 then (
   bN (1≤ai.length) <|
   some (ai.drop 1))
  else
  some ai
 ):Option (aD)).bind fun t21 =>
 ((
  if (t21.length:Int)=0 then (
   some true)
  else
  if 9 < (t21.length:Int) then (
   some true)
  else
  (t21[0]?).bind fun x1 =>
  if (x1.toNat:Int)=48 then (
   if 1 < (t21.length:Int) then (
    some true)
   else
   some t7)
  else
  some false
 ):Option (Bool)).bind fun t44 =>
 if t44 then (
  some (0,false))
 else
 (bF (yS t21) (0,0)).bind fun eA1=>match eA1 with
 | .inr z=>some z
 | .inl t0 =>
 ((
  if t7 then (
   bN (-9223372036854775808≤(0 - t0)∧(0 - t0)≤9223372036854775807) <|
   some (0 - t0))
  else
  some t0
 ):Option (Int)).bind fun t1 =>
 some (t1,true)
def DA (r8:Int×Bool) (line:aD) (s1:Nat×Int×List Int):Option ((Nat×Int×List Int)⊕((Int×List Int)⊕(aD×List Int×aD×Bool))) :=
 if (s1.1:Int) < r8.1 then (
  if s1.2.1=(line.length:Int) then (
   some (.inr (.inr ([],([]:List Int),[],false))))
  else
  bN (-9223372036854775808≤(s1.2.1+1)∧(s1.2.1+1)≤9223372036854775807) <|
  (QT line (s1.2.1+1)).bind fun r0 =>
  bN (0≤(s1.2.1+1)) <|
  bN (0≤r0) <|
  bN ((s1.2.1+1).toNat≤r0.toNat∧r0.toNat≤line.length) <|
  (MC ((line.drop ((s1.2.1+1).toNat)).take (r0.toNat - ((s1.2.1+1).toNat)))).bind fun r1 =>
  if r1.2 then (
   bN (s1.2.2.length+1≤1073741824) <|
   bN (-9223372036854775808≤((s1.1:Int)+1)∧((s1.1:Int)+1)≤9223372036854775807) <|
   some (.inl ((s1.1+1),r0,(s1.2.2++[r1.1]))))
  else
  some (.inr (.inr ([],([]:List Int),[],false))))
 else
 some (.inr (.inl (s1.2.1,s1.2.2)))
def m16 (line:aD):Option (aD×List Int×aD×Bool) :=
 (QT line 0).bind fun r1 =>
 bN (0≤r1) <|
 bN (r1.toNat≤line.length) <|
 (QU (line.take r1.toNat)).bind fun r8 =>
 if r8.1 < 0 then (
  some ([],([]:List Int),[],false))
 else
 (bF (DA r8 line) (0,r1,([]:List Int))).bind fun eA1=>match eA1 with
 | .inr z=>some z
 | .inl t0 =>
 if r8.2==decide (t0.1 < (line.length:Int)) then (
  if r8.2 then (
   bN (-9223372036854775808≤(t0.1+1)∧(t0.1+1)≤9223372036854775807) <|
   bN (0≤(t0.1+1)) <|
   bN ((t0.1+1).toNat≤line.length) <|
   some ((line.take r1.toNat),t0.2,(line.drop ((t0.1+1).toNat)),true))
  else
  some ((line.take r1.toNat),t0.2,[],true))
 else
 some ([],([]:List Int),[],false)
def ON (lines:List aD) (s1:Nat×Int×Int):Option ((Nat×Int×Int)⊕(Int×Int)) :=
 if (s1.1:Int) < (lines.length:Int) then (
  (lines[s1.1]?).bind fun x0 =>
  (m16 x0).bind fun r0 =>
  ((
   if r0.2.2.2 then (
    some (decide (r0.1=[116,101,108,108])))
   else
   some false
  ):Option (Bool)).bind fun t0 =>
  ((
   if t0 then (
    some (IntKind.i64.wrap (s1.2.2+1)))
   else
   some s1.2.2
  ):Option (Int)).bind fun t1 =>
  some (.inl ((s1.1+1),(IntKind.i64.wrap (s1.2.1+(x0.length:Int))),t1)))
 else
 some (.inr (s1.2.1,s1.2.2))
def m5 (lines:List aD):Option (Bool) :=
 (bF (ON lines) (0,0,0)).bind fun e55 =>
 ((
  if e55.2≤8 then (
   if (lines.length:Int)≤40 then (
    if e55.1≤1500 then (
     some true)
    else
    if (lines.length:Int)≤62 then (
     if e55.1≤200 then (
      some true)
     else
     if (lines.length:Int)=1 then (
      some (decide (e55.1≤410)))
     else
     some false)
    else
    if (lines.length:Int)=1 then (
     some (decide (e55.1≤410)))
    else
    some false)
   else
   if (lines.length:Int)≤62 then (
    if e55.1≤200 then (
     some true)
    else
    if (lines.length:Int)=1 then (
     some (decide (e55.1≤410)))
    else
    some false)
   else
   if (lines.length:Int)=1 then (
    some (decide (e55.1≤410)))
   else
   some false)
  else
  some false
 ):Option (Bool)).bind fun t0 =>
 some t0
def OO (lines:List aD) (s1:Nat):Option ((Nat)⊕((Unit)⊕Bool)) :=
 if (s1:Int) < (lines.length:Int) then (
  (lines[s1]?).bind fun x0 =>
  if 400 < (x0.length:Int) then (
   some (.inr (.inr false)))
  else
  some (.inl (s1+1)))
 else
 some (.inr (.inl ()))
def m6 (lines:List aD):Option (Bool) :=
 (bF (OO lines) 0).bind fun e16=>match e16 with
 | .inr z=>some z
 | .inl t0 =>
 some (decide ((lines.length:Int)≤60))
def m17  : Option (List aD) :=
 some ([[104,111,117,115,101,32,53],[115,97,121,32,49,49,32,84,104,101,32,72,111,117,115,101,32,109,101,116,46],[109,111,118,101,32,116,104,105,115,32,72,111,117,115,101,32,110,111,116,101,115,32,116,104,101,32,114,101,112,111,114,116],[112,97,112,101,114,32,51,32,48,32,50,32,51,32,119,101,108,99,111,109,101,115],[97,100,111,112,116,32,51],[100,105,118,105,100,101,32,48,32,48,32,51,32,50],[116,101,108,108,32,49,32,48,32,48],[116,101,108,108,32,49,32,49,32,48],[116,101,108,108,32,49,32,48,32,49],[116,101,108,108,32,49,32,49,32,49],[116,101,108,108,32,50,32,48,32,52],[114,101,115,117,108,116],[116,101,108,108,32,50,32,49,32,52],[114,101,115,117,108,116],[111,114,100,101,114,32,49,50],[98,105,110,100,32,51,32,52,32,50,48],[104,105,100,101,32,49,49,32,50,32,49,57,57,48],[99,105,116,101,32,49,50,32,48]]:List aD)
def oA (ai:List aD) (cg:aD→Option Bool) (s1:Nat):Option ((Nat)⊕((Unit)⊕Int)) :=
 if (s1:Int) < (ai.length:Int) then (
  (ai[s1]?).bind fun x0 =>
  (cg x0).bind fun r0 =>
  if r0 then (
   some (.inr (.inr (s1:Int))))
  else
  some (.inl (s1+1)))
 else
 some (.inr (.inl ()))
def QV (ai:List aD) (cg:aD→Option Bool):Option (Int) :=
 (bF (oA ai cg) 0).bind fun e19=>match e19 with
 | .inr z=>some z
 | .inl t0 =>
 some (-1)
def MD (ai:List aD) (cg:aD→Option Bool):Option (Bool) :=
 (QV ai cg).bind fun r1 =>
 some (decide (0≤r1))
def DB (ai:aD):Option (Bool) :=
 some (decide (400 < (ai.length:Int)))
def m19 (lines:List aD):Option (Int) :=
 ((
  if 60 < (lines.length:Int) then (
   some true)
  else
  (MD lines (DB)).bind fun r0 =>
  some r0
 ):Option (Bool)).bind fun t8 =>
 if t8 then (
  some 3)
 else
 some 0
def oW (ed:Int) (low:Int) (high:Int):Option (Bool) :=
 ((
  if low≤ed then (
   some (decide (ed≤high)))
  else
  some false
 ):Option (Bool)).bind fun t4 =>
 some t4
def jJ (ja:Bool) (e:Int):Option (Unit⊕Unit) :=
 if ja then (
  some (.inl ()))
 else
 some (.inr ())
def TC (aa:aI) (bq:List Int) (cw:aD):Option (aI⊕Int) :=
 (bq[0]?).bind fun x3 =>
 (oW x3 aa.state.day 99999).bind fun r0 =>
 (jJ r0 2).bind fun r1=>match r1 with
 | .inl y0=>(
  some (.inl (⟨({aa.state with day:=x3}:dE)⟩:aI)))
 | .inr _=>(
  some (.inr 2))
def DD (ai:List eB):Option (List eB) :=
 bN (([]:List eB).length+ai.length≤1073741824) <|
 some (([]:List eB)++ai)
def JD (ai:List aH):Option (List aH) :=
 bN (([]:List aH).length+ai.length≤1073741824) <|
 some (([]:List aH)++ai)
def DE (bv:List aH) (cq:aH):Option (List aH) :=
 (JD bv).bind fun r4 =>
 bN (r4.length+([cq]:List aH).length≤1073741824) <|
 some (r4++([cq]:List aH))
def TD (aa:aI) (parts:List eB):Option (bX) :=
 some (⟨1,aa.state.day,1,10,parts⟩:bX)
def OP (aa:aI) (parts:List eB):Option (bX) :=
 some (⟨1,aa.state.day,1,10,parts⟩:bX)
def yT (ar:bX) (s1:Nat×List aH):Option ((Nat×List aH)⊕(List aH)) :=
 if (s1.1:Int) < (ar.parts.length:Int) then (
  (ar.parts[s1.1]?).bind fun x0 =>
  bN (s1.2.length+x0.paragraphs.length≤1073741824) <|
  some (.inl ((s1.1+1),(s1.2++x0.paragraphs))))
 else
 some (.inr s1.2)
def ME (ar:bX):Option (List aH) :=
 (bF (yT ar) (0,([]:List aH))).bind fun e82 =>
 some e82
def DG (ed:Int) (low:Int) (high:Int):Option (Bool) :=
 ((
  if low≤ed then (
   some (decide (ed≤high)))
  else
  some false
 ):Option (Bool)).bind fun t4 =>
 some t4
def HJ (ed:Int):Option (Bool) :=
 (DG ed 0 99999).bind fun r1 =>
 some r1
def uN (aq:aH) (bw:aH→Option Bool):Option (Bool) :=
 (bw aq).bind fun r4 =>
 some (!r4)
def wG (ai:List aH) (cg:aH→Option Bool) (s1:Nat):Option ((Nat)⊕((Unit)⊕Int)) :=
 if (s1:Int) < (ai.length:Int) then (
  (ai[s1]?).bind fun x0 =>
  (cg x0).bind fun r0 =>
  if r0 then (
   some (.inr (.inr (s1:Int))))
  else
  some (.inl (s1+1)))
 else
 some (.inr (.inl ()))
def JE (ai:List aH) (cg:aH→Option Bool):Option (Int) :=
 (bF (wG ai cg) 0).bind fun e19=>match e19 with
 | .inr z=>some z
 | .inl t0 =>
 some (-1)
def JF (ai:List aH) (cg:aH→Option Bool):Option (Bool) :=
 (JE ai cg).bind fun r1 =>
 some (decide (0≤r1))
def DH (bv:List aH) (right:aH→Option Bool):Option (Bool) :=
 (JF bv (fun x0_=>uN x0_ right)).bind fun r5 =>
 some (!r5)
def OQ (ed:Int):Option (Bool) :=
 (DG ed 1 999).bind fun r1 =>
 some r1
def uO (aq:Int) (bw:Int→Option Bool):Option (Bool) :=
 (bw aq).bind fun r1 =>
 some (!r1)
def sC (ai:List UInt8) (cg:Int→Option Bool) (s1:Nat):Option ((Nat)⊕((Unit)⊕Int)) :=
 if (s1:Int) < (ai.length:Int) then (
  (ai[s1]?).bind fun x0 =>
  (cg (x0.toNat:Int)).bind fun r0 =>
  if r0 then (
   some (.inr (.inr (s1:Int))))
  else
  some (.inl (s1+1)))
 else
 some (.inr (.inl ()))
def DI (ai:List UInt8) (cg:Int→Option Bool):Option (Int) :=
 (bF (sC ai cg) 0).bind fun e19=>match e19 with
 | .inr z=>some z
 | .inl t0 =>
 some (-1)
def zU (ai:List UInt8) (cg:Int→Option Bool):Option (Bool) :=
 (DI ai cg).bind fun r1 =>
 some (decide (0≤r1))
def DJ (bv:List UInt8) (right:Int→Option Bool):Option (Bool) :=
 (zU bv (fun x0_=>uO x0_ right)).bind fun r5 =>
 some (!r5)
def wH (gj:Int):Option (Bool) :=
 ((
  if (32:Int)≤gj then (
   some (decide (gj≤126)))
  else
  some false
 ):Option (Bool)).bind fun t4 =>
 some t4
def OR (ai:aD):Option (Bool) :=
 ((
  (DG (ai.length:Int) 1 200).bind fun r0 =>
  if r0 then (
   bN (ai.length≤1073741824) <|
   (DJ ai (wH)).bind fun r1 =>
   some r1)
  else
  some false
 ):Option (Bool)).bind fun t0 =>
 some t0
def uP (cy:aH):Option (Bool) :=
 ((
  (OQ cy.anchor).bind fun r0 =>
  if r0 then (
   (OR cy.text).bind fun r1 =>
   some r1)
  else
  some false
 ):Option (Bool)).bind fun t0 =>
 some t0
def DK (ar:bX) (s1:Nat):Option ((Nat)⊕((Unit)⊕Bool)) :=
 if (s1:Int) < (ar.parts.length:Int) then (
  (ar.parts[s1]?).bind fun x0 =>
  ((
   (HJ x0.day).bind fun r0 =>
   if r0 then (
    if ar.bound < x0.day then (
     some true)
    else
    if 0 < (s1:Int) then (
     (ar.parts[((s1:Int) - 1).toNat]?).bind fun x1 =>
     some (decide (x0.day≤x1.day)))
    else
    some false)
   else
   some true
  ):Option (Bool)).bind fun t0 =>
  if t0 then (
   some (.inr (.inr false)))
  else
  some (.inl (s1+1)))
 else
 some (.inr (.inl ()))
def TE (ar:bX):Option (Bool) :=
 (bF (DK ar) 0).bind fun e55=>match e55 with
 | .inr z=>some z
 | .inl t58 =>
 ((
  (DG ar.number 1 99).bind fun r0 =>
  if r0 then (
   (HJ ar.bound).bind fun r1 =>
   if r1 then (
    (DG ar.height 1 60).bind fun r2 =>
    if r2 then (
     (DG ar.width 10 80).bind fun r3 =>
     if r3 then (
      (ME ar).bind fun r4 =>
      (DH r4 (uP)).bind fun r5 =>
      some r5)
     else
     some false)
    else
    some false)
   else
   some false)
  else
  some false
 ):Option (Bool)).bind fun t0 =>
 some t0
def DL (r7:List aH) (s1:Nat×(List (Int×Bool))):Option ((Nat×(List (Int×Bool)))⊕(((List (Int×Bool)))⊕Int)) :=
 if (s1.1:Int) < (r7.length:Int) then (
  (r7[s1.1]?).bind fun x0 =>
  if (eJ s1.2 x0.anchor).getD false then (
   some (.inr (.inr 6)))
  else
  some (.inl ((s1.1+1),(put s1.2 x0.anchor true))))
 else
 some (.inr (.inl s1.2))
def OS (ar:bX):Option (Int) :=
 (ME ar).bind fun r7 =>
 ((
  if 6 < (ar.parts.length:Int) then (
   some true)
  else
  some (decide (30 < (r7.length:Int)))
 ):Option (Bool)).bind fun t30 =>
 if t30 then (
  some 3)
 else
 (TE ar).bind fun r0 =>
 if r0 then (
  (bF (DL r7) (0,([]:List (Int×Bool)))).bind fun e94=>match e94 with
  | .inr z=>some z
  | .inl t0 =>
  some 0)
 else
 some 1
def lQ (e:Int):Option (Unit⊕Unit) :=
 (jJ (decide (e=0)) e).bind fun r1=>match r1 with
 | .inl y4=>(
  some (.inl ()))
 | .inr _=>(
  some (.inr ()))
def QW (aa:aI) (bq:List Int) (text:aD):Option (aI⊕Int) :=
 (jJ (!aa.state.bound) 8).bind fun r3=>match r3 with
 | .inl y6=>(
  (bq[0]?).bind fun x8 =>
  (DD aa.state.volume.parts).bind fun r0 =>
  ((
   if 0≤((r0.length:Int) - 1) then (
    (r0[((r0.length:Int) - 1).toNat]?).bind fun x1 =>
    some (decide (x1.day=aa.state.day)))
   else
   some false
  ):Option (Bool)).bind fun t45 =>
  ((
   if t45 then (
    bN (0≤((r0.length:Int) - 1)) <|
    (r0[((r0.length:Int) - 1).toNat]?).bind fun x0 =>
    (DE x0.paragraphs (⟨x8,text⟩:aH)).bind fun r2 =>
    some (r0.set (((r0.length:Int) - 1).toNat) (⟨x0.day,r2⟩:eB)))
   else
   bN (r0.length+([(⟨aa.state.day,([(⟨x8,text⟩:aH)]:List aH)⟩:eB)]:List eB).length≤1073741824) <|
   some (r0++([(⟨aa.state.day,([(⟨x8,text⟩:aH)]:List aH)⟩:eB)]:List eB))
  ):Option (List eB)).bind fun t142 =>
  (TD aa t142).bind fun r4 =>
  (OS r4).bind fun r1 =>
  (lQ r1).bind fun r5=>match r5 with
  | .inl y0=>(
   some (.inl (⟨({aa.state with volume:=({aa.state.volume with parts:=t142}:bX)}:dE)⟩:aI)))
  | .inr _=>(
   some (.inr r1)))
 | .inr _=>(
  some (.inr 8))
def TF (aa:aI) (bq:List Int) (cw:aD):Option (aI⊕Int) :=
 (jJ (!aa.state.bound) 8).bind fun r3=>match r3 with
 | .inl y6=>(
  (bq[0]?).bind fun x8 =>
  (bq[1]?).bind fun x0 =>
  (bq[2]?).bind fun x1 =>
  (OS (⟨x8,aa.state.day,x0,x1,aa.state.volume.parts⟩:bX)).bind fun r0 =>
  (lQ r0).bind fun r1=>match r1 with
  | .inl y0=>(
   some (.inl (⟨({aa.state with volume:=(⟨x8,aa.state.day,x0,x1,aa.state.volume.parts⟩:bX),bound:=true}:dE)⟩:aI)))
  | .inr _=>(
   some (.inr r0)))
 | .inr _=>(
  some (.inr 8))
def sD (ai:List aP):Option (List aP) :=
 bN (([]:List aP).length+ai.length≤1073741824) <|
 some (([]:List aP)++ai)
def DM (bv:List aP) (cq:aP):Option (List aP) :=
 (sD bv).bind fun r4 =>
 bN (r4.length+([cq]:List aP).length≤1073741824) <|
 some (r4++([cq]:List aP))
def MF (aq:aP) (bw:aP→Option Bool):Option (Bool) :=
 (bw aq).bind fun r4 =>
 some (!r4)
def wI (ai:List aP) (cg:aP→Option Bool) (s1:Nat):Option ((Nat)⊕((Unit)⊕Int)) :=
 if (s1:Int) < (ai.length:Int) then (
  (ai[s1]?).bind fun x0 =>
  (cg x0).bind fun r0 =>
  if r0 then (
   some (.inr (.inr (s1:Int))))
  else
  some (.inl (s1+1)))
 else
 some (.inr (.inl ()))
def JG (ai:List aP) (cg:aP→Option Bool):Option (Int) :=
 (bF (wI ai cg) 0).bind fun e19=>match e19 with
 | .inr z=>some z
 | .inl t0 =>
 some (-1)
def YG (ai:List aP) (cg:aP→Option Bool):Option (Bool) :=
 (JG ai cg).bind fun r1 =>
 some (decide (0≤r1))
def TH (bv:List aP) (right:aP→Option Bool):Option (Bool) :=
 (YG bv (fun x0_=>MF x0_ right)).bind fun r5 =>
 some (!r5)
def MG (aq:aP):Option (Bool) :=
 ((
  (DG aq.number 1 999).bind fun r22 =>
  if r22 then (
   (HJ aq.day).bind fun r0 =>
   if r0 then (
    (OQ aq.anchor).bind fun r1 =>
    some (!r1))
   else
   some true)
  else
  some true
 ):Option (Bool)).bind fun t0 =>
 if t0 then (
  some false)
 else
 if aq.kind=0 then (
  ((
   (OR aq.text).bind fun r2 =>
   if r2 then (
    some (decide (aq.new_=0)))
   else
   some false
  ):Option (Bool)).bind fun t1 =>
  some t1)
 else
 if aq.kind=1 then (
  ((
   if aq.text=[] then (
    some (decide (aq.new_=0)))
   else
   some false
  ):Option (Bool)).bind fun t2 =>
  some t2)
 else
 if aq.kind=2 then (
  ((
   (OR aq.text).bind fun r3 =>
   if r3 then (
    (OQ aq.new_).bind fun r4 =>
    some r4)
   else
   some false
  ):Option (Bool)).bind fun t3 =>
  some t3)
 else
 some false
def uQ (aq:Int):Option (Bool) :=
 some (decide (aq≠aq))
def zV (aq:Int) (fk:Int):Option (Int) :=
 (uQ aq).bind fun r1 =>
 (uQ fk).bind fun r4 =>
 if r1 then (
  if r4 then (
   some 0)
  else
  some (-1))
 else
 if r4 then (
  some 1)
 else
 if aq < fk then (
  some (-1))
 else
 if fk < aq then (
  some 1)
 else
 some 0
def pV (vals:List Int) (s1:Nat):Option ((Nat)⊕((Unit)⊕Int)) :=
 if (s1:Int) < (vals.length:Int) then (
  (vals[s1]?).bind fun x0 =>
  if x0≠0 then (
   some (.inr (.inr x0)))
  else
  some (.inl (s1+1)))
 else
 some (.inr (.inl ()))
def DN (vals:List Int):Option (Int) :=
 (bF (pV vals) 0).bind fun e16=>match e16 with
 | .inr z=>some z
 | .inl t0 =>
 some 0
def sF (dh:aP) (dl:aP):Option (Int) :=
 (zV dh.day dl.day).bind fun r7 =>
 (zV dh.number dl.number).bind fun r11 =>
 (DN ([r7,r11]:List Int)).bind fun r0 =>
 some r0
def DO (r1:List aP) (l6:List aP) (gb:Int) (yield:aP→Option Bool) (s1:Nat):Option ((Nat)⊕((Unit)⊕Unit)) :=
 if (s1:Int) < (r1.length:Int) then (
  (l6[s1]?).bind fun x0 =>
  ((
   if gb < x0.day then (
    some true)
   else
   (yield x0).bind fun r0 =>
   some (!r0)
  ):Option (Bool)).bind fun t0 =>
  if t0 then (
   some (.inr (.inr ())))
  else
  some (.inl (s1+1)))
 else
 some (.inr (.inl ()))
def TI (yield:aP→Option Bool) (bw:List aP) (gb:Int):Option (Unit) :=
 (sD bw).bind fun r1 =>
 (iW (sF) r1).bind fun l6 =>
 (bF (DO r1 l6 gb yield) 0).bind fun e31=>match e31 with
 | .inr z=>some z
 | .inl t34 =>
 some ()
def DP (r10:List aH) (s1:Nat×(List (Int×Bool))):Option ((Nat×(List (Int×Bool)))⊕((List (Int×Bool)))) :=
 if (s1.1:Int) < (r10.length:Int) then (
  (r10[s1.1]?).bind fun x0 =>
  some (.inl ((s1.1+1),(put s1.2 x0.anchor true))))
 else
 some (.inr s1.2)
def DQ (r0:List aP) (l0:List aP) (s1:Nat×(List (Int×Bool))):Option ((Nat×(List (Int×Bool)))⊕(((List (Int×Bool)))⊕(((List (Int×Bool)))⊕(Nat×(List (Int×Bool)))))) :=
 if (s1.1:Int) < (r0.length:Int) then (
  (l0[s1.1]?).bind fun x0 =>
  if 99999 < x0.day then (
   some (.inr (.inr (.inl s1.2))))
  else
  ((
   if (eJ s1.2 x0.anchor).getD false then (
    ((
     if x0.kind=2 then (
      some (put s1.2 x0.new_ true))
     else
     some s1.2
    ):Option ((List (Int×Bool)))).bind fun t0 =>
    some (.inr t0))
   else
   some (.inl 7)
  ):Option ((Nat)⊕((List (Int×Bool))))).bind fun t1=>match t1 with
  | .inl t2=>(
   some (.inr (.inr (.inr (t2,s1.2)))))
  | .inr t3=>(
   some (.inl ((s1.1+1),t3))))
 else
 some (.inr (.inl s1.2))
def TJ (ar:bX) (errata:List aP):Option (Int) :=
 (ME ar).bind fun r10 =>
 (bF (DP r10) (0,([]:List (Int×Bool)))).bind fun e47 =>
 ((
  (sD errata).bind fun r0 =>
  (iW (sF) r0).bind fun l0 =>
  (bF (DQ r0 l0) (0,e47)).bind fun eA1=>match eA1 with
  | .inr z=>some z
  | .inl t0 =>
  some (.inl t0)
 ):Option (((List (Int×Bool)))⊕(Nat×(List (Int×Bool))))).bind fun t1=>match t1 with
 | .inl t3=>(
  some 0)
 | .inr t2=>(
  some (t2.1:Int))
def DR (r0:List aH) (s1:Nat×(List (Int×Bool))):Option ((Nat×(List (Int×Bool)))⊕((List (Int×Bool)))) :=
 if (s1.1:Int) < (r0.length:Int) then (
  (r0[s1.1]?).bind fun x0 =>
  some (.inl ((s1.1+1),(put s1.2 x0.anchor true))))
 else
 some (.inr s1.2)
def DS (errata:List aP) (s1:Nat×(List (Int×Bool))×(List (Int×Bool))):Option ((Nat×(List (Int×Bool))×(List (Int×Bool)))⊕(((List (Int×Bool))×(List (Int×Bool)))⊕Int)) :=
 if (s1.1:Int) < (errata.length:Int) then (
  (errata[s1.1]?).bind fun x0 =>
  ((
   if (eJ s1.2.1 x0.number).getD false then (
    some true)
   else
   if x0.kind=2 then (
    some ((eJ s1.2.2 x0.new_).getD false))
   else
   some false
  ):Option (Bool)).bind fun t0 =>
  if t0 then (
   some (.inr (.inr 6)))
  else
  ((
   if x0.kind=2 then (
    some (put s1.2.2 x0.new_ true))
   else
   some s1.2.2
  ):Option ((List (Int×Bool)))).bind fun t1 =>
  some (.inl ((s1.1+1),(put s1.2.1 x0.number true),t1)))
 else
 some (.inr (.inl (s1.2.1,s1.2.2)))
def OT (ar:bX) (errata:List aP):Option (Int) :=
 (OS ar).bind fun r7 =>
 if r7≠0 then (
  some r7)
 else
 if 20 < (errata.length:Int) then (
  some 3)
 else
 (TH errata (MG)).bind fun r0 =>
 if r0 then (
  (ME ar).bind fun r1 =>
  (bF (DR r1) (0,([]:List (Int×Bool)))).bind fun e88 =>
  (bF (DS errata) (0,([]:List (Int×Bool)),e88)).bind fun eA1=>match eA1 with
  | .inr z=>some z
  | .inl t0 =>
  (TJ ar errata).bind fun r2 =>
  some r2)
 else
 some 1
def DT (x0:List cN) (anchor:Int) (s2:Nat×Nat×Nat×Bool) (s1:Nat×Nat×Nat×Bool):Option ((Nat×Nat×Nat×Bool)⊕((Nat×Nat×Bool)⊕((Nat×Nat×Nat×Bool)⊕(Nat×Nat×Bool)))) :=
 if (s1.2.2.1:Int) < (x0.length:Int) then (
  (x0[s1.2.2.1]?).bind fun x1 =>
  if x1.paragraph.anchor=anchor then (
   Option.map (fun z=>.inr (.inr z)) (
   some (.inr (s2.2.2.1,s1.2.2.1,true))))
  else
  some (.inl (s1.1,s1.2.1,(s1.2.2.1+1),s1.2.2.2)))
 else
 some (.inr (.inl (s1.1,s1.2.1,s1.2.2.2)))
def DU (aa:hQ) (anchor:Int) (s1:Nat×Nat×Nat×Bool):Option ((Nat×Nat×Nat×Bool)⊕(Nat×Nat×Bool)) :=
 if (s1.2.2.1:Int) < (aa.parts.length:Int) then (
  (aa.parts[s1.2.2.1]?).bind fun x0 =>
  (bF (DT x0 anchor s1) (s1.1,s1.2.1,0,s1.2.2.2)).bind fun eA1=>match eA1 with
  | .inr z=>some z
  | .inl t0 =>
  some (.inl (t0.1,t0.2.1,(s1.2.2.1+1),t0.2.2)))
 else
 some (.inr (s1.1,s1.2.1,s1.2.2.2))
def TK (aa:hQ) (anchor:Int):Option (Int×Int×Bool) :=
 (bF (DU aa anchor) (0,0,0,false)).bind fun e40 =>
 some ((e40.1:Int),(e40.2.1:Int),e40.2.2)
def JH  : Option (Unit) :=
 some ()
def DV (x0:eB) (s1:Nat×List cN):Option ((Nat×List cN)⊕(List cN)) :=
 if (s1.1:Int) < (x0.paragraphs.length:Int) then (
  (x0.paragraphs[s1.1]?).bind fun x1 =>
  bN (s1.2.length+1≤1073741824) <|
  some (.inl ((s1.1+1),(s1.2++[(⟨x1,false⟩:cN)]))))
 else
 some (.inr s1.2)
def DW (ar:bX) (s1:Nat×List (List cN)):Option ((Nat×List (List cN))⊕(List (List cN))) :=
 if (s1.1:Int) < (ar.parts.length:Int) then (
  (ar.parts[s1.1]?).bind fun x0 =>
  (bF (DV x0) (0,([]:List cN))).bind fun eA1 =>
  bN (s1.2.length+1≤1073741824) <|
  some (.inl ((s1.1+1),(s1.2++[eA1]))))
 else
 some (.inr s1.2)
def DX (x0:List cN) (x1:aP) (s2:Nat×Nat×Nat×Bool) (s1:Nat×Nat×Nat×Bool):Option ((Nat×Nat×Nat×Bool)⊕((Nat×Nat×Bool)⊕((Nat×Nat×Nat×Bool)⊕(Nat×Nat×Bool)))) :=
 if (s1.2.2.1:Int) < (x0.length:Int) then (
  (x0[s1.2.2.1]?).bind fun x2 =>
  if x2.paragraph.anchor=x1.anchor then (
   Option.map (fun z=>.inr (.inr z)) (
   some (.inr (s2.2.2.1,s1.2.2.1,true))))
  else
  bN (-9223372036854775808≤((s1.2.2.1:Int)+1)∧((s1.2.2.1:Int)+1)≤9223372036854775807) <|
  some (.inl (s1.1,s1.2.1,(s1.2.2.1+1),s1.2.2.2)))
 else
 some (.inr (.inl (s1.1,s1.2.1,s1.2.2.2)))
def yU (s2:Nat×List (List cN)) (x0:aP) (s1:Nat×Nat×Nat×Bool):Option ((Nat×Nat×Nat×Bool)⊕(Nat×Nat×Bool)) :=
 if (s1.2.2.1:Int) < (s2.2.length:Int) then (
  (s2.2[s1.2.2.1]?).bind fun x1 =>
  (bF (DX x1 x0 s1) (s1.1,s1.2.1,0,s1.2.2.2)).bind fun eA1=>match eA1 with
  | .inr z=>some z
  | .inl t0 =>
  bN (-9223372036854775808≤((s1.2.2.1:Int)+1)∧((s1.2.2.1:Int)+1)≤9223372036854775807) <|
  some (.inl (t0.1,t0.2.1,(s1.2.2.1+1),t0.2.2)))
 else
 some (.inr (s1.1,s1.2.1,s1.2.2.2))
def DY (r0:List aP) (l0:List aP) (eh:Int) (s1:Nat×List (List cN)):Option ((Nat×List (List cN))⊕((List (List cN))⊕(List (List cN)))) :=
 if (s1.1:Int) < (r0.length:Int) then (
  (l0[s1.1]?).bind fun x0 =>
  ((
   if eh < x0.day then (
    some (true,s1.2))
   else
   ((
    ((
     (bF (yU s1 x0) (0,0,0,false)).bind fun eA1 =>
     some (eA1.2.1,eA1.1,eA1.2.2)
    ):Option (Nat×Nat×Bool)).bind fun t0 =>
    ((
     if t0.2.2 then (
      (JH).bind fun r1 =>
      bN (0≤x0.kind) <|
      if x0.kind=0 then (
       ((
        (s1.2[t0.2.1]?).bind fun x3 =>
        (x3[t0.1]?).bind fun x2 =>
        ((
         if x2.removed then (
          some s1.2)
         else
         some (s1.2.set t0.2.1 (x3.set t0.1 (⟨(⟨x2.paragraph.anchor,x0.text⟩:aH),x2.removed⟩:cN)))
        ):Option (List (List cN))).bind fun t2 =>
        some t2
       ):Option (List (List cN))).bind fun t3 =>
       some t3)
      else
      if x0.kind=1 then (
       ((
        (s1.2[t0.2.1]?).bind fun x4 =>
        (x4[t0.1]?).bind fun x5 =>
        some (s1.2.set t0.2.1 (x4.set t0.1 (⟨x5.paragraph,true⟩:cN)))
       ):Option (List (List cN))).bind fun t4 =>
       some t4)
      else
      if x0.kind=2 then (
       ((
        (s1.2[t0.2.1]?).bind fun x1 =>
        bN (-9223372036854775808≤((t0.1:Int)+1)∧((t0.1:Int)+1)≤9223372036854775807) <|
        bN (x1.length+1≤1073741824) <|
        bN (((t0.1:Int)+1).toNat≤x1.length) <|
        some (s1.2.set t0.2.1 (x1.take (((t0.1:Int)+1).toNat)++[(⟨(⟨x0.new_,x0.text⟩:aH),false⟩:cN)]++x1.drop (((t0.1:Int)+1).toNat)))
       ):Option (List (List cN))).bind fun t5 =>
       some t5)
      else
      none)
     else
     some s1.2
    ):Option (List (List cN))).bind fun t6 =>
    some t6
   ):Option (List (List cN))).bind fun t7 =>
   some (false,t7)
  ):Option (Bool×List (List cN))).bind fun t1 =>
  if t1.1 then (
   some (.inr (.inr t1.2)))
  else
  some (.inl ((s1.1+1),t1.2)))
 else
 some (.inr (.inl s1.2))
def OU (ar:bX) (errata:List aP) (eh:Int):Option (hQ) :=
 (bF (DW ar) (0,([]:List (List cN)))).bind fun eA1 =>
 ((
  (sD errata).bind fun r0 =>
  (iW (sF) r0).bind fun l0 =>
  (bF (DY r0 l0 eh) (0,eA1)).bind fun eB1=>match eB1 with
  | .inr z=>some z
  | .inl t0 =>
  some t0
 ):Option (List (List cN))).bind fun t1 =>
 some (⟨ar,t1⟩:hQ)
def DZ (x0:List cN) (s1:Nat×List aH):Option ((Nat×List aH)⊕(List aH)) :=
 if (s1.1:Int) < (x0.length:Int) then (
  (x0[s1.1]?).bind fun x1 =>
  ((
   if x1.removed then (
    some s1.2)
   else
   bN (s1.2.length+1≤1073741824) <|
   some (s1.2++[x1.paragraph])
  ):Option (List aH)).bind fun t0 =>
  some (.inl ((s1.1+1),t0)))
 else
 some (.inr s1.2)
def EA (r0:hQ) (s1:Nat×List aH):Option ((Nat×List aH)⊕(List aH)) :=
 if (s1.1:Int) < (r0.parts.length:Int) then (
  (r0.parts[s1.1]?).bind fun x0 =>
  (bF (DZ x0) (0,s1.2)).bind fun eA1 =>
  some (.inl ((s1.1+1),eA1)))
 else
 some (.inr s1.2)
def TL (ar:bX) (errata:List aP) (eh:Int):Option (List aH×Int) :=
 (OT ar errata).bind fun r7 =>
 if r7≠0 then (
  some (([]:List aH),r7))
 else
 (HJ eh).bind fun r0 =>
 if r0 then (
  (OU ar errata eh).bind fun r1 =>
  (bF (EA r1) (0,([]:List aH))).bind fun eA1 =>
  some (eA1,0))
 else
 some (([]:List aH),2)
def wJ (aa:aI) (cq:aP):Option (aI⊕Int) :=
 ((
  if aa.state.bound then (
   (jJ (decide (aa.state.volume.bound < aa.state.day)) 8).bind fun r2=>match r2 with
   | .inl y0=>(
    some (.inl ()))
   | .inr _=>(
    some (.inr (.inr 8))))
  else
  (jJ false 8).bind fun r3=>match r3 with
  | .inl y1=>(
   some (.inl ()))
  | .inr _=>(
   some (.inr (.inr 8)))
 ):Option ((Unit)⊕(aI⊕Int))).bind fun t0=>match t0 with
 | .inr z=>some z
 | .inl t1 =>
 (DM aa.state.errata ({cq with day:=aa.state.day}:aP)).bind fun r0 =>
 (TL aa.state.volume r0 aa.state.day).bind fun r1 =>
 (lQ r1.2).bind fun r4=>match r4 with
 | .inl y2=>(
  some (.inl (⟨({aa.state with errata:=r0}:dE)⟩:aI)))
 | .inr _=>(
  some (.inr r1.2))
def TM (aa:aI) (bq:List Int) (text:aD):Option (aI⊕Int) :=
 (bq[0]?).bind fun x3 =>
 (bq[1]?).bind fun x0 =>
 (wJ aa (⟨x3,0,0,x0,text,0⟩:aP)).bind fun r0=>match r0 with
 | .inl y0=>(
  some (.inl y0))
 | .inr y0=>(
  some (.inr y0))
def TN (aa:aI) (bq:List Int) (cw:aD):Option (aI⊕Int) :=
 (bq[0]?).bind fun x3 =>
 (bq[1]?).bind fun x0 =>
 (wJ aa (⟨x3,0,1,x0,[],0⟩:aP)).bind fun r0=>match r0 with
 | .inl y0=>(
  some (.inl y0))
 | .inr y0=>(
  some (.inr y0))
def TO (aa:aI) (bq:List Int) (text:aD):Option (aI⊕Int) :=
 (bq[0]?).bind fun x3 =>
 (bq[1]?).bind fun x0 =>
 (bq[2]?).bind fun x1 =>
 (wJ aa (⟨x3,0,2,x0,text,x1⟩:aP)).bind fun r0=>match r0 with
 | .inl y0=>(
  some (.inl y0))
 | .inr y0=>(
  some (.inr y0))
def wK (x0:List cN) (anchor:Int) (s2:Nat×Nat×Nat×Bool) (s1:Nat×Nat×Nat×Bool):Option ((Nat×Nat×Nat×Bool)⊕((Nat×Nat×Bool)⊕((Nat×Nat×Nat×Bool)⊕(Nat×Nat×Bool)))) :=
 if (s1.2.2.1:Int) < (x0.length:Int) then (
  (x0[s1.2.2.1]?).bind fun x1 =>
  if x1.paragraph.anchor=anchor then (
   Option.map (fun z=>.inr (.inr z)) (
   some (.inr (s2.2.2.1,s1.2.2.1,true))))
  else
  some (.inl (s1.1,s1.2.1,(s1.2.2.1+1),s1.2.2.2)))
 else
 some (.inr (.inl (s1.1,s1.2.1,s1.2.2.2)))
def sG (r0:hQ) (anchor:Int) (s1:Nat×Nat×Nat×Bool):Option ((Nat×Nat×Nat×Bool)⊕(Nat×Nat×Bool)) :=
 if (s1.2.2.1:Int) < (r0.parts.length:Int) then (
  (r0.parts[s1.2.2.1]?).bind fun x0 =>
  (bF (wK x0 anchor s1) (s1.1,s1.2.1,0,s1.2.2.2)).bind fun eA1=>match eA1 with
  | .inr z=>some z
  | .inl t0 =>
  some (.inl (t0.1,t0.2.1,(s1.2.2.1+1),t0.2.2)))
 else
 some (.inr (s1.1,s1.2.1,s1.2.2.2))
def zW (ar:bX) (errata:List aP) (anchor:Int) (fw:Int):Option (aD×Bool×Int) :=
 (OT ar errata).bind fun r7 =>
 if r7≠0 then (
  some ([],false,r7))
 else
 (HJ fw).bind fun r1 =>
 if r1 then (
  (OU ar errata fw).bind fun r0 =>
  ((
   (bF (sG r0 anchor) (0,0,0,false)).bind fun eA1 =>
   some (eA1.2.1,eA1.1,eA1.2.2)
  ):Option (Nat×Nat×Bool)).bind fun t0 =>
  if t0.2.2 then (
   (r0.parts[t0.2.1]?).bind fun x1 =>
   (x1[t0.1]?).bind fun x0 =>
   some (x0.paragraph.text,x0.removed,0))
  else
  some ([],false,7))
 else
 some ([],false,2)
def EB (x1:List cN) (ar:bX) (s2:Nat×Int×List cZ) (s1:Nat×Nat×Int×List cZ):Option ((Nat×Nat×Int×List cZ)⊕(Int×List cZ)) :=
 if (s1.2.1:Int) < (x1.length:Int) then (
  ((
   (x1[s1.2.1]?).bind fun x0 =>
   if x0.removed then (
    some (s1.1,s1.2.2.1,s1.2.2.2))
   else
   bN (-9223372036854775808≤((s1.1:Int)+1)∧((s1.1:Int)+1)≤9223372036854775807) <|
   bN (-9223372036854775808≤((x0.paragraph.text.length:Int)+ar.width)∧((x0.paragraph.text.length:Int)+ar.width)≤9223372036854775807) <|
   bN (-9223372036854775808≤(((x0.paragraph.text.length:Int)+ar.width) - 1)∧(((x0.paragraph.text.length:Int)+ar.width) - 1)≤9223372036854775807) <|
   bN (0≤(((x0.paragraph.text.length:Int)+ar.width) - 1)∧(((x0.paragraph.text.length:Int)+ar.width) - 1)≤9223372036854775807∧0 < ar.width) <|
   bN (0≤s1.2.2.1∧s1.2.2.1≤9223372036854775807∧0 < ar.height) <|
   bN (-9223372036854775808≤(s2.2.1+(s1.2.2.1/ar.height))∧(s2.2.1+(s1.2.2.1/ar.height))≤9223372036854775807) <|
   bN (0≤s1.2.2.1∧0 < ar.height) <|
   bN (-9223372036854775808≤((s1.2.2.1%ar.height)+1)∧((s1.2.2.1%ar.height)+1)≤9223372036854775807) <|
   (ar.parts[s2.1]?).bind fun x2 =>
   bN (s1.2.2.2.length+([(⟨(⟨x0.paragraph.anchor,(s2.2.1+(s1.2.2.1/ar.height)),((s1.2.2.1%ar.height)+1),((((x0.paragraph.text.length:Int)+ar.width) - 1)/ar.width)⟩:pU),x2.day,((s1.1:Int)+1)⟩:cZ)]:List cZ).length≤1073741824) <|
   bN (-9223372036854775808≤(s1.2.2.1+((((x0.paragraph.text.length:Int)+ar.width) - 1)/ar.width))∧(s1.2.2.1+((((x0.paragraph.text.length:Int)+ar.width) - 1)/ar.width))≤9223372036854775807) <|
   some ((s1.1+1),(s1.2.2.1+((((x0.paragraph.text.length:Int)+ar.width) - 1)/ar.width)),(s1.2.2.2++([(⟨(⟨x0.paragraph.anchor,(s2.2.1+(s1.2.2.1/ar.height)),((s1.2.2.1%ar.height)+1),((((x0.paragraph.text.length:Int)+ar.width) - 1)/ar.width)⟩:pU),x2.day,((s1.1:Int)+1)⟩:cZ)]:List cZ)))
  ):Option (Nat×Int×List cZ)).bind fun t0 =>
  some (.inl (t0.1,(s1.2.1+1),t0.2.1,t0.2.2)))
 else
 some (.inr (s1.2.2.1,s1.2.2.2))
def EC (r7:hQ) (ar:bX) (s1:Nat×Int×List cZ):Option ((Nat×Int×List cZ)⊕(List cZ)) :=
 if (s1.1:Int) < (r7.parts.length:Int) then (
  (r7.parts[s1.1]?).bind fun x0 =>
  (bF (EB x0 ar s1) (0,0,0,s1.2.2)).bind fun eA1 =>
  bN (-9223372036854775808≤(eA1.1+ar.height)∧(eA1.1+ar.height)≤9223372036854775807) <|
  bN (-9223372036854775808≤((eA1.1+ar.height) - 1)∧((eA1.1+ar.height) - 1)≤9223372036854775807) <|
  bN (0≤((eA1.1+ar.height) - 1)∧((eA1.1+ar.height) - 1)≤9223372036854775807∧0 < ar.height) <|
  bN (-9223372036854775808≤(s1.2.1+(((eA1.1+ar.height) - 1)/ar.height))∧(s1.2.1+(((eA1.1+ar.height) - 1)/ar.height))≤9223372036854775807) <|
  some (.inl ((s1.1+1),(s1.2.1+(((eA1.1+ar.height) - 1)/ar.height)),eA1.2)))
 else
 some (.inr s1.2.2)
def TP (ar:bX) (errata:List aP):Option (List cZ) :=
 (OU ar errata ar.bound).bind fun r7 =>
 (bF (EC r7 ar) (0,1,([]:List cZ))).bind fun eA1 =>
 some eA1
def wL (r0:List cZ) (anchor:Int) (style:Int) (ar:bX) (s1:Nat):Option ((Nat)⊕((Unit)⊕(aD×Int))) :=
 if (s1:Int) < (r0.length:Int) then (
  (r0[s1]?).bind fun x0 =>
  if x0.place.anchor≠anchor then (
   some (.inl (s1+1)))
  else
  if style=0 then (
   (wD ([(.s [118,111,108,46,32]:Any),(.i ar.number:Any),(.s [44,32,99,111,108,46,32]:Any),(.i x0.place.column:Any),(.s [44,32,108,46,32]:Any),(.i x0.place.line:Any)]:List Any)).bind fun r1 =>
   some (.inr (.inr (r1,0))))
  else
  (wD ([(.s [118,111,108,46,32]:Any),(.i ar.number:Any),(.s [44,32]:Any),(.i x0.day:Any),(.s [44,32,112,97,114,46,32]:Any),(.i x0.number:Any)]:List Any)).bind fun r2 =>
  some (.inr (.inr (r2,0))))
 else
 some (.inr (.inl ()))
def ED (ar:bX) (errata:List aP) (anchor:Int) (style:Int) (fg:Int):Option (aD×Int) :=
 (OT ar errata).bind fun r7 =>
 if r7≠0 then (
  some ([],r7))
 else
 ((
  if 2 < style then (
   some true)
  else
  if style=2 then (
   (HJ fg).bind fun r1 =>
   some (!r1))
  else
  some false
 ):Option (Bool)).bind fun t25 =>
 if t25 then (
  some ([],2))
 else
 if style=2 then (
  (zW ar errata anchor fg).bind fun r0 =>
  if r0.2.2≠0 then (
   some ([],r0.2.2))
  else
  (wD ([(.i anchor:Any),(.s [64]:Any),(.i fg:Any)]:List Any)).bind fun r2 =>
  some (r2,0))
 else
 (TP ar errata).bind fun r3 =>
 (bF (wL r3 anchor style ar) 0).bind fun eA1=>match eA1 with
 | .inr z=>some z
 | .inl t0 =>
 some ([],7)
def JI (ai:List aD):Option (List aD) :=
 bN (([]:List aD).length+ai.length≤1073741824) <|
 some (([]:List aD)++ai)
def EE (bv:List aD) (cq:aD):Option (List aD) :=
 (JI bv).bind fun r1 =>
 bN (r1.length+1≤1073741824) <|
 some (r1++[cq])
def TQ (aa:aI) (bq:List Int) (cw:aD):Option (aI⊕Int) :=
 (jJ aa.state.bound 8).bind fun r3=>match r3 with
 | .inl y6=>(
  (bq[1]?).bind fun x8 =>
  (oW x8 0 255).bind fun r1 =>
  (jJ r1 2).bind fun r2=>match r2 with
  | .inl y0=>(
   (bq[0]?).bind fun x0 =>
   bN (0≤x8∧x8≤255) <|
   (ED aa.state.volume aa.state.errata x0 x8 aa.state.day).bind fun r0 =>
   (lQ r0.2).bind fun r4=>match r4 with
   | .inl y1=>(
    (EE aa.state.cites r0.1).bind fun r5 =>
    some (.inl (⟨({aa.state with cites:=r5}:dE)⟩:aI)))
   | .inr _=>(
    some (.inr r0.2)))
  | .inr _=>(
   some (.inr 2)))
 | .inr _=>(
  some (.inr 8))
def TR (aa:aI):Option (bX) :=
 if aa.state.bound then (
  some aa.state.volume)
 else
 (TD aa aa.state.volume.parts).bind fun r0 =>
 some r0
def TS (aa:aI):Option (bX) :=
 if aa.state.bound then (
  some aa.state.volume)
 else
 (OP aa aa.state.volume.parts).bind fun r10 =>
 some r10
def JJ (ai:List gH):Option (List gH) :=
 bN (([]:List gH).length+ai.length≤1073741824) <|
 some (([]:List gH)++ai)
def EF (bv:List gH) (cq:gH):Option (List gH) :=
 (JJ bv).bind fun r4 =>
 bN (r4.length+([cq]:List gH).length≤1073741824) <|
 some (r4++([cq]:List gH))
def TT (aa:aI) (bq:List Int) (cw:aD):Option (aI⊕Int) :=
 ((
  (bq[1]?).bind fun x1 =>
  (oW x1 0 7).bind fun r1 =>
  if r1 then (
   (bq[2]?).bind fun x2 =>
   (oW x2 0 9999).bind fun r2 =>
   (jJ r2 1).bind fun r3=>match r3 with
   | .inl y0=>(
    some (.inl ()))
   | .inr _=>(
    some (.inr (.inr 1))))
  else
  (jJ false 1).bind fun r4=>match r4 with
  | .inl y1=>(
   some (.inl ()))
  | .inr _=>(
   some (.inr (.inr 1)))
 ):Option ((Unit)⊕(aI⊕Int))).bind fun t37=>match t37 with
 | .inr z=>some z
 | .inl t40 =>
 (jJ (decide ((aa.state.hides.length:Int) < 12)) 3).bind fun r5=>match r5 with
 | .inl y2=>(
  (TR aa).bind fun r8 =>
  (bq[0]?).bind fun x0 =>
  (zW r8 aa.state.errata x0 aa.state.day).bind fun r0 =>
  (lQ r0.2.2).bind fun r9=>match r9 with
  | .inl y3=>(
   (bq[1]?).bind fun x3 =>
   (bq[2]?).bind fun x4 =>
   (EF aa.state.hides (⟨x0,x3,x4⟩:gH)).bind fun rA1 =>
   some (.inl (⟨({aa.state with hides:=rA1}:dE)⟩:aI)))
  | .inr _=>(
   some (.inr r0.2.2)))
 | .inr _=>(
  some (.inr 3))
def TU (aa:aI) (bq:List Int) (cw:aD):Option (aI⊕Int) :=
 (jJ (!aa.state.open_) 8).bind fun r3=>match r3 with
 | .inl y6=>(
  (bq[0]?).bind fun x8 =>
  (oW x8 1 40).bind fun r0 =>
  (jJ r0 2).bind fun r1=>match r1 with
  | .inl y0=>(
   some (.inl (⟨({aa.state with house:=x8}:dE)⟩:aI)))
  | .inr _=>(
   some (.inr 2)))
 | .inr _=>(
  some (.inr 8))
def uR (ed:Int) (low:Int) (high:Int):Option (Bool) :=
 ((
  if low≤ed then (
   some (decide (ed≤high)))
  else
  some false
 ):Option (Bool)).bind fun t4 =>
 some t4
def pW (bf:aV) (de:Int):Option (Bool) :=
 bN (-9223372036854775808≤(bf.members - 1)∧(bf.members - 1)≤9223372036854775807) <|
 (uR de 0 (bf.members - 1)).bind fun r8 =>
 some r8
def uU (aq:Int) (bw:Int→Option Bool):Option (Bool) :=
 (bw aq).bind fun r1 =>
 some (!r1)
def wM (ai:List Int) (cg:Int→Option Bool) (s1:Nat):Option ((Nat)⊕((Unit)⊕Int)) :=
 if (s1:Int) < (ai.length:Int) then (
  (ai[s1]?).bind fun x0 =>
  (cg x0).bind fun r0 =>
  if r0 then (
   some (.inr (.inr (s1:Int))))
  else
  some (.inl (s1+1)))
 else
 some (.inr (.inl ()))
def JK (ai:List Int) (cg:Int→Option Bool):Option (Int) :=
 (bF (wM ai cg) 0).bind fun e19=>match e19 with
 | .inr z=>some z
 | .inl t0 =>
 some (-1)
def JL (ai:List Int) (cg:Int→Option Bool):Option (Bool) :=
 (JK ai cg).bind fun r1 =>
 some (decide (0≤r1))
def EG (bv:List Int) (right:Int→Option Bool):Option (Bool) :=
 (JL bv (fun x0_=>uU x0_ right)).bind fun r5 =>
 some (!r5)
def wN (bv:List Int) (s1:Nat):Option ((Nat)⊕((Unit)⊕Bool)) :=
 if (s1:Int) < (bv.length:Int) then (
  ((
   if 0 < (s1:Int) then (
    (bv[s1]?).bind fun x0 =>
    (bv[((s1:Int) - 1).toNat]?).bind fun x1 =>
    some (decide (x0≤x1)))
   else
   some false
  ):Option (Bool)).bind fun t0 =>
  if t0 then (
   some (.inr (.inr false)))
  else
  some (.inl (s1+1)))
 else
 some (.inr (.inl ()))
def EH (bv:List Int):Option (Bool) :=
 (bF (wN bv) 0).bind fun e29=>match e29 with
 | .inr z=>some z
 | .inl t32 =>
 some true
def oK (bf:aV) (bq:List Int):Option (Bool) :=
 ((
  (EG bq (pW bf)).bind fun r0 =>
  if r0 then (
   (EH bq).bind fun r1 =>
   some r1)
  else
  some false
 ):Option (Bool)).bind fun t0 =>
 some t0
def uV (aq:List Int) (bw:(List Int)→Option Bool):Option (Bool) :=
 (bw aq).bind fun r1 =>
 some (!r1)
def wO (ai:List (List Int)) (cg:(List Int)→Option Bool) (s1:Nat):Option ((Nat)⊕((Unit)⊕Int)) :=
 if (s1:Int) < (ai.length:Int) then (
  (ai[s1]?).bind fun x0 =>
  (cg x0).bind fun r0 =>
  if r0 then (
   some (.inr (.inr (s1:Int))))
  else
  some (.inl (s1+1)))
 else
 some (.inr (.inl ()))
def JM (ai:List (List Int)) (cg:(List Int)→Option Bool):Option (Int) :=
 (bF (wO ai cg) 0).bind fun e23=>match e23 with
 | .inr z=>some z
 | .inl t26 =>
 some (-1)
def JN (ai:List (List Int)) (cg:(List Int)→Option Bool):Option (Bool) :=
 (JM ai cg).bind fun r1 =>
 some (decide (0≤r1))
def zX (bv:List (List Int)) (right:(List Int)→Option Bool):Option (Bool) :=
 (JN bv (fun x0_=>uV x0_ right)).bind fun r5 =>
 some (!r5)
def EI (cy:dU) (bw:List (Int×Bool)):Option (Bool) :=
 some (!((eJ bw cy.holder).getD false))
def uW (aq:dU) (bw:dU→Option Bool):Option (Bool) :=
 (bw aq).bind fun r4 =>
 some (!r4)
def wP (ai:List dU) (cg:dU→Option Bool) (s1:Nat):Option ((Nat)⊕((Unit)⊕Int)) :=
 if (s1:Int) < (ai.length:Int) then (
  (ai[s1]?).bind fun x0 =>
  (cg x0).bind fun r0 =>
  if r0 then (
   some (.inr (.inr (s1:Int))))
  else
  some (.inl (s1+1)))
 else
 some (.inr (.inl ()))
def JO (ai:List dU) (cg:dU→Option Bool):Option (Int) :=
 (bF (wP ai cg) 0).bind fun e19=>match e19 with
 | .inr z=>some z
 | .inl t0 =>
 some (-1)
def JP (ai:List dU) (cg:dU→Option Bool):Option (Bool) :=
 (JO ai cg).bind fun r1 =>
 some (decide (0≤r1))
def EJ (bv:List dU) (right:dU→Option Bool):Option (Bool) :=
 (JP bv (fun x0_=>uW x0_ right)).bind fun r5 =>
 some (!r5)
def sH (bf:aV) (s1:Nat×(List (Int×Bool))):Option ((Nat×(List (Int×Bool)))⊕(((List (Int×Bool)))⊕Bool)) :=
 if (s1.1:Int) < (bf.pairs.length:Int) then (
  (bf.pairs[s1.1]?).bind fun x0 =>
  ((
   (pW bf x0.a).bind fun r0 =>
   if r0 then (
    (pW bf x0.b).bind fun r1 =>
    if r1 then (
     if x0.a=x0.b then (
      some true)
     else
     if (eJ s1.2 x0.a).getD false then (
      some true)
     else
     some ((eJ s1.2 x0.b).getD false))
    else
    some true)
   else
   some true
  ):Option (Bool)).bind fun t0 =>
  if t0 then (
   some (.inr (.inr false)))
  else
  some (.inl ((s1.1+1),(put (put s1.2 x0.a true) x0.b true))))
 else
 some (.inr (.inl s1.2))
def sI (bf:aV) (s1:Nat×(List (Int×Bool))):Option ((Nat×(List (Int×Bool)))⊕(((List (Int×Bool)))⊕Bool)) :=
 if (s1.1:Int) < (bf.proxies.length:Int) then (
  (bf.proxies[s1.1]?).bind fun x0 =>
  ((
   (pW bf x0.holder).bind fun r0 =>
   if r0 then (
    (pW bf x0.for_).bind fun r1 =>
    if r1 then (
     if x0.holder=x0.for_ then (
      some true)
     else
     some ((eJ s1.2 x0.for_).getD false))
    else
    some true)
   else
   some true
  ):Option (Bool)).bind fun t0 =>
  if t0 then (
   some (.inr (.inr false)))
  else
  some (.inl ((s1.1+1),(put s1.2 x0.for_ true))))
 else
 some (.inr (.inl s1.2))
def EK (bf:aV):Option (Bool) :=
 (bF (sH bf) (0,([]:List (Int×Bool)))).bind fun eA1=>match eA1 with
 | .inr z=>some z
 | .inl t1 =>
 (bF (sI bf) (0,([]:List (Int×Bool)))).bind fun eB1=>match eB1 with
 | .inr z=>some z
 | .inl t0 =>
 (EJ bf.proxies (fun x0_=>EI x0_ t0)).bind fun r0 =>
 some r0
def zY (bf:aV):Option (Bool) :=
 some (decide (bf.tie=1))
def OV (bf:aV) (de:fI) (bw:aV→Option Bool):Option (Bool) :=
 ((
  if de.noes < de.ayes then (
   some true)
  else
  if de.ayes=de.noes then (
   (bw bf).bind fun r0 =>
   some r0)
  else
  some false
 ):Option (Bool)).bind fun t0 =>
 some t0
def OW (bf:aV) (de:fI) (bw:aV→Option Bool):Option (Bool) :=
 ((
  if bf.need≤de.ayes then (
   some true)
  else
  bN (-9223372036854775808≤(bf.need - 1)∧(bf.need - 1)≤9223372036854775807) <|
  if de.ayes=(bf.need - 1) then (
   (bw bf).bind fun r0 =>
   some r0)
  else
  some false
 ):Option (Bool)).bind fun t0 =>
 some t0
def OX (jb:aV) (de:fI):Option (Bool) :=
 ((
  bN (-9223372036854775808≤(3*de.ayes)∧(3*de.ayes)≤9223372036854775807) <|
  bN (-9223372036854775808≤(de.ayes+de.noes)∧(de.ayes+de.noes)≤9223372036854775807) <|
  bN (-9223372036854775808≤(2*(de.ayes+de.noes))∧(2*(de.ayes+de.noes))≤9223372036854775807) <|
  if (2*(de.ayes+de.noes))≤(3*de.ayes) then (
   some (decide (1≤de.ayes)))
  else
  some false
 ):Option (Bool)).bind fun t0 =>
 some t0
def EM  : Option (Unit) :=
 some ()
def zZ (bf:aV):Option (Bool) :=
 ((
  (uR bf.members 1 40).bind fun r0 =>
  if r0 then (
   (zX ([bf.ayes.e0,bf.ayes.e1]:List (List Int)) (oK bf)).bind fun r1 =>
   if r1 then (
    (zX ([bf.noes.e0,bf.noes.e1]:List (List Int)) (oK bf)).bind fun r2 =>
    if r2 then (
     if (bf.pairs.length:Int)≤10 then (
      if (bf.proxies.length:Int)≤10 then (
       (EK bf).bind fun r3 =>
       if r3 then (
        bN (-9223372036854775808≤bf.rule∧bf.rule≤9223372036854775807) <|
        (EM).bind fun r8 =>
        if bf.rule < 3 then (
         (uR bf.need 0 40).bind fun r4 =>
         if r4 then (
          (uR bf.quorum 0 40).bind fun r5 =>
          if r5 then (
           if bf.tie=1 then (
            some true)
           else
           some (decide (bf.tie=2)))
          else
          some false)
         else
         some false)
        else
        some false)
       else
       some false)
      else
      some false)
     else
     some false)
    else
    some false)
   else
   some false)
  else
  some false
 ):Option (Bool)).bind fun t0 =>
 some t0
def EN (bf:aV):Option (Int) :=
 (zZ bf).bind fun r6 =>
 if r6 then (
  some 0)
 else
 some 1
def AA (aa:aI) (fx:aV):Option (aI⊕Int) :=
 (EN fx).bind fun r8 =>
 (lQ r8).bind fun r11=>match r11 with
 | .inl y0=>(
  some (.inl (⟨({aa.state with division:=fx,open_:=true}:dE)⟩:aI)))
 | .inr _=>(
  some (.inr r8))
def TV (aa:aI) (bq:List Int) (cw:aD):Option (aI⊕Int) :=
 (jJ (!aa.state.open_) 8).bind fun r3=>match r3 with
 | .inl y6=>(
  ((
   (bq[0]?).bind fun x2 =>
   (oW x2 0 255).bind fun r0 =>
   if r0 then (
    (bq[3]?).bind fun x3 =>
    (oW x3 0 255).bind fun r1 =>
    (jJ r1 2).bind fun r2=>match r2 with
    | .inl y1=>(
     some (.inl ()))
    | .inr _=>(
     some (.inr (.inr 2))))
   else
   (jJ false 2).bind fun r4=>match r4 with
   | .inl y2=>(
    some (.inl ()))
   | .inr _=>(
    some (.inr (.inr 2)))
  ):Option ((Unit)⊕(aI⊕Int))).bind fun t42=>match t42 with
  | .inr z=>some z
  | .inl t45 =>
  (bq[0]?).bind fun x0 =>
  bN (0≤x0∧x0≤255) <|
  (bq[1]?).bind fun x4 =>
  (bq[2]?).bind fun x5 =>
  (bq[3]?).bind fun x1 =>
  bN (0≤x1∧x1≤255) <|
  (AA aa (⟨aa.state.house,(⟨([]:List Int),([]:List Int)⟩:bJ),(⟨([]:List Int),([]:List Int)⟩:bJ),([]:List eY),([]:List dU),x0,x4,x5,x1⟩:aV)).bind fun r5=>match r5 with
  | .inl y0=>(
   some (.inl y0))
  | .inr y0=>(
   some (.inr y0)))
 | .inr _=>(
  some (.inr 8))
def EO (aq:Int) (fk:Int):Option (Bool) :=
 ((
  (uQ aq).bind fun r0 =>
  if r0 then (
   (uQ fk).bind fun r1 =>
   if r1 then (
    some (decide (aq < fk)))
   else
   some true)
  else
  some (decide (aq < fk))
 ):Option (Bool)).bind fun t0 =>
 some t0
def JQ (aq:Int):Option (Bool) :=
 some (decide (aq≠aq))
def wQ (aq:List Int) (target:Int) (s1:Int×Int):Option ((Int×Int)⊕(Int)) :=
 if s1.1 < s1.2 then (
  bN (-9223372036854775808≤(s1.1+s1.2)∧(s1.1+s1.2)≤9223372036854775807) <|
  bN (0≤(s1.1+s1.2)∧(s1.1+s1.2)≤18446744073709551615) <|
  bN (0≤(s1.1+s1.2)) <|
  bN (-9223372036854775808≤((s1.1+s1.2)/2)∧((s1.1+s1.2)/2)≤9223372036854775807) <|
  (aq[((s1.1+s1.2)/2).toNat]?).bind fun x0 =>
  (EO x0 target).bind fun r0 =>
  ((
   if r0 then (
    bN (-9223372036854775808≤(((s1.1+s1.2)/2)+1)∧(((s1.1+s1.2)/2)+1)≤9223372036854775807) <|
    some ((((s1.1+s1.2)/2)+1),s1.2))
   else
   some (s1.1,((s1.1+s1.2)/2))
  ):Option (Int×Int)).bind fun t0 =>
  some (.inl (t0.1,t0.2)))
 else
 some (.inr s1.1)
def sJ (aq:List Int) (target:Int):Option (Int×Bool) :=
 (bF (wQ aq target) (0,(aq.length:Int))).bind fun e57 =>
 ((
  if e57 < (aq.length:Int) then (
   bN (0≤e57) <|
   (aq[e57.toNat]?).bind fun x0 =>
   if x0=target then (
    some (e57,true))
   else
   (JQ x0).bind fun r0 =>
   if r0 then (
    (JQ target).bind fun r1 =>
    some (e57,r1))
   else
   some (e57,false))
  else
  some (e57,false)
 ):Option (Int×Bool)).bind fun t0 =>
 some (t0.1,t0.2)
def qR (ai:List Int):Option (List Int) :=
 bN (([]:List Int).length+ai.length≤1073741824) <|
 some (([]:List Int)++ai)
def TW (aa:aI) (bq:List Int) (cw:aD):Option (aI⊕Int) :=
 (jJ aa.state.open_ 8).bind fun r3=>match r3 with
 | .inl y6=>(
  ((
   (bq[0]?).bind fun x5 =>
   (oW x5 1 2).bind fun r77 =>
   if r77 then (
    (bq[1]?).bind fun x6 =>
    (oW x6 0 1).bind fun r89 =>
    if r89 then (
     (bq[2]?).bind fun x7 =>
     bN (-9223372036854775808≤(aa.state.division.members - 1)∧(aa.state.division.members - 1)≤9223372036854775807) <|
     (oW x7 0 (aa.state.division.members - 1)).bind fun rB1 =>
     (jJ rB1 2).bind fun rC1=>match rC1 with
     | .inl y0=>(
      some (.inl ()))
     | .inr _=>(
      some (.inr (.inr 2))))
    else
    (jJ false 2).bind fun rD1=>match rD1 with
    | .inl y1=>(
     some (.inl ()))
    | .inr _=>(
     some (.inr (.inr 2))))
   else
   (jJ false 2).bind fun rE1=>match rE1 with
   | .inl y2=>(
    some (.inl ()))
   | .inr _=>(
    some (.inr (.inr 2)))
  ):Option ((Unit)⊕(aI⊕Int))).bind fun t0=>match t0 with
  | .inr z=>some z
  | .inl t68 =>
  (bq[1]?).bind fun x4 =>
  if x4=0 then (
   (bq[0]?).bind fun x8 =>
   if x8=2 then (
    (bq[2]?).bind fun x0 =>
    (sJ aa.state.division.noes.e0 x0).bind fun r0 =>
    (jJ (!r0.2) 6).bind fun rF1=>match rF1 with
    | .inl y3=>(
     (qR aa.state.division.noes.e0).bind fun r5 =>
     bN (0≤r0.1) <|
     bN (r0.1.toNat≤r5.length) <|
     bN (r5.length+([x0]:List Int).length≤1073741824) <|
     some (.inl (⟨({aa.state with division:=({aa.state.division with noes:=(⟨(r5.take r0.1.toNat++([x0]:List Int)++r5.drop r0.1.toNat),aa.state.division.noes.e1⟩:bJ)}:aV)}:dE)⟩:aI)))
    | .inr _=>(
     some (.inr 6)))
   else
   (bq[2]?).bind fun x1 =>
   (sJ aa.state.division.ayes.e0 x1).bind fun r1 =>
   (jJ (!r1.2) 6).bind fun rG1=>match rG1 with
   | .inl y4=>(
    (qR aa.state.division.ayes.e0).bind fun r8 =>
    bN (0≤r1.1) <|
    bN (r1.1.toNat≤r8.length) <|
    bN (r8.length+([x1]:List Int).length≤1073741824) <|
    some (.inl (⟨({aa.state with division:=({aa.state.division with ayes:=(⟨(r8.take r1.1.toNat++([x1]:List Int)++r8.drop r1.1.toNat),aa.state.division.ayes.e1⟩:bJ)}:aV)}:dE)⟩:aI)))
   | .inr _=>(
    some (.inr 6)))
  else
  if x4=1 then (
   (bq[0]?).bind fun x9 =>
   if x9=2 then (
    (bq[2]?).bind fun x2 =>
    (sJ aa.state.division.noes.e1 x2).bind fun r2 =>
    (jJ (!r2.2) 6).bind fun rH1=>match rH1 with
    | .inl y5=>(
     (qR aa.state.division.noes.e1).bind fun r9 =>
     bN (0≤r2.1) <|
     bN (r2.1.toNat≤r9.length) <|
     bN (r9.length+([x2]:List Int).length≤1073741824) <|
     some (.inl (⟨({aa.state with division:=({aa.state.division with noes:=(⟨aa.state.division.noes.e0,(r9.take r2.1.toNat++([x2]:List Int)++r9.drop r2.1.toNat)⟩:bJ)}:aV)}:dE)⟩:aI)))
    | .inr _=>(
     some (.inr 6)))
   else
   (bq[2]?).bind fun x3 =>
   (sJ aa.state.division.ayes.e1 x3).bind fun r4 =>
   (jJ (!r4.2) 6).bind fun rI1=>match rI1 with
   | .inl y7=>(
    (qR aa.state.division.ayes.e1).bind fun rA1 =>
    bN (0≤r4.1) <|
    bN (r4.1.toNat≤rA1.length) <|
    bN (rA1.length+([x3]:List Int).length≤1073741824) <|
    some (.inl (⟨({aa.state with division:=({aa.state.division with ayes:=(⟨aa.state.division.ayes.e0,(rA1.take r4.1.toNat++([x3]:List Int)++rA1.drop r4.1.toNat)⟩:bJ)}:aV)}:dE)⟩:aI)))
   | .inr _=>(
    some (.inr 6)))
  else
  none)
 | .inr _=>(
  some (.inr 8))
def JR (ai:List eY):Option (List eY) :=
 bN (([]:List eY).length+ai.length≤1073741824) <|
 some (([]:List eY)++ai)
def EP (bv:List eY) (cq:eY):Option (List eY) :=
 (JR bv).bind fun r4 =>
 bN (r4.length+([cq]:List eY).length≤1073741824) <|
 some (r4++([cq]:List eY))
def TX (aa:aI) (bq:List Int) (cw:aD):Option (aI⊕Int) :=
 (jJ aa.state.open_ 8).bind fun r3=>match r3 with
 | .inl y6=>(
  (bq[0]?).bind fun x9 =>
  (bq[1]?).bind fun x0 =>
  (EP aa.state.division.pairs (⟨x9,x0⟩:eY)).bind fun r0 =>
  (AA aa ({aa.state.division with pairs:=r0}:aV)).bind fun r1=>match r1 with
  | .inl y0=>(
   some (.inl y0))
  | .inr y0=>(
   some (.inr y0)))
 | .inr _=>(
  some (.inr 8))
def pX (ai:List Int) (fh:Int) (s1:Nat):Option ((Nat)⊕((Unit)⊕Int)) :=
 if (s1:Int) < (ai.length:Int) then (
  (ai[s1]?).bind fun x0 =>
  if fh=x0 then (
   some (.inr (.inr (s1:Int))))
  else
  some (.inl (s1+1)))
 else
 some (.inr (.inl ()))
def JS (ai:List Int) (fh:Int):Option (Int) :=
 (bF (pX ai fh) 0).bind fun e16=>match e16 with
 | .inr z=>some z
 | .inl t0 =>
 some (-1)
def uX (ai:List Int) (fh:Int):Option (Bool) :=
 (JS ai fh).bind fun r1 =>
 some (decide (0≤r1))
def AB (lobby:bJ) (member:Int):Option (Int) :=
 (uX lobby.e0 member).bind fun r0 =>
 ((
  if r0 then (
   some 1)
  else
  some 0
 ):Option (Nat)).bind fun t39 =>
 (uX lobby.e1 member).bind fun r1 =>
 ((
  if r1 then (
   bN (-9223372036854775808≤((t39:Int)+1)∧((t39:Int)+1)≤9223372036854775807) <|
   some (t39+1))
  else
  some t39
 ):Option (Nat)).bind fun t62 =>
 some (t62:Int)
def EQ (bf:aV) (member:Int):Option (List UInt8) :=
 (AB bf.ayes member).bind fun r6 =>
 (AB bf.noes member).bind fun r10 =>
 ((
  if r6 < 2 then (
   some (decide (r10 < 2)))
  else
  some false
 ):Option (Bool)).bind fun t0 =>
 ((
  if t0 then (
   bN (([]:List UInt8).length+1≤1073741824) <|
   some (([]:List UInt8)++[(0:UInt8)]))
  else
  some ([]:List UInt8)
 ):Option (List UInt8)).bind fun t38 =>
 ((
  if 0 < r6 then (
   some (decide (r10 < 2)))
  else
  some false
 ):Option (Bool)).bind fun t1 =>
 ((
  if t1 then (
   bN (t38.length+1≤1073741824) <|
   some (t38++[(1:UInt8)]))
  else
  some t38
 ):Option (List UInt8)).bind fun t68 =>
 ((
  if 0 < r10 then (
   some (decide (r6 < 2)))
  else
  some false
 ):Option (Bool)).bind fun t84 =>
 ((
  if t84 then (
   bN (t68.length+1≤1073741824) <|
   some (t68++[(2:UInt8)]))
  else
  some t68
 ):Option (List UInt8)).bind fun t2 =>
 some t2
def wR (bf:aV) (s1:Nat×bE):Option ((Nat×bE)⊕(bE)) :=
 if (s1.1:Int) < (bf.pairs.length:Int) then (
  (bf.pairs[s1.1]?).bind fun x0 =>
  bN (0≤x0.a) <|
  bN (x0.a < 40) <|
  bN (0≤x0.b) <|
  bN (x0.b < 40) <|
  some (.inl ((s1.1+1),(bE.set (bE.set s1.2 x0.a.toNat true) x0.b.toNat true))))
 else
 some (.inr s1.2)
def wS (bf:aV) (s1:Nat×List (List UInt8)):Option ((Nat×List (List UInt8))⊕(List (List UInt8))) :=
 if (s1.1:Int) < bf.members then (
  (EQ bf (s1.1:Int)).bind fun r0 =>
  (s1.2[s1.1]?).bind fun x0 =>
  bN (-9223372036854775808≤((s1.1:Int)+1)∧((s1.1:Int)+1)≤9223372036854775807) <|
  some (.inl ((s1.1+1),(s1.2.set s1.1 r0))))
 else
 some (.inr s1.2)
def ER (bf:aV):Option (dC) :=
 (bF (wR bf) (0,bE.zero)).bind fun e76 =>
 (bF (wS bf) (0,(List.replicate 40 ([]:List UInt8)))).bind fun eA1 =>
 some (⟨bf,e76,eA1⟩:dC)
def wT (aq:dC) (s1:Nat×Nat×Bool):Option ((Nat×Nat×Bool)⊕(Nat×Bool)) :=
 if (s1.2.1:Int) < aq.division.members then (
  (aq.may[s1.2.1]?).bind fun x0 =>
  if (x0.length:Int)=0 then (
   some (.inr (s1.2.1,true)))
  else
  bN (-9223372036854775808≤((s1.2.1:Int)+1)∧((s1.2.1:Int)+1)≤9223372036854775807) <|
  some (.inl (s1.1,(s1.2.1+1),s1.2.2)))
 else
 some (.inr (s1.1,s1.2.2))
def ES (aq:dC):Option (Int×Bool) :=
 (bF (wT aq) (0,0,false)).bind fun e41 =>
 some ((e41.1:Int),e41.2)
def ET (bf:aV):Option (dC×Int) :=
 (zZ bf).bind fun r7 =>
 if r7 then (
  (ER bf).bind fun r0 =>
  (ES r0).bind fun r1 =>
  if r1.2 then (
   some ((⟨(⟨0,(⟨([]:List Int),([]:List Int)⟩:bJ),(⟨([]:List Int),([]:List Int)⟩:bJ),([]:List eY),([]:List dU),0,0,0,0⟩:aV),bE.zero,(List.replicate 40 ([]:List UInt8))⟩:dC),9))
  else
  some (r0,0))
 else
 some ((⟨(⟨0,(⟨([]:List Int),([]:List Int)⟩:bJ),(⟨([]:List Int),([]:List Int)⟩:bJ),([]:List eY),([]:List dU),0,0,0,0⟩:aV),bE.zero,(List.replicate 40 ([]:List UInt8))⟩:dC),1)
def wU (aq:dC) (s1:Nat×List Int):Option ((Nat×List Int)⊕(List Int)) :=
 if (s1.1:Int) < aq.division.members then (
  (aq.may[s1.1]?).bind fun x0 =>
  ((
   if 1 < (x0.length:Int) then (
    bN (s1.2.length+1≤1073741824) <|
    some (s1.2++[(s1.1:Int)]))
   else
   some s1.2
  ):Option (List Int)).bind fun t164 =>
  bN (-9223372036854775808≤((s1.1:Int)+1)∧((s1.1:Int)+1)≤9223372036854775807) <|
  some (.inl ((s1.1+1),t164)))
 else
 some (.inr s1.2)
def EU (aq:dC):Option (List Int) :=
 (bF (wU aq) (0,([]:List Int))).bind fun eA1 =>
 some eA1
def EV (bf:aV):Option (dC×Int) :=
 (ET bf).bind fun r7 =>
 ((
  if r7.2=0 then (
   (EU r7.1).bind fun r0 =>
   some (decide (8 < (r0.length:Int))))
  else
  some false
 ):Option (Bool)).bind fun t0 =>
 if t0 then (
  some ((⟨(⟨0,(⟨([]:List Int),([]:List Int)⟩:bJ),(⟨([]:List Int),([]:List Int)⟩:bJ),([]:List eY),([]:List dU),0,0,0,0⟩:aV),bE.zero,(List.replicate 40 ([]:List UInt8))⟩:dC),3))
 else
 some (r7.1,r7.2)
def EW (x0:List UInt8) (fu:Int) (iv:bA→Int→Option Bool) (s1:Nat×bA):Option ((Nat×bA)⊕((bA)⊕Bool)) :=
 if (s1.1:Int) < (x0.length:Int) then (
  (x0[s1.1]?).bind fun x1 =>
  bN (fu < 40) <|
  bN (-9223372036854775808≤(fu+1)∧(fu+1)≤9223372036854775807) <|
  (iv (bA.set s1.2 fu.toNat (x1.toNat:Int)) (fu+1)).bind fun r0 =>
  if r0 then (
   some (.inl ((s1.1+1),(bA.set s1.2 fu.toNat (x1.toNat:Int)))))
  else
  some (.inr (.inr false)))
 else
 some (.inr (.inl s1.2))
def TY (iu:bA) (fu:Int) (bw:dC) (gb:bA→Option Bool) (iv:bA→Int→Option Bool):Option (Bool) :=
 if fu=bw.division.members then (
  (gb iu).bind fun r0 =>
  some r0)
 else
 bN (0≤fu) <|
 (bw.may[fu.toNat]?).bind fun x0 =>
 (bF (EW x0 fu iv) (0,iu)).bind fun e90=>match e90 with
 | .inr z=>some z
 | .inl t0 =>
 some true
def EX (x0:List UInt8) (s1:Nat×bA) (R0_:(Nat×bA)→Option (Bool)) (s2:Nat×bA):Option ((Nat×bA)⊕((bA)⊕Bool)) :=
 if (s2.1:Int) < (x0.length:Int) then (
  (x0[s2.1]?).bind fun x1 =>
  bN ((s1.1:Int) < 40) <|
  bN (-9223372036854775808≤((s1.1:Int)+1)∧((s1.1:Int)+1)≤9223372036854775807) <|
  (R0_ ((s1.1+1),(bA.set s2.2 s1.1 (x1.toNat:Int)))).bind fun r0 =>
  if r0 then (
   some (.inl ((s2.1+1),(bA.set s2.2 s1.1 (x1.toNat:Int)))))
  else
  some (.inr (.inr false)))
 else
 some (.inr (.inl s2.2))
def EY (bw:dC) (yield:bA→Option Bool) (R0_:(Nat×bA)→Option (Bool)) (s1:Nat×bA):Option (Bool) :=
 if (s1.1:Int)=bw.division.members then (
  (yield s1.2).bind fun r0 =>
  some r0)
 else
 (bw.may[s1.1]?).bind fun x0 =>
 (bF (EX x0 s1 R0_) (0,s1.2)).bind fun eA1=>match eA1 with
 | .inr z=>some z
 | .inl t0 =>
 some true
def oX (bw:dC) (yield:bA→Option Bool):Nat→(Nat×bA)→Option (Bool)
 | 0,_=>none
 | n_+1,s1=>EY bw yield (oX bw yield n_) s1
def TZ (yield:bA→Option Bool) (bw:dC):Option (Unit) :=
 (vU (fun n_=>oX bw yield n_ (0,bA.zero))).bind fun r0 =>
 some ()
def wV (aq:dC) (gp:bA) (s1:Nat×Nat×Nat):Option ((Nat×Nat×Nat)⊕(Nat×Nat)) :=
 if (s1.1:Int) < aq.division.members then (
  bN ((s1.1:Int) < 40) <|
  ((
   if bE.get aq.paired s1.1 then (
    some (s1.2.1,s1.2.2))
   else
   ((
    ((
     if (bA.get gp s1.1)=1 then (
      bN (-9223372036854775808≤((s1.2.1:Int)+1)∧((s1.2.1:Int)+1)≤9223372036854775807) <|
      some ((s1.2.1+1),s1.2.2))
     else
     ((
      if (bA.get gp s1.1)=2 then (
       bN (-9223372036854775808≤((s1.2.2:Int)+1)∧((s1.2.2:Int)+1)≤9223372036854775807) <|
       some (s1.2.2+1))
      else
      some s1.2.2
     ):Option (Nat)).bind fun t3 =>
     some (s1.2.1,t3)
    ):Option (Nat×Nat)).bind fun t0 =>
    some (t0.1,t0.2)
   ):Option (Nat×Nat)).bind fun t1 =>
   some (t1.1,t1.2)
  ):Option (Nat×Nat)).bind fun t2 =>
  bN (-9223372036854775808≤((s1.1:Int)+1)∧((s1.1:Int)+1)≤9223372036854775807) <|
  some (.inl ((s1.1+1),t2.1,t2.2)))
 else
 some (.inr (s1.2.1,s1.2.2))
def wW (aq:dC) (gp:bA) (s1:Nat×Nat×Nat):Option ((Nat×Nat×Nat)⊕(Nat×Nat)) :=
 if (s1.1:Int) < (aq.division.proxies.length:Int) then (
  (aq.division.proxies[s1.1]?).bind fun x0 =>
  ((
   bN (0≤x0.for_) <|
   bN (x0.for_ < 40) <|
   if (bA.get gp x0.for_.toNat)=0 then (
    if bE.get aq.paired x0.for_.toNat then (
     some false)
    else
    bN (0≤x0.holder) <|
    bN (x0.holder < 40) <|
    some (!(bE.get aq.paired x0.holder.toNat)))
   else
   some false
  ):Option (Bool)).bind fun t3 =>
  ((
   if t3 then (
    bN (0≤x0.holder) <|
    bN (x0.holder < 40) <|
    ((
     ((
      if (bA.get gp x0.holder.toNat)=1 then (
       bN (-9223372036854775808≤((s1.2.1:Int)+1)∧((s1.2.1:Int)+1)≤9223372036854775807) <|
       some ((s1.2.1+1),s1.2.2))
      else
      ((
       if (bA.get gp x0.holder.toNat)=2 then (
        bN (-9223372036854775808≤((s1.2.2:Int)+1)∧((s1.2.2:Int)+1)≤9223372036854775807) <|
        some (s1.2.2+1))
       else
       some s1.2.2
      ):Option (Nat)).bind fun t4 =>
      some (s1.2.1,t4)
     ):Option (Nat×Nat)).bind fun t0 =>
     some (t0.1,t0.2)
    ):Option (Nat×Nat)).bind fun t1 =>
    some (t1.1,t1.2))
   else
   some (s1.2.1,s1.2.2)
  ):Option (Nat×Nat)).bind fun t2 =>
  some (.inl ((s1.1+1),t2.1,t2.2)))
 else
 some (.inr (s1.2.1,s1.2.2))
def EZ (aq:dC) (gp:bA):Option (fI) :=
 (bF (wV aq gp) (0,0,0)).bind fun e82 =>
 (bF (wW aq gp) (0,e82.1,e82.2)).bind fun eA1 =>
 some (⟨(eA1.1:Int),(eA1.2:Int)⟩:fI)
def FA (aq:dC) (de:fI):Option (Int) :=
 bN (-9223372036854775808≤(de.ayes+de.noes)∧(de.ayes+de.noes)≤9223372036854775807) <|
 if (de.ayes+de.noes) < aq.division.quorum then (
  some 2)
 else
 (EM).bind fun r3 =>
 bN (0≤aq.division.rule) <|
 if aq.division.rule=0 then (
  (OV aq.division de (zY)).bind fun r0 =>
  if r0 then (
   some 1)
  else
  some 0)
 else
 if aq.division.rule=1 then (
  (OW aq.division de (zY)).bind fun r1 =>
  if r1 then (
   some 1)
  else
  some 0)
 else
 if aq.division.rule=2 then (
  (OX aq.division de).bind fun r2 =>
  if r2 then (
   some 1)
  else
  some 0)
 else
 none
def pY (ai:List UInt8) (fh:Int) (s1:Nat):Option ((Nat)⊕((Unit)⊕Int)) :=
 if (s1:Int) < (ai.length:Int) then (
  (ai[s1]?).bind fun x0 =>
  if fh=(x0.toNat:Int) then (
   some (.inr (.inr (s1:Int))))
  else
  some (.inl (s1+1)))
 else
 some (.inr (.inl ()))
def JT (ai:List UInt8) (fh:Int):Option (Int) :=
 (bF (pY ai fh) 0).bind fun e16=>match e16 with
 | .inr z=>some z
 | .inl t0 =>
 some (-1)
def FB (ai:List UInt8) (fh:Int):Option (Bool) :=
 (JT ai fh).bind fun r1 =>
 some (decide (0≤r1))
def OY (aq:Int):Option (Int) :=
 ((
  if 4294967296≤aq then (
   some (32,(aq/4294967296)))
  else
  some (0,aq)
 ):Option (Nat×Int)).bind fun t4 =>
 ((
  if 65536≤t4.2 then (
   bN (-9223372036854775808≤((t4.1:Int)+16)∧((t4.1:Int)+16)≤9223372036854775807) <|
   some ((t4.1+16),(t4.2/65536)))
  else
  some (t4.1,t4.2)
 ):Option (Nat×Int)).bind fun t0 =>
 ((
  if 256≤t0.2 then (
   bN (-9223372036854775808≤((t0.1:Int)+8)∧((t0.1:Int)+8)≤9223372036854775807) <|
   some ((t0.1+8),(t0.2/256)))
  else
  some (t0.1,t0.2)
 ):Option (Nat×Int)).bind fun t28 =>
 bN (0≤t28.2∧t28.2≤255) <|
 bN (0≤t28.2) <|
 (([0,1,2,2,3,3,3,3,4,4,4,4,4,4,4,4,5,5,5,5,5,5,5,5,5,5,5,5,5,5,5,5,6,6,6,6,6,6,6,6,6,6,6,6,6,6,6,6,6,6,6,6,6,6,6,6,6,6,6,6,6,6,6,6,7,7,7,7,7,7,7,7,7,7,7,7,7,7,7,7,7,7,7,7,7,7,7,7,7,7,7,7,7,7,7,7,7,7,7,7,7,7,7,7,7,7,7,7,7,7,7,7,7,7,7,7,7,7,7,7,7,7,7,7,7,7,7,7,8,8,8,8,8,8,8,8,8,8,8,8,8,8,8,8,8,8,8,8,8,8,8,8,8,8,8,8,8,8,8,8,8,8,8,8,8,8,8,8,8,8,8,8,8,8,8,8,8,8,8,8,8,8,8,8,8,8,8,8,8,8,8,8,8,8,8,8,8,8,8,8,8,8,8,8,8,8,8,8,8,8,8,8,8,8,8,8,8,8,8,8,8,8,8,8,8,8,8,8,8,8,8,8,8,8,8,8,8,8,8,8,8,8,8,8,8,8,8,8,8,8,8,8,8,8,8,8]:aD)[t28.2.toNat]?).bind fun x0 =>
 bN (-9223372036854775808≤((t28.1:Int)+(x0.toNat:Int))∧((t28.1:Int)+(x0.toNat:Int))≤9223372036854775807) <|
 some ((t28.1:Int)+(x0.toNat:Int))
def JU (aq:Int):Option (Int) :=
 (OY aq).bind fun r1 =>
 some r1
def FC (aq:Int):Option (Bool) :=
 some (decide (aq≠aq))
def FD (aq:Int) (fk:Int):Option (Bool) :=
 ((
  (FC aq).bind fun r0 =>
  if r0 then (
   (FC fk).bind fun r1 =>
   if r1 then (
    some (decide (aq < fk)))
   else
   some true)
  else
  some (decide (aq < fk))
 ):Option (Bool)).bind fun t0 =>
 some t0
def wX (x0:List UInt8) (s2:Nat×bA×List UInt8) (R0_:(Nat×bA×List UInt8)→Option (List UInt8)) (s1:Nat×bA×List UInt8):Option ((Nat×bA×List UInt8)⊕(bA×List UInt8)) :=
 if (s1.1:Int) < (x0.length:Int) then (
  (x0[s1.1]?).bind fun x1 =>
  bN ((s2.1:Int) < 40) <|
  bN (-9223372036854775808≤((s2.1:Int)+1)∧((s2.1:Int)+1)≤9223372036854775807) <|
  (R0_ ((s2.1+1),(bA.set s1.2.1 s2.1 (x1.toNat:Int)),s1.2.2)).bind fun r0 =>
  some (.inl ((s1.1+1),(bA.set s1.2.1 s2.1 (x1.toNat:Int)),r0)))
 else
 some (.inr (s1.2.1,s1.2.2))
def sK (r6:dC×Int) (R0_:(Nat×bA×List UInt8)→Option (List UInt8)) (s1:Nat×bA×List UInt8):Option (List UInt8) :=
 if (s1.1:Int)=r6.1.division.members then (
  ((
   (EZ r6.1 s1.2.1).bind fun r1 =>
   (FA r6.1 r1).bind fun r0 =>
   (FB s1.2.2 r0).bind fun r2 =>
   ((
    if r2 then (
     some s1.2.2)
    else
    bN (s1.2.2.length+1≤1073741824) <|
    bN (0≤r0∧r0≤255) <|
    some (s1.2.2++[(UInt8.ofNat r0.toNat)])
   ):Option (List UInt8)).bind fun t0 =>
   some t0
  ):Option (List UInt8)).bind fun t1 =>
  some t1)
 else
 (r6.1.may[s1.1]?).bind fun x0 =>
 (bF (wX x0 s1 R0_) (0,s1.2.1,s1.2.2)).bind fun eA1 =>
 some eA1.2
def lD (r6:dC×Int):Nat→(Nat×bA×List UInt8)→Option (List UInt8)
 | 0,_=>none
 | n_+1,s1=>sK r6 (lD r6 n_) s1
def wY (s2:Nat×Nat×Int×Bool×Bool) (s1:Int×List UInt8):Option ((Int×List UInt8)⊕(List UInt8)) :=
 ((
  if (s2.1:Int) < s1.1 then (
   bN (0≤s1.1) <|
   (s1.2[s1.1.toNat]?).bind fun x1 =>
   bN (-9223372036854775808≤(s1.1 - 1)∧(s1.1 - 1)≤9223372036854775807) <|
   bN (0≤(s1.1 - 1)) <|
   (s1.2[(s1.1 - 1).toNat]?).bind fun x2 =>
   (FD (x1.toNat:Int) (x2.toNat:Int)).bind fun r0 =>
   some r0)
  else
  some false
 ):Option (Bool)).bind fun t0 =>
 if t0 then (
  bN (-9223372036854775808≤(s1.1 - 1)∧(s1.1 - 1)≤9223372036854775807) <|
  bN (0≤(s1.1 - 1)) <|
  (s1.2[(s1.1 - 1).toNat]?).bind fun x0 =>
  bN (0≤s1.1) <|
  (s1.2[s1.1.toNat]?).bind fun x3 =>
  ((s1.2.set s1.1.toNat x0)[(s1.1 - 1).toNat]?).bind fun x4 =>
  some (.inl ((s1.1 - 1),((s1.2.set s1.1.toNat x0).set ((s1.1 - 1).toNat) x3))))
 else
 some (.inr s1.2)
def sL (s2:Nat×Nat×Int×Bool×Bool) (s1:Nat×List UInt8):Option ((Nat×List UInt8)⊕(List UInt8)) :=
 if (s1.1:Int) < (s2.2.1:Int) then (
  (bF (wY s2) ((s1.1:Int),s1.2)).bind fun eA1 =>
  bN (-9223372036854775808≤((s1.1:Int)+1)∧((s1.1:Int)+1)≤9223372036854775807) <|
  some (.inl ((s1.1+1),eA1)))
 else
 some (.inr s1.2)
def pZ (t0:List UInt8) (s1:Nat×Nat×Int×Bool×Bool):Option ((Nat×Nat×Int×Bool×Bool)⊕(List UInt8)) :=
 bN (-9223372036854775808≤((s1.2.1:Int) - (s1.1:Int))∧((s1.2.1:Int) - (s1.1:Int))≤9223372036854775807) <|
 if ((s1.2.1:Int) - (s1.1:Int))≤12 then (
  ((
   bN (-9223372036854775808≤((s1.1:Int)+1)∧((s1.1:Int)+1)≤9223372036854775807) <|
   (bF (sL s1) ((s1.1+1),t0)).bind fun eA1 =>
   some eA1
  ):Option (List UInt8)).bind fun t1 =>
  some (.inr t1))
 else
 if s1.2.2.1=0 then (
  none)
 else
 if s1.2.2.2.1 then (
  none)
 else
 none
def FE (bf:aV):Option (List UInt8×Int) :=
 (EV bf).bind fun r6 =>
 if r6.2≠0 then (
  some (([]:List UInt8),r6.2))
 else
 ((
  (vU (fun n_=>lD r6 n_ (0,bA.zero,([]:List UInt8)))).bind fun r0 =>
  some r0
 ):Option (List UInt8)).bind fun t0 =>
 ((
  (JU (t0.length:Int)).bind fun r1 =>
  ((
   (bF (pZ t0) (0,t0.length,r1,true,true)).bind fun eA1=>some eA1
  ):Option (List UInt8)).bind fun t1 =>
  some t1
 ):Option (List UInt8)).bind fun t2 =>
 some (t2,0)
def JV (ai:List UInt8):Option (List UInt8) :=
 bN (([]:List UInt8).length+ai.length≤1073741824) <|
 some (([]:List UInt8)++ai)
def FF (bv:List UInt8) (cq:Int):Option (List UInt8) :=
 (JV bv).bind fun r1 =>
 bN (r1.length+1≤1073741824) <|
 bN (0≤cq∧cq≤255) <|
 some (r1++[(UInt8.ofNat cq.toNat)])
def UA (aa:aI) (cq:List Int) (jd:aD):Option (aI⊕Int) :=
 (jJ aa.state.open_ 8).bind fun r3=>match r3 with
 | .inl y6=>(
  (FE aa.state.division).bind fun r8 =>
  (lQ r8.2).bind fun r0=>match r0 with
  | .inl y0=>(
   (jJ (decide ((r8.1.length:Int)=1)) 10).bind fun r1=>match r1 with
   | .inl y1=>(
    (r8.1[0]?).bind fun x0 =>
    (FF aa.state.results (x0.toNat:Int)).bind fun r2 =>
    some (.inl (⟨({aa.state with division:=(⟨0,(⟨([]:List Int),([]:List Int)⟩:bJ),(⟨([]:List Int),([]:List Int)⟩:bJ),([]:List eY),([]:List dU),0,0,0,0⟩:aV),open_:=false,results:=r2}:dE)⟩:aI)))
   | .inr _=>(
    some (.inr 10)))
  | .inr _=>(
   some (.inr r8.2)))
 | .inr _=>(
  some (.inr 8))
def UB (gj:Int):Option (Bool) :=
 some (decide (gj=32))
def AC (text:aD):Option (List aD) :=
 (JC text).bind fun r1 =>
 some r1
def uY (aq:aR) (bw:aR→Option Bool):Option (Bool) :=
 (bw aq).bind fun r7 =>
 some (!r7)
def wZ (ai:List aR) (cg:aR→Option Bool) (s1:Nat):Option ((Nat)⊕((Unit)⊕Int)) :=
 if (s1:Int) < (ai.length:Int) then (
  (ai[s1]?).bind fun x0 =>
  (cg x0).bind fun r0 =>
  if r0 then (
   some (.inr (.inr (s1:Int))))
  else
  some (.inl (s1+1)))
 else
 some (.inr (.inl ()))
def JW (ai:List aR) (cg:aR→Option Bool):Option (Int) :=
 (bF (wZ ai cg) 0).bind fun e23=>match e23 with
 | .inr z=>some z
 | .inl t26 =>
 some (-1)
def JX (ai:List aR) (cg:aR→Option Bool):Option (Bool) :=
 (JW ai cg).bind fun r1 =>
 some (decide (0≤r1))
def sM (bv:List aR) (right:aR→Option Bool):Option (Bool) :=
 (JX bv (fun x0_=>uY x0_ right)).bind fun r5 =>
 some (!r5)
def FG (cy:aR):Option (Bool) :=
 some (decide ((cy.words.length:Int)≤60))
def FH (bp:bL):Option (Bool) :=
 ((
  if (bp.papers.length:Int)≤10 then (
   if (bp.words.length:Int)≤60 then (
    (sM bp.papers (FG)).bind fun r0 =>
    some r0)
   else
   some false)
  else
  some false
 ):Option (Bool)).bind fun t0 =>
 some t0
def uZ (aq:aD) (bw:aD→Option Bool):Option (Bool) :=
 (bw aq).bind fun r1 =>
 some (!r1)
def AD (bv:List aD) (right:aD→Option Bool):Option (Bool) :=
 (MD bv (fun x0_=>uZ x0_ right)).bind fun r5 =>
 some (!r5)
def AE (ed:Int) (low:Int) (high:Int):Option (Bool) :=
 ((
  if low≤ed then (
   some (decide (ed≤high)))
  else
  some false
 ):Option (Bool)).bind fun t4 =>
 some t4
def vA (aq:Int) (bw:Int→Option Bool):Option (Bool) :=
 (bw aq).bind fun r1 =>
 some (!r1)
def FI (bv:List UInt8) (right:Int→Option Bool):Option (Bool) :=
 (zU bv (fun x0_=>vA x0_ right)).bind fun r5 =>
 some (!r5)
def xA (gj:Int):Option (Bool) :=
 ((
  if (33:Int)≤gj then (
   some (decide (gj≤126)))
  else
  some false
 ):Option (Bool)).bind fun t4 =>
 some t4
def mI (ai:aD):Option (Bool) :=
 ((
  (AE (ai.length:Int) 1 20).bind fun r0 =>
  if r0 then (
   bN (ai.length≤1073741824) <|
   (FI ai (xA)).bind fun r1 =>
   some r1)
  else
  some false
 ):Option (Bool)).bind fun t0 =>
 some t0
def AF (cy:aR):Option (Bool) :=
 (AD cy.words (mI)).bind fun r8 =>
 some r8
def FJ (bp:bL):Option (Bool) :=
 ((
  (AD bp.words (mI)).bind fun r0 =>
  if r0 then (
   (sM bp.papers (AF)).bind fun r1 =>
   some r1)
  else
  some false
 ):Option (Bool)).bind fun t21 =>
 some t21
def AG (cy:aR):Option (Bool) :=
 (AE cy.number 1 999).bind fun r7 =>
 some r7
def JY (bp:bL):Option (Bool) :=
 (sM bp.papers (AG)).bind fun r11 =>
 some r11
def sN (bp:bL) (s1:Nat×(List (Int×aR))):Option ((Nat×(List (Int×aR)))⊕((List (Int×aR)))) :=
 if (s1.1:Int) < (bp.papers.length:Int) then (
  (bp.papers[s1.1]?).bind fun x0 =>
  some (.inl ((s1.1+1),(put s1.2 x0.number x0))))
 else
 some (.inr s1.2)
def qS (bp:bL):Option ((List (Int×aR))) :=
 (bF (sN bp) (0,([]:List (Int×aR)))).bind fun e60 =>
 some e60
def JZ (bp:bL):Option (Bool) :=
 (qS bp).bind fun r10 =>
 some (decide ((r10.length:Int)=(bp.papers.length:Int)))
def AH (cy:aR) (bw:List (Int×aR)):Option (Bool) :=
 ((
  if cy.of=0 then (
   some true)
  else
  some (decide (((eJ bw cy.of).getD (⟨0,0,0,0,([]:List aD)⟩:aR)).number=cy.of))
 ):Option (Bool)).bind fun t0 =>
 some t0
def KA (bp:bL):Option (Bool) :=
 (qS bp).bind fun r10 =>
 (sM bp.papers (fun x0_=>AH x0_ r10)).bind fun r0 =>
 some r0
def xB (bp:bL) (r10:(List (Int×aR))) (s1:Nat×Bool×Int×Int×Int×Int×List aD):Option ((Nat×Bool×Int×Int×Int×Int×List aD)⊕((Bool×Int×Int×Int×Int×List aD)⊕((Nat×Bool)⊕(Bool)))) :=
 if s1.2.2.2.1≠0 then (
  bN (-9223372036854775808≤((s1.1:Int)+1)∧((s1.1:Int)+1)≤9223372036854775807) <|
  if (bp.papers.length:Int) < ((s1.1:Int)+1) then (
   Option.map (fun z=>.inr (.inr z)) (
   some (.inr false)))
  else
  some (.inl ((s1.1+1),s1.2.1,((eJ r10 s1.2.2.2.1).getD (⟨0,0,0,0,([]:List aD)⟩:aR)).number,((eJ r10 s1.2.2.2.1).getD (⟨0,0,0,0,([]:List aD)⟩:aR)).of,((eJ r10 s1.2.2.2.1).getD (⟨0,0,0,0,([]:List aD)⟩:aR)).from_,((eJ r10 s1.2.2.2.1).getD (⟨0,0,0,0,([]:List aD)⟩:aR)).to_,((eJ r10 s1.2.2.2.1).getD (⟨0,0,0,0,([]:List aD)⟩:aR)).words)))
 else
 some (.inr (.inl (s1.2.1,s1.2.2.1,s1.2.2.2.1,s1.2.2.2.2.1,s1.2.2.2.2.2.1,s1.2.2.2.2.2.2)))
def xC (bp:bL) (r10:(List (Int×aR))) (s1:Nat×Bool):Option ((Nat×Bool)⊕(Bool)) :=
 if (s1.1:Int) < (bp.papers.length:Int) then (
  (bp.papers[s1.1]?).bind fun x0 =>
  (bF (xB bp r10) (0,s1.2,x0.number,x0.of,x0.from_,x0.to_,x0.words)).bind fun eA1=>match eA1 with
  | .inr z=>some z
  | .inl t222 =>
  some (.inl ((s1.1+1),t222.1)))
 else
 some (.inr s1.2)
def FK (bp:bL):Option (Bool) :=
 (qS bp).bind fun r10 =>
 (bF (xC bp r10) (0,true)).bind fun e84 =>
 some e84
def AI (bp:bL) (number:Int):Option (List aD) :=
 if number=0 then (
  some bp.words)
 else
 (qS bp).bind fun r0 =>
 some (((eJ r0 number).getD (⟨0,0,0,0,([]:List aD)⟩:aR)).words)
def AJ (cy:aR) (bw:bL):Option (Bool) :=
 ((
  if (0:Int)≤cy.from_ then (
   if cy.from_≤cy.to_ then (
    (AI bw cy.of).bind fun r0 =>
    some (decide (cy.to_≤(r0.length:Int))))
   else
   some false)
  else
  some false
 ):Option (Bool)).bind fun t32 =>
 some t32
def KB (bp:bL):Option (Bool) :=
 (sM bp.papers (fun x0_=>AJ x0_ bp)).bind fun r11 =>
 some r11
def KC  : Option (Unit) :=
 some ()
def xD (bp:bL):Option (Int) :=
 (KC).bind fun r10 =>
 (FH bp).bind fun r0 =>
 if r0 then (
  (FJ bp).bind fun r1 =>
  if r1 then (
   (JY bp).bind fun r2 =>
   if r2 then (
    (JZ bp).bind fun r3 =>
    if r3 then (
     (KA bp).bind fun r4 =>
     if r4 then (
      (FK bp).bind fun r5 =>
      if r5 then (
       (KB bp).bind fun r8 =>
       if r8 then (
        some 0)
       else
       some 1)
      else
      some 8)
     else
     some 7)
    else
    some 6)
   else
   some 2)
  else
  some 4)
 else
 some 3
def UC (aa:aI) (jc:List Int) (text:aD):Option (aI⊕Int) :=
 (jJ (!aa.state.moved) 8).bind fun r3=>match r3 with
 | .inl y6=>(
  (AC text).bind fun r8 =>
  (xD (⟨r8,([]:List aR)⟩:bL)).bind fun r0 =>
  (lQ r0).bind fun r1=>match r1 with
  | .inl y0=>(
   some (.inl (⟨({aa.state with motion:=(⟨r8,([]:List aR)⟩:bL),moved:=true}:dE)⟩:aI)))
  | .inr _=>(
   some (.inr r0)))
 | .inr _=>(
  some (.inr 8))
def KD (ai:List aR):Option (List aR) :=
 bN (([]:List aR).length+ai.length≤1073741824) <|
 some (([]:List aR)++ai)
def FL (bv:List aR) (cq:aR):Option (List aR) :=
 (KD bv).bind fun r7 =>
 bN (r7.length+([cq]:List aR).length≤1073741824) <|
 some (r7++([cq]:List aR))
def UD (aa:aI) (bq:List Int) (text:aD):Option (aI⊕Int) :=
 (jJ aa.state.moved 8).bind fun r3=>match r3 with
 | .inl y6=>(
  (bq[0]?).bind fun x9 =>
  (bq[1]?).bind fun x0 =>
  (bq[2]?).bind fun x1 =>
  (bq[3]?).bind fun x2 =>
  (AC text).bind fun r2 =>
  (FL aa.state.motion.papers (⟨x9,x0,x1,x2,r2⟩:aR)).bind fun r0 =>
  (xD (⟨aa.state.motion.words,r0⟩:bL)).bind fun r1 =>
  (lQ r1).bind fun r4=>match r4 with
  | .inl y0=>(
   some (.inl (⟨({aa.state with motion:=(⟨aa.state.motion.words,r0⟩:bL)}:dE)⟩:aI)))
  | .inr _=>(
   some (.inr r1)))
 | .inr _=>(
  some (.inr 8))
def FM (dh:aR) (dl:aR):Option (Bool) :=
 ((
  if dh.number≠dl.number then (
   if dh.of=dl.of then (
    if dh.from_ < dl.to_ then (
     some (decide (dl.from_ < dh.to_)))
    else
    some false)
   else
   some false)
  else
  some false
 ):Option (Bool)).bind fun t0 =>
 some t0
def xE (choice:List Int) (r10:(List (Int×aR))) (s1:Nat):Option ((Nat)⊕((Unit)⊕Int)) :=
 if (s1:Int) < (choice.length:Int) then (
  (choice[s1]?).bind fun x0 =>
  ((
   if ((eJ r10 x0).getD (⟨0,0,0,0,([]:List aD)⟩:aR)).of≠0 then (
    (uX choice (((eJ r10 x0).getD (⟨0,0,0,0,([]:List aD)⟩:aR)).of)).bind fun r0 =>
    some (!r0))
   else
   some false
  ):Option (Bool)).bind fun t0 =>
  if t0 then (
   some (.inr (.inr 10)))
  else
  some (.inl (s1+1)))
 else
 some (.inr (.inl ()))
def xF (choice:List Int) (r10:(List (Int×aR))) (x0:Int) (s1:Nat):Option ((Nat)⊕((Unit)⊕((Nat)⊕((Unit)⊕Int)))) :=
 if (s1:Int) < (choice.length:Int) then (
  (choice[s1]?).bind fun x1 =>
  (FM ((eJ r10 x0).getD (⟨0,0,0,0,([]:List aD)⟩:aR)) ((eJ r10 x1).getD (⟨0,0,0,0,([]:List aD)⟩:aR))).bind fun r0 =>
  if r0 then (
   some (.inr (.inr (.inr (.inr 9)))))
  else
  some (.inl (s1+1)))
 else
 some (.inr (.inl ()))
def xG (choice:List Int) (r10:(List (Int×aR))) (s1:Nat):Option ((Nat)⊕((Unit)⊕Int)) :=
 if (s1:Int) < (choice.length:Int) then (
  (choice[s1]?).bind fun x0 =>
  (bF (xF choice r10 x0) 0).bind fun eA1=>match eA1 with
  | .inr z=>some z
  | .inl t0 =>
  some (.inl (s1+1)))
 else
 some (.inr (.inl ()))
def FN (bp:bL) (choice:List Int):Option (Int) :=
 (qS bp).bind fun r10 =>
 (bF (xE choice r10) 0).bind fun e48=>match e48 with
 | .inr z=>some z
 | .inl t0 =>
 (bF (xG choice r10) 0).bind fun eA1=>match eA1 with
 | .inr z=>some z
 | .inl t1 =>
 some 0
def sP (choice:List Int) (r0:(List (Int×aR))) (s1:Nat):Option ((Nat)⊕((Unit)⊕Int)) :=
 if (s1:Int) < (choice.length:Int) then (
  (choice[s1]?).bind fun x0 =>
  ((
   if ((eJ r0 x0).getD (⟨0,0,0,0,([]:List aD)⟩:aR)).number≠x0 then (
    some true)
   else
   if x0=0 then (
    some true)
   else
   if 0 < (s1:Int) then (
    (choice[((s1:Int) - 1).toNat]?).bind fun x1 =>
    some (decide (x0≤x1)))
   else
   some false
  ):Option (Bool)).bind fun t0 =>
  if t0 then (
   some (.inr (.inr 2)))
  else
  some (.inl (s1+1)))
 else
 some (.inr (.inl ()))
def FO (bp:bL) (choice:List Int):Option (Int) :=
 (xD bp).bind fun r10 =>
 if r10≠0 then (
  some r10)
 else
 (qS bp).bind fun r0 =>
 (bF (sP choice r0) 0).bind fun e67=>match e67 with
 | .inr z=>some z
 | .inl t0 =>
 (FN bp choice).bind fun r1 =>
 some r1
def qA (bv:List Int) (s1:Nat):Option ((Nat)⊕((Unit)⊕Int)) :=
 if (s1:Int) < (bv.length:Int) then (
  (bv[s1]?).bind fun x0 =>
  if x0≠0 then (
   some (.inr (.inr x0)))
  else
  some (.inl (s1+1)))
 else
 some (.inr (.inl ()))
def FP (bv:List Int):Option (Int) :=
 (bF (qA bv) 0).bind fun e16=>match e16 with
 | .inr z=>some z
 | .inl t0 =>
 some 0
def vB (dh:aR) (dl:aR):Option (Int) :=
 bN (-9223372036854775808≤(dh.from_ - dl.from_)∧(dh.from_ - dl.from_)≤9223372036854775807) <|
 bN (-9223372036854775808≤(dh.to_ - dl.to_)∧(dh.to_ - dl.to_)≤9223372036854775807) <|
 bN (-9223372036854775808≤(dh.number - dl.number)∧(dh.number - dl.number)≤9223372036854775807) <|
 (FP ([(dh.from_ - dl.from_),(dh.to_ - dl.to_),(dh.number - dl.number)]:List Int)).bind fun r24 =>
 some r24
def FQ (bw:bL) (gb:Int) (s1:Nat×List aR):Option ((Nat×List aR)⊕(List aR)) :=
 if (s1.1:Int) < (bw.papers.length:Int) then (
  (bw.papers[s1.1]?).bind fun x0 =>
  ((
   if x0.of=gb then (
    bN (s1.2.length+1≤1073741824) <|
    some (s1.2++[x0]))
   else
   some s1.2
  ):Option (List aR)).bind fun t0 =>
  some (.inl ((s1.1+1),t0)))
 else
 some (.inr s1.2)
def FR (eA1:List aR) (l0:List aR) (yield:aR→Option Bool) (s1:Nat):Option ((Nat)⊕((Unit)⊕Unit)) :=
 if (s1:Int) < (eA1.length:Int) then (
  (l0[s1]?).bind fun x0 =>
  (yield x0).bind fun r0 =>
  if r0 then (
   some (.inl (s1+1)))
  else
  some (.inr (.inr ())))
 else
 some (.inr (.inl ()))
def UE (yield:aR→Option Bool) (bw:bL) (gb:Int):Option (Unit) :=
 (bF (FQ bw gb) (0,([]:List aR))).bind fun eA1 =>
 bN (eA1.Nodup) <|
 (iW (vB) eA1).bind fun l0 =>
 (bF (FR eA1 l0 yield) 0).bind fun eB1=>match eB1 with
 | .inr z=>some z
 | .inl t0 =>
 some ()
def sQ (bp:bL) (s2:Int×List aD×List bG) (s1:Nat×List aR):Option ((Nat×List aR)⊕(List aR)) :=
 if (s1.1:Int) < (bp.papers.length:Int) then (
  (bp.papers[s1.1]?).bind fun x0 =>
  ((
   if x0.of=s2.1 then (
    bN (s1.2.length+1≤1073741824) <|
    some (s1.2++[x0]))
   else
   some s1.2
  ):Option (List aR)).bind fun t0 =>
  some (.inl ((s1.1+1),t0)))
 else
 some (.inr s1.2)
def xH (x1:aR) (r0:List aD) (s2:Int×List aD×List bG) (s1:Int×List aD×List bG):Option ((Int×List aD×List bG)⊕(Int×List aD×List bG)) :=
 if s1.1 < x1.from_ then (
  bN (0≤s1.1) <|
  (r0[s1.1.toNat]?).bind fun x0 =>
  bN (s1.2.1.length+([x0]:List aD).length≤1073741824) <|
  bN (s1.2.2.length+([(⟨s2.1,s1.1⟩:bG)]:List bG).length≤1073741824) <|
  bN (-9223372036854775808≤(s1.1+1)∧(s1.1+1)≤9223372036854775807) <|
  some (.inl ((s1.1+1),(s1.2.1++([x0]:List aD)),(s1.2.2++([(⟨s2.1,s1.1⟩:bG)]:List bG)))))
 else
 some (.inr (s1.1,s1.2.1,s1.2.2))
def xI (eB1:List aR) (l0:List aR) (choice:List Int) (r1:List aD) (s2:Int×List aD×List bG) (R0_:(Int×List aD×List bG)→Option (List aD×List bG)) (s1:Nat×Int×List aD×List bG):Option ((Nat×Int×List aD×List bG)⊕(Int×List aD×List bG)) :=
 if (s1.1:Int) < (eB1.length:Int) then (
  (l0[s1.1]?).bind fun x0 =>
  ((
   (uX choice x0.number).bind fun r2 =>
   ((
    if r2 then (
     ((
      (bF (xH x0 r1 s2) (s1.2.1,s1.2.2.1,s1.2.2.2)).bind fun eA1 =>
      some (eA1.1,eA1.2.1,eA1.2.2)
     ):Option (Int×List aD×List bG)).bind fun t2 =>
     (R0_ (x0.number,t2.2.1,t2.2.2)).bind fun r0 =>
     some (x0.to_,r0.1,r0.2))
    else
    some (s1.2.1,s1.2.2.1,s1.2.2.2)
   ):Option (Int×List aD×List bG)).bind fun t0 =>
   some (t0.1,t0.2.1,t0.2.2)
  ):Option (Int×List aD×List bG)).bind fun t1 =>
  some (.inl ((s1.1+1),t1.1,t1.2.1,t1.2.2)))
 else
 some (.inr (s1.2.1,s1.2.2.1,s1.2.2.2))
def xJ (r0:List aD) (s2:Int×List aD×List bG) (s1:Int×List aD×List bG):Option ((Int×List aD×List bG)⊕(Int×List aD×List bG)) :=
 if s1.1 < (r0.length:Int) then (
  bN (0≤s1.1) <|
  (r0[s1.1.toNat]?).bind fun x0 =>
  bN (s1.2.1.length+([x0]:List aD).length≤1073741824) <|
  bN (s1.2.2.length+([(⟨s2.1,s1.1⟩:bG)]:List bG).length≤1073741824) <|
  bN (-9223372036854775808≤(s1.1+1)∧(s1.1+1)≤9223372036854775807) <|
  some (.inl ((s1.1+1),(s1.2.1++([x0]:List aD)),(s1.2.2++([(⟨s2.1,s1.1⟩:bG)]:List bG)))))
 else
 some (.inr (s1.1,s1.2.1,s1.2.2))
def sR (bp:bL) (choice:List Int) (R0_:(Int×List aD×List bG)→Option (List aD×List bG)) (s1:Int×List aD×List bG):Option (List aD×List bG) :=
 (AI bp s1.1).bind fun r0 =>
 ((
  (bF (sQ bp s1) (0,([]:List aR))).bind fun eA1 =>
  bN (eA1.Nodup) <|
  (iW (vB) eA1).bind fun l0 =>
  (bF (xI eA1 l0 choice r0 s1 R0_) (0,0,s1.2.1,s1.2.2)).bind fun eB1 =>
  some (eB1.1,eB1.2.1,eB1.2.2)
 ):Option (Int×List aD×List bG)).bind fun t0 =>
 ((
  (bF (xJ r0 s1) (t0.1,t0.2.1,t0.2.2)).bind fun eC1 =>
  some (eC1.1,eC1.2.1,eC1.2.2)
 ):Option (Int×List aD×List bG)).bind fun t1 =>
 some (t1.2.1,t1.2.2)
def lE (bp:bL) (choice:List Int):Nat→(Int×List aD×List bG)→Option (List aD×List bG)
 | 0,_=>none
 | n_+1,s1=>sR bp choice (lE bp choice n_) s1
def AK (bp:bL) (choice:List Int):Option (List aD×List bG×Int) :=
 (FO bp choice).bind fun r0 =>
 if r0≠0 then (
  some (([]:List aD),([]:List bG),r0))
 else
 (vU (fun n_=>lE bp choice n_ (0,([]:List aD),([]:List bG)))).bind fun r1 =>
 some (r1.1,r1.2,0)
def UF (aa:aI) (bq:List Int) (cw:aD):Option (aI⊕Int) :=
 (jJ aa.state.moved 8).bind fun r3=>match r3 with
 | .inl y6=>(
  (bq[0]?).bind fun x8 =>
  (sJ aa.state.choice x8).bind fun r0 =>
  (jJ (!r0.2) 6).bind fun r4=>match r4 with
  | .inl y0=>(
   (qR aa.state.choice).bind fun r1 =>
   bN (0≤r0.1) <|
   bN (r0.1.toNat≤r1.length) <|
   bN (r1.length+([x8]:List Int).length≤1073741824) <|
   (AK aa.state.motion (r1.take r0.1.toNat++([x8]:List Int)++r1.drop r0.1.toNat)).bind fun r2 =>
   (lQ r2.2.2).bind fun r5=>match r5 with
   | .inl y1=>(
    some (.inl (⟨({aa.state with choice:=(r1.take r0.1.toNat++([x8]:List Int)++r1.drop r0.1.toNat)}:dE)⟩:aI)))
   | .inr _=>(
    some (.inr r2.2.2)))
  | .inr _=>(
   some (.inr 6)))
 | .inr _=>(
  some (.inr 8))
def UG (aa:aI) (bq:List Int) (cw:aD):Option (aI⊕Int) :=
 ((
  if aa.state.moved then (
   (jJ (!aa.state.bound) 8).bind fun r22=>match r22 with
   | .inl y1=>(
    some (.inl ()))
   | .inr _=>(
    some (.inr (.inr 8))))
  else
  (jJ false 8).bind fun r1=>match r1 with
  | .inl y2=>(
   some (.inl ()))
  | .inr _=>(
   some (.inr (.inr 8)))
 ):Option ((Unit)⊕(aI⊕Int))).bind fun t0=>match t0 with
 | .inr z=>some z
 | .inl t1 =>
 (AK aa.state.motion aa.state.choice).bind fun r0 =>
 (lQ r0.2.2).bind fun r2=>match r2 with
 | .inl y3=>(
  (SZ r0.1 [32]).bind fun r3 =>
  (QW aa bq r3).bind fun r4=>match r4 with
  | .inl y0=>(
   some (.inl (⟨({y0.state with motion:=(⟨([]:List aD),([]:List aR)⟩:bL),moved:=false,choice:=([]:List Int)}:dE)⟩:aI)))
  | .inr y0=>(
   some (.inr y0)))
 | .inr _=>(
  some (.inr r0.2.2))
def UH  : Option ((List (aD×cQ))) :=
 some (put (put (put (put (put (put (put (put (put (put (put (put (put (put (put (put (put ([]:List (aD×cQ)) [100,97,121] (⟨1,false,(some 70)⟩:cQ)) [115,97,121] (⟨1,true,(some 71)⟩:cQ)) [98,105,110,100] (⟨3,false,(some 72)⟩:cQ)) [99,104,97,110,103,101] (⟨2,true,(some 73)⟩:cQ)) [114,101,109,111,118,101] (⟨2,false,(some 74)⟩:cQ)) [97,100,100] (⟨3,true,(some 75)⟩:cQ)) [99,105,116,101] (⟨2,false,(some 76)⟩:cQ)) [104,105,100,101] (⟨3,false,(some 77)⟩:cQ)) [104,111,117,115,101] (⟨1,false,(some 78)⟩:cQ)) [100,105,118,105,100,101] (⟨4,false,(some 79)⟩:cQ)) [116,101,108,108] (⟨3,false,(some 80)⟩:cQ)) [112,97,105,114] (⟨2,false,(some 81)⟩:cQ)) [114,101,115,117,108,116] (⟨0,false,(some 82)⟩:cQ)) [109,111,118,101] (⟨0,true,(some 83)⟩:cQ)) [112,97,112,101,114] (⟨4,true,(some 84)⟩:cQ)) [97,100,111,112,116] (⟨1,false,(some 85)⟩:cQ)) [111,114,100,101,114] (⟨1,false,(some 86)⟩:cQ))
def UI (ai:aD):Option (Int⊕Unit) :=
 (YC ai).bind fun r1 =>
 ((
  if r1.2 then (
   (jJ false 4).bind fun r0=>match r0 with
   | .inl y0=>(
    some (.inl ()))
   | .inr _=>(
    some (.inr (.inr ()))))
  else
  (YD r1.1).bind fun r2 =>
  if r2=ai then (
   (oW r1.1 (-999999999) 999999999).bind fun r3 =>
   (jJ r3 4).bind fun r4=>match r4 with
   | .inl y1=>(
    some (.inl ()))
   | .inr _=>(
    some (.inr (.inr ()))))
  else
  (jJ false 4).bind fun r5=>match r5 with
  | .inl y2=>(
   some (.inl ()))
  | .inr _=>(
   some (.inr (.inr ())))
 ):Option ((Unit)⊕(Int⊕Unit))).bind fun t34=>match t34 with
 | .inr z=>some z
 | .inl t37 =>
 some (.inl r1.1)
def QX (q:Option Nat) (aa:aI) (bq:List Int) (cw:aD):Option (aI⊕Int) :=
 if q=some 70 then TC aa bq cw
 else if q=some 71 then QW aa bq cw
 else if q=some 72 then TF aa bq cw
 else if q=some 73 then TM aa bq cw
 else if q=some 74 then TN aa bq cw
 else if q=some 75 then TO aa bq cw
 else if q=some 76 then TQ aa bq cw
 else if q=some 77 then TT aa bq cw
 else if q=some 78 then TU aa bq cw
 else if q=some 79 then TV aa bq cw
 else if q=some 80 then TW aa bq cw
 else if q=some 81 then TX aa bq cw
 else if q=some 82 then UA aa bq cw
 else if q=some 83 then UC aa bq cw
 else if q=some 84 then UD aa bq cw
 else if q=some 85 then UF aa bq cw
 else if q=some 86 then UG aa bq cw
 else none
def FS (r7:(List (aD×cQ))) (r4:aD×aD×Bool) (aa:aI) (s1:Nat×aD×Bool×List Int):Option ((Nat×aD×Bool×List Int)⊕((aD×Bool×List Int)⊕(aI×Int))) :=
 if (s1.1:Int) < ((eJ r7 r4.1).getD (⟨0,false,(none:Option Nat)⟩:cQ)).many then (
  (jJ s1.2.2.1 4).bind fun r1=>match r1 with
  | .inl y1=>(
   (QS s1.2.1 [32]).bind fun r0 =>
   (UI r0.1).bind fun r2=>match r2 with
   | .inl y0=>(
    bN (s1.2.2.2.length+1≤1073741824) <|
    bN (-9223372036854775808≤((s1.1:Int)+1)∧((s1.1:Int)+1)≤9223372036854775807) <|
    some (.inl ((s1.1+1),r0.2.1,r0.2.2,(s1.2.2.2++[y0]))))
   | .inr _=>(
    some (.inr (.inr (aa,4)))))
  | .inr _=>(
   some (.inr (.inr (aa,4)))))
 else
 some (.inr (.inl (s1.2.1,s1.2.2.1,s1.2.2.2)))
def MH (aa:aI) (text:aD):Option (aI×Int) :=
 (QS text [32]).bind fun r4 =>
 (UH).bind fun r7 =>
 (jJ ((eJ r7 r4.1).isSome) 4).bind fun r0=>match r0 with
 | .inl y1=>(
  (bF (FS r7 r4 aa) (0,r4.2.1,r4.2.2,([]:List Int))).bind fun e99=>match e99 with
  | .inr z=>some z
  | .inl t102 =>
  (jJ (t102.2.1==((eJ r7 r4.1).getD (⟨0,false,(none:Option Nat)⟩:cQ)).text) 4).bind fun r1=>match r1 with
  | .inl y2=>(
   (QX (((eJ r7 r4.1).getD (⟨0,false,(none:Option Nat)⟩:cQ)).do_) aa t102.2.2 t102.1).bind fun r2=>match r2 with
   | .inl y0=>(
    some (y0,0))
   | .inr y0=>(
    some (aa,y0)))
  | .inr _=>(
   some (aa,4)))
 | .inr _=>(
  some (aa,4))
def rJ (lines:List aD) (s:Nat×aI×List Int):Option ((Nat×aI×List Int)⊕(aI×List Int)) :=
 if (s.1:Int) < (lines.length:Int) then (
  (lines[s.1]?).bind fun x =>
  (MH s.2.1 x).bind fun r =>
  bN (s.2.2.length+1≤1073741824) <|
  some (.inl ((s.1+1),r.1,(s.2.2++[r.2]))))
 else
 some (.inr s.2)
def OZ (lines:List aD):Option (aI×List Int) :=
 (bF (rJ lines) (0,(⟨(⟨0,0,(⟨0,0,0,0,([]:List eB)⟩:bX),false,([]:List aP),([]:List gH),([]:List aD),(⟨([]:List aD),([]:List aR)⟩:bL),false,([]:List Int),(⟨0,(⟨([]:List Int),([]:List Int)⟩:bJ),(⟨([]:List Int),([]:List Int)⟩:bJ),([]:List eY),([]:List dU),0,0,0,0⟩:aV),false,([]:List UInt8)⟩:dE)⟩:aI),([]:List Int))).bind fun e =>
 some e
def m8 (lines:List aD):Option (dE×List Int×Int) :=
 (m19 lines).bind fun r2 =>
 if r2≠0 then (
  some ((⟨0,0,(⟨0,0,0,0,([]:List eB)⟩:bX),false,([]:List aP),([]:List gH),([]:List aD),(⟨([]:List aD),([]:List aR)⟩:bL),false,([]:List Int),(⟨0,(⟨([]:List Int),([]:List Int)⟩:bJ),(⟨([]:List Int),([]:List Int)⟩:bJ),([]:List eY),([]:List dU),0,0,0,0⟩:aV),false,([]:List UInt8)⟩:dE),([]:List Int),r2))
 else
 (OZ lines).bind fun r11 =>
 some (r11.1.state,r11.2,0)
def rK (turned:Bool) (s1:Int×Int×dD):Option ((Int×Int×dD)⊕(dD)) :=
 if 0≤s1.2.1 then (
  bN (0≤s1.1∧0 < (8:Int)) <|
  ((
   if turned then (
    some (7 - (s1.1%8)))
   else
   some (s1.1%8)
  ):Option (Int)).bind fun t0 =>
  bN (-9223372036854775808≤(48+t0)∧(48+t0)≤9223372036854775807) <|
  bN (0≤(48+t0)∧(48+t0)≤255) <|
  bN (s1.2.1 < 6) <|
  bN (0≤s1.1∧s1.1≤9223372036854775807∧0 < (8:Int)) <|
  bN (-9223372036854775808≤(s1.2.1 - 1)∧(s1.2.1 - 1)≤9223372036854775807) <|
  some (.inl ((s1.1/8),(s1.2.1 - 1),(dD.set s1.2.2 s1.2.1.toNat (48+t0)))))
 else
 some (.inr s1.2.2)
def KE (ed:Int) (many:Int) (turned:Bool):Option (aD) :=
 bN (-9223372036854775808≤(many - 1)∧(many - 1)≤9223372036854775807) <|
 (bF (rK turned) (ed,(many - 1),dD.zero)).bind fun e46 =>
 bN (∀ v∈dD.vals e46,0≤v∧v≤255) <|
 bN (0≤many) <|
 bN (many.toNat≤6) <|
 some (((dD.vals e46).map CS).take many.toNat)
def rL (ai:aD) (s1:Nat×Int):Option ((Nat×Int)⊕(Int)) :=
 if (s1.1:Int) < (ai.length:Int) then (
  (ai[s1.1]?).bind fun x0 =>
  bN (-9223372036854775808≤(29*s1.2)∧(29*s1.2)≤9223372036854775807) <|
  bN (-9223372036854775808≤((29*s1.2)+(x0.toNat:Int))∧((29*s1.2)+(x0.toNat:Int))≤9223372036854775807) <|
  bN (-9223372036854775808≤(((29*s1.2)+(x0.toNat:Int))+3)∧(((29*s1.2)+(x0.toNat:Int))+3)≤9223372036854775807) <|
  bN (0≤(((29*s1.2)+(x0.toNat:Int))+3)∧0 < (262139:Int)) <|
  some (.inl ((s1.1+1),((((29*s1.2)+(x0.toNat:Int))+3)%262139))))
 else
 some (.inr s1.2)
def MI (ai:aD):Option (aD) :=
 bN (ai.length≤1073741824) <|
 (bF (rL ai) (0,11)).bind fun e47 =>
 (KE (ai.length:Int) 4 false).bind fun r0 =>
 bN ([91].length+r0.length≤1073741824) <|
 (KE (ai.length:Int) 4 true).bind fun r1 =>
 bN (([91]++r0).length+r1.length≤1073741824) <|
 (KE e47 6 false).bind fun r2 =>
 bN ((([91]++r0)++r1).length+r2.length≤1073741824) <|
 bN (((([91]++r0)++r1)++r2).length+[93].length≤1073741824) <|
 bN ((((([91]++r0)++r1)++r2)++[93]).length+ai.length≤1073741824) <|
 bN (((((([91]++r0)++r1)++r2)++[93])++ai).length+[10].length≤1073741824) <|
 some (((((([91]++r0)++r1)++r2)++[93])++ai)++[10])
def rM (lines:List aD) (s1:Nat×List UInt8):Option ((Nat×List UInt8)⊕(List UInt8)) :=
 if (s1.1:Int) < (lines.length:Int) then (
  (lines[s1.1]?).bind fun x0 =>
  (MI x0).bind fun r0 =>
  bN (s1.2.length+r0.length≤1073741824) <|
  some (.inl ((s1.1+1),(s1.2++r0))))
 else
 some (.inr s1.2)
def QY (lines:List aD):Option (List UInt8) :=
 (bF (rM lines) (0,([]:List UInt8))).bind fun e64 =>
 some e64
def QZ (lines:List aD):Option (List UInt8×Int) :=
 (m19 lines).bind fun r1 =>
 if r1≠0 then (
  some (([]:List UInt8),r1))
 else
 (QY lines).bind fun r10 =>
 some (r10,0)
def MJ (dh:List aD) (dl:List aD) (s1:Nat):Option ((Nat)⊕((Unit)⊕Bool)) :=
 if (s1:Int) < (dh.length:Int) then (
  (dh[s1]?).bind fun x0 =>
  (dl[s1]?).bind fun x1 =>
  if x0≠x1 then (
   some (.inr (.inr false)))
  else
  some (.inl (s1+1)))
 else
 some (.inr (.inl ()))
def m18 (dh:List aD) (dl:List aD):Option (Bool) :=
 if (dh.length:Int)≠(dl.length:Int) then (
  some false)
 else
 (bF (MJ dh dl) 0).bind fun e31=>match e31 with
 | .inr z=>some z
 | .inl t34 =>
 some true
def m7  : Option (Bool) :=
 (m17).bind fun r1 =>
 (m8 r1).bind fun r8 =>
 (QZ ([[97]]:List aD)).bind fun r0 =>
 ((
  if r8.2.2=0 then (
   if r0.2=0 then (
    if (r8.2.1.length:Int)=18 then (
     (r8.2.1[11]?).bind fun x0 =>
     if x0=10 then (
      (r8.2.1[17]?).bind fun x1 =>
      if x1=0 then (
       if r8.1.bound then (
        if (r8.1.results.length:Int)=1 then (
         (r8.1.results[0]?).bind fun x2 =>
         if (x2.toNat:Int)=1 then (
          (m18 r8.1.cites ([[118,111,108,46,32,51,44,32,99,111,108,46,32,49,44,32,108,46,32,50]]:List aD)).bind fun r2 =>
          if r2 then (
           some (decide (r0.1=[91,48,48,48,49,55,55,55,54,48,48,48,54,52,51,93,97,10])))
          else
          some false)
         else
         some false)
        else
        some false)
       else
       some false)
      else
      some false)
     else
     some false)
    else
    some false)
   else
   some false)
  else
  some false
 ):Option (Bool)).bind fun t0 =>
 some t0
def m9 (bv:List aD):Option (List aD) :=
 bN (([]:List aD).length+bv.length≤1073741824) <|
 some (([]:List aD)++bv)
def yV (errors:List Int) (lines:List aD) (s1:Nat×List aD):Option ((Nat×List aD)⊕(List aD)) :=
 ((
  if (s1.1:Int) < (errors.length:Int) then (
   some (decide ((s1.1:Int) < (lines.length:Int))))
  else
  some false
 ):Option (Bool)).bind fun t0 =>
 if t0 then (
  (errors[s1.1]?).bind fun x0 =>
  ((
   if x0=0 then (
    (lines[s1.1]?).bind fun x1 =>
    bN (s1.2.length+1≤1073741824) <|
    some (s1.2++[x1]))
   else
   some s1.2
  ):Option (List aD)).bind fun t1 =>
  bN (-9223372036854775808≤((s1.1:Int)+1)∧((s1.1:Int)+1)≤9223372036854775807) <|
  some (.inl ((s1.1+1),t1)))
 else
 some (.inr s1.2)
def UJ (lines:List aD) (errors:List Int):Option (List aD) :=
 (bF (yV errors lines) (0,([]:List aD))).bind fun eA1 =>
 some eA1
def rN (bv:List UInt8) (s1:Nat×Int):Option ((Nat×Int)⊕((Int)⊕Int)) :=
 if (s1.1:Int) < (bv.length:Int) then (
  (bv[s1.1]?).bind fun x0 =>
  ((
   if (x0.toNat:Int) < 48 then (
    some true)
   else
   some (decide (55 < (x0.toNat:Int)))
  ):Option (Bool)).bind fun t90 =>
  if t90 then (
   some (.inr (.inr (-1))))
  else
  bN (-9223372036854775808≤(8*s1.2)∧(8*s1.2)≤9223372036854775807) <|
  bN (-9223372036854775808≤((8*s1.2)+(((x0.toNat:Int) - 48)%256))∧((8*s1.2)+(((x0.toNat:Int) - 48)%256))≤9223372036854775807) <|
  some (.inl ((s1.1+1),((8*s1.2)+(((x0.toNat:Int) - 48)%256)))))
 else
 some (.inr (.inl s1.2))
def MK (bv:List UInt8):Option (Int) :=
 (bF (rN bv) (0,0)).bind fun e47=>match e47 with
 | .inr z=>some z
 | .inl t0 =>
 some t0
def ML (bw:List UInt8) (yield:Int→aD→Option Bool) (s1:Int):Option ((Int)⊕((Unit)⊕Unit)) :=
 bN (-9223372036854775808≤((bw.length:Int) - s1)∧((bw.length:Int) - s1)≤9223372036854775807) <|
 if 17≤((bw.length:Int) - s1) then (
  bN (-9223372036854775808≤(s1+1)∧(s1+1)≤9223372036854775807) <|
  bN (-9223372036854775808≤((s1+1)+4)∧((s1+1)+4)≤9223372036854775807) <|
  bN (0≤(s1+1)) <|
  bN (0≤((s1+1)+4)) <|
  bN ((s1+1).toNat≤((s1+1)+4).toNat∧((s1+1)+4).toNat≤bw.length) <|
  (MK ((bw.drop ((s1+1).toNat)).take (((s1+1)+4).toNat - ((s1+1).toNat)))).bind fun r0 =>
  ((
   (oW r0 0 400).bind fun r1 =>
   if r1 then (
    bN (-9223372036854775808≤(17+r0)∧(17+r0)≤9223372036854775807) <|
    some (decide (((bw.length:Int) - s1) < (17+r0))))
   else
   some true
  ):Option (Bool)).bind fun t0 =>
  if t0 then (
   some (.inr (.inr ())))
  else
  bN (-9223372036854775808≤(s1+17)∧(s1+17)≤9223372036854775807) <|
  bN (-9223372036854775808≤((s1+17)+r0)∧((s1+17)+r0)≤9223372036854775807) <|
  bN (-9223372036854775808≤(s1+16)∧(s1+16)≤9223372036854775807) <|
  bN (-9223372036854775808≤(((s1+17)+r0) - 1)∧(((s1+17)+r0) - 1)≤9223372036854775807) <|
  bN (0≤(s1+16)) <|
  bN (0≤(((s1+17)+r0) - 1)) <|
  bN ((s1+16).toNat≤(((s1+17)+r0) - 1).toNat∧(((s1+17)+r0) - 1).toNat≤bw.length) <|
  ((
   (MI ((bw.drop ((s1+16).toNat)).take ((((s1+17)+r0) - 1).toNat - ((s1+16).toNat)))).bind fun r2 =>
   bN (0≤s1) <|
   bN (0≤((s1+17)+r0)) <|
   bN (s1.toNat≤((s1+17)+r0).toNat∧((s1+17)+r0).toNat≤bw.length) <|
   if r2≠((bw.drop s1.toNat).take (((s1+17)+r0).toNat - s1.toNat)) then (
    some true)
   else
   (yield ((s1+17)+r0) ((bw.drop ((s1+16).toNat)).take ((((s1+17)+r0) - 1).toNat - ((s1+16).toNat)))).bind fun r3 =>
   some (!r3)
  ):Option (Bool)).bind fun t1 =>
  if t1 then (
   some (.inr (.inr ())))
  else
  some (.inl ((s1+17)+r0)))
 else
 some (.inr (.inl ()))
def m53 (yield:Int→aD→Option Bool) (bw:List UInt8):Option (Unit) :=
 (bF (ML bw yield) 0).bind fun eA1=>match eA1 with
 | .inr z=>some z
 | .inl t0 =>
 some ()
def kR (aa:List UInt8) (s1:Int×Int×List aD):Option ((Int×Int×List aD)⊕((Int×List aD)⊕((Int×List aD)⊕(Int×List aD)))) :=
 bN (-9223372036854775808≤((aa.length:Int) - s1.1)∧((aa.length:Int) - s1.1)≤9223372036854775807) <|
 if 17≤((aa.length:Int) - s1.1) then (
  bN (-9223372036854775808≤(s1.1+1)∧(s1.1+1)≤9223372036854775807) <|
  bN (-9223372036854775808≤((s1.1+1)+4)∧((s1.1+1)+4)≤9223372036854775807) <|
  bN (0≤(s1.1+1)) <|
  bN (0≤((s1.1+1)+4)) <|
  bN ((s1.1+1).toNat≤((s1.1+1)+4).toNat∧((s1.1+1)+4).toNat≤aa.length) <|
  (MK ((aa.drop ((s1.1+1).toNat)).take (((s1.1+1)+4).toNat - ((s1.1+1).toNat)))).bind fun r0 =>
  ((
   (oW r0 0 400).bind fun r1 =>
   if r1 then (
    bN (-9223372036854775808≤(17+r0)∧(17+r0)≤9223372036854775807) <|
    some (decide (((aa.length:Int) - s1.1) < (17+r0))))
   else
   some true
  ):Option (Bool)).bind fun t1 =>
  if t1 then (
   some (.inr (.inr (.inl (s1.2.1,s1.2.2)))))
  else
  bN (-9223372036854775808≤(s1.1+17)∧(s1.1+17)≤9223372036854775807) <|
  bN (-9223372036854775808≤((s1.1+17)+r0)∧((s1.1+17)+r0)≤9223372036854775807) <|
  bN (-9223372036854775808≤(s1.1+16)∧(s1.1+16)≤9223372036854775807) <|
  bN (-9223372036854775808≤(((s1.1+17)+r0) - 1)∧(((s1.1+17)+r0) - 1)≤9223372036854775807) <|
  bN (0≤(s1.1+16)) <|
  bN (0≤(((s1.1+17)+r0) - 1)) <|
  bN ((s1.1+16).toNat≤(((s1.1+17)+r0) - 1).toNat∧(((s1.1+17)+r0) - 1).toNat≤aa.length) <|
  (MI ((aa.drop ((s1.1+16).toNat)).take ((((s1.1+17)+r0) - 1).toNat - ((s1.1+16).toNat)))).bind fun r2 =>
  bN (0≤s1.1) <|
  bN (0≤((s1.1+17)+r0)) <|
  bN (s1.1.toNat≤((s1.1+17)+r0).toNat∧((s1.1+17)+r0).toNat≤aa.length) <|
  if r2≠((aa.drop s1.1.toNat).take (((s1.1+17)+r0).toNat - s1.1.toNat)) then (
   some (.inr (.inr (.inl (s1.2.1,s1.2.2)))))
  else
  ((
   if (s1.2.2.length:Int)=60 then (
    some (.inl ()))
   else
   bN (s1.2.2.length+1≤1073741824) <|
   some (.inr (((s1.1+17)+r0),(s1.2.2++[((aa.drop ((s1.1+16).toNat)).take ((((s1.1+17)+r0) - 1).toNat - ((s1.1+16).toNat)))])))
  ):Option ((Unit)⊕(Int×List aD))).bind fun t2=>match t2 with
  | .inl t3=>(
   some (.inr (.inr (.inr (s1.2.1,s1.2.2)))))
  | .inr t0=>(
   some (.inl (((s1.1+17)+r0),t0.1,t0.2))))
 else
 some (.inr (.inl (s1.2.1,s1.2.2)))
def m15 (aa:List UInt8):Option (List aD×Int) :=
 ((
  (bF (kR aa) (0,0,([]:List aD))).bind fun eA1=>match eA1 with
  | .inr z=>some z
  | .inl t0 =>
  some (.inl (t0.1,t0.2))
 ):Option ((Int×List aD)⊕(Int×List aD))).bind fun t3=>match t3 with
 | .inl t1=>(
  some (t1.2,t1.1))
 | .inr t2=>(
  some (t2.2,t2.1))
def yW (aa:List UInt8) (s1:Int×Int×List aD):Option ((Int×Int×List aD)⊕((Int×List aD)⊕((Int×List aD)⊕(Int×List aD)))) :=
 bN (-9223372036854775808≤((aa.length:Int) - s1.1)∧((aa.length:Int) - s1.1)≤9223372036854775807) <|
 if 17≤((aa.length:Int) - s1.1) then (
  bN (-9223372036854775808≤(s1.1+1)∧(s1.1+1)≤9223372036854775807) <|
  bN (-9223372036854775808≤((s1.1+1)+4)∧((s1.1+1)+4)≤9223372036854775807) <|
  bN (0≤(s1.1+1)) <|
  bN (0≤((s1.1+1)+4)) <|
  bN ((s1.1+1).toNat≤((s1.1+1)+4).toNat∧((s1.1+1)+4).toNat≤aa.length) <|
  (MK ((aa.drop ((s1.1+1).toNat)).take (((s1.1+1)+4).toNat - ((s1.1+1).toNat)))).bind fun r0 =>
  ((
   (oW r0 0 400).bind fun r1 =>
   if r1 then (
    bN (-9223372036854775808≤(17+r0)∧(17+r0)≤9223372036854775807) <|
    some (decide (((aa.length:Int) - s1.1) < (17+r0))))
   else
   some true
  ):Option (Bool)).bind fun t1 =>
  if t1 then (
   some (.inr (.inr (.inl (s1.2.1,s1.2.2)))))
  else
  bN (-9223372036854775808≤(s1.1+17)∧(s1.1+17)≤9223372036854775807) <|
  bN (-9223372036854775808≤((s1.1+17)+r0)∧((s1.1+17)+r0)≤9223372036854775807) <|
  bN (-9223372036854775808≤(s1.1+16)∧(s1.1+16)≤9223372036854775807) <|
  bN (-9223372036854775808≤(((s1.1+17)+r0) - 1)∧(((s1.1+17)+r0) - 1)≤9223372036854775807) <|
  bN (0≤(s1.1+16)) <|
  bN (0≤(((s1.1+17)+r0) - 1)) <|
  bN ((s1.1+16).toNat≤(((s1.1+17)+r0) - 1).toNat∧(((s1.1+17)+r0) - 1).toNat≤aa.length) <|
  (MI ((aa.drop ((s1.1+16).toNat)).take ((((s1.1+17)+r0) - 1).toNat - ((s1.1+16).toNat)))).bind fun r2 =>
  bN (0≤s1.1) <|
  bN (0≤((s1.1+17)+r0)) <|
  bN (s1.1.toNat≤((s1.1+17)+r0).toNat∧((s1.1+17)+r0).toNat≤aa.length) <|
  if r2≠((aa.drop s1.1.toNat).take (((s1.1+17)+r0).toNat - s1.1.toNat)) then (
   some (.inr (.inr (.inl (s1.2.1,s1.2.2)))))
  else
  ((
   if (s1.2.2.length:Int)=60 then (
    some (.inl ()))
   else
   bN (s1.2.2.length+1≤1073741824) <|
   some (.inr (((s1.1+17)+r0),(s1.2.2++[((aa.drop ((s1.1+16).toNat)).take ((((s1.1+17)+r0) - 1).toNat - ((s1.1+16).toNat)))])))
  ):Option ((Unit)⊕(Int×List aD))).bind fun t2=>match t2 with
  | .inl t3=>(
   some (.inr (.inr (.inr (s1.2.1,s1.2.2)))))
  | .inr t0=>(
   some (.inl (((s1.1+17)+r0),t0.1,t0.2))))
 else
 some (.inr (.inl (s1.2.1,s1.2.2)))
def vC (more:List aD) (s:Nat×aI×List aD):Option ((Nat×aI×List aD)⊕(aI×List aD)) :=
 if (s.1:Int) < (more.length:Int) then (
  (more[s.1]?).bind fun x =>
  (MH s.2.1 x).bind fun r =>
  ((
   if r.2=0 then (
    bN (s.2.2.length+1≤1073741824) <|
    some (s.2.2++[x]))
   else
   some s.2.2
  ):Option (List aD)).bind fun t =>
  some (.inl ((s.1+1),r.1,t)))
 else
 some (.inr s.2)
def MM (aa:List UInt8) (more:List aD):Option (List UInt8×Int) :=
 (m19 more).bind fun r1 =>
 if r1≠0 then (
  some (([]:List UInt8),r1))
 else
 ((
  ((
   (bF (yW aa) (0,0,([]:List aD))).bind fun eA1=>match eA1 with
   | .inr z=>some z
   | .inl t0 =>
   some (.inl (t0.1,t0.2))
  ):Option ((Int×List aD)⊕(Int×List aD))).bind fun t4=>match t4 with
  | .inl t1=>(
   some (t1.1,t1.2))
  | .inr t2=>(
   some (t2.1,t2.2))
 ):Option (Int×List aD)).bind fun t3 =>
 (OZ t3.2).bind fun e =>
 (bF (vC more) (0,e.1,t3.2)).bind fun g =>
 if 60 < (g.2.length:Int) then (
  some (([]:List UInt8),3))
 else
 (QY g.2).bind fun q =>
 some (q,0)
def m4 (lines:List aD) (dw:Int):Option (Bool) :=
 ((
  (m5 lines).bind fun r9 =>
  if r9 then (
   (m6 lines).bind fun r18 =>
   some (!r18))
  else
  some true
 ):Option (Bool)).bind fun t0 =>
 if t0 then (
  (m7).bind fun r30 =>
  some r30)
 else
 (m9 lines).bind fun r3 =>
 (m8 r3).bind fun r4 =>
 (UJ lines r4.2.1).bind fun r1 =>
 (m9 r1).bind fun r63 =>
 (QZ r63).bind fun r0 =>
 (MM ([]:List UInt8) r3).bind fun r5 =>
 ((
  if r4.2.2≠0 then (
   some true)
  else
  if r0.2≠0 then (
   some true)
  else
  if r5.2≠0 then (
   some true)
  else
  some (decide (r5.1≠r0.1))
 ):Option (Bool)).bind fun t1 =>
 if t1 then (
  some false)
 else
 bN (-9223372036854775808≤dw∧dw≤9223372036854775807) <|
 bN (-9223372036854775808≤((r0.1.length:Int)+1)∧((r0.1.length:Int)+1)≤9223372036854775807) <|
 bN (0≤dw∧0 < ((r0.1.length:Int)+1)) <|
 bN ((dw%((r0.1.length:Int)+1)).toNat≤r0.1.length) <|
 bN (([]:List UInt8).length+(r0.1.take ((dw%((r0.1.length:Int)+1)).toNat)).length≤1073741824) <|
 (m15 (([]:List UInt8)++(r0.1.take ((dw%((r0.1.length:Int)+1)).toNat)))).bind fun r2 =>
 if (r1.length:Int) < (r2.1.length:Int) then (
  some false)
 else
 bN (r2.1.length≤r1.length) <|
 (m9 (r1.drop r2.1.length)).bind fun rA1 =>
 (MM (([]:List UInt8)++(r0.1.take ((dw%((r0.1.length:Int)+1)).toNat))) rA1).bind fun r8 =>
 ((
  if r8.2=0 then (
   if r8.1=r0.1 then (
    (m7).bind fun rB1 =>
    some rB1)
   else
   some false)
  else
  some false
 ):Option (Bool)).bind fun t2 =>
 some t2
end
end T12
namespace T12
open Go.Proofs
abbrev C10:=@Tryz.call10
abbrev UK:=@Tryz.call100
abbrev ZU:=@Tryz.call101
abbrev ZV:=@Tryz.call103
abbrev ZW:=@Tryz.call104
abbrev iZ:=@Tryz.call105
abbrev AL:=@Tryz.call106
abbrev ZX:=@Tryz.call107
abbrev ZY:=@Tryz.call108
abbrev UL:=@Tryz.call109
abbrev ZZ:=@Tryz.call110
abbrev KF:=@Tryz.call111
abbrev FT:=@Tryz.call112
abbrev FU:=@Tryz.call113
abbrev FV:=@Tryz.call114
abbrev aAa:=@Tryz.call115
abbrev aAb:=@Tryz.call116
abbrev aAc:=@Tryz.call117
abbrev UM:=@Tryz.call118
abbrev PA:=@Tryz.call119
abbrev aAd:=@Tryz.call120
abbrev UN:=@Tryz.call121
abbrev aAe:=@Tryz.call125
abbrev aAf:=@Tryz.call129
abbrev C13:=@Tryz.call13
abbrev aAg:=@Tryz.call130
abbrev aAh:=@Tryz.call131
abbrev aAi:=@Tryz.call132
abbrev aAj:=@Tryz.call133
abbrev UO:=@Tryz.call134
abbrev KG:=@Tryz.call135
abbrev PB:=@Tryz.call136
abbrev PC:=@Tryz.call137
abbrev aAk:=@Tryz.call138
abbrev aAl:=@Tryz.call139
abbrev C14:=@Tryz.call14
abbrev aAm:=@Tryz.call140
abbrev aAn:=@Tryz.call141
abbrev aAo:=@Tryz.call146
abbrev aAp:=@Tryz.call147
abbrev PD:=@Tryz.call148
abbrev aAq:=@Tryz.call149
abbrev C15:=@Tryz.call15
abbrev aAr:=@Tryz.call150
abbrev aAs:=@Tryz.call151
abbrev aAt:=@Tryz.call152
abbrev UP:=@Tryz.call153
abbrev aAu:=@Tryz.call156
abbrev aAv:=@Tryz.call157
abbrev aAw:=@Tryz.call158
abbrev aAx:=@Tryz.call159
abbrev C16:=@Tryz.call16
abbrev aAy:=@Tryz.call160
abbrev aAz:=@Tryz.call161
abbrev aA0:=@Tryz.call162
abbrev aA1:=@Tryz.call163
abbrev aA2:=@Tryz.call164
abbrev aA3:=@Tryz.call166
abbrev aA4:=@Tryz.call167
abbrev aA5:=@Tryz.call168
abbrev UQ:=@Tryz.call169
abbrev C17:=@Tryz.call17
abbrev UR:=@Tryz.call170
abbrev US:=@Tryz.call171
abbrev aA6:=@Tryz.call172
abbrev KH:=@Tryz.call173
abbrev C18:=@Tryz.call18
abbrev aA7:=@Tryz.call181
abbrev aA8:=@Tryz.call182
abbrev UT:=@Tryz.call183
abbrev aA9:=@Tryz.call184
abbrev aBa:=@Tryz.call186
abbrev aBb:=@Tryz.call187
abbrev UU:=@Tryz.call188
abbrev C19:=@Tryz.call19
abbrev UV:=@Tryz.call193
abbrev KI:=@Tryz.call194
abbrev aBd:=@Tryz.call196
abbrev aBe:=@Tryz.call197
abbrev aBf:=@Tryz.call198
abbrev KJ:=@Tryz.call199
abbrev C20:=@Tryz.call20
abbrev KK:=@Tryz.call200
abbrev UW:=@Tryz.call201
abbrev aBg:=@Tryz.call202
abbrev aBh:=@Tryz.call203
abbrev aBi:=@Tryz.call204
abbrev FX:=@Tryz.call205
abbrev aBj:=@Tryz.call206
abbrev aBk:=@Tryz.call207
abbrev UX:=@Tryz.call208
abbrev UY:=@Tryz.call209
abbrev C21:=@Tryz.call21
abbrev aBl:=@Tryz.call210
abbrev aBm:=@Tryz.call211
abbrev aBn:=@Tryz.call212
abbrev UZ:=@Tryz.call213
abbrev aBo:=@Tryz.call214
abbrev AM:=@Tryz.call215
abbrev aBp:=@Tryz.call216
abbrev aBq:=@Tryz.call217
abbrev aBr:=@Tryz.call218
abbrev aBs:=@Tryz.call219
abbrev aBt:=@Tryz.call220
abbrev aBu:=@Tryz.call221
abbrev aBv:=@Tryz.call222
abbrev VA:=@Tryz.call223
abbrev VB:=@Tryz.call224
abbrev aBw:=@Tryz.call225
abbrev aBx:=@Tryz.call226
abbrev aBy:=@Tryz.call230
abbrev aBz:=@Tryz.call231
abbrev C24:=@Tryz.call24
abbrev KL:=@Tryz.call242
abbrev VC:=@Tryz.call243
abbrev VD:=@Tryz.call244
abbrev aB0:=@Tryz.call245
abbrev aB1:=@Tryz.call247
abbrev aB2:=@Tryz.call248
abbrev VE:=@Tryz.call249
abbrev aB3:=@Tryz.call250
abbrev aB4:=@Tryz.call251
abbrev aB5:=@Tryz.call252
abbrev aB6:=@Tryz.call253
abbrev aB7:=@Tryz.call259
abbrev aB8:=@Tryz.call262
abbrev aB9:=@Tryz.call263
abbrev aCa:=@Tryz.call264
abbrev aCb:=@Tryz.call265
abbrev aCc:=@Tryz.call266
abbrev aCd:=@Tryz.call267
abbrev aCe:=@Tryz.call277
abbrev aCf:=@Tryz.call278
abbrev aCg:=@Tryz.call279
abbrev FY:=@Tryz.call280
abbrev aCh:=@Tryz.call281
abbrev aCi:=@Tryz.call282
abbrev aCj:=@Tryz.call283
abbrev aCk:=@Tryz.call284
abbrev VF:=@Tryz.call288
abbrev aCl:=@Tryz.call289
abbrev aCm:=@Tryz.call290
abbrev aCn:=@Tryz.call300
abbrev aCo:=@Tryz.call301
abbrev aCp:=@Tryz.call302
abbrev aCq:=@Tryz.call303
abbrev aCr:=@Tryz.call304
abbrev VG:=@Tryz.call305
abbrev aCs:=@Tryz.call310
abbrev aCt:=@Tryz.call311
abbrev C32:=@Tryz.call32
abbrev C33:=@Tryz.call33
abbrev C34:=@Tryz.call34
abbrev C35:=@Tryz.call35
abbrev C36:=@Tryz.call36
abbrev C37:=@Tryz.call37
abbrev C38:=@Tryz.call38
abbrev C39:=@Tryz.call39
abbrev C43:=@Tryz.call43
abbrev C44:=@Tryz.call44
abbrev C45:=@Tryz.call45
abbrev C46:=@Tryz.call46
abbrev YH:=@Tryz.call47
abbrev C49:=@Tryz.call49
abbrev C5:=@Tryz.call5
abbrev C50:=@Tryz.call50
abbrev fA:=@Tryz.call51
abbrev C52:=@Tryz.call52
abbrev C53:=@Tryz.call53
abbrev C54:=@Tryz.call54
abbrev yX:=@Tryz.call55
abbrev C56:=@Tryz.call56
abbrev C6:=@Tryz.call6
abbrev C60:=@Tryz.call60
abbrev C61:=@Tryz.call61
abbrev C62:=@Tryz.call62
abbrev YI:=@Tryz.call63
abbrev C64:=@Tryz.call64
abbrev C65:=@Tryz.call65
abbrev RA:=@Tryz.call66
abbrev C67:=@Tryz.call67
abbrev C68:=@Tryz.call68
abbrev C7:=@Tryz.call7
abbrev C70:=@Tryz.call70
abbrev C71:=@Tryz.call71
abbrev C72:=@Tryz.call72
abbrev C73:=@Tryz.call73
abbrev C74:=@Tryz.call74
abbrev C75:=@Tryz.call75
abbrev C76:=@Tryz.call76
abbrev C77:=@Tryz.call77
abbrev C78:=@Tryz.call78
abbrev C79:=@Tryz.call79
abbrev C8:=@Tryz.call8
abbrev C80:=@Tryz.call80
abbrev C81:=@Tryz.call81
abbrev C82:=@Tryz.call82
abbrev C83:=@Tryz.call83
abbrev C84:=@Tryz.call84
abbrev C85:=@Tryz.call85
abbrev C86:=@Tryz.call86
abbrev C87:=@Tryz.call87
abbrev C9:=@Tryz.call9
abbrev C93:=@Tryz.call93
abbrev C94:=@Tryz.call94
abbrev C95:=@Tryz.call95
abbrev PE:=@Tryz.call96
abbrev C97:=@Tryz.call97
abbrev C98:=@Tryz.call98
abbrev C99:=@Tryz.call99
abbrev aC4:=@Tryz.isAgg103
abbrev KM:=@Tryz.isAgg104
abbrev aC5:=@Tryz.isAgg109
abbrev PF:=@Tryz.isAgg115
abbrev qB:=@Tryz.isAgg117
abbrev mJ:=@Tryz.isAgg119
abbrev PG:=@Tryz.isAgg121
abbrev KN:=@Tryz.isAgg123
abbrev aC6:=@Tryz.isAgg129
abbrev aC7:=@Tryz.isAgg146
abbrev AN:=@Tryz.isAgg147
abbrev xK:=@Tryz.isAgg149
abbrev qC:=@Tryz.isAgg151
abbrev sT:=@Tryz.isAgg154
abbrev AO:=@Tryz.isAgg156
abbrev aC8:=@Tryz.isAgg157
abbrev PH:=@Tryz.isAgg173
abbrev FZ:=@Tryz.isAgg200
abbrev aC9:=@Tryz.isAgg212
abbrev VH:=@Tryz.isAgg215
abbrev mT:=@Tryz.isAgg22
abbrev mK:=@Tryz.isAgg233
abbrev xL:=@Tryz.isAgg240
abbrev GA:=@Tryz.isAgg243
abbrev HK:=@Tryz.isAgg25
abbrev xM:=@Tryz.isAgg252
abbrev xN:=@Tryz.isAgg254
abbrev mU:=@Tryz.isAgg27
abbrev RB:=@Tryz.isAgg28
abbrev PI:=@Tryz.isAgg282
abbrev GB:=@Tryz.isAgg283
abbrev PJ:=@Tryz.isAgg284
abbrev G29:=@Tryz.isAgg29
abbrev aDa:=@Tryz.isAgg296
abbrev aDb:=@Tryz.isAgg297
abbrev G3:=@Tryz.isAgg3
abbrev AP:=@Tryz.isAgg30
abbrev oB:=@Tryz.isAgg32
abbrev aDc:=@Tryz.isAgg321
abbrev VI:=@Tryz.isAgg325
abbrev vN:=@Tryz.isAgg33
abbrev G34:=@Tryz.isAgg34
abbrev aDe:=@Tryz.isAgg347
abbrev YJ:=@Tryz.isAgg35
abbrev YK:=@Tryz.isAgg36
abbrev oL:=@Tryz.isAgg38
abbrev nL:=@Tryz.isAgg39
abbrev G4:=@Tryz.isAgg4
abbrev G41:=@Tryz.isAgg41
abbrev tB:=@Tryz.isAgg43
abbrev G5:=@Tryz.isAgg5
abbrev G83:=@Tryz.isAgg83
abbrev G9:=@Tryz.isAgg9
abbrev yY:=@Tryz.isAgg91
abbrev G93:=@Tryz.isAgg93
abbrev VJ:=@Tryz.sizeOf104
abbrev PK:=@Tryz.sizeOf109
abbrev mL:=@Tryz.sizeOf115
abbrev hU:=@Tryz.sizeOf117
abbrev hY:=@Tryz.sizeOf119
abbrev xO:=@Tryz.sizeOf121
abbrev sU:=@Tryz.sizeOf123
abbrev aDh:=@Tryz.sizeOf129
abbrev aDi:=@Tryz.sizeOf131
abbrev VK:=@Tryz.sizeOf147
abbrev aDj:=@Tryz.sizeOf149
abbrev nM:=@Tryz.sizeOf151
abbrev qD:=@Tryz.sizeOf154
abbrev jO:=@Tryz.sizeOf156
abbrev PL:=@Tryz.sizeOf173
abbrev PM:=@Tryz.sizeOf175
abbrev KO:=@Tryz.sizeOf200
abbrev rO:=@Tryz.sizeOf22
abbrev GC:=@Tryz.sizeOf230
abbrev AQ:=@Tryz.sizeOf231
abbrev iN:=@Tryz.sizeOf233
abbrev vD:=@Tryz.sizeOf240
abbrev AR:=@Tryz.sizeOf243
abbrev BF:=@Tryz.sizeOf25
abbrev xP:=@Tryz.sizeOf252
abbrev jI:=@Tryz.sizeOf254
abbrev iY:=@Tryz.sizeOf27
abbrev VL:=@Tryz.sizeOf28
abbrev VM:=@Tryz.sizeOf283
abbrev PN:=@Tryz.sizeOf284
abbrev PO:=@Tryz.sizeOf286
abbrev YM:=@Tryz.sizeOf29
abbrev aDk:=@Tryz.sizeOf297
abbrev Z3:=@Tryz.sizeOf3
abbrev xQ:=@Tryz.sizeOf30
abbrev kF:=@Tryz.sizeOf32
abbrev aDl:=@Tryz.sizeOf325
abbrev rP:=@Tryz.sizeOf33
abbrev HL:=@Tryz.sizeOf34
abbrev RD:=@Tryz.sizeOf35
abbrev YN:=@Tryz.sizeOf36
abbrev iL:=@Tryz.sizeOf38
abbrev AS:=@Tryz.sizeOf39
abbrev Z4:=@Tryz.sizeOf4
abbrev eQ:=@Tryz.sizeOf41
abbrev AT:=@Tryz.sizeOf43
abbrev Z5:=@Tryz.sizeOf5
abbrev Z82:=@Tryz.sizeOf82
abbrev VN:=@Tryz.sizeOf83
abbrev Z9:=@Tryz.sizeOf9
abbrev oM:=@Tryz.sizeOf91
abbrev Z93:=@Tryz.sizeOf93
abbrev VO:=@Tryz.underlying106
abbrev GD:=@Tryz.underlying109
abbrev qT:=@Tryz.underlying115
abbrev nN:=@Tryz.underlying117
abbrev fD:=@Tryz.underlying119
abbrev qU:=@Tryz.underlying121
abbrev qE:=@Tryz.underlying123
abbrev aDn:=@Tryz.underlying126
abbrev PP:=@Tryz.underlying131
abbrev kG:=@Tryz.underlying133
abbrev kT:=@Tryz.underlying147
abbrev lS:=@Tryz.underlying151
abbrev oN:=@Tryz.underlying153
abbrev nO:=@Tryz.underlying154
abbrev nP:=@Tryz.underlying156
abbrev aDo:=@Tryz.underlying162
abbrev PQ:=@Tryz.underlying175
abbrev PR:=@Tryz.underlying176
abbrev VP:=@Tryz.underlying178
abbrev PS:=@Tryz.underlying209
abbrev jA:=@Tryz.underlying22
abbrev GE:=@Tryz.underlying230
abbrev AU:=@Tryz.underlying231
abbrev iK:=@Tryz.underlying233
abbrev AV:=@Tryz.underlying240
abbrev jP:=@Tryz.underlying243
abbrev yZ:=@Tryz.underlying25
abbrev vE:=@Tryz.underlying250
abbrev mM:=@Tryz.underlying254
abbrev oC:=@Tryz.underlying27
abbrev BG:=@Tryz.underlying28
abbrev PT:=@Tryz.underlying286
abbrev KP:=@Tryz.underlying287
abbrev U29:=@Tryz.underlying29
abbrev sV:=@Tryz.underlying297
abbrev U3:=@Tryz.underlying3
abbrev tC:=@Tryz.underlying30
abbrev vF:=@Tryz.underlying32
abbrev VQ:=@Tryz.underlying320
abbrev eV:=@Tryz.underlying33
abbrev MN:=@Tryz.underlying34
abbrev RF:=@Tryz.underlying35
abbrev PU:=@Tryz.underlying36
abbrev kD:=@Tryz.underlying38
abbrev gP:=@Tryz.underlying39
abbrev U4:=@Tryz.underlying4
abbrev eW:=@Tryz.underlying41
abbrev VR:=@Tryz.underlying42
abbrev U5:=@Tryz.underlying5
abbrev U51:=@Tryz.underlying51
abbrev fE:=@Tryz.underlying67
abbrev U73:=@Tryz.underlying73
abbrev U82:=@Tryz.underlying82
abbrev BH:=@Tryz.underlying83
abbrev U9:=@Tryz.underlying9
abbrev lI:=@Tryz.underlying91
end T12
