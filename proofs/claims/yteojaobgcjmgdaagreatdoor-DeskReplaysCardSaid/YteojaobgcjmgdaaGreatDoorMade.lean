/-
  The types and models of the functions of a session,printed by a program of ours;contracts of library functions.
-/
import Derived.Shelf.Strings.Cut
import Derived.Shelf.Strings.Search3
import Derived.Shelf.Strings.Prefix
import Derived.Shelf.Strings.Runes
import Derived.Shelf.Strings.OnBuilder
import Derived.Shelf.Strings.FieldsFuncAny
import Derived.Shelf.Strings.BuilderF
import Derived.Shelf.Small.Strs
import Derived.Shelf.Small.Wraps
import Derived.Shelf.Strconv.AtoiAll
import Derived.Shelf.Strconv.Itoa3
import Derived.Shelf.SlSortCmp.NoneTotal
import Derived.Shelf.LaysM
import Derived.Shelf.LaysC
import Derived.Test.YteojaobgcjmgdaaGreatDoorKitSix
import Derived.Test.YteojaobgcjmgdaaGreatDoorProg
import Derived.Shelf.Spec.SlicesInsert
import Derived.Lib.AppendZerosOnto
import Derived.Laws.NewBlocks
import Derived.Laws.CopyRow
import Derived.Recover
import Derived.Tactics
import Derived.Tactics2
set_option linter.all false
set_option maxHeartbeats 4000000
namespace Go.Proofs
open Go.Shelf Go.RowKit
def Tryz.laysC172_ren:Go.Shelf.Ren:=⟨fun | 172=>87 | 244=>122 | 245=>123 | 247=>174 | 279=>175 | 280=>176 | 281=>177 | 282=>178 | 287=>227 | 316=>228 | 171=>21 | 205=>229 | 321=>269 | 322=>270 | 243=>40 | 246=>57 | 283=>88 | 284=>89 | 285=>90 | 286=>91 | 129=>125 | 317=>124 | 318=>126 | 319=>127 | 320=>128 | 337=>179 | 338=>180 | n=>n,fun | 9=>9 | 3=>3 | 75=>73 | 76=>74 | 4=>4 | 5=>5 | 167=>264 | 37=>39 | 0=>0 | 85=>265 | 2=>2 | 168=>267 | 53=>162 | 175=>303 | 46=>209 | 210=>306 | 127=>113 | 145=>337 | 143=>335 | 21=>21 | 171=>161 | 173=>165 | 212=>206 | 51=>207 | 20=>20 | 213=>208 | 232=>308 | 233=>309 | 80=>85 | n=>n,fun | 15=>2 | 16=>3 | 17=>0 | 18=>4 | 19=>5 | n=>n⟩
theorem Tryz.laysC172:Go.Proofs.LaysC.n172 Tryz.prog Tryz.laysC172_ren:={
 mixed:=by kernel_rfl
 f129:=Tryz.func125.trans (congrArg some (by kernel_rfl))
 f171:=Tryz.func21.trans (congrArg some (by kernel_rfl))
 f172:=Tryz.func87.trans (congrArg some (by kernel_rfl))
 f205:=Tryz.func229.trans (congrArg some (by kernel_rfl))
 f243:=Tryz.func40.trans (congrArg some (by kernel_rfl))
 f244:=Tryz.func122.trans (congrArg some (by kernel_rfl))
 f245:=Tryz.func123.trans (congrArg some (by kernel_rfl))
 f246:=Tryz.func57.trans (congrArg some (by kernel_rfl))
 f247:=Tryz.func174.trans (congrArg some (by kernel_rfl))
 f279:=Tryz.func175.trans (congrArg some (by kernel_rfl))
 f280:=Tryz.func176.trans (congrArg some (by kernel_rfl))
 f281:=Tryz.func177.trans (congrArg some (by kernel_rfl))
 f282:=Tryz.func178.trans (congrArg some (by kernel_rfl))
 f283:=Tryz.func88.trans (congrArg some (by kernel_rfl))
 f284:=Tryz.func89.trans (congrArg some (by kernel_rfl))
 f285:=Tryz.func90.trans (congrArg some (by kernel_rfl))
 f286:=Tryz.func91.trans (congrArg some (by kernel_rfl))
 f287:=Tryz.func227.trans (congrArg some (by kernel_rfl))
 f316:=Tryz.func228.trans (congrArg some (by kernel_rfl))
 f317:=Tryz.func124.trans (congrArg some (by kernel_rfl))
 f318:=Tryz.func126.trans (congrArg some (by kernel_rfl))
 f319:=Tryz.func127.trans (congrArg some (by kernel_rfl))
 f320:=Tryz.func128.trans (congrArg some (by kernel_rfl))
 f321:=Tryz.func269.trans (congrArg some (by kernel_rfl))
 f322:=Tryz.func270.trans (congrArg some (by kernel_rfl))
 f337:=Tryz.func179.trans (congrArg some (by kernel_rfl))
 f338:=Tryz.func180.trans (congrArg some (by kernel_rfl))
 t0:=Tryz.underlying0
 a0:=Tryz.isAgg0
 z0:=Tryz.sizeOf0
 v0:=Tryz.zeroValue0
 t2:=Tryz.underlying2
 a2:=Tryz.isAgg2
 z2:=Tryz.sizeOf2
 v2:=Tryz.zeroValue2
 t3:=Tryz.underlying3
 a3:=Tryz.isAgg3
 z3:=Tryz.sizeOf3
 v3:=Tryz.zeroValue3
 t4:=Tryz.underlying4
 a4:=Tryz.isAgg4
 z4:=Tryz.sizeOf4
 v4:=Tryz.zeroValue4
 t5:=Tryz.underlying5
 a5:=Tryz.isAgg5
 z5:=Tryz.sizeOf5
 v5:=Tryz.zeroValue5
 t9:=Tryz.underlying9
 a9:=Tryz.isAgg9
 z9:=Tryz.sizeOf9
 v9:=Tryz.zeroValue9
 t20:=Tryz.underlying20
 a20:=Tryz.isAgg20
 z20:=Tryz.sizeOf20
 v20:=Tryz.zeroValue20
 t21:=Tryz.underlying21
 a21:=Tryz.isAgg21
 z21:=Tryz.sizeOf21
 v21:=Tryz.zeroValue21
 t37:=Tryz.underlying39
 a37:=Tryz.isAgg39
 z37:=Tryz.sizeOf39
 v37:=Tryz.zeroValue39
 t46:=Tryz.underlying209
 a46:=Tryz.isAgg209
 z46:=Tryz.sizeOf209
 v46:=Tryz.zeroValue209
 t51:=Tryz.underlying207
 a51:=Tryz.isAgg207
 z51:=Tryz.sizeOf207
 v51:=Tryz.zeroValue207
 t53:=Tryz.underlying162
 a53:=Tryz.isAgg162
 z53:=Tryz.sizeOf162
 v53:=Tryz.zeroValue162
 t75:=Tryz.underlying73
 a75:=Tryz.isAgg73
 z75:=Tryz.sizeOf73
 v75:=Tryz.zeroValue73
 t76:=Tryz.underlying74
 a76:=Tryz.isAgg74
 z76:=Tryz.sizeOf74
 v76:=Tryz.zeroValue74
 t85:=Tryz.underlying265
 a85:=Tryz.isAgg265
 z85:=Tryz.sizeOf265
 v85:=Tryz.zeroValue265
 t127:=Tryz.underlying113
 a127:=Tryz.isAgg113
 z127:=Tryz.sizeOf113
 v127:=Tryz.zeroValue113
 t143:=Tryz.underlying335
 a143:=Tryz.isAgg335
 z143:=Tryz.sizeOf335
 v143:=Tryz.zeroValue335
 t145:=Tryz.underlying337
 a145:=Tryz.isAgg337
 z145:=Tryz.sizeOf337
 v145:=Tryz.zeroValue337
 t167:=Tryz.underlying264
 a167:=Tryz.isAgg264
 z167:=Tryz.sizeOf264
 v167:=Tryz.zeroValue264
 t168:=Tryz.underlying267
 a168:=Tryz.isAgg267
 z168:=Tryz.sizeOf267
 v168:=Tryz.zeroValue267
 t171:=Tryz.underlying161
 a171:=Tryz.isAgg161
 z171:=Tryz.sizeOf161
 v171:=Tryz.zeroValue161
 t173:=Tryz.underlying165
 a173:=Tryz.isAgg165
 z173:=Tryz.sizeOf165
 v173:=Tryz.zeroValue165
 t175:=Tryz.underlying303
 a175:=Tryz.isAgg303
 z175:=Tryz.sizeOf303
 v175:=Tryz.zeroValue303
 t210:=Tryz.underlying306
 a210:=Tryz.isAgg306
 z210:=Tryz.sizeOf306
 v210:=Tryz.zeroValue306
 t212:=Tryz.underlying206
 a212:=Tryz.isAgg206
 z212:=Tryz.sizeOf206
 v212:=Tryz.zeroValue206
 t213:=Tryz.underlying208
 a213:=Tryz.isAgg208
 z213:=Tryz.sizeOf208
 t232:=Tryz.underlying308
 a232:=Tryz.isAgg308
 z232:=Tryz.sizeOf308
 v232:=Tryz.zeroValue308
 t233:=Tryz.underlying309
 a233:=Tryz.isAgg309
 z233:=Tryz.sizeOf309
 v233:=Tryz.zeroValue309
 g15:=by kernel_rfl
 g16:=by kernel_rfl
 g17:=by kernel_rfl
 g18:=by kernel_rfl
 g19:=by kernel_rfl
 t80:=Tryz.underlying85
 a80:=Tryz.isAgg85
 z80:=Tryz.sizeOf85
 v80:=Tryz.zeroValue85
 i0:=by kernel_rfl
 i2:=by kernel_rfl
 i3:=by kernel_rfl
 i4:=by kernel_rfl
 i5:=by kernel_rfl
 i9:=by kernel_rfl
 i20:=by kernel_rfl
 i21:=by kernel_rfl
 i37:=by kernel_rfl
 i46:=by kernel_rfl
 i51:=by kernel_rfl
 i53:=by kernel_rfl
 i75:=by kernel_rfl
 i76:=by kernel_rfl
 i80:=by kernel_rfl
 i85:=by kernel_rfl
 i127:=by kernel_rfl
 i143:=by kernel_rfl
 i145:=by kernel_rfl
 i167:=by kernel_rfl
 i168:=by kernel_rfl
 i171:=by kernel_rfl
 i173:=by kernel_rfl
 i175:=by kernel_rfl
 i210:=by kernel_rfl
 i212:=by kernel_rfl
 i232:=by kernel_rfl
 i233:=by kernel_rfl
 m15:=by kernel_rfl
 m16:=by kernel_rfl
 m17:=by kernel_rfl
 m18:=by kernel_rfl
 m19:=by kernel_rfl
 c0:=by kernel_rfl
 c2:=by kernel_rfl
 c3:=by kernel_rfl
 c4:=by kernel_rfl
 c5:=by kernel_rfl
 c9:=by kernel_rfl
 c20:=by kernel_rfl
 c21:=by kernel_rfl
 c37:=by kernel_rfl
 c46:=by kernel_rfl
 c51:=by kernel_rfl
 c53:=by kernel_rfl
 c75:=by kernel_rfl
 c76:=by kernel_rfl
 c80:=by kernel_rfl
 c85:=by kernel_rfl
 c127:=by kernel_rfl
 c143:=by kernel_rfl
 c145:=by kernel_rfl
 c167:=by kernel_rfl
 c168:=by kernel_rfl
 c171:=by kernel_rfl
 c173:=by kernel_rfl
 c175:=by kernel_rfl
 c210:=by kernel_rfl
 c212:=by kernel_rfl
 c213:=by kernel_rfl
 c232:=by kernel_rfl
 c233:=by kernel_rfl }
def Tryz.laysM171_ren:Go.Shelf.Ren:=⟨fun | 171=>21 | 243=>40 | 246=>57 | 283=>88 | 284=>89 | 285=>90 | 286=>91 | 129=>125 | 317=>124 | 318=>126 | 319=>127 | 320=>128 | 337=>179 | 338=>180 | n=>n,fun | 3=>3 | 9=>9 | 2=>2 | 4=>4 | 171=>161 | 0=>0 | 53=>162 | 37=>39 | 5=>5 | 173=>165 | 212=>206 | 51=>207 | 20=>20 | 213=>208 | 46=>209 | 232=>308 | 233=>309 | n=>n,fun | 17=>0 | 18=>4 | 19=>5 | n=>n⟩
theorem Tryz.laysM171:Go.Proofs.LaysM.n171 Tryz.prog Tryz.laysM171_ren:={
 mixed:=by kernel_rfl
 f129:=Tryz.func125.trans (congrArg some (by kernel_rfl))
 f171:=Tryz.func21.trans (congrArg some (by kernel_rfl))
 f243:=Tryz.func40.trans (congrArg some (by kernel_rfl))
 f246:=Tryz.func57.trans (congrArg some (by kernel_rfl))
 f283:=Tryz.func88.trans (congrArg some (by kernel_rfl))
 f284:=Tryz.func89.trans (congrArg some (by kernel_rfl))
 f285:=Tryz.func90.trans (congrArg some (by kernel_rfl))
 f286:=Tryz.func91.trans (congrArg some (by kernel_rfl))
 f317:=Tryz.func124.trans (congrArg some (by kernel_rfl))
 f318:=Tryz.func126.trans (congrArg some (by kernel_rfl))
 f319:=Tryz.func127.trans (congrArg some (by kernel_rfl))
 f320:=Tryz.func128.trans (congrArg some (by kernel_rfl))
 f337:=Tryz.func179.trans (congrArg some (by kernel_rfl))
 f338:=Tryz.func180.trans (congrArg some (by kernel_rfl))
 t0:=Tryz.underlying0
 a0:=Tryz.isAgg0
 z0:=Tryz.sizeOf0
 v0:=Tryz.zeroValue0
 t2:=Tryz.underlying2
 a2:=Tryz.isAgg2
 z2:=Tryz.sizeOf2
 v2:=Tryz.zeroValue2
 t3:=Tryz.underlying3
 a3:=Tryz.isAgg3
 z3:=Tryz.sizeOf3
 v3:=Tryz.zeroValue3
 t4:=Tryz.underlying4
 a4:=Tryz.isAgg4
 z4:=Tryz.sizeOf4
 v4:=Tryz.zeroValue4
 t5:=Tryz.underlying5
 a5:=Tryz.isAgg5
 z5:=Tryz.sizeOf5
 v5:=Tryz.zeroValue5
 t9:=Tryz.underlying9
 a9:=Tryz.isAgg9
 z9:=Tryz.sizeOf9
 v9:=Tryz.zeroValue9
 t20:=Tryz.underlying20
 a20:=Tryz.isAgg20
 z20:=Tryz.sizeOf20
 v20:=Tryz.zeroValue20
 t37:=Tryz.underlying39
 a37:=Tryz.isAgg39
 z37:=Tryz.sizeOf39
 v37:=Tryz.zeroValue39
 t46:=Tryz.underlying209
 a46:=Tryz.isAgg209
 z46:=Tryz.sizeOf209
 v46:=Tryz.zeroValue209
 t51:=Tryz.underlying207
 a51:=Tryz.isAgg207
 z51:=Tryz.sizeOf207
 v51:=Tryz.zeroValue207
 t53:=Tryz.underlying162
 a53:=Tryz.isAgg162
 z53:=Tryz.sizeOf162
 v53:=Tryz.zeroValue162
 t171:=Tryz.underlying161
 a171:=Tryz.isAgg161
 z171:=Tryz.sizeOf161
 v171:=Tryz.zeroValue161
 t173:=Tryz.underlying165
 a173:=Tryz.isAgg165
 z173:=Tryz.sizeOf165
 v173:=Tryz.zeroValue165
 t212:=Tryz.underlying206
 a212:=Tryz.isAgg206
 z212:=Tryz.sizeOf206
 v212:=Tryz.zeroValue206
 t213:=Tryz.underlying208
 a213:=Tryz.isAgg208
 z213:=Tryz.sizeOf208
 t232:=Tryz.underlying308
 a232:=Tryz.isAgg308
 z232:=Tryz.sizeOf308
 v232:=Tryz.zeroValue308
 t233:=Tryz.underlying309
 a233:=Tryz.isAgg309
 z233:=Tryz.sizeOf309
 v233:=Tryz.zeroValue309
 g17:=by kernel_rfl
 g18:=by kernel_rfl
 g19:=by kernel_rfl
 i0:=by kernel_rfl
 i2:=by kernel_rfl
 i3:=by kernel_rfl
 i4:=by kernel_rfl
 i5:=by kernel_rfl
 i9:=by kernel_rfl
 i20:=by kernel_rfl
 i37:=by kernel_rfl
 i46:=by kernel_rfl
 i51:=by kernel_rfl
 i53:=by kernel_rfl
 i171:=by kernel_rfl
 i173:=by kernel_rfl
 i212:=by kernel_rfl
 i232:=by kernel_rfl
 i233:=by kernel_rfl
 m17:=by kernel_rfl
 m18:=by kernel_rfl
 m19:=by kernel_rfl }
def Tryz.lays145_ren:Go.Shelf.Ren:=⟨fun | 145=>49 | 220=>69 | 219=>102 | 217=>142 | 225=>143 | 224=>144 | 267=>145 | 266=>191 | 314=>192 | n=>n,fun | 9=>9 | 4=>4 | 59=>127 | 3=>3 | 5=>5 | 46=>209 | 146=>277 | 51=>207 | n=>n,fun | 1=>1 | n=>n⟩
theorem Tryz.lays145:Go.Proofs.Lays.n145 Tryz.prog Tryz.lays145_ren:={
 mixed:=by kernel_rfl
 f145:=Tryz.func49.trans (congrArg some (by kernel_rfl))
 f217:=Tryz.func142.trans (congrArg some (by kernel_rfl))
 f219:=Tryz.func102.trans (congrArg some (by kernel_rfl))
 f220:=Tryz.func69.trans (congrArg some (by kernel_rfl))
 f224:=Tryz.func144.trans (congrArg some (by kernel_rfl))
 f225:=Tryz.func143.trans (congrArg some (by kernel_rfl))
 f266:=Tryz.func191.trans (congrArg some (by kernel_rfl))
 f267:=Tryz.func145.trans (congrArg some (by kernel_rfl))
 f314:=Tryz.func192.trans (congrArg some (by kernel_rfl))
 t3:=Tryz.underlying3
 a3:=Tryz.isAgg3
 z3:=Tryz.sizeOf3
 v3:=Tryz.zeroValue3
 t4:=Tryz.underlying4
 a4:=Tryz.isAgg4
 z4:=Tryz.sizeOf4
 v4:=Tryz.zeroValue4
 t5:=Tryz.underlying5
 a5:=Tryz.isAgg5
 z5:=Tryz.sizeOf5
 v5:=Tryz.zeroValue5
 t9:=Tryz.underlying9
 a9:=Tryz.isAgg9
 z9:=Tryz.sizeOf9
 v9:=Tryz.zeroValue9
 t46:=Tryz.underlying209
 a46:=Tryz.isAgg209
 z46:=Tryz.sizeOf209
 v46:=Tryz.zeroValue209
 t51:=Tryz.underlying207
 a51:=Tryz.isAgg207
 z51:=Tryz.sizeOf207
 v51:=Tryz.zeroValue207
 t59:=Tryz.underlying127
 a59:=Tryz.isAgg127
 z59:=Tryz.sizeOf127
 v59:=Tryz.zeroValue127
 t146:=Tryz.underlying277
 a146:=Tryz.isAgg277
 z146:=Tryz.sizeOf277
 v146:=Tryz.zeroValue277
 g1:=by kernel_rfl }
def Tryz.lays229_ren:Go.Shelf.Ren:=⟨fun | 229=>164 | n=>n,fun | 9=>9 | 40=>249 | 31=>22 | 152=>292 | 3=>3 | 0=>0 | 4=>4 | 21=>21 | 154=>294 | n=>n,fun | n=>n⟩
theorem Tryz.lays229:Go.Proofs.Lays.n229 Tryz.prog Tryz.lays229_ren:={
 mixed:=by kernel_rfl
 f229:=Tryz.func164.trans (congrArg some (by kernel_rfl))
 t0:=Tryz.underlying0
 a0:=Tryz.isAgg0
 z0:=Tryz.sizeOf0
 v0:=Tryz.zeroValue0
 t3:=Tryz.underlying3
 a3:=Tryz.isAgg3
 z3:=Tryz.sizeOf3
 v3:=Tryz.zeroValue3
 t4:=Tryz.underlying4
 a4:=Tryz.isAgg4
 z4:=Tryz.sizeOf4
 v4:=Tryz.zeroValue4
 t9:=Tryz.underlying9
 a9:=Tryz.isAgg9
 z9:=Tryz.sizeOf9
 v9:=Tryz.zeroValue9
 t21:=Tryz.underlying21
 a21:=Tryz.isAgg21
 z21:=Tryz.sizeOf21
 v21:=Tryz.zeroValue21
 t31:=Tryz.underlying22
 a31:=Tryz.isAgg22
 z31:=Tryz.sizeOf22
 v31:=Tryz.zeroValue22
 t40:=Tryz.underlying249
 a40:=Tryz.isAgg249
 z40:=Tryz.sizeOf249
 v40:=Tryz.zeroValue249
 t152:=Tryz.underlying292
 a152:=Tryz.isAgg292
 z152:=Tryz.sizeOf292
 v152:=Tryz.zeroValue292
 t154:=Tryz.underlying294
 a154:=Tryz.isAgg294
 z154:=Tryz.sizeOf294
 v154:=Tryz.zeroValue294 }
def Tryz.laysF136_ren:Go.Shelf.Ren:=⟨fun | 6=>136 | 15=>186 | 14=>185 | 28=>240 | 29=>125 | 20=>232 | 21=>233 | 22=>234 | 23=>235 | 24=>236 | 25=>237 | 26=>238 | 27=>239 | 46=>271 | 47=>272 | 48=>273 | 49=>274 | 50=>275 | 57=>299 | n=>n,fun | 22=>28 | 24=>91 | 25=>218 | 3=>3 | 39=>209 | 0=>0 | 53=>207 | 55=>162 | 4=>4 | 46=>314 | 45=>313 | 50=>100 | 5=>5 | 9=>9 | 66=>338 | 70=>342 | 76=>356 | 77=>357 | n=>n,fun | n=>n⟩
theorem Tryz.laysF136:Go.Proofs.SlLaysF0.n6 Tryz.prog Tryz.laysF136_ren:={
 mixed:=by kernel_rfl
 f6:=⟨Tryz.f136.name,by decide,Tryz.func136.trans (congrArg some (by kernel_rfl))⟩
 f14:=⟨Tryz.f185.name,by decide,Tryz.func185.trans (congrArg some (by kernel_rfl))⟩
 f15:=Tryz.func186.trans (congrArg some (by kernel_rfl))
 f20:=⟨Tryz.f232.name,by decide,Tryz.func232.trans (congrArg some (by kernel_rfl))⟩
 f21:=⟨Tryz.f233.name,by decide,Tryz.func233.trans (congrArg some (by kernel_rfl))⟩
 f22:=⟨Tryz.f234.name,by decide,Tryz.func234.trans (congrArg some (by kernel_rfl))⟩
 f23:=⟨Tryz.f235.name,by decide,Tryz.func235.trans (congrArg some (by kernel_rfl))⟩
 f24:=⟨Tryz.f236.name,by decide,Tryz.func236.trans (congrArg some (by kernel_rfl))⟩
 f25:=⟨Tryz.f237.name,by decide,Tryz.func237.trans (congrArg some (by kernel_rfl))⟩
 f26:=⟨Tryz.f238.name,by decide,Tryz.func238.trans (congrArg some (by kernel_rfl))⟩
 f27:=⟨Tryz.f239.name,by decide,Tryz.func239.trans (congrArg some (by kernel_rfl))⟩
 f28:=Tryz.func240.trans (congrArg some (by kernel_rfl))
 f29:=Tryz.func125.trans (congrArg some (by kernel_rfl))
 f46:=⟨Tryz.f271.name,by decide,Tryz.func271.trans (congrArg some (by kernel_rfl))⟩
 f47:=Tryz.func272.trans (congrArg some (by kernel_rfl))
 f48:=Tryz.func273.trans (congrArg some (by kernel_rfl))
 f49:=⟨Tryz.f274.name,by decide,Tryz.func274.trans (congrArg some (by kernel_rfl))⟩
 f50:=⟨Tryz.f275.name,by decide,Tryz.func275.trans (congrArg some (by kernel_rfl))⟩
 f57:=⟨Tryz.f299.name,by decide,Tryz.func299.trans (congrArg some (by kernel_rfl))⟩
 t0:=Tryz.underlying0
 a0:=Tryz.isAgg0
 z0:=Tryz.sizeOf0
 v0:=Tryz.zeroValue0
 t3:=Tryz.underlying3
 a3:=Tryz.isAgg3
 z3:=Tryz.sizeOf3
 v3:=Tryz.zeroValue3
 t4:=Tryz.underlying4
 a4:=Tryz.isAgg4
 z4:=Tryz.sizeOf4
 v4:=Tryz.zeroValue4
 t5:=Tryz.underlying5
 a5:=Tryz.isAgg5
 z5:=Tryz.sizeOf5
 v5:=Tryz.zeroValue5
 t9:=Tryz.underlying9
 a9:=Tryz.isAgg9
 z9:=Tryz.sizeOf9
 v9:=Tryz.zeroValue9
 t22:=Tryz.underlying28
 a22:=Tryz.isAgg28
 z22:=Tryz.sizeOf28
 v22:=Tryz.zeroValue28
 t25:=Tryz.underlying218
 a25:=Tryz.isAgg218
 z25:=Tryz.sizeOf218
 v25:=Tryz.zeroValue218
 t39:=Tryz.underlying209
 a39:=Tryz.isAgg209
 z39:=Tryz.sizeOf209
 v39:=Tryz.zeroValue209
 t45:=Tryz.underlying313
 a45:=Tryz.isAgg313
 z45:=Tryz.sizeOf313
 v45:=Tryz.zeroValue313
 t46:=Tryz.underlying314
 a46:=Tryz.isAgg314
 z46:=Tryz.sizeOf314
 v46:=Tryz.zeroValue314
 t50:=Tryz.underlying100
 a50:=Tryz.isAgg100
 z50:=Tryz.sizeOf100
 v50:=Tryz.zeroValue100
 t53:=Tryz.underlying207
 a53:=Tryz.isAgg207
 z53:=Tryz.sizeOf207
 v53:=Tryz.zeroValue207
 t55:=Tryz.underlying162
 a55:=Tryz.isAgg162
 z55:=Tryz.sizeOf162
 v55:=Tryz.zeroValue162
 t66:=Tryz.underlying338
 a66:=Tryz.isAgg338
 z66:=Tryz.sizeOf338
 v66:=Tryz.zeroValue338
 t70:=Tryz.underlying342
 a70:=Tryz.isAgg342
 z70:=Tryz.sizeOf342
 v70:=Tryz.zeroValue342
 t76:=Tryz.underlying356
 a76:=Tryz.isAgg356
 z76:=Tryz.sizeOf356
 v76:=Tryz.zeroValue356
 t77:=Tryz.underlying357
 a77:=Tryz.isAgg357
 z77:=Tryz.sizeOf357
 v77:=Tryz.zeroValue357 }
def Tryz.laysF223_ren:Go.Shelf.Ren:=⟨fun | 6=>223 | 15=>186 | 14=>268 | 28=>240 | 29=>125 | 20=>291 | 21=>292 | 22=>293 | 23=>294 | 24=>295 | 25=>296 | 26=>297 | 27=>298 | 46=>307 | 47=>272 | 48=>273 | 49=>308 | 50=>309 | 57=>312 | n=>n,fun | 22=>30 | 24=>119 | 25=>301 | 3=>3 | 39=>209 | 0=>0 | 53=>207 | 55=>162 | 4=>4 | 46=>314 | 45=>313 | 50=>100 | 5=>5 | 9=>9 | 66=>338 | 70=>342 | 76=>356 | 77=>357 | n=>n,fun | n=>n⟩
theorem Tryz.laysF223:Go.Proofs.SlLaysF0.n6 Tryz.prog Tryz.laysF223_ren:={
 mixed:=by kernel_rfl
 f6:=⟨Tryz.f223.name,by decide,Tryz.func223.trans (congrArg some (by kernel_rfl))⟩
 f14:=⟨Tryz.f268.name,by decide,Tryz.func268.trans (congrArg some (by kernel_rfl))⟩
 f15:=Tryz.func186.trans (congrArg some (by kernel_rfl))
 f20:=⟨Tryz.f291.name,by decide,Tryz.func291.trans (congrArg some (by kernel_rfl))⟩
 f21:=⟨Tryz.f292.name,by decide,Tryz.func292.trans (congrArg some (by kernel_rfl))⟩
 f22:=⟨Tryz.f293.name,by decide,Tryz.func293.trans (congrArg some (by kernel_rfl))⟩
 f23:=⟨Tryz.f294.name,by decide,Tryz.func294.trans (congrArg some (by kernel_rfl))⟩
 f24:=⟨Tryz.f295.name,by decide,Tryz.func295.trans (congrArg some (by kernel_rfl))⟩
 f25:=⟨Tryz.f296.name,by decide,Tryz.func296.trans (congrArg some (by kernel_rfl))⟩
 f26:=⟨Tryz.f297.name,by decide,Tryz.func297.trans (congrArg some (by kernel_rfl))⟩
 f27:=⟨Tryz.f298.name,by decide,Tryz.func298.trans (congrArg some (by kernel_rfl))⟩
 f28:=Tryz.func240.trans (congrArg some (by kernel_rfl))
 f29:=Tryz.func125.trans (congrArg some (by kernel_rfl))
 f46:=⟨Tryz.f307.name,by decide,Tryz.func307.trans (congrArg some (by kernel_rfl))⟩
 f47:=Tryz.func272.trans (congrArg some (by kernel_rfl))
 f48:=Tryz.func273.trans (congrArg some (by kernel_rfl))
 f49:=⟨Tryz.f308.name,by decide,Tryz.func308.trans (congrArg some (by kernel_rfl))⟩
 f50:=⟨Tryz.f309.name,by decide,Tryz.func309.trans (congrArg some (by kernel_rfl))⟩
 f57:=⟨Tryz.f312.name,by decide,Tryz.func312.trans (congrArg some (by kernel_rfl))⟩
 t0:=Tryz.underlying0
 a0:=Tryz.isAgg0
 z0:=Tryz.sizeOf0
 v0:=Tryz.zeroValue0
 t3:=Tryz.underlying3
 a3:=Tryz.isAgg3
 z3:=Tryz.sizeOf3
 v3:=Tryz.zeroValue3
 t4:=Tryz.underlying4
 a4:=Tryz.isAgg4
 z4:=Tryz.sizeOf4
 v4:=Tryz.zeroValue4
 t5:=Tryz.underlying5
 a5:=Tryz.isAgg5
 z5:=Tryz.sizeOf5
 v5:=Tryz.zeroValue5
 t9:=Tryz.underlying9
 a9:=Tryz.isAgg9
 z9:=Tryz.sizeOf9
 v9:=Tryz.zeroValue9
 t22:=Tryz.underlying30
 a22:=Tryz.isAgg30
 z22:=Tryz.sizeOf30
 v22:=Tryz.zeroValue30
 t25:=Tryz.underlying301
 a25:=Tryz.isAgg301
 z25:=Tryz.sizeOf301
 v25:=Tryz.zeroValue301
 t39:=Tryz.underlying209
 a39:=Tryz.isAgg209
 z39:=Tryz.sizeOf209
 v39:=Tryz.zeroValue209
 t45:=Tryz.underlying313
 a45:=Tryz.isAgg313
 z45:=Tryz.sizeOf313
 v45:=Tryz.zeroValue313
 t46:=Tryz.underlying314
 a46:=Tryz.isAgg314
 z46:=Tryz.sizeOf314
 v46:=Tryz.zeroValue314
 t50:=Tryz.underlying100
 a50:=Tryz.isAgg100
 z50:=Tryz.sizeOf100
 v50:=Tryz.zeroValue100
 t53:=Tryz.underlying207
 a53:=Tryz.isAgg207
 z53:=Tryz.sizeOf207
 v53:=Tryz.zeroValue207
 t55:=Tryz.underlying162
 a55:=Tryz.isAgg162
 z55:=Tryz.sizeOf162
 v55:=Tryz.zeroValue162
 t66:=Tryz.underlying338
 a66:=Tryz.isAgg338
 z66:=Tryz.sizeOf338
 v66:=Tryz.zeroValue338
 t70:=Tryz.underlying342
 a70:=Tryz.isAgg342
 z70:=Tryz.sizeOf342
 v70:=Tryz.zeroValue342
 t76:=Tryz.underlying356
 a76:=Tryz.isAgg356
 z76:=Tryz.sizeOf356
 v76:=Tryz.zeroValue356
 t77:=Tryz.underlying357
 a77:=Tryz.isAgg357
 z77:=Tryz.sizeOf357
 v77:=Tryz.zeroValue357 }
def Tryz.lays169_ren:Go.Shelf.Ren:=⟨fun | 169=>27 | n=>n,fun | 70=>68 | 9=>9 | 0=>0 | 72=>70 | 37=>39 | 127=>113 | 3=>3 | 5=>5 | n=>n,fun | n=>n⟩
theorem Tryz.lays169:Go.Proofs.Lays.n169 Tryz.prog Tryz.lays169_ren:={
 mixed:=by kernel_rfl
 f169:=Tryz.func27.trans (congrArg some (by kernel_rfl))
 t0:=Tryz.underlying0
 a0:=Tryz.isAgg0
 z0:=Tryz.sizeOf0
 v0:=Tryz.zeroValue0
 t3:=Tryz.underlying3
 a3:=Tryz.isAgg3
 z3:=Tryz.sizeOf3
 v3:=Tryz.zeroValue3
 t9:=Tryz.underlying9
 a9:=Tryz.isAgg9
 z9:=Tryz.sizeOf9
 v9:=Tryz.zeroValue9
 t37:=Tryz.underlying39
 a37:=Tryz.isAgg39
 z37:=Tryz.sizeOf39
 v37:=Tryz.zeroValue39
 t70:=Tryz.underlying68
 a70:=Tryz.isAgg68
 z70:=Tryz.sizeOf68
 v70:=Tryz.zeroValue68
 t72:=Tryz.underlying70
 a72:=Tryz.isAgg70
 z72:=Tryz.sizeOf70
 v72:=Tryz.zeroValue70
 t127:=Tryz.underlying113
 a127:=Tryz.isAgg113
 z127:=Tryz.sizeOf113
 v127:=Tryz.zeroValue113 }
theorem Tryz.Builder_Extra_169:Builder.Extra Tryz.prog Tryz.lays169_ren:={
 sizeBuilder:=by kernel_rfl
 liesBuilder:=by kernel_rfl
 t5:=Tryz.underlying5
 a5:=Tryz.isAgg5
 z5:=Tryz.sizeOf5
 v5:=Tryz.zeroValue5
 infoByte:=by kernel_rfl
 cellsByte:=by kernel_rfl
 sizeByte:=by kernel_rfl
 neB5:=by decide }
def Tryz.lays156_ren:Go.Shelf.Ren:=⟨fun | 156=>24 | 165=>42 | 166=>23 | 169=>27 | 240=>41 | 241=>59 | 276=>58 | 277=>92 | n=>n,fun | 31=>22 | 9=>9 | 3=>3 | 4=>4 | 0=>0 | 20=>20 | 72=>70 | 76=>74 | 70=>68 | 37=>39 | 75=>73 | 127=>113 | 164=>142 | 5=>5 | 80=>85 | n=>n,fun | n=>n⟩
theorem Tryz.lays156:Go.Proofs.Lays.n156 Tryz.prog Tryz.lays156_ren:={
 mixed:=by kernel_rfl
 f156:=Tryz.func24.trans (congrArg some (by kernel_rfl))
 f165:=Tryz.func42.trans (congrArg some (by kernel_rfl))
 f166:=Tryz.func23.trans (congrArg some (by kernel_rfl))
 f169:=Tryz.func27.trans (congrArg some (by kernel_rfl))
 f240:=Tryz.func41.trans (congrArg some (by kernel_rfl))
 f241:=Tryz.func59.trans (congrArg some (by kernel_rfl))
 f276:=Tryz.func58.trans (congrArg some (by kernel_rfl))
 f277:=Tryz.func92.trans (congrArg some (by kernel_rfl))
 t0:=Tryz.underlying0
 a0:=Tryz.isAgg0
 z0:=Tryz.sizeOf0
 v0:=Tryz.zeroValue0
 t3:=Tryz.underlying3
 a3:=Tryz.isAgg3
 z3:=Tryz.sizeOf3
 v3:=Tryz.zeroValue3
 t4:=Tryz.underlying4
 a4:=Tryz.isAgg4
 z4:=Tryz.sizeOf4
 v4:=Tryz.zeroValue4
 t9:=Tryz.underlying9
 a9:=Tryz.isAgg9
 z9:=Tryz.sizeOf9
 v9:=Tryz.zeroValue9
 t20:=Tryz.underlying20
 a20:=Tryz.isAgg20
 z20:=Tryz.sizeOf20
 v20:=Tryz.zeroValue20
 t31:=Tryz.underlying22
 a31:=Tryz.isAgg22
 z31:=Tryz.sizeOf22
 v31:=Tryz.zeroValue22
 t37:=Tryz.underlying39
 a37:=Tryz.isAgg39
 z37:=Tryz.sizeOf39
 v37:=Tryz.zeroValue39
 t70:=Tryz.underlying68
 a70:=Tryz.isAgg68
 z70:=Tryz.sizeOf68
 v70:=Tryz.zeroValue68
 t72:=Tryz.underlying70
 a72:=Tryz.isAgg70
 z72:=Tryz.sizeOf70
 v72:=Tryz.zeroValue70
 t75:=Tryz.underlying73
 a75:=Tryz.isAgg73
 z75:=Tryz.sizeOf73
 v75:=Tryz.zeroValue73
 t76:=Tryz.underlying74
 a76:=Tryz.isAgg74
 z76:=Tryz.sizeOf74
 v76:=Tryz.zeroValue74
 t127:=Tryz.underlying113
 a127:=Tryz.isAgg113
 z127:=Tryz.sizeOf113
 v127:=Tryz.zeroValue113
 t164:=Tryz.underlying142
 a164:=Tryz.isAgg142
 z164:=Tryz.sizeOf142
 v164:=Tryz.zeroValue142 }
theorem Tryz.Builder_Extra_156:Builder.Extra Tryz.prog Tryz.lays156_ren:={
 sizeBuilder:=by kernel_rfl
 liesBuilder:=by kernel_rfl
 t5:=Tryz.underlying5
 a5:=Tryz.isAgg5
 z5:=Tryz.sizeOf5
 v5:=Tryz.zeroValue5
 infoByte:=by kernel_rfl
 cellsByte:=by kernel_rfl
 sizeByte:=by kernel_rfl
 neB5:=by decide }
end Go.Proofs
namespace Go.Proofs
open Go Pk Go.RowKit
theorem Tryz.srt136:JG Tryz.prog 136 6 :=
  ⟨fun p cap fv w=>AnyF.slices_SortFunc_none Tryz.laysF136 p cap fv w,
   fun α _ enc hk h1 cf hO g cb blk off cap d w eg hc hH hb hs hT=>AnyQ.slices_SortFunc_total Tryz.laysF136 6 Tryz.isAgg91 Tryz.sizeOf91 enc hk h1 cf hO g cb blk off cap d w eg hc hH hb hs hT⟩
theorem Tryz.srt223:JG Tryz.prog 223 5 :=
  ⟨fun p cap fv w=>AnyF.slices_SortFunc_none Tryz.laysF223 p cap fv w,
   fun α _ enc hk h1 cf hO g cb blk off cap d w eg hc hH hb hs hT=>AnyQ.slices_SortFunc_total Tryz.laysF223 5 Tryz.isAgg119 Tryz.sizeOf119 enc hk h1 cf hO g cb blk off cap d w eg hc hH hb hs hT⟩
theorem Tryz.szB:(Tryz.prog.info? 70).map (·.size)=some 2:=by kernel_rfl
theorem Tryz.liesB:liesAt Tryz.prog Tryz.prog.depth 70 (2/Tryz.prog.cellsOf 70) 0 70 1=true:=by kernel_rfl
theorem Tryz.infoU8:(Tryz.prog.info? 5).map (fun i=>(i.zero,i.size,i.bytes))=some (some (.int .u8 0),1,1):=by kernel_rfl
set_option maxHeartbeats 1000000 in
set_option maxRecDepth 100000 in
theorem Tryz.cc_used (b:Nat) (w:World) (h0:w.cell? ⟨b,0,none⟩=some (.pointer (some ⟨b,0,none⟩))):Calls Tryz.prog 41 #[.pointer (some ⟨b,0,none⟩)] w fun e w'=>e=.returned (.tuple #[])∧w'=w:=by
 obtain ⟨j,hj,_⟩:=Option.map_eq_some_iff.1 Tryz.szB
 go_enter Tryz.func41,Tryz.ntmps41
 go_wp2
 rw [Lib.run_neq_ptr_same w _ Tryz.underlying68 hj]
 go_wp2
 go_end0
 exact ⟨rfl,rfl⟩
set_option maxHeartbeats 1000000 in
set_option maxRecDepth 100000 in
theorem Tryz.cc_new (b:Nat) (w:World) (h0:w.cell? ⟨b,0,none⟩=some (.pointer none)) (hs:w.shape? b=some (70,2)) (hz:w.frozen? ⟨b,0,none⟩=false):Calls Tryz.prog 41 #[.pointer (some ⟨b,0,none⟩)] w fun e w'=>e=.returned (.tuple #[])∧w'=w.setCell ⟨b,0,none⟩ (.pointer (some ⟨b,0,none⟩)):=by
 obtain ⟨j,hj,hjs⟩:=Option.map_eq_some_iff.1 Tryz.szB
 go_enter Tryz.func41,Tryz.ntmps41
 go_wp2
 rw [Lib.run_to_unsafe w ⟨b,0,none⟩ Tryz.underlying68 Tryz.underlying142 hj (by rw [hjs];decide) hs (Nat.zero_lt_succ 1)];simp only [Result.andThen];rw [Oper.upon_value]
 go_wp2
 rw [run_callFunc_extern Tryz.func58 (by kernel_rfl) (by kernel_rfl) (by kernel_rfl) (e:=Extern.AbiNoEscape.same) (by kernel_rfl)];rw [Lib.run_noEscape];simp only [Result.andThen];rw [Oper.upon_value]
 go_wp2
 rw [Lib.run_from_unsafe w ⟨b,0,none⟩ Tryz.underlying142 Tryz.underlying68 hj hs Tryz.liesB];simp only [Result.andThen];rw [Oper.upon_value]
 go_wp2
 go_end0
 exact ⟨rfl,rfl⟩
theorem Tryz.cc_any (B b:Nat) (l:List Value) (w:World) (h:Lib.IsBuilderF 70 5 B b l w):Calls Tryz.prog 41 #[.pointer (some ⟨b,0,none⟩)] w fun e w'=>e=.returned (.tuple #[])∧Lib.BuilderAtF 70 5 B b (.pointer (some ⟨b,0,none⟩)) l w'∧Below B w w':=by
 rcases h with h | h
 ·exact (Tryz.cc_new b w h.cell0 h.shape h.frozen0).mono fun e w' hw=>by
   obtain ⟨rfl,rfl⟩:=hw;exact ⟨rfl,h.used _,(Below.refl B w).setCell (p:=⟨b,0,none⟩) h.1 _⟩
 exact (Tryz.cc_used b w h.cell0).mono fun e w' hw=>by
  obtain ⟨rfl,rfl⟩:=hw;exact ⟨rfl,h,Below.refl B _⟩
set_option maxHeartbeats 2000000 in
set_option maxRecDepth 100000 in
theorem Tryz.bWrite (B b:Nat) (l:List Value) (s:ByteArray) (w:World) (h:Lib.IsBuilderF 70 5 B b l w) (hl:l.length+s.size≤140737488355328) (hB:B≤w.heap.size) :
  Calls Tryz.prog 23 #[.pointer (some ⟨b,0,none⟩),.string s] w fun e w'=>e=.returned (.tuple #[.int .i64 s.size,.nilIface])∧Lib.BuilderAtF 70 5 B b (.pointer (some ⟨b,0,none⟩)) (l++Lib.strCells s) w'∧Below B w w':=by
 obtain ⟨i0,hi,hz0,hz1,hz2⟩:=info_parts Tryz.infoU8;have e41:∀ args w,(callFunc 41 args).run Tryz.prog w=.ok (.enter 41 args) w:=enters_of Tryz.func41 (by kernel_rfl) rfl
 go_enter Tryz.func23,Tryz.ntmps23
 go_wp2_with (go_at_fn 41;refine (Tryz.cc_any B b l _ h).mono ?_)
 rintro e w1 ⟨rfl,⟨hBb,v,hbk,hown,hne⟩,hb1⟩;have c0:w1.cell? ⟨b,0,none⟩=some (.pointer (some ⟨b,0,none⟩)):=by rw [Lib.cell_of_heap hbk];rfl
 have c1:w1.cell? ⟨b,1,none⟩=some v:=by rw [Lib.cell_of_heap hbk];rfl
 go_wp2_with (at_builtin;refine Lib.wpList_append_own_stringF _ rfl _ _ 39 9 rfl B 5 i0 Tryz.underlying39 Tryz.underlying9 hi hz0 hz1 hz2 _ _ _ rfl hown s rfl ?c3 ?c4 ?c5 ?_)
 case c3=>unfold maxLen;omega
 case c4=>omega
 case c5=>have:=hb1.size;omega
 intro v' w2 hown' hgrow _;have hlt:b < w1.heap.size:=(Array.getElem?_eq_some_iff.1 hbk).1;have hb2:w2.heap[b]?=some (.cells #[.pointer (some ⟨b,0,none⟩),v] 70 (0,0)):=by
  rw [hgrow.block b hlt (fun e=>hne e.symm)];exact hbk
 have d0:w2.cell? ⟨b,0,none⟩=some (.pointer (some ⟨b,0,none⟩)):=by rw [Lib.cell_of_heap hb2];rfl
 have d1:w2.cell? ⟨b,1,none⟩=some v:=by rw [Lib.cell_of_heap hb2];rfl
 have f1:w2.frozen? ⟨b,1,none⟩=false:=Lib.frozen_of_heap hb2 1;obtain ⟨ao,n',cap,rfl⟩:∃ ao n' cap,v'=.slice ao n' cap:=by
  rcases hown'.2 with ⟨hv,_⟩ | ⟨g,cap,cur,fz,hv,_⟩
  ·exact ⟨_,_,_,hv⟩
  exact ⟨_,_,_,hv⟩
 go_wp2
 go_ret2
 exact ⟨rfl,Lib.BuilderAtF.put (T:=70) (e:=5) hBb hb2 (bs':=l++Lib.strCells s) (by simpa [Lib.strCells_length] using hown') (by decide),(hb1.grown hgrow (by have:=hb1.size;omega) (fun k hk=>(hown.lt k hk).1)).setCell (p:=⟨b,1,none⟩) hBb _⟩
end Go.Proofs
set_option maxHeartbeats 4000000
namespace T12
open Go Go.Proofs Pk Go.RowKit
structure Gv (M:Prop) (H:Hp):Prop where
 gl:Gl M 2 3 0 H
 mx:∃ m,aM H ⟨1,0,none⟩ [.int .i64 m]
theorem Gv.mono {M:Prop} {H K:Hp} (h:Gv M H) (hk:H.le K):Gv M K:=⟨h.gl.mono hk,h.mx.imp fun _ hm=>hm.mono hk⟩
noncomputable def YO (s:aF):Option (Int×Bool):=CP s
noncomputable def sZ (n:Int):Option aF:=yM n
noncomputable def RA (s t:aF):Option (aF×aF×Bool):=cD (s.length≤1073741824) (some (Lib.cut s t))
theorem YP (s:aF):(bs s).data.toList=s:=by simp [bs]
theorem w87 {M:Prop} {W:World} {H:Hp} (hH:H.le (hp W)) (hg:Gv M H) (s:aF) {r:Int×Bool} (hr:YO s=some r):Calls Tryz.prog 87 #[.string (bs s)] W (eQ M H W (fun v K=>∃ (er1:Value),v=.tuple #[.int .i64 r.1,er1]∧Er er1 r.2)):=by
 unfold YO CP at hr;obtain ⟨hl,hr⟩:=aG hr;obtain rfl:=Option.some.inj hr;have hz:(bs s).size=s.length:=fO s;obtain ⟨e0,h0,i0⟩:=hg.gl.syn;obtain ⟨e1,h1,i1⟩:=hg.gl.rng
 cases h:Lib.atoiAll s with
 | ok v =>
  refine (Any.strconv_Atoi_ok Tryz.laysC172 (bs s) (by omega) v (by rw [YP];exact h) W).mono ?_;rintro e w' ⟨rfl,hw⟩;refine ⟨⟨_,by simp [kG,h],.inl ⟨by simp [kG,h],rfl⟩⟩,?_⟩;rcases hw with rfl | ⟨t,rfl⟩
  ·exact fW.refl _ _
  exact fW.of_below hg.gl.nq (Lib.bytesWorld_below _ _ _)
 | range =>
  refine (Any.strconv_Atoi_range Tryz.laysC172 (bs s) (by omega) (by rw [YP];exact h) e1 W (rQ hH h1) i1).mono ?_;rintro e w' ⟨N,rfl,_,_,hb⟩;have hr1:kG s=(Lib.atoiSat s,true):=by simp [kG,h]
  rw [hr1,YP];exact ⟨⟨_,rfl,.inr ⟨rfl,_,_,rfl⟩⟩,fW.of_below hg.gl.nq hb⟩
 | _ =>
  refine (Any.strconv_Atoi_syntax Tryz.laysC172 (bs s) (by omega) (by rw [YP];exact h) e0 W (rQ hH h0) i0).mono ?_;rintro e w' ⟨N,rfl,_,_,hb⟩;have hr1:kG s=(0,true):=by simp [kG,h]
  rw [hr1];exact ⟨⟨_,rfl,.inr ⟨rfl,_,_,rfl⟩⟩,fW.of_below hg.gl.nq hb⟩
theorem MP {W:World} {H:Hp} (hH:H.le (hp W)) {M:Prop} (hg:Gv M H) (n:Int) (h1 : -9223372036854775808≤n) (h2:n≤9223372036854775807):Calls Tryz.prog 21 #[.int .i64 n] W fun e w'=>e=.returned (.string (bs (Lib.itoa n)))∧∃ k os,w'=Sort.grow (W.drewN k) os:=by
 refine (Any.strconv_Itoa Tryz.laysM171 n h1 h2 W (CO (by kernel_rfl) hH hg.gl.tab)).mono ?_;rintro e w' ⟨rfl,k,os,rfl⟩;exact ⟨rfl,k,os,rfl⟩
theorem uJ (M:Prop) (W:World) (k:Nat) (os:Array Obj):fW M W (Sort.grow (W.drewN k) os) :=
 ⟨rfl,rfl,rfl,(by show W.heap.size≤(W.heap++os).size;rw [Array.size_append];omega),fun b hb=>Array.getElem?_append_left hb,fun _=>Nat.le_add_right _ _⟩
theorem AE {M:Prop} {W:World} {H:Hp} (hH:H.le (hp W)) (hg:Gv M H) (n:Int) {r:aF} (hr:sZ n=some r):Calls Tryz.prog 21 #[.int .i64 n] W (bU M W (.string (bs r))):=by
 unfold sZ yM at hr;obtain ⟨hl,hr⟩:=aG hr;obtain rfl:=Option.some.inj hr;refine (MP hH hg n hl.1 hl.2).mono ?_;rintro e w' ⟨rfl,k,os,rfl⟩;exact ⟨rfl,uJ M W k os⟩
theorem w49 {M:Prop} {W:World} {H:Hp} (hH:H.le (hp W)) (hg:Gv M H) (s t:aF) {r:aF×aF×Bool} (hr:RA s t=some r):Calls Tryz.prog 49 #[.string (bs s),.string (bs t)] W (bU M W (.tuple #[.string (bs r.1),.string (bs r.2.1),.bool r.2.2])):=by
 unfold RA at hr;obtain ⟨hl,hr⟩:=aG hr;obtain rfl:=Option.some.inj hr;obtain ⟨m,hm⟩:=hg.mx;refine (Any.strings_Cut Tryz.lays145 (bs s) (bs t) m W (by rw [fO];omega) (rQ hH hm)).mono ?_;rintro e w' ⟨rfl,k,rfl⟩;refine ⟨by simp [bs],?_⟩;exact ⟨rfl,rfl,rfl,Nat.le_refl _,fun _ _=>rfl,fun _=>Nat.le_add_right _ _⟩
noncomputable def wG (l:List aF) (sep:aF):Option aF:=cD (l.length≤1073741824∧(Lib.join l sep).length≤1073741824) (some (Lib.join l sep))
theorem JN {M:Prop} {W:World} {H:Hp} (hH:H.le (hp W)) (hg:Gv M H) {ad:Option Addr} {cap:Nat} {l:List aF} (hl:Sl (aE cC) 1 H ad cap l) (sep:aF) {r:aF} (hr:wG l sep=some r):Calls Tryz.prog 24 #[.slice ad l.length cap,.string (bs sep)] W (bU M W (.string (bs r))):=by
 unfold wG at hr;obtain ⟨hb,hr⟩:=aG hr;obtain rfl:=Option.some.inj hr;have hx:(l.map bs).map (·.data.toList)=l:=by
  rw [List.map_map]
  conv=>rhs;rw [← List.map_id l]
  exact List.map_congr_left fun x _=>by simp [bs]
 cases l with
 | nil =>
  refine (Any.strings_Join_none Tryz.lays156 Tryz.Builder_Extra_156 ad cap (bs sep) W).mono ?_;rintro e w' ⟨rfl,rfl⟩;exact ⟨by simp [bs,Lib.join_nil],fW.refl _ _⟩
 | cons x l =>
  obtain ⟨p,cs,rfl,hp0,h2,h3,h4⟩:=hl.2 0 x rfl;obtain ⟨b,o,sp⟩:=p;obtain rfl:sp=none:=hp0;have hcell:∀ (j:Nat) y,((x::l).map bs)[j]?=some y→W.cell? ⟨b,o+j,none⟩=some (.string y):=fun j y hy=>by
   rw [List.getElem?_map,Option.map_eq_some_iff] at hy;obtain ⟨z,hz,rfl⟩:=hy;obtain ⟨p,cs,h1,_,_,h3,h4⟩:=hl.2 j z hz;cases h1;have h4:cs=cC z:=h4;subst h4;have:=(h3.mono hH).cell (j:=0) (v:=.string (bs z)) rfl;have e:((⟨b,o,none⟩:Addr).add (j*1)).add 0=⟨b,o+j,none⟩:=by rw [Nat.mul_one,dU (i:=j) rfl];rfl
   rwa [e] at this
  have hlt:b < W.heap.size:=by
   have h4:cs=cC x:=h4;subst h4;obtain ⟨c,ty,fz,h5,_⟩:=h3.2 0 (.string (bs x)) rfl;have h6:=hH _ _ h5;rw [Nat.zero_mul,dU rfl] at h6;exact (Array.getElem?_eq_some_iff.1 h6).1
  have hn:((x::l).map bs).length=(x::l).length:=List.length_map _;have:=Any.strings_Join Tryz.lays156 Tryz.Builder_Extra_156 b o cap ((x::l).map bs) (bs sep) W hcell hlt (by rw [hn];omega) (by rw [hn];exact hl.1.1) (by rw [hx,show (bs sep).data.toList=sep by simp [bs]];omega);rw [hx,hn] at this;refine this.mono ?_;rintro e w' ⟨rfl,hw⟩;exact ⟨by simp [bs],fW.of_below hg.gl.nq hw⟩
end T12
set_option maxHeartbeats 4000000
namespace T12
open Go Go.Proofs Pk Go.RowKit
def uK:Any→aF
 | .i n=>Lib.itoa n
 | .s b=>b
def MQ:Any→Prop
 | .i n=>-9223372036854775808≤n∧n≤9223372036854775807
 | .s _=>True
instance:(x:Any)→Decidable (MQ x)
 | .i _=>inferInstanceAs (Decidable (_∧_))
 | .s _=>inferInstanceAs (Decidable True)
def gA (l:List Any):aF:=l.flatMap uK
noncomputable def wH (l:List Any):Option aF:=cD ((∀ x∈l,MQ x)∧(gA l).length≤1073741824) (some (gA l))
theorem rG {T e:TypeId} {B b:Nat} {p:Value} {l:List Value} {W W':World} (h:Lib.BuilderAtF T e B b p l W) (hb:Below W.heap.size W W'):Lib.BuilderAtF T e B b p l W':=by
 have hlt:=h.lt;obtain ⟨hB,v,hv,hown,hne⟩:=h;exact ⟨hB,v,(hb.block b hlt).trans hv,hown.kept (row:=none) ⟨hb.os,hb.tape,hb.output,hb.size,fun k hk _=>hb.block k hk⟩ (Classical.em _),hne⟩
theorem AF {T e:TypeId} {B b:Nat} {l:List Value} {W W':World} (h:Lib.IsBuilderF T e B b l W) (hb:Below W.heap.size W W'):Lib.IsBuilderF T e B b l W' :=
 h.elim (fun x=>.inl (rG x hb)) (fun x=>.inr (rG x hb))
theorem wI (W:World) (k:Nat) (os:Array Obj):Below W.heap.size W (Sort.grow (W.drewN k) os) :=
 ⟨rfl,rfl,rfl,(by show W.heap.size≤(W.heap++os).size;rw [Array.size_append];omega),fun b hb=>Array.getElem?_append_left hb⟩
theorem wJ {l:List Any} {i:Nat} {x:Any} (h:l[i]?=some x):gA (l.take (i+1))=gA (l.take i)++uK x:=by
 unfold gA;rw [List.take_succ,h];simp
theorem DE {l:List Any} (i:Nat):(gA (l.take i)).length≤(gA l).length:=by
 have:gA l=gA (l.take i)++gA (l.drop i):=by unfold gA;rw [← List.flatMap_append,List.take_append_drop]
 rw [this];simp
section
variable {P:Program} {r:Option Nat} {n:aZ} {p:List PanicEntry→aZ} {a:Act} {w:World} {D:List Deferred} {k:Nat} {L:cG} {ops:Array Oper} {rest:List Oper} {d:Nat} {ty:TypeId} {pos:String} {af:Array Edge}
theorem MR {y:Operand} {xT t:TypeId} {v:Value} {ds:TypeDesc} (hA:aX D k a L) (hd:Nat.blt d k=true) (hu:P.underlying t=some ds) (hds:(match ds with | .interface _=>false | _=>true)=true) (hy:ev L y=some (.iface t v))
  (h:∀ a,aX D k a ((d,.tuple #[v,.bool true])::L)→O P r ops n p rest a w):O P r ops n p (⟨some d,.typeAssert y xT t true,ty,pos,af,none⟩::rest) a w :=
 cQ rfl (fun _ h=>by cases h) (w':=w) (v:=.tuple #[v,.bool true]) (by
  simp only [execOp,Instr.typeAssert,hA.eval hy]
  cases ds <;> simp at hds <;> simp [run_underlying hu,Result.andThen]) (h _ (hA.put hd _))
theorem TF {y:Operand} {xT t t':TypeId} {v z:Value} {ds:TypeDesc} (hA:aX D k a L) (hd:Nat.blt d k=true) (hu:P.underlying t=some ds) (hds:(match ds with | .interface _=>false | _=>true)=true) (hz:∀ w,(zeroValue t).run P w=.ok z w) (hne:Nat.beq t' t=false) (hy:ev L y=some (.iface t' v))
  (h:∀ a,aX D k a ((d,.tuple #[z,.bool false])::L)→O P r ops n p rest a w):O P r ops n p (⟨some d,.typeAssert y xT t true,ty,pos,af,none⟩::rest) a w:=by
 have hn:¬t'=t:=OI hne
 exact cQ rfl (fun _ h=>by cases h) (w':=w) (v:=.tuple #[z,.bool false]) (by
  simp only [execOp,Instr.typeAssert,hA.eval hy]
  cases ds <;> simp at hds <;> simp [run_underlying hu,Result.andThen,hn,hz]) (h _ (hA.put hd _))
theorem rX {x:Operand} {xs:List Operand} {ats:Array TypeId} {f:FuncId} {vs:List Value} {v:Value} {R:World→Prop} (hA:aX D k a L) (hd:Nat.blt d k=true) (hf:ev L x=some (.func (.func f) #[] #[])) (hxs:kZ L xs=some vs)
  (hcall:∀ args w,(callFunc f args).run P w=.ok (.enter f args) w) (hc:Calls P f vs.toArray w fun e w'=>e=.returned v∧R w') (h:∀ w',R w'→∀ a,aX D k a ((d,v)::L)→O P r ops n p rest a w') :
  O P r ops n p (⟨some d,.call ⟨.value x,xs.toArray,ats⟩,ty,pos,af,none⟩::rest) a w:=by
 refine gY rfl (fun _ h=>by cases h) (fJ (first:=#[]) (cap:=#[]) hA hf hxs hcall) (by simpa using hc) ?_ ?_ ?_
 ·intro v' w' hv;obtain ⟨e,hR⟩:=hv;cases e;exact h w' hR _ (hA.put hd _)
 ·intro ch w' hv;cases hv.1
 intro w' hv;cases hv.1
end
theorem OZ {M:Prop} {W:World} {H:Hp} (hH:H.le (hp W)) (hg:Gv M H) {ad_p0_:Option Addr} {cap_p0_:Nat} {p0_:List Any} (h_p0_:Sl (aE pO) 1 H ad_p0_ cap_p0_ p0_) {r:aF} (hr:wH p0_=some r):Calls Tryz.prog 148 #[.slice ad_p0_ p0_.length cap_p0_] W (bU M W (.string (bs r))):=by
 unfold wH at hr;obtain ⟨⟨hok,hlen⟩,hr⟩:=aG hr;obtain rfl:=Option.some.inj hr;refine enter Tryz.func148 rfl Tryz.ntmps148 rfl ?_;intro a hA;refine gK (dI (fH hA rfl rfl fun a hA=>?_));refine fV (gK (dI (cQ rfl (fun _ h=>by cases h) (w':=W.alloc (.cells #[.pointer none,.slice none 0 0] 70)) (v:=.pointer (some ⟨W.heap.size,0,none⟩)) (by simp [execOp,Instr.alloc,Tryz.zeroValue70,jX,Value.cells]) ?_)));have hA1:=hA.put (d:=3) rfl (.pointer (some ⟨W.heap.size,0,none⟩));have hB1:Lib.IsBuilderF 70 5 W.heap.size W.heap.size (Lib.byteCells (gA (p0_.take 0))) (W.alloc (.cells #[.pointer none,.slice none 0 0] 70)):=(Lib.fresh_isBuilder 70 5 W).elim (fun h=>.inl (.of h)) (fun h=>.inr (.of h));have hW1:Below W.heap.size W (W.alloc (.cells #[.pointer none,.slice none 0 0] 70)):=(Below.refl _ _).alloc (Nat.le_refl _) _;generalize (a.put (some 3) (.pointer (some ⟨W.heap.size,0,none⟩)))=a1 at hA1 ⊢;generalize (W.alloc (.cells #[.pointer none,.slice none 0 0] 70))=w1 at hB1 hW1 ⊢;refine fV (gK (gK (dI (gG hA1 rfl rfl fun a hA=>ME hA rfl rfl Tryz.underlying279 fun a hA=>gG hA rfl rfl fun a hA=>?_))));refine fV (mC (BU (fun j a w=>∃ i,i≤p0_.length∧j=p0_.length - i∧aX [] 35 a [(3,.pointer (some ⟨W.heap.size,0,none⟩)),(10,.slice ad_p0_ p0_.length cap_p0_),(11,.int .i64 p0_.length),(12,.int .i64 i)]∧Lib.IsBuilderF 70 5 W.heap.size W.heap.size (Lib.byteCells (gA (p0_.take i))) w∧Below W.heap.size W w) (j:=p0_.length) ⟨0,Nat.zero_le _,rfl,hA.cut ⟨rfl,rfl,rfl,rfl,trivial⟩,hB1,hW1⟩ ?_));rintro j a w ⟨i,hil,rfl,hA,hB,hW⟩;have hll:=h_p0_.len;refine gK (dI (RT hA rfl rfl rfl fun a hA=>fV (gK (RM hA rfl (fun hc=>BS ?_) (fun hc=>BT rfl ?_)))))
 ·have hi:i < p0_.length:=by omega
  obtain ⟨x,hx⟩:∃ x,p0_[i]?=some x:=⟨_,List.getElem?_eq_getElem hi⟩;have hxok:=hok x (List.mem_of_getElem? hx);have hHw:H.le (hp w):=hH.trans (fW.of_below hg.gl.nq hW).le;have hlen2:(gA (p0_.take (i+1))).length≤1073741824:=Nat.le_trans (DE _) hlen;have hst:=wJ hx;have hcnt:(gA (p0_.take i)).length+(uK x).length≤1073741824:=by rw [hst,List.length_append] at hlen2;exact hlen2
  have hBle:W.heap.size≤w.heap.size:=hW.size;refine gK (pA (n:=fun a w'=>aX [] 35 a [(3,.pointer (some ⟨W.heap.size,0,none⟩)),(10,.slice ad_p0_ p0_.length cap_p0_),(11,.int .i64 p0_.length),(12,.int .i64 i)]∧Lib.BuilderAtF 70 5 W.heap.size W.heap.size (.pointer (some ⟨W.heap.size,0,none⟩)) (Lib.byteCells (gA (p0_.take i))++Lib.strCells (bs (uK x))) w'∧Below W.heap.size W w') ?_ (fun _ _ h=>h) (fun _ K _ _ hK h=>⟨K,hK,h⟩) (fun _ _ _ h=>h) ?_)
  ·rintro a w' ⟨hA,hB,hW⟩;exact dI (MB hA rfl rfl rfl (by omega) (by omega) fun a hA=>gG hA rfl rfl fun a hA=>fV ⟨p0_.length - (i+1),by omega,i+1,by omega,rfl,hA.cut ⟨rfl,rfl,rfl,by simp [lk],trivial⟩,.inr (by rw [hst];unfold Lib.byteCells at *;rw [List.map_append];exact hB),hW⟩)
  refine mC (gK (dI (ZI hA rfl rfl rfl Tryz.underlying279 Tryz.sizeOf20 (h_p0_.mono (aE.mono _) hHw) rfl rfl hx fun q cs hq hcs hf a hA=>vT (v:=SR x) hA rfl rfl Tryz.isAgg20 hq (by rw [show cs=pO x from hf];rfl) fun a hA=>fH hA rfl rfl fun a hA=>fV ?_)));clear hf hq hcs
  cases x with
  | i z =>
   refine gK (dI (gG hA rfl rfl fun a hA=>MR hA rfl Tryz.underlying3 rfl rfl fun a hA=>gG hA rfl rfl fun a hA=>mF (vs:=[.int .i64 z,.bool true]) hA rfl rfl rfl fun a hA=>mF (vs:=[.int .i64 z,.bool true]) hA rfl rfl rfl fun a hA=>fH hA rfl rfl fun a hA=>fH hA rfl rfl fun a hA=>fV ?_));refine gK (dI (gG hA rfl rfl fun a hA=>fV (jE hA rfl (fun _=>?_) (fun h=>by cases h))));refine dI (gG hA rfl rfl fun a hA=>rX (x:=.func 21) (xs:=[.tmp 22]) hA rfl rfl rfl Tryz.call21 (MP hHw hg z hxok.1 hxok.2) ?_);rintro w' ⟨k,os,rfl⟩ a hA;have hb:=wI w k os;have hW':=hW.trans (hb.mono hBle);refine rX (x:=.func 23) (xs:=[.tmp 3,.tmp 23]) hA rfl rfl rfl Tryz.call23 (Tryz.bWrite W.heap.size W.heap.size _ (bs (Lib.itoa z)) _ (AF hB hb) ?_ hW'.size) ?_
   ·rw [Lib.byteCells_length,fO];have:(Lib.itoa z).length=(uK (.i z)).length:=rfl;omega
   rintro w' ⟨hB',hW2⟩ a hA;exact fV ⟨hA.cut ⟨rfl,rfl,rfl,rfl,trivial⟩,hB',hW'.trans hW2⟩
  | s z =>
   refine gK (dI (gG hA rfl rfl fun a hA=>TF hA rfl Tryz.underlying3 rfl Tryz.zeroValue3 rfl rfl fun a hA=>gG hA rfl rfl fun a hA=>mF (vs:=[.int .i64 0,.bool false]) hA rfl rfl rfl fun a hA=>mF (vs:=[.int .i64 0,.bool false]) hA rfl rfl rfl fun a hA=>fH hA rfl rfl fun a hA=>fH hA rfl rfl fun a hA=>fV ?_));refine gK (dI (gG hA rfl rfl fun a hA=>fV (jE hA rfl (fun h=>by cases h) (fun _=>?_))));refine gK (dI (gG hA rfl rfl fun a hA=>MR hA rfl Tryz.underlying9 rfl rfl fun a hA=>gG hA rfl rfl fun a hA=>mF (vs:=[.string (bs z),.bool true]) hA rfl rfl rfl fun a hA=>mF (vs:=[.string (bs z),.bool true]) hA rfl rfl rfl fun a hA=>fH hA rfl rfl fun a hA=>fH hA rfl rfl fun a hA=>fV ?_));refine gK (dI (gG hA rfl rfl fun a hA=>fV (jE hA rfl (fun _=>?_) (fun h=>by cases h))));refine dI (gG hA rfl rfl fun a hA=>rX (x:=.func 23) (xs:=[.tmp 3,.tmp 31]) hA rfl rfl rfl Tryz.call23 (Tryz.bWrite W.heap.size W.heap.size _ (bs z) _ hB ?_ hBle) ?_)
   ·rw [Lib.byteCells_length,fO];have:z.length=(uK (.s z)).length:=rfl;omega
   rintro w' ⟨hB',hW2⟩ a hA;exact fV ⟨hA.cut ⟨rfl,rfl,rfl,rfl,trivial⟩,hB',hW.trans hW2⟩
 have hi:i=p0_.length:=by omega
 subst hi;rw [List.take_length] at hB;refine gK (dI (rX (x:=.func 27) (xs:=[.tmp 3]) hA rfl rfl rfl Tryz.call27 (Any.Builder_String_any_f Tryz.lays169 Tryz.Builder_Extra_169 W.heap.size W.heap.size (gA p0_) w hB hW.size) ?_));rintro w' ⟨hB',hW'⟩ a hA;refine fH hA rfl rfl fun a hA=>fV (MA (dV hA rfl rfl ?_));exact ⟨rfl,fW.of_below hg.gl.nq (hW.trans hW')⟩
end T12
namespace T12
open Go Go.Proofs Pk Tryz
theorem J.{u} {α:Sort u} {a:α}:a=a:=rfl
structure aI where
 anchor:Int
 text:aF
 deriving DecidableEq,Inhabited
def aN (x:aI):List Value:=[.int .i64 x.anchor,.string (bs x.text)]
structure eB where
 day:Int
 paragraphs:List aI
 deriving DecidableEq,Inhabited
def bV:Hp→List Value→eB→Prop:=fun H cs x=>∃ (ad0:Option Addr) (cap0:Nat),cs=[.int .i64 x.day,.slice ad0 x.paragraphs.length cap0]∧Sl (aE aN) 2 H ad0 cap0 x.paragraphs
theorem bV.one:oK bV:=fun _ _ _ ⟨_,_,h,_⟩=>by subst h;rfl
theorem bV.mono:gZ bV:=fun _ _ _ _ hk ⟨a0,c0,h,f0⟩=>⟨a0,c0,h,f0.mono (aE.mono _) hk⟩
structure bN where
 number:Int
 bound:Int
 height:Int
 width:Int
 parts:List eB
 deriving DecidableEq,Inhabited
def bQ:Hp→List Value→bN→Prop:=fun H cs x=>∃ (ad0:Option Addr) (cap0:Nat),cs=[.int .i64 x.number,.int .i64 x.bound,.int .i64 x.height,.int .i64 x.width,.slice ad0 x.parts.length cap0]∧Sl (bV) 2 H ad0 cap0 x.parts
theorem bQ.one:oK bQ:=fun _ _ _ ⟨_,_,h,_⟩=>by subst h;rfl
theorem bQ.mono:gZ bQ:=fun _ _ _ _ hk ⟨a0,c0,h,f0⟩=>⟨a0,c0,h,f0.mono (bV.mono) hk⟩
structure aR where
 number:Int
 day:Int
 kind:Int
 anchor:Int
 text:aF
 new_:Int
 deriving DecidableEq,Inhabited
def aO (x:aR):List Value:=[.int .i64 x.number,.int .i64 x.day,.int .u8 x.kind,.int .i64 x.anchor,.string (bs x.text),.int .i64 x.new_]
structure gX where
 anchor:Int
 kind:Int
 until_:Int
 deriving DecidableEq,Inhabited
def eL (x:gX):List Value:=[.int .i64 x.anchor,.int .i64 x.kind,.int .i64 x.until_]
structure aW where
 number:Int
 of:Int
 from_:Int
 to_:Int
 words:List aF
 deriving DecidableEq,Inhabited
def bA:Hp→List Value→aW→Prop:=fun H cs x=>∃ (ad0:Option Addr) (cap0:Nat),cs=[.int .i64 x.number,.int .i64 x.of,.int .i64 x.from_,.int .i64 x.to_,.slice ad0 x.words.length cap0]∧Sl (aE cC) 1 H ad0 cap0 x.words
theorem bA.one:oK bA:=fun _ _ _ ⟨_,_,h,_⟩=>by subst h;rfl
theorem bA.mono:gZ bA:=fun _ _ _ _ hk ⟨a0,c0,h,f0⟩=>⟨a0,c0,h,f0.mono (aE.mono _) hk⟩
structure bL where
 words:List aF
 papers:List aW
 deriving DecidableEq,Inhabited
def cK:Hp→List Value→bL→Prop:=fun H cs x=>∃ (ad0:Option Addr) (cap0:Nat) (ad1:Option Addr) (cap1:Nat),cs=[.slice ad0 x.words.length cap0,.slice ad1 x.papers.length cap1]∧Sl (aE cC) 1 H ad0 cap0 x.words∧Sl (bA) 5 H ad1 cap1 x.papers
theorem cK.one:oK cK:=fun _ _ _ ⟨_,_,_,_,h,_⟩=>by subst h;rfl
theorem cK.mono:gZ cK:=fun _ _ _ _ hk ⟨a0,c0,a1,c1,h,f0,f1⟩=>⟨a0,c0,a1,c1,h,f0.mono (aE.mono _) hk,f1.mono (bA.mono) hk⟩
structure bP where
 e0:List Int
 e1:List Int
 deriving DecidableEq,Inhabited
def iI:Hp→List Value→bP→Prop:=fun H cs x=>∃ (ad0:Option Addr) (cap0:Nat) (ad1:Option Addr) (cap1:Nat),cs=[.slice ad0 x.e0.length cap0,.slice ad1 x.e1.length cap1]∧Sl (aE (bZ .i64)) 1 H ad0 cap0 x.e0∧Sl (aE (bZ .i64)) 1 H ad1 cap1 x.e1
theorem iI.one:oK iI:=fun _ _ _ ⟨_,_,_,_,h,_⟩=>by subst h;rfl
theorem iI.mono:gZ iI:=fun _ _ _ _ hk ⟨a0,c0,a1,c1,h,f0,f1⟩=>⟨a0,c0,a1,c1,h,f0.mono (aE.mono _) hk,f1.mono (aE.mono _) hk⟩
structure fC where
 a:Int
 b:Int
 deriving DecidableEq,Inhabited
def eF (x:fC):List Value:=[.int .i64 x.a,.int .i64 x.b]
structure dX where
 holder:Int
 for_:Int
 deriving DecidableEq,Inhabited
def eA (x:dX):List Value:=[.int .i64 x.holder,.int .i64 x.for_]
structure aT where
 members:Int
 ayes:bP
 noes:bP
 pairs:List fC
 proxies:List dX
 rule:Int
 need:Int
 quorum:Int
 tie:Int
 deriving DecidableEq,Inhabited
structure YQ where
 a0:Option Addr
 c0:Nat
 a1:Option Addr
 c1:Nat
 a2:Option Addr
 c2:Nat
 a3:Option Addr
 c3:Nat
 a4:Option Addr
 c4:Nat
 a5:Option Addr
 c5:Nat
abbrev dF (x:aT) (z:YQ):List Value:=[.int .i64 x.members,.slice z.a0 x.ayes.e0.length z.c0,.slice z.a1 x.ayes.e1.length z.c1,.slice z.a2 x.noes.e0.length z.c2,.slice z.a3 x.noes.e1.length z.c3,.slice z.a4 x.pairs.length z.c4,.slice z.a5 x.proxies.length z.c5,.int .u8 x.rule,.int .i64 x.need,.int .i64 x.quorum,.int .u8 x.tie]
structure iQ (H:Hp) (x:aT) (z:YQ):Prop where
 f0:Sl (aE (bZ .i64)) 1 H z.a0 z.c0 x.ayes.e0
 f1:Sl (aE (bZ .i64)) 1 H z.a1 z.c1 x.ayes.e1
 f2:Sl (aE (bZ .i64)) 1 H z.a2 z.c2 x.noes.e0
 f3:Sl (aE (bZ .i64)) 1 H z.a3 z.c3 x.noes.e1
 f4:Sl (aE eF) 2 H z.a4 z.c4 x.pairs
 f5:Sl (aE eA) 2 H z.a5 z.c5 x.proxies
theorem iQ.mono {H K:Hp} {x:aT} {z:YQ} (h:iQ H x z) (k:H.le K):iQ K x z:=⟨h.f0.mono (aE.mono _) k,h.f1.mono (aE.mono _) k,h.f2.mono (aE.mono _) k,h.f3.mono (aE.mono _) k,h.f4.mono (aE.mono _) k,h.f5.mono (aE.mono _) k⟩
theorem iQ.lens {H:Hp} {x:aT} {z:YQ} (h:iQ H x z):x.ayes.e0.length≤9223372036854775807∧x.ayes.e1.length≤9223372036854775807∧x.noes.e0.length≤9223372036854775807∧x.noes.e1.length≤9223372036854775807∧x.pairs.length≤9223372036854775807∧x.proxies.length≤9223372036854775807:=⟨h.f0.len,h.f1.len,h.f2.len,h.f3.len,h.f4.len,h.f5.len⟩
def bT:Hp→List Value→aT→Prop:=fun H cs x=>∃ z,cs=dF x z∧iQ H x z
theorem bT.one:oK bT:=fun _ _ _ ⟨_,h,_⟩=>by subst h;rfl
theorem bT.mono:gZ bT:=fun _ _ _ _ hk ⟨z,h,f⟩=>⟨z,h,f.mono hk⟩
structure cU where
 day:Int
 house:Int
 volume:bN
 bound:Bool
 errata:List aR
 hides:List gX
 cites:List aF
 motion:bL
 moved:Bool
 choice:List Int
 division:aT
 open_:Bool
 results:List UInt8
 deriving DecidableEq,Inhabited
structure uL where
 a0:Option Addr
 c0:Nat
 a1:Option Addr
 c1:Nat
 a2:Option Addr
 c2:Nat
 a3:Option Addr
 c3:Nat
 a4:Option Addr
 c4:Nat
 a5:Option Addr
 c5:Nat
 a6:Option Addr
 c6:Nat
 a7:Option Addr
 c7:Nat
 a8:Option Addr
 c8:Nat
 a9:Option Addr
 c9:Nat
 a10:Option Addr
 c10:Nat
 a11:Option Addr
 c11:Nat
 a12:Option Addr
 c12:Nat
 a13:Option Addr
 c13:Nat
abbrev cJ (x:cU) (z:uL):List Value:=[.int .i64 x.day,.int .i64 x.house,.int .i64 x.volume.number,.int .i64 x.volume.bound,.int .i64 x.volume.height,.int .i64 x.volume.width,.slice z.a0 x.volume.parts.length z.c0,.bool x.bound,.slice z.a1 x.errata.length z.c1,.slice z.a2 x.hides.length z.c2,.slice z.a3 x.cites.length z.c3,.slice z.a4 x.motion.words.length z.c4,.slice z.a5 x.motion.papers.length z.c5,.bool x.moved,.slice z.a6 x.choice.length z.c6,.int .i64 x.division.members,.slice z.a7 x.division.ayes.e0.length z.c7,.slice z.a8 x.division.ayes.e1.length z.c8,.slice z.a9 x.division.noes.e0.length z.c9,.slice z.a10 x.division.noes.e1.length z.c10,.slice z.a11 x.division.pairs.length z.c11,.slice z.a12 x.division.proxies.length z.c12,.int .u8 x.division.rule,.int .i64 x.division.need,.int .i64 x.division.quorum,.int .u8 x.division.tie,.bool x.open_,.slice z.a13 x.results.length z.c13]
structure nQ (H:Hp) (x:cU) (z:uL):Prop where
 f0:Sl (bV) 2 H z.a0 z.c0 x.volume.parts
 f1:Sl (aE aO) 6 H z.a1 z.c1 x.errata
 f2:Sl (aE eL) 3 H z.a2 z.c2 x.hides
 f3:Sl (aE cC) 1 H z.a3 z.c3 x.cites
 f4:Sl (aE cC) 1 H z.a4 z.c4 x.motion.words
 f5:Sl (bA) 5 H z.a5 z.c5 x.motion.papers
 f6:Sl (aE (bZ .i64)) 1 H z.a6 z.c6 x.choice
 f7:Sl (aE (bZ .i64)) 1 H z.a7 z.c7 x.division.ayes.e0
 f8:Sl (aE (bZ .i64)) 1 H z.a8 z.c8 x.division.ayes.e1
 f9:Sl (aE (bZ .i64)) 1 H z.a9 z.c9 x.division.noes.e0
 f10:Sl (aE (bZ .i64)) 1 H z.a10 z.c10 x.division.noes.e1
 f11:Sl (aE eF) 2 H z.a11 z.c11 x.division.pairs
 f12:Sl (aE eA) 2 H z.a12 z.c12 x.division.proxies
 f13:Sl (aE bW) 1 H z.a13 z.c13 x.results
theorem nQ.mono {H K:Hp} {x:cU} {z:uL} (h:nQ H x z) (k:H.le K):nQ K x z:=⟨h.f0.mono (bV.mono) k,h.f1.mono (aE.mono _) k,h.f2.mono (aE.mono _) k,h.f3.mono (aE.mono _) k,h.f4.mono (aE.mono _) k,h.f5.mono (bA.mono) k,h.f6.mono (aE.mono _) k,h.f7.mono (aE.mono _) k,h.f8.mono (aE.mono _) k,h.f9.mono (aE.mono _) k,h.f10.mono (aE.mono _) k,h.f11.mono (aE.mono _) k,h.f12.mono (aE.mono _) k,h.f13.mono (aE.mono _) k⟩
theorem nQ.lens {H:Hp} {x:cU} {z:uL} (h:nQ H x z):x.volume.parts.length≤9223372036854775807∧x.errata.length≤9223372036854775807∧x.hides.length≤9223372036854775807∧x.cites.length≤9223372036854775807∧x.motion.words.length≤9223372036854775807∧x.motion.papers.length≤9223372036854775807∧x.choice.length≤9223372036854775807∧x.division.ayes.e0.length≤9223372036854775807∧x.division.ayes.e1.length≤9223372036854775807∧x.division.noes.e0.length≤9223372036854775807∧x.division.noes.e1.length≤9223372036854775807∧x.division.pairs.length≤9223372036854775807∧x.division.proxies.length≤9223372036854775807∧x.results.length≤9223372036854775807:=⟨h.f0.len,h.f1.len,h.f2.len,h.f3.len,h.f4.len,h.f5.len,h.f6.len,h.f7.len,h.f8.len,h.f9.len,h.f10.len,h.f11.len,h.f12.len,h.f13.len⟩
def kD:Hp→List Value→cU→Prop:=fun H cs x=>∃ z,cs=cJ x z∧nQ H x z
theorem kD.one:oK kD:=fun _ _ _ ⟨_,h,_⟩=>by subst h;rfl
theorem kD.mono:gZ kD:=fun _ _ _ _ hk ⟨z,h,f⟩=>⟨z,h,f.mono hk⟩
structure aJ where
 state:cU
 deriving DecidableEq,Inhabited
abbrev DG (x:aJ) (z:uL):List Value:=[.int .i64 x.state.day,.int .i64 x.state.house,.int .i64 x.state.volume.number,.int .i64 x.state.volume.bound,.int .i64 x.state.volume.height,.int .i64 x.state.volume.width,.slice z.a0 x.state.volume.parts.length z.c0,.bool x.state.bound,.slice z.a1 x.state.errata.length z.c1,.slice z.a2 x.state.hides.length z.c2,.slice z.a3 x.state.cites.length z.c3,.slice z.a4 x.state.motion.words.length z.c4,.slice z.a5 x.state.motion.papers.length z.c5,.bool x.state.moved,.slice z.a6 x.state.choice.length z.c6,.int .i64 x.state.division.members,.slice z.a7 x.state.division.ayes.e0.length z.c7,.slice z.a8 x.state.division.ayes.e1.length z.c8,.slice z.a9 x.state.division.noes.e0.length z.c9,.slice z.a10 x.state.division.noes.e1.length z.c10,.slice z.a11 x.state.division.pairs.length z.c11,.slice z.a12 x.state.division.proxies.length z.c12,.int .u8 x.state.division.rule,.int .i64 x.state.division.need,.int .i64 x.state.division.quorum,.int .u8 x.state.division.tie,.bool x.state.open_,.slice z.a13 x.state.results.length z.c13]
structure jN (H:Hp) (x:aJ) (z:uL):Prop where
 f0:Sl (bV) 2 H z.a0 z.c0 x.state.volume.parts
 f1:Sl (aE aO) 6 H z.a1 z.c1 x.state.errata
 f2:Sl (aE eL) 3 H z.a2 z.c2 x.state.hides
 f3:Sl (aE cC) 1 H z.a3 z.c3 x.state.cites
 f4:Sl (aE cC) 1 H z.a4 z.c4 x.state.motion.words
 f5:Sl (bA) 5 H z.a5 z.c5 x.state.motion.papers
 f6:Sl (aE (bZ .i64)) 1 H z.a6 z.c6 x.state.choice
 f7:Sl (aE (bZ .i64)) 1 H z.a7 z.c7 x.state.division.ayes.e0
 f8:Sl (aE (bZ .i64)) 1 H z.a8 z.c8 x.state.division.ayes.e1
 f9:Sl (aE (bZ .i64)) 1 H z.a9 z.c9 x.state.division.noes.e0
 f10:Sl (aE (bZ .i64)) 1 H z.a10 z.c10 x.state.division.noes.e1
 f11:Sl (aE eF) 2 H z.a11 z.c11 x.state.division.pairs
 f12:Sl (aE eA) 2 H z.a12 z.c12 x.state.division.proxies
 f13:Sl (aE bW) 1 H z.a13 z.c13 x.state.results
theorem jN.mono {H K:Hp} {x:aJ} {z:uL} (h:jN H x z) (k:H.le K):jN K x z:=⟨h.f0.mono (bV.mono) k,h.f1.mono (aE.mono _) k,h.f2.mono (aE.mono _) k,h.f3.mono (aE.mono _) k,h.f4.mono (aE.mono _) k,h.f5.mono (bA.mono) k,h.f6.mono (aE.mono _) k,h.f7.mono (aE.mono _) k,h.f8.mono (aE.mono _) k,h.f9.mono (aE.mono _) k,h.f10.mono (aE.mono _) k,h.f11.mono (aE.mono _) k,h.f12.mono (aE.mono _) k,h.f13.mono (aE.mono _) k⟩
theorem jN.lens {H:Hp} {x:aJ} {z:uL} (h:jN H x z):x.state.volume.parts.length≤9223372036854775807∧x.state.errata.length≤9223372036854775807∧x.state.hides.length≤9223372036854775807∧x.state.cites.length≤9223372036854775807∧x.state.motion.words.length≤9223372036854775807∧x.state.motion.papers.length≤9223372036854775807∧x.state.choice.length≤9223372036854775807∧x.state.division.ayes.e0.length≤9223372036854775807∧x.state.division.ayes.e1.length≤9223372036854775807∧x.state.division.noes.e0.length≤9223372036854775807∧x.state.division.noes.e1.length≤9223372036854775807∧x.state.division.pairs.length≤9223372036854775807∧x.state.division.proxies.length≤9223372036854775807∧x.state.results.length≤9223372036854775807:=⟨h.f0.len,h.f1.len,h.f2.len,h.f3.len,h.f4.len,h.f5.len,h.f6.len,h.f7.len,h.f8.len,h.f9.len,h.f10.len,h.f11.len,h.f12.len,h.f13.len⟩
def aY:Hp→List Value→aJ→Prop:=fun H cs x=>∃ z,cs=DG x z∧jN H x z
theorem aY.one:oK aY:=fun _ _ _ ⟨_,h,_⟩=>by subst h;rfl
theorem aY.mono:gZ aY:=fun _ _ _ _ hk ⟨z,h,f⟩=>⟨z,h,f.mono hk⟩
structure cN where
 paragraph:aI
 removed:Bool
 deriving DecidableEq,Inhabited
def cB (x:cN):List Value:=[.int .i64 x.paragraph.anchor,.string (bs x.paragraph.text),.bool x.removed]
structure hY where
 volume:bN
 parts:List (List cN)
 deriving DecidableEq,Inhabited
def jO:Hp→List Value→hY→Prop:=fun H cs x=>∃ (ad0:Option Addr) (cap0:Nat) (ad1:Option Addr) (cap1:Nat),cs=[.int .i64 x.volume.number,.int .i64 x.volume.bound,.int .i64 x.volume.height,.int .i64 x.volume.width,.slice ad0 x.volume.parts.length cap0,.slice ad1 x.parts.length cap1]∧Sl (bV) 2 H ad0 cap0 x.volume.parts∧Sl (tL (aE cB) 3) 1 H ad1 cap1 x.parts
theorem jO.one:oK jO:=fun _ _ _ ⟨_,_,_,_,h,_⟩=>by subst h;rfl
theorem jO.mono:gZ jO:=fun _ _ _ _ hk ⟨a0,c0,a1,c1,h,f0,f1⟩=>⟨a0,c0,a1,c1,h,f0.mono (bV.mono) hk,f1.mono (tL.mono (aE.mono _)) hk⟩
structure gP where
 anchor:Int
 column:Int
 line:Int
 lines:Int
 deriving DecidableEq,Inhabited
def gB (x:gP):List Value:=[.int .i64 x.anchor,.int .i64 x.column,.int .i64 x.line,.int .i64 x.lines]
structure cX where
 place:gP
 day:Int
 number:Int
 deriving DecidableEq,Inhabited
def eN (x:cX):List Value:=[.int .i64 x.place.anchor,.int .i64 x.place.column,.int .i64 x.place.line,.int .i64 x.place.lines,.int .i64 x.day,.int .i64 x.number]
structure fG where
 ayes:Int
 noes:Int
 deriving DecidableEq,Inhabited
def iY (x:fG):List Value:=[.int .i64 x.ayes,.int .i64 x.noes]
structure bF where
 e0:Bool
 e1:Bool
 e2:Bool
 e3:Bool
 e4:Bool
 e5:Bool
 e6:Bool
 e7:Bool
 e8:Bool
 e9:Bool
 e10:Bool
 e11:Bool
 e12:Bool
 e13:Bool
 e14:Bool
 e15:Bool
 e16:Bool
 e17:Bool
 e18:Bool
 e19:Bool
 e20:Bool
 e21:Bool
 e22:Bool
 e23:Bool
 e24:Bool
 e25:Bool
 e26:Bool
 e27:Bool
 e28:Bool
 e29:Bool
 e30:Bool
 e31:Bool
 e32:Bool
 e33:Bool
 e34:Bool
 e35:Bool
 e36:Bool
 e37:Bool
 e38:Bool
 e39:Bool
 deriving Inhabited
def bD (x:bF):List Value:=[.bool x.e0,.bool x.e1,.bool x.e2,.bool x.e3,.bool x.e4,.bool x.e5,.bool x.e6,.bool x.e7,.bool x.e8,.bool x.e9,.bool x.e10,.bool x.e11,.bool x.e12,.bool x.e13,.bool x.e14,.bool x.e15,.bool x.e16,.bool x.e17,.bool x.e18,.bool x.e19,.bool x.e20,.bool x.e21,.bool x.e22,.bool x.e23,.bool x.e24,.bool x.e25,.bool x.e26,.bool x.e27,.bool x.e28,.bool x.e29,.bool x.e30,.bool x.e31,.bool x.e32,.bool x.e33,.bool x.e34,.bool x.e35,.bool x.e36,.bool x.e37,.bool x.e38,.bool x.e39]
def bF.vals (x:bF):List Bool:=[x.e0,x.e1,x.e2,x.e3,x.e4,x.e5,x.e6,x.e7,x.e8,x.e9,x.e10,x.e11,x.e12,x.e13,x.e14,x.e15,x.e16,x.e17,x.e18,x.e19,x.e20,x.e21,x.e22,x.e23,x.e24,x.e25,x.e26,x.e27,x.e28,x.e29,x.e30,x.e31,x.e32,x.e33,x.e34,x.e35,x.e36,x.e37,x.e38,x.e39]
def bF.get (x:bF) (j:Nat):Bool:=x.vals.getD j default
def bF.set (x:bF) (j:Nat) (v:Bool):bF:=⟨if j=0 then v else x.e0,if j=1 then v else x.e1,if j=2 then v else x.e2,if j=3 then v else x.e3,if j=4 then v else x.e4,if j=5 then v else x.e5,if j=6 then v else x.e6,if j=7 then v else x.e7,if j=8 then v else x.e8,if j=9 then v else x.e9,if j=10 then v else x.e10,if j=11 then v else x.e11,if j=12 then v else x.e12,if j=13 then v else x.e13,if j=14 then v else x.e14,if j=15 then v else x.e15,if j=16 then v else x.e16,if j=17 then v else x.e17,if j=18 then v else x.e18,if j=19 then v else x.e19,if j=20 then v else x.e20,if j=21 then v else x.e21,if j=22 then v else x.e22,if j=23 then v else x.e23,if j=24 then v else x.e24,if j=25 then v else x.e25,if j=26 then v else x.e26,if j=27 then v else x.e27,if j=28 then v else x.e28,if j=29 then v else x.e29,if j=30 then v else x.e30,if j=31 then v else x.e31,if j=32 then v else x.e32,if j=33 then v else x.e33,if j=34 then v else x.e34,if j=35 then v else x.e35,if j=36 then v else x.e36,if j=37 then v else x.e37,if j=38 then v else x.e38,if j=39 then v else x.e39⟩
def bF.zero:bF:=⟨false,false,false,false,false,false,false,false,false,false,false,false,false,false,false,false,false,false,false,false,false,false,false,false,false,false,false,false,false,false,false,false,false,false,false,false,false,false,false,false⟩
theorem bF.vset (x:bF) (v:Bool):∀ (j:Nat),j < 40→(x.set j v).vals=x.vals.set j v
 | 0,_=>rfl
 | 1,_=>rfl
 | 2,_=>rfl
 | 3,_=>rfl
 | 4,_=>rfl
 | 5,_=>rfl
 | 6,_=>rfl
 | 7,_=>rfl
 | 8,_=>rfl
 | 9,_=>rfl
 | 10,_=>rfl
 | 11,_=>rfl
 | 12,_=>rfl
 | 13,_=>rfl
 | 14,_=>rfl
 | 15,_=>rfl
 | 16,_=>rfl
 | 17,_=>rfl
 | 18,_=>rfl
 | 19,_=>rfl
 | 20,_=>rfl
 | 21,_=>rfl
 | 22,_=>rfl
 | 23,_=>rfl
 | 24,_=>rfl
 | 25,_=>rfl
 | 26,_=>rfl
 | 27,_=>rfl
 | 28,_=>rfl
 | 29,_=>rfl
 | 30,_=>rfl
 | 31,_=>rfl
 | 32,_=>rfl
 | 33,_=>rfl
 | 34,_=>rfl
 | 35,_=>rfl
 | 36,_=>rfl
 | 37,_=>rfl
 | 38,_=>rfl
 | 39,_=>rfl
 | n+40,h=>absurd h (by omega)
theorem bF.em (x:bF):bD x=x.vals.map (fun v=>Value.bool v):=rfl
theorem bF.st {x:bF} {j:Nat} {v:Bool} (h:j < 40):(bD x).set j (Value.bool v)=bD (x.set j v):=by rw [bF.em,bF.em,bF.vset x v j h,List.map_set]
theorem bF.at {x:bF} {j:Nat} (h:j < 40):(bD x)[j]?=some (Value.bool (x.get j)):=by
 have h2:x.vals[j]?=some (x.get j):=by unfold bF.get;rw [List.getD_eq_getElem?_getD,List.getElem?_eq_getElem (show j < x.vals.length from h)];rfl
 rw [bF.em,List.getElem?_map,h2];rfl
structure dC where
 division:aT
 paired:bF
 may:List (List UInt8)
 deriving Inhabited
def eX:Hp→List Value→dC→Prop:=fun H cs x=>∃ (ad0:Option Addr) (cap0:Nat) (ad1:Option Addr) (cap1:Nat) (OR:Option Addr) (cap2:Nat) (YH:Option Addr) (cap3:Nat) (ad4:Option Addr) (cap4:Nat) (ad5:Option Addr) (cap5:Nat) (hs6:List fN),cs=(eW (eW [.int .i64 x.division.members,.slice ad0 x.division.ayes.e0.length cap0,.slice ad1 x.division.ayes.e1.length cap1,.slice OR x.division.noes.e0.length cap2,.slice YH x.division.noes.e1.length cap3,.slice ad4 x.division.pairs.length cap4,.slice ad5 x.division.proxies.length cap5,.int .u8 x.division.rule,.int .i64 x.division.need,.int .i64 x.division.quorum,.int .u8 x.division.tie] (bD x.paired)) (iH hs6 x.may))∧Sl (aE (bZ .i64)) 1 H ad0 cap0 x.division.ayes.e0∧Sl (aE (bZ .i64)) 1 H ad1 cap1 x.division.ayes.e1∧Sl (aE (bZ .i64)) 1 H OR cap2 x.division.noes.e0∧Sl (aE (bZ .i64)) 1 H YH cap3 x.division.noes.e1∧Sl (aE eF) 2 H ad4 cap4 x.division.pairs∧Sl (aE eA) 2 H ad5 cap5 x.division.proxies∧kH (aE bW) 1 40 H hs6 x.may
theorem eX.mono:gZ eX:=fun _ _ _ _ hk ⟨a0,c0,a1,c1,a2,c2,a3,c3,a4,c4,a5,c5,s6,h,f0,f1,f2,f3,f4,f5,f6⟩=>⟨a0,c0,a1,c1,a2,c2,a3,c3,a4,c4,a5,c5,s6,h,f0.mono (aE.mono _) hk,f1.mono (aE.mono _) hk,f2.mono (aE.mono _) hk,f3.mono (aE.mono _) hk,f4.mono (aE.mono _) hk,f5.mono (aE.mono _) hk,f6.mono (aE.mono _) hk⟩
structure bB where
 e0:Int
 e1:Int
 e2:Int
 e3:Int
 e4:Int
 e5:Int
 e6:Int
 e7:Int
 e8:Int
 e9:Int
 e10:Int
 e11:Int
 e12:Int
 e13:Int
 e14:Int
 e15:Int
 e16:Int
 e17:Int
 e18:Int
 e19:Int
 e20:Int
 e21:Int
 e22:Int
 e23:Int
 e24:Int
 e25:Int
 e26:Int
 e27:Int
 e28:Int
 e29:Int
 e30:Int
 e31:Int
 e32:Int
 e33:Int
 e34:Int
 e35:Int
 e36:Int
 e37:Int
 e38:Int
 e39:Int
 deriving Inhabited
def bY (x:bB):List Value:=[.int .u8 x.e0,.int .u8 x.e1,.int .u8 x.e2,.int .u8 x.e3,.int .u8 x.e4,.int .u8 x.e5,.int .u8 x.e6,.int .u8 x.e7,.int .u8 x.e8,.int .u8 x.e9,.int .u8 x.e10,.int .u8 x.e11,.int .u8 x.e12,.int .u8 x.e13,.int .u8 x.e14,.int .u8 x.e15,.int .u8 x.e16,.int .u8 x.e17,.int .u8 x.e18,.int .u8 x.e19,.int .u8 x.e20,.int .u8 x.e21,.int .u8 x.e22,.int .u8 x.e23,.int .u8 x.e24,.int .u8 x.e25,.int .u8 x.e26,.int .u8 x.e27,.int .u8 x.e28,.int .u8 x.e29,.int .u8 x.e30,.int .u8 x.e31,.int .u8 x.e32,.int .u8 x.e33,.int .u8 x.e34,.int .u8 x.e35,.int .u8 x.e36,.int .u8 x.e37,.int .u8 x.e38,.int .u8 x.e39]
def bB.vals (x:bB):List Int:=[x.e0,x.e1,x.e2,x.e3,x.e4,x.e5,x.e6,x.e7,x.e8,x.e9,x.e10,x.e11,x.e12,x.e13,x.e14,x.e15,x.e16,x.e17,x.e18,x.e19,x.e20,x.e21,x.e22,x.e23,x.e24,x.e25,x.e26,x.e27,x.e28,x.e29,x.e30,x.e31,x.e32,x.e33,x.e34,x.e35,x.e36,x.e37,x.e38,x.e39]
def bB.get (x:bB) (j:Nat):Int:=x.vals.getD j default
def bB.set (x:bB) (j:Nat) (v:Int):bB:=⟨if j=0 then v else x.e0,if j=1 then v else x.e1,if j=2 then v else x.e2,if j=3 then v else x.e3,if j=4 then v else x.e4,if j=5 then v else x.e5,if j=6 then v else x.e6,if j=7 then v else x.e7,if j=8 then v else x.e8,if j=9 then v else x.e9,if j=10 then v else x.e10,if j=11 then v else x.e11,if j=12 then v else x.e12,if j=13 then v else x.e13,if j=14 then v else x.e14,if j=15 then v else x.e15,if j=16 then v else x.e16,if j=17 then v else x.e17,if j=18 then v else x.e18,if j=19 then v else x.e19,if j=20 then v else x.e20,if j=21 then v else x.e21,if j=22 then v else x.e22,if j=23 then v else x.e23,if j=24 then v else x.e24,if j=25 then v else x.e25,if j=26 then v else x.e26,if j=27 then v else x.e27,if j=28 then v else x.e28,if j=29 then v else x.e29,if j=30 then v else x.e30,if j=31 then v else x.e31,if j=32 then v else x.e32,if j=33 then v else x.e33,if j=34 then v else x.e34,if j=35 then v else x.e35,if j=36 then v else x.e36,if j=37 then v else x.e37,if j=38 then v else x.e38,if j=39 then v else x.e39⟩
def bB.zero:bB:=⟨0,0,0,0,0,0,0,0,0,0,0,0,0,0,0,0,0,0,0,0,0,0,0,0,0,0,0,0,0,0,0,0,0,0,0,0,0,0,0,0⟩
theorem bB.vset (x:bB) (v:Int):∀ (j:Nat),j < 40→(x.set j v).vals=x.vals.set j v
 | 0,_=>rfl
 | 1,_=>rfl
 | 2,_=>rfl
 | 3,_=>rfl
 | 4,_=>rfl
 | 5,_=>rfl
 | 6,_=>rfl
 | 7,_=>rfl
 | 8,_=>rfl
 | 9,_=>rfl
 | 10,_=>rfl
 | 11,_=>rfl
 | 12,_=>rfl
 | 13,_=>rfl
 | 14,_=>rfl
 | 15,_=>rfl
 | 16,_=>rfl
 | 17,_=>rfl
 | 18,_=>rfl
 | 19,_=>rfl
 | 20,_=>rfl
 | 21,_=>rfl
 | 22,_=>rfl
 | 23,_=>rfl
 | 24,_=>rfl
 | 25,_=>rfl
 | 26,_=>rfl
 | 27,_=>rfl
 | 28,_=>rfl
 | 29,_=>rfl
 | 30,_=>rfl
 | 31,_=>rfl
 | 32,_=>rfl
 | 33,_=>rfl
 | 34,_=>rfl
 | 35,_=>rfl
 | 36,_=>rfl
 | 37,_=>rfl
 | 38,_=>rfl
 | 39,_=>rfl
 | n+40,h=>absurd h (by omega)
theorem bB.em (x:bB):bY x=x.vals.map (fun v=>Value.int .u8 v):=rfl
theorem bB.st {x:bB} {j:Nat} {v:Int} (h:j < 40):(bY x).set j (Value.int .u8 v)=bY (x.set j v):=by rw [bB.em,bB.em,bB.vset x v j h,List.map_set]
theorem bB.at {x:bB} {j:Nat} (h:j < 40):(bY x)[j]?=some (Value.int .u8 (x.get j)):=by
 have h2:x.vals[j]?=some (x.get j):=by unfold bB.get;rw [List.getD_eq_getElem?_getD,List.getElem?_eq_getElem (show j < x.vals.length from h)];rfl
 rw [bB.em,List.getElem?_map,h2];rfl
structure bH where
 number:Int
 index:Int
 deriving DecidableEq,Inhabited
def cE (x:bH):List Value:=[.int .i64 x.number,.int .i64 x.index]
structure cV where
 many:Int
 text:Bool
 do_:Option Nat
 deriving DecidableEq,Inhabited
def eD (x:cV):List Value:=[.int .i64 x.many,.bool x.text,rF x.do_]
structure dH where
 e0:Int
 e1:Int
 e2:Int
 e3:Int
 e4:Int
 e5:Int
 deriving Inhabited
def fQ (x:dH):List Value:=[.int .u8 x.e0,.int .u8 x.e1,.int .u8 x.e2,.int .u8 x.e3,.int .u8 x.e4,.int .u8 x.e5]
def dH.vals (x:dH):List Int:=[x.e0,x.e1,x.e2,x.e3,x.e4,x.e5]
def dH.get (x:dH) (j:Nat):Int:=x.vals.getD j default
def dH.set (x:dH) (j:Nat) (v:Int):dH:=⟨if j=0 then v else x.e0,if j=1 then v else x.e1,if j=2 then v else x.e2,if j=3 then v else x.e3,if j=4 then v else x.e4,if j=5 then v else x.e5⟩
def dH.zero:dH:=⟨0,0,0,0,0,0⟩
theorem dH.vset (x:dH) (v:Int):∀ (j:Nat),j < 6→(x.set j v).vals=x.vals.set j v
 | 0,_=>rfl
 | 1,_=>rfl
 | 2,_=>rfl
 | 3,_=>rfl
 | 4,_=>rfl
 | 5,_=>rfl
 | n+6,h=>absurd h (by omega)
theorem dH.em (x:dH):fQ x=x.vals.map (fun v=>Value.int .u8 v):=rfl
theorem dH.st {x:dH} {j:Nat} {v:Int} (h:j < 6):(fQ x).set j (Value.int .u8 v)=fQ (x.set j v):=by rw [dH.em,dH.em,dH.vset x v j h,List.map_set]
theorem dH.at {x:dH} {j:Nat} (h:j < 6):(fQ x)[j]?=some (Value.int .u8 (x.get j)):=by
 have h2:x.vals[j]?=some (x.get j):=by unfold dH.get;rw [List.getD_eq_getElem?_getD,List.getElem?_eq_getElem (show j < x.vals.length from h)];rfl
 rw [dH.em,List.getElem?_map,h2];rfl
theorem mixed:prog.follows .mixedOrders=true:=by kernel_rfl
theorem B27:dP prog 27 [.int .i64 0,.int .i64 0,.int .i64 0,.int .i64 0,.slice none 0 0] #[(0,1),(1,1),(2,1),(3,1),(4,1)]:=⟨⟨.agg #[.int .i64 0,.int .i64 0,.int .i64 0,.int .i64 0,.slice none 0 0],rfl,zeroValue27⟩,⟨_,underlying27,fun _=>by kernel_rfl⟩⟩
theorem B32:dP prog 32 [.slice none 0 0,.slice none 0 0] #[(0,1),(1,1)]:=⟨⟨.agg #[.slice none 0 0,.slice none 0 0],rfl,zeroValue32⟩,⟨_,underlying32,fun _=>by kernel_rfl⟩⟩
theorem B38:dP prog 38 [.int .i64 0,.slice none 0 0,.slice none 0 0,.slice none 0 0,.slice none 0 0,.slice none 0 0,.slice none 0 0,.int .u8 0,.int .i64 0,.int .i64 0,.int .u8 0] #[(0,1),(1,2),(3,2),(5,1),(6,1),(7,1),(8,1),(9,1),(10,1)]:=⟨⟨.agg #[.int .i64 0,.slice none 0 0,.slice none 0 0,.slice none 0 0,.slice none 0 0,.slice none 0 0,.slice none 0 0,.int .u8 0,.int .i64 0,.int .i64 0,.int .u8 0],rfl,zeroValue38⟩,⟨_,underlying38,fun _=>by kernel_rfl⟩⟩
theorem B41:dP prog 41 [.int .i64 0,.int .i64 0,.int .i64 0,.int .i64 0,.int .i64 0,.int .i64 0,.slice none 0 0,.bool false,.slice none 0 0,.slice none 0 0,.slice none 0 0,.slice none 0 0,.slice none 0 0,.bool false,.slice none 0 0,.int .i64 0,.slice none 0 0,.slice none 0 0,.slice none 0 0,.slice none 0 0,.slice none 0 0,.slice none 0 0,.int .u8 0,.int .i64 0,.int .i64 0,.int .u8 0,.bool false,.slice none 0 0] #[(0,1),(1,1),(2,5),(7,1),(8,1),(9,1),(10,1),(11,2),(13,1),(14,1),(15,11),(26,1),(27,1)]:=⟨⟨.agg #[.int .i64 0,.int .i64 0,.int .i64 0,.int .i64 0,.int .i64 0,.int .i64 0,.slice none 0 0,.bool false,.slice none 0 0,.slice none 0 0,.slice none 0 0,.slice none 0 0,.slice none 0 0,.bool false,.slice none 0 0,.int .i64 0,.slice none 0 0,.slice none 0 0,.slice none 0 0,.slice none 0 0,.slice none 0 0,.slice none 0 0,.int .u8 0,.int .i64 0,.int .i64 0,.int .u8 0,.bool false,.slice none 0 0],rfl,zeroValue41⟩,⟨_,underlying41,fun _=>by kernel_rfl⟩⟩
theorem B67:dP prog 67 [.int .i64 0,.int .i64 0,.int .i64 0,.int .i64 0,.int .i64 0,.int .i64 0,.slice none 0 0,.bool false,.slice none 0 0,.slice none 0 0,.slice none 0 0,.slice none 0 0,.slice none 0 0,.bool false,.slice none 0 0,.int .i64 0,.slice none 0 0,.slice none 0 0,.slice none 0 0,.slice none 0 0,.slice none 0 0,.slice none 0 0,.int .u8 0,.int .i64 0,.int .i64 0,.int .u8 0,.bool false,.slice none 0 0] #[(0,28)]:=⟨⟨.agg #[.int .i64 0,.int .i64 0,.int .i64 0,.int .i64 0,.int .i64 0,.int .i64 0,.slice none 0 0,.bool false,.slice none 0 0,.slice none 0 0,.slice none 0 0,.slice none 0 0,.slice none 0 0,.bool false,.slice none 0 0,.int .i64 0,.slice none 0 0,.slice none 0 0,.slice none 0 0,.slice none 0 0,.slice none 0 0,.slice none 0 0,.int .u8 0,.int .i64 0,.int .i64 0,.int .u8 0,.bool false,.slice none 0 0],rfl,zeroValue67⟩,⟨_,underlying67,fun _=>by kernel_rfl⟩⟩
theorem B82:dP prog 82 [.int .i64 0,.int .i64 0,.int .i64 0,.int .i64 0] #[(0,1),(1,1),(2,1),(3,1)]:=⟨⟨.agg #[.int .i64 0,.int .i64 0,.int .i64 0,.int .i64 0],rfl,zeroValue82⟩,⟨_,underlying82,fun _=>by kernel_rfl⟩⟩
theorem B91:dP prog 91 [.int .i64 0,.int .i64 0,.int .u8 0,.int .i64 0,.string (bs []),.int .i64 0] #[(0,1),(1,1),(2,1),(3,1),(4,1),(5,1)]:=⟨⟨.agg #[.int .i64 0,.int .i64 0,.int .u8 0,.int .i64 0,.string (bs []),.int .i64 0],rfl,zeroValue91⟩,⟨_,underlying91,fun _=>by kernel_rfl⟩⟩
theorem B93:dP prog 93 [.int .i64 0,.int .i64 0,.int .i64 0] #[(0,1),(1,1),(2,1)]:=⟨⟨.agg #[.int .i64 0,.int .i64 0,.int .i64 0],rfl,zeroValue93⟩,⟨_,underlying93,fun _=>by kernel_rfl⟩⟩
theorem B109:dP prog 109 [.int .i64 0,.int .i64 0,.int .i64 0,.int .i64 0,.int .i64 0,.int .i64 0] #[(0,4),(4,1),(5,1)]:=⟨⟨.agg #[.int .i64 0,.int .i64 0,.int .i64 0,.int .i64 0,.int .i64 0,.int .i64 0],rfl,zeroValue109⟩,⟨_,underlying109,fun _=>by kernel_rfl⟩⟩
theorem B115:dP prog 115 [.int .i64 0,.slice none 0 0] #[(0,1),(1,1)]:=⟨⟨.agg #[.int .i64 0,.slice none 0 0],rfl,zeroValue115⟩,⟨_,underlying115,fun _=>by kernel_rfl⟩⟩
theorem B117:dP prog 117 [.int .i64 0,.string (bs [])] #[(0,1),(1,1)]:=⟨⟨.agg #[.int .i64 0,.string (bs [])],rfl,zeroValue117⟩,⟨_,underlying117,fun _=>by kernel_rfl⟩⟩
theorem B119:dP prog 119 [.int .i64 0,.int .i64 0,.int .i64 0,.int .i64 0,.slice none 0 0] #[(0,1),(1,1),(2,1),(3,1),(4,1)]:=⟨⟨.agg #[.int .i64 0,.int .i64 0,.int .i64 0,.int .i64 0,.slice none 0 0],rfl,zeroValue119⟩,⟨_,underlying119,fun _=>by kernel_rfl⟩⟩
theorem B121:dP prog 121 [.int .i64 0,.int .i64 0] #[(0,1),(1,1)]:=⟨⟨.agg #[.int .i64 0,.int .i64 0],rfl,zeroValue121⟩,⟨_,underlying121,fun _=>by kernel_rfl⟩⟩
theorem B126:dP prog 126 [.int .i64 0] #[(0,1)]:=⟨⟨.agg #[.int .i64 0],rfl,zeroValue126⟩,⟨_,underlying126,fun _=>by kernel_rfl⟩⟩
theorem B131:dP prog 131 [.int .i64 0,.bool false,.nilFunc] #[(0,1),(1,1),(2,1)]:=⟨⟨.agg #[.int .i64 0,.bool false,.nilFunc],rfl,zeroValue131⟩,⟨_,underlying131,fun _=>by kernel_rfl⟩⟩
theorem B153:dP prog 153 [.int .i64 0,.int .i64 0,.int .i64 0,.int .i64 0,.slice none 0 0,.slice none 0 0] #[(0,5),(5,1)]:=⟨⟨.agg #[.int .i64 0,.int .i64 0,.int .i64 0,.int .i64 0,.slice none 0 0,.slice none 0 0],rfl,zeroValue153⟩,⟨_,underlying153,fun _=>by kernel_rfl⟩⟩
theorem B156:dP prog 156 [.int .i64 0,.string (bs []),.bool false] #[(0,2),(2,1)]:=⟨⟨.agg #[.int .i64 0,.string (bs []),.bool false],rfl,zeroValue156⟩,⟨_,underlying156,fun _=>by kernel_rfl⟩⟩
theorem B175:dP prog 175 [.nilFunc] #[(0,1)]:=⟨⟨.agg #[.nilFunc],rfl,zeroValue175⟩,⟨_,underlying175,fun _=>by kernel_rfl⟩⟩
theorem B233:dP prog 233 (eW (eW [.int .i64 0,.slice none 0 0,.slice none 0 0,.slice none 0 0,.slice none 0 0,.slice none 0 0,.slice none 0 0,.int .u8 0,.int .i64 0,.int .i64 0,.int .u8 0] (bD bF.zero)) (iH (List.replicate 40 ((none,0):fN)) (List.replicate 40 ([]:List UInt8)))) #[(0,11),(11,40),(51,40)]:=⟨⟨.agg (eW (eW [.int .i64 0,.slice none 0 0,.slice none 0 0,.slice none 0 0,.slice none 0 0,.slice none 0 0,.slice none 0 0,.int .u8 0,.int .i64 0,.int .i64 0,.int .u8 0] (bD bF.zero)) (iH (List.replicate 40 ((none,0):fN)) (List.replicate 40 ([]:List UInt8)))).toArray,rfl,zeroValue233⟩,⟨_,underlying233,fun _=>by kernel_rfl⟩⟩
theorem B240:uB prog 240 5 (bY bB.zero) 1:=⟨⟨.agg (bY bB.zero).toArray,rfl,zeroValue240⟩,⟨_,underlying240⟩,sizeOf5⟩
theorem B254:dP prog 254 [.int .i64 0,.nilFunc] #[(0,1),(1,1)]:=⟨⟨.agg #[.int .i64 0,.nilFunc],rfl,zeroValue254⟩,⟨_,underlying254,fun _=>by kernel_rfl⟩⟩
theorem B259:dP prog 259 [.int .i64 0,.int .i64 0] #[(0,1),(1,1)]:=⟨⟨.agg #[.int .i64 0,.int .i64 0],rfl,zeroValue259⟩,⟨_,underlying259,fun _=>by kernel_rfl⟩⟩
theorem B286:dP prog 286 [.nilFunc] #[(0,1)]:=⟨⟨.agg #[.nilFunc],rfl,zeroValue286⟩,⟨_,underlying286,fun _=>by kernel_rfl⟩⟩
theorem E22:dE prog 22 9 [.string (bs [])] 1 16:=⟨underlying22,⟨_,.string (bs []),dG type9,rfl,rfl,rfl,rfl⟩,rfl,by decide⟩
theorem E25:dE prog 25 115 [.int .i64 0,.slice none 0 0] 2 32:=⟨underlying25,⟨_,.agg #[.int .i64 0,.slice none 0 0],dG type115,rfl,rfl,rfl,rfl⟩,rfl,by decide⟩
theorem E28:dE prog 28 91 [.int .i64 0,.int .i64 0,.int .u8 0,.int .i64 0,.string (bs []),.int .i64 0] 6 56:=⟨underlying28,⟨_,.agg #[.int .i64 0,.int .i64 0,.int .u8 0,.int .i64 0,.string (bs []),.int .i64 0],dG type91,rfl,rfl,rfl,rfl⟩,rfl,by decide⟩
theorem E29:dE prog 29 93 [.int .i64 0,.int .i64 0,.int .i64 0] 3 24:=⟨underlying29,⟨_,.agg #[.int .i64 0,.int .i64 0,.int .i64 0],dG type93,rfl,rfl,rfl,rfl⟩,rfl,by decide⟩
theorem E30:dE prog 30 119 [.int .i64 0,.int .i64 0,.int .i64 0,.int .i64 0,.slice none 0 0] 5 56:=⟨underlying30,⟨_,.agg #[.int .i64 0,.int .i64 0,.int .i64 0,.int .i64 0,.slice none 0 0],dG type119,rfl,rfl,rfl,rfl⟩,rfl,by decide⟩
theorem E33:dE prog 33 3 [.int .i64 0] 1 8:=⟨underlying33,⟨_,.int .i64 0,dG type3,rfl,rfl,rfl,rfl⟩,rfl,by decide⟩
theorem E35:dE prog 35 121 [.int .i64 0,.int .i64 0] 2 16:=⟨underlying35,⟨_,.agg #[.int .i64 0,.int .i64 0],dG type121,rfl,rfl,rfl,rfl⟩,rfl,by decide⟩
theorem E39:dE prog 39 5 [.int .u8 0] 1 1:=⟨underlying39,⟨_,.int .u8 0,dG type5,rfl,rfl,rfl,rfl⟩,rfl,by decide⟩
theorem E42:dE prog 42 43 [.int .i64 0] 1 8:=⟨underlying42,⟨_,.int .i64 0,dG type43,rfl,rfl,rfl,rfl⟩,rfl,by decide⟩
theorem E78:dE prog 78 82 [.int .i64 0,.int .i64 0,.int .i64 0,.int .i64 0] 4 32:=⟨underlying78,⟨_,.agg #[.int .i64 0,.int .i64 0,.int .i64 0,.int .i64 0],dG type82,rfl,rfl,rfl,rfl⟩,rfl,by decide⟩
theorem E83:dE prog 83 117 [.int .i64 0,.string (bs [])] 2 24:=⟨underlying83,⟨_,.agg #[.int .i64 0,.string (bs [])],dG type117,rfl,rfl,rfl,rfl⟩,rfl,by decide⟩
theorem E106:dE prog 106 109 [.int .i64 0,.int .i64 0,.int .i64 0,.int .i64 0,.int .i64 0,.int .i64 0] 6 48:=⟨underlying106,⟨_,.agg #[.int .i64 0,.int .i64 0,.int .i64 0,.int .i64 0,.int .i64 0,.int .i64 0],dG type109,rfl,rfl,rfl,rfl⟩,rfl,by decide⟩
theorem E151:dE prog 151 154 [.slice none 0 0] 1 24:=⟨underlying151,⟨_,.slice none 0 0,dG type154,rfl,rfl,rfl,rfl⟩,rfl,by decide⟩
theorem E154:dE prog 154 156 [.int .i64 0,.string (bs []),.bool false] 3 32:=⟨underlying154,⟨_,.agg #[.int .i64 0,.string (bs []),.bool false],dG type156,rfl,rfl,rfl,rfl⟩,rfl,by decide⟩
theorem E176:dE prog 176 175 [.nilFunc] 1 8:=⟨underlying176,⟨_,.agg #[.nilFunc],dG type175,rfl,rfl,rfl,rfl⟩,rfl,by decide⟩
theorem E200:dE prog 200 259 [.int .i64 0,.int .i64 0] 2 16:=⟨underlying200,⟨_,.agg #[.int .i64 0,.int .i64 0],dG type259,rfl,rfl,rfl,rfl⟩,rfl,by decide⟩
theorem E250:dE prog 250 254 [.int .i64 0,.nilFunc] 2 16:=⟨underlying250,⟨_,.agg #[.int .i64 0,.nilFunc],dG type254,rfl,rfl,rfl,rfl⟩,rfl,by decide⟩
theorem E279:dE prog 279 20 [.nilIface] 1 16:=⟨underlying279,⟨_,.nilIface,dG type20,rfl,rfl,rfl,rfl⟩,rfl,by decide⟩
theorem E287:dE prog 287 286 [.nilFunc] 1 8:=⟨underlying287,⟨_,.agg #[.nilFunc],dG type286,rfl,rfl,rfl,rfl⟩,rfl,by decide⟩
theorem Q91:vX prog 91 aO:=⟨fun x y w=>by
 have h0:prog.underlying 91=some (.struct (prog.fieldsOf 91)):=by kernel_rfl
 rw [run_equalIn_struct w 9999 91 _ _ h0 (by kernel_rfl)];simp only [Program.fieldsOf,underlying91];have e:(x=y)=(x.number=y.number∧x.day=y.day∧x.kind=y.kind∧x.anchor=y.anchor∧x.text=y.text∧x.new_=y.new_):=by cases x;cases y;simp
 simp only [e];simp [Op.eqFields,aO,part,isAgg3,isAgg5,isAgg9,nI underlying3,nI underlying3,nI underlying5,nI underlying3,SD underlying9,nI underlying3]
 by_cases h0:x.number=y.number <;> by_cases h1:x.day=y.day <;> by_cases h2:x.kind=y.kind <;> by_cases h3:x.anchor=y.anchor <;> by_cases h4:x.text=y.text <;> by_cases h5:x.new_=y.new_ <;> simp [h0,h1,h2,h3,h4,h5],by kernel_rfl⟩
theorem Q93:vX prog 93 eL:=⟨fun x y w=>by
 have h0:prog.underlying 93=some (.struct (prog.fieldsOf 93)):=by kernel_rfl
 rw [run_equalIn_struct w 9999 93 _ _ h0 (by kernel_rfl)];simp only [Program.fieldsOf,underlying93];have e:(x=y)=(x.anchor=y.anchor∧x.kind=y.kind∧x.until_=y.until_):=by cases x;cases y;simp
 simp only [e];simp [Op.eqFields,eL,part,isAgg3,nI underlying3,nI underlying3,nI underlying3]
 by_cases h0:x.anchor=y.anchor <;> by_cases h1:x.kind=y.kind <;> by_cases h2:x.until_=y.until_ <;> simp [h0,h1,h2],by kernel_rfl⟩
theorem Q117:vX prog 117 aN:=⟨fun x y w=>by
 have h0:prog.underlying 117=some (.struct (prog.fieldsOf 117)):=by kernel_rfl
 rw [run_equalIn_struct w 9999 117 _ _ h0 (by kernel_rfl)];simp only [Program.fieldsOf,underlying117];have e:(x=y)=(x.anchor=y.anchor∧x.text=y.text):=by cases x;cases y;simp
 simp only [e];simp [Op.eqFields,aN,part,isAgg3,isAgg9,nI underlying3,SD underlying9]
 by_cases h0:x.anchor=y.anchor <;> by_cases h1:x.text=y.text <;> simp [h0,h1],by kernel_rfl⟩
theorem Q121:vX prog 121 eF:=⟨fun x y w=>by
 have h0:prog.underlying 121=some (.struct (prog.fieldsOf 121)):=by kernel_rfl
 rw [run_equalIn_struct w 9999 121 _ _ h0 (by kernel_rfl)];simp only [Program.fieldsOf,underlying121];have e:(x=y)=(x.a=y.a∧x.b=y.b):=by cases x;cases y;simp
 simp only [e];simp [Op.eqFields,eF,part,isAgg3,nI underlying3,nI underlying3]
 by_cases h0:x.a=y.a <;> by_cases h1:x.b=y.b <;> simp [h0,h1],by kernel_rfl⟩
theorem Q123:vX prog 123 eA:=⟨fun x y w=>by
 have h0:prog.underlying 123=some (.struct (prog.fieldsOf 123)):=by kernel_rfl
 rw [run_equalIn_struct w 9999 123 _ _ h0 (by kernel_rfl)];simp only [Program.fieldsOf,underlying123];have e:(x=y)=(x.holder=y.holder∧x.for_=y.for_):=by cases x;cases y;simp
 simp only [e];simp [Op.eqFields,eA,part,isAgg3,nI underlying3,nI underlying3]
 by_cases h0:x.holder=y.holder <;> by_cases h1:x.for_=y.for_ <;> simp [h0,h1],by kernel_rfl⟩
end T12
namespace Go.Proofs
open Go Go.Shelf Go.RowKit Pk
theorem mT {w:World} {q:Addr} {vs:List Value} (h:aM (hp w) q vs) (hv:0 < vs.length):∃ cs t z,w.heap[q.block]?=some (.cells cs t z)∧cs.size≠0:=by
 obtain ⟨c,t,z,h3,h4⟩:=h.2 0 _ (List.getElem?_eq_getElem hv);refine ⟨c,t,z,h3,fun h0=>?_⟩;have:=(Array.getElem?_eq_some_iff.1 h4).1;omega
theorem mU {P:Program} (w:World) (tS tR e:TypeId) (ht:P.underlying tS=some (.slice e)) (size:Nat) (hz:∀ w,(Go.sizeOf e).run P w=.ok size w) (a b:Addr) (la ca lb cb:Nat) (hne:a.block≠b.block)
  {ca':Array Value} {ta:TypeId} {za:Nat×Nat} (ha:w.heap[a.block]?=some (.cells ca' ta za)) (ha0:ca'.size≠0) {cur:Array Value} {te:TypeId} (hb:w.heap[b.block]?=some (.cells cur te (0,0))) (hc:cur.size≠0) :
  (Extern.SlicesOverlaps.overlaps #[tS,tS] #[tR] #[.slice (some a) la ca,.slice (some b) lb cb]).run P w=.ok (.bool false) w:=by
 have hnb:(a.block != b.block)=true:=by simpa using hne
 have hnb':(a.block==b.block)=false:=by simpa using hne
 have hf:∀ x:Addr,x.block=b.block→w.frozen? x=false:=fun x hx=>by simp [World.frozen?,hx,hb]
 have hsb:w.shape? b.block=some (te,cur.size):=by simp [World.shape?,hb]
 have hva:w.shape? a.block=some (ta,ca'.size):=by simp [World.shape?,ha]
 change Sem.run P (α:=Value) (do
  let some t := (#[tS, tS] : Array TypeId)[0]? | stuck "slices.overlaps: no parameter types"
  let .slice elem ← underlying t | stuck "slices.overlaps: slice type expected"
  let size ← sizeOf elem
  match (some a:Option Addr),(some b:Option Addr) with
  | some a,some b =>
   if la=0∨lb=0∨size=0 then pure (Value.bool false)
   else if a.block != b.block&&(← frozen a)&&(← frozen b) then unsupported .addressObserved
   else do
    if a.block != b.block then do
     noView a;noView b
     if ← mayBeOne a b then return Value.bool ((← choose (.extern "sameAddr.stringBytes" 2)) == 1)
    pure (Value.bool (a.block==b.block&&a.off < b.off+lb*size&&b.off < a.off+la*size))
  | _,_=>pure (Value.bool false)) w=_
 by_cases h0:la=0∨lb=0∨size=0
 ·simp [run_underlying ht,hz,h0]
 have e1:=hf b rfl;have e2:=hf { block:=b.block,off:=cur.size } rfl;have e3:(match some (te,cur.size) with | some (_,0)=>true | _=>false)=false:=by
  cases h:cur.size with
  | zero=>exact absurd h hc
  | succ n=>rfl
 have e4:(match some (ta,ca'.size) with | some (_,0)=>true | _=>false)=false:=by
  cases h:ca'.size with
  | zero=>exact absurd h ha0
  | succ n=>rfl
 cases hfa:w.frozen? a <;> cases hfe:w.frozen? { block:=a.block,off:=ca'.size } <;>
  simp [run_underlying ht,hz,h0,hnb,hnb',frozen,noView,viewAt,mayBeOne,stringish,shape,Sem.run,hva,hsb,e1,e2,hfa,hfe,hc,e4,ha0]
theorem gQ {P:Program} (w:World) (t ty el k:Nat) (hu:P.underlying t=some (.slice el)) (hz:∀ w,(Go.sizeOf el).run P w=.ok k w) (b o dLen dCap:Nat) (a:Addr) (sLen sCap:Nat) (cs:List Value) {cur:Array Value} {te:TypeId} (hb:w.heap[b]?=some (.cells cur te (0,0)))
  (hn:cs.length=Nat.min sLen dLen*k) (hsrc:∀ j v,cs[j]?=some v→w.cell? (a.add j)=some v) (hfit:o+cs.length≤cur.size) (h1:∀ v∈cs,v.oneCell'=true) :
  (Builtin.copy_ #[t,t] ty #[.slice (some ⟨b,o,none⟩) dLen dCap,.slice (some a) sLen sCap]).run P w=.ok (goInt (Nat.min sLen dLen)) (w.setRow b (cur.toList.take o++cs++cur.toList.drop (o+cs.length)).toArray):=by
 have hl:=run_loadCells_list (P:=P) (w:=w) a cs hsrc;have hst:=run_storeCells_at P b o te cs 0 cur w hb (by simpa using hfit) h1;rw [hn] at hl;simp [Builtin.copy_,run_underlying hu,Builtin.lenOf,Builtin.firstCells,hz,hl];simp at hst;rw [hst];rfl
set_option maxHeartbeats 4000000 in
set_option maxRecDepth 100000 in
theorem Tryz.ins_end {w:World} {ad:Option Addr} {cap nn:Nat} {cs:List Value} {q:Addr} {vcap:Nat} {vs:List Value} (hr:(aS.row ad cap 156 3 nn cs).holds w) (hb:nn+1≤1073741824) (hv:aM (hp w) q vs) (hvl:vs.length=3) (h1:vs.all (·.oneCell')=true) :
  Calls Tryz.prog 141 #[.slice ad nn cap,.int .i64 nn,.slice (some q) 1 vcap] w fun e w'=>∃ ad' cap',e=.returned (.slice ad' (nn+1) cap')∧(aS.row ad' cap' 156 3 (nn+1) (cs++vs)).holds w'∧kL w w' (ad.map (·.block))∧∀ b,ad'.map (·.block)=some b→ad.map (·.block)=some b∨w.heap.size≤b:=by
 obtain ⟨ad',cap',w',hrun,hh,hg,hf⟩:=lT (P:=Tryz.prog) 154 T12.E154 hr (sad:=some q) (m:=1) (c:=vcap) (news:=vs) ⟨by omega,h1,.inr ⟨q,rfl,hv⟩⟩ (by unfold maxLen;omega) (by omega);have hd:=nG _ hrun;have hcap:=(jB hr).2;refine Calls.mono (R:=fun e w''=>e=.returned (.slice ad' (nn+1) cap')∧w''=w') ?_ fun e w'' hw=>by
  obtain ⟨rfl,rfl⟩:=hw;exact ⟨ad',cap',rfl,hh,⟨hg,hd⟩,hf⟩
 clear hf hh hg hd hr hv h1;by_cases hc:cap=nn
 ·subst hc
  go_enter Tryz.func141,Tryz.ntmps141
  go_wp2_with (at_builtin;refine Lib.wpList_append_run _ rfl _ _ _ _ rfl _ _ rfl rfl _ _ hrun ?_)
  go_ret
  exact ⟨rfl,rfl⟩
 go_enter Tryz.func141,Tryz.ntmps141
 go_wp2_with (at_builtin;refine Lib.wpList_append_run _ rfl _ _ _ _ rfl _ _ rfl rfl _ _ hrun ?_)
 go_ret
 exact ⟨rfl,rfl⟩
theorem gV {w:World} {b:Nat} {cur:Array Value} {t:TypeId} {z:Nat×Nat} (h:w.heap[b]?=some (.cells cur t z)) {j:Nat} {v:Value} (hv:cur.toList[j]?=some v):w.cell? ⟨b,j,none⟩=some v:=by
 rw [Array.getElem?_toList] at hv;simp [World.cell?,h,hv]
theorem jP (b o i:Nat):(⟨b,o,none⟩:Addr).add i=⟨b,o+i,none⟩:=dU (ad:=⟨b,o,none⟩) rfl i
set_option maxHeartbeats 4000000 in
set_option maxRecDepth 100000 in
theorem Tryz.ins_room {w:World} {b cap nn j:Nat} {cs:List Value} {q:Addr} {vcap:Nat} {vs:List Value} {cur:Array Value} (hw:w.heap[b]?=some (.cells cur 156 (0,0))) (hcs:cur.size=cap*3) (ht:cur.toList.take (nn*3)=cs) (hcm:cap≤9223372036854775807) (hj:j < nn) (hroom:nn+1≤cap) (hb:nn+1≤1073741824) (hv:aM (hp w) q vs) (hvl:vs.length=3) (h1:vs.all (·.oneCell')=true) (h2:cs.all (·.oneCell')=true) (hne:b≠q.block) :
  Calls Tryz.prog 141 #[.slice (some ⟨b,0,none⟩) nn cap,.int .i64 j,.slice (some q) 1 vcap] w fun e w'=>e=.returned (.slice (some ⟨b,0,none⟩) (nn+1) cap)∧w'=(w.drew.setRow b (cur.toList.take ((j+1)*3)++cs.drop (j*3)++cur.toList.drop ((nn+1)*3)).toArray).setRow b (cs.take (j*3)++vs++cs.drop (j*3)++cur.toList.drop ((nn+1)*3)).toArray:=by
 obtain ⟨c0,t0,z0,hq0,hq1⟩:=mT hv (by omega);have hcl:cs.length=nn*3:=by rw [← ht,List.length_take,Array.length_toList,hcs];omega
 have hcur:cur.toList=cs++cur.toList.drop (nn*3):=by rw [← ht,List.take_append_drop]
 have hov:∀ lb cb,(callFunc 189 #[.slice (some q) 1 vcap,.slice (some ⟨b,(j+1)*3,none⟩) lb cb]).run Tryz.prog w=.ok (.value (.bool false)) w:=fun lb cb=>by
  rw [run_callFunc_extern Tryz.func189 (by kernel_rfl) (by kernel_rfl) (by kernel_rfl) (e:=Extern.SlicesOverlaps.overlaps #[154,154] #[4]) (by kernel_rfl),
   mU w 154 4 156 Tryz.underlying154 3 Tryz.sizeOf156 q ⟨b,(j+1)*3,none⟩ 1 vcap lb cb (fun e=>hne e.symm) hq0 hq1 hw (by omega)]
  rfl
 have hcp1:∀ ty dc sc,(Builtin.copy_ #[154,154] ty #[.slice (some ⟨b,(j+1)*3,none⟩) (nn - j) dc,.slice (some ⟨b,j*3,none⟩) (nn+1 - j) sc]).run Tryz.prog w.drew=.ok (goInt (Nat.min (nn+1 - j) (nn - j))) (w.drew.setRow b (cur.toList.take ((j+1)*3)++cs.drop (j*3)++cur.toList.drop ((nn+1)*3)).toArray):=fun ty dc sc=>by
  have hl:(cs.drop (j*3)).length=Nat.min (nn+1 - j) (nn - j)*3:=by
   rw [List.length_drop,hcl,show Nat.min (nn+1 - j) (nn - j)=nn - j by simp only [Nat.min_def];split <;> omega,Nat.sub_mul]
  have:=gQ (P:=Tryz.prog) w.drew 154 ty 156 3 Tryz.underlying154 Tryz.sizeOf156 b ((j+1)*3) (nn - j) dc ⟨b,j*3,none⟩ (nn+1 - j) sc (cs.drop (j*3)) (cur:=cur) hw hl (fun i v hi=>by
   rw [jP];refine gV (w:=w.drew) hw ?_;rw [hcur,List.getElem?_append_left (by rw [List.getElem?_drop] at hi;exact (List.getElem?_eq_some_iff.1 hi).1)]
   rwa [List.getElem?_drop] at hi) (by rw [List.length_drop,hcl,hcs];omega) (fun v hv=>List.all_eq_true.1 h2 v (List.mem_of_mem_drop hv))
  rw [this,show (j+1)*3+(cs.drop (j*3)).length=(nn+1)*3 by rw [List.length_drop,hcl];omega]
 obtain ⟨X1,hX1⟩:∃ X1:List Value,X1=cur.toList.take ((j+1)*3)++cs.drop (j*3)++cur.toList.drop ((nn+1)*3):=⟨_,rfl⟩;rw [← hX1] at hcp1 ⊢;obtain ⟨W1,hW1⟩:∃ W1,W1=w.drew.setRow b X1.toArray:=⟨_,rfl⟩;rw [← hW1] at hcp1 ⊢;have hw1:W1.heap[b]?=some (.cells X1.toArray 156 (0,0)):=by rw [hW1];exact setRow_heap w.drew b cur X1.toArray 156 (0,0) hw
 have hX1l:X1.length=cap*3:=by rw [hX1];simp only [List.length_append,List.length_take,List.length_drop,Array.length_toList,hcs,hcl];omega
 have hlen1:(cur.toList.take ((j+1)*3)).length=(j+1)*3:=by rw [List.length_take,Array.length_toList,hcs];omega
 have hcp2:∀ ty dc,(Builtin.copy_ #[154,154] ty #[.slice (some ⟨b,j*3,none⟩) (nn+1 - j) dc,.slice (some q) 1 vcap]).run Tryz.prog W1=.ok (goInt (Nat.min 1 (nn+1 - j))) (W1.setRow b (cs.take (j*3)++vs++cs.drop (j*3)++cur.toList.drop ((nn+1)*3)).toArray):=fun ty dc=>by
  have hm:Nat.min 1 (nn+1 - j)=1:=by simp only [Nat.min_def];split <;> omega
  have:=gQ (P:=Tryz.prog) W1 154 ty 156 3 Tryz.underlying154 Tryz.sizeOf156 b (j*3) (nn+1 - j) dc q 1 vcap vs (cur:=X1.toArray) hw1 (by rw [hvl,hm]) (fun i v hi=>by
   have h0:=hv.cell hi;have hsp:(q.add i).block=q.block:=by unfold Addr.add;split <;> rfl
   rw [hW1];unfold World.cell? at h0 ⊢;rw [show (w.drew.setRow b X1.toArray).heap[(q.add i).block]?=w.heap[(q.add i).block]? from setRow_other w.drew b _ _ (by rw [hsp];exact fun e=>hne e.symm)]
   exact h0) (by rw [hvl,List.size_toArray,hX1l];omega) (fun v hv=>List.all_eq_true.1 h1 v hv)
  rw [this,hvl];congr 3;have e1:X1.take (j*3)=cs.take (j*3):=by
   rw [hX1,List.append_assoc,List.take_append_of_le_length (by rw [hlen1];omega),List.take_take,show min (j*3) ((j+1)*3)=j*3 by omega,← ht,List.take_take,show min (j*3) (nn*3)=j*3 by omega]
  have e2:X1.drop (j*3+3)=cs.drop (j*3)++cur.toList.drop ((nn+1)*3):=by
   rw [hX1,show j*3+3=(j+1)*3 by omega,List.append_assoc,List.drop_append_of_le_length (by rw [hlen1];omega),List.drop_of_length_le (by rw [hlen1];omega),List.nil_append]
  simp only [List.toList_toArray,e1,e2,List.append_assoc]
 have hz2:¬((j:Int)=(nn:Int)):=by omega
 have hw2:IntKind.i64.wrap ((j:Int)+1)=(j:Int)+1:=by rw [IntKind.wrap_i64];omega
 have hw3:IntKind.i64.wrap ((nn:Int)+1)=(nn:Int)+1:=by rw [IntKind.wrap_i64];omega
 have htn:((j:Int)+1).toNat=j+1:=by omega
 have htn2:((nn:Int)+1).toNat=nn+1:=by omega
 have hb1:(0:Int)≤(j:Int)+1:=by omega
 have hb2:¬(cap=j+1):=by omega
 have hb4:¬(cap=j):=by omega
 have hb3:(j:Int)≤(nn:Int)+1:=by omega
 have hin:j≤nn:=by omega
 have hro:¬((cap:Int) < (nn:Int)+1):=by omega
 clear hX1 hcur ht;have mixed:=T12.mixed;clear hw1;subst hW1
 go_enter Tryz.func141,Tryz.ntmps141
 go_wp2_with (simp only [hov])
 go_region_law_o (refine step_copy_runI rfl _ _ 154 154 rfl _ _ (by simp [Act.eval,Act.put]) (by simp [Act.eval,Act.put]) (hcp1 _ _ _) ?_)
 go_wp2_with (at_builtin;refine wpList_copy_runI _ rfl _ _ 154 154 rfl _ _ rfl rfl (hcp2 _ _) ?_)
 go_ret
 exact ⟨rfl,by simp only [List.append_assoc]⟩
set_option maxHeartbeats 4000000 in
set_option maxRecDepth 100000 in
theorem Tryz.ins_grow {w:World} {b cap nn j:Nat} {cs:List Value} {q:Addr} {vcap:Nat} {vs:List Value} {cur:Array Value} (hw:w.heap[b]?=some (.cells cur 156 (0,0))) (hcs:cur.size=cap*3) (ht:cur.toList.take (nn*3)=cs) (hnc:nn≤cap) (hj:j < nn) (hroom:cap < nn+1) (hb:nn+1≤1073741824) (hv:aM (hp w) q vs) (hvl:vs.length=3) (h1:vs.all (·.oneCell')=true) (h2:cs.all (·.oneCell')=true) :
  Calls Tryz.prog 141 #[.slice (some ⟨b,0,none⟩) nn cap,.int .i64 j,.slice (some q) 1 vcap] w fun e w'=>∃ (G:Nat) (X:List Value),nn+1≤G∧G≤maxLen∧X.length=G*3∧X.take ((nn+1)*3)=cs.take (j*3)++vs++cs.drop (j*3)∧e=.returned (.slice (some ⟨w.heap.size,0,none⟩) (nn+1) G)∧∃ Y Z m,w'=(((w.alloc (.cells Y 156)).drewN m).setRow w.heap.size Z).setRow w.heap.size X.toArray:=by
 obtain ⟨i0,v0,hi0,hz0,hzv,hzs,hzb⟩:=T12.E154.info;have hzc:v0.cells.size=3:=by rw [gD,hzv];rfl
 have hcl:cs.length=nn*3:=by rw [← ht,List.length_take,Array.length_toList,hcs];omega
 have hcur:cur.toList=cs++cur.toList.drop (nn*3):=by rw [← ht,List.take_append_drop]
 have hold:(Builtin.firstCells i0.size j (.slice (some ⟨b,0,none⟩) j cap)).run Tryz.prog w.drew=.ok (cs.take (j*3)).toArray w.drew:=by
  rw [hzs];refine run_firstCells_some (w:=w.drew) 3 j ⟨b,0,none⟩ j cap (cs.take (j*3)) (by rw [List.length_take,hcl];omega) (fun i v hi=>?_);rw [jP,Nat.zero_add];refine gV (w:=w.drew) hw ?_;rw [List.getElem?_take] at hi
  split at hi
  ·rw [hcur,List.getElem?_append_left (by rw [hcl];omega)];exact hi
  cases hi
 have hik:j+(nn+1 - j)=nn+1:=by omega
 have hkk:(nn:Int)+1 - (j:Int)=((nn+1 - j:Nat):Int):=by omega
 obtain ⟨G,hG⟩:∃ G,G=grownCap w (nn+1) cap 156:=⟨_,rfl⟩;have hGn:nn+1≤G:=by rw [hG];exact grownCap_ge w _ _ _
 have hGm:G≤maxLen:=by rw [hG];exact grownCap_le_maxLen w (nn+1) cap 156 (by unfold maxLen;omega)
 obtain ⟨R,hR⟩:∃ R:Array Value,R=(cs.take (j*3)).toArray++Builtin.zeroCells v0.cells (nn+1 - j)++Builtin.zeroCells v0.cells (G - (nn+1)):=⟨_,rfl⟩;have hRs:R.size=G*3:=by
  rw [hR];simp only [Array.size_append,List.size_toArray,List.length_take,hcl,Builtin.zeroCells,Array.size_map,Array.size_range,hzc];omega
 have hRt:R.toList.take (j*3)=cs.take (j*3):=by
  rw [hR,Array.toList_append,Array.toList_append,List.append_assoc,List.take_append_of_le_length (by simp [hcl];omega)];simp only [List.toList_toArray,List.take_take,Nat.min_self]
 have hrz:∀ ty,(Builtin.append_ #[154,3] ty #[.slice (some ⟨b,0,none⟩) j cap,.int .i64 ((nn:Int)+1 - (j:Int))]).run Tryz.prog w=.ok (.slice (some ⟨w.heap.size,0,none⟩) (nn+1) G) (w.drew.alloc (.cells R 156)):=fun ty=>by
  have h:=Lib.run_append_grow_zeros w 154 3 ty 156 i0 _ .i64 .i64 Tryz.underlying154 Tryz.underlying3 hi0 hz0 (some ⟨b,0,none⟩) j cap (cs.take (j*3)) hold (nn+1 - j) (by omega) (by rw [hzs];decide) (by omega) (by omega) (by rw [hzb];omega) (by rw [hzb,hik];exact growslice_fits hroom (by omega));rw [hik] at h;rw [hkk,hR,hG];exact h
 have hN:(w.drew.alloc (.cells R 156)).heap[w.heap.size]?=some (.cells R 156 (0,0)):=dO w.drew _;have hbw:b < w.heap.size:=(Array.getElem?_eq_some_iff.1 hw).1;obtain ⟨X1,hX1⟩:∃ X1:List Value,X1=cs.take (j*3)++vs++R.toList.drop ((j+1)*3):=⟨_,rfl⟩;obtain ⟨X2,hX2⟩:∃ X2:List Value,X2=cs.take (j*3)++vs++cs.drop (j*3)++R.toList.drop ((nn+1)*3):=⟨_,rfl⟩;have hct:(cs.take (j*3)).length=j*3:=by rw [List.length_take,hcl];omega
 have hX1l:X1.length=G*3:=by rw [hX1];simp only [List.length_append,hct,hvl,List.length_drop,Array.length_toList,hRs];omega
 have hX2l:X2.length=G*3:=by rw [hX2];simp only [List.length_append,hct,hvl,List.length_drop,Array.length_toList,hRs,hcl];omega
 have hqn:∀ i,(q.add i).block=q.block:=fun i=>by unfold Addr.add;split <;> rfl
 obtain ⟨c0,t0,z0,hq0,_⟩:=mT hv (by omega);have hqw:q.block < w.heap.size:=(Array.getElem?_eq_some_iff.1 hq0).1;have hcpA:∀ (m:Nat) ty dc,(Builtin.copy_ #[154,154] ty #[.slice (some ⟨w.heap.size,j*3,none⟩) (nn+1 - j) dc,.slice (some q) 1 vcap]).run Tryz.prog ((w.alloc (.cells R 156)).drewN m)=.ok (goInt (Nat.min 1 (nn+1 - j))) (((w.alloc (.cells R 156)).drewN m).setRow w.heap.size X1.toArray):=fun m ty dc=>by
  have hm:Nat.min 1 (nn+1 - j)=1:=by simp only [Nat.min_def];split <;> omega
  have:=gQ (P:=Tryz.prog) ((w.alloc (.cells R 156)).drewN m) 154 ty 156 3 Tryz.underlying154 Tryz.sizeOf156 w.heap.size (j*3) (nn+1 - j) dc q 1 vcap vs (cur:=R) (te:=156) (dO w _) (by rw [hvl,hm]) (fun i v hi=>by
   have h0:=hv.cell hi;unfold World.cell? at h0 ⊢;rw [show ((w.alloc (.cells R 156)).drewN m).heap[(q.add i).block]?=w.heap[(q.add i).block]? from (fW.alloc True w (.cells R 156)).keep _ (by rw [hqn];exact hqw)]
   exact h0) (by rw [hvl,hRs];omega) (fun v hv=>List.all_eq_true.1 h1 v hv)
  rw [this,hvl,hRt,hX1,show j*3+3=(j+1)*3 by omega]
 have hcpB:∀ (m:Nat) ty dc sc,(Builtin.copy_ #[154,154] ty #[.slice (some ⟨w.heap.size,(j+1)*3,none⟩) (nn - j) dc,.slice (some ⟨b,j*3,none⟩) (nn - j) sc]).run Tryz.prog (((w.alloc (.cells R 156)).drewN m).setRow w.heap.size X1.toArray)=.ok (goInt (Nat.min (nn - j) (nn - j))) ((((w.alloc (.cells R 156)).drewN m).setRow w.heap.size X1.toArray).setRow w.heap.size X2.toArray):=fun m ty dc sc=>by
  have hm:Nat.min (nn - j) (nn - j)=nn - j:=Nat.min_self _;have hl:(cs.drop (j*3)).length=Nat.min (nn - j) (nn - j)*3:=by rw [hm,List.length_drop,hcl,Nat.sub_mul]
  have:=gQ (P:=Tryz.prog) (((w.alloc (.cells R 156)).drewN m).setRow w.heap.size X1.toArray) 154 ty 156 3 Tryz.underlying154 Tryz.sizeOf156 w.heap.size ((j+1)*3) (nn - j) dc ⟨b,j*3,none⟩ (nn - j) sc (cs.drop (j*3)) (cur:=X1.toArray) (te:=156) (setRow_heap _ _ R X1.toArray 156 (0,0) (dO w _)) hl (fun i v hi=>by
   rw [jP];have hcell:w.cell? ⟨b,j*3+i,none⟩=some v:=by
    refine gV hw ?_;rw [hcur,List.getElem?_append_left (by rw [List.getElem?_drop] at hi;exact (List.getElem?_eq_some_iff.1 hi).1)]
    rwa [List.getElem?_drop] at hi
   unfold World.cell? at hcell ⊢;rw [show (((w.alloc (.cells R 156)).drewN m).setRow w.heap.size X1.toArray).heap[(⟨b,j*3+i,none⟩:Addr).block]?=w.heap[(⟨b,j*3+i,none⟩:Addr).block]? from (setRow_other _ _ _ _ (by show b≠w.heap.size;omega)).trans ((fW.alloc True w (.cells R 156)).keep _ hbw)]
   exact hcell) (by rw [List.length_drop,hcl,List.size_toArray,hX1l];omega) (fun v hv=>List.all_eq_true.1 h2 v (List.mem_of_mem_drop hv))
  rw [this,show (j+1)*3+(cs.drop (j*3)).length=(nn+1)*3 by rw [List.length_drop,hcl];omega];congr 3;have e1:X1.take ((j+1)*3)=cs.take (j*3)++vs:=by
   rw [hX1,List.take_append_of_le_length (by rw [List.length_append,hct,hvl];omega),List.take_of_length_le (by rw [List.length_append,hct,hvl];omega)]
  have e2:X1.drop ((nn+1)*3)=R.toList.drop ((nn+1)*3):=by
   rw [hX1,List.drop_append,List.drop_of_length_le (by rw [List.length_append,hct,hvl];omega),List.nil_append,List.drop_drop,List.length_append,hct,hvl,show (j+1)*3+((nn+1)*3 - (j*3+3))=(nn+1)*3 by omega]
  simp only [List.toList_toArray,e1,e2,hX2,List.append_assoc]
 have hX2t:X2.take ((nn+1)*3)=cs.take (j*3)++vs++cs.drop (j*3):=by
  rw [hX2,List.take_append_of_le_length (by simp only [List.length_append,hct,hvl,List.length_drop,hcl];omega),List.take_of_length_le (by simp only [List.length_append,hct,hvl,List.length_drop,hcl];omega)]
 refine Calls.mono (R:=fun e w''=>e=.returned (.slice (some ⟨w.heap.size,0,none⟩) (nn+1) G)∧∃ m,w''=(((w.alloc (.cells R 156)).drewN m).setRow w.heap.size X1.toArray).setRow w.heap.size X2.toArray) ?_ fun e w'' hw=>by
  obtain ⟨rfl,m,rfl⟩:=hw;exact ⟨G,X2,hGn,hGm,hX2l,hX2t,rfl,R,X1.toArray,m,rfl⟩
 have mixed:=T12.mixed;have hz2:¬((j:Int)=(nn:Int)):=by omega
 have hw2:IntKind.i64.wrap ((j:Int)+1)=(j:Int)+1:=by rw [IntKind.wrap_i64];omega
 have hw3:IntKind.i64.wrap ((nn:Int)+1)=(nn:Int)+1:=by rw [IntKind.wrap_i64];omega
 have htn:((j:Int)+1).toNat=j+1:=by omega
 have hb1:(0:Int)≤(j:Int)+1:=by omega
 have hro:(cap:Int) < (nn:Int)+1:=by omega
 have hGi:¬(G=j):=by omega
 have hGim:¬(G=j+1):=by omega
 have hci:¬(cap=j):=by omega
 have hin:j≤nn:=by omega
 have hb3:(j:Int)≤(nn:Int):=by omega
 have hcpA0:∀ ty dc,(Builtin.copy_ #[154,154] ty #[.slice (some ⟨w.heap.size,j*3,none⟩) (nn+1 - j) dc,.slice (some q) 1 vcap]).run Tryz.prog (w.drew.alloc (.cells R 156))=.ok (goInt (Nat.min 1 (nn+1 - j))) ((w.drew.alloc (.cells R 156)).setRow w.heap.size X1.toArray):=fun ty dc=>hcpA 1 ty dc;have hcpA1:∀ ty dc,(Builtin.copy_ #[154,154] ty #[.slice (some ⟨w.heap.size,j*3,none⟩) (nn+1 - j) dc,.slice (some q) 1 vcap]).run Tryz.prog ((w.alloc (.cells R 156)).drew)=.ok (goInt (Nat.min 1 (nn+1 - j))) (((w.alloc (.cells R 156)).drew).setRow w.heap.size X1.toArray):=fun ty dc=>hcpA 1 ty dc;have hcpB0:∀ ty dc sc,(Builtin.copy_ #[154,154] ty #[.slice (some ⟨w.heap.size,(j+1)*3,none⟩) (nn - j) dc,.slice (some ⟨b,j*3,none⟩) (nn - j) sc]).run Tryz.prog (((w.alloc (.cells R 156)).drew.setRow w.heap.size X1.toArray).drew)=.ok (goInt (Nat.min (nn - j) (nn - j))) ((((w.alloc (.cells R 156)).drew.setRow w.heap.size X1.toArray).drew).setRow w.heap.size X2.toArray):=fun ty dc sc=>hcpB 2 ty dc sc;clear hG hcpA hcpB hR hold hkk hik hcur hRt hX1 hX2 hX2t hN hq0 hv ht
 go_enter Tryz.func141,Tryz.ntmps141
 go_wp2_with (first
  | (at_builtin;refine Lib.wpList_append_run _ rfl _ _ _ _ rfl _ _ rfl rfl _ _ (hrz _) ?_)
  | (at_builtin;refine wpList_copy_runI _ rfl _ _ 154 154 rfl _ _ rfl rfl (hcpA1 _ _) ?_)
  | (at_builtin;refine wpList_copy_runI _ rfl _ _ 154 154 rfl _ _ rfl rfl (hcpA0 _ _) ?_))
 go_region_law_o (refine step_copy_runI rfl _ _ 154 154 rfl (.slice (some ⟨w.heap.size,(j+1)*3,none⟩) (nn - j) (G - (j+1))) (.slice (some ⟨b,j*3,none⟩) (nn - j) (cap - j)) (by simp [Act.eval,Act.put]) (by simp [Act.eval,Act.put]) (hcpB0 3 (G - (j+1)) (cap - j)) ?_)
 go_wp2
 go_ret
 exact ⟨rfl,2,rfl⟩
theorem lH {w w':World} {b:Nat} (h:∀ k,k < w.heap.size→k≠b→w'.heap[k]?=w.heap[k]?) (ho:w'.os=w.os) (ht:w'.tape=w.tape) (hu:w'.output=w.output) (hs:w.heap.size≤w'.heap.size) (hd:w.drawn≤w'.drawn):kL w w' (some b) :=
 ⟨⟨ho,ht,hu,hs,fun k hk hne=>h k hk (fun e=>hne (by rw [e]))⟩,hd⟩
theorem eU (w:World) (b:Nat) (X:Array Value):(w.setRow b X).heap.size=w.heap.size:=by simp [World.setRow]
theorem Tryz.ins141:SQ Tryz.prog 141 156 3:=by
 intro w ad cap nn cs j q vcap vs hr hj hb hv hvl h1 h2 hne _;have hcl:=(jB hr).1;by_cases hjn:j=nn
 ·subst hjn;refine (Tryz.ins_end hr hb hv hvl h1).mono fun e w' h=>?_;rw [List.take_of_length_le (by omega),List.drop_of_length_le (by omega),List.append_nil];exact h
 have hlt:j < nn:=by omega
 rcases hr.2 with ⟨_,h0⟩ | ⟨b,cap',cur,he,hbb,hw,hnc,hcm,hcs,ht⟩
 ·omega
 simp only [Value.slice.injEq] at he;obtain ⟨rfl,_,rfl⟩:=he;have hbw:b < w.heap.size:=(Array.getElem?_eq_some_iff.1 hw).1;have h3:cap≤9223372036854775807:=by unfold maxLen at hcm;omega
 have hln:(cs.take (j*3)++vs++cs.drop (j*3)).length=(nn+1)*3:=by
  simp only [List.length_append,List.length_take,List.length_drop,hvl,hcl];omega
 by_cases hroom:nn+1≤cap
 ·refine (Tryz.ins_room hw hcs ht h3 hlt hroom hb hv hvl h1 h2 (hne b rfl)).mono fun e w' h=>?_;obtain ⟨rfl,rfl⟩:=h;refine ⟨_,_,rfl,?_,?_,fun b' hb'=>.inl hb'⟩
  ·refine ⟨hln,.inr ⟨b,cap,_,rfl,hbb,setRow_heap _ b _ _ 156 (0,0) (setRow_heap w.drew b cur _ 156 (0,0) hw),hroom,hcm,?_,?_⟩⟩
   ·have:(cur.toList.drop ((nn+1)*3)).length=cap*3 - (nn+1)*3:=by rw [List.length_drop,Array.length_toList,hcs]
    rw [List.size_toArray,List.length_append,hln,this];omega
   rw [List.toList_toArray,List.take_append_of_le_length (by rw [hln];exact Nat.le_refl _),List.take_of_length_le (by rw [hln];exact Nat.le_refl _)]
  exact lH (fun k hk hkb=>(setRow_other _ _ _ _ hkb).trans (setRow_other _ _ _ _ hkb)) rfl rfl rfl (by rw [eU,eU];exact Nat.le_refl _) (Nat.le_succ _)
 refine (Tryz.ins_grow hw hcs ht hnc hlt (by omega) hb hv hvl h1 h2).mono fun e w' h=>?_;obtain ⟨G,X,hG1,hG2,hXl,hXt,rfl,Y,Z,m,rfl⟩:=h;refine ⟨_,_,rfl,?_,?_,fun b' hb'=>.inr (by simp at hb';omega)⟩
 ·refine ⟨hln,.inr ⟨w.heap.size,G,X.toArray,rfl,Nat.zero_le _,setRow_heap _ _ Z _ 156 (0,0) (setRow_heap _ _ Y _ 156 (0,0) (dO w _)),hG1,hG2,by rw [List.size_toArray,hXl],by rw [List.toList_toArray];exact hXt⟩⟩
 refine lH (fun k hk hkb=>?_) rfl rfl rfl ?_ ?_
 ·have hkn:k≠w.heap.size:=by omega
  exact (setRow_other _ _ _ _ hkn).trans ((setRow_other _ _ _ _ hkn).trans ((fW.alloc True w (.cells Y 156)).keep k hk))
 ·rw [eU,eU];exact (fW.alloc True w (.cells Y 156)).size
 exact Nat.le_add_right _ _
end Go.Proofs
namespace Go.Proofs
open Go Go.Shelf Go.RowKit Pk
set_option maxHeartbeats 4000000 in
set_option maxRecDepth 100000 in
theorem Tryz.ins_endM {w:World} {ad:Option Addr} {cap nn mv:Nat} (hm:1≤mv) {cs:List Value} {q:Addr} {vcap:Nat} {vs:List Value} (hr:(aS.row ad cap 3 1 nn cs).holds w) (hb:nn+mv≤1073741824) (hv:aM (hp w) q vs) (hvl:vs.length=mv) (h1:vs.all (·.oneCell')=true) :
  Calls Tryz.prog 113 #[.slice ad nn cap,.int .i64 nn,.slice (some q) mv vcap] w fun e w'=>∃ ad' cap',e=.returned (.slice ad' (nn+mv) cap')∧(aS.row ad' cap' 3 1 (nn+mv) (cs++vs)).holds w'∧kL w w' (ad.map (·.block))∧∀ b,ad'.map (·.block)=some b→ad.map (·.block)=some b∨w.heap.size≤b:=by
 obtain ⟨ad',cap',w',hrun,hh,hg,hf⟩:=lT (P:=Tryz.prog) 33 T12.E33 hr (sad:=some q) (m:=mv) (c:=vcap) (news:=vs) ⟨by omega,h1,.inr ⟨q,rfl,hv⟩⟩ (by unfold maxLen;omega) (by omega);have hd:=nG _ hrun;have hcap:=(jB hr).2;refine Calls.mono (R:=fun e w''=>e=.returned (.slice ad' (nn+mv) cap')∧w''=w') ?_ fun e w'' hw=>by
  obtain ⟨rfl,rfl⟩:=hw;exact ⟨ad',cap',rfl,hh,⟨hg,hd⟩,hf⟩
 clear hf hh hg hd hr hv h1;by_cases hc:cap=nn
 ·subst hc
  go_enter Tryz.func113,Tryz.ntmps113
  go_wp2_with (at_builtin;refine Lib.wpList_append_run _ rfl _ _ _ _ rfl _ _ rfl rfl _ _ hrun ?_)
  go_ret
  exact ⟨rfl,rfl⟩
 go_enter Tryz.func113,Tryz.ntmps113
 go_wp2_with (at_builtin;refine Lib.wpList_append_run _ rfl _ _ _ _ rfl _ _ rfl rfl _ _ hrun ?_)
 go_ret
 exact ⟨rfl,rfl⟩
set_option maxHeartbeats 4000000 in
set_option maxRecDepth 100000 in
theorem Tryz.ins_roomM {w:World} {b cap nn j mv:Nat} (hm:1≤mv) {cs:List Value} {q:Addr} {vcap:Nat} {vs:List Value} {cur:Array Value} (hw:w.heap[b]?=some (.cells cur 3 (0,0))) (hcs:cur.size=cap) (ht:cur.toList.take (nn)=cs) (hcm:cap≤9223372036854775807) (hj:j < nn) (hroom:nn+mv≤cap) (hb:nn+mv≤1073741824) (hv:aM (hp w) q vs) (hvl:vs.length=mv) (h1:vs.all (·.oneCell')=true) (h2:cs.all (·.oneCell')=true) (hne:b≠q.block) :
  Calls Tryz.prog 113 #[.slice (some ⟨b,0,none⟩) nn cap,.int .i64 j,.slice (some q) mv vcap] w fun e w'=>e=.returned (.slice (some ⟨b,0,none⟩) (nn+mv) cap)∧w'=(w.drew.setRow b (cur.toList.take ((j+mv))++cs.drop (j)++cur.toList.drop ((nn+mv))).toArray).setRow b (cs.take (j)++vs++cs.drop (j)++cur.toList.drop ((nn+mv))).toArray:=by
 obtain ⟨c0,t0,z0,hq0,hq1⟩:=mT hv (by omega);have hcl:cs.length=nn:=by rw [← ht,List.length_take,Array.length_toList,hcs];omega
 have hcur:cur.toList=cs++cur.toList.drop (nn):=by rw [← ht,List.take_append_drop]
 have hov:∀ lb cb,(callFunc 154 #[.slice (some q) mv vcap,.slice (some ⟨b,(j+mv),none⟩) lb cb]).run Tryz.prog w=.ok (.value (.bool false)) w:=fun lb cb=>by
  rw [run_callFunc_extern Tryz.func154 (by kernel_rfl) (by kernel_rfl) (by kernel_rfl) (e:=Extern.SlicesOverlaps.overlaps #[33,33] #[4]) (by kernel_rfl),
   mU w 33 4 3 Tryz.underlying33 1 Tryz.sizeOf3 q ⟨b,(j+mv),none⟩ mv vcap lb cb (fun e=>hne e.symm) hq0 hq1 hw (by omega)]
  rfl
 have hcp1:∀ ty dc sc,(Builtin.copy_ #[33,33] ty #[.slice (some ⟨b,(j+mv),none⟩) (nn - j) dc,.slice (some ⟨b,j,none⟩) (nn+mv - j) sc]).run Tryz.prog w.drew=.ok (goInt (Nat.min (nn+mv - j) (nn - j))) (w.drew.setRow b (cur.toList.take ((j+mv))++cs.drop (j)++cur.toList.drop ((nn+mv))).toArray):=fun ty dc sc=>by
  have hl:(cs.drop (j)).length=Nat.min (nn+mv - j) (nn - j):=by
   rw [List.length_drop,hcl,show Nat.min (nn+mv - j) (nn - j)=nn - j by simp only [Nat.min_def];split <;> omega]
  have:=gQ (P:=Tryz.prog) w.drew 33 ty 3 1 Tryz.underlying33 Tryz.sizeOf3 b ((j+mv)) (nn - j) dc ⟨b,j,none⟩ (nn+mv - j) sc (cs.drop (j)) (cur:=cur) hw (by rw [hl,Nat.mul_one]) (fun i v hi=>by
   rw [jP];refine gV (w:=w.drew) hw ?_;rw [hcur,List.getElem?_append_left (by rw [List.getElem?_drop] at hi;exact (List.getElem?_eq_some_iff.1 hi).1)]
   rwa [List.getElem?_drop] at hi) (by rw [List.length_drop,hcl,hcs];omega) (fun v hv=>List.all_eq_true.1 h2 v (List.mem_of_mem_drop hv))
  rw [this,show (j+mv)+(cs.drop (j)).length=(nn+mv) by rw [List.length_drop,hcl];omega]
 obtain ⟨X1,hX1⟩:∃ X1:List Value,X1=cur.toList.take ((j+mv))++cs.drop (j)++cur.toList.drop ((nn+mv)):=⟨_,rfl⟩;rw [← hX1] at hcp1 ⊢;obtain ⟨W1,hW1⟩:∃ W1,W1=w.drew.setRow b X1.toArray:=⟨_,rfl⟩;rw [← hW1] at hcp1 ⊢;have hw1:W1.heap[b]?=some (.cells X1.toArray 3 (0,0)):=by rw [hW1];exact setRow_heap w.drew b cur X1.toArray 3 (0,0) hw
 have hX1l:X1.length=cap:=by rw [hX1];simp only [List.length_append,List.length_take,List.length_drop,Array.length_toList,hcs,hcl];omega
 have hlen1:(cur.toList.take ((j+mv))).length=(j+mv):=by rw [List.length_take,Array.length_toList,hcs];omega
 have hcp2:∀ ty dc,(Builtin.copy_ #[33,33] ty #[.slice (some ⟨b,j,none⟩) (nn+mv - j) dc,.slice (some q) mv vcap]).run Tryz.prog W1=.ok (goInt (Nat.min mv (nn+mv - j))) (W1.setRow b (cs.take (j)++vs++cs.drop (j)++cur.toList.drop ((nn+mv))).toArray):=fun ty dc=>by
  have hm:Nat.min mv (nn+mv - j)=mv:=by simp only [Nat.min_def];split <;> omega
  have:=gQ (P:=Tryz.prog) W1 33 ty 3 1 Tryz.underlying33 Tryz.sizeOf3 b (j) (nn+mv - j) dc q mv vcap vs (cur:=X1.toArray) hw1 (by rw [hvl,hm,Nat.mul_one]) (fun i v hi=>by
   have h0:=hv.cell hi;have hsp:(q.add i).block=q.block:=by unfold Addr.add;split <;> rfl
   rw [hW1];unfold World.cell? at h0 ⊢;rw [show (w.drew.setRow b X1.toArray).heap[(q.add i).block]?=w.heap[(q.add i).block]? from setRow_other w.drew b _ _ (by rw [hsp];exact fun e=>hne e.symm)]
   exact h0) (by rw [hvl,List.size_toArray,hX1l];omega) (fun v hv=>List.all_eq_true.1 h1 v hv)
  rw [this,hvl];congr 3;have e1:X1.take (j)=cs.take (j):=by
   rw [hX1,List.append_assoc,List.take_append_of_le_length (by rw [hlen1];omega),List.take_take,show min (j) ((j+mv))=j by omega,← ht,List.take_take,show min (j) (nn)=j by omega]
  have e2:X1.drop (j+mv)=cs.drop (j)++cur.toList.drop ((nn+mv)):=by
   rw [hX1,show j+mv=(j+mv) by omega,List.append_assoc,List.drop_append_of_le_length (by rw [hlen1];omega),List.drop_of_length_le (by rw [hlen1];omega),List.nil_append]
  simp only [List.toList_toArray,e1,e2,List.append_assoc]
 have hz2:¬((j:Int)=(nn:Int)):=by omega
 have hw2:IntKind.i64.wrap ((j:Int)+(mv:Int))=(j:Int)+(mv:Int):=by rw [IntKind.wrap_i64];omega
 have hw3:IntKind.i64.wrap ((nn:Int)+(mv:Int))=(nn:Int)+(mv:Int):=by rw [IntKind.wrap_i64];omega
 have htn:((j:Int)+(mv:Int)).toNat=j+mv:=by omega
 have htn2:((nn:Int)+(mv:Int)).toNat=nn+mv:=by omega
 have hb1:(0:Int)≤(j:Int)+(mv:Int):=by omega
 have hb2:¬(cap=j+mv):=by omega
 have hb4:¬(cap=j):=by omega
 have hb3:(j:Int)≤(nn:Int)+(mv:Int):=by omega
 have hin:j≤nn:=by omega
 have hro:¬((cap:Int) < (nn:Int)+(mv:Int)):=by omega
 clear hX1 hcur ht;have mixed:=T12.mixed;clear hw1;subst hW1
 go_enter Tryz.func113,Tryz.ntmps113
 go_wp2_with (simp only [hov])
 go_region_law_o (refine step_copy_runI rfl _ _ 33 33 rfl (.slice (some ⟨b,(j+mv),none⟩) (nn - j) (cap - (j+mv))) (.slice (some ⟨b,j,none⟩) (nn+mv - j) (cap - j)) (by first | (simp [Act.eval,Act.put];done) | (simp [Act.eval,Act.put];omega)) (by first | (simp [Act.eval,Act.put];done) | (simp [Act.eval,Act.put];omega)) (hcp1 3 (cap - (j+mv)) (cap - j)) ?_)
 go_wp2_with (at_builtin;refine wpList_copy_runI _ rfl _ _ 33 33 rfl _ _ rfl rfl (hcp2 _ _) ?_)
 go_ret
 exact ⟨rfl,by simp only [List.append_assoc]⟩
set_option maxHeartbeats 4000000 in
set_option maxRecDepth 100000 in
theorem Tryz.ins_growM {w:World} {b cap nn j mv:Nat} (hm:1≤mv) {cs:List Value} {q:Addr} {vcap:Nat} {vs:List Value} {cur:Array Value} (hw:w.heap[b]?=some (.cells cur 3 (0,0))) (hcs:cur.size=cap) (ht:cur.toList.take (nn)=cs) (hnc:nn≤cap) (hj:j < nn) (hroom:cap < nn+mv) (hb:nn+mv≤1073741824) (hv:aM (hp w) q vs) (hvl:vs.length=mv) (h1:vs.all (·.oneCell')=true) (h2:cs.all (·.oneCell')=true) :
  Calls Tryz.prog 113 #[.slice (some ⟨b,0,none⟩) nn cap,.int .i64 j,.slice (some q) mv vcap] w fun e w'=>∃ (G:Nat) (X:List Value),nn+mv≤G∧G≤maxLen∧X.length=G∧X.take ((nn+mv))=cs.take (j)++vs++cs.drop (j)∧e=.returned (.slice (some ⟨w.heap.size,0,none⟩) (nn+mv) G)∧∃ Y Z m,w'=(((w.alloc (.cells Y 3)).drewN m).setRow w.heap.size Z).setRow w.heap.size X.toArray:=by
 obtain ⟨i0,v0,hi0,hz0,hzv,hzs,hzb⟩:=T12.E33.info;have hzc:v0.cells.size=1:=by rw [gD,hzv];rfl
 have hcl:cs.length=nn:=by rw [← ht,List.length_take,Array.length_toList,hcs];omega
 have hcur:cur.toList=cs++cur.toList.drop (nn):=by rw [← ht,List.take_append_drop]
 have hold:(Builtin.firstCells i0.size j (.slice (some ⟨b,0,none⟩) j cap)).run Tryz.prog w.drew=.ok (cs.take (j)).toArray w.drew:=by
  rw [hzs];refine run_firstCells_some (w:=w.drew) 1 j ⟨b,0,none⟩ j cap (cs.take (j)) (by rw [List.length_take,hcl];omega) (fun i v hi=>?_);rw [jP,Nat.zero_add];refine gV (w:=w.drew) hw ?_;rw [List.getElem?_take] at hi
  split at hi
  ·rw [hcur,List.getElem?_append_left (by rw [hcl];omega)];exact hi
  cases hi
 have hik:j+(nn+mv - j)=nn+mv:=by omega
 have hkk:(nn:Int)+(mv:Int) - (j:Int)=((nn+mv - j:Nat):Int):=by omega
 obtain ⟨G,hG⟩:∃ G,G=grownCap w (nn+mv) cap 3:=⟨_,rfl⟩;have hGn:nn+mv≤G:=by rw [hG];exact grownCap_ge w _ _ _
 have hGm:G≤maxLen:=by rw [hG];exact grownCap_le_maxLen w (nn+mv) cap 3 (by unfold maxLen;omega)
 obtain ⟨R,hR⟩:∃ R:Array Value,R=(cs.take (j)).toArray++Builtin.zeroCells v0.cells (nn+mv - j)++Builtin.zeroCells v0.cells (G - (nn+mv)):=⟨_,rfl⟩;have hRs:R.size=G:=by
  rw [hR];simp only [Array.size_append,List.size_toArray,List.length_take,hcl,Builtin.zeroCells,Array.size_map,Array.size_range,hzc];omega
 have hRt:R.toList.take (j)=cs.take (j):=by
  rw [hR,Array.toList_append,Array.toList_append,List.append_assoc,List.take_append_of_le_length (by simp [hcl];omega)];simp only [List.toList_toArray,List.take_take,Nat.min_self]
 have hrz:∀ ty,(Builtin.append_ #[33,3] ty #[.slice (some ⟨b,0,none⟩) j cap,.int .i64 ((nn:Int)+(mv:Int) - (j:Int))]).run Tryz.prog w=.ok (.slice (some ⟨w.heap.size,0,none⟩) (nn+mv) G) (w.drew.alloc (.cells R 3)):=fun ty=>by
  have h:=Lib.run_append_grow_zeros w 33 3 ty 3 i0 _ .i64 .i64 Tryz.underlying33 Tryz.underlying3 hi0 hz0 (some ⟨b,0,none⟩) j cap (cs.take (j)) hold (nn+mv - j) (by omega) (by rw [hzs];decide) (by omega) (by omega) (by rw [hzb];omega) (by rw [hzb,hik];exact growslice_fits hroom (by omega));rw [hik] at h;rw [hkk,hR,hG];exact h
 have hN:(w.drew.alloc (.cells R 3)).heap[w.heap.size]?=some (.cells R 3 (0,0)):=dO w.drew _;have hbw:b < w.heap.size:=(Array.getElem?_eq_some_iff.1 hw).1;obtain ⟨X1,hX1⟩:∃ X1:List Value,X1=cs.take (j)++vs++R.toList.drop ((j+mv)):=⟨_,rfl⟩;obtain ⟨X2,hX2⟩:∃ X2:List Value,X2=cs.take (j)++vs++cs.drop (j)++R.toList.drop ((nn+mv)):=⟨_,rfl⟩;have hct:(cs.take (j)).length=j:=by rw [List.length_take,hcl];omega
 have hX1l:X1.length=G:=by rw [hX1];simp only [List.length_append,hct,hvl,List.length_drop,Array.length_toList,hRs];omega
 have hX2l:X2.length=G:=by rw [hX2];simp only [List.length_append,hct,hvl,List.length_drop,Array.length_toList,hRs,hcl];omega
 have hqn:∀ i,(q.add i).block=q.block:=fun i=>by unfold Addr.add;split <;> rfl
 obtain ⟨c0,t0,z0,hq0,_⟩:=mT hv (by omega);have hqw:q.block < w.heap.size:=(Array.getElem?_eq_some_iff.1 hq0).1;have hcpA:∀ (m:Nat) ty dc,(Builtin.copy_ #[33,33] ty #[.slice (some ⟨w.heap.size,j,none⟩) (nn+mv - j) dc,.slice (some q) mv vcap]).run Tryz.prog ((w.alloc (.cells R 3)).drewN m)=.ok (goInt (Nat.min mv (nn+mv - j))) (((w.alloc (.cells R 3)).drewN m).setRow w.heap.size X1.toArray):=fun m ty dc=>by
  have hm:Nat.min mv (nn+mv - j)=mv:=by simp only [Nat.min_def];split <;> omega
  have:=gQ (P:=Tryz.prog) ((w.alloc (.cells R 3)).drewN m) 33 ty 3 1 Tryz.underlying33 Tryz.sizeOf3 w.heap.size (j) (nn+mv - j) dc q mv vcap vs (cur:=R) (te:=3) (dO w _) (by rw [hvl,hm,Nat.mul_one]) (fun i v hi=>by
   have h0:=hv.cell hi;unfold World.cell? at h0 ⊢;rw [show ((w.alloc (.cells R 3)).drewN m).heap[(q.add i).block]?=w.heap[(q.add i).block]? from (fW.alloc True w (.cells R 3)).keep _ (by rw [hqn];exact hqw)]
   exact h0) (by rw [hvl,hRs];omega) (fun v hv=>List.all_eq_true.1 h1 v hv)
  rw [this,hvl,hRt,hX1,show j+mv=(j+mv) by omega]
 have hcpB:∀ (m:Nat) ty dc sc,(Builtin.copy_ #[33,33] ty #[.slice (some ⟨w.heap.size,(j+mv),none⟩) (nn - j) dc,.slice (some ⟨b,j,none⟩) (nn - j) sc]).run Tryz.prog (((w.alloc (.cells R 3)).drewN m).setRow w.heap.size X1.toArray)=.ok (goInt (Nat.min (nn - j) (nn - j))) ((((w.alloc (.cells R 3)).drewN m).setRow w.heap.size X1.toArray).setRow w.heap.size X2.toArray):=fun m ty dc sc=>by
  have hm:Nat.min (nn - j) (nn - j)=nn - j:=Nat.min_self _;have hl:(cs.drop (j)).length=Nat.min (nn - j) (nn - j):=by rw [hm,List.length_drop,hcl]
  have:=gQ (P:=Tryz.prog) (((w.alloc (.cells R 3)).drewN m).setRow w.heap.size X1.toArray) 33 ty 3 1 Tryz.underlying33 Tryz.sizeOf3 w.heap.size ((j+mv)) (nn - j) dc ⟨b,j,none⟩ (nn - j) sc (cs.drop (j)) (cur:=X1.toArray) (te:=3) (setRow_heap _ _ R X1.toArray 3 (0,0) (dO w _)) (by rw [hl,Nat.mul_one]) (fun i v hi=>by
   rw [jP];have hcell:w.cell? ⟨b,j+i,none⟩=some v:=by
    refine gV hw ?_;rw [hcur,List.getElem?_append_left (by rw [List.getElem?_drop] at hi;exact (List.getElem?_eq_some_iff.1 hi).1)]
    rwa [List.getElem?_drop] at hi
   unfold World.cell? at hcell ⊢;rw [show (((w.alloc (.cells R 3)).drewN m).setRow w.heap.size X1.toArray).heap[(⟨b,j+i,none⟩:Addr).block]?=w.heap[(⟨b,j+i,none⟩:Addr).block]? from (setRow_other _ _ _ _ (by show b≠w.heap.size;omega)).trans ((fW.alloc True w (.cells R 3)).keep _ hbw)]
   exact hcell) (by rw [List.length_drop,hcl,List.size_toArray,hX1l];omega) (fun v hv=>List.all_eq_true.1 h2 v (List.mem_of_mem_drop hv))
  rw [this,show (j+mv)+(cs.drop (j)).length=(nn+mv) by rw [List.length_drop,hcl];omega];congr 3;have e1:X1.take ((j+mv))=cs.take (j)++vs:=by
   rw [hX1,List.take_append_of_le_length (by rw [List.length_append,hct,hvl];omega),List.take_of_length_le (by rw [List.length_append,hct,hvl];omega)]
  have e2:X1.drop ((nn+mv))=R.toList.drop ((nn+mv)):=by
   rw [hX1,List.drop_append,List.drop_of_length_le (by rw [List.length_append,hct,hvl];omega),List.nil_append,List.drop_drop,List.length_append,hct,hvl,show (j+mv)+((nn+mv) - (j+mv))=(nn+mv) by omega]
  simp only [List.toList_toArray,e1,e2,hX2,List.append_assoc]
 have hX2t:X2.take ((nn+mv))=cs.take (j)++vs++cs.drop (j):=by
  rw [hX2,List.take_append_of_le_length (by simp only [List.length_append,hct,hvl,List.length_drop,hcl];omega),List.take_of_length_le (by simp only [List.length_append,hct,hvl,List.length_drop,hcl];omega)]
 refine Calls.mono (R:=fun e w''=>e=.returned (.slice (some ⟨w.heap.size,0,none⟩) (nn+mv) G)∧∃ m,w''=(((w.alloc (.cells R 3)).drewN m).setRow w.heap.size X1.toArray).setRow w.heap.size X2.toArray) ?_ fun e w'' hw=>by
  obtain ⟨rfl,m,rfl⟩:=hw;exact ⟨G,X2,hGn,hGm,hX2l,hX2t,rfl,R,X1.toArray,m,rfl⟩
 have mixed:=T12.mixed;have hz2:¬((j:Int)=(nn:Int)):=by omega
 have hw2:IntKind.i64.wrap ((j:Int)+(mv:Int))=(j:Int)+(mv:Int):=by rw [IntKind.wrap_i64];omega
 have hw3:IntKind.i64.wrap ((nn:Int)+(mv:Int))=(nn:Int)+(mv:Int):=by rw [IntKind.wrap_i64];omega
 have htn:((j:Int)+(mv:Int)).toNat=j+mv:=by omega
 have hb1:(0:Int)≤(j:Int)+(mv:Int):=by omega
 have hro:(cap:Int) < (nn:Int)+(mv:Int):=by omega
 have hGi:¬(G=j):=by omega
 have hGim:¬(G=j+mv):=by omega
 have hci:¬(cap=j):=by omega
 have hin:j≤nn:=by omega
 have hb3:(j:Int)≤(nn:Int):=by omega
 have hcpA0:∀ ty dc,(Builtin.copy_ #[33,33] ty #[.slice (some ⟨w.heap.size,j,none⟩) (nn+mv - j) dc,.slice (some q) mv vcap]).run Tryz.prog (w.drew.alloc (.cells R 3))=.ok (goInt (Nat.min mv (nn+mv - j))) ((w.drew.alloc (.cells R 3)).setRow w.heap.size X1.toArray):=fun ty dc=>hcpA 1 ty dc;have hcpA1:∀ ty dc,(Builtin.copy_ #[33,33] ty #[.slice (some ⟨w.heap.size,j,none⟩) (nn+mv - j) dc,.slice (some q) mv vcap]).run Tryz.prog ((w.alloc (.cells R 3)).drew)=.ok (goInt (Nat.min mv (nn+mv - j))) (((w.alloc (.cells R 3)).drew).setRow w.heap.size X1.toArray):=fun ty dc=>hcpA 1 ty dc;have hcpB0:∀ ty dc sc,(Builtin.copy_ #[33,33] ty #[.slice (some ⟨w.heap.size,(j+mv),none⟩) (nn - j) dc,.slice (some ⟨b,j,none⟩) (nn - j) sc]).run Tryz.prog (((w.alloc (.cells R 3)).drew.setRow w.heap.size X1.toArray).drew)=.ok (goInt (Nat.min (nn - j) (nn - j))) ((((w.alloc (.cells R 3)).drew.setRow w.heap.size X1.toArray).drew).setRow w.heap.size X2.toArray):=fun ty dc sc=>hcpB 2 ty dc sc;clear hG hcpA hcpB hR hold hkk hik hcur hRt hX1 hX2 hX2t hN hq0 hv ht
 go_enter Tryz.func113,Tryz.ntmps113
 go_wp2_with (first
  | (at_builtin;refine Lib.wpList_append_run _ rfl _ _ _ _ rfl _ _ rfl rfl _ _ (hrz _) ?_)
  | (at_builtin;refine wpList_copy_runI _ rfl _ _ 33 33 rfl _ _ rfl rfl (hcpA1 _ _) ?_)
  | (at_builtin;refine wpList_copy_runI _ rfl _ _ 33 33 rfl _ _ rfl rfl (hcpA0 _ _) ?_))
 go_region_law_o (refine step_copy_runI rfl _ _ 33 33 rfl (.slice (some ⟨w.heap.size,(j+mv),none⟩) (nn - j) (G - (j+mv))) (.slice (some ⟨b,j,none⟩) (nn - j) (cap - j)) (by first | (simp [Act.eval,Act.put];done) | (simp [Act.eval,Act.put];omega)) (by first | (simp [Act.eval,Act.put];done) | (simp [Act.eval,Act.put];omega)) (hcpB0 3 (G - (j+mv)) (cap - j)) ?_)
 go_wp2
 go_ret
 exact ⟨rfl,2,rfl⟩
set_option maxHeartbeats 4000000 in
set_option maxRecDepth 100000 in
theorem Tryz.ins_none {w:World} {ad vad:Option Addr} {cap nn j vcap:Nat} (hj:j≤nn) (hc:nn≤cap) (hcm:cap≤9223372036854775807):Calls Tryz.prog 113 #[.slice ad nn cap,.int .i64 j,.slice vad 0 vcap] w fun e w'=>e=.returned (.slice ad nn cap)∧∃ n,w'=w.drewN n:=by
 have hb3:(j:Int)≤(nn:Int):=by omega
 by_cases hcj:cap=j
 ·subst hcj
  go_enter Tryz.func113,Tryz.ntmps113
  go_wp2
  go_ret
  exact ⟨rfl,0,rfl⟩
 go_enter Tryz.func113,Tryz.ntmps113
 go_wp2
 go_ret
 exact ⟨rfl,0,rfl⟩
theorem Tryz.insM113:SX Tryz.prog 113 3 1:=by
 intro w ad cap nn cs j vad vcap mv vs hr hj hb hvl hsrc h2 hne hvc;have hcl:=(jB hr).1;have hnc0:=(jB hr).2;rw [Nat.mul_one] at hvl;simp only [Nat.mul_one];rcases Nat.eq_zero_or_pos mv with h0 | hm
 ·subst h0;have hv0:vs=[]:=List.eq_nil_of_length_eq_zero (by omega);subst hv0;have hrow:nn≤cap∧cap≤9223372036854775807:=by
   rcases hr.2 with ⟨e0,h0⟩ | ⟨b,cap',cur,he,hbb,hw,hnc,hcm,hcs,ht⟩
   ·cases e0;omega
   cases he;unfold maxLen at hcm;omega
  refine (Tryz.ins_none hj hrow.1 hrow.2).mono fun e w' h=>?_;obtain ⟨rfl,n,rfl⟩:=h;refine ⟨ad,cap,rfl,?_,?_,fun b hb'=>.inl hb'⟩
  ·rw [List.append_nil,List.take_append_drop];exact hr
  exact ⟨⟨rfl,rfl,rfl,Nat.le_refl _,fun k hk hne=>rfl⟩,Nat.le_add_right _ _⟩
 rcases hsrc with h0 | ⟨_,h1,⟨_,h0,_⟩ | ⟨q,rfl,hv⟩⟩
 ·omega
 ·omega
 by_cases hjn:j=nn
 ·subst hjn;refine (Tryz.ins_endM hm hr hb hv hvl h1).mono fun e w' h=>?_;rw [List.take_of_length_le (by omega),List.drop_of_length_le (by omega),List.append_nil];exact h
 have hlt:j < nn:=by omega
 rcases hr.2 with ⟨_,h0⟩ | ⟨b,cap',cur,he,hbb,hw,hnc,hcm,hcs,ht⟩
 ·omega
 simp only [Value.slice.injEq] at he;obtain ⟨rfl,_,rfl⟩:=he;rw [Nat.mul_one] at hcs ht;have hbw:b < w.heap.size:=(Array.getElem?_eq_some_iff.1 hw).1;have h3:cap≤9223372036854775807:=by unfold maxLen at hcm;omega
 have hln:(cs.take (j)++vs++cs.drop (j)).length=(nn+mv):=by
  simp only [List.length_append,List.length_take,List.length_drop,hvl,hcl];omega
 by_cases hroom:nn+mv≤cap
 ·refine (Tryz.ins_roomM hm hw hcs ht h3 hlt hroom hb hv hvl h1 h2 (hne q rfl hm b rfl)).mono fun e w' h=>?_;obtain ⟨rfl,rfl⟩:=h;refine ⟨_,_,rfl,?_,?_,fun b' hb'=>.inl hb'⟩
  ·refine ⟨by rw [hln,Nat.mul_one],.inr ⟨b,cap,_,rfl,hbb,setRow_heap _ b _ _ 3 (0,0) (setRow_heap w.drew b cur _ 3 (0,0) hw),hroom,hcm,?_,?_⟩⟩
   ·have:(cur.toList.drop ((nn+mv))).length=cap - (nn+mv):=by rw [List.length_drop,Array.length_toList,hcs]
    rw [List.size_toArray,List.length_append,hln,this];omega
   rw [Nat.mul_one,List.toList_toArray,List.take_append_of_le_length (by rw [hln];exact Nat.le_refl _),List.take_of_length_le (by rw [hln];exact Nat.le_refl _)]
  exact lH (fun k hk hkb=>(setRow_other _ _ _ _ hkb).trans (setRow_other _ _ _ _ hkb)) rfl rfl rfl (by rw [eU,eU];exact Nat.le_refl _) (Nat.le_succ _)
 refine (Tryz.ins_growM hm hw hcs ht hnc hlt (by omega) hb hv hvl h1 h2).mono fun e w' h=>?_;obtain ⟨G,X,hG1,hG2,hXl,hXt,rfl,Y,Z,m,rfl⟩:=h;refine ⟨_,_,rfl,?_,?_,fun b' hb'=>.inr (by simp at hb';omega)⟩
 ·refine ⟨by rw [hln,Nat.mul_one],.inr ⟨w.heap.size,G,X.toArray,rfl,Nat.zero_le _,setRow_heap _ _ Z _ 3 (0,0) (setRow_heap _ _ Y _ 3 (0,0) (dO w _)),hG1,hG2,by rw [List.size_toArray,hXl,Nat.mul_one],by rw [List.toList_toArray,Nat.mul_one];exact hXt⟩⟩
 refine lH (fun k hk hkb=>?_) rfl rfl rfl ?_ ?_
 ·have hkn:k≠w.heap.size:=by omega
  exact (setRow_other _ _ _ _ hkn).trans ((setRow_other _ _ _ _ hkn).trans ((fW.alloc True w (.cells Y 3)).keep k hk))
 ·rw [eU,eU];exact (fW.alloc True w (.cells Y 3)).size
 exact Nat.le_add_right _ _
end Go.Proofs
set_option maxHeartbeats 4000000
namespace T12
open Go Go.Proofs Pk Go.RowKit
section
variable {P:Program} {r:Option Nat} {n:aZ} {p:List PanicEntry→aZ} {a:Act} {w:World} {D:List Deferred} {k:Nat} {L:cG} {ops:Array Oper} {rest:List Oper} {d:Nat} {ty:TypeId} {pos:String} {af:Array Edge}
theorem PA {y:Operand} {t u te:TypeId} {pe:Value} {ms:_} (hA:aX D k a L) (hu':P.underlying t=some (.interface ms)) (hd:Nat.blt d k=true) (hy:ev L y=some (.iface te pe)) (h:∀ a,aX D k a ((d,.bool false)::L)→O P r ops n p rest a w):O P r ops n p (⟨some d,.binOp .eql t y (.const .nilIface) u,ty,pos,af,none⟩::rest) a w:=by
 have hu:P.underlying t=some (.interface (P.methodsAt t)):=by rw [hu'];simp [Program.methodsAt,hu']
 refine cQ rfl (fun _ h=>by cases h) (w':=w) (v:=.bool false) ?_ (h _ (hA.put hd _));simp [execOp,hA.eval hy,show a.eval (.const .nilIface)=.nilIface from rfl,eqGuard,run_eql_held_nil w t _ _ hu,Result.andThen]
theorem PB {y:Operand} {t u:TypeId} {ms:_} (hA:aX D k a L) (hu':P.underlying t=some (.interface ms)) (hd:Nat.blt d k=true) (hy:ev L y=some .nilIface) (h:∀ a,aX D k a ((d,.bool true)::L)→O P r ops n p rest a w):O P r ops n p (⟨some d,.binOp .eql t y (.const .nilIface) u,ty,pos,af,none⟩::rest) a w:=by
 have hu:P.underlying t=some (.interface (P.methodsAt t)):=by rw [hu'];simp [Program.methodsAt,hu']
 refine cQ rfl (fun _ h=>by cases h) (w':=w) (v:=.bool true) ?_ (h _ (hA.put hd _));simp only [execOp,hA.eval hy,show a.eval (.const .nilIface)=.nilIface from rfl];simp [eqGuard,run_eql_nil_nil w t hu,Result.andThen]
theorem PC {y:Operand} {xT t:TypeId} {v:Value} {ds:TypeDesc} (hA:aX D k a L) (hd:Nat.blt d k=true) (hu:P.underlying t=some ds) (hds:(match ds with | .interface _=>false | _=>true)=true) (hy:ev L y=some (.iface t v))
  (h:∀ a,aX D k a ((d,.tuple #[v,.bool true])::L)→O P r ops n p rest a w):O P r ops n p (⟨some d,.typeAssert y xT t true,ty,pos,af,none⟩::rest) a w :=
 cQ rfl (fun _ h=>by cases h) (w':=w) (v:=.tuple #[v,.bool true]) (by
  simp only [execOp,Instr.typeAssert,hA.eval hy]
  cases ds <;> simp at hds <;> simp [run_underlying hu,Result.andThen]) (h _ (hA.put hd _))
end
theorem PD (q:Addr) (w:World):CallsD Tryz.prog 48 #[.pointer (some q)] .returning w fun e u' w'=>e=.returned (.tuple #[])∧u'=.returning∧w'=w:=by
 refine callsD_of_wpS Tryz.func48 rfl fun c₀ cs hu=>?_;apply wpS_seq;apply wpS_region;simp [wpOpsS,go_sem,recoverD,hu,Tryz.ntmps48,Exit.thenS];refine wpS_of_wp ?_;refine (wpIn_wide (n:=0)).1 (wpIn_mono (show Pk.W Tryz.prog none _ (fun a w'=>a.defers=[]∧w'=w) (fun _ _=>False) [] (fun _ _ _=>False) _ w from ?_) ?_)
 ·have hA:aX [] 12 { tmps:=#[.pointer (some q)]++((Array.replicate 11 undef).setIfInBounds 3 .nilIface),defers:=[] } [(0,.pointer (some q)),(4,.nilIface)]:=by
   refine ⟨rfl,by simp,fun i u h=>?_⟩;rcases i with _ | _ | _ | _ | _ | i
   ·exact h
   ·cases h
   ·cases h
   ·cases h
   ·exact h
   cases (show (none:Option Value)=some u from h)
  revert hA;generalize ({ tmps:=_,defers:=[] }:Act)=a;intro hA;refine mC (gK (dI (PB hA Tryz.underlying20 rfl rfl fun a hA=>fV (jE hA rfl (fun _=>?_) (fun h=>by cases h)))));exact dI (fH hA rfl rfl fun a hA=>fV ⟨hA.defers,rfl⟩)
 intro z a w' hz
 cases z with
 | normal =>
  obtain ⟨hd,rfl⟩:=hz;exact ⟨hd,.returning,by cases c₀;simp_all,.tuple #[],by simp [results,Tryz.results48],rfl,rfl,rfl⟩
 | ret=>exact hz.elim
 | panic ch=>exact hz.elim
 | exit id=>obtain ⟨K,hK,_⟩:=hz;simp [tF] at hK
 | goto l=>exact hz
 | outgrown=>exact hz.elim
theorem PE {M:Prop} {W w:World} {H:Hp} {Hs:List Hp} {b tE:Nat} {z0:Value} {u:Int} {σr:aK} (hS:St M W H Hs ((tE,bE b 43 [z0])::σr) w) (hT:Nat.beq 999999 tE=false) :
  CallsD Tryz.prog 48 #[.pointer (some ⟨b,0,none⟩)] (.panicking (HT (.iface 126 (.agg #[.int .i64 u])))) w fun e u' w'=>(∃ v,e=.returned v)∧settle u'=.returning ∧
   ∃ b3 cs3,St M W H Hs ((999999,bE b3 126 cs3)::(tE,bE b 43 [.int .i64 u])::σr) w':=by
 refine callsD_of_wpS Tryz.func48 rfl fun c₀ cs hu=>?_;apply wpS_seq;apply wpS_region;obtain ⟨v,hv⟩:∃ v:Value,v=.agg #[.int .i64 u]:=⟨_,rfl⟩;rw [← hv] at hu;simp [wpOpsS,go_sem,recoverD,hu,Tryz.ntmps48,Exit.thenS,HT];refine wpS_of_wp ?_;refine (wpIn_wide (n:=0)).1 (wpIn_mono (show Pk.W Tryz.prog none _ (fun a w=>a.defers=[]∧∃ b3 cs3,St M W H Hs ((999999,bE b3 126 cs3)::(tE,bE b 43 [.int .i64 u])::σr) w) (fun _ _=>False) [] (fun _ _ _=>False) _ w from ?_) ?_)
 ·have hA:aX [] 12 { tmps:=#[.pointer (some ⟨b,0,none⟩)]++((Array.replicate 11 undef).setIfInBounds 3 (.iface 126 v)),defers:=[] } [(0,.pointer (some ⟨b,0,none⟩)),(4,.iface 126 v)]:=by
   refine ⟨rfl,by simp,fun i u h=>?_⟩;rcases i with _ | _ | _ | _ | _ | i
   ·exact h
   ·cases h
   ·cases h
   ·cases h
   ·exact h
   cases (show (none:Option Value)=some u from h)
  revert hA;generalize ({ tmps:=_,defers:=[] }:Act)=a;intro hA;subst hv;refine mC (gK (dI (PA hA Tryz.underlying20 rfl rfl fun a hA=>fV (jE hA rfl (fun h=>by cases h) (fun _=>?_)))));refine gK (dI (PC hA rfl Tryz.underlying126 rfl rfl fun a hA=>mF (vs:=[.agg #[.int .i64 u],.bool true]) hA rfl rfl rfl fun a hA=>mF (vs:=[.agg #[.int .i64 u],.bool true]) hA rfl rfl rfl fun a hA=>fV (jE hA rfl (fun _=>?_) (fun h=>by cases h))));refine gK (dI (rJ 999999 hA rfl hS Tryz.zeroValue126 rfl fun b3 w hS hb a hA=>?_));refine mG 999999 (cs:=[.int .i64 u]) hA hS rfl rfl Tryz.sizeOf126 rfl rfl rfl rfl rfl fun w hS a hA=>fV ?_;refine dI (ZH (cs:=[.int .i64 u]) (v:=.int .i64 u) hA rfl rfl rfl Tryz.underlying126 rfl Tryz.sizeOf43 Tryz.isAgg43 ?_ rfl fun a hA=>?_)
  ·exact sO (x:=⟨[],12,M,W,H⟩) 999999 rfl w hS
  refine mG tE (t0:=43) (l:=[z0]) (cs:=[.int .i64 u]) hA hS rfl rfl Tryz.sizeOf43 (by simp [cI,dJ,hT]) rfl rfl rfl rfl fun w hS a hA=>fV ?_;refine ⟨hA.defers,b3,[.int .i64 u],?_⟩;simpa [dJ,hT,kM,bX] using hS
 intro z a w' hz
 cases z with
 | normal =>
  obtain ⟨hd,h⟩:=hz;subst hv;exact ⟨hd,.panicking [{ v:=.iface 126 (.agg #[.int .i64 u]),recovered:=true }],rfl,.tuple #[],by simp [results,Tryz.results48],⟨_,rfl⟩,rfl,h⟩
 | ret=>exact hz.elim
 | panic ch=>exact hz.elim
 | exit id=>obtain ⟨K,hK,_⟩:=hz;simp [tF] at hK
 | goto l=>exact hz
 | outgrown=>exact hz.elim
variable {R:Ending→World→Prop} {M:Prop} {W:World} {H:Hp} {Hs:List Hp} {σ:aK} {L:cG} {b:Nat}
theorem aAb (h:TG ⟨[],56,M,W,H⟩ Hs σ L (Rt Tryz.prog Tryz.f33 R)):TG ⟨[ML 48 [.pointer (some ⟨b,0,none⟩)]],56,M,W,H⟩ Hs σ L (SU Tryz.prog Tryz.f33 R) :=
 rtF Tryz.call48 (fun w hS=>(PD ⟨b,0,none⟩ w).mono (by rintro e u w' ⟨rfl,rfl,rfl⟩;exact ⟨⟨_,rfl⟩,rfl,hS⟩)) h
theorem DH {tE:Nat} {u:Int} {z0:Value} {σr:aK} (hT:Nat.beq 999999 tE=false)
  (h:∀ b3 cs3,TG ⟨[],56,M,W,H⟩ Hs ((999999,bE b3 126 cs3)::(tE,bE b 43 [.int .i64 u])::σr) L (Rt Tryz.prog Tryz.f33 R)) :
  TG ⟨[ML 48 [.pointer (some ⟨b,0,none⟩)]],56,M,W,H⟩ Hs ((tE,bE b 43 [z0])::σr) L (SV Tryz.prog Tryz.f33 R (HT (.iface 126 (.agg #[.int .i64 u])))) :=
 pnF (σ':=fun b3 cs3=>(999999,bE b3 126 cs3)::(tE,bE b 43 [.int .i64 u])::σr) Tryz.call48 (fun w hS=>PE hS hT) h
section
open Go.Lib
theorem TH (w:World):PredAtRunes Tryz.prog 165 #[] (fun x=>x==32) w:=by
 intro W x hx hb;show Calls Tryz.prog 165 #[encR x] W _
 go_enter Tryz.func165,Tryz.ntmps165
 go_wp2
 first | go_ret | go_ret2
 exact ⟨by simp [encR];rw [Bool.eq_iff_iff];simp;omega,0,rfl⟩
noncomputable def JO (s:aF):Option (List aF):=cD (s.length≤1073741824) (some ((goFieldsP (fun x=>x==32) (bs s)).map (·.data.toList)))
theorem aAc {M:Prop} {W:World} {H:Hp} (hH:H.le (hp W)) (hg:Gv M H) (s:aF) {r:List aF} (hr:JO s=some r):Calls Tryz.prog 164 #[.string (bs s),.func (.func 165) #[] #[]] W (eQ M H W (fun v K=>∃ (ad0:Option Addr) (cap0:Nat),v=.slice ad0 r.length cap0∧Sl (aE cC) 1 K ad0 cap0 r)):=by
 unfold JO at hr;obtain ⟨hl,hr⟩:=aG hr;obtain rfl:=Option.some.inj hr;refine (Any.strings_FieldsFunc_runes Tryz.lays229 165 #[] Tryz.call165 (fun x=>x==32) (bs s) W (by rw [fO];omega) (TH W) (by kernel_rfl) (by kernel_rfl)).mono ?_;rintro e w' ⟨A,rfl,hA,ho,hb⟩;have hE:fW M W w':=fW.of_below hg.gl.nq hb;generalize goFieldsP (fun x=>x==32) (bs s)=l at ho;refine ⟨⟨some ⟨A,0,none⟩,l.length,by rw [List.length_map],?_⟩,hE⟩;rcases ho.2 with ⟨h,_⟩ | ⟨g,cap,cur,h,_,hg,h1,h2,h3,h4⟩
 ·cases h
 cases h;refine ⟨by rw [List.length_map];unfold maxLen at h2;omega,fun i x hx=>?_⟩;rw [List.getElem?_map,Option.map_eq_some_iff] at hx;obtain ⟨y,hy,rfl⟩:=hx;refine ⟨_,cC y.data.toList,rfl,rfl,rfl,⟨by rw [dU rfl],fun j v hv=>?_⟩,rfl⟩;rw [dU rfl]
 cases j with
 | succ j=>simp [cC] at hv
 | zero =>
  have hv:v=.string (bs y.data.toList):=by simpa [cC] using hv.symm
  subst hv;refine ⟨cur,9,(0,0),by show (if A < W.heap.size then _ else w'.heap[A]?)=_;rw [if_neg (by omega)];exact hg,?_⟩;have hi:i < l.length:=(List.getElem?_eq_some_iff.1 hy).1;have:(cur.toList.take (l.length*1))[i]?=some (.string y):=by rw [h4];simp [hy]
  rw [List.getElem?_take,if_pos (by omega)] at this;rw [← RO y];simpa using this
end
end T12
set_option linter.unusedVariables false
namespace Go.Proofs
open Go.Shelf Go.RowKit Pk
set_option maxHeartbeats 4000000
set_option maxRecDepth 100000
theorem DI {w:World} {b:Nat} {v u z:Value} {t:TypeId} (h:w.heap[b]?=some (.cells #[v,z] t (0,0))):(w.setCell ⟨b,0,none⟩ u).heap[b]?=some (.cells #[u,z] t (0,0)):=by
 unfold World.setCell;simp [Array.getElem?_modify,h]
theorem Tryz.ccS {M:Prop} {w0 w:World} {H0:Hp} {Hs:List Hp} {σ:aK} (hS:St M w0 H0 Hs σ w) {T b:Nat} {k:Bool} {v:Value} (hσ:cI σ T=some (bE b 70 [dZ b k,v])) :
  Calls Tryz.prog 41 #[.pointer (some ⟨b,0,none⟩)] w fun e w'=>e=.returned (.tuple #[])∧St M w0 H0 Hs (dJ σ T (bE b 70 [dZ b true,v])) w':=by
 have hb:w.heap[b]?=some (.cells #[dZ b k,v] 70 (0,0)):=hS.get hσ;have hc:w.cell? ⟨b,0,none⟩=some (dZ b k):=by unfold World.cell?;simp [hb]
 cases k with
 | true =>
  refine (Tryz.cc_used b w hc).mono ?_;rintro e w' ⟨rfl,rfl⟩;exact ⟨rfl,hS.as T hσ rfl⟩
 | false =>
  refine (Tryz.cc_new b w hc (by unfold World.shape?;simp [hb]) (by unfold World.frozen?;simp [hb])).mono ?_;rintro e w' ⟨rfl,rfl⟩
  refine ⟨rfl,hS.step hσ ⟨⟨rfl,rfl,rfl,by simp [World.setCell],fun k _ hk=>by
   have e:k≠b:=fun e=>hk (by rw [e];rfl);unfold World.setCell
   simp [Array.getElem?_modify,Ne.symm e]⟩,Nat.le_refl _⟩ (DI hb) fun b' h=>.inl h⟩
section
variable {P:Program} {ρ:Go.Shelf.Ren}
open Go.Shelf Go.RowKit
set_option maxHeartbeats 2000000 in
set_option maxRecDepth 100000 in
theorem aAd (L:Lays.n169 P ρ) (X:Builder.Extra P ρ) {b g cap:Nat} {cur:Array Value} {p:Value} {l:List UInt8} {w:World} (h0:l≠[]) (hbk:w.heap[b]?=some (.cells #[p,.slice (some ⟨g,0,none⟩) l.length cap] (ρ.t 72) (0,0))) (hg:w.heap[g]?=some (.cells cur (ρ.t 5) (0,0)))
  (hnc:l.length≤cap) (hcm:cap≤maxLen) (hcs:cur.size=cap*1) (ht:cur.toList.take (l.length*1)=Lib.byteCells l) :
  Calls P (ρ.f 169) #[.pointer (some ⟨b,0,none⟩)] w fun e w'=>e=.returned (.string ⟨l.toArray⟩)∧w'=w.drew.freeze ⟨g,0,none⟩ l.length:=by
 have hl0:l.length≠0:=by simpa using h0
 have c1:w.drew.cell? ⟨b,1,none⟩=some (.slice (some ⟨g,0,none⟩) l.length cap):=by
  have:w.drew.heap[b]?=some (.cells #[p,.slice (some ⟨g,0,none⟩) l.length cap] (ρ.t 72) (0,0)):=hbk;rw [Lib.cell_of_heap this];rfl
 have hSD:(Builtin.unsafeSliceData_ #[(ρ.t 37)] (ρ.t 127) #[.slice (some ⟨g,0,none⟩) l.length cap]).run P w.drew=.ok (.pointer (some ⟨g,0,none⟩)) w.drew :=
  Lib.run_unsafeSliceData_row _ _ _ _ _ _ (by omega)
 have hg':w.drew.heap[g]?=some (.cells cur (ρ.t 5) (0,0)):=hg;have hUS:(Builtin.unsafeString_ #[(ρ.t 127),(ρ.t 3)] (ρ.t 9) #[.pointer (some ⟨g,0,none⟩),.int .i64 l.length]).run P w.drew=.ok (.string ⟨l.toArray⟩) (w.drew.freeze ⟨g,0,none⟩ l.length):=by
  refine Lib.run_unsafeString_row w.drew (ρ.t 127) (ρ.t 3) (ρ.t 9) (ρ.t 5) L.t127 X.cellsByte g cur.size (by simp [World.shape?,hg']) l h0 (by omega) (by unfold maxLen at hcm;omega) ?_;intro j x hx;have h2:cur[j]?=some (.int .u8 x.toNat):=by
   have h3:(cur.toList.take (l.length*1))[j]?=some (.int .u8 x.toNat):=by rw [ht];simp [Lib.byteCells,hx]
   rw [List.getElem?_take] at h3
   split at h3
   ·rw [Array.getElem?_toList] at h3;exact h3
   cases h3
  have e:(⟨g,0,none⟩:Addr).add j=⟨g,j,none⟩:=by rw [dU rfl];simp
  rw [e,Lib.cell_of_heap hg'];exact h2
 have mixed:=L.mixed;have t72:=L.t72;have a72:=L.a72;have z72:=L.z72;have v72:=L.v72;have u0:=run_underlying L.t72;have t70:=L.t70;have a70:=L.a70;have z70:=L.z70;have v70:=L.v70;have u1:=run_underlying L.t70;have t37:=L.t37;have a37:=L.a37;have z37:=L.z37;have v37:=L.v37;have u2:=run_underlying L.t37;have t127:=L.t127;have a127:=L.a127;have z127:=L.z127;have v127:=L.v127;have u4:=run_underlying L.t127;have t3:=L.t3;have a3:=L.a3;have z3:=L.z3;have v3:=L.v3;have u3:=run_underlying L.t3;have t9:=L.t9;have a9:=L.a9;have z9:=L.z9;have v9:=L.v9;have u9:=run_underlying L.t9;have t5:=X.t5;have a5:=X.a5;have z5:=X.z5;have v5:=X.v5;have u5:=run_underlying X.t5
 go_enter L.f169,Body.n169_ntmps ρ
 go_wp2
 go_region_o
 all_goals (go_wp2;go_ret;exact ⟨rfl,rfl⟩)
end
theorem Tryz.strS {M:Prop} (hM:¬M) {w0 w:World} {H0:Hp} {Hs:List Hp} {σ:aK} (hS:St M w0 H0 Hs σ w) {T T2 b:Nat} {k:Bool} {ad:Option Addr} {cap:Nat} {l:aF} (hσ:cI σ T=some (bE b 70 [dZ b k,.slice ad l.length cap])) (h2:cI σ T2=some (.list ad cap 5 1 bW l)) :
  Calls Tryz.prog 27 #[.pointer (some ⟨b,0,none⟩)] w fun e w'=>e=.returned (.string (bs l))∧St M w0 H0 Hs (dQ (dQ σ T2) T) w':=by
 have hb:w.heap[b]?=some (.cells #[dZ b k,.slice ad l.length cap] 70 (0,0)):=hS.get hσ;have hrow:w.ownsRow 0 5 1 (.slice ad l.length cap) l.length (l.flatMap bW):=hS.get h2;have hcells:Lib.byteCells l=l.flatMap bW:=by rw [lG];rfl
 have fin:∀ {w'},Go.RowKit.Below w.heap.size w w'→St M w0 H0 Hs (dQ (dQ σ T2) T) w':=fun hw=>((hS.ext' (fW.of_below hM hw)).del T2).del T;by_cases hl:l=[]
 ·subst hl;rcases hrow.2 with ⟨hv,_⟩ | ⟨g,cap',cur,hv,_,hg0,_⟩
  ·simp only [Value.slice.injEq] at hv;obtain ⟨rfl,_,rfl⟩:=hv;refine (Any.Builder_String_nil Tryz.lays169 Tryz.Builder_Extra_169 w.heap.size b (dZ b k) w hb).mono ?_;rintro e w' ⟨rfl,hw⟩;exact ⟨rfl,fin hw⟩
  simp only [Value.slice.injEq] at hv;obtain ⟨rfl,_,rfl⟩:=hv;by_cases hc0:cap=0
  ·subst hc0;refine (Any.Builder_String_noroom Tryz.lays169 Tryz.Builder_Extra_169 w.heap.size b g (dZ b k) cur w (Nat.le_refl _) hb hg0).mono ?_;rintro e w' ⟨rfl,hw⟩;exact ⟨rfl,fin hw⟩
  refine (Any.Builder_String_room Tryz.lays169 Tryz.Builder_Extra_169 w.heap.size b g cap (dZ b k) w hc0 hb).mono ?_;rintro e w' ⟨rfl,hw⟩;exact ⟨rfl,fin hw⟩
 rcases hrow.2 with ⟨_,hn⟩ | ⟨g,cap',cur,hv,_,hg0,hnc,hcm,hcs,ht⟩
 ·exact absurd (List.eq_nil_of_length_eq_zero hn) hl
 simp only [Value.slice.injEq] at hv;obtain ⟨rfl,_,rfl⟩:=hv;refine (aAd Tryz.lays169 Tryz.Builder_Extra_169 hl hb hg0 hnc hcm hcs (by rw [ht,hcells])).mono ?_;rintro e w' ⟨rfl,rfl⟩;have hz:l.length≠0:=by simpa using hl
 have hoth:∀ c,c≠g→(w.drew.freeze ⟨g,0,none⟩ l.length).heap[c]?=w.heap[c]?:=fun c hc=>by
  unfold World.freeze;rw [if_neg hz];simp only [Array.getElem?_modify];rw [if_neg (Ne.symm hc)];rfl
 obtain ⟨o,ho⟩:∃ o,(w.drew.freeze ⟨g,0,none⟩ l.length).heap[g]?=some o:=by
  unfold World.freeze;rw [if_neg hz];simp only [Array.getElem?_modify,if_true];have:w.drew.heap[g]?=some (.cells cur 5 (0,0)):=hg0;rw [this];exact ⟨_,rfl⟩
 have hsz:w.heap.size≤(w.drew.freeze ⟨g,0,none⟩ l.length).heap.size:=by
  unfold World.freeze;rw [if_neg hz];simp
 have hS2:=hS.stepB hM h2 (y:=.blk g o) (w':=w.drew.freeze ⟨g,0,none⟩ l.length) ⟨by unfold World.freeze;rw [if_neg hz];rfl,by unfold World.freeze;rw [if_neg hz];rfl,by unfold World.freeze;rw [if_neg hz];rfl,hsz,fun c _ hc=>hoth c (fun e=>hc (by rw [e];rfl))⟩ ho (fun c hc=>.inl hc);have hd:∀ {σ:Pk.aK} {t:Nat} {y:Pk.aS},dQ (dJ σ t y) t=dQ σ t:=by
  intro σ t y
  induction σ with
  | nil=>rfl
  | cons z σ ih =>
   obtain ⟨i,u⟩:=z;by_cases e:i=t
   ·subst e;simp [dJ,dQ,fI]
   simp only [dJ,dQ,dS e,cond_false,ih]
 have hS3:=(hS2.del T2).del T;rw [hd] at hS3;exact ⟨rfl,hS3⟩
end Go.Proofs
set_option maxHeartbeats 4000000
namespace T12
open Go Go.Proofs Pk Tryz
noncomputable section
def DJ (line:aF) (s1:Int):Option ((Int)⊕(Int)) :=
 ((
  if s1 < (line.length:Int) then (
   cD (0≤s1) <|
   (line[s1.toNat]?).bind fun x0 =>
   some (decide ((x0.toNat:Int)≠32)))
  else
  some false
 ):Option (Bool)).bind fun t31 =>
 if t31 then (
  cD (-9223372036854775808≤(s1+1)∧(s1+1)≤9223372036854775807) <|
  some (.inl (s1+1)))
 else
 some (.inr s1)
def RB (line:aF) (fw:Int):Option (Int) :=
 (bG (DJ line) fw).bind fun e16 =>
 some e16
def RD (cV:aF):Option (Int×Bool) :=
 if cV=[114,101,115,117,108,116] then (
  some (0,false))
 else
 if cV=[109,111,118,101] then (
  some (0,true))
 else
 ((
  if cV=[100,97,121] then (
   some (decide (cV=[100,97,121])))
  else
  ((
   if cV=[104,111,117,115,101] then (
    some (decide (cV=[104,111,117,115,101])))
   else
   ((
    if cV=[97,100,111,112,116] then (
     some (decide (cV=[97,100,111,112,116])))
    else
    some (decide (cV=[111,114,100,101,114]))
   ):Option (Bool)).bind fun t0 =>
   some t0
  ):Option (Bool)).bind fun t1 =>
  some t1
 ):Option (Bool)).bind fun t2 =>
 if t2 then (
  some (1,false))
 else
 if cV=[115,97,121] then (
  some (1,true))
 else
 ((
  if cV=[114,101,109,111,118,101] then (
   some (decide (cV=[114,101,109,111,118,101])))
  else
  ((
   if cV=[99,105,116,101] then (
    some (decide (cV=[99,105,116,101])))
   else
   some (decide (cV=[112,97,105,114]))
  ):Option (Bool)).bind fun t3 =>
  some t3
 ):Option (Bool)).bind fun t4 =>
 if t4 then (
  some (2,false))
 else
 if cV=[99,104,97,110,103,101] then (
  some (2,true))
 else
 ((
  if cV=[98,105,110,100] then (
   some (decide (cV=[98,105,110,100])))
  else
  ((
   if cV=[104,105,100,101] then (
    some (decide (cV=[104,105,100,101])))
   else
   some (decide (cV=[116,101,108,108]))
  ):Option (Bool)).bind fun t5 =>
  some t5
 ):Option (Bool)).bind fun t6 =>
 if t6 then (
  some (3,false))
 else
 if cV=[97,100,100] then (
  some (3,true))
 else
 if cV=[100,105,118,105,100,101] then (
  some (4,false))
 else
 if cV=[112,97,112,101,114] then (
  some (4,true))
 else
 some ((-1),false)
def yX (t21:aF) (s1:Nat×Int):Option ((Nat×Int)⊕((Int)⊕(Int×Bool))) :=
 if (s1.1:Int) < (t21.length:Int) then (
  ((
   (t21[s1.1]?).bind fun x1 =>
   if (x1.toNat:Int) < 48 then (
    some true)
   else
   some (decide (57 < (x1.toNat:Int)))
  ):Option (Bool)).bind fun t0 =>
  if t0 then (
   some (.inr (.inr (0,false))))
  else
  cD (-9223372036854775808≤(10*s1.2)∧(10*s1.2)≤9223372036854775807) <|
  (t21[s1.1]?).bind fun x0 =>
  cD (-9223372036854775808≤((10*s1.2)+(((x0.toNat:Int) - 48)%256))∧((10*s1.2)+(((x0.toNat:Int) - 48)%256))≤9223372036854775807) <|
  cD (-9223372036854775808≤((s1.1:Int)+1)∧((s1.1:Int)+1)≤9223372036854775807) <|
  some (.inl ((s1.1+1),((10*s1.2)+(((x0.toNat:Int) - 48)%256)))))
 else
 some (.inr (.inl s1.2))
def MS (aj:aF):Option (Int×Bool) :=
 ((
  if 0 < (aj.length:Int) then (
   (aj[0]?).bind fun x0 =>
   some (decide ((x0.toNat:Int)=45)))
  else
  some false
 ):Option (Bool)).bind fun t7 =>
 ((
  if t7 then (
   cD (1≤aj.length) <|
   some (aj.drop 1))
  else
  some aj
 ):Option (aF)).bind fun t21 =>
 ((
  if (t21.length:Int)=0 then (
   some true)
  else
  if 9 < (t21.length:Int) then (
   some true)
  else
  (t21[0]?).bind fun x1 =>
  if (x1.toNat:Int)=48 then (
   if 1 < (t21.length:Int) then (
    some true)
   else
   some t7)
  else
  some false
 ):Option (Bool)).bind fun t44 =>
 if t44 then (
  some (0,false))
 else
 (bG (yX t21) (0,0)).bind fun eA1=>match eA1 with
 | .inr z=>some z
 | .inl t0 =>
 ((
  if t7 then (
   cD (-9223372036854775808≤(0 - t0)∧(0 - t0)≤9223372036854775807) <|
   some (0 - t0))
  else
  some t0
 ):Option (Int)).bind fun t1 =>
 some (t1,true)
def DK (r8:Int×Bool) (line:aF) (s1:Nat×Int×List Int):Option ((Nat×Int×List Int)⊕((Int×List Int)⊕(aF×List Int×aF×Bool))) :=
 if (s1.1:Int) < r8.1 then (
  if s1.2.1=(line.length:Int) then (
   some (.inr (.inr ([],([]:List Int),[],false))))
  else
  cD (-9223372036854775808≤(s1.2.1+1)∧(s1.2.1+1)≤9223372036854775807) <|
  (RB line (s1.2.1+1)).bind fun r0 =>
  cD (0≤(s1.2.1+1)) <|
  cD (0≤r0) <|
  cD ((s1.2.1+1).toNat≤r0.toNat∧r0.toNat≤line.length) <|
  (MS ((line.drop ((s1.2.1+1).toNat)).take (r0.toNat - ((s1.2.1+1).toNat)))).bind fun r1 =>
  if r1.2 then (
   cD (s1.2.2.length+1≤1073741824) <|
   cD (-9223372036854775808≤((s1.1:Int)+1)∧((s1.1:Int)+1)≤9223372036854775807) <|
   some (.inl ((s1.1+1),r0,(s1.2.2++[r1.1]))))
  else
  some (.inr (.inr ([],([]:List Int),[],false))))
 else
 some (.inr (.inl (s1.2.1,s1.2.2)))
def m16 (line:aF):Option (aF×List Int×aF×Bool) :=
 (RB line 0).bind fun r1 =>
 cD (0≤r1) <|
 cD (r1.toNat≤line.length) <|
 (RD (line.take r1.toNat)).bind fun r8 =>
 if r8.1 < 0 then (
  some ([],([]:List Int),[],false))
 else
 (bG (DK r8 line) (0,r1,([]:List Int))).bind fun eA1=>match eA1 with
 | .inr z=>some z
 | .inl t0 =>
 if r8.2==decide (t0.1 < (line.length:Int)) then (
  if r8.2 then (
   cD (-9223372036854775808≤(t0.1+1)∧(t0.1+1)≤9223372036854775807) <|
   cD (0≤(t0.1+1)) <|
   cD ((t0.1+1).toNat≤line.length) <|
   some ((line.take r1.toNat),t0.2,(line.drop ((t0.1+1).toNat)),true))
  else
  some ((line.take r1.toNat),t0.2,[],true))
 else
 some ([],([]:List Int),[],false)
def PF (lines:List aF) (s1:Nat×Int×Int):Option ((Nat×Int×Int)⊕(Int×Int)) :=
 if (s1.1:Int) < (lines.length:Int) then (
  (lines[s1.1]?).bind fun x0 =>
  (m16 x0).bind fun r0 =>
  ((
   if r0.2.2.2 then (
    some (decide (r0.1=[116,101,108,108])))
   else
   some false
  ):Option (Bool)).bind fun t0 =>
  ((
   if t0 then (
    some (IntKind.i64.wrap (s1.2.2+1)))
   else
   some s1.2.2
  ):Option (Int)).bind fun t1 =>
  some (.inl ((s1.1+1),(IntKind.i64.wrap (s1.2.1+(x0.length:Int))),t1)))
 else
 some (.inr (s1.2.1,s1.2.2))
def m5 (lines:List aF):Option (Bool) :=
 (bG (PF lines) (0,0,0)).bind fun e55 =>
 ((
  if e55.2≤8 then (
   if (lines.length:Int)≤40 then (
    if e55.1≤1500 then (
     some true)
    else
    if (lines.length:Int)≤62 then (
     if e55.1≤200 then (
      some true)
     else
     if (lines.length:Int)=1 then (
      some (decide (e55.1≤410)))
     else
     some false)
    else
    if (lines.length:Int)=1 then (
     some (decide (e55.1≤410)))
    else
    some false)
   else
   if (lines.length:Int)≤62 then (
    if e55.1≤200 then (
     some true)
    else
    if (lines.length:Int)=1 then (
     some (decide (e55.1≤410)))
    else
    some false)
   else
   if (lines.length:Int)=1 then (
    some (decide (e55.1≤410)))
   else
   some false)
  else
  some false
 ):Option (Bool)).bind fun t0 =>
 some t0
def PG (lines:List aF) (s1:Nat):Option ((Nat)⊕((Unit)⊕Bool)) :=
 if (s1:Int) < (lines.length:Int) then (
  (lines[s1]?).bind fun x0 =>
  if 400 < (x0.length:Int) then (
   some (.inr (.inr false)))
  else
  some (.inl (s1+1)))
 else
 some (.inr (.inl ()))
def m6 (lines:List aF):Option (Bool) :=
 (bG (PG lines) 0).bind fun e16=>match e16 with
 | .inr z=>some z
 | .inl t0 =>
 some (decide ((lines.length:Int)≤60))
def m17  : Option (List aF) :=
 some ([[104,111,117,115,101,32,53],[115,97,121,32,49,49,32,84,104,101,32,72,111,117,115,101,32,109,101,116,46],[109,111,118,101,32,116,104,105,115,32,72,111,117,115,101,32,110,111,116,101,115,32,116,104,101,32,114,101,112,111,114,116],[112,97,112,101,114,32,51,32,48,32,50,32,51,32,119,101,108,99,111,109,101,115],[97,100,111,112,116,32,51],[100,105,118,105,100,101,32,48,32,48,32,51,32,50],[116,101,108,108,32,49,32,48,32,48],[116,101,108,108,32,49,32,49,32,48],[116,101,108,108,32,49,32,48,32,49],[116,101,108,108,32,49,32,49,32,49],[116,101,108,108,32,50,32,48,32,52],[114,101,115,117,108,116],[116,101,108,108,32,50,32,49,32,52],[114,101,115,117,108,116],[111,114,100,101,114,32,49,50],[98,105,110,100,32,51,32,52,32,50,48],[104,105,100,101,32,49,49,32,50,32,49,57,57,48],[99,105,116,101,32,49,50,32,48]]:List aF)
def yY (aj:List aF) (cl:aF→Option Bool) (s1:Nat):Option ((Nat)⊕((Unit)⊕Int)) :=
 if (s1:Int) < (aj.length:Int) then (
  (aj[s1]?).bind fun x0 =>
  (cl x0).bind fun r0 =>
  if r0 then (
   some (.inr (.inr (s1:Int))))
  else
  some (.inl (s1+1)))
 else
 some (.inr (.inl ()))
def TI (aj:List aF) (cl:aF→Option Bool):Option (Int) :=
 (bG (yY aj cl) 0).bind fun e19=>match e19 with
 | .inr z=>some z
 | .inl t0 =>
 some (-1)
def PH (aj:List aF) (cl:aF→Option Bool):Option (Bool) :=
 (TI aj cl).bind fun r1 =>
 some (decide (0≤r1))
def MT (aj:aF):Option (Bool) :=
 some (decide (400 < (aj.length:Int)))
def m19 (lines:List aF):Option (Int) :=
 ((
  if 60 < (lines.length:Int) then (
   some true)
  else
  (PH lines (MT)).bind fun r0 =>
  some r0
 ):Option (Bool)).bind fun t8 =>
 if t8 then (
  some 3)
 else
 some 0
def wK (eh:Int) (low:Int) (high:Int):Option (Bool) :=
 ((
  if low≤eh then (
   some (decide (eh≤high)))
  else
  some false
 ):Option (Bool)).bind fun t4 =>
 some t4
def jK (ir:Bool) (e:Int):Option (Unit⊕Unit) :=
 if ir then (
  some (.inl ()))
 else
 some (.inr ())
def TJ (ac:aJ) (bq:List Int) (cy:aF):Option (aJ⊕Int) :=
 (bq[0]?).bind fun x3 =>
 (wK x3 ac.state.day 99999).bind fun r0 =>
 (jK r0 2).bind fun r1=>match r1 with
 | .inl y0=>(
  some (.inl (⟨({ac.state with day:=x3}:cU)⟩:aJ)))
 | .inr _=>(
  some (.inr 2))
def DL (aj:List eB):Option (List eB) :=
 cD (([]:List eB).length+aj.length≤1073741824) <|
 some (([]:List eB)++aj)
def JP (aj:List aI):Option (List aI) :=
 cD (([]:List aI).length+aj.length≤1073741824) <|
 some (([]:List aI)++aj)
def DM (bz:List aI) (ct:aI):Option (List aI) :=
 (JP bz).bind fun r4 =>
 cD (r4.length+([ct]:List aI).length≤1073741824) <|
 some (r4++([ct]:List aI))
def TK (ac:aJ) (parts:List eB):Option (bN) :=
 some (⟨1,ac.state.day,1,10,parts⟩:bN)
def JQ (ac:aJ) (parts:List eB):Option (bN) :=
 some (⟨1,ac.state.day,1,10,parts⟩:bN)
def yZ (aq:bN) (s1:Nat×List aI):Option ((Nat×List aI)⊕(List aI)) :=
 if (s1.1:Int) < (aq.parts.length:Int) then (
  (aq.parts[s1.1]?).bind fun x0 =>
  cD (s1.2.length+x0.paragraphs.length≤1073741824) <|
  some (.inl ((s1.1+1),(s1.2++x0.paragraphs))))
 else
 some (.inr s1.2)
def MU (aq:bN):Option (List aI) :=
 (bG (yZ aq) (0,([]:List aI))).bind fun e82 =>
 some e82
def DN (eh:Int) (low:Int) (high:Int):Option (Bool) :=
 ((
  if low≤eh then (
   some (decide (eh≤high)))
  else
  some false
 ):Option (Bool)).bind fun t4 =>
 some t4
def HX (eh:Int):Option (Bool) :=
 (DN eh 0 99999).bind fun r1 =>
 some r1
def uM (au:aI) (cm:aI→Option Bool):Option (Bool) :=
 (cm au).bind fun r4 =>
 some (!r4)
def wL (aj:List aI) (cl:aI→Option Bool) (s1:Nat):Option ((Nat)⊕((Unit)⊕Int)) :=
 if (s1:Int) < (aj.length:Int) then (
  (aj[s1]?).bind fun x0 =>
  (cl x0).bind fun r0 =>
  if r0 then (
   some (.inr (.inr (s1:Int))))
  else
  some (.inl (s1+1)))
 else
 some (.inr (.inl ()))
def JR (aj:List aI) (cl:aI→Option Bool):Option (Int) :=
 (bG (wL aj cl) 0).bind fun e19=>match e19 with
 | .inr z=>some z
 | .inl t0 =>
 some (-1)
def JS (aj:List aI) (cl:aI→Option Bool):Option (Bool) :=
 (JR aj cl).bind fun r1 =>
 some (decide (0≤r1))
def DO (bz:List aI) (right:aI→Option Bool):Option (Bool) :=
 (JS bz (fun x0_=>uM x0_ right)).bind fun r5 =>
 some (!r5)
def PI (eh:Int):Option (Bool) :=
 (DN eh 1 999).bind fun r1 =>
 some r1
def uN (au:Int) (cm:Int→Option Bool):Option (Bool) :=
 (cm au).bind fun r1 =>
 some (!r1)
def rY (aj:List UInt8) (cl:Int→Option Bool) (s1:Nat):Option ((Nat)⊕((Unit)⊕Int)) :=
 if (s1:Int) < (aj.length:Int) then (
  (aj[s1]?).bind fun x0 =>
  (cl (x0.toNat:Int)).bind fun r0 =>
  if r0 then (
   some (.inr (.inr (s1:Int))))
  else
  some (.inl (s1+1)))
 else
 some (.inr (.inl ()))
def DP (aj:List UInt8) (cl:Int→Option Bool):Option (Int) :=
 (bG (rY aj cl) 0).bind fun e19=>match e19 with
 | .inr z=>some z
 | .inl t0 =>
 some (-1)
def AG (aj:List UInt8) (cl:Int→Option Bool):Option (Bool) :=
 (DP aj cl).bind fun r1 =>
 some (decide (0≤r1))
def DQ (bz:List UInt8) (right:Int→Option Bool):Option (Bool) :=
 (AG bz (fun x0_=>uN x0_ right)).bind fun r5 =>
 some (!r5)
def wM (ga:Int):Option (Bool) :=
 ((
  if (32:Int)≤ga then (
   some (decide (ga≤126)))
  else
  some false
 ):Option (Bool)).bind fun t4 =>
 some t4
def PJ (aj:aF):Option (Bool) :=
 ((
  (DN (aj.length:Int) 1 200).bind fun r0 =>
  if r0 then (
   cD (aj.length≤1073741824) <|
   (DQ aj (wM)).bind fun r1 =>
   some r1)
  else
  some false
 ):Option (Bool)).bind fun t0 =>
 some t0
def uO (dl:aI):Option (Bool) :=
 ((
  (PI dl.anchor).bind fun r0 =>
  if r0 then (
   (PJ dl.text).bind fun r1 =>
   some r1)
  else
  some false
 ):Option (Bool)).bind fun t0 =>
 some t0
def DR (aq:bN) (s1:Nat):Option ((Nat)⊕((Unit)⊕Bool)) :=
 if (s1:Int) < (aq.parts.length:Int) then (
  (aq.parts[s1]?).bind fun x0 =>
  ((
   (HX x0.day).bind fun r0 =>
   if r0 then (
    if aq.bound < x0.day then (
     some true)
    else
    if 0 < (s1:Int) then (
     (aq.parts[((s1:Int) - 1).toNat]?).bind fun x1 =>
     some (decide (x0.day≤x1.day)))
    else
    some false)
   else
   some true
  ):Option (Bool)).bind fun t0 =>
  if t0 then (
   some (.inr (.inr false)))
  else
  some (.inl (s1+1)))
 else
 some (.inr (.inl ()))
def TL (aq:bN):Option (Bool) :=
 (bG (DR aq) 0).bind fun e55=>match e55 with
 | .inr z=>some z
 | .inl t58 =>
 ((
  (DN aq.number 1 99).bind fun r0 =>
  if r0 then (
   (HX aq.bound).bind fun r1 =>
   if r1 then (
    (DN aq.height 1 60).bind fun r2 =>
    if r2 then (
     (DN aq.width 10 80).bind fun r3 =>
     if r3 then (
      (MU aq).bind fun r4 =>
      (DO r4 (uO)).bind fun r5 =>
      some r5)
     else
     some false)
    else
    some false)
   else
   some false)
  else
  some false
 ):Option (Bool)).bind fun t0 =>
 some t0
def DS (r7:List aI) (s1:Nat×(List (Int×Bool))):Option ((Nat×(List (Int×Bool)))⊕(((List (Int×Bool)))⊕Int)) :=
 if (s1.1:Int) < (r7.length:Int) then (
  (r7[s1.1]?).bind fun x0 =>
  if (eM s1.2 x0.anchor).getD false then (
   some (.inr (.inr 6)))
  else
  some (.inl ((s1.1+1),(put s1.2 x0.anchor true))))
 else
 some (.inr (.inl s1.2))
def PK (aq:bN):Option (Int) :=
 (MU aq).bind fun r7 =>
 ((
  if 6 < (aq.parts.length:Int) then (
   some true)
  else
  some (decide (30 < (r7.length:Int)))
 ):Option (Bool)).bind fun t30 =>
 if t30 then (
  some 3)
 else
 (TL aq).bind fun r0 =>
 if r0 then (
  (bG (DS r7) (0,([]:List (Int×Bool)))).bind fun e94=>match e94 with
  | .inr z=>some z
  | .inl t0 =>
  some 0)
 else
 some 1
def lX (e:Int):Option (Unit⊕Unit) :=
 (jK (decide (e=0)) e).bind fun r1=>match r1 with
 | .inl y4=>(
  some (.inl ()))
 | .inr _=>(
  some (.inr ()))
def RF (ac:aJ) (bq:List Int) (text:aF):Option (aJ⊕Int) :=
 (jK (!ac.state.bound) 8).bind fun r3=>match r3 with
 | .inl y6=>(
  (bq[0]?).bind fun x8 =>
  (DL ac.state.volume.parts).bind fun r0 =>
  ((
   if 0≤((r0.length:Int) - 1) then (
    (r0[((r0.length:Int) - 1).toNat]?).bind fun x1 =>
    some (decide (x1.day=ac.state.day)))
   else
   some false
  ):Option (Bool)).bind fun t45 =>
  ((
   if t45 then (
    cD (0≤((r0.length:Int) - 1)) <|
    (r0[((r0.length:Int) - 1).toNat]?).bind fun x0 =>
    (DM x0.paragraphs (⟨x8,text⟩:aI)).bind fun r2 =>
    some (r0.set (((r0.length:Int) - 1).toNat) (⟨x0.day,r2⟩:eB)))
   else
   cD (r0.length+([(⟨ac.state.day,([(⟨x8,text⟩:aI)]:List aI)⟩:eB)]:List eB).length≤1073741824) <|
   some (r0++([(⟨ac.state.day,([(⟨x8,text⟩:aI)]:List aI)⟩:eB)]:List eB))
  ):Option (List eB)).bind fun t142 =>
  (TK ac t142).bind fun r4 =>
  (PK r4).bind fun r1 =>
  (lX r1).bind fun r5=>match r5 with
  | .inl y0=>(
   some (.inl (⟨({ac.state with volume:=({ac.state.volume with parts:=t142}:bN)}:cU)⟩:aJ)))
  | .inr _=>(
   some (.inr r1)))
 | .inr _=>(
  some (.inr 8))
def TM (ac:aJ) (bq:List Int) (cy:aF):Option (aJ⊕Int) :=
 (jK (!ac.state.bound) 8).bind fun r3=>match r3 with
 | .inl y6=>(
  (bq[0]?).bind fun x8 =>
  (bq[1]?).bind fun x0 =>
  (bq[2]?).bind fun x1 =>
  (PK (⟨x8,ac.state.day,x0,x1,ac.state.volume.parts⟩:bN)).bind fun r0 =>
  (lX r0).bind fun r1=>match r1 with
  | .inl y0=>(
   some (.inl (⟨({ac.state with volume:=(⟨x8,ac.state.day,x0,x1,ac.state.volume.parts⟩:bN),bound:=true}:cU)⟩:aJ)))
  | .inr _=>(
   some (.inr r0)))
 | .inr _=>(
  some (.inr 8))
def rZ (aj:List aR):Option (List aR) :=
 cD (([]:List aR).length+aj.length≤1073741824) <|
 some (([]:List aR)++aj)
def DT (bz:List aR) (ct:aR):Option (List aR) :=
 (rZ bz).bind fun r4 =>
 cD (r4.length+([ct]:List aR).length≤1073741824) <|
 some (r4++([ct]:List aR))
def MV (au:aR) (cm:aR→Option Bool):Option (Bool) :=
 (cm au).bind fun r4 =>
 some (!r4)
def wN (aj:List aR) (cl:aR→Option Bool) (s1:Nat):Option ((Nat)⊕((Unit)⊕Int)) :=
 if (s1:Int) < (aj.length:Int) then (
  (aj[s1]?).bind fun x0 =>
  (cl x0).bind fun r0 =>
  if r0 then (
   some (.inr (.inr (s1:Int))))
  else
  some (.inl (s1+1)))
 else
 some (.inr (.inl ()))
def JT (aj:List aR) (cl:aR→Option Bool):Option (Int) :=
 (bG (wN aj cl) 0).bind fun e19=>match e19 with
 | .inr z=>some z
 | .inl t0 =>
 some (-1)
def YR (aj:List aR) (cl:aR→Option Bool):Option (Bool) :=
 (JT aj cl).bind fun r1 =>
 some (decide (0≤r1))
def TN (bz:List aR) (right:aR→Option Bool):Option (Bool) :=
 (YR bz (fun x0_=>MV x0_ right)).bind fun r5 =>
 some (!r5)
def MW (au:aR):Option (Bool) :=
 ((
  (DN au.number 1 999).bind fun r22 =>
  if r22 then (
   (HX au.day).bind fun r0 =>
   if r0 then (
    (PI au.anchor).bind fun r1 =>
    some (!r1))
   else
   some true)
  else
  some true
 ):Option (Bool)).bind fun t0 =>
 if t0 then (
  some false)
 else
 if au.kind=0 then (
  ((
   (PJ au.text).bind fun r2 =>
   if r2 then (
    some (decide (au.new_=0)))
   else
   some false
  ):Option (Bool)).bind fun t1 =>
  some t1)
 else
 if au.kind=1 then (
  ((
   if au.text=[] then (
    some (decide (au.new_=0)))
   else
   some false
  ):Option (Bool)).bind fun t2 =>
  some t2)
 else
 if au.kind=2 then (
  ((
   (PJ au.text).bind fun r3 =>
   if r3 then (
    (PI au.new_).bind fun r4 =>
    some r4)
   else
   some false
  ):Option (Bool)).bind fun t3 =>
  some t3)
 else
 some false
def uP (au:Int):Option (Bool) :=
 some (decide (au≠au))
def AH (au:Int) (fj:Int):Option (Int) :=
 (uP au).bind fun r1 =>
 (uP fj).bind fun r4 =>
 if r1 then (
  if r4 then (
   some 0)
  else
  some (-1))
 else
 if r4 then (
  some 1)
 else
 if au < fj then (
  some (-1))
 else
 if fj < au then (
  some 1)
 else
 some 0
def pU (vals:List Int) (s1:Nat):Option ((Nat)⊕((Unit)⊕Int)) :=
 if (s1:Int) < (vals.length:Int) then (
  (vals[s1]?).bind fun x0 =>
  if x0≠0 then (
   some (.inr (.inr x0)))
  else
  some (.inl (s1+1)))
 else
 some (.inr (.inl ()))
def DU (vals:List Int):Option (Int) :=
 (bG (pU vals) 0).bind fun e16=>match e16 with
 | .inr z=>some z
 | .inl t0 =>
 some 0
def sA (bf:aR) (bi:aR):Option (Int) :=
 (AH bf.day bi.day).bind fun r7 =>
 (AH bf.number bi.number).bind fun r11 =>
 (DU ([r7,r11]:List Int)).bind fun r0 =>
 some r0
def DV (r1:List aR) (l6:List aR) (fy:Int) (yield:aR→Option Bool) (s1:Nat):Option ((Nat)⊕((Unit)⊕Unit)) :=
 if (s1:Int) < (r1.length:Int) then (
  (l6[s1]?).bind fun x0 =>
  ((
   if fy < x0.day then (
    some true)
   else
   (yield x0).bind fun r0 =>
   some (!r0)
  ):Option (Bool)).bind fun t0 =>
  if t0 then (
   some (.inr (.inr ())))
  else
  some (.inl (s1+1)))
 else
 some (.inr (.inl ()))
def TO (yield:aR→Option Bool) (cm:List aR) (fy:Int):Option (Unit) :=
 (rZ cm).bind fun r1 =>
 (iX (sA) r1).bind fun l6 =>
 (bG (DV r1 l6 fy yield) 0).bind fun e31=>match e31 with
 | .inr z=>some z
 | .inl t34 =>
 some ()
def DW (r10:List aI) (s1:Nat×(List (Int×Bool))):Option ((Nat×(List (Int×Bool)))⊕((List (Int×Bool)))) :=
 if (s1.1:Int) < (r10.length:Int) then (
  (r10[s1.1]?).bind fun x0 =>
  some (.inl ((s1.1+1),(put s1.2 x0.anchor true))))
 else
 some (.inr s1.2)
def DX (r0:List aR) (l0:List aR) (s1:Nat×(List (Int×Bool))):Option ((Nat×(List (Int×Bool)))⊕(((List (Int×Bool)))⊕(((List (Int×Bool)))⊕(Nat×(List (Int×Bool)))))) :=
 if (s1.1:Int) < (r0.length:Int) then (
  (l0[s1.1]?).bind fun x0 =>
  if 99999 < x0.day then (
   some (.inr (.inr (.inl s1.2))))
  else
  ((
   if (eM s1.2 x0.anchor).getD false then (
    ((
     if x0.kind=2 then (
      some (put s1.2 x0.new_ true))
     else
     some s1.2
    ):Option ((List (Int×Bool)))).bind fun t0 =>
    some (.inr t0))
   else
   some (.inl 7)
  ):Option ((Nat)⊕((List (Int×Bool))))).bind fun t1=>match t1 with
  | .inl t2=>(
   some (.inr (.inr (.inr (t2,s1.2)))))
  | .inr t3=>(
   some (.inl ((s1.1+1),t3))))
 else
 some (.inr (.inl s1.2))
def TP (aq:bN) (errata:List aR):Option (Int) :=
 (MU aq).bind fun r10 =>
 (bG (DW r10) (0,([]:List (Int×Bool)))).bind fun e47 =>
 ((
  (rZ errata).bind fun r0 =>
  (iX (sA) r0).bind fun l0 =>
  (bG (DX r0 l0) (0,e47)).bind fun eA1=>match eA1 with
  | .inr z=>some z
  | .inl t0 =>
  some (.inl t0)
 ):Option (((List (Int×Bool)))⊕(Nat×(List (Int×Bool))))).bind fun t1=>match t1 with
 | .inl t3=>(
  some 0)
 | .inr t2=>(
  some (t2.1:Int))
def DY (r0:List aI) (s1:Nat×(List (Int×Bool))):Option ((Nat×(List (Int×Bool)))⊕((List (Int×Bool)))) :=
 if (s1.1:Int) < (r0.length:Int) then (
  (r0[s1.1]?).bind fun x0 =>
  some (.inl ((s1.1+1),(put s1.2 x0.anchor true))))
 else
 some (.inr s1.2)
def DZ (errata:List aR) (s1:Nat×(List (Int×Bool))×(List (Int×Bool))):Option ((Nat×(List (Int×Bool))×(List (Int×Bool)))⊕(((List (Int×Bool))×(List (Int×Bool)))⊕Int)) :=
 if (s1.1:Int) < (errata.length:Int) then (
  (errata[s1.1]?).bind fun x0 =>
  ((
   if (eM s1.2.1 x0.number).getD false then (
    some true)
   else
   if x0.kind=2 then (
    some ((eM s1.2.2 x0.new_).getD false))
   else
   some false
  ):Option (Bool)).bind fun t0 =>
  if t0 then (
   some (.inr (.inr 6)))
  else
  ((
   if x0.kind=2 then (
    some (put s1.2.2 x0.new_ true))
   else
   some s1.2.2
  ):Option ((List (Int×Bool)))).bind fun t1 =>
  some (.inl ((s1.1+1),(put s1.2.1 x0.number true),t1)))
 else
 some (.inr (.inl (s1.2.1,s1.2.2)))
def MX (aq:bN) (errata:List aR):Option (Int) :=
 (PK aq).bind fun r7 =>
 if r7≠0 then (
  some r7)
 else
 if 20 < (errata.length:Int) then (
  some 3)
 else
 (TN errata (MW)).bind fun r0 =>
 if r0 then (
  (MU aq).bind fun r1 =>
  (bG (DY r1) (0,([]:List (Int×Bool)))).bind fun e88 =>
  (bG (DZ errata) (0,([]:List (Int×Bool)),e88)).bind fun eA1=>match eA1 with
  | .inr z=>some z
  | .inl t0 =>
  (TP aq errata).bind fun r2 =>
  some r2)
 else
 some 1
def EA (x0:List cN) (anchor:Int) (s2:Nat×Nat×Nat×Bool) (s1:Nat×Nat×Nat×Bool):Option ((Nat×Nat×Nat×Bool)⊕((Nat×Nat×Bool)⊕((Nat×Nat×Nat×Bool)⊕(Nat×Nat×Bool)))) :=
 if (s1.2.2.1:Int) < (x0.length:Int) then (
  (x0[s1.2.2.1]?).bind fun x1 =>
  if x1.paragraph.anchor=anchor then (
   Option.map (fun z=>.inr (.inr z)) (
   some (.inr (s2.2.2.1,s1.2.2.1,true))))
  else
  some (.inl (s1.1,s1.2.1,(s1.2.2.1+1),s1.2.2.2)))
 else
 some (.inr (.inl (s1.1,s1.2.1,s1.2.2.2)))
def EB (ac:hY) (anchor:Int) (s1:Nat×Nat×Nat×Bool):Option ((Nat×Nat×Nat×Bool)⊕(Nat×Nat×Bool)) :=
 if (s1.2.2.1:Int) < (ac.parts.length:Int) then (
  (ac.parts[s1.2.2.1]?).bind fun x0 =>
  (bG (EA x0 anchor s1) (s1.1,s1.2.1,0,s1.2.2.2)).bind fun eA1=>match eA1 with
  | .inr z=>some z
  | .inl t0 =>
  some (.inl (t0.1,t0.2.1,(s1.2.2.1+1),t0.2.2)))
 else
 some (.inr (s1.1,s1.2.1,s1.2.2.2))
def TQ (ac:hY) (anchor:Int):Option (Int×Int×Bool) :=
 (bG (EB ac anchor) (0,0,0,false)).bind fun e40 =>
 some ((e40.1:Int),(e40.2.1:Int),e40.2.2)
def JU  : Option (Unit) :=
 some ()
def EC (x0:eB) (s1:Nat×List cN):Option ((Nat×List cN)⊕(List cN)) :=
 if (s1.1:Int) < (x0.paragraphs.length:Int) then (
  (x0.paragraphs[s1.1]?).bind fun x1 =>
  cD (s1.2.length+1≤1073741824) <|
  some (.inl ((s1.1+1),(s1.2++[(⟨x1,false⟩:cN)]))))
 else
 some (.inr s1.2)
def ED (aq:bN) (s1:Nat×List (List cN)):Option ((Nat×List (List cN))⊕(List (List cN))) :=
 if (s1.1:Int) < (aq.parts.length:Int) then (
  (aq.parts[s1.1]?).bind fun x0 =>
  (bG (EC x0) (0,([]:List cN))).bind fun eA1 =>
  cD (s1.2.length+1≤1073741824) <|
  some (.inl ((s1.1+1),(s1.2++[eA1]))))
 else
 some (.inr s1.2)
def EE (x0:List cN) (x1:aR) (s2:Nat×Nat×Nat×Bool) (s1:Nat×Nat×Nat×Bool):Option ((Nat×Nat×Nat×Bool)⊕((Nat×Nat×Bool)⊕((Nat×Nat×Nat×Bool)⊕(Nat×Nat×Bool)))) :=
 if (s1.2.2.1:Int) < (x0.length:Int) then (
  (x0[s1.2.2.1]?).bind fun x2 =>
  if x2.paragraph.anchor=x1.anchor then (
   Option.map (fun z=>.inr (.inr z)) (
   some (.inr (s2.2.2.1,s1.2.2.1,true))))
  else
  cD (-9223372036854775808≤((s1.2.2.1:Int)+1)∧((s1.2.2.1:Int)+1)≤9223372036854775807) <|
  some (.inl (s1.1,s1.2.1,(s1.2.2.1+1),s1.2.2.2)))
 else
 some (.inr (.inl (s1.1,s1.2.1,s1.2.2.2)))
def zA (s2:Nat×List (List cN)) (x0:aR) (s1:Nat×Nat×Nat×Bool):Option ((Nat×Nat×Nat×Bool)⊕(Nat×Nat×Bool)) :=
 if (s1.2.2.1:Int) < (s2.2.length:Int) then (
  (s2.2[s1.2.2.1]?).bind fun x1 =>
  (bG (EE x1 x0 s1) (s1.1,s1.2.1,0,s1.2.2.2)).bind fun eA1=>match eA1 with
  | .inr z=>some z
  | .inl t0 =>
  cD (-9223372036854775808≤((s1.2.2.1:Int)+1)∧((s1.2.2.1:Int)+1)≤9223372036854775807) <|
  some (.inl (t0.1,t0.2.1,(s1.2.2.1+1),t0.2.2)))
 else
 some (.inr (s1.1,s1.2.1,s1.2.2.2))
def EF (r0:List aR) (l0:List aR) (eo:Int) (s1:Nat×List (List cN)):Option ((Nat×List (List cN))⊕((List (List cN))⊕(List (List cN)))) :=
 if (s1.1:Int) < (r0.length:Int) then (
  (l0[s1.1]?).bind fun x0 =>
  ((
   if eo < x0.day then (
    some (true,s1.2))
   else
   ((
    ((
     (bG (zA s1 x0) (0,0,0,false)).bind fun eA1 =>
     some (eA1.2.1,eA1.1,eA1.2.2)
    ):Option (Nat×Nat×Bool)).bind fun t0 =>
    ((
     if t0.2.2 then (
      (JU).bind fun r1 =>
      cD (0≤x0.kind) <|
      if x0.kind=0 then (
       ((
        (s1.2[t0.2.1]?).bind fun x3 =>
        (x3[t0.1]?).bind fun x2 =>
        ((
         if x2.removed then (
          some s1.2)
         else
         some (s1.2.set t0.2.1 (x3.set t0.1 (⟨(⟨x2.paragraph.anchor,x0.text⟩:aI),x2.removed⟩:cN)))
        ):Option (List (List cN))).bind fun t2 =>
        some t2
       ):Option (List (List cN))).bind fun t3 =>
       some t3)
      else
      if x0.kind=1 then (
       ((
        (s1.2[t0.2.1]?).bind fun x4 =>
        (x4[t0.1]?).bind fun x5 =>
        some (s1.2.set t0.2.1 (x4.set t0.1 (⟨x5.paragraph,true⟩:cN)))
       ):Option (List (List cN))).bind fun t4 =>
       some t4)
      else
      if x0.kind=2 then (
       ((
        (s1.2[t0.2.1]?).bind fun x1 =>
        cD (-9223372036854775808≤((t0.1:Int)+1)∧((t0.1:Int)+1)≤9223372036854775807) <|
        cD (x1.length+1≤1073741824) <|
        cD (((t0.1:Int)+1).toNat≤x1.length) <|
        some (s1.2.set t0.2.1 (x1.take (((t0.1:Int)+1).toNat)++[(⟨(⟨x0.new_,x0.text⟩:aI),false⟩:cN)]++x1.drop (((t0.1:Int)+1).toNat)))
       ):Option (List (List cN))).bind fun t5 =>
       some t5)
      else
      none)
     else
     some s1.2
    ):Option (List (List cN))).bind fun t6 =>
    some t6
   ):Option (List (List cN))).bind fun t7 =>
   some (false,t7)
  ):Option (Bool×List (List cN))).bind fun t1 =>
  if t1.1 then (
   some (.inr (.inr t1.2)))
  else
  some (.inl ((s1.1+1),t1.2)))
 else
 some (.inr (.inl s1.2))
def PL (aq:bN) (errata:List aR) (eo:Int):Option (hY) :=
 (bG (ED aq) (0,([]:List (List cN)))).bind fun eA1 =>
 ((
  (rZ errata).bind fun r0 =>
  (iX (sA) r0).bind fun l0 =>
  (bG (EF r0 l0 eo) (0,eA1)).bind fun eB1=>match eB1 with
  | .inr z=>some z
  | .inl t0 =>
  some t0
 ):Option (List (List cN))).bind fun t1 =>
 some (⟨aq,t1⟩:hY)
def EG (x0:List cN) (s1:Nat×List aI):Option ((Nat×List aI)⊕(List aI)) :=
 if (s1.1:Int) < (x0.length:Int) then (
  (x0[s1.1]?).bind fun x1 =>
  ((
   if x1.removed then (
    some s1.2)
   else
   cD (s1.2.length+1≤1073741824) <|
   some (s1.2++[x1.paragraph])
  ):Option (List aI)).bind fun t0 =>
  some (.inl ((s1.1+1),t0)))
 else
 some (.inr s1.2)
def EH (r0:hY) (s1:Nat×List aI):Option ((Nat×List aI)⊕(List aI)) :=
 if (s1.1:Int) < (r0.parts.length:Int) then (
  (r0.parts[s1.1]?).bind fun x0 =>
  (bG (EG x0) (0,s1.2)).bind fun eA1 =>
  some (.inl ((s1.1+1),eA1)))
 else
 some (.inr s1.2)
def PM (aq:bN) (errata:List aR) (eo:Int):Option (List aI×Int) :=
 (MX aq errata).bind fun r7 =>
 if r7≠0 then (
  some (([]:List aI),r7))
 else
 (HX eo).bind fun r0 =>
 if r0 then (
  (PL aq errata eo).bind fun r1 =>
  (bG (EH r1) (0,([]:List aI))).bind fun eA1 =>
  some (eA1,0))
 else
 some (([]:List aI),2)
def wO (ac:aJ) (ct:aR):Option (aJ⊕Int) :=
 ((
  if ac.state.bound then (
   (jK (decide (ac.state.volume.bound < ac.state.day)) 8).bind fun r2=>match r2 with
   | .inl y0=>(
    some (.inl ()))
   | .inr _=>(
    some (.inr (.inr 8))))
  else
  (jK false 8).bind fun r3=>match r3 with
  | .inl y1=>(
   some (.inl ()))
  | .inr _=>(
   some (.inr (.inr 8)))
 ):Option ((Unit)⊕(aJ⊕Int))).bind fun t0=>match t0 with
 | .inr z=>some z
 | .inl t1 =>
 (DT ac.state.errata ({ct with day:=ac.state.day}:aR)).bind fun r0 =>
 (PM ac.state.volume r0 ac.state.day).bind fun r1 =>
 (lX r1.2).bind fun r4=>match r4 with
 | .inl y2=>(
  some (.inl (⟨({ac.state with errata:=r0}:cU)⟩:aJ)))
 | .inr _=>(
  some (.inr r1.2))
def TR (ac:aJ) (bq:List Int) (text:aF):Option (aJ⊕Int) :=
 (bq[0]?).bind fun x3 =>
 (bq[1]?).bind fun x0 =>
 (wO ac (⟨x3,0,0,x0,text,0⟩:aR)).bind fun r0=>match r0 with
 | .inl y0=>(
  some (.inl y0))
 | .inr y0=>(
  some (.inr y0))
def TS (ac:aJ) (bq:List Int) (cy:aF):Option (aJ⊕Int) :=
 (bq[0]?).bind fun x3 =>
 (bq[1]?).bind fun x0 =>
 (wO ac (⟨x3,0,1,x0,[],0⟩:aR)).bind fun r0=>match r0 with
 | .inl y0=>(
  some (.inl y0))
 | .inr y0=>(
  some (.inr y0))
def TT (ac:aJ) (bq:List Int) (text:aF):Option (aJ⊕Int) :=
 (bq[0]?).bind fun x3 =>
 (bq[1]?).bind fun x0 =>
 (bq[2]?).bind fun x1 =>
 (wO ac (⟨x3,0,2,x0,text,x1⟩:aR)).bind fun r0=>match r0 with
 | .inl y0=>(
  some (.inl y0))
 | .inr y0=>(
  some (.inr y0))
def wP (x0:List cN) (anchor:Int) (s2:Nat×Nat×Nat×Bool) (s1:Nat×Nat×Nat×Bool):Option ((Nat×Nat×Nat×Bool)⊕((Nat×Nat×Bool)⊕((Nat×Nat×Nat×Bool)⊕(Nat×Nat×Bool)))) :=
 if (s1.2.2.1:Int) < (x0.length:Int) then (
  (x0[s1.2.2.1]?).bind fun x1 =>
  if x1.paragraph.anchor=anchor then (
   Option.map (fun z=>.inr (.inr z)) (
   some (.inr (s2.2.2.1,s1.2.2.1,true))))
  else
  some (.inl (s1.1,s1.2.1,(s1.2.2.1+1),s1.2.2.2)))
 else
 some (.inr (.inl (s1.1,s1.2.1,s1.2.2.2)))
def sB (r0:hY) (anchor:Int) (s1:Nat×Nat×Nat×Bool):Option ((Nat×Nat×Nat×Bool)⊕(Nat×Nat×Bool)) :=
 if (s1.2.2.1:Int) < (r0.parts.length:Int) then (
  (r0.parts[s1.2.2.1]?).bind fun x0 =>
  (bG (wP x0 anchor s1) (s1.1,s1.2.1,0,s1.2.2.2)).bind fun eA1=>match eA1 with
  | .inr z=>some z
  | .inl t0 =>
  some (.inl (t0.1,t0.2.1,(s1.2.2.1+1),t0.2.2)))
 else
 some (.inr (s1.1,s1.2.1,s1.2.2.2))
def AI (aq:bN) (errata:List aR) (anchor:Int) (fr:Int):Option (aF×Bool×Int) :=
 (MX aq errata).bind fun r7 =>
 if r7≠0 then (
  some ([],false,r7))
 else
 (HX fr).bind fun r1 =>
 if r1 then (
  (PL aq errata fr).bind fun r0 =>
  ((
   (bG (sB r0 anchor) (0,0,0,false)).bind fun eA1 =>
   some (eA1.2.1,eA1.1,eA1.2.2)
  ):Option (Nat×Nat×Bool)).bind fun t0 =>
  if t0.2.2 then (
   (r0.parts[t0.2.1]?).bind fun x1 =>
   (x1[t0.1]?).bind fun x0 =>
   some (x0.paragraph.text,x0.removed,0))
  else
  some ([],false,7))
 else
 some ([],false,2)
def EI (x1:List cN) (aq:bN) (s2:Nat×Int×List cX) (s1:Nat×Nat×Int×List cX):Option ((Nat×Nat×Int×List cX)⊕(Int×List cX)) :=
 if (s1.2.1:Int) < (x1.length:Int) then (
  ((
   (x1[s1.2.1]?).bind fun x0 =>
   if x0.removed then (
    some (s1.1,s1.2.2.1,s1.2.2.2))
   else
   cD (-9223372036854775808≤((s1.1:Int)+1)∧((s1.1:Int)+1)≤9223372036854775807) <|
   cD (-9223372036854775808≤((x0.paragraph.text.length:Int)+aq.width)∧((x0.paragraph.text.length:Int)+aq.width)≤9223372036854775807) <|
   cD (-9223372036854775808≤(((x0.paragraph.text.length:Int)+aq.width) - 1)∧(((x0.paragraph.text.length:Int)+aq.width) - 1)≤9223372036854775807) <|
   cD (0≤(((x0.paragraph.text.length:Int)+aq.width) - 1)∧(((x0.paragraph.text.length:Int)+aq.width) - 1)≤9223372036854775807∧0 < aq.width) <|
   cD (0≤s1.2.2.1∧s1.2.2.1≤9223372036854775807∧0 < aq.height) <|
   cD (-9223372036854775808≤(s2.2.1+(s1.2.2.1/aq.height))∧(s2.2.1+(s1.2.2.1/aq.height))≤9223372036854775807) <|
   cD (0≤s1.2.2.1∧0 < aq.height) <|
   cD (-9223372036854775808≤((s1.2.2.1%aq.height)+1)∧((s1.2.2.1%aq.height)+1)≤9223372036854775807) <|
   (aq.parts[s2.1]?).bind fun x2 =>
   cD (s1.2.2.2.length+([(⟨(⟨x0.paragraph.anchor,(s2.2.1+(s1.2.2.1/aq.height)),((s1.2.2.1%aq.height)+1),((((x0.paragraph.text.length:Int)+aq.width) - 1)/aq.width)⟩:gP),x2.day,((s1.1:Int)+1)⟩:cX)]:List cX).length≤1073741824) <|
   cD (-9223372036854775808≤(s1.2.2.1+((((x0.paragraph.text.length:Int)+aq.width) - 1)/aq.width))∧(s1.2.2.1+((((x0.paragraph.text.length:Int)+aq.width) - 1)/aq.width))≤9223372036854775807) <|
   some ((s1.1+1),(s1.2.2.1+((((x0.paragraph.text.length:Int)+aq.width) - 1)/aq.width)),(s1.2.2.2++([(⟨(⟨x0.paragraph.anchor,(s2.2.1+(s1.2.2.1/aq.height)),((s1.2.2.1%aq.height)+1),((((x0.paragraph.text.length:Int)+aq.width) - 1)/aq.width)⟩:gP),x2.day,((s1.1:Int)+1)⟩:cX)]:List cX)))
  ):Option (Nat×Int×List cX)).bind fun t0 =>
  some (.inl (t0.1,(s1.2.1+1),t0.2.1,t0.2.2)))
 else
 some (.inr (s1.2.2.1,s1.2.2.2))
def EJ (r7:hY) (aq:bN) (s1:Nat×Int×List cX):Option ((Nat×Int×List cX)⊕(List cX)) :=
 if (s1.1:Int) < (r7.parts.length:Int) then (
  (r7.parts[s1.1]?).bind fun x0 =>
  (bG (EI x0 aq s1) (0,0,0,s1.2.2)).bind fun eA1 =>
  cD (-9223372036854775808≤(eA1.1+aq.height)∧(eA1.1+aq.height)≤9223372036854775807) <|
  cD (-9223372036854775808≤((eA1.1+aq.height) - 1)∧((eA1.1+aq.height) - 1)≤9223372036854775807) <|
  cD (0≤((eA1.1+aq.height) - 1)∧((eA1.1+aq.height) - 1)≤9223372036854775807∧0 < aq.height) <|
  cD (-9223372036854775808≤(s1.2.1+(((eA1.1+aq.height) - 1)/aq.height))∧(s1.2.1+(((eA1.1+aq.height) - 1)/aq.height))≤9223372036854775807) <|
  some (.inl ((s1.1+1),(s1.2.1+(((eA1.1+aq.height) - 1)/aq.height)),eA1.2)))
 else
 some (.inr s1.2.2)
def RG (aq:bN) (errata:List aR):Option (List cX) :=
 (PL aq errata aq.bound).bind fun r7 =>
 (bG (EJ r7 aq) (0,1,([]:List cX))).bind fun eA1 =>
 some eA1
def wQ (r0:List cX) (anchor:Int) (style:Int) (aq:bN) (s1:Nat):Option ((Nat)⊕((Unit)⊕(aF×Int))) :=
 if (s1:Int) < (r0.length:Int) then (
  (r0[s1]?).bind fun x0 =>
  if x0.place.anchor≠anchor then (
   some (.inl (s1+1)))
  else
  if style=0 then (
   (wH ([(.s [118,111,108,46,32]:Any),(.i aq.number:Any),(.s [44,32,99,111,108,46,32]:Any),(.i x0.place.column:Any),(.s [44,32,108,46,32]:Any),(.i x0.place.line:Any)]:List Any)).bind fun r1 =>
   some (.inr (.inr (r1,0))))
  else
  (wH ([(.s [118,111,108,46,32]:Any),(.i aq.number:Any),(.s [44,32]:Any),(.i x0.day:Any),(.s [44,32,112,97,114,46,32]:Any),(.i x0.number:Any)]:List Any)).bind fun r2 =>
  some (.inr (.inr (r2,0))))
 else
 some (.inr (.inl ()))
def EK (aq:bN) (errata:List aR) (anchor:Int) (style:Int) (fg:Int):Option (aF×Int) :=
 (MX aq errata).bind fun r7 =>
 if r7≠0 then (
  some ([],r7))
 else
 ((
  if 2 < style then (
   some true)
  else
  if style=2 then (
   (HX fg).bind fun r1 =>
   some (!r1))
  else
  some false
 ):Option (Bool)).bind fun t25 =>
 if t25 then (
  some ([],2))
 else
 if style=2 then (
  (AI aq errata anchor fg).bind fun r0 =>
  if r0.2.2≠0 then (
   some ([],r0.2.2))
  else
  (wH ([(.i anchor:Any),(.s [64]:Any),(.i fg:Any)]:List Any)).bind fun r2 =>
  some (r2,0))
 else
 (RG aq errata).bind fun r3 =>
 (bG (wQ r3 anchor style aq) 0).bind fun eA1=>match eA1 with
 | .inr z=>some z
 | .inl t0 =>
 some ([],7)
def JV (aj:List aF):Option (List aF) :=
 cD (([]:List aF).length+aj.length≤1073741824) <|
 some (([]:List aF)++aj)
def EM (bz:List aF) (ct:aF):Option (List aF) :=
 (JV bz).bind fun r1 =>
 cD (r1.length+1≤1073741824) <|
 some (r1++[ct])
def TU (ac:aJ) (bq:List Int) (cy:aF):Option (aJ⊕Int) :=
 (jK ac.state.bound 8).bind fun r3=>match r3 with
 | .inl y6=>(
  (bq[1]?).bind fun x8 =>
  (wK x8 0 255).bind fun r1 =>
  (jK r1 2).bind fun r2=>match r2 with
  | .inl y0=>(
   (bq[0]?).bind fun x0 =>
   cD (0≤x8∧x8≤255) <|
   (EK ac.state.volume ac.state.errata x0 x8 ac.state.day).bind fun r0 =>
   (lX r0.2).bind fun r4=>match r4 with
   | .inl y1=>(
    (EM ac.state.cites r0.1).bind fun r5 =>
    some (.inl (⟨({ac.state with cites:=r5}:cU)⟩:aJ)))
   | .inr _=>(
    some (.inr r0.2)))
  | .inr _=>(
   some (.inr 2)))
 | .inr _=>(
  some (.inr 8))
def TV (ac:aJ):Option (bN) :=
 if ac.state.bound then (
  some ac.state.volume)
 else
 (TK ac ac.state.volume.parts).bind fun r0 =>
 some r0
def AJ (ac:aJ):Option (bN) :=
 if ac.state.bound then (
  some ac.state.volume)
 else
 (JQ ac ac.state.volume.parts).bind fun r10 =>
 some r10
def JW (aj:List gX):Option (List gX) :=
 cD (([]:List gX).length+aj.length≤1073741824) <|
 some (([]:List gX)++aj)
def EN (bz:List gX) (ct:gX):Option (List gX) :=
 (JW bz).bind fun r4 =>
 cD (r4.length+([ct]:List gX).length≤1073741824) <|
 some (r4++([ct]:List gX))
def TW (ac:aJ) (bq:List Int) (cy:aF):Option (aJ⊕Int) :=
 ((
  (bq[1]?).bind fun x1 =>
  (wK x1 0 7).bind fun r1 =>
  if r1 then (
   (bq[2]?).bind fun x2 =>
   (wK x2 0 9999).bind fun r2 =>
   (jK r2 1).bind fun r3=>match r3 with
   | .inl y0=>(
    some (.inl ()))
   | .inr _=>(
    some (.inr (.inr 1))))
  else
  (jK false 1).bind fun r4=>match r4 with
  | .inl y1=>(
   some (.inl ()))
  | .inr _=>(
   some (.inr (.inr 1)))
 ):Option ((Unit)⊕(aJ⊕Int))).bind fun t37=>match t37 with
 | .inr z=>some z
 | .inl t40 =>
 (jK (decide ((ac.state.hides.length:Int) < 12)) 3).bind fun r5=>match r5 with
 | .inl y2=>(
  (TV ac).bind fun r8 =>
  (bq[0]?).bind fun x0 =>
  (AI r8 ac.state.errata x0 ac.state.day).bind fun r0 =>
  (lX r0.2.2).bind fun r9=>match r9 with
  | .inl y3=>(
   (bq[1]?).bind fun x3 =>
   (bq[2]?).bind fun x4 =>
   (EN ac.state.hides (⟨x0,x3,x4⟩:gX)).bind fun rA1 =>
   some (.inl (⟨({ac.state with hides:=rA1}:cU)⟩:aJ)))
  | .inr _=>(
   some (.inr r0.2.2)))
 | .inr _=>(
  some (.inr 3))
def TX (ac:aJ) (bq:List Int) (cy:aF):Option (aJ⊕Int) :=
 (jK (!ac.state.open_) 8).bind fun r3=>match r3 with
 | .inl y6=>(
  (bq[0]?).bind fun x8 =>
  (wK x8 1 40).bind fun r0 =>
  (jK r0 2).bind fun r1=>match r1 with
  | .inl y0=>(
   some (.inl (⟨({ac.state with house:=x8}:cU)⟩:aJ)))
  | .inr _=>(
   some (.inr 2)))
 | .inr _=>(
  some (.inr 8))
def uQ (eh:Int) (low:Int) (high:Int):Option (Bool) :=
 ((
  if low≤eh then (
   some (decide (eh≤high)))
  else
  some false
 ):Option (Bool)).bind fun t4 =>
 some t4
def pV (bg:aT) (du:Int):Option (Bool) :=
 cD (-9223372036854775808≤(bg.members - 1)∧(bg.members - 1)≤9223372036854775807) <|
 (uQ du 0 (bg.members - 1)).bind fun r8 =>
 some r8
def uR (au:Int) (cm:Int→Option Bool):Option (Bool) :=
 (cm au).bind fun r1 =>
 some (!r1)
def wR (aj:List Int) (cl:Int→Option Bool) (s1:Nat):Option ((Nat)⊕((Unit)⊕Int)) :=
 if (s1:Int) < (aj.length:Int) then (
  (aj[s1]?).bind fun x0 =>
  (cl x0).bind fun r0 =>
  if r0 then (
   some (.inr (.inr (s1:Int))))
  else
  some (.inl (s1+1)))
 else
 some (.inr (.inl ()))
def JX (aj:List Int) (cl:Int→Option Bool):Option (Int) :=
 (bG (wR aj cl) 0).bind fun e19=>match e19 with
 | .inr z=>some z
 | .inl t0 =>
 some (-1)
def JY (aj:List Int) (cl:Int→Option Bool):Option (Bool) :=
 (JX aj cl).bind fun r1 =>
 some (decide (0≤r1))
def EO (bz:List Int) (right:Int→Option Bool):Option (Bool) :=
 (JY bz (fun x0_=>uR x0_ right)).bind fun r5 =>
 some (!r5)
def wS (bz:List Int) (s1:Nat):Option ((Nat)⊕((Unit)⊕Bool)) :=
 if (s1:Int) < (bz.length:Int) then (
  ((
   if 0 < (s1:Int) then (
    (bz[s1]?).bind fun x0 =>
    (bz[((s1:Int) - 1).toNat]?).bind fun x1 =>
    some (decide (x0≤x1)))
   else
   some false
  ):Option (Bool)).bind fun t0 =>
  if t0 then (
   some (.inr (.inr false)))
  else
  some (.inl (s1+1)))
 else
 some (.inr (.inl ()))
def EP (bz:List Int):Option (Bool) :=
 (bG (wS bz) 0).bind fun e29=>match e29 with
 | .inr z=>some z
 | .inl t32 =>
 some true
def oN (bg:aT) (bq:List Int):Option (Bool) :=
 ((
  (EO bq (pV bg)).bind fun r0 =>
  if r0 then (
   (EP bq).bind fun r1 =>
   some r1)
  else
  some false
 ):Option (Bool)).bind fun t0 =>
 some t0
def uU (au:List Int) (cm:(List Int)→Option Bool):Option (Bool) :=
 (cm au).bind fun r1 =>
 some (!r1)
def wU (aj:List (List Int)) (cl:(List Int)→Option Bool) (s1:Nat):Option ((Nat)⊕((Unit)⊕Int)) :=
 if (s1:Int) < (aj.length:Int) then (
  (aj[s1]?).bind fun x0 =>
  (cl x0).bind fun r0 =>
  if r0 then (
   some (.inr (.inr (s1:Int))))
  else
  some (.inl (s1+1)))
 else
 some (.inr (.inl ()))
def JZ (aj:List (List Int)) (cl:(List Int)→Option Bool):Option (Int) :=
 (bG (wU aj cl) 0).bind fun e23=>match e23 with
 | .inr z=>some z
 | .inl t26 =>
 some (-1)
def KA (aj:List (List Int)) (cl:(List Int)→Option Bool):Option (Bool) :=
 (JZ aj cl).bind fun r1 =>
 some (decide (0≤r1))
def AK (bz:List (List Int)) (right:(List Int)→Option Bool):Option (Bool) :=
 (KA bz (fun x0_=>uU x0_ right)).bind fun r5 =>
 some (!r5)
def EQ (dl:dX) (cm:List (Int×Bool)):Option (Bool) :=
 some (!((eM cm dl.holder).getD false))
def uV (au:dX) (cm:dX→Option Bool):Option (Bool) :=
 (cm au).bind fun r4 =>
 some (!r4)
def wV (aj:List dX) (cl:dX→Option Bool) (s1:Nat):Option ((Nat)⊕((Unit)⊕Int)) :=
 if (s1:Int) < (aj.length:Int) then (
  (aj[s1]?).bind fun x0 =>
  (cl x0).bind fun r0 =>
  if r0 then (
   some (.inr (.inr (s1:Int))))
  else
  some (.inl (s1+1)))
 else
 some (.inr (.inl ()))
def KB (aj:List dX) (cl:dX→Option Bool):Option (Int) :=
 (bG (wV aj cl) 0).bind fun e19=>match e19 with
 | .inr z=>some z
 | .inl t0 =>
 some (-1)
def KC (aj:List dX) (cl:dX→Option Bool):Option (Bool) :=
 (KB aj cl).bind fun r1 =>
 some (decide (0≤r1))
def ER (bz:List dX) (right:dX→Option Bool):Option (Bool) :=
 (KC bz (fun x0_=>uV x0_ right)).bind fun r5 =>
 some (!r5)
def sC (bg:aT) (s1:Nat×(List (Int×Bool))):Option ((Nat×(List (Int×Bool)))⊕(((List (Int×Bool)))⊕Bool)) :=
 if (s1.1:Int) < (bg.pairs.length:Int) then (
  (bg.pairs[s1.1]?).bind fun x0 =>
  ((
   (pV bg x0.a).bind fun r0 =>
   if r0 then (
    (pV bg x0.b).bind fun r1 =>
    if r1 then (
     if x0.a=x0.b then (
      some true)
     else
     if (eM s1.2 x0.a).getD false then (
      some true)
     else
     some ((eM s1.2 x0.b).getD false))
    else
    some true)
   else
   some true
  ):Option (Bool)).bind fun t0 =>
  if t0 then (
   some (.inr (.inr false)))
  else
  some (.inl ((s1.1+1),(put (put s1.2 x0.a true) x0.b true))))
 else
 some (.inr (.inl s1.2))
def sD (bg:aT) (s1:Nat×(List (Int×Bool))):Option ((Nat×(List (Int×Bool)))⊕(((List (Int×Bool)))⊕Bool)) :=
 if (s1.1:Int) < (bg.proxies.length:Int) then (
  (bg.proxies[s1.1]?).bind fun x0 =>
  ((
   (pV bg x0.holder).bind fun r0 =>
   if r0 then (
    (pV bg x0.for_).bind fun r1 =>
    if r1 then (
     if x0.holder=x0.for_ then (
      some true)
     else
     some ((eM s1.2 x0.for_).getD false))
    else
    some true)
   else
   some true
  ):Option (Bool)).bind fun t0 =>
  if t0 then (
   some (.inr (.inr false)))
  else
  some (.inl ((s1.1+1),(put s1.2 x0.for_ true))))
 else
 some (.inr (.inl s1.2))
def ES (bg:aT):Option (Bool) :=
 (bG (sC bg) (0,([]:List (Int×Bool)))).bind fun eA1=>match eA1 with
 | .inr z=>some z
 | .inl t1 =>
 (bG (sD bg) (0,([]:List (Int×Bool)))).bind fun eB1=>match eB1 with
 | .inr z=>some z
 | .inl t0 =>
 (ER bg.proxies (fun x0_=>EQ x0_ t0)).bind fun r0 =>
 some r0
def AL (bg:aT):Option (Bool) :=
 some (decide (bg.tie=1))
def PN (bg:aT) (du:fG) (cm:aT→Option Bool):Option (Bool) :=
 ((
  if du.noes < du.ayes then (
   some true)
  else
  if du.ayes=du.noes then (
   (cm bg).bind fun r0 =>
   some r0)
  else
  some false
 ):Option (Bool)).bind fun t0 =>
 some t0
def PO (bg:aT) (du:fG) (cm:aT→Option Bool):Option (Bool) :=
 ((
  if bg.need≤du.ayes then (
   some true)
  else
  cD (-9223372036854775808≤(bg.need - 1)∧(bg.need - 1)≤9223372036854775807) <|
  if du.ayes=(bg.need - 1) then (
   (cm bg).bind fun r0 =>
   some r0)
  else
  some false
 ):Option (Bool)).bind fun t0 =>
 some t0
def PP (iu:aT) (du:fG):Option (Bool) :=
 ((
  cD (-9223372036854775808≤(3*du.ayes)∧(3*du.ayes)≤9223372036854775807) <|
  cD (-9223372036854775808≤(du.ayes+du.noes)∧(du.ayes+du.noes)≤9223372036854775807) <|
  cD (-9223372036854775808≤(2*(du.ayes+du.noes))∧(2*(du.ayes+du.noes))≤9223372036854775807) <|
  if (2*(du.ayes+du.noes))≤(3*du.ayes) then (
   some (decide (1≤du.ayes)))
  else
  some false
 ):Option (Bool)).bind fun t0 =>
 some t0
def ET  : Option (Unit) :=
 some ()
def AM (bg:aT):Option (Bool) :=
 ((
  (uQ bg.members 1 40).bind fun r0 =>
  if r0 then (
   (AK ([bg.ayes.e0,bg.ayes.e1]:List (List Int)) (oN bg)).bind fun r1 =>
   if r1 then (
    (AK ([bg.noes.e0,bg.noes.e1]:List (List Int)) (oN bg)).bind fun r2 =>
    if r2 then (
     if (bg.pairs.length:Int)≤10 then (
      if (bg.proxies.length:Int)≤10 then (
       (ES bg).bind fun r3 =>
       if r3 then (
        cD (-9223372036854775808≤bg.rule∧bg.rule≤9223372036854775807) <|
        (ET).bind fun r8 =>
        if bg.rule < 3 then (
         (uQ bg.need 0 40).bind fun r4 =>
         if r4 then (
          (uQ bg.quorum 0 40).bind fun r5 =>
          if r5 then (
           if bg.tie=1 then (
            some true)
           else
           some (decide (bg.tie=2)))
          else
          some false)
         else
         some false)
        else
        some false)
       else
       some false)
      else
      some false)
     else
     some false)
    else
    some false)
   else
   some false)
  else
  some false
 ):Option (Bool)).bind fun t0 =>
 some t0
def EU (bg:aT):Option (Int) :=
 (AM bg).bind fun r6 =>
 if r6 then (
  some 0)
 else
 some 1
def AN (ac:aJ) (fu:aT):Option (aJ⊕Int) :=
 (EU fu).bind fun r8 =>
 (lX r8).bind fun r11=>match r11 with
 | .inl y0=>(
  some (.inl (⟨({ac.state with division:=fu,open_:=true}:cU)⟩:aJ)))
 | .inr _=>(
  some (.inr r8))
def TY (ac:aJ) (bq:List Int) (cy:aF):Option (aJ⊕Int) :=
 (jK (!ac.state.open_) 8).bind fun r3=>match r3 with
 | .inl y6=>(
  ((
   (bq[0]?).bind fun x2 =>
   (wK x2 0 255).bind fun r0 =>
   if r0 then (
    (bq[3]?).bind fun x3 =>
    (wK x3 0 255).bind fun r1 =>
    (jK r1 2).bind fun r2=>match r2 with
    | .inl y1=>(
     some (.inl ()))
    | .inr _=>(
     some (.inr (.inr 2))))
   else
   (jK false 2).bind fun r4=>match r4 with
   | .inl y2=>(
    some (.inl ()))
   | .inr _=>(
    some (.inr (.inr 2)))
  ):Option ((Unit)⊕(aJ⊕Int))).bind fun t42=>match t42 with
  | .inr z=>some z
  | .inl t45 =>
  (bq[0]?).bind fun x0 =>
  cD (0≤x0∧x0≤255) <|
  (bq[1]?).bind fun x4 =>
  (bq[2]?).bind fun x5 =>
  (bq[3]?).bind fun x1 =>
  cD (0≤x1∧x1≤255) <|
  (AN ac (⟨ac.state.house,(⟨([]:List Int),([]:List Int)⟩:bP),(⟨([]:List Int),([]:List Int)⟩:bP),([]:List fC),([]:List dX),x0,x4,x5,x1⟩:aT)).bind fun r5=>match r5 with
  | .inl y0=>(
   some (.inl y0))
  | .inr y0=>(
   some (.inr y0)))
 | .inr _=>(
  some (.inr 8))
def EV (au:Int) (fj:Int):Option (Bool) :=
 ((
  (uP au).bind fun r0 =>
  if r0 then (
   (uP fj).bind fun r1 =>
   if r1 then (
    some (decide (au < fj)))
   else
   some true)
  else
  some (decide (au < fj))
 ):Option (Bool)).bind fun t0 =>
 some t0
def KD (au:Int):Option (Bool) :=
 some (decide (au≠au))
def wW (au:List Int) (target:Int) (s1:Int×Int):Option ((Int×Int)⊕(Int)) :=
 if s1.1 < s1.2 then (
  cD (-9223372036854775808≤(s1.1+s1.2)∧(s1.1+s1.2)≤9223372036854775807) <|
  cD (0≤(s1.1+s1.2)∧(s1.1+s1.2)≤18446744073709551615) <|
  cD (0≤(s1.1+s1.2)) <|
  cD (-9223372036854775808≤((s1.1+s1.2)/2)∧((s1.1+s1.2)/2)≤9223372036854775807) <|
  (au[((s1.1+s1.2)/2).toNat]?).bind fun x0 =>
  (EV x0 target).bind fun r0 =>
  ((
   if r0 then (
    cD (-9223372036854775808≤(((s1.1+s1.2)/2)+1)∧(((s1.1+s1.2)/2)+1)≤9223372036854775807) <|
    some ((((s1.1+s1.2)/2)+1),s1.2))
   else
   some (s1.1,((s1.1+s1.2)/2))
  ):Option (Int×Int)).bind fun t0 =>
  some (.inl (t0.1,t0.2)))
 else
 some (.inr s1.1)
def sF (au:List Int) (target:Int):Option (Int×Bool) :=
 (bG (wW au target) (0,(au.length:Int))).bind fun e57 =>
 ((
  if e57 < (au.length:Int) then (
   cD (0≤e57) <|
   (au[e57.toNat]?).bind fun x0 =>
   if x0=target then (
    some (e57,true))
   else
   (KD x0).bind fun r0 =>
   if r0 then (
    (KD target).bind fun r1 =>
    some (e57,r1))
   else
   some (e57,false))
  else
  some (e57,false)
 ):Option (Int×Bool)).bind fun t0 =>
 some (t0.1,t0.2)
def qP (aj:List Int):Option (List Int) :=
 cD (([]:List Int).length+aj.length≤1073741824) <|
 some (([]:List Int)++aj)
def TZ (ac:aJ) (bq:List Int) (cy:aF):Option (aJ⊕Int) :=
 (jK ac.state.open_ 8).bind fun r3=>match r3 with
 | .inl y6=>(
  ((
   (bq[0]?).bind fun x5 =>
   (wK x5 1 2).bind fun r77 =>
   if r77 then (
    (bq[1]?).bind fun x6 =>
    (wK x6 0 1).bind fun r89 =>
    if r89 then (
     (bq[2]?).bind fun x7 =>
     cD (-9223372036854775808≤(ac.state.division.members - 1)∧(ac.state.division.members - 1)≤9223372036854775807) <|
     (wK x7 0 (ac.state.division.members - 1)).bind fun rB1 =>
     (jK rB1 2).bind fun rC1=>match rC1 with
     | .inl y0=>(
      some (.inl ()))
     | .inr _=>(
      some (.inr (.inr 2))))
    else
    (jK false 2).bind fun rD1=>match rD1 with
    | .inl y1=>(
     some (.inl ()))
    | .inr _=>(
     some (.inr (.inr 2))))
   else
   (jK false 2).bind fun rE1=>match rE1 with
   | .inl y2=>(
    some (.inl ()))
   | .inr _=>(
    some (.inr (.inr 2)))
  ):Option ((Unit)⊕(aJ⊕Int))).bind fun t0=>match t0 with
  | .inr z=>some z
  | .inl t68 =>
  (bq[1]?).bind fun x4 =>
  if x4=0 then (
   (bq[0]?).bind fun x8 =>
   if x8=2 then (
    (bq[2]?).bind fun x0 =>
    (sF ac.state.division.noes.e0 x0).bind fun r0 =>
    (jK (!r0.2) 6).bind fun rF1=>match rF1 with
    | .inl y3=>(
     (qP ac.state.division.noes.e0).bind fun r5 =>
     cD (0≤r0.1) <|
     cD (r0.1.toNat≤r5.length) <|
     cD (r5.length+([x0]:List Int).length≤1073741824) <|
     some (.inl (⟨({ac.state with division:=({ac.state.division with noes:=(⟨(r5.take r0.1.toNat++([x0]:List Int)++r5.drop r0.1.toNat),ac.state.division.noes.e1⟩:bP)}:aT)}:cU)⟩:aJ)))
    | .inr _=>(
     some (.inr 6)))
   else
   (bq[2]?).bind fun x1 =>
   (sF ac.state.division.ayes.e0 x1).bind fun r1 =>
   (jK (!r1.2) 6).bind fun rG1=>match rG1 with
   | .inl y4=>(
    (qP ac.state.division.ayes.e0).bind fun r8 =>
    cD (0≤r1.1) <|
    cD (r1.1.toNat≤r8.length) <|
    cD (r8.length+([x1]:List Int).length≤1073741824) <|
    some (.inl (⟨({ac.state with division:=({ac.state.division with ayes:=(⟨(r8.take r1.1.toNat++([x1]:List Int)++r8.drop r1.1.toNat),ac.state.division.ayes.e1⟩:bP)}:aT)}:cU)⟩:aJ)))
   | .inr _=>(
    some (.inr 6)))
  else
  if x4=1 then (
   (bq[0]?).bind fun x9 =>
   if x9=2 then (
    (bq[2]?).bind fun x2 =>
    (sF ac.state.division.noes.e1 x2).bind fun r2 =>
    (jK (!r2.2) 6).bind fun rH1=>match rH1 with
    | .inl y5=>(
     (qP ac.state.division.noes.e1).bind fun r9 =>
     cD (0≤r2.1) <|
     cD (r2.1.toNat≤r9.length) <|
     cD (r9.length+([x2]:List Int).length≤1073741824) <|
     some (.inl (⟨({ac.state with division:=({ac.state.division with noes:=(⟨ac.state.division.noes.e0,(r9.take r2.1.toNat++([x2]:List Int)++r9.drop r2.1.toNat)⟩:bP)}:aT)}:cU)⟩:aJ)))
    | .inr _=>(
     some (.inr 6)))
   else
   (bq[2]?).bind fun x3 =>
   (sF ac.state.division.ayes.e1 x3).bind fun r4 =>
   (jK (!r4.2) 6).bind fun rI1=>match rI1 with
   | .inl y7=>(
    (qP ac.state.division.ayes.e1).bind fun rA1 =>
    cD (0≤r4.1) <|
    cD (r4.1.toNat≤rA1.length) <|
    cD (rA1.length+([x3]:List Int).length≤1073741824) <|
    some (.inl (⟨({ac.state with division:=({ac.state.division with ayes:=(⟨ac.state.division.ayes.e0,(rA1.take r4.1.toNat++([x3]:List Int)++rA1.drop r4.1.toNat)⟩:bP)}:aT)}:cU)⟩:aJ)))
   | .inr _=>(
    some (.inr 6)))
  else
  none)
 | .inr _=>(
  some (.inr 8))
def KE (aj:List fC):Option (List fC) :=
 cD (([]:List fC).length+aj.length≤1073741824) <|
 some (([]:List fC)++aj)
def EW (bz:List fC) (ct:fC):Option (List fC) :=
 (KE bz).bind fun r4 =>
 cD (r4.length+([ct]:List fC).length≤1073741824) <|
 some (r4++([ct]:List fC))
def UA (ac:aJ) (bq:List Int) (cy:aF):Option (aJ⊕Int) :=
 (jK ac.state.open_ 8).bind fun r3=>match r3 with
 | .inl y6=>(
  (bq[0]?).bind fun x9 =>
  (bq[1]?).bind fun x0 =>
  (EW ac.state.division.pairs (⟨x9,x0⟩:fC)).bind fun r0 =>
  (AN ac ({ac.state.division with pairs:=r0}:aT)).bind fun r1=>match r1 with
  | .inl y0=>(
   some (.inl y0))
  | .inr y0=>(
   some (.inr y0)))
 | .inr _=>(
  some (.inr 8))
def pW (aj:List Int) (fh:Int) (s1:Nat):Option ((Nat)⊕((Unit)⊕Int)) :=
 if (s1:Int) < (aj.length:Int) then (
  (aj[s1]?).bind fun x0 =>
  if fh=x0 then (
   some (.inr (.inr (s1:Int))))
  else
  some (.inl (s1+1)))
 else
 some (.inr (.inl ()))
def KF (aj:List Int) (fh:Int):Option (Int) :=
 (bG (pW aj fh) 0).bind fun e16=>match e16 with
 | .inr z=>some z
 | .inl t0 =>
 some (-1)
def uW (aj:List Int) (fh:Int):Option (Bool) :=
 (KF aj fh).bind fun r1 =>
 some (decide (0≤r1))
def AO (lobby:bP) (member:Int):Option (Int) :=
 (uW lobby.e0 member).bind fun r0 =>
 ((
  if r0 then (
   some 1)
  else
  some 0
 ):Option (Nat)).bind fun t39 =>
 (uW lobby.e1 member).bind fun r1 =>
 ((
  if r1 then (
   cD (-9223372036854775808≤((t39:Int)+1)∧((t39:Int)+1)≤9223372036854775807) <|
   some (t39+1))
  else
  some t39
 ):Option (Nat)).bind fun t62 =>
 some (t62:Int)
def EX (bg:aT) (member:Int):Option (List UInt8) :=
 (AO bg.ayes member).bind fun r6 =>
 (AO bg.noes member).bind fun r10 =>
 ((
  if r6 < 2 then (
   some (decide (r10 < 2)))
  else
  some false
 ):Option (Bool)).bind fun t0 =>
 ((
  if t0 then (
   cD (([]:List UInt8).length+1≤1073741824) <|
   some (([]:List UInt8)++[(0:UInt8)]))
  else
  some ([]:List UInt8)
 ):Option (List UInt8)).bind fun t38 =>
 ((
  if 0 < r6 then (
   some (decide (r10 < 2)))
  else
  some false
 ):Option (Bool)).bind fun t1 =>
 ((
  if t1 then (
   cD (t38.length+1≤1073741824) <|
   some (t38++[(1:UInt8)]))
  else
  some t38
 ):Option (List UInt8)).bind fun t68 =>
 ((
  if 0 < r10 then (
   some (decide (r6 < 2)))
  else
  some false
 ):Option (Bool)).bind fun t84 =>
 ((
  if t84 then (
   cD (t68.length+1≤1073741824) <|
   some (t68++[(2:UInt8)]))
  else
  some t68
 ):Option (List UInt8)).bind fun t2 =>
 some t2
def wX (bg:aT) (s1:Nat×bF):Option ((Nat×bF)⊕(bF)) :=
 if (s1.1:Int) < (bg.pairs.length:Int) then (
  (bg.pairs[s1.1]?).bind fun x0 =>
  cD (0≤x0.a) <|
  cD (x0.a < 40) <|
  cD (0≤x0.b) <|
  cD (x0.b < 40) <|
  some (.inl ((s1.1+1),(bF.set (bF.set s1.2 x0.a.toNat true) x0.b.toNat true))))
 else
 some (.inr s1.2)
def wY (bg:aT) (s1:Nat×List (List UInt8)):Option ((Nat×List (List UInt8))⊕(List (List UInt8))) :=
 if (s1.1:Int) < bg.members then (
  (EX bg (s1.1:Int)).bind fun r0 =>
  (s1.2[s1.1]?).bind fun x0 =>
  cD (-9223372036854775808≤((s1.1:Int)+1)∧((s1.1:Int)+1)≤9223372036854775807) <|
  some (.inl ((s1.1+1),(s1.2.set s1.1 r0))))
 else
 some (.inr s1.2)
def EY (bg:aT):Option (dC) :=
 (bG (wX bg) (0,bF.zero)).bind fun e76 =>
 (bG (wY bg) (0,(List.replicate 40 ([]:List UInt8)))).bind fun eA1 =>
 some (⟨bg,e76,eA1⟩:dC)
def wZ (au:dC) (s1:Nat×Nat×Bool):Option ((Nat×Nat×Bool)⊕(Nat×Bool)) :=
 if (s1.2.1:Int) < au.division.members then (
  (au.may[s1.2.1]?).bind fun x0 =>
  if (x0.length:Int)=0 then (
   some (.inr (s1.2.1,true)))
  else
  cD (-9223372036854775808≤((s1.2.1:Int)+1)∧((s1.2.1:Int)+1)≤9223372036854775807) <|
  some (.inl (s1.1,(s1.2.1+1),s1.2.2)))
 else
 some (.inr (s1.1,s1.2.2))
def EZ (au:dC):Option (Int×Bool) :=
 (bG (wZ au) (0,0,false)).bind fun e41 =>
 some ((e41.1:Int),e41.2)
def FA (bg:aT):Option (dC×Int) :=
 (AM bg).bind fun r7 =>
 if r7 then (
  (EY bg).bind fun r0 =>
  (EZ r0).bind fun r1 =>
  if r1.2 then (
   some ((⟨(⟨0,(⟨([]:List Int),([]:List Int)⟩:bP),(⟨([]:List Int),([]:List Int)⟩:bP),([]:List fC),([]:List dX),0,0,0,0⟩:aT),bF.zero,(List.replicate 40 ([]:List UInt8))⟩:dC),9))
  else
  some (r0,0))
 else
 some ((⟨(⟨0,(⟨([]:List Int),([]:List Int)⟩:bP),(⟨([]:List Int),([]:List Int)⟩:bP),([]:List fC),([]:List dX),0,0,0,0⟩:aT),bF.zero,(List.replicate 40 ([]:List UInt8))⟩:dC),1)
def xA (au:dC) (s1:Nat×List Int):Option ((Nat×List Int)⊕(List Int)) :=
 if (s1.1:Int) < au.division.members then (
  (au.may[s1.1]?).bind fun x0 =>
  ((
   if 1 < (x0.length:Int) then (
    cD (s1.2.length+1≤1073741824) <|
    some (s1.2++[(s1.1:Int)]))
   else
   some s1.2
  ):Option (List Int)).bind fun t164 =>
  cD (-9223372036854775808≤((s1.1:Int)+1)∧((s1.1:Int)+1)≤9223372036854775807) <|
  some (.inl ((s1.1+1),t164)))
 else
 some (.inr s1.2)
def FB (au:dC):Option (List Int) :=
 (bG (xA au) (0,([]:List Int))).bind fun eA1 =>
 some eA1
def FC (bg:aT):Option (dC×Int) :=
 (FA bg).bind fun r7 =>
 ((
  if r7.2=0 then (
   (FB r7.1).bind fun r0 =>
   some (decide (8 < (r0.length:Int))))
  else
  some false
 ):Option (Bool)).bind fun t0 =>
 if t0 then (
  some ((⟨(⟨0,(⟨([]:List Int),([]:List Int)⟩:bP),(⟨([]:List Int),([]:List Int)⟩:bP),([]:List fC),([]:List dX),0,0,0,0⟩:aT),bF.zero,(List.replicate 40 ([]:List UInt8))⟩:dC),3))
 else
 some (r7.1,r7.2)
def FD (x0:List UInt8) (fq:Int) (il:bB→Int→Option Bool) (s1:Nat×bB):Option ((Nat×bB)⊕((bB)⊕Bool)) :=
 if (s1.1:Int) < (x0.length:Int) then (
  (x0[s1.1]?).bind fun x1 =>
  cD (fq < 40) <|
  cD (-9223372036854775808≤(fq+1)∧(fq+1)≤9223372036854775807) <|
  (il (bB.set s1.2 fq.toNat (x1.toNat:Int)) (fq+1)).bind fun r0 =>
  if r0 then (
   some (.inl ((s1.1+1),(bB.set s1.2 fq.toNat (x1.toNat:Int)))))
  else
  some (.inr (.inr false)))
 else
 some (.inr (.inl s1.2))
def UB (ik:bB) (fq:Int) (cm:dC) (fy:bB→Option Bool) (il:bB→Int→Option Bool):Option (Bool) :=
 if fq=cm.division.members then (
  (fy ik).bind fun r0 =>
  some r0)
 else
 cD (0≤fq) <|
 (cm.may[fq.toNat]?).bind fun x0 =>
 (bG (FD x0 fq il) (0,ik)).bind fun e90=>match e90 with
 | .inr z=>some z
 | .inl t0 =>
 some true
def FE (x0:List UInt8) (s1:Nat×bB) (R0_:(Nat×bB)→Option (Bool)) (s2:Nat×bB):Option ((Nat×bB)⊕((bB)⊕Bool)) :=
 if (s2.1:Int) < (x0.length:Int) then (
  (x0[s2.1]?).bind fun x1 =>
  cD ((s1.1:Int) < 40) <|
  cD (-9223372036854775808≤((s1.1:Int)+1)∧((s1.1:Int)+1)≤9223372036854775807) <|
  (R0_ ((s1.1+1),(bB.set s2.2 s1.1 (x1.toNat:Int)))).bind fun r0 =>
  if r0 then (
   some (.inl ((s2.1+1),(bB.set s2.2 s1.1 (x1.toNat:Int)))))
  else
  some (.inr (.inr false)))
 else
 some (.inr (.inl s2.2))
def FF (cm:dC) (yield:bB→Option Bool) (R0_:(Nat×bB)→Option (Bool)) (s1:Nat×bB):Option (Bool) :=
 if (s1.1:Int)=cm.division.members then (
  (yield s1.2).bind fun r0 =>
  some r0)
 else
 (cm.may[s1.1]?).bind fun x0 =>
 (bG (FE x0 s1 R0_) (0,s1.2)).bind fun eA1=>match eA1 with
 | .inr z=>some z
 | .inl t0 =>
 some true
def oX (cm:dC) (yield:bB→Option Bool):Nat→(Nat×bB)→Option (Bool)
 | 0,_=>none
 | n_+1,s1=>FF cm yield (oX cm yield n_) s1
def UC (yield:bB→Option Bool) (cm:dC):Option (Unit) :=
 (vZ (fun n_=>oX cm yield n_ (0,bB.zero))).bind fun r0 =>
 some ()
def xB (au:dC) (gc:bB) (s1:Nat×Nat×Nat):Option ((Nat×Nat×Nat)⊕(Nat×Nat)) :=
 if (s1.1:Int) < au.division.members then (
  cD ((s1.1:Int) < 40) <|
  ((
   if bF.get au.paired s1.1 then (
    some (s1.2.1,s1.2.2))
   else
   ((
    ((
     if (bB.get gc s1.1)=1 then (
      cD (-9223372036854775808≤((s1.2.1:Int)+1)∧((s1.2.1:Int)+1)≤9223372036854775807) <|
      some ((s1.2.1+1),s1.2.2))
     else
     ((
      if (bB.get gc s1.1)=2 then (
       cD (-9223372036854775808≤((s1.2.2:Int)+1)∧((s1.2.2:Int)+1)≤9223372036854775807) <|
       some (s1.2.2+1))
      else
      some s1.2.2
     ):Option (Nat)).bind fun t3 =>
     some (s1.2.1,t3)
    ):Option (Nat×Nat)).bind fun t0 =>
    some (t0.1,t0.2)
   ):Option (Nat×Nat)).bind fun t1 =>
   some (t1.1,t1.2)
  ):Option (Nat×Nat)).bind fun t2 =>
  cD (-9223372036854775808≤((s1.1:Int)+1)∧((s1.1:Int)+1)≤9223372036854775807) <|
  some (.inl ((s1.1+1),t2.1,t2.2)))
 else
 some (.inr (s1.2.1,s1.2.2))
def xC (au:dC) (gc:bB) (s1:Nat×Nat×Nat):Option ((Nat×Nat×Nat)⊕(Nat×Nat)) :=
 if (s1.1:Int) < (au.division.proxies.length:Int) then (
  (au.division.proxies[s1.1]?).bind fun x0 =>
  ((
   cD (0≤x0.for_) <|
   cD (x0.for_ < 40) <|
   if (bB.get gc x0.for_.toNat)=0 then (
    if bF.get au.paired x0.for_.toNat then (
     some false)
    else
    cD (0≤x0.holder) <|
    cD (x0.holder < 40) <|
    some (!(bF.get au.paired x0.holder.toNat)))
   else
   some false
  ):Option (Bool)).bind fun t3 =>
  ((
   if t3 then (
    cD (0≤x0.holder) <|
    cD (x0.holder < 40) <|
    ((
     ((
      if (bB.get gc x0.holder.toNat)=1 then (
       cD (-9223372036854775808≤((s1.2.1:Int)+1)∧((s1.2.1:Int)+1)≤9223372036854775807) <|
       some ((s1.2.1+1),s1.2.2))
      else
      ((
       if (bB.get gc x0.holder.toNat)=2 then (
        cD (-9223372036854775808≤((s1.2.2:Int)+1)∧((s1.2.2:Int)+1)≤9223372036854775807) <|
        some (s1.2.2+1))
       else
       some s1.2.2
      ):Option (Nat)).bind fun t4 =>
      some (s1.2.1,t4)
     ):Option (Nat×Nat)).bind fun t0 =>
     some (t0.1,t0.2)
    ):Option (Nat×Nat)).bind fun t1 =>
    some (t1.1,t1.2))
   else
   some (s1.2.1,s1.2.2)
  ):Option (Nat×Nat)).bind fun t2 =>
  some (.inl ((s1.1+1),t2.1,t2.2)))
 else
 some (.inr (s1.2.1,s1.2.2))
def FG (au:dC) (gc:bB):Option (fG) :=
 (bG (xB au gc) (0,0,0)).bind fun e82 =>
 (bG (xC au gc) (0,e82.1,e82.2)).bind fun eA1 =>
 some (⟨(eA1.1:Int),(eA1.2:Int)⟩:fG)
def FH (au:dC) (du:fG):Option (Int) :=
 cD (-9223372036854775808≤(du.ayes+du.noes)∧(du.ayes+du.noes)≤9223372036854775807) <|
 if (du.ayes+du.noes) < au.division.quorum then (
  some 2)
 else
 (ET).bind fun r3 =>
 cD (0≤au.division.rule) <|
 if au.division.rule=0 then (
  (PN au.division du (AL)).bind fun r0 =>
  if r0 then (
   some 1)
  else
  some 0)
 else
 if au.division.rule=1 then (
  (PO au.division du (AL)).bind fun r1 =>
  if r1 then (
   some 1)
  else
  some 0)
 else
 if au.division.rule=2 then (
  (PP au.division du).bind fun r2 =>
  if r2 then (
   some 1)
  else
  some 0)
 else
 none
def pX (aj:List UInt8) (fh:Int) (s1:Nat):Option ((Nat)⊕((Unit)⊕Int)) :=
 if (s1:Int) < (aj.length:Int) then (
  (aj[s1]?).bind fun x0 =>
  if fh=(x0.toNat:Int) then (
   some (.inr (.inr (s1:Int))))
  else
  some (.inl (s1+1)))
 else
 some (.inr (.inl ()))
def KG (aj:List UInt8) (fh:Int):Option (Int) :=
 (bG (pX aj fh) 0).bind fun e16=>match e16 with
 | .inr z=>some z
 | .inl t0 =>
 some (-1)
def FI (aj:List UInt8) (fh:Int):Option (Bool) :=
 (KG aj fh).bind fun r1 =>
 some (decide (0≤r1))
def PQ (au:Int):Option (Int) :=
 ((
  if 4294967296≤au then (
   some (32,(au/4294967296)))
  else
  some (0,au)
 ):Option (Nat×Int)).bind fun t4 =>
 ((
  if 65536≤t4.2 then (
   cD (-9223372036854775808≤((t4.1:Int)+16)∧((t4.1:Int)+16)≤9223372036854775807) <|
   some ((t4.1+16),(t4.2/65536)))
  else
  some (t4.1,t4.2)
 ):Option (Nat×Int)).bind fun t0 =>
 ((
  if 256≤t0.2 then (
   cD (-9223372036854775808≤((t0.1:Int)+8)∧((t0.1:Int)+8)≤9223372036854775807) <|
   some ((t0.1+8),(t0.2/256)))
  else
  some (t0.1,t0.2)
 ):Option (Nat×Int)).bind fun t28 =>
 cD (0≤t28.2∧t28.2≤255) <|
 cD (0≤t28.2) <|
 (([0,1,2,2,3,3,3,3,4,4,4,4,4,4,4,4,5,5,5,5,5,5,5,5,5,5,5,5,5,5,5,5,6,6,6,6,6,6,6,6,6,6,6,6,6,6,6,6,6,6,6,6,6,6,6,6,6,6,6,6,6,6,6,6,7,7,7,7,7,7,7,7,7,7,7,7,7,7,7,7,7,7,7,7,7,7,7,7,7,7,7,7,7,7,7,7,7,7,7,7,7,7,7,7,7,7,7,7,7,7,7,7,7,7,7,7,7,7,7,7,7,7,7,7,7,7,7,7,8,8,8,8,8,8,8,8,8,8,8,8,8,8,8,8,8,8,8,8,8,8,8,8,8,8,8,8,8,8,8,8,8,8,8,8,8,8,8,8,8,8,8,8,8,8,8,8,8,8,8,8,8,8,8,8,8,8,8,8,8,8,8,8,8,8,8,8,8,8,8,8,8,8,8,8,8,8,8,8,8,8,8,8,8,8,8,8,8,8,8,8,8,8,8,8,8,8,8,8,8,8,8,8,8,8,8,8,8,8,8,8,8,8,8,8,8,8,8,8,8,8,8,8,8,8,8,8]:aF)[t28.2.toNat]?).bind fun x0 =>
 cD (-9223372036854775808≤((t28.1:Int)+(x0.toNat:Int))∧((t28.1:Int)+(x0.toNat:Int))≤9223372036854775807) <|
 some ((t28.1:Int)+(x0.toNat:Int))
def KH (au:Int):Option (Int) :=
 (PQ au).bind fun r1 =>
 some r1
def FJ (au:Int):Option (Bool) :=
 some (decide (au≠au))
def FK (au:Int) (fj:Int):Option (Bool) :=
 ((
  (FJ au).bind fun r0 =>
  if r0 then (
   (FJ fj).bind fun r1 =>
   if r1 then (
    some (decide (au < fj)))
   else
   some true)
  else
  some (decide (au < fj))
 ):Option (Bool)).bind fun t0 =>
 some t0
def xD (x0:List UInt8) (s2:Nat×bB×List UInt8) (R0_:(Nat×bB×List UInt8)→Option (List UInt8)) (s1:Nat×bB×List UInt8):Option ((Nat×bB×List UInt8)⊕(bB×List UInt8)) :=
 if (s1.1:Int) < (x0.length:Int) then (
  (x0[s1.1]?).bind fun x1 =>
  cD ((s2.1:Int) < 40) <|
  cD (-9223372036854775808≤((s2.1:Int)+1)∧((s2.1:Int)+1)≤9223372036854775807) <|
  (R0_ ((s2.1+1),(bB.set s1.2.1 s2.1 (x1.toNat:Int)),s1.2.2)).bind fun r0 =>
  some (.inl ((s1.1+1),(bB.set s1.2.1 s2.1 (x1.toNat:Int)),r0)))
 else
 some (.inr (s1.2.1,s1.2.2))
def sG (r6:dC×Int) (R0_:(Nat×bB×List UInt8)→Option (List UInt8)) (s1:Nat×bB×List UInt8):Option (List UInt8) :=
 if (s1.1:Int)=r6.1.division.members then (
  ((
   (FG r6.1 s1.2.1).bind fun r1 =>
   (FH r6.1 r1).bind fun r0 =>
   (FI s1.2.2 r0).bind fun r2 =>
   ((
    if r2 then (
     some s1.2.2)
    else
    cD (s1.2.2.length+1≤1073741824) <|
    cD (0≤r0∧r0≤255) <|
    some (s1.2.2++[(UInt8.ofNat r0.toNat)])
   ):Option (List UInt8)).bind fun t0 =>
   some t0
  ):Option (List UInt8)).bind fun t1 =>
  some t1)
 else
 (r6.1.may[s1.1]?).bind fun x0 =>
 (bG (xD x0 s1 R0_) (0,s1.2.1,s1.2.2)).bind fun eA1 =>
 some eA1.2
def lI (r6:dC×Int):Nat→(Nat×bB×List UInt8)→Option (List UInt8)
 | 0,_=>none
 | n_+1,s1=>sG r6 (lI r6 n_) s1
def xE (s2:Nat×Nat×Int×Bool×Bool) (s1:Int×List UInt8):Option ((Int×List UInt8)⊕(List UInt8)) :=
 ((
  if (s2.1:Int) < s1.1 then (
   cD (0≤s1.1) <|
   (s1.2[s1.1.toNat]?).bind fun x1 =>
   cD (-9223372036854775808≤(s1.1 - 1)∧(s1.1 - 1)≤9223372036854775807) <|
   cD (0≤(s1.1 - 1)) <|
   (s1.2[(s1.1 - 1).toNat]?).bind fun x2 =>
   (FK (x1.toNat:Int) (x2.toNat:Int)).bind fun r0 =>
   some r0)
  else
  some false
 ):Option (Bool)).bind fun t0 =>
 if t0 then (
  cD (-9223372036854775808≤(s1.1 - 1)∧(s1.1 - 1)≤9223372036854775807) <|
  cD (0≤(s1.1 - 1)) <|
  (s1.2[(s1.1 - 1).toNat]?).bind fun x0 =>
  cD (0≤s1.1) <|
  (s1.2[s1.1.toNat]?).bind fun x3 =>
  ((s1.2.set s1.1.toNat x0)[(s1.1 - 1).toNat]?).bind fun x4 =>
  some (.inl ((s1.1 - 1),((s1.2.set s1.1.toNat x0).set ((s1.1 - 1).toNat) x3))))
 else
 some (.inr s1.2)
def sH (s2:Nat×Nat×Int×Bool×Bool) (s1:Nat×List UInt8):Option ((Nat×List UInt8)⊕(List UInt8)) :=
 if (s1.1:Int) < (s2.2.1:Int) then (
  (bG (xE s2) ((s1.1:Int),s1.2)).bind fun eA1 =>
  cD (-9223372036854775808≤((s1.1:Int)+1)∧((s1.1:Int)+1)≤9223372036854775807) <|
  some (.inl ((s1.1+1),eA1)))
 else
 some (.inr s1.2)
def pY (t0:List UInt8) (s1:Nat×Nat×Int×Bool×Bool):Option ((Nat×Nat×Int×Bool×Bool)⊕(List UInt8)) :=
 cD (-9223372036854775808≤((s1.2.1:Int) - (s1.1:Int))∧((s1.2.1:Int) - (s1.1:Int))≤9223372036854775807) <|
 if ((s1.2.1:Int) - (s1.1:Int))≤12 then (
  ((
   cD (-9223372036854775808≤((s1.1:Int)+1)∧((s1.1:Int)+1)≤9223372036854775807) <|
   (bG (sH s1) ((s1.1+1),t0)).bind fun eA1 =>
   some eA1
  ):Option (List UInt8)).bind fun t1 =>
  some (.inr t1))
 else
 if s1.2.2.1=0 then (
  none)
 else
 if s1.2.2.2.1 then (
  none)
 else
 none
def FL (bg:aT):Option (List UInt8×Int) :=
 (FC bg).bind fun r6 =>
 if r6.2≠0 then (
  some (([]:List UInt8),r6.2))
 else
 ((
  (vZ (fun n_=>lI r6 n_ (0,bB.zero,([]:List UInt8)))).bind fun r0 =>
  some r0
 ):Option (List UInt8)).bind fun t0 =>
 ((
  (KH (t0.length:Int)).bind fun r1 =>
  ((
   (bG (pY t0) (0,t0.length,r1,true,true)).bind fun eA1=>some eA1
  ):Option (List UInt8)).bind fun t1 =>
  some t1
 ):Option (List UInt8)).bind fun t2 =>
 some (t2,0)
def KI (aj:List UInt8):Option (List UInt8) :=
 cD (([]:List UInt8).length+aj.length≤1073741824) <|
 some (([]:List UInt8)++aj)
def FM (bz:List UInt8) (ct:Int):Option (List UInt8) :=
 (KI bz).bind fun r1 =>
 cD (r1.length+1≤1073741824) <|
 cD (0≤ct∧ct≤255) <|
 some (r1++[(UInt8.ofNat ct.toNat)])
def UD (ac:aJ) (ct:List Int) (iw:aF):Option (aJ⊕Int) :=
 (jK ac.state.open_ 8).bind fun r3=>match r3 with
 | .inl y6=>(
  (FL ac.state.division).bind fun r8 =>
  (lX r8.2).bind fun r0=>match r0 with
  | .inl y0=>(
   (jK (decide ((r8.1.length:Int)=1)) 10).bind fun r1=>match r1 with
   | .inl y1=>(
    (r8.1[0]?).bind fun x0 =>
    (FM ac.state.results (x0.toNat:Int)).bind fun r2 =>
    some (.inl (⟨({ac.state with division:=(⟨0,(⟨([]:List Int),([]:List Int)⟩:bP),(⟨([]:List Int),([]:List Int)⟩:bP),([]:List fC),([]:List dX),0,0,0,0⟩:aT),open_:=false,results:=r2}:cU)⟩:aJ)))
   | .inr _=>(
    some (.inr 10)))
  | .inr _=>(
   some (.inr r8.2)))
 | .inr _=>(
  some (.inr 8))
def UE (ga:Int):Option (Bool) :=
 some (decide (ga=32))
def AP (text:aF):Option (List aF) :=
 (JO text).bind fun r1 =>
 some r1
def uX (au:aW) (cm:aW→Option Bool):Option (Bool) :=
 (cm au).bind fun r7 =>
 some (!r7)
def xF (aj:List aW) (cl:aW→Option Bool) (s1:Nat):Option ((Nat)⊕((Unit)⊕Int)) :=
 if (s1:Int) < (aj.length:Int) then (
  (aj[s1]?).bind fun x0 =>
  (cl x0).bind fun r0 =>
  if r0 then (
   some (.inr (.inr (s1:Int))))
  else
  some (.inl (s1+1)))
 else
 some (.inr (.inl ()))
def KJ (aj:List aW) (cl:aW→Option Bool):Option (Int) :=
 (bG (xF aj cl) 0).bind fun e23=>match e23 with
 | .inr z=>some z
 | .inl t26 =>
 some (-1)
def KK (aj:List aW) (cl:aW→Option Bool):Option (Bool) :=
 (KJ aj cl).bind fun r1 =>
 some (decide (0≤r1))
def sI (bz:List aW) (right:aW→Option Bool):Option (Bool) :=
 (KK bz (fun x0_=>uX x0_ right)).bind fun r5 =>
 some (!r5)
def FN (dl:aW):Option (Bool) :=
 some (decide ((dl.words.length:Int)≤60))
def FO (bp:bL):Option (Bool) :=
 ((
  if (bp.papers.length:Int)≤10 then (
   if (bp.words.length:Int)≤60 then (
    (sI bp.papers (FN)).bind fun r0 =>
    some r0)
   else
   some false)
  else
  some false
 ):Option (Bool)).bind fun t0 =>
 some t0
def uY (au:aF) (cm:aF→Option Bool):Option (Bool) :=
 (cm au).bind fun r1 =>
 some (!r1)
def AQ (bz:List aF) (right:aF→Option Bool):Option (Bool) :=
 (PH bz (fun x0_=>uY x0_ right)).bind fun r5 =>
 some (!r5)
def AR (eh:Int) (low:Int) (high:Int):Option (Bool) :=
 ((
  if low≤eh then (
   some (decide (eh≤high)))
  else
  some false
 ):Option (Bool)).bind fun t4 =>
 some t4
def uZ (au:Int) (cm:Int→Option Bool):Option (Bool) :=
 (cm au).bind fun r1 =>
 some (!r1)
def FP (bz:List UInt8) (right:Int→Option Bool):Option (Bool) :=
 (AG bz (fun x0_=>uZ x0_ right)).bind fun r5 =>
 some (!r5)
def xG (ga:Int):Option (Bool) :=
 ((
  if (33:Int)≤ga then (
   some (decide (ga≤126)))
  else
  some false
 ):Option (Bool)).bind fun t4 =>
 some t4
def mV (aj:aF):Option (Bool) :=
 ((
  (AR (aj.length:Int) 1 20).bind fun r0 =>
  if r0 then (
   cD (aj.length≤1073741824) <|
   (FP aj (xG)).bind fun r1 =>
   some r1)
  else
  some false
 ):Option (Bool)).bind fun t0 =>
 some t0
def AS (dl:aW):Option (Bool) :=
 (AQ dl.words (mV)).bind fun r8 =>
 some r8
def FQ (bp:bL):Option (Bool) :=
 ((
  (AQ bp.words (mV)).bind fun r0 =>
  if r0 then (
   (sI bp.papers (AS)).bind fun r1 =>
   some r1)
  else
  some false
 ):Option (Bool)).bind fun t21 =>
 some t21
def AT (dl:aW):Option (Bool) :=
 (AR dl.number 1 999).bind fun r7 =>
 some r7
def KL (bp:bL):Option (Bool) :=
 (sI bp.papers (AT)).bind fun r11 =>
 some r11
def sJ (bp:bL) (s1:Nat×(List (Int×aW))):Option ((Nat×(List (Int×aW)))⊕((List (Int×aW)))) :=
 if (s1.1:Int) < (bp.papers.length:Int) then (
  (bp.papers[s1.1]?).bind fun x0 =>
  some (.inl ((s1.1+1),(put s1.2 x0.number x0))))
 else
 some (.inr s1.2)
def qQ (bp:bL):Option ((List (Int×aW))) :=
 (bG (sJ bp) (0,([]:List (Int×aW)))).bind fun e60 =>
 some e60
def KM (bp:bL):Option (Bool) :=
 (qQ bp).bind fun r10 =>
 some (decide ((r10.length:Int)=(bp.papers.length:Int)))
def AU (dl:aW) (cm:List (Int×aW)):Option (Bool) :=
 ((
  if dl.of=0 then (
   some true)
  else
  some (decide (((eM cm dl.of).getD (⟨0,0,0,0,([]:List aF)⟩:aW)).number=dl.of))
 ):Option (Bool)).bind fun t0 =>
 some t0
def KN (bp:bL):Option (Bool) :=
 (qQ bp).bind fun r10 =>
 (sI bp.papers (fun x0_=>AU x0_ r10)).bind fun r0 =>
 some r0
def xH (bp:bL) (r10:(List (Int×aW))) (s1:Nat×Bool×Int×Int×Int×Int×List aF):Option ((Nat×Bool×Int×Int×Int×Int×List aF)⊕((Bool×Int×Int×Int×Int×List aF)⊕((Nat×Bool)⊕(Bool)))) :=
 if s1.2.2.2.1≠0 then (
  cD (-9223372036854775808≤((s1.1:Int)+1)∧((s1.1:Int)+1)≤9223372036854775807) <|
  if (bp.papers.length:Int) < ((s1.1:Int)+1) then (
   Option.map (fun z=>.inr (.inr z)) (
   some (.inr false)))
  else
  some (.inl ((s1.1+1),s1.2.1,((eM r10 s1.2.2.2.1).getD (⟨0,0,0,0,([]:List aF)⟩:aW)).number,((eM r10 s1.2.2.2.1).getD (⟨0,0,0,0,([]:List aF)⟩:aW)).of,((eM r10 s1.2.2.2.1).getD (⟨0,0,0,0,([]:List aF)⟩:aW)).from_,((eM r10 s1.2.2.2.1).getD (⟨0,0,0,0,([]:List aF)⟩:aW)).to_,((eM r10 s1.2.2.2.1).getD (⟨0,0,0,0,([]:List aF)⟩:aW)).words)))
 else
 some (.inr (.inl (s1.2.1,s1.2.2.1,s1.2.2.2.1,s1.2.2.2.2.1,s1.2.2.2.2.2.1,s1.2.2.2.2.2.2)))
def xI (bp:bL) (r10:(List (Int×aW))) (s1:Nat×Bool):Option ((Nat×Bool)⊕(Bool)) :=
 if (s1.1:Int) < (bp.papers.length:Int) then (
  (bp.papers[s1.1]?).bind fun x0 =>
  (bG (xH bp r10) (0,s1.2,x0.number,x0.of,x0.from_,x0.to_,x0.words)).bind fun eA1=>match eA1 with
  | .inr z=>some z
  | .inl t222 =>
  some (.inl ((s1.1+1),t222.1)))
 else
 some (.inr s1.2)
def FR (bp:bL):Option (Bool) :=
 (qQ bp).bind fun r10 =>
 (bG (xI bp r10) (0,true)).bind fun e84 =>
 some e84
def AV (bp:bL) (number:Int):Option (List aF) :=
 if number=0 then (
  some bp.words)
 else
 (qQ bp).bind fun r0 =>
 some (((eM r0 number).getD (⟨0,0,0,0,([]:List aF)⟩:aW)).words)
def AW (dl:aW) (cm:bL):Option (Bool) :=
 ((
  if (0:Int)≤dl.from_ then (
   if dl.from_≤dl.to_ then (
    (AV cm dl.of).bind fun r0 =>
    some (decide (dl.to_≤(r0.length:Int))))
   else
   some false)
  else
  some false
 ):Option (Bool)).bind fun t32 =>
 some t32
def KO (bp:bL):Option (Bool) :=
 (sI bp.papers (fun x0_=>AW x0_ bp)).bind fun r11 =>
 some r11
def KP  : Option (Unit) :=
 some ()
def xJ (bp:bL):Option (Int) :=
 (KP).bind fun r10 =>
 (FO bp).bind fun r0 =>
 if r0 then (
  (FQ bp).bind fun r1 =>
  if r1 then (
   (KL bp).bind fun r2 =>
   if r2 then (
    (KM bp).bind fun r3 =>
    if r3 then (
     (KN bp).bind fun r4 =>
     if r4 then (
      (FR bp).bind fun r5 =>
      if r5 then (
       (KO bp).bind fun r8 =>
       if r8 then (
        some 0)
       else
       some 1)
      else
      some 8)
     else
     some 7)
    else
    some 6)
   else
   some 2)
  else
  some 4)
 else
 some 3
def UF (ac:aJ) (iv:List Int) (text:aF):Option (aJ⊕Int) :=
 (jK (!ac.state.moved) 8).bind fun r3=>match r3 with
 | .inl y6=>(
  (AP text).bind fun r8 =>
  (xJ (⟨r8,([]:List aW)⟩:bL)).bind fun r0 =>
  (lX r0).bind fun r1=>match r1 with
  | .inl y0=>(
   some (.inl (⟨({ac.state with motion:=(⟨r8,([]:List aW)⟩:bL),moved:=true}:cU)⟩:aJ)))
  | .inr _=>(
   some (.inr r0)))
 | .inr _=>(
  some (.inr 8))
def KQ (aj:List aW):Option (List aW) :=
 cD (([]:List aW).length+aj.length≤1073741824) <|
 some (([]:List aW)++aj)
def FS (bz:List aW) (ct:aW):Option (List aW) :=
 (KQ bz).bind fun r7 =>
 cD (r7.length+([ct]:List aW).length≤1073741824) <|
 some (r7++([ct]:List aW))
def UG (ac:aJ) (bq:List Int) (text:aF):Option (aJ⊕Int) :=
 (jK ac.state.moved 8).bind fun r3=>match r3 with
 | .inl y6=>(
  (bq[0]?).bind fun x9 =>
  (bq[1]?).bind fun x0 =>
  (bq[2]?).bind fun x1 =>
  (bq[3]?).bind fun x2 =>
  (AP text).bind fun r2 =>
  (FS ac.state.motion.papers (⟨x9,x0,x1,x2,r2⟩:aW)).bind fun r0 =>
  (xJ (⟨ac.state.motion.words,r0⟩:bL)).bind fun r1 =>
  (lX r1).bind fun r4=>match r4 with
  | .inl y0=>(
   some (.inl (⟨({ac.state with motion:=(⟨ac.state.motion.words,r0⟩:bL)}:cU)⟩:aJ)))
  | .inr _=>(
   some (.inr r1)))
 | .inr _=>(
  some (.inr 8))
def FT (bf:aW) (bi:aW):Option (Bool) :=
 ((
  if bf.number≠bi.number then (
   if bf.of=bi.of then (
    if bf.from_ < bi.to_ then (
     some (decide (bi.from_ < bf.to_)))
    else
    some false)
   else
   some false)
  else
  some false
 ):Option (Bool)).bind fun t0 =>
 some t0
def xK (choice:List Int) (r10:(List (Int×aW))) (s1:Nat):Option ((Nat)⊕((Unit)⊕Int)) :=
 if (s1:Int) < (choice.length:Int) then (
  (choice[s1]?).bind fun x0 =>
  ((
   if ((eM r10 x0).getD (⟨0,0,0,0,([]:List aF)⟩:aW)).of≠0 then (
    (uW choice (((eM r10 x0).getD (⟨0,0,0,0,([]:List aF)⟩:aW)).of)).bind fun r0 =>
    some (!r0))
   else
   some false
  ):Option (Bool)).bind fun t0 =>
  if t0 then (
   some (.inr (.inr 10)))
  else
  some (.inl (s1+1)))
 else
 some (.inr (.inl ()))
def xL (choice:List Int) (r10:(List (Int×aW))) (x0:Int) (s1:Nat):Option ((Nat)⊕((Unit)⊕((Nat)⊕((Unit)⊕Int)))) :=
 if (s1:Int) < (choice.length:Int) then (
  (choice[s1]?).bind fun x1 =>
  (FT ((eM r10 x0).getD (⟨0,0,0,0,([]:List aF)⟩:aW)) ((eM r10 x1).getD (⟨0,0,0,0,([]:List aF)⟩:aW))).bind fun r0 =>
  if r0 then (
   some (.inr (.inr (.inr (.inr 9)))))
  else
  some (.inl (s1+1)))
 else
 some (.inr (.inl ()))
def xM (choice:List Int) (r10:(List (Int×aW))) (s1:Nat):Option ((Nat)⊕((Unit)⊕Int)) :=
 if (s1:Int) < (choice.length:Int) then (
  (choice[s1]?).bind fun x0 =>
  (bG (xL choice r10 x0) 0).bind fun eA1=>match eA1 with
  | .inr z=>some z
  | .inl t0 =>
  some (.inl (s1+1)))
 else
 some (.inr (.inl ()))
def FU (bp:bL) (choice:List Int):Option (Int) :=
 (qQ bp).bind fun r10 =>
 (bG (xK choice r10) 0).bind fun e48=>match e48 with
 | .inr z=>some z
 | .inl t0 =>
 (bG (xM choice r10) 0).bind fun eA1=>match eA1 with
 | .inr z=>some z
 | .inl t1 =>
 some 0
def sK (choice:List Int) (r0:(List (Int×aW))) (s1:Nat):Option ((Nat)⊕((Unit)⊕Int)) :=
 if (s1:Int) < (choice.length:Int) then (
  (choice[s1]?).bind fun x0 =>
  ((
   if ((eM r0 x0).getD (⟨0,0,0,0,([]:List aF)⟩:aW)).number≠x0 then (
    some true)
   else
   if x0=0 then (
    some true)
   else
   if 0 < (s1:Int) then (
    (choice[((s1:Int) - 1).toNat]?).bind fun x1 =>
    some (decide (x0≤x1)))
   else
   some false
  ):Option (Bool)).bind fun t0 =>
  if t0 then (
   some (.inr (.inr 2)))
  else
  some (.inl (s1+1)))
 else
 some (.inr (.inl ()))
def FV (bp:bL) (choice:List Int):Option (Int) :=
 (xJ bp).bind fun r10 =>
 if r10≠0 then (
  some r10)
 else
 (qQ bp).bind fun r0 =>
 (bG (sK choice r0) 0).bind fun e67=>match e67 with
 | .inr z=>some z
 | .inl t0 =>
 (FU bp choice).bind fun r1 =>
 some r1
def pZ (bz:List Int) (s1:Nat):Option ((Nat)⊕((Unit)⊕Int)) :=
 if (s1:Int) < (bz.length:Int) then (
  (bz[s1]?).bind fun x0 =>
  if x0≠0 then (
   some (.inr (.inr x0)))
  else
  some (.inl (s1+1)))
 else
 some (.inr (.inl ()))
def FX (bz:List Int):Option (Int) :=
 (bG (pZ bz) 0).bind fun e16=>match e16 with
 | .inr z=>some z
 | .inl t0 =>
 some 0
def vA (bf:aW) (bi:aW):Option (Int) :=
 cD (-9223372036854775808≤(bf.from_ - bi.from_)∧(bf.from_ - bi.from_)≤9223372036854775807) <|
 cD (-9223372036854775808≤(bf.to_ - bi.to_)∧(bf.to_ - bi.to_)≤9223372036854775807) <|
 cD (-9223372036854775808≤(bf.number - bi.number)∧(bf.number - bi.number)≤9223372036854775807) <|
 (FX ([(bf.from_ - bi.from_),(bf.to_ - bi.to_),(bf.number - bi.number)]:List Int)).bind fun r24 =>
 some r24
def FY (cm:bL) (fy:Int) (s1:Nat×List aW):Option ((Nat×List aW)⊕(List aW)) :=
 if (s1.1:Int) < (cm.papers.length:Int) then (
  (cm.papers[s1.1]?).bind fun x0 =>
  ((
   if x0.of=fy then (
    cD (s1.2.length+1≤1073741824) <|
    some (s1.2++[x0]))
   else
   some s1.2
  ):Option (List aW)).bind fun t0 =>
  some (.inl ((s1.1+1),t0)))
 else
 some (.inr s1.2)
def FZ (eA1:List aW) (l0:List aW) (yield:aW→Option Bool) (s1:Nat):Option ((Nat)⊕((Unit)⊕Unit)) :=
 if (s1:Int) < (eA1.length:Int) then (
  (l0[s1]?).bind fun x0 =>
  (yield x0).bind fun r0 =>
  if r0 then (
   some (.inl (s1+1)))
  else
  some (.inr (.inr ())))
 else
 some (.inr (.inl ()))
def UH (yield:aW→Option Bool) (cm:bL) (fy:Int):Option (Unit) :=
 (bG (FY cm fy) (0,([]:List aW))).bind fun eA1 =>
 cD (eA1.Nodup) <|
 (iX (vA) eA1).bind fun l0 =>
 (bG (FZ eA1 l0 yield) 0).bind fun eB1=>match eB1 with
 | .inr z=>some z
 | .inl t0 =>
 some ()
def sL (bp:bL) (s2:Int×List aF×List bH) (s1:Nat×List aW):Option ((Nat×List aW)⊕(List aW)) :=
 if (s1.1:Int) < (bp.papers.length:Int) then (
  (bp.papers[s1.1]?).bind fun x0 =>
  ((
   if x0.of=s2.1 then (
    cD (s1.2.length+1≤1073741824) <|
    some (s1.2++[x0]))
   else
   some s1.2
  ):Option (List aW)).bind fun t0 =>
  some (.inl ((s1.1+1),t0)))
 else
 some (.inr s1.2)
def xN (x1:aW) (r0:List aF) (s2:Int×List aF×List bH) (s1:Int×List aF×List bH):Option ((Int×List aF×List bH)⊕(Int×List aF×List bH)) :=
 if s1.1 < x1.from_ then (
  cD (0≤s1.1) <|
  (r0[s1.1.toNat]?).bind fun x0 =>
  cD (s1.2.1.length+([x0]:List aF).length≤1073741824) <|
  cD (s1.2.2.length+([(⟨s2.1,s1.1⟩:bH)]:List bH).length≤1073741824) <|
  cD (-9223372036854775808≤(s1.1+1)∧(s1.1+1)≤9223372036854775807) <|
  some (.inl ((s1.1+1),(s1.2.1++([x0]:List aF)),(s1.2.2++([(⟨s2.1,s1.1⟩:bH)]:List bH)))))
 else
 some (.inr (s1.1,s1.2.1,s1.2.2))
def xO (eB1:List aW) (l0:List aW) (choice:List Int) (r1:List aF) (s2:Int×List aF×List bH) (R0_:(Int×List aF×List bH)→Option (List aF×List bH)) (s1:Nat×Int×List aF×List bH):Option ((Nat×Int×List aF×List bH)⊕(Int×List aF×List bH)) :=
 if (s1.1:Int) < (eB1.length:Int) then (
  (l0[s1.1]?).bind fun x0 =>
  ((
   (uW choice x0.number).bind fun r2 =>
   ((
    if r2 then (
     ((
      (bG (xN x0 r1 s2) (s1.2.1,s1.2.2.1,s1.2.2.2)).bind fun eA1 =>
      some (eA1.1,eA1.2.1,eA1.2.2)
     ):Option (Int×List aF×List bH)).bind fun t2 =>
     (R0_ (x0.number,t2.2.1,t2.2.2)).bind fun r0 =>
     some (x0.to_,r0.1,r0.2))
    else
    some (s1.2.1,s1.2.2.1,s1.2.2.2)
   ):Option (Int×List aF×List bH)).bind fun t0 =>
   some (t0.1,t0.2.1,t0.2.2)
  ):Option (Int×List aF×List bH)).bind fun t1 =>
  some (.inl ((s1.1+1),t1.1,t1.2.1,t1.2.2)))
 else
 some (.inr (s1.2.1,s1.2.2.1,s1.2.2.2))
def xP (r0:List aF) (s2:Int×List aF×List bH) (s1:Int×List aF×List bH):Option ((Int×List aF×List bH)⊕(Int×List aF×List bH)) :=
 if s1.1 < (r0.length:Int) then (
  cD (0≤s1.1) <|
  (r0[s1.1.toNat]?).bind fun x0 =>
  cD (s1.2.1.length+([x0]:List aF).length≤1073741824) <|
  cD (s1.2.2.length+([(⟨s2.1,s1.1⟩:bH)]:List bH).length≤1073741824) <|
  cD (-9223372036854775808≤(s1.1+1)∧(s1.1+1)≤9223372036854775807) <|
  some (.inl ((s1.1+1),(s1.2.1++([x0]:List aF)),(s1.2.2++([(⟨s2.1,s1.1⟩:bH)]:List bH)))))
 else
 some (.inr (s1.1,s1.2.1,s1.2.2))
def sM (bp:bL) (choice:List Int) (R0_:(Int×List aF×List bH)→Option (List aF×List bH)) (s1:Int×List aF×List bH):Option (List aF×List bH) :=
 (AV bp s1.1).bind fun r0 =>
 ((
  (bG (sL bp s1) (0,([]:List aW))).bind fun eA1 =>
  cD (eA1.Nodup) <|
  (iX (vA) eA1).bind fun l0 =>
  (bG (xO eA1 l0 choice r0 s1 R0_) (0,0,s1.2.1,s1.2.2)).bind fun eB1 =>
  some (eB1.1,eB1.2.1,eB1.2.2)
 ):Option (Int×List aF×List bH)).bind fun t0 =>
 ((
  (bG (xP r0 s1) (t0.1,t0.2.1,t0.2.2)).bind fun eC1 =>
  some (eC1.1,eC1.2.1,eC1.2.2)
 ):Option (Int×List aF×List bH)).bind fun t1 =>
 some (t1.2.1,t1.2.2)
def lJ (bp:bL) (choice:List Int):Nat→(Int×List aF×List bH)→Option (List aF×List bH)
 | 0,_=>none
 | n_+1,s1=>sM bp choice (lJ bp choice n_) s1
def AX (bp:bL) (choice:List Int):Option (List aF×List bH×Int) :=
 (FV bp choice).bind fun r0 =>
 if r0≠0 then (
  some (([]:List aF),([]:List bH),r0))
 else
 (vZ (fun n_=>lJ bp choice n_ (0,([]:List aF),([]:List bH)))).bind fun r1 =>
 some (r1.1,r1.2,0)
def UI (ac:aJ) (bq:List Int) (cy:aF):Option (aJ⊕Int) :=
 (jK ac.state.moved 8).bind fun r3=>match r3 with
 | .inl y6=>(
  (bq[0]?).bind fun x8 =>
  (sF ac.state.choice x8).bind fun r0 =>
  (jK (!r0.2) 6).bind fun r4=>match r4 with
  | .inl y0=>(
   (qP ac.state.choice).bind fun r1 =>
   cD (0≤r0.1) <|
   cD (r0.1.toNat≤r1.length) <|
   cD (r1.length+([x8]:List Int).length≤1073741824) <|
   (AX ac.state.motion (r1.take r0.1.toNat++([x8]:List Int)++r1.drop r0.1.toNat)).bind fun r2 =>
   (lX r2.2.2).bind fun r5=>match r5 with
   | .inl y1=>(
    some (.inl (⟨({ac.state with choice:=(r1.take r0.1.toNat++([x8]:List Int)++r1.drop r0.1.toNat)}:cU)⟩:aJ)))
   | .inr _=>(
    some (.inr r2.2.2)))
  | .inr _=>(
   some (.inr 6)))
 | .inr _=>(
  some (.inr 8))
def UJ (ac:aJ) (bq:List Int) (cy:aF):Option (aJ⊕Int) :=
 ((
  if ac.state.moved then (
   (jK (!ac.state.bound) 8).bind fun r22=>match r22 with
   | .inl y1=>(
    some (.inl ()))
   | .inr _=>(
    some (.inr (.inr 8))))
  else
  (jK false 8).bind fun r1=>match r1 with
  | .inl y2=>(
   some (.inl ()))
  | .inr _=>(
   some (.inr (.inr 8)))
 ):Option ((Unit)⊕(aJ⊕Int))).bind fun t0=>match t0 with
 | .inr z=>some z
 | .inl t1 =>
 (AX ac.state.motion ac.state.choice).bind fun r0 =>
 (lX r0.2.2).bind fun r2=>match r2 with
 | .inl y3=>(
  (wG r0.1 [32]).bind fun r3 =>
  (RF ac bq r3).bind fun r4=>match r4 with
  | .inl y0=>(
   some (.inl (⟨({y0.state with motion:=(⟨([]:List aF),([]:List aW)⟩:bL),moved:=false,choice:=([]:List Int)}:cU)⟩:aJ)))
  | .inr y0=>(
   some (.inr y0)))
 | .inr _=>(
  some (.inr r0.2.2))
def UK  : Option ((List (aF×cV))) :=
 some (put (put (put (put (put (put (put (put (put (put (put (put (put (put (put (put (put ([]:List (aF×cV)) [100,97,121] (⟨1,false,(some 70)⟩:cV)) [115,97,121] (⟨1,true,(some 71)⟩:cV)) [98,105,110,100] (⟨3,false,(some 72)⟩:cV)) [99,104,97,110,103,101] (⟨2,true,(some 73)⟩:cV)) [114,101,109,111,118,101] (⟨2,false,(some 74)⟩:cV)) [97,100,100] (⟨3,true,(some 75)⟩:cV)) [99,105,116,101] (⟨2,false,(some 76)⟩:cV)) [104,105,100,101] (⟨3,false,(some 77)⟩:cV)) [104,111,117,115,101] (⟨1,false,(some 78)⟩:cV)) [100,105,118,105,100,101] (⟨4,false,(some 79)⟩:cV)) [116,101,108,108] (⟨3,false,(some 80)⟩:cV)) [112,97,105,114] (⟨2,false,(some 81)⟩:cV)) [114,101,115,117,108,116] (⟨0,false,(some 82)⟩:cV)) [109,111,118,101] (⟨0,true,(some 83)⟩:cV)) [112,97,112,101,114] (⟨4,true,(some 84)⟩:cV)) [97,100,111,112,116] (⟨1,false,(some 85)⟩:cV)) [111,114,100,101,114] (⟨1,false,(some 86)⟩:cV))
def UL (aj:aF):Option (Int⊕Unit) :=
 (YO aj).bind fun r1 =>
 ((
  if r1.2 then (
   (jK false 4).bind fun r0=>match r0 with
   | .inl y0=>(
    some (.inl ()))
   | .inr _=>(
    some (.inr (.inr ()))))
  else
  (sZ r1.1).bind fun r2 =>
  if r2=aj then (
   (wK r1.1 (-999999999) 999999999).bind fun r3 =>
   (jK r3 4).bind fun r4=>match r4 with
   | .inl y1=>(
    some (.inl ()))
   | .inr _=>(
    some (.inr (.inr ()))))
  else
  (jK false 4).bind fun r5=>match r5 with
  | .inl y2=>(
   some (.inl ()))
  | .inr _=>(
   some (.inr (.inr ())))
 ):Option ((Unit)⊕(Int⊕Unit))).bind fun t34=>match t34 with
 | .inr z=>some z
 | .inl t37 =>
 some (.inl r1.1)
def RH (q:Option Nat) (ac:aJ) (bq:List Int) (cy:aF):Option (aJ⊕Int) :=
 if q=some 70 then TJ ac bq cy
 else if q=some 71 then RF ac bq cy
 else if q=some 72 then TM ac bq cy
 else if q=some 73 then TR ac bq cy
 else if q=some 74 then TS ac bq cy
 else if q=some 75 then TT ac bq cy
 else if q=some 76 then TU ac bq cy
 else if q=some 77 then TW ac bq cy
 else if q=some 78 then TX ac bq cy
 else if q=some 79 then TY ac bq cy
 else if q=some 80 then TZ ac bq cy
 else if q=some 81 then UA ac bq cy
 else if q=some 82 then UD ac bq cy
 else if q=some 83 then UF ac bq cy
 else if q=some 84 then UG ac bq cy
 else if q=some 85 then UI ac bq cy
 else if q=some 86 then UJ ac bq cy
 else none
def GA (r7:(List (aF×cV))) (r4:aF×aF×Bool) (ac:aJ) (s1:Nat×aF×Bool×List Int):Option ((Nat×aF×Bool×List Int)⊕((aF×Bool×List Int)⊕(aJ×Int))) :=
 if (s1.1:Int) < ((eM r7 r4.1).getD (⟨0,false,(none:Option Nat)⟩:cV)).many then (
  (jK s1.2.2.1 4).bind fun r1=>match r1 with
  | .inl y1=>(
   (RA s1.2.1 [32]).bind fun r0 =>
   (UL r0.1).bind fun r2=>match r2 with
   | .inl y0=>(
    cD (s1.2.2.2.length+1≤1073741824) <|
    cD (-9223372036854775808≤((s1.1:Int)+1)∧((s1.1:Int)+1)≤9223372036854775807) <|
    some (.inl ((s1.1+1),r0.2.1,r0.2.2,(s1.2.2.2++[y0]))))
   | .inr _=>(
    some (.inr (.inr (ac,4)))))
  | .inr _=>(
   some (.inr (.inr (ac,4)))))
 else
 some (.inr (.inl (s1.2.1,s1.2.2.1,s1.2.2.2)))
def PR (ac:aJ) (text:aF):Option (aJ×Int) :=
 (RA text [32]).bind fun r4 =>
 (UK).bind fun r7 =>
 (jK ((eM r7 r4.1).isSome) 4).bind fun r0=>match r0 with
 | .inl y1=>(
  (bG (GA r7 r4 ac) (0,r4.2.1,r4.2.2,([]:List Int))).bind fun e99=>match e99 with
  | .inr z=>some z
  | .inl t102 =>
  (jK (t102.2.1==((eM r7 r4.1).getD (⟨0,false,(none:Option Nat)⟩:cV)).text) 4).bind fun r1=>match r1 with
  | .inl y2=>(
   (RH (((eM r7 r4.1).getD (⟨0,false,(none:Option Nat)⟩:cV)).do_) ac t102.2.2 t102.1).bind fun r2=>match r2 with
   | .inl y0=>(
    some (y0,0))
   | .inr y0=>(
    some (ac,y0)))
  | .inr _=>(
   some (ac,4)))
 | .inr _=>(
  some (ac,4))
def vB (lines:List aF) (s:Nat×aJ×List Int):Option ((Nat×aJ×List Int)⊕(aJ×List Int)) :=
 if (s.1:Int) < (lines.length:Int) then (
  (lines[s.1]?).bind fun x =>
  (PR s.2.1 x).bind fun r =>
  cD (s.2.2.length+1≤1073741824) <|
  some (.inl ((s.1+1),r.1,(s.2.2++[r.2]))))
 else
 some (.inr s.2)
def RI (lines:List aF):Option (aJ×List Int) :=
 (bG (vB lines) (0,(⟨(⟨0,0,(⟨0,0,0,0,([]:List eB)⟩:bN),false,([]:List aR),([]:List gX),([]:List aF),(⟨([]:List aF),([]:List aW)⟩:bL),false,([]:List Int),(⟨0,(⟨([]:List Int),([]:List Int)⟩:bP),(⟨([]:List Int),([]:List Int)⟩:bP),([]:List fC),([]:List dX),0,0,0,0⟩:aT),false,([]:List UInt8)⟩:cU)⟩:aJ),([]:List Int))).bind fun e =>
 some e
def m8 (lines:List aF):Option (cU×List Int×Int) :=
 (m19 lines).bind fun r2 =>
 if r2≠0 then (
  some ((⟨0,0,(⟨0,0,0,0,([]:List eB)⟩:bN),false,([]:List aR),([]:List gX),([]:List aF),(⟨([]:List aF),([]:List aW)⟩:bL),false,([]:List Int),(⟨0,(⟨([]:List Int),([]:List Int)⟩:bP),(⟨([]:List Int),([]:List Int)⟩:bP),([]:List fC),([]:List dX),0,0,0,0⟩:aT),false,([]:List UInt8)⟩:cU),([]:List Int),r2))
 else
 (RI lines).bind fun r11 =>
 some (r11.1.state,r11.2,0)
def MY (turned:Bool) (s1:Int×Int×dH):Option ((Int×Int×dH)⊕(dH)) :=
 if 0≤s1.2.1 then (
  cD (0≤s1.1∧0 < (8:Int)) <|
  ((
   if turned then (
    some (7 - (s1.1%8)))
   else
   some (s1.1%8)
  ):Option (Int)).bind fun t0 =>
  cD (-9223372036854775808≤(48+t0)∧(48+t0)≤9223372036854775807) <|
  cD (0≤(48+t0)∧(48+t0)≤255) <|
  cD (s1.2.1 < 6) <|
  cD (0≤s1.1∧s1.1≤9223372036854775807∧0 < (8:Int)) <|
  cD (-9223372036854775808≤(s1.2.1 - 1)∧(s1.2.1 - 1)≤9223372036854775807) <|
  some (.inl ((s1.1/8),(s1.2.1 - 1),(dH.set s1.2.2 s1.2.1.toNat (48+t0)))))
 else
 some (.inr s1.2.2)
def UM (eh:Int) (many:Int) (turned:Bool):Option (aF) :=
 cD (-9223372036854775808≤(many - 1)∧(many - 1)≤9223372036854775807) <|
 (bG (MY turned) (eh,(many - 1),dH.zero)).bind fun e46 =>
 cD (∀ v∈dH.vals e46,0≤v∧v≤255) <|
 cD (0≤many) <|
 cD (many.toNat≤6) <|
 some (((dH.vals e46).map HV).take many.toNat)
def MZ (aj:aF) (s1:Nat×Int):Option ((Nat×Int)⊕(Int)) :=
 if (s1.1:Int) < (aj.length:Int) then (
  (aj[s1.1]?).bind fun x0 =>
  cD (-9223372036854775808≤(29*s1.2)∧(29*s1.2)≤9223372036854775807) <|
  cD (-9223372036854775808≤((29*s1.2)+(x0.toNat:Int))∧((29*s1.2)+(x0.toNat:Int))≤9223372036854775807) <|
  cD (-9223372036854775808≤(((29*s1.2)+(x0.toNat:Int))+3)∧(((29*s1.2)+(x0.toNat:Int))+3)≤9223372036854775807) <|
  cD (0≤(((29*s1.2)+(x0.toNat:Int))+3)∧0 < (262139:Int)) <|
  some (.inl ((s1.1+1),((((29*s1.2)+(x0.toNat:Int))+3)%262139))))
 else
 some (.inr s1.2)
def m47 (aj:aF):Option (aF) :=
 cD (aj.length≤1073741824) <|
 (bG (MZ aj) (0,11)).bind fun e47 =>
 (UM (aj.length:Int) 4 false).bind fun r0 =>
 cD ([91].length+r0.length≤1073741824) <|
 (UM (aj.length:Int) 4 true).bind fun r1 =>
 cD (([91]++r0).length+r1.length≤1073741824) <|
 (UM e47 6 false).bind fun r2 =>
 cD ((([91]++r0)++r1).length+r2.length≤1073741824) <|
 cD (((([91]++r0)++r1)++r2).length+[93].length≤1073741824) <|
 cD ((((([91]++r0)++r1)++r2)++[93]).length+aj.length≤1073741824) <|
 cD (((((([91]++r0)++r1)++r2)++[93])++aj).length+[10].length≤1073741824) <|
 some (((((([91]++r0)++r1)++r2)++[93])++aj)++[10])
def NA (lines:List aF) (s1:Nat×List UInt8):Option ((Nat×List UInt8)⊕(List UInt8)) :=
 if (s1.1:Int) < (lines.length:Int) then (
  (lines[s1.1]?).bind fun x0 =>
  (m47 x0).bind fun r0 =>
  cD (s1.2.length+r0.length≤1073741824) <|
  some (.inl ((s1.1+1),(s1.2++r0))))
 else
 some (.inr s1.2)
def m32 (lines:List aF):Option (List UInt8) :=
 (bG (NA lines) (0,([]:List UInt8))).bind fun e64 =>
 some e64
def m13 (lines:List aF):Option (List UInt8×Int) :=
 (m19 lines).bind fun r1 =>
 if r1≠0 then (
  some (([]:List UInt8),r1))
 else
 (m32 lines).bind fun r10 =>
 some (r10,0)
def zB (bf:List aF) (bi:List aF) (s1:Nat):Option ((Nat)⊕((Unit)⊕Bool)) :=
 if (s1:Int) < (bf.length:Int) then (
  (bf[s1]?).bind fun x0 =>
  (bi[s1]?).bind fun x1 =>
  if x0≠x1 then (
   some (.inr (.inr false)))
  else
  some (.inl (s1+1)))
 else
 some (.inr (.inl ()))
def m18 (bf:List aF) (bi:List aF):Option (Bool) :=
 if (bf.length:Int)≠(bi.length:Int) then (
  some false)
 else
 (bG (zB bf bi) 0).bind fun e31=>match e31 with
 | .inr z=>some z
 | .inl t34 =>
 some true
def m7  : Option (Bool) :=
 (m17).bind fun r1 =>
 (m8 r1).bind fun r8 =>
 (m13 ([[97]]:List aF)).bind fun r0 =>
 ((
  if r8.2.2=0 then (
   if r0.2=0 then (
    if (r8.2.1.length:Int)=18 then (
     (r8.2.1[11]?).bind fun x0 =>
     if x0=10 then (
      (r8.2.1[17]?).bind fun x1 =>
      if x1=0 then (
       if r8.1.bound then (
        if (r8.1.results.length:Int)=1 then (
         (r8.1.results[0]?).bind fun x2 =>
         if (x2.toNat:Int)=1 then (
          (m18 r8.1.cites ([[118,111,108,46,32,51,44,32,99,111,108,46,32,49,44,32,108,46,32,50]]:List aF)).bind fun r2 =>
          if r2 then (
           some (decide (r0.1=[91,48,48,48,49,55,55,55,54,48,48,48,54,52,51,93,97,10])))
          else
          some false)
         else
         some false)
        else
        some false)
       else
       some false)
      else
      some false)
     else
     some false)
    else
    some false)
   else
   some false)
  else
  some false
 ):Option (Bool)).bind fun t0 =>
 some t0
def m9 (bz:List aF):Option (List aF) :=
 cD (([]:List aF).length+bz.length≤1073741824) <|
 some (([]:List aF)++bz)
def zC (errors:List Int) (lines:List aF) (s1:Nat×List aF):Option ((Nat×List aF)⊕(List aF)) :=
 ((
  if (s1.1:Int) < (errors.length:Int) then (
   some (decide ((s1.1:Int) < (lines.length:Int))))
  else
  some false
 ):Option (Bool)).bind fun t0 =>
 if t0 then (
  (errors[s1.1]?).bind fun x0 =>
  ((
   if x0=0 then (
    (lines[s1.1]?).bind fun x1 =>
    cD (s1.2.length+1≤1073741824) <|
    some (s1.2++[x1]))
   else
   some s1.2
  ):Option (List aF)).bind fun t1 =>
  cD (-9223372036854775808≤((s1.1:Int)+1)∧((s1.1:Int)+1)≤9223372036854775807) <|
  some (.inl ((s1.1+1),t1)))
 else
 some (.inr s1.2)
def UN (lines:List aF) (errors:List Int):Option (List aF) :=
 (bG (zC errors lines) (0,([]:List aF))).bind fun eA1 =>
 some eA1
def GB (r0:List cX) (s1:Nat×List gP):Option ((Nat×List gP)⊕(List gP)) :=
 if (s1.1:Int) < (r0.length:Int) then (
  (r0[s1.1]?).bind fun x0 =>
  cD (s1.2.length+1≤1073741824) <|
  some (.inl ((s1.1+1),(s1.2++[x0.place]))))
 else
 some (.inr s1.2)
def UO (aq:bN) (errata:List aR):Option (List gP×Int) :=
 (MX aq errata).bind fun r7 =>
 if r7≠0 then (
  some (([]:List gP),r7))
 else
 (RG aq errata).bind fun r0 =>
 (bG (GB r0) (0,([]:List gP))).bind fun e89 =>
 some (e89,0)
def m26 (ac:aJ):Option (List aI) :=
 (AJ ac).bind fun r3 =>
 (PM r3 ac.state.errata ac.state.day).bind fun r11 =>
 some r11.1
def GC (r2:List gP×Int) (lines:List aF) (s1:Nat×Bool×List UInt8):Option ((Nat×Bool×List UInt8)⊕(Bool×List UInt8)) :=
 if (s1.1:Int) < (r2.1.length:Int) then (
  (r2.1[s1.1]?).bind fun x0 =>
  (sZ x0.anchor).bind fun r4 =>
  (sZ x0.column).bind fun r1 =>
  cD (r1.length+[46].length≤1073741824) <|
  (sZ x0.line).bind fun r3 =>
  cD ((r1++[46]).length+r3.length≤1073741824) <|
  (sZ x0.lines).bind fun r5 =>
  ((
   (wG ([r4,((r1++[46])++r3),r5]:List aF) [32]).bind fun r0 =>
   cD (r0.length+[10].length≤1073741824) <|
   ((
    cD (s1.2.2.length+(r0++[10]).length≤1073741824) <|
    some ((r0++[10]).length,true,(s1.2.2++(r0++[10])))
   ):Option (Nat×Bool×List UInt8)).bind fun t0 =>
   some (t0.2.1,t0.2.2)
  ):Option (Bool×List UInt8)).bind fun t1 =>
  some (.inl ((s1.1+1),t1.1,t1.2)))
 else
 some (.inr (s1.2.1,s1.2.2))
def GD (r10:aJ×List Int) (s1:Nat×Bool×List UInt8):Option ((Nat×Bool×List UInt8)⊕(Bool×List UInt8)) :=
 if (s1.1:Int) < (r10.1.state.results.length:Int) then (
  (r10.1.state.results[s1.1]?).bind fun x0 =>
  (([[108,111,115,116],[99,97,114,114,105,101,100],[118,111,105,100]]:List aF)[(x0.toNat:Int).toNat]?).bind fun x1 =>
  ((
   (wG ([x1]:List aF) [32]).bind fun r0 =>
   cD (r0.length+[10].length≤1073741824) <|
   ((
    cD (s1.2.2.length+(r0++[10]).length≤1073741824) <|
    some ((r0++[10]).length,true,(s1.2.2++(r0++[10])))
   ):Option (Nat×Bool×List UInt8)).bind fun t0 =>
   some (t0.2.1,t0.2.2)
  ):Option (Bool×List UInt8)).bind fun t1 =>
  some (.inl ((s1.1+1),t1.1,t1.2)))
 else
 some (.inr (s1.2.1,s1.2.2))
def GE (r10:aJ×List Int) (s1:Nat×Bool×List UInt8):Option ((Nat×Bool×List UInt8)⊕(Bool×List UInt8)) :=
 if (s1.1:Int) < (r10.1.state.cites.length:Int) then (
  (r10.1.state.cites[s1.1]?).bind fun x0 =>
  ((
   (wG ([x0]:List aF) [32]).bind fun r0 =>
   cD (r0.length+[10].length≤1073741824) <|
   ((
    cD (s1.2.2.length+(r0++[10]).length≤1073741824) <|
    some ((r0++[10]).length,true,(s1.2.2++(r0++[10])))
   ):Option (Nat×Bool×List UInt8)).bind fun t0 =>
   some (t0.2.1,t0.2.2)
  ):Option (Bool×List UInt8)).bind fun t1 =>
  some (.inl ((s1.1+1),t1.1,t1.2)))
 else
 some (.inr (s1.2.1,s1.2.2))
def HY (lines:List aF):Option (aF×Int) :=
 (m19 lines).bind fun r1 =>
 if r1≠0 then (
  some ([],r1))
 else
 (RI lines).bind fun r10 =>
 (sZ r10.1.state.day).bind fun r8 =>
 (sZ r10.1.state.house).bind fun r9 =>
 ((
  (wG ([[100,97,121],r8,[104,111,117,115,101],r9]:List aF) [32]).bind fun r0 =>
  cD (r0.length+[10].length≤1073741824) <|
  ((
   cD (([]:List UInt8).length+(r0++[10]).length≤1073741824) <|
   some ((r0++[10]).length,true,(([]:List UInt8)++(r0++[10])))
  ):Option (Nat×Bool×List UInt8)).bind fun t3 =>
  some (t3.2.1,t3.2.2)
 ):Option (Bool×List UInt8)).bind fun t0 =>
 ((
  if r10.1.state.bound then (
   (sZ r10.1.state.volume.number).bind fun rA1 =>
   (sZ (r10.1.state.errata.length:Int)).bind fun rB1 =>
   ((
    (wG ([[118,111,108,117,109,101],rA1,[101,114,114,97,116,97],rB1]:List aF) [32]).bind fun r2 =>
    cD (r2.length+[10].length≤1073741824) <|
    ((
     cD (t0.2.length+(r2++[10]).length≤1073741824) <|
     some ((r2++[10]).length,true,(t0.2++(r2++[10])))
    ):Option (Nat×Bool×List UInt8)).bind fun t4 =>
    some (t4.2.1,t4.2.2)
   ):Option (Bool×List UInt8)).bind fun t5 =>
   (UO r10.1.state.volume r10.1.state.errata).bind fun rC1 =>
   (bG (GC rC1 lines) (0,t5.1,t5.2)).bind fun eA1 =>
   some (eA1.1,eA1.2))
  else
  ((
   (AJ r10.1).bind fun rD1 =>
   (PM rD1 r10.1.state.errata r10.1.state.day).bind fun rE1 =>
   some rE1.1
  ):Option (List aI)).bind fun tA1 =>
  (sZ (tA1.length:Int)).bind fun rF1 =>
  ((
   (wG ([[100,114,97,102,116],rF1]:List aF) [32]).bind fun r3 =>
   cD (r3.length+[10].length≤1073741824) <|
   ((
    cD (t0.2.length+(r3++[10]).length≤1073741824) <|
    some ((r3++[10]).length,true,(t0.2++(r3++[10])))
   ):Option (Nat×Bool×List UInt8)).bind fun t6 =>
   some (t6.2.1,t6.2.2)
  ):Option (Bool×List UInt8)).bind fun t7 =>
  some (t7.1,t7.2)
 ):Option (Bool×List UInt8)).bind fun t1 =>
 ((
  if r10.1.state.moved then (
   (sZ (r10.1.state.motion.words.length:Int)).bind fun rG1 =>
   (sZ (r10.1.state.motion.papers.length:Int)).bind fun rH1 =>
   (sZ (r10.1.state.choice.length:Int)).bind fun rI1 =>
   ((
    (wG ([[109,111,116,105,111,110],rG1,[112,97,112,101,114,115],rH1,[97,100,111,112,116,101,100],rI1]:List aF) [32]).bind fun r4 =>
    cD (r4.length+[10].length≤1073741824) <|
    ((
     cD (t1.2.length+(r4++[10]).length≤1073741824) <|
     some ((r4++[10]).length,true,(t1.2++(r4++[10])))
    ):Option (Nat×Bool×List UInt8)).bind fun t8 =>
    some (t8.2.1,t8.2.2)
   ):Option (Bool×List UInt8)).bind fun t9 =>
   some (t9.1,t9.2))
  else
  some (t1.1,t1.2)
 ):Option (Bool×List UInt8)).bind fun t2 =>
 ((
  if r10.1.state.open_ then (
   ((
    (wG ([[111,112,101,110]]:List aF) [32]).bind fun r5 =>
    cD (r5.length+[10].length≤1073741824) <|
    ((
     cD (t2.2.length+(r5++[10]).length≤1073741824) <|
     some ((r5++[10]).length,true,(t2.2++(r5++[10])))
    ):Option (Nat×Bool×List UInt8)).bind fun tD =>
    some (tD.2.1,tD.2.2)
   ):Option (Bool×List UInt8)).bind fun tE =>
   some (tE.1,tE.2))
  else
  some (t2.1,t2.2)
 ):Option (Bool×List UInt8)).bind fun tR =>
 (bG (GD r10) (0,tR.1,tR.2)).bind fun eB1 =>
 (bG (GE r10) (0,eB1.1,eB1.2)).bind fun eC1 =>
 some (eC1.2,0)
def zD (x0:eB) (x1:eB) (s1:Nat):Option ((Nat)⊕((Unit)⊕((Nat)⊕((Unit)⊕Bool)))) :=
 if (s1:Int) < (x0.paragraphs.length:Int) then (
  (x0.paragraphs[s1]?).bind fun x2 =>
  (x1.paragraphs[s1]?).bind fun x3 =>
  if x2=x3 then (
   some (.inl (s1+1)))
  else
  some (.inr (.inr (.inr (.inr false)))))
 else
 some (.inr (.inl ()))
def zE (bf:bN) (bi:bN) (s1:Nat):Option ((Nat)⊕((Unit)⊕Bool)) :=
 if (s1:Int) < (bf.parts.length:Int) then (
  (bf.parts[s1]?).bind fun x0 =>
  (bi.parts[s1]?).bind fun x1 =>
  ((
   if x0.day≠x1.day then (
    some true)
   else
   some (decide ((x0.paragraphs.length:Int)≠(x1.paragraphs.length:Int)))
  ):Option (Bool)).bind fun t0 =>
  if t0 then (
   some (.inr (.inr false)))
  else
  (bG (zD x0 x1) 0).bind fun eA1=>match eA1 with
  | .inr z=>some z
  | .inl t1 =>
  some (.inl (s1+1)))
 else
 some (.inr (.inl ()))
def UP (bf:bN) (bi:bN):Option (Bool) :=
 ((
  if bf.number≠bi.number then (
   some true)
  else
  if bf.bound≠bi.bound then (
   some true)
  else
  if bf.height≠bi.height then (
   some true)
  else
  if bf.width≠bi.width then (
   some true)
  else
  some (decide ((bf.parts.length:Int)≠(bi.parts.length:Int)))
 ):Option (Bool)).bind fun t25 =>
 if t25 then (
  some false)
 else
 (bG (zE bf bi) 0).bind fun eA1=>match eA1 with
 | .inr z=>some z
 | .inl t0 =>
 some true
def zF (bf:bL) (bi:bL) (s1:Nat):Option ((Nat)⊕((Unit)⊕Bool)) :=
 if (s1:Int) < (bf.papers.length:Int) then (
  (bf.papers[s1]?).bind fun x0 =>
  (bi.papers[s1]?).bind fun x1 =>
  ((
   if x0.number≠x1.number then (
    some true)
   else
   if x0.of≠x1.of then (
    some true)
   else
   if x0.from_≠x1.from_ then (
    some true)
   else
   if x0.to_≠x1.to_ then (
    some true)
   else
   (m18 x0.words x1.words).bind fun r0 =>
   some (!r0)
  ):Option (Bool)).bind fun t0 =>
  if t0 then (
   some (.inr (.inr false)))
  else
  some (.inl (s1+1)))
 else
 some (.inr (.inl ()))
def UQ (bf:bL) (bi:bL):Option (Bool) :=
 ((
  (m18 bf.words bi.words).bind fun r0 =>
  if r0 then (
   some (decide ((bf.papers.length:Int)≠(bi.papers.length:Int))))
  else
  some true
 ):Option (Bool)).bind fun t25 =>
 if t25 then (
  some false)
 else
 (bG (zF bf bi) 0).bind fun e103=>match e103 with
 | .inr z=>some z
 | .inl t0 =>
 some true
def zG (bf:List Int) (bi:List Int) (s1:Nat):Option ((Nat)⊕((Unit)⊕Bool)) :=
 if (s1:Int) < (bf.length:Int) then (
  (bf[s1]?).bind fun x0 =>
  (bi[s1]?).bind fun x1 =>
  if x0≠x1 then (
   some (.inr (.inr false)))
  else
  some (.inl (s1+1)))
 else
 some (.inr (.inl ()))
def KR (bf:List Int) (bi:List Int):Option (Bool) :=
 if (bf.length:Int)≠(bi.length:Int) then (
  some false)
 else
 (bG (zG bf bi) 0).bind fun e31=>match e31 with
 | .inr z=>some z
 | .inl t34 =>
 some true
def oG (bf:aT) (bi:aT) (s1:Nat):Option ((Nat)⊕((Unit)⊕Bool)) :=
 if (s1:Int) < 2 then (
  ((
   if (s1:Int)=0 then (
    (KR bf.ayes.e0 bi.ayes.e0).bind fun r0 =>
    if r0 then (
     (KR bf.noes.e0 bi.noes.e0).bind fun r1 =>
     some (!r1))
    else
    some true)
   else
   if (s1:Int)=1 then (
    (KR bf.ayes.e1 bi.ayes.e1).bind fun r2 =>
    if r2 then (
     (KR bf.noes.e1 bi.noes.e1).bind fun r3 =>
     some (!r3))
    else
    some true)
   else
   none
  ):Option (Bool)).bind fun t197 =>
  if t197 then (
   some (.inr (.inr false)))
  else
  some (.inl (s1+1)))
 else
 some (.inr (.inl ()))
def zH (bf:aT) (bi:aT) (s1:Nat):Option ((Nat)⊕((Unit)⊕Bool)) :=
 if (s1:Int) < (bf.pairs.length:Int) then (
  (bf.pairs[s1]?).bind fun x0 =>
  (bi.pairs[s1]?).bind fun x1 =>
  if x0=x1 then (
   some (.inl (s1+1)))
  else
  some (.inr (.inr false)))
 else
 some (.inr (.inl ()))
def zI (bf:aT) (bi:aT) (s1:Nat):Option ((Nat)⊕((Unit)⊕Bool)) :=
 if (s1:Int) < (bf.proxies.length:Int) then (
  (bf.proxies[s1]?).bind fun x0 =>
  (bi.proxies[s1]?).bind fun x1 =>
  if x0=x1 then (
   some (.inl (s1+1)))
  else
  some (.inr (.inr false)))
 else
 some (.inr (.inl ()))
def UR (bf:aT) (bi:aT):Option (Bool) :=
 ((
  if bf.members≠bi.members then (
   some true)
  else
  if bf.rule≠bi.rule then (
   some true)
  else
  if bf.need≠bi.need then (
   some true)
  else
  if bf.quorum≠bi.quorum then (
   some true)
  else
  if bf.tie≠bi.tie then (
   some true)
  else
  if (bf.pairs.length:Int)≠(bi.pairs.length:Int) then (
   some true)
  else
  some (decide ((bf.proxies.length:Int)≠(bi.proxies.length:Int)))
 ):Option (Bool)).bind fun t61 =>
 if t61 then (
  some false)
 else
 (bG (oG bf bi) 0).bind fun eA1=>match eA1 with
 | .inr z=>some z
 | .inl t0 =>
 (bG (zH bf bi) 0).bind fun eB1=>match eB1 with
 | .inr z=>some z
 | .inl t1 =>
 (bG (zI bf bi) 0).bind fun eC1=>match eC1 with
 | .inr z=>some z
 | .inl t2 =>
 some true
def zJ (bf:cU) (bi:cU) (s1:Nat):Option ((Nat)⊕((Unit)⊕Bool)) :=
 if (s1:Int) < (bf.errata.length:Int) then (
  (bf.errata[s1]?).bind fun x0 =>
  (bi.errata[s1]?).bind fun x1 =>
  if x0=x1 then (
   some (.inl (s1+1)))
  else
  some (.inr (.inr false)))
 else
 some (.inr (.inl ()))
def zK (bf:cU) (bi:cU) (s1:Nat):Option ((Nat)⊕((Unit)⊕Bool)) :=
 if (s1:Int) < (bf.hides.length:Int) then (
  (bf.hides[s1]?).bind fun x0 =>
  (bi.hides[s1]?).bind fun x1 =>
  if x0=x1 then (
   some (.inl (s1+1)))
  else
  some (.inr (.inr false)))
 else
 some (.inr (.inl ()))
def US (bf:cU) (bi:cU):Option (Bool) :=
 ((
  if bf.day≠bi.day then (
   some true)
  else
  if bf.house≠bi.house then (
   some true)
  else
  if bf.bound==bi.bound then (
   if bf.moved==bi.moved then (
    if bf.open_==bi.open_ then (
     (UP bf.volume bi.volume).bind fun r0 =>
     if r0 then (
      (UQ bf.motion bi.motion).bind fun r1 =>
      if r1 then (
       (UR bf.division bi.division).bind fun r2 =>
       if r2 then (
        (KR bf.choice bi.choice).bind fun r3 =>
        if r3 then (
         (m18 bf.cites bi.cites).bind fun r4 =>
         if r4 then (
          if (bf.errata.length:Int)≠(bi.errata.length:Int) then (
           some true)
          else
          if (bf.hides.length:Int)≠(bi.hides.length:Int) then (
           some true)
          else
          some (decide (bf.results≠bi.results)))
         else
         some true)
        else
        some true)
       else
       some true)
      else
      some true)
     else
     some true)
    else
    some true)
   else
   some true)
  else
  some true
 ):Option (Bool)).bind fun t142 =>
 if t142 then (
  some false)
 else
 (bG (zJ bf bi) 0).bind fun eA1=>match eA1 with
 | .inr z=>some z
 | .inl t0 =>
 (bG (zK bf bi) 0).bind fun eB1=>match eB1 with
 | .inr z=>some z
 | .inl t1 =>
 some true
def PS (r0:cU×List Int×Int) (s1:Nat):Option ((Nat)⊕((Unit)⊕Bool)) :=
 if (s1:Int) < (r0.2.1.length:Int) then (
  (r0.2.1[s1]?).bind fun x0 =>
  if x0≠0 then (
   some (.inr (.inr false)))
  else
  some (.inl (s1+1)))
 else
 some (.inr (.inl ()))
def m3 (lines:List aF):Option (Bool) :=
 ((
  (m5 lines).bind fun r9 =>
  if r9 then (
   (m6 lines).bind fun r18 =>
   some (!r18))
  else
  some true
 ):Option (Bool)).bind fun t0 =>
 if t0 then (
  (m7).bind fun r30 =>
  some r30)
 else
 (m9 lines).bind fun r2 =>
 (m8 r2).bind fun r0 =>
 (UN lines r0.2.1).bind fun r3 =>
 (m9 r3).bind fun r4 =>
 (m8 r4).bind fun r1 =>
 (HY r2).bind fun r5 =>
 (HY r4).bind fun r8 =>
 ((
  if r0.2.2≠0 then (
   some true)
  else
  if r1.2.2≠0 then (
   some true)
  else
  if r5.2≠0 then (
   some true)
  else
  if r8.2≠0 then (
   some true)
  else
  if (r0.2.1.length:Int)≠(lines.length:Int) then (
   some true)
  else
  if (r1.2.1.length:Int)≠(r3.length:Int) then (
   some true)
  else
  (US r0.1 r1.1).bind fun rA1 =>
  if rA1 then (
   some (decide (r5.1≠r8.1)))
  else
  some true
 ):Option (Bool)).bind fun t1 =>
 if t1 then (
  some false)
 else
 (bG (PS r1) 0).bind fun e171=>match e171 with
 | .inr z=>some z
 | .inl t2 =>
 (m7).bind fun rB1 =>
 some rB1
end
end T12
namespace T12
open Go.Proofs
abbrev C10:=@Tryz.call10
abbrev UT:=@Tryz.call100
abbrev aAh:=@Tryz.call101
abbrev aAi:=@Tryz.call103
abbrev aAj:=@Tryz.call104
abbrev iZ:=@Tryz.call105
abbrev AY:=@Tryz.call106
abbrev aAk:=@Tryz.call107
abbrev aAl:=@Tryz.call108
abbrev UU:=@Tryz.call109
abbrev C11:=@Tryz.call11
abbrev aAm:=@Tryz.call110
abbrev KS:=@Tryz.call111
abbrev GF:=@Tryz.call112
abbrev GG:=@Tryz.call113
abbrev GH:=@Tryz.call114
abbrev aAn:=@Tryz.call115
abbrev aAo:=@Tryz.call116
abbrev aAp:=@Tryz.call117
abbrev UV:=@Tryz.call118
abbrev PT:=@Tryz.call119
abbrev C12:=@Tryz.call12
abbrev aAq:=@Tryz.call120
abbrev UW:=@Tryz.call121
abbrev aAr:=@Tryz.call125
abbrev aAs:=@Tryz.call129
abbrev C13:=@Tryz.call13
abbrev aAt:=@Tryz.call130
abbrev aAu:=@Tryz.call131
abbrev aAv:=@Tryz.call132
abbrev aAw:=@Tryz.call133
abbrev UX:=@Tryz.call134
abbrev KT:=@Tryz.call135
abbrev PU:=@Tryz.call136
abbrev PV:=@Tryz.call137
abbrev aAx:=@Tryz.call138
abbrev aAy:=@Tryz.call139
abbrev aAz:=@Tryz.call140
abbrev aA0:=@Tryz.call141
abbrev aA1:=@Tryz.call146
abbrev aA2:=@Tryz.call147
abbrev PW:=@Tryz.call148
abbrev aA3:=@Tryz.call149
abbrev aA4:=@Tryz.call150
abbrev aA5:=@Tryz.call151
abbrev aA6:=@Tryz.call152
abbrev UY:=@Tryz.call153
abbrev aA7:=@Tryz.call156
abbrev aA8:=@Tryz.call157
abbrev aA9:=@Tryz.call158
abbrev aBa:=@Tryz.call159
abbrev C16:=@Tryz.call16
abbrev aBb:=@Tryz.call160
abbrev aBc:=@Tryz.call161
abbrev aBd:=@Tryz.call162
abbrev aBe:=@Tryz.call163
abbrev aBf:=@Tryz.call164
abbrev aBg:=@Tryz.call166
abbrev aBh:=@Tryz.call167
abbrev aBi:=@Tryz.call168
abbrev UZ:=@Tryz.call169
abbrev C17:=@Tryz.call17
abbrev VA:=@Tryz.call170
abbrev VB:=@Tryz.call171
abbrev aBj:=@Tryz.call172
abbrev KU:=@Tryz.call173
abbrev YS:=@Tryz.call18
abbrev aBk:=@Tryz.call181
abbrev aBl:=@Tryz.call182
abbrev VC:=@Tryz.call183
abbrev aBm:=@Tryz.call184
abbrev aBn:=@Tryz.call186
abbrev aBo:=@Tryz.call187
abbrev VD:=@Tryz.call188
abbrev C19:=@Tryz.call19
abbrev VE:=@Tryz.call193
abbrev KV:=@Tryz.call194
abbrev aBq:=@Tryz.call196
abbrev aBr:=@Tryz.call197
abbrev aBs:=@Tryz.call198
abbrev KW:=@Tryz.call199
abbrev C20:=@Tryz.call20
abbrev KX:=@Tryz.call200
abbrev VF:=@Tryz.call201
abbrev aBt:=@Tryz.call202
abbrev aBu:=@Tryz.call203
abbrev aBv:=@Tryz.call204
abbrev GI:=@Tryz.call205
abbrev aBw:=@Tryz.call206
abbrev aBx:=@Tryz.call207
abbrev VG:=@Tryz.call208
abbrev VH:=@Tryz.call209
abbrev AZ:=@Tryz.call21
abbrev aBy:=@Tryz.call210
abbrev aBz:=@Tryz.call211
abbrev aB0:=@Tryz.call212
abbrev VI:=@Tryz.call213
abbrev aB1:=@Tryz.call214
abbrev BA:=@Tryz.call215
abbrev aB2:=@Tryz.call216
abbrev aB3:=@Tryz.call217
abbrev aB4:=@Tryz.call218
abbrev aB5:=@Tryz.call219
abbrev NB:=@Tryz.call22
abbrev aB6:=@Tryz.call220
abbrev aB7:=@Tryz.call221
abbrev aB8:=@Tryz.call222
abbrev VJ:=@Tryz.call223
abbrev VK:=@Tryz.call224
abbrev aB9:=@Tryz.call225
abbrev aCa:=@Tryz.call226
abbrev NC:=@Tryz.call23
abbrev aCb:=@Tryz.call230
abbrev aCc:=@Tryz.call231
abbrev KY:=@Tryz.call24
abbrev KZ:=@Tryz.call242
abbrev VL:=@Tryz.call243
abbrev VM:=@Tryz.call244
abbrev aCd:=@Tryz.call245
abbrev aCe:=@Tryz.call247
abbrev aCf:=@Tryz.call248
abbrev VN:=@Tryz.call249
abbrev C25:=@Tryz.call25
abbrev aCg:=@Tryz.call250
abbrev aCh:=@Tryz.call251
abbrev aCi:=@Tryz.call252
abbrev aCj:=@Tryz.call253
abbrev aCk:=@Tryz.call259
abbrev C26:=@Tryz.call26
abbrev aCl:=@Tryz.call262
abbrev aCm:=@Tryz.call263
abbrev aCn:=@Tryz.call264
abbrev aCo:=@Tryz.call265
abbrev aCp:=@Tryz.call266
abbrev aCq:=@Tryz.call267
abbrev C27:=@Tryz.call27
abbrev aCr:=@Tryz.call277
abbrev aCs:=@Tryz.call278
abbrev aCt:=@Tryz.call279
abbrev C28:=@Tryz.call28
abbrev GJ:=@Tryz.call280
abbrev aCu:=@Tryz.call281
abbrev aCv:=@Tryz.call282
abbrev aCw:=@Tryz.call283
abbrev aCx:=@Tryz.call284
abbrev VO:=@Tryz.call288
abbrev aCy:=@Tryz.call289
abbrev C29:=@Tryz.call29
abbrev aCz:=@Tryz.call290
abbrev C30:=@Tryz.call30
abbrev aC0:=@Tryz.call300
abbrev aC1:=@Tryz.call301
abbrev aC2:=@Tryz.call302
abbrev aC3:=@Tryz.call303
abbrev aC4:=@Tryz.call304
abbrev VP:=@Tryz.call305
abbrev VQ:=@Tryz.call31
abbrev aC5:=@Tryz.call310
abbrev aC6:=@Tryz.call311
abbrev C32:=@Tryz.call32
abbrev C33:=@Tryz.call33
abbrev C35:=@Tryz.call35
abbrev C36:=@Tryz.call36
abbrev C37:=@Tryz.call37
abbrev C38:=@Tryz.call38
abbrev C39:=@Tryz.call39
abbrev ND:=@Tryz.call41
abbrev YT:=@Tryz.call43
abbrev C44:=@Tryz.call44
abbrev C45:=@Tryz.call45
abbrev C46:=@Tryz.call46
abbrev C47:=@Tryz.call47
abbrev C49:=@Tryz.call49
abbrev C5:=@Tryz.call5
abbrev C50:=@Tryz.call50
abbrev eY:=@Tryz.call51
abbrev C52:=@Tryz.call52
abbrev GK:=@Tryz.call55
abbrev C56:=@Tryz.call56
abbrev C6:=@Tryz.call6
abbrev C60:=@Tryz.call60
abbrev C61:=@Tryz.call61
abbrev C62:=@Tryz.call62
abbrev YU:=@Tryz.call63
abbrev C64:=@Tryz.call64
abbrev C65:=@Tryz.call65
abbrev RJ:=@Tryz.call66
abbrev C67:=@Tryz.call67
abbrev C68:=@Tryz.call68
abbrev C7:=@Tryz.call7
abbrev C70:=@Tryz.call70
abbrev C71:=@Tryz.call71
abbrev C72:=@Tryz.call72
abbrev C73:=@Tryz.call73
abbrev C74:=@Tryz.call74
abbrev C75:=@Tryz.call75
abbrev C76:=@Tryz.call76
abbrev C77:=@Tryz.call77
abbrev C78:=@Tryz.call78
abbrev C79:=@Tryz.call79
abbrev C8:=@Tryz.call8
abbrev C80:=@Tryz.call80
abbrev C81:=@Tryz.call81
abbrev C82:=@Tryz.call82
abbrev C83:=@Tryz.call83
abbrev C84:=@Tryz.call84
abbrev C85:=@Tryz.call85
abbrev C86:=@Tryz.call86
abbrev C87:=@Tryz.call87
abbrev C9:=@Tryz.call9
abbrev C93:=@Tryz.call93
abbrev C94:=@Tryz.call94
abbrev C95:=@Tryz.call95
abbrev PX:=@Tryz.call96
abbrev C97:=@Tryz.call97
abbrev C98:=@Tryz.call98
abbrev C99:=@Tryz.call99
abbrev aDg:=@Tryz.isAgg103
abbrev LA:=@Tryz.isAgg104
abbrev VR:=@Tryz.isAgg109
abbrev GL:=@Tryz.isAgg115
abbrev nU:=@Tryz.isAgg117
abbrev lL:=@Tryz.isAgg119
abbrev GM:=@Tryz.isAgg121
abbrev BB:=@Tryz.isAgg123
abbrev aDh:=@Tryz.isAgg129
abbrev aDi:=@Tryz.isAgg146
abbrev BC:=@Tryz.isAgg147
abbrev xQ:=@Tryz.isAgg149
abbrev qA:=@Tryz.isAgg151
abbrev sN:=@Tryz.isAgg154
abbrev BD:=@Tryz.isAgg156
abbrev aDj:=@Tryz.isAgg157
abbrev PY:=@Tryz.isAgg173
abbrev GN:=@Tryz.isAgg200
abbrev aDk:=@Tryz.isAgg212
abbrev VS:=@Tryz.isAgg215
abbrev oY:=@Tryz.isAgg22
abbrev mW:=@Tryz.isAgg233
abbrev xR:=@Tryz.isAgg240
abbrev GO:=@Tryz.isAgg243
abbrev xS:=@Tryz.isAgg25
abbrev xU:=@Tryz.isAgg252
abbrev xV:=@Tryz.isAgg254
abbrev lM:=@Tryz.isAgg27
abbrev xW:=@Tryz.isAgg28
abbrev PZ:=@Tryz.isAgg282
abbrev GP:=@Tryz.isAgg283
abbrev QA:=@Tryz.isAgg284
abbrev QB:=@Tryz.isAgg29
abbrev aDl:=@Tryz.isAgg296
abbrev aDm:=@Tryz.isAgg297
abbrev G3:=@Tryz.isAgg3
abbrev sP:=@Tryz.isAgg30
abbrev nD:=@Tryz.isAgg32
abbrev aDn:=@Tryz.isAgg321
abbrev VT:=@Tryz.isAgg325
abbrev nV:=@Tryz.isAgg33
abbrev G34:=@Tryz.isAgg34
abbrev aDp:=@Tryz.isAgg347
abbrev LB:=@Tryz.isAgg35
abbrev LC:=@Tryz.isAgg36
abbrev nW:=@Tryz.isAgg38
abbrev qB:=@Tryz.isAgg39
abbrev G4:=@Tryz.isAgg4
abbrev VU:=@Tryz.isAgg41
abbrev sQ:=@Tryz.isAgg43
abbrev G5:=@Tryz.isAgg5
abbrev G82:=@Tryz.isAgg82
abbrev NE:=@Tryz.isAgg83
abbrev G9:=@Tryz.isAgg9
abbrev vO:=@Tryz.isAgg91
abbrev G93:=@Tryz.isAgg93
abbrev VV:=@Tryz.sizeOf104
abbrev BE:=@Tryz.sizeOf109
abbrev jQ:=@Tryz.sizeOf115
abbrev fU:=@Tryz.sizeOf117
abbrev fL:=@Tryz.sizeOf119
abbrev qC:=@Tryz.sizeOf121
abbrev nX:=@Tryz.sizeOf123
abbrev aDr:=@Tryz.sizeOf129
abbrev aDs:=@Tryz.sizeOf131
abbrev VW:=@Tryz.sizeOf147
abbrev aDt:=@Tryz.sizeOf149
abbrev nY:=@Tryz.sizeOf151
abbrev qD:=@Tryz.sizeOf154
abbrev jR:=@Tryz.sizeOf156
abbrev QC:=@Tryz.sizeOf173
abbrev QD:=@Tryz.sizeOf175
abbrev LD:=@Tryz.sizeOf200
abbrev qI:=@Tryz.sizeOf22
abbrev GQ:=@Tryz.sizeOf230
abbrev BF:=@Tryz.sizeOf231
abbrev iP:=@Tryz.sizeOf233
abbrev vC:=@Tryz.sizeOf240
abbrev BG:=@Tryz.sizeOf243
abbrev vD:=@Tryz.sizeOf25
abbrev xX:=@Tryz.sizeOf252
abbrev jI:=@Tryz.sizeOf254
abbrev iC:=@Tryz.sizeOf27
abbrev zL:=@Tryz.sizeOf28
abbrev VX:=@Tryz.sizeOf283
abbrev QE:=@Tryz.sizeOf284
abbrev QF:=@Tryz.sizeOf286
abbrev LE:=@Tryz.sizeOf29
abbrev aDu:=@Tryz.sizeOf297
abbrev Z3:=@Tryz.sizeOf3
abbrev qR:=@Tryz.sizeOf30
abbrev jJ:=@Tryz.sizeOf32
abbrev aDv:=@Tryz.sizeOf325
abbrev lY:=@Tryz.sizeOf33
abbrev vE:=@Tryz.sizeOf34
abbrev GR:=@Tryz.sizeOf35
abbrev LF:=@Tryz.sizeOf36
abbrev iE:=@Tryz.sizeOf38
abbrev jT:=@Tryz.sizeOf39
abbrev Z4:=@Tryz.sizeOf4
abbrev eC:=@Tryz.sizeOf41
abbrev zM:=@Tryz.sizeOf43
abbrev Z5:=@Tryz.sizeOf5
abbrev NF:=@Tryz.sizeOf82
abbrev HZ:=@Tryz.sizeOf83
abbrev Z9:=@Tryz.sizeOf9
abbrev mX:=@Tryz.sizeOf91
abbrev VY:=@Tryz.sizeOf93
abbrev LG:=@Tryz.underlying106
abbrev BH:=@Tryz.underlying109
abbrev kX:=@Tryz.underlying115
abbrev nZ:=@Tryz.underlying117
abbrev eH:=@Tryz.underlying119
abbrev qS:=@Tryz.underlying121
abbrev qE:=@Tryz.underlying123
abbrev aDw:=@Tryz.underlying126
abbrev QG:=@Tryz.underlying131
abbrev kJ:=@Tryz.underlying133
abbrev kY:=@Tryz.underlying147
abbrev lZ:=@Tryz.underlying151
abbrev oO:=@Tryz.underlying153
abbrev oA:=@Tryz.underlying154
abbrev oB:=@Tryz.underlying156
abbrev aDx:=@Tryz.underlying162
abbrev QH:=@Tryz.underlying175
abbrev QI:=@Tryz.underlying176
abbrev VZ:=@Tryz.underlying178
abbrev QJ:=@Tryz.underlying209
abbrev jU:=@Tryz.underlying22
abbrev GS:=@Tryz.underlying230
abbrev BI:=@Tryz.underlying231
abbrev iM:=@Tryz.underlying233
abbrev BJ:=@Tryz.underlying240
abbrev jS:=@Tryz.underlying243
abbrev sR:=@Tryz.underlying25
abbrev vF:=@Tryz.underlying250
abbrev mY:=@Tryz.underlying254
abbrev jV:=@Tryz.underlying27
abbrev tA:=@Tryz.underlying28
abbrev QK:=@Tryz.underlying286
abbrev LH:=@Tryz.underlying287
abbrev QL:=@Tryz.underlying29
abbrev sT:=@Tryz.underlying297
abbrev U3:=@Tryz.underlying3
abbrev oZ:=@Tryz.underlying30
abbrev oH:=@Tryz.underlying32
abbrev WA:=@Tryz.underlying320
abbrev eO:=@Tryz.underlying33
abbrev vP:=@Tryz.underlying34
abbrev GT:=@Tryz.underlying35
abbrev BQ:=@Tryz.underlying36
abbrev gC:=@Tryz.underlying38
abbrev jD:=@Tryz.underlying39
abbrev U4:=@Tryz.underlying4
abbrev dM:=@Tryz.underlying41
abbrev LI:=@Tryz.underlying42
abbrev U5:=@Tryz.underlying5
abbrev eJ:=@Tryz.underlying67
abbrev vQ:=@Tryz.underlying70
abbrev U73:=@Tryz.underlying73
abbrev U78:=@Tryz.underlying78
abbrev QM:=@Tryz.underlying82
abbrev tB:=@Tryz.underlying83
abbrev U9:=@Tryz.underlying9
abbrev lP:=@Tryz.underlying91
end T12
