/-
  The types and models of the functions of a session,printed by a program of ours;contracts of library functions.
-/
import Derived.Shelf.Strings.Cut
import Derived.Shelf.Strings.Search3
import Derived.Shelf.Strings.Prefix
import Derived.Shelf.Strings.Runes
import Derived.Shelf.Strings.OnBuilder
import Derived.Shelf.Strings.FieldsFuncAny
import Derived.Shelf.Strings.BuilderF
import Derived.Shelf.Small.Strs
import Derived.Shelf.Small.Wraps
import Derived.Shelf.Strconv.AtoiAll
import Derived.Shelf.Strconv.Itoa3
import Derived.Shelf.SlSortCmp.NoneTotal
import Derived.Shelf.LaysM
import Derived.Shelf.LaysC
import Derived.Test.YthooledamhmalaaGreatDoorKitSix
import Derived.Test.YthooledamhmalaaGreatDoorProg
import Derived.Shelf.Spec.SlicesInsert
import Derived.Lib.AppendZerosOnto
import Derived.Laws.NewBlocks
import Derived.Laws.CopyRow
import Derived.Recover
import Derived.Tactics
import Derived.Tactics2
set_option linter.all false
set_option maxHeartbeats 4000000
namespace Go.Proofs
open Go.Shelf Go.RowKit
def Tryz.laysC172_ren:Go.Shelf.Ren:=⟨fun | 172=>47 | 244=>73 | 245=>74 | 247=>119 | 279=>120 | 280=>121 | 281=>122 | 282=>123 | 287=>175 | 316=>176 | 171=>48 | 205=>177 | 321=>226 | 322=>227 | 243=>75 | 246=>124 | 283=>178 | 284=>179 | 285=>180 | 286=>181 | 129=>216 | 317=>228 | 318=>229 | 319=>230 | 320=>231 | 337=>265 | 338=>266 | n=>n,fun | 9=>9 | 3=>3 | 75=>88 | 76=>89 | 4=>4 | 5=>5 | 167=>209 | 37=>25 | 0=>0 | 85=>210 | 2=>2 | 168=>212 | 53=>262 | 175=>263 | 46=>138 | 210=>266 | 127=>261 | 145=>303 | 143=>301 | 21=>21 | 171=>268 | 173=>271 | 212=>305 | 51=>216 | 20=>20 | 213=>306 | 232=>342 | 233=>343 | 80=>208 | n=>n,fun | 15=>1 | 16=>2 | 17=>3 | 18=>4 | 19=>5 | n=>n⟩
theorem Tryz.laysC172:Go.Proofs.LaysC.n172 Tryz.prog Tryz.laysC172_ren:={
 mixed:=by kernel_rfl
 f129:=Tryz.func216.trans (congrArg some (by kernel_rfl))
 f171:=Tryz.func48.trans (congrArg some (by kernel_rfl))
 f172:=Tryz.func47.trans (congrArg some (by kernel_rfl))
 f205:=Tryz.func177.trans (congrArg some (by kernel_rfl))
 f243:=Tryz.func75.trans (congrArg some (by kernel_rfl))
 f244:=Tryz.func73.trans (congrArg some (by kernel_rfl))
 f245:=Tryz.func74.trans (congrArg some (by kernel_rfl))
 f246:=Tryz.func124.trans (congrArg some (by kernel_rfl))
 f247:=Tryz.func119.trans (congrArg some (by kernel_rfl))
 f279:=Tryz.func120.trans (congrArg some (by kernel_rfl))
 f280:=Tryz.func121.trans (congrArg some (by kernel_rfl))
 f281:=Tryz.func122.trans (congrArg some (by kernel_rfl))
 f282:=Tryz.func123.trans (congrArg some (by kernel_rfl))
 f283:=Tryz.func178.trans (congrArg some (by kernel_rfl))
 f284:=Tryz.func179.trans (congrArg some (by kernel_rfl))
 f285:=Tryz.func180.trans (congrArg some (by kernel_rfl))
 f286:=Tryz.func181.trans (congrArg some (by kernel_rfl))
 f287:=Tryz.func175.trans (congrArg some (by kernel_rfl))
 f316:=Tryz.func176.trans (congrArg some (by kernel_rfl))
 f317:=Tryz.func228.trans (congrArg some (by kernel_rfl))
 f318:=Tryz.func229.trans (congrArg some (by kernel_rfl))
 f319:=Tryz.func230.trans (congrArg some (by kernel_rfl))
 f320:=Tryz.func231.trans (congrArg some (by kernel_rfl))
 f321:=Tryz.func226.trans (congrArg some (by kernel_rfl))
 f322:=Tryz.func227.trans (congrArg some (by kernel_rfl))
 f337:=Tryz.func265.trans (congrArg some (by kernel_rfl))
 f338:=Tryz.func266.trans (congrArg some (by kernel_rfl))
 t0:=Tryz.underlying0
 a0:=Tryz.isAgg0
 z0:=Tryz.sizeOf0
 v0:=Tryz.zeroValue0
 t2:=Tryz.underlying2
 a2:=Tryz.isAgg2
 z2:=Tryz.sizeOf2
 v2:=Tryz.zeroValue2
 t3:=Tryz.underlying3
 a3:=Tryz.isAgg3
 z3:=Tryz.sizeOf3
 v3:=Tryz.zeroValue3
 t4:=Tryz.underlying4
 a4:=Tryz.isAgg4
 z4:=Tryz.sizeOf4
 v4:=Tryz.zeroValue4
 t5:=Tryz.underlying5
 a5:=Tryz.isAgg5
 z5:=Tryz.sizeOf5
 v5:=Tryz.zeroValue5
 t9:=Tryz.underlying9
 a9:=Tryz.isAgg9
 z9:=Tryz.sizeOf9
 v9:=Tryz.zeroValue9
 t20:=Tryz.underlying20
 a20:=Tryz.isAgg20
 z20:=Tryz.sizeOf20
 v20:=Tryz.zeroValue20
 t21:=Tryz.underlying21
 a21:=Tryz.isAgg21
 z21:=Tryz.sizeOf21
 v21:=Tryz.zeroValue21
 t37:=Tryz.underlying25
 a37:=Tryz.isAgg25
 z37:=Tryz.sizeOf25
 v37:=Tryz.zeroValue25
 t46:=Tryz.underlying138
 a46:=Tryz.isAgg138
 z46:=Tryz.sizeOf138
 v46:=Tryz.zeroValue138
 t51:=Tryz.underlying216
 a51:=Tryz.isAgg216
 z51:=Tryz.sizeOf216
 v51:=Tryz.zeroValue216
 t53:=Tryz.underlying262
 a53:=Tryz.isAgg262
 z53:=Tryz.sizeOf262
 v53:=Tryz.zeroValue262
 t75:=Tryz.underlying88
 a75:=Tryz.isAgg88
 z75:=Tryz.sizeOf88
 v75:=Tryz.zeroValue88
 t76:=Tryz.underlying89
 a76:=Tryz.isAgg89
 z76:=Tryz.sizeOf89
 v76:=Tryz.zeroValue89
 t85:=Tryz.underlying210
 a85:=Tryz.isAgg210
 z85:=Tryz.sizeOf210
 v85:=Tryz.zeroValue210
 t127:=Tryz.underlying261
 a127:=Tryz.isAgg261
 z127:=Tryz.sizeOf261
 v127:=Tryz.zeroValue261
 t143:=Tryz.underlying301
 a143:=Tryz.isAgg301
 z143:=Tryz.sizeOf301
 v143:=Tryz.zeroValue301
 t145:=Tryz.underlying303
 a145:=Tryz.isAgg303
 z145:=Tryz.sizeOf303
 v145:=Tryz.zeroValue303
 t167:=Tryz.underlying209
 a167:=Tryz.isAgg209
 z167:=Tryz.sizeOf209
 v167:=Tryz.zeroValue209
 t168:=Tryz.underlying212
 a168:=Tryz.isAgg212
 z168:=Tryz.sizeOf212
 v168:=Tryz.zeroValue212
 t171:=Tryz.underlying268
 a171:=Tryz.isAgg268
 z171:=Tryz.sizeOf268
 v171:=Tryz.zeroValue268
 t173:=Tryz.underlying271
 a173:=Tryz.isAgg271
 z173:=Tryz.sizeOf271
 v173:=Tryz.zeroValue271
 t175:=Tryz.underlying263
 a175:=Tryz.isAgg263
 z175:=Tryz.sizeOf263
 v175:=Tryz.zeroValue263
 t210:=Tryz.underlying266
 a210:=Tryz.isAgg266
 z210:=Tryz.sizeOf266
 v210:=Tryz.zeroValue266
 t212:=Tryz.underlying305
 a212:=Tryz.isAgg305
 z212:=Tryz.sizeOf305
 v212:=Tryz.zeroValue305
 t213:=Tryz.underlying306
 a213:=Tryz.isAgg306
 z213:=Tryz.sizeOf306
 t232:=Tryz.underlying342
 a232:=Tryz.isAgg342
 z232:=Tryz.sizeOf342
 v232:=Tryz.zeroValue342
 t233:=Tryz.underlying343
 a233:=Tryz.isAgg343
 z233:=Tryz.sizeOf343
 v233:=Tryz.zeroValue343
 g15:=by kernel_rfl
 g16:=by kernel_rfl
 g17:=by kernel_rfl
 g18:=by kernel_rfl
 g19:=by kernel_rfl
 t80:=Tryz.underlying208
 a80:=Tryz.isAgg208
 z80:=Tryz.sizeOf208
 v80:=Tryz.zeroValue208
 i0:=by kernel_rfl
 i2:=by kernel_rfl
 i3:=by kernel_rfl
 i4:=by kernel_rfl
 i5:=by kernel_rfl
 i9:=by kernel_rfl
 i20:=by kernel_rfl
 i21:=by kernel_rfl
 i37:=by kernel_rfl
 i46:=by kernel_rfl
 i51:=by kernel_rfl
 i53:=by kernel_rfl
 i75:=by kernel_rfl
 i76:=by kernel_rfl
 i80:=by kernel_rfl
 i85:=by kernel_rfl
 i127:=by kernel_rfl
 i143:=by kernel_rfl
 i145:=by kernel_rfl
 i167:=by kernel_rfl
 i168:=by kernel_rfl
 i171:=by kernel_rfl
 i173:=by kernel_rfl
 i175:=by kernel_rfl
 i210:=by kernel_rfl
 i212:=by kernel_rfl
 i232:=by kernel_rfl
 i233:=by kernel_rfl
 m15:=by kernel_rfl
 m16:=by kernel_rfl
 m17:=by kernel_rfl
 m18:=by kernel_rfl
 m19:=by kernel_rfl
 c0:=by kernel_rfl
 c2:=by kernel_rfl
 c3:=by kernel_rfl
 c4:=by kernel_rfl
 c5:=by kernel_rfl
 c9:=by kernel_rfl
 c20:=by kernel_rfl
 c21:=by kernel_rfl
 c37:=by kernel_rfl
 c46:=by kernel_rfl
 c51:=by kernel_rfl
 c53:=by kernel_rfl
 c75:=by kernel_rfl
 c76:=by kernel_rfl
 c80:=by kernel_rfl
 c85:=by kernel_rfl
 c127:=by kernel_rfl
 c143:=by kernel_rfl
 c145:=by kernel_rfl
 c167:=by kernel_rfl
 c168:=by kernel_rfl
 c171:=by kernel_rfl
 c173:=by kernel_rfl
 c175:=by kernel_rfl
 c210:=by kernel_rfl
 c212:=by kernel_rfl
 c213:=by kernel_rfl
 c232:=by kernel_rfl
 c233:=by kernel_rfl }
def Tryz.laysM171_ren:Go.Shelf.Ren:=⟨fun | 171=>48 | 243=>75 | 246=>124 | 283=>178 | 284=>179 | 285=>180 | 286=>181 | 129=>216 | 317=>228 | 318=>229 | 319=>230 | 320=>231 | 337=>265 | 338=>266 | n=>n,fun | 3=>3 | 9=>9 | 2=>2 | 4=>4 | 171=>268 | 0=>0 | 53=>262 | 37=>25 | 5=>5 | 173=>271 | 212=>305 | 51=>216 | 20=>20 | 213=>306 | 46=>138 | 232=>342 | 233=>343 | n=>n,fun | 17=>3 | 18=>4 | 19=>5 | n=>n⟩
theorem Tryz.laysM171:Go.Proofs.LaysM.n171 Tryz.prog Tryz.laysM171_ren:={
 mixed:=by kernel_rfl
 f129:=Tryz.func216.trans (congrArg some (by kernel_rfl))
 f171:=Tryz.func48.trans (congrArg some (by kernel_rfl))
 f243:=Tryz.func75.trans (congrArg some (by kernel_rfl))
 f246:=Tryz.func124.trans (congrArg some (by kernel_rfl))
 f283:=Tryz.func178.trans (congrArg some (by kernel_rfl))
 f284:=Tryz.func179.trans (congrArg some (by kernel_rfl))
 f285:=Tryz.func180.trans (congrArg some (by kernel_rfl))
 f286:=Tryz.func181.trans (congrArg some (by kernel_rfl))
 f317:=Tryz.func228.trans (congrArg some (by kernel_rfl))
 f318:=Tryz.func229.trans (congrArg some (by kernel_rfl))
 f319:=Tryz.func230.trans (congrArg some (by kernel_rfl))
 f320:=Tryz.func231.trans (congrArg some (by kernel_rfl))
 f337:=Tryz.func265.trans (congrArg some (by kernel_rfl))
 f338:=Tryz.func266.trans (congrArg some (by kernel_rfl))
 t0:=Tryz.underlying0
 a0:=Tryz.isAgg0
 z0:=Tryz.sizeOf0
 v0:=Tryz.zeroValue0
 t2:=Tryz.underlying2
 a2:=Tryz.isAgg2
 z2:=Tryz.sizeOf2
 v2:=Tryz.zeroValue2
 t3:=Tryz.underlying3
 a3:=Tryz.isAgg3
 z3:=Tryz.sizeOf3
 v3:=Tryz.zeroValue3
 t4:=Tryz.underlying4
 a4:=Tryz.isAgg4
 z4:=Tryz.sizeOf4
 v4:=Tryz.zeroValue4
 t5:=Tryz.underlying5
 a5:=Tryz.isAgg5
 z5:=Tryz.sizeOf5
 v5:=Tryz.zeroValue5
 t9:=Tryz.underlying9
 a9:=Tryz.isAgg9
 z9:=Tryz.sizeOf9
 v9:=Tryz.zeroValue9
 t20:=Tryz.underlying20
 a20:=Tryz.isAgg20
 z20:=Tryz.sizeOf20
 v20:=Tryz.zeroValue20
 t37:=Tryz.underlying25
 a37:=Tryz.isAgg25
 z37:=Tryz.sizeOf25
 v37:=Tryz.zeroValue25
 t46:=Tryz.underlying138
 a46:=Tryz.isAgg138
 z46:=Tryz.sizeOf138
 v46:=Tryz.zeroValue138
 t51:=Tryz.underlying216
 a51:=Tryz.isAgg216
 z51:=Tryz.sizeOf216
 v51:=Tryz.zeroValue216
 t53:=Tryz.underlying262
 a53:=Tryz.isAgg262
 z53:=Tryz.sizeOf262
 v53:=Tryz.zeroValue262
 t171:=Tryz.underlying268
 a171:=Tryz.isAgg268
 z171:=Tryz.sizeOf268
 v171:=Tryz.zeroValue268
 t173:=Tryz.underlying271
 a173:=Tryz.isAgg271
 z173:=Tryz.sizeOf271
 v173:=Tryz.zeroValue271
 t212:=Tryz.underlying305
 a212:=Tryz.isAgg305
 z212:=Tryz.sizeOf305
 v212:=Tryz.zeroValue305
 t213:=Tryz.underlying306
 a213:=Tryz.isAgg306
 z213:=Tryz.sizeOf306
 t232:=Tryz.underlying342
 a232:=Tryz.isAgg342
 z232:=Tryz.sizeOf342
 v232:=Tryz.zeroValue342
 t233:=Tryz.underlying343
 a233:=Tryz.isAgg343
 z233:=Tryz.sizeOf343
 v233:=Tryz.zeroValue343
 g17:=by kernel_rfl
 g18:=by kernel_rfl
 g19:=by kernel_rfl
 i0:=by kernel_rfl
 i2:=by kernel_rfl
 i3:=by kernel_rfl
 i4:=by kernel_rfl
 i5:=by kernel_rfl
 i9:=by kernel_rfl
 i20:=by kernel_rfl
 i37:=by kernel_rfl
 i46:=by kernel_rfl
 i51:=by kernel_rfl
 i53:=by kernel_rfl
 i171:=by kernel_rfl
 i173:=by kernel_rfl
 i212:=by kernel_rfl
 i232:=by kernel_rfl
 i233:=by kernel_rfl
 m17:=by kernel_rfl
 m18:=by kernel_rfl
 m19:=by kernel_rfl }
def Tryz.lays145_ren:Go.Shelf.Ren:=⟨fun | 145=>25 | 220=>29 | 219=>49 | 217=>76 | 225=>77 | 224=>78 | 267=>79 | 266=>125 | 314=>126 | n=>n,fun | 9=>9 | 4=>4 | 59=>75 | 3=>3 | 5=>5 | 46=>138 | 146=>217 | 51=>216 | n=>n,fun | 1=>0 | n=>n⟩
theorem Tryz.lays145:Go.Proofs.Lays.n145 Tryz.prog Tryz.lays145_ren:={
 mixed:=by kernel_rfl
 f145:=Tryz.func25.trans (congrArg some (by kernel_rfl))
 f217:=Tryz.func76.trans (congrArg some (by kernel_rfl))
 f219:=Tryz.func49.trans (congrArg some (by kernel_rfl))
 f220:=Tryz.func29.trans (congrArg some (by kernel_rfl))
 f224:=Tryz.func78.trans (congrArg some (by kernel_rfl))
 f225:=Tryz.func77.trans (congrArg some (by kernel_rfl))
 f266:=Tryz.func125.trans (congrArg some (by kernel_rfl))
 f267:=Tryz.func79.trans (congrArg some (by kernel_rfl))
 f314:=Tryz.func126.trans (congrArg some (by kernel_rfl))
 t3:=Tryz.underlying3
 a3:=Tryz.isAgg3
 z3:=Tryz.sizeOf3
 v3:=Tryz.zeroValue3
 t4:=Tryz.underlying4
 a4:=Tryz.isAgg4
 z4:=Tryz.sizeOf4
 v4:=Tryz.zeroValue4
 t5:=Tryz.underlying5
 a5:=Tryz.isAgg5
 z5:=Tryz.sizeOf5
 v5:=Tryz.zeroValue5
 t9:=Tryz.underlying9
 a9:=Tryz.isAgg9
 z9:=Tryz.sizeOf9
 v9:=Tryz.zeroValue9
 t46:=Tryz.underlying138
 a46:=Tryz.isAgg138
 z46:=Tryz.sizeOf138
 v46:=Tryz.zeroValue138
 t51:=Tryz.underlying216
 a51:=Tryz.isAgg216
 z51:=Tryz.sizeOf216
 v51:=Tryz.zeroValue216
 t59:=Tryz.underlying75
 a59:=Tryz.isAgg75
 z59:=Tryz.sizeOf75
 v59:=Tryz.zeroValue75
 t146:=Tryz.underlying217
 a146:=Tryz.isAgg217
 z146:=Tryz.sizeOf217
 v146:=Tryz.zeroValue217
 g1:=by kernel_rfl }
def Tryz.lays229_ren:Go.Shelf.Ren:=⟨fun | 229=>106 | n=>n,fun | 9=>9 | 40=>189 | 31=>22 | 152=>249 | 3=>3 | 0=>0 | 4=>4 | 21=>21 | 154=>251 | n=>n,fun | n=>n⟩
theorem Tryz.lays229:Go.Proofs.Lays.n229 Tryz.prog Tryz.lays229_ren:={
 mixed:=by kernel_rfl
 f229:=Tryz.func106.trans (congrArg some (by kernel_rfl))
 t0:=Tryz.underlying0
 a0:=Tryz.isAgg0
 z0:=Tryz.sizeOf0
 v0:=Tryz.zeroValue0
 t3:=Tryz.underlying3
 a3:=Tryz.isAgg3
 z3:=Tryz.sizeOf3
 v3:=Tryz.zeroValue3
 t4:=Tryz.underlying4
 a4:=Tryz.isAgg4
 z4:=Tryz.sizeOf4
 v4:=Tryz.zeroValue4
 t9:=Tryz.underlying9
 a9:=Tryz.isAgg9
 z9:=Tryz.sizeOf9
 v9:=Tryz.zeroValue9
 t21:=Tryz.underlying21
 a21:=Tryz.isAgg21
 z21:=Tryz.sizeOf21
 v21:=Tryz.zeroValue21
 t31:=Tryz.underlying22
 a31:=Tryz.isAgg22
 z31:=Tryz.sizeOf22
 v31:=Tryz.zeroValue22
 t40:=Tryz.underlying189
 a40:=Tryz.isAgg189
 z40:=Tryz.sizeOf189
 v40:=Tryz.zeroValue189
 t152:=Tryz.underlying249
 a152:=Tryz.isAgg249
 z152:=Tryz.sizeOf249
 v152:=Tryz.zeroValue249
 t154:=Tryz.underlying251
 a154:=Tryz.isAgg251
 z154:=Tryz.sizeOf251
 v154:=Tryz.zeroValue251 }
def Tryz.laysF189_ren:Go.Shelf.Ren:=⟨fun | 6=>189 | 15=>149 | 14=>236 | 28=>215 | 29=>216 | 20=>268 | 21=>269 | 22=>270 | 23=>271 | 24=>272 | 25=>273 | 26=>274 | 27=>275 | 46=>287 | 47=>250 | 48=>251 | 49=>288 | 50=>289 | 57=>294 | n=>n,fun | 22=>37 | 24=>105 | 25=>276 | 3=>3 | 39=>138 | 0=>0 | 53=>216 | 55=>262 | 4=>4 | 46=>288 | 45=>287 | 50=>117 | 5=>5 | 9=>9 | 66=>317 | 70=>321 | 76=>337 | 77=>338 | n=>n,fun | n=>n⟩
theorem Tryz.laysF189:Go.Proofs.SlLaysF0.n6 Tryz.prog Tryz.laysF189_ren:={
 mixed:=by kernel_rfl
 f6:=⟨Tryz.f189.name,by decide,Tryz.func189.trans (congrArg some (by kernel_rfl))⟩
 f14:=⟨Tryz.f236.name,by decide,Tryz.func236.trans (congrArg some (by kernel_rfl))⟩
 f15:=Tryz.func149.trans (congrArg some (by kernel_rfl))
 f20:=⟨Tryz.f268.name,by decide,Tryz.func268.trans (congrArg some (by kernel_rfl))⟩
 f21:=⟨Tryz.f269.name,by decide,Tryz.func269.trans (congrArg some (by kernel_rfl))⟩
 f22:=⟨Tryz.f270.name,by decide,Tryz.func270.trans (congrArg some (by kernel_rfl))⟩
 f23:=⟨Tryz.f271.name,by decide,Tryz.func271.trans (congrArg some (by kernel_rfl))⟩
 f24:=⟨Tryz.f272.name,by decide,Tryz.func272.trans (congrArg some (by kernel_rfl))⟩
 f25:=⟨Tryz.f273.name,by decide,Tryz.func273.trans (congrArg some (by kernel_rfl))⟩
 f26:=⟨Tryz.f274.name,by decide,Tryz.func274.trans (congrArg some (by kernel_rfl))⟩
 f27:=⟨Tryz.f275.name,by decide,Tryz.func275.trans (congrArg some (by kernel_rfl))⟩
 f28:=Tryz.func215.trans (congrArg some (by kernel_rfl))
 f29:=Tryz.func216.trans (congrArg some (by kernel_rfl))
 f46:=⟨Tryz.f287.name,by decide,Tryz.func287.trans (congrArg some (by kernel_rfl))⟩
 f47:=Tryz.func250.trans (congrArg some (by kernel_rfl))
 f48:=Tryz.func251.trans (congrArg some (by kernel_rfl))
 f49:=⟨Tryz.f288.name,by decide,Tryz.func288.trans (congrArg some (by kernel_rfl))⟩
 f50:=⟨Tryz.f289.name,by decide,Tryz.func289.trans (congrArg some (by kernel_rfl))⟩
 f57:=⟨Tryz.f294.name,by decide,Tryz.func294.trans (congrArg some (by kernel_rfl))⟩
 t0:=Tryz.underlying0
 a0:=Tryz.isAgg0
 z0:=Tryz.sizeOf0
 v0:=Tryz.zeroValue0
 t3:=Tryz.underlying3
 a3:=Tryz.isAgg3
 z3:=Tryz.sizeOf3
 v3:=Tryz.zeroValue3
 t4:=Tryz.underlying4
 a4:=Tryz.isAgg4
 z4:=Tryz.sizeOf4
 v4:=Tryz.zeroValue4
 t5:=Tryz.underlying5
 a5:=Tryz.isAgg5
 z5:=Tryz.sizeOf5
 v5:=Tryz.zeroValue5
 t9:=Tryz.underlying9
 a9:=Tryz.isAgg9
 z9:=Tryz.sizeOf9
 v9:=Tryz.zeroValue9
 t22:=Tryz.underlying37
 a22:=Tryz.isAgg37
 z22:=Tryz.sizeOf37
 v22:=Tryz.zeroValue37
 t25:=Tryz.underlying276
 a25:=Tryz.isAgg276
 z25:=Tryz.sizeOf276
 v25:=Tryz.zeroValue276
 t39:=Tryz.underlying138
 a39:=Tryz.isAgg138
 z39:=Tryz.sizeOf138
 v39:=Tryz.zeroValue138
 t45:=Tryz.underlying287
 a45:=Tryz.isAgg287
 z45:=Tryz.sizeOf287
 v45:=Tryz.zeroValue287
 t46:=Tryz.underlying288
 a46:=Tryz.isAgg288
 z46:=Tryz.sizeOf288
 v46:=Tryz.zeroValue288
 t50:=Tryz.underlying117
 a50:=Tryz.isAgg117
 z50:=Tryz.sizeOf117
 v50:=Tryz.zeroValue117
 t53:=Tryz.underlying216
 a53:=Tryz.isAgg216
 z53:=Tryz.sizeOf216
 v53:=Tryz.zeroValue216
 t55:=Tryz.underlying262
 a55:=Tryz.isAgg262
 z55:=Tryz.sizeOf262
 v55:=Tryz.zeroValue262
 t66:=Tryz.underlying317
 a66:=Tryz.isAgg317
 z66:=Tryz.sizeOf317
 v66:=Tryz.zeroValue317
 t70:=Tryz.underlying321
 a70:=Tryz.isAgg321
 z70:=Tryz.sizeOf321
 v70:=Tryz.zeroValue321
 t76:=Tryz.underlying337
 a76:=Tryz.isAgg337
 z76:=Tryz.sizeOf337
 v76:=Tryz.zeroValue337
 t77:=Tryz.underlying338
 a77:=Tryz.isAgg338
 z77:=Tryz.sizeOf338
 v77:=Tryz.zeroValue338 }
def Tryz.laysF169_ren:Go.Shelf.Ren:=⟨fun | 6=>169 | 15=>149 | 14=>223 | 28=>215 | 29=>216 | 20=>257 | 21=>258 | 22=>259 | 23=>260 | 24=>261 | 25=>262 | 26=>263 | 27=>264 | 46=>284 | 47=>250 | 48=>251 | 49=>285 | 50=>286 | 57=>293 | n=>n,fun | 22=>39 | 24=>130 | 25=>259 | 3=>3 | 39=>138 | 0=>0 | 53=>216 | 55=>262 | 4=>4 | 46=>288 | 45=>287 | 50=>117 | 5=>5 | 9=>9 | 66=>317 | 70=>321 | 76=>337 | 77=>338 | n=>n,fun | n=>n⟩
theorem Tryz.laysF169:Go.Proofs.SlLaysF0.n6 Tryz.prog Tryz.laysF169_ren:={
 mixed:=by kernel_rfl
 f6:=⟨Tryz.f169.name,by decide,Tryz.func169.trans (congrArg some (by kernel_rfl))⟩
 f14:=⟨Tryz.f223.name,by decide,Tryz.func223.trans (congrArg some (by kernel_rfl))⟩
 f15:=Tryz.func149.trans (congrArg some (by kernel_rfl))
 f20:=⟨Tryz.f257.name,by decide,Tryz.func257.trans (congrArg some (by kernel_rfl))⟩
 f21:=⟨Tryz.f258.name,by decide,Tryz.func258.trans (congrArg some (by kernel_rfl))⟩
 f22:=⟨Tryz.f259.name,by decide,Tryz.func259.trans (congrArg some (by kernel_rfl))⟩
 f23:=⟨Tryz.f260.name,by decide,Tryz.func260.trans (congrArg some (by kernel_rfl))⟩
 f24:=⟨Tryz.f261.name,by decide,Tryz.func261.trans (congrArg some (by kernel_rfl))⟩
 f25:=⟨Tryz.f262.name,by decide,Tryz.func262.trans (congrArg some (by kernel_rfl))⟩
 f26:=⟨Tryz.f263.name,by decide,Tryz.func263.trans (congrArg some (by kernel_rfl))⟩
 f27:=⟨Tryz.f264.name,by decide,Tryz.func264.trans (congrArg some (by kernel_rfl))⟩
 f28:=Tryz.func215.trans (congrArg some (by kernel_rfl))
 f29:=Tryz.func216.trans (congrArg some (by kernel_rfl))
 f46:=⟨Tryz.f284.name,by decide,Tryz.func284.trans (congrArg some (by kernel_rfl))⟩
 f47:=Tryz.func250.trans (congrArg some (by kernel_rfl))
 f48:=Tryz.func251.trans (congrArg some (by kernel_rfl))
 f49:=⟨Tryz.f285.name,by decide,Tryz.func285.trans (congrArg some (by kernel_rfl))⟩
 f50:=⟨Tryz.f286.name,by decide,Tryz.func286.trans (congrArg some (by kernel_rfl))⟩
 f57:=⟨Tryz.f293.name,by decide,Tryz.func293.trans (congrArg some (by kernel_rfl))⟩
 t0:=Tryz.underlying0
 a0:=Tryz.isAgg0
 z0:=Tryz.sizeOf0
 v0:=Tryz.zeroValue0
 t3:=Tryz.underlying3
 a3:=Tryz.isAgg3
 z3:=Tryz.sizeOf3
 v3:=Tryz.zeroValue3
 t4:=Tryz.underlying4
 a4:=Tryz.isAgg4
 z4:=Tryz.sizeOf4
 v4:=Tryz.zeroValue4
 t5:=Tryz.underlying5
 a5:=Tryz.isAgg5
 z5:=Tryz.sizeOf5
 v5:=Tryz.zeroValue5
 t9:=Tryz.underlying9
 a9:=Tryz.isAgg9
 z9:=Tryz.sizeOf9
 v9:=Tryz.zeroValue9
 t22:=Tryz.underlying39
 a22:=Tryz.isAgg39
 z22:=Tryz.sizeOf39
 v22:=Tryz.zeroValue39
 t25:=Tryz.underlying259
 a25:=Tryz.isAgg259
 z25:=Tryz.sizeOf259
 v25:=Tryz.zeroValue259
 t39:=Tryz.underlying138
 a39:=Tryz.isAgg138
 z39:=Tryz.sizeOf138
 v39:=Tryz.zeroValue138
 t45:=Tryz.underlying287
 a45:=Tryz.isAgg287
 z45:=Tryz.sizeOf287
 v45:=Tryz.zeroValue287
 t46:=Tryz.underlying288
 a46:=Tryz.isAgg288
 z46:=Tryz.sizeOf288
 v46:=Tryz.zeroValue288
 t50:=Tryz.underlying117
 a50:=Tryz.isAgg117
 z50:=Tryz.sizeOf117
 v50:=Tryz.zeroValue117
 t53:=Tryz.underlying216
 a53:=Tryz.isAgg216
 z53:=Tryz.sizeOf216
 v53:=Tryz.zeroValue216
 t55:=Tryz.underlying262
 a55:=Tryz.isAgg262
 z55:=Tryz.sizeOf262
 v55:=Tryz.zeroValue262
 t66:=Tryz.underlying317
 a66:=Tryz.isAgg317
 z66:=Tryz.sizeOf317
 v66:=Tryz.zeroValue317
 t70:=Tryz.underlying321
 a70:=Tryz.isAgg321
 z70:=Tryz.sizeOf321
 v70:=Tryz.zeroValue321
 t76:=Tryz.underlying337
 a76:=Tryz.isAgg337
 z76:=Tryz.sizeOf337
 v76:=Tryz.zeroValue337
 t77:=Tryz.underlying338
 a77:=Tryz.isAgg338
 z77:=Tryz.sizeOf338
 v77:=Tryz.zeroValue338 }
def Tryz.lays169_ren:Go.Shelf.Ren:=⟨fun | 169=>118 | n=>n,fun | 70=>205 | 9=>9 | 0=>0 | 72=>207 | 37=>25 | 127=>261 | 3=>3 | 5=>5 | n=>n,fun | n=>n⟩
theorem Tryz.lays169:Go.Proofs.Lays.n169 Tryz.prog Tryz.lays169_ren:={
 mixed:=by kernel_rfl
 f169:=Tryz.func118.trans (congrArg some (by kernel_rfl))
 t0:=Tryz.underlying0
 a0:=Tryz.isAgg0
 z0:=Tryz.sizeOf0
 v0:=Tryz.zeroValue0
 t3:=Tryz.underlying3
 a3:=Tryz.isAgg3
 z3:=Tryz.sizeOf3
 v3:=Tryz.zeroValue3
 t9:=Tryz.underlying9
 a9:=Tryz.isAgg9
 z9:=Tryz.sizeOf9
 v9:=Tryz.zeroValue9
 t37:=Tryz.underlying25
 a37:=Tryz.isAgg25
 z37:=Tryz.sizeOf25
 v37:=Tryz.zeroValue25
 t70:=Tryz.underlying205
 a70:=Tryz.isAgg205
 z70:=Tryz.sizeOf205
 v70:=Tryz.zeroValue205
 t72:=Tryz.underlying207
 a72:=Tryz.isAgg207
 z72:=Tryz.sizeOf207
 v72:=Tryz.zeroValue207
 t127:=Tryz.underlying261
 a127:=Tryz.isAgg261
 z127:=Tryz.sizeOf261
 v127:=Tryz.zeroValue261 }
theorem Tryz.Builder_Extra_169:Builder.Extra Tryz.prog Tryz.lays169_ren:={
 sizeBuilder:=by kernel_rfl
 liesBuilder:=by kernel_rfl
 t5:=Tryz.underlying5
 a5:=Tryz.isAgg5
 z5:=Tryz.sizeOf5
 v5:=Tryz.zeroValue5
 infoByte:=by kernel_rfl
 cellsByte:=by kernel_rfl
 sizeByte:=by kernel_rfl
 neB5:=by decide }
def Tryz.lays156_ren:Go.Shelf.Ren:=⟨fun | 156=>72 | 165=>116 | 166=>117 | 169=>118 | 240=>173 | 241=>174 | 276=>224 | 277=>225 | n=>n,fun | 31=>22 | 9=>9 | 3=>3 | 4=>4 | 0=>0 | 20=>20 | 72=>207 | 76=>89 | 70=>205 | 37=>25 | 75=>88 | 127=>261 | 164=>297 | 5=>5 | 80=>208 | n=>n,fun | n=>n⟩
theorem Tryz.lays156:Go.Proofs.Lays.n156 Tryz.prog Tryz.lays156_ren:={
 mixed:=by kernel_rfl
 f156:=Tryz.func72.trans (congrArg some (by kernel_rfl))
 f165:=Tryz.func116.trans (congrArg some (by kernel_rfl))
 f166:=Tryz.func117.trans (congrArg some (by kernel_rfl))
 f169:=Tryz.func118.trans (congrArg some (by kernel_rfl))
 f240:=Tryz.func173.trans (congrArg some (by kernel_rfl))
 f241:=Tryz.func174.trans (congrArg some (by kernel_rfl))
 f276:=Tryz.func224.trans (congrArg some (by kernel_rfl))
 f277:=Tryz.func225.trans (congrArg some (by kernel_rfl))
 t0:=Tryz.underlying0
 a0:=Tryz.isAgg0
 z0:=Tryz.sizeOf0
 v0:=Tryz.zeroValue0
 t3:=Tryz.underlying3
 a3:=Tryz.isAgg3
 z3:=Tryz.sizeOf3
 v3:=Tryz.zeroValue3
 t4:=Tryz.underlying4
 a4:=Tryz.isAgg4
 z4:=Tryz.sizeOf4
 v4:=Tryz.zeroValue4
 t9:=Tryz.underlying9
 a9:=Tryz.isAgg9
 z9:=Tryz.sizeOf9
 v9:=Tryz.zeroValue9
 t20:=Tryz.underlying20
 a20:=Tryz.isAgg20
 z20:=Tryz.sizeOf20
 v20:=Tryz.zeroValue20
 t31:=Tryz.underlying22
 a31:=Tryz.isAgg22
 z31:=Tryz.sizeOf22
 v31:=Tryz.zeroValue22
 t37:=Tryz.underlying25
 a37:=Tryz.isAgg25
 z37:=Tryz.sizeOf25
 v37:=Tryz.zeroValue25
 t70:=Tryz.underlying205
 a70:=Tryz.isAgg205
 z70:=Tryz.sizeOf205
 v70:=Tryz.zeroValue205
 t72:=Tryz.underlying207
 a72:=Tryz.isAgg207
 z72:=Tryz.sizeOf207
 v72:=Tryz.zeroValue207
 t75:=Tryz.underlying88
 a75:=Tryz.isAgg88
 z75:=Tryz.sizeOf88
 v75:=Tryz.zeroValue88
 t76:=Tryz.underlying89
 a76:=Tryz.isAgg89
 z76:=Tryz.sizeOf89
 v76:=Tryz.zeroValue89
 t127:=Tryz.underlying261
 a127:=Tryz.isAgg261
 z127:=Tryz.sizeOf261
 v127:=Tryz.zeroValue261
 t164:=Tryz.underlying297
 a164:=Tryz.isAgg297
 z164:=Tryz.sizeOf297
 v164:=Tryz.zeroValue297 }
theorem Tryz.Builder_Extra_156:Builder.Extra Tryz.prog Tryz.lays156_ren:={
 sizeBuilder:=by kernel_rfl
 liesBuilder:=by kernel_rfl
 t5:=Tryz.underlying5
 a5:=Tryz.isAgg5
 z5:=Tryz.sizeOf5
 v5:=Tryz.zeroValue5
 infoByte:=by kernel_rfl
 cellsByte:=by kernel_rfl
 sizeByte:=by kernel_rfl
 neB5:=by decide }
end Go.Proofs
namespace Go.Proofs
open Go Pk Go.RowKit
theorem Tryz.srt189:zO Tryz.prog 189 6 :=
  ⟨fun p cap fv w=>AnyF.slices_SortFunc_none Tryz.laysF189 p cap fv w,
   fun α _ enc hk h1 cf hO g cb blk off cap d w eg hc hH hb hs hT=>AnyQ.slices_SortFunc_total Tryz.laysF189 6 Tryz.isAgg105 Tryz.sizeOf105 enc hk h1 cf hO g cb blk off cap d w eg hc hH hb hs hT⟩
theorem Tryz.srt169:zO Tryz.prog 169 5 :=
  ⟨fun p cap fv w=>AnyF.slices_SortFunc_none Tryz.laysF169 p cap fv w,
   fun α _ enc hk h1 cf hO g cb blk off cap d w eg hc hH hb hs hT=>AnyQ.slices_SortFunc_total Tryz.laysF169 5 Tryz.isAgg130 Tryz.sizeOf130 enc hk h1 cf hO g cb blk off cap d w eg hc hH hb hs hT⟩
theorem Tryz.szB:(Tryz.prog.info? 207).map (·.size)=some 2:=by kernel_rfl
theorem Tryz.liesB:liesAt Tryz.prog Tryz.prog.depth 207 (2/Tryz.prog.cellsOf 207) 0 207 1=true:=by kernel_rfl
theorem Tryz.infoU8:(Tryz.prog.info? 5).map (fun i=>(i.zero,i.size,i.bytes))=some (some (.int .u8 0),1,1):=by kernel_rfl
set_option maxHeartbeats 1000000 in
set_option maxRecDepth 100000 in
theorem Tryz.cc_used (b:Nat) (w:World) (h0:w.cell? ⟨b,0,none⟩=some (.pointer (some ⟨b,0,none⟩))):Calls Tryz.prog 173 #[.pointer (some ⟨b,0,none⟩)] w fun e w'=>e=.returned (.tuple #[])∧w'=w:=by
 obtain ⟨j,hj,_⟩:=Option.map_eq_some_iff.1 Tryz.szB
 go_enter Tryz.func173,Tryz.ntmps173
 go_wp2
 rw [Lib.run_neq_ptr_same w _ Tryz.underlying205 hj]
 go_wp2
 go_end0
 exact ⟨rfl,rfl⟩
set_option maxHeartbeats 1000000 in
set_option maxRecDepth 100000 in
theorem Tryz.cc_new (b:Nat) (w:World) (h0:w.cell? ⟨b,0,none⟩=some (.pointer none)) (hs:w.shape? b=some (207,2)) (hz:w.frozen? ⟨b,0,none⟩=false):Calls Tryz.prog 173 #[.pointer (some ⟨b,0,none⟩)] w fun e w'=>e=.returned (.tuple #[])∧w'=w.setCell ⟨b,0,none⟩ (.pointer (some ⟨b,0,none⟩)):=by
 obtain ⟨j,hj,hjs⟩:=Option.map_eq_some_iff.1 Tryz.szB
 go_enter Tryz.func173,Tryz.ntmps173
 go_wp2
 rw [Lib.run_to_unsafe w ⟨b,0,none⟩ Tryz.underlying205 Tryz.underlying297 hj (by rw [hjs];decide) hs (Nat.zero_lt_succ 1)];simp only [Result.andThen];rw [Oper.upon_value]
 go_wp2
 rw [run_callFunc_extern Tryz.func224 (by kernel_rfl) (by kernel_rfl) (by kernel_rfl) (e:=Extern.AbiNoEscape.same) (by kernel_rfl)];rw [Lib.run_noEscape];simp only [Result.andThen];rw [Oper.upon_value]
 go_wp2
 rw [Lib.run_from_unsafe w ⟨b,0,none⟩ Tryz.underlying297 Tryz.underlying205 hj hs Tryz.liesB];simp only [Result.andThen];rw [Oper.upon_value]
 go_wp2
 go_end0
 exact ⟨rfl,rfl⟩
theorem Tryz.cc_any (B b:Nat) (l:List Value) (w:World) (h:Lib.IsBuilderF 207 5 B b l w):Calls Tryz.prog 173 #[.pointer (some ⟨b,0,none⟩)] w fun e w'=>e=.returned (.tuple #[])∧Lib.BuilderAtF 207 5 B b (.pointer (some ⟨b,0,none⟩)) l w'∧Below B w w':=by
 rcases h with h | h
 ·exact (Tryz.cc_new b w h.cell0 h.shape h.frozen0).mono fun e w' hw=>by
   obtain ⟨rfl,rfl⟩:=hw;exact ⟨rfl,h.used _,(Below.refl B w).setCell (p:=⟨b,0,none⟩) h.1 _⟩
 exact (Tryz.cc_used b w h.cell0).mono fun e w' hw=>by
  obtain ⟨rfl,rfl⟩:=hw;exact ⟨rfl,h,Below.refl B _⟩
set_option maxHeartbeats 2000000 in
set_option maxRecDepth 100000 in
theorem Tryz.bWrite (B b:Nat) (l:List Value) (s:ByteArray) (w:World) (h:Lib.IsBuilderF 207 5 B b l w) (hl:l.length+s.size≤140737488355328) (hB:B≤w.heap.size) :
  Calls Tryz.prog 117 #[.pointer (some ⟨b,0,none⟩),.string s] w fun e w'=>e=.returned (.tuple #[.int .i64 s.size,.nilIface])∧Lib.BuilderAtF 207 5 B b (.pointer (some ⟨b,0,none⟩)) (l++Lib.strCells s) w'∧Below B w w':=by
 obtain ⟨i0,hi,hz0,hz1,hz2⟩:=info_parts Tryz.infoU8;have eA1:∀ args w,(callFunc 173 args).run Tryz.prog w=.ok (.enter 173 args) w:=enters_of Tryz.func173 (by kernel_rfl) rfl
 go_enter Tryz.func117,Tryz.ntmps117
 go_wp2_with (go_at_fn 173;refine (Tryz.cc_any B b l _ h).mono ?_)
 rintro e w1 ⟨rfl,⟨hBb,v,hbk,hown,hne⟩,hb1⟩;have c0:w1.cell? ⟨b,0,none⟩=some (.pointer (some ⟨b,0,none⟩)):=by rw [Lib.cell_of_heap hbk];rfl
 have c1:w1.cell? ⟨b,1,none⟩=some v:=by rw [Lib.cell_of_heap hbk];rfl
 go_wp2_with (at_builtin;refine Lib.wpList_append_own_stringF _ rfl _ _ 25 9 rfl B 5 i0 Tryz.underlying25 Tryz.underlying9 hi hz0 hz1 hz2 _ _ _ rfl hown s rfl ?c3 ?c4 ?c5 ?_)
 case c3=>unfold maxLen;omega
 case c4=>omega
 case c5=>have:=hb1.size;omega
 intro v' w2 hown' hgrow _;have hlt:b < w1.heap.size:=(Array.getElem?_eq_some_iff.1 hbk).1;have hb2:w2.heap[b]?=some (.cells #[.pointer (some ⟨b,0,none⟩),v] 207 (0,0)):=by
  rw [hgrow.block b hlt (fun e=>hne e.symm)];exact hbk
 have d0:w2.cell? ⟨b,0,none⟩=some (.pointer (some ⟨b,0,none⟩)):=by rw [Lib.cell_of_heap hb2];rfl
 have d1:w2.cell? ⟨b,1,none⟩=some v:=by rw [Lib.cell_of_heap hb2];rfl
 have f1:w2.frozen? ⟨b,1,none⟩=false:=Lib.frozen_of_heap hb2 1;obtain ⟨ao,n',cap,rfl⟩:∃ ao n' cap,v'=.slice ao n' cap:=by
  rcases hown'.2 with ⟨hv,_⟩ | ⟨g,cap,cur,fz,hv,_⟩
  ·exact ⟨_,_,_,hv⟩
  exact ⟨_,_,_,hv⟩
 go_wp2
 go_ret2
 exact ⟨rfl,Lib.BuilderAtF.put (T:=207) (e:=5) hBb hb2 (bs':=l++Lib.strCells s) (by simpa [Lib.strCells_length] using hown') (by decide),(hb1.grown hgrow (by have:=hb1.size;omega) (fun k hk=>(hown.lt k hk).1)).setCell (p:=⟨b,1,none⟩) hBb _⟩
end Go.Proofs
set_option maxHeartbeats 4000000
namespace T12
open Go Go.Proofs Pk Go.RowKit
structure Gv (M:Prop) (H:Hp):Prop where
 gl:Gl M 1 2 3 H
 mx:∃ m,aN H ⟨0,0,none⟩ [.int .i64 m]
theorem Gv.mono {M:Prop} {H K:Hp} (h:Gv M H) (hk:H.le K):Gv M K:=⟨h.gl.mono hk,h.mx.imp fun _ hm=>hm.mono hk⟩
noncomputable def OZ (s:aE):Option (Int×Bool):=BJ s
noncomputable def PA (n:Int):Option aE:=BK n
noncomputable def NF (s t:aE):Option (aE×aE×Bool):=bZ (s.length≤1073741824) (some (Lib.cut s t))
theorem NG (s:aE):(bs s).data.toList=s:=by simp [bs]
theorem w47 {M:Prop} {W:World} {H:Hp} (hH:H.le (hp W)) (hg:Gv M H) (s:aE) {r:Int×Bool} (hr:OZ s=some r):Calls Tryz.prog 47 [.string (bs s)].toArray W (eF M H W (fun v K=>∃ (er1:Value),v=.tuple [.int .i64 r.1,er1].toArray∧Er er1 r.2)):=by
 unfold OZ BJ at hr;obtain ⟨hl,hr⟩:=aD hr;obtain rfl:=Option.some.inj hr;have hz:(bs s).size=s.length:=eW s;obtain ⟨e0,h0,i0⟩:=hg.gl.syn;obtain ⟨e1,h1,i1⟩:=hg.gl.rng
 cases h:Lib.atoiAll s with
 | ok v =>
  refine (Any.strconv_Atoi_ok Tryz.laysC172 (bs s) (by omega) v (by rw [NG];exact h) W).mono ?_;rintro e w' ⟨rfl,hw⟩;refine ⟨⟨_,by simp [mJ,h],.inl ⟨by simp [mJ,h],rfl⟩⟩,?_⟩;rcases hw with rfl | ⟨t,rfl⟩
  ·exact fS.refl _ _
  exact fS.of_below hg.gl.nq (Lib.bytesWorld_below _ _ _)
 | range =>
  refine (Any.strconv_Atoi_range Tryz.laysC172 (bs s) (by omega) (by rw [NG];exact h) e1 W (oU hH h1) i1).mono ?_;rintro e w' ⟨N,rfl,_,_,hb⟩;have hr1:mJ s=(Lib.atoiSat s,true):=by simp [mJ,h]
  rw [hr1,NG];exact ⟨⟨_,rfl,.inr ⟨rfl,_,_,rfl⟩⟩,fS.of_below hg.gl.nq hb⟩
 | _ =>
  refine (Any.strconv_Atoi_syntax Tryz.laysC172 (bs s) (by omega) (by rw [NG];exact h) e0 W (oU hH h0) i0).mono ?_;rintro e w' ⟨N,rfl,_,_,hb⟩;have hr1:mJ s=(0,true):=by simp [mJ,h]
  rw [hr1];exact ⟨⟨_,rfl,.inr ⟨rfl,_,_,rfl⟩⟩,fS.of_below hg.gl.nq hb⟩
theorem BQ {W:World} {H:Hp} (hH:H.le (hp W)) {M:Prop} (hg:Gv M H) (n:Int) (h1 : -9223372036854775808≤n) (h2:n≤9223372036854775807):Calls Tryz.prog 48 #[.int .i64 n] W fun e w'=>e=.returned (.string (bs (Lib.itoa n)))∧∃ k os,w'=Sort.grow (W.drewN k) os:=by
 refine (Any.strconv_Itoa Tryz.laysM171 n h1 h2 W (uQ (by kernel_rfl) hH hg.gl.tab)).mono ?_;rintro e w' ⟨rfl,k,os,rfl⟩;exact ⟨rfl,k,os,rfl⟩
theorem qL (M:Prop) (W:World) (k:Nat) (os:Array Obj):fS M W (Sort.grow (W.drewN k) os) :=
 ⟨rfl,rfl,rfl,(by show W.heap.size≤(W.heap++os).size;rw [Array.size_append];omega),fun b hb=>Array.getElem?_append_left hb,fun _=>Nat.le_add_right _ _⟩
theorem w48 {M:Prop} {W:World} {H:Hp} (hH:H.le (hp W)) (hg:Gv M H) (n:Int) {r:aE} (hr:PA n=some r):Calls Tryz.prog 48 [.int .i64 n].toArray W (bL M W (.string (bs r))):=by
 unfold PA BK at hr;obtain ⟨hl,hr⟩:=aD hr;obtain rfl:=Option.some.inj hr;refine (BQ hH hg n hl.1 hl.2).mono ?_;rintro e w' ⟨rfl,k,os,rfl⟩;exact ⟨rfl,qL M W k os⟩
theorem ZL {M:Prop} {W:World} {H:Hp} (hH:H.le (hp W)) (hg:Gv M H) (s t:aE) {r:aE×aE×Bool} (hr:NF s t=some r):Calls Tryz.prog 25 [.string (bs s),.string (bs t)].toArray W (bL M W (.tuple [.string (bs r.1),.string (bs r.2.1),.bool r.2.2].toArray)):=by
 unfold NF at hr;obtain ⟨hl,hr⟩:=aD hr;obtain rfl:=Option.some.inj hr;obtain ⟨m,hm⟩:=hg.mx;refine (Any.strings_Cut Tryz.lays145 (bs s) (bs t) m W (by rw [eW];omega) (oU hH hm)).mono ?_;rintro e w' ⟨rfl,k,rfl⟩;refine ⟨by simp [bs],?_⟩;exact ⟨rfl,rfl,rfl,Nat.le_refl _,fun _ _=>rfl,fun _=>Nat.le_add_right _ _⟩
noncomputable def PB (l:List aE) (sep:aE):Option aE:=bZ (l.length≤1073741824∧(Lib.join l sep).length≤1073741824) (some (Lib.join l sep))
theorem w72 {M:Prop} {W:World} {H:Hp} (hH:H.le (hp W)) (hg:Gv M H) {ad:Option Addr} {cap:Nat} {l:List aE} (hl:Sl (aB bD) 1 H ad cap l) (sep:aE) {r:aE} (hr:PB l sep=some r):Calls Tryz.prog 72 [.slice ad l.length cap,.string (bs sep)].toArray W (bL M W (.string (bs r))):=by
 unfold PB at hr;obtain ⟨hb,hr⟩:=aD hr;obtain rfl:=Option.some.inj hr;have hx:(l.map bs).map (·.data.toList)=l:=by
  rw [List.map_map]
  conv=>rhs;rw [← List.map_id l]
  exact List.map_congr_left fun x _=>by simp [bs]
 cases l with
 | nil =>
  refine (Any.strings_Join_none Tryz.lays156 Tryz.Builder_Extra_156 ad cap (bs sep) W).mono ?_;rintro e w' ⟨rfl,rfl⟩;exact ⟨by simp [bs,Lib.join_nil],fS.refl _ _⟩
 | cons x l =>
  obtain ⟨p,cs,rfl,hp0,h2,h3,h4⟩:=hl.2 0 x rfl;obtain ⟨b,o,sp⟩:=p;obtain rfl:sp=none:=hp0;have hcell:∀ (j:Nat) y,((x::l).map bs)[j]?=some y→W.cell? ⟨b,o+j,none⟩=some (.string y):=fun j y hy=>by
   rw [List.getElem?_map,Option.map_eq_some_iff] at hy;obtain ⟨z,hz,rfl⟩:=hy;obtain ⟨p,cs,h1,_,_,h3,h4⟩:=hl.2 j z hz;cases h1;have h4:cs=bD z:=h4;subst h4;have:=(h3.mono hH).cell (j:=0) (v:=.string (bs z)) rfl;have e:((⟨b,o,none⟩:Addr).add (j*1)).add 0=⟨b,o+j,none⟩:=by rw [Nat.mul_one,cV (i:=j) rfl];rfl
   rwa [e] at this
  have hlt:b < W.heap.size:=by
   have h4:cs=bD x:=h4;subst h4;obtain ⟨c,ty,fz,h5,_⟩:=h3.2 0 (.string (bs x)) rfl;have h6:=hH _ _ h5;rw [Nat.zero_mul,cV rfl] at h6;exact (Array.getElem?_eq_some_iff.1 h6).1
  have hn:((x::l).map bs).length=(x::l).length:=List.length_map _;have:=Any.strings_Join Tryz.lays156 Tryz.Builder_Extra_156 b o cap ((x::l).map bs) (bs sep) W hcell hlt (by rw [hn];omega) (by rw [hn];exact hl.1.1) (by rw [hx,show (bs sep).data.toList=sep by simp [bs]];omega);rw [hx,hn] at this;refine this.mono ?_;rintro e w' ⟨rfl,hw⟩;exact ⟨by simp [bs],fS.of_below hg.gl.nq hw⟩
end T12
set_option maxHeartbeats 4000000
namespace T12
open Go Go.Proofs Pk Go.RowKit
def tA:Any→aE
 | .i n=>Lib.itoa n
 | .s b=>b
def BS:Any→Prop
 | .i n=>-9223372036854775808≤n∧n≤9223372036854775807
 | .s _=>True
instance:(x:Any)→Decidable (BS x)
 | .i _=>inferInstanceAs (Decidable (_∧_))
 | .s _=>inferInstanceAs (Decidable True)
def gB (l:List Any):aE:=l.flatMap tA
noncomputable def PC (l:List Any):Option aE:=bZ ((∀ x∈l,BS x)∧(gB l).length≤1073741824) (some (gB l))
theorem oD {T e:TypeId} {B b:Nat} {p:Value} {l:List Value} {W W':World} (h:Lib.BuilderAtF T e B b p l W) (hb:Below W.heap.size W W'):Lib.BuilderAtF T e B b p l W':=by
 have hlt:=h.lt;obtain ⟨hB,v,hv,hown,hne⟩:=h;exact ⟨hB,v,(hb.block b hlt).trans hv,hown.kept (row:=none) ⟨hb.os,hb.tape,hb.output,hb.size,fun k hk _=>hb.block k hk⟩ (Classical.em _),hne⟩
theorem tB {T e:TypeId} {B b:Nat} {l:List Value} {W W':World} (h:Lib.IsBuilderF T e B b l W) (hb:Below W.heap.size W W'):Lib.IsBuilderF T e B b l W' :=
 h.elim (fun x=>.inl (oD x hb)) (fun x=>.inr (oD x hb))
theorem rK (W:World) (k:Nat) (os:Array Obj):Below W.heap.size W (Sort.grow (W.drewN k) os) :=
 ⟨rfl,rfl,rfl,(by show W.heap.size≤(W.heap++os).size;rw [Array.size_append];omega),fun b hb=>Array.getElem?_append_left hb⟩
theorem rL {l:List Any} {i:Nat} {x:Any} (h:l[i]?=some x):gB (l.take (i+1))=gB (l.take i)++tA x:=by
 unfold gB;rw [List.take_succ,h];simp
theorem vH {l:List Any} (i:Nat):(gB (l.take i)).length≤(gB l).length:=by
 have:gB l=gB (l.take i)++gB (l.drop i):=by unfold gB;rw [← List.flatMap_append,List.take_append_drop]
 rw [this];simp
section
variable {P:Program} {r:Option Nat} {n:aO} {p:List PanicEntry→aO} {a:Act} {w:World} {D:List Deferred} {k:Nat} {L:bV} {ops:Array Oper} {rest:List Oper} {d:Nat} {ty:TypeId} {pos:String} {af:Array Edge}
theorem BT {y:Operand} {xT t:TypeId} {v:Value} {ds:TypeDesc} (hA:aU D k a L) (hd:Nat.blt d k=true) (hu:P.underlying t=some ds) (hds:(match ds with | .interface _=>false | _=>true)=true) (hy:ev L y=some (.iface t v))
  (h:∀ a,aU D k a ((d,.tuple #[v,.bool true])::L)→O P r ops n p rest a w):O P r ops n p (⟨some d,.typeAssert y xT t true,ty,pos,af,none⟩::rest) a w :=
 cH rfl (fun _ h=>by cases h) (w':=w) (v:=.tuple #[v,.bool true]) (by
  simp only [execOp,Instr.typeAssert,hA.eval hy]
  cases ds <;> simp at hds <;> simp [run_underlying hu,Result.andThen]) (h _ (hA.put hd _))
theorem KA {y:Operand} {xT t t':TypeId} {v z:Value} {ds:TypeDesc} (hA:aU D k a L) (hd:Nat.blt d k=true) (hu:P.underlying t=some ds) (hds:(match ds with | .interface _=>false | _=>true)=true) (hz:∀ w,(zeroValue t).run P w=.ok z w) (hne:Nat.beq t' t=false) (hy:ev L y=some (.iface t' v))
  (h:∀ a,aU D k a ((d,.tuple #[z,.bool false])::L)→O P r ops n p rest a w):O P r ops n p (⟨some d,.typeAssert y xT t true,ty,pos,af,none⟩::rest) a w:=by
 have hn:¬t'=t:=DT hne
 exact cH rfl (fun _ h=>by cases h) (w':=w) (v:=.tuple #[z,.bool false]) (by
  simp only [execOp,Instr.typeAssert,hA.eval hy]
  cases ds <;> simp at hds <;> simp [run_underlying hu,Result.andThen,hn,hz]) (h _ (hA.put hd _))
theorem oX {x:Operand} {xs:List Operand} {ats:Array TypeId} {f:FuncId} {vs:List Value} {v:Value} {R:World→Prop} (hA:aU D k a L) (hd:Nat.blt d k=true) (hf:ev L x=some (.func (.func f) #[] #[])) (hxs:kC L xs=some vs)
  (hcall:∀ args w,(callFunc f args).run P w=.ok (.enter f args) w) (hc:Calls P f vs.toArray w fun e w'=>e=.returned v∧R w') (h:∀ w',R w'→∀ a,aU D k a ((d,v)::L)→O P r ops n p rest a w') :
  O P r ops n p (⟨some d,.call ⟨.value x,xs.toArray,ats⟩,ty,pos,af,none⟩::rest) a w:=by
 refine gE rfl (fun _ h=>by cases h) (fN (first:=#[]) (cap:=#[]) hA hf hxs hcall) (by simpa using hc) ?_ ?_ ?_
 ·intro v' w' hv;obtain ⟨e,hR⟩:=hv;cases e;exact h w' hR _ (hA.put hd _)
 ·intro ch w' hv;cases hv.1
 intro w' hv;cases hv.1
end
theorem w87 {M:Prop} {W:World} {H:Hp} (hH:H.le (hp W)) (hg:Gv M H) {ad_p0_:Option Addr} {cap_p0_:Nat} {p0_:List Any} (h_p0_:Sl (aB rH) 1 H ad_p0_ cap_p0_ p0_) {r:aE} (hr:PC p0_=some r):Calls Tryz.prog 87 [.slice ad_p0_ p0_.length cap_p0_].toArray W (bL M W (.string (bs r))):=by
 unfold PC at hr;obtain ⟨⟨hok,hlen⟩,hr⟩:=aD hr;obtain rfl:=Option.some.inj hr;refine enter Tryz.func87 rfl Tryz.ntmps87 rfl ?_;intro a hA;refine fF (cU (eH hA rfl rfl fun a hA=>?_));refine eQ (fF (cU (cH rfl (fun _ h=>by cases h) (w':=W.alloc (.cells #[.pointer none,.slice none 0 0] 207)) (v:=.pointer (some ⟨W.heap.size,0,none⟩)) (by simp [execOp,Instr.alloc,Tryz.zeroValue207,iI,Value.cells]) ?_)));have hA1:=hA.put (d:=3) rfl (.pointer (some ⟨W.heap.size,0,none⟩));have hB1:Lib.IsBuilderF 207 5 W.heap.size W.heap.size (Lib.byteCells (gB (p0_.take 0))) (W.alloc (.cells #[.pointer none,.slice none 0 0] 207)):=(Lib.fresh_isBuilder 207 5 W).elim (fun h=>.inl (.of h)) (fun h=>.inr (.of h));have hW1:Below W.heap.size W (W.alloc (.cells #[.pointer none,.slice none 0 0] 207)):=(Below.refl _ _).alloc (Nat.le_refl _) _;generalize (a.put (some 3) (.pointer (some ⟨W.heap.size,0,none⟩)))=a1 at hA1 ⊢;generalize (W.alloc (.cells #[.pointer none,.slice none 0 0] 207))=w1 at hB1 hW1 ⊢;refine eQ (fF (fF (cU (fC hA1 rfl rfl fun a hA=>BD hA rfl rfl Tryz.underlying225 fun a hA=>fC hA rfl rfl fun a hA=>?_))));refine eQ (kE (uB (fun j a w=>∃ i,i≤p0_.length∧j=p0_.length - i∧aU [] 35 a [(3,.pointer (some ⟨W.heap.size,0,none⟩)),(10,.slice ad_p0_ p0_.length cap_p0_),(11,.int .i64 p0_.length),(12,.int .i64 i)]∧Lib.IsBuilderF 207 5 W.heap.size W.heap.size (Lib.byteCells (gB (p0_.take i))) w∧Below W.heap.size W w) (j:=p0_.length) ⟨0,Nat.zero_le _,rfl,hA.cut ⟨rfl,rfl,rfl,rfl,trivial⟩,hB1,hW1⟩ ?_));rintro j a w ⟨i,hil,rfl,hA,hB,hW⟩;have hll:=h_p0_.len;refine fF (cU (IS hA rfl rfl rfl fun a hA=>eQ (fF (IK hA rfl (fun hc=>tZ ?_) (fun hc=>uA rfl ?_)))))
 ·have hi:i < p0_.length:=by omega
  obtain ⟨x,hx⟩:∃ x,p0_[i]?=some x:=⟨_,List.getElem?_eq_getElem hi⟩;have hxok:=hok x (List.mem_of_getElem? hx);have hHw:H.le (hp w):=hH.trans (fS.of_below hg.gl.nq hW).le;have hlen2:(gB (p0_.take (i+1))).length≤1073741824:=Nat.le_trans (vH _) hlen;have hst:=rL hx;have hcnt:(gB (p0_.take i)).length+(tA x).length≤1073741824:=by rw [hst,List.length_append] at hlen2;exact hlen2
  have hBle:W.heap.size≤w.heap.size:=hW.size;refine fF (kV (n:=fun a w'=>aU [] 35 a [(3,.pointer (some ⟨W.heap.size,0,none⟩)),(10,.slice ad_p0_ p0_.length cap_p0_),(11,.int .i64 p0_.length),(12,.int .i64 i)]∧Lib.BuilderAtF 207 5 W.heap.size W.heap.size (.pointer (some ⟨W.heap.size,0,none⟩)) (Lib.byteCells (gB (p0_.take i))++Lib.strCells (bs (tA x))) w'∧Below W.heap.size W w') ?_ (fun _ _ h=>h) (fun _ K _ _ hK h=>⟨K,hK,h⟩) (fun _ _ _ h=>h) ?_)
  ·rintro a w' ⟨hA,hB,hW⟩;exact cU (BA hA rfl rfl rfl (by omega) (by omega) fun a hA=>fC hA rfl rfl fun a hA=>eQ ⟨p0_.length - (i+1),by omega,i+1,by omega,rfl,hA.cut ⟨rfl,rfl,rfl,by simp [lk],trivial⟩,.inr (by rw [hst];unfold Lib.byteCells at *;rw [List.map_append];exact hB),hW⟩)
  refine kE (fF (cU (OD hA rfl rfl rfl Tryz.underlying225 Tryz.sizeOf20 (h_p0_.mono (aB.mono _) hHw) rfl rfl hx fun q cs hq hcs hf a hA=>rA (v:=JQ x) hA rfl rfl Tryz.isAgg20 hq (by rw [show cs=rH x from hf];rfl) fun a hA=>eH hA rfl rfl fun a hA=>eQ ?_)));clear hf hq hcs
  cases x with
  | i z =>
   refine fF (cU (fC hA rfl rfl fun a hA=>BT hA rfl Tryz.underlying3 rfl rfl fun a hA=>fC hA rfl rfl fun a hA=>kI (vs:=[.int .i64 z,.bool true]) hA rfl rfl rfl fun a hA=>kI (vs:=[.int .i64 z,.bool true]) hA rfl rfl rfl fun a hA=>eH hA rfl rfl fun a hA=>eH hA rfl rfl fun a hA=>eQ ?_));refine fF (cU (fC hA rfl rfl fun a hA=>eQ (hU hA rfl (fun _=>?_) (fun h=>by cases h))));refine cU (fC hA rfl rfl fun a hA=>oX (x:=.func 48) (xs:=[.tmp 22]) hA rfl rfl rfl Tryz.call48 (BQ hHw hg z hxok.1 hxok.2) ?_);rintro w' ⟨k,os,rfl⟩ a hA;have hb:=rK w k os;have hW':=hW.trans (hb.mono hBle);refine oX (x:=.func 117) (xs:=[.tmp 3,.tmp 23]) hA rfl rfl rfl Tryz.call117 (Tryz.bWrite W.heap.size W.heap.size _ (bs (Lib.itoa z)) _ (tB hB hb) ?_ hW'.size) ?_
   ·rw [Lib.byteCells_length,eW];have:(Lib.itoa z).length=(tA (.i z)).length:=rfl;omega
   rintro w' ⟨hB',hW2⟩ a hA;exact eQ ⟨hA.cut ⟨rfl,rfl,rfl,rfl,trivial⟩,hB',hW'.trans hW2⟩
  | s z =>
   refine fF (cU (fC hA rfl rfl fun a hA=>KA hA rfl Tryz.underlying3 rfl Tryz.zeroValue3 rfl rfl fun a hA=>fC hA rfl rfl fun a hA=>kI (vs:=[.int .i64 0,.bool false]) hA rfl rfl rfl fun a hA=>kI (vs:=[.int .i64 0,.bool false]) hA rfl rfl rfl fun a hA=>eH hA rfl rfl fun a hA=>eH hA rfl rfl fun a hA=>eQ ?_));refine fF (cU (fC hA rfl rfl fun a hA=>eQ (hU hA rfl (fun h=>by cases h) (fun _=>?_))));refine fF (cU (fC hA rfl rfl fun a hA=>BT hA rfl Tryz.underlying9 rfl rfl fun a hA=>fC hA rfl rfl fun a hA=>kI (vs:=[.string (bs z),.bool true]) hA rfl rfl rfl fun a hA=>kI (vs:=[.string (bs z),.bool true]) hA rfl rfl rfl fun a hA=>eH hA rfl rfl fun a hA=>eH hA rfl rfl fun a hA=>eQ ?_));refine fF (cU (fC hA rfl rfl fun a hA=>eQ (hU hA rfl (fun _=>?_) (fun h=>by cases h))));refine cU (fC hA rfl rfl fun a hA=>oX (x:=.func 117) (xs:=[.tmp 3,.tmp 31]) hA rfl rfl rfl Tryz.call117 (Tryz.bWrite W.heap.size W.heap.size _ (bs z) _ hB ?_ hBle) ?_)
   ·rw [Lib.byteCells_length,eW];have:z.length=(tA (.s z)).length:=rfl;omega
   rintro w' ⟨hB',hW2⟩ a hA;exact eQ ⟨hA.cut ⟨rfl,rfl,rfl,rfl,trivial⟩,hB',hW.trans hW2⟩
 have hi:i=p0_.length:=by omega
 subst hi;rw [List.take_length] at hB;refine fF (cU (oX (x:=.func 118) (xs:=[.tmp 3]) hA rfl rfl rfl Tryz.call118 (Any.Builder_String_any_f Tryz.lays169 Tryz.Builder_Extra_169 W.heap.size W.heap.size (gB p0_) w hB hW.size) ?_));rintro w' ⟨hB',hW'⟩ a hA;refine eH hA rfl rfl fun a hA=>eQ (AY (bA hA rfl rfl ?_));exact ⟨rfl,fS.of_below hg.gl.nq (hW.trans hW')⟩
end T12
namespace T12
open Go Go.Proofs Pk
theorem J.{u} {α:Sort u} {a:α}:a=a:=rfl
structure aG where
 anchor:Int
 text:aE
 deriving DecidableEq,Inhabited
def aR (x:aG):List Value:=[.int .i64 x.anchor,.string (bs x.text)]
structure dS where
 day:Int
 paragraphs:List aG
 deriving DecidableEq,Inhabited
def bX:Hp→List Value→dS→Prop:=fun H cs x=>∃ (ad0:Option Addr) (cap0:Nat),cs=[.int .i64 x.day,.slice ad0 x.paragraphs.length cap0]∧Sl (aB aR) 2 H ad0 cap0 x.paragraphs
theorem bX.one:lN bX:=fun _ _ _ ⟨_,_,h,_⟩=>by subst h;rfl
theorem bX.mono:gW bX:=fun _ _ _ _ hk ⟨a0,c0,h,f0⟩=>⟨a0,c0,h,f0.mono (aB.mono _) hk⟩
structure cG where
 number:Int
 bound:Int
 height:Int
 width:Int
 parts:List dS
 deriving DecidableEq,Inhabited
def cB:Hp→List Value→cG→Prop:=fun H cs x=>∃ (ad0:Option Addr) (cap0:Nat),cs=[.int .i64 x.number,.int .i64 x.bound,.int .i64 x.height,.int .i64 x.width,.slice ad0 x.parts.length cap0]∧Sl (bX) 2 H ad0 cap0 x.parts
theorem cB.one:lN cB:=fun _ _ _ ⟨_,_,h,_⟩=>by subst h;rfl
theorem cB.mono:gW cB:=fun _ _ _ _ hk ⟨a0,c0,h,f0⟩=>⟨a0,c0,h,f0.mono (bX.mono) hk⟩
structure aT where
 number:Int
 day:Int
 kind:Int
 anchor:Int
 text:aE
 new_:Int
 deriving DecidableEq,Inhabited
def aQ (x:aT):List Value:=[.int .i64 x.number,.int .i64 x.day,.int .u8 x.kind,.int .i64 x.anchor,.string (bs x.text),.int .i64 x.new_]
structure fD where
 anchor:Int
 kind:Int
 until_:Int
 deriving DecidableEq,Inhabited
def dA (x:fD):List Value:=[.int .i64 x.anchor,.int .i64 x.kind,.int .i64 x.until_]
structure aW where
 number:Int
 of:Int
 from_:Int
 to_:Int
 words:List aE
 deriving DecidableEq,Inhabited
def aP:Hp→List Value→aW→Prop:=fun H cs x=>∃ (ad0:Option Addr) (cap0:Nat),cs=[.int .i64 x.number,.int .i64 x.of,.int .i64 x.from_,.int .i64 x.to_,.slice ad0 x.words.length cap0]∧Sl (aB bD) 1 H ad0 cap0 x.words
theorem aP.one:lN aP:=fun _ _ _ ⟨_,_,h,_⟩=>by subst h;rfl
theorem aP.mono:gW aP:=fun _ _ _ _ hk ⟨a0,c0,h,f0⟩=>⟨a0,c0,h,f0.mono (aB.mono _) hk⟩
structure bW where
 words:List aE
 papers:List aW
 deriving DecidableEq,Inhabited
def cC:Hp→List Value→bW→Prop:=fun H cs x=>∃ (ad0:Option Addr) (cap0:Nat) (ad1:Option Addr) (cap1:Nat),cs=[.slice ad0 x.words.length cap0,.slice ad1 x.papers.length cap1]∧Sl (aB bD) 1 H ad0 cap0 x.words∧Sl (aP) 5 H ad1 cap1 x.papers
theorem cC.one:lN cC:=fun _ _ _ ⟨_,_,_,_,h,_⟩=>by subst h;rfl
theorem cC.mono:gW cC:=fun _ _ _ _ hk ⟨a0,c0,a1,c1,h,f0,f1⟩=>⟨a0,c0,a1,c1,h,f0.mono (aB.mono _) hk,f1.mono (aP.mono) hk⟩
structure bU where
 e0:List Int
 e1:List Int
 deriving DecidableEq,Inhabited
def gC:Hp→List Value→bU→Prop:=fun H cs x=>∃ (ad0:Option Addr) (cap0:Nat) (ad1:Option Addr) (cap1:Nat),cs=[.slice ad0 x.e0.length cap0,.slice ad1 x.e1.length cap1]∧Sl (aB (bB .i64)) 1 H ad0 cap0 x.e0∧Sl (aB (bB .i64)) 1 H ad1 cap1 x.e1
theorem gC.one:lN gC:=fun _ _ _ ⟨_,_,_,_,h,_⟩=>by subst h;rfl
theorem gC.mono:gW gC:=fun _ _ _ _ hk ⟨a0,c0,a1,c1,h,f0,f1⟩=>⟨a0,c0,a1,c1,h,f0.mono (aB.mono _) hk,f1.mono (aB.mono _) hk⟩
structure eP where
 a:Int
 b:Int
 deriving DecidableEq,Inhabited
def dC (x:eP):List Value:=[.int .i64 x.a,.int .i64 x.b]
structure dX where
 holder:Int
 for_:Int
 deriving DecidableEq,Inhabited
def dL (x:dX):List Value:=[.int .i64 x.holder,.int .i64 x.for_]
structure aZ where
 members:Int
 ayes:bU
 noes:bU
 pairs:List eP
 proxies:List dX
 rule:Int
 need:Int
 quorum:Int
 tie:Int
 deriving DecidableEq,Inhabited
def bN:Hp→List Value→aZ→Prop:=fun H cs x=>∃ (ad0:Option Addr) (cap0:Nat) (ad1:Option Addr) (cap1:Nat) (oA:Option Addr) (cap2:Nat) (qI:Option Addr) (cap3:Nat) (ad4:Option Addr) (cap4:Nat) (ad5:Option Addr) (cap5:Nat),cs=[.int .i64 x.members,.slice ad0 x.ayes.e0.length cap0,.slice ad1 x.ayes.e1.length cap1,.slice oA x.noes.e0.length cap2,.slice qI x.noes.e1.length cap3,.slice ad4 x.pairs.length cap4,.slice ad5 x.proxies.length cap5,.int .u8 x.rule,.int .i64 x.need,.int .i64 x.quorum,.int .u8 x.tie]∧Sl (aB (bB .i64)) 1 H ad0 cap0 x.ayes.e0∧Sl (aB (bB .i64)) 1 H ad1 cap1 x.ayes.e1∧Sl (aB (bB .i64)) 1 H oA cap2 x.noes.e0∧Sl (aB (bB .i64)) 1 H qI cap3 x.noes.e1∧Sl (aB dC) 2 H ad4 cap4 x.pairs∧Sl (aB dL) 2 H ad5 cap5 x.proxies
theorem bN.one:lN bN:=fun _ _ _ ⟨_,_,_,_,_,_,_,_,_,_,_,_,h,_⟩=>by subst h;rfl
theorem bN.mono:gW bN:=fun _ _ _ _ hk ⟨a0,c0,a1,c1,a2,c2,a3,c3,a4,c4,a5,c5,h,f0,f1,f2,f3,f4,f5⟩=>⟨a0,c0,a1,c1,a2,c2,a3,c3,a4,c4,a5,c5,h,f0.mono (aB.mono _) hk,f1.mono (aB.mono _) hk,f2.mono (aB.mono _) hk,f3.mono (aB.mono _) hk,f4.mono (aB.mono _) hk,f5.mono (aB.mono _) hk⟩
structure dF where
 day:Int
 house:Int
 volume:cG
 bound:Bool
 errata:List aT
 hides:List fD
 cites:List aE
 motion:bW
 moved:Bool
 choice:List Int
 division:aZ
 open_:Bool
 results:List UInt8
 deriving DecidableEq,Inhabited
def mP:Hp→List Value→dF→Prop:=fun H cs x=>∃ (ad0:Option Addr) (cap0:Nat) (ad1:Option Addr) (cap1:Nat) (oA:Option Addr) (cap2:Nat) (qI:Option Addr) (cap3:Nat) (ad4:Option Addr) (cap4:Nat) (ad5:Option Addr) (cap5:Nat) (ad6:Option Addr) (cap6:Nat) (ad7:Option Addr) (cap7:Nat) (ad8:Option Addr) (cap8:Nat) (ad9:Option Addr) (cap9:Nat) (a0:Option Addr) (c0:Nat) (a2:Option Addr) (c1:Nat) (a3:Option Addr) (c2:Nat) (a4:Option Addr) (c3:Nat),cs=[.int .i64 x.day,.int .i64 x.house,.int .i64 x.volume.number,.int .i64 x.volume.bound,.int .i64 x.volume.height,.int .i64 x.volume.width,.slice ad0 x.volume.parts.length cap0,.bool x.bound,.slice ad1 x.errata.length cap1,.slice oA x.hides.length cap2,.slice qI x.cites.length cap3,.slice ad4 x.motion.words.length cap4,.slice ad5 x.motion.papers.length cap5,.bool x.moved,.slice ad6 x.choice.length cap6,.int .i64 x.division.members,.slice ad7 x.division.ayes.e0.length cap7,.slice ad8 x.division.ayes.e1.length cap8,.slice ad9 x.division.noes.e0.length cap9,.slice a0 x.division.noes.e1.length c0,.slice a2 x.division.pairs.length c1,.slice a3 x.division.proxies.length c2,.int .u8 x.division.rule,.int .i64 x.division.need,.int .i64 x.division.quorum,.int .u8 x.division.tie,.bool x.open_,.slice a4 x.results.length c3]∧Sl (bX) 2 H ad0 cap0 x.volume.parts∧Sl (aB aQ) 6 H ad1 cap1 x.errata∧Sl (aB dA) 3 H oA cap2 x.hides∧Sl (aB bD) 1 H qI cap3 x.cites∧Sl (aB bD) 1 H ad4 cap4 x.motion.words∧Sl (aP) 5 H ad5 cap5 x.motion.papers∧Sl (aB (bB .i64)) 1 H ad6 cap6 x.choice∧Sl (aB (bB .i64)) 1 H ad7 cap7 x.division.ayes.e0∧Sl (aB (bB .i64)) 1 H ad8 cap8 x.division.ayes.e1∧Sl (aB (bB .i64)) 1 H ad9 cap9 x.division.noes.e0∧Sl (aB (bB .i64)) 1 H a0 c0 x.division.noes.e1∧Sl (aB dC) 2 H a2 c1 x.division.pairs∧Sl (aB dL) 2 H a3 c2 x.division.proxies∧Sl (aB bM) 1 H a4 c3 x.results
theorem mP.one:lN mP:=fun _ _ _ ⟨_,_,_,_,_,_,_,_,_,_,_,_,_,_,_,_,_,_,_,_,_,_,_,_,_,_,_,_,h,_⟩=>by subst h;rfl
theorem mP.mono:gW mP:=fun _ _ _ _ hk ⟨a0,c0,a1,c1,a2,c2,a3,c3,a4,c4,a5,c5,a6,c6,a7,c7,a8,c8,a9,c9,a10,cR,a11,cS,a12,c12,a13,c13,h,f0,f1,f2,f3,f4,f5,f6,f7,f8,f9,f10,f11,f12,f13⟩=>⟨a0,c0,a1,c1,a2,c2,a3,c3,a4,c4,a5,c5,a6,c6,a7,c7,a8,c8,a9,c9,a10,cR,a11,cS,a12,c12,a13,c13,h,f0.mono (bX.mono) hk,f1.mono (aB.mono _) hk,f2.mono (aB.mono _) hk,f3.mono (aB.mono _) hk,f4.mono (aB.mono _) hk,f5.mono (aP.mono) hk,f6.mono (aB.mono _) hk,f7.mono (aB.mono _) hk,f8.mono (aB.mono _) hk,f9.mono (aB.mono _) hk,f10.mono (aB.mono _) hk,f11.mono (aB.mono _) hk,f12.mono (aB.mono _) hk,f13.mono (aB.mono _) hk⟩
structure aF where
 state:dF
 deriving DecidableEq,Inhabited
def aS:Hp→List Value→aF→Prop:=fun H cs x=>∃ (ad0:Option Addr) (cap0:Nat) (ad1:Option Addr) (cap1:Nat) (oA:Option Addr) (cap2:Nat) (qI:Option Addr) (cap3:Nat) (ad4:Option Addr) (cap4:Nat) (ad5:Option Addr) (cap5:Nat) (ad6:Option Addr) (cap6:Nat) (ad7:Option Addr) (cap7:Nat) (ad8:Option Addr) (cap8:Nat) (ad9:Option Addr) (cap9:Nat) (a0:Option Addr) (c0:Nat) (a2:Option Addr) (c1:Nat) (a3:Option Addr) (c2:Nat) (a4:Option Addr) (c3:Nat),cs=[.int .i64 x.state.day,.int .i64 x.state.house,.int .i64 x.state.volume.number,.int .i64 x.state.volume.bound,.int .i64 x.state.volume.height,.int .i64 x.state.volume.width,.slice ad0 x.state.volume.parts.length cap0,.bool x.state.bound,.slice ad1 x.state.errata.length cap1,.slice oA x.state.hides.length cap2,.slice qI x.state.cites.length cap3,.slice ad4 x.state.motion.words.length cap4,.slice ad5 x.state.motion.papers.length cap5,.bool x.state.moved,.slice ad6 x.state.choice.length cap6,.int .i64 x.state.division.members,.slice ad7 x.state.division.ayes.e0.length cap7,.slice ad8 x.state.division.ayes.e1.length cap8,.slice ad9 x.state.division.noes.e0.length cap9,.slice a0 x.state.division.noes.e1.length c0,.slice a2 x.state.division.pairs.length c1,.slice a3 x.state.division.proxies.length c2,.int .u8 x.state.division.rule,.int .i64 x.state.division.need,.int .i64 x.state.division.quorum,.int .u8 x.state.division.tie,.bool x.state.open_,.slice a4 x.state.results.length c3]∧Sl (bX) 2 H ad0 cap0 x.state.volume.parts∧Sl (aB aQ) 6 H ad1 cap1 x.state.errata∧Sl (aB dA) 3 H oA cap2 x.state.hides∧Sl (aB bD) 1 H qI cap3 x.state.cites∧Sl (aB bD) 1 H ad4 cap4 x.state.motion.words∧Sl (aP) 5 H ad5 cap5 x.state.motion.papers∧Sl (aB (bB .i64)) 1 H ad6 cap6 x.state.choice∧Sl (aB (bB .i64)) 1 H ad7 cap7 x.state.division.ayes.e0∧Sl (aB (bB .i64)) 1 H ad8 cap8 x.state.division.ayes.e1∧Sl (aB (bB .i64)) 1 H ad9 cap9 x.state.division.noes.e0∧Sl (aB (bB .i64)) 1 H a0 c0 x.state.division.noes.e1∧Sl (aB dC) 2 H a2 c1 x.state.division.pairs∧Sl (aB dL) 2 H a3 c2 x.state.division.proxies∧Sl (aB bM) 1 H a4 c3 x.state.results
theorem aS.one:lN aS:=fun _ _ _ ⟨_,_,_,_,_,_,_,_,_,_,_,_,_,_,_,_,_,_,_,_,_,_,_,_,_,_,_,_,h,_⟩=>by subst h;rfl
theorem aS.mono:gW aS:=fun _ _ _ _ hk ⟨a0,c0,a1,c1,a2,c2,a3,c3,a4,c4,a5,c5,a6,c6,a7,c7,a8,c8,a9,c9,a10,cR,a11,cS,a12,c12,a13,c13,h,f0,f1,f2,f3,f4,f5,f6,f7,f8,f9,f10,f11,f12,f13⟩=>⟨a0,c0,a1,c1,a2,c2,a3,c3,a4,c4,a5,c5,a6,c6,a7,c7,a8,c8,a9,c9,a10,cR,a11,cS,a12,c12,a13,c13,h,f0.mono (bX.mono) hk,f1.mono (aB.mono _) hk,f2.mono (aB.mono _) hk,f3.mono (aB.mono _) hk,f4.mono (aB.mono _) hk,f5.mono (aP.mono) hk,f6.mono (aB.mono _) hk,f7.mono (aB.mono _) hk,f8.mono (aB.mono _) hk,f9.mono (aB.mono _) hk,f10.mono (aB.mono _) hk,f11.mono (aB.mono _) hk,f12.mono (aB.mono _) hk,f13.mono (aB.mono _) hk⟩
structure fU where
 paragraph:aG
 removed:Bool
 deriving DecidableEq,Inhabited
def cE (x:fU):List Value:=[.int .i64 x.paragraph.anchor,.string (bs x.paragraph.text),.bool x.removed]
structure gH where
 volume:cG
 parts:List (List fU)
 deriving DecidableEq,Inhabited
def iF:Hp→List Value→gH→Prop:=fun H cs x=>∃ (ad0:Option Addr) (cap0:Nat) (ad1:Option Addr) (cap1:Nat),cs=[.int .i64 x.volume.number,.int .i64 x.volume.bound,.int .i64 x.volume.height,.int .i64 x.volume.width,.slice ad0 x.volume.parts.length cap0,.slice ad1 x.parts.length cap1]∧Sl (bX) 2 H ad0 cap0 x.volume.parts∧Sl (pR (aB cE) 3) 1 H ad1 cap1 x.parts
theorem iF.one:lN iF:=fun _ _ _ ⟨_,_,_,_,h,_⟩=>by subst h;rfl
theorem iF.mono:gW iF:=fun _ _ _ _ hk ⟨a0,c0,a1,c1,h,f0,f1⟩=>⟨a0,c0,a1,c1,h,f0.mono (bX.mono) hk,f1.mono (pR.mono (aB.mono _)) hk⟩
structure kS where
 anchor:Int
 column:Int
 line:Int
 lines:Int
 deriving DecidableEq,Inhabited
structure cM where
 place:kS
 day:Int
 number:Int
 deriving DecidableEq,Inhabited
def dV (x:cM):List Value:=[.int .i64 x.place.anchor,.int .i64 x.place.column,.int .i64 x.place.line,.int .i64 x.place.lines,.int .i64 x.day,.int .i64 x.number]
structure fA where
 ayes:Int
 noes:Int
 deriving DecidableEq,Inhabited
def gQ (x:fA):List Value:=[.int .i64 x.ayes,.int .i64 x.noes]
structure bF where
 e0:Bool
 e1:Bool
 e2:Bool
 e3:Bool
 e4:Bool
 e5:Bool
 e6:Bool
 e7:Bool
 e8:Bool
 e9:Bool
 e10:Bool
 e11:Bool
 e12:Bool
 e13:Bool
 e14:Bool
 e15:Bool
 e16:Bool
 e17:Bool
 e18:Bool
 e19:Bool
 e20:Bool
 e21:Bool
 e22:Bool
 e23:Bool
 e24:Bool
 e25:Bool
 e26:Bool
 e27:Bool
 e28:Bool
 e29:Bool
 e30:Bool
 e31:Bool
 e32:Bool
 e33:Bool
 e34:Bool
 e35:Bool
 e36:Bool
 e37:Bool
 e38:Bool
 e39:Bool
 deriving Inhabited
def aX (x:bF):List Value:=[.bool x.e0,.bool x.e1,.bool x.e2,.bool x.e3,.bool x.e4,.bool x.e5,.bool x.e6,.bool x.e7,.bool x.e8,.bool x.e9,.bool x.e10,.bool x.e11,.bool x.e12,.bool x.e13,.bool x.e14,.bool x.e15,.bool x.e16,.bool x.e17,.bool x.e18,.bool x.e19,.bool x.e20,.bool x.e21,.bool x.e22,.bool x.e23,.bool x.e24,.bool x.e25,.bool x.e26,.bool x.e27,.bool x.e28,.bool x.e29,.bool x.e30,.bool x.e31,.bool x.e32,.bool x.e33,.bool x.e34,.bool x.e35,.bool x.e36,.bool x.e37,.bool x.e38,.bool x.e39]
def bF.vals (x:bF):List Bool:=[x.e0,x.e1,x.e2,x.e3,x.e4,x.e5,x.e6,x.e7,x.e8,x.e9,x.e10,x.e11,x.e12,x.e13,x.e14,x.e15,x.e16,x.e17,x.e18,x.e19,x.e20,x.e21,x.e22,x.e23,x.e24,x.e25,x.e26,x.e27,x.e28,x.e29,x.e30,x.e31,x.e32,x.e33,x.e34,x.e35,x.e36,x.e37,x.e38,x.e39]
def bF.get (x:bF) (j:Nat):Bool:=x.vals.getD j default
def bF.set (x:bF) (j:Nat) (v:Bool):bF:=⟨if j=0 then v else x.e0,if j=1 then v else x.e1,if j=2 then v else x.e2,if j=3 then v else x.e3,if j=4 then v else x.e4,if j=5 then v else x.e5,if j=6 then v else x.e6,if j=7 then v else x.e7,if j=8 then v else x.e8,if j=9 then v else x.e9,if j=10 then v else x.e10,if j=11 then v else x.e11,if j=12 then v else x.e12,if j=13 then v else x.e13,if j=14 then v else x.e14,if j=15 then v else x.e15,if j=16 then v else x.e16,if j=17 then v else x.e17,if j=18 then v else x.e18,if j=19 then v else x.e19,if j=20 then v else x.e20,if j=21 then v else x.e21,if j=22 then v else x.e22,if j=23 then v else x.e23,if j=24 then v else x.e24,if j=25 then v else x.e25,if j=26 then v else x.e26,if j=27 then v else x.e27,if j=28 then v else x.e28,if j=29 then v else x.e29,if j=30 then v else x.e30,if j=31 then v else x.e31,if j=32 then v else x.e32,if j=33 then v else x.e33,if j=34 then v else x.e34,if j=35 then v else x.e35,if j=36 then v else x.e36,if j=37 then v else x.e37,if j=38 then v else x.e38,if j=39 then v else x.e39⟩
def bF.zero:bF:=⟨false,false,false,false,false,false,false,false,false,false,false,false,false,false,false,false,false,false,false,false,false,false,false,false,false,false,false,false,false,false,false,false,false,false,false,false,false,false,false,false⟩
theorem bF.vset (x:bF) (v:Bool):∀ (j:Nat),j < 40→(x.set j v).vals=x.vals.set j v
 | 0,_=>rfl
 | 1,_=>rfl
 | 2,_=>rfl
 | 3,_=>rfl
 | 4,_=>rfl
 | 5,_=>rfl
 | 6,_=>rfl
 | 7,_=>rfl
 | 8,_=>rfl
 | 9,_=>rfl
 | 10,_=>rfl
 | 11,_=>rfl
 | 12,_=>rfl
 | 13,_=>rfl
 | 14,_=>rfl
 | 15,_=>rfl
 | 16,_=>rfl
 | 17,_=>rfl
 | 18,_=>rfl
 | 19,_=>rfl
 | 20,_=>rfl
 | 21,_=>rfl
 | 22,_=>rfl
 | 23,_=>rfl
 | 24,_=>rfl
 | 25,_=>rfl
 | 26,_=>rfl
 | 27,_=>rfl
 | 28,_=>rfl
 | 29,_=>rfl
 | 30,_=>rfl
 | 31,_=>rfl
 | 32,_=>rfl
 | 33,_=>rfl
 | 34,_=>rfl
 | 35,_=>rfl
 | 36,_=>rfl
 | 37,_=>rfl
 | 38,_=>rfl
 | 39,_=>rfl
 | n+40,h=>absurd h (by omega)
theorem bF.em (x:bF):aX x=x.vals.map (fun v=>Value.bool v):=rfl
theorem bF.st {x:bF} {j:Nat} {v:Bool} (h:j < 40):(aX x).set j (Value.bool v)=aX (x.set j v):=by rw [bF.em,bF.em,bF.vset x v j h,List.map_set]
theorem bF.at {x:bF} {j:Nat} (h:j < 40):(aX x)[j]?=some (Value.bool (x.get j)):=by
 have h2:x.vals[j]?=some (x.get j):=by unfold bF.get;rw [List.getD_eq_getElem?_getD,List.getElem?_eq_getElem (show j < x.vals.length from h)];rfl
 rw [bF.em,List.getElem?_map,h2];rfl
structure dO where
 division:aZ
 paired:bF
 may:List (List UInt8)
 deriving Inhabited
def eD:Hp→List Value→dO→Prop:=fun H cs x=>∃ (ad0:Option Addr) (cap0:Nat) (ad1:Option Addr) (cap1:Nat) (oA:Option Addr) (cap2:Nat) (qI:Option Addr) (cap3:Nat) (ad4:Option Addr) (cap4:Nat) (ad5:Option Addr) (cap5:Nat) (hs6:List gK),cs=(eK (eK [.int .i64 x.division.members,.slice ad0 x.division.ayes.e0.length cap0,.slice ad1 x.division.ayes.e1.length cap1,.slice oA x.division.noes.e0.length cap2,.slice qI x.division.noes.e1.length cap3,.slice ad4 x.division.pairs.length cap4,.slice ad5 x.division.proxies.length cap5,.int .u8 x.division.rule,.int .i64 x.division.need,.int .i64 x.division.quorum,.int .u8 x.division.tie] (aX x.paired)) (gP hs6 x.may))∧Sl (aB (bB .i64)) 1 H ad0 cap0 x.division.ayes.e0∧Sl (aB (bB .i64)) 1 H ad1 cap1 x.division.ayes.e1∧Sl (aB (bB .i64)) 1 H oA cap2 x.division.noes.e0∧Sl (aB (bB .i64)) 1 H qI cap3 x.division.noes.e1∧Sl (aB dC) 2 H ad4 cap4 x.division.pairs∧Sl (aB dL) 2 H ad5 cap5 x.division.proxies∧lH (aB bM) 1 40 H hs6 x.may
theorem eD.mono:gW eD:=fun _ _ _ _ hk ⟨a0,c0,a1,c1,a2,c2,a3,c3,a4,c4,a5,c5,s6,h,f0,f1,f2,f3,f4,f5,f6⟩=>⟨a0,c0,a1,c1,a2,c2,a3,c3,a4,c4,a5,c5,s6,h,f0.mono (aB.mono _) hk,f1.mono (aB.mono _) hk,f2.mono (aB.mono _) hk,f3.mono (aB.mono _) hk,f4.mono (aB.mono _) hk,f5.mono (aB.mono _) hk,f6.mono (aB.mono _) hk⟩
structure bJ where
 e0:Int
 e1:Int
 e2:Int
 e3:Int
 e4:Int
 e5:Int
 e6:Int
 e7:Int
 e8:Int
 e9:Int
 e10:Int
 e11:Int
 e12:Int
 e13:Int
 e14:Int
 e15:Int
 e16:Int
 e17:Int
 e18:Int
 e19:Int
 e20:Int
 e21:Int
 e22:Int
 e23:Int
 e24:Int
 e25:Int
 e26:Int
 e27:Int
 e28:Int
 e29:Int
 e30:Int
 e31:Int
 e32:Int
 e33:Int
 e34:Int
 e35:Int
 e36:Int
 e37:Int
 e38:Int
 e39:Int
 deriving Inhabited
def cI (x:bJ):List Value:=[.int .u8 x.e0,.int .u8 x.e1,.int .u8 x.e2,.int .u8 x.e3,.int .u8 x.e4,.int .u8 x.e5,.int .u8 x.e6,.int .u8 x.e7,.int .u8 x.e8,.int .u8 x.e9,.int .u8 x.e10,.int .u8 x.e11,.int .u8 x.e12,.int .u8 x.e13,.int .u8 x.e14,.int .u8 x.e15,.int .u8 x.e16,.int .u8 x.e17,.int .u8 x.e18,.int .u8 x.e19,.int .u8 x.e20,.int .u8 x.e21,.int .u8 x.e22,.int .u8 x.e23,.int .u8 x.e24,.int .u8 x.e25,.int .u8 x.e26,.int .u8 x.e27,.int .u8 x.e28,.int .u8 x.e29,.int .u8 x.e30,.int .u8 x.e31,.int .u8 x.e32,.int .u8 x.e33,.int .u8 x.e34,.int .u8 x.e35,.int .u8 x.e36,.int .u8 x.e37,.int .u8 x.e38,.int .u8 x.e39]
def bJ.vals (x:bJ):List Int:=[x.e0,x.e1,x.e2,x.e3,x.e4,x.e5,x.e6,x.e7,x.e8,x.e9,x.e10,x.e11,x.e12,x.e13,x.e14,x.e15,x.e16,x.e17,x.e18,x.e19,x.e20,x.e21,x.e22,x.e23,x.e24,x.e25,x.e26,x.e27,x.e28,x.e29,x.e30,x.e31,x.e32,x.e33,x.e34,x.e35,x.e36,x.e37,x.e38,x.e39]
def bJ.get (x:bJ) (j:Nat):Int:=x.vals.getD j default
def bJ.set (x:bJ) (j:Nat) (v:Int):bJ:=⟨if j=0 then v else x.e0,if j=1 then v else x.e1,if j=2 then v else x.e2,if j=3 then v else x.e3,if j=4 then v else x.e4,if j=5 then v else x.e5,if j=6 then v else x.e6,if j=7 then v else x.e7,if j=8 then v else x.e8,if j=9 then v else x.e9,if j=10 then v else x.e10,if j=11 then v else x.e11,if j=12 then v else x.e12,if j=13 then v else x.e13,if j=14 then v else x.e14,if j=15 then v else x.e15,if j=16 then v else x.e16,if j=17 then v else x.e17,if j=18 then v else x.e18,if j=19 then v else x.e19,if j=20 then v else x.e20,if j=21 then v else x.e21,if j=22 then v else x.e22,if j=23 then v else x.e23,if j=24 then v else x.e24,if j=25 then v else x.e25,if j=26 then v else x.e26,if j=27 then v else x.e27,if j=28 then v else x.e28,if j=29 then v else x.e29,if j=30 then v else x.e30,if j=31 then v else x.e31,if j=32 then v else x.e32,if j=33 then v else x.e33,if j=34 then v else x.e34,if j=35 then v else x.e35,if j=36 then v else x.e36,if j=37 then v else x.e37,if j=38 then v else x.e38,if j=39 then v else x.e39⟩
def bJ.zero:bJ:=⟨0,0,0,0,0,0,0,0,0,0,0,0,0,0,0,0,0,0,0,0,0,0,0,0,0,0,0,0,0,0,0,0,0,0,0,0,0,0,0,0⟩
theorem bJ.vset (x:bJ) (v:Int):∀ (j:Nat),j < 40→(x.set j v).vals=x.vals.set j v
 | 0,_=>rfl
 | 1,_=>rfl
 | 2,_=>rfl
 | 3,_=>rfl
 | 4,_=>rfl
 | 5,_=>rfl
 | 6,_=>rfl
 | 7,_=>rfl
 | 8,_=>rfl
 | 9,_=>rfl
 | 10,_=>rfl
 | 11,_=>rfl
 | 12,_=>rfl
 | 13,_=>rfl
 | 14,_=>rfl
 | 15,_=>rfl
 | 16,_=>rfl
 | 17,_=>rfl
 | 18,_=>rfl
 | 19,_=>rfl
 | 20,_=>rfl
 | 21,_=>rfl
 | 22,_=>rfl
 | 23,_=>rfl
 | 24,_=>rfl
 | 25,_=>rfl
 | 26,_=>rfl
 | 27,_=>rfl
 | 28,_=>rfl
 | 29,_=>rfl
 | 30,_=>rfl
 | 31,_=>rfl
 | 32,_=>rfl
 | 33,_=>rfl
 | 34,_=>rfl
 | 35,_=>rfl
 | 36,_=>rfl
 | 37,_=>rfl
 | 38,_=>rfl
 | 39,_=>rfl
 | n+40,h=>absurd h (by omega)
theorem bJ.em (x:bJ):cI x=x.vals.map (fun v=>Value.int .u8 v):=rfl
theorem bJ.st {x:bJ} {j:Nat} {v:Int} (h:j < 40):(cI x).set j (Value.int .u8 v)=cI (x.set j v):=by rw [bJ.em,bJ.em,bJ.vset x v j h,List.map_set]
theorem bJ.at {x:bJ} {j:Nat} (h:j < 40):(cI x)[j]?=some (Value.int .u8 (x.get j)):=by
 have h2:x.vals[j]?=some (x.get j):=by unfold bJ.get;rw [List.getD_eq_getElem?_getD,List.getElem?_eq_getElem (show j < x.vals.length from h)];rfl
 rw [bJ.em,List.getElem?_map,h2];rfl
structure bE where
 number:Int
 index:Int
 deriving DecidableEq,Inhabited
def aM (x:bE):List Value:=[.int .i64 x.number,.int .i64 x.index]
structure dR where
 many:Int
 text:Bool
 do_:Option Nat
 deriving DecidableEq,Inhabited
def dJ (x:dR):List Value:=[.int .i64 x.many,.bool x.text,oC x.do_]
structure cK where
 e0:Int
 e1:Int
 e2:Int
 e3:Int
 e4:Int
 e5:Int
 deriving Inhabited
def eM (x:cK):List Value:=[.int .u8 x.e0,.int .u8 x.e1,.int .u8 x.e2,.int .u8 x.e3,.int .u8 x.e4,.int .u8 x.e5]
def cK.vals (x:cK):List Int:=[x.e0,x.e1,x.e2,x.e3,x.e4,x.e5]
def cK.get (x:cK) (j:Nat):Int:=x.vals.getD j default
def cK.set (x:cK) (j:Nat) (v:Int):cK:=⟨if j=0 then v else x.e0,if j=1 then v else x.e1,if j=2 then v else x.e2,if j=3 then v else x.e3,if j=4 then v else x.e4,if j=5 then v else x.e5⟩
def cK.zero:cK:=⟨0,0,0,0,0,0⟩
theorem cK.vset (x:cK) (v:Int):∀ (j:Nat),j < 6→(x.set j v).vals=x.vals.set j v
 | 0,_=>rfl
 | 1,_=>rfl
 | 2,_=>rfl
 | 3,_=>rfl
 | 4,_=>rfl
 | 5,_=>rfl
 | n+6,h=>absurd h (by omega)
theorem cK.em (x:cK):eM x=x.vals.map (fun v=>Value.int .u8 v):=rfl
theorem cK.st {x:cK} {j:Nat} {v:Int} (h:j < 6):(eM x).set j (Value.int .u8 v)=eM (x.set j v):=by rw [cK.em,cK.em,cK.vset x v j h,List.map_set]
theorem cK.at {x:cK} {j:Nat} (h:j < 6):(eM x)[j]?=some (Value.int .u8 (x.get j)):=by
 have h2:x.vals[j]?=some (x.get j):=by unfold cK.get;rw [List.getD_eq_getElem?_getD,List.getElem?_eq_getElem (show j < x.vals.length from h)];rfl
 rw [cK.em,List.getElem?_map,h2];rfl
theorem mixed:Tryz.prog.follows .mixedOrders=true:=by kernel_rfl
theorem B36:cZ Tryz.prog 36 [.int .i64 0,.int .i64 0,.int .i64 0,.int .i64 0,.slice none 0 0] #[(0,1),(1,1),(2,1),(3,1),(4,1)]:=⟨⟨.agg [.int .i64 0,.int .i64 0,.int .i64 0,.int .i64 0,.slice none 0 0].toArray,rfl,Tryz.zeroValue36⟩,⟨_,Tryz.underlying36,fun _=>by kernel_rfl⟩⟩
theorem B41:cZ Tryz.prog 41 [.slice none 0 0,.slice none 0 0] #[(0,1),(1,1)]:=⟨⟨.agg [.slice none 0 0,.slice none 0 0].toArray,rfl,Tryz.zeroValue41⟩,⟨_,Tryz.underlying41,fun _=>by kernel_rfl⟩⟩
theorem B47:cZ Tryz.prog 47 [.int .i64 0,.slice none 0 0,.slice none 0 0,.slice none 0 0,.slice none 0 0,.slice none 0 0,.slice none 0 0,.int .u8 0,.int .i64 0,.int .i64 0,.int .u8 0] #[(0,1),(1,2),(3,2),(5,1),(6,1),(7,1),(8,1),(9,1),(10,1)]:=⟨⟨.agg [.int .i64 0,.slice none 0 0,.slice none 0 0,.slice none 0 0,.slice none 0 0,.slice none 0 0,.slice none 0 0,.int .u8 0,.int .i64 0,.int .i64 0,.int .u8 0].toArray,rfl,Tryz.zeroValue47⟩,⟨_,Tryz.underlying47,fun _=>by kernel_rfl⟩⟩
theorem B63:cZ Tryz.prog 63 [.int .i64 0,.int .i64 0,.int .i64 0,.int .i64 0,.int .i64 0,.int .i64 0,.slice none 0 0,.bool false,.slice none 0 0,.slice none 0 0,.slice none 0 0,.slice none 0 0,.slice none 0 0,.bool false,.slice none 0 0,.int .i64 0,.slice none 0 0,.slice none 0 0,.slice none 0 0,.slice none 0 0,.slice none 0 0,.slice none 0 0,.int .u8 0,.int .i64 0,.int .i64 0,.int .u8 0,.bool false,.slice none 0 0] #[(0,28)]:=⟨⟨.agg [.int .i64 0,.int .i64 0,.int .i64 0,.int .i64 0,.int .i64 0,.int .i64 0,.slice none 0 0,.bool false,.slice none 0 0,.slice none 0 0,.slice none 0 0,.slice none 0 0,.slice none 0 0,.bool false,.slice none 0 0,.int .i64 0,.slice none 0 0,.slice none 0 0,.slice none 0 0,.slice none 0 0,.slice none 0 0,.slice none 0 0,.int .u8 0,.int .i64 0,.int .i64 0,.int .u8 0,.bool false,.slice none 0 0].toArray,rfl,Tryz.zeroValue63⟩,⟨_,Tryz.underlying63,fun _=>by kernel_rfl⟩⟩
theorem B74:cZ Tryz.prog 74 [.int .i64 0] #[(0,1)]:=⟨⟨.agg [.int .i64 0].toArray,rfl,Tryz.zeroValue74⟩,⟨_,Tryz.underlying74,fun _=>by kernel_rfl⟩⟩
theorem B79:cZ Tryz.prog 79 [.int .i64 0,.bool false,.nilFunc] #[(0,1),(1,1),(2,1)]:=⟨⟨.agg [.int .i64 0,.bool false,.nilFunc].toArray,rfl,Tryz.zeroValue79⟩,⟨_,Tryz.underlying79,fun _=>by kernel_rfl⟩⟩
theorem B94:cZ Tryz.prog 94 [.int .i64 0,.string (bs [])] #[(0,1),(1,1)]:=⟨⟨.agg [.int .i64 0,.string (bs [])].toArray,rfl,Tryz.zeroValue94⟩,⟨_,Tryz.underlying94,fun _=>by kernel_rfl⟩⟩
theorem B98:cZ Tryz.prog 98 [.int .i64 0,.slice none 0 0] #[(0,1),(1,1)]:=⟨⟨.agg [.int .i64 0,.slice none 0 0].toArray,rfl,Tryz.zeroValue98⟩,⟨_,Tryz.underlying98,fun _=>by kernel_rfl⟩⟩
theorem B105:cZ Tryz.prog 105 [.int .i64 0,.int .i64 0,.int .u8 0,.int .i64 0,.string (bs []),.int .i64 0] #[(0,1),(1,1),(2,1),(3,1),(4,1),(5,1)]:=⟨⟨.agg [.int .i64 0,.int .i64 0,.int .u8 0,.int .i64 0,.string (bs []),.int .i64 0].toArray,rfl,Tryz.zeroValue105⟩,⟨_,Tryz.underlying105,fun _=>by kernel_rfl⟩⟩
theorem B114:cZ Tryz.prog 114 [.int .i64 0,.int .i64 0,.int .i64 0] #[(0,1),(1,1),(2,1)]:=⟨⟨.agg [.int .i64 0,.int .i64 0,.int .i64 0].toArray,rfl,Tryz.zeroValue114⟩,⟨_,Tryz.underlying114,fun _=>by kernel_rfl⟩⟩
theorem B130:cZ Tryz.prog 130 [.int .i64 0,.int .i64 0,.int .i64 0,.int .i64 0,.slice none 0 0] #[(0,1),(1,1),(2,1),(3,1),(4,1)]:=⟨⟨.agg [.int .i64 0,.int .i64 0,.int .i64 0,.int .i64 0,.slice none 0 0].toArray,rfl,Tryz.zeroValue130⟩,⟨_,Tryz.underlying130,fun _=>by kernel_rfl⟩⟩
theorem B151:cZ Tryz.prog 151 [.int .i64 0,.int .i64 0,.int .i64 0,.int .i64 0] #[(0,1),(1,1),(2,1),(3,1)]:=⟨⟨.agg [.int .i64 0,.int .i64 0,.int .i64 0,.int .i64 0].toArray,rfl,Tryz.zeroValue151⟩,⟨_,Tryz.underlying151,fun _=>by kernel_rfl⟩⟩
theorem B153:cZ Tryz.prog 153 [.int .i64 0,.int .i64 0,.int .i64 0,.int .i64 0,.int .i64 0,.int .i64 0] #[(0,4),(4,1),(5,1)]:=⟨⟨.agg [.int .i64 0,.int .i64 0,.int .i64 0,.int .i64 0,.int .i64 0,.int .i64 0].toArray,rfl,Tryz.zeroValue153⟩,⟨_,Tryz.underlying153,fun _=>by kernel_rfl⟩⟩
theorem B159:cZ Tryz.prog 159 [.int .i64 0,.string (bs []),.bool false] #[(0,2),(2,1)]:=⟨⟨.agg [.int .i64 0,.string (bs []),.bool false].toArray,rfl,Tryz.zeroValue159⟩,⟨_,Tryz.underlying159,fun _=>by kernel_rfl⟩⟩
theorem B163:cZ Tryz.prog 163 [.int .i64 0,.int .i64 0,.int .i64 0,.int .i64 0,.slice none 0 0,.slice none 0 0] #[(0,5),(5,1)]:=⟨⟨.agg [.int .i64 0,.int .i64 0,.int .i64 0,.int .i64 0,.slice none 0 0,.slice none 0 0].toArray,rfl,Tryz.zeroValue163⟩,⟨_,Tryz.underlying163,fun _=>by kernel_rfl⟩⟩
theorem B173:cZ Tryz.prog 173 (eK (eK [.int .i64 0,.slice none 0 0,.slice none 0 0,.slice none 0 0,.slice none 0 0,.slice none 0 0,.slice none 0 0,.int .u8 0,.int .i64 0,.int .i64 0,.int .u8 0] (aX bF.zero)) (gP (List.replicate 40 ((none,0):gK)) (List.replicate 40 ([]:List UInt8)))) #[(0,11),(11,40),(51,40)]:=⟨⟨.agg (eK (eK [.int .i64 0,.slice none 0 0,.slice none 0 0,.slice none 0 0,.slice none 0 0,.slice none 0 0,.slice none 0 0,.int .u8 0,.int .i64 0,.int .i64 0,.int .u8 0] (aX bF.zero)) (gP (List.replicate 40 ((none,0):gK)) (List.replicate 40 ([]:List UInt8)))).toArray,rfl,Tryz.zeroValue173⟩,⟨_,Tryz.underlying173,fun _=>by kernel_rfl⟩⟩
theorem B180:qG Tryz.prog 180 5 (cI bJ.zero) 1:=⟨⟨.agg (cI bJ.zero).toArray,rfl,Tryz.zeroValue180⟩,⟨_,Tryz.underlying180⟩,Tryz.sizeOf5⟩
theorem B194:cZ Tryz.prog 194 [.int .i64 0,.nilFunc] #[(0,1),(1,1)]:=⟨⟨.agg [.int .i64 0,.nilFunc].toArray,rfl,Tryz.zeroValue194⟩,⟨_,Tryz.underlying194,fun _=>by kernel_rfl⟩⟩
theorem B200:cZ Tryz.prog 200 [.int .i64 0,.int .i64 0] #[(0,1),(1,1)]:=⟨⟨.agg [.int .i64 0,.int .i64 0].toArray,rfl,Tryz.zeroValue200⟩,⟨_,Tryz.underlying200,fun _=>by kernel_rfl⟩⟩
theorem B232:cZ Tryz.prog 232 [.nilFunc] #[(0,1)]:=⟨⟨.agg [.nilFunc].toArray,rfl,Tryz.zeroValue232⟩,⟨_,Tryz.underlying232,fun _=>by kernel_rfl⟩⟩
theorem B240:cZ Tryz.prog 240 [.nilFunc] #[(0,1)]:=⟨⟨.agg [.nilFunc].toArray,rfl,Tryz.zeroValue240⟩,⟨_,Tryz.underlying240,fun _=>by kernel_rfl⟩⟩
theorem E22:cP Tryz.prog 22 9 [.string (bs [])] 1 16:=⟨Tryz.underlying22,⟨_,.string (bs []),dN Tryz.type9,rfl,rfl,rfl,rfl⟩,rfl,by decide⟩
theorem E25:cP Tryz.prog 25 5 [.int .u8 0] 1 1:=⟨Tryz.underlying25,⟨_,.int .u8 0,dN Tryz.type5,rfl,rfl,rfl,rfl⟩,rfl,by decide⟩
theorem E34:cP Tryz.prog 34 98 [.int .i64 0,.slice none 0 0] 2 32:=⟨Tryz.underlying34,⟨_,.agg [.int .i64 0,.slice none 0 0].toArray,dN Tryz.type98,rfl,rfl,rfl,rfl⟩,rfl,by decide⟩
theorem E37:cP Tryz.prog 37 105 [.int .i64 0,.int .i64 0,.int .u8 0,.int .i64 0,.string (bs []),.int .i64 0] 6 56:=⟨Tryz.underlying37,⟨_,.agg [.int .i64 0,.int .i64 0,.int .u8 0,.int .i64 0,.string (bs []),.int .i64 0].toArray,dN Tryz.type105,rfl,rfl,rfl,rfl⟩,rfl,by decide⟩
theorem E38:cP Tryz.prog 38 114 [.int .i64 0,.int .i64 0,.int .i64 0] 3 24:=⟨Tryz.underlying38,⟨_,.agg [.int .i64 0,.int .i64 0,.int .i64 0].toArray,dN Tryz.type114,rfl,rfl,rfl,rfl⟩,rfl,by decide⟩
theorem E39:cP Tryz.prog 39 130 [.int .i64 0,.int .i64 0,.int .i64 0,.int .i64 0,.slice none 0 0] 5 56:=⟨Tryz.underlying39,⟨_,.agg [.int .i64 0,.int .i64 0,.int .i64 0,.int .i64 0,.slice none 0 0].toArray,dN Tryz.type130,rfl,rfl,rfl,rfl⟩,rfl,by decide⟩
theorem E42:cP Tryz.prog 42 3 [.int .i64 0] 1 8:=⟨Tryz.underlying42,⟨_,.int .i64 0,dN Tryz.type3,rfl,rfl,rfl,rfl⟩,rfl,by decide⟩
theorem E44:cP Tryz.prog 44 123 [.int .i64 0,.int .i64 0] 2 16:=⟨Tryz.underlying44,⟨_,.agg [.int .i64 0,.int .i64 0].toArray,dN Tryz.type123,rfl,rfl,rfl,rfl⟩,rfl,by decide⟩
theorem E50:cP Tryz.prog 50 26 [.int .i64 0] 1 8:=⟨Tryz.underlying50,⟨_,.int .i64 0,dN Tryz.type26,rfl,rfl,rfl,rfl⟩,rfl,by decide⟩
theorem E96:cP Tryz.prog 96 94 [.int .i64 0,.string (bs [])] 2 24:=⟨Tryz.underlying96,⟨_,.agg [.int .i64 0,.string (bs [])].toArray,dN Tryz.type94,rfl,rfl,rfl,rfl⟩,rfl,by decide⟩
theorem E131:cP Tryz.prog 131 200 [.int .i64 0,.int .i64 0] 2 16:=⟨Tryz.underlying131,⟨_,.agg [.int .i64 0,.int .i64 0].toArray,dN Tryz.type200,rfl,rfl,rfl,rfl⟩,rfl,by decide⟩
theorem E148:cP Tryz.prog 148 153 [.int .i64 0,.int .i64 0,.int .i64 0,.int .i64 0,.int .i64 0,.int .i64 0] 6 48:=⟨Tryz.underlying148,⟨_,.agg [.int .i64 0,.int .i64 0,.int .i64 0,.int .i64 0,.int .i64 0,.int .i64 0].toArray,dN Tryz.type153,rfl,rfl,rfl,rfl⟩,rfl,by decide⟩
theorem E160:cP Tryz.prog 160 159 [.int .i64 0,.string (bs []),.bool false] 3 32:=⟨Tryz.underlying160,⟨_,.agg [.int .i64 0,.string (bs []),.bool false].toArray,dN Tryz.type159,rfl,rfl,rfl,rfl⟩,rfl,by decide⟩
theorem E161:cP Tryz.prog 161 160 [.slice none 0 0] 1 24:=⟨Tryz.underlying161,⟨_,.slice none 0 0,dN Tryz.type160,rfl,rfl,rfl,rfl⟩,rfl,by decide⟩
theorem E190:cP Tryz.prog 190 194 [.int .i64 0,.nilFunc] 2 16:=⟨Tryz.underlying190,⟨_,.agg [.int .i64 0,.nilFunc].toArray,dN Tryz.type194,rfl,rfl,rfl,rfl⟩,rfl,by decide⟩
theorem E225:cP Tryz.prog 225 20 [.nilIface] 1 16:=⟨Tryz.underlying225,⟨_,.nilIface,dN Tryz.type20,rfl,rfl,rfl,rfl⟩,rfl,by decide⟩
theorem E233:cP Tryz.prog 233 232 [.nilFunc] 1 8:=⟨Tryz.underlying233,⟨_,.agg [.nilFunc].toArray,dN Tryz.type232,rfl,rfl,rfl,rfl⟩,rfl,by decide⟩
theorem E241:cP Tryz.prog 241 240 [.nilFunc] 1 8:=⟨Tryz.underlying241,⟨_,.agg [.nilFunc].toArray,dN Tryz.type240,rfl,rfl,rfl,rfl⟩,rfl,by decide⟩
abbrev bC (x:aF) (ad0:Option Addr) (cap0:Nat) (ad1:Option Addr) (cap1:Nat) (oA:Option Addr) (cap2:Nat) (qI:Option Addr) (cap3:Nat) (ad4:Option Addr) (cap4:Nat) (ad5:Option Addr) (cap5:Nat) (ad6:Option Addr) (cap6:Nat) (ad7:Option Addr) (cap7:Nat) (ad8:Option Addr) (cap8:Nat) (ad9:Option Addr) (cap9:Nat) (a0:Option Addr) (c0:Nat) (a2:Option Addr) (c1:Nat) (a3:Option Addr) (c2:Nat) (a4:Option Addr) (c3:Nat):List Value:=[.int .i64 x.state.day,.int .i64 x.state.house,.int .i64 x.state.volume.number,.int .i64 x.state.volume.bound,.int .i64 x.state.volume.height,.int .i64 x.state.volume.width,.slice ad0 x.state.volume.parts.length cap0,.bool x.state.bound,.slice ad1 x.state.errata.length cap1,.slice oA x.state.hides.length cap2,.slice qI x.state.cites.length cap3,.slice ad4 x.state.motion.words.length cap4,.slice ad5 x.state.motion.papers.length cap5,.bool x.state.moved,.slice ad6 x.state.choice.length cap6,.int .i64 x.state.division.members,.slice ad7 x.state.division.ayes.e0.length cap7,.slice ad8 x.state.division.ayes.e1.length cap8,.slice ad9 x.state.division.noes.e0.length cap9,.slice a0 x.state.division.noes.e1.length c0,.slice a2 x.state.division.pairs.length c1,.slice a3 x.state.division.proxies.length c2,.int .u8 x.state.division.rule,.int .i64 x.state.division.need,.int .i64 x.state.division.quorum,.int .u8 x.state.division.tie,.bool x.state.open_,.slice a4 x.state.results.length c3]
theorem IH {K K_:Hp} (le:K.le K_) {x:aF} {ad0:Option Addr} {cap0:Nat} {ad1:Option Addr} {cap1:Nat} {oA:Option Addr} {cap2:Nat} {qI:Option Addr} {cap3:Nat} {ad4:Option Addr} {cap4:Nat} {ad5:Option Addr} {cap5:Nat} {ad6:Option Addr} {cap6:Nat} {ad7:Option Addr} {cap7:Nat} {ad8:Option Addr} {cap8:Nat} {ad9:Option Addr} {cap9:Nat} {a0:Option Addr} {c0:Nat} {a2:Option Addr} {c1:Nat} {a3:Option Addr} {c2:Nat} {a4:Option Addr} {c3:Nat} (f0:Sl (bX) 2 K ad0 cap0 x.state.volume.parts) (f1:Sl (aB aQ) 6 K ad1 cap1 x.state.errata) (f2:Sl (aB dA) 3 K oA cap2 x.state.hides) (f3:Sl (aB bD) 1 K qI cap3 x.state.cites) (f4:Sl (aB bD) 1 K ad4 cap4 x.state.motion.words) (f5:Sl (aP) 5 K ad5 cap5 x.state.motion.papers) (f6:Sl (aB (bB .i64)) 1 K ad6 cap6 x.state.choice) (f7:Sl (aB (bB .i64)) 1 K ad7 cap7 x.state.division.ayes.e0) (f8:Sl (aB (bB .i64)) 1 K ad8 cap8 x.state.division.ayes.e1) (f9:Sl (aB (bB .i64)) 1 K ad9 cap9 x.state.division.noes.e0) (f10:Sl (aB (bB .i64)) 1 K a0 c0 x.state.division.noes.e1) (f11:Sl (aB dC) 2 K a2 c1 x.state.division.pairs) (f12:Sl (aB dL) 2 K a3 c2 x.state.division.proxies) (f13:Sl (aB bM) 1 K a4 c3 x.state.results):aS K_ (bC x ad0 cap0 ad1 cap1 oA cap2 qI cap3 ad4 cap4 ad5 cap5 ad6 cap6 ad7 cap7 ad8 cap8 ad9 cap9 a0 c0 a2 c1 a3 c2 a4 c3) x:=⟨_,_,_,_,_,_,_,_,_,_,_,_,_,_,_,_,_,_,_,_,_,_,_,_,_,_,_,_,rfl,(f0.mono (bX.mono) le),(f1.mono (aB.mono _) le),(f2.mono (aB.mono _) le),(f3.mono (aB.mono _) le),(f4.mono (aB.mono _) le),(f5.mono (aP.mono) le),(f6.mono (aB.mono _) le),(f7.mono (aB.mono _) le),(f8.mono (aB.mono _) le),(f9.mono (aB.mono _) le),(f10.mono (aB.mono _) le),(f11.mono (aB.mono _) le),(f12.mono (aB.mono _) le),(f13.mono (aB.mono _) le)⟩
end T12
namespace Go.Proofs
open Go Go.Shelf Go.RowKit Pk
theorem qM {w:World} {q:Addr} {vs:List Value} (h:aN (hp w) q vs) (hv:0 < vs.length):∃ cs t z,w.heap[q.block]?=some (.cells cs t z)∧cs.size≠0:=by
 obtain ⟨c,t,z,h3,h4⟩:=h.2 0 _ (List.getElem?_eq_getElem hv);refine ⟨c,t,z,h3,fun h0=>?_⟩;have:=(Array.getElem?_eq_some_iff.1 h4).1;omega
theorem oY {P:Program} (w:World) (tS tR e:TypeId) (ht:P.underlying tS=some (.slice e)) (size:Nat) (hz:∀ w,(Go.sizeOf e).run P w=.ok size w) (a b:Addr) (la ca lb cb:Nat) (hne:a.block≠b.block)
  {ca':Array Value} {ta:TypeId} {za:Nat×Nat} (ha:w.heap[a.block]?=some (.cells ca' ta za)) (ha0:ca'.size≠0) {cur:Array Value} {te:TypeId} (hb:w.heap[b.block]?=some (.cells cur te (0,0))) (hc:cur.size≠0) :
  (Extern.SlicesOverlaps.overlaps #[tS,tS] #[tR] #[.slice (some a) la ca,.slice (some b) lb cb]).run P w=.ok (.bool false) w:=by
 have hnb:(a.block != b.block)=true:=by simpa using hne
 have hnb':(a.block==b.block)=false:=by simpa using hne
 have hf:∀ x:Addr,x.block=b.block→w.frozen? x=false:=fun x hx=>by simp [World.frozen?,hx,hb]
 have hsb:w.shape? b.block=some (te,cur.size):=by simp [World.shape?,hb]
 have hva:w.shape? a.block=some (ta,ca'.size):=by simp [World.shape?,ha]
 change Sem.run P (α:=Value) (do
  let some t := (#[tS, tS] : Array TypeId)[0]? | stuck "slices.overlaps: no parameter types"
  let .slice elem ← underlying t | stuck "slices.overlaps: slice type expected"
  let size ← sizeOf elem
  match (some a:Option Addr),(some b:Option Addr) with
  | some a,some b =>
   if la=0∨lb=0∨size=0 then pure (Value.bool false)
   else if a.block != b.block&&(← frozen a)&&(← frozen b) then unsupported .addressObserved
   else do
    if a.block != b.block then do
     noView a;noView b
     if ← mayBeOne a b then return Value.bool ((← choose (.extern "sameAddr.stringBytes" 2)) == 1)
    pure (Value.bool (a.block==b.block&&a.off < b.off+lb*size&&b.off < a.off+la*size))
  | _,_=>pure (Value.bool false)) w=_
 by_cases h0:la=0∨lb=0∨size=0
 ·simp [run_underlying ht,hz,h0]
 have e1:=hf b rfl;have e2:=hf { block:=b.block,off:=cur.size } rfl;have e3:(match some (te,cur.size) with | some (_,0)=>true | _=>false)=false:=by
  cases h:cur.size with
  | zero=>exact absurd h hc
  | succ n=>rfl
 have e4:(match some (ta,ca'.size) with | some (_,0)=>true | _=>false)=false:=by
  cases h:ca'.size with
  | zero=>exact absurd h ha0
  | succ n=>rfl
 cases hfa:w.frozen? a <;> cases hfe:w.frozen? { block:=a.block,off:=ca'.size } <;>
  simp [run_underlying ht,hz,h0,hnb,hnb',frozen,noView,viewAt,mayBeOne,stringish,shape,Sem.run,hva,hsb,e1,e2,hfa,hfe,hc,e4,ha0]
theorem jP {P:Program} (w:World) (t ty el k:Nat) (hu:P.underlying t=some (.slice el)) (hz:∀ w,(Go.sizeOf el).run P w=.ok k w) (b o dLen dCap:Nat) (a:Addr) (sLen sCap:Nat) (cs:List Value) {cur:Array Value} {te:TypeId} (hb:w.heap[b]?=some (.cells cur te (0,0)))
  (hn:cs.length=Nat.min sLen dLen*k) (hsrc:∀ j v,cs[j]?=some v→w.cell? (a.add j)=some v) (hfit:o+cs.length≤cur.size) (h1:∀ v∈cs,v.oneCell'=true) :
  (Builtin.copy_ #[t,t] ty #[.slice (some ⟨b,o,none⟩) dLen dCap,.slice (some a) sLen sCap]).run P w=.ok (goInt (Nat.min sLen dLen)) (w.setRow b (cur.toList.take o++cs++cur.toList.drop (o+cs.length)).toArray):=by
 have hl:=run_loadCells_list (P:=P) (w:=w) a cs hsrc;have hst:=run_storeCells_at P b o te cs 0 cur w hb (by simpa using hfit) h1;rw [hn] at hl;simp [Builtin.copy_,run_underlying hu,Builtin.lenOf,Builtin.firstCells,hz,hl];simp at hst;rw [hst];rfl
theorem jF {w:World} {b:Nat} {cur:Array Value} {t:TypeId} {z:Nat×Nat} (h:w.heap[b]?=some (.cells cur t z)) {j:Nat} {v:Value} (hv:cur.toList[j]?=some v):w.cell? ⟨b,j,none⟩=some v:=by
 rw [Array.getElem?_toList] at hv;simp [World.cell?,h,hv]
theorem mQ (b o i:Nat):(⟨b,o,none⟩:Addr).add i=⟨b,o+i,none⟩:=cV (ad:=⟨b,o,none⟩) rfl i
theorem oE {w w':World} {b:Nat} (h:∀ k,k < w.heap.size→k≠b→w'.heap[k]?=w.heap[k]?) (ho:w'.os=w.os) (ht:w'.tape=w.tape) (hu:w'.output=w.output) (hs:w.heap.size≤w'.heap.size) (hd:w.drawn≤w'.drawn):kF w w' (some b) :=
 ⟨⟨ho,ht,hu,hs,fun k hk hne=>h k hk (fun e=>hne (by rw [e]))⟩,hd⟩
theorem hP (w:World) (b:Nat) (X:Array Value):(w.setRow b X).heap.size=w.heap.size:=by simp [World.setRow]
end Go.Proofs
namespace Go.Proofs
open Go Go.Shelf Go.RowKit Pk
set_option maxHeartbeats 4000000 in
set_option maxRecDepth 100000 in
theorem Tryz.ins_endM {w:World} {ad:Option Addr} {cap nn mv:Nat} (hm:1≤mv) {cs:List Value} {q:Addr} {vcap:Nat} {vs:List Value} (hr:(aI.row ad cap 3 1 nn cs).holds w) (hb:nn+mv≤1073741824) (hv:aN (hp w) q vs) (hvl:vs.length=mv) (h1:vs.all (·.oneCell')=true) :
  Calls Tryz.prog 63 #[.slice ad nn cap,.int .i64 nn,.slice (some q) mv vcap] w fun e w'=>∃ ad' cap',e=.returned (.slice ad' (nn+mv) cap')∧(aI.row ad' cap' 3 1 (nn+mv) (cs++vs)).holds w'∧kF w w' (ad.map (·.block))∧∀ b,ad'.map (·.block)=some b→ad.map (·.block)=some b∨w.heap.size≤b:=by
 obtain ⟨ad',cap',w',hrun,hh,hg,hf⟩:=mA (P:=Tryz.prog) 42 T12.E42 hr (sad:=some q) (m:=mv) (c:=vcap) (news:=vs) ⟨by omega,h1,.inr ⟨q,rfl,hv⟩⟩ (by unfold maxLen;omega) (by omega);have hd:=nJ _ hrun;have hcap:=(jG hr).2;refine Calls.mono (R:=fun e w''=>e=.returned (.slice ad' (nn+mv) cap')∧w''=w') ?_ fun e w'' hw=>by
  obtain ⟨rfl,rfl⟩:=hw;exact ⟨ad',cap',rfl,hh,⟨hg,hd⟩,hf⟩
 clear hf hh hg hd hr hv h1;by_cases hc:cap=nn
 ·subst hc
  go_enter Tryz.func63,Tryz.ntmps63
  go_wp2_with (at_builtin;refine Lib.wpList_append_run _ rfl _ _ _ _ rfl _ _ rfl rfl _ _ hrun ?_)
  go_ret
  exact ⟨rfl,rfl⟩
 go_enter Tryz.func63,Tryz.ntmps63
 go_wp2_with (at_builtin;refine Lib.wpList_append_run _ rfl _ _ _ _ rfl _ _ rfl rfl _ _ hrun ?_)
 go_ret
 exact ⟨rfl,rfl⟩
set_option maxHeartbeats 4000000 in
set_option maxRecDepth 100000 in
theorem Tryz.ins_roomM {w:World} {b cap nn j mv:Nat} (hm:1≤mv) {cs:List Value} {q:Addr} {vcap:Nat} {vs:List Value} {cur:Array Value} (hw:w.heap[b]?=some (.cells cur 3 (0,0))) (hcs:cur.size=cap) (ht:cur.toList.take (nn)=cs) (hcm:cap≤9223372036854775807) (hj:j < nn) (hroom:nn+mv≤cap) (hb:nn+mv≤1073741824) (hv:aN (hp w) q vs) (hvl:vs.length=mv) (h1:vs.all (·.oneCell')=true) (h2:cs.all (·.oneCell')=true) (hne:b≠q.block) :
  Calls Tryz.prog 63 #[.slice (some ⟨b,0,none⟩) nn cap,.int .i64 j,.slice (some q) mv vcap] w fun e w'=>e=.returned (.slice (some ⟨b,0,none⟩) (nn+mv) cap)∧w'=(w.drew.setRow b (cur.toList.take ((j+mv))++cs.drop (j)++cur.toList.drop ((nn+mv))).toArray).setRow b (cs.take (j)++vs++cs.drop (j)++cur.toList.drop ((nn+mv))).toArray:=by
 obtain ⟨c0,t0,z0,hq0,hq1⟩:=qM hv (by omega);have hcl:cs.length=nn:=by rw [← ht,List.length_take,Array.length_toList,hcs];omega
 have hcur:cur.toList=cs++cur.toList.drop (nn):=by rw [← ht,List.take_append_drop]
 have hov:∀ lb cb,(callFunc 96 #[.slice (some q) mv vcap,.slice (some ⟨b,(j+mv),none⟩) lb cb]).run Tryz.prog w=.ok (.value (.bool false)) w:=fun lb cb=>by
  rw [run_callFunc_extern Tryz.func96 (by kernel_rfl) (by kernel_rfl) (by kernel_rfl) (e:=Extern.SlicesOverlaps.overlaps #[42,42] #[4]) (by kernel_rfl),
   oY w 42 4 3 Tryz.underlying42 1 Tryz.sizeOf3 q ⟨b,(j+mv),none⟩ mv vcap lb cb (fun e=>hne e.symm) hq0 hq1 hw (by omega)]
  rfl
 have hcp1:∀ ty dc sc,(Builtin.copy_ #[42,42] ty #[.slice (some ⟨b,(j+mv),none⟩) (nn - j) dc,.slice (some ⟨b,j,none⟩) (nn+mv - j) sc]).run Tryz.prog w.drew=.ok (goInt (Nat.min (nn+mv - j) (nn - j))) (w.drew.setRow b (cur.toList.take ((j+mv))++cs.drop (j)++cur.toList.drop ((nn+mv))).toArray):=fun ty dc sc=>by
  have hl:(cs.drop (j)).length=Nat.min (nn+mv - j) (nn - j):=by
   rw [List.length_drop,hcl,show Nat.min (nn+mv - j) (nn - j)=nn - j by simp only [Nat.min_def];split <;> omega]
  have:=jP (P:=Tryz.prog) w.drew 42 ty 3 1 Tryz.underlying42 Tryz.sizeOf3 b ((j+mv)) (nn - j) dc ⟨b,j,none⟩ (nn+mv - j) sc (cs.drop (j)) (cur:=cur) hw (by rw [hl,Nat.mul_one]) (fun i v hi=>by
   rw [mQ];refine jF (w:=w.drew) hw ?_;rw [hcur,List.getElem?_append_left (by rw [List.getElem?_drop] at hi;exact (List.getElem?_eq_some_iff.1 hi).1)]
   rwa [List.getElem?_drop] at hi) (by rw [List.length_drop,hcl,hcs];omega) (fun v hv=>List.all_eq_true.1 h2 v (List.mem_of_mem_drop hv))
  rw [this,show (j+mv)+(cs.drop (j)).length=(nn+mv) by rw [List.length_drop,hcl];omega]
 obtain ⟨X1,hX1⟩:∃ X1:List Value,X1=cur.toList.take ((j+mv))++cs.drop (j)++cur.toList.drop ((nn+mv)):=⟨_,rfl⟩;rw [← hX1] at hcp1 ⊢;obtain ⟨W1,hW1⟩:∃ W1,W1=w.drew.setRow b X1.toArray:=⟨_,rfl⟩;rw [← hW1] at hcp1 ⊢;have hw1:W1.heap[b]?=some (.cells X1.toArray 3 (0,0)):=by rw [hW1];exact setRow_heap w.drew b cur X1.toArray 3 (0,0) hw
 have hX1l:X1.length=cap:=by rw [hX1];simp only [List.length_append,List.length_take,List.length_drop,Array.length_toList,hcs,hcl];omega
 have hlen1:(cur.toList.take ((j+mv))).length=(j+mv):=by rw [List.length_take,Array.length_toList,hcs];omega
 have hcp2:∀ ty dc,(Builtin.copy_ #[42,42] ty #[.slice (some ⟨b,j,none⟩) (nn+mv - j) dc,.slice (some q) mv vcap]).run Tryz.prog W1=.ok (goInt (Nat.min mv (nn+mv - j))) (W1.setRow b (cs.take (j)++vs++cs.drop (j)++cur.toList.drop ((nn+mv))).toArray):=fun ty dc=>by
  have hm:Nat.min mv (nn+mv - j)=mv:=by simp only [Nat.min_def];split <;> omega
  have:=jP (P:=Tryz.prog) W1 42 ty 3 1 Tryz.underlying42 Tryz.sizeOf3 b (j) (nn+mv - j) dc q mv vcap vs (cur:=X1.toArray) hw1 (by rw [hvl,hm,Nat.mul_one]) (fun i v hi=>by
   have h0:=hv.cell hi;have hsp:(q.add i).block=q.block:=by unfold Addr.add;split <;> rfl
   rw [hW1];unfold World.cell? at h0 ⊢;rw [show (w.drew.setRow b X1.toArray).heap[(q.add i).block]?=w.heap[(q.add i).block]? from setRow_other w.drew b _ _ (by rw [hsp];exact fun e=>hne e.symm)]
   exact h0) (by rw [hvl,List.size_toArray,hX1l];omega) (fun v hv=>List.all_eq_true.1 h1 v hv)
  rw [this,hvl];congr 3;have e1:X1.take (j)=cs.take (j):=by
   rw [hX1,List.append_assoc,List.take_append_of_le_length (by rw [hlen1];omega),List.take_take,show min (j) ((j+mv))=j by omega,← ht,List.take_take,show min (j) (nn)=j by omega]
  have e2:X1.drop (j+mv)=cs.drop (j)++cur.toList.drop ((nn+mv)):=by
   rw [hX1,show j+mv=(j+mv) by omega,List.append_assoc,List.drop_append_of_le_length (by rw [hlen1];omega),List.drop_of_length_le (by rw [hlen1];omega),List.nil_append]
  simp only [List.toList_toArray,e1,e2,List.append_assoc]
 have hz2:¬((j:Int)=(nn:Int)):=by omega
 have hw2:IntKind.i64.wrap ((j:Int)+(mv:Int))=(j:Int)+(mv:Int):=by rw [IntKind.wrap_i64];omega
 have hw3:IntKind.i64.wrap ((nn:Int)+(mv:Int))=(nn:Int)+(mv:Int):=by rw [IntKind.wrap_i64];omega
 have htn:((j:Int)+(mv:Int)).toNat=j+mv:=by omega
 have htn2:((nn:Int)+(mv:Int)).toNat=nn+mv:=by omega
 have hb1:(0:Int)≤(j:Int)+(mv:Int):=by omega
 have hb2:¬(cap=j+mv):=by omega
 have hb4:¬(cap=j):=by omega
 have hb3:(j:Int)≤(nn:Int)+(mv:Int):=by omega
 have hin:j≤nn:=by omega
 have hro:¬((cap:Int) < (nn:Int)+(mv:Int)):=by omega
 clear hX1 hcur ht;have mixed:=T12.mixed;clear hw1;subst hW1
 go_enter Tryz.func63,Tryz.ntmps63
 go_wp2_with (simp only [hov])
 go_region_law_o (refine step_copy_runI rfl _ _ 42 42 rfl (.slice (some ⟨b,(j+mv),none⟩) (nn - j) (cap - (j+mv))) (.slice (some ⟨b,j,none⟩) (nn+mv - j) (cap - j)) (by first | (simp [Act.eval,Act.put];done) | (simp [Act.eval,Act.put];omega)) (by first | (simp [Act.eval,Act.put];done) | (simp [Act.eval,Act.put];omega)) (hcp1 3 (cap - (j+mv)) (cap - j)) ?_)
 go_wp2_with (at_builtin;refine wpList_copy_runI _ rfl _ _ 42 42 rfl _ _ rfl rfl (hcp2 _ _) ?_)
 go_ret
 exact ⟨rfl,by simp only [List.append_assoc]⟩
set_option maxHeartbeats 4000000 in
set_option maxRecDepth 100000 in
theorem Tryz.ins_growM {w:World} {b cap nn j mv:Nat} (hm:1≤mv) {cs:List Value} {q:Addr} {vcap:Nat} {vs:List Value} {cur:Array Value} (hw:w.heap[b]?=some (.cells cur 3 (0,0))) (hcs:cur.size=cap) (ht:cur.toList.take (nn)=cs) (hnc:nn≤cap) (hj:j < nn) (hroom:cap < nn+mv) (hb:nn+mv≤1073741824) (hv:aN (hp w) q vs) (hvl:vs.length=mv) (h1:vs.all (·.oneCell')=true) (h2:cs.all (·.oneCell')=true) :
  Calls Tryz.prog 63 #[.slice (some ⟨b,0,none⟩) nn cap,.int .i64 j,.slice (some q) mv vcap] w fun e w'=>∃ (G:Nat) (X:List Value),nn+mv≤G∧G≤maxLen∧X.length=G∧X.take ((nn+mv))=cs.take (j)++vs++cs.drop (j)∧e=.returned (.slice (some ⟨w.heap.size,0,none⟩) (nn+mv) G)∧∃ Y Z m,w'=(((w.alloc (.cells Y 3)).drewN m).setRow w.heap.size Z).setRow w.heap.size X.toArray:=by
 obtain ⟨i0,v0,hi0,hz0,hzv,hzs,hzb⟩:=T12.E42.info;have hzc:v0.cells.size=1:=by rw [fO,hzv];rfl
 have hcl:cs.length=nn:=by rw [← ht,List.length_take,Array.length_toList,hcs];omega
 have hcur:cur.toList=cs++cur.toList.drop (nn):=by rw [← ht,List.take_append_drop]
 have hold:(Builtin.firstCells i0.size j (.slice (some ⟨b,0,none⟩) j cap)).run Tryz.prog w.drew=.ok (cs.take (j)).toArray w.drew:=by
  rw [hzs];refine run_firstCells_some (w:=w.drew) 1 j ⟨b,0,none⟩ j cap (cs.take (j)) (by rw [List.length_take,hcl];omega) (fun i v hi=>?_);rw [mQ,Nat.zero_add];refine jF (w:=w.drew) hw ?_;rw [List.getElem?_take] at hi
  split at hi
  ·rw [hcur,List.getElem?_append_left (by rw [hcl];omega)];exact hi
  cases hi
 have hik:j+(nn+mv - j)=nn+mv:=by omega
 have hkk:(nn:Int)+(mv:Int) - (j:Int)=((nn+mv - j:Nat):Int):=by omega
 obtain ⟨G,hG⟩:∃ G,G=grownCap w (nn+mv) cap 3:=⟨_,rfl⟩;have hGn:nn+mv≤G:=by rw [hG];exact grownCap_ge w _ _ _
 have hGm:G≤maxLen:=by rw [hG];exact grownCap_le_maxLen w (nn+mv) cap 3 (by unfold maxLen;omega)
 obtain ⟨R,hR⟩:∃ R:Array Value,R=(cs.take (j)).toArray++Builtin.zeroCells v0.cells (nn+mv - j)++Builtin.zeroCells v0.cells (G - (nn+mv)):=⟨_,rfl⟩;have hRs:R.size=G:=by
  rw [hR];simp only [Array.size_append,List.size_toArray,List.length_take,hcl,Builtin.zeroCells,Array.size_map,Array.size_range,hzc];omega
 have hRt:R.toList.take (j)=cs.take (j):=by
  rw [hR,Array.toList_append,Array.toList_append,List.append_assoc,List.take_append_of_le_length (by simp [hcl];omega)];simp only [List.toList_toArray,List.take_take,Nat.min_self]
 have hrz:∀ ty,(Builtin.append_ #[42,3] ty #[.slice (some ⟨b,0,none⟩) j cap,.int .i64 ((nn:Int)+(mv:Int) - (j:Int))]).run Tryz.prog w=.ok (.slice (some ⟨w.heap.size,0,none⟩) (nn+mv) G) (w.drew.alloc (.cells R 3)):=fun ty=>by
  have h:=Lib.run_append_grow_zeros w 42 3 ty 3 i0 _ .i64 .i64 Tryz.underlying42 Tryz.underlying3 hi0 hz0 (some ⟨b,0,none⟩) j cap (cs.take (j)) hold (nn+mv - j) (by omega) (by rw [hzs];decide) (by omega) (by omega) (by rw [hzb];omega) (by rw [hzb,hik];exact growslice_fits hroom (by omega));rw [hik] at h;rw [hkk,hR,hG];exact h
 have hN:(w.drew.alloc (.cells R 3)).heap[w.heap.size]?=some (.cells R 3 (0,0)):=dP w.drew _;have hbw:b < w.heap.size:=(Array.getElem?_eq_some_iff.1 hw).1;obtain ⟨X1,hX1⟩:∃ X1:List Value,X1=cs.take (j)++vs++R.toList.drop ((j+mv)):=⟨_,rfl⟩;obtain ⟨X2,hX2⟩:∃ X2:List Value,X2=cs.take (j)++vs++cs.drop (j)++R.toList.drop ((nn+mv)):=⟨_,rfl⟩;have hct:(cs.take (j)).length=j:=by rw [List.length_take,hcl];omega
 have hX1l:X1.length=G:=by rw [hX1];simp only [List.length_append,hct,hvl,List.length_drop,Array.length_toList,hRs];omega
 have hX2l:X2.length=G:=by rw [hX2];simp only [List.length_append,hct,hvl,List.length_drop,Array.length_toList,hRs,hcl];omega
 have hqn:∀ i,(q.add i).block=q.block:=fun i=>by unfold Addr.add;split <;> rfl
 obtain ⟨c0,t0,z0,hq0,_⟩:=qM hv (by omega);have hqw:q.block < w.heap.size:=(Array.getElem?_eq_some_iff.1 hq0).1;have hcpA:∀ (m:Nat) ty dc,(Builtin.copy_ #[42,42] ty #[.slice (some ⟨w.heap.size,j,none⟩) (nn+mv - j) dc,.slice (some q) mv vcap]).run Tryz.prog ((w.alloc (.cells R 3)).drewN m)=.ok (goInt (Nat.min mv (nn+mv - j))) (((w.alloc (.cells R 3)).drewN m).setRow w.heap.size X1.toArray):=fun m ty dc=>by
  have hm:Nat.min mv (nn+mv - j)=mv:=by simp only [Nat.min_def];split <;> omega
  have:=jP (P:=Tryz.prog) ((w.alloc (.cells R 3)).drewN m) 42 ty 3 1 Tryz.underlying42 Tryz.sizeOf3 w.heap.size (j) (nn+mv - j) dc q mv vcap vs (cur:=R) (te:=3) (dP w _) (by rw [hvl,hm,Nat.mul_one]) (fun i v hi=>by
   have h0:=hv.cell hi;unfold World.cell? at h0 ⊢;rw [show ((w.alloc (.cells R 3)).drewN m).heap[(q.add i).block]?=w.heap[(q.add i).block]? from (fS.alloc True w (.cells R 3)).keep _ (by rw [hqn];exact hqw)]
   exact h0) (by rw [hvl,hRs];omega) (fun v hv=>List.all_eq_true.1 h1 v hv)
  rw [this,hvl,hRt,hX1,show j+mv=(j+mv) by omega]
 have hcpB:∀ (m:Nat) ty dc sc,(Builtin.copy_ #[42,42] ty #[.slice (some ⟨w.heap.size,(j+mv),none⟩) (nn - j) dc,.slice (some ⟨b,j,none⟩) (nn - j) sc]).run Tryz.prog (((w.alloc (.cells R 3)).drewN m).setRow w.heap.size X1.toArray)=.ok (goInt (Nat.min (nn - j) (nn - j))) ((((w.alloc (.cells R 3)).drewN m).setRow w.heap.size X1.toArray).setRow w.heap.size X2.toArray):=fun m ty dc sc=>by
  have hm:Nat.min (nn - j) (nn - j)=nn - j:=Nat.min_self _;have hl:(cs.drop (j)).length=Nat.min (nn - j) (nn - j):=by rw [hm,List.length_drop,hcl]
  have:=jP (P:=Tryz.prog) (((w.alloc (.cells R 3)).drewN m).setRow w.heap.size X1.toArray) 42 ty 3 1 Tryz.underlying42 Tryz.sizeOf3 w.heap.size ((j+mv)) (nn - j) dc ⟨b,j,none⟩ (nn - j) sc (cs.drop (j)) (cur:=X1.toArray) (te:=3) (setRow_heap _ _ R X1.toArray 3 (0,0) (dP w _)) (by rw [hl,Nat.mul_one]) (fun i v hi=>by
   rw [mQ];have hcell:w.cell? ⟨b,j+i,none⟩=some v:=by
    refine jF hw ?_;rw [hcur,List.getElem?_append_left (by rw [List.getElem?_drop] at hi;exact (List.getElem?_eq_some_iff.1 hi).1)]
    rwa [List.getElem?_drop] at hi
   unfold World.cell? at hcell ⊢;rw [show (((w.alloc (.cells R 3)).drewN m).setRow w.heap.size X1.toArray).heap[(⟨b,j+i,none⟩:Addr).block]?=w.heap[(⟨b,j+i,none⟩:Addr).block]? from (setRow_other _ _ _ _ (by show b≠w.heap.size;omega)).trans ((fS.alloc True w (.cells R 3)).keep _ hbw)]
   exact hcell) (by rw [List.length_drop,hcl,List.size_toArray,hX1l];omega) (fun v hv=>List.all_eq_true.1 h2 v (List.mem_of_mem_drop hv))
  rw [this,show (j+mv)+(cs.drop (j)).length=(nn+mv) by rw [List.length_drop,hcl];omega];congr 3;have e1:X1.take ((j+mv))=cs.take (j)++vs:=by
   rw [hX1,List.take_append_of_le_length (by rw [List.length_append,hct,hvl];omega),List.take_of_length_le (by rw [List.length_append,hct,hvl];omega)]
  have e2:X1.drop ((nn+mv))=R.toList.drop ((nn+mv)):=by
   rw [hX1,List.drop_append,List.drop_of_length_le (by rw [List.length_append,hct,hvl];omega),List.nil_append,List.drop_drop,List.length_append,hct,hvl,show (j+mv)+((nn+mv) - (j+mv))=(nn+mv) by omega]
  simp only [List.toList_toArray,e1,e2,hX2,List.append_assoc]
 have hX2t:X2.take ((nn+mv))=cs.take (j)++vs++cs.drop (j):=by
  rw [hX2,List.take_append_of_le_length (by simp only [List.length_append,hct,hvl,List.length_drop,hcl];omega),List.take_of_length_le (by simp only [List.length_append,hct,hvl,List.length_drop,hcl];omega)]
 refine Calls.mono (R:=fun e w''=>e=.returned (.slice (some ⟨w.heap.size,0,none⟩) (nn+mv) G)∧∃ m,w''=(((w.alloc (.cells R 3)).drewN m).setRow w.heap.size X1.toArray).setRow w.heap.size X2.toArray) ?_ fun e w'' hw=>by
  obtain ⟨rfl,m,rfl⟩:=hw;exact ⟨G,X2,hGn,hGm,hX2l,hX2t,rfl,R,X1.toArray,m,rfl⟩
 have mixed:=T12.mixed;have hz2:¬((j:Int)=(nn:Int)):=by omega
 have hw2:IntKind.i64.wrap ((j:Int)+(mv:Int))=(j:Int)+(mv:Int):=by rw [IntKind.wrap_i64];omega
 have hw3:IntKind.i64.wrap ((nn:Int)+(mv:Int))=(nn:Int)+(mv:Int):=by rw [IntKind.wrap_i64];omega
 have htn:((j:Int)+(mv:Int)).toNat=j+mv:=by omega
 have hb1:(0:Int)≤(j:Int)+(mv:Int):=by omega
 have hro:(cap:Int) < (nn:Int)+(mv:Int):=by omega
 have hGi:¬(G=j):=by omega
 have hGim:¬(G=j+mv):=by omega
 have hci:¬(cap=j):=by omega
 have hin:j≤nn:=by omega
 have hb3:(j:Int)≤(nn:Int):=by omega
 have hcpA0:∀ ty dc,(Builtin.copy_ #[42,42] ty #[.slice (some ⟨w.heap.size,j,none⟩) (nn+mv - j) dc,.slice (some q) mv vcap]).run Tryz.prog (w.drew.alloc (.cells R 3))=.ok (goInt (Nat.min mv (nn+mv - j))) ((w.drew.alloc (.cells R 3)).setRow w.heap.size X1.toArray):=fun ty dc=>hcpA 1 ty dc;have hcpA1:∀ ty dc,(Builtin.copy_ #[42,42] ty #[.slice (some ⟨w.heap.size,j,none⟩) (nn+mv - j) dc,.slice (some q) mv vcap]).run Tryz.prog ((w.alloc (.cells R 3)).drew)=.ok (goInt (Nat.min mv (nn+mv - j))) (((w.alloc (.cells R 3)).drew).setRow w.heap.size X1.toArray):=fun ty dc=>hcpA 1 ty dc;have hcpB0:∀ ty dc sc,(Builtin.copy_ #[42,42] ty #[.slice (some ⟨w.heap.size,(j+mv),none⟩) (nn - j) dc,.slice (some ⟨b,j,none⟩) (nn - j) sc]).run Tryz.prog (((w.alloc (.cells R 3)).drew.setRow w.heap.size X1.toArray).drew)=.ok (goInt (Nat.min (nn - j) (nn - j))) ((((w.alloc (.cells R 3)).drew.setRow w.heap.size X1.toArray).drew).setRow w.heap.size X2.toArray):=fun ty dc sc=>hcpB 2 ty dc sc;clear hG hcpA hcpB hR hold hkk hik hcur hRt hX1 hX2 hX2t hN hq0 hv ht
 go_enter Tryz.func63,Tryz.ntmps63
 go_wp2_with (first
  | (at_builtin;refine Lib.wpList_append_run _ rfl _ _ _ _ rfl _ _ rfl rfl _ _ (hrz _) ?_)
  | (at_builtin;refine wpList_copy_runI _ rfl _ _ 42 42 rfl _ _ rfl rfl (hcpA1 _ _) ?_)
  | (at_builtin;refine wpList_copy_runI _ rfl _ _ 42 42 rfl _ _ rfl rfl (hcpA0 _ _) ?_))
 go_region_law_o (refine step_copy_runI rfl _ _ 42 42 rfl (.slice (some ⟨w.heap.size,(j+mv),none⟩) (nn - j) (G - (j+mv))) (.slice (some ⟨b,j,none⟩) (nn - j) (cap - j)) (by first | (simp [Act.eval,Act.put];done) | (simp [Act.eval,Act.put];omega)) (by first | (simp [Act.eval,Act.put];done) | (simp [Act.eval,Act.put];omega)) (hcpB0 3 (G - (j+mv)) (cap - j)) ?_)
 go_wp2
 go_ret
 exact ⟨rfl,2,rfl⟩
set_option maxHeartbeats 4000000 in
set_option maxRecDepth 100000 in
theorem Tryz.ins_none {w:World} {ad vad:Option Addr} {cap nn j vcap:Nat} (hj:j≤nn) (hc:nn≤cap) (hcm:cap≤9223372036854775807):Calls Tryz.prog 63 #[.slice ad nn cap,.int .i64 j,.slice vad 0 vcap] w fun e w'=>e=.returned (.slice ad nn cap)∧∃ n,w'=w.drewN n:=by
 have hb3:(j:Int)≤(nn:Int):=by omega
 by_cases hcj:cap=j
 ·subst hcj
  go_enter Tryz.func63,Tryz.ntmps63
  go_wp2
  go_ret
  exact ⟨rfl,0,rfl⟩
 go_enter Tryz.func63,Tryz.ntmps63
 go_wp2
 go_ret
 exact ⟨rfl,0,rfl⟩
theorem Tryz.insM63:JV Tryz.prog 63 3 1:=by
 intro w ad cap nn cs j vad vcap mv vs hr hj hb hvl hsrc h2 hne hvc;have hcl:=(jG hr).1;have hnc0:=(jG hr).2;rw [Nat.mul_one] at hvl;simp only [Nat.mul_one];rcases Nat.eq_zero_or_pos mv with h0 | hm
 ·subst h0;have hv0:vs=[]:=List.eq_nil_of_length_eq_zero (by omega);subst hv0;have hrow:nn≤cap∧cap≤9223372036854775807:=by
   rcases hr.2 with ⟨e0,h0⟩ | ⟨b,cap',cur,he,hbb,hw,hnc,hcm,hcs,ht⟩
   ·cases e0;omega
   cases he;unfold maxLen at hcm;omega
  refine (Tryz.ins_none hj hrow.1 hrow.2).mono fun e w' h=>?_;obtain ⟨rfl,n,rfl⟩:=h;refine ⟨ad,cap,rfl,?_,?_,fun b hb'=>.inl hb'⟩
  ·rw [List.append_nil,List.take_append_drop];exact hr
  exact ⟨⟨rfl,rfl,rfl,Nat.le_refl _,fun k hk hne=>rfl⟩,Nat.le_add_right _ _⟩
 rcases hsrc with h0 | ⟨_,h1,⟨_,h0,_⟩ | ⟨q,rfl,hv⟩⟩
 ·omega
 ·omega
 by_cases hjn:j=nn
 ·subst hjn;refine (Tryz.ins_endM hm hr hb hv hvl h1).mono fun e w' h=>?_;rw [List.take_of_length_le (by omega),List.drop_of_length_le (by omega),List.append_nil];exact h
 have hlt:j < nn:=by omega
 rcases hr.2 with ⟨_,h0⟩ | ⟨b,cap',cur,he,hbb,hw,hnc,hcm,hcs,ht⟩
 ·omega
 simp only [Value.slice.injEq] at he;obtain ⟨rfl,_,rfl⟩:=he;rw [Nat.mul_one] at hcs ht;have hbw:b < w.heap.size:=(Array.getElem?_eq_some_iff.1 hw).1;have h3:cap≤9223372036854775807:=by unfold maxLen at hcm;omega
 have hln:(cs.take (j)++vs++cs.drop (j)).length=(nn+mv):=by
  simp only [List.length_append,List.length_take,List.length_drop,hvl,hcl];omega
 by_cases hroom:nn+mv≤cap
 ·refine (Tryz.ins_roomM hm hw hcs ht h3 hlt hroom hb hv hvl h1 h2 (hne q rfl hm b rfl)).mono fun e w' h=>?_;obtain ⟨rfl,rfl⟩:=h;refine ⟨_,_,rfl,?_,?_,fun b' hb'=>.inl hb'⟩
  ·refine ⟨by rw [hln,Nat.mul_one],.inr ⟨b,cap,_,rfl,hbb,setRow_heap _ b _ _ 3 (0,0) (setRow_heap w.drew b cur _ 3 (0,0) hw),hroom,hcm,?_,?_⟩⟩
   ·have:(cur.toList.drop ((nn+mv))).length=cap - (nn+mv):=by rw [List.length_drop,Array.length_toList,hcs]
    rw [List.size_toArray,List.length_append,hln,this];omega
   rw [Nat.mul_one,List.toList_toArray,List.take_append_of_le_length (by rw [hln];exact Nat.le_refl _),List.take_of_length_le (by rw [hln];exact Nat.le_refl _)]
  exact oE (fun k hk hkb=>(setRow_other _ _ _ _ hkb).trans (setRow_other _ _ _ _ hkb)) rfl rfl rfl (by rw [hP,hP];exact Nat.le_refl _) (Nat.le_succ _)
 refine (Tryz.ins_growM hm hw hcs ht hnc hlt (by omega) hb hv hvl h1 h2).mono fun e w' h=>?_;obtain ⟨G,X,hG1,hG2,hXl,hXt,rfl,Y,Z,m,rfl⟩:=h;refine ⟨_,_,rfl,?_,?_,fun b' hb'=>.inr (by simp at hb';omega)⟩
 ·refine ⟨by rw [hln,Nat.mul_one],.inr ⟨w.heap.size,G,X.toArray,rfl,Nat.zero_le _,setRow_heap _ _ Z _ 3 (0,0) (setRow_heap _ _ Y _ 3 (0,0) (dP w _)),hG1,hG2,by rw [List.size_toArray,hXl,Nat.mul_one],by rw [List.toList_toArray,Nat.mul_one];exact hXt⟩⟩
 refine oE (fun k hk hkb=>?_) rfl rfl rfl ?_ ?_
 ·have hkn:k≠w.heap.size:=by omega
  exact (setRow_other _ _ _ _ hkn).trans ((setRow_other _ _ _ _ hkn).trans ((fS.alloc True w (.cells Y 3)).keep k hk))
 ·rw [hP,hP];exact (fS.alloc True w (.cells Y 3)).size
 exact Nat.le_add_right _ _
end Go.Proofs
set_option maxHeartbeats 4000000
namespace T12
open Go Go.Proofs Pk Go.RowKit
section
variable {P:Program} {r:Option Nat} {n:aO} {p:List PanicEntry→aO} {a:Act} {w:World} {D:List Deferred} {k:Nat} {L:bV} {ops:Array Oper} {rest:List Oper} {d:Nat} {ty:TypeId} {pos:String} {af:Array Edge}
theorem EG {y:Operand} {t u te:TypeId} {pe:Value} {ms:_} (hA:aU D k a L) (hu':P.underlying t=some (.interface ms)) (hd:Nat.blt d k=true) (hy:ev L y=some (.iface te pe)) (h:∀ a,aU D k a ((d,.bool false)::L)→O P r ops n p rest a w):O P r ops n p (⟨some d,.binOp .eql t y (.const .nilIface) u,ty,pos,af,none⟩::rest) a w:=by
 have hu:P.underlying t=some (.interface (P.methodsAt t)):=by rw [hu'];simp [Program.methodsAt,hu']
 refine cH rfl (fun _ h=>by cases h) (w':=w) (v:=.bool false) ?_ (h _ (hA.put hd _));simp [execOp,hA.eval hy,show a.eval (.const .nilIface)=.nilIface from rfl,eqGuard,run_eql_held_nil w t _ _ hu,Result.andThen]
theorem EH {y:Operand} {t u:TypeId} {ms:_} (hA:aU D k a L) (hu':P.underlying t=some (.interface ms)) (hd:Nat.blt d k=true) (hy:ev L y=some .nilIface) (h:∀ a,aU D k a ((d,.bool true)::L)→O P r ops n p rest a w):O P r ops n p (⟨some d,.binOp .eql t y (.const .nilIface) u,ty,pos,af,none⟩::rest) a w:=by
 have hu:P.underlying t=some (.interface (P.methodsAt t)):=by rw [hu'];simp [Program.methodsAt,hu']
 refine cH rfl (fun _ h=>by cases h) (w':=w) (v:=.bool true) ?_ (h _ (hA.put hd _));simp only [execOp,hA.eval hy,show a.eval (.const .nilIface)=.nilIface from rfl];simp [eqGuard,run_eql_nil_nil w t hu,Result.andThen]
theorem EI {y:Operand} {xT t:TypeId} {v:Value} {ds:TypeDesc} (hA:aU D k a L) (hd:Nat.blt d k=true) (hu:P.underlying t=some ds) (hds:(match ds with | .interface _=>false | _=>true)=true) (hy:ev L y=some (.iface t v))
  (h:∀ a,aU D k a ((d,.tuple #[v,.bool true])::L)→O P r ops n p rest a w):O P r ops n p (⟨some d,.typeAssert y xT t true,ty,pos,af,none⟩::rest) a w :=
 cH rfl (fun _ h=>by cases h) (w':=w) (v:=.tuple #[v,.bool true]) (by
  simp only [execOp,Instr.typeAssert,hA.eval hy]
  cases ds <;> simp at hds <;> simp [run_underlying hu,Result.andThen]) (h _ (hA.put hd _))
end
theorem EJ (q:Addr) (w:World):CallsD Tryz.prog 24 #[.pointer (some q)] .returning w fun e u' w'=>e=.returned (.tuple #[])∧u'=.returning∧w'=w:=by
 refine callsD_of_wpS Tryz.func24 rfl fun c₀ cs hu=>?_;apply wpS_seq;apply wpS_region;simp [wpOpsS,go_sem,recoverD,hu,Tryz.ntmps24,Exit.thenS];refine wpS_of_wp ?_;refine (wpIn_wide (n:=0)).1 (wpIn_mono (show Pk.W Tryz.prog none _ (fun a w'=>a.defers=[]∧w'=w) (fun _ _=>False) [] (fun _ _ _=>False) _ w from ?_) ?_)
 ·have hA:aU [] 12 { tmps:=#[.pointer (some q)]++((Array.replicate 11 undef).setIfInBounds 3 .nilIface),defers:=[] } [(0,.pointer (some q)),(4,.nilIface)]:=by
   refine ⟨rfl,by simp,fun i u h=>?_⟩;rcases i with _ | _ | _ | _ | _ | i
   ·exact h
   ·cases h
   ·cases h
   ·cases h
   ·exact h
   cases (show (none:Option Value)=some u from h)
  revert hA;generalize ({ tmps:=_,defers:=[] }:Act)=a;intro hA;refine kE (fF (cU (EH hA Tryz.underlying20 rfl rfl fun a hA=>eQ (hU hA rfl (fun _=>?_) (fun h=>by cases h)))));exact cU (eH hA rfl rfl fun a hA=>eQ ⟨hA.defers,rfl⟩)
 intro z a w' hz
 cases z with
 | normal =>
  obtain ⟨hd,rfl⟩:=hz;exact ⟨hd,.returning,by cases c₀;simp_all,.tuple #[],by simp [results,Tryz.results24],rfl,rfl,rfl⟩
 | ret=>exact hz.elim
 | panic ch=>exact hz.elim
 | exit id=>obtain ⟨K,hK,_⟩:=hz;simp [pK] at hK
 | goto l=>exact hz
 | outgrown=>exact hz.elim
theorem EK {M:Prop} {W w:World} {H:Hp} {Hs:List Hp} {b tE:Nat} {z0:Value} {u:Int} {σr:aJ} (hS:St M W H Hs ((tE,aH b 26 [z0])::σr) w) (hT:Nat.beq 999999 tE=false) :
  CallsD Tryz.prog 24 #[.pointer (some ⟨b,0,none⟩)] (.panicking (IF (.iface 74 (.agg [.int .i64 u].toArray)))) w fun e u' w'=>(∃ v,e=.returned v)∧settle u'=.returning ∧
   ∃ b3 cs3,St M W H Hs ((999999,aH b3 74 cs3)::(tE,aH b 26 [.int .i64 u])::σr) w':=by
 refine callsD_of_wpS Tryz.func24 rfl fun c₀ cs hu=>?_;apply wpS_seq;apply wpS_region;obtain ⟨v,hv⟩:∃ v:Value,v=.agg [.int .i64 u].toArray:=⟨_,rfl⟩;rw [← hv] at hu;simp [wpOpsS,go_sem,recoverD,hu,Tryz.ntmps24,Exit.thenS,IF];refine wpS_of_wp ?_;refine (wpIn_wide (n:=0)).1 (wpIn_mono (show Pk.W Tryz.prog none _ (fun a w=>a.defers=[]∧∃ b3 cs3,St M W H Hs ((999999,aH b3 74 cs3)::(tE,aH b 26 [.int .i64 u])::σr) w) (fun _ _=>False) [] (fun _ _ _=>False) _ w from ?_) ?_)
 ·have hA:aU [] 12 { tmps:=#[.pointer (some ⟨b,0,none⟩)]++((Array.replicate 11 undef).setIfInBounds 3 (.iface 74 v)),defers:=[] } [(0,.pointer (some ⟨b,0,none⟩)),(4,.iface 74 v)]:=by
   refine ⟨rfl,by simp,fun i u h=>?_⟩;rcases i with _ | _ | _ | _ | _ | i
   ·exact h
   ·cases h
   ·cases h
   ·cases h
   ·exact h
   cases (show (none:Option Value)=some u from h)
  revert hA;generalize ({ tmps:=_,defers:=[] }:Act)=a;intro hA;subst hv;refine kE (fF (cU (EG hA Tryz.underlying20 rfl rfl fun a hA=>eQ (hU hA rfl (fun h=>by cases h) (fun _=>?_)))));refine fF (cU (EI hA rfl Tryz.underlying74 rfl rfl fun a hA=>kI (vs:=[.agg [.int .i64 u].toArray,.bool true]) hA rfl rfl rfl fun a hA=>kI (vs:=[.agg [.int .i64 u].toArray,.bool true]) hA rfl rfl rfl fun a hA=>eQ (hU hA rfl (fun _=>?_) (fun h=>by cases h))));refine fF (cU (oO 999999 hA rfl hS Tryz.zeroValue74 rfl fun b3 w hS hb a hA=>?_));refine kJ 999999 (cs:=[.int .i64 u]) hA hS rfl rfl Tryz.sizeOf74 rfl rfl rfl rfl rfl fun w hS a hA=>eQ ?_;refine cU (OC (cs:=[.int .i64 u]) (v:=.int .i64 u) hA rfl rfl rfl Tryz.underlying74 rfl Tryz.sizeOf26 Tryz.isAgg26 ?_ rfl fun a hA=>?_)
  ·exact sO (x:=⟨[],12,M,W,H⟩) 999999 rfl w hS
  refine kJ tE (t0:=26) (l:=[z0]) (cs:=[.int .i64 u]) hA hS rfl rfl Tryz.sizeOf26 (by simp [cA,dD,hT]) rfl rfl rfl rfl fun w hS a hA=>eQ ?_;refine ⟨hA.defers,b3,[.int .i64 u],?_⟩;simpa [dD,hT,iU,bK] using hS
 intro z a w' hz
 cases z with
 | normal =>
  obtain ⟨hd,h⟩:=hz;subst hv;exact ⟨hd,.panicking [{ v:=.iface 74 (.agg [.int .i64 u].toArray),recovered:=true }],rfl,.tuple #[],by simp [results,Tryz.results24],⟨_,rfl⟩,rfl,h⟩
 | ret=>exact hz.elim
 | panic ch=>exact hz.elim
 | exit id=>obtain ⟨K,hK,_⟩:=hz;simp [pK] at hK
 | goto l=>exact hz
 | outgrown=>exact hz.elim
variable {R:Ending→World→Prop} {M:Prop} {W:World} {H:Hp} {Hs:List Hp} {σ:aJ} {L:bV} {b:Nat}
theorem PD (h:TG ⟨[],56,M,W,H⟩ Hs σ L (Rt Tryz.prog Tryz.f21 R)):TG ⟨[BN 24 [.pointer (some ⟨b,0,none⟩)]],56,M,W,H⟩ Hs σ L (JS Tryz.prog Tryz.f21 R) :=
 rtF Tryz.call24 (fun w hS=>(EJ ⟨b,0,none⟩ w).mono (by rintro e u w' ⟨rfl,rfl,rfl⟩;exact ⟨⟨_,rfl⟩,rfl,hS⟩)) h
theorem PE {tE:Nat} {u:Int} {z0:Value} {σr:aJ} (hT:Nat.beq 999999 tE=false)
  (h:∀ b3 cs3,TG ⟨[],56,M,W,H⟩ Hs ((999999,aH b3 74 cs3)::(tE,aH b 26 [.int .i64 u])::σr) L (Rt Tryz.prog Tryz.f21 R)) :
  TG ⟨[BN 24 [.pointer (some ⟨b,0,none⟩)]],56,M,W,H⟩ Hs ((tE,aH b 26 [z0])::σr) L (JT Tryz.prog Tryz.f21 R (IF (.iface 74 (.agg [.int .i64 u].toArray)))) :=
 pnF (σ':=fun b3 cs3=>(999999,aH b3 74 cs3)::(tE,aH b 26 [.int .i64 u])::σr) Tryz.call24 (fun w hS=>EK hS hT) h
section
open Go.Lib
theorem KB (w:World):PredAtRunes Tryz.prog 107 #[] (fun x=>x==32) w:=by
 intro W x hx hb;show Calls Tryz.prog 107 #[encR x] W _
 go_enter Tryz.func107,Tryz.ntmps107
 go_wp2
 first | go_ret | go_ret2
 exact ⟨by simp [encR];rw [Bool.eq_iff_iff];simp;omega,0,rfl⟩
noncomputable def EM (s:aE):Option (List aE):=bZ (s.length≤1073741824) (some ((goFieldsP (fun x=>x==32) (bs s)).map (·.data.toList)))
theorem PF {M:Prop} {W:World} {H:Hp} (hH:H.le (hp W)) (hg:Gv M H) (s:aE) {r:List aE} (hr:EM s=some r):Calls Tryz.prog 106 [.string (bs s),.func (.func 107) [].toArray [].toArray].toArray W (eF M H W (fun v K=>∃ (ad0:Option Addr) (cap0:Nat),v=.slice ad0 r.length cap0∧Sl (aB bD) 1 K ad0 cap0 r)):=by
 unfold EM at hr;obtain ⟨hl,hr⟩:=aD hr;obtain rfl:=Option.some.inj hr;refine (Any.strings_FieldsFunc_runes Tryz.lays229 107 #[] Tryz.call107 (fun x=>x==32) (bs s) W (by rw [eW];omega) (KB W) (by kernel_rfl) (by kernel_rfl)).mono ?_;rintro e w' ⟨A,rfl,hA,ho,hb⟩;have hE:fS M W w':=fS.of_below hg.gl.nq hb;generalize goFieldsP (fun x=>x==32) (bs s)=l at ho;refine ⟨⟨some ⟨A,0,none⟩,l.length,by rw [List.length_map],?_⟩,hE⟩;rcases ho.2 with ⟨h,_⟩ | ⟨g,cap,cur,h,_,hg,h1,h2,h3,h4⟩
 ·cases h
 cases h;refine ⟨by rw [List.length_map];unfold maxLen at h2;omega,fun i x hx=>?_⟩;rw [List.getElem?_map,Option.map_eq_some_iff] at hx;obtain ⟨y,hy,rfl⟩:=hx;refine ⟨_,bD y.data.toList,rfl,rfl,rfl,⟨by rw [cV rfl],fun j v hv=>?_⟩,rfl⟩;rw [cV rfl]
 cases j with
 | succ j=>simp [bD] at hv
 | zero =>
  have hv:v=.string (bs y.data.toList):=by simpa [bD] using hv.symm
  subst hv;refine ⟨cur,9,(0,0),by show (if A < W.heap.size then _ else w'.heap[A]?)=_;rw [if_neg (by omega)];exact hg,?_⟩;have hi:i < l.length:=(List.getElem?_eq_some_iff.1 hy).1;have:(cur.toList.take (l.length*1))[i]?=some (.string y):=by rw [h4];simp [hy]
  rw [List.getElem?_take,if_pos (by omega)] at this;rw [← IM y];simpa using this
end
end T12
set_option maxHeartbeats 4000000
namespace T12
open Go Go.Proofs Pk
noncomputable def PG  : Option (List aE) :=
 some ([[104,111,117,115,101,32,53],[115,97,121,32,49,49,32,84,104,101,32,72,111,117,115,101,32,109,101,116,46],[109,111,118,101,32,116,104,105,115,32,72,111,117,115,101,32,110,111,116,101,115,32,116,104,101,32,114,101,112,111,114,116],[112,97,112,101,114,32,51,32,48,32,50,32,51,32,119,101,108,99,111,109,101,115],[97,100,111,112,116,32,51],[100,105,118,105,100,101,32,48,32,48,32,51,32,50],[116,101,108,108,32,49,32,48,32,48],[116,101,108,108,32,49,32,49,32,48],[116,101,108,108,32,49,32,48,32,49],[116,101,108,108,32,49,32,49,32,49],[116,101,108,108,32,50,32,48,32,52],[114,101,115,117,108,116],[116,101,108,108,32,50,32,49,32,52],[114,101,115,117,108,116],[111,114,100,101,114,32,49,50],[98,105,110,100,32,51,32,52,32,50,48],[104,105,100,101,32,49,49,32,50,32,49,57,57,48],[99,105,116,101,32,49,50,32,48]]:List aE)
noncomputable def oF (s_0:List aE) (f_1:aE→Option Bool) (s0:Nat):Option ((Nat)⊕((Unit)⊕Int)) :=
 if (s0:Int) < (s_0.length:Int) then (
  (s_0[s0]?).bind fun x0 =>
  (f_1 x0).bind fun r0 =>
  if r0 then (
   some (.inr (.inr (s0:Int))))
  else
  some (.inl (s0+1)))
 else
 some (.inr (.inl ()))
noncomputable def NH (s_0:List aE) (f_1:aE→Option Bool):Option (Int) :=
 (bH (oF s_0 f_1) 0).bind fun e19=>match e19 with
 | .inr z=>some z
 | .inl t0 =>
 some (-1)
noncomputable def m15 (s_0:List aE) (f_1:aE→Option Bool):Option (Bool) :=
 (NH s_0 f_1).bind fun r1 =>
 some (decide (0≤r1))
noncomputable def m16 (s_0:aE):Option (Bool) :=
 some (decide (400 < (s_0.length:Int)))
noncomputable def II (lines:List aE):Option (Int) :=
 ((
  if 60 < (lines.length:Int) then (
   some true)
  else
  (m15 lines (m16)).bind fun r0 =>
  some r0
 ):Option (Bool)).bind fun t8 =>
 if t8 then (
  some 3)
 else
 some 0
noncomputable def oG (n_0:Int) (low:Int) (high:Int):Option (Bool) :=
 ((
  if low≤n_0 then (
   some (decide (n_0≤high)))
  else
  some false
 ):Option (Bool)).bind fun t4 =>
 some t4
noncomputable def ZM (is:Bool) (e_1:Int):Option (Unit) :=
 if is then (
  none)
 else
 none
noncomputable def PH (s_0:List dS):Option (List dS) :=
 bZ (([]:List dS).length+s_0.length≤1073741824) <|
 some (([]:List dS)++s_0)
noncomputable def PI (s_0:List aG):Option (List aG) :=
 bZ (([]:List aG).length+s_0.length≤1073741824) <|
 some (([]:List aG)++s_0)
noncomputable def PJ (l_0:List aG) (x_1:aG):Option (List aG) :=
 (PI l_0).bind fun r4 =>
 bZ (r4.length+([x_1]:List aG).length≤1073741824) <|
 some (r4++([x_1]:List aG))
noncomputable def PK (b_0:aF) (parts:List dS):Option (cG) :=
 some (⟨1,b_0.state.day,1,10,parts⟩:cG)
noncomputable def BU (v_0:cG) (s0:Nat×List aG):Option ((Nat×List aG)⊕(List aG)) :=
 if (s0.1:Int) < (v_0.parts.length:Int) then (
  (v_0.parts[s0.1]?).bind fun x0 =>
  bZ (s0.2.length+x0.paragraphs.length≤1073741824) <|
  some (.inl ((s0.1+1),(s0.2++x0.paragraphs))))
 else
 some (.inr s0.2)
noncomputable def IJ (v_0:cG):Option (List aG) :=
 (bH (BU v_0) (0,([]:List aG))).bind fun e82 =>
 some e82
noncomputable def oZ (n_0:Int) (low:Int) (high:Int):Option (Bool) :=
 if low≤n_0 then (
  some (decide (n_0≤high)))
 else
 none
noncomputable def KC (n_0:Int):Option (Bool) :=
 (oZ n_0 0 99999).bind fun r1 =>
 some r1
noncomputable def vI (x_0:aG) (f0_:aG→Option Bool):Option (Bool) :=
 (f0_ x_0).bind fun r4 =>
 some (!r4)
noncomputable def vJ (s_0:List aG) (f_1:aG→Option Bool) (s0:Nat):Option ((Nat)⊕(Unit)) :=
 if (s0:Int) < (s_0.length:Int) then (
  (s_0[s0]?).bind fun x0 =>
  (f_1 x0).bind fun r0 =>
  if r0 then (
   none)
  else
  some (.inl (s0+1)))
 else
 some (.inr ())
noncomputable def EN (s_0:List aG) (f_1:aG→Option Bool):Option (Int) :=
 (bH (vJ s_0 f_1) 0).bind fun e19 =>
 some (-1)
noncomputable def EO (s_0:List aG) (f_1:aG→Option Bool):Option (Bool) :=
 (EN s_0 f_1).bind fun r1 =>
 some (decide (0≤r1))
noncomputable def EP (l_0:List aG) (right:aG→Option Bool):Option (Bool) :=
 (EO l_0 (fun x0_=>vI x0_ right)).bind fun r5 =>
 some (!r5)
noncomputable def EQ (n_0:Int):Option (Bool) :=
 (oZ n_0 1 999).bind fun r1 =>
 some r1
noncomputable def vK (x_0:Int) (f0_:Int→Option Bool):Option (Bool) :=
 (f0_ x_0).bind fun r1 =>
 some (!r1)
noncomputable def vL (s_0:List UInt8) (f_1:Int→Option Bool) (s0:Nat):Option ((Nat)⊕(Unit)) :=
 if (s0:Int) < (s_0.length:Int) then (
  (s_0[s0]?).bind fun x0 =>
  (f_1 (x0.toNat:Int)).bind fun r0 =>
  if r0 then (
   none)
  else
  some (.inl (s0+1)))
 else
 some (.inr ())
noncomputable def ER (s_0:List UInt8) (f_1:Int→Option Bool):Option (Int) :=
 (bH (vL s_0 f_1) 0).bind fun e19 =>
 some (-1)
noncomputable def zV (s_0:List UInt8) (f_1:Int→Option Bool):Option (Bool) :=
 (ER s_0 f_1).bind fun r1 =>
 some (decide (0≤r1))
noncomputable def ES (l_0:List UInt8) (right:Int→Option Bool):Option (Bool) :=
 (zV l_0 (fun x0_=>vK x0_ right)).bind fun r5 =>
 some (!r5)
noncomputable def vM (c_0:Int):Option (Bool) :=
 if (32:Int)≤c_0 then (
  some (decide (c_0≤126)))
 else
 none
noncomputable def ET (s_0:aE):Option (Bool) :=
 (oZ (s_0.length:Int) 1 200).bind fun r0 =>
 if r0 then (
  bZ (s_0.length≤1073741824) <|
  (ES s_0 (vM)).bind fun r1 =>
  some r1)
 else
 none
noncomputable def vN (p_0:aG):Option (Bool) :=
 (EQ p_0.anchor).bind fun r0 =>
 if r0 then (
  (ET p_0.text).bind fun r1 =>
  some r1)
 else
 none
noncomputable def BV (v_0:cG) (s0:Nat):Option ((Nat)⊕(Unit)) :=
 if (s0:Int) < (v_0.parts.length:Int) then (
  (v_0.parts[s0]?).bind fun x0 =>
  (KC x0.day).bind fun r0 =>
  if r0 then (
   if v_0.bound < x0.day then (
    none)
   else
   if 0 < (s0:Int) then (
    none)
   else
   some (.inl (s0+1)))
  else
  none)
 else
 some (.inr ())
noncomputable def PL (v_0:cG):Option (Bool) :=
 (bH (BV v_0) 0).bind fun e37 =>
 (oZ v_0.number 1 99).bind fun r0 =>
 if r0 then (
  (KC v_0.bound).bind fun r1 =>
  if r1 then (
   (oZ v_0.height 1 60).bind fun r2 =>
   if r2 then (
    (oZ v_0.width 10 80).bind fun r3 =>
    if r3 then (
     (IJ v_0).bind fun r4 =>
     (EP r4 (vN)).bind fun r5 =>
     some r5)
    else
    none)
   else
   none)
  else
  none)
 else
 none
noncomputable def BW (r7:List aG) (s0:Nat×(List (Int×Bool))):Option ((Nat×(List (Int×Bool)))⊕((List (Int×Bool)))) :=
 if (s0.1:Int) < (r7.length:Int) then (
  (r7[s0.1]?).bind fun x0 =>
  if (iH s0.2 x0.anchor).getD false then (
   none)
  else
  some (.inl ((s0.1+1),(put s0.2 x0.anchor true))))
 else
 some (.inr s0.2)
noncomputable def KD (v_0:cG):Option (Int) :=
 (IJ v_0).bind fun r7 =>
 if 6 < (v_0.parts.length:Int) then (
  none)
 else
 if 30 < (r7.length:Int) then (
  none)
 else
 (PL v_0).bind fun r0 =>
 if r0 then (
  (bH (BW r7) (0,([]:List (Int×Bool)))).bind fun e90 =>
  some 0)
 else
 none
noncomputable def NI (b_0:aF) (l_1:List Int) (text:aE):Option (aF⊕Int) :=
 ((
  if b_0.state.bound then (
   some (.inr (.inr 8)))
  else
  some (.inl ())
 ):Option ((Unit)⊕(aF⊕Int))).bind fun t1=>match t1 with
 | .inr z=>some z
 | .inl t5 =>
 (l_1[0]?).bind fun x0 =>
 (PH b_0.state.volume.parts).bind fun r0 =>
 ((
  if 0≤((r0.length:Int) - 1) then (
   (r0[((r0.length:Int) - 1).toNat]?).bind fun x2 =>
   some (decide (x2.day=b_0.state.day)))
  else
  some false
 ):Option (Bool)).bind fun t2 =>
 ((
  if t2 then (
   bZ (0≤((r0.length:Int) - 1)) <|
   (r0[((r0.length:Int) - 1).toNat]?).bind fun x1 =>
   (PJ x1.paragraphs (⟨x0,text⟩:aG)).bind fun r2 =>
   some (r0.set (((r0.length:Int) - 1).toNat) (⟨x1.day,r2⟩:dS)))
  else
  bZ (r0.length+([(⟨b_0.state.day,([(⟨x0,text⟩:aG)]:List aG)⟩:dS)]:List dS).length≤1073741824) <|
  some (r0++([(⟨b_0.state.day,([(⟨x0,text⟩:aG)]:List aG)⟩:dS)]:List dS))
 ):Option (List dS)).bind fun t0 =>
 (PK b_0 t0).bind fun r3 =>
 (KD r3).bind fun r1 =>
 ((
  ((
   if r1=0 then (
    some (.inl ()))
   else
   some (.inr (.inr (.inr r1)))
  ):Option ((Unit)⊕((Unit)⊕(aF⊕Int)))).bind fun t3=>match t3 with
  | .inr z=>some z
  | .inl t6 =>
  some (.inl ())
 ):Option ((Unit)⊕(aF⊕Int))).bind fun t4=>match t4 with
 | .inr z=>some z
 | .inl t7 =>
 some (.inl (⟨(⟨b_0.state.day,b_0.state.house,(⟨b_0.state.volume.number,b_0.state.volume.bound,b_0.state.volume.height,b_0.state.volume.width,t0⟩:cG),b_0.state.bound,b_0.state.errata,b_0.state.hides,b_0.state.cites,b_0.state.motion,b_0.state.moved,b_0.state.choice,b_0.state.division,b_0.state.open_,b_0.state.results⟩:dF)⟩:aF))
noncomputable def PM (b_0:aF) (l_1:List Int) (__2:aE):Option (aF⊕Int) :=
 ((
  if b_0.state.bound then (
   some (.inr (.inr 8)))
  else
  some (.inl ())
 ):Option ((Unit)⊕(aF⊕Int))).bind fun t0=>match t0 with
 | .inr z=>some z
 | .inl t3 =>
 (l_1[0]?).bind fun x0 =>
 (l_1[1]?).bind fun x1 =>
 (l_1[2]?).bind fun x2 =>
 (KD (⟨x0,b_0.state.day,x1,x2,b_0.state.volume.parts⟩:cG)).bind fun r0 =>
 ((
  ((
   if r0=0 then (
    some (.inl ()))
   else
   some (.inr (.inr (.inr r0)))
  ):Option ((Unit)⊕((Unit)⊕(aF⊕Int)))).bind fun t1=>match t1 with
  | .inr z=>some z
  | .inl t4 =>
  some (.inl ())
 ):Option ((Unit)⊕(aF⊕Int))).bind fun t2=>match t2 with
 | .inr z=>some z
 | .inl t5 =>
 some (.inl (⟨(⟨b_0.state.day,b_0.state.house,(⟨x0,b_0.state.day,x1,x2,b_0.state.volume.parts⟩:cG),true,b_0.state.errata,b_0.state.hides,b_0.state.cites,b_0.state.motion,b_0.state.moved,b_0.state.choice,b_0.state.division,b_0.state.open_,b_0.state.results⟩:dF)⟩:aF))
noncomputable def tC (s_0:List aT):Option (List aT) :=
 bZ (([]:List aT).length+s_0.length≤1073741824) <|
 some (([]:List aT)++s_0)
noncomputable def ZN (l_0:List aT) (x_1:aT):Option (List aT) :=
 (tC l_0).bind fun r4 =>
 bZ (r4.length+([x_1]:List aT).length≤1073741824) <|
 some (r4++([x_1]:List aT))
noncomputable def vO (x_0:aT) (f0_:aT→Option Bool):Option (Bool) :=
 (f0_ x_0).bind fun r4 =>
 some (!r4)
noncomputable def vP (s_0:List aT) (s8:Nat):Option ((Nat)⊕(Unit)) :=
 if (s8:Int) < (s_0.length:Int) then (
  none)
 else
 some (.inr ())
noncomputable def EU (s_0:List aT) (f_1:aT→Option Bool):Option (Int) :=
 (bH (vP s_0) 0).bind fun e5 =>
 some (-1)
noncomputable def EV (s_0:List aT) (f_1:aT→Option Bool):Option (Bool) :=
 (EU s_0 f_1).bind fun r1 =>
 some (decide (0≤r1))
noncomputable def EW (l_0:List aT) (right:aT→Option Bool):Option (Bool) :=
 (EV l_0 (fun x0_=>vO x0_ right)).bind fun r5 =>
 some (!r5)
noncomputable def vQ (x_0:aT):Option (Bool) :=
 (oZ x_0.number 1 999).bind fun r0 =>
 if r0 then (
  none)
 else
 none
noncomputable def vT (x_0:Int):Option (Bool) :=
 some (decide (x_0≠x_0))
noncomputable def zW (x_0:Int) (y_1:Int):Option (Int) :=
 (vT x_0).bind fun r1 =>
 (vT y_1).bind fun r4 =>
 if r1 then (
  none)
 else
 none
noncomputable def vU (vals:List Int) (s8:Nat):Option ((Nat)⊕(Int)) :=
 if (s8:Int) < (vals.length:Int) then (
  none)
 else
 none
noncomputable def EX (vals:List Int):Option (Int) :=
 (bH (vU vals) 0).bind fun e5=>some e5
noncomputable def vV (a_0:aT) (b_1:aT):Option (Int) :=
 (zW a_0.day b_1.day).bind fun r7 =>
 (zW a_0.number b_1.number).bind fun r0 =>
 (EX ([r7,r0]:List Int)).bind fun r1 =>
 some r1
noncomputable def vW (r1:List aT) (s0:Nat):Option ((Nat)⊕(Unit)) :=
 if (s0:Int) < (r1.length:Int) then (
  none)
 else
 none
noncomputable def KE (yield:aT→Option Bool) (f0_:List aT) (f1_:Int):Option (Unit) :=
 (tC f0_).bind fun r1 =>
 (iN (vV) r1).bind fun l6 =>
 (bH (vW r1) 0).bind fun e14=>some e14
noncomputable def vX (r0:List aG) (s0:Nat×(List (Int×Bool))):Option ((Nat×(List (Int×Bool)))⊕((List (Int×Bool)))) :=
 if (s0.1:Int) < (r0.length:Int) then (
  (r0[s0.1]?).bind fun x0 =>
  some (.inl ((s0.1+1),(put s0.2 x0.anchor true))))
 else
 some (.inr s0.2)
noncomputable def vY (r0:List aT) (s0:Nat):Option ((Nat)⊕(Unit)) :=
 if (s0:Int) < (r0.length:Int) then (
  none)
 else
 some (.inr ())
noncomputable def EY (v_0:cG) (errata:List aT):Option (Int) :=
 (IJ v_0).bind fun r1 =>
 (bH (vX r1) (0,([]:List (Int×Bool)))).bind fun e47 =>
 ((
  (tC errata).bind fun r0 =>
  (iN (vV) r0).bind fun l0 =>
  (bH (vY r0) 0).bind fun eA1 =>
  some ()
 ):Option (Unit)).bind fun t0 =>
 some 0
noncomputable def BX (r0:List aG) (s0:Nat×(List (Int×Bool))):Option ((Nat×(List (Int×Bool)))⊕((List (Int×Bool)))) :=
 if (s0.1:Int) < (r0.length:Int) then (
  (r0[s0.1]?).bind fun x0 =>
  some (.inl ((s0.1+1),(put s0.2 x0.anchor true))))
 else
 some (.inr s0.2)
noncomputable def BY (errata:List aT) (s0:Nat):Option ((Nat)⊕(Unit)) :=
 if (s0:Int) < (errata.length:Int) then (
  none)
 else
 some (.inr ())
noncomputable def KF (v_0:cG) (errata:List aT):Option (Int) :=
 (KD v_0).bind fun r7 =>
 if r7≠0 then (
  none)
 else
 if 20 < (errata.length:Int) then (
  none)
 else
 (EW errata (vQ)).bind fun r0 =>
 if r0 then (
  (IJ v_0).bind fun r1 =>
  (bH (BX r1) (0,([]:List (Int×Bool)))).bind fun e88 =>
  (bH (BY errata) 0).bind fun eA1 =>
  (EY v_0 errata).bind fun r2 =>
  some r2)
 else
 none
noncomputable def BZ (b_0:gH) (s0:Nat×Nat×Nat×Bool):Option ((Nat×Nat×Nat×Bool)⊕(Int×Int×Bool)) :=
 if (s0.2.2.1:Int) < (b_0.parts.length:Int) then (
  none)
 else
 none
noncomputable def ZO (b_0:gH) (anchor:Int):Option (Int×Int×Bool) :=
 (bH (BZ b_0) (0,0,0,false)).bind fun e11=>some e11
noncomputable def KG  : Option (Unit) :=
 some ()
noncomputable def CA (x0:dS) (s0:Nat×List fU):Option ((Nat×List fU)⊕(List fU)) :=
 if (s0.1:Int) < (x0.paragraphs.length:Int) then (
  (x0.paragraphs[s0.1]?).bind fun x1 =>
  bZ (s0.2.length+1≤1073741824) <|
  some (.inl ((s0.1+1),(s0.2++[(⟨x1,false⟩:fU)]))))
 else
 some (.inr s0.2)
noncomputable def CB (v_0:cG) (s0:Nat×List (List fU)):Option ((Nat×List (List fU))⊕(List (List fU))) :=
 if (s0.1:Int) < (v_0.parts.length:Int) then (
  (v_0.parts[s0.1]?).bind fun x0 =>
  (bH (CA x0) (0,([]:List fU))).bind fun eA1 =>
  bZ (s0.2.length+1≤1073741824) <|
  some (.inl ((s0.1+1),(s0.2++[eA1]))))
 else
 some (.inr s0.2)
noncomputable def CC (r0:List aT) (s0:Nat):Option ((Nat)⊕(Unit)) :=
 if (s0:Int) < (r0.length:Int) then (
  none)
 else
 some (.inr ())
noncomputable def NJ (v_0:cG) (errata:List aT) (to_2:Int):Option (gH) :=
 (bH (CB v_0) (0,([]:List (List fU)))).bind fun eA1 =>
 ((
  (tC errata).bind fun r0 =>
  (iN (vV) r0).bind fun l0 =>
  (bH (CC r0) 0).bind fun eB1 =>
  some ()
 ):Option (Unit)).bind fun t0 =>
 some (⟨v_0,eA1⟩:gH)
noncomputable def ZP (v_0:cG) (errata:List aT) (to_2:Int):Option (List aG×Int) :=
 (KF v_0 errata).bind fun r7 =>
 if r7≠0 then (
  none)
 else
 none
noncomputable def KH (b_0:aF) (x_1:aT):Option (aF⊕Int) :=
 if b_0.state.bound then (
  none)
 else
 none
noncomputable def PN (b_0:aF) (l_1:List Int) (text:aE):Option (aF⊕Int) :=
 (l_1[0]?).bind fun x0 =>
 (l_1[1]?).bind fun x1 =>
 (KH b_0 (⟨x0,0,0,x1,text,0⟩:aT)).bind fun r0=>match r0 with
 | .inl y0=>(
  none)
 | .inr _=>(
  none)
noncomputable def PO (b_0:aF) (l_1:List Int) (__2:aE):Option (aF⊕Int) :=
 (l_1[0]?).bind fun x0 =>
 (l_1[1]?).bind fun x1 =>
 (KH b_0 (⟨x0,0,1,x1,[],0⟩:aT)).bind fun r0=>match r0 with
 | .inl y0=>(
  none)
 | .inr _=>(
  none)
noncomputable def PP (b_0:aF) (l_1:List Int) (text:aE):Option (aF⊕Int) :=
 (l_1[0]?).bind fun x0 =>
 (l_1[1]?).bind fun x1 =>
 (l_1[2]?).bind fun x2 =>
 (KH b_0 (⟨x0,0,2,x1,text,x2⟩:aT)).bind fun r0=>match r0 with
 | .inl y0=>(
  none)
 | .inr _=>(
  none)
noncomputable def CD (x0:List fU) (anchor:Int) (s1:Nat×Nat×Nat×Bool) (s0:Nat×Nat×Nat×Bool):Option ((Nat×Nat×Nat×Bool)⊕((Nat×Nat×Nat×Bool)⊕(Nat×Nat×Bool))) :=
 if (s0.2.2.1:Int) < (x0.length:Int) then (
  (x0[s0.2.2.1]?).bind fun x1 =>
  if x1.paragraph.anchor=anchor then (
   Option.map (fun z=>.inr z) (
   some (.inr (s1.2.2.1,s0.2.2.1,true))))
  else
  none)
 else
 none
noncomputable def CE (r0:gH) (anchor:Int) (s0:Nat×Nat×Nat×Bool):Option ((Nat×Nat×Nat×Bool)⊕(Nat×Nat×Bool)) :=
 if (s0.2.2.1:Int) < (r0.parts.length:Int) then (
  (r0.parts[s0.2.2.1]?).bind fun x0 =>
  (bH (CD x0 anchor s0) (s0.1,s0.2.1,0,s0.2.2.2)).bind fun eA1=>some eA1)
 else
 none
noncomputable def PQ (v_0:cG) (errata:List aT) (anchor:Int) (to_3:Int):Option (aE×Bool×Int) :=
 (KF v_0 errata).bind fun r7 =>
 if r7≠0 then (
  none)
 else
 (KC to_3).bind fun r1 =>
 if r1 then (
  (NJ v_0 errata to_3).bind fun r0 =>
  ((
   (bH (CE r0 anchor) (0,0,0,false)).bind fun eA1 =>
   some (eA1.2.1,eA1.1,eA1.2.2)
  ):Option (Nat×Nat×Bool)).bind fun t0 =>
  if t0.2.2 then (
   (r0.parts[t0.2.1]?).bind fun x1 =>
   (x1[t0.1]?).bind fun x0 =>
   some (x0.paragraph.text,x0.removed,0))
  else
  none)
 else
 none
noncomputable def CF (x1:List fU) (v_0:cG) (s1:Nat×Int×List cM) (s0:Nat×Nat×Int×List cM):Option ((Nat×Nat×Int×List cM)⊕(Int×List cM)) :=
 if (s0.2.1:Int) < (x1.length:Int) then (
  (x1[s0.2.1]?).bind fun x0 =>
  if x0.removed then (
   none)
  else
  bZ (-9223372036854775808≤((s0.1:Int)+1)∧((s0.1:Int)+1)≤9223372036854775807) <|
  bZ (-9223372036854775808≤((x0.paragraph.text.length:Int)+v_0.width)∧((x0.paragraph.text.length:Int)+v_0.width)≤9223372036854775807) <|
  bZ (-9223372036854775808≤(((x0.paragraph.text.length:Int)+v_0.width) - 1)∧(((x0.paragraph.text.length:Int)+v_0.width) - 1)≤9223372036854775807) <|
  bZ (0≤(((x0.paragraph.text.length:Int)+v_0.width) - 1)∧(((x0.paragraph.text.length:Int)+v_0.width) - 1)≤9223372036854775807∧0 < v_0.width) <|
  bZ (0≤s0.2.2.1∧s0.2.2.1≤9223372036854775807∧0 < v_0.height) <|
  bZ (-9223372036854775808≤(s1.2.1+(s0.2.2.1/v_0.height))∧(s1.2.1+(s0.2.2.1/v_0.height))≤9223372036854775807) <|
  bZ (0≤s0.2.2.1∧0 < v_0.height) <|
  bZ (-9223372036854775808≤((s0.2.2.1%v_0.height)+1)∧((s0.2.2.1%v_0.height)+1)≤9223372036854775807) <|
  (v_0.parts[s1.1]?).bind fun x2 =>
  bZ (s0.2.2.2.length+([(⟨(⟨x0.paragraph.anchor,(s1.2.1+(s0.2.2.1/v_0.height)),((s0.2.2.1%v_0.height)+1),((((x0.paragraph.text.length:Int)+v_0.width) - 1)/v_0.width)⟩:kS),x2.day,((s0.1:Int)+1)⟩:cM)]:List cM).length≤1073741824) <|
  bZ (-9223372036854775808≤(s0.2.2.1+((((x0.paragraph.text.length:Int)+v_0.width) - 1)/v_0.width))∧(s0.2.2.1+((((x0.paragraph.text.length:Int)+v_0.width) - 1)/v_0.width))≤9223372036854775807) <|
  some (.inl ((s0.1+1),(s0.2.1+1),(s0.2.2.1+((((x0.paragraph.text.length:Int)+v_0.width) - 1)/v_0.width)),(s0.2.2.2++([(⟨(⟨x0.paragraph.anchor,(s1.2.1+(s0.2.2.1/v_0.height)),((s0.2.2.1%v_0.height)+1),((((x0.paragraph.text.length:Int)+v_0.width) - 1)/v_0.width)⟩:kS),x2.day,((s0.1:Int)+1)⟩:cM)]:List cM)))))
 else
 some (.inr (s0.2.2.1,s0.2.2.2))
noncomputable def CG (r7:gH) (v_0:cG) (s0:Nat×Int×List cM):Option ((Nat×Int×List cM)⊕(List cM)) :=
 if (s0.1:Int) < (r7.parts.length:Int) then (
  (r7.parts[s0.1]?).bind fun x0 =>
  (bH (CF x0 v_0 s0) (0,0,0,s0.2.2)).bind fun eA1 =>
  bZ (-9223372036854775808≤(eA1.1+v_0.height)∧(eA1.1+v_0.height)≤9223372036854775807) <|
  bZ (-9223372036854775808≤((eA1.1+v_0.height) - 1)∧((eA1.1+v_0.height) - 1)≤9223372036854775807) <|
  bZ (0≤((eA1.1+v_0.height) - 1)∧((eA1.1+v_0.height) - 1)≤9223372036854775807∧0 < v_0.height) <|
  bZ (-9223372036854775808≤(s0.2.1+(((eA1.1+v_0.height) - 1)/v_0.height))∧(s0.2.1+(((eA1.1+v_0.height) - 1)/v_0.height))≤9223372036854775807) <|
  some (.inl ((s0.1+1),(s0.2.1+(((eA1.1+v_0.height) - 1)/v_0.height)),eA1.2)))
 else
 some (.inr s0.2.2)
noncomputable def PR (v_0:cG) (errata:List aT):Option (List cM) :=
 (NJ v_0 errata v_0.bound).bind fun r7 =>
 (bH (CG r7 v_0) (0,1,([]:List cM))).bind fun eA1 =>
 some eA1
noncomputable def CH (r0:List cM) (anchor:Int) (style:Int) (v_0:cG) (s0:Nat):Option ((Nat)⊕(aE×Int)) :=
 if (s0:Int) < (r0.length:Int) then (
  (r0[s0]?).bind fun x0 =>
  if x0.place.anchor≠anchor then (
   some (.inl (s0+1)))
  else
  if style=0 then (
   (PC ([(.s [118,111,108,46,32]:Any),(.i v_0.number:Any),(.s [44,32,99,111,108,46,32]:Any),(.i x0.place.column:Any),(.s [44,32,108,46,32]:Any),(.i x0.place.line:Any)]:List Any)).bind fun r1 =>
   some (.inr (r1,0)))
  else
  none)
 else
 none
noncomputable def PS (v_0:cG) (errata:List aT) (anchor:Int) (style:Int) (to_4:Int):Option (aE×Int) :=
 (KF v_0 errata).bind fun r7 =>
 if r7≠0 then (
  none)
 else
 if 2 < style then (
  none)
 else
 if style=2 then (
  none)
 else
 (PR v_0 errata).bind fun r0 =>
 (bH (CH r0 anchor style v_0) 0).bind fun e64=>some e64
noncomputable def PT (s_0:List aE):Option (List aE) :=
 bZ (([]:List aE).length+s_0.length≤1073741824) <|
 some (([]:List aE)++s_0)
noncomputable def PU (l_0:List aE) (x_1:aE):Option (List aE) :=
 (PT l_0).bind fun r1 =>
 bZ (r1.length+1≤1073741824) <|
 some (r1++[x_1])
noncomputable def PV (b_0:aF) (l_1:List Int) (__2:aE):Option (aF⊕Int) :=
 ((
  if b_0.state.bound then (
   some ())
  else
  none
 ):Option (Unit)).bind fun t0 =>
 (l_1[1]?).bind fun x0 =>
 (oG x0 0 255).bind fun r1 =>
 ((
  if r1 then (
   some ())
  else
  none
 ):Option (Unit)).bind fun t1 =>
 (l_1[0]?).bind fun x1 =>
 bZ (0≤x0∧x0≤255) <|
 (PS b_0.state.volume b_0.state.errata x1 x0 b_0.state.day).bind fun r0 =>
 ((
  ((
   if r0.2=0 then (
    some ())
   else
   none
  ):Option (Unit)).bind fun t2 =>
  some ()
 ):Option (Unit)).bind fun t3 =>
 (PU b_0.state.cites r0.1).bind fun r2 =>
 some (.inl (⟨(⟨b_0.state.day,b_0.state.house,b_0.state.volume,b_0.state.bound,b_0.state.errata,b_0.state.hides,r2,b_0.state.motion,b_0.state.moved,b_0.state.choice,b_0.state.division,b_0.state.open_,b_0.state.results⟩:dF)⟩:aF))
noncomputable def PW (b_0:aF):Option (cG) :=
 if b_0.state.bound then (
  some b_0.state.volume)
 else
 none
noncomputable def PX (s_0:List fD):Option (List fD) :=
 bZ (([]:List fD).length+s_0.length≤1073741824) <|
 some (([]:List fD)++s_0)
noncomputable def PY (l_0:List fD) (x_1:fD):Option (List fD) :=
 (PX l_0).bind fun r4 =>
 bZ (r4.length+([x_1]:List fD).length≤1073741824) <|
 some (r4++([x_1]:List fD))
noncomputable def PZ (b_0:aF) (l_1:List Int) (__2:aE):Option (aF⊕Int) :=
 (l_1[1]?).bind fun x0 =>
 (oG x0 0 7).bind fun r0 =>
 if r0 then (
  (l_1[2]?).bind fun x1 =>
  (oG x1 0 9999).bind fun r1 =>
  ((
   if r1 then (
    some ())
   else
   none
  ):Option (Unit)).bind fun t0 =>
  ((
   if (b_0.state.hides.length:Int) < 12 then (
    some ())
   else
   none
  ):Option (Unit)).bind fun t1 =>
  (PW b_0).bind fun r2 =>
  (l_1[0]?).bind fun x2 =>
  (PQ r2 b_0.state.errata x2 b_0.state.day).bind fun r3 =>
  ((
   ((
    if r3.2.2=0 then (
     some ())
    else
    none
   ):Option (Unit)).bind fun t2 =>
   some ()
  ):Option (Unit)).bind fun t3 =>
  (PY b_0.state.hides (⟨x2,x0,x1⟩:fD)).bind fun r4 =>
  some (.inl (⟨(⟨b_0.state.day,b_0.state.house,b_0.state.volume,b_0.state.bound,b_0.state.errata,r4,b_0.state.cites,b_0.state.motion,b_0.state.moved,b_0.state.choice,b_0.state.division,b_0.state.open_,b_0.state.results⟩:dF)⟩:aF)))
 else
 none
noncomputable def QA (b_0:aF) (l_1:List Int) (__2:aE):Option (aF⊕Int) :=
 ((
  if b_0.state.open_ then (
   some (.inr (.inr 8)))
  else
  some (.inl ())
 ):Option ((Unit)⊕(aF⊕Int))).bind fun t0=>match t0 with
 | .inr z=>some z
 | .inl t2 =>
 (l_1[0]?).bind fun x0 =>
 (oG x0 1 40).bind fun r0 =>
 ((
  if r0 then (
   some (.inl ()))
  else
  some (.inr (.inr 2))
 ):Option ((Unit)⊕(aF⊕Int))).bind fun t1=>match t1 with
 | .inr z=>some z
 | .inl t3 =>
 some (.inl (⟨(⟨b_0.state.day,x0,b_0.state.volume,b_0.state.bound,b_0.state.errata,b_0.state.hides,b_0.state.cites,b_0.state.motion,b_0.state.moved,b_0.state.choice,b_0.state.division,b_0.state.open_,b_0.state.results⟩:dF)⟩:aF))
noncomputable def tF (n_0:Int) (low:Int) (high:Int):Option (Bool) :=
 if low≤n_0 then (
  some (decide (n_0≤high)))
 else
 none
noncomputable def vZ (d_0:aZ) (n_1:Int):Option (Bool) :=
 bZ (-9223372036854775808≤(d_0.members - 1)∧(d_0.members - 1)≤9223372036854775807) <|
 (tF n_1 0 (d_0.members - 1)).bind fun r0 =>
 some r0
noncomputable def wA (x_0:Int) (f0_:Int→Option Bool):Option (Bool) :=
 (f0_ x_0).bind fun r1 =>
 some (!r1)
noncomputable def wB (s_0:List Int) (f_1:Int→Option Bool) (s0:Nat):Option ((Nat)⊕(Unit)) :=
 if (s0:Int) < (s_0.length:Int) then (
  (s_0[s0]?).bind fun x0 =>
  (f_1 x0).bind fun r0 =>
  if r0 then (
   none)
  else
  some (.inl (s0+1)))
 else
 some (.inr ())
noncomputable def EZ (s_0:List Int) (f_1:Int→Option Bool):Option (Int) :=
 (bH (wB s_0 f_1) 0).bind fun e19 =>
 some (-1)
noncomputable def FA (s_0:List Int) (f_1:Int→Option Bool):Option (Bool) :=
 (EZ s_0 f_1).bind fun r1 =>
 some (decide (0≤r1))
noncomputable def FB (l_0:List Int) (right:Int→Option Bool):Option (Bool) :=
 (FA l_0 (fun x0_=>wA x0_ right)).bind fun r5 =>
 some (!r5)
noncomputable def wC (l_0:List Int) (s0:Nat):Option ((Nat)⊕(Unit)) :=
 if (s0:Int) < (l_0.length:Int) then (
  ((
   if 0 < (s0:Int) then (
    (l_0[s0]?).bind fun x0 =>
    (l_0[((s0:Int) - 1).toNat]?).bind fun x1 =>
    some (decide (x0≤x1)))
   else
   some false
  ):Option (Bool)).bind fun t0 =>
  if t0 then (
   none)
  else
  some (.inl (s0+1)))
 else
 some (.inr ())
noncomputable def FC (l_0:List Int):Option (Bool) :=
 (bH (wC l_0) 0).bind fun e29 =>
 some true
noncomputable def qN (d_0:aZ) (l_1:List Int):Option (Bool) :=
 (FB l_1 (vZ d_0)).bind fun r0 =>
 if r0 then (
  (FC l_1).bind fun r1 =>
  some r1)
 else
 none
noncomputable def wD (x_0:List Int) (f0_:(List Int)→Option Bool):Option (Bool) :=
 (f0_ x_0).bind fun r1 =>
 some (!r1)
noncomputable def wE (s_0:List (List Int)) (f_1:(List Int)→Option Bool) (s0:Nat):Option ((Nat)⊕(Unit)) :=
 if (s0:Int) < (s_0.length:Int) then (
  (s_0[s0]?).bind fun x0 =>
  (f_1 x0).bind fun r0 =>
  if r0 then (
   none)
  else
  some (.inl (s0+1)))
 else
 some (.inr ())
noncomputable def FD (s_0:List (List Int)) (f_1:(List Int)→Option Bool):Option (Int) :=
 (bH (wE s_0 f_1) 0).bind fun e23 =>
 some (-1)
noncomputable def FE (s_0:List (List Int)) (f_1:(List Int)→Option Bool):Option (Bool) :=
 (FD s_0 f_1).bind fun r1 =>
 some (decide (0≤r1))
noncomputable def zX (l_0:List (List Int)) (right:(List Int)→Option Bool):Option (Bool) :=
 (FE l_0 (fun x0_=>wD x0_ right)).bind fun r5 =>
 some (!r5)
noncomputable def wF (p_0:dX) (f0_:List (Int×Bool)):Option (Bool) :=
 some (!((iH f0_ p_0.holder).getD false))
noncomputable def wG (x_0:dX) (f0_:dX→Option Bool):Option (Bool) :=
 (f0_ x_0).bind fun r4 =>
 some (!r4)
noncomputable def wH (s_0:List dX) (s8:Nat):Option ((Nat)⊕(Unit)) :=
 if (s8:Int) < (s_0.length:Int) then (
  none)
 else
 some (.inr ())
noncomputable def FF (s_0:List dX) (f_1:dX→Option Bool):Option (Int) :=
 (bH (wH s_0) 0).bind fun e5 =>
 some (-1)
noncomputable def FG (s_0:List dX) (f_1:dX→Option Bool):Option (Bool) :=
 (FF s_0 f_1).bind fun r1 =>
 some (decide (0≤r1))
noncomputable def FH (l_0:List dX) (right:dX→Option Bool):Option (Bool) :=
 (FG l_0 (fun x0_=>wG x0_ right)).bind fun r5 =>
 some (!r5)
noncomputable def wI (d_0:aZ) (s0:Nat):Option ((Nat)⊕(Unit)) :=
 if (s0:Int) < (d_0.pairs.length:Int) then (
  none)
 else
 some (.inr ())
noncomputable def wJ (d_0:aZ) (s0:Nat):Option ((Nat)⊕(Unit)) :=
 if (s0:Int) < (d_0.proxies.length:Int) then (
  none)
 else
 some (.inr ())
noncomputable def FI (d_0:aZ):Option (Bool) :=
 (bH (wI d_0) 0).bind fun e29 =>
 (bH (wJ d_0) 0).bind fun e46 =>
 (FH d_0.proxies (fun x0_=>wF x0_ ([]:List (Int×Bool)))).bind fun r0 =>
 some r0
noncomputable def zY (d_0:aZ):Option (Bool) :=
 some (decide (d_0.tie=1))
noncomputable def FJ (d_0:aZ) (n_1:fA) (f0_:aZ→Option Bool):Option (Bool) :=
 if n_1.noes < n_1.ayes then (
  some true)
 else
 none
noncomputable def KI (d_0:aZ) (n_1:fA) (f0_:aZ→Option Bool):Option (Bool) :=
 if d_0.need≤n_1.ayes then (
  none)
 else
 none
noncomputable def KJ (__0:aZ) (n_1:fA):Option (Bool) :=
 bZ (-9223372036854775808≤(3*n_1.ayes)∧(3*n_1.ayes)≤9223372036854775807) <|
 bZ (-9223372036854775808≤(n_1.ayes+n_1.noes)∧(n_1.ayes+n_1.noes)≤9223372036854775807) <|
 bZ (-9223372036854775808≤(2*(n_1.ayes+n_1.noes))∧(2*(n_1.ayes+n_1.noes))≤9223372036854775807) <|
 if (2*(n_1.ayes+n_1.noes))≤(3*n_1.ayes) then (
  none)
 else
 none
noncomputable def zZ  : Option (Unit) :=
 some ()
noncomputable def AA (d_0:aZ):Option (Bool) :=
 (tF d_0.members 1 40).bind fun r0 =>
 if r0 then (
  (zX ([d_0.ayes.e0,d_0.ayes.e1]:List (List Int)) (qN d_0)).bind fun r1 =>
  if r1 then (
   (zX ([d_0.noes.e0,d_0.noes.e1]:List (List Int)) (qN d_0)).bind fun r2 =>
   if r2 then (
    if (d_0.pairs.length:Int)≤10 then (
     if (d_0.proxies.length:Int)≤10 then (
      (FI d_0).bind fun r3 =>
      if r3 then (
       bZ (-9223372036854775808≤d_0.rule∧d_0.rule≤9223372036854775807) <|
       (zZ).bind fun r6 =>
       if d_0.rule < 3 then (
        (tF d_0.need 0 40).bind fun r4 =>
        if r4 then (
         (tF d_0.quorum 0 40).bind fun r5 =>
         if r5 then (
          if d_0.tie=1 then (
           none)
          else
          some (decide (d_0.tie=2)))
         else
         none)
        else
        none)
       else
       none)
      else
      none)
     else
     none)
    else
    none)
   else
   none)
  else
  none)
 else
 none
noncomputable def QB (d_0:aZ):Option (Int) :=
 (AA d_0).bind fun r0 =>
 if r0 then (
  some 0)
 else
 none
noncomputable def QC (b_0:aF) (d_1:aZ):Option (aF⊕Int) :=
 (QB d_1).bind fun r0 =>
 ((
  ((
   if r0=0 then (
    some ())
   else
   none
  ):Option (Unit)).bind fun t0 =>
  some ()
 ):Option (Unit)).bind fun t1 =>
 some (.inl (⟨(⟨b_0.state.day,b_0.state.house,b_0.state.volume,b_0.state.bound,b_0.state.errata,b_0.state.hides,b_0.state.cites,b_0.state.motion,b_0.state.moved,b_0.state.choice,d_1,true,b_0.state.results⟩:dF)⟩:aF))
noncomputable def QD (b_0:aF) (l_1:List Int) (__2:aE):Option (aF⊕Int) :=
 ((
  if b_0.state.open_ then (
   some (.inr (.inr 8)))
  else
  some (.inl ())
 ):Option ((Unit)⊕(aF⊕Int))).bind fun t0=>match t0 with
 | .inr z=>some z
 | .inl t2 =>
 (l_1[0]?).bind fun x0 =>
 (oG x0 0 255).bind fun r0 =>
 if r0 then (
  (l_1[3]?).bind fun x1 =>
  (oG x1 0 255).bind fun r1 =>
  ((
   if r1 then (
    some (.inl ()))
   else
   some (.inr (.inr 2))
  ):Option ((Unit)⊕(aF⊕Int))).bind fun t1=>match t1 with
  | .inr z=>some z
  | .inl t3 =>
  bZ (0≤x0∧x0≤255) <|
  (l_1[1]?).bind fun x2 =>
  (l_1[2]?).bind fun x3 =>
  bZ (0≤x1∧x1≤255) <|
  (QC b_0 (⟨b_0.state.house,(⟨([]:List Int),([]:List Int)⟩:bU),(⟨([]:List Int),([]:List Int)⟩:bU),([]:List eP),([]:List dX),x0,x2,x3,x1⟩:aZ)).bind fun r2=>match r2 with
  | .inl y0=>(
   some (.inl y0))
  | .inr _=>(
   none))
 else
 none
noncomputable def QE (x_0:Int) (y_1:Int):Option (Bool) :=
 (vT x_0).bind fun r7 =>
 if r7 then (
  none)
 else
 some (decide (x_0 < y_1))
noncomputable def ZQ (x_0:Int):Option (Bool) :=
 some (decide (x_0≠x_0))
noncomputable def CI (x_0:List Int) (target:Int) (s0:Nat×Int):Option ((Nat×Int)⊕(Int)) :=
 if s0.2 < (s0.1:Int) then (
  bZ (-9223372036854775808≤(s0.2+(s0.1:Int))∧(s0.2+(s0.1:Int))≤9223372036854775807) <|
  bZ (0≤(s0.2+(s0.1:Int))∧(s0.2+(s0.1:Int))≤18446744073709551615) <|
  bZ (0≤(s0.2+(s0.1:Int))) <|
  bZ (-9223372036854775808≤((s0.2+(s0.1:Int))/2)∧((s0.2+(s0.1:Int))/2)≤9223372036854775807) <|
  (x_0[((s0.2+(s0.1:Int))/2).toNat]?).bind fun x0 =>
  (QE x0 target).bind fun r0 =>
  if r0 then (
   bZ (-9223372036854775808≤(((s0.2+(s0.1:Int))/2)+1)∧(((s0.2+(s0.1:Int))/2)+1)≤9223372036854775807) <|
   some (.inl (s0.1,(((s0.2+(s0.1:Int))/2)+1))))
  else
  none)
 else
 some (.inr s0.2)
noncomputable def FK (x_0:List Int) (target:Int):Option (Int×Bool) :=
 (bH (CI x_0 target) (x_0.length,0)).bind fun e55 =>
 if e55 < (x_0.length:Int) then (
  none)
 else
 some (e55,false)
noncomputable def FL (s_0:List Int):Option (List Int) :=
 bZ (([]:List Int).length+s_0.length≤1073741824) <|
 some (([]:List Int)++s_0)
noncomputable def QF (b_0:aF) (l_1:List Int) (__2:aE):Option (aF⊕Int) :=
 ((
  if b_0.state.open_ then (
   some (.inl ()))
  else
  some (.inr (.inr 8))
 ):Option ((Unit)⊕(aF⊕Int))).bind fun t0=>match t0 with
 | .inr z=>some z
 | .inl t6 =>
 (l_1[0]?).bind fun x1 =>
 (oG x1 1 2).bind fun r8 =>
 if r8 then (
  (l_1[1]?).bind fun x2 =>
  (oG x2 0 1).bind fun r9 =>
  if r9 then (
   (l_1[2]?).bind fun x0 =>
   bZ (-9223372036854775808≤(b_0.state.division.members - 1)∧(b_0.state.division.members - 1)≤9223372036854775807) <|
   (oG x0 0 (b_0.state.division.members - 1)).bind fun rA1 =>
   ((
    if rA1 then (
     some (.inl ()))
    else
    some (.inr (.inr 2))
   ):Option ((Unit)⊕(aF⊕Int))).bind fun t1=>match t1 with
   | .inr z=>some z
   | .inl t7 =>
   if x2=0 then (
    if x1=2 then (
     (FK b_0.state.division.noes.e0 x0).bind fun r0 =>
     ((
      if r0.2 then (
       some (.inr (.inr 6)))
      else
      some (.inl ())
     ):Option ((Unit)⊕(aF⊕Int))).bind fun t2=>match t2 with
     | .inr z=>some z
     | .inl t8 =>
     (FL b_0.state.division.noes.e0).bind fun r4 =>
     bZ (0≤r0.1) <|
     bZ (r0.1.toNat≤r4.length) <|
     bZ (r4.length+([x0]:List Int).length≤1073741824) <|
     some (.inl (⟨(⟨b_0.state.day,b_0.state.house,b_0.state.volume,b_0.state.bound,b_0.state.errata,b_0.state.hides,b_0.state.cites,b_0.state.motion,b_0.state.moved,b_0.state.choice,(⟨b_0.state.division.members,b_0.state.division.ayes,(⟨(r4.take r0.1.toNat++([x0]:List Int)++r4.drop r0.1.toNat),b_0.state.division.noes.e1⟩:bU),b_0.state.division.pairs,b_0.state.division.proxies,b_0.state.division.rule,b_0.state.division.need,b_0.state.division.quorum,b_0.state.division.tie⟩:aZ),b_0.state.open_,b_0.state.results⟩:dF)⟩:aF)))
    else
    (FK b_0.state.division.ayes.e0 x0).bind fun r1 =>
    ((
     if r1.2 then (
      some (.inr (.inr 6)))
     else
     some (.inl ())
    ):Option ((Unit)⊕(aF⊕Int))).bind fun t3=>match t3 with
    | .inr z=>some z
    | .inl t9 =>
    (FL b_0.state.division.ayes.e0).bind fun r5 =>
    bZ (0≤r1.1) <|
    bZ (r1.1.toNat≤r5.length) <|
    bZ (r5.length+([x0]:List Int).length≤1073741824) <|
    some (.inl (⟨(⟨b_0.state.day,b_0.state.house,b_0.state.volume,b_0.state.bound,b_0.state.errata,b_0.state.hides,b_0.state.cites,b_0.state.motion,b_0.state.moved,b_0.state.choice,(⟨b_0.state.division.members,(⟨(r5.take r1.1.toNat++([x0]:List Int)++r5.drop r1.1.toNat),b_0.state.division.ayes.e1⟩:bU),b_0.state.division.noes,b_0.state.division.pairs,b_0.state.division.proxies,b_0.state.division.rule,b_0.state.division.need,b_0.state.division.quorum,b_0.state.division.tie⟩:aZ),b_0.state.open_,b_0.state.results⟩:dF)⟩:aF)))
   else
   if x2=1 then (
    if x1=2 then (
     (FK b_0.state.division.noes.e1 x0).bind fun r2 =>
     ((
      if r2.2 then (
       some (.inr (.inr 6)))
      else
      some (.inl ())
     ):Option ((Unit)⊕(aF⊕Int))).bind fun t4=>match t4 with
     | .inr z=>some z
     | .inl tD =>
     (FL b_0.state.division.noes.e1).bind fun r6 =>
     bZ (0≤r2.1) <|
     bZ (r2.1.toNat≤r6.length) <|
     bZ (r6.length+([x0]:List Int).length≤1073741824) <|
     some (.inl (⟨(⟨b_0.state.day,b_0.state.house,b_0.state.volume,b_0.state.bound,b_0.state.errata,b_0.state.hides,b_0.state.cites,b_0.state.motion,b_0.state.moved,b_0.state.choice,(⟨b_0.state.division.members,b_0.state.division.ayes,(⟨b_0.state.division.noes.e0,(r6.take r2.1.toNat++([x0]:List Int)++r6.drop r2.1.toNat)⟩:bU),b_0.state.division.pairs,b_0.state.division.proxies,b_0.state.division.rule,b_0.state.division.need,b_0.state.division.quorum,b_0.state.division.tie⟩:aZ),b_0.state.open_,b_0.state.results⟩:dF)⟩:aF)))
    else
    (FK b_0.state.division.ayes.e1 x0).bind fun r3 =>
    ((
     if r3.2 then (
      some (.inr (.inr 6)))
     else
     some (.inl ())
    ):Option ((Unit)⊕(aF⊕Int))).bind fun t5=>match t5 with
    | .inr z=>some z
    | .inl tE =>
    (FL b_0.state.division.ayes.e1).bind fun r7 =>
    bZ (0≤r3.1) <|
    bZ (r3.1.toNat≤r7.length) <|
    bZ (r7.length+([x0]:List Int).length≤1073741824) <|
    some (.inl (⟨(⟨b_0.state.day,b_0.state.house,b_0.state.volume,b_0.state.bound,b_0.state.errata,b_0.state.hides,b_0.state.cites,b_0.state.motion,b_0.state.moved,b_0.state.choice,(⟨b_0.state.division.members,(⟨b_0.state.division.ayes.e0,(r7.take r3.1.toNat++([x0]:List Int)++r7.drop r3.1.toNat)⟩:bU),b_0.state.division.noes,b_0.state.division.pairs,b_0.state.division.proxies,b_0.state.division.rule,b_0.state.division.need,b_0.state.division.quorum,b_0.state.division.tie⟩:aZ),b_0.state.open_,b_0.state.results⟩:dF)⟩:aF)))
   else
   none)
  else
  none)
 else
 none
noncomputable def QG (s_0:List eP):Option (List eP) :=
 bZ (([]:List eP).length+s_0.length≤1073741824) <|
 some (([]:List eP)++s_0)
noncomputable def ZR (l_0:List eP) (x_1:eP):Option (List eP) :=
 (QG l_0).bind fun r4 =>
 bZ (r4.length+([x_1]:List eP).length≤1073741824) <|
 some (r4++([x_1]:List eP))
noncomputable def wK (s_0:List Int) (v_1:Int) (s0:Nat):Option ((Nat)⊕((Unit)⊕Int)) :=
 if (s0:Int) < (s_0.length:Int) then (
  (s_0[s0]?).bind fun x0 =>
  if v_1=x0 then (
   some (.inr (.inr (s0:Int))))
  else
  some (.inl (s0+1)))
 else
 some (.inr (.inl ()))
noncomputable def FM (s_0:List Int) (v_1:Int):Option (Int) :=
 (bH (wK s_0 v_1) 0).bind fun e16=>match e16 with
 | .inr z=>some z
 | .inl t0 =>
 some (-1)
noncomputable def wL (s_0:List Int) (v_1:Int):Option (Bool) :=
 (FM s_0 v_1).bind fun r1 =>
 some (decide (0≤r1))
noncomputable def AB (lobby:bU) (member:Int):Option (Int) :=
 (wL lobby.e0 member).bind fun r0 =>
 ((
  if r0 then (
   some 1)
  else
  some 0
 ):Option (Nat)).bind fun t0 =>
 (wL lobby.e1 member).bind fun r1 =>
 ((
  if r1 then (
   bZ (-9223372036854775808≤((t0:Int)+1)∧((t0:Int)+1)≤9223372036854775807) <|
   some (t0+1))
  else
  some t0
 ):Option (Nat)).bind fun t1 =>
 some (t1:Int)
noncomputable def FN (d_0:aZ) (member:Int):Option (List UInt8) :=
 (AB d_0.ayes member).bind fun r0 =>
 (AB d_0.noes member).bind fun r1 =>
 ((
  if r0 < 2 then (
   some (decide (r1 < 2)))
  else
  some false
 ):Option (Bool)).bind fun t2 =>
 ((
  if t2 then (
   bZ (([]:List UInt8).length+1≤1073741824) <|
   some (([]:List UInt8)++[(0:UInt8)]))
  else
  some ([]:List UInt8)
 ):Option (List UInt8)).bind fun t0 =>
 ((
  if 0 < r0 then (
   some (decide (r1 < 2)))
  else
  some false
 ):Option (Bool)).bind fun t3 =>
 ((
  if t3 then (
   bZ (t0.length+1≤1073741824) <|
   some (t0++[(1:UInt8)]))
  else
  some t0
 ):Option (List UInt8)).bind fun t1 =>
 ((
  if 0 < r1 then (
   some (decide (r0 < 2)))
  else
  some false
 ):Option (Bool)).bind fun t4 =>
 ((
  if t4 then (
   bZ (t1.length+1≤1073741824) <|
   some (t1++[(2:UInt8)]))
  else
  some t1
 ):Option (List UInt8)).bind fun t5 =>
 some t5
noncomputable def wM (d_0:aZ) (s0:Nat):Option ((Nat)⊕(Unit)) :=
 if (s0:Int) < (d_0.pairs.length:Int) then (
  none)
 else
 some (.inr ())
noncomputable def wN (d_0:aZ) (s0:Nat×List (List UInt8)):Option ((Nat×List (List UInt8))⊕(List (List UInt8))) :=
 if (s0.1:Int) < d_0.members then (
  (FN d_0 (s0.1:Int)).bind fun r0 =>
  (s0.2[s0.1]?).bind fun x0 =>
  bZ (-9223372036854775808≤((s0.1:Int)+1)∧((s0.1:Int)+1)≤9223372036854775807) <|
  some (.inl ((s0.1+1),(s0.2.set s0.1 r0))))
 else
 some (.inr s0.2)
noncomputable def FO (d_0:aZ):Option (dO) :=
 (bH (wM d_0) 0).bind fun e28 =>
 (bH (wN d_0) (0,(List.replicate 40 ([]:List UInt8)))).bind fun e93 =>
 some (⟨d_0,bF.zero,e93⟩:dO)
noncomputable def wO (x_0:dO) (s0:Nat×Nat×Bool):Option ((Nat×Nat×Bool)⊕(Nat×Bool)) :=
 if (s0.2.1:Int) < x_0.division.members then (
  (x_0.may[s0.2.1]?).bind fun x0 =>
  if (x0.length:Int)=0 then (
   none)
  else
  bZ (-9223372036854775808≤((s0.2.1:Int)+1)∧((s0.2.1:Int)+1)≤9223372036854775807) <|
  some (.inl (s0.1,(s0.2.1+1),s0.2.2)))
 else
 some (.inr (s0.1,s0.2.2))
noncomputable def FP (x_0:dO):Option (Int×Bool) :=
 (bH (wO x_0) (0,0,false)).bind fun e41 =>
 some ((e41.1:Int),e41.2)
noncomputable def FQ (d_0:aZ):Option (dO×Int) :=
 (AA d_0).bind fun r1 =>
 if r1 then (
  (FO d_0).bind fun r0 =>
  (FP r0).bind fun r2 =>
  if r2.2 then (
   none)
  else
  some (r0,0))
 else
 none
noncomputable def wP (x_0:dO) (s0:Nat×List Int):Option ((Nat×List Int)⊕(List Int)) :=
 if (s0.1:Int) < x_0.division.members then (
  (x_0.may[s0.1]?).bind fun x0 =>
  ((
   if 1 < (x0.length:Int) then (
    bZ (s0.2.length+1≤1073741824) <|
    some (s0.2++[(s0.1:Int)]))
   else
   some s0.2
  ):Option (List Int)).bind fun t0 =>
  bZ (-9223372036854775808≤((s0.1:Int)+1)∧((s0.1:Int)+1)≤9223372036854775807) <|
  some (.inl ((s0.1+1),t0)))
 else
 some (.inr s0.2)
noncomputable def FR (x_0:dO):Option (List Int) :=
 (bH (wP x_0) (0,([]:List Int))).bind fun eA1 =>
 some eA1
noncomputable def QH (d_0:aZ):Option (dO×Int) :=
 (FQ d_0).bind fun r0 =>
 if r0.2=0 then (
  (FR r0.1).bind fun r1 =>
  if 8 < (r1.length:Int) then (
   none)
  else
  some (r0.1,r0.2))
 else
 none
noncomputable def KK (t_0:bJ) (m_1:Int) (f0_:dO) (f1_:bJ→Option Bool) (f2_:bJ→Int→Option Bool):Option (Bool) :=
 if m_1=f0_.division.members then (
  none)
 else
 none
noncomputable def wQ (x_0:dO) (t_1:bJ) (s0:Nat×Nat×Nat):Option ((Nat×Nat×Nat)⊕(Nat×Nat)) :=
 if (s0.1:Int) < x_0.division.members then (
  bZ ((s0.1:Int) < 40) <|
  if bF.get x_0.paired s0.1 then (
   none)
  else
  ((
   ((
    if (bJ.get t_1 s0.1)=1 then (
     bZ (-9223372036854775808≤((s0.2.1:Int)+1)∧((s0.2.1:Int)+1)≤9223372036854775807) <|
     some ((s0.2.1+1),s0.2.2))
    else
    ((
     if (bJ.get t_1 s0.1)=2 then (
      bZ (-9223372036854775808≤((s0.2.2:Int)+1)∧((s0.2.2:Int)+1)≤9223372036854775807) <|
      some (s0.2.2+1))
     else
     some s0.2.2
    ):Option (Nat)).bind fun t2 =>
    some (s0.2.1,t2)
   ):Option (Nat×Nat)).bind fun t0 =>
   some (t0.1,t0.2)
  ):Option (Nat×Nat)).bind fun t1 =>
  bZ (-9223372036854775808≤((s0.1:Int)+1)∧((s0.1:Int)+1)≤9223372036854775807) <|
  some (.inl ((s0.1+1),t1.1,t1.2)))
 else
 some (.inr (s0.2.1,s0.2.2))
noncomputable def wR (x_0:dO) (s0:Nat):Option ((Nat)⊕(Unit)) :=
 if (s0:Int) < (x_0.division.proxies.length:Int) then (
  none)
 else
 some (.inr ())
noncomputable def FS (x_0:dO) (t_1:bJ):Option (fA) :=
 (bH (wQ x_0 t_1) (0,0,0)).bind fun e80 =>
 (bH (wR x_0) 0).bind fun eA1 =>
 some (⟨(e80.1:Int),(e80.2:Int)⟩:fA)
noncomputable def FT (x_0:dO) (n_1:fA):Option (Int) :=
 bZ (-9223372036854775808≤(n_1.ayes+n_1.noes)∧(n_1.ayes+n_1.noes)≤9223372036854775807) <|
 if (n_1.ayes+n_1.noes) < x_0.division.quorum then (
  some 2)
 else
 (zZ).bind fun r1 =>
 bZ (0≤x_0.division.rule) <|
 if x_0.division.rule=0 then (
  (FJ x_0.division n_1 (zY)).bind fun r0 =>
  if r0 then (
   some 1)
  else
  none)
 else
 none
noncomputable def wS (s_0:List UInt8) (v_1:Int) (s0:Nat):Option ((Nat)⊕(Unit)) :=
 if (s0:Int) < (s_0.length:Int) then (
  (s_0[s0]?).bind fun x0 =>
  if v_1=(x0.toNat:Int) then (
   none)
  else
  some (.inl (s0+1)))
 else
 some (.inr ())
noncomputable def FU (s_0:List UInt8) (v_1:Int):Option (Int) :=
 (bH (wS s_0 v_1) 0).bind fun e16 =>
 some (-1)
noncomputable def FV (s_0:List UInt8) (v_1:Int):Option (Bool) :=
 (FU s_0 v_1).bind fun r1 =>
 some (decide (0≤r1))
noncomputable def FX (x_0:Int):Option (Int) :=
 if 4294967296≤x_0 then (
  none)
 else
 if 65536≤x_0 then (
  none)
 else
 if 256≤x_0 then (
  none)
 else
 bZ (0≤x_0∧x_0≤255) <|
 bZ (0≤x_0) <|
 (([0,1,2,2,3,3,3,3,4,4,4,4,4,4,4,4,5,5,5,5,5,5,5,5,5,5,5,5,5,5,5,5,6,6,6,6,6,6,6,6,6,6,6,6,6,6,6,6,6,6,6,6,6,6,6,6,6,6,6,6,6,6,6,6,7,7,7,7,7,7,7,7,7,7,7,7,7,7,7,7,7,7,7,7,7,7,7,7,7,7,7,7,7,7,7,7,7,7,7,7,7,7,7,7,7,7,7,7,7,7,7,7,7,7,7,7,7,7,7,7,7,7,7,7,7,7,7,7,8,8,8,8,8,8,8,8,8,8,8,8,8,8,8,8,8,8,8,8,8,8,8,8,8,8,8,8,8,8,8,8,8,8,8,8,8,8,8,8,8,8,8,8,8,8,8,8,8,8,8,8,8,8,8,8,8,8,8,8,8,8,8,8,8,8,8,8,8,8,8,8,8,8,8,8,8,8,8,8,8,8,8,8,8,8,8,8,8,8,8,8,8,8,8,8,8,8,8,8,8,8,8,8,8,8,8,8,8,8,8,8,8,8,8,8,8,8,8,8,8,8,8,8,8,8,8,8]:aE)[x_0.toNat]?).bind fun x0 =>
 some (0+(x0.toNat:Int))
noncomputable def FY (x_0:Int):Option (Int) :=
 (FX x_0).bind fun r1 =>
 some r1
noncomputable def FZ (x_0:Int):Option (Bool) :=
 some (decide (x_0≠x_0))
noncomputable def GA (x_0:Int) (y_1:Int):Option (Bool) :=
 (FZ x_0).bind fun r7 =>
 if r7 then (
  none)
 else
 some (decide (x_0 < y_1))
noncomputable def CJ (x0:List UInt8) (s1:Nat×bJ×List UInt8) (R0_:(Nat×bJ×List UInt8)→Option (List UInt8)) (s0:Nat×bJ×List UInt8):Option ((Nat×bJ×List UInt8)⊕(bJ×List UInt8)) :=
 if (s0.1:Int) < (x0.length:Int) then (
  (x0[s0.1]?).bind fun x1 =>
  bZ ((s1.1:Int) < 40) <|
  bZ (-9223372036854775808≤((s1.1:Int)+1)∧((s1.1:Int)+1)≤9223372036854775807) <|
  (R0_ ((s1.1+1),(bJ.set s0.2.1 s1.1 (x1.toNat:Int)),s0.2.2)).bind fun r0 =>
  some (.inl ((s0.1+1),(bJ.set s0.2.1 s1.1 (x1.toNat:Int)),r0)))
 else
 some (.inr (s0.2.1,s0.2.2))
noncomputable def CK (r0:dO×Int) (R0_:(Nat×bJ×List UInt8)→Option (List UInt8)) (s0:Nat×bJ×List UInt8):Option (List UInt8) :=
 if (s0.1:Int)=r0.1.division.members then (
  ((
   (FS r0.1 s0.2.1).bind fun r2 =>
   (FT r0.1 r2).bind fun r1 =>
   (FV s0.2.2 r1).bind fun r3 =>
   if r3 then (
    none)
   else
   bZ (s0.2.2.length+1≤1073741824) <|
   bZ (0≤r1∧r1≤255) <|
   some (s0.2.2++[(UInt8.ofNat r1.toNat)])
  ):Option (List UInt8)).bind fun t0 =>
  some t0)
 else
 (r0.1.may[s0.1]?).bind fun x0 =>
 (bH (CJ x0 s0 R0_) (0,s0.2.1,s0.2.2)).bind fun eA1 =>
 some eA1.2
noncomputable def pA (r0:dO×Int):Nat→(Nat×bJ×List UInt8)→Option (List UInt8)
 | 0,_=>none
 | n_+1,s0=>CK r0 (pA r0 n_) s0
noncomputable def CL (s1:Nat×Nat×Int×Bool×Bool) (s0:Int×List UInt8):Option ((Int×List UInt8)⊕(List UInt8)) :=
 ((
  if (s1.1:Int) < s0.1 then (
   bZ (0≤s0.1) <|
   (s0.2[s0.1.toNat]?).bind fun x1 =>
   bZ (-9223372036854775808≤(s0.1 - 1)∧(s0.1 - 1)≤9223372036854775807) <|
   bZ (0≤(s0.1 - 1)) <|
   (s0.2[(s0.1 - 1).toNat]?).bind fun x2 =>
   (GA (x1.toNat:Int) (x2.toNat:Int)).bind fun r0 =>
   some r0)
  else
  some false
 ):Option (Bool)).bind fun t0 =>
 if t0 then (
  bZ (-9223372036854775808≤(s0.1 - 1)∧(s0.1 - 1)≤9223372036854775807) <|
  bZ (0≤(s0.1 - 1)) <|
  (s0.2[(s0.1 - 1).toNat]?).bind fun x0 =>
  bZ (0≤s0.1) <|
  (s0.2[s0.1.toNat]?).bind fun x3 =>
  ((s0.2.set s0.1.toNat x0)[(s0.1 - 1).toNat]?).bind fun x4 =>
  some (.inl ((s0.1 - 1),((s0.2.set s0.1.toNat x0).set ((s0.1 - 1).toNat) x3))))
 else
 some (.inr s0.2)
noncomputable def CM (s1:Nat×Nat×Int×Bool×Bool) (s0:Nat×List UInt8):Option ((Nat×List UInt8)⊕(List UInt8)) :=
 if (s0.1:Int) < (s1.2.1:Int) then (
  (bH (CL s1) ((s0.1:Int),s0.2)).bind fun eA1 =>
  bZ (-9223372036854775808≤((s0.1:Int)+1)∧((s0.1:Int)+1)≤9223372036854775807) <|
  some (.inl ((s0.1+1),eA1)))
 else
 some (.inr s0.2)
noncomputable def CN (t0:List UInt8) (s0:Nat×Nat×Int×Bool×Bool):Option ((Nat×Nat×Int×Bool×Bool)⊕(List UInt8)) :=
 bZ (-9223372036854775808≤((s0.2.1:Int) - (s0.1:Int))∧((s0.2.1:Int) - (s0.1:Int))≤9223372036854775807) <|
 if ((s0.2.1:Int) - (s0.1:Int))≤12 then (
  ((
   bZ (-9223372036854775808≤((s0.1:Int)+1)∧((s0.1:Int)+1)≤9223372036854775807) <|
   (bH (CM s0) ((s0.1+1),t0)).bind fun eA1 =>
   some eA1
  ):Option (List UInt8)).bind fun t1 =>
  some (.inr t1))
 else
 none
noncomputable def QI (d_0:aZ):Option (List UInt8×Int) :=
 (QH d_0).bind fun r0 =>
 if r0.2≠0 then (
  none)
 else
 ((
  (zF (fun n_=>pA r0 n_ (0,bJ.zero,([]:List UInt8)))).bind fun r1 =>
  some r1
 ):Option (List UInt8)).bind fun t0 =>
 ((
  (FY (t0.length:Int)).bind fun r2 =>
  ((
   (bH (CN t0) (0,t0.length,r2,true,true)).bind fun eA1=>some eA1
  ):Option (List UInt8)).bind fun t1 =>
  some t1
 ):Option (List UInt8)).bind fun t2 =>
 some (t2,0)
noncomputable def GB (s_0:List UInt8):Option (List UInt8) :=
 bZ (([]:List UInt8).length+s_0.length≤1073741824) <|
 some (([]:List UInt8)++s_0)
noncomputable def QJ (l_0:List UInt8) (x_1:Int):Option (List UInt8) :=
 (GB l_0).bind fun r1 =>
 bZ (r1.length+1≤1073741824) <|
 bZ (0≤x_1∧x_1≤255) <|
 some (r1++[(UInt8.ofNat x_1.toNat)])
noncomputable def QK (b_0:aF) (x_1:List Int) (x_2:aE):Option (aF⊕Int) :=
 ((
  if b_0.state.open_ then (
   some (.inl ()))
  else
  some (.inr (.inr 8))
 ):Option ((Unit)⊕(aF⊕Int))).bind fun t0=>match t0 with
 | .inr z=>some z
 | .inl t4 =>
 (QI b_0.state.division).bind fun r0 =>
 ((
  ((
   if r0.2=0 then (
    some (.inl ()))
   else
   some (.inr (.inr (.inr r0.2)))
  ):Option ((Unit)⊕((Unit)⊕(aF⊕Int)))).bind fun t1=>match t1 with
  | .inr z=>some z
  | .inl t5 =>
  some (.inl ())
 ):Option ((Unit)⊕(aF⊕Int))).bind fun t2=>match t2 with
 | .inr z=>some z
 | .inl t6 =>
 ((
  if (r0.1.length:Int)=1 then (
   some (.inl ()))
  else
  some (.inr (.inr 10))
 ):Option ((Unit)⊕(aF⊕Int))).bind fun t3=>match t3 with
 | .inr z=>some z
 | .inl t7 =>
 (r0.1[0]?).bind fun x0 =>
 (QJ b_0.state.results (x0.toNat:Int)).bind fun r1 =>
 some (.inl (⟨(⟨b_0.state.day,b_0.state.house,b_0.state.volume,b_0.state.bound,b_0.state.errata,b_0.state.hides,b_0.state.cites,b_0.state.motion,b_0.state.moved,b_0.state.choice,(⟨0,(⟨([]:List Int),([]:List Int)⟩:bU),(⟨([]:List Int),([]:List Int)⟩:bU),([]:List eP),([]:List dX),0,0,0,0⟩:aZ),false,r1⟩:dF)⟩:aF))
noncomputable def KL (c_0:Int):Option (Bool) :=
 some (decide (c_0=32))
noncomputable def NK (text:aE):Option (List aE) :=
 (EM text).bind fun r1 =>
 some r1
noncomputable def wT (x_0:aW) (f0_:aW→Option Bool):Option (Bool) :=
 (f0_ x_0).bind fun r7 =>
 some (!r7)
noncomputable def wU (s_0:List aW) (f_1:aW→Option Bool) (s0:Nat):Option ((Nat)⊕(Unit)) :=
 if (s0:Int) < (s_0.length:Int) then (
  (s_0[s0]?).bind fun x0 =>
  (f_1 x0).bind fun r0 =>
  if r0 then (
   none)
  else
  some (.inl (s0+1)))
 else
 some (.inr ())
noncomputable def GC (s_0:List aW) (f_1:aW→Option Bool):Option (Int) :=
 (bH (wU s_0 f_1) 0).bind fun e23 =>
 some (-1)
noncomputable def GD (s_0:List aW) (f_1:aW→Option Bool):Option (Bool) :=
 (GC s_0 f_1).bind fun r1 =>
 some (decide (0≤r1))
noncomputable def rM (l_0:List aW) (right:aW→Option Bool):Option (Bool) :=
 (GD l_0 (fun x0_=>wT x0_ right)).bind fun r5 =>
 some (!r5)
noncomputable def wV (p_0:aW):Option (Bool) :=
 some (decide ((p_0.words.length:Int)≤60))
noncomputable def GE (m_0:bW):Option (Bool) :=
 if (m_0.papers.length:Int)≤10 then (
  if (m_0.words.length:Int)≤60 then (
   (rM m_0.papers (wV)).bind fun r0 =>
   some r0)
  else
  none)
 else
 none
noncomputable def wW (x_0:aE) (f0_:aE→Option Bool):Option (Bool) :=
 (f0_ x_0).bind fun r1 =>
 some (!r1)
noncomputable def AC (l_0:List aE) (right:aE→Option Bool):Option (Bool) :=
 (m15 l_0 (fun x0_=>wW x0_ right)).bind fun r5 =>
 some (!r5)
noncomputable def AD (n_0:Int) (low:Int) (high:Int):Option (Bool) :=
 if low≤n_0 then (
  some (decide (n_0≤high)))
 else
 none
noncomputable def wX (x_0:Int) (f0_:Int→Option Bool):Option (Bool) :=
 (f0_ x_0).bind fun r1 =>
 some (!r1)
noncomputable def GF (l_0:List UInt8) (right:Int→Option Bool):Option (Bool) :=
 (zV l_0 (fun x0_=>wX x0_ right)).bind fun r5 =>
 some (!r5)
noncomputable def wY (c_0:Int):Option (Bool) :=
 if (33:Int)≤c_0 then (
  some (decide (c_0≤126)))
 else
 none
noncomputable def qO (s_0:aE):Option (Bool) :=
 (AD (s_0.length:Int) 1 20).bind fun r0 =>
 if r0 then (
  bZ (s_0.length≤1073741824) <|
  (GF s_0 (wY)).bind fun r1 =>
  some r1)
 else
 none
noncomputable def wZ (p_0:aW):Option (Bool) :=
 (AC p_0.words (qO)).bind fun r8 =>
 some r8
noncomputable def GG (m_0:bW):Option (Bool) :=
 (AC m_0.words (qO)).bind fun r0 =>
 if r0 then (
  (rM m_0.papers (wZ)).bind fun r1 =>
  some r1)
 else
 none
noncomputable def xA (p_0:aW):Option (Bool) :=
 (AD p_0.number 1 999).bind fun r7 =>
 some r7
noncomputable def GH (m_0:bW):Option (Bool) :=
 (rM m_0.papers (xA)).bind fun r0 =>
 some r0
noncomputable def xB (m_0:bW) (s0:Nat×(List (Int×aW))):Option ((Nat×(List (Int×aW)))⊕((List (Int×aW)))) :=
 if (s0.1:Int) < (m_0.papers.length:Int) then (
  (m_0.papers[s0.1]?).bind fun x0 =>
  some (.inl ((s0.1+1),(put s0.2 x0.number x0))))
 else
 some (.inr s0.2)
noncomputable def qP (m_0:bW):Option ((List (Int×aW))) :=
 (bH (xB m_0) (0,([]:List (Int×aW)))).bind fun e60 =>
 some e60
noncomputable def GI (m_0:bW):Option (Bool) :=
 (qP m_0).bind fun r0 =>
 some (decide ((r0.length:Int)=(m_0.papers.length:Int)))
noncomputable def xC (p_0:aW) (f0_:List (Int×aW)):Option (Bool) :=
 if p_0.of=0 then (
  some true)
 else
 none
noncomputable def GJ (m_0:bW):Option (Bool) :=
 (qP m_0).bind fun r0 =>
 (rM m_0.papers (fun x0_=>xC x0_ r0)).bind fun r1 =>
 some r1
noncomputable def xD (x0:aW) (s0:Nat×Bool):Option ((Nat×Bool)⊕(Bool)) :=
 if x0.of≠0 then (
  none)
 else
 some (.inr s0.2)
noncomputable def xE (m_0:bW) (s0:Nat×Bool):Option ((Nat×Bool)⊕(Bool)) :=
 if (s0.1:Int) < (m_0.papers.length:Int) then (
  (m_0.papers[s0.1]?).bind fun x0 =>
  (bH (xD x0) (0,s0.2)).bind fun e85 =>
  some (.inl ((s0.1+1),e85)))
 else
 some (.inr s0.2)
noncomputable def GK (m_0:bW):Option (Bool) :=
 (qP m_0).bind fun r0 =>
 (bH (xE m_0) (0,true)).bind fun e38 =>
 some e38
noncomputable def AE (m_0:bW) (number:Int):Option (List aE) :=
 if number=0 then (
  some m_0.words)
 else
 (qP m_0).bind fun r0 =>
 some (((iH r0 number).getD (⟨0,0,0,0,([]:List aE)⟩:aW)).words)
noncomputable def xF (p_0:aW) (f0_:bW):Option (Bool) :=
 if (0:Int)≤p_0.from_ then (
  if p_0.from_≤p_0.to_ then (
   (AE f0_ p_0.of).bind fun r0 =>
   some (decide (p_0.to_≤(r0.length:Int))))
  else
  none)
 else
 none
noncomputable def GL (m_0:bW):Option (Bool) :=
 (rM m_0.papers (fun x0_=>xF x0_ m_0)).bind fun r0 =>
 some r0
noncomputable def GM  : Option (Unit) :=
 some ()
noncomputable def KM (m_0:bW):Option (Int) :=
 (GM).bind fun r7 =>
 (GE m_0).bind fun r0 =>
 if r0 then (
  (GG m_0).bind fun r1 =>
  if r1 then (
   (GH m_0).bind fun r2 =>
   if r2 then (
    (GI m_0).bind fun r3 =>
    if r3 then (
     (GJ m_0).bind fun r4 =>
     if r4 then (
      (GK m_0).bind fun r5 =>
      if r5 then (
       (GL m_0).bind fun r6 =>
       if r6 then (
        some 0)
       else
       none)
      else
      none)
     else
     none)
    else
    none)
   else
   none)
  else
  none)
 else
 none
noncomputable def QL (b_0:aF) (__1:List Int) (text:aE):Option (aF⊕Int) :=
 ((
  if b_0.state.moved then (
   some (.inr (.inr 8)))
  else
  some (.inl ())
 ):Option ((Unit)⊕(aF⊕Int))).bind fun t0=>match t0 with
 | .inr z=>some z
 | .inl t3 =>
 (NK text).bind fun r0 =>
 (KM (⟨r0,([]:List aW)⟩:bW)).bind fun r1 =>
 ((
  ((
   if r1=0 then (
    some (.inl ()))
   else
   some (.inr (.inr (.inr r1)))
  ):Option ((Unit)⊕((Unit)⊕(aF⊕Int)))).bind fun t1=>match t1 with
  | .inr z=>some z
  | .inl t4 =>
  some (.inl ())
 ):Option ((Unit)⊕(aF⊕Int))).bind fun t2=>match t2 with
 | .inr z=>some z
 | .inl t5 =>
 some (.inl (⟨(⟨b_0.state.day,b_0.state.house,b_0.state.volume,b_0.state.bound,b_0.state.errata,b_0.state.hides,b_0.state.cites,(⟨r0,([]:List aW)⟩:bW),true,b_0.state.choice,b_0.state.division,b_0.state.open_,b_0.state.results⟩:dF)⟩:aF))
noncomputable def GN (s_0:List aW):Option (List aW) :=
 bZ (([]:List aW).length+s_0.length≤1073741824) <|
 some (([]:List aW)++s_0)
noncomputable def QM (l_0:List aW) (x_1:aW):Option (List aW) :=
 (GN l_0).bind fun r7 =>
 bZ (r7.length+([x_1]:List aW).length≤1073741824) <|
 some (r7++([x_1]:List aW))
noncomputable def QN (b_0:aF) (l_1:List Int) (text:aE):Option (aF⊕Int) :=
 ((
  if b_0.state.moved then (
   some ())
  else
  none
 ):Option (Unit)).bind fun t0 =>
 (l_1[0]?).bind fun x0 =>
 (l_1[1]?).bind fun x1 =>
 (l_1[2]?).bind fun x2 =>
 (l_1[3]?).bind fun x3 =>
 (NK text).bind fun r1 =>
 (QM b_0.state.motion.papers (⟨x0,x1,x2,x3,r1⟩:aW)).bind fun r0 =>
 (KM (⟨b_0.state.motion.words,r0⟩:bW)).bind fun r2 =>
 ((
  ((
   if r2=0 then (
    some ())
   else
   none
  ):Option (Unit)).bind fun t1 =>
  some ()
 ):Option (Unit)).bind fun t2 =>
 some (.inl (⟨(⟨b_0.state.day,b_0.state.house,b_0.state.volume,b_0.state.bound,b_0.state.errata,b_0.state.hides,b_0.state.cites,(⟨b_0.state.motion.words,r0⟩:bW),b_0.state.moved,b_0.state.choice,b_0.state.division,b_0.state.open_,b_0.state.results⟩:dF)⟩:aF))
noncomputable def GO (a_0:aW) (b_1:aW):Option (Bool) :=
 if a_0.number≠b_1.number then (
  none)
 else
 some false
noncomputable def xG (choice:List Int) (r0:(List (Int×aW))) (s0:Nat):Option ((Nat)⊕(Unit)) :=
 if (s0:Int) < (choice.length:Int) then (
  (choice[s0]?).bind fun x0 =>
  if ((iH r0 x0).getD (⟨0,0,0,0,([]:List aE)⟩:aW)).of≠0 then (
   none)
  else
  some (.inl (s0+1)))
 else
 some (.inr ())
noncomputable def xH (choice:List Int) (r0:(List (Int×aW))) (x0:Int) (s0:Nat):Option ((Nat)⊕(Unit)) :=
 if (s0:Int) < (choice.length:Int) then (
  (choice[s0]?).bind fun x1 =>
  (GO ((iH r0 x0).getD (⟨0,0,0,0,([]:List aE)⟩:aW)) ((iH r0 x1).getD (⟨0,0,0,0,([]:List aE)⟩:aW))).bind fun r1 =>
  if r1 then (
   none)
  else
  some (.inl (s0+1)))
 else
 some (.inr ())
noncomputable def xI (choice:List Int) (r0:(List (Int×aW))) (s0:Nat):Option ((Nat)⊕(Unit)) :=
 if (s0:Int) < (choice.length:Int) then (
  (choice[s0]?).bind fun x0 =>
  (bH (xH choice r0 x0) 0).bind fun eA1 =>
  some (.inl (s0+1)))
 else
 some (.inr ())
noncomputable def GP (m_0:bW) (choice:List Int):Option (Int) :=
 (qP m_0).bind fun r0 =>
 (bH (xG choice r0) 0).bind fun e41 =>
 (bH (xI choice r0) 0).bind fun eA1 =>
 some 0
noncomputable def xJ (choice:List Int) (r0:(List (Int×aW))) (s0:Nat):Option ((Nat)⊕(Unit)) :=
 if (s0:Int) < (choice.length:Int) then (
  (choice[s0]?).bind fun x0 =>
  if ((iH r0 x0).getD (⟨0,0,0,0,([]:List aE)⟩:aW)).number≠x0 then (
   none)
  else
  if x0=0 then (
   none)
  else
  if 0 < (s0:Int) then (
   none)
  else
  some (.inl (s0+1)))
 else
 some (.inr ())
noncomputable def GQ (m_0:bW) (choice:List Int):Option (Int) :=
 (KM m_0).bind fun r0 =>
 if r0≠0 then (
  none)
 else
 (qP m_0).bind fun r1 =>
 (bH (xJ choice r1) 0).bind fun e56 =>
 (GP m_0 choice).bind fun r2 =>
 some r2
noncomputable def xK (l_0:List Int) (s0:Nat):Option ((Nat)⊕(Unit)) :=
 if (s0:Int) < (l_0.length:Int) then (
  (l_0[s0]?).bind fun x0 =>
  if x0≠0 then (
   none)
  else
  some (.inl (s0+1)))
 else
 some (.inr ())
noncomputable def GR (l_0:List Int):Option (Int) :=
 (bH (xK l_0) 0).bind fun e16 =>
 some 0
noncomputable def GS (a_0:aW) (b_1:aW):Option (Int) :=
 bZ (-9223372036854775808≤(a_0.from_ - b_1.from_)∧(a_0.from_ - b_1.from_)≤9223372036854775807) <|
 bZ (-9223372036854775808≤(a_0.to_ - b_1.to_)∧(a_0.to_ - b_1.to_)≤9223372036854775807) <|
 bZ (-9223372036854775808≤(a_0.number - b_1.number)∧(a_0.number - b_1.number)≤9223372036854775807) <|
 (GR ([(a_0.from_ - b_1.from_),(a_0.to_ - b_1.to_),(a_0.number - b_1.number)]:List Int)).bind fun r0 =>
 some r0
noncomputable def xL (f0_:bW) (s0:Nat):Option ((Nat)⊕(Unit)) :=
 if (s0:Int) < (f0_.papers.length:Int) then (
  none)
 else
 none
noncomputable def KN (yield:aW→Option Bool) (f0_:bW) (f1_:Int):Option (Unit) :=
 (bH (xL f0_) 0).bind fun e11=>some e11
noncomputable def CO (m_0:bW) (s1:Int×List aE×List bE) (s0:Nat×List aW):Option ((Nat×List aW)⊕(List aW)) :=
 if (s0.1:Int) < (m_0.papers.length:Int) then (
  (m_0.papers[s0.1]?).bind fun x0 =>
  ((
   if x0.of=s1.1 then (
    bZ (s0.2.length+1≤1073741824) <|
    some (s0.2++[x0]))
   else
   some s0.2
  ):Option (List aW)).bind fun t0 =>
  some (.inl ((s0.1+1),t0)))
 else
 some (.inr s0.2)
noncomputable def CP (x1:aW) (r0:List aE) (s1:Int×List aE×List bE) (s0:Int×List aE×List bE):Option ((Int×List aE×List bE)⊕(Int×List aE×List bE)) :=
 if s0.1 < x1.from_ then (
  bZ (0≤s0.1) <|
  (r0[s0.1.toNat]?).bind fun x0 =>
  bZ (s0.2.1.length+([x0]:List aE).length≤1073741824) <|
  bZ (s0.2.2.length+([(⟨s1.1,s0.1⟩:bE)]:List bE).length≤1073741824) <|
  bZ (-9223372036854775808≤(s0.1+1)∧(s0.1+1)≤9223372036854775807) <|
  some (.inl ((s0.1+1),(s0.2.1++([x0]:List aE)),(s0.2.2++([(⟨s1.1,s0.1⟩:bE)]:List bE)))))
 else
 some (.inr (s0.1,s0.2.1,s0.2.2))
noncomputable def CQ (eB1:List aW) (l0:List aW) (choice:List Int) (r1:List aE) (s1:Int×List aE×List bE) (R0_:(Int×List aE×List bE)→Option (List aE×List bE)) (s0:Nat×Int×List aE×List bE):Option ((Nat×Int×List aE×List bE)⊕(Int×List aE×List bE)) :=
 if (s0.1:Int) < (eB1.length:Int) then (
  (l0[s0.1]?).bind fun x0 =>
  ((
   (wL choice x0.number).bind fun r2 =>
   ((
    if r2 then (
     ((
      (bH (CP x0 r1 s1) (s0.2.1,s0.2.2.1,s0.2.2.2)).bind fun eA1 =>
      some (eA1.1,eA1.2.1,eA1.2.2)
     ):Option (Int×List aE×List bE)).bind fun t2 =>
     (R0_ (x0.number,t2.2.1,t2.2.2)).bind fun r0 =>
     some (x0.to_,r0.1,r0.2))
    else
    some (s0.2.1,s0.2.2.1,s0.2.2.2)
   ):Option (Int×List aE×List bE)).bind fun t0 =>
   some (t0.1,t0.2.1,t0.2.2)
  ):Option (Int×List aE×List bE)).bind fun t1 =>
  some (.inl ((s0.1+1),t1.1,t1.2.1,t1.2.2)))
 else
 some (.inr (s0.2.1,s0.2.2.1,s0.2.2.2))
noncomputable def CR (r0:List aE) (s1:Int×List aE×List bE) (s0:Int×List aE×List bE):Option ((Int×List aE×List bE)⊕(Int×List aE×List bE)) :=
 if s0.1 < (r0.length:Int) then (
  bZ (0≤s0.1) <|
  (r0[s0.1.toNat]?).bind fun x0 =>
  bZ (s0.2.1.length+([x0]:List aE).length≤1073741824) <|
  bZ (s0.2.2.length+([(⟨s1.1,s0.1⟩:bE)]:List bE).length≤1073741824) <|
  bZ (-9223372036854775808≤(s0.1+1)∧(s0.1+1)≤9223372036854775807) <|
  some (.inl ((s0.1+1),(s0.2.1++([x0]:List aE)),(s0.2.2++([(⟨s1.1,s0.1⟩:bE)]:List bE)))))
 else
 some (.inr (s0.1,s0.2.1,s0.2.2))
noncomputable def CS (m_0:bW) (choice:List Int) (R0_:(Int×List aE×List bE)→Option (List aE×List bE)) (s0:Int×List aE×List bE):Option (List aE×List bE) :=
 (AE m_0 s0.1).bind fun r0 =>
 ((
  (bH (CO m_0 s0) (0,([]:List aW))).bind fun eA1 =>
  bZ (eA1.Nodup) <|
  (iN (GS) eA1).bind fun l0 =>
  (bH (CQ eA1 l0 choice r0 s0 R0_) (0,0,s0.2.1,s0.2.2)).bind fun eB1 =>
  some (eB1.1,eB1.2.1,eB1.2.2)
 ):Option (Int×List aE×List bE)).bind fun t0 =>
 ((
  (bH (CR r0 s0) (t0.1,t0.2.1,t0.2.2)).bind fun eC1 =>
  some (eC1.1,eC1.2.1,eC1.2.2)
 ):Option (Int×List aE×List bE)).bind fun t1 =>
 some (t1.2.1,t1.2.2)
noncomputable def pB (m_0:bW) (choice:List Int):Nat→(Int×List aE×List bE)→Option (List aE×List bE)
 | 0,_=>none
 | n_+1,s0=>CS m_0 choice (pB m_0 choice n_) s0
noncomputable def NL (m_0:bW) (choice:List Int):Option (List aE×List bE×Int) :=
 (GQ m_0 choice).bind fun r0 =>
 if r0≠0 then (
  some (([]:List aE),([]:List bE),r0))
 else
 (zF (fun n_=>pB m_0 choice n_ (0,([]:List aE),([]:List bE)))).bind fun r1 =>
 some (r1.1,r1.2,0)
noncomputable def QO (b_0:aF) (l_1:List Int) (__2:aE):Option (aF⊕Int) :=
 ((
  if b_0.state.moved then (
   some (.inl ()))
  else
  some (.inr (.inr 8))
 ):Option ((Unit)⊕(aF⊕Int))).bind fun t0=>match t0 with
 | .inr z=>some z
 | .inl t4 =>
 (l_1[0]?).bind fun x0 =>
 (FK b_0.state.choice x0).bind fun r0 =>
 ((
  if r0.2 then (
   some (.inr (.inr 6)))
  else
  some (.inl ())
 ):Option ((Unit)⊕(aF⊕Int))).bind fun t1=>match t1 with
 | .inr z=>some z
 | .inl t5 =>
 (FL b_0.state.choice).bind fun r1 =>
 bZ (0≤r0.1) <|
 bZ (r0.1.toNat≤r1.length) <|
 bZ (r1.length+([x0]:List Int).length≤1073741824) <|
 (NL b_0.state.motion (r1.take r0.1.toNat++([x0]:List Int)++r1.drop r0.1.toNat)).bind fun r2 =>
 ((
  ((
   if r2.2.2=0 then (
    some (.inl ()))
   else
   some (.inr (.inr (.inr r2.2.2)))
  ):Option ((Unit)⊕((Unit)⊕(aF⊕Int)))).bind fun t2=>match t2 with
  | .inr z=>some z
  | .inl t6 =>
  some (.inl ())
 ):Option ((Unit)⊕(aF⊕Int))).bind fun t3=>match t3 with
 | .inr z=>some z
 | .inl t7 =>
 some (.inl (⟨(⟨b_0.state.day,b_0.state.house,b_0.state.volume,b_0.state.bound,b_0.state.errata,b_0.state.hides,b_0.state.cites,b_0.state.motion,b_0.state.moved,(r1.take r0.1.toNat++([x0]:List Int)++r1.drop r0.1.toNat),b_0.state.division,b_0.state.open_,b_0.state.results⟩:dF)⟩:aF))
noncomputable def QP (b_0:aF) (l_1:List Int) (__2:aE):Option (aF⊕Int) :=
 if b_0.state.moved then (
  ((
   if b_0.state.bound then (
    some (.inr (.inr 8)))
   else
   some (.inl ())
  ):Option ((Unit)⊕(aF⊕Int))).bind fun t0=>match t0 with
  | .inr z=>some z
  | .inl t3 =>
  (NL b_0.state.motion b_0.state.choice).bind fun r0 =>
  ((
   ((
    if r0.2.2=0 then (
     some (.inl ()))
    else
    some (.inr (.inr (.inr r0.2.2)))
   ):Option ((Unit)⊕((Unit)⊕(aF⊕Int)))).bind fun t1=>match t1 with
   | .inr z=>some z
   | .inl t4 =>
   some (.inl ())
  ):Option ((Unit)⊕(aF⊕Int))).bind fun t2=>match t2 with
  | .inr z=>some z
  | .inl t5 =>
  (PB r0.1 [32]).bind fun r1 =>
  (NI b_0 l_1 r1).bind fun r2=>match r2 with
  | .inl y0=>(
   some (.inl (⟨(⟨y0.state.day,y0.state.house,y0.state.volume,y0.state.bound,y0.state.errata,y0.state.hides,y0.state.cites,(⟨([]:List aE),([]:List aW)⟩:bW),false,([]:List Int),y0.state.division,y0.state.open_,y0.state.results⟩:dF)⟩:aF)))
  | .inr _=>(
   none))
 else
 none
noncomputable def QQ  : Option ((List (aE×dR))) :=
 some (put (put (put (put (put (put (put (put (put (put (put (put (put (put (put (put (put ([]:List (aE×dR)) [100,97,121] (⟨1,false,(some 30)⟩:dR)) [115,97,121] (⟨1,true,(some 31)⟩:dR)) [98,105,110,100] (⟨3,false,(some 32)⟩:dR)) [99,104,97,110,103,101] (⟨2,true,(some 33)⟩:dR)) [114,101,109,111,118,101] (⟨2,false,(some 34)⟩:dR)) [97,100,100] (⟨3,true,(some 35)⟩:dR)) [99,105,116,101] (⟨2,false,(some 36)⟩:dR)) [104,105,100,101] (⟨3,false,(some 37)⟩:dR)) [104,111,117,115,101] (⟨1,false,(some 38)⟩:dR)) [100,105,118,105,100,101] (⟨4,false,(some 39)⟩:dR)) [116,101,108,108] (⟨3,false,(some 40)⟩:dR)) [112,97,105,114] (⟨2,false,(some 41)⟩:dR)) [114,101,115,117,108,116] (⟨0,false,(some 42)⟩:dR)) [109,111,118,101] (⟨0,true,(some 43)⟩:dR)) [112,97,112,101,114] (⟨4,true,(some 44)⟩:dR)) [97,100,111,112,116] (⟨1,false,(some 45)⟩:dR)) [111,114,100,101,114] (⟨1,false,(some 46)⟩:dR))
noncomputable def QR (s_0:aE):Option (Int⊕Unit) :=
 (OZ s_0).bind fun r1 =>
 if r1.2 then (
  none)
 else
 (PA r1.1).bind fun r0 =>
 if r0=s_0 then (
  (oG r1.1 (-999999999) 999999999).bind fun r2 =>
  ((
   if r2 then (
    some ())
   else
   none
  ):Option (Unit)).bind fun t0 =>
  some (.inl r1.1))
 else
 none
noncomputable def KO (q:Option Nat) (b_0:aF) (l_1:List Int) (__2:aE):Option (aF⊕Int) :=
 if q=some 31 then NI b_0 l_1 __2
 else if q=some 32 then PM b_0 l_1 __2
 else if q=some 33 then PN b_0 l_1 __2
 else if q=some 34 then PO b_0 l_1 __2
 else if q=some 35 then PP b_0 l_1 __2
 else if q=some 36 then PV b_0 l_1 __2
 else if q=some 37 then PZ b_0 l_1 __2
 else if q=some 38 then QA b_0 l_1 __2
 else if q=some 39 then QD b_0 l_1 __2
 else if q=some 40 then QF b_0 l_1 __2
 else if q=some 42 then QK b_0 l_1 __2
 else if q=some 43 then QL b_0 l_1 __2
 else if q=some 44 then QN b_0 l_1 __2
 else if q=some 45 then QO b_0 l_1 __2
 else if q=some 46 then QP b_0 l_1 __2
 else none
noncomputable def CT (r1:(List (aE×dR))) (r2:aE×aE×Bool) (s0:Nat×aE×Bool×List Int):Option ((Nat×aE×Bool×List Int)⊕(aE×Bool×List Int)) :=
 if (s0.1:Int) < ((iH r1 r2.1).getD (⟨0,false,(none:Option Nat)⟩:dR)).many then (
  ((
   if s0.2.2.1 then (
    some ())
   else
   none
  ):Option (Unit)).bind fun t0 =>
  (NF s0.2.1 [32]).bind fun r0 =>
  (QR r0.1).bind fun r3=>match r3 with
  | .inl y0=>(
   bZ (s0.2.2.2.length+1≤1073741824) <|
   bZ (-9223372036854775808≤((s0.1:Int)+1)∧((s0.1:Int)+1)≤9223372036854775807) <|
   some (.inl ((s0.1+1),r0.2.1,r0.2.2,(s0.2.2.2++[y0]))))
  | .inr _=>(
   none))
 else
 some (.inr (s0.2.1,s0.2.2.1,s0.2.2.2))
noncomputable def QS (b_0:aF) (text:aE):Option (aF×Int) :=
 (NF text [32]).bind fun r0 =>
 (QQ).bind fun r1 =>
 ((
  if (iH r1 r0.1).isSome then (
   some ())
  else
  none
 ):Option (Unit)).bind fun t0 =>
 (bH (CT r1 r0) (0,r0.2.1,r0.2.2,([]:List Int))).bind fun eA1 =>
 ((
  if eA1.2.1==((iH r1 r0.1).getD (⟨0,false,(none:Option Nat)⟩:dR)).text then (
   some ())
  else
  none
 ):Option (Unit)).bind fun t1 =>
 (KO (((iH r1 r0.1).getD (⟨0,false,(none:Option Nat)⟩:dR)).do_) b_0 eA1.2.2 eA1.1).bind fun r2=>match r2 with
 | .inl y0=>(
  some (y0,0))
 | .inr y0=>(
  some (b_0,y0))
noncomputable def CU (lines:List aE) (s:Nat×aF×List Int):Option ((Nat×aF×List Int)⊕(aF×List Int)) :=
 if (s.1:Int) < (lines.length:Int) then (
  (lines[s.1]?).bind fun x =>
  (QS s.2.1 x).bind fun r =>
  bZ (s.2.2.length+1≤1073741824) <|
  some (.inl ((s.1+1),r.1,(s.2.2++[r.2]))))
 else
 some (.inr s.2)
noncomputable def QT (lines:List aE):Option (aF×List Int) :=
 (bH (CU lines) (0,(⟨(⟨0,0,(⟨0,0,0,0,([]:List dS)⟩:cG),false,([]:List aT),([]:List fD),([]:List aE),(⟨([]:List aE),([]:List aW)⟩:bW),false,([]:List Int),(⟨0,(⟨([]:List Int),([]:List Int)⟩:bU),(⟨([]:List Int),([]:List Int)⟩:bU),([]:List eP),([]:List dX),0,0,0,0⟩:aZ),false,([]:List UInt8)⟩:dF)⟩:aF),([]:List Int))).bind fun e =>
 some e
noncomputable def m9 (lines:List aE):Option (dF×List Int×Int) :=
 (II lines).bind fun r2 =>
 if r2≠0 then (
  none)
 else
 (QT lines).bind fun r0 =>
 some (r0.1.state,r0.2,0)
noncomputable def oH (turned:Bool) (s0:Int×Int×cK):Option ((Int×Int×cK)⊕(cK)) :=
 if 0≤s0.2.1 then (
  bZ (0≤s0.1∧0 < (8:Int)) <|
  ((
   if turned then (
    some (7 - (s0.1%8)))
   else
   some (s0.1%8)
  ):Option (Int)).bind fun t0 =>
  bZ (-9223372036854775808≤(48+t0)∧(48+t0)≤9223372036854775807) <|
  bZ (0≤(48+t0)∧(48+t0)≤255) <|
  bZ (s0.2.1 < 6) <|
  bZ (0≤s0.1∧s0.1≤9223372036854775807∧0 < (8:Int)) <|
  bZ (-9223372036854775808≤(s0.2.1 - 1)∧(s0.2.1 - 1)≤9223372036854775807) <|
  some (.inl ((s0.1/8),(s0.2.1 - 1),(cK.set s0.2.2 s0.2.1.toNat (48+t0)))))
 else
 some (.inr s0.2.2)
noncomputable def AF (n_0:Int) (many:Int) (turned:Bool):Option (aE) :=
 bZ (-9223372036854775808≤(many - 1)∧(many - 1)≤9223372036854775807) <|
 (bH (oH turned) (n_0,(many - 1),cK.zero)).bind fun e46 =>
 bZ (∀ v∈cK.vals e46,0≤v∧v≤255) <|
 bZ (0≤many) <|
 bZ (many.toNat≤6) <|
 some (((cK.vals e46).map vE).take many.toNat)
noncomputable def oI (s_0:aE) (s0:Nat×Int):Option ((Nat×Int)⊕(Int)) :=
 if (s0.1:Int) < (s_0.length:Int) then (
  (s_0[s0.1]?).bind fun x0 =>
  bZ (-9223372036854775808≤(29*s0.2)∧(29*s0.2)≤9223372036854775807) <|
  bZ (-9223372036854775808≤((29*s0.2)+(x0.toNat:Int))∧((29*s0.2)+(x0.toNat:Int))≤9223372036854775807) <|
  bZ (-9223372036854775808≤(((29*s0.2)+(x0.toNat:Int))+3)∧(((29*s0.2)+(x0.toNat:Int))+3)≤9223372036854775807) <|
  bZ (0≤(((29*s0.2)+(x0.toNat:Int))+3)∧0 < (262139:Int)) <|
  some (.inl ((s0.1+1),((((29*s0.2)+(x0.toNat:Int))+3)%262139))))
 else
 some (.inr s0.2)
noncomputable def m17 (s_0:aE):Option (aE) :=
 bZ (s_0.length≤1073741824) <|
 (bH (oI s_0) (0,11)).bind fun e47 =>
 (AF (s_0.length:Int) 4 false).bind fun r0 =>
 bZ ([91].length+r0.length≤1073741824) <|
 (AF (s_0.length:Int) 4 true).bind fun r1 =>
 bZ (([91]++r0).length+r1.length≤1073741824) <|
 (AF e47 6 false).bind fun r2 =>
 bZ ((([91]++r0)++r1).length+r2.length≤1073741824) <|
 bZ (((([91]++r0)++r1)++r2).length+[93].length≤1073741824) <|
 bZ ((((([91]++r0)++r1)++r2)++[93]).length+s_0.length≤1073741824) <|
 bZ (((((([91]++r0)++r1)++r2)++[93])++s_0).length+[10].length≤1073741824) <|
 some (((((([91]++r0)++r1)++r2)++[93])++s_0)++[10])
noncomputable def oJ (lines:List aE) (s0:Nat×List UInt8):Option ((Nat×List UInt8)⊕(List UInt8)) :=
 if (s0.1:Int) < (lines.length:Int) then (
  (lines[s0.1]?).bind fun x0 =>
  (m17 x0).bind fun r0 =>
  bZ (s0.2.length+r0.length≤1073741824) <|
  some (.inl ((s0.1+1),(s0.2++r0))))
 else
 some (.inr s0.2)
noncomputable def KP (lines:List aE):Option (List UInt8) :=
 (bH (oJ lines) (0,([]:List UInt8))).bind fun e64 =>
 some e64
noncomputable def m5 (lines:List aE):Option (List UInt8×Int) :=
 (II lines).bind fun r1 =>
 if r1≠0 then (
  some (([]:List UInt8),r1))
 else
 (KP lines).bind fun r0 =>
 some (r0,0)
noncomputable def tG (a_0:List aE) (b_1:List aE) (s0:Nat):Option ((Nat)⊕((Unit)⊕Bool)) :=
 if (s0:Int) < (a_0.length:Int) then (
  (a_0[s0]?).bind fun x0 =>
  (b_1[s0]?).bind fun x1 =>
  if x0≠x1 then (
   some (.inr (.inr false)))
  else
  some (.inl (s0+1)))
 else
 some (.inr (.inl ()))
noncomputable def m8 (a_0:List aE) (b_1:List aE):Option (Bool) :=
 if (a_0.length:Int)≠(b_1.length:Int) then (
  some false)
 else
 (bH (tG a_0 b_1) 0).bind fun e31=>match e31 with
 | .inr z=>some z
 | .inl t0 =>
 some true
noncomputable def m4  : Option (Bool) :=
 (PG).bind fun r1 =>
 (m9 r1).bind fun r8 =>
 (m5 ([[97]]:List aE)).bind fun r0 =>
 if r8.2.2=0 then (
  if r0.2=0 then (
   if (r8.2.1.length:Int)=18 then (
    (r8.2.1[11]?).bind fun x0 =>
    if x0=10 then (
     (r8.2.1[17]?).bind fun x1 =>
     if x1=0 then (
      if r8.1.bound then (
       if (r8.1.results.length:Int)=1 then (
        (r8.1.results[0]?).bind fun x2 =>
        if (x2.toNat:Int)=1 then (
         (m8 r8.1.cites ([[118,111,108,46,32,51,44,32,99,111,108,46,32,49,44,32,108,46,32,50]]:List aE)).bind fun r2 =>
         if r2 then (
          some (decide (r0.1=[91,48,48,48,49,55,55,55,54,48,48,48,54,52,51,93,97,10])))
         else
         none)
        else
        none)
       else
       none)
      else
      none)
     else
     none)
    else
    none)
   else
   none)
  else
  none)
 else
 none
noncomputable def m6 (l_0:List aE):Option (List aE) :=
 bZ (([]:List aE).length+l_0.length≤1073741824) <|
 some (([]:List aE)++l_0)
noncomputable def mR (l_0:List UInt8) (s0:Nat×Int):Option ((Nat×Int)⊕((Int)⊕Int)) :=
 if (s0.1:Int) < (l_0.length:Int) then (
  (l_0[s0.1]?).bind fun x0 =>
  ((
   if (x0.toNat:Int) < 48 then (
    some true)
   else
   some (decide (55 < (x0.toNat:Int)))
  ):Option (Bool)).bind fun t0 =>
  if t0 then (
   some (.inr (.inr (-1))))
  else
  bZ (-9223372036854775808≤(8*s0.2)∧(8*s0.2)≤9223372036854775807) <|
  bZ (-9223372036854775808≤((8*s0.2)+(((x0.toNat:Int) - 48)%256))∧((8*s0.2)+(((x0.toNat:Int) - 48)%256))≤9223372036854775807) <|
  some (.inl ((s0.1+1),((8*s0.2)+(((x0.toNat:Int) - 48)%256)))))
 else
 some (.inr (.inl s0.2))
noncomputable def m19 (l_0:List UInt8):Option (Int) :=
 (bH (mR l_0) (0,0)).bind fun e47=>match e47 with
 | .inr z=>some z
 | .inl t0 =>
 some t0
noncomputable def CV (f0_:List UInt8) (yield:Int→aE→Option Bool) (s0:Int):Option ((Int)⊕((Unit)⊕Unit)) :=
 bZ (-9223372036854775808≤((f0_.length:Int) - s0)∧((f0_.length:Int) - s0)≤9223372036854775807) <|
 if 17≤((f0_.length:Int) - s0) then (
  bZ (-9223372036854775808≤(s0+1)∧(s0+1)≤9223372036854775807) <|
  bZ (-9223372036854775808≤((s0+1)+4)∧((s0+1)+4)≤9223372036854775807) <|
  bZ (0≤(s0+1)) <|
  bZ (0≤((s0+1)+4)) <|
  bZ ((s0+1).toNat≤((s0+1)+4).toNat∧((s0+1)+4).toNat≤f0_.length) <|
  (m19 ((f0_.drop ((s0+1).toNat)).take (((s0+1)+4).toNat - ((s0+1).toNat)))).bind fun r0 =>
  ((
   (oG r0 0 400).bind fun r1 =>
   if r1 then (
    bZ (-9223372036854775808≤(17+r0)∧(17+r0)≤9223372036854775807) <|
    some (decide (((f0_.length:Int) - s0) < (17+r0))))
   else
   some true
  ):Option (Bool)).bind fun t0 =>
  if t0 then (
   some (.inr (.inr ())))
  else
  bZ (-9223372036854775808≤(s0+17)∧(s0+17)≤9223372036854775807) <|
  bZ (-9223372036854775808≤((s0+17)+r0)∧((s0+17)+r0)≤9223372036854775807) <|
  bZ (-9223372036854775808≤(s0+16)∧(s0+16)≤9223372036854775807) <|
  bZ (-9223372036854775808≤(((s0+17)+r0) - 1)∧(((s0+17)+r0) - 1)≤9223372036854775807) <|
  bZ (0≤(s0+16)) <|
  bZ (0≤(((s0+17)+r0) - 1)) <|
  bZ ((s0+16).toNat≤(((s0+17)+r0) - 1).toNat∧(((s0+17)+r0) - 1).toNat≤f0_.length) <|
  ((
   (m17 ((f0_.drop ((s0+16).toNat)).take ((((s0+17)+r0) - 1).toNat - ((s0+16).toNat)))).bind fun r2 =>
   bZ (0≤s0) <|
   bZ (0≤((s0+17)+r0)) <|
   bZ (s0.toNat≤((s0+17)+r0).toNat∧((s0+17)+r0).toNat≤f0_.length) <|
   if r2≠((f0_.drop s0.toNat).take (((s0+17)+r0).toNat - s0.toNat)) then (
    some true)
   else
   (yield ((s0+17)+r0) ((f0_.drop ((s0+16).toNat)).take ((((s0+17)+r0) - 1).toNat - ((s0+16).toNat)))).bind fun r3 =>
   some (!r3)
  ):Option (Bool)).bind fun t1 =>
  if t1 then (
   some (.inr (.inr ())))
  else
  some (.inl ((s0+17)+r0)))
 else
 some (.inr (.inl ()))
noncomputable def m18 (yield:Int→aE→Option Bool) (f0_:List UInt8):Option (Unit) :=
 (bH (CV f0_ yield) 0).bind fun eA1=>match eA1 with
 | .inr z=>some z
 | .inl t0 =>
 some ()
noncomputable def pC (b_0:List UInt8) (s0:Int×Int×List aE):Option ((Int×Int×List aE)⊕((Int×List aE)⊕((Int×List aE)⊕(Int×List aE)))) :=
 bZ (-9223372036854775808≤((b_0.length:Int) - s0.1)∧((b_0.length:Int) - s0.1)≤9223372036854775807) <|
 if 17≤((b_0.length:Int) - s0.1) then (
  bZ (-9223372036854775808≤(s0.1+1)∧(s0.1+1)≤9223372036854775807) <|
  bZ (-9223372036854775808≤((s0.1+1)+4)∧((s0.1+1)+4)≤9223372036854775807) <|
  bZ (0≤(s0.1+1)) <|
  bZ (0≤((s0.1+1)+4)) <|
  bZ ((s0.1+1).toNat≤((s0.1+1)+4).toNat∧((s0.1+1)+4).toNat≤b_0.length) <|
  (m19 ((b_0.drop ((s0.1+1).toNat)).take (((s0.1+1)+4).toNat - ((s0.1+1).toNat)))).bind fun r0 =>
  ((
   (oG r0 0 400).bind fun r1 =>
   if r1 then (
    bZ (-9223372036854775808≤(17+r0)∧(17+r0)≤9223372036854775807) <|
    some (decide (((b_0.length:Int) - s0.1) < (17+r0))))
   else
   some true
  ):Option (Bool)).bind fun t1 =>
  if t1 then (
   some (.inr (.inr (.inl (s0.2.1,s0.2.2)))))
  else
  bZ (-9223372036854775808≤(s0.1+17)∧(s0.1+17)≤9223372036854775807) <|
  bZ (-9223372036854775808≤((s0.1+17)+r0)∧((s0.1+17)+r0)≤9223372036854775807) <|
  bZ (-9223372036854775808≤(s0.1+16)∧(s0.1+16)≤9223372036854775807) <|
  bZ (-9223372036854775808≤(((s0.1+17)+r0) - 1)∧(((s0.1+17)+r0) - 1)≤9223372036854775807) <|
  bZ (0≤(s0.1+16)) <|
  bZ (0≤(((s0.1+17)+r0) - 1)) <|
  bZ ((s0.1+16).toNat≤(((s0.1+17)+r0) - 1).toNat∧(((s0.1+17)+r0) - 1).toNat≤b_0.length) <|
  (m17 ((b_0.drop ((s0.1+16).toNat)).take ((((s0.1+17)+r0) - 1).toNat - ((s0.1+16).toNat)))).bind fun r2 =>
  bZ (0≤s0.1) <|
  bZ (0≤((s0.1+17)+r0)) <|
  bZ (s0.1.toNat≤((s0.1+17)+r0).toNat∧((s0.1+17)+r0).toNat≤b_0.length) <|
  if r2≠((b_0.drop s0.1.toNat).take (((s0.1+17)+r0).toNat - s0.1.toNat)) then (
   some (.inr (.inr (.inl (s0.2.1,s0.2.2)))))
  else
  ((
   if (s0.2.2.length:Int)=60 then (
    some (.inl ()))
   else
   bZ (s0.2.2.length+1≤1073741824) <|
   some (.inr (((s0.1+17)+r0),(s0.2.2++[((b_0.drop ((s0.1+16).toNat)).take ((((s0.1+17)+r0) - 1).toNat - ((s0.1+16).toNat)))])))
  ):Option ((Unit)⊕(Int×List aE))).bind fun t2=>match t2 with
  | .inl t3=>(
   some (.inr (.inr (.inr (s0.2.1,s0.2.2)))))
  | .inr t0=>(
   some (.inl (((s0.1+17)+r0),t0.1,t0.2))))
 else
 some (.inr (.inl (s0.2.1,s0.2.2)))
noncomputable def m7 (b_0:List UInt8):Option (List aE×Int) :=
 ((
  (bH (pC b_0) (0,0,([]:List aE))).bind fun eA1=>match eA1 with
  | .inr z=>some z
  | .inl t0 =>
  some (.inl (t0.1,t0.2))
 ):Option ((Int×List aE)⊕(Int×List aE))).bind fun t3=>match t3 with
 | .inl t1=>(
  some (t1.2,t1.1))
 | .inr t2=>(
  some (t2.2,t2.1))
noncomputable def qQ (lines:List aE) (s0:Nat):Option ((Nat)⊕((Unit)⊕Bool)) :=
 if (s0:Int) < (lines.length:Int) then (
  (lines[s0]?).bind fun x0 =>
  if 200 < (x0.length:Int) then (
   (m4).bind fun r0 =>
   some (.inr (.inr r0)))
  else
  some (.inl (s0+1)))
 else
 some (.inr (.inl ()))
noncomputable def tH (lines:List aE) (at_1:Int) (r1:List UInt8×Int) (s0:Nat×Nat):Option ((Nat×Nat)⊕((Nat×Nat)⊕Bool)) :=
 if (s0.1:Int) < (lines.length:Int) then (
  bZ (((s0.1:Int)+1).toNat≤lines.length) <|
  (m6 (lines.take (((s0.1:Int)+1).toNat))).bind fun r2 =>
  (m5 r2).bind fun r0 =>
  if r0.2≠0 then (
   some (.inr (.inr false)))
  else
  if (at_1%(r1.1.length:Int)) < (r0.1.length:Int) then (
   some (.inr (.inl (s0.1,s0.2))))
  else
  some (.inl ((s0.1+1),r0.1.length)))
 else
 some (.inr (.inl (s0.1,s0.2)))
noncomputable def m3 (lines:List aE) (at_1:Int) (change:Int):Option (Bool) :=
 ((
  if (lines.length:Int)=0 then (
   some true)
  else
  some (decide (25 < (lines.length:Int)))
 ):Option (Bool)).bind fun t4 =>
 if t4 then (
  (m4).bind fun r4 =>
  some r4)
 else
 (bH (qQ lines) 0).bind fun e40=>match e40 with
 | .inr z=>some z
 | .inl t6 =>
 (m6 lines).bind fun r5 =>
 (m5 r5).bind fun r0 =>
 ((
  if r0.2≠0 then (
   some true)
  else
  some (decide ((r0.1.length:Int)=0))
 ):Option (Bool)).bind fun t1 =>
 if t1 then (
  some false)
 else
 bZ (-9223372036854775808≤at_1∧at_1≤9223372036854775807) <|
 bZ (0≤at_1∧0 < (r0.1.length:Int)) <|
 (bH (tH lines at_1 r0) (0,0)).bind fun eA1=>match eA1 with
 | .inr z=>some z
 | .inl t0 =>
 bZ ((at_1%(r0.1.length:Int)).toNat≤r0.1.length) <|
 bZ (([]:List UInt8).length+(r0.1.take ((at_1%(r0.1.length:Int)).toNat)).length≤1073741824) <|
 (m7 (([]:List UInt8)++(r0.1.take ((at_1%(r0.1.length:Int)).toNat)))).bind fun r1 =>
 ((
  bZ (t0.1≤lines.length) <|
  (m8 r1.1 (lines.take t0.1)).bind fun r6 =>
  if r6 then (
   some (decide (r1.2≠(t0.2:Int))))
  else
  some true
 ):Option (Bool)).bind fun t2 =>
 if t2 then (
  some false)
 else
 bZ (([]:List UInt8).length+r0.1.length≤1073741824) <|
 ((([]:List UInt8)++r0.1)[(at_1%(r0.1.length:Int)).toNat]?).bind fun x0 =>
 bZ (0≤change∧0 < (255:Int)) <|
 (m7 ((([]:List UInt8)++r0.1).set ((at_1%(r0.1.length:Int)).toNat) (UInt8.ofNat (((x0.toNat:Int)+(1+(change%255)))%256).toNat))).bind fun r2 =>
 ((
  bZ (t0.1≤lines.length) <|
  (m8 r2.1 (lines.take t0.1)).bind fun r7 =>
  if r7 then (
   some (decide (r2.2≠(t0.2:Int))))
  else
  some true
 ):Option (Bool)).bind fun t3 =>
 if t3 then (
  some false)
 else
 (m7 (([]:List UInt8)++r0.1)).bind fun r3 =>
 ((
  (m8 r3.1 lines).bind fun r8 =>
  if r8 then (
   if r3.2=(r0.1.length:Int) then (
    (m4).bind fun r9 =>
    some r9)
   else
   some false)
  else
  some false
 ):Option (Bool)).bind fun t5 =>
 some t5
end T12
namespace T12
open Go.Proofs
abbrev C10:=@Tryz.call10
abbrev QU:=@Tryz.call100
abbrev QV:=@Tryz.call101
abbrev QW:=@Tryz.call102
abbrev QX:=@Tryz.call103
abbrev QY:=@Tryz.call104
abbrev QZ:=@Tryz.call105
abbrev RA:=@Tryz.call106
abbrev RB:=@Tryz.call108
abbrev RD:=@Tryz.call109
abbrev ZS:=@Tryz.call11
abbrev RF:=@Tryz.call110
abbrev KQ:=@Tryz.call111
abbrev KR:=@Tryz.call112
abbrev KS:=@Tryz.call113
abbrev RG:=@Tryz.call114
abbrev GT:=@Tryz.call115
abbrev C12:=@Tryz.call12
abbrev rN:=@Tryz.call127
abbrev RH:=@Tryz.call128
abbrev RI:=@Tryz.call129
abbrev C13:=@Tryz.call13
abbrev RJ:=@Tryz.call130
abbrev RK:=@Tryz.call131
abbrev AG:=@Tryz.call132
abbrev RL:=@Tryz.call133
abbrev RM:=@Tryz.call134
abbrev RN:=@Tryz.call135
abbrev KT:=@Tryz.call136
abbrev KU:=@Tryz.call138
abbrev GU:=@Tryz.call139
abbrev C14:=@Tryz.call14
abbrev RO:=@Tryz.call141
abbrev RP:=@Tryz.call142
abbrev RQ:=@Tryz.call143
abbrev KV:=@Tryz.call144
abbrev KW:=@Tryz.call145
abbrev RR:=@Tryz.call146
abbrev RS:=@Tryz.call147
abbrev RT:=@Tryz.call148
abbrev RU:=@Tryz.call149
abbrev ZT:=@Tryz.call15
abbrev RV:=@Tryz.call150
abbrev xM:=@Tryz.call151
abbrev RW:=@Tryz.call152
abbrev RX:=@Tryz.call153
abbrev KX:=@Tryz.call154
abbrev KY:=@Tryz.call155
abbrev RY:=@Tryz.call156
abbrev RZ:=@Tryz.call157
abbrev SA:=@Tryz.call158
abbrev KZ:=@Tryz.call159
abbrev C16:=@Tryz.call16
abbrev SB:=@Tryz.call160
abbrev tI:=@Tryz.call161
abbrev SC:=@Tryz.call162
abbrev SD:=@Tryz.call163
abbrev SE:=@Tryz.call164
abbrev SF:=@Tryz.call165
abbrev SG:=@Tryz.call166
abbrev SH:=@Tryz.call167
abbrev SI:=@Tryz.call168
abbrev SJ:=@Tryz.call169
abbrev LA:=@Tryz.call17
abbrev SK:=@Tryz.call170
abbrev SL:=@Tryz.call171
abbrev SM:=@Tryz.call172
abbrev C18:=@Tryz.call18
abbrev SN:=@Tryz.call182
abbrev SO:=@Tryz.call183
abbrev SP:=@Tryz.call184
abbrev SQ:=@Tryz.call185
abbrev SR:=@Tryz.call186
abbrev SS:=@Tryz.call187
abbrev LB:=@Tryz.call188
abbrev GV:=@Tryz.call189
abbrev ZU:=@Tryz.call19
abbrev GW:=@Tryz.call190
abbrev AH:=@Tryz.call195
abbrev LC:=@Tryz.call196
abbrev LD:=@Tryz.call197
abbrev SU:=@Tryz.call198
abbrev tV:=@Tryz.call20
abbrev SV:=@Tryz.call200
abbrev SW:=@Tryz.call201
abbrev SX:=@Tryz.call202
abbrev SY:=@Tryz.call203
abbrev SZ:=@Tryz.call206
abbrev C21:=@Tryz.call21
abbrev TA:=@Tryz.call212
abbrev TB:=@Tryz.call216
abbrev TC:=@Tryz.call217
abbrev TD:=@Tryz.call218
abbrev TE:=@Tryz.call219
abbrev C22:=@Tryz.call22
abbrev TF:=@Tryz.call220
abbrev TH:=@Tryz.call221
abbrev TI:=@Tryz.call222
abbrev TJ:=@Tryz.call23
abbrev TK:=@Tryz.call232
abbrev LE:=@Tryz.call233
abbrev TL:=@Tryz.call234
abbrev TM:=@Tryz.call235
abbrev TN:=@Tryz.call237
abbrev LF:=@Tryz.call238
abbrev TO:=@Tryz.call241
abbrev TP:=@Tryz.call242
abbrev TQ:=@Tryz.call243
abbrev TR:=@Tryz.call244
abbrev TS:=@Tryz.call245
abbrev TT:=@Tryz.call246
abbrev TU:=@Tryz.call247
abbrev TV:=@Tryz.call248
abbrev ZV:=@Tryz.call25
abbrev TW:=@Tryz.call254
abbrev TX:=@Tryz.call255
abbrev TY:=@Tryz.call256
abbrev C26:=@Tryz.call26
abbrev TZ:=@Tryz.call267
abbrev iO:=@Tryz.call27
abbrev UA:=@Tryz.call277
abbrev UB:=@Tryz.call278
abbrev UC:=@Tryz.call279
abbrev C28:=@Tryz.call28
abbrev UD:=@Tryz.call280
abbrev UE:=@Tryz.call281
abbrev LG:=@Tryz.call282
abbrev UF:=@Tryz.call291
abbrev UG:=@Tryz.call292
abbrev ZW:=@Tryz.call31
abbrev C32:=@Tryz.call32
abbrev C33:=@Tryz.call33
abbrev C34:=@Tryz.call34
abbrev C35:=@Tryz.call35
abbrev C36:=@Tryz.call36
abbrev C37:=@Tryz.call37
abbrev C38:=@Tryz.call38
abbrev C39:=@Tryz.call39
abbrev C4:=@Tryz.call4
abbrev C40:=@Tryz.call40
abbrev C42:=@Tryz.call42
abbrev C43:=@Tryz.call43
abbrev C44:=@Tryz.call44
abbrev C45:=@Tryz.call45
abbrev C46:=@Tryz.call46
abbrev C47:=@Tryz.call47
abbrev C48:=@Tryz.call48
abbrev C5:=@Tryz.call5
abbrev C50:=@Tryz.call50
abbrev C51:=@Tryz.call51
abbrev yD:=@Tryz.call52
abbrev UH:=@Tryz.call53
abbrev C54:=@Tryz.call54
abbrev C56:=@Tryz.call56
abbrev C57:=@Tryz.call57
abbrev C58:=@Tryz.call58
abbrev C59:=@Tryz.call59
abbrev C6:=@Tryz.call6
abbrev C60:=@Tryz.call60
abbrev C61:=@Tryz.call61
abbrev LH:=@Tryz.call62
abbrev LI:=@Tryz.call63
abbrev LJ:=@Tryz.call64
abbrev C66:=@Tryz.call66
abbrev C67:=@Tryz.call67
abbrev ZX:=@Tryz.call68
abbrev UI:=@Tryz.call69
abbrev C7:=@Tryz.call7
abbrev C70:=@Tryz.call70
abbrev ZY:=@Tryz.call71
abbrev C72:=@Tryz.call72
abbrev C8:=@Tryz.call8
abbrev C80:=@Tryz.call80
abbrev NM:=@Tryz.call81
abbrev C82:=@Tryz.call82
abbrev UJ:=@Tryz.call85
abbrev UK:=@Tryz.call86
abbrev C87:=@Tryz.call87
abbrev C88:=@Tryz.call88
abbrev C89:=@Tryz.call89
abbrev C9:=@Tryz.call9
abbrev ZZ:=@Tryz.call90
abbrev C91:=@Tryz.call91
abbrev C92:=@Tryz.call92
abbrev C93:=@Tryz.call93
abbrev C94:=@Tryz.call94
abbrev C98:=@Tryz.call98
abbrev C99:=@Tryz.call99
abbrev LK:=@Tryz.isAgg105
abbrev UL:=@Tryz.isAgg114
abbrev UM:=@Tryz.isAgg123
abbrev nH:=@Tryz.isAgg130
abbrev xN:=@Tryz.isAgg131
abbrev LL:=@Tryz.isAgg141
abbrev UN:=@Tryz.isAgg146
abbrev UO:=@Tryz.isAgg153
abbrev GX:=@Tryz.isAgg154
abbrev GY:=@Tryz.isAgg159
abbrev GZ:=@Tryz.isAgg160
abbrev xO:=@Tryz.isAgg161
abbrev mT:=@Tryz.isAgg173
abbrev HA:=@Tryz.isAgg180
abbrev HB:=@Tryz.isAgg183
abbrev rO:=@Tryz.isAgg192
abbrev rP:=@Tryz.isAgg194
abbrev AI:=@Tryz.isAgg197
abbrev nA:=@Tryz.isAgg22
abbrev UP:=@Tryz.isAgg220
abbrev UQ:=@Tryz.isAgg223
abbrev UR:=@Tryz.isAgg236
abbrev LM:=@Tryz.isAgg237
abbrev US:=@Tryz.isAgg238
abbrev UT:=@Tryz.isAgg245
abbrev nB:=@Tryz.isAgg25
abbrev UU:=@Tryz.isAgg253
abbrev LN:=@Tryz.isAgg26
abbrev LO:=@Tryz.isAgg274
abbrev UV:=@Tryz.isAgg281
abbrev G3:=@Tryz.isAgg3
abbrev UW:=@Tryz.isAgg316
abbrev HD:=@Tryz.isAgg34
abbrev oK:=@Tryz.isAgg36
abbrev LP:=@Tryz.isAgg37
abbrev G38:=@Tryz.isAgg38
abbrev tW:=@Tryz.isAgg39
abbrev G4:=@Tryz.isAgg4
abbrev lI:=@Tryz.isAgg41
abbrev qX:=@Tryz.isAgg42
abbrev UX:=@Tryz.isAgg43
abbrev UY:=@Tryz.isAgg44
abbrev NN:=@Tryz.isAgg45
abbrev rQ:=@Tryz.isAgg47
abbrev G49:=@Tryz.isAgg49
abbrev G5:=@Tryz.isAgg5
abbrev G65:=@Tryz.isAgg65
abbrev G77:=@Tryz.isAgg77
abbrev G9:=@Tryz.isAgg9
abbrev yE:=@Tryz.isAgg94
abbrev UZ:=@Tryz.isAgg96
abbrev VA:=@Tryz.isAgg98
abbrev LQ:=@Tryz.sizeOf105
abbrev VB:=@Tryz.sizeOf114
abbrev VC:=@Tryz.sizeOf123
abbrev iG:=@Tryz.sizeOf130
abbrev AJ:=@Tryz.sizeOf131
abbrev LS:=@Tryz.sizeOf141
abbrev HE:=@Tryz.sizeOf151
abbrev HF:=@Tryz.sizeOf153
abbrev VD:=@Tryz.sizeOf154
abbrev pD:=@Tryz.sizeOf159
abbrev HG:=@Tryz.sizeOf160
abbrev rR:=@Tryz.sizeOf161
abbrev VE:=@Tryz.sizeOf170
abbrev AK:=@Tryz.sizeOf171
abbrev iP:=@Tryz.sizeOf173
abbrev AL:=@Tryz.sizeOf180
abbrev AM:=@Tryz.sizeOf183
abbrev rS:=@Tryz.sizeOf192
abbrev hZ:=@Tryz.sizeOf194
abbrev LT:=@Tryz.sizeOf197
abbrev qR:=@Tryz.sizeOf22
abbrev VF:=@Tryz.sizeOf237
abbrev VG:=@Tryz.sizeOf238
abbrev VH:=@Tryz.sizeOf240
abbrev VI:=@Tryz.sizeOf245
abbrev xP:=@Tryz.sizeOf25
abbrev VJ:=@Tryz.sizeOf254
abbrev NO:=@Tryz.sizeOf26
abbrev VK:=@Tryz.sizeOf285
abbrev Z3:=@Tryz.sizeOf3
abbrev AN:=@Tryz.sizeOf34
abbrev kD:=@Tryz.sizeOf36
abbrev Z37:=@Tryz.sizeOf37
abbrev NP:=@Tryz.sizeOf38
abbrev sN:=@Tryz.sizeOf39
abbrev Z4:=@Tryz.sizeOf4
abbrev iQ:=@Tryz.sizeOf41
abbrev oL:=@Tryz.sizeOf42
abbrev yF:=@Tryz.sizeOf43
abbrev VL:=@Tryz.sizeOf44
abbrev NQ:=@Tryz.sizeOf45
abbrev jR:=@Tryz.sizeOf47
abbrev fB:=@Tryz.sizeOf49
abbrev Z5:=@Tryz.sizeOf5
abbrev Z77:=@Tryz.sizeOf77
abbrev Z79:=@Tryz.sizeOf79
abbrev Z9:=@Tryz.sizeOf9
abbrev lW:=@Tryz.sizeOf94
abbrev LU:=@Tryz.sizeOf96
abbrev tJ:=@Tryz.sizeOf98
abbrev xQ:=@Tryz.underlying105
abbrev fY:=@Tryz.underlying130
abbrev HH:=@Tryz.underlying138
abbrev xR:=@Tryz.underlying141
abbrev LV:=@Tryz.underlying148
abbrev HI:=@Tryz.underlying151
abbrev HJ:=@Tryz.underlying153
abbrev tK:=@Tryz.underlying159
abbrev xS:=@Tryz.underlying160
abbrev tL:=@Tryz.underlying161
abbrev tM:=@Tryz.underlying163
abbrev VM:=@Tryz.underlying170
abbrev AO:=@Tryz.underlying171
abbrev kT:=@Tryz.underlying173
abbrev LW:=@Tryz.underlying180
abbrev lP:=@Tryz.underlying183
abbrev qS:=@Tryz.underlying190
abbrev rT:=@Tryz.underlying194
abbrev kU:=@Tryz.underlying22
abbrev U23:=@Tryz.underlying23
abbrev VN:=@Tryz.underlying240
abbrev LX:=@Tryz.underlying241
abbrev VO:=@Tryz.underlying245
abbrev fV:=@Tryz.underlying25
abbrev rU:=@Tryz.underlying254
abbrev VP:=@Tryz.underlying262
abbrev LY:=@Tryz.underlying280
abbrev U3:=@Tryz.underlying3
abbrev tN:=@Tryz.underlying34
abbrev nI:=@Tryz.underlying36
abbrev HK:=@Tryz.underlying37
abbrev U38:=@Tryz.underlying38
abbrev sP:=@Tryz.underlying39
abbrev U4:=@Tryz.underlying4
abbrev qY:=@Tryz.underlying41
abbrev eG:=@Tryz.underlying42
abbrev CW:=@Tryz.underlying43
abbrev NR:=@Tryz.underlying44
abbrev NS:=@Tryz.underlying45
abbrev jV:=@Tryz.underlying47
abbrev fE:=@Tryz.underlying49
abbrev U5:=@Tryz.underlying5
abbrev VQ:=@Tryz.underlying50
abbrev fM:=@Tryz.underlying63
abbrev lX:=@Tryz.underlying74
abbrev VR:=@Tryz.underlying79
abbrev pJ:=@Tryz.underlying81
abbrev U85:=@Tryz.underlying85
abbrev U88:=@Tryz.underlying88
abbrev U9:=@Tryz.underlying9
abbrev yG:=@Tryz.underlying94
abbrev tX:=@Tryz.underlying96
abbrev CX:=@Tryz.underlying98
end T12
