/-
  The types and models of the functions of mending and of drafts,printed by a program of ours;contracts of library functions.
-/
import Derived.Test.YtgdanfnnilcjgaaGreatDoorKitSix
import Derived.Test.YtgdanfnnilcjgaaGreatDoorProg
import Derived.Shelf.Spec.SlicesInsert
import Derived.Lib.AppendZerosOnto
import Derived.Laws.NewBlocks
import Derived.Laws.CopyRow
import Derived.Recover
import Derived.Tactics
import Derived.Tactics2
set_option linter.all false
namespace Go.Proofs
open Go.Shelf Go.RowKit
def Tryz.laysC172_ren:Go.Shelf.Ren:=⟨fun | 172=>202 | 244=>206 | 245=>207 | 247=>210 | 279=>211 | 280=>212 | 281=>213 | 282=>214 | 287=>216 | 316=>217 | 171=>203 | 205=>218 | 321=>223 | 322=>224 | 243=>208 | 246=>215 | 283=>219 | 284=>220 | 285=>221 | 286=>222 | 129=>99 | 317=>225 | 318=>226 | 319=>227 | 320=>228 | 337=>229 | 338=>230 | n=>n,fun | 9=>9 | 3=>3 | 75=>275 | 76=>276 | 4=>4 | 5=>5 | 167=>282 | 37=>235 | 0=>0 | 85=>283 | 2=>2 | 168=>285 | 53=>204 | 175=>289 | 46=>162 | 210=>293 | 127=>300 | 145=>303 | 143=>301 | 21=>21 | 171=>295 | 173=>297 | 212=>306 | 51=>202 | 20=>20 | 213=>307 | 232=>308 | 233=>309 | 80=>310 | n=>n,fun | 15=>0 | 16=>1 | 17=>2 | 18=>3 | 19=>4 | n=>n⟩
theorem Tryz.laysC172:Go.Proofs.LaysC.n172 Tryz.prog Tryz.laysC172_ren:={
 mixed:=by kernel_rfl
 f129:=Tryz.func99.trans (congrArg some (by kernel_rfl))
 f171:=Tryz.func203.trans (congrArg some (by kernel_rfl))
 f172:=Tryz.func202.trans (congrArg some (by kernel_rfl))
 f205:=Tryz.func218.trans (congrArg some (by kernel_rfl))
 f243:=Tryz.func208.trans (congrArg some (by kernel_rfl))
 f244:=Tryz.func206.trans (congrArg some (by kernel_rfl))
 f245:=Tryz.func207.trans (congrArg some (by kernel_rfl))
 f246:=Tryz.func215.trans (congrArg some (by kernel_rfl))
 f247:=Tryz.func210.trans (congrArg some (by kernel_rfl))
 f279:=Tryz.func211.trans (congrArg some (by kernel_rfl))
 f280:=Tryz.func212.trans (congrArg some (by kernel_rfl))
 f281:=Tryz.func213.trans (congrArg some (by kernel_rfl))
 f282:=Tryz.func214.trans (congrArg some (by kernel_rfl))
 f283:=Tryz.func219.trans (congrArg some (by kernel_rfl))
 f284:=Tryz.func220.trans (congrArg some (by kernel_rfl))
 f285:=Tryz.func221.trans (congrArg some (by kernel_rfl))
 f286:=Tryz.func222.trans (congrArg some (by kernel_rfl))
 f287:=Tryz.func216.trans (congrArg some (by kernel_rfl))
 f316:=Tryz.func217.trans (congrArg some (by kernel_rfl))
 f317:=Tryz.func225.trans (congrArg some (by kernel_rfl))
 f318:=Tryz.func226.trans (congrArg some (by kernel_rfl))
 f319:=Tryz.func227.trans (congrArg some (by kernel_rfl))
 f320:=Tryz.func228.trans (congrArg some (by kernel_rfl))
 f321:=Tryz.func223.trans (congrArg some (by kernel_rfl))
 f322:=Tryz.func224.trans (congrArg some (by kernel_rfl))
 f337:=Tryz.func229.trans (congrArg some (by kernel_rfl))
 f338:=Tryz.func230.trans (congrArg some (by kernel_rfl))
 t0:=Tryz.underlying0
 a0:=Tryz.isAgg0
 z0:=Tryz.sizeOf0
 v0:=Tryz.zeroValue0
 t2:=Tryz.underlying2
 a2:=Tryz.isAgg2
 z2:=Tryz.sizeOf2
 v2:=Tryz.zeroValue2
 t3:=Tryz.underlying3
 a3:=Tryz.isAgg3
 z3:=Tryz.sizeOf3
 v3:=Tryz.zeroValue3
 t4:=Tryz.underlying4
 a4:=Tryz.isAgg4
 z4:=Tryz.sizeOf4
 v4:=Tryz.zeroValue4
 t5:=Tryz.underlying5
 a5:=Tryz.isAgg5
 z5:=Tryz.sizeOf5
 v5:=Tryz.zeroValue5
 t9:=Tryz.underlying9
 a9:=Tryz.isAgg9
 z9:=Tryz.sizeOf9
 v9:=Tryz.zeroValue9
 t20:=Tryz.underlying20
 a20:=Tryz.isAgg20
 z20:=Tryz.sizeOf20
 v20:=Tryz.zeroValue20
 t21:=Tryz.underlying21
 a21:=Tryz.isAgg21
 z21:=Tryz.sizeOf21
 v21:=Tryz.zeroValue21
 t37:=Tryz.underlying235
 a37:=Tryz.isAgg235
 z37:=Tryz.sizeOf235
 v37:=Tryz.zeroValue235
 t46:=Tryz.underlying162
 a46:=Tryz.isAgg162
 z46:=Tryz.sizeOf162
 v46:=Tryz.zeroValue162
 t51:=Tryz.underlying202
 a51:=Tryz.isAgg202
 z51:=Tryz.sizeOf202
 v51:=Tryz.zeroValue202
 t53:=Tryz.underlying204
 a53:=Tryz.isAgg204
 z53:=Tryz.sizeOf204
 v53:=Tryz.zeroValue204
 t75:=Tryz.underlying275
 a75:=Tryz.isAgg275
 z75:=Tryz.sizeOf275
 v75:=Tryz.zeroValue275
 t76:=Tryz.underlying276
 a76:=Tryz.isAgg276
 z76:=Tryz.sizeOf276
 v76:=Tryz.zeroValue276
 t85:=Tryz.underlying283
 a85:=Tryz.isAgg283
 z85:=Tryz.sizeOf283
 v85:=Tryz.zeroValue283
 t127:=Tryz.underlying300
 a127:=Tryz.isAgg300
 z127:=Tryz.sizeOf300
 v127:=Tryz.zeroValue300
 t143:=Tryz.underlying301
 a143:=Tryz.isAgg301
 z143:=Tryz.sizeOf301
 v143:=Tryz.zeroValue301
 t145:=Tryz.underlying303
 a145:=Tryz.isAgg303
 z145:=Tryz.sizeOf303
 v145:=Tryz.zeroValue303
 t167:=Tryz.underlying282
 a167:=Tryz.isAgg282
 z167:=Tryz.sizeOf282
 v167:=Tryz.zeroValue282
 t168:=Tryz.underlying285
 a168:=Tryz.isAgg285
 z168:=Tryz.sizeOf285
 v168:=Tryz.zeroValue285
 t171:=Tryz.underlying295
 a171:=Tryz.isAgg295
 z171:=Tryz.sizeOf295
 v171:=Tryz.zeroValue295
 t173:=Tryz.underlying297
 a173:=Tryz.isAgg297
 z173:=Tryz.sizeOf297
 v173:=Tryz.zeroValue297
 t175:=Tryz.underlying289
 a175:=Tryz.isAgg289
 z175:=Tryz.sizeOf289
 v175:=Tryz.zeroValue289
 t210:=Tryz.underlying293
 a210:=Tryz.isAgg293
 z210:=Tryz.sizeOf293
 v210:=Tryz.zeroValue293
 t212:=Tryz.underlying306
 a212:=Tryz.isAgg306
 z212:=Tryz.sizeOf306
 v212:=Tryz.zeroValue306
 t213:=Tryz.underlying307
 a213:=Tryz.isAgg307
 z213:=Tryz.sizeOf307
 t232:=Tryz.underlying308
 a232:=Tryz.isAgg308
 z232:=Tryz.sizeOf308
 v232:=Tryz.zeroValue308
 t233:=Tryz.underlying309
 a233:=Tryz.isAgg309
 z233:=Tryz.sizeOf309
 v233:=Tryz.zeroValue309
 g15:=by kernel_rfl
 g16:=by kernel_rfl
 g17:=by kernel_rfl
 g18:=by kernel_rfl
 g19:=by kernel_rfl
 t80:=Tryz.underlying310
 a80:=Tryz.isAgg310
 z80:=Tryz.sizeOf310
 v80:=Tryz.zeroValue310
 i0:=by kernel_rfl
 i2:=by kernel_rfl
 i3:=by kernel_rfl
 i4:=by kernel_rfl
 i5:=by kernel_rfl
 i9:=by kernel_rfl
 i20:=by kernel_rfl
 i21:=by kernel_rfl
 i37:=by kernel_rfl
 i46:=by kernel_rfl
 i51:=by kernel_rfl
 i53:=by kernel_rfl
 i75:=by kernel_rfl
 i76:=by kernel_rfl
 i80:=by kernel_rfl
 i85:=by kernel_rfl
 i127:=by kernel_rfl
 i143:=by kernel_rfl
 i145:=by kernel_rfl
 i167:=by kernel_rfl
 i168:=by kernel_rfl
 i171:=by kernel_rfl
 i173:=by kernel_rfl
 i175:=by kernel_rfl
 i210:=by kernel_rfl
 i212:=by kernel_rfl
 i232:=by kernel_rfl
 i233:=by kernel_rfl
 m15:=by kernel_rfl
 m16:=by kernel_rfl
 m17:=by kernel_rfl
 m18:=by kernel_rfl
 m19:=by kernel_rfl
 c0:=by kernel_rfl
 c2:=by kernel_rfl
 c3:=by kernel_rfl
 c4:=by kernel_rfl
 c5:=by kernel_rfl
 c9:=by kernel_rfl
 c20:=by kernel_rfl
 c21:=by kernel_rfl
 c37:=by kernel_rfl
 c46:=by kernel_rfl
 c51:=by kernel_rfl
 c53:=by kernel_rfl
 c75:=by kernel_rfl
 c76:=by kernel_rfl
 c80:=by kernel_rfl
 c85:=by kernel_rfl
 c127:=by kernel_rfl
 c143:=by kernel_rfl
 c145:=by kernel_rfl
 c167:=by kernel_rfl
 c168:=by kernel_rfl
 c171:=by kernel_rfl
 c173:=by kernel_rfl
 c175:=by kernel_rfl
 c210:=by kernel_rfl
 c212:=by kernel_rfl
 c213:=by kernel_rfl
 c232:=by kernel_rfl
 c233:=by kernel_rfl }
def Tryz.laysM171_ren:Go.Shelf.Ren:=⟨fun | 171=>203 | 243=>208 | 246=>215 | 283=>219 | 284=>220 | 285=>221 | 286=>222 | 129=>99 | 317=>225 | 318=>226 | 319=>227 | 320=>228 | 337=>229 | 338=>230 | n=>n,fun | 3=>3 | 9=>9 | 2=>2 | 4=>4 | 171=>295 | 0=>0 | 53=>204 | 37=>235 | 5=>5 | 173=>297 | 212=>306 | 51=>202 | 20=>20 | 213=>307 | 46=>162 | 232=>308 | 233=>309 | n=>n,fun | 17=>2 | 18=>3 | 19=>4 | n=>n⟩
theorem Tryz.laysM171:Go.Proofs.LaysM.n171 Tryz.prog Tryz.laysM171_ren:={
 mixed:=by kernel_rfl
 f129:=Tryz.func99.trans (congrArg some (by kernel_rfl))
 f171:=Tryz.func203.trans (congrArg some (by kernel_rfl))
 f243:=Tryz.func208.trans (congrArg some (by kernel_rfl))
 f246:=Tryz.func215.trans (congrArg some (by kernel_rfl))
 f283:=Tryz.func219.trans (congrArg some (by kernel_rfl))
 f284:=Tryz.func220.trans (congrArg some (by kernel_rfl))
 f285:=Tryz.func221.trans (congrArg some (by kernel_rfl))
 f286:=Tryz.func222.trans (congrArg some (by kernel_rfl))
 f317:=Tryz.func225.trans (congrArg some (by kernel_rfl))
 f318:=Tryz.func226.trans (congrArg some (by kernel_rfl))
 f319:=Tryz.func227.trans (congrArg some (by kernel_rfl))
 f320:=Tryz.func228.trans (congrArg some (by kernel_rfl))
 f337:=Tryz.func229.trans (congrArg some (by kernel_rfl))
 f338:=Tryz.func230.trans (congrArg some (by kernel_rfl))
 t0:=Tryz.underlying0
 a0:=Tryz.isAgg0
 z0:=Tryz.sizeOf0
 v0:=Tryz.zeroValue0
 t2:=Tryz.underlying2
 a2:=Tryz.isAgg2
 z2:=Tryz.sizeOf2
 v2:=Tryz.zeroValue2
 t3:=Tryz.underlying3
 a3:=Tryz.isAgg3
 z3:=Tryz.sizeOf3
 v3:=Tryz.zeroValue3
 t4:=Tryz.underlying4
 a4:=Tryz.isAgg4
 z4:=Tryz.sizeOf4
 v4:=Tryz.zeroValue4
 t5:=Tryz.underlying5
 a5:=Tryz.isAgg5
 z5:=Tryz.sizeOf5
 v5:=Tryz.zeroValue5
 t9:=Tryz.underlying9
 a9:=Tryz.isAgg9
 z9:=Tryz.sizeOf9
 v9:=Tryz.zeroValue9
 t20:=Tryz.underlying20
 a20:=Tryz.isAgg20
 z20:=Tryz.sizeOf20
 v20:=Tryz.zeroValue20
 t37:=Tryz.underlying235
 a37:=Tryz.isAgg235
 z37:=Tryz.sizeOf235
 v37:=Tryz.zeroValue235
 t46:=Tryz.underlying162
 a46:=Tryz.isAgg162
 z46:=Tryz.sizeOf162
 v46:=Tryz.zeroValue162
 t51:=Tryz.underlying202
 a51:=Tryz.isAgg202
 z51:=Tryz.sizeOf202
 v51:=Tryz.zeroValue202
 t53:=Tryz.underlying204
 a53:=Tryz.isAgg204
 z53:=Tryz.sizeOf204
 v53:=Tryz.zeroValue204
 t171:=Tryz.underlying295
 a171:=Tryz.isAgg295
 z171:=Tryz.sizeOf295
 v171:=Tryz.zeroValue295
 t173:=Tryz.underlying297
 a173:=Tryz.isAgg297
 z173:=Tryz.sizeOf297
 v173:=Tryz.zeroValue297
 t212:=Tryz.underlying306
 a212:=Tryz.isAgg306
 z212:=Tryz.sizeOf306
 v212:=Tryz.zeroValue306
 t213:=Tryz.underlying307
 a213:=Tryz.isAgg307
 z213:=Tryz.sizeOf307
 t232:=Tryz.underlying308
 a232:=Tryz.isAgg308
 z232:=Tryz.sizeOf308
 v232:=Tryz.zeroValue308
 t233:=Tryz.underlying309
 a233:=Tryz.isAgg309
 z233:=Tryz.sizeOf309
 v233:=Tryz.zeroValue309
 g17:=by kernel_rfl
 g18:=by kernel_rfl
 g19:=by kernel_rfl
 i0:=by kernel_rfl
 i2:=by kernel_rfl
 i3:=by kernel_rfl
 i4:=by kernel_rfl
 i5:=by kernel_rfl
 i9:=by kernel_rfl
 i20:=by kernel_rfl
 i37:=by kernel_rfl
 i46:=by kernel_rfl
 i51:=by kernel_rfl
 i53:=by kernel_rfl
 i171:=by kernel_rfl
 i173:=by kernel_rfl
 i212:=by kernel_rfl
 i232:=by kernel_rfl
 i233:=by kernel_rfl
 m17:=by kernel_rfl
 m18:=by kernel_rfl
 m19:=by kernel_rfl }
end Go.Proofs
namespace T4
open Go Go.Proofs Pk Go.RowKit
abbrev Gv (M:Prop):Hp→Prop:=Gl M 0 1 2
noncomputable def GW (s:aD):Option (Int×Bool):=BK s
noncomputable def wY (n:Int):Option aD:=xX n
theorem UI {M:Prop} {W:World} {H:Hp} (hH:H.le (hp W)) (hg:Gv M H) (s:aD) {r:Int×Bool} (hr:GW s=some r):Calls Tryz.prog 202 [.string (bs s)].toArray W (jU M H W (fun v K=>∃ (er1:Value),v=.tuple [.int .i64 r.1,er1].toArray∧Er er1 r.2)):=by
 unfold GW BK at hr;obtain ⟨hl,hr⟩:=aF hr;obtain rfl:=Option.some.inj hr;have hd:(bs s).data.toList=s:=by simp [bs]
 have hz:(bs s).size=s.length:=tE s;obtain ⟨e0,h0,i0⟩:=hg.syn;obtain ⟨e1,h1,i1⟩:=hg.rng
 cases h:Lib.atoiAll s with
 | ok v =>
  refine (Any.strconv_Atoi_ok Tryz.laysC172 (bs s) (by omega) v (by rw [hd];exact h) W).mono ?_;rintro e w' ⟨rfl,hw⟩;refine ⟨⟨_,by simp [lE,h],.inl ⟨by simp [lE,h],rfl⟩⟩,?_⟩;rcases hw with rfl | ⟨t,rfl⟩
  ·exact gZ.refl _ _
  exact gZ.of_below hg.nq (Lib.bytesWorld_below _ _ _)
 | range =>
  refine (Any.strconv_Atoi_range Tryz.laysC172 (bs s) (by omega) (by rw [hd];exact h) e1 W (xW hH h1) i1).mono ?_;rintro e w' ⟨N,rfl,_,_,hb⟩;have hr1:lE s=(Lib.atoiSat s,true):=by simp [lE,h]
  rw [hr1,hd];exact ⟨⟨_,rfl,.inr ⟨rfl,_,_,rfl⟩⟩,gZ.of_below hg.nq hb⟩
 | _ =>
  refine (Any.strconv_Atoi_syntax Tryz.laysC172 (bs s) (by omega) (by rw [hd];exact h) e0 W (xW hH h0) i0).mono ?_;rintro e w' ⟨N,rfl,_,_,hb⟩;have hr1:lE s=(0,true):=by simp [lE,h]
  rw [hr1];exact ⟨⟨_,rfl,.inr ⟨rfl,_,_,rfl⟩⟩,gZ.of_below hg.nq hb⟩
theorem UJ {M:Prop} {W:World} {H:Hp} (hH:H.le (hp W)) (hg:Gv M H) (n:Int) {r:aD} (hr:wY n=some r):Calls Tryz.prog 203 [.int .i64 n].toArray W (bQ M W (.string (bs r))):=by
 unfold wY xX at hr;obtain ⟨hl,hr⟩:=aF hr;obtain rfl:=Option.some.inj hr;refine (Any.strconv_Itoa Tryz.laysM171 n hl.1 hl.2 W (BJ (by kernel_rfl) hH hg.tab)).mono ?_;rintro e w' ⟨rfl,k,os,rfl⟩;exact ⟨rfl,rfl,rfl,rfl,(by show W.heap.size≤(W.heap++os).size;rw [Array.size_append];omega),fun b hb=>Array.getElem?_append_left hb,fun _=>Nat.le_add_right _ _⟩
end T4
namespace Go.Proofs
open Go.Shelf Go.RowKit
def Tryz.laysSlF6_f30_ren:Go.Shelf.Ren:=⟨fun | 6=>30 | 15=>55 | 14=>54 | 28=>98 | 29=>99 | 20=>90 | 21=>91 | 22=>92 | 23=>93 | 24=>94 | 25=>95 | 26=>96 | 27=>97 | 46=>146 | 47=>147 | 48=>148 | 49=>149 | 50=>150 | 57=>187 | n=>n,fun | 22=>55 | 24=>3 | 25=>110 | 3=>3 | 39=>162 | 0=>0 | 53=>202 | 55=>204 | 4=>4 | 46=>196 | 45=>195 | 50=>169 | 5=>5 | 9=>9 | 66=>241 | 70=>245 | 76=>262 | 77=>263 | n=>n,fun | n=>n⟩
theorem Tryz.laysSlF6_f30:Go.Proofs.SlLaysF.n6 Tryz.prog Tryz.laysSlF6_f30_ren:={
 mixed:=by kernel_rfl
 f6:=⟨Tryz.f30.name,by decide,Tryz.func30.trans (congrArg some (by kernel_rfl))⟩
 f14:=⟨Tryz.f54.name,by decide,Tryz.func54.trans (congrArg some (by kernel_rfl))⟩
 f15:=Tryz.func55.trans (congrArg some (by kernel_rfl))
 f20:=⟨Tryz.f90.name,by decide,Tryz.func90.trans (congrArg some (by kernel_rfl))⟩
 f21:=⟨Tryz.f91.name,by decide,Tryz.func91.trans (congrArg some (by kernel_rfl))⟩
 f22:=⟨Tryz.f92.name,by decide,Tryz.func92.trans (congrArg some (by kernel_rfl))⟩
 f23:=⟨Tryz.f93.name,by decide,Tryz.func93.trans (congrArg some (by kernel_rfl))⟩
 f24:=⟨Tryz.f94.name,by decide,Tryz.func94.trans (congrArg some (by kernel_rfl))⟩
 f25:=⟨Tryz.f95.name,by decide,Tryz.func95.trans (congrArg some (by kernel_rfl))⟩
 f26:=⟨Tryz.f96.name,by decide,Tryz.func96.trans (congrArg some (by kernel_rfl))⟩
 f27:=⟨Tryz.f97.name,by decide,Tryz.func97.trans (congrArg some (by kernel_rfl))⟩
 f28:=Tryz.func98.trans (congrArg some (by kernel_rfl))
 f29:=Tryz.func99.trans (congrArg some (by kernel_rfl))
 f46:=⟨Tryz.f146.name,by decide,Tryz.func146.trans (congrArg some (by kernel_rfl))⟩
 f47:=Tryz.func147.trans (congrArg some (by kernel_rfl))
 f48:=Tryz.func148.trans (congrArg some (by kernel_rfl))
 f49:=⟨Tryz.f149.name,by decide,Tryz.func149.trans (congrArg some (by kernel_rfl))⟩
 f50:=⟨Tryz.f150.name,by decide,Tryz.func150.trans (congrArg some (by kernel_rfl))⟩
 f57:=⟨Tryz.f187.name,by decide,Tryz.func187.trans (congrArg some (by kernel_rfl))⟩
 t0:=Tryz.underlying0
 a0:=Tryz.isAgg0
 z0:=Tryz.sizeOf0
 v0:=Tryz.zeroValue0
 t3:=Tryz.underlying3
 a3:=Tryz.isAgg3
 z3:=Tryz.sizeOf3
 v3:=Tryz.zeroValue3
 t4:=Tryz.underlying4
 a4:=Tryz.isAgg4
 z4:=Tryz.sizeOf4
 v4:=Tryz.zeroValue4
 t5:=Tryz.underlying5
 a5:=Tryz.isAgg5
 z5:=Tryz.sizeOf5
 v5:=Tryz.zeroValue5
 t9:=Tryz.underlying9
 a9:=Tryz.isAgg9
 z9:=Tryz.sizeOf9
 v9:=Tryz.zeroValue9
 t22:=Tryz.underlying55
 a22:=Tryz.isAgg55
 z22:=Tryz.sizeOf55
 v22:=Tryz.zeroValue55
 a24:=Tryz.isAgg3
 z24:=Tryz.sizeOf3
 t25:=Tryz.underlying110
 a25:=Tryz.isAgg110
 z25:=Tryz.sizeOf110
 v25:=Tryz.zeroValue110
 t39:=Tryz.underlying162
 a39:=Tryz.isAgg162
 z39:=Tryz.sizeOf162
 v39:=Tryz.zeroValue162
 t45:=Tryz.underlying195
 a45:=Tryz.isAgg195
 z45:=Tryz.sizeOf195
 v45:=Tryz.zeroValue195
 t46:=Tryz.underlying196
 a46:=Tryz.isAgg196
 z46:=Tryz.sizeOf196
 v46:=Tryz.zeroValue196
 t50:=Tryz.underlying169
 a50:=Tryz.isAgg169
 z50:=Tryz.sizeOf169
 v50:=Tryz.zeroValue169
 t53:=Tryz.underlying202
 a53:=Tryz.isAgg202
 z53:=Tryz.sizeOf202
 v53:=Tryz.zeroValue202
 t55:=Tryz.underlying204
 a55:=Tryz.isAgg204
 z55:=Tryz.sizeOf204
 v55:=Tryz.zeroValue204
 t66:=Tryz.underlying241
 a66:=Tryz.isAgg241
 z66:=Tryz.sizeOf241
 v66:=Tryz.zeroValue241
 t70:=Tryz.underlying245
 a70:=Tryz.isAgg245
 z70:=Tryz.sizeOf245
 v70:=Tryz.zeroValue245
 t76:=Tryz.underlying262
 a76:=Tryz.isAgg262
 z76:=Tryz.sizeOf262
 v76:=Tryz.zeroValue262
 t77:=Tryz.underlying263
 a77:=Tryz.isAgg263
 z77:=Tryz.sizeOf263
 v77:=Tryz.zeroValue263 }
end Go.Proofs
namespace Go.Proofs
open Go Pk
theorem Tryz.srt30:OH Tryz.prog 30 :=
  ⟨fun p cap fv w=>AnyF.slices_SortFunc_none (P:=Tryz.prog) (ρ:=Tryz.laysSlF6_f30_ren) { Tryz.laysSlF6_f30 with } p cap fv w,
   fun α _ enc h1 cf hO g cb blk off cap d w eg hc hH hb hs hT=>Any.slices_SortFunc_total Tryz.laysSlF6_f30 enc h1 cf hO g cb blk off cap d w eg hc hH hb hs hT⟩
end Go.Proofs
namespace T4
open Go Go.Proofs Pk
theorem J.{u} {α:Sort u} {a:α}:a=a:=rfl
structure bW where
 text:aD
 value:Int
 deriving DecidableEq,Inhabited
def cC (x:bW):List Value:=[.string (bs x.text),.int .i64 x.value]
structure aP where
 numbers:List bW
 names:List (List aD)
 nots:List aD
 deriving DecidableEq,Inhabited
def cH:Hp→List Value→aP→Prop:=fun H cs x=>∃ (ad0:Option Addr) (cap0:Nat) (ad1:Option Addr) (cap1:Nat) (zM:Option Addr) (cap2:Nat),cs=[.slice ad0 x.numbers.length cap0,.slice ad1 x.names.length cap1,.slice zM x.nots.length cap2]∧Sl (aE cC) 2 H ad0 cap0 x.numbers∧Sl (kC (aE bE) 1) 1 H ad1 cap1 x.names∧Sl (aE bE) 1 H zM cap2 x.nots
theorem cH.one:pP cH:=fun _ _ _ ⟨_,_,_,_,_,_,h,_⟩=>by subst h;rfl
theorem cH.mono:jT cH:=fun _ _ _ _ hk ⟨a0,c0,a1,c1,a2,c2,h,f0,f1,f2⟩=>⟨a0,c0,a1,c1,a2,c2,h,f0.mono (aE.mono _) hk,f1.mono (kC.mono (aE.mono _)) hk,f2.mono (aE.mono _) hk⟩
structure bH where
 kind:Int
 bJ:Int
 bY:Int
 deriving DecidableEq,Inhabited
def bT (x:bH):List Value:=[.int .u8 x.kind,.int .i64 x.bJ,.int .i64 x.bY]
structure cN where
 text:aD
 speaker:Int
 deriving DecidableEq,Inhabited
def cA (x:cN):List Value:=[.string (bs x.text),.int .i64 x.speaker]
structure aR where
 words:List cN
 out:Int
 within:Int
 deriving DecidableEq,Inhabited
def dC:Hp→List Value→aR→Prop:=fun H cs x=>∃ (ad0:Option Addr) (cap0:Nat),cs=[.slice ad0 x.words.length cap0,.int .i64 x.out,.int .i64 x.within]∧Sl (aE cA) 2 H ad0 cap0 x.words
theorem dC.one:pP dC:=fun _ _ _ ⟨_,_,h,_⟩=>by subst h;rfl
theorem dC.mono:jT dC:=fun _ _ _ _ hk ⟨a0,c0,h,f0⟩=>⟨a0,c0,h,f0.mono (aE.mono _) hk⟩
structure aB where
 by_:Int
 minute:Int
 aH:Int
 cut:Int
 bK:List aD
 deriving DecidableEq,Inhabited
def aG:Hp→List Value→aB→Prop:=fun H cs x=>∃ (ad0:Option Addr) (cap0:Nat),cs=[.int .i64 x.by_,.int .i64 x.minute,.int .i64 x.aH,.int .i64 x.cut,.slice ad0 x.bK.length cap0]∧Sl (aE bE) 1 H ad0 cap0 x.bK
theorem aG.one:pP aG:=fun _ _ _ ⟨_,_,h,_⟩=>by subst h;rfl
theorem aG.mono:jT aG:=fun _ _ _ _ hk ⟨a0,c0,h,f0⟩=>⟨a0,c0,h,f0.mono (aE.mono _) hk⟩
structure bB where
 kind:Int
 value:Int
 deriving DecidableEq,Inhabited
def bF (x:bB):List Value:=[.int .u8 x.kind,.int .i64 x.value]
structure rules where
 fT:List (aD×bB)
 aT:List bH
 deriving DecidableEq,Inhabited
def nL:Hp→List Value→rules→Prop:=fun H cs x=>∃ (mp0:Value) (ad1:Option Addr) (cap1:Nat),cs=[mp0,.slice ad1 x.aT.length cap1]∧Mp lA (fun x=>Value.agg (bF x).toArray) H mp0 x.fT∧Sl (aE bT) 3 H ad1 cap1 x.aT
theorem nL.mono:jT nL:=fun _ _ _ _ hk ⟨m0,a1,c1,h,f0,f1⟩=>⟨m0,a1,c1,h,f0.mono hk,f1.mono (aE.mono _) hk⟩
structure cK where
 report:aR
 rules:rules
 gH:List aB
 which:List Int
 errors:List Int
 deriving DecidableEq,Inhabited
def fQ:Hp→List Value→cK→Prop:=fun H cs x=>∃ (ad0:Option Addr) (cap0:Nat) (mp1:Value) (zM:Option Addr) (cap2:Nat) (yB:Option Addr) (cap3:Nat) (ad4:Option Addr) (cap4:Nat) (ad5:Option Addr) (cap5:Nat),cs=[.slice ad0 x.report.words.length cap0,.int .i64 x.report.out,.int .i64 x.report.within,mp1,.slice zM x.rules.aT.length cap2,.slice yB x.gH.length cap3,.slice ad4 x.which.length cap4,.slice ad5 x.errors.length cap5]∧Sl (aE cA) 2 H ad0 cap0 x.report.words∧Mp lA (fun x=>Value.agg (bF x).toArray) H mp1 x.rules.fT∧Sl (aE bT) 3 H zM cap2 x.rules.aT∧Sl (aG) 5 H yB cap3 x.gH∧Sl (aE (aI .i64)) 1 H ad4 cap4 x.which∧Sl (aE (aI .i64)) 1 H ad5 cap5 x.errors
theorem fQ.mono:jT fQ:=fun _ _ _ _ hk ⟨a0,c0,m1,a2,c2,a3,c3,a4,c4,a5,c5,h,f0,f1,f2,f3,f4,f5⟩=>⟨a0,c0,m1,a2,c2,a3,c3,a4,c4,a5,c5,h,f0.mono (aE.mono _) hk,f1.mono hk,f2.mono (aE.mono _) hk,f3.mono (aG.mono) hk,f4.mono (aE.mono _) hk,f5.mono (aE.mono _) hk⟩
structure aN where
 bJ:List aD
 bY:List aD
 request:Int
 deriving DecidableEq,Inhabited
def bC:Hp→List Value→aN→Prop:=fun H cs x=>∃ (ad0:Option Addr) (cap0:Nat) (ad1:Option Addr) (cap1:Nat),cs=[.slice ad0 x.bJ.length cap0,.slice ad1 x.bY.length cap1,.int .i64 x.request]∧Sl (aE bE) 1 H ad0 cap0 x.bJ∧Sl (aE bE) 1 H ad1 cap1 x.bY
theorem bC.one:pP bC:=fun _ _ _ ⟨_,_,_,_,h,_⟩=>by subst h;rfl
theorem bC.mono:jT bC:=fun _ _ _ _ hk ⟨a0,c0,a1,c1,h,f0,f1⟩=>⟨a0,c0,a1,c1,h,f0.mono (aE.mono _) hk,f1.mono (aE.mono _) hk⟩
structure cJ where
 text:aD
 second:Int
 reporter:Int
 deriving DecidableEq,Inhabited
def bL (x:cJ):List Value:=[.string (bs x.text),.int .i64 x.second,.int .i64 x.reporter]
structure gM where
 words:List cJ
 kept:List Int
 deriving DecidableEq,Inhabited
def kF:Hp→List Value→gM→Prop:=fun H cs x=>∃ (ad0:Option Addr) (cap0:Nat) (ad1:Option Addr) (cap1:Nat),cs=[.slice ad0 x.words.length cap0,.slice ad1 x.kept.length cap1]∧Sl (aE bL) 3 H ad0 cap0 x.words∧Sl (aE (aI .i64)) 1 H ad1 cap1 x.kept
theorem kF.one:pP kF:=fun _ _ _ ⟨_,_,_,_,h,_⟩=>by subst h;rfl
theorem kF.mono:jT kF:=fun _ _ _ _ hk ⟨a0,c0,a1,c1,h,f0,f1⟩=>⟨a0,c0,a1,c1,h,f0.mono (aE.mono _) hk,f1.mono (aE.mono _) hk⟩
structure Item where
 text:aD
 origin:Int
 maker:Int
 deriving DecidableEq,Inhabited
def dI (x:Item):List Value:=[.string (bs x.text),.int .i64 x.origin,.int .i64 x.maker]
structure aK where
 item:Item
 gone:Int
 deriving DecidableEq,Inhabited
def aL (x:aK):List Value:=[.string (bs x.item.text),.int .i64 x.item.origin,.int .i64 x.item.maker,.int .i64 x.gone]
structure iP where
 draft:gM
 items:List aK
 live:List Int
 changes:Int
 deriving DecidableEq,Inhabited
def jK:Hp→List Value→iP→Prop:=fun H cs x=>∃ (ad0:Option Addr) (cap0:Nat) (ad1:Option Addr) (cap1:Nat) (zM:Option Addr) (cap2:Nat) (yB:Option Addr) (cap3:Nat),cs=[.slice ad0 x.draft.words.length cap0,.slice ad1 x.draft.kept.length cap1,.slice zM x.items.length cap2,.slice yB x.live.length cap3,.int .i64 x.changes]∧Sl (aE bL) 3 H ad0 cap0 x.draft.words∧Sl (aE (aI .i64)) 1 H ad1 cap1 x.draft.kept∧Sl (aE aL) 4 H zM cap2 x.items∧Sl (aE (aI .i64)) 1 H yB cap3 x.live
theorem jK.one:pP jK:=fun _ _ _ ⟨_,_,_,_,_,_,_,_,h,_⟩=>by subst h;rfl
theorem jK.mono:jT jK:=fun _ _ _ _ hk ⟨a0,c0,a1,c1,a2,c2,a3,c3,h,f0,f1,f2,f3⟩=>⟨a0,c0,a1,c1,a2,c2,a3,c3,h,f0.mono (aE.mono _) hk,f1.mono (aE.mono _) hk,f2.mono (aE.mono _) hk,f3.mono (aE.mono _) hk⟩
structure cQ where
 undo:Int
 at_:Int
 cut:Int
 bK:List aD
 deriving DecidableEq,Inhabited
def dJ:Hp→List Value→cQ→Prop:=fun H cs x=>∃ (ad0:Option Addr) (cap0:Nat),cs=[.int .i64 x.undo,.int .i64 x.at_,.int .i64 x.cut,.slice ad0 x.bK.length cap0]∧Sl (aE bE) 1 H ad0 cap0 x.bK
theorem dJ.one:pP dJ:=fun _ _ _ ⟨_,_,h,_⟩=>by subst h;rfl
theorem dJ.mono:jT dJ:=fun _ _ _ _ hk ⟨a0,c0,h,f0⟩=>⟨a0,c0,h,f0.mono (aE.mono _) hk⟩
theorem mixed:Tryz.prog.follows .mixedOrders=true:=by kernel_rfl
theorem B45:dM Tryz.prog 45 [.slice none 0 0,.slice none 0 0,.slice none 0 0] #[(0,1),(1,1),(2,1)]:=⟨⟨.agg [.slice none 0 0,.slice none 0 0,.slice none 0 0].toArray,rfl,Tryz.zeroValue45⟩,⟨_,Tryz.underlying45,fun _=>by kernel_rfl⟩⟩
theorem B49:dM Tryz.prog 49 [.slice none 0 0,.int .i64 0,.int .i64 0] #[(0,1),(1,1),(2,1)]:=⟨⟨.agg [.slice none 0 0,.int .i64 0,.int .i64 0].toArray,rfl,Tryz.zeroValue49⟩,⟨_,Tryz.underlying49,fun _=>by kernel_rfl⟩⟩
theorem UK:dM Tryz.prog 54 [.slice none 0 0,.slice none 0 0,.int .i64 0] #[(0,1),(1,1),(2,1)]:=⟨⟨.agg [.slice none 0 0,.slice none 0 0,.int .i64 0].toArray,rfl,Tryz.zeroValue54⟩,⟨_,Tryz.underlying54,fun _=>by kernel_rfl⟩⟩
theorem B78:dM Tryz.prog 78 [.string (bs []),.int .i64 0,.int .i64 0] #[(0,1),(1,1),(2,1)]:=⟨⟨.agg [.string (bs []),.int .i64 0,.int .i64 0].toArray,rfl,Tryz.zeroValue78⟩,⟨_,Tryz.underlying78,fun _=>by kernel_rfl⟩⟩
theorem B81:dM Tryz.prog 81 [.int .i64 0,.int .i64 0,.int .i64 0,.slice none 0 0] #[(0,1),(1,1),(2,1),(3,1)]:=⟨⟨.agg [.int .i64 0,.int .i64 0,.int .i64 0,.slice none 0 0].toArray,rfl,Tryz.zeroValue81⟩,⟨_,Tryz.underlying81,fun _=>by kernel_rfl⟩⟩
theorem UL:dM Tryz.prog 86 [.string (bs []),.int .i64 0,.int .i64 0] #[(0,1),(1,1),(2,1)]:=⟨⟨.agg [.string (bs []),.int .i64 0,.int .i64 0].toArray,rfl,Tryz.zeroValue86⟩,⟨_,Tryz.underlying86,fun _=>by kernel_rfl⟩⟩
theorem GX:dM Tryz.prog 104 [.map none,.slice none 0 0] #[(0,1),(1,1)]:=⟨⟨.agg [.map none,.slice none 0 0].toArray,rfl,Tryz.zeroValue104⟩,⟨_,Tryz.underlying104,fun _=>by kernel_rfl⟩⟩
theorem OR:dM Tryz.prog 107 [.slice none 0 0,.int .i64 0,.int .i64 0,.map none,.slice none 0 0,.slice none 0 0,.slice none 0 0,.slice none 0 0] #[(0,3),(3,2),(5,1),(6,1),(7,1)]:=⟨⟨.agg [.slice none 0 0,.int .i64 0,.int .i64 0,.map none,.slice none 0 0,.slice none 0 0,.slice none 0 0,.slice none 0 0].toArray,rfl,Tryz.zeroValue107⟩,⟨_,Tryz.underlying107,fun _=>by kernel_rfl⟩⟩
theorem OS:dM Tryz.prog 109 [.int .i64 0,.int .i64 0,.int .i64 0,.int .i64 0,.slice none 0 0] #[(0,1),(1,1),(2,1),(3,1),(4,1)]:=⟨⟨.agg [.int .i64 0,.int .i64 0,.int .i64 0,.int .i64 0,.slice none 0 0].toArray,rfl,Tryz.zeroValue109⟩,⟨_,Tryz.underlying109,fun _=>by kernel_rfl⟩⟩
theorem UM:dM Tryz.prog 115 [.string (bs []),.int .i64 0] #[(0,1),(1,1)]:=⟨⟨.agg [.string (bs []),.int .i64 0].toArray,rfl,Tryz.zeroValue115⟩,⟨_,Tryz.underlying115,fun _=>by kernel_rfl⟩⟩
theorem OT:dM Tryz.prog 116 [.string (bs []),.int .i64 0] #[(0,1),(1,1)]:=⟨⟨.agg [.string (bs []),.int .i64 0].toArray,rfl,Tryz.zeroValue116⟩,⟨_,Tryz.underlying116,fun _=>by kernel_rfl⟩⟩
theorem OU:dM Tryz.prog 144 [.int .u8 0,.int .i64 0,.int .i64 0] #[(0,1),(1,1),(2,1)]:=⟨⟨.agg [.int .u8 0,.int .i64 0,.int .i64 0].toArray,rfl,Tryz.zeroValue144⟩,⟨_,Tryz.underlying144,fun _=>by kernel_rfl⟩⟩
theorem KN:dM Tryz.prog 152 [.string (bs []),.int .i64 0,.int .i64 0,.int .i64 0] #[(0,3),(3,1)]:=⟨⟨.agg [.string (bs []),.int .i64 0,.int .i64 0,.int .i64 0].toArray,rfl,Tryz.zeroValue152⟩,⟨_,Tryz.underlying152,fun _=>by kernel_rfl⟩⟩
theorem OV:dM Tryz.prog 155 [.slice none 0 0,.slice none 0 0,.slice none 0 0,.slice none 0 0,.int .i64 0] #[(0,2),(2,1),(3,1),(4,1)]:=⟨⟨.agg [.slice none 0 0,.slice none 0 0,.slice none 0 0,.slice none 0 0,.int .i64 0].toArray,rfl,Tryz.zeroValue155⟩,⟨_,Tryz.underlying155,fun _=>by kernel_rfl⟩⟩
theorem vH:dM Tryz.prog 177 [] #[]:=⟨⟨.agg [].toArray,rfl,Tryz.zeroValue177⟩,⟨_,Tryz.underlying177,fun _=>by kernel_rfl⟩⟩
theorem zO:dM Tryz.prog 192 [.nilFunc,.int .i64 0] #[(0,1),(1,1)]:=⟨⟨.agg [.nilFunc,.int .i64 0].toArray,rfl,Tryz.zeroValue192⟩,⟨_,Tryz.underlying192,fun _=>by kernel_rfl⟩⟩
theorem vI:dM Tryz.prog 232 [.int .u8 0,.int .i64 0] #[(0,1),(1,1)]:=⟨⟨.agg [.int .u8 0,.int .i64 0].toArray,rfl,Tryz.zeroValue232⟩,⟨_,Tryz.underlying232,fun _=>by kernel_rfl⟩⟩
theorem E23:cG Tryz.prog 23 24 [.slice none 0 0] 1 24:=⟨Tryz.underlying23,⟨_,.slice none 0 0,dZ Tryz.type24,rfl,rfl,rfl,rfl⟩,rfl,by decide⟩
theorem FB:cG Tryz.prog 24 9 [.string (bs [])] 1 16:=⟨Tryz.underlying24,⟨_,.string (bs []),dZ Tryz.type9,rfl,rfl,rfl,rfl⟩,rfl,by decide⟩
theorem MM:cG Tryz.prog 39 54 [.slice none 0 0,.slice none 0 0,.int .i64 0] 3 56:=⟨Tryz.underlying39,⟨_,.agg [.slice none 0 0,.slice none 0 0,.int .i64 0].toArray,dZ Tryz.type54,rfl,rfl,rfl,rfl⟩,rfl,by decide⟩
theorem E43:cG Tryz.prog 43 115 [.string (bs []),.int .i64 0] 2 24:=⟨Tryz.underlying43,⟨_,.agg [.string (bs []),.int .i64 0].toArray,dZ Tryz.type115,rfl,rfl,rfl,rfl⟩,rfl,by decide⟩
theorem UN:cG Tryz.prog 47 116 [.string (bs []),.int .i64 0] 2 24:=⟨Tryz.underlying47,⟨_,.agg [.string (bs []),.int .i64 0].toArray,dZ Tryz.type116,rfl,rfl,rfl,rfl⟩,rfl,by decide⟩
theorem KO:cG Tryz.prog 51 109 [.int .i64 0,.int .i64 0,.int .i64 0,.int .i64 0,.slice none 0 0] 5 56:=⟨Tryz.underlying51,⟨_,.agg [.int .i64 0,.int .i64 0,.int .i64 0,.int .i64 0,.slice none 0 0].toArray,dZ Tryz.type109,rfl,rfl,rfl,rfl⟩,rfl,by decide⟩
theorem AQ:cG Tryz.prog 55 3 [.int .i64 0] 1 8:=⟨Tryz.underlying55,⟨_,.int .i64 0,dZ Tryz.type3,rfl,rfl,rfl,rfl⟩,rfl,by decide⟩
theorem E70:cG Tryz.prog 70 144 [.int .u8 0,.int .i64 0,.int .i64 0] 3 24:=⟨Tryz.underlying70,⟨_,.agg [.int .u8 0,.int .i64 0,.int .i64 0].toArray,dZ Tryz.type144,rfl,rfl,rfl,rfl⟩,rfl,by decide⟩
theorem E72:cG Tryz.prog 72 78 [.string (bs []),.int .i64 0,.int .i64 0] 3 32:=⟨Tryz.underlying72,⟨_,.agg [.string (bs []),.int .i64 0,.int .i64 0].toArray,dZ Tryz.type78,rfl,rfl,rfl,rfl⟩,rfl,by decide⟩
theorem SV:cG Tryz.prog 79 81 [.int .i64 0,.int .i64 0,.int .i64 0,.slice none 0 0] 4 48:=⟨Tryz.underlying79,⟨_,.agg [.int .i64 0,.int .i64 0,.int .i64 0,.slice none 0 0].toArray,dZ Tryz.type81,rfl,rfl,rfl,rfl⟩,rfl,by decide⟩
theorem E82:cG Tryz.prog 82 86 [.string (bs []),.int .i64 0,.int .i64 0] 3 32:=⟨Tryz.underlying82,⟨_,.agg [.string (bs []),.int .i64 0,.int .i64 0].toArray,dZ Tryz.type86,rfl,rfl,rfl,rfl⟩,rfl,by decide⟩
theorem OW:cG Tryz.prog 105 40 [.int .i64 0] 1 8:=⟨Tryz.underlying105,⟨_,.int .i64 0,dZ Tryz.type40,rfl,rfl,rfl,rfl⟩,rfl,by decide⟩
theorem E153:cG Tryz.prog 153 152 [.string (bs []),.int .i64 0,.int .i64 0,.int .i64 0] 4 40:=⟨Tryz.underlying153,⟨_,.agg [.string (bs []),.int .i64 0,.int .i64 0,.int .i64 0].toArray,dZ Tryz.type152,rfl,rfl,rfl,rfl⟩,rfl,by decide⟩
theorem UO:cG Tryz.prog 193 192 [.nilFunc,.int .i64 0] 2 16:=⟨Tryz.underlying193,⟨_,.agg [.nilFunc,.int .i64 0].toArray,dZ Tryz.type192,rfl,rfl,rfl,rfl⟩,rfl,by decide⟩
theorem UP:cG Tryz.prog 238 232 [.int .u8 0,.int .i64 0] 2 16:=⟨Tryz.underlying238,⟨_,.agg [.int .u8 0,.int .i64 0].toArray,dZ Tryz.type232,rfl,rfl,rfl,rfl⟩,rfl,by decide⟩
theorem UQ:FZ Tryz.prog 144 bT:=⟨fun x y w=>by
 have h0:Tryz.prog.underlying 144=some (.struct (Tryz.prog.fieldsOf 144)):=by kernel_rfl
 rw [run_equalIn_struct w 9999 144 _ _ h0 (by kernel_rfl)];simp only [Program.fieldsOf,Tryz.underlying144];have e:(x=y)=(x.kind=y.kind∧x.bJ=y.bJ∧x.bY=y.bY):=by cases x;cases y;simp
 simp only [e];simp [Op.eqFields,bT,part,Tryz.isAgg3,Tryz.isAgg5,BF Tryz.underlying5,BF Tryz.underlying3,BF Tryz.underlying3]
 by_cases h0:x.kind=y.kind <;> by_cases h1:x.bJ=y.bJ <;> by_cases h2:x.bY=y.bY <;> simp [h0,h1,h2],by kernel_rfl⟩
theorem UR:FZ Tryz.prog 232 bF:=⟨fun x y w=>by
 have h0:Tryz.prog.underlying 232=some (.struct (Tryz.prog.fieldsOf 232)):=by kernel_rfl
 rw [run_equalIn_struct w 9999 232 _ _ h0 (by kernel_rfl)];simp only [Program.fieldsOf,Tryz.underlying232];have e:(x=y)=(x.kind=y.kind∧x.value=y.value):=by cases x;cases y;simp
 simp only [e];simp [Op.eqFields,bF,part,Tryz.isAgg3,Tryz.isAgg5,BF Tryz.underlying5,BF Tryz.underlying3]
 by_cases h0:x.kind=y.kind <;> by_cases h1:x.value=y.value <;> simp [h0,h1],by kernel_rfl⟩
end T4
namespace Go.Proofs
open Go Go.Shelf Go.RowKit Pk
theorem vJ {w:World} {q:Addr} {vs:List Value} (h:aY (hp w) q vs) (hv:0 < vs.length):∃ cs t z,w.heap[q.block]?=some (.cells cs t z)∧cs.size≠0:=by
 obtain ⟨c,t,z,h3,h4⟩:=h.2 0 _ (List.getElem?_eq_getElem hv);refine ⟨c,t,z,h3,fun h0=>?_⟩;have:=(Array.getElem?_eq_some_iff.1 h4).1;omega
theorem tX {P:Program} (w:World) (tS tR e:TypeId) (ht:P.underlying tS=some (.slice e)) (size:Nat) (hz:∀ w,(Go.sizeOf e).run P w=.ok size w) (a b:Addr) (la ca lb cb:Nat) (hne:a.block≠b.block)
  {ca':Array Value} {ta:TypeId} {za:Nat×Nat} (ha:w.heap[a.block]?=some (.cells ca' ta za)) (ha0:ca'.size≠0) {cur:Array Value} {te:TypeId} (hb:w.heap[b.block]?=some (.cells cur te (0,0))) (hc:cur.size≠0) :
  (Extern.SlicesOverlaps.overlaps #[tS,tS] #[tR] #[.slice (some a) la ca,.slice (some b) lb cb]).run P w=.ok (.bool false) w:=by
 have hnb:(a.block != b.block)=true:=by simpa using hne
 have hnb':(a.block==b.block)=false:=by simpa using hne
 have hf:∀ x:Addr,x.block=b.block→w.frozen? x=false:=fun x hx=>by simp [World.frozen?,hx,hb]
 have hsb:w.shape? b.block=some (te,cur.size):=by simp [World.shape?,hb]
 have hva:w.shape? a.block=some (ta,ca'.size):=by simp [World.shape?,ha]
 change Sem.run P (α:=Value) (do
  let some t := (#[tS, tS] : Array TypeId)[0]? | stuck "slices.overlaps: no parameter types"
  let .slice elem ← underlying t | stuck "slices.overlaps: slice type expected"
  let size ← sizeOf elem
  match (some a:Option Addr),(some b:Option Addr) with
  | some a,some b =>
   if la=0∨lb=0∨size=0 then pure (Value.bool false)
   else if a.block != b.block&&(← frozen a)&&(← frozen b) then unsupported .addressObserved
   else do
    if a.block != b.block then do
     noView a;noView b
     if ← mayBeOne a b then return Value.bool ((← choose (.extern "sameAddr.stringBytes" 2)) == 1)
    pure (Value.bool (a.block==b.block&&a.off < b.off+lb*size&&b.off < a.off+la*size))
  | _,_=>pure (Value.bool false)) w=_
 by_cases h0:la=0∨lb=0∨size=0
 ·simp [run_underlying ht,hz,h0]
 have e1:=hf b rfl;have e2:=hf { block:=b.block,off:=cur.size } rfl;have e3:(match some (te,cur.size) with | some (_,0)=>true | _=>false)=false:=by
  cases h:cur.size with
  | zero=>exact absurd h hc
  | succ n=>rfl
 have e4:(match some (ta,ca'.size) with | some (_,0)=>true | _=>false)=false:=by
  cases h:ca'.size with
  | zero=>exact absurd h ha0
  | succ n=>rfl
 cases hfa:w.frozen? a <;> cases hfe:w.frozen? { block:=a.block,off:=ca'.size } <;>
  simp [run_underlying ht,hz,h0,hnb,hnb',frozen,noView,viewAt,mayBeOne,stringish,shape,Sem.run,hva,hsb,e1,e2,hfa,hfe,hc,e4,ha0]
theorem kW {P:Program} (w:World) (t ty el k:Nat) (hu:P.underlying t=some (.slice el)) (hz:∀ w,(Go.sizeOf el).run P w=.ok k w) (b o dLen dCap:Nat) (a:Addr) (sLen sCap:Nat) (cs:List Value) {cur:Array Value} {te:TypeId} (hb:w.heap[b]?=some (.cells cur te (0,0)))
  (hn:cs.length=Nat.min sLen dLen*k) (hsrc:∀ j v,cs[j]?=some v→w.cell? (a.add j)=some v) (hfit:o+cs.length≤cur.size) (h1:∀ v∈cs,v.oneCell'=true) :
  (Builtin.copy_ #[t,t] ty #[.slice (some ⟨b,o,none⟩) dLen dCap,.slice (some a) sLen sCap]).run P w=.ok (goInt (Nat.min sLen dLen)) (w.setRow b (cur.toList.take o++cs++cur.toList.drop (o+cs.length)).toArray):=by
 have hl:=run_loadCells_list (P:=P) (w:=w) a cs hsrc;have hst:=run_storeCells_at P b o te cs 0 cur w hb (by simpa using hfit) h1;rw [hn] at hl;simp [Builtin.copy_,run_underlying hu,Builtin.lenOf,Builtin.firstCells,hz,hl];simp at hst;rw [hst];rfl
set_option maxHeartbeats 4000000 in
set_option maxRecDepth 100000 in
theorem Tryz.ins_endM {w:World} {ad:Option Addr} {cap nn mv:Nat} (hm:1≤mv) {cs:List Value} {q:Addr} {vcap:Nat} {vs:List Value} (hr:(aJ.row ad cap 152 4 nn cs).holds w) (hb:nn+mv≤1073741824) (hv:aY (hp w) q vs) (hvl:vs.length=mv*4) (h1:vs.all (·.oneCell')=true) :
  Calls Tryz.prog 166 #[.slice ad nn cap,.int .i64 nn,.slice (some q) mv vcap] w fun e w'=>∃ ad' cap',e=.returned (.slice ad' (nn+mv) cap')∧(aJ.row ad' cap' 152 4 (nn+mv) (cs++vs)).holds w'∧lY w w' (ad.map (·.block))∧∀ b,ad'.map (·.block)=some b→ad.map (·.block)=some b∨w.heap.size≤b:=by
 obtain ⟨ad',cap',w',hrun,hh,hg,hf⟩:=pL (P:=Tryz.prog) 153 T4.E153 hr (sad:=some q) (m:=mv) (c:=vcap) (news:=vs) ⟨by omega,h1,.inr ⟨q,rfl,hv⟩⟩ (by unfold maxLen;omega) (by omega);have hd:=nB _ hrun;have hcap:=(gP hr).2;refine Calls.mono (R:=fun e w''=>e=.returned (.slice ad' (nn+mv) cap')∧w''=w') ?_ fun e w'' hw=>by
  obtain ⟨rfl,rfl⟩:=hw;exact ⟨ad',cap',rfl,hh,⟨hg,hd⟩,hf⟩
 clear hf hh hg hd hr hv h1;by_cases hc:cap=nn
 ·subst hc
  go_enter Tryz.func166,Tryz.ntmps166
  go_wp2_with (at_builtin;refine Lib.wpList_append_run _ rfl _ _ _ _ rfl _ _ rfl rfl _ _ hrun ?_)
  go_ret
  exact ⟨rfl,rfl⟩
 go_enter Tryz.func166,Tryz.ntmps166
 go_wp2_with (at_builtin;refine Lib.wpList_append_run _ rfl _ _ _ _ rfl _ _ rfl rfl _ _ hrun ?_)
 go_ret
 exact ⟨rfl,rfl⟩
theorem kG {w:World} {b:Nat} {cur:Array Value} {t:TypeId} {z:Nat×Nat} (h:w.heap[b]?=some (.cells cur t z)) {j:Nat} {v:Value} (hv:cur.toList[j]?=some v):w.cell? ⟨b,j,none⟩=some v:=by
 rw [Array.getElem?_toList] at hv;simp [World.cell?,h,hv]
theorem qA (b o i:Nat):(⟨b,o,none⟩:Addr).add i=⟨b,o+i,none⟩:=dR (ad:=⟨b,o,none⟩) rfl i
set_option maxHeartbeats 4000000 in
set_option maxRecDepth 100000 in
theorem Tryz.ins_roomM {w:World} {b cap nn j mv:Nat} (hm:1≤mv) {cs:List Value} {q:Addr} {vcap:Nat} {vs:List Value} {cur:Array Value} (hw:w.heap[b]?=some (.cells cur 152 (0,0))) (hcs:cur.size=cap*4) (ht:cur.toList.take (nn*4)=cs) (hcm:cap≤9223372036854775807) (hj:j < nn) (hroom:nn+mv≤cap) (hb:nn+mv≤1073741824) (hv:aY (hp w) q vs) (hvl:vs.length=mv*4) (h1:vs.all (·.oneCell')=true) (h2:cs.all (·.oneCell')=true) (hne:b≠q.block) :
  Calls Tryz.prog 166 #[.slice (some ⟨b,0,none⟩) nn cap,.int .i64 j,.slice (some q) mv vcap] w fun e w'=>e=.returned (.slice (some ⟨b,0,none⟩) (nn+mv) cap)∧w'=(w.drew.setRow b (cur.toList.take ((j+mv)*4)++cs.drop (j*4)++cur.toList.drop ((nn+mv)*4)).toArray).setRow b (cs.take (j*4)++vs++cs.drop (j*4)++cur.toList.drop ((nn+mv)*4)).toArray:=by
 obtain ⟨c0,t0,z0,hq0,hq1⟩:=vJ hv (by omega);have hcl:cs.length=nn*4:=by rw [← ht,List.length_take,Array.length_toList,hcs];omega
 have hcur:cur.toList=cs++cur.toList.drop (nn*4):=by rw [← ht,List.take_append_drop]
 have hov:∀ lb cb,(callFunc 192 #[.slice (some q) mv vcap,.slice (some ⟨b,(j+mv)*4,none⟩) lb cb]).run Tryz.prog w=.ok (.value (.bool false)) w:=fun lb cb=>by
  rw [run_callFunc_extern Tryz.func192 (by kernel_rfl) (by kernel_rfl) (by kernel_rfl) (e:=Extern.SlicesOverlaps.overlaps #[153,153] #[4]) (by kernel_rfl),
   tX w 153 4 152 Tryz.underlying153 4 Tryz.sizeOf152 q ⟨b,(j+mv)*4,none⟩ mv vcap lb cb (fun e=>hne e.symm) hq0 hq1 hw (by omega)]
  rfl
 have hcp1:∀ ty dc sc,(Builtin.copy_ #[153,153] ty #[.slice (some ⟨b,(j+mv)*4,none⟩) (nn - j) dc,.slice (some ⟨b,j*4,none⟩) (nn+mv - j) sc]).run Tryz.prog w.drew=.ok (goInt (Nat.min (nn+mv - j) (nn - j))) (w.drew.setRow b (cur.toList.take ((j+mv)*4)++cs.drop (j*4)++cur.toList.drop ((nn+mv)*4)).toArray):=fun ty dc sc=>by
  have hl:(cs.drop (j*4)).length=Nat.min (nn+mv - j) (nn - j)*4:=by
   rw [List.length_drop,hcl,show Nat.min (nn+mv - j) (nn - j)=nn - j by simp only [Nat.min_def];split <;> omega,Nat.sub_mul]
  have:=kW (P:=Tryz.prog) w.drew 153 ty 152 4 Tryz.underlying153 Tryz.sizeOf152 b ((j+mv)*4) (nn - j) dc ⟨b,j*4,none⟩ (nn+mv - j) sc (cs.drop (j*4)) (cur:=cur) hw hl (fun i v hi=>by
   rw [qA];refine kG (w:=w.drew) hw ?_;rw [hcur,List.getElem?_append_left (by rw [List.getElem?_drop] at hi;exact (List.getElem?_eq_some_iff.1 hi).1)]
   rwa [List.getElem?_drop] at hi) (by rw [List.length_drop,hcl,hcs];omega) (fun v hv=>List.all_eq_true.1 h2 v (List.mem_of_mem_drop hv))
  rw [this,show (j+mv)*4+(cs.drop (j*4)).length=(nn+mv)*4 by rw [List.length_drop,hcl];omega]
 obtain ⟨X1,hX1⟩:∃ X1:List Value,X1=cur.toList.take ((j+mv)*4)++cs.drop (j*4)++cur.toList.drop ((nn+mv)*4):=⟨_,rfl⟩;rw [← hX1] at hcp1 ⊢;obtain ⟨W1,hW1⟩:∃ W1,W1=w.drew.setRow b X1.toArray:=⟨_,rfl⟩;rw [← hW1] at hcp1 ⊢;have hw1:W1.heap[b]?=some (.cells X1.toArray 152 (0,0)):=by rw [hW1];exact setRow_heap w.drew b cur X1.toArray 152 (0,0) hw
 have hX1l:X1.length=cap*4:=by rw [hX1];simp only [List.length_append,List.length_take,List.length_drop,Array.length_toList,hcs,hcl];omega
 have hlen1:(cur.toList.take ((j+mv)*4)).length=(j+mv)*4:=by rw [List.length_take,Array.length_toList,hcs];omega
 have hcp2:∀ ty dc,(Builtin.copy_ #[153,153] ty #[.slice (some ⟨b,j*4,none⟩) (nn+mv - j) dc,.slice (some q) mv vcap]).run Tryz.prog W1=.ok (goInt (Nat.min mv (nn+mv - j))) (W1.setRow b (cs.take (j*4)++vs++cs.drop (j*4)++cur.toList.drop ((nn+mv)*4)).toArray):=fun ty dc=>by
  have hm:Nat.min mv (nn+mv - j)=mv:=by simp only [Nat.min_def];split <;> omega
  have:=kW (P:=Tryz.prog) W1 153 ty 152 4 Tryz.underlying153 Tryz.sizeOf152 b (j*4) (nn+mv - j) dc q mv vcap vs (cur:=X1.toArray) hw1 (by rw [hvl,hm]) (fun i v hi=>by
   have h0:=hv.cell hi;have hsp:(q.add i).block=q.block:=by unfold Addr.add;split <;> rfl
   rw [hW1];unfold World.cell? at h0 ⊢;rw [show (w.drew.setRow b X1.toArray).heap[(q.add i).block]?=w.heap[(q.add i).block]? from setRow_other w.drew b _ _ (by rw [hsp];exact fun e=>hne e.symm)]
   exact h0) (by rw [hvl,List.size_toArray,hX1l];omega) (fun v hv=>List.all_eq_true.1 h1 v hv)
  rw [this,hvl];congr 3;have e1:X1.take (j*4)=cs.take (j*4):=by
   rw [hX1,List.append_assoc,List.take_append_of_le_length (by rw [hlen1];omega),List.take_take,show min (j*4) ((j+mv)*4)=j*4 by omega,← ht,List.take_take,show min (j*4) (nn*4)=j*4 by omega]
  have e2:X1.drop (j*4+mv*4)=cs.drop (j*4)++cur.toList.drop ((nn+mv)*4):=by
   rw [hX1,show j*4+mv*4=(j+mv)*4 by omega,List.append_assoc,List.drop_append_of_le_length (by rw [hlen1];omega),List.drop_of_length_le (by rw [hlen1];omega),List.nil_append]
  simp only [List.toList_toArray,e1,e2,List.append_assoc]
 have hz2:¬((j:Int)=(nn:Int)):=by omega
 have hw2:IntKind.i64.wrap ((j:Int)+(mv:Int))=(j:Int)+(mv:Int):=by rw [IntKind.wrap_i64];omega
 have hw3:IntKind.i64.wrap ((nn:Int)+(mv:Int))=(nn:Int)+(mv:Int):=by rw [IntKind.wrap_i64];omega
 have htn:((j:Int)+(mv:Int)).toNat=j+mv:=by omega
 have htn2:((nn:Int)+(mv:Int)).toNat=nn+mv:=by omega
 have hb1:(0:Int)≤(j:Int)+(mv:Int):=by omega
 have hb2:¬(cap=j+mv):=by omega
 have hb4:¬(cap=j):=by omega
 have hb3:(j:Int)≤(nn:Int)+(mv:Int):=by omega
 have hin:j≤nn:=by omega
 have hro:¬((cap:Int) < (nn:Int)+(mv:Int)):=by omega
 clear hX1 hcur ht;have mixed:=T4.mixed;clear hw1;subst hW1
 go_enter Tryz.func166,Tryz.ntmps166
 go_wp2_with (simp only [hov])
 go_region_law_o (refine step_copy_runI rfl _ _ 153 153 rfl (.slice (some ⟨b,(j+mv)*4,none⟩) (nn - j) (cap - (j+mv))) (.slice (some ⟨b,j*4,none⟩) (nn+mv - j) (cap - j)) (by first | (simp [Act.eval,Act.put];done) | (simp [Act.eval,Act.put];omega)) (by first | (simp [Act.eval,Act.put];done) | (simp [Act.eval,Act.put];omega)) (hcp1 3 (cap - (j+mv)) (cap - j)) ?_)
 go_wp2_with (at_builtin;refine wpList_copy_runI _ rfl _ _ 153 153 rfl _ _ rfl rfl (hcp2 _ _) ?_)
 go_ret
 exact ⟨rfl,by simp only [List.append_assoc]⟩
set_option maxHeartbeats 4000000 in
set_option maxRecDepth 100000 in
theorem Tryz.ins_growM {w:World} {b cap nn j mv:Nat} (hm:1≤mv) {cs:List Value} {q:Addr} {vcap:Nat} {vs:List Value} {cur:Array Value} (hw:w.heap[b]?=some (.cells cur 152 (0,0))) (hcs:cur.size=cap*4) (ht:cur.toList.take (nn*4)=cs) (hnc:nn≤cap) (hj:j < nn) (hroom:cap < nn+mv) (hb:nn+mv≤1073741824) (hv:aY (hp w) q vs) (hvl:vs.length=mv*4) (h1:vs.all (·.oneCell')=true) (h2:cs.all (·.oneCell')=true) :
  Calls Tryz.prog 166 #[.slice (some ⟨b,0,none⟩) nn cap,.int .i64 j,.slice (some q) mv vcap] w fun e w'=>∃ (G:Nat) (X:List Value),nn+mv≤G∧G≤maxLen∧X.length=G*4∧X.take ((nn+mv)*4)=cs.take (j*4)++vs++cs.drop (j*4)∧e=.returned (.slice (some ⟨w.heap.size,0,none⟩) (nn+mv) G)∧∃ Y Z m,w'=(((w.alloc (.cells Y 152)).drewN m).setRow w.heap.size Z).setRow w.heap.size X.toArray:=by
 obtain ⟨i0,v0,hi0,hz0,hzv,hzs,hzb⟩:=T4.E153.info;have hzc:v0.cells.size=4:=by rw [fD,hzv];rfl
 have hcl:cs.length=nn*4:=by rw [← ht,List.length_take,Array.length_toList,hcs];omega
 have hcur:cur.toList=cs++cur.toList.drop (nn*4):=by rw [← ht,List.take_append_drop]
 have hold:(Builtin.firstCells i0.size j (.slice (some ⟨b,0,none⟩) j cap)).run Tryz.prog w.drew=.ok (cs.take (j*4)).toArray w.drew:=by
  rw [hzs];refine run_firstCells_some (w:=w.drew) 4 j ⟨b,0,none⟩ j cap (cs.take (j*4)) (by rw [List.length_take,hcl];omega) (fun i v hi=>?_);rw [qA,Nat.zero_add];refine kG (w:=w.drew) hw ?_;rw [List.getElem?_take] at hi
  split at hi
  ·rw [hcur,List.getElem?_append_left (by rw [hcl];omega)];exact hi
  cases hi
 have hik:j+(nn+mv - j)=nn+mv:=by omega
 have hkk:(nn:Int)+(mv:Int) - (j:Int)=((nn+mv - j:Nat):Int):=by omega
 obtain ⟨G,hG⟩:∃ G,G=grownCap w (nn+mv) cap 152:=⟨_,rfl⟩;have hGn:nn+mv≤G:=by rw [hG];exact grownCap_ge w _ _ _
 have hGm:G≤maxLen:=by rw [hG];exact grownCap_le_maxLen w (nn+mv) cap 152 (by unfold maxLen;omega)
 obtain ⟨R,hR⟩:∃ R:Array Value,R=(cs.take (j*4)).toArray++Builtin.zeroCells v0.cells (nn+mv - j)++Builtin.zeroCells v0.cells (G - (nn+mv)):=⟨_,rfl⟩;have hRs:R.size=G*4:=by
  rw [hR];simp only [Array.size_append,List.size_toArray,List.length_take,hcl,Builtin.zeroCells,Array.size_map,Array.size_range,hzc];omega
 have hRt:R.toList.take (j*4)=cs.take (j*4):=by
  rw [hR,Array.toList_append,Array.toList_append,List.append_assoc,List.take_append_of_le_length (by simp [hcl];omega)];simp only [List.toList_toArray,List.take_take,Nat.min_self]
 have hrz:∀ ty,(Builtin.append_ #[153,3] ty #[.slice (some ⟨b,0,none⟩) j cap,.int .i64 ((nn:Int)+(mv:Int) - (j:Int))]).run Tryz.prog w=.ok (.slice (some ⟨w.heap.size,0,none⟩) (nn+mv) G) (w.drew.alloc (.cells R 152)):=fun ty=>by
  have h:=Lib.run_append_grow_zeros w 153 3 ty 152 i0 _ .i64 .i64 Tryz.underlying153 Tryz.underlying3 hi0 hz0 (some ⟨b,0,none⟩) j cap (cs.take (j*4)) hold (nn+mv - j) (by omega) (by rw [hzs];decide) (by omega) (by omega) (by rw [hzb];omega) (by rw [hzb,hik];exact growslice_fits hroom (by omega));rw [hik] at h;rw [hkk,hR,hG];exact h
 have hN:(w.drew.alloc (.cells R 152)).heap[w.heap.size]?=some (.cells R 152 (0,0)):=dP w.drew _;have hbw:b < w.heap.size:=(Array.getElem?_eq_some_iff.1 hw).1;obtain ⟨X1,hX1⟩:∃ X1:List Value,X1=cs.take (j*4)++vs++R.toList.drop ((j+mv)*4):=⟨_,rfl⟩;obtain ⟨X2,hX2⟩:∃ X2:List Value,X2=cs.take (j*4)++vs++cs.drop (j*4)++R.toList.drop ((nn+mv)*4):=⟨_,rfl⟩;have hct:(cs.take (j*4)).length=j*4:=by rw [List.length_take,hcl];omega
 have hX1l:X1.length=G*4:=by rw [hX1];simp only [List.length_append,hct,hvl,List.length_drop,Array.length_toList,hRs];omega
 have hX2l:X2.length=G*4:=by rw [hX2];simp only [List.length_append,hct,hvl,List.length_drop,Array.length_toList,hRs,hcl];omega
 have hqn:∀ i,(q.add i).block=q.block:=fun i=>by unfold Addr.add;split <;> rfl
 obtain ⟨c0,t0,z0,hq0,_⟩:=vJ hv (by omega);have hqw:q.block < w.heap.size:=(Array.getElem?_eq_some_iff.1 hq0).1;have hcpA:∀ (m:Nat) ty dc,(Builtin.copy_ #[153,153] ty #[.slice (some ⟨w.heap.size,j*4,none⟩) (nn+mv - j) dc,.slice (some q) mv vcap]).run Tryz.prog ((w.alloc (.cells R 152)).drewN m)=.ok (goInt (Nat.min mv (nn+mv - j))) (((w.alloc (.cells R 152)).drewN m).setRow w.heap.size X1.toArray):=fun m ty dc=>by
  have hm:Nat.min mv (nn+mv - j)=mv:=by simp only [Nat.min_def];split <;> omega
  have:=kW (P:=Tryz.prog) ((w.alloc (.cells R 152)).drewN m) 153 ty 152 4 Tryz.underlying153 Tryz.sizeOf152 w.heap.size (j*4) (nn+mv - j) dc q mv vcap vs (cur:=R) (te:=152) (dP w _) (by rw [hvl,hm]) (fun i v hi=>by
   have h0:=hv.cell hi;unfold World.cell? at h0 ⊢;rw [show ((w.alloc (.cells R 152)).drewN m).heap[(q.add i).block]?=w.heap[(q.add i).block]? from (gZ.alloc True w (.cells R 152)).keep _ (by rw [hqn];exact hqw)]
   exact h0) (by rw [hvl,hRs];omega) (fun v hv=>List.all_eq_true.1 h1 v hv)
  rw [this,hvl,hRt,hX1,show j*4+mv*4=(j+mv)*4 by omega]
 have hcpB:∀ (m:Nat) ty dc sc,(Builtin.copy_ #[153,153] ty #[.slice (some ⟨w.heap.size,(j+mv)*4,none⟩) (nn - j) dc,.slice (some ⟨b,j*4,none⟩) (nn - j) sc]).run Tryz.prog (((w.alloc (.cells R 152)).drewN m).setRow w.heap.size X1.toArray)=.ok (goInt (Nat.min (nn - j) (nn - j))) ((((w.alloc (.cells R 152)).drewN m).setRow w.heap.size X1.toArray).setRow w.heap.size X2.toArray):=fun m ty dc sc=>by
  have hm:Nat.min (nn - j) (nn - j)=nn - j:=Nat.min_self _;have hl:(cs.drop (j*4)).length=Nat.min (nn - j) (nn - j)*4:=by rw [hm,List.length_drop,hcl,Nat.sub_mul]
  have:=kW (P:=Tryz.prog) (((w.alloc (.cells R 152)).drewN m).setRow w.heap.size X1.toArray) 153 ty 152 4 Tryz.underlying153 Tryz.sizeOf152 w.heap.size ((j+mv)*4) (nn - j) dc ⟨b,j*4,none⟩ (nn - j) sc (cs.drop (j*4)) (cur:=X1.toArray) (te:=152) (setRow_heap _ _ R X1.toArray 152 (0,0) (dP w _)) hl (fun i v hi=>by
   rw [qA];have hcell:w.cell? ⟨b,j*4+i,none⟩=some v:=by
    refine kG hw ?_;rw [hcur,List.getElem?_append_left (by rw [List.getElem?_drop] at hi;exact (List.getElem?_eq_some_iff.1 hi).1)]
    rwa [List.getElem?_drop] at hi
   unfold World.cell? at hcell ⊢;rw [show (((w.alloc (.cells R 152)).drewN m).setRow w.heap.size X1.toArray).heap[(⟨b,j*4+i,none⟩:Addr).block]?=w.heap[(⟨b,j*4+i,none⟩:Addr).block]? from (setRow_other _ _ _ _ (by show b≠w.heap.size;omega)).trans ((gZ.alloc True w (.cells R 152)).keep _ hbw)]
   exact hcell) (by rw [List.length_drop,hcl,List.size_toArray,hX1l];omega) (fun v hv=>List.all_eq_true.1 h2 v (List.mem_of_mem_drop hv))
  rw [this,show (j+mv)*4+(cs.drop (j*4)).length=(nn+mv)*4 by rw [List.length_drop,hcl];omega];congr 3;have e1:X1.take ((j+mv)*4)=cs.take (j*4)++vs:=by
   rw [hX1,List.take_append_of_le_length (by rw [List.length_append,hct,hvl];omega),List.take_of_length_le (by rw [List.length_append,hct,hvl];omega)]
  have e2:X1.drop ((nn+mv)*4)=R.toList.drop ((nn+mv)*4):=by
   rw [hX1,List.drop_append,List.drop_of_length_le (by rw [List.length_append,hct,hvl];omega),List.nil_append,List.drop_drop,List.length_append,hct,hvl,show (j+mv)*4+((nn+mv)*4 - (j*4+mv*4))=(nn+mv)*4 by omega]
  simp only [List.toList_toArray,e1,e2,hX2,List.append_assoc]
 have hX2t:X2.take ((nn+mv)*4)=cs.take (j*4)++vs++cs.drop (j*4):=by
  rw [hX2,List.take_append_of_le_length (by simp only [List.length_append,hct,hvl,List.length_drop,hcl];omega),List.take_of_length_le (by simp only [List.length_append,hct,hvl,List.length_drop,hcl];omega)]
 refine Calls.mono (R:=fun e w''=>e=.returned (.slice (some ⟨w.heap.size,0,none⟩) (nn+mv) G)∧∃ m,w''=(((w.alloc (.cells R 152)).drewN m).setRow w.heap.size X1.toArray).setRow w.heap.size X2.toArray) ?_ fun e w'' hw=>by
  obtain ⟨rfl,m,rfl⟩:=hw;exact ⟨G,X2,hGn,hGm,hX2l,hX2t,rfl,R,X1.toArray,m,rfl⟩
 have mixed:=T4.mixed;have hz2:¬((j:Int)=(nn:Int)):=by omega
 have hw2:IntKind.i64.wrap ((j:Int)+(mv:Int))=(j:Int)+(mv:Int):=by rw [IntKind.wrap_i64];omega
 have hw3:IntKind.i64.wrap ((nn:Int)+(mv:Int))=(nn:Int)+(mv:Int):=by rw [IntKind.wrap_i64];omega
 have htn:((j:Int)+(mv:Int)).toNat=j+mv:=by omega
 have hb1:(0:Int)≤(j:Int)+(mv:Int):=by omega
 have hro:(cap:Int) < (nn:Int)+(mv:Int):=by omega
 have hGi:¬(G=j):=by omega
 have hGim:¬(G=j+mv):=by omega
 have hci:¬(cap=j):=by omega
 have hin:j≤nn:=by omega
 have hb3:(j:Int)≤(nn:Int):=by omega
 have hcpA0:∀ ty dc,(Builtin.copy_ #[153,153] ty #[.slice (some ⟨w.heap.size,j*4,none⟩) (nn+mv - j) dc,.slice (some q) mv vcap]).run Tryz.prog (w.drew.alloc (.cells R 152))=.ok (goInt (Nat.min mv (nn+mv - j))) ((w.drew.alloc (.cells R 152)).setRow w.heap.size X1.toArray):=fun ty dc=>hcpA 1 ty dc;have hcpA1:∀ ty dc,(Builtin.copy_ #[153,153] ty #[.slice (some ⟨w.heap.size,j*4,none⟩) (nn+mv - j) dc,.slice (some q) mv vcap]).run Tryz.prog ((w.alloc (.cells R 152)).drew)=.ok (goInt (Nat.min mv (nn+mv - j))) (((w.alloc (.cells R 152)).drew).setRow w.heap.size X1.toArray):=fun ty dc=>hcpA 1 ty dc;have hcpB0:∀ ty dc sc,(Builtin.copy_ #[153,153] ty #[.slice (some ⟨w.heap.size,(j+mv)*4,none⟩) (nn - j) dc,.slice (some ⟨b,j*4,none⟩) (nn - j) sc]).run Tryz.prog (((w.alloc (.cells R 152)).drew.setRow w.heap.size X1.toArray).drew)=.ok (goInt (Nat.min (nn - j) (nn - j))) ((((w.alloc (.cells R 152)).drew.setRow w.heap.size X1.toArray).drew).setRow w.heap.size X2.toArray):=fun ty dc sc=>hcpB 2 ty dc sc;clear hG hcpA hcpB hR hold hkk hik hcur hRt hX1 hX2 hX2t hN hq0 hv ht
 go_enter Tryz.func166,Tryz.ntmps166
 go_wp2_with (first
  | (at_builtin;refine Lib.wpList_append_run _ rfl _ _ _ _ rfl _ _ rfl rfl _ _ (hrz _) ?_)
  | (at_builtin;refine wpList_copy_runI _ rfl _ _ 153 153 rfl _ _ rfl rfl (hcpA1 _ _) ?_)
  | (at_builtin;refine wpList_copy_runI _ rfl _ _ 153 153 rfl _ _ rfl rfl (hcpA0 _ _) ?_))
 go_region_law_o (refine step_copy_runI rfl _ _ 153 153 rfl (.slice (some ⟨w.heap.size,(j+mv)*4,none⟩) (nn - j) (G - (j+mv))) (.slice (some ⟨b,j*4,none⟩) (nn - j) (cap - j)) (by first | (simp [Act.eval,Act.put];done) | (simp [Act.eval,Act.put];omega)) (by first | (simp [Act.eval,Act.put];done) | (simp [Act.eval,Act.put];omega)) (hcpB0 3 (G - (j+mv)) (cap - j)) ?_)
 go_wp2
 go_ret
 exact ⟨rfl,2,rfl⟩
theorem rZ {w w':World} {b:Nat} (h:∀ k,k < w.heap.size→k≠b→w'.heap[k]?=w.heap[k]?) (ho:w'.os=w.os) (ht:w'.tape=w.tape) (hu:w'.output=w.output) (hs:w.heap.size≤w'.heap.size) (hd:w.drawn≤w'.drawn):lY w w' (some b) :=
 ⟨⟨ho,ht,hu,hs,fun k hk hne=>h k hk (fun e=>hne (by rw [e]))⟩,hd⟩
theorem iQ (w:World) (b:Nat) (X:Array Value):(w.setRow b X).heap.size=w.heap.size:=by simp [World.setRow]
set_option maxHeartbeats 4000000 in
set_option maxRecDepth 100000 in
theorem Tryz.ins_none {w:World} {ad vad:Option Addr} {cap nn j vcap:Nat} (hj:j≤nn) (hc:nn≤cap) (hcm:cap≤9223372036854775807):Calls Tryz.prog 166 #[.slice ad nn cap,.int .i64 j,.slice vad 0 vcap] w fun e w'=>e=.returned (.slice ad nn cap)∧∃ n,w'=w.drewN n:=by
 have hb3:(j:Int)≤(nn:Int):=by omega
 by_cases hcj:cap=j
 ·subst hcj
  go_enter Tryz.func166,Tryz.ntmps166
  go_wp2
  go_ret
  exact ⟨rfl,0,rfl⟩
 go_enter Tryz.func166,Tryz.ntmps166
 go_wp2
 go_ret
 exact ⟨rfl,0,rfl⟩
theorem Tryz.insM166:ON Tryz.prog 166 152 4:=by
 intro w ad cap nn cs j vad vcap mv vs hr hj hb hvl hsrc h2 hne hvc;have hcl:=(gP hr).1;have hnc0:=(gP hr).2;rcases Nat.eq_zero_or_pos mv with h0 | hm
 ·subst h0;have hv0:vs=[]:=List.eq_nil_of_length_eq_zero (by omega);subst hv0;have hrow:nn≤cap∧cap≤9223372036854775807:=by
   rcases hr.2 with ⟨e0,h0⟩ | ⟨b,cap',cur,he,hbb,hw,hnc,hcm,hcs,ht⟩
   ·cases e0;omega
   cases he;unfold maxLen at hcm;omega
  refine (Tryz.ins_none hj hrow.1 hrow.2).mono fun e w' h=>?_;obtain ⟨rfl,n,rfl⟩:=h;refine ⟨ad,cap,rfl,?_,?_,fun b hb'=>.inl hb'⟩
  ·rw [List.append_nil,List.take_append_drop];exact hr
  exact ⟨⟨rfl,rfl,rfl,Nat.le_refl _,fun k hk hne=>rfl⟩,Nat.le_add_right _ _⟩
 rcases hsrc with h0 | ⟨_,h1,⟨_,h0,_⟩ | ⟨q,rfl,hv⟩⟩
 ·omega
 ·omega
 by_cases hjn:j=nn
 ·subst hjn;refine (Tryz.ins_endM hm hr hb hv hvl h1).mono fun e w' h=>?_;rw [List.take_of_length_le (by omega),List.drop_of_length_le (by omega),List.append_nil];exact h
 have hlt:j < nn:=by omega
 rcases hr.2 with ⟨_,h0⟩ | ⟨b,cap',cur,he,hbb,hw,hnc,hcm,hcs,ht⟩
 ·omega
 simp only [Value.slice.injEq] at he;obtain ⟨rfl,_,rfl⟩:=he;have hbw:b < w.heap.size:=(Array.getElem?_eq_some_iff.1 hw).1;have h3:cap≤9223372036854775807:=by unfold maxLen at hcm;omega
 have hln:(cs.take (j*4)++vs++cs.drop (j*4)).length=(nn+mv)*4:=by
  simp only [List.length_append,List.length_take,List.length_drop,hvl,hcl];omega
 by_cases hroom:nn+mv≤cap
 ·refine (Tryz.ins_roomM hm hw hcs ht h3 hlt hroom hb hv hvl h1 h2 (hne q rfl hm b rfl)).mono fun e w' h=>?_;obtain ⟨rfl,rfl⟩:=h;refine ⟨_,_,rfl,?_,?_,fun b' hb'=>.inl hb'⟩
  ·refine ⟨hln,.inr ⟨b,cap,_,rfl,hbb,setRow_heap _ b _ _ 152 (0,0) (setRow_heap w.drew b cur _ 152 (0,0) hw),hroom,hcm,?_,?_⟩⟩
   ·have:(cur.toList.drop ((nn+mv)*4)).length=cap*4 - (nn+mv)*4:=by rw [List.length_drop,Array.length_toList,hcs]
    rw [List.size_toArray,List.length_append,hln,this];omega
   rw [List.toList_toArray,List.take_append_of_le_length (by rw [hln];exact Nat.le_refl _),List.take_of_length_le (by rw [hln];exact Nat.le_refl _)]
  exact rZ (fun k hk hkb=>(setRow_other _ _ _ _ hkb).trans (setRow_other _ _ _ _ hkb)) rfl rfl rfl (by rw [iQ,iQ];exact Nat.le_refl _) (Nat.le_succ _)
 refine (Tryz.ins_growM hm hw hcs ht hnc hlt (by omega) hb hv hvl h1 h2).mono fun e w' h=>?_;obtain ⟨G,X,hG1,hG2,hXl,hXt,rfl,Y,Z,m,rfl⟩:=h;refine ⟨_,_,rfl,?_,?_,fun b' hb'=>.inr (by simp at hb';omega)⟩
 ·refine ⟨hln,.inr ⟨w.heap.size,G,X.toArray,rfl,Nat.zero_le _,setRow_heap _ _ Z _ 152 (0,0) (setRow_heap _ _ Y _ 152 (0,0) (dP w _)),hG1,hG2,by rw [List.size_toArray,hXl],by rw [List.toList_toArray];exact hXt⟩⟩
 refine rZ (fun k hk hkb=>?_) rfl rfl rfl ?_ ?_
 ·have hkn:k≠w.heap.size:=by omega
  exact (setRow_other _ _ _ _ hkn).trans ((setRow_other _ _ _ _ hkn).trans ((gZ.alloc True w (.cells Y 152)).keep k hk))
 ·rw [iQ,iQ];exact (gZ.alloc True w (.cells Y 152)).size
 exact Nat.le_add_right _ _
end Go.Proofs
set_option maxHeartbeats 4000000
namespace T4
open Go Go.Proofs Pk Go.RowKit
theorem KP (p q:Addr) (w:World):CallsD Tryz.prog 69 #[.pointer (some p),.pointer (some q)] .returning w fun e u' w'=>e=.returned (.tuple #[])∧u'=.returning∧w'=w:=by
 refine callsD_of_wpS Tryz.func69 rfl fun c₀ cs hu=>?_;apply wpS_seq;apply wpS_region;simp [wpOpsS,go_sem,recoverD,hu,Tryz.ntmps69,Exit.thenS];apply wpS_seq;apply wpS_seq;apply wpS_region;simp [wpOpsS,go_sem,Exit.thenS];refine wpS_cond (t:=true) (by simp [Act.eval,Array.replicate]) ?_;simp only [if_true];refine wpS_of_wp (wp_ret ?_);cases c₀
 simp_all [Exit.thenS,bodyPostS,results,Tryz.results69]
section
variable {P:Program} {r:Option Nat} {n:aU} {p:List PanicEntry→aU} {a:Act} {w:World} {D:List Deferred} {k:Nat} {L:bU} {ops:Array Oper} {rest:List Oper} {d:Nat} {ty:TypeId} {pos:String} {af:Array Edge}
theorem OX {y:Operand} {t u te:TypeId} {pe:Value} {ms:_} (hA:aV D k a L) (hu':P.underlying t=some (.interface ms)) (hd:Nat.blt d k=true) (hy:ev L y=some (.iface te pe)) (h:∀ a,aV D k a ((d,.bool false)::L)→O P r ops n p rest a w):O P r ops n p (⟨some d,.binOp .eql t y (.const .nilIface) u,ty,pos,af,none⟩::rest) a w:=by
 have hu:P.underlying t=some (.interface (P.methodsAt t)):=by rw [hu'];simp [Program.methodsAt,hu']
 refine cW rfl (fun _ h=>by cases h) (w':=w) (v:=.bool false) ?_ (h _ (hA.put hd _));simp [execOp,hA.eval hy,show a.eval (.const .nilIface)=.nilIface from rfl,eqGuard,run_eql_held_nil w t _ _ hu,Result.andThen]
theorem OY {y:Operand} {xT t:TypeId} {v:Value} {ds:TypeDesc} (hA:aV D k a L) (hd:Nat.blt d k=true) (hu:P.underlying t=some ds) (hds:(match ds with | .interface _=>false | _=>true)=true) (hy:ev L y=some (.iface t v))
  (h:∀ a,aV D k a ((d,.tuple #[v,.bool true])::L)→O P r ops n p rest a w):O P r ops n p (⟨some d,.typeAssert y xT t true,ty,pos,af,none⟩::rest) a w :=
 cW rfl (fun _ h=>by cases h) (w':=w) (v:=.tuple #[v,.bool true]) (by
  simp only [execOp,Instr.typeAssert,hA.eval hy]
  cases ds <;> simp at hds <;> simp [run_underlying hu,Result.andThen]) (h _ (hA.put hd _))
end
theorem KQ {M:Prop} {W w:World} {H:Hp} {Hs:List Hp} {b b2 tA tB:Nat} {v0 z0:Value} {σr:aS} (hS:St M W H Hs ((tB,aM b2 40 [z0])::(tA,aM b 145 [v0])::σr) w) (hT:Nat.beq tB tA=false) (hTB:Nat.beq 999999 tB=false) (hTA:Nat.beq 999999 tA=false) :
  CallsD Tryz.prog 69 #[.pointer (some ⟨b,0,none⟩),.pointer (some ⟨b2,0,none⟩)] (.panicking (SU (.iface 177 (.agg ([]:List Value).toArray)))) w fun e u' w'=>(∃ v,e=.returned v)∧settle u'=.returning ∧
   ∃ b3 cs3,St M W H Hs ((999999,aM b3 177 cs3)::(tB,aM b2 40 [.int .i64 9])::(tA,aM b 145 [.pointer none])::σr) w':=by
 refine callsD_of_wpS Tryz.func69 rfl fun c₀ cs hu=>?_;apply wpS_seq;apply wpS_region;obtain ⟨v,hv⟩:∃ v:Value,v=.agg ([]:List Value).toArray:=⟨_,rfl⟩;rw [← hv] at hu;simp [wpOpsS,go_sem,recoverD,hu,Tryz.ntmps69,Exit.thenS,SU];refine wpS_of_wp ?_;refine (wpIn_wide (n:=0)).1 (wpIn_mono (show Pk.W Tryz.prog none _ (fun a w=>a.defers=[]∧∃ b3 cs3,St M W H Hs ((999999,aM b3 177 cs3)::(tB,aM b2 40 [.int .i64 9])::(tA,aM b 145 [.pointer none])::σr) w) (fun _ _=>False) [] (fun _ _ _=>False) _ w from ?_) ?_)
 ·have hA:aV [] 16 { tmps:=#[.pointer (some ⟨b,0,none⟩),.pointer (some ⟨b2,0,none⟩)]++((Array.replicate 14 undef).setIfInBounds 3 (.iface 177 v)).setIfInBounds 0 (.iface 177 v),defers:=[] } [(0,.pointer (some ⟨b,0,none⟩)),(1,.pointer (some ⟨b2,0,none⟩)),(2,.iface 177 v)]:=by
   refine ⟨rfl,by simp,fun i u h=>?_⟩;rcases i with _ | _ | _ | i
   ·exact h
   ·exact h
   ·exact h
   cases (show (none:Option Value)=some u from h)
  revert hA;generalize ({ tmps:=_,defers:=[] }:Act)=a;intro hA;subst hv;refine rM (rM (jW ?_));refine pH hA rfl rfl fun a hA=>?_;refine OX hA Tryz.underlying20 rfl rfl fun a hA=>xQ (mZ hA rfl (fun h=>by cases h) (fun _=>wQ ?_));refine rM (rM (jW (pH hA rfl rfl fun a hA=>OY hA rfl Tryz.underlying177 rfl rfl fun a hA=>pH hA rfl rfl fun a hA=>AY (vs:=[.agg ([]:List Value).toArray,.bool true]) hA rfl rfl rfl fun a hA=>AY (vs:=[.agg ([]:List Value).toArray,.bool true]) hA rfl rfl rfl fun a hA=>tH 999999 hA rfl hS Tryz.zeroValue177 rfl fun b3 w hS hb a hA=>?_)));refine mD 999999 (cs:=([]:List Value)) hA hS rfl rfl Tryz.sizeOf177 rfl rfl rfl rfl rfl fun w hS a hA=>uO hA rfl rfl fun a hA=>xQ ?_;refine rM (jW (pH hA rfl rfl fun a hA=>IA hA rfl rfl fun a hA=>xQ (mZ hA rfl (fun h=>by cases h) (fun _=>wQ ?_))));refine jW ?_;refine mD tA (t0:=145) (l:=[v0]) (cs:=[.pointer none]) hA hS rfl rfl Tryz.sizeOf145 (by simp [cD,dE,hT,hTA]) rfl rfl rfl rfl fun w hS a hA=>?_;refine mD tB (t0:=40) (l:=[z0]) (cs:=[.int .i64 9]) hA hS rfl rfl Tryz.sizeOf40 (by simp [cD,dE,hT,hTB,hTA]) rfl rfl rfl rfl fun w hS a hA=>xQ ?_;refine ⟨hA.defers,b3,([]:List Value),?_⟩;simpa [dE,hT,hTB,hTA,mC,bN] using hS
 intro z a w' hz
 cases z with
 | normal =>
  obtain ⟨hd,h⟩:=hz;subst hv;exact ⟨hd,.panicking [{ v:=.iface 177 (.agg ([]:List Value).toArray),recovered:=true }],rfl,.tuple #[],by simp [results,Tryz.results69],⟨_,rfl⟩,rfl,h⟩
 | ret=>exact hz.elim
 | panic ch=>exact hz.elim
 | exit id=>obtain ⟨K,hK,_⟩:=hz;simp [wL] at hK
 | goto l=>exact hz
 | outgrown=>exact hz.elim
variable {R:Ending→World→Prop} {M:Prop} {W:World} {H:Hp} {Hs:List Hp} {σ:aS} {L:bU} {b b2:Nat}
theorem US (h:TG ⟨[],41,M,W,H⟩ Hs σ L (Rt Tryz.prog Tryz.f46 R)):TG ⟨[IH 69 [.pointer (some ⟨b,0,none⟩),.pointer (some ⟨b2,0,none⟩)]],41,M,W,H⟩ Hs σ L (KJ Tryz.prog Tryz.f46 R) :=
 rtF Tryz.call69 (fun w hS=>(KP ⟨b,0,none⟩ ⟨b2,0,none⟩ w).mono (by rintro e u w' ⟨rfl,rfl,rfl⟩;exact ⟨⟨_,rfl⟩,rfl,hS⟩)) h
theorem wZ {tA tB:Nat} {v0 z0:Value} {σr:aS} (hT:Nat.beq tB tA=false) (hTB:Nat.beq 999999 tB=false) (hTA:Nat.beq 999999 tA=false)
  (h:∀ b3 cs3,TG ⟨[],41,M,W,H⟩ Hs ((999999,aM b3 177 cs3)::(tB,aM b2 40 [.int .i64 9])::(tA,aM b 145 [.pointer none])::σr) L (Rt Tryz.prog Tryz.f46 R)) :
  TG ⟨[IH 69 [.pointer (some ⟨b,0,none⟩),.pointer (some ⟨b2,0,none⟩)]],41,M,W,H⟩ Hs ((tB,aM b2 40 [z0])::(tA,aM b 145 [v0])::σr) L (OL Tryz.prog Tryz.f46 R (SU (.iface 177 (.agg ([]:List Value).toArray)))) :=
 pnF (σ':=fun b3 cs3=>(999999,aM b3 177 cs3)::(tB,aM b2 40 [.int .i64 9])::(tA,aM b 145 [.pointer none])::σr) Tryz.call69 (fun w hS=>KQ hS hT hTB hTA) h
end T4
set_option maxHeartbeats 4000000
namespace T4
open Go Go.Proofs Pk
noncomputable def vK (l_0:List aD) (s0:Nat):Option ((Nat)⊕((Unit)⊕Bool)) :=
 if (s0:Int) < (l_0.length:Int) then (
  (l_0[s0]?).bind fun x0 =>
  if 40 < (x0.length:Int) then (
   some (.inr (.inr false)))
  else
  some (.inl (s0+1)))
 else
 some (.inr (.inl ()))
noncomputable def KR (l_0:List aD) (most:Int):Option (Bool) :=
 (aO (vK l_0) 0).bind fun eV=>match eV with
 | .inr z=>some z
 | .inl t1 =>
 some (decide ((l_0.length:Int)≤most))
noncomputable def CB (l_0:aP) (s0:Nat):Option ((Nat)⊕((Unit)⊕Bool)) :=
 ((
  if (s0:Int) < (l_0.numbers.length:Int) then (
   some (decide ((s0:Int) < 46)))
  else
  some false
 ):Option (Bool)).bind fun t1 =>
 if t1 then (
  (l_0.numbers[s0]?).bind fun x0 =>
  if 40 < (x0.text.length:Int) then (
   some (.inr (.inr false)))
  else
  cE (-9223372036854775808≤((s0:Int)+1)∧((s0:Int)+1)≤9223372036854775807) <|
  some (.inl (s0+1)))
 else
 some (.inr (.inl ()))
noncomputable def CC (l_0:aP) (s0:Nat):Option ((Nat)⊕((Unit)⊕Bool)) :=
 ((
  if (s0:Int) < (l_0.names.length:Int) then (
   some (decide ((s0:Int) < 46)))
  else
  some false
 ):Option (Bool)).bind fun t1 =>
 if t1 then (
  (l_0.names[s0]?).bind fun x0 =>
  (KR x0 8).bind fun r1 =>
  if r1 then (
   cE (-9223372036854775808≤((s0:Int)+1)∧((s0:Int)+1)≤9223372036854775807) <|
   some (.inl (s0+1)))
  else
  some (.inr (.inr false)))
 else
 some (.inr (.inl ()))
noncomputable def m5 (l_0:aP) (aT:List bH):Option (Bool) :=
 (aO (CB l_0) 0).bind fun e34=>match e34 with
 | .inr z=>some z
 | .inl t2 =>
 (aO (CC l_0) 0).bind fun eV=>match eV with
 | .inr z=>some z
 | .inl t3 =>
 ((
  if (l_0.numbers.length:Int)≤45 then (
   if (l_0.names.length:Int)≤45 then (
    (KR l_0.nots 45).bind fun r1 =>
    if r1 then (
     some (decide ((aT.length:Int)≤25)))
    else
    some false)
   else
   some false)
  else
  some false
 ):Option (Bool)).bind fun t1 =>
 some t1
noncomputable def CD (r_0:aR) (s0:Nat):Option ((Nat)⊕((Unit)⊕Bool)) :=
 ((
  if (s0:Int) < (r_0.words.length:Int) then (
   some (decide ((s0:Int) < 86)))
  else
  some false
 ):Option (Bool)).bind fun t1 =>
 if t1 then (
  (r_0.words[s0]?).bind fun x0 =>
  if 40 < (x0.text.length:Int) then (
   some (.inr (.inr false)))
  else
  cE (-9223372036854775808≤((s0:Int)+1)∧((s0:Int)+1)≤9223372036854775807) <|
  some (.inl (s0+1)))
 else
 some (.inr (.inl ()))
noncomputable def CE (requests:List aB) (s0:Nat):Option ((Nat)⊕((Unit)⊕Bool)) :=
 ((
  if (s0:Int) < (requests.length:Int) then (
   some (decide ((s0:Int) < 26)))
  else
  some false
 ):Option (Bool)).bind fun t1 =>
 if t1 then (
  (requests[s0]?).bind fun x0 =>
  (KR x0.bK 12).bind fun r1 =>
  if r1 then (
   cE (-9223372036854775808≤((s0:Int)+1)∧((s0:Int)+1)≤9223372036854775807) <|
   some (.inl (s0+1)))
  else
  some (.inr (.inr false)))
 else
 some (.inr (.inl ()))
noncomputable def m6 (r_0:aR) (requests:List aB):Option (Bool) :=
 (aO (CD r_0) 0).bind fun eV=>match eV with
 | .inr z=>some z
 | .inl t2 =>
 (aO (CE requests) 0).bind fun eA1=>match eA1 with
 | .inr z=>some z
 | .inl t3 =>
 ((
  if (r_0.words.length:Int)≤85 then (
   some (decide ((requests.length:Int)≤25)))
  else
  some false
 ):Option (Bool)).bind fun t1 =>
 some t1
noncomputable def AR (n_0:Int) (low:Int) (high:Int):Option (Bool) :=
 ((
  if low≤n_0 then (
   some (decide (n_0≤high)))
  else
  some false
 ):Option (Bool)).bind fun t4 =>
 some t4
noncomputable def CF (x_0:Int) (f0_:Int→Option Bool):Option (Bool) :=
 (f0_ x_0).bind fun r1 =>
 some (!r1)
noncomputable def CG (s_0:List UInt8) (f_1:Int→Option Bool) (s0:Nat):Option ((Nat)⊕((Unit)⊕Int)) :=
 if (s0:Int) < (s_0.length:Int) then (
  (s_0[s0]?).bind fun x0 =>
  (f_1 (x0.toNat:Int)).bind fun r1 =>
  if r1 then (
   some (.inr (.inr (s0:Int))))
  else
  some (.inl (s0+1)))
 else
 some (.inr (.inl ()))
noncomputable def KS (s_0:List UInt8) (f_1:Int→Option Bool):Option (Int) :=
 (aO (CG s_0 f_1) 0).bind fun eV=>match eV with
 | .inr z=>some z
 | .inl t1 =>
 some (-1)
noncomputable def GY (s_0:List UInt8) (f_1:Int→Option Bool):Option (Bool) :=
 (KS s_0 f_1).bind fun r1 =>
 some (decide (0≤r1))
noncomputable def GZ (l_0:List UInt8) (right:Int→Option Bool):Option (Bool) :=
 (GY l_0 (fun x0_=>CF x0_ right)).bind fun r5 =>
 some (!r5)
noncomputable def xA (b_0:Int):Option (Bool) :=
 ((
  if (33:Int)≤b_0 then (
   some (decide (b_0≤126)))
  else
  some false
 ):Option (Bool)).bind fun t4 =>
 some t4
noncomputable def wN (s_0:aD):Option (Bool) :=
 ((
  (AR (s_0.length:Int) 1 32).bind fun r1 =>
  if r1 then (
   cE (s_0.length≤1073741824) <|
   (GZ s_0 (xA)).bind fun r2 =>
   some r2)
  else
  some false
 ):Option (Bool)).bind fun t1 =>
 some t1
noncomputable def FC (n_0:Int):Option (Bool) :=
 (AR n_0 0 999999999).bind fun r1 =>
 some r1
noncomputable def xB (n_0:bW):Option (Bool) :=
 ((
  (wN n_0.text).bind fun r1 =>
  if r1 then (
   (FC n_0.value).bind fun r2 =>
   some r2)
  else
  some false
 ):Option (Bool)).bind fun t1 =>
 some t1
noncomputable def CH (x_0:aD) (f0_:aD→Option Bool):Option (Bool) :=
 (f0_ x_0).bind fun r1 =>
 some (!r1)
noncomputable def CI (s_0:List aD) (f_1:aD→Option Bool) (s0:Nat):Option ((Nat)⊕((Unit)⊕Int)) :=
 if (s0:Int) < (s_0.length:Int) then (
  (s_0[s0]?).bind fun x0 =>
  (f_1 x0).bind fun r1 =>
  if r1 then (
   some (.inr (.inr (s0:Int))))
  else
  some (.inl (s0+1)))
 else
 some (.inr (.inl ()))
noncomputable def KT (s_0:List aD) (f_1:aD→Option Bool):Option (Int) :=
 (aO (CI s_0 f_1) 0).bind fun eV=>match eV with
 | .inr z=>some z
 | .inl t1 =>
 some (-1)
noncomputable def HA (s_0:List aD) (f_1:aD→Option Bool):Option (Bool) :=
 (KT s_0 f_1).bind fun r1 =>
 some (decide (0≤r1))
noncomputable def xC (l_0:List aD) (right:aD→Option Bool):Option (Bool) :=
 (HA l_0 (fun x0_=>CH x0_ right)).bind fun r5 =>
 some (!r5)
noncomputable def xD (l_0:List aD):Option (Bool) :=
 ((
  (AR (l_0.length:Int) 1 5).bind fun r1 =>
  if r1 then (
   (xC l_0 (wN)).bind fun r2 =>
   some r2)
  else
  some false
 ):Option (Bool)).bind fun t1 =>
 some t1
noncomputable def CJ (x_0:bW) (f0_:bW→Option Bool):Option (Bool) :=
 (f0_ x_0).bind fun r4 =>
 some (!r4)
noncomputable def CK (s_0:List bW) (f_1:bW→Option Bool) (s0:Nat):Option ((Nat)⊕((Unit)⊕Int)) :=
 if (s0:Int) < (s_0.length:Int) then (
  (s_0[s0]?).bind fun x0 =>
  (f_1 x0).bind fun r1 =>
  if r1 then (
   some (.inr (.inr (s0:Int))))
  else
  some (.inl (s0+1)))
 else
 some (.inr (.inl ()))
noncomputable def KU (s_0:List bW) (f_1:bW→Option Bool):Option (Int) :=
 (aO (CK s_0 f_1) 0).bind fun eV=>match eV with
 | .inr z=>some z
 | .inl t1 =>
 some (-1)
noncomputable def KV (s_0:List bW) (f_1:bW→Option Bool):Option (Bool) :=
 (KU s_0 f_1).bind fun r1 =>
 some (decide (0≤r1))
noncomputable def HB (l_0:List bW) (right:bW→Option Bool):Option (Bool) :=
 (KV l_0 (fun x0_=>CJ x0_ right)).bind fun r5 =>
 some (!r5)
noncomputable def CL (x_0:List aD) (f0_:(List aD)→Option Bool):Option (Bool) :=
 (f0_ x_0).bind fun r1 =>
 some (!r1)
noncomputable def CM (s_0:List (List aD)) (f_1:(List aD)→Option Bool) (s0:Nat):Option ((Nat)⊕((Unit)⊕Int)) :=
 if (s0:Int) < (s_0.length:Int) then (
  (s_0[s0]?).bind fun x0 =>
  (f_1 x0).bind fun r1 =>
  if r1 then (
   some (.inr (.inr (s0:Int))))
  else
  some (.inl (s0+1)))
 else
 some (.inr (.inl ()))
noncomputable def KW (s_0:List (List aD)) (f_1:(List aD)→Option Bool):Option (Int) :=
 (aO (CM s_0 f_1) 0).bind fun e23=>match e23 with
 | .inr z=>some z
 | .inl t1 =>
 some (-1)
noncomputable def KX (s_0:List (List aD)) (f_1:(List aD)→Option Bool):Option (Bool) :=
 (KW s_0 f_1).bind fun r1 =>
 some (decide (0≤r1))
noncomputable def HD (l_0:List (List aD)) (right:(List aD)→Option Bool):Option (Bool) :=
 (KX l_0 (fun x0_=>CL x0_ right)).bind fun r5 =>
 some (!r5)
noncomputable def CN (f0_:aP) (yield:aD→bB→Option Bool) (s0:Nat):Option ((Nat)⊕((Unit)⊕Unit)) :=
 if (s0:Int) < (f0_.numbers.length:Int) then (
  (f0_.numbers[s0]?).bind fun x0 =>
  (yield x0.text (⟨1,x0.value⟩:bB)).bind fun r1 =>
  if r1 then (
   some (.inl (s0+1)))
  else
  some (.inr (.inr ())))
 else
 some (.inr (.inl ()))
noncomputable def CO (x0:List aD) (yield:aD→bB→Option Bool) (s1:Nat) (s0:Nat):Option ((Nat)⊕((Unit)⊕((Nat)⊕((Unit)⊕Unit)))) :=
 if (s0:Int) < (x0.length:Int) then (
  (x0[s0]?).bind fun x1 =>
  (yield x1 (⟨2,(s1:Int)⟩:bB)).bind fun r1 =>
  if r1 then (
   some (.inl (s0+1)))
  else
  some (.inr (.inr (.inr (.inr ())))))
 else
 some (.inr (.inl ()))
noncomputable def CP (f0_:aP) (yield:aD→bB→Option Bool) (s0:Nat):Option ((Nat)⊕((Unit)⊕Unit)) :=
 if (s0:Int) < (f0_.names.length:Int) then (
  (f0_.names[s0]?).bind fun x0 =>
  (aO (CO x0 yield s0) 0).bind fun eV=>match eV with
  | .inr z=>some z
  | .inl t1 =>
  some (.inl (s0+1)))
 else
 some (.inr (.inl ()))
noncomputable def CQ (f0_:aP) (yield:aD→bB→Option Bool) (s0:Nat):Option ((Nat)⊕((Unit)⊕Unit)) :=
 if (s0:Int) < (f0_.nots.length:Int) then (
  (f0_.nots[s0]?).bind fun x0 =>
  (yield x0 (⟨3,0⟩:bB)).bind fun r1 =>
  if r1 then (
   some (.inl (s0+1)))
  else
  some (.inr (.inr ())))
 else
 some (.inr (.inl ()))
noncomputable def OZ (yield:aD→bB→Option Bool) (f0_:aP):Option (Unit) :=
 (aO (CN f0_ yield) 0).bind fun eV=>match eV with
 | .inr z=>some z
 | .inl t1 =>
 (aO (CP f0_ yield) 0).bind fun eA1=>match eA1 with
 | .inr z=>some z
 | .inl t2 =>
 (aO (CQ f0_ yield) 0).bind fun eB1=>match eB1 with
 | .inr z=>some z
 | .inl t3 =>
 some ()
noncomputable def qB (l_0:aP) (s0:Nat×(List (aD×bB))):Option ((Nat×(List (aD×bB)))⊕(((List (aD×bB)))⊕((Nat×(List (aD×bB)))⊕((List (aD×bB)))))) :=
 if (s0.1:Int) < (l_0.numbers.length:Int) then (
  (l_0.numbers[s0.1]?).bind fun x0 =>
  ((
   if (gI s0.2 x0.text).isSome then (
    some (.inl 6))
   else
   some (.inr (put s0.2 x0.text (⟨1,x0.value⟩:bB)))
  ):Option ((Nat)⊕((List (aD×bB))))).bind fun t1=>match t1 with
  | .inl t2=>(
   some (.inr (.inr (.inl (t2,s0.2)))))
  | .inr t3=>(
   some (.inl ((s0.1+1),t3))))
 else
 some (.inr (.inl s0.2))
noncomputable def qC (x0:List aD) (s1:Nat×(List (aD×bB))) (s0:Nat×(List (aD×bB))):Option ((Nat×(List (aD×bB)))⊕(((List (aD×bB)))⊕((Nat×(List (aD×bB)))⊕(((List (aD×bB)))⊕((Nat×(List (aD×bB)))⊕((List (aD×bB)))))))) :=
 if (s0.1:Int) < (x0.length:Int) then (
  (x0[s0.1]?).bind fun x1 =>
  ((
   if (gI s0.2 x1).isSome then (
    some (.inl 6))
   else
   some (.inr (put s0.2 x1 (⟨2,(s1.1:Int)⟩:bB)))
  ):Option ((Nat)⊕((List (aD×bB))))).bind fun t1=>match t1 with
  | .inl t2=>(
   some (.inr (.inr (.inr (.inr (.inl (t2,s0.2)))))))
  | .inr t3=>(
   some (.inl ((s0.1+1),t3))))
 else
 some (.inr (.inl s0.2))
noncomputable def lH (l_0:aP) (s0:Nat×(List (aD×bB))):Option ((Nat×(List (aD×bB)))⊕(((List (aD×bB)))⊕((Nat×(List (aD×bB)))⊕((List (aD×bB)))))) :=
 if (s0.1:Int) < (l_0.names.length:Int) then (
  (l_0.names[s0.1]?).bind fun x0 =>
  (aO (qC x0 s0) (0,s0.2)).bind fun eV=>match eV with
  | .inr z=>some z
  | .inl t1 =>
  some (.inl ((s0.1+1),t1)))
 else
 some (.inr (.inl s0.2))
noncomputable def qD (l_0:aP) (s0:Nat×(List (aD×bB))):Option ((Nat×(List (aD×bB)))⊕(((List (aD×bB)))⊕((Nat×(List (aD×bB)))⊕((List (aD×bB)))))) :=
 if (s0.1:Int) < (l_0.nots.length:Int) then (
  (l_0.nots[s0.1]?).bind fun x0 =>
  ((
   if (gI s0.2 x0).isSome then (
    some (.inl 6))
   else
   some (.inr (put s0.2 x0 (⟨3,0⟩:bB)))
  ):Option ((Nat)⊕((List (aD×bB))))).bind fun t1=>match t1 with
  | .inl t2=>(
   some (.inr (.inr (.inl (t2,s0.2)))))
  | .inr t3=>(
   some (.inl ((s0.1+1),t3))))
 else
 some (.inr (.inl s0.2))
noncomputable def PA (l_0:aP):Option ((List (aD×bB))×Int) :=
 ((
  if (l_0.numbers.length:Int)≤40 then (
   if (l_0.names.length:Int)≤40 then (
    some (decide ((l_0.nots.length:Int)≤40)))
   else
   some false)
  else
  some false
 ):Option (Bool)).bind fun t1 =>
 ((
  if t1 then (
   (HB l_0.numbers (xB)).bind fun r1 =>
   if r1 then (
    (HD l_0.names (xD)).bind fun r2 =>
    if r2 then (
     (xC l_0.nots (wN)).bind fun r3 =>
     some (!r3))
    else
    some true)
   else
   some true)
  else
  some true
 ):Option (Bool)).bind fun t2 =>
 if t2 then (
  some ([],1))
 else
 ((
  (aO (qB l_0) (0,([]:List (aD×bB)))).bind fun eV=>match eV with
  | .inr z=>some z
  | .inl t3 =>
  (aO (lH l_0) (0,t3)).bind fun eA1=>match eA1 with
  | .inr z=>some z
  | .inl t4 =>
  (aO (qD l_0) (0,t4)).bind fun eB1=>match eB1 with
  | .inr z=>some z
  | .inl t5 =>
  some (.inr t5)
 ):Option ((Nat×(List (aD×bB)))⊕((List (aD×bB))))).bind fun t6=>match t6 with
 | .inl t7=>(
  some ([],(t7.1:Int)))
 | .inr t8=>(
  some (t8,0))
noncomputable def IJ (s_0:bH):Option (Bool) :=
 ((
  if s_0.kind=1 then (
   (FC s_0.bJ).bind fun r1 =>
   if r1 then (
    (FC s_0.bY).bind fun r2 =>
    some r2)
   else
   some false)
  else
  if s_0.kind=2 then (
   (FC s_0.bJ).bind fun r3 =>
   if r3 then (
    (FC s_0.bY).bind fun r4 =>
    some r4)
   else
   some false)
  else
  some false
 ):Option (Bool)).bind fun t1 =>
 some t1
noncomputable def CR (x_0:bH) (f0_:bH→Option Bool):Option (Bool) :=
 (f0_ x_0).bind fun r4 =>
 some (!r4)
noncomputable def CS (s_0:List bH) (f_1:bH→Option Bool) (s0:Nat):Option ((Nat)⊕((Unit)⊕Int)) :=
 if (s0:Int) < (s_0.length:Int) then (
  (s_0[s0]?).bind fun x0 =>
  (f_1 x0).bind fun r1 =>
  if r1 then (
   some (.inr (.inr (s0:Int))))
  else
  some (.inl (s0+1)))
 else
 some (.inr (.inl ()))
noncomputable def KY (s_0:List bH) (f_1:bH→Option Bool):Option (Int) :=
 (aO (CS s_0 f_1) 0).bind fun eV=>match eV with
 | .inr z=>some z
 | .inl t1 =>
 some (-1)
noncomputable def KZ (s_0:List bH) (f_1:bH→Option Bool):Option (Bool) :=
 (KY s_0 f_1).bind fun r1 =>
 some (decide (0≤r1))
noncomputable def PB (l_0:List bH) (right:bH→Option Bool):Option (Bool) :=
 (KZ l_0 (fun x0_=>CR x0_ right)).bind fun r5 =>
 some (!r5)
noncomputable def MN (l_0:aP) (aT:List bH):Option (rules×Int) :=
 (PA l_0).bind fun r1 =>
 if r1.2≠0 then (
  some ((⟨[],([]:List bH)⟩:rules),r1.2))
 else
 if 20 < (aT.length:Int) then (
  some ((⟨[],([]:List bH)⟩:rules),3))
 else
 (PB aT (IJ)).bind fun r2 =>
 if r2 then (
  some ((⟨r1.1,aT⟩:rules),0))
 else
 some ((⟨[],([]:List bH)⟩:rules),1)
noncomputable def LA (w_0:cN):Option (Bool) :=
 ((
  (wN w_0.text).bind fun r1 =>
  if r1 then (
   (AR w_0.speaker 0 999).bind fun r2 =>
   some r2)
  else
  some false
 ):Option (Bool)).bind fun t1 =>
 some t1
noncomputable def CT (x_0:cN) (f0_:cN→Option Bool):Option (Bool) :=
 (f0_ x_0).bind fun r4 =>
 some (!r4)
noncomputable def CU (s_0:List cN) (f_1:cN→Option Bool) (s0:Nat):Option ((Nat)⊕((Unit)⊕Int)) :=
 if (s0:Int) < (s_0.length:Int) then (
  (s_0[s0]?).bind fun x0 =>
  (f_1 x0).bind fun r1 =>
  if r1 then (
   some (.inr (.inr (s0:Int))))
  else
  some (.inl (s0+1)))
 else
 some (.inr (.inl ()))
noncomputable def LB (s_0:List cN) (f_1:cN→Option Bool):Option (Int) :=
 (aO (CU s_0 f_1) 0).bind fun eV=>match eV with
 | .inr z=>some z
 | .inl t1 =>
 some (-1)
noncomputable def CV (s_0:List cN) (f_1:cN→Option Bool):Option (Bool) :=
 (LB s_0 f_1).bind fun r1 =>
 some (decide (0≤r1))
noncomputable def PC (l_0:List cN) (right:cN→Option Bool):Option (Bool) :=
 (CV l_0 (fun x0_=>CT x0_ right)).bind fun r5 =>
 some (!r5)
noncomputable def MO (r_0:aR):Option (Int) :=
 ((
  if 80 < (r_0.words.length:Int) then (
   some true)
  else
  (PC r_0.words (LA)).bind fun r1 =>
  if r1 then (
   (AR r_0.out 0 100000).bind fun r2 =>
   if r2 then (
    (AR r_0.within 0 100000).bind fun r3 =>
    some (!r3))
   else
   some true)
  else
  some true
 ):Option (Bool)).bind fun t1 =>
 if t1 then (
  some 1)
 else
 some 0
noncomputable def PD (x_0:Int):Option (Bool) :=
 some (decide (x_0≠x_0))
noncomputable def MP (x_0:Int) (y_1:Int):Option (Int) :=
 (PD x_0).bind fun r1 =>
 (PD y_1).bind fun r4 =>
 if r1 then (
  if r4 then (
   some 0)
  else
  some (-1))
 else
 if r4 then (
  some 1)
 else
 if x_0 < y_1 then (
  some (-1))
 else
 if y_1 < x_0 then (
  some 1)
 else
 some 0
noncomputable def vL (vals:List Int) (s0:Nat):Option ((Nat)⊕((Unit)⊕Int)) :=
 if (s0:Int) < (vals.length:Int) then (
  (vals[s0]?).bind fun x0 =>
  if x0≠0 then (
   some (.inr (.inr x0)))
  else
  some (.inl (s0+1)))
 else
 some (.inr (.inl ()))
noncomputable def PE (vals:List Int):Option (Int) :=
 (aO (vL vals) 0).bind fun eV=>match eV with
 | .inr z=>some z
 | .inl t1 =>
 some 0
noncomputable def MQ (l_0:List Int):Option (Int) :=
 (PE l_0).bind fun r1 =>
 some r1
noncomputable def IK (a_0:Int) (b_1:Int) (f0_:List aB):Option (Int) :=
 cE (0≤a_0) <|
 (f0_[a_0.toNat]?).bind fun x3 =>
 cE (0≤b_1) <|
 (f0_[b_1.toNat]?).bind fun x0 =>
 (MP x3.minute x0.minute).bind fun r1 =>
 (MP x3.by_ x0.by_).bind fun r2 =>
 (MQ ([r1,r2]:List Int)).bind fun r3 =>
 some r3
noncomputable def PF (d_0:cK) (q_1:aB):Option (Bool) :=
 ((
  if 0≤q_1.aH then (
   if 0≤q_1.cut then (
    cE (-9223372036854775808≤((d_0.report.words.length:Int) - q_1.cut)∧((d_0.report.words.length:Int) - q_1.cut)≤9223372036854775807) <|
    some (decide (q_1.aH≤((d_0.report.words.length:Int) - q_1.cut))))
   else
   some false)
  else
  some false
 ):Option (Bool)).bind fun t1 =>
 some t1
noncomputable def PG (d_0:cK) (q_1:aB):Option (Bool) :=
 ((
  if q_1.cut≤8 then (
   if (q_1.bK.length:Int)≤8 then (
    (xC q_1.bK (wN)).bind fun r1 =>
    if r1 then (
     cE (-9223372036854775808≤(q_1.cut+(q_1.bK.length:Int))∧(q_1.cut+(q_1.bK.length:Int))≤9223372036854775807) <|
     if 0 < (q_1.cut+(q_1.bK.length:Int)) then (
      (AR q_1.by_ 0 999).bind fun r2 =>
      some r2)
     else
     some false)
    else
    some false)
   else
   some false)
  else
  some false
 ):Option (Bool)).bind fun t1 =>
 some t1
noncomputable def tY (w_0:cN) (f0_:aB):Option (Bool) :=
 some (decide (w_0.speaker=f0_.by_))
noncomputable def AS (q_0:aB):Option (Int) :=
 cE (-9223372036854775808≤(q_0.aH+q_0.cut)∧(q_0.aH+q_0.cut)≤9223372036854775807) <|
 some (q_0.aH+q_0.cut)
noncomputable def PH (d_0:cK) (q_1:aB):Option (Bool) :=
 if 0 < q_1.cut then (
  (AS q_1).bind fun r1 =>
  cE (0≤q_1.aH) <|
  cE (0≤r1) <|
  cE (q_1.aH.toNat≤r1.toNat∧r1.toNat≤d_0.report.words.length) <|
  (PC ((d_0.report.words.drop q_1.aH.toNat).take (r1.toNat - q_1.aH.toNat)) (fun x0_=>tY x0_ q_1)).bind fun r2 =>
  some r2)
 else
 cE (-9223372036854775808≤(q_1.aH - 1)∧(q_1.aH - 1)≤9223372036854775807) <|
 cE (-9223372036854775808≤(q_1.aH+1)∧(q_1.aH+1)≤9223372036854775807) <|
 cE (0≤(min (d_0.report.words.length:Int) (q_1.aH+1))) <|
 cE ((max 0 (q_1.aH - 1)).toNat≤(min (d_0.report.words.length:Int) (q_1.aH+1)).toNat∧(min (d_0.report.words.length:Int) (q_1.aH+1)).toNat≤d_0.report.words.length) <|
 (CV ((d_0.report.words.drop ((max 0 (q_1.aH - 1)).toNat)).take ((min (d_0.report.words.length:Int) (q_1.aH+1)).toNat - ((max 0 (q_1.aH - 1)).toNat))) (fun x0_=>tY x0_ q_1)).bind fun r3 =>
 some r3
noncomputable def PI (d_0:cK) (q_1:aB):Option (Bool) :=
 cE (-9223372036854775808≤(d_0.report.out+d_0.report.within)∧(d_0.report.out+d_0.report.within)≤9223372036854775807) <|
 (AR q_1.minute d_0.report.out (d_0.report.out+d_0.report.within)).bind fun r1 =>
 some r1
noncomputable def sA (r_0:aR) (from_1:Int) (to_2:Int) (s0:Nat×List aD):Option ((Nat×List aD)⊕(List aD)) :=
 if (s0.1:Int) < (((r_0.words.drop from_1.toNat).take (to_2.toNat - from_1.toNat)).length:Int) then (
  (((r_0.words.drop from_1.toNat).take (to_2.toNat - from_1.toNat))[s0.1]?).bind fun x0 =>
  cE (s0.2.length+1≤1073741824) <|
  some (.inl ((s0.1+1),(s0.2++[x0.text]))))
 else
 some (.inr s0.2)
noncomputable def HE (r_0:aR) (from_1:Int) (to_2:Int):Option (List aD) :=
 cE (0≤from_1) <|
 cE (0≤to_2) <|
 cE (from_1.toNat≤to_2.toNat∧to_2.toNat≤r_0.words.length) <|
 (aO (sA r_0 from_1 to_2) (0,([]:List aD))).bind fun eV =>
 some eV
noncomputable def CW (m_0:List (aD×bB)) (s_1:aD):Option (bB×Bool) :=
 if (gI m_0 s_1).isSome then (
  some (((gI m_0 s_1).getD (⟨0,0⟩:bB)),true))
 else
 (GW s_1).bind fun r1 =>
 ((
  if r1.2 then (
   some true)
  else
  (FC r1.1).bind fun r2 =>
  if r2 then (
   (wY r1.1).bind fun r3 =>
   some (decide (r3≠s_1)))
  else
  some true
 ):Option (Bool)).bind fun t1 =>
 if t1 then (
  some ((⟨0,0⟩:bB),false))
 else
 some ((⟨1,r1.1⟩:bB),true)
noncomputable def qE (texts:List aD) (m_0:List (aD×bB)) (s0:Nat×List bB):Option ((Nat×List bB)⊕(List bB)) :=
 if (s0.1:Int) < (texts.length:Int) then (
  (texts[s0.1]?).bind fun x0 =>
  (CW m_0 x0).bind fun r1 =>
  ((
   if r1.2 then (
    cE (s0.2.length+1≤1073741824) <|
    some (s0.2++[r1.1]))
   else
   some s0.2
  ):Option (List bB)).bind fun t1 =>
  some (.inl ((s0.1+1),t1)))
 else
 some (.inr s0.2)
noncomputable def zP (m_0:List (aD×bB)) (texts:List aD):Option (List bB) :=
 (aO (qE texts m_0) (0,([]:List bB))).bind fun eV =>
 some eV
noncomputable def CX (s_0:List bH) (v_1:bH) (s0:Nat):Option ((Nat)⊕((Unit)⊕Int)) :=
 if (s0:Int) < (s_0.length:Int) then (
  (s_0[s0]?).bind fun x0 =>
  if v_1=x0 then (
   some (.inr (.inr (s0:Int))))
  else
  some (.inl (s0+1)))
 else
 some (.inr (.inl ()))
noncomputable def LC (s_0:List bH) (v_1:bH):Option (Int) :=
 (aO (CX s_0 v_1) 0).bind fun eV=>match eV with
 | .inr z=>some z
 | .inl t1 =>
 some (-1)
noncomputable def HF (s_0:List bH) (v_1:bH):Option (Bool) :=
 (LC s_0 v_1).bind fun r4 =>
 some (decide (0≤r4))
noncomputable def vM (r_0:rules) (a_1:bB) (b_2:bB):Option (Bool) :=
 ((
  if a_1=b_2 then (
   some true)
  else
  if a_1.kind=b_2.kind then (
   (HF r_0.aT (⟨a_1.kind,a_1.value,b_2.value⟩:bH)).bind fun r1 =>
   some r1)
  else
  some false
 ):Option (Bool)).bind fun t1 =>
 some t1
noncomputable def CY (s1:List bB) (s2:List bB) (eq:bB→bB→Option Bool) (s0:Nat):Option ((Nat)⊕((Unit)⊕Bool)) :=
 if (s0:Int) < (s1.length:Int) then (
  (s1[s0]?).bind fun x0 =>
  (s2[s0]?).bind fun x1 =>
  (eq x0 x1).bind fun r1 =>
  if r1 then (
   some (.inl (s0+1)))
  else
  some (.inr (.inr false)))
 else
 some (.inr (.inl ()))
noncomputable def HG (s1:List bB) (s2:List bB) (eq:bB→bB→Option Bool):Option (Bool) :=
 if (s1.length:Int)≠(s2.length:Int) then (
  some false)
 else
 (aO (CY s1 s2 eq) 0).bind fun e37=>match e37 with
 | .inr z=>some z
 | .inl t1 =>
 some true
noncomputable def CZ (r_0:rules) (a_1:List bB) (b_2:List bB):Option (Bool) :=
 (HG a_1 b_2 (vM r_0)).bind fun r1 =>
 some r1
noncomputable def PJ (d_0:cK) (q_1:aB):Option (Bool) :=
 (AS q_1).bind fun r1 =>
 (HE d_0.report q_1.aH r1).bind fun r2 =>
 (zP d_0.rules.fT r2).bind fun r3 =>
 (zP d_0.rules.fT q_1.bK).bind fun r4 =>
 (CZ d_0.rules r3 r4).bind fun r5 =>
 some r5
noncomputable def gO:Nat→aB→aB→Option (Bool)
 | 0,_,_=>none
 | n_+1,q_0,o_1 =>
 ((
  if q_0.cut=0 then (
   some (decide (o_1.cut=0)))
  else
  some false
 ):Option (Bool)).bind fun t1 =>
 if t1 then (
  some (decide (q_0.aH=o_1.aH)))
 else
 if q_0.cut=0 then (
  ((
   if o_1.aH < q_0.aH then (
    (AS o_1).bind fun r1 =>
    some (decide (q_0.aH < r1)))
   else
   some false
  ):Option (Bool)).bind fun t2 =>
  some t2)
 else
 if o_1.cut=0 then (
  (gO n_ o_1 q_0).bind fun r2 =>
  some r2)
 else
 ((
  (AS o_1).bind fun r3 =>
  if q_0.aH < r3 then (
   (AS q_0).bind fun r4 =>
   some (decide (o_1.aH < r4)))
  else
  some false
 ):Option (Bool)).bind fun t3 =>
 some t3
noncomputable def zQ (q_0:aB) (o_1:aB):Option (Bool):=zJ (fun n_=>gO n_ q_0 o_1)
noncomputable def DA (s_0:List aB) (f_1:aB→Option Bool) (s0:Nat):Option ((Nat)⊕((Unit)⊕Int)) :=
 if (s0:Int) < (s_0.length:Int) then (
  (s_0[s0]?).bind fun x0 =>
  (f_1 x0).bind fun r1 =>
  if r1 then (
   some (.inr (.inr (s0:Int))))
  else
  some (.inl (s0+1)))
 else
 some (.inr (.inl ()))
noncomputable def LD (s_0:List aB) (f_1:aB→Option Bool):Option (Int) :=
 (aO (DA s_0 f_1) 0).bind fun e23=>match e23 with
 | .inr z=>some z
 | .inl t1 =>
 some (-1)
noncomputable def HH (s_0:List aB) (f_1:aB→Option Bool):Option (Bool) :=
 (LD s_0 f_1).bind fun r1 =>
 some (decide (0≤r1))
noncomputable def PK (d_0:cK) (q_1:aB):Option (Bool) :=
 (HH d_0.gH (zQ q_1)).bind fun r1 =>
 some (!r1)
noncomputable def MR (d_0:cK) (q_1:aB):Option (Int) :=
 (PF d_0 q_1).bind fun r1 =>
 if r1 then (
  (PG d_0 q_1).bind fun r2 =>
  if r2 then (
   (PH d_0 q_1).bind fun r3 =>
   if r3 then (
    (PI d_0 q_1).bind fun r4 =>
    if r4 then (
     (PJ d_0 q_1).bind fun r5 =>
     if r5 then (
      (PK d_0 q_1).bind fun r6 =>
      if r6 then (
       some 0)
      else
      some 6)
     else
     some 9)
    else
    some 11)
   else
   some 5)
  else
  some 1)
 else
 some 2
noncomputable def kH (requests:List aB) (s0:Nat×List Int):Option ((Nat×List Int)⊕(List Int)) :=
 if (s0.1:Int) < (requests.length:Int) then (
  cE (s0.2.length+1≤1073741824) <|
  some (.inl ((s0.1+1),(s0.2++[(s0.1:Int)]))))
 else
 some (.inr s0.2)
noncomputable def DB (s1:Nat×Nat×List Int) (requests:List aB) (s0:Int×List Int):Option ((Int×List Int)⊕(List Int)) :=
 ((
  if (s1.1:Int) < s0.1 then (
   cE (0≤s0.1) <|
   (s0.2[s0.1.toNat]?).bind fun x1 =>
   cE (-9223372036854775808≤(s0.1 - 1)∧(s0.1 - 1)≤9223372036854775807) <|
   cE (0≤(s0.1 - 1)) <|
   (s0.2[(s0.1 - 1).toNat]?).bind fun x2 =>
   (IK x1 x2 requests).bind fun r1 =>
   some (decide (r1 < 0)))
  else
  some false
 ):Option (Bool)).bind fun t1 =>
 if t1 then (
  cE (-9223372036854775808≤(s0.1 - 1)∧(s0.1 - 1)≤9223372036854775807) <|
  cE (0≤(s0.1 - 1)) <|
  (s0.2[(s0.1 - 1).toNat]?).bind fun x0 =>
  cE (0≤s0.1) <|
  (s0.2[s0.1.toNat]?).bind fun x3 =>
  ((s0.2.set s0.1.toNat x0)[(s0.1 - 1).toNat]?).bind fun x4 =>
  some (.inl ((s0.1 - 1),((s0.2.set s0.1.toNat x0).set ((s0.1 - 1).toNat) x3))))
 else
 some (.inr s0.2)
noncomputable def vN (s1:Nat×Nat×List Int) (requests:List aB) (s0:Nat×List Int):Option ((Nat×List Int)⊕(List Int)) :=
 if (s0.1:Int) < (s1.2.1:Int) then (
  (aO (DB s1 requests) ((s0.1:Int),s0.2)).bind fun eV =>
  cE (-9223372036854775808≤((s0.1:Int)+1)∧((s0.1:Int)+1)≤9223372036854775807) <|
  some (.inl ((s0.1+1),eV)))
 else
 some (.inr s0.2)
noncomputable def mL (eV:List Int) (requests:List aB) (s0:Nat×Nat×List Int):Option ((Nat×Nat×List Int)⊕(Nat×List Int)) :=
 if (s0.2.1:Int)≤(eV.length:Int) then (
  ((
   cE (-9223372036854775808≤((s0.1:Int)+1)∧((s0.1:Int)+1)≤9223372036854775807) <|
   (aO (vN s0 requests) ((s0.1+1),s0.2.2)).bind fun eA1 =>
   some eA1
  ):Option (List Int)).bind fun t1 =>
  cE (-9223372036854775808≤((s0.2.1:Int)+20)∧((s0.2.1:Int)+20)≤9223372036854775807) <|
  some (.inl (s0.2.1,(s0.2.1+20),t1)))
 else
 some (.inr (s0.1,s0.2.2))
noncomputable def lI (eV:Nat×List Int) (requests:List aB) (s0:Int×List Int):Option ((Int×List Int)⊕(List Int)) :=
 ((
  if (eV.1:Int) < s0.1 then (
   cE (0≤s0.1) <|
   (s0.2[s0.1.toNat]?).bind fun x1 =>
   cE (-9223372036854775808≤(s0.1 - 1)∧(s0.1 - 1)≤9223372036854775807) <|
   cE (0≤(s0.1 - 1)) <|
   (s0.2[(s0.1 - 1).toNat]?).bind fun x2 =>
   (IK x1 x2 requests).bind fun r1 =>
   some (decide (r1 < 0)))
  else
  some false
 ):Option (Bool)).bind fun t1 =>
 if t1 then (
  cE (-9223372036854775808≤(s0.1 - 1)∧(s0.1 - 1)≤9223372036854775807) <|
  cE (0≤(s0.1 - 1)) <|
  (s0.2[(s0.1 - 1).toNat]?).bind fun x0 =>
  cE (0≤s0.1) <|
  (s0.2[s0.1.toNat]?).bind fun x3 =>
  ((s0.2.set s0.1.toNat x0)[(s0.1 - 1).toNat]?).bind fun x4 =>
  some (.inl ((s0.1 - 1),((s0.2.set s0.1.toNat x0).set ((s0.1 - 1).toNat) x3))))
 else
 some (.inr s0.2)
noncomputable def kI (eV:List Int) (eA1:Nat×List Int) (requests:List aB) (s0:Nat×List Int):Option ((Nat×List Int)⊕(List Int)) :=
 if (s0.1:Int) < (eV.length:Int) then (
  (aO (lI eA1 requests) ((s0.1:Int),s0.2)).bind fun eB1 =>
  some (.inl ((s0.1+1),eB1)))
 else
 some (.inr s0.2)
noncomputable def IL (eV:List Int) (s1:Int) (s0:Nat×Int):Option ((Nat×Int)⊕(Nat)) :=
 if s0.2≤(eV.length:Int) then (
  cE (-9223372036854775808≤((s0.1:Int)+s1)∧((s0.1:Int)+s1)≤9223372036854775807) <|
  none)
 else
 some (.inr s0.1)
noncomputable def sB (eV:List Int) (s0:Int):Option ((Int)⊕(Unit)) :=
 if s0 < (eV.length:Int) then (
  cE (-9223372036854775808≤(2*s0)∧(2*s0)≤9223372036854775807) <|
  (aO (IL eV s0) (0,(2*s0))).bind fun eA1 =>
  cE (-9223372036854775808≤((eA1:Int)+s0)∧((eA1:Int)+s0)≤9223372036854775807) <|
  if ((eA1:Int)+s0) < (eV.length:Int) then (
   none)
  else
  cE (-9223372036854775808≤(s0*2)∧(s0*2)≤9223372036854775807) <|
  some (.inl (s0*2)))
 else
 some (.inr ())
noncomputable def sC (eV:List Int) (t2:List Int) (requests:List aB) (r_2:aR) (r2:rules×Int) (s0:Nat×List Int×List aB×List Int):Option ((Nat×List Int×List aB×List Int)⊕(List Int×List aB×List Int)) :=
 if (s0.1:Int) < (eV.length:Int) then (
  (t2[s0.1]?).bind fun x0 =>
  cE (0≤x0) <|
  (requests[x0.toNat]?).bind fun x1 =>
  (MR (⟨r_2,r2.1,s0.2.2.1,s0.2.1,s0.2.2.2⟩:cK) x1).bind fun r1 =>
  (s0.2.2.2[x0.toNat]?).bind fun x3 =>
  ((s0.2.2.2.set x0.toNat r1)[x0.toNat]?).bind fun x2 =>
  ((
   if x2=0 then (
    cE (s0.2.2.1.length+([x1]:List aB).length≤1073741824) <|
    cE (s0.2.1.length+([x0]:List Int).length≤1073741824) <|
    some ((s0.2.1++([x0]:List Int)),(s0.2.2.1++([x1]:List aB))))
   else
   some (s0.2.1,s0.2.2.1)
  ):Option (List Int×List aB)).bind fun t1 =>
  some (.inl ((s0.1+1),t1.1,t1.2,(s0.2.2.2.set x0.toNat r1))))
 else
 some (.inr (s0.2.1,s0.2.2.1,s0.2.2.2))
noncomputable def PL (l_0:aP) (aT:List bH) (r_2:aR) (requests:List aB):Option (List Int×Int) :=
 ((
  (MN l_0 aT).bind fun r1 =>
  if r1.2≠0 then (
   some (.inl r1.2))
  else
  (MO r_2).bind fun r2 =>
  if r2≠0 then (
   some (.inl r2))
  else
  if 20 < (requests.length:Int) then (
   some (.inl 3))
  else
  cE (requests.length≤1073741824) <|
  (aO (kH requests) (0,([]:List Int))).bind fun eV =>
  ((
   ((
    (aO (mL eV requests) (0,20,eV)).bind fun eA1 =>
    ((
     cE (-9223372036854775808≤((eA1.1:Int)+1)∧((eA1.1:Int)+1)≤9223372036854775807) <|
     (aO (kI eV eA1 requests) ((eA1.1+1),eA1.2)).bind fun eC1 =>
     some eC1
    ):Option (List Int)).bind fun t2 =>
    (aO (sB eV) 20).bind fun eD1 =>
    some t2
   ):Option (List Int)).bind fun t3 =>
   some t3
  ):Option (List Int)).bind fun t4 =>
  (aO (sC eV t4 requests r_2 r1) (0,([]:List Int),([]:List aB),(List.replicate requests.length (0:Int)))).bind fun eB1 =>
  some (.inr (eB1.1,eB1.2.1,r_2.words,r1.1.fT,r1.1.aT,eB1.2.2))
 ):Option ((Int)⊕(List Int×List aB×List cN×(List (aD×bB))×List bH×List Int))).bind fun t5=>match t5 with
 | .inl t1=>(
  if t1≠0 then (
   some (([]:List Int),t1))
  else
  none)
 | .inr t6=>(
  some (t6.2.2.2.2.2,0))
noncomputable def FD  : Option (Bool) :=
 (PL (⟨([]:List bW),([]:List (List aD)),([]:List aD)⟩:aP) ([]:List bH) (⟨([(⟨[97],4⟩:cN)]:List cN),0,0⟩:aR) ([(⟨4,0,0,1,([[98]]:List aD)⟩:aB)]:List aB)).bind fun r1 =>
 ((
  if r1.2=0 then (
   if (r1.1.length:Int)=1 then (
    (r1.1[0]?).bind fun x0 =>
    some (decide (x0=0)))
   else
   some false)
  else
  some false
 ):Option (Bool)).bind fun t1 =>
 some t1
noncomputable def LE (l_0:List aD):Option (List aD) :=
 cE (([]:List aD).length+l_0.length≤1073741824) <|
 some (([]:List aD)++l_0)
noncomputable def sD (l_0:aP) (s0:Nat×List bW):Option ((Nat×List bW)⊕(List bW)) :=
 if (s0.1:Int) < (l_0.numbers.length:Int) then (
  (l_0.numbers[s0.1]?).bind fun x0 =>
  cE (s0.2.length+([x0]:List bW).length≤1073741824) <|
  some (.inl ((s0.1+1),(s0.2++([x0]:List bW)))))
 else
 some (.inr s0.2)
noncomputable def sF (l_0:aP) (s0:Nat×List (List aD)):Option ((Nat×List (List aD))⊕(List (List aD))) :=
 if (s0.1:Int) < (l_0.names.length:Int) then (
  (l_0.names[s0.1]?).bind fun x0 =>
  (LE x0).bind fun r1 =>
  cE (s0.2.length+([r1]:List (List aD)).length≤1073741824) <|
  some (.inl ((s0.1+1),(s0.2++([r1]:List (List aD))))))
 else
 some (.inr s0.2)
noncomputable def PM (l_0:aP):Option (aP) :=
 (LE l_0.nots).bind fun r1 =>
 (aO (sD l_0) (0,([]:List bW))).bind fun eV =>
 (aO (sF l_0) (0,([]:List (List aD)))).bind fun eA1 =>
 some (⟨eV,eA1,r1⟩:aP)
noncomputable def sG (l_0:List bH) (s0:Nat×List bH):Option ((Nat×List bH)⊕(List bH)) :=
 if (s0.1:Int) < (l_0.length:Int) then (
  (l_0[s0.1]?).bind fun x0 =>
  cE (s0.2.length+([x0]:List bH).length≤1073741824) <|
  some (.inl ((s0.1+1),(s0.2++([x0]:List bH)))))
 else
 some (.inr s0.2)
noncomputable def PN (l_0:List bH):Option (List bH) :=
 (aO (sG l_0) (0,([]:List bH))).bind fun eV =>
 some eV
noncomputable def sH (r_0:aR) (s0:Nat×List cN):Option ((Nat×List cN)⊕(List cN)) :=
 if (s0.1:Int) < (r_0.words.length:Int) then (
  (r_0.words[s0.1]?).bind fun x0 =>
  cE (s0.2.length+([x0]:List cN).length≤1073741824) <|
  some (.inl ((s0.1+1),(s0.2++([x0]:List cN)))))
 else
 some (.inr s0.2)
noncomputable def PO (r_0:aR):Option (aR) :=
 (aO (sH r_0) (0,([]:List cN))).bind fun eV =>
 some (⟨eV,r_0.out,r_0.within⟩:aR)
noncomputable def sI (l_0:List aB) (s0:Nat×List aB):Option ((Nat×List aB)⊕(List aB)) :=
 if (s0.1:Int) < (l_0.length:Int) then (
  (l_0[s0.1]?).bind fun x0 =>
  (LE x0.bK).bind fun r1 =>
  cE (s0.2.length+([(⟨x0.by_,x0.minute,x0.aH,x0.cut,r1⟩:aB)]:List aB).length≤1073741824) <|
  some (.inl ((s0.1+1),(s0.2++([(⟨x0.by_,x0.minute,x0.aH,x0.cut,r1⟩:aB)]:List aB)))))
 else
 some (.inr s0.2)
noncomputable def m15 (l_0:List aB):Option (List aB) :=
 (aO (sI l_0) (0,([]:List aB))).bind fun eV =>
 some eV
noncomputable def PP (a_0:Int) (b_1:Int) (f0_:List aB):Option (Int) :=
 cE (0≤a_0) <|
 (f0_[a_0.toNat]?).bind fun x3 =>
 cE (0≤b_1) <|
 (f0_[b_1.toNat]?).bind fun x0 =>
 cE (-9223372036854775808≤(x3.aH - x0.aH)∧(x3.aH - x0.aH)≤9223372036854775807) <|
 cE (-9223372036854775808≤(x3.cut - x0.cut)∧(x3.cut - x0.cut)≤9223372036854775807) <|
 (MQ ([(x3.aH - x0.aH),(x3.cut - x0.cut)]:List Int)).bind fun r1 =>
 some r1
noncomputable def PQ (s_0:List aD):Option (List aD) :=
 cE (([]:List aD).length+s_0.length≤1073741824) <|
 some (([]:List aD)++s_0)
noncomputable def DD (requests:List aB) (s0:Nat×List Int):Option ((Nat×List Int)⊕(List Int)) :=
 if (s0.1:Int) < (requests.length:Int) then (
  cE (s0.2.length+1≤1073741824) <|
  some (.inl ((s0.1+1),(s0.2++[(s0.1:Int)]))))
 else
 some (.inr s0.2)
noncomputable def IM (s1:Nat×Nat×List Int) (requests:List aB) (s0:Int×List Int):Option ((Int×List Int)⊕(List Int)) :=
 ((
  if (s1.1:Int) < s0.1 then (
   cE (0≤s0.1) <|
   (s0.2[s0.1.toNat]?).bind fun x1 =>
   cE (-9223372036854775808≤(s0.1 - 1)∧(s0.1 - 1)≤9223372036854775807) <|
   cE (0≤(s0.1 - 1)) <|
   (s0.2[(s0.1 - 1).toNat]?).bind fun x2 =>
   (IK x1 x2 requests).bind fun r1 =>
   some (decide (r1 < 0)))
  else
  some false
 ):Option (Bool)).bind fun t1 =>
 if t1 then (
  cE (-9223372036854775808≤(s0.1 - 1)∧(s0.1 - 1)≤9223372036854775807) <|
  cE (0≤(s0.1 - 1)) <|
  (s0.2[(s0.1 - 1).toNat]?).bind fun x0 =>
  cE (0≤s0.1) <|
  (s0.2[s0.1.toNat]?).bind fun x3 =>
  ((s0.2.set s0.1.toNat x0)[(s0.1 - 1).toNat]?).bind fun x4 =>
  some (.inl ((s0.1 - 1),((s0.2.set s0.1.toNat x0).set ((s0.1 - 1).toNat) x3))))
 else
 some (.inr s0.2)
noncomputable def IN (s1:Nat×Nat×List Int) (requests:List aB) (s0:Nat×List Int):Option ((Nat×List Int)⊕(List Int)) :=
 if (s0.1:Int) < (s1.2.1:Int) then (
  (aO (IM s1 requests) ((s0.1:Int),s0.2)).bind fun eV =>
  cE (-9223372036854775808≤((s0.1:Int)+1)∧((s0.1:Int)+1)≤9223372036854775807) <|
  some (.inl ((s0.1+1),eV)))
 else
 some (.inr s0.2)
noncomputable def DE (eV:List Int) (requests:List aB) (s0:Nat×Nat×List Int):Option ((Nat×Nat×List Int)⊕(Nat×List Int)) :=
 if (s0.2.1:Int)≤(eV.length:Int) then (
  ((
   cE (-9223372036854775808≤((s0.1:Int)+1)∧((s0.1:Int)+1)≤9223372036854775807) <|
   (aO (IN s0 requests) ((s0.1+1),s0.2.2)).bind fun eA1 =>
   some eA1
  ):Option (List Int)).bind fun t1 =>
  cE (-9223372036854775808≤((s0.2.1:Int)+20)∧((s0.2.1:Int)+20)≤9223372036854775807) <|
  some (.inl (s0.2.1,(s0.2.1+20),t1)))
 else
 some (.inr (s0.1,s0.2.2))
noncomputable def IP (eV:Nat×List Int) (requests:List aB) (s0:Int×List Int):Option ((Int×List Int)⊕(List Int)) :=
 ((
  if (eV.1:Int) < s0.1 then (
   cE (0≤s0.1) <|
   (s0.2[s0.1.toNat]?).bind fun x1 =>
   cE (-9223372036854775808≤(s0.1 - 1)∧(s0.1 - 1)≤9223372036854775807) <|
   cE (0≤(s0.1 - 1)) <|
   (s0.2[(s0.1 - 1).toNat]?).bind fun x2 =>
   (IK x1 x2 requests).bind fun r1 =>
   some (decide (r1 < 0)))
  else
  some false
 ):Option (Bool)).bind fun t1 =>
 if t1 then (
  cE (-9223372036854775808≤(s0.1 - 1)∧(s0.1 - 1)≤9223372036854775807) <|
  cE (0≤(s0.1 - 1)) <|
  (s0.2[(s0.1 - 1).toNat]?).bind fun x0 =>
  cE (0≤s0.1) <|
  (s0.2[s0.1.toNat]?).bind fun x3 =>
  ((s0.2.set s0.1.toNat x0)[(s0.1 - 1).toNat]?).bind fun x4 =>
  some (.inl ((s0.1 - 1),((s0.2.set s0.1.toNat x0).set ((s0.1 - 1).toNat) x3))))
 else
 some (.inr s0.2)
noncomputable def DG (eV:List Int) (eA1:Nat×List Int) (requests:List aB) (s0:Nat×List Int):Option ((Nat×List Int)⊕(List Int)) :=
 if (s0.1:Int) < (eV.length:Int) then (
  (aO (IP eA1 requests) ((s0.1:Int),s0.2)).bind fun eB1 =>
  some (.inl ((s0.1+1),eB1)))
 else
 some (.inr s0.2)
noncomputable def IQ (eV:List Int) (s1:Int) (s0:Nat×Int):Option ((Nat×Int)⊕(Nat)) :=
 if s0.2≤(eV.length:Int) then (
  cE (-9223372036854775808≤((s0.1:Int)+s1)∧((s0.1:Int)+s1)≤9223372036854775807) <|
  none)
 else
 some (.inr s0.1)
noncomputable def DH (eV:List Int) (s0:Int):Option ((Int)⊕(Unit)) :=
 if s0 < (eV.length:Int) then (
  cE (-9223372036854775808≤(2*s0)∧(2*s0)≤9223372036854775807) <|
  (aO (IQ eV s0) (0,(2*s0))).bind fun eA1 =>
  cE (-9223372036854775808≤((eA1:Int)+s0)∧((eA1:Int)+s0)≤9223372036854775807) <|
  if ((eA1:Int)+s0) < (eV.length:Int) then (
   none)
  else
  cE (-9223372036854775808≤(s0*2)∧(s0*2)≤9223372036854775807) <|
  some (.inl (s0*2)))
 else
 some (.inr ())
noncomputable def DI (eV:List Int) (t2:List Int) (requests:List aB) (r_2:aR) (r2:rules×Int) (s0:Nat×List Int×List aB×List Int):Option ((Nat×List Int×List aB×List Int)⊕(List Int×List aB×List Int)) :=
 if (s0.1:Int) < (eV.length:Int) then (
  (t2[s0.1]?).bind fun x0 =>
  cE (0≤x0) <|
  (requests[x0.toNat]?).bind fun x1 =>
  (MR (⟨r_2,r2.1,s0.2.2.1,s0.2.1,s0.2.2.2⟩:cK) x1).bind fun r1 =>
  (s0.2.2.2[x0.toNat]?).bind fun x3 =>
  ((s0.2.2.2.set x0.toNat r1)[x0.toNat]?).bind fun x2 =>
  ((
   if x2=0 then (
    cE (s0.2.2.1.length+([x1]:List aB).length≤1073741824) <|
    cE (s0.2.1.length+([x0]:List Int).length≤1073741824) <|
    some ((s0.2.1++([x0]:List Int)),(s0.2.2.1++([x1]:List aB))))
   else
   some (s0.2.1,s0.2.2.1)
  ):Option (List Int×List aB)).bind fun t1 =>
  some (.inl ((s0.1+1),t1.1,t1.2,(s0.2.2.2.set x0.toNat r1))))
 else
 some (.inr (s0.2.1,s0.2.2.1,s0.2.2.2))
noncomputable def qF (t1:List Int×List aB×List cN×(List (aD×bB))×List bH×List Int) (l1:List Int) (requests:List aB) (r_2:aR) (s0:Nat×Int×List aN):Option ((Nat×Int×List aN)⊕(Int×List aN)) :=
 if (s0.1:Int) < (t1.1.length:Int) then (
  (l1[s0.1]?).bind fun x1 =>
  cE (0≤x1) <|
  (requests[x1.toNat]?).bind fun x0 =>
  ((
   ((
    if s0.2.1 < x0.aH then (
     (HE (⟨t1.2.2.1,r_2.out,r_2.within⟩:aR) s0.2.1 x0.aH).bind fun r1 =>
     cE (s0.2.2.length+([(⟨r1,r1,(-1)⟩:aN)]:List aN).length≤1073741824) <|
     some (s0.2.2++([(⟨r1,r1,(-1)⟩:aN)]:List aN)))
    else
    some s0.2.2
   ):Option (List aN)).bind fun t3 =>
   some t3
  ):Option (List aN)).bind fun t2 =>
  (AS x0).bind fun r2 =>
  (HE (⟨t1.2.2.1,r_2.out,r_2.within⟩:aR) x0.aH r2).bind fun r3 =>
  (PQ x0.bK).bind fun r4 =>
  cE (t2.length+([(⟨r3,r4,x1⟩:aN)]:List aN).length≤1073741824) <|
  some (.inl ((s0.1+1),r2,(t2++([(⟨r3,r4,x1⟩:aN)]:List aN)))))
 else
 some (.inr (s0.2.1,s0.2.2))
noncomputable def PR (l_0:aP) (aT:List bH) (r_2:aR) (requests:List aB):Option (List aN×Int) :=
 ((
  (MN l_0 aT).bind fun r1 =>
  if r1.2≠0 then (
   some (.inl r1.2))
  else
  (MO r_2).bind fun r3 =>
  if r3≠0 then (
   some (.inl r3))
  else
  if 20 < (requests.length:Int) then (
   some (.inl 3))
  else
  cE (requests.length≤1073741824) <|
  (aO (DD requests) (0,([]:List Int))).bind fun eV =>
  ((
   ((
    (aO (DE eV requests) (0,20,eV)).bind fun eA1 =>
    ((
     cE (-9223372036854775808≤((eA1.1:Int)+1)∧((eA1.1:Int)+1)≤9223372036854775807) <|
     (aO (DG eV eA1 requests) ((eA1.1+1),eA1.2)).bind fun eD1 =>
     some eD1
    ):Option (List Int)).bind fun t3 =>
    (aO (DH eV) 20).bind fun eE1 =>
    some t3
   ):Option (List Int)).bind fun t4 =>
   some t4
  ):Option (List Int)).bind fun t5 =>
  (aO (DI eV t5 requests r_2 r1) (0,([]:List Int),([]:List aB),(List.replicate requests.length (0:Int)))).bind fun eC1 =>
  some (.inr (eC1.1,eC1.2.1,r_2.words,r1.1.fT,r1.1.aT,eC1.2.2))
 ):Option ((Int)⊕(List Int×List aB×List cN×(List (aD×bB))×List bH×List Int))).bind fun t6=>match t6 with
 | .inl t2=>(
  if t2≠0 then (
   some (([]:List aN),t2))
  else
  none)
 | .inr t1=>(
  (oC (fun x0_ x1_=>PP x0_ x1_ requests) t1.1).bind fun l1 =>
  (aO (qF t1 l1 requests r_2) (0,0,([]:List aN))).bind fun eB1 =>
  ((
   ((
    if eB1.1 < (r_2.words.length:Int) then (
     (HE (⟨t1.2.2.1,r_2.out,r_2.within⟩:aR) eB1.1 (r_2.words.length:Int)).bind fun r2 =>
     cE (eB1.2.length+([(⟨r2,r2,(-1)⟩:aN)]:List aN).length≤1073741824) <|
     some (eB1.2++([(⟨r2,r2,(-1)⟩:aN)]:List aN)))
    else
    some eB1.2
   ):Option (List aN)).bind fun t7 =>
   some t7
  ):Option (List aN)).bind fun t8 =>
  some (t8,0))
noncomputable def rF (n_0:Int) (low:Int) (high:Int):Option (Bool) :=
 ((
  if low≤n_0 then (
   some (decide (n_0≤high)))
  else
  some false
 ):Option (Bool)).bind fun t4 =>
 some t4
noncomputable def DJ (x_0:Int) (f0_:Int→Option Bool):Option (Bool) :=
 (f0_ x_0).bind fun r1 =>
 some (!r1)
noncomputable def HI (l_0:List UInt8) (right:Int→Option Bool):Option (Bool) :=
 (GY l_0 (fun x0_=>DJ x0_ right)).bind fun r5 =>
 some (!r5)
noncomputable def zR (b_0:Int):Option (Bool) :=
 ((
  if (33:Int)≤b_0 then (
   some (decide (b_0≤126)))
  else
  some false
 ):Option (Bool)).bind fun t4 =>
 some t4
noncomputable def vO (s_0:aD):Option (Bool) :=
 ((
  (rF (s_0.length:Int) 1 32).bind fun r1 =>
  if r1 then (
   cE (s_0.length≤1073741824) <|
   (HI s_0 (zR)).bind fun r2 =>
   some r2)
  else
  some false
 ):Option (Bool)).bind fun t1 =>
 some t1
noncomputable def PS (x_0:cJ) (f0_:cJ→Option Bool):Option (Bool) :=
 (f0_ x_0).bind fun r4 =>
 some (!r4)
noncomputable def DK (s_0:List cJ) (f_1:cJ→Option Bool) (s0:Nat):Option ((Nat)⊕((Unit)⊕Int)) :=
 if (s0:Int) < (s_0.length:Int) then (
  (s_0[s0]?).bind fun x0 =>
  (f_1 x0).bind fun r1 =>
  if r1 then (
   some (.inr (.inr (s0:Int))))
  else
  some (.inl (s0+1)))
 else
 some (.inr (.inl ()))
noncomputable def PT (s_0:List cJ) (f_1:cJ→Option Bool):Option (Int) :=
 (aO (DK s_0 f_1) 0).bind fun eV=>match eV with
 | .inr z=>some z
 | .inl t1 =>
 some (-1)
noncomputable def DL (s_0:List cJ) (f_1:cJ→Option Bool) (s0:Nat):Option ((Nat)⊕((Unit)⊕Int)) :=
 if (s0:Int) < (s_0.length:Int) then (
  (s_0[s0]?).bind fun x0 =>
  (f_1 x0).bind fun r1 =>
  if r1 then (
   some (.inr (.inr (s0:Int))))
  else
  some (.inl (s0+1)))
 else
 some (.inr (.inl ()))
noncomputable def PU (s_0:List cJ) (f_1:cJ→Option Bool):Option (Bool) :=
 ((
  (aO (DL s_0 f_1) 0).bind fun eV=>match eV with
  | .inr z=>some z
  | .inl t2 =>
  some (-1)
 ):Option (Int)).bind fun t1 =>
 some (decide (0≤t1))
noncomputable def DM (l_0:List cJ) (right:cJ→Option Bool) (s0:Nat):Option ((Nat)⊕((Unit)⊕Int)) :=
 if (s0:Int) < (l_0.length:Int) then (
  (l_0[s0]?).bind fun x0 =>
  ((
   (right x0).bind fun r1 =>
   some (!r1)
  ):Option (Bool)).bind fun t1 =>
  if t1 then (
   some (.inr (.inr (s0:Int))))
  else
  some (.inl (s0+1)))
 else
 some (.inr (.inl ()))
noncomputable def PV (l_0:List cJ) (right:cJ→Option Bool):Option (Bool) :=
 ((
  ((
   (aO (DM l_0 right) 0).bind fun e87=>match e87 with
   | .inr z=>some z
   | .inl t3 =>
   some (-1)
  ):Option (Int)).bind fun t1 =>
  some (decide (0≤t1))
 ):Option (Bool)).bind fun t2 =>
 some (!t2)
noncomputable def PW (x_0:Int) (f0_:Int→Option Bool):Option (Bool) :=
 (f0_ x_0).bind fun r1 =>
 some (!r1)
noncomputable def DN (s_0:List Int) (f_1:Int→Option Bool) (s0:Nat):Option ((Nat)⊕((Unit)⊕Int)) :=
 if (s0:Int) < (s_0.length:Int) then (
  (s_0[s0]?).bind fun x0 =>
  (f_1 x0).bind fun r1 =>
  if r1 then (
   some (.inr (.inr (s0:Int))))
  else
  some (.inl (s0+1)))
 else
 some (.inr (.inl ()))
noncomputable def PX (s_0:List Int) (f_1:Int→Option Bool):Option (Int) :=
 (aO (DN s_0 f_1) 0).bind fun eV=>match eV with
 | .inr z=>some z
 | .inl t1 =>
 some (-1)
noncomputable def DO (s_0:List Int) (f_1:Int→Option Bool) (s0:Nat):Option ((Nat)⊕((Unit)⊕Int)) :=
 if (s0:Int) < (s_0.length:Int) then (
  (s_0[s0]?).bind fun x0 =>
  (f_1 x0).bind fun r1 =>
  if r1 then (
   some (.inr (.inr (s0:Int))))
  else
  some (.inl (s0+1)))
 else
 some (.inr (.inl ()))
noncomputable def PY (s_0:List Int) (f_1:Int→Option Bool):Option (Bool) :=
 ((
  (aO (DO s_0 f_1) 0).bind fun eV=>match eV with
  | .inr z=>some z
  | .inl t2 =>
  some (-1)
 ):Option (Int)).bind fun t1 =>
 some (decide (0≤t1))
noncomputable def DP (l_0:List Int) (right:Int→Option Bool) (s0:Nat):Option ((Nat)⊕((Unit)⊕Int)) :=
 if (s0:Int) < (l_0.length:Int) then (
  (l_0[s0]?).bind fun x0 =>
  ((
   (right x0).bind fun r1 =>
   some (!r1)
  ):Option (Bool)).bind fun t1 =>
  if t1 then (
   some (.inr (.inr (s0:Int))))
  else
  some (.inl (s0+1)))
 else
 some (.inr (.inl ()))
noncomputable def PZ (l_0:List Int) (right:Int→Option Bool):Option (Bool) :=
 ((
  ((
   (aO (DP l_0 right) 0).bind fun e78=>match e78 with
   | .inr z=>some z
   | .inl t3 =>
   some (-1)
  ):Option (Int)).bind fun t1 =>
  some (decide (0≤t1))
 ):Option (Bool)).bind fun t2 =>
 some (!t2)
noncomputable def sJ (d_0:gM) (s0:Nat×Int):Option ((Nat×Int)⊕((Int)⊕(Int×Int))) :=
 if (s0.1:Int) < (d_0.words.length:Int) then (
  (d_0.words[s0.1]?).bind fun x0 =>
  ((
   ((
    ((
     (vO x0.text).bind fun r1 =>
     if r1 then (
      (rF x0.second s0.2 36000).bind fun r2 =>
      if r2 then (
       (rF x0.reporter 0 99).bind fun r3 =>
       some r3)
      else
      some false)
     else
     some false
    ):Option (Bool)).bind fun t3 =>
    some (t3,x0.second)
   ):Option (Bool×Int)).bind fun t2 =>
   some (!t2.1,t2.2)
  ):Option (Bool×Int)).bind fun t1 =>
  if t1.1 then (
   some (.inr (.inr ((s0.1:Int),t1.2))))
  else
  some (.inl ((s0.1+1),t1.2)))
 else
 some (.inr (.inl s0.2))
noncomputable def yM (d_0:gM) (s0:Nat×Int):Option ((Nat×Int)⊕((Int)⊕(Int×Int))) :=
 if (s0.1:Int) < (d_0.kept.length:Int) then (
  (d_0.kept[s0.1]?).bind fun x0 =>
  ((
   ((
    cE (-9223372036854775808≤(s0.2+1)∧(s0.2+1)≤9223372036854775807) <|
    (rF x0 (s0.2+1) ((d_0.words.length:Int) - 1)).bind fun r1 =>
    some (r1,x0)
   ):Option (Bool×Int)).bind fun t2 =>
   some (!t2.1,t2.2)
  ):Option (Bool×Int)).bind fun t1 =>
  if t1.1 then (
   some (.inr (.inr ((s0.1:Int),t1.2))))
  else
  some (.inl ((s0.1+1),t1.2)))
 else
 some (.inr (.inl s0.2))
noncomputable def QA (d_0:gM):Option (Bool) :=
 ((
  if (d_0.words.length:Int)≤60 then (
   ((
    ((
     ((
      (aO (sJ d_0) (0,0)).bind fun eV=>match eV with
      | .inr z=>some z
      | .inl t7 =>
      some ((-1),t7)
     ):Option (Int×Int)).bind fun t2 =>
     some (decide (0≤t2.1),t2.2)
    ):Option (Bool×Int)).bind fun t3 =>
    some (!t3.1,t3.2)
   ):Option (Bool×Int)).bind fun t1 =>
   if t1.1 then (
    ((
     ((
      ((
       (aO (yM d_0) (0,(-1))).bind fun eA1=>match eA1 with
       | .inr z=>some z
       | .inl t8 =>
       some ((-1),t8)
      ):Option (Int×Int)).bind fun t4 =>
      some (decide (0≤t4.1),t4.2)
     ):Option (Bool×Int)).bind fun t5 =>
     some (!t5.1,t5.2)
    ):Option (Bool×Int)).bind fun t6 =>
    some (t6.1,t1.2,t6.2))
   else
   some (false,t1.2,(-1)))
  else
  some (false,0,(-1))
 ):Option (Bool×Int×Int)).bind fun t9 =>
 some t9.1
noncomputable def IR (d_0:gM) (s0:Nat×List aK):Option ((Nat×List aK)⊕(List aK)) :=
 if (s0.1:Int) < (d_0.words.length:Int) then (
  (d_0.words[s0.1]?).bind fun x0 =>
  cE (s0.2.length+([(⟨(⟨x0.text,(s0.1:Int),0⟩:Item),0⟩:aK)]:List aK).length≤1073741824) <|
  some (.inl ((s0.1+1),(s0.2++([(⟨(⟨x0.text,(s0.1:Int),0⟩:Item),0⟩:aK)]:List aK)))))
 else
 some (.inr s0.2)
noncomputable def m70 (d_0:gM):Option (iP) :=
 (aO (IR d_0) (0,([]:List aK))).bind fun eV =>
 some (⟨d_0,eV,([]:List Int),0⟩:iP)
noncomputable def IS (f0_:iP) (yield:Int→Int→Option Bool) (s0:Nat×Nat):Option ((Nat×Nat)⊕((Unit)⊕Unit)) :=
 if (s0.2:Int) < (f0_.items.length:Int) then (
  ((
   (f0_.items[s0.2]?).bind fun x0 =>
   if x0.gone≠0 then (
    some (.inl s0.1))
   else
   (yield (s0.1:Int) (s0.2:Int)).bind fun r1 =>
   if r1 then (
    cE (-9223372036854775808≤((s0.1:Int)+1)∧((s0.1:Int)+1)≤9223372036854775807) <|
    some (.inl (s0.1+1)))
   else
   some (.inr (.inr (.inr ())))
  ):Option ((Nat)⊕((Nat×Nat)⊕((Unit)⊕Unit)))).bind fun t1=>match t1 with
  | .inr z=>some z
  | .inl t2 =>
  some (.inl (t2,(s0.2+1))))
 else
 some (.inr (.inl ()))
noncomputable def m73 (yield:Int→Int→Option Bool) (f0_:iP):Option (Unit) :=
 (aO (IS f0_ yield) (0,0)).bind fun eV=>match eV with
 | .inr z=>some z
 | .inl t1 =>
 some ()
noncomputable def DQ (s_0:iP) (s0:Nat×Nat×List Int):Option ((Nat×Nat×List Int)⊕(List Int)) :=
 if (s0.2.1:Int) < (s_0.items.length:Int) then (
  ((
   (s_0.items[s0.2.1]?).bind fun x0 =>
   if x0.gone≠0 then (
    some (s0.1,s0.2.2))
   else
   ((
    cE (s0.2.2.length+1≤1073741824) <|
    some (s0.2.2++[(s0.2.1:Int)])
   ):Option (List Int)).bind fun t2 =>
   cE (-9223372036854775808≤((s0.1:Int)+1)∧((s0.1:Int)+1)≤9223372036854775807) <|
   some ((s0.1+1),t2)
  ):Option (Nat×List Int)).bind fun t1 =>
  some (.inl (t1.1,(s0.2.1+1),t1.2)))
 else
 some (.inr s0.2.2)
noncomputable def QB (s_0:iP):Option (List Int) :=
 ((
  (aO (DQ s_0) (0,0,([]:List Int))).bind fun eV =>
  some eV
 ):Option (List Int)).bind fun t1 =>
 some t1
noncomputable def DR (x_0:aD) (f0_:aD→Option Bool):Option (Bool) :=
 (f0_ x_0).bind fun r1 =>
 some (!r1)
noncomputable def HJ (l_0:List aD) (right:aD→Option Bool):Option (Bool) :=
 (HA l_0 (fun x0_=>DR x0_ right)).bind fun r5 =>
 some (!r5)
noncomputable def DT (l_0:List aD) (low:Int) (high:Int):Option (Bool) :=
 ((
  (rF (l_0.length:Int) low high).bind fun r1 =>
  if r1 then (
   (HJ l_0 (vO)).bind fun r2 =>
   some r2)
  else
  some false
 ):Option (Bool)).bind fun t1 =>
 some t1
noncomputable def QC (is:Bool):Option (Unit) :=
 if is then (
  some ())
 else
 none
noncomputable def DU (s_0:List Int) (v_1:Int) (s0:Nat):Option ((Nat)⊕((Unit)⊕Int)) :=
 if (s0:Int) < (s_0.length:Int) then (
  (s_0[s0]?).bind fun x0 =>
  if v_1=x0 then (
   some (.inr (.inr (s0:Int))))
  else
  some (.inl (s0+1)))
 else
 some (.inr (.inl ()))
noncomputable def LF (s_0:List Int) (v_1:Int):Option (Int) :=
 (aO (DU s_0 v_1) 0).bind fun eV=>match eV with
 | .inr z=>some z
 | .inl t1 =>
 some (-1)
noncomputable def vP (s_0:List Int) (v_1:Int):Option (Bool) :=
 (LF s_0 v_1).bind fun r1 =>
 some (decide (0≤r1))
noncomputable def QD (s_0:iP) (x_1:aK):Option (Bool) :=
 (vP s_0.draft.kept x_1.item.origin).bind fun r1 =>
 some r1
noncomputable def rG (x_0:aK) (f0_:Int):Option (Bool) :=
 ((
  if x_0.item.maker≠f0_ then (
   some true)
  else
  some (decide (x_0.gone=0))
 ):Option (Bool)).bind fun t7 =>
 some t7
noncomputable def DV (x_0:aK) (f0_:aK→Option Bool):Option (Bool) :=
 (f0_ x_0).bind fun r4 =>
 some (!r4)
noncomputable def DW (s_0:List aK) (f_1:aK→Option Bool) (s0:Nat):Option ((Nat)⊕((Unit)⊕Int)) :=
 if (s0:Int) < (s_0.length:Int) then (
  (s_0[s0]?).bind fun x0 =>
  (f_1 x0).bind fun r1 =>
  if r1 then (
   some (.inr (.inr (s0:Int))))
  else
  some (.inl (s0+1)))
 else
 some (.inr (.inl ()))
noncomputable def zS (s_0:List aK) (f_1:aK→Option Bool):Option (Int) :=
 (aO (DW s_0 f_1) 0).bind fun eV=>match eV with
 | .inr z=>some z
 | .inl t1 =>
 some (-1)
noncomputable def LG (s_0:List aK) (f_1:aK→Option Bool):Option (Bool) :=
 (zS s_0 f_1).bind fun r1 =>
 some (decide (0≤r1))
noncomputable def zT (l_0:List aK) (right:aK→Option Bool):Option (Bool) :=
 (LG l_0 (fun x0_=>DV x0_ right)).bind fun r5 =>
 some (!r5)
noncomputable def QE (s_0:iP) (number:Int):Option (Bool) :=
 ((
  (vP s_0.live number).bind fun r1 =>
  if r1 then (
   (zT s_0.items (fun x0_=>rG x0_ number)).bind fun r2 =>
   some r2)
  else
  some false
 ):Option (Bool)).bind fun t1 =>
 some t1
noncomputable def tZ (y_0:aK) (f0_:cQ):Option (Bool) :=
 some (decide (y_0.item.maker=f0_.undo))
noncomputable def zU (n_0:Int) (f0_:cQ):Option (Bool) :=
 some (decide (n_0=f0_.undo))
noncomputable def sK (d_0:gM) (s0:Nat×List aK):Option ((Nat×List aK)⊕(List aK)) :=
 if (s0.1:Int) < (d_0.words.length:Int) then (
  (d_0.words[s0.1]?).bind fun x0 =>
  cE (s0.2.length+([(⟨(⟨x0.text,(s0.1:Int),0⟩:Item),0⟩:aK)]:List aK).length≤1073741824) <|
  some (.inl ((s0.1+1),(s0.2++([(⟨(⟨x0.text,(s0.1:Int),0⟩:Item),0⟩:aK)]:List aK)))))
 else
 some (.inr s0.2)
noncomputable def vQ (s1:Nat×Nat×List Int×List aK) (x1:cQ) (s0:Int×Int×List aK):Option ((Int×Int×List aK)⊕(Int×List aK)) :=
 if s0.2.1 < (s1.2.2.2.length:Int) then (
  cE (0≤s0.2.1) <|
  (s0.2.2[s0.2.1.toNat]?).bind fun x0 =>
  (tZ x0 x1).bind fun r1 =>
  ((
   if r1 then (
    some (s0.1,s0.2.2))
   else
   cE (0≤s0.1) <|
   (s0.2.2[s0.1.toNat]?).bind fun x2 =>
   cE (-9223372036854775808≤(s0.1+1)∧(s0.1+1)≤9223372036854775807) <|
   some ((s0.1+1),(s0.2.2.set s0.1.toNat x0))
  ):Option (Int×List aK)).bind fun t1 =>
  cE (-9223372036854775808≤(s0.2.1+1)∧(s0.2.1+1)≤9223372036854775807) <|
  some (.inl (t1.1,(s0.2.1+1),t1.2)))
 else
 some (.inr (s0.1,s0.2.2))
noncomputable def sL (t1:List aK) (x1:cQ) (s0:Nat×List aK):Option ((Nat×List aK)⊕(List aK)) :=
 if (s0.1:Int) < (t1.length:Int) then (
  (s0.2[s0.1]?).bind fun x0 =>
  ((
   if x0.gone=x1.undo then (
    some (s0.2.set s0.1 (⟨x0.item,0⟩:aK)))
   else
   some s0.2
  ):Option (List aK)).bind fun t2 =>
  some (.inl ((s0.1+1),t2)))
 else
 some (.inr s0.2)
noncomputable def sM (s1:Nat×Nat×List Int×List aK) (x0:cQ) (s0:Nat):Option ((Nat)⊕((Unit)⊕Int)) :=
 if (s0:Int) < (s1.2.2.1.length:Int) then (
  (s1.2.2.1[s0]?).bind fun x1 =>
  (zU x1 x0).bind fun r1 =>
  if r1 then (
   some (.inr (.inr (s0:Int))))
  else
  some (.inl (s0+1)))
 else
 some (.inr (.inl ()))
noncomputable def vT (s1:Nat×Nat×List Int×List aK) (x1:cQ) (s0:Int×Int×List Int):Option ((Int×Int×List Int)⊕(Int×List Int)) :=
 if s0.2.1 < (s1.2.2.1.length:Int) then (
  cE (0≤s0.2.1) <|
  (s0.2.2[s0.2.1.toNat]?).bind fun x0 =>
  (zU x0 x1).bind fun r1 =>
  ((
   if r1 then (
    some (s0.1,s0.2.2))
   else
   cE (0≤s0.1) <|
   (s0.2.2[s0.1.toNat]?).bind fun x2 =>
   cE (-9223372036854775808≤(s0.1+1)∧(s0.1+1)≤9223372036854775807) <|
   some ((s0.1+1),(s0.2.2.set s0.1.toNat x0))
  ):Option (Int×List Int)).bind fun t1 =>
  cE (-9223372036854775808≤(s0.2.1+1)∧(s0.2.1+1)≤9223372036854775807) <|
  some (.inl (t1.1,(s0.2.1+1),t1.2)))
 else
 some (.inr (s0.1,s0.2.2))
noncomputable def oE (s1:Nat×Nat×List Int×List aK) (s0:Nat×Nat×List Int):Option ((Nat×Nat×List Int)⊕(List Int)) :=
 if (s0.2.1:Int) < (s1.2.2.2.length:Int) then (
  ((
   (s1.2.2.2[s0.2.1]?).bind fun x0 =>
   if x0.gone≠0 then (
    some (s0.1,s0.2.2))
   else
   ((
    cE (s0.2.2.length+1≤1073741824) <|
    some (s0.2.2++[(s0.2.1:Int)])
   ):Option (List Int)).bind fun t2 =>
   cE (-9223372036854775808≤((s0.1:Int)+1)∧((s0.1:Int)+1)≤9223372036854775807) <|
   some ((s0.1+1),t2)
  ):Option (Nat×List Int)).bind fun t1 =>
  some (.inl (t1.1,(s0.2.1+1),t1.2)))
 else
 some (.inr s0.2.2)
noncomputable def sN (t1:List Int) (x0:cQ) (s1:Nat×Nat×List Int×List aK) (t2:List aK×List cJ×List Int) (s0:Nat):Option ((Nat)⊕((Unit)⊕((Nat×List Int×List aK)⊕((Nat×Nat×List Int×List aK)⊕((Nat×List Int×List aK)⊕((Nat×Nat)⊕(List Int×List aK×List cJ×List Int×Nat))))))) :=
 if (s0:Int) < (((t1.drop x0.at_.toNat).take ((x0.at_+x0.cut).toNat - x0.at_.toNat)).length:Int) then (
  (((t1.drop x0.at_.toNat).take ((x0.at_+x0.cut).toNat - x0.at_.toNat))[s0]?).bind fun x1 =>
  cE (0≤x1) <|
  (s1.2.2.2[x1.toNat]?).bind fun x2 =>
  ((
   (vP t2.2.2 x2.item.origin).bind fun r1 =>
   some r1
  ):Option (Bool)).bind fun t3 =>
  ((
   if t3 then (
    some (.inr (.inr (.inr (.inr (.inr (.inr (.inl (9,s1.1)))))))))
   else
   some (.inl ())
  ):Option ((Unit)⊕((Nat)⊕((Unit)⊕((Nat×List Int×List aK)⊕((Nat×Nat×List Int×List aK)⊕((Nat×List Int×List aK)⊕((Nat×Nat)⊕(List Int×List aK×List cJ×List Int×Nat))))))))).bind fun t4=>match t4 with
  | .inr z=>some z
  | .inl t5 =>
  some (.inl (s0+1)))
 else
 some (.inr (.inl ()))
noncomputable def vU (t1:List Int) (x0:cQ) (s1:Nat×Nat×List Int×List aK) (s0:Nat×List aK):Option ((Nat×List aK)⊕(List aK)) :=
 if (s0.1:Int) < (((t1.drop x0.at_.toNat).take ((x0.at_+x0.cut).toNat - x0.at_.toNat)).length:Int) then (
  (((t1.drop x0.at_.toNat).take ((x0.at_+x0.cut).toNat - x0.at_.toNat))[s0.1]?).bind fun x1 =>
  cE (0≤x1) <|
  (s0.2[x1.toNat]?).bind fun x2 =>
  some (.inl ((s0.1+1),(s0.2.set x1.toNat (⟨x2.item,((s1.2.1:Int)+1)⟩:aK)))))
 else
 some (.inr s0.2)
noncomputable def nM (x0:cQ) (s1:Nat×Nat×List Int×List aK) (s0:Nat×List aK):Option ((Nat×List aK)⊕(List aK)) :=
 if (s0.1:Int) < (x0.bK.length:Int) then (
  (x0.bK[s0.1]?).bind fun x1 =>
  cE (s0.2.length+1≤1073741824) <|
  some (.inl ((s0.1+1),(s0.2++[(⟨(⟨x1,(-1),((s1.2.1:Int)+1)⟩:Item),0⟩:aK)]))))
 else
 some (.inr s0.2)
noncomputable def iT (steps:List cQ) (t7:List aK×List cJ×List Int) (s0:Nat×Nat×List Int×List aK):Option ((Nat×Nat×List Int×List aK)⊕((Nat×List Int×List aK)⊕((Nat×Nat)⊕(List Int×List aK×List cJ×List Int×Nat)))) :=
 if (s0.1:Int) < (steps.length:Int) then (
  (steps[s0.1]?).bind fun x0 =>
  if x0.undo≠0 then (
   ((
    ((
     ((
      (vP s0.2.2.1 x0.undo).bind fun r2 =>
      if r2 then (
       (zT s0.2.2.2 (fun x0_=>rG x0_ x0.undo)).bind fun r3 =>
       some r3)
      else
      some false
     ):Option (Bool)).bind fun t8 =>
     some t8
    ):Option (Bool)).bind fun t9 =>
    ((
     if t9 then (
      some (.inl ()))
     else
     some (.inr (.inr (.inr (.inr (.inl (9,s0.1))))))
    ):Option ((Unit)⊕((List Int×List aK)⊕((Nat×Nat×List Int×List aK)⊕((Nat×List Int×List aK)⊕((Nat×Nat)⊕(List Int×List aK×List cJ×List Int×Nat))))))).bind fun tA=>match tA with
    | .inr z=>some z
    | .inl tD1 =>
    ((
     (zS s0.2.2.2 (fun x0_=>tZ x0_ x0)).bind fun r1 =>
     if r1=(-1) then (
      some s0.2.2.2)
     else
     cE (-9223372036854775808≤(r1+1)∧(r1+1)≤9223372036854775807) <|
     (aO (vQ s0 x0) (r1,(r1+1),s0.2.2.2)).bind fun eV =>
     cE (0≤eV.1) <|
     cE (eV.1.toNat≤eV.2.length) <|
     cE (eV.1.toNat < eV.2.length) <|
     cE (eV.1.toNat≤(eV.2.take eV.1.toNat++List.replicate (eV.2.length - eV.1.toNat) (⟨(⟨[],0,0⟩:Item),0⟩:aK)).length) <|
     some ((eV.2.take eV.1.toNat++List.replicate (eV.2.length - eV.1.toNat) (⟨(⟨[],0,0⟩:Item),0⟩:aK)).take eV.1.toNat)
    ):Option (List aK)).bind fun t5 =>
    (aO (sL t5 x0) (0,t5)).bind fun eD1 =>
    ((
     ((
      (aO (sM s0 x0) 0).bind fun eE1=>match eE1 with
      | .inr z=>some z
      | .inl tE1 =>
      some (-1)
     ):Option (Int)).bind fun t2 =>
     if t2=(-1) then (
      some s0.2.2.1)
     else
     cE (-9223372036854775808≤(t2+1)∧(t2+1)≤9223372036854775807) <|
     (aO (vT s0 x0) (t2,(t2+1),s0.2.2.1)).bind fun eA1 =>
     cE (0≤eA1.1) <|
     cE (eA1.1.toNat≤eA1.2.length) <|
     cE (eA1.1.toNat < eA1.2.length) <|
     cE (eA1.1.toNat≤(eA1.2.take eA1.1.toNat++List.replicate (eA1.2.length - eA1.1.toNat) (0:Int)).length) <|
     some ((eA1.2.take eA1.1.toNat++List.replicate (eA1.2.length - eA1.1.toNat) (0:Int)).take eA1.1.toNat)
    ):Option (List Int)).bind fun tB =>
    some (.inl (tB,eD1))
   ):Option ((List Int×List aK)⊕((Nat×Nat×List Int×List aK)⊕((Nat×List Int×List aK)⊕((Nat×Nat)⊕(List Int×List aK×List cJ×List Int×Nat)))))).bind fun tD=>match tD with
   | .inr z=>some z
   | .inl t6 =>
   some (.inl ((s0.1+1),s0.2.1,t6.1,t6.2)))
  else
  ((
   ((
    ((
     (aO (oE s0) (0,0,([]:List Int))).bind fun eF1 =>
     some eF1
    ):Option (List Int)).bind fun tR =>
    some tR
   ):Option (List Int)).bind fun t1 =>
   if 0≤x0.at_ then (
    (rF x0.cut 0 4).bind fun r4 =>
    if r4 then (
     cE (-9223372036854775808≤((t1.length:Int) - x0.cut)∧((t1.length:Int) - x0.cut)≤9223372036854775807) <|
     if x0.at_≤((t1.length:Int) - x0.cut) then (
      (DT x0.bK 0 4).bind fun r5 =>
      if r5 then (
       cE (-9223372036854775808≤(x0.cut+(x0.bK.length:Int))∧(x0.cut+(x0.bK.length:Int))≤9223372036854775807) <|
       ((
        if 0 < (x0.cut+(x0.bK.length:Int)) then (
         some (.inl ()))
        else
        some (.inr (.inr (.inr (.inr (.inl (9,s0.1))))))
       ):Option ((Unit)⊕((Nat×List Int×List aK)⊕((Nat×Nat×List Int×List aK)⊕((Nat×List Int×List aK)⊕((Nat×Nat)⊕(List Int×List aK×List cJ×List Int×Nat))))))).bind fun tS=>match tS with
       | .inr z=>some z
       | .inl tF1 =>
       cE (-9223372036854775808≤((s0.2.1:Int)+1)∧((s0.2.1:Int)+1)≤9223372036854775807) <|
       ((
        if 0 < x0.cut then (
         (t1[x0.at_.toNat]?).bind fun x2 =>
         some x2)
        else
        ((
         if 0 < x0.at_ then (
          cE (-9223372036854775808≤(x0.at_ - 1)∧(x0.at_ - 1)≤9223372036854775807) <|
          (t1[(x0.at_ - 1).toNat]?).bind fun x1 =>
          cE (-9223372036854775808≤(x1+1)∧(x1+1)≤9223372036854775807) <|
          some (x1+1))
         else
         some 0
        ):Option (Int)).bind fun tA1 =>
        some tA1
       ):Option (Int)).bind fun t3 =>
       cE (-9223372036854775808≤(x0.at_+x0.cut)∧(x0.at_+x0.cut)≤9223372036854775807) <|
       cE (0≤(x0.at_+x0.cut)) <|
       cE (x0.at_.toNat≤(x0.at_+x0.cut).toNat∧(x0.at_+x0.cut).toNat≤t1.length) <|
       (aO (sN t1 x0 s0 t7) 0).bind fun eG1=>match eG1 with
       | .inr z=>some z
       | .inl tG1 =>
       (aO (vU t1 x0 s0) (0,s0.2.2.2)).bind fun eB1 =>
       (aO (nM x0 s0) (0,([]:List aK))).bind fun eC1 =>
       ((
        cE (0≤t3) <|
        cE (t3.toNat≤eB1.length) <|
        cE (eB1.length+eC1.length≤1073741824) <|
        some (eB1.take t3.toNat++eC1++eB1.drop t3.toNat)
       ):Option (List aK)).bind fun tB1 =>
       cE (s0.2.2.1.length+1≤1073741824) <|
       some (.inl ((s0.2.1+1),(s0.2.2.1++[((s0.2.1:Int)+1)]),tB1)))
      else
      some (.inr (.inr (.inr (.inl (9,s0.1))))))
     else
     some (.inr (.inr (.inr (.inl (9,s0.1))))))
    else
    some (.inr (.inr (.inr (.inl (9,s0.1))))))
   else
   some (.inr (.inr (.inr (.inl (9,s0.1)))))
  ):Option ((Nat×List Int×List aK)⊕((Nat×Nat×List Int×List aK)⊕((Nat×List Int×List aK)⊕((Nat×Nat)⊕(List Int×List aK×List cJ×List Int×Nat)))))).bind fun tC1=>match tC1 with
  | .inr z=>some z
  | .inl t4 =>
  some (.inl ((s0.1+1),t4.1,t4.2.1,t4.2.2)))
 else
 some (.inr (.inl (s0.2.1,s0.2.2.1,s0.2.2.2)))
noncomputable def kJ (t1:List Int×List aK×List cJ×List Int×Nat) (s0:Nat×Nat×List Item):Option ((Nat×Nat×List Item)⊕(List Item)) :=
 if (s0.2.1:Int) < (t1.2.1.length:Int) then (
  ((
   (t1.2.1[s0.2.1]?).bind fun x0 =>
   if x0.gone≠0 then (
    some (s0.1,s0.2.2))
   else
   ((
    cE (s0.2.2.length+([x0.item]:List Item).length≤1073741824) <|
    some (s0.2.2++([x0.item]:List Item))
   ):Option (List Item)).bind fun t3 =>
   cE (-9223372036854775808≤((s0.1:Int)+1)∧((s0.1:Int)+1)≤9223372036854775807) <|
   some ((s0.1+1),t3)
  ):Option (Nat×List Item)).bind fun t2 =>
  some (.inl (t2.1,(s0.2.1+1),t2.2)))
 else
 some (.inr s0.2.2)
noncomputable def MS (d_0:gM) (steps:List cQ):Option (List Item×List Int×Int×Int) :=
 ((
  (QA d_0).bind fun r1 =>
  if r1 then (
   if 80 < (steps.length:Int) then (
    some (.inl (3,0)))
   else
   ((
    (aO (sK d_0) (0,([]:List aK))).bind fun eV =>
    some (eV,d_0.words,d_0.kept)
   ):Option (List aK×List cJ×List Int)).bind fun t1 =>
   (aO (iT steps t1) (0,0,([]:List Int),t1.1)).bind fun eA1=>match eA1 with
   | .inr z=>some z
   | .inl t2 =>
   some (.inr (t2.2.1,t2.2.2,t1.2.1,t1.2.2,t2.1)))
  else
  some (.inl (1,0))
 ):Option ((Nat×Nat)⊕(List Int×List aK×List cJ×List Int×Nat))).bind fun t5=>match t5 with
 | .inl t3=>(
  if (t3.1:Int)≠0 then (
   some (([]:List Item),([]:List Int),(t3.2:Int),(t3.1:Int)))
  else
  none)
 | .inr t4=>(
  ((
   (aO (kJ t4) (0,0,([]:List Item))).bind fun eB1 =>
   some eB1
  ):Option (List Item)).bind fun t6 =>
  some (t6,t4.1,0,0))
noncomputable def DX (requests:List aB) (s0:Nat):Option ((Nat)⊕((Unit)⊕Bool)) :=
 if (s0:Int) < (requests.length:Int) then (
  ((
   (requests[s0]?).bind fun x0 =>
   if 4 < x0.cut then (
    some true)
   else
   some (decide (4 < (x0.bK.length:Int)))
  ):Option (Bool)).bind fun t1 =>
  if t1 then (
   (FD).bind fun r1 =>
   some (.inr (.inr r1)))
  else
  some (.inl (s0+1)))
 else
 some (.inr (.inl ()))
noncomputable def zV (r_2:aR) (s0:Nat×List cJ):Option ((Nat×List cJ)⊕(List cJ)) :=
 if (s0.1:Int) < (r_2.words.length:Int) then (
  (r_2.words[s0.1]?).bind fun x0 =>
  cE (s0.2.length+([(⟨x0.text,0,0⟩:cJ)]:List cJ).length≤1073741824) <|
  some (.inl ((s0.1+1),(s0.2++([(⟨x0.text,0,0⟩:cJ)]:List cJ)))))
 else
 some (.inr s0.2)
noncomputable def DY (r1:List aN×Int) (s0:List aD×List aD×Int×Int×List cQ):Option ((List aD×List aD×Int×Int×List cQ)⊕(List aD×List aD×Int×List cQ)) :=
 if 0≤s0.2.2.2.1 then (
  (r1.1[s0.2.2.2.1.toNat]?).bind fun x0 =>
  cE (-9223372036854775808≤(s0.2.2.1 - (x0.bJ.length:Int))∧(s0.2.2.1 - (x0.bJ.length:Int))≤9223372036854775807) <|
  cE (([]:List aD).length+x0.bJ.length≤1073741824) <|
  cE ((([]:List aD)++x0.bJ).length+s0.1.length≤1073741824) <|
  cE (([]:List aD).length+x0.bY.length≤1073741824) <|
  cE ((([]:List aD)++x0.bY).length+s0.2.1.length≤1073741824) <|
  ((
   if 0≤x0.request then (
    cE (x0.bY.length≤1073741824) <|
    cE (s0.2.2.2.2.length+([(⟨0,(s0.2.2.1 - (x0.bJ.length:Int)),(x0.bJ.length:Int),x0.bY⟩:cQ)]:List cQ).length≤1073741824) <|
    some (s0.2.2.2.2++([(⟨0,(s0.2.2.1 - (x0.bJ.length:Int)),(x0.bJ.length:Int),x0.bY⟩:cQ)]:List cQ)))
   else
   some s0.2.2.2.2
  ):Option (List cQ)).bind fun t1 =>
  cE (-9223372036854775808≤(s0.2.2.2.1 - 1)∧(s0.2.2.2.1 - 1)≤9223372036854775807) <|
  some (.inl (((([]:List aD)++x0.bJ)++s0.1),((([]:List aD)++x0.bY)++s0.2.1),(s0.2.2.1 - (x0.bJ.length:Int)),(s0.2.2.2.1 - 1),t1)))
 else
 some (.inr (s0.1,s0.2.1,s0.2.2.1,s0.2.2.2.2))
noncomputable def xE  (s0:Int×List cQ):Option ((Int×List cQ)⊕(List cQ)) :=
 if 0 < s0.1 then (
  cE (s0.2.length+1≤1073741824) <|
  cE (-9223372036854775808≤(s0.1 - 1)∧(s0.1 - 1)≤9223372036854775807) <|
  some (.inl ((s0.1 - 1),(s0.2++[(⟨s0.1,0,0,([]:List aD)⟩:cQ)]))))
 else
 some (.inr s0.2)
noncomputable def zW (r1:List Item×List Int×Int×Int) (eV:List aD×List aD×Int×List cQ) (s0:Nat):Option ((Nat)⊕((Unit)⊕Bool)) :=
 if (s0:Int) < (r1.1.length:Int) then (
  (r1.1[s0]?).bind fun x0 =>
  (eV.2.1[s0]?).bind fun x1 =>
  if x0.text≠x1 then (
   some (.inr (.inr false)))
  else
  some (.inl (s0+1)))
 else
 some (.inr (.inl ()))
noncomputable def zX (r1:List Item×List Int×Int×Int) (eV:List aD×List aD×Int×List cQ) (s0:Nat):Option ((Nat)⊕((Unit)⊕Bool)) :=
 if (s0:Int) < (r1.1.length:Int) then (
  ((
   (r1.1[s0]?).bind fun x0 =>
   (eV.1[s0]?).bind fun x1 =>
   if x0.text≠x1 then (
    some true)
   else
   some (decide (x0.origin≠(s0:Int)))
  ):Option (Bool)).bind fun t1 =>
  if t1 then (
   some (.inr (.inr false)))
  else
  some (.inl (s0+1)))
 else
 some (.inr (.inl ()))
noncomputable def m4 (l_0:aP) (aT:List bH) (r_2:aR) (requests:List aB):Option (Bool) :=
 ((
  (m5 l_0 aT).bind fun r4 =>
  if r4 then (
   (m6 r_2 requests).bind fun r5 =>
   if r5 then (
    some (decide (60 < (r_2.words.length:Int))))
   else
   some true)
  else
  some true
 ):Option (Bool)).bind fun t1 =>
 if t1 then (
  (FD).bind fun r6 =>
  some r6)
 else
 (aO (DX requests) 0).bind fun e84=>match e84 with
 | .inr z=>some z
 | .inl t5 =>
 (PM l_0).bind fun r7 =>
 (PN aT).bind fun r8 =>
 (PO r_2).bind fun r9 =>
 (m15 requests).bind fun rA1 =>
 (PR r7 r8 r9 rA1).bind fun r1 =>
 if r1.2≠0 then (
  ((
   if r1.2=1 then (
    (FD).bind fun rB1 =>
    some rB1)
   else
   if r1.2=6 then (
    (FD).bind fun rC1 =>
    some rC1)
   else
   if r1.2=3 then (
    (FD).bind fun rD1 =>
    some rD1)
   else
   some false
  ):Option (Bool)).bind fun t2 =>
  some t2)
 else
 (aO (zV r_2) (0,([]:List cJ))).bind fun eA1 =>
 (aO (DY r1) (([]:List aD),([]:List aD),(r_2.words.length:Int),((r1.1.length:Int) - 1),([]:List cQ))).bind fun eV =>
 ((
  if eV.2.2.1≠0 then (
   some true)
  else
  some (decide (20 < (eV.2.2.2.length:Int)))
 ):Option (Bool)).bind fun t3 =>
 if t3 then (
  some false)
 else
 cE (eV.2.2.2.length≤1073741824) <|
 (MS (⟨eA1,([]:List Int)⟩:gM) eV.2.2.2).bind fun r3 =>
 (aO xE ((eV.2.2.2.length:Int),eV.2.2.2)).bind fun eB1 =>
 (MS (⟨eA1,([]:List Int)⟩:gM) eB1).bind fun r2 =>
 ((
  if r3.2.2.2≠0 then (
   some true)
  else
  if r2.2.2.2≠0 then (
   some true)
  else
  if (r2.2.1.length:Int)≠0 then (
   some true)
  else
  if (r3.1.length:Int)≠(eV.2.1.length:Int) then (
   some true)
  else
  some (decide ((r2.1.length:Int)≠(eV.1.length:Int)))
 ):Option (Bool)).bind fun t4 =>
 if t4 then (
  some false)
 else
 (aO (zW r3 eV) 0).bind fun eC1=>match eC1 with
 | .inr z=>some z
 | .inl t6 =>
 (aO (zX r2 eV) 0).bind fun eD1=>match eD1 with
 | .inr z=>some z
 | .inl t7 =>
 (FD).bind fun rE1 =>
 some rE1
end T4
namespace T4
open Go.Proofs
abbrev UT:=@Tryz.call112
abbrev QF:=@Tryz.call113
abbrev zY:=@Tryz.call114
abbrev UU:=@Tryz.call115
abbrev UV:=@Tryz.call116
abbrev UW:=@Tryz.call117
abbrev UX:=@Tryz.call118
abbrev xF:=@Tryz.call119
abbrev C12:=@Tryz.call12
abbrev UY:=@Tryz.call120
abbrev UZ:=@Tryz.call121
abbrev VA:=@Tryz.call122
abbrev VB:=@Tryz.call123
abbrev VC:=@Tryz.call124
abbrev QG:=@Tryz.call125
abbrev VD:=@Tryz.call126
abbrev QH:=@Tryz.call127
abbrev VE:=@Tryz.call128
abbrev VF:=@Tryz.call129
abbrev C13:=@Tryz.call13
abbrev LH:=@Tryz.call130
abbrev VG:=@Tryz.call131
abbrev VH:=@Tryz.call132
abbrev VI:=@Tryz.call133
abbrev VJ:=@Tryz.call134
abbrev VK:=@Tryz.call135
abbrev VL:=@Tryz.call136
abbrev VM:=@Tryz.call137
abbrev QI:=@Tryz.call138
abbrev VN:=@Tryz.call139
abbrev C14:=@Tryz.call14
abbrev QJ:=@Tryz.call141
abbrev VO:=@Tryz.call142
abbrev QK:=@Tryz.call143
abbrev VP:=@Tryz.call144
abbrev QL:=@Tryz.call145
abbrev C15:=@Tryz.call15
abbrev QM:=@Tryz.call152
abbrev VQ:=@Tryz.call159
abbrev VR:=@Tryz.call160
abbrev QN:=@Tryz.call161
abbrev QO:=@Tryz.call162
abbrev QP:=@Tryz.call163
abbrev VS:=@Tryz.call164
abbrev zZ:=@Tryz.call165
abbrev VT:=@Tryz.call166
abbrev QQ:=@Tryz.call167
abbrev QR:=@Tryz.call168
abbrev QS:=@Tryz.call169
abbrev HK:=@Tryz.call170
abbrev QT:=@Tryz.call171
abbrev VU:=@Tryz.call172
abbrev VV:=@Tryz.call173
abbrev VW:=@Tryz.call174
abbrev VX:=@Tryz.call175
abbrev VY:=@Tryz.call176
abbrev VZ:=@Tryz.call177
abbrev WA:=@Tryz.call178
abbrev QU:=@Tryz.call179
abbrev WB:=@Tryz.call180
abbrev WC:=@Tryz.call181
abbrev WD:=@Tryz.call183
abbrev WE:=@Tryz.call184
abbrev WF:=@Tryz.call185
abbrev WG:=@Tryz.call186
abbrev WH:=@Tryz.call188
abbrev LI:=@Tryz.call189
abbrev WI:=@Tryz.call190
abbrev WJ:=@Tryz.call191
abbrev WK:=@Tryz.call194
abbrev WL:=@Tryz.call195
abbrev WM:=@Tryz.call196
abbrev WN:=@Tryz.call197
abbrev WO:=@Tryz.call198
abbrev WP:=@Tryz.call199
abbrev MT:=@Tryz.call20
abbrev WQ:=@Tryz.call201
abbrev WR:=@Tryz.call202
abbrev WS:=@Tryz.call203
abbrev WT:=@Tryz.call205
abbrev C21:=@Tryz.call21
abbrev C22:=@Tryz.call22
abbrev WU:=@Tryz.call23
abbrev C29:=@Tryz.call29
abbrev C30:=@Tryz.call30
abbrev C31:=@Tryz.call31
abbrev C32:=@Tryz.call32
abbrev C33:=@Tryz.call33
abbrev MU:=@Tryz.call34
abbrev IT:=@Tryz.call35
abbrev C36:=@Tryz.call36
abbrev WV:=@Tryz.call37
abbrev C45:=@Tryz.call45
abbrev C46:=@Tryz.call46
abbrev SW:=@Tryz.call47
abbrev C48:=@Tryz.call48
abbrev C49:=@Tryz.call49
abbrev C5:=@Tryz.call5
abbrev C50:=@Tryz.call50
abbrev SX:=@Tryz.call51
abbrev C52:=@Tryz.call52
abbrev C53:=@Tryz.call53
abbrev C56:=@Tryz.call56
abbrev C6:=@Tryz.call6
abbrev C68:=@Tryz.call68
abbrev C70:=@Tryz.call70
abbrev C71:=@Tryz.call71
abbrev C72:=@Tryz.call72
abbrev WW:=@Tryz.call73
abbrev C74:=@Tryz.call74
abbrev C75:=@Tryz.call75
abbrev MV:=@Tryz.call76
abbrev C77:=@Tryz.call77
abbrev C78:=@Tryz.call78
abbrev QV:=@Tryz.call79
abbrev IU:=@Tryz.call80
abbrev C81:=@Tryz.call81
abbrev C82:=@Tryz.call82
abbrev C83:=@Tryz.call83
abbrev C84:=@Tryz.call84
abbrev C85:=@Tryz.call85
abbrev C86:=@Tryz.call86
abbrev C87:=@Tryz.call87
abbrev C88:=@Tryz.call88
abbrev C89:=@Tryz.call89
abbrev SY:=@Tryz.call90
abbrev oT:=@Tryz.isAgg102
abbrev vV:=@Tryz.isAgg104
abbrev DZ:=@Tryz.isAgg105
abbrev iC:=@Tryz.isAgg109
abbrev HL:=@Tryz.isAgg115
abbrev LJ:=@Tryz.isAgg116
abbrev EA:=@Tryz.isAgg144
abbrev iY:=@Tryz.isAgg145
abbrev rH:=@Tryz.isAgg152
abbrev lC:=@Tryz.isAgg153
abbrev LK:=@Tryz.isAgg184
abbrev WX:=@Tryz.isAgg185
abbrev WY:=@Tryz.isAgg187
abbrev AA:=@Tryz.isAgg190
abbrev AB:=@Tryz.isAgg192
abbrev LM:=@Tryz.isAgg215
abbrev MW:=@Tryz.isAgg22
abbrev WZ:=@Tryz.isAgg220
abbrev XA:=@Tryz.isAgg224
abbrev XB:=@Tryz.isAgg226
abbrev FE:=@Tryz.isAgg23
abbrev mM:=@Tryz.isAgg232
abbrev QW:=@Tryz.isAgg236
abbrev nN:=@Tryz.isAgg24
abbrev G26:=@Tryz.isAgg26
abbrev FF:=@Tryz.isAgg27
abbrev G29:=@Tryz.isAgg29
abbrev G3:=@Tryz.isAgg3
abbrev SZ:=@Tryz.isAgg39
abbrev qX:=@Tryz.isAgg40
abbrev QX:=@Tryz.isAgg43
abbrev IV:=@Tryz.isAgg45
abbrev HM:=@Tryz.isAgg47
abbrev yN:=@Tryz.isAgg49
abbrev G5:=@Tryz.isAgg5
abbrev qG:=@Tryz.isAgg51
abbrev sP:=@Tryz.isAgg55
abbrev G69:=@Tryz.isAgg69
abbrev G70:=@Tryz.isAgg70
abbrev MX:=@Tryz.isAgg72
abbrev LN:=@Tryz.isAgg74
abbrev HN:=@Tryz.isAgg78
abbrev XC:=@Tryz.isAgg81
abbrev TA:=@Tryz.isAgg82
abbrev G86:=@Tryz.isAgg86
abbrev G9:=@Tryz.isAgg9
abbrev G91:=@Tryz.isAgg91
abbrev IW:=@Tryz.isAgg97
abbrev vW:=@Tryz.sizeOf102
abbrev kK:=@Tryz.sizeOf104
abbrev EB:=@Tryz.sizeOf105
abbrev eE:=@Tryz.sizeOf109
abbrev uA:=@Tryz.sizeOf115
abbrev uB:=@Tryz.sizeOf116
abbrev LO:=@Tryz.sizeOf143
abbrev xG:=@Tryz.sizeOf144
abbrev AC:=@Tryz.sizeOf145
abbrev fL:=@Tryz.sizeOf152
abbrev gV:=@Tryz.sizeOf153
abbrev AD:=@Tryz.sizeOf190
abbrev jV:=@Tryz.sizeOf192
abbrev MY:=@Tryz.sizeOf22
abbrev AT:=@Tryz.sizeOf23
abbrev fR:=@Tryz.sizeOf232
abbrev nO:=@Tryz.sizeOf24
abbrev Z26:=@Tryz.sizeOf26
abbrev FG:=@Tryz.sizeOf27
abbrev Z29:=@Tryz.sizeOf29
abbrev Z3:=@Tryz.sizeOf3
abbrev XD:=@Tryz.sizeOf39
abbrev rI:=@Tryz.sizeOf40
abbrev LP:=@Tryz.sizeOf43
abbrev FH:=@Tryz.sizeOf45
abbrev EC:=@Tryz.sizeOf47
abbrev mN:=@Tryz.sizeOf49
abbrev Z5:=@Tryz.sizeOf5
abbrev LQ:=@Tryz.sizeOf51
abbrev MZ:=@Tryz.sizeOf54
abbrev oF:=@Tryz.sizeOf55
abbrev NA:=@Tryz.sizeOf69
abbrev Z70:=@Tryz.sizeOf70
abbrev IX:=@Tryz.sizeOf72
abbrev HO:=@Tryz.sizeOf74
abbrev TB:=@Tryz.sizeOf76
abbrev vX:=@Tryz.sizeOf78
abbrev QY:=@Tryz.sizeOf81
abbrev XE:=@Tryz.sizeOf82
abbrev FI:=@Tryz.sizeOf86
abbrev XF:=@Tryz.sizeOf89
abbrev Z9:=@Tryz.sizeOf9
abbrev Z97:=@Tryz.sizeOf97
abbrev xH:=@Tryz.underlying102
abbrev LS:=@Tryz.underlying104
abbrev AE:=@Tryz.underlying105
abbrev fB:=@Tryz.underlying107
abbrev dQ:=@Tryz.underlying109
abbrev AF:=@Tryz.underlying115
abbrev HQ:=@Tryz.underlying116
abbrev LT:=@Tryz.underlying143
abbrev AG:=@Tryz.underlying144
abbrev nP:=@Tryz.underlying152
abbrev iZ:=@Tryz.underlying153
abbrev eT:=@Tryz.underlying155
abbrev vY:=@Tryz.underlying177
abbrev oU:=@Tryz.underlying192
abbrev xI:=@Tryz.underlying193
abbrev NB:=@Tryz.underlying22
abbrev AU:=@Tryz.underlying23
abbrev ED:=@Tryz.underlying232
abbrev HR:=@Tryz.underlying235
abbrev EE:=@Tryz.underlying238
abbrev lJ:=@Tryz.underlying24
abbrev AH:=@Tryz.underlying26
abbrev FJ:=@Tryz.underlying27
abbrev XG:=@Tryz.underlying275
abbrev AV:=@Tryz.underlying29
abbrev IY:=@Tryz.underlying30
abbrev LU:=@Tryz.underlying39
abbrev LV:=@Tryz.underlying43
abbrev wO:=@Tryz.underlying45
abbrev EF:=@Tryz.underlying47
abbrev xJ:=@Tryz.underlying49
abbrev U5:=@Tryz.underlying5
abbrev rJ:=@Tryz.underlying51
abbrev NC:=@Tryz.underlying54
abbrev fM:=@Tryz.underlying55
abbrev QZ:=@Tryz.underlying67
abbrev IZ:=@Tryz.underlying69
abbrev RA:=@Tryz.underlying70
abbrev yO:=@Tryz.underlying72
abbrev FK:=@Tryz.underlying74
abbrev TC:=@Tryz.underlying76
abbrev ND:=@Tryz.underlying78
abbrev RB:=@Tryz.underlying79
abbrev qH:=@Tryz.underlying81
abbrev JA:=@Tryz.underlying82
abbrev JB:=@Tryz.underlying86
abbrev XH:=@Tryz.underlying89
abbrev U9:=@Tryz.underlying9
end T4
