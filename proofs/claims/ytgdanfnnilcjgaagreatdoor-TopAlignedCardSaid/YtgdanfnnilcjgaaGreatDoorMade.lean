/-
  The types and models of the functions of mending and of drafts,printed by a program of ours;contracts of library functions.
-/
import Derived.Test.YtgdanfnnilcjgaaGreatDoorKitSix
import Derived.Test.YtgdanfnnilcjgaaGreatDoorProg
set_option linter.all false
namespace Go.Proofs
open Go.Shelf Go.RowKit
def Tryz.laysC172_ren:Go.Shelf.Ren:=⟨fun | 172=>202 | 244=>206 | 245=>207 | 247=>210 | 279=>211 | 280=>212 | 281=>213 | 282=>214 | 287=>216 | 316=>217 | 171=>203 | 205=>218 | 321=>223 | 322=>224 | 243=>208 | 246=>215 | 283=>219 | 284=>220 | 285=>221 | 286=>222 | 129=>99 | 317=>225 | 318=>226 | 319=>227 | 320=>228 | 337=>229 | 338=>230 | n=>n,fun | 9=>9 | 3=>3 | 75=>275 | 76=>276 | 4=>4 | 5=>5 | 167=>282 | 37=>235 | 0=>0 | 85=>283 | 2=>2 | 168=>285 | 53=>204 | 175=>289 | 46=>162 | 210=>293 | 127=>300 | 145=>303 | 143=>301 | 21=>21 | 171=>295 | 173=>297 | 212=>306 | 51=>202 | 20=>20 | 213=>307 | 232=>308 | 233=>309 | 80=>310 | n=>n,fun | 15=>0 | 16=>1 | 17=>2 | 18=>3 | 19=>4 | n=>n⟩
theorem Tryz.laysC172:Go.Proofs.LaysC.n172 Tryz.prog Tryz.laysC172_ren:={
 mixed:=by kernel_rfl
 f129:=Tryz.func99.trans (congrArg some (by kernel_rfl))
 f171:=Tryz.func203.trans (congrArg some (by kernel_rfl))
 f172:=Tryz.func202.trans (congrArg some (by kernel_rfl))
 f205:=Tryz.func218.trans (congrArg some (by kernel_rfl))
 f243:=Tryz.func208.trans (congrArg some (by kernel_rfl))
 f244:=Tryz.func206.trans (congrArg some (by kernel_rfl))
 f245:=Tryz.func207.trans (congrArg some (by kernel_rfl))
 f246:=Tryz.func215.trans (congrArg some (by kernel_rfl))
 f247:=Tryz.func210.trans (congrArg some (by kernel_rfl))
 f279:=Tryz.func211.trans (congrArg some (by kernel_rfl))
 f280:=Tryz.func212.trans (congrArg some (by kernel_rfl))
 f281:=Tryz.func213.trans (congrArg some (by kernel_rfl))
 f282:=Tryz.func214.trans (congrArg some (by kernel_rfl))
 f283:=Tryz.func219.trans (congrArg some (by kernel_rfl))
 f284:=Tryz.func220.trans (congrArg some (by kernel_rfl))
 f285:=Tryz.func221.trans (congrArg some (by kernel_rfl))
 f286:=Tryz.func222.trans (congrArg some (by kernel_rfl))
 f287:=Tryz.func216.trans (congrArg some (by kernel_rfl))
 f316:=Tryz.func217.trans (congrArg some (by kernel_rfl))
 f317:=Tryz.func225.trans (congrArg some (by kernel_rfl))
 f318:=Tryz.func226.trans (congrArg some (by kernel_rfl))
 f319:=Tryz.func227.trans (congrArg some (by kernel_rfl))
 f320:=Tryz.func228.trans (congrArg some (by kernel_rfl))
 f321:=Tryz.func223.trans (congrArg some (by kernel_rfl))
 f322:=Tryz.func224.trans (congrArg some (by kernel_rfl))
 f337:=Tryz.func229.trans (congrArg some (by kernel_rfl))
 f338:=Tryz.func230.trans (congrArg some (by kernel_rfl))
 t0:=Tryz.underlying0
 a0:=Tryz.isAgg0
 z0:=Tryz.sizeOf0
 v0:=Tryz.zeroValue0
 t2:=Tryz.underlying2
 a2:=Tryz.isAgg2
 z2:=Tryz.sizeOf2
 v2:=Tryz.zeroValue2
 t3:=Tryz.underlying3
 a3:=Tryz.isAgg3
 z3:=Tryz.sizeOf3
 v3:=Tryz.zeroValue3
 t4:=Tryz.underlying4
 a4:=Tryz.isAgg4
 z4:=Tryz.sizeOf4
 v4:=Tryz.zeroValue4
 t5:=Tryz.underlying5
 a5:=Tryz.isAgg5
 z5:=Tryz.sizeOf5
 v5:=Tryz.zeroValue5
 t9:=Tryz.underlying9
 a9:=Tryz.isAgg9
 z9:=Tryz.sizeOf9
 v9:=Tryz.zeroValue9
 t20:=Tryz.underlying20
 a20:=Tryz.isAgg20
 z20:=Tryz.sizeOf20
 v20:=Tryz.zeroValue20
 t21:=Tryz.underlying21
 a21:=Tryz.isAgg21
 z21:=Tryz.sizeOf21
 v21:=Tryz.zeroValue21
 t37:=Tryz.underlying235
 a37:=Tryz.isAgg235
 z37:=Tryz.sizeOf235
 v37:=Tryz.zeroValue235
 t46:=Tryz.underlying162
 a46:=Tryz.isAgg162
 z46:=Tryz.sizeOf162
 v46:=Tryz.zeroValue162
 t51:=Tryz.underlying202
 a51:=Tryz.isAgg202
 z51:=Tryz.sizeOf202
 v51:=Tryz.zeroValue202
 t53:=Tryz.underlying204
 a53:=Tryz.isAgg204
 z53:=Tryz.sizeOf204
 v53:=Tryz.zeroValue204
 t75:=Tryz.underlying275
 a75:=Tryz.isAgg275
 z75:=Tryz.sizeOf275
 v75:=Tryz.zeroValue275
 t76:=Tryz.underlying276
 a76:=Tryz.isAgg276
 z76:=Tryz.sizeOf276
 v76:=Tryz.zeroValue276
 t85:=Tryz.underlying283
 a85:=Tryz.isAgg283
 z85:=Tryz.sizeOf283
 v85:=Tryz.zeroValue283
 t127:=Tryz.underlying300
 a127:=Tryz.isAgg300
 z127:=Tryz.sizeOf300
 v127:=Tryz.zeroValue300
 t143:=Tryz.underlying301
 a143:=Tryz.isAgg301
 z143:=Tryz.sizeOf301
 v143:=Tryz.zeroValue301
 t145:=Tryz.underlying303
 a145:=Tryz.isAgg303
 z145:=Tryz.sizeOf303
 v145:=Tryz.zeroValue303
 t167:=Tryz.underlying282
 a167:=Tryz.isAgg282
 z167:=Tryz.sizeOf282
 v167:=Tryz.zeroValue282
 t168:=Tryz.underlying285
 a168:=Tryz.isAgg285
 z168:=Tryz.sizeOf285
 v168:=Tryz.zeroValue285
 t171:=Tryz.underlying295
 a171:=Tryz.isAgg295
 z171:=Tryz.sizeOf295
 v171:=Tryz.zeroValue295
 t173:=Tryz.underlying297
 a173:=Tryz.isAgg297
 z173:=Tryz.sizeOf297
 v173:=Tryz.zeroValue297
 t175:=Tryz.underlying289
 a175:=Tryz.isAgg289
 z175:=Tryz.sizeOf289
 v175:=Tryz.zeroValue289
 t210:=Tryz.underlying293
 a210:=Tryz.isAgg293
 z210:=Tryz.sizeOf293
 v210:=Tryz.zeroValue293
 t212:=Tryz.underlying306
 a212:=Tryz.isAgg306
 z212:=Tryz.sizeOf306
 v212:=Tryz.zeroValue306
 t213:=Tryz.underlying307
 a213:=Tryz.isAgg307
 z213:=Tryz.sizeOf307
 t232:=Tryz.underlying308
 a232:=Tryz.isAgg308
 z232:=Tryz.sizeOf308
 v232:=Tryz.zeroValue308
 t233:=Tryz.underlying309
 a233:=Tryz.isAgg309
 z233:=Tryz.sizeOf309
 v233:=Tryz.zeroValue309
 g15:=by kernel_rfl
 g16:=by kernel_rfl
 g17:=by kernel_rfl
 g18:=by kernel_rfl
 g19:=by kernel_rfl
 t80:=Tryz.underlying310
 a80:=Tryz.isAgg310
 z80:=Tryz.sizeOf310
 v80:=Tryz.zeroValue310
 i0:=by kernel_rfl
 i2:=by kernel_rfl
 i3:=by kernel_rfl
 i4:=by kernel_rfl
 i5:=by kernel_rfl
 i9:=by kernel_rfl
 i20:=by kernel_rfl
 i21:=by kernel_rfl
 i37:=by kernel_rfl
 i46:=by kernel_rfl
 i51:=by kernel_rfl
 i53:=by kernel_rfl
 i75:=by kernel_rfl
 i76:=by kernel_rfl
 i80:=by kernel_rfl
 i85:=by kernel_rfl
 i127:=by kernel_rfl
 i143:=by kernel_rfl
 i145:=by kernel_rfl
 i167:=by kernel_rfl
 i168:=by kernel_rfl
 i171:=by kernel_rfl
 i173:=by kernel_rfl
 i175:=by kernel_rfl
 i210:=by kernel_rfl
 i212:=by kernel_rfl
 i232:=by kernel_rfl
 i233:=by kernel_rfl
 m15:=by kernel_rfl
 m16:=by kernel_rfl
 m17:=by kernel_rfl
 m18:=by kernel_rfl
 m19:=by kernel_rfl
 c0:=by kernel_rfl
 c2:=by kernel_rfl
 c3:=by kernel_rfl
 c4:=by kernel_rfl
 c5:=by kernel_rfl
 c9:=by kernel_rfl
 c20:=by kernel_rfl
 c21:=by kernel_rfl
 c37:=by kernel_rfl
 c46:=by kernel_rfl
 c51:=by kernel_rfl
 c53:=by kernel_rfl
 c75:=by kernel_rfl
 c76:=by kernel_rfl
 c80:=by kernel_rfl
 c85:=by kernel_rfl
 c127:=by kernel_rfl
 c143:=by kernel_rfl
 c145:=by kernel_rfl
 c167:=by kernel_rfl
 c168:=by kernel_rfl
 c171:=by kernel_rfl
 c173:=by kernel_rfl
 c175:=by kernel_rfl
 c210:=by kernel_rfl
 c212:=by kernel_rfl
 c213:=by kernel_rfl
 c232:=by kernel_rfl
 c233:=by kernel_rfl }
def Tryz.laysM171_ren:Go.Shelf.Ren:=⟨fun | 171=>203 | 243=>208 | 246=>215 | 283=>219 | 284=>220 | 285=>221 | 286=>222 | 129=>99 | 317=>225 | 318=>226 | 319=>227 | 320=>228 | 337=>229 | 338=>230 | n=>n,fun | 3=>3 | 9=>9 | 2=>2 | 4=>4 | 171=>295 | 0=>0 | 53=>204 | 37=>235 | 5=>5 | 173=>297 | 212=>306 | 51=>202 | 20=>20 | 213=>307 | 46=>162 | 232=>308 | 233=>309 | n=>n,fun | 17=>2 | 18=>3 | 19=>4 | n=>n⟩
theorem Tryz.laysM171:Go.Proofs.LaysM.n171 Tryz.prog Tryz.laysM171_ren:={
 mixed:=by kernel_rfl
 f129:=Tryz.func99.trans (congrArg some (by kernel_rfl))
 f171:=Tryz.func203.trans (congrArg some (by kernel_rfl))
 f243:=Tryz.func208.trans (congrArg some (by kernel_rfl))
 f246:=Tryz.func215.trans (congrArg some (by kernel_rfl))
 f283:=Tryz.func219.trans (congrArg some (by kernel_rfl))
 f284:=Tryz.func220.trans (congrArg some (by kernel_rfl))
 f285:=Tryz.func221.trans (congrArg some (by kernel_rfl))
 f286:=Tryz.func222.trans (congrArg some (by kernel_rfl))
 f317:=Tryz.func225.trans (congrArg some (by kernel_rfl))
 f318:=Tryz.func226.trans (congrArg some (by kernel_rfl))
 f319:=Tryz.func227.trans (congrArg some (by kernel_rfl))
 f320:=Tryz.func228.trans (congrArg some (by kernel_rfl))
 f337:=Tryz.func229.trans (congrArg some (by kernel_rfl))
 f338:=Tryz.func230.trans (congrArg some (by kernel_rfl))
 t0:=Tryz.underlying0
 a0:=Tryz.isAgg0
 z0:=Tryz.sizeOf0
 v0:=Tryz.zeroValue0
 t2:=Tryz.underlying2
 a2:=Tryz.isAgg2
 z2:=Tryz.sizeOf2
 v2:=Tryz.zeroValue2
 t3:=Tryz.underlying3
 a3:=Tryz.isAgg3
 z3:=Tryz.sizeOf3
 v3:=Tryz.zeroValue3
 t4:=Tryz.underlying4
 a4:=Tryz.isAgg4
 z4:=Tryz.sizeOf4
 v4:=Tryz.zeroValue4
 t5:=Tryz.underlying5
 a5:=Tryz.isAgg5
 z5:=Tryz.sizeOf5
 v5:=Tryz.zeroValue5
 t9:=Tryz.underlying9
 a9:=Tryz.isAgg9
 z9:=Tryz.sizeOf9
 v9:=Tryz.zeroValue9
 t20:=Tryz.underlying20
 a20:=Tryz.isAgg20
 z20:=Tryz.sizeOf20
 v20:=Tryz.zeroValue20
 t37:=Tryz.underlying235
 a37:=Tryz.isAgg235
 z37:=Tryz.sizeOf235
 v37:=Tryz.zeroValue235
 t46:=Tryz.underlying162
 a46:=Tryz.isAgg162
 z46:=Tryz.sizeOf162
 v46:=Tryz.zeroValue162
 t51:=Tryz.underlying202
 a51:=Tryz.isAgg202
 z51:=Tryz.sizeOf202
 v51:=Tryz.zeroValue202
 t53:=Tryz.underlying204
 a53:=Tryz.isAgg204
 z53:=Tryz.sizeOf204
 v53:=Tryz.zeroValue204
 t171:=Tryz.underlying295
 a171:=Tryz.isAgg295
 z171:=Tryz.sizeOf295
 v171:=Tryz.zeroValue295
 t173:=Tryz.underlying297
 a173:=Tryz.isAgg297
 z173:=Tryz.sizeOf297
 v173:=Tryz.zeroValue297
 t212:=Tryz.underlying306
 a212:=Tryz.isAgg306
 z212:=Tryz.sizeOf306
 v212:=Tryz.zeroValue306
 t213:=Tryz.underlying307
 a213:=Tryz.isAgg307
 z213:=Tryz.sizeOf307
 t232:=Tryz.underlying308
 a232:=Tryz.isAgg308
 z232:=Tryz.sizeOf308
 v232:=Tryz.zeroValue308
 t233:=Tryz.underlying309
 a233:=Tryz.isAgg309
 z233:=Tryz.sizeOf309
 v233:=Tryz.zeroValue309
 g17:=by kernel_rfl
 g18:=by kernel_rfl
 g19:=by kernel_rfl
 i0:=by kernel_rfl
 i2:=by kernel_rfl
 i3:=by kernel_rfl
 i4:=by kernel_rfl
 i5:=by kernel_rfl
 i9:=by kernel_rfl
 i20:=by kernel_rfl
 i37:=by kernel_rfl
 i46:=by kernel_rfl
 i51:=by kernel_rfl
 i53:=by kernel_rfl
 i171:=by kernel_rfl
 i173:=by kernel_rfl
 i212:=by kernel_rfl
 i232:=by kernel_rfl
 i233:=by kernel_rfl
 m17:=by kernel_rfl
 m18:=by kernel_rfl
 m19:=by kernel_rfl }
end Go.Proofs
namespace T4
open Go Go.Proofs Pk Go.RowKit
abbrev Gv (M:Prop):Hp→Prop:=Gl M 0 1 2
noncomputable def HH (s:aF):Option (Int×Bool):=CD s
noncomputable def xF (n:Int):Option aF:=yM n
theorem VG {M:Prop} {W:World} {H:Hp} (hH:H.le (hp W)) (hg:Gv M H) (s:aF) {r:Int×Bool} (hr:HH s=some r):Calls Tryz.prog 202 [.string (bs s)].toArray W (hU M H W (fun v K=>∃ (er1:Value),v=.tuple [.int .i64 r.1,er1].toArray∧Er er1 r.2)):=by
 unfold HH CD at hr;obtain ⟨hl,hr⟩:=aH hr;obtain rfl:=Option.some.inj hr;have hd:(bs s).data.toList=s:=by simp [bs]
 have hz:(bs s).size=s.length:=mN s;obtain ⟨e0,h0,i0⟩:=hg.syn;obtain ⟨e1,h1,i1⟩:=hg.rng
 cases h:Lib.atoiAll s with
 | ok v =>
  refine (Any.strconv_Atoi_ok Tryz.laysC172 (bs s) (by omega) v (by rw [hd];exact h) W).mono ?_;rintro e w' ⟨rfl,hw⟩;refine ⟨⟨_,by simp [lI,h],.inl ⟨by simp [lI,h],rfl⟩⟩,?_⟩;rcases hw with rfl | ⟨t,rfl⟩
  ·exact iT.refl _ _
  exact iT.of_below hg.nq (Lib.bytesWorld_below _ _ _)
 | range =>
  refine (Any.strconv_Atoi_range Tryz.laysC172 (bs s) (by omega) (by rw [hd];exact h) e1 W (yL hH h1) i1).mono ?_;rintro e w' ⟨N,rfl,_,_,hb⟩;have hr1:lI s=(Lib.atoiSat s,true):=by simp [lI,h]
  rw [hr1,hd];exact ⟨⟨_,rfl,.inr ⟨rfl,_,_,rfl⟩⟩,iT.of_below hg.nq hb⟩
 | _ =>
  refine (Any.strconv_Atoi_syntax Tryz.laysC172 (bs s) (by omega) (by rw [hd];exact h) e0 W (yL hH h0) i0).mono ?_;rintro e w' ⟨N,rfl,_,_,hb⟩;have hr1:lI s=(0,true):=by simp [lI,h]
  rw [hr1];exact ⟨⟨_,rfl,.inr ⟨rfl,_,_,rfl⟩⟩,iT.of_below hg.nq hb⟩
theorem VH {M:Prop} {W:World} {H:Hp} (hH:H.le (hp W)) (hg:Gv M H) (n:Int) {r:aF} (hr:xF n=some r):Calls Tryz.prog 203 [.int .i64 n].toArray W (bV M W (.string (bs r))):=by
 unfold xF yM at hr;obtain ⟨hl,hr⟩:=aH hr;obtain rfl:=Option.some.inj hr;refine (Any.strconv_Itoa Tryz.laysM171 n hl.1 hl.2 W (CC (by kernel_rfl) hH hg.tab)).mono ?_;rintro e w' ⟨rfl,k,os,rfl⟩;exact ⟨rfl,rfl,rfl,rfl,(by show W.heap.size≤(W.heap++os).size;rw [Array.size_append];omega),fun b hb=>Array.getElem?_append_left hb,fun _=>Nat.le_add_right _ _⟩
end T4
namespace Go.Proofs
open Go.Shelf Go.RowKit
def Tryz.laysSlF6_f30_ren:Go.Shelf.Ren:=⟨fun | 6=>30 | 15=>55 | 14=>54 | 28=>98 | 29=>99 | 20=>90 | 21=>91 | 22=>92 | 23=>93 | 24=>94 | 25=>95 | 26=>96 | 27=>97 | 46=>146 | 47=>147 | 48=>148 | 49=>149 | 50=>150 | 57=>187 | n=>n,fun | 22=>55 | 24=>3 | 25=>110 | 3=>3 | 39=>162 | 0=>0 | 53=>202 | 55=>204 | 4=>4 | 46=>196 | 45=>195 | 50=>169 | 5=>5 | 9=>9 | 66=>241 | 70=>245 | 76=>262 | 77=>263 | n=>n,fun | n=>n⟩
theorem Tryz.laysSlF6_f30:Go.Proofs.SlLaysF.n6 Tryz.prog Tryz.laysSlF6_f30_ren:={
 mixed:=by kernel_rfl
 f6:=⟨Tryz.f30.name,by decide,Tryz.func30.trans (congrArg some (by kernel_rfl))⟩
 f14:=⟨Tryz.f54.name,by decide,Tryz.func54.trans (congrArg some (by kernel_rfl))⟩
 f15:=Tryz.func55.trans (congrArg some (by kernel_rfl))
 f20:=⟨Tryz.f90.name,by decide,Tryz.func90.trans (congrArg some (by kernel_rfl))⟩
 f21:=⟨Tryz.f91.name,by decide,Tryz.func91.trans (congrArg some (by kernel_rfl))⟩
 f22:=⟨Tryz.f92.name,by decide,Tryz.func92.trans (congrArg some (by kernel_rfl))⟩
 f23:=⟨Tryz.f93.name,by decide,Tryz.func93.trans (congrArg some (by kernel_rfl))⟩
 f24:=⟨Tryz.f94.name,by decide,Tryz.func94.trans (congrArg some (by kernel_rfl))⟩
 f25:=⟨Tryz.f95.name,by decide,Tryz.func95.trans (congrArg some (by kernel_rfl))⟩
 f26:=⟨Tryz.f96.name,by decide,Tryz.func96.trans (congrArg some (by kernel_rfl))⟩
 f27:=⟨Tryz.f97.name,by decide,Tryz.func97.trans (congrArg some (by kernel_rfl))⟩
 f28:=Tryz.func98.trans (congrArg some (by kernel_rfl))
 f29:=Tryz.func99.trans (congrArg some (by kernel_rfl))
 f46:=⟨Tryz.f146.name,by decide,Tryz.func146.trans (congrArg some (by kernel_rfl))⟩
 f47:=Tryz.func147.trans (congrArg some (by kernel_rfl))
 f48:=Tryz.func148.trans (congrArg some (by kernel_rfl))
 f49:=⟨Tryz.f149.name,by decide,Tryz.func149.trans (congrArg some (by kernel_rfl))⟩
 f50:=⟨Tryz.f150.name,by decide,Tryz.func150.trans (congrArg some (by kernel_rfl))⟩
 f57:=⟨Tryz.f187.name,by decide,Tryz.func187.trans (congrArg some (by kernel_rfl))⟩
 t0:=Tryz.underlying0
 a0:=Tryz.isAgg0
 z0:=Tryz.sizeOf0
 v0:=Tryz.zeroValue0
 t3:=Tryz.underlying3
 a3:=Tryz.isAgg3
 z3:=Tryz.sizeOf3
 v3:=Tryz.zeroValue3
 t4:=Tryz.underlying4
 a4:=Tryz.isAgg4
 z4:=Tryz.sizeOf4
 v4:=Tryz.zeroValue4
 t5:=Tryz.underlying5
 a5:=Tryz.isAgg5
 z5:=Tryz.sizeOf5
 v5:=Tryz.zeroValue5
 t9:=Tryz.underlying9
 a9:=Tryz.isAgg9
 z9:=Tryz.sizeOf9
 v9:=Tryz.zeroValue9
 t22:=Tryz.underlying55
 a22:=Tryz.isAgg55
 z22:=Tryz.sizeOf55
 v22:=Tryz.zeroValue55
 a24:=Tryz.isAgg3
 z24:=Tryz.sizeOf3
 t25:=Tryz.underlying110
 a25:=Tryz.isAgg110
 z25:=Tryz.sizeOf110
 v25:=Tryz.zeroValue110
 t39:=Tryz.underlying162
 a39:=Tryz.isAgg162
 z39:=Tryz.sizeOf162
 v39:=Tryz.zeroValue162
 t45:=Tryz.underlying195
 a45:=Tryz.isAgg195
 z45:=Tryz.sizeOf195
 v45:=Tryz.zeroValue195
 t46:=Tryz.underlying196
 a46:=Tryz.isAgg196
 z46:=Tryz.sizeOf196
 v46:=Tryz.zeroValue196
 t50:=Tryz.underlying169
 a50:=Tryz.isAgg169
 z50:=Tryz.sizeOf169
 v50:=Tryz.zeroValue169
 t53:=Tryz.underlying202
 a53:=Tryz.isAgg202
 z53:=Tryz.sizeOf202
 v53:=Tryz.zeroValue202
 t55:=Tryz.underlying204
 a55:=Tryz.isAgg204
 z55:=Tryz.sizeOf204
 v55:=Tryz.zeroValue204
 t66:=Tryz.underlying241
 a66:=Tryz.isAgg241
 z66:=Tryz.sizeOf241
 v66:=Tryz.zeroValue241
 t70:=Tryz.underlying245
 a70:=Tryz.isAgg245
 z70:=Tryz.sizeOf245
 v70:=Tryz.zeroValue245
 t76:=Tryz.underlying262
 a76:=Tryz.isAgg262
 z76:=Tryz.sizeOf262
 v76:=Tryz.zeroValue262
 t77:=Tryz.underlying263
 a77:=Tryz.isAgg263
 z77:=Tryz.sizeOf263
 v77:=Tryz.zeroValue263 }
end Go.Proofs
namespace Go.Proofs
open Go Pk
theorem Tryz.srt30:PO Tryz.prog 30 :=
  ⟨fun p cap fv w=>AnyF.slices_SortFunc_none (P:=Tryz.prog) (ρ:=Tryz.laysSlF6_f30_ren) { Tryz.laysSlF6_f30 with } p cap fv w,
   fun α _ enc h1 cf hO g cb blk off cap d w eg hc hH hb hs hT=>Any.slices_SortFunc_total Tryz.laysSlF6_f30 enc h1 cf hO g cb blk off cap d w eg hc hH hb hs hT⟩
end Go.Proofs
namespace T4
open Go Go.Proofs Pk
theorem J.{u} {α:Sort u} {a:α}:a=a:=rfl
structure cA where
 text:aF
 value:Int
 deriving DecidableEq,Inhabited
theorem cA.ext2 {x y:cA} (h0:x.text=y.text) (h1:x.value=y.value):x=y:=by
 cases x;cases y;simp_all
def cB (x:cA):List Value:=[.string (bs x.text),.int .i64 x.value]
structure aM where
 numbers:List cA
 names:List (List aF)
 nots:List aF
 deriving DecidableEq,Inhabited
theorem aM.ext2 {x y:aM} (h0:x.numbers=y.numbers) (h1:x.names=y.names) (h2:x.nots=y.nots):x=y:=by
 cases x;cases y;simp_all
def bM:Hp→List Value→aM→Prop:=fun H cs x=>∃ (ad0:Option Addr) (cap0:Nat) (ad1:Option Addr) (cap1:Nat) (HB:Option Addr) (cap2:Nat),cs=[.slice ad0 x.numbers.length cap0,.slice ad1 x.names.length cap1,.slice HB x.nots.length cap2]∧Sl (aG cB) 2 H ad0 cap0 x.numbers∧Sl (kA (aG bL) 1) 1 H ad1 cap1 x.names∧Sl (aG bL) 1 H HB cap2 x.nots
theorem bM.one:oW bM:=fun _ _ _ ⟨_,_,_,_,_,_,h,_⟩=>by subst h;rfl
theorem bM.mono:lA bM:=fun _ _ _ _ hk ⟨a0,c0,a1,c1,a2,c2,h,f0,f1,f2⟩=>⟨a0,c0,a1,c1,a2,c2,h,f0.mono (aG.mono _) hk,f1.mono (kA.mono (aG.mono _)) hk,f2.mono (aG.mono _) hk⟩
structure bW where
 kind:Int
 dP:Int
 eC:Int
 deriving DecidableEq,Inhabited
theorem bW.ext2 {x y:bW} (h0:x.kind=y.kind) (h1:x.dP=y.dP) (h2:x.eC=y.eC):x=y:=by
 cases x;cases y;simp_all
def dC (x:bW):List Value:=[.int .u8 x.kind,.int .i64 x.dP,.int .i64 x.eC]
structure dJ where
 text:aF
 speaker:Int
 deriving DecidableEq,Inhabited
theorem dJ.ext2 {x y:dJ} (h0:x.text=y.text) (h1:x.speaker=y.speaker):x=y:=by
 cases x;cases y;simp_all
def cD (x:dJ):List Value:=[.string (bs x.text),.int .i64 x.speaker]
structure aY where
 words:List dJ
 out:Int
 within:Int
 deriving DecidableEq,Inhabited
theorem aY.ext2 {x y:aY} (h0:x.words=y.words) (h1:x.out=y.out) (h2:x.within=y.within):x=y:=by
 cases x;cases y;simp_all
def dE:Hp→List Value→aY→Prop:=fun H cs x=>∃ (ad0:Option Addr) (cap0:Nat),cs=[.slice ad0 x.words.length cap0,.int .i64 x.out,.int .i64 x.within]∧Sl (aG cD) 2 H ad0 cap0 x.words
theorem dE.one:oW dE:=fun _ _ _ ⟨_,_,h,_⟩=>by subst h;rfl
theorem dE.mono:lA dE:=fun _ _ _ _ hk ⟨a0,c0,h,f0⟩=>⟨a0,c0,h,f0.mono (aG.mono _) hk⟩
structure aE where
 by_:Int
 minute:Int
 aI:Int
 cut:Int
 cV:List aF
 deriving DecidableEq,Inhabited
theorem aE.ext2 {x y:aE} (h0:x.by_=y.by_) (h1:x.minute=y.minute) (h2:x.aI=y.aI) (h3:x.cut=y.cut) (h4:x.cV=y.cV):x=y:=by
 cases x;cases y;simp_all
def aL:Hp→List Value→aE→Prop:=fun H cs x=>∃ (ad0:Option Addr) (cap0:Nat),cs=[.int .i64 x.by_,.int .i64 x.minute,.int .i64 x.aI,.int .i64 x.cut,.slice ad0 x.cV.length cap0]∧Sl (aG bL) 1 H ad0 cap0 x.cV
theorem aL.one:oW aL:=fun _ _ _ ⟨_,_,h,_⟩=>by subst h;rfl
theorem aL.mono:lA aL:=fun _ _ _ _ hk ⟨a0,c0,h,f0⟩=>⟨a0,c0,h,f0.mono (aG.mono _) hk⟩
structure aA where
 marks:List Int
 size:Int
 deriving DecidableEq,Inhabited
theorem aA.ext2 {x y:aA} (h0:x.marks=y.marks) (h1:x.size=y.size):x=y:=by
 cases x;cases y;simp_all
def aD:Hp→List Value→aA→Prop:=fun H cs x=>∃ (ad0:Option Addr) (cap0:Nat),cs=[.slice ad0 x.marks.length cap0,.int .i64 x.size]∧Sl (aG (aU .i64)) 1 H ad0 cap0 x.marks
theorem aD.one:oW aD:=fun _ _ _ ⟨_,_,h,_⟩=>by subst h;rfl
theorem aD.mono:lA aD:=fun _ _ _ _ hk ⟨a0,c0,h,f0⟩=>⟨a0,c0,h,f0.mono (aG.mono _) hk⟩
structure text where
 list:List aA
 deriving DecidableEq,Inhabited
theorem text.ext2 {x y:text} (h0:x.list=y.list):x=y:=by
 cases x;cases y;simp_all
def vH:Hp→List Value→text→Prop:=fun H cs x=>∃ (ad0:Option Addr) (cap0:Nat),cs=[.slice ad0 x.list.length cap0]∧Sl (aD) 2 H ad0 cap0 x.list
theorem vH.one:oW vH:=fun _ _ _ ⟨_,_,h,_⟩=>by subst h;rfl
theorem vH.mono:lA vH:=fun _ _ _ _ hk ⟨a0,c0,h,f0⟩=>⟨a0,c0,h,f0.mono (aD.mono) hk⟩
structure two where
 left:text
 right:text
 deriving DecidableEq,Inhabited
theorem two.ext2 {x y:two} (h0:x.left=y.left) (h1:x.right=y.right):x=y:=by
 cases x;cases y;simp_all
def jW:Hp→List Value→two→Prop:=fun H cs x=>∃ (ad0:Option Addr) (cap0:Nat) (ad1:Option Addr) (cap1:Nat),cs=[.slice ad0 x.left.list.length cap0,.slice ad1 x.right.list.length cap1]∧Sl (aD) 2 H ad0 cap0 x.left.list∧Sl (aD) 2 H ad1 cap1 x.right.list
theorem jW.one:oW jW:=fun _ _ _ ⟨_,_,_,_,h,_⟩=>by subst h;rfl
theorem jW.mono:lA jW:=fun _ _ _ _ hk ⟨a0,c0,a1,c1,h,f0,f1⟩=>⟨a0,c0,a1,c1,h,f0.mono (aD.mono) hk,f1.mono (aD.mono) hk⟩
structure bG where
 left:Int
 right:Int
 deriving DecidableEq,Inhabited
theorem bG.ext2 {x y:bG} (h0:x.left=y.left) (h1:x.right=y.right):x=y:=by
 cases x;cases y;simp_all
def bH (x:bG):List Value:=[.int .i64 x.left,.int .i64 x.right]
structure bN where
 left:Int
 right:Int
 deriving DecidableEq,Inhabited
theorem bN.ext2 {x y:bN} (h0:x.left=y.left) (h1:x.right=y.right):x=y:=by
 cases x;cases y;simp_all
def bP (x:bN):List Value:=[.int .i64 x.left,.int .i64 x.right]
structure aJ where
 vals:List Bool
 len:vals.length=1000
instance:Inhabited aJ:=⟨⟨List.replicate 1000 false,List.length_replicate⟩⟩
theorem aJ.ext2 {x y:aJ} (h:x.vals=y.vals):x=y:=by
 cases x;cases y;cases h;rfl
def aK (x:aJ):List Value:=x.vals.map (fun v=>Value.bool v)
theorem aJ.one (x:aJ):(aK x).all (fun x=>x.oneCell')=true:=by unfold aK;rw [List.all_map];exact List.all_eq_true.2 fun _ _=>rfl
theorem aJ.ln (x:aJ):(aK x).length=1000:=by unfold aK;rw [List.length_map];exact x.len
def aJ.get (x:aJ) (j:Nat):Bool:=x.vals.getD j false
def aJ.set (x:aJ) (j:Nat) (v:Bool):aJ:=⟨x.vals.set j v,by rw [List.length_set];exact x.len⟩
def aJ.zero:aJ:=⟨List.replicate 1000 false,List.length_replicate⟩
theorem aJ.st {x:aJ} {j:Nat} {v:Bool} (_:j < 1000):(aK x).set j (Value.bool v)=aK (x.set j v):=by unfold aK aJ.set;rw [List.map_set]
theorem aJ.at {x:aJ} {j:Nat} (h:j < 1000):(aK x)[j]?=some (Value.bool (x.get j)):=by
 have h2:x.vals[j]?=some (x.get j):=by unfold aJ.get;rw [List.getD_eq_getElem?_getD,List.getElem?_eq_getElem (by rw [x.len];exact h)];rfl
 unfold aK;rw [List.getElem?_map,h2];rfl
structure fR where
 text:text
 marks:aJ
 deriving Inhabited
theorem fR.ext2 {x y:fR} (h0:x.text=y.text) (h1:x.marks=y.marks):x=y:=by
 cases x;cases y;simp_all
def fS:Hp→List Value→fR→Prop:=fun H cs x=>∃ (ad0:Option Addr) (cap0:Nat),cs=(gV [.slice ad0 x.text.list.length cap0] (aK x.marks))∧Sl (aD) 2 H ad0 cap0 x.text.list
theorem fS.one:oW fS:=fun _ _ _ ⟨_,_,h,_⟩=>by subst h;exact tJ rfl (aJ.one _)
theorem fS.mono:lA fS:=fun _ _ _ _ hk ⟨a0,c0,h,f0⟩=>⟨a0,c0,h,f0.mono (aD.mono) hk⟩
structure aW where
 kind:Int
 value:Int
 deriving DecidableEq,Inhabited
theorem aW.ext2 {x y:aW} (h0:x.kind=y.kind) (h1:x.value=y.value):x=y:=by
 cases x;cases y;simp_all
def bE (x:aW):List Value:=[.int .u8 x.kind,.int .i64 x.value]
structure rules where
 fA:List (aF×aW)
 bK:List bW
 deriving DecidableEq,Inhabited
theorem rules.ext2 {x y:rules} (h0:x.fA=y.fA) (h1:x.bK=y.bK):x=y:=by
 cases x;cases y;simp_all
def oA:Hp→List Value→rules→Prop:=fun H cs x=>∃ (mp0:Value) (ad1:Option Addr) (cap1:Nat),cs=[mp0,.slice ad1 x.bK.length cap1]∧Mp lH (fun x=>Value.agg (bE x).toArray) H mp0 x.fA∧Sl (aG dC) 3 H ad1 cap1 x.bK
theorem oA.mono:lA oA:=fun _ _ _ _ hk ⟨m0,a1,c1,h,f0,f1⟩=>⟨m0,a1,c1,h,f0.mono hk,f1.mono (aG.mono _) hk⟩
structure cJ where
 report:aY
 rules:rules
 fB:List aE
 which:List Int
 errors:List Int
 deriving DecidableEq,Inhabited
theorem cJ.ext2 {x y:cJ} (h0:x.report=y.report) (h1:x.rules=y.rules) (h2:x.fB=y.fB) (h3:x.which=y.which) (h4:x.errors=y.errors):x=y:=by
 cases x;cases y;simp_all
def fT:Hp→List Value→cJ→Prop:=fun H cs x=>∃ (ad0:Option Addr) (cap0:Nat) (mp1:Value) (HB:Option Addr) (cap2:Nat) (CK:Option Addr) (cap3:Nat) (ad4:Option Addr) (cap4:Nat) (ad5:Option Addr) (cap5:Nat),cs=[.slice ad0 x.report.words.length cap0,.int .i64 x.report.out,.int .i64 x.report.within,mp1,.slice HB x.rules.bK.length cap2,.slice CK x.fB.length cap3,.slice ad4 x.which.length cap4,.slice ad5 x.errors.length cap5]∧Sl (aG cD) 2 H ad0 cap0 x.report.words∧Mp lH (fun x=>Value.agg (bE x).toArray) H mp1 x.rules.fA∧Sl (aG dC) 3 H HB cap2 x.rules.bK∧Sl (aL) 5 H CK cap3 x.fB∧Sl (aG (aU .i64)) 1 H ad4 cap4 x.which∧Sl (aG (aU .i64)) 1 H ad5 cap5 x.errors
theorem fT.mono:lA fT:=fun _ _ _ _ hk ⟨a0,c0,m1,a2,c2,a3,c3,a4,c4,a5,c5,h,f0,f1,f2,f3,f4,f5⟩=>⟨a0,c0,m1,a2,c2,a3,c3,a4,c4,a5,c5,h,f0.mono (aG.mono _) hk,f1.mono hk,f2.mono (aG.mono _) hk,f3.mono (aL.mono) hk,f4.mono (aG.mono _) hk,f5.mono (aG.mono _) hk⟩
structure aT where
 dP:List aF
 eC:List aF
 request:Int
 deriving DecidableEq,Inhabited
theorem aT.ext2 {x y:aT} (h0:x.dP=y.dP) (h1:x.eC=y.eC) (h2:x.request=y.request):x=y:=by
 cases x;cases y;simp_all
def bD:Hp→List Value→aT→Prop:=fun H cs x=>∃ (ad0:Option Addr) (cap0:Nat) (ad1:Option Addr) (cap1:Nat),cs=[.slice ad0 x.dP.length cap0,.slice ad1 x.eC.length cap1,.int .i64 x.request]∧Sl (aG bL) 1 H ad0 cap0 x.dP∧Sl (aG bL) 1 H ad1 cap1 x.eC
theorem bD.one:oW bD:=fun _ _ _ ⟨_,_,_,_,h,_⟩=>by subst h;rfl
theorem bD.mono:lA bD:=fun _ _ _ _ hk ⟨a0,c0,a1,c1,h,f0,f1⟩=>⟨a0,c0,a1,c1,h,f0.mono (aG.mono _) hk,f1.mono (aG.mono _) hk⟩
theorem JF:oX Tryz.prog 132 (fun x=>Value.agg (bH x).toArray):=oX.two (f:=fun x=>x.left) (g:=fun x=>x.right) Tryz.underlying132 Tryz.underlying3 Tryz.underlying3 (by decide) (by decide) rfl rfl (by kernel_rfl) (fun _=>rfl) (fun _ _ h1 h2=>bG.ext2 h1 h2)
theorem mixed:Tryz.prog.follows .mixedOrders=true:=by kernel_rfl
theorem B45:dI Tryz.prog 45 [.slice none 0 0,.slice none 0 0,.slice none 0 0] #[(0,1),(1,1),(2,1)]:=⟨⟨.agg [.slice none 0 0,.slice none 0 0,.slice none 0 0].toArray,rfl,Tryz.zeroValue45⟩,⟨_,Tryz.underlying45,fun _=>by kernel_rfl⟩⟩
theorem B49:dI Tryz.prog 49 [.slice none 0 0,.int .i64 0,.int .i64 0] #[(0,1),(1,1),(2,1)]:=⟨⟨.agg [.slice none 0 0,.int .i64 0,.int .i64 0].toArray,rfl,Tryz.zeroValue49⟩,⟨_,Tryz.underlying49,fun _=>by kernel_rfl⟩⟩
theorem VI:dI Tryz.prog 54 [.slice none 0 0,.slice none 0 0,.int .i64 0] #[(0,1),(1,1),(2,1)]:=⟨⟨.agg [.slice none 0 0,.slice none 0 0,.int .i64 0].toArray,rfl,Tryz.zeroValue54⟩,⟨_,Tryz.underlying54,fun _=>by kernel_rfl⟩⟩
theorem jX:dI Tryz.prog 58 [.slice none 0 0,.int .i64 0] #[(0,1),(1,1)]:=⟨⟨.agg [.slice none 0 0,.int .i64 0].toArray,rfl,Tryz.zeroValue58⟩,⟨_,Tryz.underlying58,fun _=>by kernel_rfl⟩⟩
theorem NK:dI Tryz.prog 96 [.int .i64 0,.int .i64 0] #[(0,1),(1,1)]:=⟨⟨.agg [.int .i64 0,.int .i64 0].toArray,rfl,Tryz.zeroValue96⟩,⟨_,Tryz.underlying96,fun _=>by kernel_rfl⟩⟩
theorem HI:dI Tryz.prog 104 [.map none,.slice none 0 0] #[(0,1),(1,1)]:=⟨⟨.agg [.map none,.slice none 0 0].toArray,rfl,Tryz.zeroValue104⟩,⟨_,Tryz.underlying104,fun _=>by kernel_rfl⟩⟩
theorem VJ:dI Tryz.prog 107 [.slice none 0 0,.int .i64 0,.int .i64 0,.map none,.slice none 0 0,.slice none 0 0,.slice none 0 0,.slice none 0 0] #[(0,3),(3,2),(5,1),(6,1),(7,1)]:=⟨⟨.agg [.slice none 0 0,.int .i64 0,.int .i64 0,.map none,.slice none 0 0,.slice none 0 0,.slice none 0 0,.slice none 0 0].toArray,rfl,Tryz.zeroValue107⟩,⟨_,Tryz.underlying107,fun _=>by kernel_rfl⟩⟩
theorem VK:dI Tryz.prog 109 [.int .i64 0,.int .i64 0,.int .i64 0,.int .i64 0,.slice none 0 0] #[(0,1),(1,1),(2,1),(3,1),(4,1)]:=⟨⟨.agg [.int .i64 0,.int .i64 0,.int .i64 0,.int .i64 0,.slice none 0 0].toArray,rfl,Tryz.zeroValue109⟩,⟨_,Tryz.underlying109,fun _=>by kernel_rfl⟩⟩
theorem VL:dI Tryz.prog 115 [.string (bs []),.int .i64 0] #[(0,1),(1,1)]:=⟨⟨.agg [.string (bs []),.int .i64 0].toArray,rfl,Tryz.zeroValue115⟩,⟨_,Tryz.underlying115,fun _=>by kernel_rfl⟩⟩
theorem VM:dI Tryz.prog 116 [.string (bs []),.int .i64 0] #[(0,1),(1,1)]:=⟨⟨.agg [.string (bs []),.int .i64 0].toArray,rfl,Tryz.zeroValue116⟩,⟨_,Tryz.underlying116,fun _=>by kernel_rfl⟩⟩
theorem CX:dI Tryz.prog 120 [.int .u8 0,.int .i64 0] #[(0,1),(1,1)]:=⟨⟨.agg [.int .u8 0,.int .i64 0].toArray,rfl,Tryz.zeroValue120⟩,⟨_,Tryz.underlying120,fun _=>by kernel_rfl⟩⟩
theorem CY:dI Tryz.prog 124 [.slice none 0 0] #[(0,1)]:=⟨⟨.agg [.slice none 0 0].toArray,rfl,Tryz.zeroValue124⟩,⟨_,Tryz.underlying124,fun _=>by kernel_rfl⟩⟩
theorem PT:dI Tryz.prog 126 [.slice none 0 0,.slice none 0 0] #[(0,1),(1,1)]:=⟨⟨.agg [.slice none 0 0,.slice none 0 0].toArray,rfl,Tryz.zeroValue126⟩,⟨_,Tryz.underlying126,fun _=>by kernel_rfl⟩⟩
theorem rI:dI Tryz.prog 132 [.int .i64 0,.int .i64 0] #[(0,1),(1,1)]:=⟨⟨.agg [.int .i64 0,.int .i64 0].toArray,rfl,Tryz.zeroValue132⟩,⟨_,Tryz.underlying132,fun _=>by kernel_rfl⟩⟩
set_option maxRecDepth 1000000 in
theorem VN:dI Tryz.prog 135 (gV [.slice none 0 0] (aK aJ.zero)) #[(0,1),(1,1000)]:=⟨⟨.agg (gV [.slice none 0 0] (aK aJ.zero)).toArray,rfl,Tryz.zeroValue135⟩,⟨_,Tryz.underlying135,fun _=>by kernel_rfl⟩⟩
theorem VO:dI Tryz.prog 144 [.int .u8 0,.int .i64 0,.int .i64 0] #[(0,1),(1,1),(2,1)]:=⟨⟨.agg [.int .u8 0,.int .i64 0,.int .i64 0].toArray,rfl,Tryz.zeroValue144⟩,⟨_,Tryz.underlying144,fun _=>by kernel_rfl⟩⟩
theorem AI:dI Tryz.prog 192 [.nilFunc,.int .i64 0] #[(0,1),(1,1)]:=⟨⟨.agg [.nilFunc,.int .i64 0].toArray,rfl,Tryz.zeroValue192⟩,⟨_,Tryz.underlying192,fun _=>by kernel_rfl⟩⟩
theorem LD:dI Tryz.prog 213 [.nilFunc] #[(0,1)]:=⟨⟨.agg [.nilFunc].toArray,rfl,Tryz.zeroValue213⟩,⟨_,Tryz.underlying213,fun _=>by kernel_rfl⟩⟩
theorem vI:dI Tryz.prog 232 [.int .u8 0,.int .i64 0] #[(0,1),(1,1)]:=⟨⟨.agg [.int .u8 0,.int .i64 0].toArray,rfl,Tryz.zeroValue232⟩,⟨_,Tryz.underlying232,fun _=>by kernel_rfl⟩⟩
theorem E23:cP Tryz.prog 23 24 [.slice none 0 0] 1 24:=⟨Tryz.underlying23,⟨_,.slice none 0 0,eG Tryz.type24,rfl,rfl,rfl,rfl⟩,rfl,by decide⟩
theorem HJ:cP Tryz.prog 24 9 [.string (bs [])] 1 16:=⟨Tryz.underlying24,⟨_,.string (bs []),eG Tryz.type9,rfl,rfl,rfl,rfl⟩,rfl,by decide⟩
theorem VP:cP Tryz.prog 31 93 [.slice none 0 0,.int .i64 0] 2 32:=⟨Tryz.underlying31,⟨_,.agg [.slice none 0 0,.int .i64 0].toArray,eG Tryz.type93,rfl,rfl,rfl,rfl⟩,rfl,by decide⟩
theorem NL:cP Tryz.prog 39 54 [.slice none 0 0,.slice none 0 0,.int .i64 0] 3 56:=⟨Tryz.underlying39,⟨_,.agg [.slice none 0 0,.slice none 0 0,.int .i64 0].toArray,eG Tryz.type54,rfl,rfl,rfl,rfl⟩,rfl,by decide⟩
theorem E43:cP Tryz.prog 43 115 [.string (bs []),.int .i64 0] 2 24:=⟨Tryz.underlying43,⟨_,.agg [.string (bs []),.int .i64 0].toArray,eG Tryz.type115,rfl,rfl,rfl,rfl⟩,rfl,by decide⟩
theorem E47:cP Tryz.prog 47 116 [.string (bs []),.int .i64 0] 2 24:=⟨Tryz.underlying47,⟨_,.agg [.string (bs []),.int .i64 0].toArray,eG Tryz.type116,rfl,rfl,rfl,rfl⟩,rfl,by decide⟩
theorem TM:cP Tryz.prog 51 109 [.int .i64 0,.int .i64 0,.int .i64 0,.int .i64 0,.slice none 0 0] 5 56:=⟨Tryz.underlying51,⟨_,.agg [.int .i64 0,.int .i64 0,.int .i64 0,.int .i64 0,.slice none 0 0].toArray,eG Tryz.type109,rfl,rfl,rfl,rfl⟩,rfl,by decide⟩
theorem xG:cP Tryz.prog 55 3 [.int .i64 0] 1 8:=⟨Tryz.underlying55,⟨_,.int .i64 0,eG Tryz.type3,rfl,rfl,rfl,rfl⟩,rfl,by decide⟩
theorem eN:cP Tryz.prog 59 58 [.slice none 0 0,.int .i64 0] 2 32:=⟨Tryz.underlying59,⟨_,.agg [.slice none 0 0,.int .i64 0].toArray,eG Tryz.type58,rfl,rfl,rfl,rfl⟩,rfl,by decide⟩
theorem LE:cP Tryz.prog 60 96 [.int .i64 0,.int .i64 0] 2 16:=⟨Tryz.underlying60,⟨_,.agg [.int .i64 0,.int .i64 0].toArray,eG Tryz.type96,rfl,rfl,rfl,rfl⟩,rfl,by decide⟩
theorem VQ:cP Tryz.prog 105 40 [.int .i64 0] 1 8:=⟨Tryz.underlying105,⟨_,.int .i64 0,eG Tryz.type40,rfl,rfl,rfl,rfl⟩,rfl,by decide⟩
theorem VR:cP Tryz.prog 117 120 [.int .u8 0,.int .i64 0] 2 16:=⟨Tryz.underlying117,⟨_,.agg [.int .u8 0,.int .i64 0].toArray,eG Tryz.type120,rfl,rfl,rfl,rfl⟩,rfl,by decide⟩
theorem VS:cP Tryz.prog 193 192 [.nilFunc,.int .i64 0] 2 16:=⟨Tryz.underlying193,⟨_,.agg [.nilFunc,.int .i64 0].toArray,eG Tryz.type192,rfl,rfl,rfl,rfl⟩,rfl,by decide⟩
theorem VT:cP Tryz.prog 210 213 [.nilFunc] 1 8:=⟨Tryz.underlying210,⟨_,.agg [.nilFunc].toArray,eG Tryz.type213,rfl,rfl,rfl,rfl⟩,rfl,by decide⟩
theorem VU:cP Tryz.prog 238 232 [.int .u8 0,.int .i64 0] 2 16:=⟨Tryz.underlying238,⟨_,.agg [.int .u8 0,.int .i64 0].toArray,eG Tryz.type232,rfl,rfl,rfl,rfl⟩,rfl,by decide⟩
theorem Q96:uM Tryz.prog 96 bP:=⟨fun x y w=>by
 have h0:Tryz.prog.underlying 96=some (.struct (Tryz.prog.fieldsOf 96)):=by kernel_rfl
 rw [run_equalIn_struct w 9999 96 _ _ h0 (by kernel_rfl)];simp only [Program.fieldsOf,Tryz.underlying96];have e:(x=y)=(x.left=y.left∧x.right=y.right):=by cases x;cases y;simp
 simp only [e];simp [Op.eqFields,bP,part,Tryz.isAgg3,qA Tryz.underlying3,qA Tryz.underlying3]
 by_cases h0:x.left=y.left <;> by_cases h1:x.right=y.right <;> simp [h0,h1],by kernel_rfl⟩
theorem LF:uM Tryz.prog 132 bH:=⟨fun x y w=>by
 have h0:Tryz.prog.underlying 132=some (.struct (Tryz.prog.fieldsOf 132)):=by kernel_rfl
 rw [run_equalIn_struct w 9999 132 _ _ h0 (by kernel_rfl)];simp only [Program.fieldsOf,Tryz.underlying132];have e:(x=y)=(x.left=y.left∧x.right=y.right):=by cases x;cases y;simp
 simp only [e];simp [Op.eqFields,bH,part,Tryz.isAgg3,qA Tryz.underlying3,qA Tryz.underlying3]
 by_cases h0:x.left=y.left <;> by_cases h1:x.right=y.right <;> simp [h0,h1],by kernel_rfl⟩
theorem VV:uM Tryz.prog 144 dC:=⟨fun x y w=>by
 have h0:Tryz.prog.underlying 144=some (.struct (Tryz.prog.fieldsOf 144)):=by kernel_rfl
 rw [run_equalIn_struct w 9999 144 _ _ h0 (by kernel_rfl)];simp only [Program.fieldsOf,Tryz.underlying144];have e:(x=y)=(x.kind=y.kind∧x.dP=y.dP∧x.eC=y.eC):=by cases x;cases y;simp
 simp only [e];simp [Op.eqFields,dC,part,Tryz.isAgg3,Tryz.isAgg5,qA Tryz.underlying5,qA Tryz.underlying3,qA Tryz.underlying3]
 by_cases h0:x.kind=y.kind <;> by_cases h1:x.dP=y.dP <;> by_cases h2:x.eC=y.eC <;> simp [h0,h1,h2],by kernel_rfl⟩
theorem VW:uM Tryz.prog 232 bE:=⟨fun x y w=>by
 have h0:Tryz.prog.underlying 232=some (.struct (Tryz.prog.fieldsOf 232)):=by kernel_rfl
 rw [run_equalIn_struct w 9999 232 _ _ h0 (by kernel_rfl)];simp only [Program.fieldsOf,Tryz.underlying232];have e:(x=y)=(x.kind=y.kind∧x.value=y.value):=by cases x;cases y;simp
 simp only [e];simp [Op.eqFields,bE,part,Tryz.isAgg3,Tryz.isAgg5,qA Tryz.underlying5,qA Tryz.underlying3]
 by_cases h0:x.kind=y.kind <;> by_cases h1:x.value=y.value <;> simp [h0,h1],by kernel_rfl⟩
set_option maxRecDepth 1000000 in
theorem oK:∀ w,(zeroValue 135).run Tryz.prog w=.ok (.agg (gV [.slice none 0 0] (aK aJ.zero)).toArray) w:=Tryz.zeroValue135
end T4
set_option maxHeartbeats 4000000
namespace T4
open Go Go.Proofs Pk
noncomputable def vJ (l_0:List aF) (s0:Nat):Option ((Nat)⊕((Unit)⊕Bool)) :=
 if (s0:Int) < (l_0.length:Int) then (
  (l_0[s0]?).bind fun x0 =>
  if 40 < (x0.length:Int) then (
   some (.inr (.inr false)))
  else
  some (.inl (s0+1)))
 else
 some (.inr (.inl ()))
noncomputable def LG (l_0:List aF) (most:Int):Option (Bool) :=
 (aQ (vJ l_0) 0).bind fun e16=>match e16 with
 | .inr z=>some z
 | .inl t19 =>
 some (decide ((l_0.length:Int)≤most))
noncomputable def CZ (l_0:aM) (s0:Nat):Option ((Nat)⊕((Unit)⊕Bool)) :=
 ((
  if (s0:Int) < (l_0.numbers.length:Int) then (
   some (decide ((s0:Int) < 46)))
  else
  some false
 ):Option (Bool)).bind fun t0 =>
 if t0 then (
  (l_0.numbers[s0]?).bind fun x0 =>
  if 40 < (x0.text.length:Int) then (
   some (.inr (.inr false)))
  else
  cQ (-9223372036854775808≤((s0:Int)+1)∧((s0:Int)+1)≤9223372036854775807) <|
  some (.inl (s0+1)))
 else
 some (.inr (.inl ()))
noncomputable def DA (l_0:aM) (s0:Nat):Option ((Nat)⊕((Unit)⊕Bool)) :=
 ((
  if (s0:Int) < (l_0.names.length:Int) then (
   some (decide ((s0:Int) < 46)))
  else
  some false
 ):Option (Bool)).bind fun t0 =>
 if t0 then (
  (l_0.names[s0]?).bind fun x0 =>
  (LG x0 8).bind fun r0 =>
  if r0 then (
   cQ (-9223372036854775808≤((s0:Int)+1)∧((s0:Int)+1)≤9223372036854775807) <|
   some (.inl (s0+1)))
  else
  some (.inr (.inr false)))
 else
 some (.inr (.inl ()))
noncomputable def m5 (l_0:aM) (bK:List bW):Option (Bool) :=
 (aQ (CZ l_0) 0).bind fun e34=>match e34 with
 | .inr z=>some z
 | .inl t1 =>
 (aQ (DA l_0) 0).bind fun eA1=>match eA1 with
 | .inr z=>some z
 | .inl t2 =>
 ((
  if (l_0.numbers.length:Int)≤45 then (
   if (l_0.names.length:Int)≤45 then (
    (LG l_0.nots 45).bind fun r0 =>
    if r0 then (
     some (decide ((bK.length:Int)≤25)))
    else
    some false)
   else
   some false)
  else
  some false
 ):Option (Bool)).bind fun t0 =>
 some t0
noncomputable def DB (r_0:aY) (s0:Nat):Option ((Nat)⊕((Unit)⊕Bool)) :=
 ((
  if (s0:Int) < (r_0.words.length:Int) then (
   some (decide ((s0:Int) < 86)))
  else
  some false
 ):Option (Bool)).bind fun t0 =>
 if t0 then (
  (r_0.words[s0]?).bind fun x0 =>
  if 40 < (x0.text.length:Int) then (
   some (.inr (.inr false)))
  else
  cQ (-9223372036854775808≤((s0:Int)+1)∧((s0:Int)+1)≤9223372036854775807) <|
  some (.inl (s0+1)))
 else
 some (.inr (.inl ()))
noncomputable def DD (requests:List aE) (s0:Nat):Option ((Nat)⊕((Unit)⊕Bool)) :=
 ((
  if (s0:Int) < (requests.length:Int) then (
   some (decide ((s0:Int) < 26)))
  else
  some false
 ):Option (Bool)).bind fun t0 =>
 if t0 then (
  (requests[s0]?).bind fun x0 =>
  (LG x0.cV 12).bind fun r0 =>
  if r0 then (
   cQ (-9223372036854775808≤((s0:Int)+1)∧((s0:Int)+1)≤9223372036854775807) <|
   some (.inl (s0+1)))
  else
  some (.inr (.inr false)))
 else
 some (.inr (.inl ()))
noncomputable def m6 (r_0:aY) (requests:List aE):Option (Bool) :=
 (aQ (DB r_0) 0).bind fun e28=>match e28 with
 | .inr z=>some z
 | .inl t1 =>
 (aQ (DD requests) 0).bind fun e106=>match e106 with
 | .inr z=>some z
 | .inl t2 =>
 ((
  if (r_0.words.length:Int)≤85 then (
   some (decide ((requests.length:Int)≤25)))
  else
  some false
 ):Option (Bool)).bind fun t0 =>
 some t0
noncomputable def HK (n_0:Int) (low:Int) (high:Int):Option (Bool) :=
 ((
  if low≤n_0 then (
   some (decide (n_0≤high)))
  else
  some false
 ):Option (Bool)).bind fun t4 =>
 some t4
noncomputable def vK (s_0:aF) (s0:Nat):Option ((Nat)⊕((Unit)⊕Bool)) :=
 if (s0:Int) < (s_0.length:Int) then (
  ((
   (s_0[s0]?).bind fun x0 =>
   if (x0.toNat:Int) < 33 then (
    some true)
   else
   some (decide (126 < (x0.toNat:Int)))
  ):Option (Bool)).bind fun t0 =>
  if t0 then (
   some (.inr (.inr false)))
  else
  cQ (-9223372036854775808≤((s0:Int)+1)∧((s0:Int)+1)≤9223372036854775807) <|
  some (.inl (s0+1)))
 else
 some (.inr (.inl ()))
noncomputable def LH (s_0:aF):Option (Bool) :=
 (aQ (vK s_0) 0).bind fun e17=>match e17 with
 | .inr z=>some z
 | .inl t0 =>
 (HK (s_0.length:Int) 1 32).bind fun r0 =>
 some r0
noncomputable def vL (l_0:List aF) (s0:Nat):Option ((Nat)⊕((Unit)⊕Bool)) :=
 if (s0:Int) < (l_0.length:Int) then (
  (l_0[s0]?).bind fun x0 =>
  (LH x0).bind fun r0 =>
  if r0 then (
   some (.inl (s0+1)))
  else
  some (.inr (.inr false)))
 else
 some (.inr (.inl ()))
noncomputable def NM (l_0:List aF) (most:Int):Option (Bool) :=
 (aQ (vL l_0) 0).bind fun e19=>match e19 with
 | .inr z=>some z
 | .inl t0 =>
 some (decide ((l_0.length:Int)≤most))
noncomputable def AJ (l_0:aM) (s0:Nat×List aF):Option ((Nat×List aF)⊕((List aF)⊕Int)) :=
 if (s0.1:Int) < (l_0.numbers.length:Int) then (
  ((
   (l_0.numbers[s0.1]?).bind fun x0 =>
   (LH x0.text).bind fun r0 =>
   if r0 then (
    (HK x0.value 0 999999999).bind fun r1 =>
    some (!r1))
   else
   some true
  ):Option (Bool)).bind fun t0 =>
  if t0 then (
   some (.inr (.inr 1)))
  else
  (l_0.numbers[s0.1]?).bind fun x1 =>
  cQ (s0.2.length+1≤1073741824) <|
  some (.inl ((s0.1+1),(s0.2++[x1.text]))))
 else
 some (.inr (.inl s0.2))
noncomputable def AK (l_0:aM) (s0:Nat×List aF):Option ((Nat×List aF)⊕((List aF)⊕Int)) :=
 if (s0.1:Int) < (l_0.names.length:Int) then (
  ((
   (l_0.names[s0.1]?).bind fun x0 =>
   if (x0.length:Int)=0 then (
    some true)
   else
   (NM x0 5).bind fun r0 =>
   some (!r0)
  ):Option (Bool)).bind fun t0 =>
  if t0 then (
   some (.inr (.inr 1)))
  else
  (l_0.names[s0.1]?).bind fun x1 =>
  cQ (s0.2.length+x1.length≤1073741824) <|
  some (.inl ((s0.1+1),(s0.2++x1))))
 else
 some (.inr (.inl s0.2))
noncomputable def AL (s1:Nat) (t0:List aF) (l_0:aM) (s0:Nat):Option ((Nat)⊕((Unit)⊕((Nat)⊕((Unit)⊕Int)))) :=
 if (s0:Int) < (s1:Int) then (
  ((t0++l_0.nots)[s1]?).bind fun x0 =>
  ((t0++l_0.nots)[s0]?).bind fun x1 =>
  if x0=x1 then (
   some (.inr (.inr (.inr (.inr 6)))))
  else
  cQ (-9223372036854775808≤((s0:Int)+1)∧((s0:Int)+1)≤9223372036854775807) <|
  some (.inl (s0+1)))
 else
 some (.inr (.inl ()))
noncomputable def AM (t0:List aF) (l_0:aM) (s0:Nat):Option ((Nat)⊕((Unit)⊕Int)) :=
 if (s0:Int) < ((t0++l_0.nots).length:Int) then (
  (aQ (AL s0 t0 l_0) 0).bind fun eA1=>match eA1 with
  | .inr z=>some z
  | .inl t1 =>
  some (.inl (s0+1)))
 else
 some (.inr (.inl ()))
noncomputable def m7 (l_0:aM):Option (Int) :=
 (aQ (AJ l_0) (0,([]:List aF))).bind fun eA1=>match eA1 with
 | .inr z=>some z
 | .inl t1 =>
 (aQ (AK l_0) (0,t1)).bind fun eB1=>match eB1 with
 | .inr z=>some z
 | .inl t0 =>
 ((
  (NM l_0.nots 40).bind fun r0 =>
  if r0 then (
   if 40 < (l_0.numbers.length:Int) then (
    some true)
   else
   some (decide (40 < (l_0.names.length:Int))))
  else
  some true
 ):Option (Bool)).bind fun t2 =>
 if t2 then (
  some 1)
 else
 cQ (t0.length+l_0.nots.length≤1073741824) <|
 (aQ (AM t0 l_0) 0).bind fun eC1=>match eC1 with
 | .inr z=>some z
 | .inl t3 =>
 some 0
noncomputable def DE (r_0:aY) (s0:Nat):Option ((Nat)⊕((Unit)⊕Bool)) :=
 if (s0:Int) < (r_0.words.length:Int) then (
  ((
   (r_0.words[s0]?).bind fun x0 =>
   (LH x0.text).bind fun r0 =>
   if r0 then (
    (HK x0.speaker 0 999).bind fun r1 =>
    some (!r1))
   else
   some true
  ):Option (Bool)).bind fun t0 =>
  if t0 then (
   some (.inr (.inr false)))
  else
  some (.inl (s0+1)))
 else
 some (.inr (.inl ()))
noncomputable def m8 (r_0:aY):Option (Bool) :=
 (aQ (DE r_0) 0).bind fun e32=>match e32 with
 | .inr z=>some z
 | .inl t1 =>
 ((
  if (r_0.words.length:Int)≤80 then (
   (HK r_0.out 0 100000).bind fun r0 =>
   if r0 then (
    (HK r_0.within 0 100000).bind fun r1 =>
    some r1)
   else
   some false)
  else
  some false
 ):Option (Bool)).bind fun t0 =>
 some t0
noncomputable def HL (left:List aA) (s0:Nat):Option ((Nat)⊕((Unit)⊕Bool)) :=
 if (s0:Int) < (left.length:Int) then (
  (left[s0]?).bind fun x0 =>
  if 15 < (x0.marks.length:Int) then (
   some (.inr (.inr false)))
  else
  some (.inl (s0+1)))
 else
 some (.inr (.inl ()))
noncomputable def LI (right:List aA) (s0:Nat):Option ((Nat)⊕((Unit)⊕Bool)) :=
 if (s0:Int) < (right.length:Int) then (
  (right[s0]?).bind fun x0 =>
  if 15 < (x0.marks.length:Int) then (
   some (.inr (.inr false)))
  else
  some (.inl (s0+1)))
 else
 some (.inr (.inl ()))
noncomputable def m9 (left:List aA) (right:List aA):Option (Bool) :=
 (aQ (HL left) 0).bind fun e20=>match e20 with
 | .inr z=>some z
 | .inl t1 =>
 (aQ (LI right) 0).bind fun e86=>match e86 with
 | .inr z=>some z
 | .inl t2 =>
 ((
  if (left.length:Int)≤22 then (
   some (decide ((right.length:Int)≤22)))
  else
  some false
 ):Option (Bool)).bind fun t0 =>
 some t0
noncomputable def NN (n_0:Int) (low:Int) (high:Int):Option (Bool) :=
 ((
  if low≤n_0 then (
   some (decide (n_0≤high)))
  else
  some false
 ):Option (Bool)).bind fun t4 =>
 some t4
noncomputable def DG (l_0:List Int) (s0:Nat):Option ((Nat)⊕((Unit)⊕Bool)) :=
 if (s0:Int) < (l_0.length:Int) then (
  (l_0[s0]?).bind fun x0 =>
  cQ (0≤((s0:Int) - 1)) <|
  (l_0[((s0:Int) - 1).toNat]?).bind fun x1 =>
  if x0≤x1 then (
   some (.inr (.inr false)))
  else
  some (.inl (s0+1)))
 else
 some (.inr (.inl ()))
noncomputable def PU (l_0:List Int):Option (Bool) :=
 (aQ (DG l_0) 1).bind fun e26=>match e26 with
 | .inr z=>some z
 | .inl t0 =>
 some true
noncomputable def zA (left:List aA) (right:List aA) (s0:Nat):Option ((Nat)⊕((Unit)⊕Int)) :=
 if (s0:Int) < (((([]:List aA)++left)++right).length:Int) then (
  (((([]:List aA)++left)++right)[s0]?).bind fun x0 =>
  if 12 < (x0.marks.length:Int) then (
   some (.inr (.inr 3)))
  else
  some (.inl (s0+1)))
 else
 some (.inr (.inl ()))
noncomputable def zB (left:List aA) (right:List aA) (s1:Nat) (s0:Nat):Option ((Nat)⊕((Unit)⊕((Nat)⊕((Unit)⊕Int)))) :=
 (((([]:List aA)++left)++right)[s1]?).bind fun x0 =>
 if (s0:Int) < (x0.marks.length:Int) then (
  (x0.marks[s0]?).bind fun x1 =>
  (NN x1 0 999).bind fun r0 =>
  if r0 then (
   some (.inl (s0+1)))
  else
  some (.inr (.inr (.inr (.inr 1)))))
 else
 some (.inr (.inl ()))
noncomputable def zC (left:List aA) (right:List aA) (s0:Nat):Option ((Nat)⊕((Unit)⊕Int)) :=
 if (s0:Int) < (((([]:List aA)++left)++right).length:Int) then (
  (aQ (zB left right s0) 0).bind fun eA1=>match eA1 with
  | .inr z=>some z
  | .inl t1 =>
  ((
   (((([]:List aA)++left)++right)[s0]?).bind fun x0 =>
   (PU x0.marks).bind fun r0 =>
   if r0 then (
    (NN x0.size 1 200).bind fun r1 =>
    some (!r1))
   else
   some true
  ):Option (Bool)).bind fun t0 =>
  if t0 then (
   some (.inr (.inr 1)))
  else
  some (.inl (s0+1)))
 else
 some (.inr (.inl ()))
noncomputable def PV (left:List aA) (right:List aA):Option (Int) :=
 ((
  if 20 < (left.length:Int) then (
   some true)
  else
  some (decide (20 < (right.length:Int)))
 ):Option (Bool)).bind fun t4 =>
 if t4 then (
  some 3)
 else
 cQ (([]:List aA).length+left.length≤1073741824) <|
 cQ ((([]:List aA)++left).length+right.length≤1073741824) <|
 (aQ (zA left right) 0).bind fun e57=>match e57 with
 | .inr z=>some z
 | .inl t0 =>
 (aQ (zC left right) 0).bind fun eA1=>match eA1 with
 | .inr z=>some z
 | .inl t1 =>
 some 0
noncomputable def FP (s_0:aA):Option (Bool) :=
 some (decide ((s_0.marks.length:Int)≤12))
noncomputable def vM (x_0:aA) (f0_:aA→Option Bool):Option (Bool) :=
 (f0_ x_0).bind fun r7 =>
 some (!r7)
noncomputable def xH (s_0:List aA) (f_1:aA→Option Bool) (s0:Nat):Option ((Nat)⊕((Unit)⊕Int)) :=
 if (s0:Int) < (s_0.length:Int) then (
  (s_0[s0]?).bind fun x0 =>
  (f_1 x0).bind fun r0 =>
  if r0 then (
   some (.inr (.inr (s0:Int))))
  else
  some (.inl (s0+1)))
 else
 some (.inr (.inl ()))
noncomputable def HM (s_0:List aA) (f_1:aA→Option Bool):Option (Int) :=
 (aQ (xH s_0 f_1) 0).bind fun e23=>match e23 with
 | .inr z=>some z
 | .inl t0 =>
 some (-1)
noncomputable def HN (s_0:List aA) (f_1:aA→Option Bool):Option (Bool) :=
 (HM s_0 f_1).bind fun r1 =>
 some (decide (0≤r1))
noncomputable def FQ (l_0:List aA) (right:aA→Option Bool):Option (Bool) :=
 (HN l_0 (fun x0_=>vM x0_ right)).bind fun r5 =>
 some (!r5)
noncomputable def tL (l_0:List Int) (s0:Nat):Option ((Nat)⊕((Unit)⊕Bool)) :=
 if (s0:Int) < (l_0.length:Int) then (
  ((
   if 0 < (s0:Int) then (
    (l_0[s0]?).bind fun x0 =>
    (l_0[((s0:Int) - 1).toNat]?).bind fun x1 =>
    some (decide (x0≤x1)))
   else
   some false
  ):Option (Bool)).bind fun t0 =>
  if t0 then (
   some (.inr (.inr false)))
  else
  some (.inl (s0+1)))
 else
 some (.inr (.inl ()))
noncomputable def DH (l_0:List Int):Option (Bool) :=
 (aQ (tL l_0) 0).bind fun e29=>match e29 with
 | .inr z=>some z
 | .inl t0 =>
 some true
noncomputable def DI (x_0:Int) (f0_:Int→Option Bool):Option (Bool) :=
 (f0_ x_0).bind fun r1 =>
 some (!r1)
noncomputable def DJ (s_0:List Int) (f_1:Int→Option Bool) (s0:Nat):Option ((Nat)⊕((Unit)⊕Int)) :=
 if (s0:Int) < (s_0.length:Int) then (
  (s_0[s0]?).bind fun x0 =>
  (f_1 x0).bind fun r0 =>
  if r0 then (
   some (.inr (.inr (s0:Int))))
  else
  some (.inl (s0+1)))
 else
 some (.inr (.inl ()))
noncomputable def PW (s_0:List Int) (f_1:Int→Option Bool):Option (Int) :=
 (aQ (DJ s_0 f_1) 0).bind fun e19=>match e19 with
 | .inr z=>some z
 | .inl t0 =>
 some (-1)
noncomputable def DK (s_0:List Int) (f_1:Int→Option Bool) (s0:Nat):Option ((Nat)⊕((Unit)⊕Int)) :=
 if (s0:Int) < (s_0.length:Int) then (
  (s_0[s0]?).bind fun x0 =>
  (f_1 x0).bind fun r0 =>
  if r0 then (
   some (.inr (.inr (s0:Int))))
  else
  some (.inl (s0+1)))
 else
 some (.inr (.inl ()))
noncomputable def PX (s_0:List Int) (f_1:Int→Option Bool):Option (Bool) :=
 ((
  (aQ (DK s_0 f_1) 0).bind fun e41=>match e41 with
  | .inr z=>some z
  | .inl t44 =>
  some (-1)
 ):Option (Int)).bind fun t0 =>
 some (decide (0≤t0))
noncomputable def xI (l_0:List Int) (right:Int→Option Bool) (s0:Nat):Option ((Nat)⊕((Unit)⊕Int)) :=
 if (s0:Int) < (l_0.length:Int) then (
  (l_0[s0]?).bind fun x0 =>
  (DI x0 right).bind fun r0 =>
  if r0 then (
   some (.inr (.inr (s0:Int))))
  else
  some (.inl (s0+1)))
 else
 some (.inr (.inl ()))
noncomputable def AO (l_0:List Int) (right:Int→Option Bool):Option (Bool) :=
 ((
  ((
   (aQ (xI l_0 right) 0).bind fun e69=>match e69 with
   | .inr z=>some z
   | .inl t2 =>
   some (-1)
  ):Option (Int)).bind fun t0 =>
  some (decide (0≤t0))
 ):Option (Bool)).bind fun t1 =>
 some (!t1)
noncomputable def AP (n_0:Int) (low:Int) (high:Int):Option (Bool) :=
 ((
  if low≤n_0 then (
   some (decide (n_0≤high)))
  else
  some false
 ):Option (Bool)).bind fun t4 =>
 some t4
noncomputable def vN (m_0:Int):Option (Bool) :=
 (AP m_0 0 999).bind fun r1 =>
 some r1
noncomputable def DL (s_0:aA):Option (Bool) :=
 ((
  (DH s_0.marks).bind fun r0 =>
  if r0 then (
   (AO s_0.marks (vN)).bind fun r1 =>
   if r1 then (
    (AP s_0.size 1 200).bind fun r2 =>
    some r2)
   else
   some false)
  else
  some false
 ):Option (Bool)).bind fun t0 =>
 some t0
noncomputable def NO (left:List aA) (right:List aA):Option (Int) :=
 ((
  if 20 < (left.length:Int) then (
   some true)
  else
  if 20 < (right.length:Int) then (
   some true)
  else
  (FQ left (FP)).bind fun r0 =>
  if r0 then (
   (FQ right (FP)).bind fun r1 =>
   some (!r1))
  else
  some true
 ):Option (Bool)).bind fun t0 =>
 if t0 then (
  some 3)
 else
 ((
  (FQ left (DL)).bind fun r2 =>
  if r2 then (
   (FQ right (DL)).bind fun r3 =>
   some (!r3))
  else
  some true
 ):Option (Bool)).bind fun t1 =>
 if t1 then (
  some 1)
 else
 some 0
noncomputable def NP (x_0:two):Option (bG) :=
 some (⟨(x_0.left.list.length:Int),(x_0.right.list.length:Int)⟩:bG)
noncomputable def xJ  : Option (List bN) :=
 some ([(⟨2,1⟩:bN),(⟨1,2⟩:bN),(⟨1,1⟩:bN),(⟨1,0⟩:bN),(⟨0,1⟩:bN)]:List bN)
noncomputable def DM (r7:List bN) (f0_:bG) (f1_:two) (yield:bN→bG→Option Bool) (s0:Nat):Option ((Nat)⊕((Unit)⊕Unit)) :=
 if (s0:Int) < (r7.length:Int) then (
  (r7[s0]?).bind fun x0 =>
  cQ (-9223372036854775808≤(f0_.left+x0.left)∧(f0_.left+x0.left)≤9223372036854775807) <|
  cQ (-9223372036854775808≤(f0_.right+x0.right)∧(f0_.right+x0.right)≤9223372036854775807) <|
  ((
   if (f0_.left+x0.left)≤(f1_.left.list.length:Int) then (
    if (f0_.right+x0.right)≤(f1_.right.list.length:Int) then (
     (yield x0 (⟨(f0_.left+x0.left),(f0_.right+x0.right)⟩:bG)).bind fun r0 =>
     some (!r0))
    else
    some false)
   else
   some false
  ):Option (Bool)).bind fun t0 =>
  if t0 then (
   some (.inr (.inr ())))
  else
  some (.inl (s0+1)))
 else
 some (.inr (.inl ()))
noncomputable def PY (yield:bN→bG→Option Bool) (f0_:bG) (f1_:two):Option (Unit) :=
 (xJ).bind fun r7 =>
 (aQ (DM r7 f0_ f1_ yield) 0).bind fun e49=>match e49 with
 | .inr z=>some z
 | .inl t0 =>
 some ()
noncomputable def DN (x1:aA) (s0:Nat×aJ):Option ((Nat×aJ)⊕(aJ)) :=
 if (s0.1:Int) < (x1.marks.length:Int) then (
  (x1.marks[s0.1]?).bind fun x0 =>
  cQ (0≤x0) <|
  cQ (x0 < 1000) <|
  some (.inl ((s0.1+1),(aJ.set s0.2 x0.toNat true))))
 else
 some (.inr s0.2)
noncomputable def DO (t_0:text) (from_1:Int) (to_2:Int) (s0:Nat×aJ):Option ((Nat×aJ)⊕(aJ)) :=
 if (s0.1:Int) < (((t_0.list.drop from_1.toNat).take (to_2.toNat - from_1.toNat)).length:Int) then (
  (((t_0.list.drop from_1.toNat).take (to_2.toNat - from_1.toNat))[s0.1]?).bind fun x0 =>
  (aQ (DN x0) (0,s0.2)).bind fun eA1 =>
  some (.inl ((s0.1+1),eA1)))
 else
 some (.inr s0.2)
noncomputable def LJ (t_0:text) (from_1:Int) (to_2:Int):Option (fR) :=
 cQ (0≤from_1) <|
 cQ (0≤to_2) <|
 cQ (from_1.toNat≤to_2.toNat∧to_2.toNat≤t_0.list.length) <|
 (aQ (DO t_0 from_1 to_2) (0,aJ.zero)).bind fun eA1 =>
 some (⟨(⟨((t_0.list.drop from_1.toNat).take (to_2.toNat - from_1.toNat))⟩:text),eA1⟩:fR)
noncomputable def FR (x_0:two) (at_1:bG) (s_2:bN):Option (fR×fR) :=
 cQ (-9223372036854775808≤(at_1.left+s_2.left)∧(at_1.left+s_2.left)≤9223372036854775807) <|
 (LJ x_0.left at_1.left (at_1.left+s_2.left)).bind fun r0 =>
 cQ (-9223372036854775808≤(at_1.right+s_2.right)∧(at_1.right+s_2.right)≤9223372036854775807) <|
 (LJ x_0.right at_1.right (at_1.right+s_2.right)).bind fun r1 =>
 some (r0,r1)
noncomputable def PZ (is:Bool) (n_1:Int):Option (Int) :=
 if is then (
  some n_1)
 else
 some 0
noncomputable def DP (a_0:fR) (b_1:fR) (s0:Nat×Nat):Option ((Nat×Nat)⊕(Nat)) :=
 if (s0.2:Int) < 1000 then (
  cQ ((s0.2:Int) < 1000) <|
  ((
   if (aJ.get a_0.marks s0.2)==(aJ.get b_1.marks s0.2) then (
    some s0.1)
   else
   cQ (-9223372036854775808≤((s0.1:Int)+1)∧((s0.1:Int)+1)≤9223372036854775807) <|
   some (s0.1+1)
  ):Option (Nat)).bind fun t0 =>
  some (.inl (t0,(s0.2+1))))
 else
 some (.inr s0.1)
noncomputable def NQ (a_0:fR) (b_1:fR):Option (Int) :=
 (aQ (DP a_0 b_1) (0,0)).bind fun e22 =>
 some (e22:Int)
noncomputable def AQ (a_0:fR) (b_1:fR):Option (Int) :=
 (NQ a_0 b_1).bind fun r7 =>
 cQ (-9223372036854775808≤(2*r7)∧(2*r7)≤9223372036854775807) <|
 some (2*r7)
noncomputable def QA (a_0:fR) (b_1:fR) (f0_:Bool→Int→Option Int):Option (Int) :=
 ((
  if (a_0.text.list.length:Int)=0 then (
   (f0_ true 3).bind fun r0 =>
   some r0)
  else
  (f0_ (decide ((b_1.text.list.length:Int)=0)) 3).bind fun r1 =>
  some r1
 ):Option (Int)).bind fun t0 =>
 some t0
noncomputable def QB (a_0:fR) (b_1:fR) (f0_:Bool→Int→Option Int):Option (Int) :=
 ((
  if (a_0.text.list.length:Int)=2 then (
   (f0_ true 1).bind fun r0 =>
   some r0)
  else
  (f0_ (decide ((b_1.text.list.length:Int)=2)) 1).bind fun r1 =>
  some r1
 ):Option (Int)).bind fun t0 =>
 some t0
noncomputable def BF (x_0:two) (at_1:bG) (s_2:bN):Option (Int) :=
 (FR x_0 at_1 s_2).bind fun r1 =>
 (AQ r1.1 r1.2).bind fun r0 =>
 cQ (-9223372036854775808≤(0+r0)∧(0+r0)≤9223372036854775807) <|
 ((
  ((
   if (r1.1.text.list.length:Int)=0 then (
    ((
     some ()
    ):Option (Unit)).bind fun t6 =>
    some 3)
   else
   ((
    if (r1.2.text.list.length:Int)=0 then (
     some 3)
    else
    some 0
   ):Option (Nat)).bind fun t2 =>
   some t2
  ):Option (Nat)).bind fun t3 =>
  some t3
 ):Option (Nat)).bind fun t0 =>
 cQ (-9223372036854775808≤((0+r0)+(t0:Int))∧((0+r0)+(t0:Int))≤9223372036854775807) <|
 ((
  ((
   if (r1.1.text.list.length:Int)=2 then (
    ((
     some ()
    ):Option (Unit)).bind fun t7 =>
    some 1)
   else
   ((
    if (r1.2.text.list.length:Int)=2 then (
     some 1)
    else
    some 0
   ):Option (Nat)).bind fun t4 =>
   some t4
  ):Option (Nat)).bind fun t5 =>
  some t5
 ):Option (Nat)).bind fun t1 =>
 cQ (-9223372036854775808≤(((0+r0)+(t0:Int))+(t1:Int))∧(((0+r0)+(t0:Int))+(t1:Int))≤9223372036854775807) <|
 some (((0+r0)+(t0:Int))+(t1:Int))
noncomputable def qF (x_0:List Int) (s0:Nat×Int):Option ((Nat×Int)⊕(Int)) :=
 if (s0.1:Int) < (x_0.length:Int) then (
  (x_0[s0.1]?).bind fun x0 =>
  some (.inl ((s0.1+1),(min s0.2 x0))))
 else
 some (.inr s0.2)
noncomputable def HO (x_0:List Int):Option (Int) :=
 if (x_0.length:Int) < 1 then (
  none)
 else
 (x_0[0]?).bind fun x7 =>
 (aQ (qF x_0) (1,x7)).bind fun e26 =>
 some e26
noncomputable def QC (l_0:List Int):Option (Int) :=
 (HO l_0).bind fun r1 =>
 some r1
noncomputable def DQ (r2:List bN) (s1:bG×(List (bG×Int))) (x_0:two) (R0_:(bG×(List (bG×Int)))→Option (Int×(List (bG×Int)))) (s0:Nat×Int×(List (bG×Int))):Option ((Nat×Int×(List (bG×Int)))⊕(Int×(List (bG×Int)))) :=
 if (s0.1:Int) < (r2.length:Int) then (
  (r2[s0.1]?).bind fun x0 =>
  cQ (-9223372036854775808≤(s1.1.left+x0.left)∧(s1.1.left+x0.left)≤9223372036854775807) <|
  cQ (-9223372036854775808≤(s1.1.right+x0.right)∧(s1.1.right+x0.right)≤9223372036854775807) <|
  ((
   if (s1.1.left+x0.left)≤(x_0.left.list.length:Int) then (
    if (s1.1.right+x0.right)≤(x_0.right.list.length:Int) then (
     ((
      (BF x_0 s1.1 x0).bind fun r1 =>
      (R0_ ((⟨(s1.1.left+x0.left),(s1.1.right+x0.right)⟩:bG),s0.2.2)).bind fun r0 =>
      cQ (-9223372036854775808≤(r1+r0.1)∧(r1+r0.1)≤9223372036854775807) <|
      (QC ([s0.2.1,(r1+r0.1)]:List Int)).bind fun r3 =>
      some (r3,r0.2)
     ):Option (Int×(List (bG×Int)))).bind fun t0 =>
     some (t0.1,t0.2))
    else
    some (s0.2.1,s0.2.2))
   else
   some (s0.2.1,s0.2.2)
  ):Option (Int×(List (bG×Int)))).bind fun t1 =>
  some (.inl ((s0.1+1),t1.1,t1.2)))
 else
 some (.inr (s0.2.1,s0.2.2))
noncomputable def zD (x_0:two) (R0_:(bG×(List (bG×Int)))→Option (Int×(List (bG×Int)))) (s0:bG×(List (bG×Int))):Option (Int×(List (bG×Int))) :=
 (NP x_0).bind fun r0 =>
 if s0.1=r0 then (
  some (0,s0.2))
 else
 if (dR s0.2 s0.1).isSome then (
  some (((dR s0.2 s0.1).getD (0:Int)),s0.2))
 else
 ((
  (xJ).bind fun r1 =>
  (aQ (DQ r1 s0 x_0 R0_) (0,100000,s0.2)).bind fun eA1 =>
  some (eA1.1,eA1.2)
 ):Option (Int×(List (bG×Int)))).bind fun t0 =>
 some (t0.1,(put t0.2 s0.1 t0.1))
noncomputable def gX (x_0:two):Nat→(bG×(List (bG×Int)))→Option (Int×(List (bG×Int)))
 | 0,_=>none
 | n_+1,s0=>zD x_0 (gX x_0 n_) s0
noncomputable def zE (r3:List bN) (s0:Int×Int×List bN) (x_0:two) (r0:Int×(List (bG×Int))) (s1:Nat):Option ((Nat)⊕((Unit)⊕((Int×Int×List bN)⊕(Unit)))) :=
 if (s1:Int) < (r3.length:Int) then (
  ((
   (r3[s1]?).bind fun x0 =>
   cQ (-9223372036854775808≤(s0.1+x0.left)∧(s0.1+x0.left)≤9223372036854775807) <|
   cQ (-9223372036854775808≤(s0.2.1+x0.right)∧(s0.2.1+x0.right)≤9223372036854775807) <|
   if (s0.1+x0.left)≤(x_0.left.list.length:Int) then (
    if (s0.2.1+x0.right)≤(x_0.right.list.length:Int) then (
     ((
      (BF x_0 (⟨s0.1,s0.2.1⟩:bG) x0).bind fun r2 =>
      (nQ (fun n_=>gX x_0 n_ ((⟨(s0.1+x0.left),(s0.2.1+x0.right)⟩:bG),r0.2))).bind fun r1 =>
      cQ (r1.2=r0.2) <|
      cQ (-9223372036854775808≤(r2+r1.1)∧(r2+r1.1)≤9223372036854775807) <|
      (nQ (fun n_=>gX x_0 n_ ((⟨s0.1,s0.2.1⟩:bG),r0.2))).bind fun r4 =>
      cQ (r4.2=r0.2) <|
      if (r2+r1.1)=r4.1 then (
       cQ (s0.2.2.length+([x0]:List bN).length≤1073741824) <|
       some (.inl ((s0.1+x0.left),(s0.2.1+x0.right),(s0.2.2++([x0]:List bN)))))
      else
      some (.inr ())
     ):Option ((Int×Int×List bN)⊕(Unit))).bind fun t1=>match t1 with
     | .inl t0=>(
      some (.inr (.inr (.inr (.inl (t0.1,t0.2.1,t0.2.2))))))
     | .inr t3=>(
      some (.inl ())))
    else
    some (.inl ()))
   else
   some (.inl ())
  ):Option ((Unit)⊕((Nat)⊕((Unit)⊕((Int×Int×List bN)⊕(Unit)))))).bind fun t2=>match t2 with
  | .inr z=>some z
  | .inl t4 =>
  some (.inl (s1+1)))
 else
 some (.inr (.inl ()))
noncomputable def DR (x_0:two) (r0:Int×(List (bG×Int))) (s0:Int×Int×List bN):Option ((Int×Int×List bN)⊕(Int×Int×List bN)) :=
 (NP x_0).bind fun r1 =>
 if (⟨s0.1,s0.2.1⟩:bG)=r1 then (
  some (.inr (s0.1,s0.2.1,s0.2.2)))
 else
 ((
  (xJ).bind fun r2 =>
  (aQ (zE r2 s0 x_0 r0) 0).bind fun eA1=>match eA1 with
  | .inr z=>some z
  | .inl t2 =>
  some (.inr ())
 ):Option ((Int×Int×List bN)⊕(Unit))).bind fun t1=>match t1 with
 | .inl t0=>(
  some (.inl (t0.1,t0.2.1,t0.2.2)))
 | .inr t3=>(
  some (.inl (s0.1,s0.2.1,s0.2.2)))
noncomputable def QD (x_0:two):Option (List bN×Int) :=
 (nQ (fun n_=>gX x_0 n_ ((⟨0,0⟩:bG),([]:List (bG×Int))))).bind fun r0 =>
 (aQ (DR x_0 r0) (0,0,([]:List bN))).bind fun eA1 =>
 some (eA1.2.2,r0.1)
noncomputable def m17 (left:List aA) (right:List aA):Option (List bN×Int×Int) :=
 (NO left right).bind fun r1 =>
 if r1≠0 then (
  some (([]:List bN),0,r1))
 else
 (QD (⟨(⟨left⟩:text),(⟨right⟩:text)⟩:two)).bind fun r0 =>
 some (r0.1,r0.2,0)
noncomputable def NR  : Option (Bool) :=
 (m17 ([(⟨([7]:List Int),1⟩:aA)]:List aA) ([(⟨([7]:List Int),1⟩:aA)]:List aA)).bind fun r0 =>
 ((
  if r0.2.2=0 then (
   if (r0.1.length:Int)=1 then (
    (r0.1[0]?).bind fun x0 =>
    if x0=(⟨1,1⟩:bN) then (
     some (decide (r0.2.1=0)))
    else
    some false)
   else
   some false)
  else
  some false
 ):Option (Bool)).bind fun t0 =>
 some t0
noncomputable def LK (l_0:List aF):Option (List aF) :=
 cQ (([]:List aF).length+l_0.length≤1073741824) <|
 some (([]:List aF)++l_0)
noncomputable def sA (l_0:aM) (s0:Nat×List cA):Option ((Nat×List cA)⊕(List cA)) :=
 if (s0.1:Int) < (l_0.numbers.length:Int) then (
  (l_0.numbers[s0.1]?).bind fun x0 =>
  cQ (s0.2.length+([x0]:List cA).length≤1073741824) <|
  some (.inl ((s0.1+1),(s0.2++([x0]:List cA)))))
 else
 some (.inr s0.2)
noncomputable def sB (l_0:aM) (s0:Nat×List (List aF)):Option ((Nat×List (List aF))⊕(List (List aF))) :=
 if (s0.1:Int) < (l_0.names.length:Int) then (
  (l_0.names[s0.1]?).bind fun x0 =>
  (LK x0).bind fun r0 =>
  cQ (s0.2.length+([r0]:List (List aF)).length≤1073741824) <|
  some (.inl ((s0.1+1),(s0.2++([r0]:List (List aF))))))
 else
 some (.inr s0.2)
noncomputable def QE (l_0:aM):Option (aM) :=
 (LK l_0.nots).bind fun r0 =>
 (aQ (sA l_0) (0,([]:List cA))).bind fun e103 =>
 (aQ (sB l_0) (0,([]:List (List aF)))).bind fun eA1 =>
 some (⟨e103,eA1,r0⟩:aM)
noncomputable def sC (r_0:aY) (s0:Nat×List dJ):Option ((Nat×List dJ)⊕(List dJ)) :=
 if (s0.1:Int) < (r_0.words.length:Int) then (
  (r_0.words[s0.1]?).bind fun x0 =>
  cQ (s0.2.length+([x0]:List dJ).length≤1073741824) <|
  some (.inl ((s0.1+1),(s0.2++([x0]:List dJ)))))
 else
 some (.inr s0.2)
noncomputable def QF (r_0:aY):Option (aY) :=
 (aQ (sC r_0) (0,([]:List dJ))).bind fun e90 =>
 some (⟨e90,r_0.out,r_0.within⟩:aY)
noncomputable def sD (l_0:List aE) (s0:Nat×List aE):Option ((Nat×List aE)⊕(List aE)) :=
 if (s0.1:Int) < (l_0.length:Int) then (
  (l_0[s0.1]?).bind fun x0 =>
  (LK x0.cV).bind fun r0 =>
  cQ (s0.2.length+([(⟨x0.by_,x0.minute,x0.aI,x0.cut,r0⟩:aE)]:List aE).length≤1073741824) <|
  some (.inl ((s0.1+1),(s0.2++([(⟨x0.by_,x0.minute,x0.aI,x0.cut,r0⟩:aE)]:List aE)))))
 else
 some (.inr s0.2)
noncomputable def m15 (l_0:List aE):Option (List aE) :=
 (aQ (sD l_0) (0,([]:List aE))).bind fun eA1 =>
 some eA1
noncomputable def BG (n_0:Int) (low:Int) (high:Int):Option (Bool) :=
 ((
  if low≤n_0 then (
   some (decide (n_0≤high)))
  else
  some false
 ):Option (Bool)).bind fun t4 =>
 some t4
noncomputable def DT (x_0:Int) (f0_:Int→Option Bool):Option (Bool) :=
 (f0_ x_0).bind fun r1 =>
 some (!r1)
noncomputable def DU (s_0:List UInt8) (f_1:Int→Option Bool) (s0:Nat):Option ((Nat)⊕((Unit)⊕Int)) :=
 if (s0:Int) < (s_0.length:Int) then (
  (s_0[s0]?).bind fun x0 =>
  (f_1 (x0.toNat:Int)).bind fun r0 =>
  if r0 then (
   some (.inr (.inr (s0:Int))))
  else
  some (.inl (s0+1)))
 else
 some (.inr (.inl ()))
noncomputable def LM (s_0:List UInt8) (f_1:Int→Option Bool):Option (Int) :=
 (aQ (DU s_0 f_1) 0).bind fun e19=>match e19 with
 | .inr z=>some z
 | .inl t0 =>
 some (-1)
noncomputable def LN (s_0:List UInt8) (f_1:Int→Option Bool):Option (Bool) :=
 (LM s_0 f_1).bind fun r1 =>
 some (decide (0≤r1))
noncomputable def HQ (l_0:List UInt8) (right:Int→Option Bool):Option (Bool) :=
 (LN l_0 (fun x0_=>DT x0_ right)).bind fun r5 =>
 some (!r5)
noncomputable def xK (b_0:Int):Option (Bool) :=
 ((
  if (33:Int)≤b_0 then (
   some (decide (b_0≤126)))
  else
  some false
 ):Option (Bool)).bind fun t4 =>
 some t4
noncomputable def wO (s_0:aF):Option (Bool) :=
 ((
  (BG (s_0.length:Int) 1 32).bind fun r0 =>
  if r0 then (
   cQ (s_0.length≤1073741824) <|
   (HQ s_0 (xK)).bind fun r1 =>
   some r1)
  else
  some false
 ):Option (Bool)).bind fun t17 =>
 some t17
noncomputable def FS (n_0:Int):Option (Bool) :=
 (BG n_0 0 999999999).bind fun r1 =>
 some r1
noncomputable def xL (n_0:cA):Option (Bool) :=
 ((
  (wO n_0.text).bind fun r0 =>
  if r0 then (
   (FS n_0.value).bind fun r1 =>
   some r1)
  else
  some false
 ):Option (Bool)).bind fun t0 =>
 some t0
noncomputable def DV (x_0:aF) (f0_:aF→Option Bool):Option (Bool) :=
 (f0_ x_0).bind fun r1 =>
 some (!r1)
noncomputable def DW (s_0:List aF) (f_1:aF→Option Bool) (s0:Nat):Option ((Nat)⊕((Unit)⊕Int)) :=
 if (s0:Int) < (s_0.length:Int) then (
  (s_0[s0]?).bind fun x0 =>
  (f_1 x0).bind fun r0 =>
  if r0 then (
   some (.inr (.inr (s0:Int))))
  else
  some (.inl (s0+1)))
 else
 some (.inr (.inl ()))
noncomputable def LO (s_0:List aF) (f_1:aF→Option Bool):Option (Int) :=
 (aQ (DW s_0 f_1) 0).bind fun e19=>match e19 with
 | .inr z=>some z
 | .inl t0 =>
 some (-1)
noncomputable def LP (s_0:List aF) (f_1:aF→Option Bool):Option (Bool) :=
 (LO s_0 f_1).bind fun r1 =>
 some (decide (0≤r1))
noncomputable def xM (l_0:List aF) (right:aF→Option Bool):Option (Bool) :=
 (LP l_0 (fun x0_=>DV x0_ right)).bind fun r5 =>
 some (!r5)
noncomputable def xN (l_0:List aF):Option (Bool) :=
 ((
  (BG (l_0.length:Int) 1 5).bind fun r0 =>
  if r0 then (
   (xM l_0 (wO)).bind fun r1 =>
   some r1)
  else
  some false
 ):Option (Bool)).bind fun t0 =>
 some t0
noncomputable def DX (x_0:cA) (f0_:cA→Option Bool):Option (Bool) :=
 (f0_ x_0).bind fun r4 =>
 some (!r4)
noncomputable def DY (s_0:List cA) (f_1:cA→Option Bool) (s0:Nat):Option ((Nat)⊕((Unit)⊕Int)) :=
 if (s0:Int) < (s_0.length:Int) then (
  (s_0[s0]?).bind fun x0 =>
  (f_1 x0).bind fun r0 =>
  if r0 then (
   some (.inr (.inr (s0:Int))))
  else
  some (.inl (s0+1)))
 else
 some (.inr (.inl ()))
noncomputable def LQ (s_0:List cA) (f_1:cA→Option Bool):Option (Int) :=
 (aQ (DY s_0 f_1) 0).bind fun e19=>match e19 with
 | .inr z=>some z
 | .inl t0 =>
 some (-1)
noncomputable def LS (s_0:List cA) (f_1:cA→Option Bool):Option (Bool) :=
 (LQ s_0 f_1).bind fun r1 =>
 some (decide (0≤r1))
noncomputable def HR (l_0:List cA) (right:cA→Option Bool):Option (Bool) :=
 (LS l_0 (fun x0_=>DX x0_ right)).bind fun r5 =>
 some (!r5)
noncomputable def DZ (x_0:List aF) (f0_:(List aF)→Option Bool):Option (Bool) :=
 (f0_ x_0).bind fun r1 =>
 some (!r1)
noncomputable def EA (s_0:List (List aF)) (f_1:(List aF)→Option Bool) (s0:Nat):Option ((Nat)⊕((Unit)⊕Int)) :=
 if (s0:Int) < (s_0.length:Int) then (
  (s_0[s0]?).bind fun x0 =>
  (f_1 x0).bind fun r0 =>
  if r0 then (
   some (.inr (.inr (s0:Int))))
  else
  some (.inl (s0+1)))
 else
 some (.inr (.inl ()))
noncomputable def LT (s_0:List (List aF)) (f_1:(List aF)→Option Bool):Option (Int) :=
 (aQ (EA s_0 f_1) 0).bind fun e23=>match e23 with
 | .inr z=>some z
 | .inl t0 =>
 some (-1)
noncomputable def LU (s_0:List (List aF)) (f_1:(List aF)→Option Bool):Option (Bool) :=
 (LT s_0 f_1).bind fun r1 =>
 some (decide (0≤r1))
noncomputable def HT (l_0:List (List aF)) (right:(List aF)→Option Bool):Option (Bool) :=
 (LU l_0 (fun x0_=>DZ x0_ right)).bind fun r5 =>
 some (!r5)
noncomputable def EB (f0_:aM) (yield:aF→aW→Option Bool) (s0:Nat):Option ((Nat)⊕((Unit)⊕Unit)) :=
 if (s0:Int) < (f0_.numbers.length:Int) then (
  (f0_.numbers[s0]?).bind fun x0 =>
  (yield x0.text (⟨1,x0.value⟩:aW)).bind fun r0 =>
  if r0 then (
   some (.inl (s0+1)))
  else
  some (.inr (.inr ())))
 else
 some (.inr (.inl ()))
noncomputable def EC (x0:List aF) (yield:aF→aW→Option Bool) (s1:Nat) (s0:Nat):Option ((Nat)⊕((Unit)⊕((Nat)⊕((Unit)⊕Unit)))) :=
 if (s0:Int) < (x0.length:Int) then (
  (x0[s0]?).bind fun x1 =>
  (yield x1 (⟨2,(s1:Int)⟩:aW)).bind fun r0 =>
  if r0 then (
   some (.inl (s0+1)))
  else
  some (.inr (.inr (.inr (.inr ())))))
 else
 some (.inr (.inl ()))
noncomputable def ED (f0_:aM) (yield:aF→aW→Option Bool) (s0:Nat):Option ((Nat)⊕((Unit)⊕Unit)) :=
 if (s0:Int) < (f0_.names.length:Int) then (
  (f0_.names[s0]?).bind fun x0 =>
  (aQ (EC x0 yield s0) 0).bind fun eA1=>match eA1 with
  | .inr z=>some z
  | .inl t0 =>
  some (.inl (s0+1)))
 else
 some (.inr (.inl ()))
noncomputable def EE (f0_:aM) (yield:aF→aW→Option Bool) (s0:Nat):Option ((Nat)⊕((Unit)⊕Unit)) :=
 if (s0:Int) < (f0_.nots.length:Int) then (
  (f0_.nots[s0]?).bind fun x0 =>
  (yield x0 (⟨3,0⟩:aW)).bind fun r0 =>
  if r0 then (
   some (.inl (s0+1)))
  else
  some (.inr (.inr ())))
 else
 some (.inr (.inl ()))
noncomputable def QG (yield:aF→aW→Option Bool) (f0_:aM):Option (Unit) :=
 (aQ (EB f0_ yield) 0).bind fun e31=>match e31 with
 | .inr z=>some z
 | .inl t0 =>
 (aQ (ED f0_ yield) 0).bind fun eA1=>match eA1 with
 | .inr z=>some z
 | .inl t1 =>
 (aQ (EE f0_ yield) 0).bind fun eB1=>match eB1 with
 | .inr z=>some z
 | .inl t2 =>
 some ()
noncomputable def qG (l_0:aM) (s0:Nat×(List (aF×aW))):Option ((Nat×(List (aF×aW)))⊕(((List (aF×aW)))⊕((Nat×(List (aF×aW)))⊕((List (aF×aW)))))) :=
 if (s0.1:Int) < (l_0.numbers.length:Int) then (
  (l_0.numbers[s0.1]?).bind fun x0 =>
  ((
   if (dR s0.2 x0.text).isSome then (
    some (.inl 6))
   else
   some (.inr (put s0.2 x0.text (⟨1,x0.value⟩:aW)))
  ):Option ((Nat)⊕((List (aF×aW))))).bind fun t0=>match t0 with
  | .inl t1=>(
   some (.inr (.inr (.inl (t1,s0.2)))))
  | .inr t2=>(
   some (.inl ((s0.1+1),t2))))
 else
 some (.inr (.inl s0.2))
noncomputable def qH (x0:List aF) (s1:Nat×(List (aF×aW))) (s0:Nat×(List (aF×aW))):Option ((Nat×(List (aF×aW)))⊕(((List (aF×aW)))⊕((Nat×(List (aF×aW)))⊕(((List (aF×aW)))⊕((Nat×(List (aF×aW)))⊕((List (aF×aW)))))))) :=
 if (s0.1:Int) < (x0.length:Int) then (
  (x0[s0.1]?).bind fun x1 =>
  ((
   if (dR s0.2 x1).isSome then (
    some (.inl 6))
   else
   some (.inr (put s0.2 x1 (⟨2,(s1.1:Int)⟩:aW)))
  ):Option ((Nat)⊕((List (aF×aW))))).bind fun t0=>match t0 with
  | .inl t1=>(
   some (.inr (.inr (.inr (.inr (.inl (t1,s0.2)))))))
  | .inr t2=>(
   some (.inl ((s0.1+1),t2))))
 else
 some (.inr (.inl s0.2))
noncomputable def lL (l_0:aM) (s0:Nat×(List (aF×aW))):Option ((Nat×(List (aF×aW)))⊕(((List (aF×aW)))⊕((Nat×(List (aF×aW)))⊕((List (aF×aW)))))) :=
 if (s0.1:Int) < (l_0.names.length:Int) then (
  (l_0.names[s0.1]?).bind fun x0 =>
  (aQ (qH x0 s0) (0,s0.2)).bind fun eA1=>match eA1 with
  | .inr z=>some z
  | .inl t0 =>
  some (.inl ((s0.1+1),t0)))
 else
 some (.inr (.inl s0.2))
noncomputable def qI (l_0:aM) (s0:Nat×(List (aF×aW))):Option ((Nat×(List (aF×aW)))⊕(((List (aF×aW)))⊕((Nat×(List (aF×aW)))⊕((List (aF×aW)))))) :=
 if (s0.1:Int) < (l_0.nots.length:Int) then (
  (l_0.nots[s0.1]?).bind fun x0 =>
  ((
   if (dR s0.2 x0).isSome then (
    some (.inl 6))
   else
   some (.inr (put s0.2 x0 (⟨3,0⟩:aW)))
  ):Option ((Nat)⊕((List (aF×aW))))).bind fun t0=>match t0 with
  | .inl t1=>(
   some (.inr (.inr (.inl (t1,s0.2)))))
  | .inr t2=>(
   some (.inl ((s0.1+1),t2))))
 else
 some (.inr (.inl s0.2))
noncomputable def QH (l_0:aM):Option ((List (aF×aW))×Int) :=
 ((
  if (l_0.numbers.length:Int)≤40 then (
   if (l_0.names.length:Int)≤40 then (
    some (decide ((l_0.nots.length:Int)≤40)))
   else
   some false)
  else
  some false
 ):Option (Bool)).bind fun t0 =>
 ((
  if t0 then (
   (HR l_0.numbers (xL)).bind fun r0 =>
   if r0 then (
    (HT l_0.names (xN)).bind fun r1 =>
    if r1 then (
     (xM l_0.nots (wO)).bind fun r2 =>
     some (!r2))
    else
    some true)
   else
   some true)
  else
  some true
 ):Option (Bool)).bind fun t1 =>
 if t1 then (
  some ([],1))
 else
 ((
  (aQ (qG l_0) (0,([]:List (aF×aW)))).bind fun eA1=>match eA1 with
  | .inr z=>some z
  | .inl t2 =>
  (aQ (lL l_0) (0,t2)).bind fun eB1=>match eB1 with
  | .inr z=>some z
  | .inl t3 =>
  (aQ (qI l_0) (0,t3)).bind fun eC1=>match eC1 with
  | .inr z=>some z
  | .inl t4 =>
  some (.inr t4)
 ):Option ((Nat×(List (aF×aW)))⊕((List (aF×aW))))).bind fun t5=>match t5 with
 | .inl t6=>(
  some ([],(t6.1:Int)))
 | .inr t7=>(
  some (t7,0))
noncomputable def JG (s_0:bW):Option (Bool) :=
 ((
  if s_0.kind=1 then (
   (FS s_0.dP).bind fun r0 =>
   if r0 then (
    (FS s_0.eC).bind fun r1 =>
    some r1)
   else
   some false)
  else
  if s_0.kind=2 then (
   (FS s_0.dP).bind fun r2 =>
   if r2 then (
    (FS s_0.eC).bind fun r3 =>
    some r3)
   else
   some false)
  else
  some false
 ):Option (Bool)).bind fun t28 =>
 some t28
noncomputable def EF (x_0:bW) (f0_:bW→Option Bool):Option (Bool) :=
 (f0_ x_0).bind fun r4 =>
 some (!r4)
noncomputable def EG (s_0:List bW) (f_1:bW→Option Bool) (s0:Nat):Option ((Nat)⊕((Unit)⊕Int)) :=
 if (s0:Int) < (s_0.length:Int) then (
  (s_0[s0]?).bind fun x0 =>
  (f_1 x0).bind fun r0 =>
  if r0 then (
   some (.inr (.inr (s0:Int))))
  else
  some (.inl (s0+1)))
 else
 some (.inr (.inl ()))
noncomputable def LV (s_0:List bW) (f_1:bW→Option Bool):Option (Int) :=
 (aQ (EG s_0 f_1) 0).bind fun e19=>match e19 with
 | .inr z=>some z
 | .inl t0 =>
 some (-1)
noncomputable def LW (s_0:List bW) (f_1:bW→Option Bool):Option (Bool) :=
 (LV s_0 f_1).bind fun r1 =>
 some (decide (0≤r1))
noncomputable def QI (l_0:List bW) (right:bW→Option Bool):Option (Bool) :=
 (LW l_0 (fun x0_=>EF x0_ right)).bind fun r5 =>
 some (!r5)
noncomputable def QJ (l_0:aM) (bK:List bW):Option (rules×Int) :=
 (QH l_0).bind fun r0 =>
 if r0.2≠0 then (
  some ((⟨[],([]:List bW)⟩:rules),r0.2))
 else
 if 20 < (bK.length:Int) then (
  some ((⟨[],([]:List bW)⟩:rules),3))
 else
 (QI bK (JG)).bind fun r1 =>
 if r1 then (
  some ((⟨r0.1,bK⟩:rules),0))
 else
 some ((⟨[],([]:List bW)⟩:rules),1)
noncomputable def LX (w_0:dJ):Option (Bool) :=
 ((
  (wO w_0.text).bind fun r0 =>
  if r0 then (
   (BG w_0.speaker 0 999).bind fun r1 =>
   some r1)
  else
  some false
 ):Option (Bool)).bind fun t0 =>
 some t0
noncomputable def EH (x_0:dJ) (f0_:dJ→Option Bool):Option (Bool) :=
 (f0_ x_0).bind fun r4 =>
 some (!r4)
noncomputable def EI (s_0:List dJ) (f_1:dJ→Option Bool) (s0:Nat):Option ((Nat)⊕((Unit)⊕Int)) :=
 if (s0:Int) < (s_0.length:Int) then (
  (s_0[s0]?).bind fun x0 =>
  (f_1 x0).bind fun r0 =>
  if r0 then (
   some (.inr (.inr (s0:Int))))
  else
  some (.inl (s0+1)))
 else
 some (.inr (.inl ()))
noncomputable def LY (s_0:List dJ) (f_1:dJ→Option Bool):Option (Int) :=
 (aQ (EI s_0 f_1) 0).bind fun e19=>match e19 with
 | .inr z=>some z
 | .inl t0 =>
 some (-1)
noncomputable def EJ (s_0:List dJ) (f_1:dJ→Option Bool):Option (Bool) :=
 (LY s_0 f_1).bind fun r1 =>
 some (decide (0≤r1))
noncomputable def QK (l_0:List dJ) (right:dJ→Option Bool):Option (Bool) :=
 (EJ l_0 (fun x0_=>EH x0_ right)).bind fun r5 =>
 some (!r5)
noncomputable def QL (r_0:aY):Option (Int) :=
 ((
  if 80 < (r_0.words.length:Int) then (
   some true)
  else
  (QK r_0.words (LX)).bind fun r0 =>
  if r0 then (
   (BG r_0.out 0 100000).bind fun r1 =>
   if r1 then (
    (BG r_0.within 0 100000).bind fun r2 =>
    some (!r2))
   else
   some true)
  else
  some true
 ):Option (Bool)).bind fun t0 =>
 if t0 then (
  some 1)
 else
 some 0
noncomputable def QM (x_0:Int):Option (Bool) :=
 some (decide (x_0≠x_0))
noncomputable def NS (x_0:Int) (y_1:Int):Option (Int) :=
 (QM x_0).bind fun r1 =>
 (QM y_1).bind fun r4 =>
 if r1 then (
  if r4 then (
   some 0)
  else
  some (-1))
 else
 if r4 then (
  some 1)
 else
 if x_0 < y_1 then (
  some (-1))
 else
 if y_1 < x_0 then (
  some 1)
 else
 some 0
noncomputable def vO (vals:List Int) (s0:Nat):Option ((Nat)⊕((Unit)⊕Int)) :=
 if (s0:Int) < (vals.length:Int) then (
  (vals[s0]?).bind fun x0 =>
  if x0≠0 then (
   some (.inr (.inr x0)))
  else
  some (.inl (s0+1)))
 else
 some (.inr (.inl ()))
noncomputable def QN (vals:List Int):Option (Int) :=
 (aQ (vO vals) 0).bind fun e16=>match e16 with
 | .inr z=>some z
 | .inl t19 =>
 some 0
noncomputable def NT (l_0:List Int):Option (Int) :=
 (QN l_0).bind fun r1 =>
 some r1
noncomputable def NU (a_0:Int) (b_1:Int) (f0_:List aE):Option (Int) :=
 cQ (0≤a_0) <|
 (f0_[a_0.toNat]?).bind fun x3 =>
 cQ (0≤b_1) <|
 (f0_[b_1.toNat]?).bind fun x0 =>
 (NS x3.minute x0.minute).bind fun r0 =>
 (NS x3.by_ x0.by_).bind fun r1 =>
 (NT ([r0,r1]:List Int)).bind fun r2 =>
 some r2
noncomputable def QO (d_0:cJ) (q_1:aE):Option (Bool) :=
 ((
  if 0≤q_1.aI then (
   if 0≤q_1.cut then (
    cQ (-9223372036854775808≤((d_0.report.words.length:Int) - q_1.cut)∧((d_0.report.words.length:Int) - q_1.cut)≤9223372036854775807) <|
    some (decide (q_1.aI≤((d_0.report.words.length:Int) - q_1.cut))))
   else
   some false)
  else
  some false
 ):Option (Bool)).bind fun t0 =>
 some t0
noncomputable def QP (d_0:cJ) (q_1:aE):Option (Bool) :=
 ((
  if q_1.cut≤8 then (
   if (q_1.cV.length:Int)≤8 then (
    (xM q_1.cV (wO)).bind fun r0 =>
    if r0 then (
     cQ (-9223372036854775808≤(q_1.cut+(q_1.cV.length:Int))∧(q_1.cut+(q_1.cV.length:Int))≤9223372036854775807) <|
     if 0 < (q_1.cut+(q_1.cV.length:Int)) then (
      (BG q_1.by_ 0 999).bind fun r1 =>
      some r1)
     else
     some false)
    else
    some false)
   else
   some false)
  else
  some false
 ):Option (Bool)).bind fun t0 =>
 some t0
noncomputable def tM (w_0:dJ) (f0_:aE):Option (Bool) :=
 some (decide (w_0.speaker=f0_.by_))
noncomputable def BH (q_0:aE):Option (Int) :=
 cQ (-9223372036854775808≤(q_0.aI+q_0.cut)∧(q_0.aI+q_0.cut)≤9223372036854775807) <|
 some (q_0.aI+q_0.cut)
noncomputable def QQ (d_0:cJ) (q_1:aE):Option (Bool) :=
 if 0 < q_1.cut then (
  (BH q_1).bind fun r0 =>
  cQ (0≤q_1.aI) <|
  cQ (0≤r0) <|
  cQ (q_1.aI.toNat≤r0.toNat∧r0.toNat≤d_0.report.words.length) <|
  (QK ((d_0.report.words.drop q_1.aI.toNat).take (r0.toNat - q_1.aI.toNat)) (fun x0_=>tM x0_ q_1)).bind fun r1 =>
  some r1)
 else
 cQ (-9223372036854775808≤(q_1.aI - 1)∧(q_1.aI - 1)≤9223372036854775807) <|
 cQ (-9223372036854775808≤(q_1.aI+1)∧(q_1.aI+1)≤9223372036854775807) <|
 cQ (0≤(min (d_0.report.words.length:Int) (q_1.aI+1))) <|
 cQ ((max 0 (q_1.aI - 1)).toNat≤(min (d_0.report.words.length:Int) (q_1.aI+1)).toNat∧(min (d_0.report.words.length:Int) (q_1.aI+1)).toNat≤d_0.report.words.length) <|
 (EJ ((d_0.report.words.drop ((max 0 (q_1.aI - 1)).toNat)).take ((min (d_0.report.words.length:Int) (q_1.aI+1)).toNat - ((max 0 (q_1.aI - 1)).toNat))) (fun x0_=>tM x0_ q_1)).bind fun r2 =>
 some r2
noncomputable def QR (d_0:cJ) (q_1:aE):Option (Bool) :=
 cQ (-9223372036854775808≤(d_0.report.out+d_0.report.within)∧(d_0.report.out+d_0.report.within)≤9223372036854775807) <|
 (BG q_1.minute d_0.report.out (d_0.report.out+d_0.report.within)).bind fun r0 =>
 some r0
noncomputable def sF (r_0:aY) (from_1:Int) (to_2:Int) (s0:Nat×List aF):Option ((Nat×List aF)⊕(List aF)) :=
 if (s0.1:Int) < (((r_0.words.drop from_1.toNat).take (to_2.toNat - from_1.toNat)).length:Int) then (
  (((r_0.words.drop from_1.toNat).take (to_2.toNat - from_1.toNat))[s0.1]?).bind fun x0 =>
  cQ (s0.2.length+1≤1073741824) <|
  some (.inl ((s0.1+1),(s0.2++[x0.text]))))
 else
 some (.inr s0.2)
noncomputable def HU (r_0:aY) (from_1:Int) (to_2:Int):Option (List aF) :=
 cQ (0≤from_1) <|
 cQ (0≤to_2) <|
 cQ (from_1.toNat≤to_2.toNat∧to_2.toNat≤r_0.words.length) <|
 (aQ (sF r_0 from_1 to_2) (0,([]:List aF))).bind fun e82 =>
 some e82
noncomputable def EK (m_0:List (aF×aW)) (s_1:aF):Option (aW×Bool) :=
 if (dR m_0 s_1).isSome then (
  some (((dR m_0 s_1).getD (⟨0,0⟩:aW)),true))
 else
 (HH s_1).bind fun r0 =>
 ((
  if r0.2 then (
   some true)
  else
  (FS r0.1).bind fun r1 =>
  if r1 then (
   (xF r0.1).bind fun r2 =>
   some (decide (r2≠s_1)))
  else
  some true
 ):Option (Bool)).bind fun t0 =>
 if t0 then (
  some ((⟨0,0⟩:aW),false))
 else
 some ((⟨1,r0.1⟩:aW),true)
noncomputable def qJ (texts:List aF) (m_0:List (aF×aW)) (s0:Nat×List aW):Option ((Nat×List aW)⊕(List aW)) :=
 if (s0.1:Int) < (texts.length:Int) then (
  (texts[s0.1]?).bind fun x0 =>
  (EK m_0 x0).bind fun r0 =>
  ((
   if r0.2 then (
    cQ (s0.2.length+1≤1073741824) <|
    some (s0.2++[r0.1]))
   else
   some s0.2
  ):Option (List aW)).bind fun t0 =>
  some (.inl ((s0.1+1),t0)))
 else
 some (.inr s0.2)
noncomputable def AR (m_0:List (aF×aW)) (texts:List aF):Option (List aW) :=
 (aQ (qJ texts m_0) (0,([]:List aW))).bind fun eA1 =>
 some eA1
noncomputable def EM (s_0:List bW) (v_1:bW) (s0:Nat):Option ((Nat)⊕((Unit)⊕Int)) :=
 if (s0:Int) < (s_0.length:Int) then (
  (s_0[s0]?).bind fun x0 =>
  if v_1=x0 then (
   some (.inr (.inr (s0:Int))))
  else
  some (.inl (s0+1)))
 else
 some (.inr (.inl ()))
noncomputable def LZ (s_0:List bW) (v_1:bW):Option (Int) :=
 (aQ (EM s_0 v_1) 0).bind fun e20=>match e20 with
 | .inr z=>some z
 | .inl t0 =>
 some (-1)
noncomputable def HV (s_0:List bW) (v_1:bW):Option (Bool) :=
 (LZ s_0 v_1).bind fun r4 =>
 some (decide (0≤r4))
noncomputable def vP (r_0:rules) (a_1:aW) (b_2:aW):Option (Bool) :=
 ((
  if a_1=b_2 then (
   some true)
  else
  if a_1.kind=b_2.kind then (
   (HV r_0.bK (⟨a_1.kind,a_1.value,b_2.value⟩:bW)).bind fun r0 =>
   some r0)
  else
  some false
 ):Option (Bool)).bind fun t0 =>
 some t0
noncomputable def EN (s1:List aW) (s2:List aW) (eq:aW→aW→Option Bool) (s0:Nat):Option ((Nat)⊕((Unit)⊕Bool)) :=
 if (s0:Int) < (s1.length:Int) then (
  (s1[s0]?).bind fun x0 =>
  (s2[s0]?).bind fun x1 =>
  (eq x0 x1).bind fun r0 =>
  if r0 then (
   some (.inl (s0+1)))
  else
  some (.inr (.inr false)))
 else
 some (.inr (.inl ()))
noncomputable def HW (s1:List aW) (s2:List aW) (eq:aW→aW→Option Bool):Option (Bool) :=
 if (s1.length:Int)≠(s2.length:Int) then (
  some false)
 else
 (aQ (EN s1 s2 eq) 0).bind fun e37=>match e37 with
 | .inr z=>some z
 | .inl t40 =>
 some true
noncomputable def EO (r_0:rules) (a_1:List aW) (b_2:List aW):Option (Bool) :=
 (HW a_1 b_2 (vP r_0)).bind fun r0 =>
 some r0
noncomputable def QS (d_0:cJ) (q_1:aE):Option (Bool) :=
 (BH q_1).bind fun r0 =>
 (HU d_0.report q_1.aI r0).bind fun r1 =>
 (AR d_0.rules.fA r1).bind fun r2 =>
 (AR d_0.rules.fA q_1.cV).bind fun r3 =>
 (EO d_0.rules r2 r3).bind fun r4 =>
 some r4
noncomputable def hD:Nat→aE→aE→Option (Bool)
 | 0,_,_=>none
 | n_+1,q_0,o_1 =>
 ((
  if q_0.cut=0 then (
   some (decide (o_1.cut=0)))
  else
  some false
 ):Option (Bool)).bind fun t0 =>
 if t0 then (
  some (decide (q_0.aI=o_1.aI)))
 else
 if q_0.cut=0 then (
  ((
   if o_1.aI < q_0.aI then (
    (BH o_1).bind fun r0 =>
    some (decide (q_0.aI < r0)))
   else
   some false
  ):Option (Bool)).bind fun t1 =>
  some t1)
 else
 if o_1.cut=0 then (
  (hD n_ o_1 q_0).bind fun r1 =>
  some r1)
 else
 ((
  (BH o_1).bind fun r2 =>
  if q_0.aI < r2 then (
   (BH q_0).bind fun r3 =>
   some (decide (o_1.aI < r3)))
  else
  some false
 ):Option (Bool)).bind fun t2 =>
 some t2
noncomputable def AS (q_0:aE) (o_1:aE):Option (Bool):=nQ (fun n_=>hD n_ q_0 o_1)
noncomputable def EP (s_0:List aE) (f_1:aE→Option Bool) (s0:Nat):Option ((Nat)⊕((Unit)⊕Int)) :=
 if (s0:Int) < (s_0.length:Int) then (
  (s_0[s0]?).bind fun x0 =>
  (f_1 x0).bind fun r0 =>
  if r0 then (
   some (.inr (.inr (s0:Int))))
  else
  some (.inl (s0+1)))
 else
 some (.inr (.inl ()))
noncomputable def MA (s_0:List aE) (f_1:aE→Option Bool):Option (Int) :=
 (aQ (EP s_0 f_1) 0).bind fun e23=>match e23 with
 | .inr z=>some z
 | .inl t0 =>
 some (-1)
noncomputable def HX (s_0:List aE) (f_1:aE→Option Bool):Option (Bool) :=
 (MA s_0 f_1).bind fun r1 =>
 some (decide (0≤r1))
noncomputable def QT (d_0:cJ) (q_1:aE):Option (Bool) :=
 (HX d_0.fB (AS q_1)).bind fun r0 =>
 some (!r0)
noncomputable def QU (d_0:cJ) (q_1:aE):Option (Int) :=
 (QO d_0 q_1).bind fun r0 =>
 if r0 then (
  (QP d_0 q_1).bind fun r1 =>
  if r1 then (
   (QQ d_0 q_1).bind fun r2 =>
   if r2 then (
    (QR d_0 q_1).bind fun r3 =>
    if r3 then (
     (QS d_0 q_1).bind fun r4 =>
     if r4 then (
      (QT d_0 q_1).bind fun r5 =>
      if r5 then (
       some 0)
      else
      some 6)
     else
     some 9)
    else
    some 11)
   else
   some 5)
  else
  some 1)
 else
 some 2
noncomputable def QV (a_0:Int) (b_1:Int) (f0_:List aE):Option (Int) :=
 cQ (0≤a_0) <|
 (f0_[a_0.toNat]?).bind fun x3 =>
 cQ (0≤b_1) <|
 (f0_[b_1.toNat]?).bind fun x0 =>
 cQ (-9223372036854775808≤(x3.aI - x0.aI)∧(x3.aI - x0.aI)≤9223372036854775807) <|
 cQ (-9223372036854775808≤(x3.cut - x0.cut)∧(x3.cut - x0.cut)≤9223372036854775807) <|
 (NT ([(x3.aI - x0.aI),(x3.cut - x0.cut)]:List Int)).bind fun r0 =>
 some r0
noncomputable def QW (s_0:List aF):Option (List aF) :=
 cQ (([]:List aF).length+s_0.length≤1073741824) <|
 some (([]:List aF)++s_0)
noncomputable def oL (requests:List aE) (s0:Nat×List Int):Option ((Nat×List Int)⊕(List Int)) :=
 if (s0.1:Int) < (requests.length:Int) then (
  cQ (s0.2.length+1≤1073741824) <|
  some (.inl ((s0.1+1),(s0.2++[(s0.1:Int)]))))
 else
 some (.inr s0.2)
noncomputable def zF (s1:Nat×Nat×List Int) (requests:List aE) (s0:Int×List Int):Option ((Int×List Int)⊕(List Int)) :=
 ((
  if (s1.1:Int) < s0.1 then (
   cQ (0≤s0.1) <|
   (s0.2[s0.1.toNat]?).bind fun x1 =>
   cQ (-9223372036854775808≤(s0.1 - 1)∧(s0.1 - 1)≤9223372036854775807) <|
   cQ (0≤(s0.1 - 1)) <|
   (s0.2[(s0.1 - 1).toNat]?).bind fun x2 =>
   (NU x1 x2 requests).bind fun r0 =>
   some (decide (r0 < 0)))
  else
  some false
 ):Option (Bool)).bind fun t0 =>
 if t0 then (
  cQ (-9223372036854775808≤(s0.1 - 1)∧(s0.1 - 1)≤9223372036854775807) <|
  cQ (0≤(s0.1 - 1)) <|
  (s0.2[(s0.1 - 1).toNat]?).bind fun x0 =>
  cQ (0≤s0.1) <|
  (s0.2[s0.1.toNat]?).bind fun x3 =>
  ((s0.2.set s0.1.toNat x0)[(s0.1 - 1).toNat]?).bind fun x4 =>
  some (.inl ((s0.1 - 1),((s0.2.set s0.1.toNat x0).set ((s0.1 - 1).toNat) x3))))
 else
 some (.inr s0.2)
noncomputable def vQ (s1:Nat×Nat×List Int) (requests:List aE) (s0:Nat×List Int):Option ((Nat×List Int)⊕(List Int)) :=
 if (s0.1:Int) < (s1.2.1:Int) then (
  (aQ (zF s1 requests) ((s0.1:Int),s0.2)).bind fun eA1 =>
  cQ (-9223372036854775808≤((s0.1:Int)+1)∧((s0.1:Int)+1)≤9223372036854775807) <|
  some (.inl ((s0.1+1),eA1)))
 else
 some (.inr s0.2)
noncomputable def lM (eA1:List Int) (requests:List aE) (s0:Nat×Nat×List Int):Option ((Nat×Nat×List Int)⊕(Nat×List Int)) :=
 if (s0.2.1:Int)≤(eA1.length:Int) then (
  ((
   cQ (-9223372036854775808≤((s0.1:Int)+1)∧((s0.1:Int)+1)≤9223372036854775807) <|
   (aQ (vQ s0 requests) ((s0.1+1),s0.2.2)).bind fun eB1 =>
   some eB1
  ):Option (List Int)).bind fun t0 =>
  cQ (-9223372036854775808≤((s0.2.1:Int)+20)∧((s0.2.1:Int)+20)≤9223372036854775807) <|
  some (.inl (s0.2.1,(s0.2.1+20),t0)))
 else
 some (.inr (s0.1,s0.2.2))
noncomputable def kL (eA1:Nat×List Int) (requests:List aE) (s0:Int×List Int):Option ((Int×List Int)⊕(List Int)) :=
 ((
  if (eA1.1:Int) < s0.1 then (
   cQ (0≤s0.1) <|
   (s0.2[s0.1.toNat]?).bind fun x1 =>
   cQ (-9223372036854775808≤(s0.1 - 1)∧(s0.1 - 1)≤9223372036854775807) <|
   cQ (0≤(s0.1 - 1)) <|
   (s0.2[(s0.1 - 1).toNat]?).bind fun x2 =>
   (NU x1 x2 requests).bind fun r0 =>
   some (decide (r0 < 0)))
  else
  some false
 ):Option (Bool)).bind fun t0 =>
 if t0 then (
  cQ (-9223372036854775808≤(s0.1 - 1)∧(s0.1 - 1)≤9223372036854775807) <|
  cQ (0≤(s0.1 - 1)) <|
  (s0.2[(s0.1 - 1).toNat]?).bind fun x0 =>
  cQ (0≤s0.1) <|
  (s0.2[s0.1.toNat]?).bind fun x3 =>
  ((s0.2.set s0.1.toNat x0)[(s0.1 - 1).toNat]?).bind fun x4 =>
  some (.inl ((s0.1 - 1),((s0.2.set s0.1.toNat x0).set ((s0.1 - 1).toNat) x3))))
 else
 some (.inr s0.2)
noncomputable def jU (eA1:List Int) (eB1:Nat×List Int) (requests:List aE) (s0:Nat×List Int):Option ((Nat×List Int)⊕(List Int)) :=
 if (s0.1:Int) < (eA1.length:Int) then (
  (aQ (kL eB1 requests) ((s0.1:Int),s0.2)).bind fun eC1 =>
  some (.inl ((s0.1+1),eC1)))
 else
 some (.inr s0.2)
noncomputable def JH (eA1:List Int) (s1:Int) (s0:Nat×Int):Option ((Nat×Int)⊕(Nat)) :=
 if s0.2≤(eA1.length:Int) then (
  cQ (-9223372036854775808≤((s0.1:Int)+s1)∧((s0.1:Int)+s1)≤9223372036854775807) <|
  none)
 else
 some (.inr s0.1)
noncomputable def qK (eA1:List Int) (s0:Int):Option ((Int)⊕(Unit)) :=
 if s0 < (eA1.length:Int) then (
  cQ (-9223372036854775808≤(2*s0)∧(2*s0)≤9223372036854775807) <|
  (aQ (JH eA1 s0) (0,(2*s0))).bind fun eB1 =>
  cQ (-9223372036854775808≤((eB1:Int)+s0)∧((eB1:Int)+s0)≤9223372036854775807) <|
  if ((eB1:Int)+s0) < (eA1.length:Int) then (
   none)
  else
  cQ (-9223372036854775808≤(s0*2)∧(s0*2)≤9223372036854775807) <|
  some (.inl (s0*2)))
 else
 some (.inr ())
noncomputable def qL (eA1:List Int) (t1:List Int) (requests:List aE) (r_2:aY) (r1:rules×Int) (s0:Nat×List Int×List aE×List Int):Option ((Nat×List Int×List aE×List Int)⊕(List Int×List aE×List Int)) :=
 if (s0.1:Int) < (eA1.length:Int) then (
  (t1[s0.1]?).bind fun x0 =>
  cQ (0≤x0) <|
  (requests[x0.toNat]?).bind fun x1 =>
  (QU (⟨r_2,r1.1,s0.2.2.1,s0.2.1,s0.2.2.2⟩:cJ) x1).bind fun r0 =>
  (s0.2.2.2[x0.toNat]?).bind fun x3 =>
  ((s0.2.2.2.set x0.toNat r0)[x0.toNat]?).bind fun x2 =>
  ((
   if x2=0 then (
    cQ (s0.2.2.1.length+([x1]:List aE).length≤1073741824) <|
    cQ (s0.2.1.length+([x0]:List Int).length≤1073741824) <|
    some ((s0.2.1++([x0]:List Int)),(s0.2.2.1++([x1]:List aE))))
   else
   some (s0.2.1,s0.2.2.1)
  ):Option (List Int×List aE)).bind fun t0 =>
  some (.inl ((s0.1+1),t0.1,t0.2,(s0.2.2.2.set x0.toNat r0))))
 else
 some (.inr (s0.2.1,s0.2.2.1,s0.2.2.2))
noncomputable def qM (t0:List Int×List aE×List dJ×(List (aF×aW))×List bW×List Int) (l0:List Int) (requests:List aE) (r_2:aY) (s0:Nat×Int×List aT):Option ((Nat×Int×List aT)⊕(Int×List aT)) :=
 if (s0.1:Int) < (t0.1.length:Int) then (
  (l0[s0.1]?).bind fun x1 =>
  cQ (0≤x1) <|
  (requests[x1.toNat]?).bind fun x0 =>
  ((
   ((
    if s0.2.1 < x0.aI then (
     (HU (⟨t0.2.2.1,r_2.out,r_2.within⟩:aY) s0.2.1 x0.aI).bind fun r0 =>
     cQ (s0.2.2.length+([(⟨r0,r0,(-1)⟩:aT)]:List aT).length≤1073741824) <|
     some (s0.2.2++([(⟨r0,r0,(-1)⟩:aT)]:List aT)))
    else
    some s0.2.2
   ):Option (List aT)).bind fun t2 =>
   some t2
  ):Option (List aT)).bind fun t1 =>
  (BH x0).bind fun r1 =>
  (HU (⟨t0.2.2.1,r_2.out,r_2.within⟩:aY) x0.aI r1).bind fun r2 =>
  (QW x0.cV).bind fun r3 =>
  cQ (t1.length+([(⟨r2,r3,x1⟩:aT)]:List aT).length≤1073741824) <|
  some (.inl ((s0.1+1),r1,(t1++([(⟨r2,r3,x1⟩:aT)]:List aT)))))
 else
 some (.inr (s0.2.1,s0.2.2))
noncomputable def QX (l_0:aM) (bK:List bW) (r_2:aY) (requests:List aE):Option (List aT×Int) :=
 ((
  (QJ l_0 bK).bind fun r0 =>
  if r0.2≠0 then (
   some (.inl r0.2))
  else
  (QL r_2).bind fun r2 =>
  if r2≠0 then (
   some (.inl r2))
  else
  if 20 < (requests.length:Int) then (
   some (.inl 3))
  else
  cQ (requests.length≤1073741824) <|
  (aQ (oL requests) (0,([]:List Int))).bind fun eA1 =>
  ((
   ((
    (aQ (lM eA1 requests) (0,20,eA1)).bind fun eB1 =>
    ((
     cQ (-9223372036854775808≤((eB1.1:Int)+1)∧((eB1.1:Int)+1)≤9223372036854775807) <|
     (aQ (jU eA1 eB1 requests) ((eB1.1+1),eB1.2)).bind fun eE1 =>
     some eE1
    ):Option (List Int)).bind fun t2 =>
    (aQ (qK eA1) 20).bind fun eF1 =>
    some t2
   ):Option (List Int)).bind fun t3 =>
   some t3
  ):Option (List Int)).bind fun t4 =>
  (aQ (qL eA1 t4 requests r_2 r0) (0,([]:List Int),([]:List aE),(List.replicate requests.length (0:Int)))).bind fun eD1 =>
  some (.inr (eD1.1,eD1.2.1,r_2.words,r0.1.fA,r0.1.bK,eD1.2.2))
 ):Option ((Int)⊕(List Int×List aE×List dJ×(List (aF×aW))×List bW×List Int))).bind fun t5=>match t5 with
 | .inl t1=>(
  if t1≠0 then (
   some (([]:List aT),t1))
  else
  none)
 | .inr t0=>(
  (mX (fun x0_ x1_=>QV x0_ x1_ requests) t0.1).bind fun l0 =>
  (aQ (qM t0 l0 requests r_2) (0,0,([]:List aT))).bind fun eC1 =>
  ((
   ((
    if eC1.1 < (r_2.words.length:Int) then (
     (HU (⟨t0.2.2.1,r_2.out,r_2.within⟩:aY) eC1.1 (r_2.words.length:Int)).bind fun r1 =>
     cQ (eC1.2.length+([(⟨r1,r1,(-1)⟩:aT)]:List aT).length≤1073741824) <|
     some (eC1.2++([(⟨r1,r1,(-1)⟩:aT)]:List aT)))
    else
    some eC1.2
   ):Option (List aT)).bind fun t6 =>
   some t6
  ):Option (List aT)).bind fun t7 =>
  some (t7,0))
noncomputable def qN (s_0:aF) (s0:Nat×Int):Option ((Nat×Int)⊕((Int)⊕Int)) :=
 if (s0.1:Int) < (s_0.length:Int) then (
  ((
   (s_0[s0.1]?).bind fun x1 =>
   if (x1.toNat:Int) < 48 then (
    some true)
   else
   some (decide (57 < (x1.toNat:Int)))
  ):Option (Bool)).bind fun t0 =>
  if t0 then (
   some (.inr (.inr (-1))))
  else
  cQ (-9223372036854775808≤(10*s0.2)∧(10*s0.2)≤9223372036854775807) <|
  (s_0[s0.1]?).bind fun x0 =>
  cQ (0≤((x0.toNat:Int) - 48)∧((x0.toNat:Int) - 48)≤255) <|
  cQ (-9223372036854775808≤((10*s0.2)+((x0.toNat:Int) - 48))∧((10*s0.2)+((x0.toNat:Int) - 48))≤9223372036854775807) <|
  cQ (-9223372036854775808≤((s0.1:Int)+1)∧((s0.1:Int)+1)≤9223372036854775807) <|
  some (.inl ((s0.1+1),((10*s0.2)+((x0.toNat:Int) - 48)))))
 else
 some (.inr (.inl s0.2))
noncomputable def EQ (s_0:aF):Option (Int) :=
 ((
  if (s_0.length:Int) < 1 then (
   some true)
  else
  if 9 < (s_0.length:Int) then (
   some true)
  else
  (s_0[0]?).bind fun x0 =>
  if (x0.toNat:Int)=48 then (
   some (decide (1 < (s_0.length:Int))))
  else
  some false
 ):Option (Bool)).bind fun t0 =>
 if t0 then (
  some (-1))
 else
 (aQ (qN s_0) (0,0)).bind fun e84=>match e84 with
 | .inr z=>some z
 | .inl t1 =>
 some t1
noncomputable def vT (l_0:aM) (s_1:aF) (s0:Nat):Option ((Nat)⊕((Unit)⊕aW)) :=
 if (s0:Int) < (l_0.numbers.length:Int) then (
  (l_0.numbers[s0]?).bind fun x0 =>
  if x0.text=s_1 then (
   some (.inr (.inr (⟨1,x0.value⟩:aW))))
  else
  some (.inl (s0+1)))
 else
 some (.inr (.inl ()))
noncomputable def vU (l_0:aM) (s1:Nat) (s_1:aF) (s0:Nat):Option ((Nat)⊕((Unit)⊕((Nat)⊕((Unit)⊕aW)))) :=
 (l_0.names[s1]?).bind fun x0 =>
 if (s0:Int) < (x0.length:Int) then (
  (x0[s0]?).bind fun x1 =>
  if x1=s_1 then (
   some (.inr (.inr (.inr (.inr (⟨2,(s1:Int)⟩:aW))))))
  else
  some (.inl (s0+1)))
 else
 some (.inr (.inl ()))
noncomputable def vV (l_0:aM) (s_1:aF) (s0:Nat):Option ((Nat)⊕((Unit)⊕aW)) :=
 if (s0:Int) < (l_0.names.length:Int) then (
  (aQ (vU l_0 s0 s_1) 0).bind fun eA1=>match eA1 with
  | .inr z=>some z
  | .inl t0 =>
  some (.inl (s0+1)))
 else
 some (.inr (.inl ()))
noncomputable def vW (l_0:aM) (s_1:aF) (s0:Nat):Option ((Nat)⊕((Unit)⊕aW)) :=
 if (s0:Int) < (l_0.nots.length:Int) then (
  (l_0.nots[s0]?).bind fun x0 =>
  if x0=s_1 then (
   some (.inr (.inr (⟨3,0⟩:aW))))
  else
  some (.inl (s0+1)))
 else
 some (.inr (.inl ()))
noncomputable def QY (l_0:aM) (s_1:aF):Option (aW) :=
 (aQ (vT l_0 s_1) 0).bind fun e29=>match e29 with
 | .inr z=>some z
 | .inl t0 =>
 (aQ (vV l_0 s_1) 0).bind fun e100=>match e100 with
 | .inr z=>some z
 | .inl t1 =>
 (aQ (vW l_0 s_1) 0).bind fun eA1=>match eA1 with
 | .inr z=>some z
 | .inl t2 =>
 (EQ s_1).bind fun r0 =>
 if 0≤r0 then (
  some (⟨1,r0⟩:aW))
 else
 some (⟨0,0⟩:aW)
noncomputable def vX (texts:List aF) (l_0:aM) (s0:Nat×List aW):Option ((Nat×List aW)⊕(List aW)) :=
 if (s0.1:Int) < (texts.length:Int) then (
  (texts[s0.1]?).bind fun x0 =>
  (QY l_0 x0).bind fun r0 =>
  ((
   if r0.kind≠0 then (
    cQ (s0.2.length+1≤1073741824) <|
    some (s0.2++[r0]))
   else
   some s0.2
  ):Option (List aW)).bind fun t0 =>
  some (.inl ((s0.1+1),t0)))
 else
 some (.inr s0.2)
noncomputable def QZ (l_0:aM) (texts:List aF):Option (List aW) :=
 (aQ (vX texts l_0) (0,([]:List aW))).bind fun e111 =>
 some e111
noncomputable def zG (s1:Nat×List Int) (x0:aW) (s0:Nat×Nat×Bool):Option ((Nat×Nat×Bool)⊕(Nat×Bool)) :=
 if (s0.2.1:Int) < (s1.2.length:Int) then (
  ((
   if s0.2.2 then (
    some true)
   else
   (s1.2[s0.2.1]?).bind fun x1 =>
   some (decide (x1=((300*(x0.kind - 1))+(x0.value%300))))
  ):Option (Bool)).bind fun t0 =>
  (s1.2[s0.2.1]?).bind fun x2 =>
  ((
   if x2 < ((300*(x0.kind - 1))+(x0.value%300)) then (
    some (s0.2.1+1))
   else
   some s0.1
  ):Option (Nat)).bind fun t1 =>
  some (.inl (t1,(s0.2.1+1),t0)))
 else
 some (.inr (s0.1,s0.2.2))
noncomputable def zH (r0:List aW) (s0:Nat×List Int):Option ((Nat×List Int)⊕(List Int)) :=
 ((
  if (s0.1:Int) < (r0.length:Int) then (
   some (decide ((s0.2.length:Int) < 12)))
  else
  some false
 ):Option (Bool)).bind fun t0 =>
 if t0 then (
  (r0[s0.1]?).bind fun x0 =>
  cQ (-9223372036854775808≤x0.kind∧x0.kind≤9223372036854775807) <|
  cQ (-9223372036854775808≤(x0.kind - 1)∧(x0.kind - 1)≤9223372036854775807) <|
  cQ (-9223372036854775808≤(300*(x0.kind - 1))∧(300*(x0.kind - 1))≤9223372036854775807) <|
  cQ (0≤x0.value∧0 < (300:Int)) <|
  cQ (-9223372036854775808≤((300*(x0.kind - 1))+(x0.value%300))∧((300*(x0.kind - 1))+(x0.value%300))≤9223372036854775807) <|
  (aQ (zG s0 x0) (0,0,false)).bind fun eA1 =>
  ((
   if eA1.2 then (
    some s0.2)
   else
   cQ (eA1.1≤s0.2.length) <|
   cQ (([]:List Int).length+(s0.2.take eA1.1).length≤1073741824) <|
   cQ ((([]:List Int)++(s0.2.take eA1.1)).length+([((300*(x0.kind - 1))+(x0.value%300))]:List Int).length≤1073741824) <|
   cQ (((([]:List Int)++(s0.2.take eA1.1))++([((300*(x0.kind - 1))+(x0.value%300))]:List Int)).length+(s0.2.drop eA1.1).length≤1073741824) <|
   some (((([]:List Int)++(s0.2.take eA1.1))++([((300*(x0.kind - 1))+(x0.value%300))]:List Int))++(s0.2.drop eA1.1))
  ):Option (List Int)).bind fun t1 =>
  cQ (-9223372036854775808≤((s0.1:Int)+1)∧((s0.1:Int)+1)≤9223372036854775807) <|
  some (.inl ((s0.1+1),t1)))
 else
 some (.inr s0.2)
noncomputable def m16 (l_0:aM) (texts:List aF):Option (List Int) :=
 (QZ l_0 texts).bind fun r0 =>
 (aQ (zH r0) (0,([]:List Int))).bind fun eA1 =>
 some eA1
noncomputable def RA (l_0:List Int):Option (List Int) :=
 cQ (([]:List Int).length+l_0.length≤1073741824) <|
 some (([]:List Int)++l_0)
noncomputable def zI (l_0:List aA) (s0:Nat×List aA):Option ((Nat×List aA)⊕(List aA)) :=
 if (s0.1:Int) < (l_0.length:Int) then (
  (l_0[s0.1]?).bind fun x0 =>
  (RA x0.marks).bind fun r0 =>
  cQ (s0.2.length+([(⟨r0,x0.size⟩:aA)]:List aA).length≤1073741824) <|
  some (.inl ((s0.1+1),(s0.2++([(⟨r0,x0.size⟩:aA)]:List aA)))))
 else
 some (.inr s0.2)
noncomputable def m18 (l_0:List aA):Option (List aA) :=
 (aQ (zI l_0) (0,([]:List aA))).bind fun eA1 =>
 some eA1
noncomputable def tN (s_0:List bN) (v_1:bN) (s0:Nat):Option ((Nat)⊕((Unit)⊕Int)) :=
 if (s0:Int) < (s_0.length:Int) then (
  (s_0[s0]?).bind fun x0 =>
  if v_1=x0 then (
   some (.inr (.inr (s0:Int))))
  else
  some (.inl (s0+1)))
 else
 some (.inr (.inl ()))
noncomputable def HY (s_0:List bN) (v_1:bN):Option (Int) :=
 (aQ (tN s_0 v_1) 0).bind fun e20=>match e20 with
 | .inr z=>some z
 | .inl t0 =>
 some (-1)
noncomputable def ER (s_0:List bN) (v_1:bN):Option (Bool) :=
 (HY s_0 v_1).bind fun r4 =>
 some (decide (0≤r4))
noncomputable def zJ (steps:List bN) (x_0:two) (s0:Nat×Int×Int):Option ((Nat×Int×Int)⊕((Int×Int)⊕Bool)) :=
 if (s0.1:Int) < (steps.length:Int) then (
  (steps[s0.1]?).bind fun x0 =>
  (xJ).bind fun r0 =>
  (ER r0 x0).bind fun r1 =>
  if r1 then (
   cQ (-9223372036854775808≤(s0.2.1+x0.left)∧(s0.2.1+x0.left)≤9223372036854775807) <|
   cQ (-9223372036854775808≤(s0.2.2+x0.right)∧(s0.2.2+x0.right)≤9223372036854775807) <|
   ((
    if (x_0.left.list.length:Int) < (s0.2.1+x0.left) then (
     some true)
    else
    some (decide ((x_0.right.list.length:Int) < (s0.2.2+x0.right)))
   ):Option (Bool)).bind fun t0 =>
   if t0 then (
    some (.inr (.inr false)))
   else
   some (.inl ((s0.1+1),(s0.2.1+x0.left),(s0.2.2+x0.right))))
  else
  some (.inr (.inr false)))
 else
 some (.inr (.inl (s0.2.1,s0.2.2)))
noncomputable def RB (x_0:two) (steps:List bN):Option (Bool) :=
 (aQ (zJ steps x_0) (0,0,0)).bind fun eA1=>match eA1 with
 | .inr z=>some z
 | .inl t0 =>
 (NP x_0).bind fun r0 =>
 some (decide ((⟨t0.1,t0.2⟩:bG)=r0))
noncomputable def RD (left:List aA) (right:List aA) (steps:List bN):Option (two×Int) :=
 (NO left right).bind fun r5 =>
 ((
  if r5=0 then (
   (RB (⟨(⟨left⟩:text),(⟨right⟩:text)⟩:two) steps).bind fun r0 =>
   some (!r0))
  else
  some false
 ):Option (Bool)).bind fun t0 =>
 ((
  if t0 then (
   some 9)
  else
  some r5
 ):Option (Int)).bind fun t1 =>
 some ((⟨(⟨left⟩:text),(⟨right⟩:text)⟩:two),t1)
noncomputable def ES (steps:List bN) (r1:two×Int) (left:List aA) (right:List aA) (s0:Nat×Int×Int×List Int):Option ((Nat×Int×Int×List Int)⊕(Int×Int×List Int)) :=
 if (s0.1:Int) < (steps.length:Int) then (
  (steps[s0.1]?).bind fun x0 =>
  (FR r1.1 (⟨s0.2.1,s0.2.2.1⟩:bG) x0).bind fun r0 =>
  (NQ r0.1 r0.2).bind fun r2 =>
  ((
   if 0 < r2 then (
    cQ (s0.2.2.2.length+1≤1073741824) <|
    some (s0.2.2.2++[(s0.1:Int)]))
   else
   some s0.2.2.2
  ):Option (List Int)).bind fun t0 =>
  cQ (-9223372036854775808≤(s0.2.1+x0.left)∧(s0.2.1+x0.left)≤9223372036854775807) <|
  cQ (-9223372036854775808≤(s0.2.2.1+x0.right)∧(s0.2.2.1+x0.right)≤9223372036854775807) <|
  some (.inl ((s0.1+1),(s0.2.1+x0.left),(s0.2.2.1+x0.right),t0)))
 else
 some (.inr (s0.2.1,s0.2.2.1,s0.2.2.2))
noncomputable def m19 (left:List aA) (right:List aA) (steps:List bN):Option (List Int×Int) :=
 (RD left right steps).bind fun r1 =>
 if r1.2≠0 then (
  some (([]:List Int),r1.2))
 else
 (aQ (ES steps r1 left right) (0,0,0,([]:List Int))).bind fun eA1 =>
 some (eA1.2.2,0)
noncomputable def AT (r0:List aT×Int) (s0:Nat×List aF×List aF):Option ((Nat×List aF×List aF)⊕(List aF×List aF)) :=
 if (s0.1:Int) < (r0.1.length:Int) then (
  (r0.1[s0.1]?).bind fun x0 =>
  cQ (s0.2.2.length+x0.dP.length≤1073741824) <|
  cQ (s0.2.1.length+x0.eC.length≤1073741824) <|
  some (.inl ((s0.1+1),(s0.2.1++x0.eC),(s0.2.2++x0.dP))))
 else
 some (.inr (s0.2.1,s0.2.2))
noncomputable def ET (r0:List Int×Int) (r1:List Int×Int) (s0:Nat):Option ((Nat)⊕((Unit)⊕Bool)) :=
 if (s0:Int) < (r0.1.length:Int) then (
  (r0.1[s0]?).bind fun x0 =>
  (r1.1[s0]?).bind fun x1 =>
  if x0≠x1 then (
   some (.inr (.inr false)))
  else
  some (.inl (s0+1)))
 else
 some (.inr (.inl ()))
noncomputable def m3 (l_0:aM) (r_1:aY) (requests:List aE) (right:List aA):Option (Bool) :=
 ((
  (m5 l_0 ([]:List bW)).bind fun r6 =>
  if r6 then (
   (m6 r_1 requests).bind fun r7 =>
   if r7 then (
    (m7 l_0).bind fun r8 =>
    if r8≠0 then (
     some true)
    else
    (m8 r_1).bind fun r9 =>
    if r9 then (
     if 20 < (requests.length:Int) then (
      some true)
     else
     (m9 ([]:List aA) right).bind fun r82 =>
     if r82 then (
      (PV ([]:List aA) right).bind fun r87 =>
      some (decide (r87≠0)))
     else
     some true)
    else
    some true)
   else
   some true)
  else
  some true
 ):Option (Bool)).bind fun t1 =>
 if t1 then (
  (NR).bind fun rA1 =>
  some rA1)
 else
 (QE l_0).bind fun rB1 =>
 (QF r_1).bind fun rC1 =>
 (m15 requests).bind fun rD1 =>
 (QX rB1 ([]:List bW) rC1 rD1).bind fun r5 =>
 if r5.2≠0 then (
  some false)
 else
 (aQ (AT r5) (0,([]:List aF),([]:List aF))).bind fun eA1 =>
 ((
  (m16 l_0 eA1.2).bind fun rE1 =>
  (m16 l_0 eA1.1).bind fun rF1 =>
  some (([(⟨rE1,1⟩:aA)]:List aA),([(⟨rF1,1⟩:aA)]:List aA))
 ):Option (List aA×List aA)).bind fun t0 =>
 (m18 right).bind fun r1 =>
 (m17 t0.1 r1).bind fun r0 =>
 (m17 t0.2 r1).bind fun r2 =>
 ((
  if r0.2.2≠0 then (
   some true)
  else
  if r2.2.2≠0 then (
   some true)
  else
  if r0.2.1≠r2.2.1 then (
   some true)
  else
  some (decide ((r0.1.length:Int)≠(r2.1.length:Int)))
 ):Option (Bool)).bind fun t2 =>
 if t2 then (
  some false)
 else
 cQ (([]:List bN).length+r0.1.length≤1073741824) <|
 (m19 t0.1 r1 (([]:List bN)++r0.1)).bind fun r3 =>
 (m19 t0.2 r1 (([]:List bN)++r0.1)).bind fun r4 =>
 ((
  if r3.2≠0 then (
   some true)
  else
  if r4.2≠0 then (
   some true)
  else
  some (decide ((r3.1.length:Int)≠(r4.1.length:Int)))
 ):Option (Bool)).bind fun t3 =>
 if t3 then (
  some false)
 else
 (aQ (ET r3 r4) 0).bind fun eB1=>match eB1 with
 | .inr z=>some z
 | .inl t4 =>
 (NR).bind fun rG1 =>
 some rG1
end T4
namespace T4
open Go.Proofs
abbrev C10:=@Tryz.call10
abbrev VX:=@Tryz.call100
abbrev VY:=@Tryz.call101
abbrev VZ:=@Tryz.call102
abbrev WA:=@Tryz.call103
abbrev WB:=@Tryz.call104
abbrev WC:=@Tryz.call105
abbrev RF:=@Tryz.call106
abbrev RG:=@Tryz.call107
abbrev HZ:=@Tryz.call108
abbrev WD:=@Tryz.call109
abbrev C11:=@Tryz.call11
abbrev WE:=@Tryz.call110
abbrev WF:=@Tryz.call111
abbrev C12:=@Tryz.call12
abbrev WG:=@Tryz.call128
abbrev WH:=@Tryz.call129
abbrev C13:=@Tryz.call13
abbrev MB:=@Tryz.call130
abbrev WI:=@Tryz.call131
abbrev WJ:=@Tryz.call132
abbrev WK:=@Tryz.call133
abbrev WL:=@Tryz.call134
abbrev WM:=@Tryz.call135
abbrev WN:=@Tryz.call136
abbrev WO:=@Tryz.call137
abbrev RH:=@Tryz.call138
abbrev WP:=@Tryz.call139
abbrev C14:=@Tryz.call14
abbrev RI:=@Tryz.call141
abbrev WQ:=@Tryz.call142
abbrev RJ:=@Tryz.call143
abbrev WR:=@Tryz.call144
abbrev RK:=@Tryz.call145
abbrev C15:=@Tryz.call15
abbrev WS:=@Tryz.call151
abbrev WT:=@Tryz.call152
abbrev WU:=@Tryz.call153
abbrev IA:=@Tryz.call154
abbrev WV:=@Tryz.call155
abbrev WW:=@Tryz.call156
abbrev WX:=@Tryz.call157
abbrev WY:=@Tryz.call158
abbrev xO:=@Tryz.call16
abbrev WZ:=@Tryz.call17
abbrev RL:=@Tryz.call170
abbrev XA:=@Tryz.call171
abbrev XB:=@Tryz.call172
abbrev XC:=@Tryz.call173
abbrev XD:=@Tryz.call174
abbrev XE:=@Tryz.call175
abbrev XF:=@Tryz.call176
abbrev XG:=@Tryz.call177
abbrev XH:=@Tryz.call178
abbrev XI:=@Tryz.call179
abbrev TN:=@Tryz.call18
abbrev XJ:=@Tryz.call180
abbrev XK:=@Tryz.call181
abbrev XL:=@Tryz.call183
abbrev XM:=@Tryz.call184
abbrev XN:=@Tryz.call185
abbrev XO:=@Tryz.call186
abbrev C19:=@Tryz.call19
abbrev XP:=@Tryz.call196
abbrev XQ:=@Tryz.call197
abbrev XR:=@Tryz.call198
abbrev XS:=@Tryz.call199
abbrev XT:=@Tryz.call201
abbrev XU:=@Tryz.call202
abbrev XV:=@Tryz.call203
abbrev XW:=@Tryz.call205
abbrev XX:=@Tryz.call23
abbrev XY:=@Tryz.call24
abbrev RM:=@Tryz.call25
abbrev C26:=@Tryz.call26
abbrev C27:=@Tryz.call27
abbrev C28:=@Tryz.call28
abbrev C29:=@Tryz.call29
abbrev C30:=@Tryz.call30
abbrev C31:=@Tryz.call31
abbrev C32:=@Tryz.call32
abbrev C33:=@Tryz.call33
abbrev NV:=@Tryz.call34
abbrev JI:=@Tryz.call35
abbrev C36:=@Tryz.call36
abbrev XZ:=@Tryz.call37
abbrev C38:=@Tryz.call38
abbrev C39:=@Tryz.call39
abbrev C40:=@Tryz.call40
abbrev C41:=@Tryz.call41
abbrev C42:=@Tryz.call42
abbrev C43:=@Tryz.call43
abbrev C44:=@Tryz.call44
abbrev C48:=@Tryz.call48
abbrev C49:=@Tryz.call49
abbrev C5:=@Tryz.call5
abbrev C50:=@Tryz.call50
abbrev C51:=@Tryz.call51
abbrev C52:=@Tryz.call52
abbrev C53:=@Tryz.call53
abbrev C56:=@Tryz.call56
abbrev C57:=@Tryz.call57
abbrev C58:=@Tryz.call58
abbrev TO:=@Tryz.call59
abbrev C6:=@Tryz.call6
abbrev C60:=@Tryz.call60
abbrev TP:=@Tryz.call61
abbrev YA:=@Tryz.call62
abbrev C63:=@Tryz.call63
abbrev C64:=@Tryz.call64
abbrev C65:=@Tryz.call65
abbrev C66:=@Tryz.call66
abbrev C67:=@Tryz.call67
abbrev C7:=@Tryz.call7
abbrev C74:=@Tryz.call74
abbrev C75:=@Tryz.call75
abbrev NW:=@Tryz.call76
abbrev C77:=@Tryz.call77
abbrev C78:=@Tryz.call78
abbrev RN:=@Tryz.call79
abbrev C8:=@Tryz.call8
abbrev JJ:=@Tryz.call80
abbrev C81:=@Tryz.call81
abbrev C82:=@Tryz.call82
abbrev C83:=@Tryz.call83
abbrev C84:=@Tryz.call84
abbrev C85:=@Tryz.call85
abbrev C86:=@Tryz.call86
abbrev C87:=@Tryz.call87
abbrev C88:=@Tryz.call88
abbrev C89:=@Tryz.call89
abbrev C9:=@Tryz.call9
abbrev C90:=@Tryz.call90
abbrev oY:=@Tryz.isAgg102
abbrev xP:=@Tryz.isAgg104
abbrev RO:=@Tryz.isAgg105
abbrev iX:=@Tryz.isAgg109
abbrev IB:=@Tryz.isAgg115
abbrev MC:=@Tryz.isAgg116
abbrev AU:=@Tryz.isAgg120
abbrev RP:=@Tryz.isAgg124
abbrev oZ:=@Tryz.isAgg126
abbrev iY:=@Tryz.isAgg132
abbrev IC:=@Tryz.isAgg135
abbrev MD:=@Tryz.isAgg138
abbrev EU:=@Tryz.isAgg144
abbrev YB:=@Tryz.isAgg164
abbrev RR:=@Tryz.isAgg166
abbrev ID:=@Tryz.isAgg167
abbrev YC:=@Tryz.isAgg184
abbrev YD:=@Tryz.isAgg185
abbrev YE:=@Tryz.isAgg187
abbrev AV:=@Tryz.isAgg190
abbrev AW:=@Tryz.isAgg192
abbrev ME:=@Tryz.isAgg213
abbrev zK:=@Tryz.isAgg22
abbrev YF:=@Tryz.isAgg224
abbrev YG:=@Tryz.isAgg226
abbrev uA:=@Tryz.isAgg23
abbrev mY:=@Tryz.isAgg232
abbrev YH:=@Tryz.isAgg236
abbrev mZ:=@Tryz.isAgg24
abbrev vY:=@Tryz.isAgg248
abbrev BI:=@Tryz.isAgg26
abbrev FT:=@Tryz.isAgg27
abbrev YI:=@Tryz.isAgg29
abbrev G3:=@Tryz.isAgg3
abbrev TQ:=@Tryz.isAgg39
abbrev G4:=@Tryz.isAgg4
abbrev FU:=@Tryz.isAgg40
abbrev RS:=@Tryz.isAgg43
abbrev NX:=@Tryz.isAgg45
abbrev IE:=@Tryz.isAgg47
abbrev EV:=@Tryz.isAgg49
abbrev G5:=@Tryz.isAgg5
abbrev vZ:=@Tryz.isAgg51
abbrev zL:=@Tryz.isAgg55
abbrev YJ:=@Tryz.isAgg58
abbrev pK:=@Tryz.isAgg59
abbrev YK:=@Tryz.isAgg60
abbrev G69:=@Tryz.isAgg69
abbrev G70:=@Tryz.isAgg70
abbrev G9:=@Tryz.isAgg9
abbrev G91:=@Tryz.isAgg91
abbrev uB:=@Tryz.isAgg96
abbrev JK:=@Tryz.isAgg97
abbrev wA:=@Tryz.sizeOf102
abbrev mB:=@Tryz.sizeOf104
abbrev RT:=@Tryz.sizeOf105
abbrev eU:=@Tryz.sizeOf109
abbrev tO:=@Tryz.sizeOf115
abbrev tP:=@Tryz.sizeOf116
abbrev nA:=@Tryz.sizeOf120
abbrev gD:=@Tryz.sizeOf124
abbrev mC:=@Tryz.sizeOf126
abbrev eQ:=@Tryz.sizeOf132
abbrev MF:=@Tryz.sizeOf133
abbrev pA:=@Tryz.sizeOf135
abbrev MG:=@Tryz.sizeOf138
abbrev xQ:=@Tryz.sizeOf144
abbrev YM:=@Tryz.sizeOf166
abbrev YN:=@Tryz.sizeOf167
abbrev AX:=@Tryz.sizeOf190
abbrev jY:=@Tryz.sizeOf192
abbrev tQ:=@Tryz.sizeOf213
abbrev zM:=@Tryz.sizeOf22
abbrev sG:=@Tryz.sizeOf23
abbrev fU:=@Tryz.sizeOf232
abbrev nB:=@Tryz.sizeOf24
abbrev YO:=@Tryz.sizeOf248
abbrev BJ:=@Tryz.sizeOf26
abbrev FV:=@Tryz.sizeOf27
abbrev YP:=@Tryz.sizeOf29
abbrev Z3:=@Tryz.sizeOf3
abbrev YQ:=@Tryz.sizeOf39
abbrev Z4:=@Tryz.sizeOf4
abbrev zN:=@Tryz.sizeOf40
abbrev MH:=@Tryz.sizeOf43
abbrev JL:=@Tryz.sizeOf45
abbrev EW:=@Tryz.sizeOf47
abbrev oM:=@Tryz.sizeOf49
abbrev Z5:=@Tryz.sizeOf5
abbrev TR:=@Tryz.sizeOf51
abbrev Z54:=@Tryz.sizeOf54
abbrev wP:=@Tryz.sizeOf55
abbrev MI:=@Tryz.sizeOf58
abbrev pL:=@Tryz.sizeOf59
abbrev Z60:=@Tryz.sizeOf60
abbrev TS:=@Tryz.sizeOf69
abbrev Z70:=@Tryz.sizeOf70
abbrev RU:=@Tryz.sizeOf76
abbrev JM:=@Tryz.sizeOf89
abbrev Z9:=@Tryz.sizeOf9
abbrev IF:=@Tryz.sizeOf93
abbrev lN:=@Tryz.sizeOf96
abbrev Z97:=@Tryz.sizeOf97
abbrev xR:=@Tryz.underlying102
abbrev MJ:=@Tryz.underlying104
abbrev RW:=@Tryz.underlying105
abbrev gY:=@Tryz.underlying107
abbrev dU:=@Tryz.underlying109
abbrev AY:=@Tryz.underlying115
abbrev IG:=@Tryz.underlying116
abbrev ML:=@Tryz.underlying117
abbrev MM:=@Tryz.underlying120
abbrev hZ:=@Tryz.underlying124
abbrev pB:=@Tryz.underlying126
abbrev iM:=@Tryz.underlying132
abbrev MN:=@Tryz.underlying133
abbrev lC:=@Tryz.underlying135
abbrev AZ:=@Tryz.underlying144
abbrev RX:=@Tryz.underlying166
abbrev pC:=@Tryz.underlying192
abbrev xS:=@Tryz.underlying193
abbrev IH:=@Tryz.underlying210
abbrev MO:=@Tryz.underlying213
abbrev zO:=@Tryz.underlying22
abbrev sH:=@Tryz.underlying23
abbrev EX:=@Tryz.underlying232
abbrev MP:=@Tryz.underlying235
abbrev EY:=@Tryz.underlying238
abbrev lD:=@Tryz.underlying24
abbrev lE:=@Tryz.underlying26
abbrev FX:=@Tryz.underlying27
abbrev YR:=@Tryz.underlying275
abbrev zP:=@Tryz.underlying29
abbrev U3:=@Tryz.underlying3
abbrev NY:=@Tryz.underlying30
abbrev uC:=@Tryz.underlying31
abbrev YS:=@Tryz.underlying39
abbrev U4:=@Tryz.underlying4
abbrev MQ:=@Tryz.underlying43
abbrev wQ:=@Tryz.underlying45
abbrev EZ:=@Tryz.underlying47
abbrev xT:=@Tryz.underlying49
abbrev U5:=@Tryz.underlying5
abbrev wR:=@Tryz.underlying51
abbrev U54:=@Tryz.underlying54
abbrev gG:=@Tryz.underlying55
abbrev RY:=@Tryz.underlying58
abbrev nC:=@Tryz.underlying59
abbrev wS:=@Tryz.underlying60
abbrev U67:=@Tryz.underlying67
abbrev NZ:=@Tryz.underlying69
abbrev RZ:=@Tryz.underlying70
abbrev SA:=@Tryz.underlying76
abbrev JN:=@Tryz.underlying89
abbrev U9:=@Tryz.underlying9
abbrev II:=@Tryz.underlying93
abbrev BK:=@Tryz.underlying96
end T4
