/-
 Walks of functions of a session: each call comes to what the model says. Printed by a program of ours.
-/
import Derived.Test.YtehbdldbihhleaaGreatDoorWalkA
set_option linter.all false
set_option maxHeartbeats 4000000
namespace T12
open Go Go.Proofs Pk Tryz
open Pk renaming m1→A,aB→C,aC→D,dt→E,aD→I,aA→L,on→N,sS→P,aP→S
open T12 renaming aQ→U
variable {M:Prop} {W:World} {H:Hp}
theorem aHz {M:Prop} {W w:World} {H V:Hp} {σr:aM} {n:Option Addr} {k:Nat} {ai:List gY} (o:Sl (I eZ) 3 V n k ai) {r:List gY} (p:KQ ai=some r) (c:St M W H [V] σr w):Calls prog 184 #[.slice n ai.length k] w (fI M W H V σr (fun e K q=>∃ (ad:Option Addr) (cap:Nat),e=.returned (.slice ad r.length cap)∧q=[(1,S.list ad cap 62 3 eZ r)])):=by
 refine cV (M:=M) func184 J ntmps184 J c ?_;refine C (D J (sq (C (A J (JO VC J J (N ?_))))));refine cb J (fun d=>?_) (fun d=>?_)
 ·obtain rfl:=Sl.isNil o d;have i:=(aF p).2;refine C (D J (bH (TG.nilRow 1 62 3 ?_)));cases i;intro a w c g;refine dT g J J ?_;exact ⟨_,[(1,S.list none 0 62 3 eZ ([]:List gY))],c.selH [0,0] J,_,_,J,J⟩
 refine sk (C (CY 1 eZ ([]:List gY) (cs:=[]) T12.E29 J J J J J J fun s=>(A J ?_)));obtain ⟨h,j⟩:=aF p;refine rD 1 (enc:=eZ) (l:=([]:List gY)) (m:=ai) T12.E29 J J J J J J o 0 J (fun _=>J) (fun _=>J) J h fun f b=>(D J (bH ?_));cases j;intro a w c g;refine dT g J J ?_;exact ⟨_,[(1,S.list f b 62 3 eZ (([]:List gY)++ai))],c.selH [0,0] J,_,_,J,J⟩

theorem aH0 (hH:H.le (hp W)) {y:Option Addr} {x:Nat} {bj:List gY} (R:Sl (I eZ) 3 H y x bj) {z:List Value} (f:gY) (Y:(I eZ) H z f) {r:List gY} (hr:EQ bj f=some r):Calls prog 135 #[.slice y bj.length x,.agg z.toArray] W (eY M H W (fun v K=>∃ (d:Option Addr) (b:Nat),v=.slice d r.length b∧Sl (I eZ) 3 K d b r)):=by
 obtain rfl:=Y;refine aK (M:=M) func135 J ntmps135 J hH ?_;refine C (bI J J J fun q1 K2 n=>(D J (sq ?_)));obtain ⟨t,p,o⟩:=L hr;refine lB 4 [1] [] mixed (fun _ _ _ _ _ h=>h) (by kernel_rfl) (by kernel_rfl) (by kernel_rfl) J (by kernel_rfl) (.nil) (dA J (A J aG) (tS t.length (fun q s=>[(1,S.list q s 62 3 eZ t)]) J (fun a w K c k B F=>TG.pa c k (wY 1 aD6 J J J J (fun w V σr c le=>aHz (ai:=bj) (R.mono (I.mono _) le.u) p c) fun j e=>F _ _)) fun j e=>(dA J (cM G62 TR J J (P 1 J n) J aG) ?_)))
 refine uT 1 (I eZ) 3 ([f]:List gY) (I.mono _) J (bS T12.E29 J J J J fun q9 i Z g=>by
   have h1:Sl (I eZ) 3 i (some q9) 1 ([f]:List gY):=Sl.litF (fun _=>J) (fun _=>J) Z g J J J
   exact rJ (I.mono _) h1) fun a0 c0=>?_
 refine DC.nil fun G B=>?_;obtain ⟨h2,_,_⟩:=B;obtain ⟨h3,h4⟩:=aF o;refine rD 1 (enc:=eZ) (l:=t) (m:=([f]:List gY)) T12.E29 J J J J J J h2 0 J (fun _=>J) (fun _=>J) J h3 fun a2 c1=>(D J (bH ?_));cases h4;intro a w c k;refine dT k J J ?_;exact ⟨⟨_,_,J,(c.listOut 1 J (fun _=>J))⟩,c.ext⟩

theorem w89 {M:Prop} {W w:World} {H V:Hp} {σr:aM} {m:Nat} {B:List Value} (k:aI) (au:aX V B k) {bb:Option Addr} {aq:Nat} {bz:List Int} (l:Sl (I (bP .i64)) 1 V bb aq bz) (db:aE) {r:aI⊕Int} (hr:KR k bz db=some r) (b:St M W H [V] ((1,bE m 77 B)::σr) w):Calls prog 89 #[.pointer (some ⟨m,0,none⟩),.slice bb bz.length aq,.string (bs db)] w (fI M W H V σr (sC (fun y e K A'=>∃ (du:List Value),e=.returned (.tuple #[])∧A'=[(1,bE m 77 du)]∧aX K du y) (fun u=>.iface 155 (.agg #[.int .i64 u])) [(1,bE m 77 B)] r)):=by
 obtain ⟨z,rfl,g⟩:=au;refine cV (M:=M) func89 J ntmps89 J b ?_;refine sq ?_;obtain ⟨t37,hM,F⟩:=L hr;refine gG [0,1] J (fun l_ a w=>∃ t40,t37=.inl t40∧SJ M W H [V] ([(1,bE m 77 (cO k.state z))]++σr) 70 l_ a w) ?_ ?_
 ·refine rg (A J ?_);obtain ⟨x1,R,hN⟩:=L hM;obtain ⟨p0,rfl⟩:=l.adr R;have hO:=l.atF R;refine cP eO Z3 J J J J (aT R) (aR G3 J (P 0 J hO) J ?_);obtain ⟨r4,hP,h4⟩:=L hN;refine bB GQ J (fun w H d le=>GZ x1 0 7 hP) (A J ?_);rcases Bool.eq_false_or_eq_true (r4) with j|j
  ·have hR:=aJ j h4;refine gN J J (j) (A J (gN J J (j) ?_));obtain ⟨x2,h5,hT⟩:=L hR;have hV:=l.atF h5;refine cP eO Z3 J J J J (aT h5) (gN J J (j) (aR G3 J (P 0 J hV) J (gN J J (j) ?_)));obtain ⟨r2,hW,hX⟩:=L hT;refine bB GQ J (fun w H d le=>GZ x2 0 9999 hW) (pT J J (j) J ?_);obtain ⟨r5,h6,h7⟩:=L hX;rcases r5 with y0|y0
   ·refine bB fG J (fun w H d le=>iX (fH r2 1 h6)) (N ?_);cases h7;intro a w b c;exact ⟨_,J,b,c.cuE J⟩
   refine eG fG J J J (fun w H d le=>iY (fH r2 1 h6)) ?_;cases h7;cases F;intro a w b c;exact ⟨c.defers,V,[_],b.selH [0,0] J,J,J⟩
  have Y:=bK j h4;refine cC 4 J J J (j) J (pF J J (j) J ?_);obtain ⟨r8,h8,h9⟩:=L Y;rcases r8 with y1|y1
  ·refine bB fG J (fun w H d le=>iX (fH false 1 h8)) (N ?_);cases h9;intro a w b c;exact ⟨_,J,b,c.cuE J⟩
  refine eG fG J J J (fun w H d le=>iY (fH false 1 h8)) ?_;cases h9;cases F;intro a w b c;exact ⟨c.defers,V,[_],b.selH [0,0] J,J,J⟩
 rintro a w ⟨t40,rfl,b,c⟩;refine TG.ap ?_ b c;refine C (A J (nl J J (aU 0 fD J eT (aU 9 eX J TO (aR YO J (((sO 1 J).drop 9).take 1) J (dU VC J J (dS J J J ?_)))))));obtain ⟨r9,hB,hC⟩:=L F;rcases r9 with y2|y2
 ·refine bB fG J (fun w H d le=>iX (fH (decide ((k.state.hides.length:Int)<12)) 3 hB)) (N (sq ?_));obtain ⟨r1,Z,aa⟩:=L hC;obtain ⟨x0,t,ad⟩:=L aa;obtain ⟨p1,rfl⟩:=l.adr t;have hE:=l.atF t;obtain ⟨r3,af,ag⟩:=L ad;refine eH 22 mixed (by kernel_rfl) J (dC J ?_)
  refine DF.und (α:=List Value) [] (fun q=>.agg q.toArray) (fun (q:List Value) K=>(bV) K q r1) (fun _ _ _ h x=>bV.mono _ _ _ _ h x) (by kernel_rfl) J (fun a w K b c n=>TG.pa b c (clQ 1 C50 J J J J J (fun w V σr b le=>w50 k ⟨z,J,{g.mono le.i with f0:=(g.f0.mono (bW.mono) le.i)}⟩  Z b) (by
    rintro v_ a4 ⟨c1,rfl,ah⟩
    exact nJ (f:=fun q=>.agg q.toArray) (G:=(fun (q:List Value) K=>(bV) K q r1)) _ (fun _ _ _ h x=>bV.mono _ _ _ _ h x) ah))) fun c3=>?_
  refine dC J (E J (nl J J aG) (E J (aU 0 fD J eT aG) (E J (aU 8 eX J TN aG) (E J (aR PC J (((sO 1 J).drop 8).take 1) J aG) (dC J (E J (cP eO Z3 J J J J (aT t) aG) (E J (aR G3 J (P 1 J hE) J aG) (dC J (E J (nl J J aG) (E J (aU 0 fD J eT aG) (E J (aU 0 eX J Z3 aG) ?_)))))))))));refine E J (aR G3 J ((sO 1 J).take 1) J aG) (DF.det J (fun a w K b c n=>TG.pa b c (bB C25 J (fun w H d le=>w25 d r1 (bV.mono _ _ _ _ le.o (n.1 J)) (g.f1.mono (I.mono _) le.i) x0 k.state.day af) aG)) (dC J (E J (ex J J J aG) (E J (ex J J J aG) (E J (ex J J J aG) (E J (a1 J aG) (E J (a1 J aG) (DF.nil fun a5 n=>?_))))))));obtain ⟨hG,_⟩:=n;have a6:=hG;obtain ⟨a3,c4,rfl,a7⟩:=hG;refine D J (C (A J ?_));obtain ⟨ay,hI,hJ⟩:=L ag;rcases ay with y3|y3
  ·refine bB jQ J (fun w H d le=>iX (jR r3.2.2 hI)) (N ?_);obtain ⟨x3,hK,ai⟩:=L hJ;have aj:=l.atF hK;obtain ⟨x4,hL,ak⟩:=L ai;have an:=l.atF hL;obtain ⟨v,ao,ar⟩:=L ak;refine eH 17 mixed (by kernel_rfl) J (dC J (dC J (E J (nl J J aG) (E J (aU 0 fD J eT aG) (E J (aU 9 eX J TO aG) (E J (aR YO J (((sO 1 J).drop 9).take 1) J aG) (dC J (E J (cP eO Z3 J J J J (aT t) aG) (E J (aR G3 J (P 2 J hE) J aG) (dC J (E J (cP eO Z3 J J J J (aT hK) aG) ?_)))))))))));refine E J (aR G3 J (P 2 J aj) J aG) (dC J (E J (cP eO Z3 J J J J (aT hL) aG) (E J (aR G3 J (P 2 J an) J aG) (E J (bu T12.B62 J J J aG) (uS v.length (I eZ) 3 v (I.mono _) J (gW aDl J J J J (fun w H d le=>aH0 d (g.f2.mono (I.mono _) le.u) (⟨x0,x3,x4⟩:gY) J ao) (kS (I.mono _))) fun a0 c0=>(DF.nil fun az n=>?_))))));obtain ⟨aw,_⟩:=n
   let s:List Value:=((cO k.state z).set 9 (.slice a0 v.length c0))
   refine nl J J (aU 0 fD J eT (aU 9 eX J TO (eQ 1 TO J J J J J J J (N (TG.pack (fun K=>aX K s (⟨({k.state with hides:=v}:dE)⟩:aI)) (fun H le=>⟨{z with a2:=a0,c2:=c0},J,{g.mono le.u with f2:=(aw.mono (I.mono _) le.o)}⟩) fun p ax=>?_)))));cases ar;intro a w b c;refine eF c J ?_;exact ⟨p,[(1,bE m 77 s)],b.selH [0,3] J,_,J,J,ax⟩
  refine eG jQ J J J (fun w H d le=>iY (jR r3.2.2 hI)) ?_;cases hJ;intro a w b c;exact ⟨c.defers,V,[_],b.selH [1,1] J,J,J⟩
 refine eG fG J J J (fun w H d le=>iY (fH (decide ((k.state.hides.length:Int)<12)) 3 hB)) ?_;cases hC;intro a w b c;exact ⟨c.defers,V,[_],b.selH [0,0] J,J,J⟩

theorem w90 {M:Prop} {W w:World} {H V:Hp} {σr:aM} {f:Nat} {n:List Value} (d:aI) (Z:aX V n d) {t:Option Addr} {s:Nat} {bz:List Int} (q:Sl (I (bP .i64)) 1 V t s bz) (v:aE) {r:aI⊕Int} (hr:KS d bz v=some r) (c:St M W H [V] ((1,bE f 77 n)::σr) w):Calls prog 90 #[.pointer (some ⟨f,0,none⟩),.slice t bz.length s,.string (bs v)] w (fI M W H V σr (sC (fun y e K Y=>∃ (x:List Value),e=.returned (.tuple #[])∧Y=[(1,bE f 77 x)]∧aX K x y) (fun u=>.iface 155 (.agg #[.int .i64 u])) [(1,bE f 77 n)] r)):=by
 obtain ⟨R,rfl,k⟩:=Z;refine cV (M:=M) func90 J ntmps90 J c ?_;refine C (A J (nl J J (aU 0 fD J eT (aU 26 eX J Z4 (aR G4 J (((sO 1 J).drop 26).take 1) J (nt J J ?_))))));obtain ⟨r3,j,i⟩:=L hr;rcases r3 with y6|y6
 ·refine bB fG J (fun w H l le=>iX (fH (!d.state.open_) 8 j)) (N (C (A J ?_)));obtain ⟨p,b,h3⟩:=L i;obtain ⟨p0,rfl⟩:=q.adr b;have z:=q.atF b;refine cP eO Z3 J J J J (aT b) (aR G3 J (P 0 J z) J ?_);obtain ⟨G,h4,h5⟩:=L h3;refine bB GQ J (fun w H l le=>GZ p 1 40 h4) ?_;obtain ⟨r1,B,F⟩:=L h5;rcases r1 with y0|y0
  ·refine bB fG J (fun w H l le=>iX (fH G 2 B)) (N (rg (A J (A J (cP eO Z3 J J J J (aT b) (aR G3 J (P 0 J z) J (nl J J (aU 0 fD J eT (aU 1 eX J Z3 (eQ 1 Z3 J J J J J J J (N ?_)))))))))))
   let g:List Value:=((cO d.state R).set 1 (.int .i64 p))
   refine TG.pack (fun K=>aX K g (⟨({d.state with house:=p}:dE)⟩:aI)) (fun H le=>⟨R,J,{k.mono le.o with f0:=(k.f0.mono (bW.mono) le.o)}⟩) fun m h6=>?_;cases F;intro a w c h;refine eF h J ?_;exact ⟨m,[(1,bE f 77 g)],c.selH [0,1] J,_,J,J,h6⟩
  refine eG fG J J J (fun w H l le=>iY (fH G 2 B)) ?_;cases F;intro a w c h;exact ⟨h.defers,V,[_],c.selH [0,0] J,J,J⟩
 refine eG fG J J J (fun w H l le=>iY (fH (!d.state.open_) 8 j)) ?_;cases i;intro a w c h;exact ⟨h.defers,V,[_],c.selH [0,0] J,J,J⟩

theorem NG {M:Prop} {W:World} (e:Int) (low:Int) (c:Int) {r:Bool} (i:xK e low c=some r):Calls prog 276 #[.int .i64 e,.int .i64 low,.int .i64 c] W (bJ M W (.bool r)):=by
 refine aK (M:=M) func276 J ntmps276 J (Hp.le.refl _) ?_;refine C (D J (sq ?_));obtain ⟨j,d,f⟩:=L i;refine eU [] [(6,.bool j)] J ?_ ?_
 ·refine rg (A J (A J (jN J J J (A J ?_))));by_cases b:low≤e
  ·have g:=aJ b d;refine gt b J (A J (gt b J (A J (gt b J (jN J J J (pt b J J (D J ?_)))))));cases g;exact cuE J
  have h:=aS b d;refine cC 3 J J J (decide_eq_false b) J (pf b J J (D J ?_));cases h;exact cuE J
 refine bH ?_;cases f;exact cK J J

theorem HA (k:H.le (hp W)) {i:List Value} (c:aY) (j:(bU) H i c) (d:Int) {r:Bool} (m:rK c d=some r):Calls prog 309 #[.agg i.toArray,.int .i64 d] W (bJ M W (.bool r)):=by
 have b:=j;obtain ⟨s,rfl,n⟩:=j;refine aK (M:=M) func309 J ntmps309 J k ?_;refine C (bI J J J fun p o e=>(D J (C (A J (aU 0 lA J Z3 (aR G3 J ((P 0 J e).take 1) J ?_))))));obtain ⟨f,g⟩:=aF m;refine qH J J J f ?_;obtain ⟨q,h,l⟩:=L g;refine bB MT J (fun w H k le=>NG d 0 (c.members-1) h) (D J (bH ?_));cases l;exact cK J J

theorem aH1 (n:H.le (hp W)) (e:Int) {i:Addr} {k:Value} {bx:Int→Option Bool} (m:aN H i [k]) (j:eP M prog H k (fC (Vi .i64) Value.bool bx)) {r:Bool} (o:xL e bx=some r):Calls prog 330 #[.int .i64 e,.pointer (some i)] W (bJ M W (.bool r)):=by
 have b:=j;obtain ⟨f,d,c,rfl,_,_⟩:=j;refine aK (M:=M) func330 J ntmps330 J n ?_;refine C (D J (C (aR aGj J (P 0 J m) J (A J ?_))));obtain ⟨l,h,g⟩:=L o;refine mT (v:=.bool l) b 0 J J J J (fun H le=>⟨_,e,l,J,J,h,J⟩) (nt J J (D J (bH ?_)));cases g;exact cK J J

theorem aH2 (hH:H.le (hp W)) {o:Option Addr} {n:Nat} {ai:List Int} (g:Sl (I (bP .i64)) 1 H o n ai) {p:Value} {cg:Int→Option Bool} (q:eP M prog H p (fC (Vi .i64) Value.bool cg)) {r:Int} (hr:RQ ai cg=some r):Calls prog 338 #[.slice o ai.length n,p] W (bJ M W (.int .i64 r)):=by
 have:=g.len;have b:=q;obtain ⟨h,f,e,rfl,_,_⟩:=q;refine aK (M:=M) func338 J ntmps338 J hH ?_;refine C (D J (sq (C (A J (dU eO J J (A J (N ?_)))))));obtain ⟨e19,B,s⟩:=L hr;refine jn (fun a w=>∃ z,e19=.inl z∧SJ M W H [H] [] 19 [] a w) ?_ ?_
 ·refine bk ?_;refine jO [0,1,7] J B (fun l_ y=>(8,.int .i64 (y:Int))::l_) ?_ ?_
  ·exact cuE J
  intro j y y0 t i;refine C (dS J J J (N (sq ?_)));refine ci J (fun k=>?_) (fun k=>?_)
  ·have F:=aJ k t;refine sk (sq (bk (C (A J (D J (C (A J (A J ?_))))))));refine A J ?_;obtain ⟨x0,l,G⟩:=L F;obtain ⟨p0,rfl⟩:=g.adr l;have K:=g.atF l;refine cP eO Z3 J J J J (aT l) (aR G3 J (P 0 J K) J ?_);obtain ⟨x,R,u⟩:=L G;refine mT (v:=.bool x) b 0 J J J J (fun H le=>⟨_,x0,x,J,J,R,J⟩) (N ?_);refine cb J (fun m=>?_) (fun m=>?_)
   ·have V:=aJ m u;refine C (A J (D J (bH ?_)));cases V;obtain rfl:=dF.out i;cases s;exact cK J J
   have Y:=bK m u;refine sk (rg (dN J J J (by omega) (A J (N ?_))));cases Y;intro a w d c;exact ⟨_,i,d,c.cuE J⟩
  have Z:=aS k t;refine xt J ?_;cases Z;obtain rfl:=dF.out i;intro a w d c;exact ⟨_,J,d,c.cut tv⟩
 rintro a w ⟨z,rfl,d,c⟩;apply TG.ap ?_ d c;refine C (D J (bH ?_));cases s;exact cK J J

theorem aH3 (f:H.le (hp W)) {j:Option Addr} {i:Nat} {ai:List Int} (m:Sl (I (bP .i64)) 1 H j i ai) {k:Value} {cg:Int→Option Bool} (l:eP M prog H k (fC (Vi .i64) Value.bool cg)) {r:Bool} (n:RR ai cg=some r):Calls prog 329 #[.slice j ai.length i,k] W (bJ M W (.bool r)):=by
 have b:=l;obtain ⟨e,d,c,rfl,_,_⟩:=l;refine aK (M:=M) func329 J ntmps329 J f ?_;refine C (D J (C (A J (A J ?_))));obtain ⟨p,h,g⟩:=L n;refine bB aF6 J (fun w H f le=>aH2 f (m.mono (I.mono _) le.o) (cg:=cg) (b.mono le.o) h) (pW J J J (D J (bH ?_)));cases g;exact cK J J

theorem aH4 (j:H.le (hp W)) {p:Option Addr} {o:Nat} {bj:List Int} (y:Sl (I (bP .i64)) 1 H p o bj) {q:Value} {right:Int→Option Bool} (s:eP M prog H q (fC (Vi .i64) Value.bool right)) {r:Bool} (z:KT bj right=some r):Calls prog 308 #[.slice p bj.length o,q] W (bJ M W (.bool r)):=by
 have b:=s;obtain ⟨f,e,d,rfl,_,_⟩:=s;refine aK (M:=M) func308 J ntmps308 J j ?_;refine C (bI J J J fun u R k=>(D J (C (A J (fn J J J ?_)))));obtain ⟨G,n,m⟩:=L z
 refine mG (v:=.bool G) aF2 J J J J (fun w H j le=>by
   have l:eP M prog H (.func (.func 330) #[] #[.pointer (some u)]) (fC (Vi .i64) Value.bool (fun c=>xL c right)):=⟨330,[],[.pointer (some u)],rfl,aF3,fun Z x g Y t B hs=>by obtain ⟨K,c,V,rfl,h,F,rfl⟩:=hs;cases h;exact aH1 (H:=x) B  c (bx:=right) (k.mono ((le.at 0 rfl).trans t)) (b.mono ((le.at 1 rfl).trans t)) F⟩
   exact aH3 j (y.mono (I.mono _) le.i) (cg:=(fun c=>xL c right)) l n) ?_
 refine nt J J (D J (bH ?_));cases m;exact cK J J

theorem aH5 (G:H.le (hp W)) {p:Option Addr} {o:Nat} {bj:List Int} (e:Sl (I (bP .i64)) 1 H p o bj) {r:Bool} (hr:KU bj=some r):Calls prog 310 #[.slice p bj.length o] W (bJ M W (.bool r)):=by
 have:=e.len;refine aK (M:=M) func310 J ntmps310 J G ?_;refine C (D J (sq (C (A J (dU eO J J (A J (N ?_)))))));obtain ⟨f,x,q⟩:=L hr;refine jn (fun a w=>∃ t32,f=.inl t32∧SJ M W H [H] [] 24 [] a w) ?_ ?_
 ·refine bk ?_;refine jO [0,5] J x (fun l_ l=>(6,.int .i64 (l:Int))::l_) ?_ ?_
  ·exact cuE J
  intro j l y0 s g;refine C (dS J J J (N (sq ?_)));refine ci J (fun h=>?_) (fun h=>?_)
  ·have y:=aJ h s;refine sk (sq (bk (C (A J (D J (sq ?_))))));obtain ⟨t0,t,u⟩:=L y;refine eU [0,5,6] [(22,.bool t0)] J ?_ ?_
   ·refine eH 12 mixed (by kernel_rfl) J (dC J (E J (lL J J J aG) (dC J ?_)));by_cases b:0<(l:Int)
    ·have z:=aJ b t;obtain ⟨x0,i,F⟩:=L z;obtain ⟨p0,rfl⟩:=e.adr i;have K:=e.atF i;obtain ⟨x1,v,R⟩:=L F;have V:=e.atF v;refine E J (gt b J (A J aG)) (E J (gt b J (A J aG)) (E J (gt b J (cP eO Z3 J J J J (aT i) aG)) (E J (gt b J (aR G3 J (P 1 J K) J aG)) (E J (gt b J (A J aG)) (E J (gt b J (A J aG)) (E J (gt b J (qH J J J (by omega) aG)) (E J (gt b J (cP eO Z3 J J J (by omega) (aT v) aG)) (E J (gt b J (aR G3 J (P 1 J V) J aG)) (DF.nil fun m B=>(gt b J (jN J J J ?_)))))))))));refine pt b J J (N ?_);cases R;intro a w d c;exact ⟨d.selH [1] J,c.cuE J⟩
    have Y:=aS b t;refine kY 9 J J (decide_eq_false b) J ⟨J,J,J,J,J,J,J,J,J,tv⟩ (DF.nil fun n B=>(gf b J (pf b J J (N ?_))));cases Y;intro a w d c;exact ⟨d.selH [1] J,c.cuE J⟩
   refine cb J (fun k=>?_) (fun k=>?_)
   ·have Z:=aJ k u;refine C (D J (bH ?_));cases Z;obtain rfl:=dF.out g;cases q;exact cK J J
   have hN:=bK k u;refine sk (rg (dN J J J (by omega) (A J (N ?_))));cases hN;intro a w d c;exact ⟨_,g,d,c.cuE J⟩
  have hO:=aS h s;refine xt J ?_;cases hO;obtain rfl:=dF.out g;intro a w d c;exact ⟨_,J,d,c.cut tv⟩
 rintro a w ⟨t32,rfl,d,c⟩;apply TG.ap ?_ d c;refine C (D J (bH ?_));cases q;exact cK J J

theorem ZD (e:H.le (hp W)) {n:List Value} (d:aY) (o:(bU) H n d) {m:Option Addr} {l:Nat} {bz:List Int} (k:Sl (I (bP .i64)) 1 H m l bz) {r:Bool} (V:qU d bz=some r):Calls prog 278 #[.agg n.toArray,.slice m bz.length l] W (bJ M W (.bool r)):=by
 have b:=o;obtain ⟨s,rfl,aa⟩:=o;refine aK (M:=M) func278 J ntmps278 J e ?_;refine C (bI J J J fun q3 K4 h=>(D J (sq ?_)));obtain ⟨t0,u,x⟩:=L V;refine eU [] [(4,.bool t0)] J ?_ ?_
 ·refine rg (A J (cM pO jC J J (P 0 J h) J (fn J J J ?_)));obtain ⟨q,y,p⟩:=L u
  refine mG (v:=.bool q) aFu J J J J (fun w H e le=>by
    have z:eP M prog H (.func (.func 309) #[.agg (iK d s).toArray] #[]) (fC (Vi .i64) Value.bool (rK d)):=⟨309,[.agg (iK d s).toArray],[],rfl,GP,fun w_ t f v_ R Y hs=>by obtain ⟨ab,j,r_,rfl,g,Z,rfl⟩:=hs;cases g;exact HA (H:=t) Y d (bU.mono _ _ _ _ ((le.at 1 rfl).trans R) b) j  Z⟩
    exact aH4 e (k.mono (I.mono _) le.i) (right:=(rK d)) z y) ?_
  refine A J ?_;rcases Bool.eq_false_or_eq_true (q) with c|c
  ·have B:=aJ c p;refine gN J J (c) (A J (gN J J (c) ?_));obtain ⟨r1,F,G⟩:=L B;refine bB aFv J (fun w H e le=>aH5 e (k.mono (I.mono _) le.i) F) (pT J J (c) J (D J ?_));cases G;exact cuE J
  have K:=bK c p;refine cC 2 J J J (c) J (pF J J (c) J (D J ?_));cases K;exact cuE J
 refine bH ?_;cases x;exact cK J J

theorem aH6 (s:H.le (hp W)) {m:Option Addr} {l:Nat} {c:List Int} (q:Sl (I (bP .i64)) 1 H m l c) {i:Addr} {k:Value} {bx:(List Int)→Option Bool} (p:aN H i [k]) (j:eP M prog H k (fC (Vl (I (bP .i64)) 1) Value.bool bx)) {r:Bool} (t:xM c bx=some r):Calls prog 307 #[.slice m c.length l,.pointer (some i)] W (bJ M W (.bool r)):=by
 have b:=j;obtain ⟨f,e,d,rfl,_,_⟩:=j;refine aK (M:=M) func307 J ntmps307 J s ?_;refine C (D J (C (aR aGr J (P 0 J p) J (A J ?_))));obtain ⟨n,h,g⟩:=L t;refine mT (v:=.bool n) b 0 J J J J (fun H le=>⟨_,c,n,J,⟨_,_,J,(q.mono (I.mono _) le.o)⟩,h,J⟩) (nt J J (D J (bH ?_)));cases g;exact cK J J

theorem aH7 (hH:H.le (hp W)) {q:Option Addr} {p:Nat} {ai:List (List Int)} (g:Sl (tX (I (bP .i64)) 1) 1 H q p ai) {s:Value} {cg:(List Int)→Option Bool} (t:eP M prog H s (fC (Vl (I (bP .i64)) 1) Value.bool cg)) {r:Int} (hr:RS ai cg=some r):Calls prog 328 #[.slice q ai.length p,s] W (bJ M W (.int .i64 r)):=by
 have:=g.len;have b:=t;obtain ⟨i,f,e,rfl,_,_⟩:=t;refine aK (M:=M) func328 J ntmps328 J hH ?_;refine C (D J (sq (C (A J (dU YW J J (A J (N ?_)))))));obtain ⟨h,G,u⟩:=L hr;refine jn (fun a w=>∃ t26,h=.inl t26∧SJ M W H [H] [] 19 [] a w) ?_ ?_
 ·refine bk ?_;refine jO [0,1,7] J G (fun l_ F=>(8,.int .i64 (F:Int))::l_) ?_ ?_
  ·exact cuE J
  intro j F y0 x k;refine C (dS J J J (N (sq ?_)));refine ci J (fun l=>?_) (fun l=>?_)
  ·have K:=aJ l x;refine sk (sq (bk (C (A J (D J (C (A J (A J ?_))))))));refine A J ?_;obtain ⟨x0,m,R⟩:=L K;obtain ⟨p0,rfl⟩:=g.adr m;obtain ⟨c0,hK,V,y⟩:=g.at m;have hL:=y;obtain ⟨a0,c1,rfl,Y⟩:=y;refine cP YW pQ J J J J (aT m) (aR rN J (P 0 J V) J ?_);obtain ⟨B,Z,z⟩:=L R;refine mT (v:=.bool B) b 0 J J J J (fun H le=>⟨_,x0,B,J,⟨_,_,J,(Y.mono (I.mono _) le.o)⟩,Z,J⟩) (N ?_);refine cb J (fun n=>?_) (fun n=>?_)
   ·have hG:=aJ n z;refine C (A J (D J (bH ?_)));cases hG;obtain rfl:=dF.out k;cases u;exact cK J J
   have hI:=bK n z;refine sk (rg (dN J J J (by omega) (A J (N ?_))));cases hI;intro a w d c;exact ⟨_,k,d,c.cuE J⟩
  have hJ:=aS l x;refine xt J ?_;cases hJ;obtain rfl:=dF.out k;intro a w d c;exact ⟨_,J,d,c.cut tv⟩
 rintro a w ⟨t26,rfl,d,c⟩;apply TG.ap ?_ d c;refine C (D J (bH ?_));cases u;exact cK J J

theorem aH8 (f:H.le (hp W)) {j:Option Addr} {i:Nat} {ai:List (List Int)} (m:Sl (tX (I (bP .i64)) 1) 1 H j i ai) {k:Value} {cg:(List Int)→Option Bool} (l:eP M prog H k (fC (Vl (I (bP .i64)) 1) Value.bool cg)) {r:Bool} (n:RT ai cg=some r):Calls prog 306 #[.slice j ai.length i,k] W (bJ M W (.bool r)):=by
 have b:=l;obtain ⟨e,d,c,rfl,_,_⟩:=l;refine aK (M:=M) func306 J ntmps306 J f ?_;refine C (D J (C (A J (A J ?_))));obtain ⟨p,h,g⟩:=L n;refine bB aF1 J (fun w H f le=>aH7 f (m.mono (tX.mono (I.mono _)) le.o) (cg:=cg) (b.mono le.o) h) (pW J J J (D J (bH ?_)));cases g;exact cK J J

theorem ZE (j:H.le (hp W)) {p:Option Addr} {o:Nat} {bj:List (List Int)} (y:Sl (tX (I (bP .i64)) 1) 1 H p o bj) {q:Value} {right:(List Int)→Option Bool} (s:eP M prog H q (fC (Vl (I (bP .i64)) 1) Value.bool right)) {r:Bool} (z:EU bj right=some r):Calls prog 277 #[.slice p bj.length o,q] W (bJ M W (.bool r)):=by
 have b:=s;obtain ⟨g,f,e,rfl,_,_⟩:=s;refine aK (M:=M) func277 J ntmps277 J j ?_;refine C (bI J J J fun u R k=>(D J (C (A J (fn J J J ?_)))));obtain ⟨G,n,m⟩:=L z
 refine mG (v:=.bool G) aFs J J J J (fun w H j le=>by
   have l:eP M prog H (.func (.func 307) #[] #[.pointer (some u)]) (fC (Vl (I (bP .i64)) 1) Value.bool (fun c=>xM c right)):=⟨307,[],[.pointer (some u)],rfl,aFt,fun Z x h Y t B hs=>by obtain ⟨K,c,V,rfl,d,F,rfl⟩:=hs;obtain ⟨_,_,rfl,d⟩:=d;exact aH6 (H:=x) B  d (bx:=right) (k.mono ((le.at 0 rfl).trans t)) (b.mono ((le.at 1 rfl).trans t)) F⟩
   exact aH8 j (y.mono (tX.mono (I.mono _)) le.i) (cg:=(fun c=>xM c right)) l n) ?_
 refine nt J J (D J (bH ?_));cases m;exact cK J J

theorem aH9 (j:H.le (hp W)) {e:List Value} (b:dY) (i:(I eK) H e b) {d:Addr} {f:Value} {bx:List (Int×Bool)} (g:aN H d [f]) (h:Mp fT Value.bool H f bx) {r:Bool} (k:KV b bx=some r):Calls prog 312 #[.agg e.toArray,.pointer (some d)] W (bJ M W (.bool r)):=by
 obtain rfl:=i;refine aK (M:=M) func312 J ntmps312 J j ?_;refine C (bI J J J fun m l c=>(D J (C (aR BF J (P 1 J g) J (aU 0 qZ J Z3 (aR G3 J ((P 0 J c).take 1) J (JQ (ke:=fT) (enc:=Value.bool) b.holder (z0:=false) lP U3 zeroValue4 J J J J (mS 1 J h) (nt J J ?_))))))));refine D J (bH ?_);obtain rfl:=sj k;exact cK J J

theorem aIa (q:H.le (hp W)) {m:List Value} (e:dY) (p:(I eK) H m e) {j:Addr} {l:Value} {bx:dY→Option Bool} (o:aN H j [l]) (k:eP M prog H l (fC (Va eK) Value.bool bx)) {r:Bool} (s:xN e bx=some r):Calls prog 332 #[.agg m.toArray,.pointer (some j)] W (bJ M W (.bool r)):=by
 obtain rfl:=p;have b:=k;obtain ⟨f,d,c,rfl,_,_⟩:=k;refine aK (M:=M) func332 J ntmps332 J q ?_;refine C (bI J J J fun u t g=>(D J (C (aR aGs J (P 1 J o) J (cM MX tQ J J (P 0 J g) J ?_)))));obtain ⟨n,i,h⟩:=L s;refine mT (v:=.bool n) b 1 J J J J (fun H le=>⟨_,e,n,J,J,i,J⟩) (nt J J (D J (bH ?_)));cases h;exact cK J J

theorem aIb (hH:H.le (hp W)) {o:Option Addr} {n:Nat} {ai:List dY} (g:Sl (I eK) 2 H o n ai) {p:Value} {cg:dY→Option Bool} (q:eP M prog H p (fC (Va eK) Value.bool cg)) {r:Int} (hr:RU ai cg=some r):Calls prog 339 #[.slice o ai.length n,p] W (bJ M W (.int .i64 r)):=by
 have:=g.len;have b:=q;obtain ⟨h,f,e,rfl,_,_⟩:=q;refine aK (M:=M) func339 J ntmps339 J hH ?_;refine C (D J (sq (C (A J (dU TX J J (A J (N ?_)))))));obtain ⟨e19,B,s⟩:=L hr;refine jn (fun a w=>∃ z,e19=.inl z∧SJ M W H [H] [] 19 [] a w) ?_ ?_
 ·refine bk ?_;refine jO [0,1,7] J B (fun l_ y=>(8,.int .i64 (y:Int))::l_) ?_ ?_
  ·exact cuE J
  intro j y y0 t i;refine C (dS J J J (N (sq ?_)));refine ci J (fun k=>?_) (fun k=>?_)
  ·have F:=aJ k t;refine sk (sq (bk (C (A J (D J (C (A J (A J ?_))))))));refine A J ?_;obtain ⟨x0,l,G⟩:=L F;obtain ⟨p0,rfl⟩:=g.adr l;have K:=g.atF l;refine cP TX tQ J J J J (aT l) (cM MX tQ J J (P 0 J K) J ?_);obtain ⟨x,R,u⟩:=L G;refine mT (v:=.bool x) b 0 J J J J (fun H le=>⟨_,x0,x,J,J,R,J⟩) (N ?_);refine cb J (fun m=>?_) (fun m=>?_)
   ·have V:=aJ m u;refine C (A J (D J (bH ?_)));cases V;obtain rfl:=dF.out i;cases s;exact cK J J
   have Y:=bK m u;refine sk (rg (dN J J J (by omega) (A J (N ?_))));cases Y;intro a w d c;exact ⟨_,i,d,c.cuE J⟩
  have Z:=aS k t;refine xt J ?_;cases Z;obtain rfl:=dF.out i;intro a w d c;exact ⟨_,J,d,c.cut tv⟩
 rintro a w ⟨z,rfl,d,c⟩;apply TG.ap ?_ d c;refine C (D J (bH ?_));cases s;exact cK J J

theorem aIc (f:H.le (hp W)) {j:Option Addr} {i:Nat} {ai:List dY} (m:Sl (I eK) 2 H j i ai) {k:Value} {cg:dY→Option Bool} (l:eP M prog H k (fC (Va eK) Value.bool cg)) {r:Bool} (n:RV ai cg=some r):Calls prog 331 #[.slice j ai.length i,k] W (bJ M W (.bool r)):=by
 have b:=l;obtain ⟨e,d,c,rfl,_,_⟩:=l;refine aK (M:=M) func331 J ntmps331 J f ?_;refine C (D J (C (A J (A J ?_))));obtain ⟨p,h,g⟩:=L n;refine bB aF7 J (fun w H f le=>aIb f (m.mono (I.mono _) le.o) (cg:=cg) (b.mono le.o) h) (pW J J J (D J (bH ?_)));cases g;exact cK J J

theorem aId (j:H.le (hp W)) {p:Option Addr} {o:Nat} {bj:List dY} (y:Sl (I eK) 2 H p o bj) {q:Value} {right:dY→Option Bool} (s:eP M prog H q (fC (Va eK) Value.bool right)) {r:Bool} (z:KW bj right=some r):Calls prog 311 #[.slice p bj.length o,q] W (bJ M W (.bool r)):=by
 have b:=s;obtain ⟨f,e,d,rfl,_,_⟩:=s;refine aK (M:=M) func311 J ntmps311 J j ?_;refine C (bI J J J fun u R k=>(D J (C (A J (fn J J J ?_)))));obtain ⟨G,n,m⟩:=L z
 refine mG (v:=.bool G) aF4 J J J J (fun w H j le=>by
   have l:eP M prog H (.func (.func 332) #[] #[.pointer (some u)]) (fC (Va eK) Value.bool (fun c=>xN c right)):=⟨332,[],[.pointer (some u)],rfl,aF5,fun Z x g Y t B hs=>by obtain ⟨K,c,V,rfl,h,F,rfl⟩:=hs;cases h;exact aIa (H:=x) B  c rfl (bx:=right) (k.mono ((le.at 0 rfl).trans t)) (b.mono ((le.at 1 rfl).trans t)) F⟩
   exact aIc j (y.mono (I.mono _) le.i) (cg:=(fun c=>xN c right)) l n) ?_
 refine nt J J (D J (bH ?_));cases m;exact cK J J

theorem aIe (z:H.le (hp W)) {cc:List Value} (V:aY) (co:(bU) H cc V) {r:Bool} (hr:KX V=some r):Calls prog 279 #[.agg cc.toArray] W (bJ M W (.bool r)):=by
 have e:=co;obtain ⟨⟨b4,bw,b5,bz,b6,b3,a0,c0,a2,c1,a3,c2⟩,rfl,⟨b8,b9,ca,b7,h8,h7⟩⟩:=co;have:=h8.len;have:=h7.len;refine aK (M:=M) func279 J ntmps279 J z ?_;refine C (bI J J J fun q0 s f=>(D J (C (OC 1 fT Value.bool J fun b2=>(OC 2 fT Value.bool J fun B=>(al 3 zeroValue121 J J fun F=>(a1 J (eQ 3 YQ J J J J J J J ?_))))))));refine N (sq (C (aU 5 lA J VA (aR G35 J (((P 0 J f).drop 5).take 1) J (dU VD J J (A J (N ?_)))))));obtain ⟨af,an,hM⟩:=L hr
 let G:S:=S.map' fT Value.bool B ([]:List (Int×Bool))
 refine gG [1,4] J (fun R a w=>∃ t1,af=.inl t1∧SJ M W H [s,H] [(3,bE F 121 [.map (some B)]),(2,G),(1,S.map' fT Value.bool b2 t1)] 96 R a w) ?_ ?_
 ·refine bk ?_;refine jZ [1,3,4,12,13] J an (fun R s1=>SJ M W H [s,H] [(3,bE F 121 [.map (some B)]),(2,G),(1,S.map' fT Value.bool b2 s1.2)] 96 ((14,.int .i64 (s1.1:Int))::R)) ?_ ?_
  ·exact cuE J
  rintro j s1 y0 hN h9 a w ⟨g,i⟩;refine TG.ap ?_ g i;refine C (dS J J J (N (sq ?_)));refine ci J (fun hB=>?_) (fun hB=>?_)
  ·have aq:=aJ hB hN;refine sk (sq (bk (C ?_)));obtain ⟨q,hC,au⟩:=L aq;obtain ⟨p0,rfl⟩:=h8.adr hC;have ax:=h8.atF hC;refine cP VD yH J J J J (aT hC) (cM TH yH J J (P 1 J ax) J (va zeroValue227 yH J J J J J J J J fun q1 br c=>(N (sq (sq ?_)))));obtain ⟨t2,az,hO⟩:=L au;refine eU [1,3,4,6,12,13,14] [(48,.bool t2)] J ?_ ?_
   ·refine rg (cM pO jC J J (P 1 J f) J (aU 0 rQ J Z3 (aR G3 J ((P 0 J c).take 1) J ?_)));obtain ⟨r0,a5,hP⟩:=L az;refine bB GP J (fun w H z le=>HA z V (bU.mono _ _ _ _ le.u e) q.a a5) (nt J J (A J ?_));rcases Bool.eq_false_or_eq_true (r0) with k|k
    ·have a7:=aJ k hP;refine gN J J (congrArg not (k)) (cM pO jC J J (P 1 J f) J (gN J J (congrArg not (k)) (aU 1 rQ J Z3 (gN J J (congrArg not (k)) (aR G3 J ((P 0 J c).drop 1) J (gN J J (congrArg not (k)) ?_))))));obtain ⟨r1,a9,hR⟩:=L a7;refine bB GP J (fun w H z le=>HA z V (bU.mono _ _ _ _ le.u e) q.b a9) (gN J J (congrArg not (k)) (nt J J (pF J J (congrArg not (k)) J (A J ?_))));rcases Bool.eq_false_or_eq_true (r1) with l|l
     ·have hT:=aJ l hR;refine gN J J (congrArg not (l)) (aU 0 rQ J Z3 (gN J J (congrArg not (l)) (aR G3 J ((P 0 J c).take 1) J (gN J J (congrArg not (l)) (aU 1 rQ J Z3 (gN J J (congrArg not (l)) (aR G3 J ((P 0 J c).drop 1) J (gN J J (congrArg not (l)) (fZ J J J (pF J J (congrArg not (l)) J (A J ?_)))))))))));by_cases x:q.a=q.b
      ·have bb:=aJ x hT;refine cC 4 J J J (decide_eq_true x) J (pt x J J (A J (cC 4 J J J J J (pT J J J J (N ?_)))));cases bb;exact cuE J
      have hV:=aS x hT;refine dJ x J (A J (dJ x J (aU 0 rQ J Z3 (dJ x J (aR G3 J ((P 0 J c).take 1) J (dJ x J (JQ (ke:=fT) (enc:=Value.bool) q.a (z0:=false) lP U3 zeroValue4 J J J J (mO 1 J) (pf x J J (A J ?_)))))))));rcases Bool.eq_false_or_eq_true ((eN s1.2 q.a).getD false) with p|p
      ·have bc:=aJ p hV;refine cC 4 J J J (p) J (pT J J (p) J (N ?_));cases bc;exact cuE J
      have bd:=bK p hV;refine gN J J (p) (A J (gN J J (p) (aU 1 rQ J Z3 (gN J J (p) (aR G3 J ((P 0 J c).drop 1) J (gN J J (p) (JQ (ke:=fT) (enc:=Value.bool) q.b (z0:=false) lP U3 zeroValue4 J J J J (mO 1 J) (pF J J (p) J (N ?_)))))))));cases bd;exact cuE J
     have be:=bK l hR;refine cC 5 J J J (congrArg not (l)) J (pT J J (congrArg not (l)) J (A J (cC 4 J J J J J (pT J J J J (A J (cC 4 J J J J J (pT J J J J (N ?_))))))));cases be;exact cuE J
    have bf:=bK k hP;refine cC 5 J J J (congrArg not (k)) J (pT J J (congrArg not (k)) J (A J (cC 5 J J J J J (pT J J J J (A J (cC 4 J J J J J (pT J J J J (A J (cC 4 J J J J J (pT J J J J (N ?_)))))))))));cases bf;exact cuE J
   refine cb J (fun hE=>?_) (fun hE=>?_)
   ·have bg:=aJ hE hO;refine C (D J (bH ?_));cases bg;obtain rfl:=dF.out h9;cases hM;exact cK J J
   have bh:=bK hE hO;refine sk (lB 7 [6] [] mixed (fun _ _ _ _ _ h=>h) (by kernel_rfl) (by kernel_rfl) (by kernel_rfl) J (by kernel_rfl) (.nil) (dA J (A J aG) (dA J (aU 0 rQ J Z3 aG) (dA J (aR G3 J ((P 1 J c).take 1) J aG) (dA J (A J aG) (dA J (aU 1 rQ J Z3 aG) (dA J (aR G3 J ((P 1 J c).drop 1) J aG) (DC.turnN [(3,bE F 121 [.map (some B)]),(2,G),(1,S.map' fT Value.bool b2 (put s1.2 q.a true))] J J J (fun a w K g i hF=>TG.pa g i (II 1 (ke:=fT) (enc:=Value.bool) q.a true lP U3 J J J J QJ)) (DC.nil fun bt hF=>(II 1 (ke:=fT) (enc:=Value.bool) q.b true lP U3 J J J J (N ?_)))))))))));refine rg (dN J J J (by omega) (A J (N ?_)));cases bh;intro a w g i;exact ⟨_,h9,g.selH [2,3] J,i.cuE J⟩
  have bi:=aS hB hN;refine xt J ?_;cases bi;obtain rfl:=dF.out h9;intro a w g i;exact ⟨_,J,g,i.cuE J⟩
 rintro a w ⟨t1,rfl,g,i⟩;apply TG.ap ?_ g i;refine sq (C (aU 6 lA J Z36 (aR G36 J (((P 0 J f).drop 6).take 1) J (dU TX J J (A J (N ?_))))));obtain ⟨ag,bj,hW⟩:=L hM;refine gG [1,4] J (fun R a w=>∃ Y,ag=.inl Y∧SJ M W H [s,H] [(3,bE F 121 [.map (some B)]),(2,S.map' fT Value.bool B Y),(1,S.map' fT Value.bool b2 t1)] 96 R a w) ?_ ?_
 ·refine bk ?_;refine jZ [1,4,57,58] J bj (fun R s2=>SJ M W H [s,H] [(3,bE F 121 [.map (some B)]),(2,S.map' fT Value.bool B s2.2),(1,S.map' fT Value.bool b2 t1)] 96 ((59,.int .i64 (s2.1:Int))::R)) ?_ ?_
  ·exact cuE J
  rintro j s2 y1 hX hG a w ⟨g,i⟩;refine TG.ap ?_ g i;refine C (dS J J J (N (sq ?_)));refine ci J (fun hI=>?_) (fun hI=>?_)
  ·have bm:=aJ hI hX;refine sk (sq (bk (C ?_)));obtain ⟨Z,hJ,bn⟩:=L bm;obtain ⟨p1,rfl⟩:=h7.adr hJ;have bo:=h7.atF hJ;refine cP TX tQ J J J J (aT hJ) (cM MX tQ J J (P 1 J bo) J (va zeroValue337 tQ J J J J J J J J fun q2 bv d=>(N (sq (sq ?_)))));obtain ⟨t3,bp,aa⟩:=L bn;refine eU [1,4,8,57,58,59] [(87,.bool t3)] J ?_ ?_
   ·refine rg (cM pO jC J J (P 1 J f) J (aU 0 qZ J Z3 (aR G3 J ((P 0 J d).take 1) J ?_)));obtain ⟨r2,bq,ab⟩:=L bp;refine bB GP J (fun w H z le=>HA z V (bU.mono _ _ _ _ le.u e) Z.holder bq) (nt J J (A J ?_));rcases Bool.eq_false_or_eq_true (r2) with m|m
    ·have ai:=aJ m ab;refine gN J J (congrArg not (m)) (cM pO jC J J (P 1 J f) J (gN J J (congrArg not (m)) (aU 1 qZ J Z3 (gN J J (congrArg not (m)) (aR G3 J ((P 0 J d).drop 1) J (gN J J (congrArg not (m)) ?_))))));obtain ⟨r3,aj,ac⟩:=L ai;refine bB GP J (fun w H z le=>HA z V (bU.mono _ _ _ _ le.u e) Z.for_ aj) (gN J J (congrArg not (m)) (nt J J (pF J J (congrArg not (m)) J (A J ?_))));rcases Bool.eq_false_or_eq_true (r3) with n|n
     ·have ad:=aJ n ac;refine gN J J (congrArg not (n)) (aU 0 qZ J Z3 (gN J J (congrArg not (n)) (aR G3 J ((P 0 J d).take 1) J (gN J J (congrArg not (n)) (aU 1 qZ J Z3 (gN J J (congrArg not (n)) (aR G3 J ((P 0 J d).drop 1) J (gN J J (congrArg not (n)) (fZ J J J (pF J J (congrArg not (n)) J (A J ?_)))))))))));by_cases y:Z.holder=Z.for_
      ·have ak:=aJ y ad;refine cC 4 J J J (decide_eq_true y) J (pt y J J (N ?_));cases ak;exact cuE J
      have am:=aS y ad;refine dJ y J (aR BF J (sO 3 J) J (dJ y J (aU 1 qZ J Z3 (dJ y J (aR G3 J ((P 0 J d).drop 1) J (dJ y J (JQ (ke:=fT) (enc:=Value.bool) Z.for_ (z0:=false) lP U3 zeroValue4 J J J J (mO 2 J) (pf y J J (N ?_)))))))));cases am;exact cuE J
     have ao:=bK n ac;refine cC 5 J J J (congrArg not (n)) J (pT J J (congrArg not (n)) J (A J (cC 4 J J J J J (pT J J J J (N ?_)))));cases ao;exact cuE J
    have ar:=bK m ab;refine cC 5 J J J (congrArg not (m)) J (pT J J (congrArg not (m)) J (A J (cC 5 J J J J J (pT J J J J (A J (cC 4 J J J J J (pT J J J J (N ?_))))))));cases ar;exact cuE J
   refine cb J (fun hL=>?_) (fun hL=>?_)
   ·have aw:=aJ hL aa;refine C (D J (bH ?_));cases aw;obtain rfl:=dF.out hG;cases hW;exact cK J J
   have ay:=bK hL aa;refine sk (rg (aR BF J (sO 3 J) J (aU 1 qZ J Z3 (aR G3 J ((P 0 J d).drop 1) J (II 2 (ke:=fT) (enc:=Value.bool) Z.for_ true lP U3 J J J J (N (rg (dN J J J (by omega) (A J (N ?_))))))))));cases ay;intro a w g i;exact ⟨_,hG,g.selH [1,2] J,i.cuE J⟩
  have a4:=aS hI hX;refine xt J ?_;cases a4;obtain rfl:=dF.out hG;intro a w g i;exact ⟨_,J,g,i.cuE J⟩
 rintro a w ⟨Y,rfl,g,i⟩;apply TG.ap ?_ g i;refine C (aU 6 lA J Z36 (aR G36 J (((P 0 J f).drop 6).take 1) J (fn J J J ?_)));obtain ⟨r4,a6,a8⟩:=L hW
 refine clL (v:=.bool r4) aFw J J J J (fun w g=>by
   have ba:eP M prog (hp w) (.func (.func 312) #[] #[.pointer (some (⟨F,0,none⟩))]) (fC (Va eK) Value.bool (fun o=>KV o Y)):=⟨312,[],[.pointer (some (⟨F,0,none⟩))],rfl,aFx,fun w_ K_ ae v_ hK hw hs=>by obtain ⟨cd,o,r_,rfl,ah,hx,rfl⟩:=hs;cases ah;exact aH9 (H:=K_) hw  o rfl (bx:=Y) ((cW (g.get (t:=3) rfl)).mono hK) (Mp.mono (.inl ⟨_,rfl,g.get (t:=2) rfl⟩) hK) hx⟩
   exact aId (Hp.le.refl (hp w)) (h7.mono (I.mono _) (g.hp 1 J)) (right:=(fun o=>KV o Y)) ba a6) ?_
 refine D J (bH ?_);cases a8;exact cK J J

theorem ZF (g:H.le (hp W)) {e:List Value} (d:aY) (f:(bU) H e d) {r:Bool} (h:EW d=some r):Calls prog 283 #[.agg e.toArray] W (bJ M W (.bool r)):=by
 have b:=f;obtain ⟨l,rfl,i⟩:=f;refine aK (M:=M) func283 J ntmps283 J g ?_;refine C (bI J J J fun k j c=>(D J (C (aU 10 lA J Z5 (aR G5 J ((P 0 J c).drop 10) J (fZ J J J (D J ?_)))))));refine bH ?_;obtain rfl:=sj h;exact cK J J

theorem aIf (Z:H.le (hp W)) {p:List Value} (j:aY) (q:(bU) H p j) {s:List Value} (g:fL) (B:(I jK) H s g) {m:Addr} {o:Value} {bx:aY→Option Bool} (z:aN H m [o]) (n:eP M prog H o (fC (Vr bU) Value.bool bx)) {r:Bool} (hr:XH j g bx=some r):Calls prog 284 #[.agg p.toArray,.agg s.toArray,.pointer (some m)] W (bJ M W (.bool r)):=by
 have d:=q;obtain ⟨z1,rfl,aa⟩:=q;obtain rfl:=B;have e:=n;obtain ⟨k,i,h,rfl,_,_⟩:=n;refine aK (M:=M) func284 J ntmps284 J Z ?_;refine C (bI J J J fun q3 K4 l=>(bI J J J fun q6 K7 c=>(D J (sq ?_))));obtain ⟨t0,t,F⟩:=L hr;refine eU [] [(5,.bool t0)] J ?_ ?_
 ·refine rg (aU 0 kJ J Z3 (aR G3 J ((P 0 J c).take 1) J (aU 1 kJ J Z3 (aR G3 J ((P 0 J c).drop 1) J (lL J J J (A J ?_))))));by_cases b:g.noes<g.ayes
  ·have G:=aJ b t;refine cC 6 J J J (decide_eq_true b) J (gU J J J (gU J J J (gU J J J (BZ b J (pt b J J (D J ?_))))));cases G;exact cuE J
  have x:=aS b t;refine dJ b J (aU 0 kJ J Z3 (dJ b J (aR G3 J ((P 0 J c).take 1) J (dJ b J (aU 1 kJ J Z3 (dJ b J (aR G3 J ((P 0 J c).drop 1) J (dJ b J (fZ J J J (dJ b J (A J ?_)))))))))));by_cases f:g.ayes=g.noes
  ·have K:=aJ f x;refine gt f J (aR YP J (P 2 J z) J (gt f J (cM pO jC J J (P 1 J l) J (gt f J ?_))));obtain ⟨y,R,V⟩:=L K;refine mT (v:=.bool y) e 2 J J J J (fun H le=>⟨_,j,y,J,⟨_,J,(bU.mono _ _ _ _ le.u d)⟩,R,J⟩) (dJ b J (pt f J J (pf b J J (D J ?_))));cases V;exact cuE J
  have Y:=aS f x;refine cC 3 J J J (decide_eq_false f) J (dJ b J (pf f J J (pf b J J (D J ?_))));cases Y;exact cuE J
 refine bH ?_;cases F;exact cK J J

theorem aIg (hH:H.le (hp W)) {p:List Value} (g:aY) (q:(bU) H p g) {s:List Value} (j:fL) (B:(I jK) H s j) {m:Addr} {o:Value} {bx:aY→Option Bool} (z:aN H m [o]) (n:eP M prog H o (fC (Vr bU) Value.bool bx)) {r:Bool} (hr:XI g j bx=some r):Calls prog 285 #[.agg p.toArray,.agg s.toArray,.pointer (some m)] W (bJ M W (.bool r)):=by
 have c:=q;obtain ⟨z1,rfl,aa⟩:=q;obtain rfl:=B;have d:=n;obtain ⟨l,k,i,rfl,_,_⟩:=n;refine aK (M:=M) func285 J ntmps285 J hH ?_;refine C (bI J J J fun q3 K4 f=>(bI J J J fun q6 K7 h=>(D J (sq ?_))));obtain ⟨t0,t,F⟩:=L hr;refine eU [] [(5,.bool t0)] J ?_ ?_
 ·refine rg (aU 0 kJ J Z3 (aR G3 J ((P 0 J h).take 1) J (aU 8 lA J Z3 (aR G3 J (((P 1 J f).drop 8).take 1) J (pW J J J (A J ?_))))));by_cases b:g.need≤j.ayes
  ·have G:=aJ b t;refine cC 7 J J J (decide_eq_true b) J (gU J J J (gU J J J (gU J J J (BZ b J (pt b J J (D J ?_))))));cases G;exact cuE J
  have K:=aS b t;refine dJ b J (aU 0 kJ J Z3 (dJ b J (aR G3 J ((P 0 J h).take 1) J (dJ b J (aU 8 lA J Z3 (dJ b J (aR G3 J (((P 1 J f).drop 8).take 1) J (dJ b J ?_))))))));obtain ⟨R,x⟩:=aF K;refine qH J J J R (dJ b J (fZ J J J (dJ b J (A J ?_))));by_cases e:j.ayes=(g.need-1)
  ·have V:=aJ e x;refine gt e J (aR YP J (P 2 J z) J (gt e J (cM pO jC J J (P 1 J f) J (gt e J ?_))));obtain ⟨y,Y,Z⟩:=L V;refine mT (v:=.bool y) d 2 J J J J (fun H le=>⟨_,g,y,J,⟨_,J,(bU.mono _ _ _ _ le.u c)⟩,Y,J⟩) (dJ b J (pt e J J (pf b J J (D J ?_))));cases Z;exact cuE J
  have hB:=aS e x;refine cC 3 J J J (decide_eq_false e) J (dJ b J (pf e J J (pf b J J (D J ?_))));cases hB;exact cuE J
 refine bH ?_;cases F;exact cK J J

theorem aIh (v:H.le (hp W)) {h:List Value} (j:aY) (i:(bU) H h j) {f:List Value} (d:fL) (k:(I jK) H f d) {r:Bool} (y:XJ j d=some r):Calls prog 286 #[.agg h.toArray,.agg f.toArray] W (bJ M W (.bool r)):=by
 have e:=i;obtain ⟨V,rfl,z⟩:=i;obtain rfl:=k;refine aK (M:=M) func286 J ntmps286 J v ?_;refine C (bI J J J fun K F x=>(bI J J J fun R G b=>(D J (sq ?_))));obtain ⟨B,l,m⟩:=L y;refine eU [] [(4,.bool B)] J ?_ ?_
 ·refine rg (aU 0 kJ J Z3 (aR G3 J ((P 0 J b).take 1) J ?_));obtain ⟨n,o⟩:=aF l;refine mlI J J J n (aU 0 kJ J Z3 (aR G3 J ((P 0 J b).take 1) J (aU 1 kJ J Z3 (aR G3 J ((P 0 J b).drop 1) J ?_))));obtain ⟨p,q⟩:=aF o;refine dN J J J p ?_;obtain ⟨s,g⟩:=aF q;refine mlI J J J s (pW J J J (A J ?_));by_cases c:(2*(d.ayes+d.noes))≤(3*d.ayes)
  ·have t:=aJ c g;refine gt c J (aU 0 kJ J Z3 (gt c J (aR G3 J ((P 0 J b).take 1) J (gt c J (pW J J J (pt c J J (D J ?_)))))));cases t;exact cuE J
  have u:=aS c g;refine cC 3 J J J (decide_eq_false c) J (pf c J J (D J ?_));cases u;exact cuE J
 refine bH ?_;cases m;exact cK J J

theorem NH (h:H.le (hp W))  {r:Unit} (j:KY=some r):Calls prog 240 #[] W (eY M H W (fun v K=>∃ (f:Addr) (b:Addr),v=.slice (some f) 3 3∧aN K f [.func (.func 284) #[] #[.pointer (some b)],.func (.func 285) #[] #[.pointer (some b)],.func (.func 286) #[] #[]]∧aN K b [.func (.func 283) #[] #[]])):=by
 refine aK (M:=M) func240 J ntmps240 J h ?_;refine C (D J (C (va zeroValue370 aG1 J J J J J J J J fun m k c=>(N (C (fn J J J (bu T12.B332 J J J ?_)))))));refine fn J J J (bu T12.B332 J J J (bu T12.B332 J J J (bS T12.E333 J J J J fun n l i d=>(D J (bH ?_)))));obtain rfl:=sj j;intro a w e g;refine dT g J J ?_;exact ⟨⟨_,_,J,d.mono (e.grow 0 J),c.mono (e.grow 1 J)⟩,e.ext⟩

theorem ZG (n:H.le (hp W)) {cc:List Value} (c:aY) (co:(bU) H cc c) {r:Bool} (hr:EX c=some r):Calls prog 234 #[.agg cc.toArray] W (bJ M W (.bool r)):=by
 have g:=co;obtain ⟨V,rfl,R⟩:=co;refine aK (M:=M) func234 J ntmps234 J n ?_;refine C (bI J J J fun q3 K4 b=>(D J (sq ?_)));obtain ⟨t0,hP,hR⟩:=L hr;refine eU [] [(2,.bool t0)] J ?_ ?_
 ·refine TG.pack (fun K=>Sl (tX (I (bP .i64)) 1) 1 K (some (q3.add 1)) 2 ([c.ayes.e0,c.ayes.e1]:List (List Int))) (fun H le=>Sl.litR (css:=[[.slice V.a0 c.ayes.e0.length V.c0],[.slice V.a1 c.ayes.e1.length V.c1]]) (l:=([c.ayes.e0,c.ayes.e1]:List (List Int))) ⟨⟨J,J,⟨_,_,J,(R.f0.mono (I.mono _) le.i)⟩⟩,⟨J,J,⟨_,_,J,(R.f1.mono (I.mono _) le.i)⟩⟩,tv⟩ ((((b.mono le.o).drop 1).take 2)).1 (((b.mono le.o).drop 1).take 2) J) fun bd hT=>(TG.pack (fun K=>Sl (tX (I (bP .i64)) 1) 1 K (some (q3.add 3)) 2 ([c.noes.e0,c.noes.e1]:List (List Int))) (fun H le=>Sl.litR (css:=[[.slice V.a2 c.noes.e0.length V.c2],[.slice V.a3 c.noes.e1.length V.c3]]) (l:=([c.noes.e0,c.noes.e1]:List (List Int))) ⟨⟨J,J,⟨_,_,J,(R.f2.mono (I.mono _) le.u)⟩⟩,⟨J,J,⟨_,_,J,(R.f3.mono (I.mono _) le.u)⟩⟩,tv⟩ ((((b.mono le.i).drop 3).take 2)).1 (((b.mono le.i).drop 3).take 2) J) fun be hV=>?_);obtain ⟨r2,hW,hB⟩:=L hP;refine eH 39 mixed (by kernel_rfl) J (E J (aU 0 lA J Z3 aG) (E J (aR G3 J ((P 3 J b).take 1) J aG) (E J (bB MT J (fun w H n le=>NG c.members 1 40 hW) aG) (dC J ?_))));rcases Bool.eq_false_or_eq_true (r2) with p|p
  ·have hX:=aJ p hB;obtain ⟨r0,ac,hC⟩:=L hX;refine E J (gN J J (p) (aU 1 lA J IR aG)) (E J (gN J J (p) (ON PD pQ J J aG)) (E J (gN J J (p) (cM pO jC J J (P 3 J b) J aG)) (E J (gN J J (p) (fn J J J aG)) ?_)))
   let z:List Value:=[.agg (iK c V).toArray]
   refine DF.det J (fun a w K e d y=>TG.pa e d (gN J J (p) (mG (v:=.bool r0) YG J J J J (fun w H n le=>by
     have ae:eP M prog H (.func (.func 278) z.toArray #[]) (fC (Vl (I (bP .i64)) 1) Value.bool (qU c)):=⟨278,z,[],rfl,YH,fun w_ K_ aa v_ hK hw hs=>by obtain ⟨bb,bc,r_,rfl,j,hx,rfl⟩:=hs;obtain ⟨_,_,rfl,j⟩:=j;exact ZD (H:=K_) hw c (bU.mono _ _ _ _ ((le.at 4 rfl).trans hK) g) j  hx⟩
     exact ZE n (hT.mono (tX.mono (I.mono _)) le.u) (right:=(qU c)) ae ac) aG))) ?_
   refine E J (pT J J (p) J aG) (dC J ?_);rcases Bool.eq_false_or_eq_true (r0) with s|s
   ·have af:=aJ s hC;obtain ⟨r1,ag,hE⟩:=L af;refine E J (gN J J (s) (aU 3 lA J IR aG)) (E J (gN J J (s) (ON PD pQ J J aG)) (E J (gN J J (s) (cM pO jC J J (P 3 J b) J aG)) (E J (gN J J (s) (fn J J J aG)) ?_)))
    refine DF.det J (fun a w K e d y=>TG.pa e d (gN J J (s) (mG (v:=.bool r1) YG J J J J (fun w H n le=>by
      have ah:eP M prog H (.func (.func 278) z.toArray #[]) (fC (Vl (I (bP .i64)) 1) Value.bool (qU c)):=⟨278,z,[],rfl,YH,fun w_ K_ aa v_ hK hw hs=>by obtain ⟨bb,bc,r_,rfl,j,hx,rfl⟩:=hs;obtain ⟨_,_,rfl,j⟩:=j;exact ZD (H:=K_) hw c (bU.mono _ _ _ _ ((le.at 4 rfl).trans hK) g) j  hx⟩
      exact ZE n (hV.mono (tX.mono (I.mono _)) le.i) (right:=(qU c)) ah ag) aG))) ?_
    refine E J (pT J J (s) J aG) (dC J ?_);rcases Bool.eq_false_or_eq_true (r1) with t|t
    ·have hG:=aJ t hE;refine E J (gN J J (t) (aU 5 lA J VA aG)) (E J (gN J J (t) (aR G35 J (((P 3 J b).drop 5).take 1) J aG)) (E J (gN J J (t) (dU VD J J aG)) (E J (gN J J (t) (jN J J J aG)) (E J (pT J J (t) J aG) (dC J ?_)))));by_cases B:(c.pairs.length:Int)≤10
     ·have hI:=aJ B hG;refine E J (gt B J (aU 6 lA J Z36 aG)) (E J (gt B J (aR G36 J (((P 3 J b).drop 6).take 1) J aG)) (E J (gt B J (dU TX J J aG)) (E J (gt B J (jN J J J aG)) (E J (pt B J J aG) (dC J ?_)))));by_cases h9:(c.proxies.length:Int)≤10
      ·have ai:=aJ h9 hI;obtain ⟨r3,aj,hJ⟩:=L ai;refine E J (gt h9 J (cM pO jC J J (P 3 J b) J aG)) (E J (gt h9 J (bB aFe J (fun w H n le=>aIe n c (bU.mono _ _ _ _ le.x g) aj) aG)) (E J (pt h9 J J aG) (dC J ?_)));rcases Bool.eq_false_or_eq_true (r3) with m|m
       ·have ak:=aJ m hJ;obtain ⟨am,an⟩:=aF ak;obtain ⟨r8,ao,hL⟩:=L an;refine E J (gN J J (m) (aU 7 lA J Z5 aG)) (E J (gN J J (m) (aR G5 J (((P 3 J b).drop 7).take 1) J aG)) (E J (gN J J (m) (yY U5 U3 J J (oL am) aG)) ?_))
        refine DF.und (α:=Addr×Addr) default (fun q=>.slice (some q.1) 3 3) (fun (q:Addr×Addr) K=>aN K q.1 [.func (.func 284) #[] #[.pointer (some q.2)],.func (.func 285) #[] #[.pointer (some q.2)],.func (.func 286) #[] #[]]∧aN K q.2 [.func (.func 283) #[] #[]]) (by intro _ _ _ h x;exact ⟨x.1.mono h,x.2.mono h⟩) (by kernel_rfl) rfl (fun a w K e d y=>TG.pa e d (gN J J (m) (gW MS J J J J (fun w H n le=>NH n ao) (by
          rintro v_ bf ⟨q0,q1,rfl,ab,ap⟩
          exact nJ (f:=fun q=>.slice (some q.1) 3 3) (G:=(fun (q:Addr×Addr) K=>aN K q.1 [.func (.func 284) #[] #[.pointer (some q.2)],.func (.func 285) #[] #[.pointer (some q.2)],.func (.func 286) #[] #[]]∧aN K q.2 [.func (.func 283) #[] #[]])) (q0,q1) (by intro _ _ _ h x;exact ⟨x.1.mono h,x.2.mono h⟩) ⟨ab,ap⟩)))) ?_
        rintro ⟨q2,q4⟩;refine E J (gN J J (m) (dU ND J J aG)) (DF.nil fun bg y=>?_);obtain ⟨bp,_⟩:=y;refine gN J J (m) (dS J J J (pT J J (m) J (A J ?_)));by_cases Y:c.rule<3
        ·have aq:=aJ Y hL;refine gt Y J (aU 8 lA J Z3 (gt Y J (aR G3 J (((P 3 J b).drop 8).take 1) J (gt Y J ?_))));obtain ⟨r4,ar,hM⟩:=L aq;refine bB MT J (fun w H n le=>NG c.need 0 40 ar) (pt Y J J (A J ?_));rcases Bool.eq_false_or_eq_true (r4) with F|F
         ·have au:=aJ F hM;refine gN J J (F) (aU 9 lA J Z3 (gN J J (F) (aR G3 J (((P 3 J b).drop 9).take 1) J (gN J J (F) ?_))));obtain ⟨r5,aw,hN⟩:=L au;refine bB MT J (fun w H n le=>NG c.quorum 0 40 aw) (pT J J (F) J (A J ?_));rcases Bool.eq_false_or_eq_true (r5) with k|k
          ·have hO:=aJ k hN;refine gN J J (k) (aU 10 lA J Z5 (gN J J (k) (aR G5 J ((P 3 J b).drop 10) J (gN J J (k) (fZ J J J (gN J J (k) (A J ?_)))))));by_cases Z:c.tie=1
           ·have ax:=aJ Z hO;refine cC 3 J J J (decide_eq_true Z) J (gN J J (k) (pt Z J J (pT J J (k) J (D J ?_))));cases ax;intro a w e d;exact ⟨e.selH [3,4] J,d.cuE J⟩
           have ay:=aS Z hO;refine dJ Z J (aU 10 lA J Z5 (dJ Z J (aR G5 J ((P 3 J b).drop 10) J (dJ Z J (fZ J J J (gN J J (k) (pf Z J J (pT J J (k) J (D J ?_)))))))));cases ay;intro a w e d;exact ⟨e.selH [3,4] J,d.cuE J⟩
          have az:=bK k hN;refine cC 4 J J J (k) J (gU J J J (gU J J J (gU J J J (gF J J (k) J (pF J J (k) J (D J ?_))))));cases az;intro a w e d;exact ⟨e.selH [3,4] J,d.cuE J⟩
         have a4:=bK F hM;refine cC 3 J J J (F) J (pF J J (F) J (A J (cC 4 J J J J J (gU J J J (gU J J J (gU J J J (gF J J J J (pF J J J J (D J ?_)))))))));cases a4;intro a w e d;exact ⟨e.selH [3,4] J,d.cuE J⟩
        have a5:=aS Y hL;refine cC 3 J J J (decide_eq_false Y) J (pf Y J J (A J (cC 3 J J J J J (pF J J J J (A J (cC 4 J J J J J (gU J J J (gU J J J (gU J J J (gF J J J J (pF J J J J ?_)))))))))));refine D J ?_;cases a5;intro a w e d;exact ⟨e.selH [3,4] J,d.cuE J⟩
       have a6:=bK m hJ;refine kY 5 J J (m) J ⟨J,J,J,J,J,tv⟩ (DF.nil fun bh y=>(gF J J (m) J (pF J J (m) J (A J (cC 3 J J J J J (pF J J J J (A J (cC 3 J J J J J (pF J J J J (A J (cC 4 J J J J J ?_)))))))))));refine gU J J J (gU J J J (gU J J J (gF J J J J (pF J J J J (D J ?_)))));cases a6;intro a w e d;exact ⟨e.selH [3,4] J,d.cuE J⟩
      have a7:=aS h9 hI;refine kY 2 J J (decide_eq_false h9) J ⟨J,J,tv⟩ (E J (pf h9 J J aG) (dC J (kY 5 J J J J ⟨J,J,J,J,J,tv⟩ (DF.nil fun bi y=>(gF J J J J (pF J J J J (A J (cC 3 J J J J J (pF J J J J (A J (cC 3 J J J J J ?_)))))))))));refine pF J J J J (A J (cC 4 J J J J J (gU J J J (gU J J J (gU J J J (gF J J J J (pF J J J J (D J ?_))))))));cases a7;intro a w e d;exact ⟨e.selH [3,4] J,d.cuE J⟩
     have a8:=aS B hG;refine kY 4 J J (decide_eq_false B) J ⟨J,J,J,J,tv⟩ (E J (pf B J J aG) (dC J (kY 2 J J J J ⟨J,J,tv⟩ (E J (pF J J J J aG) (dC J (kY 5 J J J J ⟨J,J,J,J,J,tv⟩ (DF.nil fun bj y=>(gF J J J J (pF J J J J (A J (cC 3 J J J J J ?_)))))))))));refine pF J J J J (A J (cC 3 J J J J J (pF J J J J (A J (cC 4 J J J J J (gU J J J (gU J J J (gU J J J (gF J J J J (pF J J J J (a1 J ?_)))))))))));refine N ?_;cases a8;intro a w e d;exact ⟨e.selH [3,4] J,d.cuE J⟩
    have a9:=bK t hE;refine kY 4 J J (t) J ⟨J,J,J,J,tv⟩ (E J (pF J J (t) J aG) (dC J (kY 4 J J J J ⟨J,J,J,J,tv⟩ (E J (pF J J J J aG) (dC J (kY 2 J J J J ⟨J,J,tv⟩ (E J (pF J J J J aG) (dC J (kY 5 J J J J ⟨J,J,J,J,J,tv⟩ (DF.nil fun bm y=>(gF J J J J ?_)))))))))));refine pF J J J J (A J (cC 3 J J J J J (pF J J J J (A J (cC 3 J J J J J (pF J J J J (A J (cC 4 J J J J J (gU J J J (gU J J J (gU J J J ?_)))))))))));refine gF J J J J (pF J J J J (D J ?_));cases a9;intro a w e d;exact ⟨e.selH [3,4] J,d.cuE J⟩
   have ba:=bK s hC;refine kY 5 J J (s) J ⟨J,J,J,J,J,tv⟩ (E J (pF J J (s) J aG) (dC J (kY 4 J J J J ⟨J,J,J,J,tv⟩ (E J (pF J J J J aG) (dC J (kY 4 J J J J ⟨J,J,J,J,tv⟩ (E J (pF J J J J aG) (dC J (kY 2 J J J J ⟨J,J,tv⟩ (E J (pF J J J J aG) (dC J ?_)))))))))));refine kY 5 J J J J ⟨J,J,J,J,J,tv⟩ (DF.nil fun bn y=>(gF J J J J (pF J J J J (A J (cC 3 J J J J J (pF J J J J (A J (cC 3 J J J J J (pF J J J J (A J (cC 4 J J J J J ?_)))))))))));refine gU J J J (gU J J J (gU J J J (gF J J J J (pF J J J J (D J ?_)))));cases ba;intro a w e d;exact ⟨e.selH [3,4] J,d.cuE J⟩
  have ad:=bK p hB;refine kY 5 J J (p) J ⟨J,J,J,J,J,tv⟩ (E J (pF J J (p) J aG) (dC J (kY 5 J J J J ⟨J,J,J,J,J,tv⟩ (E J (pF J J J J aG) (dC J (kY 4 J J J J ⟨J,J,J,J,tv⟩ (E J (pF J J J J aG) (dC J (kY 4 J J J J ⟨J,J,J,J,tv⟩ (E J (pF J J J J aG) (dC J ?_)))))))))));refine kY 2 J J J J ⟨J,J,tv⟩ (E J (pF J J J J aG) (dC J (kY 5 J J J J ⟨J,J,J,J,J,tv⟩ (DF.nil fun bo y=>(gF J J J J (pF J J J J (A J (cC 3 J J J J J (pF J J J J (A J (cC 3 J J J J J ?_)))))))))));refine pF J J J J (A J (cC 4 J J J J J (gU J J J (gU J J J (gU J J J (gF J J J J (pF J J J J (D J ?_))))))));cases ad;intro a w e d;exact ⟨e.selH [3,4] J,d.cuE J⟩
 refine bH ?_;cases hR;exact cK J J

theorem aIi (e:H.le (hp W)) {h:List Value} (d:aY) (j:(bU) H h d) {r:Int} (m:KZ d=some r):Calls prog 185 #[.agg h.toArray] W (bJ M W (.int .i64 r)):=by
 have b:=j;obtain ⟨q,rfl,n⟩:=j;refine aK (M:=M) func185 J ntmps185 J e ?_;refine C (bI J J J fun p o f=>(D J (sq (C (cM pO jC J J (P 0 J f) J ?_)))));obtain ⟨r6,g,c⟩:=L m;refine bB XZ J (fun w H e le=>ZG e d (bU.mono _ _ _ _ le.i b) g) (nt J J (N ?_));refine cb J (fun h0=>?_) (fun h0=>?_)
 ·replace h0:=oI h0
  have k:=bK h0 c;refine C (D J (bH ?_));cases k;exact cK J J
 replace h0:=oJ h0
 have l:=aJ h0 c;refine sk (C (D J (bH ?_)));cases l;exact cK J J

theorem NI {M:Prop} {W w:World} {H V:Hp} {σr:aM} {g:Nat} {n:List Value} (l:aI) (Y:aX V n l) {z:List Value} (c:aY) (B:(bU) V z c) {r:aI⊕Int} (hr:rL l c=some r) (k:St M W H [V] ((1,bE g 77 n)::σr) w):Calls prog 136 #[.pointer (some ⟨g,0,none⟩),.agg z.toArray] w (fI M W H V σr (sC (fun y e K R=>∃ (t:List Value),e=.returned (.tuple #[])∧R=[(1,bE g 77 t)]∧aX K t y) (fun u=>.iface 155 (.agg #[.int .i64 u])) [(1,bE g 77 n)] r)):=by
 have f:=B;obtain ⟨b,rfl,d⟩:=B;obtain ⟨G,rfl,s⟩:=Y;refine cV (M:=M) func136 J ntmps136 J k ?_;refine C (bI J J J fun q5 K6 j=>(N (C (cM pO jC J J (P 0 J j) J ?_))));obtain ⟨F,q,Z⟩:=L hr;refine bB aD7 J (fun w H p le=>aIi p c (bU.mono _ _ _ _ le.i f) q) ?_;obtain ⟨r11,v,x⟩:=L Z;rcases r11 with y0|y0
 ·refine bB jQ J (fun w H p le=>iX (jR F v)) (N (rg (A J (A J (cM pO jC J J (P 0 J j) J (nl J J (aU 0 fD J eT (aU 15 eX J jC (eQ 1 jC J J J J J J J (nl J J (aU 0 fD J eT ?_)))))))))));refine aU 26 eX J Z4 (eQ 1 Z4 J J J J J J J (N ?_))
  let h:List Value:=(((((((((((((cO l.state G).set 15 (.int .i64 c.members)).set 16 (.slice b.a0 c.ayes.e0.length b.c0)).set 17 (.slice b.a1 c.ayes.e1.length b.c1)).set 18 (.slice b.a2 c.noes.e0.length b.c2)).set 19 (.slice b.a3 c.noes.e1.length b.c3)).set 20 (.slice b.a4 c.pairs.length b.c4)).set 21 (.slice b.a5 c.proxies.length b.c5)).set 22 (.int .u8 c.rule)).set 23 (.int .i64 c.need)).set 24 (.int .i64 c.quorum)).set 25 (.int .u8 c.tie)).set 26 (.bool true))
  refine TG.pack (fun K=>aX K h (⟨({l.state with division:=c,open_:=true}:dE)⟩:aI)) (fun H le=>⟨{G with a7:=b.a0,c7:=b.c0,a8:=b.a1,c8:=b.c1,a9:=b.a2,c9:=b.c2,a10:=b.a3,c10:=b.c3,a11:=b.a4,c11:=b.c4,a12:=b.a5,c12:=b.c5},J,{s.mono le.i with f7:=(d.f0.mono (I.mono _) le.i),f8:=(d.f1.mono (I.mono _) le.i),f9:=(d.f2.mono (I.mono _) le.i),f10:=(d.f3.mono (I.mono _) le.i),f11:=(d.f4.mono (I.mono _) le.i),f12:=(d.f5.mono (I.mono _) le.i)}⟩) fun m h3=>?_;cases x;intro a w k o;refine eF o J ?_;exact ⟨m,[(1,bE g 77 h)],k.selH [0,2] J,_,J,J,h3⟩
 refine eG jQ J J J (fun w H p le=>iY (jR F v)) ?_;cases x;intro a w k o;exact ⟨o.defers,V,[_],k.selH [1,1] J,J,J⟩

theorem w91 {M:Prop} {W w:World} {H V:Hp} {σr:aM} {j:Nat} {t:List Value} (d:aI) (au:aX V t d) {bb:Option Addr} {aq:Nat} {bz:List Int} (h:Sl (I (bP .i64)) 1 V bb aq bz) (db:aE) {r:aI⊕Int} (hr:LA d bz db=some r) (b:St M W H [V] ((1,bE j 77 t)::σr) w):Calls prog 91 #[.pointer (some ⟨j,0,none⟩),.slice bb bz.length aq,.string (bs db)] w (fI M W H V σr (sC (fun y e K A'=>∃ (du:List Value),e=.returned (.tuple #[])∧A'=[(1,bE j 77 du)]∧aX K du y) (fun u=>.iface 155 (.agg #[.int .i64 u])) [(1,bE j 77 t)] r)):=by
 obtain ⟨s,rfl,g⟩:=au;refine cV (M:=M) func91 J ntmps91 J b ?_;refine C (A J (nl J J (aU 0 fD J eT (aU 26 eX J Z4 (aR G4 J (((sO 1 J).drop 26).take 1) J (nt J J ?_))))));obtain ⟨r3,p,n⟩:=L hr;rcases r3 with y6|y6
 ·refine bB fG J (fun w H k le=>iX (fH (!d.state.open_) 8 p)) (N (sq ?_));obtain ⟨t42,hL,v⟩:=L n;refine gG [0,1] J (fun l_ a w=>∃ t45,t42=.inl t45∧SJ M W H [V] ([(1,bE j 77 (cO d.state s))]++σr) 46 l_ a w) ?_ ?_
  ·refine rg (A J ?_);obtain ⟨x4,x,hM⟩:=L hL;obtain ⟨p0,rfl⟩:=h.adr x;have hN:=h.atF x;refine cP eO Z3 J J J J (aT x) (aR G3 J (P 0 J hN) J ?_);obtain ⟨r1,hO,h4⟩:=L hM;refine bB GQ J (fun w H k le=>GZ x4 0 255 hO) (A J ?_);rcases Bool.eq_false_or_eq_true (r1) with f|f
   ·have hP:=aJ f h4;refine gN J J (f) (A J (gN J J (f) ?_));obtain ⟨x5,h5,hR⟩:=L hP;have hT:=h.atF h5;refine cP eO Z3 J J J J (aT h5) (gN J J (f) (aR G3 J (P 0 J hT) J (gN J J (f) ?_)));obtain ⟨r0,hV,hW⟩:=L hR;refine bB GQ J (fun w H k le=>GZ x5 0 255 hV) (pT J J (f) J ?_);obtain ⟨r2,h6,h7⟩:=L hW;rcases r2 with y1|y1
    ·refine bB fG J (fun w H k le=>iX (fH r0 2 h6)) (N ?_);cases h7;intro a w b c;exact ⟨_,J,b,c.cuE J⟩
    refine eG fG J J J (fun w H k le=>iY (fH r0 2 h6)) ?_;cases h7;cases v;intro a w b c;exact ⟨c.defers,V,[_],b.selH [0,0] J,J,J⟩
   have hX:=bK f h4;refine cC 4 J J J (f) J (pF J J (f) J ?_);obtain ⟨r4,h8,h9⟩:=L hX;rcases r4 with y2|y2
   ·refine bB fG J (fun w H k le=>iX (fH false 2 h8)) (N ?_);cases h9;intro a w b c;exact ⟨_,J,b,c.cuE J⟩
   refine eG fG J J J (fun w H k le=>iY (fH false 2 h8)) ?_;cases h9;cases v;intro a w b c;exact ⟨c.defers,V,[_],b.selH [0,0] J,J,J⟩
  rintro a w ⟨t45,rfl,b,c⟩;refine TG.ap ?_ b c;obtain ⟨x0,z,F⟩:=L v;obtain ⟨p83,rfl⟩:=h.adr z;have G:=h.atF z;obtain ⟨R,Y⟩:=aF F;obtain ⟨x1,hB,Z⟩:=L Y;have aa:=h.atF hB;obtain ⟨x2,hC,ad⟩:=L Z;have af:=h.atF hC;obtain ⟨x3,hE,ag⟩:=L ad;have ah:=h.atF hE;obtain ⟨ai,aj⟩:=aF ag;refine eH 21 mixed (by kernel_rfl) J (dC J (dC J (E J (nl J J aG) (E J (aU 0 fD J eT aG) (E J (aU 1 eX J Z3 aG) (E J (aR G3 J (((sO 1 J).drop 1).take 1) J aG) (dC J (E J (cP eO Z3 J J J J (aT z) aG) (E J (aR G3 J (P 1 J G) J aG) (E J (yY U3 U5 J J (rW R) aG) (dC J ?_)))))))))));refine E J (cP eO Z3 J J J J (aT hB) aG) (E J (aR G3 J (P 1 J aa) J aG) (dC J (E J (cP eO Z3 J J J J (aT hC) aG) (E J (aR G3 J (P 1 J af) J aG) (dC J (E J (cP eO Z3 J J J J (aT hE) aG) (E J (aR G3 J (P 1 J ah) J aG) (E J (yY U3 U5 J J (rW ai) aG) (E J (bu T12.B38 J J J aG) (DF.nil fun an hF=>?_))))))))));obtain ⟨r5,hG,hI⟩:=L aj
  let m:aM:=[(1,bE j 77 (cO d.state s))]
  rcases r5 with q|q
  ·refine qP m (B:=([]++σr)) J MP J J J J (fun w V b le=>NI d ⟨s,J,{g.mono le.i with f0:=(g.f0.mono (bW.mono) le.i)}⟩ (⟨d.state.house,(⟨([]:List Int),([]:List Int)⟩:bN),(⟨([]:List Int),([]:List Int)⟩:bN),([]:List fN),([]:List dY),x0,x1,x2,x3⟩:aY) ⟨⟨_,_,_,_,_,_,_,_,_,_,_,_⟩,J,⟨Sl.o,Sl.o,Sl.o,Sl.o,Sl.o,Sl.o⟩⟩ hG b) ?_;rintro e_ ao A_ a w ⟨c0,rfl,rfl,hJ⟩ b c;refine wD (fB J c b ?_);have aw:=hJ;obtain ⟨z0,rfl,hK⟩:=hJ;refine N (TG.pack (fun K=>aX K (cO q.state z0) q) (fun H le=>⟨z0,J,{hK.mono le.o with f0:=(hK.f0.mono (bW.mono) le.o)}⟩) fun l ak=>?_);cases hI;intro a w b c;refine eF c J ?_;exact ⟨l,[(1,bE j 77 (cO q.state z0))],b.selH [0,3] J,_,J,J,ak⟩
  refine qP m (B:=([]++σr)) J MP J J J J (fun w V b le=>NI d ⟨s,J,{g.mono le.i with f0:=(g.f0.mono (bW.mono) le.i)}⟩ (⟨d.state.house,(⟨([]:List Int),([]:List Int)⟩:bN),(⟨([]:List Int),([]:List Int)⟩:bN),([]:List fN),([]:List dY),x0,x1,x2,x3⟩:aY) ⟨⟨_,_,_,_,_,_,_,_,_,_,_,_⟩,J,⟨Sl.o,Sl.o,Sl.o,Sl.o,Sl.o,Sl.o⟩⟩ hG b) ?_;rintro e_ ar A_ a w ⟨rfl,rfl⟩ b c;refine QR ?_;cases hI;exact ⟨c.defers,V,[_],b.selH [2,2] J,J,J⟩
 refine eG fG J J J (fun w H k le=>iY (fH (!d.state.open_) 8 p)) ?_;cases n;intro a w b c;exact ⟨c.defers,V,[_],b.selH [0,0] J,J,J⟩

theorem aIj {M:Prop} {W:World} (d:Int) (e:Int) {r:Bool} (q:LB d e=some r):Calls prog 186 #[.int .i64 d,.int .i64 e] W (bJ M W (.bool r)):=by
 refine aK (M:=M) func186 J ntmps186 J (Hp.le.refl _) ?_;refine C (D J (sq ?_));obtain ⟨t13,h,i⟩:=L q;refine eU [] [(4,.bool t13)] J ?_ ?_
 ·refine rg (A J ?_);obtain ⟨s,j,f⟩:=L h;refine bB MQ J (fun w H p le=>NF d j) (A J ?_);rcases Bool.eq_false_or_eq_true (s) with b|b
  ·have k:=aJ b f;refine gN J J (b) (A J (gN J J (b) ?_));obtain ⟨t,l,g⟩:=L k;refine bB MQ J (fun w H p le=>NF e l) (gN J J (b) (nt J J (pT J J (b) J (A J ?_))));rcases Bool.eq_false_or_eq_true (t) with c|c
   ·have m:=aJ c g;refine gN J J (congrArg not (c)) (A J (gN J J (congrArg not (c)) (A J (gN J J (congrArg not (c)) (dS J J J (pF J J (congrArg not (c)) J (D J ?_)))))));cases m;exact cuE J
   have n:=bK c g;refine cC 3 J J J (congrArg not (c)) J (pT J J (congrArg not (c)) J (D J ?_));cases n;exact cuE J
  have o:=bK b f;refine cC 3 J J J (b) J (pF J J (b) J (A J (gN J J J (A J (gN J J J (A J (gN J J J (dS J J J (pF J J J J (D J ?_))))))))));cases o;exact cuE J
 refine bH ?_;cases i;exact cK J J

theorem ZH {M:Prop} {W:World} (b:Int) {r:Bool} (c:RW b=some r):Calls prog 187 #[.int .i64 b] W (bJ M W (.bool r)):=by
 refine aK (M:=M) func187 J ntmps187 J (Hp.le.refl _) ?_;refine C (D J (C (A J (A J (nI J J J (D J (bH ?_)))))));obtain rfl:=sj c;exact cK J J

theorem HB (i:H.le (hp W)) {fo:Option Addr} {fc:Nat} {f:List Int} (g:Sl (I (bP .i64)) 1 H fo fc f) (target:Int) {r:Int×Bool} (hr:vL f target=some r):Calls prog 137 #[.slice fo f.length fc,.int .i64 target] W (bJ M W (.tuple #[.int .i64 r.1,.bool r.2])):=by
 refine aK (M:=M) func137 J ntmps137 J i ?_;refine C (a1 J (D J (C (A J (dU eO J J (D J (sq ?_)))))));refine rg (A J (a1 J (D J (sq ?_))));obtain ⟨e,hG,hI⟩:=L hr;refine gG [0,1,6] J (fun l_=>SJ M W H [H] [] 54 ((7,.int .i64 e)::l_)) ?_ ?_
 ·refine bk ?_;refine jO [0,1,6] J hG (fun l_ s1=>(7,.int .i64 s1.1)::(8,.int .i64 s1.2)::l_) ?_ ?_
  ·exact cuE J
  intro j s1 y0 h7 h8;refine sq (C (A J (A J (dS J J J (N ?_)))));refine ci J (fun k=>?_) (fun k=>?_)
  ·have hJ:=aJ k h7;refine sk (bk (C (A J (A J ?_))));obtain ⟨hK,hL⟩:=aF hJ;refine dN J J J hK ?_;obtain ⟨hM,hN⟩:=aF hL;refine yY U3 TV J J (CX hM) ?_;obtain ⟨hO,hP⟩:=aF hN;refine shR J J J (KC 1 2 hO) ?_;obtain ⟨hR,hT⟩:=aF hP;refine yY TV U3 J J (oL hR) (D J (C (A J (A J ?_))));obtain ⟨x1,l,hV⟩:=L hT;obtain ⟨p0,rfl⟩:=g.adr l;have hW:=g.atF l;refine cP eO Z3 J J J (by omega) (aT l) (aR G3 J (P 0 J hW) J (A J ?_));obtain ⟨r1,hX,o⟩:=L hV;refine bB aD8 J (fun w H i le=>aIj x1 target hX) (N ?_);obtain ⟨t0,h9,p⟩:=L o;refine eU [0,1,6] [(7,.int .i64 t0.1),(8,.int .i64 t0.2)] J ?_ ?_
   ·refine cb J (fun m=>?_) (fun m=>?_)
    ·have q:=aJ m h9;refine rg (A J ?_);obtain ⟨s,t⟩:=aF q;refine dN J J J s (D J ?_);cases t;exact cuE J
    have u:=bK m h9;refine rg (A J (D J ?_));cases u;exact cuE J
   cases p;intro a w hS n;exact ⟨_,h8,hS,n.cuE J⟩
  have v:=aS k h7;refine xt J ?_;cases v;obtain rfl:=dF.out h8;exact cuE J
 rintro a w ⟨hS,n⟩;apply TG.ap ?_ hS n;refine sq ?_;obtain ⟨t1,hB,x⟩:=L hI;refine eU [] [(4,.int .i64 t1.1),(5,.bool t1.2)] J ?_ ?_
 ·refine rg (A J (A J (A J (dS J J J (A J ?_)))));by_cases b:e<(f.length:Int)
  ·have y:=aJ b hB;refine gt b J (A J (gt b J (A J (gt b J ?_))));obtain ⟨aa,z⟩:=aF y;obtain ⟨x0,h,hC⟩:=L z;obtain ⟨p1,rfl⟩:=g.adr h;have hE:=g.atF h;refine cP eO Z3 J J J (by omega) (aT h) (gt b J (aR G3 J (P 0 J hE) J (gt b J (A J (gt b J (fZ J J J (gt b J (A J ?_))))))));by_cases c:x0=target
   ·have B:=aJ c hC;refine cC 6 J J J (decide_eq_true c) J (gU J J J (gU J J J (BZ c J (gt b J (pt c J J (pt b J J (a1 J (D J ?_))))))));cases B;exact cuE J
   have F:=aS c hC;refine dJ c J (A J (dJ c J (A J (dJ c J (cP eO Z3 J J J (by omega) (aT h) (dJ c J (aR G3 J (P 0 J hE) J (dJ c J ?_))))))));obtain ⟨r0,G,hF⟩:=L F;refine bB XV J (fun w H i le=>ZH x0 G) (dJ c J (A J ?_));rcases Bool.eq_false_or_eq_true (r0) with d|d
   ·have K:=aJ d hF;refine gN J J (d) (A J (gN J J (d) ?_));obtain ⟨r2,R,V⟩:=L K;refine bB XV J (fun w H i le=>ZH target R) (dJ c J (pT J J (d) J (gt b J (pf c J J (pt b J J (a1 J (D J ?_)))))));cases V;exact cuE J
   have Y:=bK d hF;refine cC 2 J J J (d) J (dJ c J (pF J J (d) J (gt b J (pf c J J (pt b J J (a1 J (D J ?_)))))));cases Y;exact cuE J
  have Z:=aS b hB;refine cC 7 J J J (decide_eq_false b) J (gU J J J (gU J J J (gU J J J (gU J J J (gU J J J (gU J J J (gU J J J (gU J J J (gU J J J (gf b J (pf b J J ?_)))))))))));refine a1 J (D J ?_);cases Z;exact cuE J
 refine bH ?_;cases x;exact qS J J J

theorem HD {M:Prop} {W w:World} {H V:Hp} {σr:aM} {n:Option Addr} {k:Nat} {ai:List Int} (o:Sl (I (bP .i64)) 1 V n k ai) {r:List Int} (p:tC ai=some r) (c:St M W H [V] σr w):Calls prog 139 #[.slice n ai.length k] w (fI M W H V σr (fun e K q=>∃ (ad:Option Addr) (cap:Nat),e=.returned (.slice ad r.length cap)∧q=[(1,S.list ad cap 3 1 (bP .i64) r)])):=by
 refine cV (M:=M) func139 J ntmps139 J c ?_;refine C (D J (sq (C (A J (JO eO J J (N ?_))))));refine cb J (fun d=>?_) (fun d=>?_)
 ·obtain rfl:=Sl.isNil o d;have i:=(aF p).2;refine C (D J (bH (TG.nilRow 1 3 1 ?_)));cases i;intro a w c g;refine dT g J J ?_;exact ⟨_,[(1,S.list none 0 3 1 (bP .i64) ([]:List Int))],c.selH [0,0] J,_,_,J,J⟩
 refine sk (C (CY 1 (bP .i64) ([]:List Int) (cs:=[]) T12.E33 J J J J J J fun s=>(A J ?_)));obtain ⟨h,j⟩:=aF p;refine rD 1 (enc:=bP .i64) (l:=([]:List Int)) (m:=ai) T12.E33 J J J J J J o 0 J (fun _=>J) (fun _=>J) J h fun f b=>(D J (bH ?_));cases j;intro a w c g;refine dT g J J ?_;exact ⟨_,[(1,S.list f b 3 1 (bP .i64) (([]:List Int)++ai))],c.selH [0,0] J,_,_,J,J⟩

theorem w92 {M:Prop} {W w:World} {H V:Hp} {σr:aM} {ab:Nat} {ae:List Value} (i:aI) (au:aX V ae i) {bb:Option Addr} {aq:Nat} {bz:List Int} (s:Sl (I (bP .i64)) 1 V bb aq bz) (db:aE) {r:aI⊕Int} (hr:LC i bz db=some r) (b:St M W H [V] ((1,bE ab 77 ae)::σr) w):Calls prog 92 #[.pointer (some ⟨ab,0,none⟩),.slice bb bz.length aq,.string (bs db)] w (fI M W H V σr (sC (fun y e K A'=>∃ (du:List Value),e=.returned (.tuple #[])∧A'=[(1,bE ab 77 du)]∧aX K du y) (fun u=>.iface 155 (.agg #[.int .i64 u])) [(1,bE ab 77 ae)] r)):=by
 obtain ⟨z1,rfl,m⟩:=au;refine cV (M:=M) func92 J ntmps92 J b ?_;refine C (A J (nl J J (aU 0 fD J eT (aU 26 eX J Z4 (aR G4 J (((sO 1 J).drop 26).take 1) J ?_)))));obtain ⟨r3,bw,bv⟩:=L hr;rcases r3 with y6|y6
 ·refine bB fG J (fun w H k le=>iX (fH i.state.open_ 8 bw)) (N (sq ?_));obtain ⟨t0,ds,h3⟩:=L bv;refine gG [0,1] J (fun l_ a w=>∃ t68,t0=.inl t68∧SJ M W H [V] ([(1,bE ab 77 (cO i.state z1))]++σr) 86 l_ a w) ?_ ?_
  ·obtain ⟨x5,h4,dy⟩:=L ds;obtain ⟨p0,rfl⟩:=s.adr h4;have d2:=s.atF h4;obtain ⟨ey,d6,hE⟩:=L dy;refine eH 21 mixed (by kernel_rfl) J (dC J (E J (cP eO Z3 J J J J (aT h4) aG) (E J (aR G3 J (P 1 J d2) J aG) (E J (bB GQ J (fun w H k le=>GZ x5 1 2 d6) aG) (dC J ?_)))));rcases Bool.eq_false_or_eq_true (ey) with h1|h1
   ·have dB:=aJ h1 hE;obtain ⟨x6,hG,ed⟩:=L dB;have eg:=s.atF hG;obtain ⟨ez,ej,hI⟩:=L ed;refine E J (gN J J (h1) (A J aG)) (E J (gN J J (h1) (cP eO Z3 J J J J (aT hG) aG)) (E J (gN J J (h1) (aR G3 J (P 1 J eg) J aG)) (E J (gN J J (h1) (bB GQ J (fun w H k le=>GZ x6 0 1 ej) aG)) (E J (pT J J (h1) J aG) (dC J ?_)))));rcases Bool.eq_false_or_eq_true (ez) with p|p
    ·have em:=aJ p hI;obtain ⟨x7,hJ,ep⟩:=L em;have et:=s.atF hJ;obtain ⟨b2,b5⟩:=aF ep;refine E J (gN J J (p) (A J aG)) (E J (gN J J (p) (cP eO Z3 J J J J (aT hJ) aG)) (E J (gN J J (p) (aR G3 J (P 1 J et) J aG)) (E J (gN J J (p) (A J aG)) (E J (gN J J (p) (nl J J aG)) (E J (gN J J (p) (aU 0 fD J eT aG)) (E J (gN J J (p) (aU 15 eX J jC aG)) (E J (gN J J (p) (aU 0 lA J Z3 aG)) (E J (gN J J (p) (aR G3 J (((sO 1 J).drop 15).take 1) J aG)) (E J (gN J J (p) (qH J J J b2 aG)) (DF.nil fun e9 g=>(gN J J (p) ?_)))))))))));obtain ⟨bx,b8,cc⟩:=L b5;refine bB GQ J (fun w H k le=>GZ x7 0 (i.state.division.members-1) b8) (pT J J (p) J ?_);obtain ⟨e2,hK,hL⟩:=L cc;rcases e2 with y0|y0
     ·refine bB fG J (fun w H k le=>iX (fH bx 2 hK)) (N ?_);cases hL;intro a w b c;exact ⟨_,J,b.selH [1] J,c.cuE J⟩
     refine eG fG J J J (fun w H k le=>iY (fH bx 2 hK)) ?_;cases hL;cases h3;intro a w b c;exact ⟨c.defers,V,[_],b.selH [1,1] J,J,J⟩
    have cf:=bK p hI;refine kY 10 J J (p) J ⟨J,J,J,J,J,J,J,J,J,J,tv⟩ (DF.nil fun fa g=>(gF J J (p) J (pF J J (p) J ?_)));obtain ⟨e3,hM,hN⟩:=L cf;rcases e3 with y1|y1
    ·refine bB fG J (fun w H k le=>iX (fH false 2 hM)) (N ?_);cases hN;intro a w b c;exact ⟨_,J,b.selH [1] J,c.cuE J⟩
    refine eG fG J J J (fun w H k le=>iY (fH false 2 hM)) ?_;cases hN;cases h3;intro a w b c;exact ⟨c.defers,V,[_],b.selH [1,1] J,J,J⟩
   have cj:=bK h1 hE;refine kY 4 J J (h1) J ⟨J,J,J,J,tv⟩ (E J (pF J J (h1) J aG) (dC J (kY 10 J J J J ⟨J,J,J,J,J,J,J,J,J,J,tv⟩ (DF.nil fun fc g=>(gF J J J J (pF J J J J ?_))))));obtain ⟨e4,hO,hP⟩:=L cj;rcases e4 with y2|y2
   ·refine bB fG J (fun w H k le=>iX (fH false 2 hO)) (N ?_);cases hP;intro a w b c;exact ⟨_,J,b.selH [1] J,c.cuE J⟩
   refine eG fG J J J (fun w H k le=>iY (fH false 2 hO)) ?_;cases hP;cases h3;intro a w b c;exact ⟨c.defers,V,[_],b.selH [1,1] J,J,J⟩
  rintro a w ⟨t68,rfl,b,c⟩;refine TG.ap ?_ b c;refine sq ?_;obtain ⟨x4,h2,hR⟩:=L h3;obtain ⟨p1,rfl⟩:=s.adr h2;have h5:=s.atF h2;refine eH 8 mixed (by kernel_rfl) J (dC J (dC J (E J (cP eO Z3 J J J J (aT h2) aG) (E J (aR G3 J (P 1 J h5) J aG) (E J (nl J J aG) (E J (aU 0 fD J eT aG) (E J (aU 15 eX J jC aG) (E J (aU 1 lA J IR aG) (DF.nil fun fe g=>?_)))))))))
  let q:S:=bE ab 77 (cO i.state z1)
  by_cases hT:x4=0
  ·have cm:=aJ hT hR;refine oK PD pQ J J J (j:=0) (by omega) (by decide) (D J (sq (C (A J ?_))));obtain ⟨x8,hV,hW⟩:=L cm;have cp:=s.atF hV;refine cP eO Z3 J J J J (aT hV) (aR G3 J (P 1 J cp) J (fZ J J J (N ?_)));refine ci J (fun h6=>?_) (fun h6=>?_)
   ·have cs:=aJ h6 hW;refine eH 8 mixed (by kernel_rfl) J (dC J (dC J (E J (cP eO Z3 J J J J (aT h2) aG) (E J (aR G3 J (P 2 J h5) J aG) (E J (nl J J aG) (E J (aU 0 fD J eT aG) (E J (aU 15 eX J jC aG) (E J (aU 3 lA J IR aG) (DF.nil fun ff g=>(oK PD pQ J J J (j:=0) (by omega) (by decide) (a1 J ?_)))))))))));refine N (sq ?_);obtain ⟨x0,h7,cw⟩:=L cs;have hX:=s.atF h7;obtain ⟨t,cz,de⟩:=L cw;refine eH 11 mixed (by kernel_rfl) J (dC J (E J (nl J J aG) (E J (aR rN J (((sO 1 J).drop 18).take 1) J aG) (dC J (E J (cP eO Z3 J J J J (aT h7) aG) (E J (aR G3 J (P 3 J hX) J aG) (E J (bB GK J (fun w H k le=>HB k (m.f9.mono (I.mono _) le.v) x0 cz) aG) (dC J (E J (ex J J J aG) (E J (ex J J J aG) (E J (a1 J aG) ?_)))))))))));refine DF.nil fun fg g=>(D J (C (A J (nt J J ?_))));obtain ⟨e5,bd,be⟩:=L de;rcases e5 with y3|y3
    ·refine bB fG J (fun w H k le=>iX (fH (!t.2) 6 bd)) (N ?_);obtain ⟨z,di,dl⟩:=L be;obtain ⟨f3,dp⟩:=aF dl;obtain ⟨dv,dz⟩:=aF dp;obtain ⟨d3,d7⟩:=aF dz;refine lB 11 [4,10] [] mixed (fun _ _ _ _ _ h=>h) (by kernel_rfl) (by kernel_rfl) (by kernel_rfl) J (by kernel_rfl) (.nil) (dA J (A J aG) (dA J (A J aG) (dA J (nl J J aG) (dc J (by kernel_rfl) tv J J (aR rN J (((sO 1 J).drop 18).take 1) J aG) ?_))));refine tS z.length (fun d f=>([(2,S.list d f 3 1 (bP .i64) z),(1,q)]++σr)) J (fun a w K b c g F=>TG.pa b c (wY 2 GM J J J J (fun w V σr b le=>HD (ai:=i.state.division.noes.e0) (m.f9.mono (I.mono _) le.x) di b) fun a5 c4=>F _ _)) fun a5 c4=>?_;refine dA J (A J aG) (dA J (A J aG) (dA J (cP eO Z3 J J J J (aT h7) aG) (dA J (aR G3 J (P 4 J hX) J aG) ?_)))
     refine uT 1 (I (bP .i64)) 1 ([x0]:List Int) (I.mono _) J (bS T12.E33 J J J J fun q0 ah ea aa=>by
       have ee:Sl (I (bP .i64)) 1 ah (some q0) 1 ([x0]:List Int):=Sl.litF (fun _=>J) (fun _=>J) ea aa J J J
       exact rJ (I.mono _) ee) fun fv cS=>?_
     refine tS ((z.take t.1.toNat++([x0]:List Int)++z.drop t.1.toNat).length) (fun d f=>([(2,S.list d f 3 1 (bP .i64) (z.take t.1.toNat++([x0]:List Int)++z.drop t.1.toNat)),(1,q)]++σr)) J (fun a w K b c g F=>TG.pa b c (DO 2 (enc:=(bP .i64)) J (fun _=>J) (fun _=>J) t.1.toNat (xs:=([x0]:List Int)) (l:=z) insM138 GL J J J J J J J J (g.1 J) 0 J (by omega) dv d3 fun a0 c0=>F _ _)) fun a0 c0=>?_;refine DC.nil fun fh g=>?_;obtain ⟨_,f4,_,_⟩:=g;refine nl J J (eQ 1 pQ J J J J J J J (N (TG.still 2 J (fun _=>J) fun fj eh=>?_)))
     let ay:List Value:=((cO i.state z1).set 18 (.slice a0 ((z.take t.1.toNat++([x0]:List Int)++z.drop t.1.toNat).length) c0))
     refine TG.pack (fun K=>aX K ay (⟨({i.state with division:=({i.state.division with noes:=(⟨(z.take t.1.toNat++([x0]:List Int)++z.drop t.1.toNat),i.state.division.noes.e1⟩:bN)}:aY)}:dE)⟩:aI)) (fun H le=>⟨{z1 with a9:=a0,c9:=c0},J,{m.mono (le.at 5 J) with f9:=(eh.mono (I.mono _) le.o)}⟩) fun aj ek=>?_;cases d7;intro a w b c;refine eF c J ?_;exact ⟨aj,[(1,bE ab 77 ay)],b.selH [0,6] J,_,J,J,ek⟩
    refine eG fG J J J (fun w H k le=>iY (fH (!t.2) 6 bd)) ?_;cases be;intro a w b c;exact ⟨c.defers,V,[_],b.selH [3,3] J,J,J⟩
   have en:=aS h6 hW;refine sk (sq ?_);obtain ⟨x1,h8,er⟩:=L en;have bf:=s.atF h8;obtain ⟨B,eu,b3⟩:=L er;refine eH 11 mixed (by kernel_rfl) J (dC J (E J (nl J J aG) (E J (aR rN J (((sO 1 J).drop 16).take 1) J aG) (dC J (E J (cP eO Z3 J J J J (aT h8) aG) (E J (aR G3 J (P 2 J bf) J aG) (E J (bB GK J (fun w H k le=>HB k (m.f7.mono (I.mono _) le.u) x1 eu) aG) (dC J (E J (ex J J J aG) (E J (ex J J J aG) (E J (a1 J aG) ?_)))))))))));refine DF.nil fun fk g=>(D J (C (A J (nt J J ?_))));obtain ⟨e6,bg,bh⟩:=L b3;rcases e6 with y4|y4
   ·refine bB fG J (fun w H k le=>iX (fH (!B.2) 6 bg)) (N ?_);obtain ⟨G,b6,b9⟩:=L bh;obtain ⟨f5,cd⟩:=aF b9;obtain ⟨cg,ck⟩:=aF cd;obtain ⟨cn,cq⟩:=aF ck;refine lB 11 [4,10] [] mixed (fun _ _ _ _ _ h=>h) (by kernel_rfl) (by kernel_rfl) (by kernel_rfl) J (by kernel_rfl) (.nil) (dA J (A J aG) (dA J (A J aG) (dA J (nl J J aG) (dc J (by kernel_rfl) tv J J (aR rN J (((sO 1 J).drop 16).take 1) J aG) ?_))));refine tS G.length (fun d f=>([(2,S.list d f 3 1 (bP .i64) G),(1,q)]++σr)) J (fun a w K b c g F=>TG.pa b c (wY 2 GM J J J J (fun w V σr b le=>HD (ai:=i.state.division.ayes.e0) (m.f7.mono (I.mono _) le.v) b6 b) fun a6 c5=>F _ _)) fun a6 c5=>?_;refine dA J (A J aG) (dA J (A J aG) (dA J (cP eO Z3 J J J J (aT h8) aG) (dA J (aR G3 J (P 3 J bf) J aG) ?_)))
    refine uT 1 (I (bP .i64)) 1 ([x1]:List Int) (I.mono _) J (bS T12.E33 J J J J fun q1 ak ct ad=>by
      have cx:Sl (I (bP .i64)) 1 ak (some q1) 1 ([x1]:List Int):=Sl.litF (fun _=>J) (fun _=>J) ct ad J J J
      exact rJ (I.mono _) cx) fun fw fz=>?_
    refine tS ((G.take B.1.toNat++([x1]:List Int)++G.drop B.1.toNat).length) (fun d f=>([(2,S.list d f 3 1 (bP .i64) (G.take B.1.toNat++([x1]:List Int)++G.drop B.1.toNat)),(1,q)]++σr)) J (fun a w K b c g F=>TG.pa b c (DO 2 (enc:=(bP .i64)) J (fun _=>J) (fun _=>J) B.1.toNat (xs:=([x1]:List Int)) (l:=G) insM138 GL J J J J J J J J (g.1 J) 0 J (by omega) cg cn fun a2 c1=>F _ _)) fun a2 c1=>?_;refine DC.nil fun fl g=>?_;obtain ⟨_,f6,_,_⟩:=g;refine nl J J (eQ 1 pQ J J J J J J J (N (TG.still 2 J (fun _=>J) fun fm da=>?_)))
    let az:List Value:=((cO i.state z1).set 16 (.slice a2 ((G.take B.1.toNat++([x1]:List Int)++G.drop B.1.toNat).length) c1))
    refine TG.pack (fun K=>aX K az (⟨({i.state with division:=({i.state.division with ayes:=(⟨(G.take B.1.toNat++([x1]:List Int)++G.drop B.1.toNat),i.state.division.ayes.e1⟩:bN)}:aY)}:dE)⟩:aI)) (fun H le=>⟨{z1 with a7:=a2,c7:=c1},J,{m.mono le.x with f7:=(da.mono (I.mono _) le.o)}⟩) fun an dg=>?_;cases cq;intro a w b c;refine eF c J ?_;exact ⟨an,[(1,bE ab 77 az)],b.selH [0,5] J,_,J,J,dg⟩
   refine eG fG J J J (fun w H k le=>iY (fH (!B.2) 6 bg)) ?_;cases bh;intro a w b c;exact ⟨c.defers,V,[_],b.selH [2,2] J,J,J⟩
  have bi:=aS hT hR;by_cases bj:x4=1
  ·have dj:=aJ bj bi;refine oK PD pQ J J J (j:=1) (by omega) (by decide) (D J (sq (C (A J ?_))));obtain ⟨x9,bl,bm⟩:=L dj;have dm:=s.atF bl;refine cP eO Z3 J J J J (aT bl) (aR G3 J (P 1 J dm) J (fZ J J J (N ?_)));refine ci J (fun h9=>?_) (fun h9=>?_)
   ·have dq:=aJ h9 bm;refine eH 8 mixed (by kernel_rfl) J (dC J (dC J (E J (cP eO Z3 J J J J (aT h2) aG) (E J (aR G3 J (P 2 J h5) J aG) (E J (nl J J aG) (E J (aU 0 fD J eT aG) (E J (aU 15 eX J jC aG) (E J (aU 3 lA J IR aG) (DF.nil fun fo g=>(oK PD pQ J J J (j:=1) (by omega) (by decide) (a1 J ?_)))))))))));refine N (sq ?_);obtain ⟨x2,hB,dw⟩:=L dq;have bn:=s.atF hB;obtain ⟨R,d0,d4⟩:=L dw;refine eH 11 mixed (by kernel_rfl) J (dC J (E J (nl J J aG) (E J (aR rN J (((sO 1 J).drop 19).take 1) J aG) (dC J (E J (cP eO Z3 J J J J (aT hB) aG) (E J (aR G3 J (P 3 J bn) J aG) (E J (bB GK J (fun w H k le=>HB k (m.f10.mono (I.mono _) le.v) x2 d0) aG) (dC J (E J (ex J J J aG) (E J (ex J J J aG) (E J (a1 J aG) ?_)))))))))));refine DF.nil fun fp g=>(D J (C (A J (nt J J ?_))));obtain ⟨e7,bo,bp⟩:=L d4;rcases e7 with y5|y5
    ·refine bB fG J (fun w H k le=>iX (fH (!R.2) 6 bo)) (N ?_);obtain ⟨Y,d8,ec⟩:=L bp;obtain ⟨ga,ef⟩:=aF ec;obtain ⟨ei,el⟩:=aF ef;obtain ⟨eo,es⟩:=aF el;refine lB 11 [4,10] [] mixed (fun _ _ _ _ _ h=>h) (by kernel_rfl) (by kernel_rfl) (by kernel_rfl) J (by kernel_rfl) (.nil) (dA J (A J aG) (dA J (A J aG) (dA J (nl J J aG) (dc J (by kernel_rfl) tv J J (aR rN J (((sO 1 J).drop 19).take 1) J aG) ?_))));refine tS Y.length (fun d f=>([(2,S.list d f 3 1 (bP .i64) Y),(1,q)]++σr)) J (fun a w K b c g F=>TG.pa b c (wY 2 GM J J J J (fun w V σr b le=>HD (ai:=i.state.division.noes.e1) (m.f10.mono (I.mono _) le.x) d8 b) fun b0 c6=>F _ _)) fun b0 c6=>?_;refine dA J (A J aG) (dA J (A J aG) (dA J (cP eO Z3 J J J J (aT hB) aG) (dA J (aR G3 J (P 4 J bn) J aG) ?_)))
     refine uT 1 (I (bP .i64)) 1 ([x2]:List Int) (I.mono _) J (bS T12.E33 J J J J fun q2 ao ew af=>by
       have b4:Sl (I (bP .i64)) 1 ao (some q2) 1 ([x2]:List Int):=Sl.litF (fun _=>J) (fun _=>J) ew af J J J
       exact rJ (I.mono _) b4) fun fx f0=>?_
     refine tS ((Y.take R.1.toNat++([x2]:List Int)++Y.drop R.1.toNat).length) (fun d f=>([(2,S.list d f 3 1 (bP .i64) (Y.take R.1.toNat++([x2]:List Int)++Y.drop R.1.toNat)),(1,q)]++σr)) J (fun a w K b c g F=>TG.pa b c (DO 2 (enc:=(bP .i64)) J (fun _=>J) (fun _=>J) R.1.toNat (xs:=([x2]:List Int)) (l:=Y) insM138 GL J J J J J J J J (g.1 J) 0 J (by omega) ei eo fun a3 c2=>F _ _)) fun a3 c2=>?_;refine DC.nil fun fq g=>?_;obtain ⟨_,gb,_,_⟩:=g;refine nl J J (eQ 1 pQ J J J J J J J (N (TG.still 2 J (fun _=>J) fun fr b7=>?_)))
     let ba:List Value:=((cO i.state z1).set 19 (.slice a3 ((Y.take R.1.toNat++([x2]:List Int)++Y.drop R.1.toNat).length) c2))
     refine TG.pack (fun K=>aX K ba (⟨({i.state with division:=({i.state.division with noes:=(⟨i.state.division.noes.e0,(Y.take R.1.toNat++([x2]:List Int)++Y.drop R.1.toNat)⟩:bN)}:aY)}:dE)⟩:aI)) (fun H le=>⟨{z1 with a10:=a3,c10:=c2},J,{m.mono (le.at 5 J) with f10:=(b7.mono (I.mono _) le.o)}⟩) fun ar ca=>?_;cases es;intro a w b c;refine eF c J ?_;exact ⟨ar,[(1,bE ab 77 ba)],b.selH [0,6] J,_,J,J,ca⟩
    refine eG fG J J J (fun w H k le=>iY (fH (!R.2) 6 bo)) ?_;cases bp;intro a w b c;exact ⟨c.defers,V,[_],b.selH [3,3] J,J,J⟩
   have ce:=aS h9 bm;refine sk (sq ?_);obtain ⟨x3,hC,ch⟩:=L ce;have bq:=s.atF hC;obtain ⟨Z,cl,co⟩:=L ch;refine eH 11 mixed (by kernel_rfl) J (dC J (E J (nl J J aG) (E J (aR rN J (((sO 1 J).drop 17).take 1) J aG) (dC J (E J (cP eO Z3 J J J J (aT hC) aG) (E J (aR G3 J (P 2 J bq) J aG) (E J (bB GK J (fun w H k le=>HB k (m.f8.mono (I.mono _) le.u) x3 cl) aG) (dC J (E J (ex J J J aG) (E J (ex J J J aG) (E J (a1 J aG) ?_)))))))))));refine DF.nil fun fs g=>(D J (C (A J (nt J J ?_))));obtain ⟨e8,br,bt⟩:=L co;rcases e8 with y7|y7
   ·refine bB fG J (fun w H k le=>iX (fH (!Z.2) 6 br)) (N ?_);obtain ⟨n,cr,cv⟩:=L bt;obtain ⟨gc,cy⟩:=aF cv;obtain ⟨dd,dh⟩:=aF cy;obtain ⟨dk,dn⟩:=aF dh;refine lB 11 [4,10] [] mixed (fun _ _ _ _ _ h=>h) (by kernel_rfl) (by kernel_rfl) (by kernel_rfl) J (by kernel_rfl) (.nil) (dA J (A J aG) (dA J (A J aG) (dA J (nl J J aG) (dc J (by kernel_rfl) tv J J (aR rN J (((sO 1 J).drop 17).take 1) J aG) ?_))));refine tS n.length (fun d f=>([(2,S.list d f 3 1 (bP .i64) n),(1,q)]++σr)) J (fun a w K b c g F=>TG.pa b c (wY 2 GM J J J J (fun w V σr b le=>HD (ai:=i.state.division.ayes.e1) (m.f8.mono (I.mono _) le.v) cr b) fun b1 cR=>F _ _)) fun b1 cR=>?_;refine dA J (A J aG) (dA J (A J aG) (dA J (cP eO Z3 J J J J (aT hC) aG) (dA J (aR G3 J (P 3 J bq) J aG) ?_)))
    refine uT 1 (I (bP .i64)) 1 ([x3]:List Int) (I.mono _) J (bS T12.E33 J J J J fun q3 aw dr ag=>by
      have dx:Sl (I (bP .i64)) 1 aw (some q3) 1 ([x3]:List Int):=Sl.litF (fun _=>J) (fun _=>J) dr ag J J J
      exact rJ (I.mono _) dx) fun fy f1=>?_
    refine tS ((n.take Z.1.toNat++([x3]:List Int)++n.drop Z.1.toNat).length) (fun d f=>([(2,S.list d f 3 1 (bP .i64) (n.take Z.1.toNat++([x3]:List Int)++n.drop Z.1.toNat)),(1,q)]++σr)) J (fun a w K b c g F=>TG.pa b c (DO 2 (enc:=(bP .i64)) J (fun _=>J) (fun _=>J) Z.1.toNat (xs:=([x3]:List Int)) (l:=n) insM138 GL J J J J J J J J (g.1 J) 0 J (by omega) dd dk fun a4 c3=>F _ _)) fun a4 c3=>?_;refine DC.nil fun ft g=>?_;obtain ⟨_,f2,_,_⟩:=g;refine nl J J (eQ 1 pQ J J J J J J J (N (TG.still 2 J (fun _=>J) fun fu d1=>?_)))
    let bc:List Value:=((cO i.state z1).set 17 (.slice a4 ((n.take Z.1.toNat++([x3]:List Int)++n.drop Z.1.toNat).length) c3))
    refine TG.pack (fun K=>aX K bc (⟨({i.state with division:=({i.state.division with ayes:=(⟨i.state.division.ayes.e0,(n.take Z.1.toNat++([x3]:List Int)++n.drop Z.1.toNat)⟩:bN)}:aY)}:dE)⟩:aI)) (fun H le=>⟨{z1 with a8:=a4,c8:=c3},J,{m.mono le.x with f8:=(d1.mono (I.mono _) le.o)}⟩) fun ax d5=>?_;cases dn;intro a w b c;refine eF c J ?_;exact ⟨ax,[(1,bE ab 77 bc)],b.selH [0,5] J,_,J,J,d5⟩
   refine eG fG J J J (fun w H k le=>iY (fH (!Z.2) 6 br)) ?_;cases bt;intro a w b c;exact ⟨c.defers,V,[_],b.selH [2,2] J,J,J⟩
  have d9:=aS bj bi;cases d9
 refine eG fG J J J (fun w H k le=>iY (fH i.state.open_ 8 bw)) ?_;cases bv;intro a w b c;exact ⟨c.defers,V,[_],b.selH [0,0] J,J,J⟩

theorem aIk {M:Prop} {W w:World} {H V:Hp} {σr:aM} {n:Option Addr} {k:Nat} {ai:List fN} (o:Sl (I eS) 2 V n k ai) {r:List fN} (p:RX ai=some r) (c:St M W H [V] σr w):Calls prog 190 #[.slice n ai.length k] w (fI M W H V σr (fun e K q=>∃ (ad:Option Addr) (cap:Nat),e=.returned (.slice ad r.length cap)∧q=[(1,S.list ad cap 227 2 eS r)])):=by
 refine cV (M:=M) func190 J ntmps190 J c ?_;refine C (D J (sq (C (A J (JO VD J J (N ?_))))));refine cb J (fun d=>?_) (fun d=>?_)
 ·obtain rfl:=Sl.isNil o d;have i:=(aF p).2;refine C (D J (bH (TG.nilRow 1 227 2 ?_)));cases i;intro a w c g;refine dT g J J ?_;exact ⟨_,[(1,S.list none 0 227 2 eS ([]:List fN))],c.selH [0,0] J,_,_,J,J⟩
 refine sk (C (CY 1 eS ([]:List fN) (cs:=[]) T12.E35 J J J J J J fun s=>(A J ?_)));obtain ⟨h,j⟩:=aF p;refine rD 1 (enc:=eS) (l:=([]:List fN)) (m:=ai) T12.E35 J J J J J J o 0 J (fun _=>J) (fun _=>J) J h fun f b=>(D J (bH ?_));cases j;intro a w c g;refine dT g J J ?_;exact ⟨_,[(1,S.list f b 227 2 eS (([]:List fN)++ai))],c.selH [0,0] J,_,_,J,J⟩

theorem aIl (hH:H.le (hp W)) {z:Option Addr} {y:Nat} {bj:List fN} (R:Sl (I eS) 2 H z y bj) {B:List Value} (f:fN) (Y:(I eS) H B f) {r:List fN} (hr:LD bj f=some r):Calls prog 140 #[.slice z bj.length y,.agg B.toArray] W (eY M H W (fun v K=>∃ (d:Option Addr) (b:Nat),v=.slice d r.length b∧Sl (I eS) 2 K d b r)):=by
 obtain rfl:=Y;refine aK (M:=M) func140 J ntmps140 J hH ?_;refine C (bI J J J fun q1 K2 o=>(D J (sq ?_)));obtain ⟨x,q,p⟩:=L hr;refine lB 4 [1] [] mixed (fun _ _ _ _ _ h=>h) (by kernel_rfl) (by kernel_rfl) (by kernel_rfl) J (by kernel_rfl) (.nil) (dA J (A J aG) (tS x.length (fun s t=>[(1,S.list s t 227 2 eS x)]) J (fun a w K c g n F=>TG.pa c g (wY 1 aD9 J J J J (fun w V σr c le=>aIk (ai:=bj) (R.mono (I.mono _) le.u) q c) fun k e=>F _ _)) fun k e=>(dA J (cM TH yH J J (P 1 J o) J aG) ?_)))
 refine uTf 1 (I eS) 2 ([f]:List fN) (I.mono _) J (fun τ a w K c g n=>TG.pa c g (bS T12.E35 J J J J fun q9 j Z i=>by
   have h1:Sl (I eS) 2 j (some q9) 1 ([f]:List fN):=Sl.litF (fun _=>J) (fun _=>J) Z i J J J
   exact rJ (I.mono _) h1)) fun a0 c0=>?_
 refine DC.nil fun G n=>?_;obtain ⟨h2,_,_⟩:=n;obtain ⟨h3,h4⟩:=aF p;refine rD 1 (enc:=eS) (l:=x) (m:=([f]:List fN)) T12.E35 J J J J J J h2 0 J (fun _=>J) (fun _=>J) J h3 fun a2 c1=>(D J (bH ?_));cases h4;intro a w c g;refine dT g J J ?_;exact ⟨⟨_,_,J,(c.listOut 1 J (fun _=>J))⟩,c.ext⟩

theorem w93 {M:Prop} {W w:World} {H V:Hp} {σr:aM} {h:Nat} {q:List Value} (c:aI) (au:aX V q c) {G:Option Addr} {F:Nat} {bz:List Int} (s:Sl (I (bP .i64)) 1 V G F bz) (R:aE) {r:aI⊕Int} (hr:LE c bz R=some r) (d:St M W H [V] ((1,bE h 77 q)::σr) w):Calls prog 93 #[.pointer (some ⟨h,0,none⟩),.slice G bz.length F,.string (bs R)] w (fI M W H V σr (sC (fun y e K A'=>∃ (Y:List Value),e=.returned (.tuple #[])∧A'=[(1,bE h 77 Y)]∧aX K Y y) (fun u=>.iface 155 (.agg #[.int .i64 u])) [(1,bE h 77 q)] r)):=by
 obtain ⟨f,rfl,b⟩:=au;refine cV (M:=M) func93 J ntmps93 J d ?_;refine C (A J (nl J J (aU 0 fD J eT (aU 26 eX J Z4 (aR G4 J (((sO 1 J).drop 26).take 1) J ?_)))));obtain ⟨r3,m,l⟩:=L hr;rcases r3 with y6|y6
 ·refine bB fG J (fun w H v le=>iX (fH c.state.open_ 8 m)) (N (C (A J (nl J J (aU 0 fD J eT (aU 15 eX J jC (cM pO jC J J (((sO 1 J).drop 15).take 11) J (al 2 zeroValue38 J J fun b8=>(eQ 2 jC J J J J J J J (N ?_))))))))));refine sq ?_;obtain ⟨x9,t,h7⟩:=L l;obtain ⟨p0,rfl⟩:=s.adr t;have h8:=s.atF t;obtain ⟨x0,Z,h9⟩:=L h7;have hB:=s.atF Z;refine eH 9 mixed (by kernel_rfl) J (E J (aU 5 lA J VA aG) (E J (aR G35 J (((sO 2 J).drop 5).take 1) J aG) (dC J (E J (cP eO Z3 J J J J (aT t) aG) (E J (aR G3 J (P 1 J h8) J aG) (dC J (E J (cP eO Z3 J J J J (aT Z) aG) (E J (aR G3 J (P 1 J hB) J aG) (E J (bu T12.B227 J J J aG) (DF.nil fun aa hF=>?_))))))))));obtain ⟨x,hC,hE⟩:=L h9;refine gW aDm J J J J (fun w H v le=>aIl v (b.f11.mono (I.mono _) le.i) (⟨x9,x0⟩:fN) J hC) ?_;rintro v_ ad ⟨a0,c0,rfl,h2⟩;refine aU 5 lA J VA (eQ 2 VA J J J J J J J (N (rg (A J (cM pO jC J J (sO 2 J) J ?_)))));obtain ⟨r1,h3,h4⟩:=L hE
  let j:aM:=([(2,bE b8 38 [.int .i64 c.state.division.members,.slice f.a7 c.state.division.ayes.e0.length f.c7,.slice f.a8 c.state.division.ayes.e1.length f.c8,.slice f.a9 c.state.division.noes.e0.length f.c9,.slice f.a10 c.state.division.noes.e1.length f.c10,.slice a0 x.length c0,.slice f.a12 c.state.division.proxies.length f.c12,.int .u8 c.state.division.rule,.int .i64 c.state.division.need,.int .i64 c.state.division.quorum,.int .u8 c.state.division.tie])]++σr)
  let k:aM:=[(1,bE h 77 (cO c.state f))]
  rcases r1 with n|n
  ·refine TG.front 1 J ?_;refine qP k (B:=j) J MP J J J J (fun w V d le=>NI c ⟨f,J,{b.mono le.u with f0:=(b.f0.mono (bW.mono) le.u)}⟩ ({c.state.division with pairs:=x}:aY) ⟨⟨_,_,_,_,_,_,_,_,_,_,_,_⟩,J,⟨(b.f7.mono (I.mono _) le.u),(b.f8.mono (I.mono _) le.u),(b.f9.mono (I.mono _) le.u),(b.f10.mono (I.mono _) le.u),(h2.mono (I.mono _) le.o),(b.f12.mono (I.mono _) le.u)⟩⟩ h3 d) ?_;rintro e_ af A_ a w ⟨c1,rfl,rfl,h5⟩ d g;refine wD (fB J g d ?_);have hI:=h5;obtain ⟨z,rfl,h6⟩:=h5;refine N (TG.del 2 (TG.pack (fun K=>aX K (cO n.state z) n) (fun H le=>⟨z,J,{h6.mono le.o with f0:=(h6.f0.mono (bW.mono) le.o)}⟩) fun p hG=>?_));cases h4;intro a w d g;refine eF g J ?_;exact ⟨p,[(1,bE h 77 (cO n.state z))],d.selH [0,4] J,_,J,J,hG⟩
  refine TG.front 1 J ?_;refine qP k (B:=j) J MP J J J J (fun w V d le=>NI c ⟨f,J,{b.mono le.u with f0:=(b.f0.mono (bW.mono) le.u)}⟩ ({c.state.division with pairs:=x}:aY) ⟨⟨_,_,_,_,_,_,_,_,_,_,_,_⟩,J,⟨(b.f7.mono (I.mono _) le.u),(b.f8.mono (I.mono _) le.u),(b.f9.mono (I.mono _) le.u),(b.f10.mono (I.mono _) le.u),(h2.mono (I.mono _) le.o),(b.f12.mono (I.mono _) le.u)⟩⟩ h3 d) ?_;rintro e_ ag A_ a w ⟨rfl,rfl⟩ d g;refine QR ?_;revert d g;revert w;revert a;refine (?_:TG _ _ _ _ _);refine TG.del 2 ?_;cases h4;intro a w d g;exact ⟨g.defers,V,[_],d.selH [3,3] J,J,J⟩
 refine eG fG J J J (fun w H v le=>iY (fH c.state.open_ 8 m)) ?_;cases l;intro a w d g;exact ⟨g.defers,V,[_],d.selH [0,0] J,J,J⟩

theorem aIm (B:H.le (hp W)) {l:Option Addr} {k:Nat} {ai:List Int} (d:Sl (I (bP .i64)) 1 H l k ai) (m:Int) {r:Int} (F:LF ai m=some r):Calls prog 231 #[.slice l ai.length k,.int .i64 m] W (bJ M W (.int .i64 r)):=by
 have:=d.len;refine aK (M:=M) func231 J ntmps231 J B ?_;refine C (D J (sq (C (A J (dU eO J J (A J (N ?_)))))));obtain ⟨e,t,n⟩:=L F;refine jn (fun a w=>∃ s,e=.inl s∧SJ M W H [H] [] 19 [] a w) ?_ ?_
 ·refine bk ?_;refine jO [0,1,7] J t (fun G q=>(8,.int .i64 (q:Int))::G) ?_ ?_
  ·exact cuE J
  intro j q V o f;refine C (dS J J J (N (sq ?_)));refine ci J (fun g=>?_) (fun g=>?_)
  ·have u:=aJ g o;refine sk (sq (bk (C (A J (D J (C (A J (A J ?_))))))));refine A J ?_;obtain ⟨R,h,p⟩:=L u;obtain ⟨K,rfl⟩:=d.adr h;have v:=d.atF h;refine cP eO Z3 J J J J (aT h) (aR G3 J (P 0 J v) J (fZ J J J (N ?_)));refine ci J (fun i=>?_) (fun i=>?_)
   ·have x:=aJ i p;refine C (A J (D J (bH ?_)));cases x;obtain rfl:=dF.out f;cases n;exact cK J J
   have y:=aS i p;refine sk (rg (dN J J J (by omega) (A J (N ?_))));cases y;intro a w c b;exact ⟨_,f,c,b.cuE J⟩
  have z:=aS g o;refine xt J ?_;cases z;obtain rfl:=dF.out f;intro a w c b;exact ⟨_,J,c,b.cut tv⟩
 rintro a w ⟨s,rfl,c,b⟩;apply TG.ap ?_ c b;refine C (D J (bH ?_));cases n;exact cK J J

theorem HE (c:H.le (hp W)) {g:Option Addr} {f:Nat} {ai:List Int} (h:Sl (I (bP .i64)) 1 H g f ai) (b:Int) {r:Bool} (i:rM ai b=some r):Calls prog 175 #[.slice g ai.length f,.int .i64 b] W (bJ M W (.bool r)):=by
 refine aK (M:=M) func175 J ntmps175 J c ?_;refine C (D J (C (A J (A J ?_))));obtain ⟨j,e,d⟩:=L i;refine bB aEt J (fun w H c le=>aIm c (h.mono (I.mono _) le.o) b e) (pW J J J (D J (bH ?_)));cases d;exact cK J J

theorem ZI (c:H.le (hp W)) {l:List Value} (lobby:bN) (m:(iU) H l lobby) (member:Int) {r:Int} (V:EZ lobby member=some r):Calls prog 333 #[.agg l.toArray,.int .i64 member] W (bJ M W (.int .i64 r)):=by
 have b:=m;obtain ⟨p,j,q,k,rfl,g,h⟩:=m;refine aK (M:=M) func333 J ntmps333 J c ?_;refine C (bI J J J fun Z Y f=>(D J (sq (C (cM G34 IR J J (P 0 J f) J (A J (N (bk ?_))))))));refine lR 3 (rd (C (dS J J J (N (sq (cT J ((J:decide ((0:Int)<(2:Int))=true)) (sk (sq (bk (sq ?_))))))))));refine rg (ixA 0 PD pQ rN J J J J (by decide) J (D J (C (A J (A J ?_)))));obtain ⟨r0,s,t⟩:=L V;refine bB GN J (fun w H c le=>HE c (g.mono (I.mono _) le.i) member s) (N ?_);obtain ⟨t39,n,u⟩:=L t;refine eU [1,7,8] [(4,.int .i64 (t39:Int))] J ?_ ?_
 ·refine cb J (fun d=>?_) (fun d=>?_)
  ·have v:=aJ d n;refine rg (A J (dN J J J (by omega) (D J ?_)));cases v;exact cuE J
  have x:=bK d n;refine sk ?_;cases x;exact cuE J
 refine rg (dN J J J (by omega) (A J (N (rd (C (dS J J J (N (sq (cT J ((J:decide ((1:Int)<(2:Int))=true)) (sk ?_))))))))));refine sq (bk (C (ixA 1 PD pQ rN J J J J (by decide) J (D J (C (A J (A J ?_)))))));obtain ⟨r1,y,z⟩:=L u;refine bB GN J (fun w H c le=>HE c (h.mono (I.mono _) le.i) member y) (N ?_);obtain ⟨t62,o,B⟩:=L z;refine eU [1,7,8] [(4,.int .i64 (t62:Int))] J ?_ ?_
 ·refine cb J (fun e=>?_) (fun e=>?_)
  ·have F:=aJ e o;refine rg (A J ?_);obtain ⟨G,K⟩:=aF F;refine dN J J J G (D J ?_);cases K;exact cuE J
  have R:=bK e o;refine sk ?_;cases R;exact cuE J
 refine rg (dN J J J (by omega) (A J (N (rd (C (dS J J J (N (sq (cF J ((J:decide ((2:Int)<(2:Int))=false)) (xt J ?_))))))))));refine C (A J (D J (bH ?_)));cases B;exact cK J J

theorem aIn (j:H.le (hp W)) {cc:List Value} (o:aY) (co:(bU) H cc o) (member:Int) {r:List UInt8} (hr:LG o member=some r):Calls prog 313 #[.agg cc.toArray,.int .i64 member] W (eY M H W (fun v K=>∃ (i:Option Addr) (e:Nat),v=.slice i r.length e∧Sl (I cH) 1 K i e r)):=by
 have s:=co;obtain ⟨z1,rfl,d⟩:=co;refine aK (M:=M) func313 J ntmps313 J j ?_;refine C (bI J J J fun q3 t k=>(D J (sq ?_)));obtain ⟨r6,aj,ai⟩:=L hr;refine eH 7 mixed (by kernel_rfl) J (E J (aU 1 lA J IR aG) (E J (cM G34 IR J J (((P 1 J k).drop 1).take 2) J aG) (dC J (E J (bB YK J (fun w H j le=>ZI j o.ayes ⟨_,_,_,_,J,(d.f0.mono (I.mono _) le.u),(d.f1.mono (I.mono _) le.u)⟩ member aj) aG) (E J (aU 3 lA J IR aG) (E J (cM G34 IR J J (((P 1 J k).drop 3).take 2) J aG) (dC J (DF.nil fun x hF=>?_))))))));obtain ⟨r10,hE,hG⟩:=L ai;refine bB YK J (fun w H j le=>ZI j o.noes ⟨_,_,_,_,J,(d.f2.mono (I.mono _) le.u),(d.f3.mono (I.mono _) le.u)⟩ member hE) (a1 J (D J (C (D J (sq (sq ?_))))));obtain ⟨t1,h6,hI⟩:=L hG;refine eU [5,6,7] [(21,.bool t1)] J ?_ ?_
 ·refine rg (A J (dS J J J (A J ?_)));by_cases f:r6<2
  ·have hJ:=aJ f h6;refine gt f J (A J (gt f J (dS J J J (pt f J J (N ?_)))));cases hJ;exact cuE J
  have hK:=aS f h6;refine cC 2 J J J (decide_eq_false f) J (pf f J J (N ?_));cases hK;exact cuE J
 refine TG.nilRow 2 5 1 ?_;obtain ⟨t38,h7,hL⟩:=L hI;refine gG [5,6] J (fun l_ a w=>∃ (m:Option Addr) (p:Nat),SJ M W H [x,t,H] [(2,S.list m p 5 1 cH t38)] 44 ((7,.slice m t38.length p)::l_) a w) ?_ ?_
 ·refine cb J (fun F=>?_) (fun F=>?_)
  ·have hM:=aJ F h7;refine rg (A J ?_);obtain ⟨hN,hO⟩:=aF hM;refine wO 2 cH (l:=([]:List UInt8)) (0:UInt8) T12.E39 J J J J J J J J J J J J hN fun a4 c3 u0=>(D J ?_);cases hO;intro a w b c;exact ⟨a4,c3,b,c.cuE J⟩
  have hP:=bK F h7;refine sk (TG.as 2 (z:=S.list none 0 5 1 cH ([]:List UInt8)) J J ?_);cases hP;intro a w b c;exact ⟨none,0,b,c.cuE J⟩
 rintro a w ⟨m,p,b,c⟩;refine TG.ap ?_ b c;refine sq (sq ?_);obtain ⟨t2,h8,hR⟩:=L hL;refine eU [5,6,7] [(30,.bool t2)] J ?_ ?_
 ·refine rg (A J (lL J J J (A J ?_)));by_cases g:0<r6
  ·have hT:=aJ g h8;refine gt g J (A J (gt g J (dS J J J (pt g J J (N ?_)))));cases hT;exact cuE J
  have hV:=aS g h8;refine cC 2 J J J (decide_eq_false g) J (pf g J J (N ?_));cases hV;exact cuE J
 obtain ⟨t68,h9,hW⟩:=L hR;refine gG [5,6] J (fun l_ a w=>∃ (n:Option Addr) (q:Nat),SJ M W H [x,t,H] [(2,S.list n q 5 1 cH t68)] 44 ((7,.slice n t68.length q)::l_) a w) ?_ ?_
 ·refine cb J (fun G=>?_) (fun G=>?_)
  ·have hX:=aJ G h9;refine rg (A J ?_);obtain ⟨V,Y⟩:=aF hX;refine wO 2 cH (l:=t38) (1:UInt8) T12.E39 J J J J J J J J J J J J V fun a5 c4 u1=>(D J ?_);cases Y;intro a w b c;exact ⟨a5,c4,b,c.cuE J⟩
  have Z:=bK G h9;refine sk ?_;cases Z;intro a w b c;exact ⟨m,p,b,c.cuE J⟩
 rintro a w ⟨n,q,b,c⟩;refine TG.ap ?_ b c;refine sq (sq ?_);obtain ⟨t84,hB,aa⟩:=L hW;refine eU [7] [(39,.bool t84)] J ?_ ?_
 ·refine rg (A J (lL J J J (A J ?_)));by_cases h:0<r10
  ·have ab:=aJ h hB;refine gt h J (A J (gt h J (dS J J J (pt h J J (N ?_)))));cases ab;exact cuE J
  have ac:=aS h hB;refine cC 2 J J J (decide_eq_false h) J (pf h J J (N ?_));cases ac;exact cuE J
 obtain ⟨t0,hC,ad⟩:=L aa;refine jn (fun a w=>∃ (y:Option Addr) (B:Nat),SJ M W H [x,t,H] [(2,S.list y B 5 1 cH t0)] 44 [(7,.slice y t0.length B)] a w) ?_ ?_
 ·refine cb J (fun R=>?_) (fun R=>?_)
  ·have ae:=aJ R hC;refine rg (A J ?_);obtain ⟨af,ag⟩:=aF ae;refine wO 2 cH (l:=t68) (2:UInt8) T12.E39 J J J J J J J J J J J J af fun a6 c5 u2=>(D J ?_);cases ag;intro a w b c;exact ⟨a6,c5,b,c.cuE J⟩
  have ah:=bK R hC;refine sk ?_;cases ah;intro a w b c;exact ⟨n,q,b,c.cuE J⟩
 rintro a w ⟨y,B,b,c⟩;refine TG.ap ?_ b c;refine C (A J (D J (bH ?_)));cases ad;intro a w b c;refine dT c J J ?_;exact ⟨⟨_,_,J,(b.listOut 2 J (fun _=>J))⟩,b.ext⟩

theorem aIo (hH:H.le (hp W)) {cc:List Value} (d:aY) (co:(bU) H cc d) {r:dG} (hr:LH d=some r):Calls prog 281 #[.agg cc.toArray] W (eY M H W (fun v K=>∃ (ah:List Value),v=.agg ah.toArray∧(fF) K ah r)):=by
 have F:=co;obtain ⟨⟨ae,G,af,R,ag,V,a2,c1,a4,c2,a3,c3⟩,rfl,⟨aw,ax,ay,hG,h1,hI⟩⟩:=co;have:=h1.len;refine aK (M:=M) func281 J ntmps281 J hH ?_
 let g:List Value:=[.int .i64 d.members,.slice ae d.ayes.e0.length G,.slice af d.ayes.e1.length R,.slice ag d.noes.e0.length V,.slice a2 d.noes.e1.length c1,.slice a4 d.pairs.length c2,.slice a3 d.proxies.length c3,.int .u8 d.rule,.int .i64 d.need,.int .i64 d.quorum,.int .u8 d.tie]
 let aa:List Value:=[.int .i64 0,.slice none 0 0,.slice none 0 0,.slice none 0 0,.slice none 0 0,.slice none 0 0,.slice none 0 0,.int .u8 0,.int .i64 0,.int .i64 0,.int .u8 0]
 refine C (bI (cs:=g) J J J fun q0 B m=>(al 1 (cs:=(gE (gE aa (bM bF.zero)) (kB (List.replicate 40 ((none,0):gD)) (List.replicate 40 ([]:List UInt8))))) zeroValue271 J J fun b1=>(N (C (cM pO jC J J (P 0 J m) J (bu (cs:=(gE (gE g (bM bF.zero)) (kB (List.replicate 40 ((none,0):gD)) (List.replicate 40 ([]:List UInt8))))) T12.B271 J J J (al 2 (cs:=(gE (gE aa (bM bF.zero)) (kB (List.replicate 40 ((none,0):gD)) (List.replicate 40 ([]:List UInt8))))) zeroValue271 J J fun b0=>(wZ 2 (cs:=(gE (gE g (bM bF.zero)) (kB (List.replicate 40 ((none,0):gD)) (List.replicate 40 ([]:List UInt8))))) jD J J J J (gX J (kX.zero (I cH) 1 40 H).len J) (by repeat (first|apply rI|exact qR _ _|rfl)) (gX J (kX.zero (I cH) 1 40 H).len J) (N ?_)))))))));refine sq (C (aU 5 lA J VA (aR G35 J (((P 0 J m).drop 5).take 1) J (dU VD J J (A J (N ?_))))));obtain ⟨s,hJ,hK⟩:=L hr
 let q:S:=bE b1 271 (gE (gE aa (bM bF.zero)) (kB (List.replicate 40 ((none,0):gD)) (List.replicate 40 ([]:List UInt8))))
 refine gG [1,2,3] J (fun l_=>SJ M W H [B,H] [(2,bE b0 271 (gE (gE g (bM s)) (kB (List.replicate 40 ((none,0):gD)) (List.replicate 40 ([]:List UInt8))))),(1,q)] 38 l_) ?_ ?_
 ·refine bk ?_;refine jZ [1,2,3,10,11] J hJ (fun l_ Y=>SJ M W H [B,H] [(2,bE b0 271 (gE (gE g (bM Y.2)) (kB (List.replicate 40 ((none,0):gD)) (List.replicate 40 ([]:List UInt8))))),(1,q)] 38 ((12,.int .i64 (Y.1:Int))::l_)) ?_ ?_
  ·exact cuE J
  rintro j Y y0 h8 h9 a w ⟨c,f⟩;refine TG.ap ?_ c f;refine C (dS J J J (N (sq ?_)));refine ci J (fun h5=>?_) (fun h5=>?_)
  ·have hL:=aJ h5 h8;refine sk (sq (bk (C ?_)));obtain ⟨z,h6,hM⟩:=L hL;obtain ⟨p0,rfl⟩:=h1.adr h6;have hN:=h1.atF h6;refine cP VD yH J J J J (aT h6) (cM TH yH J J (P 1 J hN) J (va (cs:=[.int .i64 z.a,.int .i64 z.b]) zeroValue227 yH J J J J J J J J fun q1 az y=>(N ?_)));obtain ⟨a8,hO⟩:=aF hM;obtain ⟨a9,hP⟩:=aF hO;have h2:z.a.toNat<40:=by omega
   let Z:List Value:=[.int .i64 d.members,.slice ae d.ayes.e0.length G,.slice af d.ayes.e1.length R,.slice ag d.noes.e0.length V,.slice a2 d.noes.e1.length c1,.slice (some p0) d.pairs.length c2,.slice a3 d.proxies.length c3,.int .u8 d.rule,.int .i64 d.need,.int .i64 d.quorum,.int .u8 d.tie]
   refine lB 8 [6] [] mixed (fun _ _ _ _ _ h=>h) (by kernel_rfl) (by kernel_rfl) (by kernel_rfl) J (by kernel_rfl) (.nil) (dA J (aU 0 rQ J Z3 aG) (dA J (aR G3 J ((P 1 J y).take 1) J aG) (dA J (aU 1 rQ J Z3 aG) (dA J (aR G3 J ((P 1 J y).drop 1) J aG) (dA J (aU 11 jA J GV aG) (DC.detA J J J (fun τ a w K c f hF=>TG.pa c f (oK GY Z4 J J J (j:=z.a.toNat) (by omega) h2 aG)) (DC.turnN [(2,bE b0 271 (gE (gE Z (bM (bF.set Y.2 z.a.toNat true))) (kB (List.replicate 40 ((none,0):gD)) (List.replicate 40 ([]:List UInt8))))),(1,q)] J J J (fun a w K c f hF=>TG.pa c f (vC 2 Z (gE (bM Y.2) (kB (List.replicate 40 ((none,0):gD)) (List.replicate 40 ([]:List UInt8)))) (j:=z.a.toNat) Z4 J J J J J (WS h2) (OM h2 (bF.st (x:=Y.2) h2)) QJ)) (dA J (aU 11 jA J GV aG) (DC.nil fun a6 hF=>?_)))))))));obtain ⟨ba,hR⟩:=aF hP;obtain ⟨bb,hT⟩:=aF hR;have h3:z.b.toNat<40:=by omega
   refine oK GY Z4 J J J (j:=z.b.toNat) (by omega) h3 (vC 2 Z (gE (bM (bF.set Y.2 z.a.toNat true)) (kB (List.replicate 40 ((none,0):gD)) (List.replicate 40 ([]:List UInt8)))) (j:=z.b.toNat) Z4 J J J J J (WS h3) (OM h3 (bF.st (x:=(bF.set Y.2 z.a.toNat true)) h3)) (N (rg (dN J J J (by omega) (A J (N ?_))))));cases hT;intro a w c f;exact ⟨_,h9,c.selH [2,3] J,f.cuE J⟩
  have hV:=aS h5 h8;refine xt J ?_;cases hV;obtain rfl:=dF.out h9;exact cuE J
 rintro a w ⟨c,f⟩;apply TG.ap ?_ c f;refine sq (C (aU 0 lA J Z3 (aR G3 J ((P 0 J m).take 1) J (A J (N ?_)))));obtain ⟨ab,hW,hX⟩:=L hK;refine gG [2,3] J (fun l_ a w=>∃ (h4:List gD) (p:Hp),St M W H [p,B,H] [(2,bE b0 271 (gE (gE g (bM s)) (kB h4 ab))),(1,q)] w∧bQ [] 38 a l_∧kX (I cH) 1 40 p h4 ab) ?_ ?_
 ·refine bk ?_;refine jZ [1,2,3,26] J hW (fun l_ n a w=>∃ (h0:List gD) (l:Hp),St M W H [l,B,H] [(2,bE b0 271 (gE (gE g (bM s)) (kB h0 n.2))),(1,q)] w∧bQ [] 38 a ((27,.int .i64 (n.1:Int))::l_)∧kX (I cH) 1 40 l h0 n.2) ?_ ?_
  ·intro a w c f;exact ⟨(List.replicate 40 ((none,0):gD)),H,c.selH [1,0,1] J,f.cuE J,(kX.zero _ _ _ _)⟩
  rintro j n y1 hB hC a w ⟨h0,l,c,f,e⟩;refine TG.ap ?_ c f;refine C (dS J J J (N (sq ?_)));refine ci J (fun h7=>?_) (fun h7=>?_)
  ·have ai:=aJ h7 hB;refine sk (sq (bk (C (A J (D J (rg (A J (cM pO jC J J (P 1 J m) J (A J ?_)))))))));obtain ⟨r0,aj,ak⟩:=L ai;refine gW aFy J J J J (fun w H hH le=>aIn hH d (bU.mono _ _ _ _ le.u F) (n.1:Int) aj) ?_;rintro v_ a7 ⟨a0,c0,rfl,am⟩;refine aU 51 jA J BJ ?_;obtain ⟨x1,an,ao⟩:=L ak;obtain ⟨a5,c4,hE,bc,bd⟩:=e.at2 an;refine oK BO BL J J J (j:=n.1) J hE (TG.pack (fun K=>kX (I cH) 1 40 K (h0.set n.1 (a0,c0)) (n.2.set n.1 r0)) (fun H le=>(e.mono (I.mono _) le.i).set n.1 (am.mono (I.mono _) le.o)) fun ad ac=>(vC 2 (gE g (bM s)) (kB h0 n.2) (j:=n.1) BL J J J J J (Nat.lt_of_lt_of_eq hE e.len.symm) (e.cset n.1 a0 c0 r0) (N (rg ?_))));obtain ⟨aq,ar⟩:=aF ao;refine dN J J J aq (A J (N ?_));cases ar;intro a w c f;exact ⟨_,hC,(h0.set n.1 (a0,c0)),ad,c.selH [0,3,4] J,f.cuE J,ac⟩
  have au:=aS h7 hB;refine xt J ?_;cases au;obtain rfl:=dF.out hC;intro a w c f;exact ⟨h0,l,c,f.cuE J,e⟩
 rintro a w ⟨h4,p,c,f,k⟩;apply TG.ap ?_ c f;refine C (cM nV jD J J (sO 2 J) (gX J k.len J) (wZ 1 (cs:=(gE (gE g (bM s)) (kB h4 ab))) jD J J J J (gX J k.len J) (by repeat (first|apply rI|exact qR _ _|rfl)) (gX J (kX.zero (I cH) 1 40 H).len J) (N (bH ?_))));cases hX;intro a w c f;refine wC f J (cU.cell J (fK nV jD (cW (c.get (t:=1) J)) (gX J k.len J))) ?_;exact ⟨⟨_,J,⟨_,_,_,_,_,_,_,_,_,_,_,_,_,J,(aw.mono (I.mono _) (c.grow 2 J)),(ax.mono (I.mono _) (c.grow 2 J)),(ay.mono (I.mono _) (c.grow 2 J)),(hG.mono (I.mono _) (c.grow 2 J)),(h1.mono (I.mono _) (c.grow 2 J)),(hI.mono (I.mono _) (c.grow 2 J)),(k.mono (I.mono _) (c.grow 0 J))⟩⟩,c.ext⟩

theorem aIp (hH:H.le (hp W)) {s:List Value} (n:dG) (t:(fF) H s n) {r:Int×Bool} (hr:LI n=some r):Calls prog 282 #[.agg s.toArray] W (bJ M W (.tuple #[.int .i64 r.1,.bool r.2])):=by
 have f:=t;obtain ⟨x,o,y,p,z,q,a0,c0,a2,c1,a3,c2,hJ,rfl,aa,ab,ac,hK,hL,hM,e⟩:=t;refine aK (M:=M) func282 J ntmps282 J hH ?_;refine C (bI J J J fun q0 g b=>(a1 J (D J (sc (sq (lb (sq (C ?_))))))));refine aU 0 jA J jC (aU 0 lA J Z3 (aR G3 J ((P 0 J b).take 1) J (A J (N ?_))));obtain ⟨d,B,F⟩:=L hr;refine jn (SJ M W H [g,H] [] 21 [(2,.int .i64 (d.1:Int)),(3,.bool d.2)]) ?_ ?_
 ·refine bk ?_;refine jO [1,7] J B (fun l_ c=>(2,.int .i64 (c.1:Int))::(3,.bool c.2.2)::(8,.int .i64 (c.2.1:Int))::l_) ?_ ?_
  ·exact cuE J
  intro j c y0 u h;refine C (dS J J J (N (sq ?_)));refine ci J (fun i=>?_) (fun i=>?_)
  ·have G:=aJ i u;refine sk (sq (bk (C (A J (D J (C (A J (aU 51 jA J BJ ?_))))))));obtain ⟨x0,K,v⟩:=L G;obtain ⟨a4,c3,R,V,hN⟩:=e.at2 K;refine oK BO BL J J J (j:=c.2.1) J R (aR CD J (P 0 J ((b.drop 51).arr c.2.1 V)) J (dU mB J J (fZ J J J (N ?_))));refine ci J (fun k=>?_) (fun k=>?_)
   ·have Y:=aJ k v;refine C (A J (a1 J (D J (xt J ?_))));cases Y;obtain rfl:=dF.out h;exact cuE J
   have Z:=aS k v;refine sk (rg ?_);obtain ⟨hF,hG⟩:=aF Z;refine dN J J J hF (A J (N ?_));cases hG;intro a w m l;exact ⟨_,h,m,l.cuE J⟩
  have hI:=aS i u;refine xt J ?_;cases hI;obtain rfl:=dF.out h;exact cuE J
 rintro a w ⟨m,l⟩;apply TG.ap ?_ m l;refine C (A J (A J (a1 J (D J (bH ?_)))));cases F;exact qS J J J

theorem aIq (h:H.le (hp W)) {u:List Value} (j:aY) (x:(bU) H u j) {r:dG×Int} (hr:LJ j=some r):Calls prog 236 #[.agg u.toArray] W (eY M H W (fun v K=>∃ (l:List Value),v=.tuple #[.agg l.toArray,.int .i64 r.2]∧(fF) K l r.1)):=by
 have e:=x;obtain ⟨z1,rfl,aa⟩:=x;refine aK (M:=M) func236 J ntmps236 J h ?_
 let f:List Value:=[.int .i64 0,.slice none 0 0,.slice none 0 0,.slice none 0 0,.slice none 0 0,.slice none 0 0,.slice none 0 0,.int .u8 0,.int .i64 0,.int .i64 0,.int .u8 0]
 refine C (bI (cs:=(iK j z1)) J J J fun q3 K4 n=>(al 1 (cs:=(gE (gE f (bM bF.zero)) (kB (List.replicate 40 ((none,0):gD)) (List.replicate 40 ([]:List UInt8))))) zeroValue271 J J fun b6=>(D J (sq (C (cM pO jC J J (P 0 J n) J ?_))))));obtain ⟨r7,s,p⟩:=L hr;refine bB XZ J (fun w H h le=>ZG h j (bU.mono _ _ _ _ le.i e) s) (nt J J (N ?_));refine cb J (fun h0=>?_) (fun h0=>?_)
 ·replace h0:=oI h0
  have h5:=bK h0 p;refine C (bu (cs:=(gE (gE f (bM bF.zero)) (kB (List.replicate 40 ((none,0):gD)) (List.replicate 40 ([]:List UInt8))))) T12.B271 J J J (wZ 1 (cs:=(gE (gE f (bM bF.zero)) (kB (List.replicate 40 ((none,0):gD)) (List.replicate 40 ([]:List UInt8))))) jD J J J J (gX J (kX.zero (I cH) 1 40 H).len J) (by repeat (first|apply rI|exact qR _ _|rfl)) (gX J (kX.zero (I cH) 1 40 H).len J) (D J (bH ?_))));cases h5;intro a w d m;refine OB m J (cU.cell J (fK nV jD (cW (d.get (t:=1) J)) (gX J (kX.zero (I cH) 1 40 H).len J))) (cU.tmp J) ?_;exact ⟨⟨_,J,⟨_,_,_,_,_,_,_,_,_,_,_,_,_,J,Sl.o,Sl.o,Sl.o,Sl.o,Sl.o,Sl.o,(kX.zero _ _ _ _)⟩⟩,d.ext⟩
 replace h0:=oJ h0
 have h6:=aJ h0 p;refine sk (C (cM pO jC J J (P 0 J n) J ?_));obtain ⟨c,h7,h8⟩:=L h6;refine gW aFf J J J J (fun w H h le=>aIo h j (bU.mono _ _ _ _ le.i e) h7) ?_;rintro v_ F ⟨c6,rfl,y⟩;have h9:=y;obtain ⟨R,c0,V,c1,Y,c2,Z,c3,a5,c4,a6,c5,z,rfl,hB,hC,hE,hF,hG,hI,b⟩:=y
 let k:List Value:=[.int .i64 c.division.members,.slice R c.division.ayes.e0.length c0,.slice V c.division.ayes.e1.length c1,.slice Y c.division.noes.e0.length c2,.slice Z c.division.noes.e1.length c3,.slice a5 c.division.pairs.length c4,.slice a6 c.division.proxies.length c5,.int .u8 c.division.rule,.int .i64 c.division.need,.int .i64 c.division.quorum,.int .u8 c.division.tie]
 refine va (cs:=(gE (gE k (bM c.paired)) (kB z c.may))) zeroValue271 jD J J J J J J (gX J b.len J) (by repeat (first|apply rI|exact qR _ _|rfl)) fun q43 G g=>(N (sq (C (cM nV jD J J (P 0 J g) (gX J b.len J) ?_))));obtain ⟨r1,hJ,B⟩:=L h8;refine bB aFg J (fun w H h le=>aIp h c (fF.mono _ _ _ _ le.i h9) hJ) (A J (ex J J J (ex J J J (a1 J (D J (C (A J (N ?_))))))));refine cb J (fun q=>?_) (fun q=>?_)
 ·have hK:=aJ q B;refine C (bu (cs:=(gE (gE f (bM bF.zero)) (kB (List.replicate 40 ((none,0):gD)) (List.replicate 40 ([]:List UInt8))))) T12.B271 J J J (wZ 1 (cs:=(gE (gE f (bM bF.zero)) (kB (List.replicate 40 ((none,0):gD)) (List.replicate 40 ([]:List UInt8))))) jD J J J J (gX J (kX.zero (I cH) 1 40 H).len J) (by repeat (first|apply rI|exact qR _ _|rfl)) (gX J (kX.zero (I cH) 1 40 H).len J) (D J (bH ?_))));cases hK;intro a w d m;refine OB m J (cU.cell J (fK nV jD (cW (d.get (t:=1) J)) (gX J (kX.zero (I cH) 1 40 H).len J))) (cU.tmp J) ?_;exact ⟨⟨_,J,⟨_,_,_,_,_,_,_,_,_,_,_,_,_,J,Sl.o,Sl.o,Sl.o,Sl.o,Sl.o,Sl.o,(kX.zero _ _ _ _)⟩⟩,d.ext⟩
 have hL:=bK q B;refine sk (C (cM nV jD J J (P 0 J g) (gX J b.len J) (wZ 1 (cs:=(gE (gE k (bM c.paired)) (kB z c.may))) jD J J J J (gX J b.len J) (by repeat (first|apply rI|exact qR _ _|rfl)) (gX J (kX.zero (I cH) 1 40 H).len J) (D J (bH ?_)))));cases hL;intro a w d m;refine OB m J (cU.cell J (fK nV jD (cW (d.get (t:=1) J)) (gX J b.len J))) (cU.tmp J) ?_;exact ⟨⟨_,J,⟨_,_,_,_,_,_,_,_,_,_,_,_,_,J,(hB.mono (I.mono _) (d.grow 1 J)),(hC.mono (I.mono _) (d.grow 1 J)),(hE.mono (I.mono _) (d.grow 1 J)),(hF.mono (I.mono _) (d.grow 1 J)),(hG.mono (I.mono _) (d.grow 1 J)),(hI.mono (I.mono _) (d.grow 1 J)),(b.mono (I.mono _) (d.grow 1 J))⟩⟩,d.ext⟩

theorem aIr (hH:H.le (hp W)) {V:List Value} (B:dG) (Y:(fF) H V B) {r:List Int} (hr:LK B=some r):Calls prog 237 #[.agg V.toArray] W (eY M H W (fun v K=>∃ (i:Option Addr) (d:Nat),v=.slice i r.length d∧Sl (I (bP .i64)) 1 K i d r)):=by
 have q:=Y;obtain ⟨aa,F,ab,G,ac,R,a5,c4,a6,c5,a7,c6,hN,rfl,ad,ae,af,hO,hP,hR,n⟩:=Y;refine aK (M:=M) func237 J ntmps237 J hH ?_;refine C (bI J J J fun q0 g e=>(D J (sq (C (aU 0 jA J jC (aU 0 lA J Z3 (aR G3 J ((P 0 J e).take 1) J (A J ?_))))))));refine N (TG.nilRow 2 3 1 (TG.as 2 (z:=S.list none 0 3 1 (bP .i64) ([]:List Int)) J J ?_));obtain ⟨m,h5,h6⟩:=L hr;refine jn (fun a w=>∃ (s:Option Addr) (t:Nat),SJ M W H [g,H] [(2,S.list s t 3 1 (bP .i64) m)] 22 [(2,.slice s m.length t)] a w) ?_ ?_
 ·refine bk ?_;refine jZ [1,6] J h5 (fun y f a w=>∃ (h:Option Addr) (k:Nat),SJ M W H [g,H] [(2,S.list h k 3 1 (bP .i64) f.2)] 22 ((2,.slice h f.2.length k)::(7,.int .i64 (f.1:Int))::y) a w) ?_ ?_
  ·intro a w b c;exact ⟨none,0,b,c.cuE J⟩
  rintro j f y0 Z h3 a w ⟨h,k,b,c⟩;refine TG.ap ?_ b c;refine C (dS J J J (N (sq ?_)));refine ci J (fun u=>?_) (fun u=>?_)
  ·have h7:=aJ u Z;refine sk (sq (bk (C (A J (D J (C (A J (aU 51 jA J BJ ?_))))))));obtain ⟨x0,h8,h9⟩:=L h7;obtain ⟨a8,c7,hB,hC,hT⟩:=n.at2 h8;refine oK BO BL J J J (j:=f.1) J hB (aR CD J (P 0 J ((e.drop 51).arr f.1 hC)) J (dU mB J J (lL J J J (N ?_))));obtain ⟨t164,h4,hE⟩:=L h9;refine gG [1,6,7] J (fun y a w=>∃ (o:Option Addr) (p:Nat),SJ M W H [g,H] [(2,S.list o p 3 1 (bP .i64) t164)] 22 ((2,.slice o t164.length p)::y) a w) ?_ ?_
   ·refine ci J (fun x=>?_) (fun x=>?_)
    ·have hF:=aJ x h4;refine rg (A J (A J ?_));obtain ⟨hG,hI⟩:=aF hF;refine wO 2 (bP .i64) (l:=f.2) (f.1:Int) T12.E33 J J J J J J J J J J J J hG fun a4 c3 u0=>(D J ?_);cases hI;intro a w b c;exact ⟨a4,c3,b,c.cuE J⟩
    have hJ:=aS x h4;refine sk ?_;cases hJ;intro a w b c;exact ⟨h,k,b,c.cuE J⟩
   rintro a w ⟨o,p,b,c⟩;refine TG.ap ?_ b c;refine rg ?_;obtain ⟨hK,hL⟩:=aF hE;refine dN J J J hK (A J (N ?_));cases hL;intro a w b c;exact ⟨_,h3,o,p,b,c.cuE J⟩
  have hM:=aS u Z;refine xt J ?_;cases hM;obtain rfl:=dF.out h3;intro a w b c;exact ⟨h,k,b,c.cuE J⟩
 rintro a w ⟨s,t,b,c⟩;apply TG.ap ?_ b c;refine C (A J (D J (bH ?_)));cases h6;intro a w b c;refine dT c J J ?_;exact ⟨⟨_,_,J,(b.listOut 2 J (fun _=>J))⟩,b.ext⟩

theorem aIs (j:H.le (hp W)) {x:List Value} (m:aY) (y:(bU) H x m) {r:dG×Int} (hr:LL m=some r):Calls prog 191 #[.agg x.toArray] W (eY M H W (fun v K=>∃ (g:List Value),v=.tuple #[.agg g.toArray,.int .i64 r.2]∧(fF) K g r.1)):=by
 have e:=y;obtain ⟨z1,rfl,aa⟩:=y;refine aK (M:=M) func191 J ntmps191 J j ?_;refine C (bI J J J fun q3 G p=>(al 1 zeroValue271 J J fun u=>(D J (C (cM pO jC J J (P 0 J p) J ?_)))));obtain ⟨r7,s,q⟩:=L hr;refine gW aEu J J J J (fun w H j le=>aIq j m (bU.mono _ _ _ _ le.i e) s) ?_;rintro v_ k ⟨c0,rfl,z⟩;have V:=z;obtain ⟨a0,c1,a2,c2,a3,c3,a4,c4,a5,c5,a6,c6,hL,rfl,Y,Z,h8,h9,hB,hC,b⟩:=z;refine A J (ex J J J (ex J J J (va zeroValue271 jD J J J J J J (gX J b.len J) (by repeat (first|apply rI|exact qR _ _|rfl)) fun q0 l f=>(D J (sq (sq ?_))))));obtain ⟨t0,B,F⟩:=L q;refine jn (SJ M W H [l,k,G,H] [(1,bE u 271 (gE (gE [.int .i64 0,.slice none 0 0,.slice none 0 0,.slice none 0 0,.slice none 0 0,.slice none 0 0,.slice none 0 0,.int .u8 0,.int .i64 0,.int .i64 0,.int .u8 0] (bM bF.zero)) (kB (List.replicate 40 ((none,0):gD)) (List.replicate 40 ([]:List UInt8)))))] 22 [(2,.pointer (some (⟨u,0,none⟩))),(4,.pointer (some q0)),(5,.int .i64 r7.2),(18,.bool t0)]) ?_ ?_
 ·refine rg (A J (fZ J J J (A J ?_)));by_cases d:r7.2=0
  ·have hE:=aJ d B;refine gt d J (cM nV jD J J (P 0 J f) (gX J b.len J) (gt d J ?_));obtain ⟨r0,hF,hG⟩:=L hE;refine gW aEv J J J J (fun w H j le=>aIr j r7.1 (fF.mono _ _ _ _ le.i V) hF) ?_;rintro v_ R ⟨a7,c7,rfl,hM⟩;refine gt d J (dU eO J J (gt d J (lL J J J (pt d J J (N ?_)))));cases hG;intro a w c h;exact ⟨c.selH [1,2,3,4] J,h.cuE J⟩
  have hI:=aS d B;refine cC 4 J J J (decide_eq_false d) J (pf d J J (N ?_));cases hI;exact cuE J
 refine X ?_;refine cb J (fun n=>?_) (fun n=>?_)
 ·have hJ:=aJ n F;refine C (bu T12.B271 J J J (wZ 1 jD J J J J (gX J (kX.zero (I cH) 1 40 H).len J) (by repeat (first|apply rI|exact qR _ _|rfl)) (gX J (kX.zero (I cH) 1 40 H).len J) (D J (bH ?_))));cases hJ;intro a w c h;refine OB h J (cU.cell J (fK nV jD (cW (c.get (t:=1) J)) (gX J (kX.zero (I cH) 1 40 H).len J))) (cU.tmp J) ?_;exact ⟨⟨_,J,⟨_,_,_,_,_,_,_,_,_,_,_,_,_,J,Sl.o,Sl.o,Sl.o,Sl.o,Sl.o,Sl.o,(kX.zero _ _ _ _)⟩⟩,c.ext⟩
 have hK:=bK n F;refine sk (C (cM nV jD J J (P 0 J f) (gX J b.len J) (A J (wZ 1 jD J J J J (gX J b.len J) (by repeat (first|apply rI|exact qR _ _|rfl)) (gX J (kX.zero (I cH) 1 40 H).len J) (D J (bH ?_))))));cases hK;intro a w c h;refine OB h J (cU.cell J (fK nV jD (cW (c.get (t:=1) J)) (gX J b.len J))) (cU.tmp J) ?_;exact ⟨⟨_,J,⟨_,_,_,_,_,_,_,_,_,_,_,_,_,J,(Y.mono (I.mono _) (c.grow 1 J)),(Z.mono (I.mono _) (c.grow 1 J)),(h8.mono (I.mono _) (c.grow 1 J)),(h9.mono (I.mono _) (c.grow 1 J)),(hB.mono (I.mono _) (c.grow 1 J)),(hC.mono (I.mono _) (c.grow 1 J)),(b.mono (I.mono _) (c.grow 1 J))⟩⟩,c.ext⟩

theorem aP6 (hH:H.le (hp W)) {ij:List Value} (K:bA) (jg:(I cE) H ij K) (b:Int) {V:Addr} {dh:List Value} (bx:dG) (Z:aN H V dh) (bf:(fF) H dh bx) {ff:Addr} {ik:Value} {gc:bA→Option Bool} (fl:aN H ff [ik]) (ja:eP M prog H ik (fC (Va cE) Value.bool gc)) {jb:Addr} {il:Value} {jf:bA→Int→Option Bool} (jd:aN H jb [il]) (jc:eP M prog H il (VY (Va cE) (Vi .i64) Value.bool jf)) {r:Bool} (hr:aCz K b bx gc jf=some r):Calls prog 239 #[.agg ij.toArray,.int .i64 b,.pointer (some V),.pointer (some ff),.pointer (some jb)] W (bJ M W (.bool r)):=by
 obtain rfl:=jg;have n:=bf;obtain ⟨ad,aa,ae,ab,af,ac,a0,c0,a2,c1,a3,c2,ag,rfl,an,ao,aq,ah,ai,aj,h⟩:=bf;have c:=ja;obtain ⟨p,l,i,rfl,_,_⟩:=ja;have d:=jc;obtain ⟨q,m,k,rfl,_,_⟩:=jc;refine aK (M:=M) func239 J ntmps239 J hH ?_;refine C (bO 1 J J J fun Y=>(D J (sq (C (A J (aU 0 jA J jC (aU 0 lA J Z3 (aR G3 J ((P 0 J Z).take 1) J ?_))))))));refine fZ J J J (N ?_);refine ci J (fun s=>?_) (fun s=>?_)
 ·have hB:=aJ s hr;refine C (aR TI J (P 0 J fl) J (cM yE vU J J (sO 1 J) J ?_));obtain ⟨r0,hC,hE⟩:=L hB;refine mT (v:=.bool r0) c 0 J J J J (fun H le=>⟨_,K,r0,J,J,hC,J⟩) (D J (bH ?_));cases hE;exact cK J J
 have hF:=aS s hr;refine sk (sq (C (A J (aU 51 jA J BJ ?_))));obtain ⟨ak,hG⟩:=aF hF;obtain ⟨x1,hI,hJ⟩:=L hG;obtain ⟨a4,c3,hK,hL,t⟩:=h.at2 hI;have:=t.len;refine oK BO BL J J J (j:=b.toNat) (by omega) hK (aR CD J (P 0 J ((Z.drop 51).arr b.toNat hL)) J (dU mB J J (A J (N ?_))));obtain ⟨o,hM,h7⟩:=L hJ;refine jn (fun a w=>∃ R,o=.inl R∧SJ M W H [H] [(1,bE Y 278 (cE R))] 37 [] a w) ?_ ?_
 ·refine bk ?_;refine jZ [1,4,5,21,22] J hM (fun l_ g=>SJ M W H [H] [(1,bE Y 278 (cE g.2))] 37 ((23,.int .i64 (g.1:Int))::l_)) ?_ ?_
  ·exact cuE J
  rintro j g y0 h8 u a w ⟨f,e⟩;refine TG.ap ?_ f e;refine C (dS J J J (N (sq ?_)));refine ci J (fun y=>?_) (fun y=>?_)
  ·have hN:=aJ y h8;refine sk (sq (bk (C ?_)));obtain ⟨x0,z,hO⟩:=L hN;obtain ⟨p0,rfl⟩:=t.adr z;have hP:=t.atF z;refine cP mB Z5 J J J J (aT z) (aR G5 J (P 0 J hP) J (D J (C (A J (A J ?_)))));obtain ⟨am,hR⟩:=aF hO;have B:b.toNat<40:=by omega
   refine oK BP Z5 J J J (j:=b.toNat) (by omega) B (vC 1 [] (cE g.2) (j:=b.toNat) Z5 J J J J J B (bA.st (x:=g.2) B) (N (C (aR GT J (P 0 J jd) J (cM yE vU J J (sO 1 J) J (A J ?_))))));obtain ⟨hT,hV⟩:=aF hR;refine dN J J J hT ?_;obtain ⟨r1,hW,h9⟩:=L hV;refine mT (v:=.bool r1) d 0 J J J J (fun H le=>⟨_,_,(bA.set g.2 b.toNat (x0.toNat:Int)),(b+1),r1,J,J,J,hW,J⟩) (nt J J (N ?_));refine cb J (fun h0=>?_) (fun h0=>?_)
   ·replace h0:=oI h0
    have hX:=bK h0 h9;refine C (D J (bH ?_));cases hX;obtain rfl:=dF.out u;cases h7;exact cK J J
   replace h0:=oJ h0
   have F:=aJ h0 h9;refine sk (rg (dN J J J (by omega) (A J (N ?_))));cases F;intro a w f e;exact ⟨_,u,f,e.cuE J⟩
  have G:=aS y h8;refine xt J ?_;cases G;obtain rfl:=dF.out u;intro a w f e;exact ⟨_,J,f,e.cut tv⟩
 rintro a w ⟨R,rfl,f,e⟩;apply TG.ap ?_ f e;refine C (D J (bH ?_));cases h7;exact cK J J

theorem aP7 (hH:H.le (hp W)) {dg:Value} {yield:bA→Option Bool} (dx:eP M prog H dg (fC (Va cE) Value.bool yield)) {t:Addr} {dh:List Value} (bx:dG) (bc:aN H t dh) (bf:(fF) H dh bx) {r:Unit} (k:aC0 yield bx=some r):Calls prog 238 #[dg,.pointer (some t)] W (bJ M W (.tuple #[])):=by
 have d:=dx;obtain ⟨p,m,l,rfl,_,_⟩:=dx;have u:=bf;obtain ⟨ak,ah,am,ai,an,aj,a0,c0,a2,c1,a3,c2,ao,rfl,ax,az,a5,aq,ar,au,q⟩:=bf;refine aK (M:=M) func238 J ntmps238 J hH ?_;refine C (bI J J J fun q0 h s=>(N (C (al 1 zeroValue329 J J fun o=>(N (C (fn J J J (eQ 1 YS J J J J J J J ?_))))))));refine N (rg (aR GT J (sO 1 J) J (buA T12.B278 J J J ?_)))
 let i:List Value:=[.func (.func 239) #[] #[.pointer (some t),.pointer (some q0),.pointer (some (⟨o,0,none⟩))]]
 let g:aM:=[(1,bE o 329 i)]
 have k0:∀ (y:Nat) (f:Nat×bA) (r0:Bool),qA bx yield y f=some r0→∀ (V:Hp) (σr:aM) (w:World),St M W H [V] (g++σr) w→mM [h,H] V→Calls prog 239 #[.agg (cE f.2).toArray,.int .i64 (f.1:Int),.pointer (some t),.pointer (some q0),.pointer (some (⟨o,0,none⟩))] w (fI M W H V σr (fun e K A'=>e=.returned (.bool r0)∧A'=g)):=by
  intro y
  induction y with
  | zero=>intro _ _ k;cases k
  | succ y ih_ =>
   intro f r0 k V σr w b hV;have b:=b.below hV;unfold qA FE at k;refine cV (M:=M) func239 J ntmps239 J b ?_;refine C (bO 2 J J J fun z=>(D J (sq (C (A J (aU 0 jA J jC (aU 0 lA J Z3 (aR G3 J ((P 2 J bc).take 1) J ?_))))))));refine fZ J J J (N ?_);refine ci J (fun G=>?_) (fun G=>?_)
   ·have hB:=aJ G k;refine C (aR TI J (P 1 J s) J (cM yE vU J J (sO 2 J) J ?_));obtain ⟨r1,hC,hE⟩:=L hB;refine mT (v:=.bool r1) d 2 J J J J (fun H le=>⟨_,f.2,r1,J,J,hC,J⟩) (D J (bH (TG.del 2 ?_)));cases hE;intro a w b c;refine dT c J J ?_;exact ⟨V,[_],b.selH [0,0] J,J,J⟩
   have hF:=aS G k;refine sk (sq (C (A J (aU 51 jA J BJ ?_))));obtain ⟨x1,hG,hI⟩:=L hF;obtain ⟨a4,c3,hJ,hK,R⟩:=q.at2 hG;have:=R.len;refine oK BO BL J J J (j:=f.1) J hJ (aR CD J (P 2 J ((bc.drop 51).arr f.1 hK)) J (dU mB J J (A J (N ?_))));obtain ⟨F,hL,h7⟩:=L hI;refine jn (fun a w=>∃ t0,F=.inl t0∧SJ M W H [V,h,H] ([(2,bE z 278 (cE t0)),(1,bE o 329 i)]++σr) 37 [] a w) ?_ ?_
   ·refine bk ?_;refine jZ [1,4,5,21,22] J hL (fun l_ n=>SJ M W H [V,h,H] ([(2,bE z 278 (cE n.2)),(1,bE o 329 i)]++σr) 37 ((23,.int .i64 (n.1:Int))::l_)) ?_ ?_
    ·exact cuE J
    rintro j n y0 h8 Y a w ⟨b,c⟩;refine TG.ap ?_ b c;refine C (dS J J J (N (sq ?_)));refine ci J (fun Z=>?_) (fun Z=>?_)
    ·have hM:=aJ Z h8;refine sk (sq (bk (C ?_)));obtain ⟨x0,h5,hN⟩:=L hM;obtain ⟨p0,rfl⟩:=R.adr h5;have hO:=R.atF h5;refine cP mB Z5 J J J J (aT h5) (aR G5 J (P 2 J hO) J (D J (C (A J (A J ?_)))));obtain ⟨aw,hP⟩:=aF hN;have h6:f.1<40:=by omega
     refine oK BP Z5 J J J (j:=f.1) J h6 (vC 2 [] (cE n.2) (j:=f.1) Z5 J J J J J h6 (bA.st (x:=n.2) h6) (N (C (aR GT J (sO 1 J) J (cM yE vU J J (sO 2 J) J (A J ?_))))));obtain ⟨hR,hT⟩:=aF hP;refine dN J J J hR ?_;obtain ⟨r2,hW,h9⟩:=L hT;refine TG.front 1 J (qP g (B:=([(2,bE z 278 (cE (bA.set n.2 f.1 (x0.toNat:Int))))]++σr)) J MR J J J J (fun w V b le=>ih_ _ _ hW V _ w b (le.sel [1,2] J)) ?_);rintro e_ af A_ a w ⟨rfl,rfl⟩ b c;refine wD (fB J c b (nt J J (N ?_)));refine cb J (fun h0=>?_) (fun h0=>?_)
     ·replace h0:=oI h0
      have hX:=bK h0 h9;refine C (D J (bH ?_));cases hX;obtain rfl:=dF.out Y;refine TG.del 2 ?_;cases h7;intro a w b c;refine dT c J J ?_;exact ⟨V,[_],b.selH [1,1] J,J,J⟩
     replace h0:=oJ h0
     have aa:=aJ h0 h9;refine sk (rg (dN J J J (by omega) (A J (N (TG.front 2 J ?_)))));cases aa;intro a w b c;exact ⟨_,Y,b.selH [1,2,3] J,c.cuE J⟩
    have ab:=aS Z h8;refine xt J ?_;cases ab;obtain rfl:=dF.out Y;intro a w b c;exact ⟨_,J,b,c.cut tv⟩
   rintro a w ⟨t0,rfl,b,c⟩;apply TG.ap ?_ b c;refine C (D J (bH (TG.del 2 ?_)));cases h7;intro a w b c;refine dT c J J ?_;exact ⟨V,[_],b.selH [0,0] J,J,J⟩
 obtain ⟨r3,ac,ad⟩:=L k;obtain ⟨n0,ae⟩:=nK ac;refine qP g (B:=[]) J MR J J J J (fun w V b le=>k0 _ _ _ ae V _ w b le) ?_;rintro e_ ag A_ a w ⟨rfl,rfl⟩ b c;refine wD (fB J c b (N ?_));cases ad;intro a w b c;refine eF c J ?_;exact ⟨J,b.ext⟩

theorem aIt (hH:H.le (hp W)) {cj:List Value} (q:dG) (cr:(fF) H cj q) {im:List Value} (s:bA) (jh:(I cE) H im s) {r:fL} (hr:LM q s=some r):Calls prog 194 #[.agg cj.toArray,.agg im.toArray] W (bJ M W (.agg (jK r).toArray)):=by
 have G:=cr;obtain ⟨ca,b6,cc,b7,cd,b8,a0,c0,a2,c1,a3,c2,ce,rfl,cq,cs,ct,cf,cg,K,b9⟩:=cr;have:=K.len;obtain rfl:=jh;refine aK (M:=M) func194 J ntmps194 J hH ?_;refine C (bI J J J fun q0 c g=>(bI J J J fun q1 d n=>(al 1 zeroValue281 J J fun k=>(N (C (fn J J J (D J (sq ?_))))))));refine C (aU 0 jA J jC (aU 0 lA J Z3 (aR G3 J ((P 1 J g).take 1) J (A J (N ?_)))));obtain ⟨u,ae,ah⟩:=L hr;refine gG [2,3,4,5] J (fun o=>SJ M W H [d,c,H] [(1,bE k 281 [.int .i64 (u.1:Int),.int .i64 (u.2:Int)])] 64 o) ?_ ?_
 ·refine bk ?_;refine jZ [2,3,4,5,12] J ae (fun o p=>SJ M W H [d,c,H] [(1,bE k 281 [.int .i64 (p.2.1:Int),.int .i64 (p.2.2:Int)])] 64 ((13,.int .i64 (p.1:Int))::o)) ?_ ?_
  ·exact cuE J
  rintro j p y0 hE hF a w ⟨b,e⟩;refine TG.ap ?_ b e;refine C (dS J J J (N (sq ?_)));refine ci J (fun R=>?_) (fun R=>?_)
  ·have aj:=aJ R hE;refine sk (sq (bk (C (A J (D J (C (A J (aU 11 jA J GV ?_))))))));obtain ⟨ch,am⟩:=aF aj;have hG:p.1<40:=by omega
   refine oK GY Z4 J J J (j:=p.1) J hG (aR G4 J (P 1 J ((g.drop 11).arr p.1 (DQ (bF.at (x:=q.paired) hG)))) J (nt J J (N ?_)));obtain ⟨t0,hI,ao⟩:=L am;refine gG [2,3,4,5,12,13] J (fun o=>SJ M W H [d,c,H] [(1,bE k 281 [.int .i64 (t0.1:Int),.int .i64 (t0.2:Int)])] 64 o) ?_ ?_
   ·refine cb J (fun h2=>?_) (fun h2=>?_)
    ·replace h2:=oI h2
     have ar:=bK h2 hI;refine rg (A J (A J ?_));have hJ:p.1<40:=by omega
     refine oK BP Z5 J J J (j:=p.1) J hJ (aR G5 J (P 0 J ((n).arr p.1 (bA.at (x:=s) hJ))) J ?_);obtain ⟨t1,ax,az⟩:=L ar;refine wP YA func241 J ntmps241 J J J J (fun v w=>(v=.tuple #[]∧St M W H [d,c,H] [(1,bE k 281 [.int .i64 (t1.1:Int),.int .i64 (t1.2:Int)])] w)) ?_ ?_
     ·refine C (A J (N (bk (C (fZ J J J (D J ?_))))));obtain ⟨t2,hK,a5⟩:=L ax;refine jn (SJ M W H [d,c,H] [(1,bE k 281 [.int .i64 (t2.1:Int),.int .i64 (t2.2:Int)])] 16 []) ?_ ?_
      ·refine ci J (fun V=>?_) (fun V=>?_)
       ·have a7:=aJ V hK;refine rg (aU 0 kJ J Z3 (aR G3 J ((sO 1 J).take 1) J ?_));obtain ⟨a9,bb⟩:=aF a7;refine dN J J J a9 (aU 0 kJ J Z3 (eQ 1 Z3 J J J J J J J (N ?_)));cases bb;exact cu tv
       have bd:=aS V hK;refine C (fZ J J J (D J ?_));obtain ⟨t6,hL,bf⟩:=L bd;refine jn (SJ M W H [d,c,H] [(1,bE k 281 [.int .i64 (p.2.1:Int),.int .i64 (t6:Int)])] 16 []) ?_ ?_
       ·refine ci J (fun Y=>?_) (fun Y=>?_)
        ·have bh:=aJ Y hL;refine rg (aU 1 kJ J Z3 (aR G3 J ((sO 1 J).drop 1) J ?_));obtain ⟨bj,bm⟩:=aF bh;refine dN J J J bj (aU 1 kJ J Z3 (eQ 1 Z3 J J J J J J J (N ?_)));cases bm;exact cu tv
        have bo:=aS Y hL;refine sk ?_;cases bo;exact cu tv
       rintro a w ⟨b,e⟩;refine TG.apJ ?_ b e;cases bf;exact cu tv
      refine X ?_;cases a5;intro a w b e;refine eF e J ?_;exact ⟨_,J,⟨J,b⟩⟩
     rintro a w v e (⟨rfl,b⟩);refine fB J e b (N ?_);cases az;exact cuE J
    replace h2:=oJ h2
    have bq:=aJ h2 hI;refine sk ?_;cases bq;exact cuE J
   refine X ?_;refine rg ?_;obtain ⟨bt,bw⟩:=aF ao;refine dN J J J bt (A J (N ?_));cases bw;intro a w b e;exact ⟨_,hF,b,e.cuE J⟩
  have bz:=aS R hE;refine xt J ?_;cases bz;obtain rfl:=dF.out hF;exact cuE J
 rintro a w ⟨b,e⟩;apply TG.ap ?_ b e;refine sq (C (aU 0 jA J jC (aU 6 lA J Z36 (aR G36 J (((P 1 J g).drop 6).take 1) J (dU TX J J (A J (N ?_)))))));obtain ⟨y,b2,b4⟩:=L ah;refine gG [4] J (fun o=>SJ M W H [d,c,H] [(1,bE k 281 [.int .i64 (y.1:Int),.int .i64 (y.2:Int)])] 64 o) ?_ ?_
 ·refine bk ?_;refine jZ [2,3,4,5,29,30] J b2 (fun o F=>SJ M W H [d,c,H] [(1,bE k 281 [.int .i64 (F.2.1:Int),.int .i64 (F.2.2:Int)])] 64 ((31,.int .i64 (F.1:Int))::o)) ?_ ?_
  ·exact cuE J
  rintro j F y1 hM hN a w ⟨b,e⟩;refine TG.ap ?_ b e;refine C (dS J J J (N (sq ?_)));refine ci J (fun Z=>?_) (fun Z=>?_)
  ·have aa:=aJ Z hM;refine sk (sq (bk (C ?_)));obtain ⟨i,h8,ac⟩:=L aa;obtain ⟨p0,rfl⟩:=K.adr h8;have af:=K.atF h8;refine cP TX tQ J J J J (aT h8) (cM MX tQ J J (P 2 J af) J (va zeroValue337 tQ J J J J J J J J fun q2 h f=>(N (sq ?_))));obtain ⟨t7,ai,ak⟩:=L ac;refine eU [2,3,4,5,8,29,30,31] [(55,.bool t7)] J ?_ ?_
   ·refine rg (aU 1 qZ J Z3 (aR G3 J ((P 0 J f).drop 1) J ?_));obtain ⟨ck,an⟩:=aF ai;obtain ⟨cl,hO⟩:=aF an;have hP:i.for_.toNat<40:=by omega
    refine oK BP Z5 J J J (j:=i.for_.toNat) (by omega) hP (aR G5 J (P 1 J ((n).arr i.for_.toNat (bA.at (x:=s) hP))) J (fZ J J J (A J ?_)));by_cases m:(bA.get s i.for_.toNat)=0
    ·have hR:=aJ m hO;refine gt m J (aU 1 qZ J Z3 (gt m J (aR G3 J ((P 0 J f).drop 1) J (gt m J (aU 11 jA J GV (gt m J ?_))))));have hT:i.for_.toNat<40:=by omega
     refine oK GY Z4 J J J (j:=i.for_.toNat) (by omega) hT (gt m J (aR G4 J (P 2 J ((g.drop 11).arr i.for_.toNat (DQ (bF.at (x:=q.paired) hT)))) J (gt m J (nt J J (pt m J J (A J ?_))))));rcases Bool.eq_false_or_eq_true (bF.get q.paired i.for_.toNat) with l|l
     ·have aq:=aJ l hR;refine cC 6 J J J (congrArg not (l)) J (pF J J (congrArg not (l)) J (N ?_));cases aq;exact cuE J
     have au:=bK l hR;refine gN J J (congrArg not (l)) (aU 0 qZ J Z3 (gN J J (congrArg not (l)) (aR G3 J ((P 0 J f).take 1) J (gN J J (congrArg not (l)) (aU 11 jA J GV (gN J J (congrArg not (l)) ?_))))));obtain ⟨cm,ay⟩:=aF au;obtain ⟨cn,a4⟩:=aF ay;have hV:i.holder.toNat<40:=by omega
     refine oK GY Z4 J J J (j:=i.holder.toNat) (by omega) hV (gN J J (congrArg not (l)) (aR G4 J (P 2 J ((g.drop 11).arr i.holder.toNat (DQ (bF.at (x:=q.paired) hV)))) J (gN J J (congrArg not (l)) (nt J J (pT J J (congrArg not (l)) J (N ?_))))));cases a4;exact cuE J
    have a6:=aS m hO;refine cC 6 J J J (decide_eq_false m) J (pf m J J (A J (cC 6 J J J J J (pF J J J J (N ?_)))));cases a6;exact cuE J
   obtain ⟨t3,hW,a8⟩:=L ak;refine gG [2,3,4,5,29,30,31] J (fun o=>SJ M W H [h,d,c,H] [(1,bE k 281 [.int .i64 (t3.1:Int),.int .i64 (t3.2:Int)])] 64 o) ?_ ?_
   ·refine cb J (fun h9=>?_) (fun h9=>?_)
    ·have ba:=aJ h9 hW;refine rg (A J (aU 0 qZ J Z3 (aR G3 J ((P 0 J f).take 1) J ?_)));obtain ⟨co,bc⟩:=aF ba;obtain ⟨cp,be⟩:=aF bc;have hX:i.holder.toNat<40:=by omega
     refine oK BP Z5 J J J (j:=i.holder.toNat) (by omega) hX (aR G5 J (P 1 J ((n).arr i.holder.toNat (bA.at (x:=s) hX))) J ?_);obtain ⟨t4,bg,bi⟩:=L be;refine wP YA func241 J ntmps241 J J J J (fun v w=>(v=.tuple #[]∧St M W H [h,d,c,H] [(1,bE k 281 [.int .i64 (t4.1:Int),.int .i64 (t4.2:Int)])] w)) ?_ ?_
     ·refine C (A J (N (bk (C (fZ J J J (D J ?_))))));obtain ⟨t5,z,bl⟩:=L bg;refine jn (SJ M W H [h,d,c,H] [(1,bE k 281 [.int .i64 (t5.1:Int),.int .i64 (t5.2:Int)])] 16 []) ?_ ?_
      ·refine ci J (fun hB=>?_) (fun hB=>?_)
       ·have bn:=aJ hB z;refine rg (aU 0 kJ J Z3 (aR G3 J ((sO 1 J).take 1) J ?_));obtain ⟨bp,br⟩:=aF bn;refine dN J J J bp (aU 0 kJ J Z3 (eQ 1 Z3 J J J J J J J (N ?_)));cases br;exact cu tv
       have bv:=aS hB z;refine C (fZ J J J (D J ?_));obtain ⟨t8,B,bx⟩:=L bv;refine jn (SJ M W H [h,d,c,H] [(1,bE k 281 [.int .i64 (F.2.1:Int),.int .i64 (t8:Int)])] 16 []) ?_ ?_
       ·refine ci J (fun hC=>?_) (fun hC=>?_)
        ·have b1:=aJ hC B;refine rg (aU 1 kJ J Z3 (aR G3 J ((sO 1 J).drop 1) J ?_));obtain ⟨b3,b5⟩:=aF b1;refine dN J J J b3 (aU 1 kJ J Z3 (eQ 1 Z3 J J J J J J J (N ?_)));cases b5;exact cu tv
        have ab:=aS hC B;refine sk ?_;cases ab;exact cu tv
       rintro a w ⟨b,e⟩;refine TG.apJ ?_ b e;cases bx;exact cu tv
      refine X ?_;cases bl;intro a w b e;refine eF e J ?_;exact ⟨_,J,⟨J,b⟩⟩
     rintro a w v e (⟨rfl,b⟩);refine fB J e b (N ?_);cases bi;exact cuE J
    have ad:=bK h9 hW;refine sk ?_;cases ad;exact cuE J
   refine X ?_;refine rg (dN J J J (by omega) (A J (N ?_)));cases a8;intro a w b e;exact ⟨_,hN,b.selH [1,2,3] J,e.cuE J⟩
  have ag:=aS Z hM;refine xt J ?_;cases ag;obtain rfl:=dF.out hN;exact cuE J
 rintro a w ⟨b,e⟩;apply TG.ap ?_ b e;refine C (cM GS BK J J (sO 1 J) J (eQ 1 BK J J J J J J J (N (bH ?_))));cases b4;intro a w b e;refine wC e J (cU.cell J (fK GS BK (cW (b.get (t:=1) J)) J)) ?_;exact ⟨J,b.ext⟩

theorem aIu (l:H.le (hp W)) {cj:List Value} (m:dG) (cr:(fF) H cj m) {ee:List Value} (Y:fL) (fq:(I jK) H ee Y) {r:Int} (hr:LN m Y=some r):Calls prog 193 #[.agg cj.toArray,.agg ee.toArray] W (bJ M W (.int .u8 r)):=by
 have aa:=cr;obtain ⟨bc,a6,bd,a7,be,a8,a0,c0,a2,c1,a3,c2,bf,rfl,u,y,z,h0,h1,h2,a9⟩:=cr;obtain rfl:=fq;refine aK (M:=M) func193 J ntmps193 J l ?_;refine C (bI J J J fun br ba e=>(bI J J J fun bt bb i=>(D J (sq (bk (C (aU 0 kJ J Z3 (aR G3 J ((P 0 J i).take 1) J ?_))))))));refine aU 1 kJ J Z3 (aR G3 J ((P 0 J i).drop 1) J ?_);obtain ⟨hN,h8⟩:=aF hr;refine dN J J J hN (aU 0 jA J jC (aU 9 lA J Z3 (aR G3 J (((P 1 J e).drop 9).take 1) J (dS J J J (D J ?_)))));refine ci J (fun h3=>?_) (fun h3=>?_)
 ·have hO:=aJ h3 h8;refine C (D J (bH ?_));cases hO;exact cK J J
 have hP:=aS h3 h8;refine sq ?_;obtain ⟨r0,h4,hR⟩:=L hP;obtain ⟨bg,h9⟩:=aF hR
 let c:List Value:=[.func (.func 283) #[] #[]]
 by_cases hB:m.division.rule=0
 ·have hT:=aJ hB h9;refine eH 10 mixed (by kernel_rfl) J ?_
  refine DF.und (α:=Addr×Addr) default (fun q=>.slice (some q.1) 3 3) (fun (q:Addr×Addr) K=>aN K q.1 [.func (.func 284) #[] #[.pointer (some q.2)],.func (.func 285) #[] #[.pointer (some q.2)],.func (.func 286) #[] #[]]∧aN K q.2 c) (by intro _ _ _ h x;exact ⟨x.1.mono h,x.2.mono h⟩) (by kernel_rfl) rfl (fun a w K g d b=>TG.pa g d (gW MS J J J J (fun w H l le=>NH l h4) (by
    rintro v_ au ⟨q5,q6,rfl,p,hV⟩
    exact nJ (f:=fun q=>.slice (some q.1) 3 3) (G:=(fun (q:Addr×Addr) K=>aN K q.1 [.func (.func 284) #[] #[.pointer (some q.2)],.func (.func 285) #[] #[.pointer (some q.2)],.func (.func 286) #[] #[]]∧aN K q.2 c)) (q5,q6) (by intro _ _ _ h x;exact ⟨x.1.mono h,x.2.mono h⟩) ⟨p,hV⟩))) ?_
  rintro ⟨q2,n⟩
  let R:List Value:=[.func (.func 284) #[] #[.pointer (some n)],.func (.func 285) #[] #[.pointer (some n)],.func (.func 286) #[] #[]]
  refine E J (aU 0 jA J jC aG) (E J (aU 7 lA J Z5 aG) (E J (aR G5 J (((P 2 J e).drop 7).take 1) J aG) (uC (.pointer (some (q2.add (0*1)))) (fun K=>aN K (q2.add (0*1)) R∧aN K n c∧aN K n c) (fun _ _ h x=>⟨x.1.mono h,x.2.1.mono h,x.2.2.mono h⟩) J (fun a w K g d b F=>TG.pa g d (cP (j:=0) ND TQ J J J (by omega) (by decide) (F ⟨((b.1 J).1.drop (0*1)),(b.1 J).2,(b.1 J).2⟩))) (uC (.pointer (some (q2.add (0*1)))) (fun K=>aN K (q2.add (0*1)) R∧aN K n c∧aN K n c) (fun _ _ h x=>⟨x.1.mono h,x.2.1.mono h,x.2.2.mono h⟩) J (fun a w K g d b F=>TG.pa g d (aU 0 TW J TP (F ⟨(b.1 J).1,(b.1 J).2.2,(b.1 J).2.2⟩))) (uC (.func (.func 284) #[] #[.pointer (some n)]) (fun K=>aN K n c) (fun _ _ h x=>x.mono h) J (fun a w K g d b F=>TG.pa g d (aR TJ J ((P 0 J (b.1 J).1).take 1) J (F ((b.1 J).2.2)))) (E J (aU 0 jA J jC aG) (E J (cM pO jC J J ((P 2 J e).take 11) J aG) (E J (cM GS BK J J (P 1 J i) J aG) (DF.nil fun ax b=>?_)))))))));obtain ⟨hW,bh,bi,bj,_⟩:=b;obtain ⟨r1,hX,hC⟩:=L hT;refine bB aFh J (fun w H l le=>aIf l m.division ⟨⟨_,_,_,_,_,_,_,_,_,_,_,_⟩,rfl,⟨(u.mono (I.mono _) (le.at 3 rfl)),(y.mono (I.mono _) (le.at 3 rfl)),(z.mono (I.mono _) (le.at 3 rfl)),(h0.mono (I.mono _) (le.at 3 rfl)),(h1.mono (I.mono _) (le.at 3 rfl)),(h2.mono (I.mono _) (le.at 3 rfl))⟩⟩ Y rfl (bx:=(EW)) (hW.mono (le.at 0 rfl)) ⟨283,[],[],rfl,YI,fun w_ K_ o v_ hK hw hs=>by obtain ⟨ar,B,r_,rfl,k,hx,rfl⟩:=hs;obtain ⟨_,rfl,k⟩:=k;exact ZF (H:=K_) hw  B k  hx⟩ hX) (a1 rfl (N ?_));refine cb J (fun h5=>?_) (fun h5=>?_)
  ·have ab:=aJ h5 hC;refine C (D J (bH ?_));cases ab;exact cK J J
  have ac:=bK h5 hC;refine sk (C (D J (bH ?_)));cases ac;exact cK J J
 have hE:=aS hB h9;by_cases hG:m.division.rule=1
 ·have ad:=aJ hG hE;refine eH 10 mixed (by kernel_rfl) J ?_
  refine DF.und (α:=Addr×Addr) default (fun q=>.slice (some q.1) 3 3) (fun (q:Addr×Addr) K=>aN K q.1 [.func (.func 284) #[] #[.pointer (some q.2)],.func (.func 285) #[] #[.pointer (some q.2)],.func (.func 286) #[] #[]]∧aN K q.2 c) (by intro _ _ _ h x;exact ⟨x.1.mono h,x.2.mono h⟩) (by kernel_rfl) rfl (fun a w K g d b=>TG.pa g d (gW MS J J J J (fun w H l le=>NH l h4) (by
    rintro v_ ay ⟨q7,q8,rfl,s,ae⟩
    exact nJ (f:=fun q=>.slice (some q.1) 3 3) (G:=(fun (q:Addr×Addr) K=>aN K q.1 [.func (.func 284) #[] #[.pointer (some q.2)],.func (.func 285) #[] #[.pointer (some q.2)],.func (.func 286) #[] #[]]∧aN K q.2 c)) (q7,q8) (by intro _ _ _ h x;exact ⟨x.1.mono h,x.2.mono h⟩) ⟨s,ae⟩))) ?_
  rintro ⟨q3,Z⟩
  let V:List Value:=[.func (.func 285) #[] #[.pointer (some Z)],.func (.func 286) #[] #[]]
  refine E J (aU 0 jA J jC aG) (E J (aU 7 lA J Z5 aG) (E J (aR G5 J (((P 2 J e).drop 7).take 1) J aG) (uC (.pointer (some (q3.add (1*1)))) (fun K=>aN K (q3.add (1*1)) V∧aN K Z c) (fun _ _ h x=>⟨x.1.mono h,x.2.mono h⟩) J (fun a w K g d b F=>TG.pa g d (cP (j:=1) ND TQ J J J (by omega) (by decide) (F ⟨((b.1 J).1.drop (1*1)),(b.1 J).2⟩))) (uC (.pointer (some (q3.add (1*1)))) (fun K=>aN K (q3.add (1*1)) V∧aN K Z c) (fun _ _ h x=>⟨x.1.mono h,x.2.mono h⟩) J (fun a w K g d b F=>TG.pa g d (aU 0 TW J TP (F ⟨(b.1 J).1,(b.1 J).2⟩))) (uC (.func (.func 285) #[] #[.pointer (some Z)]) (fun K=>aN K Z c) (fun _ _ h x=>x.mono h) J (fun a w K g d b F=>TG.pa g d (aR TJ J ((P 0 J (b.1 J).1).take 1) J (F ((b.1 J).2)))) (E J (aU 0 jA J jC aG) (E J (cM pO jC J J ((P 2 J e).take 11) J aG) (E J (cM GS BK J J (P 1 J i) J aG) (DF.nil fun az b=>?_)))))))));obtain ⟨af,bl,bm,bn,_⟩:=b;obtain ⟨r2,ag,hI⟩:=L ad;refine bB aFi J (fun w H l le=>aIg l m.division ⟨⟨_,_,_,_,_,_,_,_,_,_,_,_⟩,rfl,⟨(u.mono (I.mono _) (le.at 3 rfl)),(y.mono (I.mono _) (le.at 3 rfl)),(z.mono (I.mono _) (le.at 3 rfl)),(h0.mono (I.mono _) (le.at 3 rfl)),(h1.mono (I.mono _) (le.at 3 rfl)),(h2.mono (I.mono _) (le.at 3 rfl))⟩⟩ Y rfl (bx:=(EW)) (af.mono (le.at 0 rfl)) ⟨283,[],[],rfl,YI,fun w_ K_ o v_ hK hw hs=>by obtain ⟨ar,B,r_,rfl,k,hx,rfl⟩:=hs;obtain ⟨_,rfl,k⟩:=k;exact ZF (H:=K_) hw  B k  hx⟩ ag) (a1 rfl (N ?_));refine cb J (fun h6=>?_) (fun h6=>?_)
  ·have ah:=aJ h6 hI;refine C (D J (bH ?_));cases ah;exact cK J J
  have ai:=bK h6 hI;refine sk (C (D J (bH ?_)));cases ai;exact cK J J
 have hJ:=aS hG hE;by_cases hL:m.division.rule=2
 ·have aj:=aJ hL hJ;refine eH 10 mixed (by kernel_rfl) J ?_
  refine DF.und (α:=Addr×Addr) default (fun q=>.slice (some q.1) 3 3) (fun (q:Addr×Addr) K=>aN K q.1 [.func (.func 284) #[] #[.pointer (some q.2)],.func (.func 285) #[] #[.pointer (some q.2)],.func (.func 286) #[] #[]]∧aN K q.2 c) (by intro _ _ _ h x;exact ⟨x.1.mono h,x.2.mono h⟩) (by kernel_rfl) rfl (fun a w K g d b=>TG.pa g d (gW MS J J J J (fun w H l le=>NH l h4) (by
    rintro v_ a4 ⟨q9,aq,rfl,t,ak⟩
    exact nJ (f:=fun q=>.slice (some q.1) 3 3) (G:=(fun (q:Addr×Addr) K=>aN K q.1 [.func (.func 284) #[] #[.pointer (some q.2)],.func (.func 285) #[] #[.pointer (some q.2)],.func (.func 286) #[] #[]]∧aN K q.2 c)) (q9,aq) (by intro _ _ _ h x;exact ⟨x.1.mono h,x.2.mono h⟩) ⟨t,ak⟩))) ?_
  rintro ⟨q4,bv⟩;refine E J (aU 0 jA J jC aG) (E J (aU 7 lA J Z5 aG) (E J (aR G5 J (((P 2 J e).drop 7).take 1) J aG) (uC (.pointer (some (q4.add (2*1)))) (fun K=>aN K (q4.add (2*1)) [.func (.func 286) #[] #[]]) (fun _ _ h x=>x.mono h) J (fun a w K g d b F=>TG.pa g d (cP (j:=2) ND TQ J J J (by omega) (by decide) (F ((b.1 J).1.drop (2*1))))) (uC (.pointer (some (q4.add (2*1)))) (fun K=>aN K (q4.add (2*1)) [.func (.func 286) #[] #[]]) (fun _ _ h x=>x.mono h) J (fun a w K g d b F=>TG.pa g d (aU 0 TW J TP (F (b.1 J)))) (DF.det J (fun a w K g d b=>TG.pa g d (aR TJ J (P 0 J (b.1 J)) J aG)) (E J (aU 0 jA J jC aG) (E J (cM pO jC J J ((P 2 J e).take 11) J aG) (E J (cM GS BK J J (P 1 J i) J aG) (DF.nil fun a5 b=>?_)))))))));obtain ⟨bo,bp,bq,_⟩:=b;obtain ⟨r3,am,hM⟩:=L aj;refine bB aFj J (fun w H l le=>aIh l m.division ⟨⟨_,_,_,_,_,_,_,_,_,_,_,_⟩,J,⟨(u.mono (I.mono _) le.v),(y.mono (I.mono _) le.v),(z.mono (I.mono _) le.v),(h0.mono (I.mono _) le.v),(h1.mono (I.mono _) le.v),(h2.mono (I.mono _) le.v)⟩⟩ Y J am) (D J ?_);refine cb J (fun h7=>?_) (fun h7=>?_)
  ·have an:=aJ h7 hM;refine C (D J (bH ?_));cases an;exact cK J J
  have ao:=bK h7 hM;refine sk (C (D J (bH ?_)));cases ao;exact cK J J
 have ap:=aS hL hJ;cases ap

theorem aIv (B:H.le (hp W)) {l:Option Addr} {k:Nat} {ai:List UInt8} (d:Sl (I cH) 1 H l k ai) (m:Int) {r:Int} (F:SA ai m=some r):Calls prog 242 #[.slice l ai.length k,.int .u8 m] W (bJ M W (.int .i64 r)):=by
 have:=d.len;refine aK (M:=M) func242 J ntmps242 J B ?_;refine C (D J (sq (C (A J (dU mB J J (A J (N ?_)))))));obtain ⟨e,t,n⟩:=L F;refine jn (fun a w=>∃ s,e=.inl s∧SJ M W H [H] [] 19 [] a w) ?_ ?_
 ·refine bk ?_;refine jO [0,1,7] J t (fun G q=>(8,.int .i64 (q:Int))::G) ?_ ?_
  ·exact cuE J
  intro j q V o f;refine C (dS J J J (N (sq ?_)));refine ci J (fun g=>?_) (fun g=>?_)
  ·have u:=aJ g o;refine sk (sq (bk (C (A J (D J (C (A J (A J ?_))))))));refine A J ?_;obtain ⟨R,h,p⟩:=L u;obtain ⟨K,rfl⟩:=d.adr h;have v:=d.atF h;refine cP mB Z5 J J J J (aT h) (aR G5 J (P 0 J v) J (fZ J J J (N ?_)));refine ci J (fun i=>?_) (fun i=>?_)
   ·have x:=aJ i p;refine C (A J (D J (bH ?_)));cases x;obtain rfl:=dF.out f;cases n;exact cK J J
   have y:=aS i p;refine sk (rg (dN J J J (by omega) (A J (N ?_))));cases y;intro a w c b;exact ⟨_,f,c,b.cuE J⟩
  have z:=aS g o;refine xt J ?_;cases z;obtain rfl:=dF.out f;intro a w c b;exact ⟨_,J,c,b.cut tv⟩
 rintro a w ⟨s,rfl,c,b⟩;apply TG.ap ?_ c b;refine C (D J (bH ?_));cases n;exact cK J J

theorem aIw (c:H.le (hp W)) {g:Option Addr} {f:Nat} {ai:List UInt8} (h:Sl (I cH) 1 H g f ai) (b:Int) {r:Bool} (i:LO ai b=some r):Calls prog 195 #[.slice g ai.length f,.int .u8 b] W (bJ M W (.bool r)):=by
 refine aK (M:=M) func195 J ntmps195 J c ?_;refine C (D J (C (A J (A J ?_))));obtain ⟨j,e,d⟩:=L i;refine bB aEx J (fun w H c le=>aIv c (h.mono (I.mono _) le.o) b e) (pW J J J (D J (bH ?_)));cases d;exact cK J J

theorem aIx {M:Prop} {W:World} (i:Int) {r:Int} (Y:XK i=some r):Calls prog 165 #[.int .u64 i] W (bJ M W (.int .i64 r)):=by
 refine aK (M:=M) func165 J ntmps165 J (Hp.le.refl _) ?_;refine C (D J (sq (C (A J (pW J J J (N ?_))))));obtain ⟨m,c,f⟩:=L Y;refine eU [] [(0,.int .u64 m.2),(2,.int .i64 (m.1:Int))] J ?_ ?_
 ·refine ci J (fun b=>?_) (fun b=>?_)
  ·have g:=aJ b c;refine C (A J (shR J J J (KC 32 4294967296 (by omega)) (D J (rg (D J ?_)))));cases g;exact cuE J
  have h:=aS b c;refine sk ?_;cases h;exact cuE J
 refine sq (C (A J (pW J J J (N ?_))));obtain ⟨l,j,n⟩:=L f;refine eU [] [(0,.int .u64 l.2),(2,.int .i64 (l.1:Int))] J ?_ ?_
 ·refine ci J (fun d=>?_) (fun d=>?_)
  ·have o:=aJ d j;refine C (A J (shR J J J (KC 16 65536 (by omega)) (D J (rg (A J ?_)))));obtain ⟨p,q⟩:=aF o;refine dN J J J p (D J ?_);cases q;exact cuE J
  have s:=aS d j;refine sk ?_;cases s;exact cuE J
 refine sq (C (A J (pW J J J (N ?_))));obtain ⟨t28,k,t⟩:=L n;refine eU [] [(0,.int .u64 t28.2),(2,.int .i64 (t28.1:Int))] J ?_ ?_
 ·refine ci J (fun e=>?_) (fun e=>?_)
  ·have u:=aJ e k;refine C (A J (shR J J J (KC 8 256 (by omega)) (D J (rg (A J ?_)))));obtain ⟨v,x⟩:=aF u;refine dN J J J v (D J ?_);cases x;exact cuE J
  have y:=aS e k;refine sk ?_;cases y;exact cuE J
 refine C (A J (A J ?_));obtain ⟨z,B⟩:=aF t;refine yY aG6 U5 J J (rW z) ?_;obtain ⟨hM,F⟩:=aF B;obtain ⟨Z,G,K⟩:=L F;have:=UInt8.toNat_lt Z;refine QI U9 J J J (by omega) G (yY U5 U3 J J (oL (by omega)) ?_);obtain ⟨R,V⟩:=aF K;refine dN J J J R (D J (bH ?_));cases V;exact cK J J

theorem aIy {M:Prop} {W:World} (b:Int) {r:Int} (e:SB b=some r):Calls prog 153 #[.int .u64 b] W (bJ M W (.int .i64 r)):=by
 refine aK (M:=M) func153 J ntmps153 J (Hp.le.refl _) ?_;refine C (D J (sq (cF J J (sk (C (A J ?_))))));obtain ⟨g,d,c⟩:=L e;refine bB aDw J (fun w H f le=>aIx b d) (D J (bH ?_));cases c;exact cK J J

theorem ZJ {M:Prop} {W:World} (b:Int) {r:Bool} (c:LP b=some r):Calls prog 317 #[.int .u8 b] W (bJ M W (.bool r)):=by
 refine aK (M:=M) func317 J ntmps317 J (Hp.le.refl _) ?_;refine C (D J (C (A J (A J (nI J J J (D J (bH ?_)))))));obtain rfl:=sj c;exact cK J J

theorem aIz {M:Prop} {W:World} (d:Int) (e:Int) {r:Bool} (q:LQ d e=some r):Calls prog 293 #[.int .u8 d,.int .u8 e] W (bJ M W (.bool r)):=by
 refine aK (M:=M) func293 J ntmps293 J (Hp.le.refl _) ?_;refine C (D J (sq ?_));obtain ⟨t13,h,i⟩:=L q;refine eU [] [(4,.bool t13)] J ?_ ?_
 ·refine rg (A J ?_);obtain ⟨s,j,f⟩:=L h;refine bB YJ J (fun w H p le=>ZJ d j) (A J ?_);rcases Bool.eq_false_or_eq_true (s) with b|b
  ·have k:=aJ b f;refine gN J J (b) (A J (gN J J (b) ?_));obtain ⟨t,l,g⟩:=L k;refine bB YJ J (fun w H p le=>ZJ e l) (gN J J (b) (nt J J (pT J J (b) J (A J ?_))));rcases Bool.eq_false_or_eq_true (t) with c|c
   ·have m:=aJ c g;refine gN J J (congrArg not (c)) (A J (gN J J (congrArg not (c)) (A J (gN J J (congrArg not (c)) (dS J J J (pF J J (congrArg not (c)) J (D J ?_)))))));cases m;exact cuE J
   have n:=bK c g;refine cC 3 J J J (congrArg not (c)) J (pT J J (congrArg not (c)) J (D J ?_));cases n;exact cuE J
  have o:=bK b f;refine cC 3 J J J (b) J (pF J J (b) J (A J (gN J J J (A J (gN J J J (A J (gN J J J (dS J J J (pF J J J J (D J ?_))))))))));cases o;exact cuE J
 refine bH ?_;cases i;exact cK J J

theorem aI0 (hH:H.le (hp W)) {cc:List Value} (bl:aY) (co:(bU) H cc bl) {r:List UInt8×Int} (hr:LS bl=some r):Calls prog 141 #[.agg cc.toArray] W (eY M H W (fun v K=>∃ (aq:Option Addr) (ah:Nat),v=.tuple #[.slice aq r.1.length ah,.int .i64 r.2]∧Sl (I cH) 1 K aq ah r.1)):=by
 have ag:=co;obtain ⟨z1,rfl,f2⟩:=co;refine pY (M:=M) func141 J ntmps141 J hH ?_;refine C (bI J J J fun q3 Z dp=>(a1 J (D J (C (cM pO jC J J (P 0 J dp) J ?_)))));obtain ⟨r6,fl,bi⟩:=L hr;refine gW aEa J J J J (fun w H hH le=>aIs hH bl (bU.mono _ _ _ _ le.i ag) fl) ?_;rintro v_ K9 ⟨fo,rfl,hO⟩;have hP:=hO;obtain ⟨a8,c7,a9,c8,bq,c9,br,cR,bt,cS,bv,b5,h5,rfl,fz,f0,f1,fr,fs,ft,s⟩:=hO;refine A J (ex J J J (ex J J J (va zeroValue271 jD J J J J J J (gX J s.len J) (by repeat (first|apply rI|exact qR _ _|rfl)) fun q2 g ab=>(D J (sq (C (A J (nI J J J (N ?_)))))))));refine ci J (fun h6=>?_) (fun h6=>?_)
 ·have dq:=aJ h6 bi;refine C (A J (a1 J (D J (bH ?_))));cases dq;refine OE (OF ?_);intro a w b d;refine mW d J J J ?_;exact ⟨⟨_,_,J,Sl.o⟩,b.ext⟩
 have dv:=aS h6 bi;refine sk (C (al 1 zeroValue39 J J fun b0=>(N (sq (C (cM nV jD J J (P 0 J ab) (gX J s.len J) (WG aEb func192 J ntmps192 J J J J (C ?_))))))));refine bI J J J fun q0 k ai=>(D J (C (fn J J J (D J (bH ?_)))));intro a w b d;refine dT d J J ?_;refine ⟨_,J,fun a d=>?_⟩;refine fB J d b (N (bk (TG.nilRow 10 5 1 ?_)));obtain ⟨Y,dz,d3⟩:=L dv;refine WE 2 3 aEw func238 J ntmps238 J J (fun l0 c f w=>(∃ (G:Option Addr) (y:Nat),St M W H [k,g,K9,Z,H] [(2,S.blk l0 (f .ready none)),(3,S.blk c (.deferred (some []))),(10,S.list G y 5 1 cH Y),(1,bE b0 39 [.slice G Y.length y])] w)) ?_ ?_
 ·intro l0 c f t6 ao n;refine C (bI J J J fun q1 m ae=>(N (C (al 4 zeroValue329 J J fun b1=>(N (C (fn J J J (eQ 4 YS J J J J J J J ?_))))))));refine N (rg (aR GT J (sO 4 J) J (buA T12.B278 J J J ?_)))
  let aa:List Value:=[.func (.func 239) #[] #[.pointer (some q0),.pointer (some q1),.pointer (some (⟨b1,0,none⟩))]]
  have k0:∀ (n_:Nat) (p:Nat×bA×List UInt8) (r0:List UInt8),lZ r6 n_ p=some r0→∀ (V:Hp) (σr:aM) (w:World) (a3:Option Addr) (c2:Nat),St M W H [V] ([(4,bE b1 329 aa),(2,S.blk l0 (f .ready none)),(3,S.blk c (.deferred (some []))),(10,S.list a3 c2 5 1 cH p.2.2),(1,bE b0 39 [.slice a3 p.2.2.length c2])]++σr) w→mM [m,k,g,K9,Z,H] V→Calls prog 239 #[.agg (cE p.2.1).toArray,.int .i64 (p.1:Int),.pointer (some q0),.pointer (some q1),.pointer (some (⟨b1,0,none⟩))] w (fI M W H V σr (fun e K A'=>∃ (a7:Option Addr) (c6:Nat),e=.returned (.bool true)∧A'=[(4,bE b1 329 aa),(2,S.blk l0 (f .ready none)),(3,S.blk c (.deferred (some []))),(10,S.list a7 c6 5 1 cH r0),(1,bE b0 39 [.slice a7 r0.length c6])])):=by
   intro n_
   induction n_ with
   | zero=>intro _ _ hr;cases hr
   | succ n_ ih_ =>
    intro p r0 hr V σr w a3 c2 b hV;have b:=b.below hV;unfold lZ tG at hr;refine cV (M:=M) func239 J ntmps239 J b ?_;refine C (bO 5 J J J fun b2=>(D J (sq (C (A J (aU 0 jA J jC (aU 0 lA J Z3 (aR G3 J ((P 2 J ai).take 1) J ?_))))))));refine fZ J J J (N ?_)
    let ac:S:=bE b1 329 aa
    refine ci J (fun h7=>?_) (fun h7=>?_)
    ·have d7:=aJ h7 hr;refine C (aR TI J (P 1 J ae) J (cM yE vU J J (sO 5 J) J ?_));obtain ⟨t2,ea,ef⟩:=L d7;refine yl 2 [] (L1:=(19,.agg (cE p.2.1).toArray)::_) J J J ao n J J J (fun v w=>(∃ (a4:Option Addr) (c3:Nat),v=.bool true∧St M W H [V,m,k,g,K9,Z,H] ([(5,bE b2 278 (cE p.2.1)),(4,ac),(2,S.blk l0 (f .ready none)),(3,S.blk c (.deferred (some []))),(10,S.list a4 c3 5 1 cH t2),(1,bE b0 39 [.slice a4 t2.length c3])]++σr) w)) ?_ ?_
     ·refine rg (va zeroValue278 vU J J J J J J J J fun q4 aj af=>(N (bR 2 n J (bk (sq ?_)))));obtain ⟨r2,ej,eo⟩:=L ea;refine eH 4 mixed (by kernel_rfl) J (E J (cM nV jD J J (P 5 J ab) (gX J s.len J) aG) (E J (cM nV jD J J (P 5 J ab) (gX J s.len J) aG) (E J (cM yE vU J J (P 1 J af) J aG) (E J (bB aEd J (fun w H hH le=>aIt hH r6.1 (fF.mono _ _ _ _ (le.at 6 J) hP) p.2.1 J ej) aG) (DF.nil fun ak hF=>?_)))));obtain ⟨r1,et,ez⟩:=L eo;refine bB aEc J (fun w H hH le=>aIu hH r6.1 (fF.mono _ _ _ _ (le.at 6 J) hP) r2 J et) (D J (C (aR CD J (sO 1 J) J (A J ?_))));obtain ⟨r3,e5,e9⟩:=L ez;refine clL aEe J J J J (fun w b=>aIw (Hp.le.refl (hp w)) (nG (H:=hp w) (enc:=cH) (size:=1) (ad:=a3) (cap:=c2) (el:=5) (l:=p.2.2) (fun _=>J) (b.get (t:=10) J) (fun _ _ _ ho=>ho)) r1 e5) (nt J J (N ?_));obtain ⟨t3,hR,fe⟩:=L e9;refine jn (fun a w=>∃ (a5:Option Addr) (c4:Nat),SJ M W H [ak,aj,V,m,k,g,K9,Z,H] ([(5,bE b2 278 (cE p.2.1)),(4,ac),(2,S.blk l0 (f .busy none)),(3,S.blk c (.deferred (some []))),(10,S.list a5 c4 5 1 cH t3),(1,bE b0 39 [.slice a5 t3.length c4])]++σr) 36 [] a w) ?_ ?_
      ·refine cb J (fun h1=>?_) (fun h1=>?_)
       ·replace h1:=oI h1
        have fh:=bK h1 hR;refine rg (aR CD J (sO 1 J) J (A J ?_));obtain ⟨b9,ce⟩:=aF fh;obtain ⟨ch,cl⟩:=aF ce;refine wO 10 cH (l:=p.2.2) (UInt8.ofNat r1.toNat) T12.E39 J J J J J J J (u8c ch) J J J J b9 fun bw b6 u0=>(eQ 1 BL J J J J J J J (N ?_));cases cl;intro a w b d;exact ⟨bw,b6,b,d.cut tv⟩
       replace h1:=oJ h1
       have cp:=aJ h1 hR;refine sk ?_;cases cp;intro a w b d;exact ⟨a3,c2,b,d.cut tv⟩
      rintro a w ⟨a5,c4,b,d⟩;refine TG.ap ?_ b d;cases fe;refine eR 2 none n J fun w b=>?_;exact ⟨a5,c4,J,b.selH [2,3,4,5,6,7,8] J⟩
     rintro a w v d (⟨a4,c3,rfl,b⟩);refine fB J d b (D J (bH (TG.del 5 ?_)));cases ef;intro a w b d;refine dT d J J ?_;exact ⟨V,[_,_,_,_,_],b.selH [0,0] J,a4,c3,J,J⟩
    have ct:=aS h7 hr;refine sk (sq (C (A J (aU 51 jA J BJ ?_))));obtain ⟨x5,cx,da⟩:=L ct;obtain ⟨fm,fp,de,di,h8⟩:=s.at2 cx;have:=h8.len;refine oK BO BL J J J (j:=p.1) J de (aR CD J (P 2 J ((ai.drop 51).arr p.1 di)) J (dU mB J J (A J (N ?_))));obtain ⟨an,dl,dr⟩:=L da;refine jn (fun a w=>∃ (a6:Option Addr) (c5:Nat),SJ M W H [V,m,k,g,K9,Z,H] ([(5,bE b2 278 (cE an.1)),(4,ac),(2,S.blk l0 (f .ready none)),(3,S.blk c (.deferred (some []))),(10,S.list a6 c5 5 1 cH an.2),(1,bE b0 39 [.slice a6 an.2.length c5])]++σr) 37 [] a w) ?_ ?_
    ·refine bk ?_;refine jZ [1,4,5,21,22] J dl (fun l_ s3 a w=>∃ (a2:Option Addr) (c1:Nat),SJ M W H [V,m,k,g,K9,Z,H] ([(5,bE b2 278 (cE s3.2.1)),(4,ac),(2,S.blk l0 (f .ready none)),(3,S.blk c (.deferred (some []))),(10,S.list a2 c1 5 1 cH s3.2.2),(1,bE b0 39 [.slice a2 s3.2.2.length c1])]++σr) 37 ((23,.int .i64 (s3.1:Int))::l_) a w) ?_ ?_
     ·intro a w b d;exact ⟨a3,c2,b,d.cuE J⟩
     rintro j s3 y0 hT hW a w ⟨a2,c1,b,d⟩;refine TG.ap ?_ b d;refine C (dS J J J (N (sq ?_)));refine ci J (fun h9=>?_) (fun h9=>?_)
     ·have dw:=aJ h9 hT;refine sk (sq (bk (C ?_)));obtain ⟨x2,hB,d0⟩:=L dw;obtain ⟨p0,rfl⟩:=h8.adr hB;have d4:=h8.atF hB;refine cP mB Z5 J J J J (aT hB) (aR G5 J (P 4 J d4) J (D J (C (A J (A J ?_)))));obtain ⟨fu,d8⟩:=aF d0;have hC:p.1<40:=by omega
      refine oK BP Z5 J J J (j:=p.1) J hC (vC 5 [] (cE s3.2.1) (j:=p.1) Z5 J J J J J hC (bA.st (x:=s3.2.1) hC) (N (C (aR GT J (sO 4 J) J (cM yE vU J J (sO 5 J) J (A J ?_))))));obtain ⟨ec,eg⟩:=aF d8;refine dN J J J ec ?_;obtain ⟨r4,ek,ep⟩:=L eg;refine TG.front 1 J (TG.front 10 J (TG.front 3 J (TG.front 2 J (TG.front 4 J (qP [(4,bE b1 329 aa),(2,S.blk l0 (f .ready none)),(3,S.blk c (.deferred (some []))),(10,S.list a2 c1 5 1 cH s3.2.2),(1,bE b0 39 [.slice a2 s3.2.2.length c1])] (B:=([(5,bE b2 278 (cE (bA.set s3.2.1 p.1 (x2.toNat:Int))))]++σr)) J MR J J J J (fun w V b le=>ih_ _ _ ek V _ w a2 c1 b (le.sel [1,2,3,4,5,6] J)) ?_)))));rintro e_ bj A_ a w ⟨bx,b7,rfl,rfl⟩ b d;refine wD (fB J d b (nt J J (N (cF J J (sk (rg (dN J J J (by omega) (A J (N (TG.front 5 J ?_))))))))));cases ep;intro a w b d;exact ⟨_,hW,bx,b7,b.selH [1,2,3,4,5,6,7] J,d.cuE J⟩
     have eu:=aS h9 hT;refine xt J ?_;cases eu;obtain rfl:=dF.out hW;intro a w b d;exact ⟨a2,c1,b,d.cut tv⟩
    rintro a w ⟨a6,c5,b,d⟩;apply TG.ap ?_ b d;refine C (D J (bH (TG.del 5 ?_)));cases dr;intro a w b d;refine dT d J J ?_;exact ⟨V,[_,_,_,_,_],b.selH [0,0] J,a6,c5,J,J⟩
  refine TG.as 10 (z:=S.list none 0 5 1 cH ([]:List UInt8)) J J ?_;obtain ⟨r5,e2,e6⟩:=L dz;obtain ⟨n0,fa⟩:=nK e2;refine qP [(4,bE b1 329 aa),(2,S.blk l0 (f .ready none)),(3,S.blk c (.deferred (some []))),(10,S.list none 0 5 1 cH ([]:List UInt8)),(1,bE b0 39 [.slice none 0 0])] (B:=[]) J MR J J J J (fun w V b le=>k0 _ _ _ fa V _ w none 0 b le) ?_;rintro e_ bm A_ a w ⟨bz,b8,rfl,rfl⟩ b d;refine wD (fB J d b (N (TG.del 4 ?_)));cases e6;intro a w b d;refine eF d J ?_;exact ⟨_,J,⟨bz,b8,b.selH [2,3,4,5,6] J⟩⟩
 rintro l0 c f t6 a w n d (⟨G,y,b⟩);refine TG.ap ?_ b d;refine WF 2 n J (C (aR CD J (sO 1 J) J ?_));obtain ⟨t1,ff,fj⟩:=L d3
 let F:S:=bE b0 39 [.slice G Y.length y]
 refine wP aEf func196 J ntmps196 J J J J (fun v w=>(v=.tuple #[]∧St M W H [k,g,K9,Z,H] [(3,S.blk c (.deferred (some []))),(10,S.list G y 5 1 cH t1),(1,F)] w∧t1.length=Y.length)) ?_ ?_
 ·refine C (A J (TG.len 10 J fun _=>(dU mB J J (D J (rg (A J (A J (A J (yY U3 TV J J (CX (by omega)) ?_)))))))));obtain ⟨r8,ca,cf⟩:=L ff;refine bB aDu J (fun w H hH le=>aIy (Y.length:Int) ca) ?_;obtain ⟨t4,cj,cm⟩:=L cf;refine wP aEy func243 J ntmps243 J J J J (fun v w=>(v=.tuple #[]∧St M W H [k,g,K9,Z,H] [(3,S.blk c (.deferred (some []))),(10,S.list G y 5 1 cH t4),(1,F)] w∧t4.length=Y.length)) ?_ ?_
  ·refine C (D J (C (D J ?_)));obtain ⟨fq,cq,cv⟩:=L cj;refine bk ?_;refine jO [0] J cq (fun l_ s4=>(1,.int .i64 (s4.1:Int))::(2,.int .i64 (s4.2.1:Int))::(3,.int .i64 s4.2.2.1)::(8,.bool s4.2.2.2.1)::(9,.bool s4.2.2.2.2)::l_) ?_ ?_
   ·exact cuE J
   intro j s4 y1 cy db;refine bk (C (A J (A J ?_)));obtain ⟨dg,hX⟩:=aF cy;refine qH J J J dg (D J (sq (C (A J (jN J J J (N ?_))))));refine ci J (fun hE=>?_) (fun hE=>?_)
   ·have dj:=aJ hE hX;refine C (A J (A J (A J ?_)));obtain ⟨t5,dm,ds⟩:=L dj;refine wP aFk func287 J ntmps287 J J J J (fun v w=>(v=.tuple #[]∧St M W H [k,g,K9,Z,H] [(3,S.blk c (.deferred (some []))),(10,S.list G y 5 1 cH t5),(1,F)] w∧t5.length=Y.length)) ?_ ?_
    ·refine C (A J ?_);obtain ⟨dx,d1⟩:=aF dm;refine dN J J J dx (D J ?_);obtain ⟨au,d5,d9⟩:=L d1;refine jn (fun a w=>St M W H [k,g,K9,Z,H] [(3,S.blk c (.deferred (some []))),(10,S.list G y 5 1 cH au),(1,F)] w∧bQ [] 49 a []∧au.length=Y.length) ?_ ?_
     ·refine bk ?_;refine jZ [0,1,2] J d5 (fun l_ s5 a w=>St M W H [k,g,K9,Z,H] [(3,S.blk c (.deferred (some []))),(10,S.list G y 5 1 cH s5.2),(1,F)] w∧bQ [] 49 a ((6,.int .i64 (s5.1:Int))::l_)∧s5.2.length=Y.length) ?_ ?_
      ·intro a w b d;exact ⟨b,d.cuE J,J⟩
      rintro j s5 y2 ax ay a w ⟨b,d,az⟩;refine TG.ap ?_ b d;refine sq (C (A J (A J (dS J J J (N ?_)))));refine ci J (fun hG=>?_) (fun hG=>?_)
      ·have ed:=aJ hG ax;refine sk (sq (bk (C (A J (D J ?_)))));obtain ⟨aw,eh,em⟩:=L ed;refine gG [0,1,2,6] J (fun l_ a w=>St M W H [k,g,K9,Z,H] [(3,S.blk c (.deferred (some []))),(10,S.list G y 5 1 cH aw),(1,F)] w∧bQ [] 49 a l_∧aw.length=Y.length) ?_ ?_
       ·refine bk ?_;refine jZ [0,1,2,6] J eh (fun l_ R a w=>St M W H [k,g,K9,Z,H] [(3,S.blk c (.deferred (some []))),(10,S.list G y 5 1 cH R.2),(1,F)] w∧bQ [] 49 a ((7,.int .i64 R.1)::l_)∧R.2.length=Y.length) ?_ ?_
        ·intro a w b d;exact ⟨b,d.cuE J,az⟩
        rintro j R y3 er ba a w ⟨b,d,h2⟩;refine TG.ap ?_ b d;refine sq (sq ?_);obtain ⟨t7,bb,bc⟩:=L er;refine eU [0,1,2,6,7] [(30,.bool t7)] J ?_ ?_
        ·by_cases u:(s4.1:Int)<R.1
         ·have ew:=aJ u bb;obtain ⟨fv,e3⟩:=aF ew;obtain ⟨x3,hI,e7⟩:=L e3;refine TG.addr 10 J (fR hI) fun b4 h=>?_;subst h;obtain ⟨fc,fg⟩:=aF e7;obtain ⟨fw,fk⟩:=aF fg;obtain ⟨x4,bd,cd⟩:=L fk;refine eH 13 mixed (by kernel_rfl) J (dC J (dC J (E J (lL J J J aG) (dC J (E J (gt u J (A J aG)) (E J (gt u J (A J aG)) (E J (gt u J (cP mB Z5 J J J (by omega) (Nat.lt_of_lt_of_eq (aT hI) h2) aG)) (E J (gt u J (aR G5 J (sE (enc:=cH) 10 J (fun _=>J) hI) J aG)) (E J (gt u J (A J aG)) (E J (gt u J (A J aG)) (E J (gt u J (qH J J J fc aG)) ?_)))))))))));refine E J (gt u J (cP mB Z5 J J J (by omega) (Nat.lt_of_lt_of_eq (aT bd) h2) aG)) (E J (gt u J (aR G5 J (sE (enc:=cH) 10 J (fun _=>J) bd) J aG)) (DF.nil fun bn hF=>(gt u J ?_)));obtain ⟨r9,cg,ck⟩:=L cd;refine bB aFl J (fun w H hH le=>aIz (x3.toNat:Int) (x4.toNat:Int) cg) (pt u J J (N ?_));cases ck;intro a w b d;exact ⟨b.selH [1,2,3,4,5] J,d.cuE J⟩
         have cn:=aS u bb;refine eH 13 mixed (by kernel_rfl) J (dC J (dC J (E J (lL J J J aG) (dC J (kY 9 J J (decide_eq_false u) J ⟨J,J,J,J,J,J,J,J,J,tv⟩ (DF.nil fun bo hF=>(gf u J (pf u J J (N ?_)))))))));cases cn;intro a w b d;exact ⟨b.selH [1,2,3,4,5] J,d.cuE J⟩
        refine cb J (fun hJ=>?_) (fun hJ=>?_)
        ·have cr:=aJ hJ bc;refine sk (sq (bk ?_));obtain ⟨hK,cw⟩:=aF cr;obtain ⟨fx,cz⟩:=aF cw;obtain ⟨x0,hL,dd⟩:=L cz;refine TG.addr 10 J (fR hL) fun b3 h=>?_;subst h;obtain ⟨fy,dh⟩:=aF dd;obtain ⟨x1,h4,dk⟩:=L dh;refine lB 14 [] [(2,35,.slice (some ⟨b3,0,none⟩) Y.length y),(3,36,.int .i64 R.1),(4,37,.int .i64 (R.1-1))] mixed (fun _ _ _ _ _ h=>h) (by kernel_rfl) (by kernel_rfl) (by kernel_rfl) J (by kernel_rfl) (.cons J J J (fun _=>J) (by kernel_rfl) (by kernel_rfl) (fun _ _=>J) (mvY J) (.cons J J J (fun _=>J) (by kernel_rfl) (by kernel_rfl) (fun _ _=>J) (mvY J) (.cons J J J (fun _=>J) (by kernel_rfl) (by kernel_rfl) (fun _ _=>J) (aCh J J hK) (.nil)))) (dA J (A J aG) (dA J (A J aG) (DC.pre (.head _) J (DC.pre (.tail _ (.head _)) J (DC.pre (.tail _ (.tail _ (.head _))) J (dA J (A J aG) (dA J (A J aG) (dA J (qH J J J hK aG) (dA J (cP mB Z5 J J J (by omega) (Nat.lt_of_lt_of_eq (aT hL) h2) aG) (dc J (by kernel_rfl) tv J J (aR G5 J (sE (enc:=cH) 10 J (fun _=>J) hL) J aG) (dA J (A J aG) ?_)))))))))));refine dA J (A J aG) (dA J (cP mB Z5 J J J (by omega) (Nat.lt_of_lt_of_eq (aT h4) h2) aG) (dc J (by kernel_rfl) tv J J (aR G5 J (sE (enc:=cH) 10 J (fun _=>J) h4) J aG) (DC.nil fun bp hF=>?_)));refine cP mB Z5 J J J (by omega) (Nat.lt_of_lt_of_eq (aT h4) h2) ?_;have be:(R.2.set R.1.toNat x0).length=Y.length:=(wQ _ _ _).trans h2;refine UP 10 x0 (q:=⟨b3,0,none⟩) (j:=R.1.toNat) (size:=1) (cs:=[.int .u8 (x0.toNat:Int)]) (off:=0) Z5 J J J (fun _=>J) h4 J J J J J ?_;obtain ⟨x6,bf,dn⟩:=L dk;refine cP mB Z5 J J J (by omega) (Nat.lt_of_lt_of_eq (aT bf) be) ?_;have du:((R.2.set R.1.toNat x0).set ((R.1-1).toNat) x1).length=Y.length:=(wQ _ _ _).trans be;refine UP 10 x1 (q:=⟨b3,0,none⟩) (j:=(R.1-1).toNat) (size:=1) (cs:=[.int .u8 (x1.toNat:Int)]) (off:=0) Z5 J J J (fun _=>J) bf J J J J J (N (rg (A J (qH J J J hK (D J ?_)))));cases dn;intro a w b d;exact ⟨_,ba,b.selH [1,2,3,4,5] J,d.cuE J,du⟩
        have dy:=bK hJ bc;refine xt J ?_;cases dy;obtain rfl:=dF.out ba;intro a w b d;exact ⟨b,d.cuE J,h2⟩
       rintro a w ⟨b,d,d2⟩;apply TG.ap ?_ b d;refine rg (A J ?_);obtain ⟨d6,dB⟩:=aF em;refine dN J J J d6 (D J ?_);cases dB;intro a w b d;exact ⟨_,ay,b,d.cuE J,d2⟩
      have ee:=aS hG ax;refine xt J ?_;cases ee;obtain rfl:=dF.out ay;intro a w b d;exact ⟨b,d.cut tv,az⟩
     rintro a w ⟨b,d,ei⟩;apply TG.ap ?_ b d;cases d9;intro a w b d;refine eF d J ?_;exact ⟨_,J,⟨J,b,ei⟩⟩
    rintro a w v d (⟨rfl,b,en⟩);refine fB J d b (N (bH ?_));cases ds;obtain rfl:=dF.out db;cases cv;intro a w b d;refine eF d J ?_;exact ⟨_,J,⟨J,b,en⟩⟩
   have bg:=aS hE hX;refine sk (sq (C (A J (fZ J J J (N ?_)))));refine ci J (fun hM=>?_) (fun hM=>?_)
   ·have es:=aJ hM bg;refine C (A J (A J (A J ?_)));cases es
   have bh:=aS hM bg;refine sk (sq (C (A J (nt J J (N ?_)))));refine cb J (fun h3=>?_) (fun h3=>?_)
   ·replace h3:=oI h3
    have ey:=bK h3 bh;refine C (A J (A J (A J ?_)));cases ey
   replace h3:=oJ h3
   have e4:=aJ h3 bh;refine sk (C (A J (A J (A J ?_))));cases e4
  rintro a w v d (⟨rfl,b,e8⟩);refine fB J d b (N ?_);cases cm;intro a w b d;refine eF d J ?_;exact ⟨_,J,⟨J,b,e8⟩⟩
 rintro a w v d (⟨rfl,b,hN⟩);refine fB J d b (N (C (aR CD J (sO 1 J) J (a1 J (D J (bH ?_))))))
 let am:List Value:=[.int .i64 r6.1.division.members,.slice a8 r6.1.division.ayes.e0.length c7,.slice a9 r6.1.division.ayes.e1.length c8,.slice bq r6.1.division.noes.e0.length c9,.slice br r6.1.division.noes.e1.length cR,.slice bt r6.1.division.pairs.length cS,.slice bv r6.1.division.proxies.length b5,.int .u8 r6.1.division.rule,.int .i64 r6.1.division.need,.int .i64 r6.1.division.quorum,.int .u8 r6.1.division.tie]
 let ar:List Value:=[.agg (gE (gE am (bM r6.1.paired)) (kB h5 r6.1.may)).toArray,.int .i64 r6.2]
 refine TG.cut (L':=[(0,.agg (iK bl z1).toArray),(1,.pointer (some q3)),(2,.slice G t1.length y),(3,.int .i64 0),(4,.pointer (some q2)),(5,.int .i64 r6.2),(6,.pointer (some (⟨b0,0,none⟩))),(9,.tuple ar.toArray),(10,.agg (iK bl z1).toArray),(11,.tuple ar.toArray),(12,.agg (gE (gE am (bM r6.1.paired)) (kB h5 r6.1.may)).toArray),(13,.int .i64 r6.2),(14,.int .i64 r6.2),(15,.bool (decide (r6.2≠0))),(17,.agg (gE (gE am (bM r6.1.paired)) (kB h5 r6.1.may)).toArray),(18,.func (.func 238) #[] #[.pointer (some q0)]),(33,.slice G t1.length y),(34,.tuple #[]),(35,.slice G t1.length y)]) ⟨J,J,(by rw [hN];rfl),J,J,J,J,J,J,J,J,J,J,J,J,J,(by rw [hN];rfl),J,(by rw [hN];rfl),tv⟩ ?_;cases fj;refine OE (UR 3 J (OF ?_));intro a w b d;refine mW d J J J ?_;exact ⟨⟨_,_,J,(b.listOut 10 J (fun _=>J))⟩,b.ext⟩

theorem aI1 {M:Prop} {W w:World} {H V:Hp} {σr:aM} {n:Option Addr} {k:Nat} {ai:List UInt8} (o:Sl (I cH) 1 V n k ai) {r:List UInt8} (p:SC ai=some r) (c:St M W H [V] σr w):Calls prog 197 #[.slice n ai.length k] w (fI M W H V σr (fun e K q=>∃ (ad:Option Addr) (cap:Nat),e=.returned (.slice ad r.length cap)∧q=[(1,S.list ad cap 5 1 cH r)])):=by
 refine cV (M:=M) func197 J ntmps197 J c ?_;refine C (D J (sq (C (A J (JO mB J J (N ?_))))));refine cb J (fun d=>?_) (fun d=>?_)
 ·obtain rfl:=Sl.isNil o d;have i:=(aF p).2;refine C (D J (bH (TG.nilRow 1 5 1 ?_)));cases i;intro a w c g;refine dT g J J ?_;exact ⟨_,[(1,S.list none 0 5 1 cH ([]:List UInt8))],c.selH [0,0] J,_,_,J,J⟩
 refine sk (C (CY 1 cH ([]:List UInt8) (cs:=[]) T12.E39 J J J J J J fun s=>(A J ?_)));obtain ⟨h,j⟩:=aF p;refine rD 1 (enc:=cH) (l:=([]:List UInt8)) (m:=ai) T12.E39 J J J J J J o 0 J (fun _=>J) (fun _=>J) J h fun f b=>(D J (bH ?_));cases j;intro a w c g;refine dT g J J ?_;exact ⟨_,[(1,S.list f b 5 1 cH (([]:List UInt8)++ai))],c.selH [0,0] J,_,_,J,J⟩

theorem aI2 (y:H.le (hp W)) {k:Option Addr} {j:Nat} {bj:List UInt8} (s:Sl (I cH) 1 H k j bj) (e:Int) {r:List UInt8} (z:LT bj e=some r):Calls prog 142 #[.slice k bj.length j,.int .u8 e] W (eY M H W (fun v K=>∃ (c:Option Addr) (b:Nat),v=.slice c r.length b∧Sl (I cH) 1 K c b r)):=by
 refine aK (M:=M) func142 J ntmps142 J y ?_;refine C (D J (C (A J ?_)));obtain ⟨B,i,g⟩:=L z;refine wY 1 aEg J J J J (fun w V σr d le=>aI1 (ai:=bj) (s.mono (I.mono _) le.o) i d) fun p m=>(TG.len 1 J fun _=>(A J ?_));obtain ⟨f,h⟩:=aF g;obtain ⟨t,u⟩:=aF h;refine wO 1 cH (l:=B) (UInt8.ofNat e.toNat) T12.E39 J J J J J J J (u8c t) J J J J f fun q n F=>(D J (bH ?_));cases u;intro a w d x;refine dT x J J ?_;exact ⟨⟨_,_,J,(d.listOut 1 J (fun _=>J))⟩,d.ext⟩

theorem w94 {M:Prop} {W w:World} {H V:Hp} {σr:aM} {h:Nat} {p:List Value} (f:aI) (au:aX V p f) {ip:Option Addr} {B:Nat} {q:List Int} (dw:Sl (I (bP .i64)) 1 V ip B q) (jm:aE) {r:aI⊕Int} (hr:LU f q jm=some r) (d:St M W H [V] ((1,bE h 77 p)::σr) w):Calls prog 94 #[.pointer (some ⟨h,0,none⟩),.slice ip q.length B,.string (bs jm)] w (fI M W H V σr (sC (fun y e K A'=>∃ (z:List Value),e=.returned (.tuple #[])∧A'=[(1,bE h 77 z)]∧aX K z y) (fun u=>.iface 155 (.agg #[.int .i64 u])) [(1,bE h 77 p)] r)):=by
 obtain ⟨z1,rfl,b⟩:=au;refine cV (M:=M) func94 J ntmps94 J d ?_;refine C (A J (nl J J (aU 0 fD J eT (aU 26 eX J Z4 (aR G4 J (((sO 1 J).drop 26).take 1) J ?_)))));obtain ⟨r3,k,j⟩:=L hr;rcases r3 with y6|y6
 ·refine bB fG J (fun w H c le=>iX (fH f.state.open_ 8 k)) (N (C (A J (nl J J (aU 0 fD J eT (aU 15 eX J jC (cM pO jC J J (((sO 1 J).drop 15).take 11) J ?_)))))));obtain ⟨m,t,h6⟩:=L j;refine gW aDn J J J J (fun w H c le=>aI0 c f.state.division ⟨⟨_,_,_,_,_,_,_,_,_,_,_,_⟩,J,⟨(b.f7.mono (I.mono _) le.o),(b.f8.mono (I.mono _) le.o),(b.f9.mono (I.mono _) le.o),(b.f10.mono (I.mono _) le.o),(b.f11.mono (I.mono _) le.o),(b.f12.mono (I.mono _) le.o)⟩⟩ t) ?_;rintro v_ aa ⟨a2,c1,rfl,F⟩;refine A J (ex J J J (ex J J J (a1 J (D J (C (A J ?_))))));obtain ⟨r1,G,R⟩:=L h6;rcases r1 with y0|y0
  ·refine bB jQ J (fun w H c le=>iX (jR m.2 G)) (N (C (A J (dU mB J J (fZ J J J ?_)))));obtain ⟨r2,Y,Z⟩:=L R;rcases r2 with y1|y1
   ·refine bB fG J (fun w H c le=>iX (fH (decide ((m.1.length:Int)=1)) 10 Y)) (N (sq ?_));obtain ⟨x0,s,h7⟩:=L Z;obtain ⟨p0,rfl⟩:=F.adr s;have h8:=F.atF s;obtain ⟨l,h9,hB⟩:=L h7;refine eH 10 mixed (by kernel_rfl) J (dC J (dC J (E J (nl J J aG) (E J (aU 0 fD J eT aG) (E J (aU 27 eX J BL aG) (E J (aR CD J ((sO 1 J).drop 27) J aG) (dC J (E J (cP mB Z5 J J J J (aT s) aG) (E J (aR G5 J (P 1 J h8) J aG) (uS l.length (I cH) 1 l (I.mono _) J (gW aDo J J J J (fun w H c le=>aI2 c (b.f13.mono (I.mono _) le.u) (x0.toNat:Int) h9) (kS (I.mono _))) fun v x=>(DF.nil fun ad hF=>?_)))))))))));obtain ⟨hC,_⟩:=hF;refine nl J J (aU 0 fD J eT (aU 27 eX J BL (eQ 1 BL J J J J J J J (N (rg (A J (A J (bu T12.B38 J J J (nl J J (aU 0 fD J eT (aU 15 eX J jC ?_)))))))))));refine eQ 1 jC J J J J J J J (nl J J (aU 0 fD J eT (aU 26 eX J Z4 (eQ 1 Z4 J J J J J J J (N ?_)))))
    let i:List Value:=((((((((((((((cO f.state z1).set 15 (.int .i64 0)).set 16 (.slice none 0 0)).set 17 (.slice none 0 0)).set 18 (.slice none 0 0)).set 19 (.slice none 0 0)).set 20 (.slice none 0 0)).set 21 (.slice none 0 0)).set 22 (.int .u8 0)).set 23 (.int .i64 0)).set 24 (.int .i64 0)).set 25 (.int .u8 0)).set 26 (.bool false)).set 27 (.slice v l.length x))
    refine TG.pack (fun K=>aX K i (⟨({f.state with division:=(⟨0,(⟨([]:List Int),([]:List Int)⟩:bN),(⟨([]:List Int),([]:List Int)⟩:bN),([]:List fN),([]:List dY),0,0,0,0⟩:aY),open_:=false,results:=l}:dE)⟩:aI)) (fun H le=>⟨{z1 with a7:=none,c7:=0,a8:=none,c8:=0,a9:=none,c9:=0,a10:=none,c10:=0,a11:=none,c11:=0,a12:=none,c12:=0,a13:=v,c13:=x},J,{b.mono le.u with f7:=Sl.o,f8:=Sl.o,f9:=Sl.o,f10:=Sl.o,f11:=Sl.o,f12:=Sl.o,f13:=(hC.mono (I.mono _) le.o)}⟩) fun n hE=>?_;cases hB;intro a w d g;refine eF g J ?_;exact ⟨n,[(1,bE h 77 i)],d.selH [0,3] J,_,J,J,hE⟩
   refine eG fG J J J (fun w H c le=>iY (fH (decide ((m.1.length:Int)=1)) 10 Y)) ?_;cases Z;intro a w d g;exact ⟨g.defers,V,[_],d.selH [1,1] J,J,J⟩
  refine eG jQ J J J (fun w H c le=>iY (jR m.2 G)) ?_;cases R;intro a w d g;exact ⟨g.defers,V,[_],d.selH [1,1] J,J,J⟩
 refine eG fG J J J (fun w H c le=>iY (fH f.state.open_ 8 k)) ?_;cases j;intro a w d g;exact ⟨g.defers,V,[_],d.selH [0,0] J,J,J⟩

theorem aP9 {M:Prop} {W:World} (b:Int) {r:Bool} (c:aC1 b=some r):Calls prog 199 #[.int .i32 b] W (bJ M W (.bool r)):=by
 refine aK (M:=M) func199 J ntmps199 J (Hp.le.refl _) ?_;refine C (D J (C (A J (fZ J J J (D J (bH ?_))))));obtain rfl:=sj c;exact cK J J

theorem ZK (d:H.le (hp W)) (l:Gv M H) (text:aE) {r:List aE} (m:FJ text=some r):Calls prog 143 #[.string (bs text)] W (eY M H W (fun v K=>∃ (c:Option Addr) (b:Nat),v=.slice c r.length b∧Sl (I bY) 1 K c b r)):=by
 refine aK (M:=M) func143 J ntmps143 J d ?_;refine C (D J (C (A J ?_)));obtain ⟨p,g,f⟩:=L m;refine gW aEh J J J J (fun w H d le=>aCv d (l.mono le.o) text g) ?_;rintro q n ⟨j,h,rfl,e⟩;refine D J (bH ?_);cases f;intro a w i k;refine dT k J J ?_;exact ⟨⟨_,_,J,(e.mono (I.mono _) (i.grow 0 J))⟩,i.ext⟩

theorem aI3 (u:H.le (hp W)) {p:List Value} (f:aW) (q:(aZ) H p f) {l:Addr} {n:Value} {bx:aW→Option Bool} (t:aN H l [n]) (m:eP M prog H n (fC (Vr aZ) Value.bool bx)) {r:Bool} (y:xR f bx=some r):Calls prog 297 #[.agg p.toArray,.pointer (some l)] W (bJ M W (.bool r)):=by
 have c:=q;obtain ⟨s,o,rfl,x⟩:=q;have b:=m;obtain ⟨g,e,d,rfl,_,_⟩:=m;refine aK (M:=M) func297 J ntmps297 J u ?_;refine C (bI J J J fun B z h=>(D J (C (aR aGp J (P 1 J t) J (cM nU iE J J (P 0 J h) J ?_)))));obtain ⟨r7,k,j⟩:=L y;refine mT (v:=.bool r7) b 1 J J J J (fun H le=>⟨_,f,r7,J,⟨_,J,(aZ.mono _ _ _ _ le.i c)⟩,k,J⟩) (nt J J (D J (bH ?_)));cases j;exact cK J J

theorem aI4 (hH:H.le (hp W)) {q:Option Addr} {p:Nat} {ai:List aW} (g:Sl (aZ) 5 H q p ai) {s:Value} {cg:aW→Option Bool} (t:eP M prog H s (fC (Vr aZ) Value.bool cg)) {r:Int} (hr:SD ai cg=some r):Calls prog 318 #[.slice q ai.length p,s] W (bJ M W (.int .i64 r)):=by
 have:=g.len;have b:=t;obtain ⟨i,f,e,rfl,_,_⟩:=t;refine aK (M:=M) func318 J ntmps318 J hH ?_;refine C (D J (sq (C (A J (dU uB J J (A J (N ?_)))))));obtain ⟨h,G,u⟩:=L hr;refine jn (fun a w=>∃ t26,h=.inl t26∧SJ M W H [H] [] 19 [] a w) ?_ ?_
 ·refine bk ?_;refine jO [0,1,7] J G (fun l_ F=>(8,.int .i64 (F:Int))::l_) ?_ ?_
  ·exact cuE J
  intro j F y0 x k;refine C (dS J J J (N (sq ?_)));refine ci J (fun l=>?_) (fun l=>?_)
  ·have K:=aJ l x;refine sk (sq (bk (C (A J (D J (C (A J (A J ?_))))))));refine A J ?_;obtain ⟨x0,m,R⟩:=L K;obtain ⟨p0,rfl⟩:=g.adr m;obtain ⟨c0,hK,V,y⟩:=g.at m;have Y:=y;obtain ⟨a0,c1,rfl,hL⟩:=y;refine cP uB iE J J J J (aT m) (cM nU iE J J (P 0 J V) J ?_);obtain ⟨B,Z,z⟩:=L R;refine mT (v:=.bool B) b 0 J J J J (fun H le=>⟨_,x0,B,J,⟨_,J,(aZ.mono _ _ _ _ le.o Y)⟩,Z,J⟩) (N ?_);refine cb J (fun n=>?_) (fun n=>?_)
   ·have hG:=aJ n z;refine C (A J (D J (bH ?_)));cases hG;obtain rfl:=dF.out k;cases u;exact cK J J
   have hI:=bK n z;refine sk (rg (dN J J J (by omega) (A J (N ?_))));cases hI;intro a w d c;exact ⟨_,k,d,c.cuE J⟩
  have hJ:=aS l x;refine xt J ?_;cases hJ;obtain rfl:=dF.out k;intro a w d c;exact ⟨_,J,d,c.cut tv⟩
 rintro a w ⟨t26,rfl,d,c⟩;apply TG.ap ?_ d c;refine C (D J (bH ?_));cases u;exact cK J J

theorem aI5 (f:H.le (hp W)) {j:Option Addr} {i:Nat} {ai:List aW} (m:Sl (aZ) 5 H j i ai) {k:Value} {cg:aW→Option Bool} (l:eP M prog H k (fC (Vr aZ) Value.bool cg)) {r:Bool} (n:SE ai cg=some r):Calls prog 296 #[.slice j ai.length i,k] W (bJ M W (.bool r)):=by
 have b:=l;obtain ⟨e,d,c,rfl,_,_⟩:=l;refine aK (M:=M) func296 J ntmps296 J f ?_;refine C (D J (C (A J (A J ?_))));obtain ⟨p,h,g⟩:=L n;refine bB aFz J (fun w H f le=>aI4 f (m.mono (aZ.mono) le.o) (cg:=cg) (b.mono le.o) h) (pW J J J (D J (bH ?_)));cases g;exact cK J J

theorem HF (j:H.le (hp W)) {p:Option Addr} {o:Nat} {bj:List aW} (y:Sl (aZ) 5 H p o bj) {q:Value} {right:aW→Option Bool} (s:eP M prog H q (fC (Vr aZ) Value.bool right)) {r:Bool} (z:vM bj right=some r):Calls prog 245 #[.slice p bj.length o,q] W (bJ M W (.bool r)):=by
 have b:=s;obtain ⟨g,f,e,rfl,_,_⟩:=s;refine aK (M:=M) func245 J ntmps245 J j ?_;refine C (bI J J J fun u R k=>(D J (C (A J (fn J J J ?_)))));obtain ⟨G,n,m⟩:=L z
 refine mG (v:=.bool G) aFm J J J J (fun w H j le=>by
   have l:eP M prog H (.func (.func 297) #[] #[.pointer (some u)]) (fC (Vr aZ) Value.bool (fun c=>xR c right)):=⟨297,[],[.pointer (some u)],rfl,aFn,fun Z x h Y t B hs=>by obtain ⟨K,c,V,rfl,d,F,rfl⟩:=hs;obtain ⟨_,rfl,d⟩:=d;exact aI3 (H:=x) B  c d (bx:=right) (k.mono ((le.at 0 rfl).trans t)) (b.mono ((le.at 1 rfl).trans t)) F⟩
   exact aI5 j (y.mono (aZ.mono) le.i) (cg:=(fun c=>xR c right)) l n) ?_
 refine nt J J (D J (bH ?_));cases m;exact cK J J

theorem aI6 (i:H.le (hp W)) {e:List Value} (g:aW) (f:(aZ) H e g) {r:Bool} (k:LV g=some r):Calls prog 246 #[.agg e.toArray] W (bJ M W (.bool r)):=by
 have b:=f;obtain ⟨h,d,rfl,j⟩:=f;refine aK (M:=M) func246 J ntmps246 J i ?_;refine C (bI J J J fun m l c=>(D J (C (aU 4 fJ J AA (aR wF J ((P 0 J c).drop 4) J (dU kZ J J (jN J J J (a1 J ?_))))))));refine N (bH ?_);obtain rfl:=sj k;exact cK J J

theorem aI7 (j:H.le (hp W)) {o:List Value} (f:bT) (p:(cN) H o f) {r:Bool} (Y:LX f=some r):Calls prog 244 #[.agg o.toArray] W (bJ M W (.bool r)):=by
 have g:=p;obtain ⟨u,m,x,n,rfl,V,k⟩:=p;refine aK (M:=M) func244 J ntmps244 J j ?_;refine C (bI J J J fun q7 K8 e=>(D J (sq ?_)));obtain ⟨t0,q,y⟩:=L Y;refine eU [] [(2,.bool t0)] J ?_ ?_
 ·refine rg (aU 1 vW J yJ (aR BH J ((P 0 J e).drop 1) J (dU uB J J (jN J J J (A J ?_)))));by_cases b:(f.papers.length:Int)≤10
  ·have s:=aJ b q;refine gt b J (aU 0 vW J AA (gt b J (aR wF J ((P 0 J e).take 1) J (gt b J (dU kZ J J (gt b J (jN J J J (pt b J J (A J ?_)))))))));by_cases c:(f.words.length:Int)≤60
   ·have z:=aJ c s;refine gt c J (aU 1 vW J yJ (gt c J (aR BH J ((P 0 J e).drop 1) J (gt c J ?_))));obtain ⟨r0,B,F⟩:=L z
    refine mG (v:=.bool r0) GO J J J J (fun w H j le=>by
      have G:eP M prog H (.func (.func 246) #[] #[]) (fC (Vr aZ) Value.bool (LV)):=⟨246,[],[],rfl,aE0,fun w_ t h v_ hK Z hs=>by obtain ⟨aa,l,r_,rfl,d,hx,rfl⟩:=hs;obtain ⟨_,rfl,d⟩:=d;exact aI6 (H:=t) Z  l d  hx⟩
      exact HF j (k.mono (aZ.mono) le.i) (right:=(LV)) G B) ?_
    refine pt c J J (D J ?_);cases F;exact cuE J
   have K:=aS c s;refine cC 3 J J J (decide_eq_false c) J (pf c J J (D J ?_));cases K;exact cuE J
  have R:=aS b q;refine cC 4 J J J (decide_eq_false b) J (pf b J J (A J (cC 3 J J J J J (pF J J J J (D J ?_)))));cases R;exact cuE J
 refine bH ?_;cases y;exact cK J J

theorem aI8 (n:H.le (hp W)) (e:aE) {i:Addr} {k:Value} {bx:aE→Option Bool} (m:aN H i [k]) (j:eP M prog H k (fC Vs Value.bool bx)) {r:Bool} (o:xS e bx=some r):Calls prog 298 #[.string (bs e),.pointer (some i)] W (bJ M W (.bool r)):=by
 have b:=j;obtain ⟨f,d,c,rfl,_,_⟩:=j;refine aK (M:=M) func298 J ntmps298 J n ?_;refine C (D J (C (aR aGh J (P 0 J m) J (A J ?_))));obtain ⟨l,h,g⟩:=L o;refine mT (v:=.bool l) b 0 J J J J (fun H le=>⟨_,e,l,J,J,h,J⟩) (nt J J (D J (bH ?_)));cases g;exact cK J J

theorem ZL (j:H.le (hp W)) {p:Option Addr} {o:Nat} {bj:List aE} (y:Sl (I bY) 1 H p o bj) {q:Value} {right:aE→Option Bool} (s:eP M prog H q (fC Vs Value.bool right)) {r:Bool} (z:FL bj right=some r):Calls prog 248 #[.slice p bj.length o,q] W (bJ M W (.bool r)):=by
 have b:=s;obtain ⟨f,e,d,rfl,_,_⟩:=s;refine aK (M:=M) func248 J ntmps248 J j ?_;refine C (bI J J J fun u R k=>(D J (C (A J (fn J J J ?_)))));obtain ⟨G,n,m⟩:=L z
 refine mG (v:=.bool G) C36 J J J J (fun w H j le=>by
   have l:eP M prog H (.func (.func 298) #[] #[.pointer (some u)]) (fC Vs Value.bool (fun c=>xS c right)):=⟨298,[],[.pointer (some u)],rfl,aFo,fun Z x g Y t B hs=>by obtain ⟨K,c,V,rfl,h,F,rfl⟩:=hs;cases h;exact aI8 (H:=x) B  c (bx:=right) (k.mono ((le.at 0 rfl).trans t)) (b.mono ((le.at 1 rfl).trans t)) F⟩
   exact w36 j (y.mono (I.mono _) le.i) (cg:=(fun c=>xS c right)) l n) ?_
 refine nt J J (D J (bH ?_));cases m;exact cK J J

theorem ZM {M:Prop} {W:World} (e:Int) (low:Int) (c:Int) {r:Bool} (i:FM e low c=some r):Calls prog 253 #[.int .i64 e,.int .i64 low,.int .i64 c] W (bJ M W (.bool r)):=by
 refine aK (M:=M) func253 J ntmps253 J (Hp.le.refl _) ?_;refine C (D J (sq ?_));obtain ⟨j,d,f⟩:=L i;refine eU [] [(6,.bool j)] J ?_ ?_
 ·refine rg (A J (A J (jN J J J (A J ?_))));by_cases b:low≤e
  ·have g:=aJ b d;refine gt b J (A J (gt b J (A J (gt b J (jN J J J (pt b J J (D J ?_)))))));cases g;exact cuE J
  have h:=aS b d;refine cC 3 J J J (decide_eq_false b) J (pf b J J (D J ?_));cases h;exact cuE J
 refine bH ?_;cases f;exact cK J J

theorem aI9 (n:H.le (hp W)) (e:Int) {i:Addr} {k:Value} {bx:Int→Option Bool} (m:aN H i [k]) (j:eP M prog H k (fC (Vi .u8) Value.bool bx)) {r:Bool} (o:xU e bx=some r):Calls prog 319 #[.int .u8 e,.pointer (some i)] W (bJ M W (.bool r)):=by
 have b:=j;obtain ⟨f,d,c,rfl,_,_⟩:=j;refine aK (M:=M) func319 J ntmps319 J n ?_;refine C (D J (C (aR TF J (P 0 J m) J (A J ?_))));obtain ⟨l,h,g⟩:=L o;refine mT (v:=.bool l) b 0 J J J J (fun H le=>⟨_,e,l,J,J,h,J⟩) (nt J J (D J (bH ?_)));cases g;exact cK J J

theorem aJa (j:H.le (hp W)) {p:Option Addr} {o:Nat} {bj:List UInt8} (y:Sl (I cH) 1 H p o bj) {q:Value} {right:Int→Option Bool} (s:eP M prog H q (fC (Vi .u8) Value.bool right)) {r:Bool} (z:LY bj right=some r):Calls prog 299 #[.slice p bj.length o,q] W (bJ M W (.bool r)):=by
 have b:=s;obtain ⟨f,e,d,rfl,_,_⟩:=s;refine aK (M:=M) func299 J ntmps299 J j ?_;refine C (bI J J J fun u R k=>(D J (C (A J (fn J J J ?_)))));obtain ⟨G,n,m⟩:=L z
 refine mG (v:=.bool G) TA J J J J (fun w H j le=>by
   have l:eP M prog H (.func (.func 319) #[] #[.pointer (some u)]) (fC (Vi .u8) Value.bool (fun c=>xU c right)):=⟨319,[],[.pointer (some u)],rfl,aF0,fun Z x g Y t B hs=>by obtain ⟨K,c,V,rfl,h,F,rfl⟩:=hs;cases h;exact aI9 (H:=x) B  c (bx:=right) (k.mono ((le.at 0 rfl).trans t)) (b.mono ((le.at 1 rfl).trans t)) F⟩
   exact UA j (y.mono (I.mono _) le.i) (cg:=(fun c=>xU c right)) l n) ?_
 refine nt J J (D J (bH ?_));cases m;exact cK J J

theorem aJb {M:Prop} {W:World} (d:Int) {r:Bool} (h:AX d=some r):Calls prog 300 #[.int .u8 d] W (bJ M W (.bool r)):=by
 refine aK (M:=M) func300 J ntmps300 J (Hp.le.refl _) ?_;refine C (D J (sq ?_));obtain ⟨i,c,e⟩:=L h;refine eU [] [(2,.bool i)] J ?_ ?_
 ·refine rg (A J (jN J J J (A J ?_)));by_cases b:(33:Int)≤d
  ·have f:=aJ b c;refine gt b J (A J (gt b J (jN J J J (pt b J J (D J ?_)))));cases f;exact cuE J
  have g:=aS b c;refine cC 2 J J J (decide_eq_false b) J (pf b J J (D J ?_));cases g;exact cuE J
 refine bH ?_;cases e;exact cK J J

theorem ZN {M:Prop} {W:World} (ai:aE) {r:Bool} (z:oW ai=some r):Calls prog 249 #[.string (bs ai)] W (bJ M W (.bool r)):=by
 refine aK (M:=M) func249 J ntmps249 J (Hp.le.refl _) ?_;refine C (D J (sq ?_));obtain ⟨K,i,j⟩:=L z;refine eU [] [(2,.bool K)] J ?_ ?_
 ·refine rg (A J (uL U9 J J ?_));obtain ⟨F,k,f⟩:=L i;refine bB YD J (fun w H g le=>ZM (ai.length:Int) 1 20 k) (A J ?_);rcases Bool.eq_false_or_eq_true (F) with b|b
  ·have l:=aJ b f;refine gN J J (b) (A J (gN J J (b) ?_));obtain ⟨m,n⟩:=aF l;refine cvB U9 mB U5 J J m fun Y Z h p=>?_;refine gN J J (b) ?_;obtain ⟨G,q,t⟩:=L n
   refine mG (v:=.bool G) aFp J J J J (fun w H g le=>by
     have u:eP M prog H (.func (.func 300) #[] #[]) (fC (Vi .u8) Value.bool (AX)):=⟨300,[],[],rfl,aFq,fun w_ V c v_ hK hw hs=>by obtain ⟨R,e,r_,rfl,d,B,rfl⟩:=hs;cases d;exact aJb  e  B⟩
     exact aJa g (p.mono (I.mono _) le.o) (right:=(AX)) u q) ?_
   refine pT J J (b) J (D J ?_);cases t;intro a w y s;exact ⟨y.selH [1] J,s.cuE J⟩
  have x:=bK b f;refine cC 3 J J J (b) J (pF J J (b) J (D J ?_));cases x;exact cuE J
 refine bH ?_;cases j;exact cK J J

theorem aJc (e:H.le (hp W)) {m:List Value} (o:aW) (n:(aZ) H m o) {r:Bool} (s:FN o=some r):Calls prog 250 #[.agg m.toArray] W (bJ M W (.bool r)):=by
 have b:=n;obtain ⟨p,l,rfl,h⟩:=n;refine aK (M:=M) func250 J ntmps250 J e ?_;refine C (bI J J J fun G y f=>(D J (C (aU 4 fJ J AA (aR wF J ((P 0 J f).drop 4) J ?_)))));obtain ⟨u,j,q⟩:=L s
 refine mG (v:=.bool u) YB J J J J (fun w H e le=>by
   have g:eP M prog H (.func (.func 249) #[] #[]) (fC Vs Value.bool (oW)):=⟨249,[],[],rfl,YC,fun V z c R B F hs=>by obtain ⟨x,k,K,rfl,d,t,rfl⟩:=hs;cases d;exact ZN  k  t⟩
   exact ZL e (h.mono (I.mono _) le.i) (right:=(oW)) g j) ?_
 refine D J (bH ?_);cases q;exact cK J J

theorem aJd (f:H.le (hp W)) {q:List Value} (s:bT) (t:(cN) H q s) {r:Bool} (hr:LZ s=some r):Calls prog 247 #[.agg q.toArray] W (bJ M W (.bool r)):=by
 have h:=t;obtain ⟨z,o,B,p,rfl,j,k⟩:=t;refine aK (M:=M) func247 J ntmps247 J f ?_;refine C (bI J J J fun q7 K8 g=>(D J (sq ?_)));obtain ⟨t21,F,G⟩:=L hr;refine eU [] [(2,.bool t21)] J ?_ ?_
 ·refine rg (aU 0 vW J AA (aR wF J ((P 0 J g).take 1) J ?_));obtain ⟨y,K,u⟩:=L F
  refine mG (v:=.bool y) YB J J J J (fun w H f le=>by
    have R:eP M prog H (.func (.func 249) #[] #[]) (fC Vs Value.bool (oW)):=⟨249,[],[],rfl,YC,fun w_ n d v_ hK x hs=>by obtain ⟨m,e,r_,rfl,b,l,rfl⟩:=hs;cases b;exact ZN  e  l⟩
    exact ZL f (j.mono (I.mono _) le.i) (right:=(oW)) R K) ?_
  refine A J ?_;rcases Bool.eq_false_or_eq_true (y) with c|c
  ·have V:=aJ c u;refine gN J J (c) (aU 1 vW J yJ (gN J J (c) (aR BH J ((P 0 J g).drop 1) J (gN J J (c) ?_))));obtain ⟨r1,Y,Z⟩:=L V
   refine mG (v:=.bool r1) GO J J J J (fun w H f le=>by
     have h9:eP M prog H (.func (.func 250) #[] #[]) (fC (Vr aZ) Value.bool (FN)):=⟨250,[],[],rfl,aE2,fun w_ n d v_ hK x hs=>by obtain ⟨m,e,r_,rfl,b,l,rfl⟩:=hs;obtain ⟨_,rfl,b⟩:=b;exact aJc (H:=n) x  e b  l⟩
     exact HF f (k.mono (aZ.mono) le.i) (right:=(FN)) h9 Y) ?_
   refine pT J J (c) J (D J ?_);cases Z;exact cuE J
  have hA:=bK c u;refine cC 3 J J J (c) J (pF J J (c) J (D J ?_));cases hA;exact cuE J
 refine bH ?_;cases G;exact cK J J

theorem aJe (j:H.le (hp W)) {h:List Value} (c:aW) (i:(aZ) H h c) {r:Bool} (m:FO c=some r):Calls prog 252 #[.agg h.toArray] W (bJ M W (.bool r)):=by
 have b:=i;obtain ⟨k,g,rfl,l⟩:=i;refine aK (M:=M) func252 J ntmps252 J j ?_;refine C (bI J J J fun o n d=>(D J (C (aU 0 fJ J Z3 (aR G3 J ((P 0 J d).take 1) J ?_)))));obtain ⟨r7,f,e⟩:=L m;refine bB YD J (fun w H j le=>ZM c.number 1 999 f) (D J (bH ?_));cases e;exact cK J J

theorem aJf (e:H.le (hp W)) {l:List Value} (m:bT) (n:(cN) H l m) {r:Bool} (y:SF m=some r):Calls prog 251 #[.agg l.toArray] W (bJ M W (.bool r)):=by
 have c:=n;obtain ⟨p,j,q,k,rfl,x,g⟩:=n;refine aK (M:=M) func251 J ntmps251 J e ?_;refine C (bI J J J fun R G f=>(D J (C (aU 1 vW J yJ (aR BH J ((P 0 J f).drop 1) J ?_)))));obtain ⟨r11,s,t⟩:=L y
 refine mG (v:=.bool r11) GO J J J J (fun w H e le=>by
   have u:eP M prog H (.func (.func 252) #[] #[]) (fC (Vr aZ) Value.bool (FO)):=⟨252,[],[],rfl,aE4,fun Z o d Y K z hs=>by obtain ⟨F,h,V,rfl,b,B,rfl⟩:=hs;obtain ⟨_,rfl,b⟩:=b;exact aJe (H:=o) z  h b  B⟩
   exact HF e (g.mono (aZ.mono) le.i) (right:=(FO)) u s) ?_
 refine D J (bH ?_);cases t;exact cK J J

theorem BS (hH:H.le (hp W)) {ce:List Value} (cm:bT) (cq:(cN) H ce cm) {r:(List (Int×aW))} (hr:tI cm=some r):Calls prog 255 #[.agg ce.toArray] W (eY M H W (fun v K=>∃ (s:Value),v=s∧DP fT (aZ) K s r)):=by
 have t:=cq;obtain ⟨ac,aa,ad,ab,rfl,ae,m⟩:=cq;have:=m.len;refine aK (M:=M) func255 J ntmps255 J hH ?_;refine C (bI J J J fun q7 V F=>(D J (C (OC 1 fT (fun v:Value=>v) J fun Z=>?_))));have p:tZ (aZ) H ([]:List (Int×Value)) ([]:List (Int×aW)):=tv;refine D J (sq (C (aU 1 vW J yJ (aR BH J ((P 0 J F).drop 1) J (dU uB J J (A J (N ?_)))))));obtain ⟨x,h7,h8⟩:=L hr;refine gG [3] J (fun G a w=>∃ (y:List (Int×Value)) (h:Hp),St M W H [h,V,H] [(1,S.map' fT (fun v:Value=>v) Z y)] w∧bQ [] 20 a G∧tZ (aZ) h y x) ?_ ?_
 ·refine bk ?_;refine jZ [3,8,9] J h7 (fun G u a w=>∃ (n:List (Int×Value)) (f:Hp),St M W H [f,V,H] [(1,S.map' fT (fun v:Value=>v) Z n)] w∧bQ [] 20 a ((10,.int .i64 (u.1:Int))::G)∧tZ (aZ) f n u.2) ?_ ?_
  ·intro a w c d;exact ⟨([]:List (Int×Value)),H,c.selH [1,0,1] J,d.cuE J,p⟩
  rintro j u y0 h4 h5 a w ⟨n,f,c,d,g⟩;refine TG.ap ?_ c d;refine C (dS J J J (N (sq ?_)));refine ci J (fun z=>?_) (fun z=>?_)
  ·have h9:=aJ z h4;refine sk (sq (bk (C ?_)));obtain ⟨b,B,hB⟩:=L h9;obtain ⟨p0,rfl⟩:=m.adr B;obtain ⟨c1,hG,hC,h6⟩:=m.at B;have hE:=h6;obtain ⟨Y,c0,rfl,hI⟩:=h6
   let k:List Value:=[.int .i64 b.number,.int .i64 b.of,.int .i64 b.from_,.int .i64 b.to_,.slice Y b.words.length c0]
   refine cP uB iE J J J J (aT B) (cM nU iE J J (P 2 J hC) J (va zeroValue234 iE J J J J J J J J fun q0 R e=>(N (rg (A J (aU 0 fJ J Z3 (aR G3 J ((P 0 J e).take 1) J (cM nU iE J J (P 0 J e) J (TG.pack (fun K=>tZ (aZ) K (put n b.number (.agg k.toArray)) (put u.2 b.number b)) (fun H le=>(g.mono (aZ.mono) le.i).put (cs:=k) (aZ.mono _ _ _ _ le.v hE)) fun o l=>(II 1 (ke:=fT) (enc:=fun v:Value=>v) b.number (.agg k.toArray) tT U3 J J J J (N ?_)))))))))));refine rg (dN J J J (by omega) (A J (N ?_)));cases hB;intro a w c d;exact ⟨_,h5,(put n b.number (Value.agg #[Value.int .i64 b.number,Value.int .i64 b.of,Value.int .i64 b.from_,Value.int .i64 b.to_,Value.slice Y b.words.length c0])),o,c.selH [0,3,4] J,d.cuE J,l⟩
  have hF:=aS z h4;refine xt J ?_;cases hF;obtain rfl:=dF.out h5;intro a w c d;exact ⟨n,f,c,d.cuE J,g⟩
 rintro a w ⟨y,h,c,d,q⟩;apply TG.ap ?_ c d;refine C (A J (D J (bH ?_)));cases h8;intro a w c d;refine dT d J J ?_;exact ⟨⟨_,J,⟨_,(c.mapOut 1 J),(q.mono (aZ.mono) (c.grow 0 J))⟩⟩,c.ext⟩

theorem aJg (i:H.le (hp W)) {n:List Value} (e:bT) (o:(cN) H n e) {r:Bool} (V:SG e=some r):Calls prog 254 #[.agg n.toArray] W (bJ M W (.bool r)):=by
 have b:=o;obtain ⟨t,l,v,m,rfl,F,R⟩:=o;refine aK (M:=M) func254 J ntmps254 J i ?_;refine C (bI J J J fun q7 Z c=>(D J (sq ?_)));obtain ⟨r10,y,z⟩:=L V;refine eH 6 mixed (by kernel_rfl) J (E J (cM pJ lC J J (P 1 J c) J aG) ?_)
 refine DF.und (α:=Value) (default) (fun q=>q) (fun (q:Value) K=>DP fT (aZ) K q r10) (fun _ _ _ h x=>x.mono (aZ.mono) h) (by kernel_rfl) J (fun a w K j g d=>TG.pa j g (gW BD J J J J (fun w H i le=>BS i e (cN.mono _ _ _ _ le.u b) y) (by
   rintro k p ⟨_,rfl,B⟩
   exact nJ (f:=fun q=>q) (G:=(fun (q:Value) K=>DP fT (aZ) K q r10)) (k) (fun _ _ _ h x=>x.mono (aZ.mono) h) B))) fun Y=>?_
 refine DF.det J (fun a w K j g d=>TG.pa j g (aCr tT J J 0 J (d.1 J) aG)) (E J (aU 1 vW J yJ aG) (E J (aR BH J ((P 1 J c).drop 1) J aG) (E J (dU uB J J aG) (DF.nil fun s d=>?_))));obtain ⟨h3,_⟩:=d;refine fZ J J J (D J (bH ?_));cases z;exact cK J J

theorem aJh (B:H.le (hp W)) {i:List Value} (d:aW) (j:(aZ) H i d) {g:Addr} {l:Value} {bx:List (Int×aW)} (q:aN H g [l]) (s:DP fT (aZ) H l bx) {r:Bool} (G:FP d bx=some r):Calls prog 257 #[.agg i.toArray,.pointer (some g)] W (bJ M W (.bool r)):=by
 have f:=j;obtain ⟨p,h,rfl,F⟩:=j;refine aK (M:=M) func257 J ntmps257 J B ?_;refine C (bI J J J fun q4 R c=>(D J (sq ?_)));obtain ⟨K,m,t⟩:=L G;refine eU [] [(3,.bool K)] J ?_ ?_
 ·refine rg (aU 1 fJ J Z3 (aR G3 J (((P 0 J c).drop 1).take 1) J (fZ J J J (A J ?_))));by_cases b:d.of=0
  ·have u:=aJ b m;refine cC 8 J J J (decide_eq_true b) J (pt b J J (D J ?_));cases u;exact cuE J
  have v:=aS b m;refine dJ b J (aR aGq J (P 1 J q) J (dJ b J (aU 1 fJ J Z3 (dJ b J (aR G3 J (((P 0 J c).drop 1).take 1) J (dJ b J ?_))))));obtain ⟨h8,x,e⟩:=s;obtain ⟨Y,y,n⟩:=e.get (k:=d.of) (zc:=[.int .i64 0,.int .i64 0,.int .i64 0,.int .i64 0,.slice none 0 0]) (z:=(⟨0,0,0,0,([]:List aE)⟩:aW)) ⟨_,_,J,Sl.o⟩;refine QP (ke:=fT) d.of tT U3 zeroValue234 J J J (mS 1 J x) y ?_;have h9:=n;obtain ⟨V,Z,rfl,hA⟩:=n;refine dJ b J (fd fJ J J J G3 J (dJ b J (aU 1 fJ J Z3 (dJ b J (aR G3 J (((P 0 J c).drop 1).take 1) J (dJ b J (fZ J J J (pf b J J (D J ?_)))))))));cases v;exact cuE J
 refine bH ?_;cases t;exact cK J J

theorem aJi (e:H.le (hp W)) {n:List Value} (j:bT) (o:(cN) H n j) {r:Bool} (Y:SH j=some r):Calls prog 256 #[.agg n.toArray] W (bJ M W (.bool r)):=by
 have c:=o;obtain ⟨y,l,z,m,rfl,V,k⟩:=o;refine aK (M:=M) func256 J ntmps256 J e ?_;refine C (bI J J J fun q7 K8 g=>(D J (C (cM pJ lC J J (P 0 J g) J ?_))));obtain ⟨r10,B,F⟩:=L Y;refine gW BD J J J J (fun w H e le=>BS e j (cN.mono _ _ _ _ le.i c) B) ?_;rintro aa t ⟨_,rfl,p⟩;obtain ⟨b0,rfl⟩:=DP.isMap p;refine va zeroValue345 aG0 J J J J J J J J fun s u f=>(N (C (aU 1 vW J yJ (aR BH J ((P 2 J g).drop 1) J (fn J J J ?_)))));obtain ⟨r0,G,K⟩:=L F
 refine mG (v:=.bool r0) GO J J J J (fun w H e le=>by
   have R:eP M prog H (.func (.func 257) #[] #[.pointer (some s)]) (fC (Vr aZ) Value.bool (fun b=>FP b r10)):=⟨257,[],[.pointer (some s)],rfl,aE7,fun w_ x h v_ q Z hs=>by obtain ⟨ab,b,r_,rfl,d,hx,rfl⟩:=hs;obtain ⟨_,rfl,d⟩:=d;exact aJh (H:=x) Z  b d (bx:=r10) (f.mono ((le.at 0 rfl).trans q)) (p.mono (aZ.mono) ((le.at 1 rfl).trans q)) hx⟩
   exact HF e (k.mono (aZ.mono) le.v) (right:=(fun b=>FP b r10)) R G) ?_
 refine D J (bH ?_);cases K;exact cK J J

end T12
