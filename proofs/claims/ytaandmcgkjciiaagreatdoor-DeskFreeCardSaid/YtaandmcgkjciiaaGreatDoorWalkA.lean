/-
 Walks of functions of a session: each call comes to what the model says. Printed by a program of ours.
-/
import Derived.Test.YtaandmcgkjciiaaGreatDoorMade
set_option linter.all false
set_option maxHeartbeats 4000000
namespace T12
open Go Go.Proofs Pk Tryz
open Pk renaming m1→A,aB→C,aC→D,dt→E,aD→I,aA→L,on→N,sS→P,aP→S
open T12 renaming aQ→U
theorem X {D:List Deferred} {k:Nat} {M:Prop} {w0:World} {H0:Hp} {Hs:List Hp} {σ:aK} {L:cA} {N:aR} (h:TG ⟨D,k,M,w0,H0⟩ Hs σ L N):∀ a w,St M w0 H0 Hs σ w∧aT D k a L→N a w:=fun a w z=>h a w z.1 z.2
variable {M:Prop} {W:World} {H:Hp}
theorem w22 {M:Prop} {W:World} (line:aF) (h:Int) {r:Int} (n:PU line h=some r):Calls prog 22 #[.string (bs line),.int .i64 h] W (bP M W (.int .i64 r)):=by
 unfold PU at n;refine aM (M:=M) func22 J ntmps22 J (Hp.le.refl _) ?_;refine C (I J (sq ?_));obtain ⟨f,o,p⟩:=L n;refine jn (fun a w=>St M W (hp W) [(hp W)] [] w∧aT [] 18 a [(1,.int .i64 f)]) ?_ ?_
 ·refine bk ?_;refine lp o (fun e a w=>St M W (hp W) [(hp W)] [] w∧aT [] 18 a [(0,.string (bs line)),(1,.int .i64 e)]) ?_ ?_
  ·exact cuE J
  rintro j e K i k a w ⟨d,c⟩;refine TG.ap ?_ d c;unfold CN at i;refine sq (sq ?_);obtain ⟨t31,l,m⟩:=L i;refine jn (fun a w=>St M W (hp W) [(hp W)] [] w∧aT [] 18 a [(0,.string (bs line)),(1,.int .i64 e),(14,.bool t31)]) ?_ ?_
  ·refine rg (A J (A J (uN U9 J J (dU J J J (A J ?_)))));by_cases b:e < (line.length:Int)
   ·have q:=aJ b l;refine gt b J (A J (gt b J (A J (gt b J ?_))));obtain ⟨G,s⟩:=aE q;obtain ⟨F,t,u⟩:=L s;have:=UInt8.toNat_lt F;refine MR U9 J J J (by omega) t (gt b J (lE J J J (pt b J J (N ?_))));cases u;exact cuE J
   have v:=aX b l;refine cH 4 J J J (decide_eq_false b) J (pf b J J (N ?_));cases v;exact cuE J
  refine X ?_;refine cb J (fun g=>?_) (fun g=>?_)
  ·have x:=aJ g m;refine sk (bk (rg (A J ?_)));obtain ⟨y,z⟩:=aE x;refine dN J J J y (I J ?_);cases z;intro a w d c;exact ⟨_,k,d,c.cuE J⟩
  have B:=bM g m;refine xt J ?_;cases B;obtain rfl:=dI.out k;exact cuE J
 rintro a w ⟨d,c⟩;apply TG.ap ?_ d c;refine C (A J (I J (bK ?_)));cases p;exact cQ J J

theorem w23 {M:Prop} {W:World} (cN:aF) {r:Int×Bool} (hr:PV cN=some r):Calls prog 23 #[.string (bs cN)] W (bP M W (.tuple #[.int .i64 r.1,.bool r.2])):=by
 unfold PV at hr;refine aM (M:=M) func23 J ntmps23 J (Hp.le.refl _) ?_;refine C (a1 J (I J (sq (C (A J (N (bk (sq ?_))))))));refine rg (pP J J J (I J ?_));refine ci J (fun h=>?_) (fun h=>?_)
 ·have B:=aJ h hr;refine C (a1 J (I J (bK ?_)));cases B;exact oX J J J
 have hJ:=aX h hr;refine C (pP J J J (I J ?_));refine ci J (fun i=>?_) (fun i=>?_)
 ·have K:=aJ i hJ;refine C (a1 J (I J (bK ?_)));cases K;exact oX J J J
 have Y:=aX i hJ;refine sq (C (pP J J J (I J ?_)));obtain ⟨t0,hK,hL⟩:=L Y;refine jn (fun a w=>St M W (hp W) [(hp W)] [] w∧aT [] 32 a [(4,.string (bs cN)),(9,.bool t0)]) ?_ ?_
 ·refine ci J (fun j=>?_) (fun j=>?_)
  ·have aa:=aJ j hK;refine sk ?_;cases aa;exact cuE J
  have ac:=aX j hK;refine C (pP J J J (I J ?_));obtain ⟨t1,hM,ae⟩:=L ac;refine jn (fun a w=>St M W (hp W) [(hp W)] [] w∧aT [] 32 a [(4,.string (bs cN)),(9,.bool t1)]) ?_ ?_
  ·refine ci J (fun k=>?_) (fun k=>?_)
   ·have ag:=aJ k hM;refine sk ?_;cases ag;exact cuE J
   have ah:=aX k hM;refine C (pP J J J (I J ?_));obtain ⟨t2,hN,ai⟩:=L ah;refine jn (fun a w=>St M W (hp W) [(hp W)] [] w∧aT [] 32 a [(4,.string (bs cN)),(9,.bool t2)]) ?_ ?_
   ·refine ci J (fun l=>?_) (fun l=>?_)
    ·have aj:=aJ l hN;refine sk ?_;cases aj;exact cuE J
    have ak:=aX l hN;refine rg (pP J J J (I J ?_));cases ak;exact cuE J
   rintro a w ⟨c,b⟩;refine TG.apJ ?_ c b;cases ai;exact cuE J
  rintro a w ⟨c,b⟩;refine TG.apJ ?_ c b;cases ae;exact cuE J
 refine X ?_;refine cb J (fun m=>?_) (fun m=>?_)
 ·have am:=aJ m hL;refine C (a1 J (I J (bK ?_)));cases am;exact oX J J J
 have hO:=bM m hL;refine C (pP J J J (I J ?_));refine ci J (fun n=>?_) (fun n=>?_)
 ·have an:=aJ n hO;refine C (a1 J (I J (bK ?_)));cases an;exact oX J J J
 have ao:=aX n hO;refine sq (C (pP J J J (I J ?_)));obtain ⟨t3,hP,hR⟩:=L ao;refine jn (fun a w=>St M W (hp W) [(hp W)] [] w∧aT [] 32 a [(4,.string (bs cN)),(16,.bool t3)]) ?_ ?_
 ·refine ci J (fun o=>?_) (fun o=>?_)
  ·have ap:=aJ o hP;refine sk ?_;cases ap;exact cuE J
  have aq:=aX o hP;refine C (pP J J J (I J ?_));obtain ⟨t4,hT,ar⟩:=L aq;refine jn (fun a w=>St M W (hp W) [(hp W)] [] w∧aT [] 32 a [(4,.string (bs cN)),(16,.bool t4)]) ?_ ?_
  ·refine ci J (fun p=>?_) (fun p=>?_)
   ·have au:=aJ p hT;refine sk ?_;cases au;exact cuE J
   have aw:=aX p hT;refine rg (pP J J J (I J ?_));cases aw;exact cuE J
  rintro a w ⟨c,b⟩;refine TG.apJ ?_ c b;cases ar;exact cuE J
 refine X ?_;refine cb J (fun q=>?_) (fun q=>?_)
 ·have ax:=aJ q hR;refine C (a1 J (I J (bK ?_)));cases ax;exact oX J J J
 have hV:=bM q hR;refine C (pP J J J (I J ?_));refine ci J (fun t=>?_) (fun t=>?_)
 ·have ay:=aJ t hV;refine C (a1 J (I J (bK ?_)));cases ay;exact oX J J J
 have az:=aX t hV;refine sq (C (pP J J J (I J ?_)));obtain ⟨t5,hW,hX⟩:=L az;refine jn (fun a w=>St M W (hp W) [(hp W)] [] w∧aT [] 32 a [(4,.string (bs cN)),(22,.bool t5)]) ?_ ?_
 ·refine ci J (fun v=>?_) (fun v=>?_)
  ·have s:=aJ v hW;refine sk ?_;cases s;exact cuE J
  have u:=aX v hW;refine C (pP J J J (I J ?_));obtain ⟨t6,d,x⟩:=L u;refine jn (fun a w=>St M W (hp W) [(hp W)] [] w∧aT [] 32 a [(4,.string (bs cN)),(22,.bool t6)]) ?_ ?_
  ·refine ci J (fun z=>?_) (fun z=>?_)
   ·have y:=aJ z d;refine sk ?_;cases y;exact cuE J
   have F:=aX z d;refine rg (pP J J J (I J ?_));cases F;exact cuE J
  rintro a w ⟨c,b⟩;refine TG.apJ ?_ c b;cases x;exact cuE J
 refine X ?_;refine cb J (fun G=>?_) (fun G=>?_)
 ·have R:=aJ G hX;refine C (a1 J (I J (bK ?_)));cases R;exact oX J J J
 have e:=bM G hX;refine C (pP J J J (I J ?_));refine ci J (fun V=>?_) (fun V=>?_)
 ·have Z:=aJ V e;refine C (a1 J (I J (bK ?_)));cases Z;exact oX J J J
 have f:=aX V e;refine C (pP J J J (I J ?_));refine ci J (fun hH=>?_) (fun hH=>?_)
 ·have ab:=aJ hH f;refine C (a1 J (I J (bK ?_)));cases ab;exact oX J J J
 have g:=aX hH f;refine C (pP J J J (I J ?_));refine ci J (fun hI=>?_) (fun hI=>?_)
 ·have ad:=aJ hI g;refine C (a1 J (I J (bK ?_)));cases ad;exact oX J J J
 have af:=aX hI g;refine sk (C (a1 J (I J (bK ?_))));cases af;exact oX J J J

theorem w24 {M:Prop} {W:World} (ai:aF) {r:Int×Bool} (hr:KY ai=some r):Calls prog 24 #[.string (bs ai)] W (bP M W (.tuple #[.int .i64 r.1,.bool r.2])):=by
 unfold KY at hr;refine aM (M:=M) func24 J ntmps24 J (Hp.le.refl _) ?_;refine C (a1 J (I J (sq ?_)));obtain ⟨k,l,a4⟩:=L hr;refine jn (fun a w=>St M W (hp W) [(hp W)] [] w∧aT [] 69 a [(0,.string (bs ai)),(4,.bool k)]) ?_ ?_
 ·refine rg (A J (uN U9 J J (lW J J J (A J ?_))));by_cases e:0 < (ai.length:Int)
  ·have hR:=aJ e l;refine gt e J (A J (gt e J ?_));obtain ⟨x3,hT,hV⟩:=L hR;have:=UInt8.toNat_lt x3;refine MR U9 J J J J hT (gt e J (fE J J J (pt e J J (I J ?_))));cases hV;exact cuE J
  have hW:=aX e l;refine cH 3 J J J (decide_eq_false e) J (pf e J J (I J ?_));cases hW;exact cuE J
 refine X ?_;refine C (A J (I J (sq (C (A J (N ?_))))));obtain ⟨t21,hF,hX⟩:=L a4;refine jn (fun a w=>St M W (hp W) [(hp W)] [] w∧aT [] 69 a [(4,.bool k),(5,.string (bs t21))]) ?_ ?_
 ·refine cb J (fun o=>?_) (fun o=>?_)
  ·have t:=aJ o hF;refine rg (A J ?_);obtain ⟨x,B⟩:=aE t;refine ssF 1 U9 J J J J x (I J ?_);cases B;exact cuE J
  have G:=bM o hF;refine sk ?_;cases G;exact cuE J
 refine X ?_;refine sq (sq ?_);obtain ⟨t44,hG,hH⟩:=L hX;refine jn (fun a w=>St M W (hp W) [(hp W)] [] w∧aT [] 69 a [(4,.bool k),(5,.string (bs t21)),(40,.bool t44)]) ?_ ?_
 ·refine rg (A J (uN U9 J J (fE J J J (A J ?_))));by_cases f:(t21.length:Int)=0
  ·have V:=aJ f hG;refine cH 3 J J J (decide_eq_true f) J (pt f J J (A J (cH 4 J J J J J (gU J J J (gU J J J (gU J J J (gU J J J (gU J J J (gU J J J (gF J J J J (pT J J J J ?_)))))))))));refine N ?_;cases V;exact cuE J
  have hI:=aX f hG;refine cW f J (A J (cW f J (uN U9 J J (cW f J (lW J J J (pf f J J (A J ?_)))))));by_cases b:9 < (t21.length:Int)
  ·have Z:=aJ b hI;refine cH 4 J J J (decide_eq_true b) J (gU J J J (gU J J J (gU J J J (gU J J J (gU J J J (gU J J J (zL b J (pt b J J (N ?_)))))))));cases Z;exact cuE J
  have ab:=aX b hI;refine cW b J (A J (cW b J ?_));obtain ⟨x0,ad,hJ⟩:=L ab;have:=UInt8.toNat_lt x0;refine MR U9 J J J J ad (cW b J (fE J J J (cW b J (A J ?_))));by_cases c:(x0.toNat:Int)=48
  ·have hK:=aJ c hJ;refine gt c J (A J (gt c J (uN U9 J J (gt c J (lW J J J (gt c J (A J ?_)))))));by_cases i:1 < (t21.length:Int)
   ·have af:=aJ i hK;refine zL i J (gt c J (pt i J J (cW b J (pt c J J (pf b J J (N ?_))))));cases af;exact cuE J
   have ag:=aX i hK;refine cW i J (A J (gt c J (pf i J J (cW b J (pt c J J (pf b J J (N ?_)))))));cases ag;exact cuE J
  have ah:=aX c hJ;refine cH 4 J J J (decide_eq_false c) J (gU J J J (gf c J (cW b J (pf c J J (pf b J J (N ?_))))));cases ah;exact cuE J
 refine X ?_;refine cb J (fun p=>?_) (fun p=>?_)
 ·have aj:=aJ p hH;refine C (a1 J (I J (bK ?_)));cases aj;exact oX J J J
 have ak:=bM p hH;refine sk (C (I J (sq (C (I J ?_)))));obtain ⟨n,am,hL⟩:=L ak;refine jn (fun a w=>∃ t0,n=.inl t0∧St M W (hp W) [(hp W)] [] w∧aT [] 69 a [(4,.bool k),(6,.int .i64 t0)]) ?_ ?_
 ·refine bk ?_;refine lp am (fun m a w=>St M W (hp W) [(hp W)] [] w∧aT [] 69 a [(4,.bool k),(5,.string (bs t21)),(6,.int .i64 m.2),(7,.int .i64 (m.1:Int))]) ?_ ?_
  ·exact cuE J
  rintro j m y0 q s a w ⟨h,g⟩;refine TG.ap ?_ h g;unfold yC at q;refine sq (C (A J (A J (uN U9 J J (dU J J J (N ?_))))));refine ci J (fun v=>?_) (fun v=>?_)
  ·have an:=aJ v q;refine sk (sq (bk (sq (sq ?_))));obtain ⟨t1,ao,hM⟩:=L an;refine jn (fun a w=>St M W (hp W) [(hp W)] [] w∧aT [] 69 a [(4,.bool k),(5,.string (bs t21)),(6,.int .i64 m.2),(7,.int .i64 (m.1:Int)),(56,.bool t1)]) ?_ ?_
   ·refine rg (A J (A J ?_));obtain ⟨x1,hN,hO⟩:=L ao;have:=UInt8.toNat_lt x1;refine MR U9 J J J J hN (dU J J J (A J ?_));by_cases d:(x1.toNat:Int) < 48
    ·have aq:=aJ d hO;refine cH 4 J J J (decide_eq_true d) J (pt d J J (N ?_));cases aq;exact cuE J
    have ar:=aX d hO;refine cW d J (A J (cW d J (A J (cW d J (MR U9 J J J J hN (cW d J (lW J J J (pf d J J (N ?_)))))))));cases ar;exact cuE J
   refine X ?_;refine cb J (fun z=>?_) (fun z=>?_)
   ·have au:=aJ z hM;refine C (a1 J (I J (bK ?_)));cases au;obtain rfl:=dI.out s;cases hL;exact oX J J J
   have aw:=bM z hM;refine sk (rg (A J ?_));obtain ⟨ax,ay⟩:=aE aw;refine VW J J J ax (A J (A J ?_));obtain ⟨x2,az,a0⟩:=L ay;have:=UInt8.toNat_lt x2;refine MR U9 J J J J az (XX (((x2.toNat:Int) - 48)%256) J J J (NE _) (xN U5 U3 J J (lF (by omega)) ?_));obtain ⟨a2,a3⟩:=aE a0;refine dN J J J a2 (I J (rg (A J ?_)));obtain ⟨u,y⟩:=aE a3;refine dN J J J u (I J ?_);cases y;intro a w h g;exact ⟨_,s,h,g.cuE J⟩
  have F:=aX v q;refine xt J ?_;cases F;obtain rfl:=dI.out s;intro a w h g;exact ⟨_,J,h,g.cuE J⟩
 rintro a w ⟨t0,rfl,h,g⟩;apply TG.ap ?_ h g;refine sq (C (A J (N ?_)));obtain ⟨t2,hP,K⟩:=L hL;refine jn (fun a w=>St M W (hp W) [(hp W)] [] w∧aT [] 69 a [(6,.int .i64 t2)]) ?_ ?_
 ·refine cb J (fun R=>?_) (fun R=>?_)
  ·have Y:=aJ R hP;refine rg (A J ?_);obtain ⟨aa,ac⟩:=aE Y;refine ngI J J aa (I J ?_);cases ac;exact cuE J
  have ae:=bM R hP;refine sk ?_;cases ae;exact cuE J
 refine X ?_;refine C (A J (a1 J (I J (bK ?_))));cases K;exact oX J J J

theorem w11 (h:H.le (hp W)) (line:aF) {r:aF×List Int×aF×Bool} (hr:SN line=some r):Calls prog 11 #[.string (bs line)] W (eU M H W (fun v K=>∃ (g:Option Addr) (e:Nat),v=.tuple #[.string (bs r.1),.slice g r.2.1.length e,.string (bs r.2.2.1),.bool r.2.2.2]∧Sl (aG (bT .i64)) 1 K g e r.2.1)):=by
 unfold SN at hr;refine aM (M:=M) func11 J ntmps11 J h ?_;refine C (a1 J (a1 J (a1 J (I J (C (A J ?_))))));obtain ⟨p,aq,am⟩:=L hr;refine bD C22 J (fun w H h le=>w22 line 0 aq) (I J (C (A J (A J ?_))));obtain ⟨az,an⟩:=aE am;obtain ⟨ak,ao⟩:=aE an;refine ssT p.toNat U9 J J J (by omega) ak (I J (C (A J ?_)));obtain ⟨r8,ar,h9⟩:=L ao;refine bD C23 J (fun w H h le=>w23 (line.take p.toNat) ar) (A J (ex J J J (ex J J J (a1 J (I J (sq (C (A J (dU J J J ?_)))))))));refine N ?_;refine ci J (fun u=>?_) (fun u=>?_)
 ·have hI:=aJ u h9;refine C (a1 J (a1 J (a1 J (I J (bK ?_)))));cases hI;intro a w b c;refine zB c J J J J J ?_;exact ⟨⟨_,_,J,Sl.o⟩,b.ext⟩
 have hJ:=aX u h9;refine sk (C (I J (sq (C (I J (TG.nilRow 2 3 1 (TG.as 2 (z:=S.list none 0 3 1 (bT .i64) ([]:List Int)) J J ?_)))))));obtain ⟨t,hK,m⟩:=L hJ;refine jn (fun a w=>∃ f,t=.inl f∧∃ (q:Option Addr) (s:Nat),St M W H [H] [(2,S.list q s 3 1 (bT .i64) f.2)] w∧aT [] 71 a [(0,.string (bs line)),(6,.int .i64 f.1),(7,.string (bs (line.take p.toNat))),(9,.bool r8.2),(10,.slice q f.2.length s)]) ?_ ?_
 ·refine bk ?_;refine lp hK (fun d a w=>∃ (i:Option Addr) (k:Nat),St M W H [H] [(2,S.list i k 3 1 (bT .i64) d.2.2)] w∧aT [] 71 a [(0,.string (bs line)),(6,.int .i64 d.2.1),(7,.string (bs (line.take p.toNat))),(8,.int .i64 r8.1),(9,.bool r8.2),(10,.slice i d.2.2.length k),(11,.int .i64 (d.1:Int))]) ?_ ?_
  ·intro a w b c;exact ⟨none,0,b,c.cuE J⟩
  rintro j d y0 x n a w ⟨i,k,b,c⟩;refine TG.ap ?_ b c;unfold CO at x;refine sq (C (A J (A J (dU J J J (N ?_)))));refine ci J (fun y=>?_) (fun y=>?_)
  ·have hB:=aJ y x;refine sk (sq (bk (sq (C (A J (A J (uN U9 J J (fE J J J (N ?_)))))))));refine ci J (fun B=>?_) (fun B=>?_)
   ·have hL:=aJ B hB;refine C (a1 J (a1 J (a1 J (I J (bK ?_)))));cases hL;obtain rfl:=dI.out n;cases m;intro a w b c;refine zB c J J J J J ?_;exact ⟨⟨_,_,J,Sl.o⟩,b.ext⟩
   have hM:=aX B hB;refine sk (C (A J (A J ?_)));obtain ⟨hC,hN⟩:=aE hM;refine dN J J J hC ?_;obtain ⟨r2,hO,hP⟩:=L hN;refine bD C22 J (fun w H h le=>w22 line (d.2.1+1) hO) (I J (C (A J (A J (dN J J J hC (A J ?_))))));obtain ⟨aw,hR⟩:=aE hP;obtain ⟨ax,hT⟩:=aE hR;obtain ⟨hV,hW⟩:=aE hT;refine ssB ((d.2.1+1).toNat) r2.toNat U9 J J J J (by omega) (by omega) hV ?_;obtain ⟨r0,hX,hE⟩:=L hW;refine bD C24 J (fun w H h le=>w24 ((line.drop ((d.2.1+1).toNat)).take (r2.toNat - ((d.2.1+1).toNat))) hX) (A J (ex J J J (ex J J J (a1 J (I J (sq (C (A J (nt J J ?_)))))))));refine N ?_;refine cb J (fun h0=>?_) (fun h0=>?_)
   ·replace h0:=mQ h0
    have G:=bM h0 hE;refine C (a1 J (a1 J (a1 J (I J (bK ?_)))));cases G;obtain rfl:=dI.out n;cases m;intro a w b c;refine zB c J J J J J ?_;exact ⟨⟨_,_,J,Sl.o⟩,b.ext⟩
   replace h0:=mR h0
   have R:=aJ h0 hE;refine sk (rg (A J (A J ?_)));obtain ⟨V,Y⟩:=aE R;have:=eM d.2.2 [r0.1];have:=mZ r0.1;refine zF 2 (bT .i64) (l:=d.2.2) r0.1 T12.E33 J J J J J J J J J J J J V fun a3 c2 u0=>(A J (a1 J (I J (rg (A J ?_)))));obtain ⟨Z,aa⟩:=aE Y;refine dN J J J Z (I J ?_);cases aa;intro a w b c;exact ⟨_,n,a3,c2,b,c.cuE J⟩
  have ab:=aX y x;refine xt J ?_;cases ab;obtain rfl:=dI.out n;intro a w b c;exact ⟨_,J,i,k,b,c.cuE J⟩
 rintro a w ⟨f,rfl,q,s,b,c⟩;apply TG.ap ?_ b c;refine sq (C (A J (A J (A J (uN U9 J J (dU J J J (neB U4 J J J (N ?_))))))));refine cb J (fun h1=>?_) (fun h1=>?_)
 ·replace h1:=mQ h1
  have ac:=bM h1 m;refine C (a1 J (a1 J (a1 J (I J (bK ?_)))));cases ac;intro a w b c;refine zB c J J J J J ?_;exact ⟨⟨_,_,J,Sl.o⟩,b.ext⟩
 replace h1:=mR h1
 have hG:=aJ h1 m;refine sk (sq (C (A J (N ?_))));refine cb J (fun F=>?_) (fun F=>?_)
 ·have ad:=aJ F hG;refine sq ?_;obtain ⟨ae,af⟩:=aE ad;obtain ⟨ay,ag⟩:=aE af;obtain ⟨ah,ai⟩:=aE ag;refine eB 8 mixed (by kernel_rfl) J (E J (A J D) (E J (A J D) (E J (A J D) (E J (A J D) (E J (dN J J J ae D) (E J (ssF ((f.1+1).toNat) U9 J J J (by omega) ah D) (E J (a1 J D) (E J (a1 J D) (DF.nil fun au hF=>(a1 J (a1 J ?_)))))))))));refine N (bK ?_);cases ai;intro a w b c;refine zB c J J J J J ?_;exact ⟨⟨_,_,J,(b.listOut 2 J (fun _=>J))⟩,b.ext⟩
 have aj:=bM F hG;refine sk (C (A J (A J (a1 J (a1 J (a1 J (I J (bK ?_))))))));cases aj;intro a w b c;refine zB c J J J J J ?_;exact ⟨⟨_,_,J,(b.listOut 2 J (fun _=>J))⟩,b.ext⟩

theorem w6 (hH:H.le (hp W)) {z:Option Addr} {s:Nat} {lines:List aF} (G:Sl (aG cE) 1 H z s lines) {r:Bool} (hr:m6 lines=some r):Calls prog 6 #[.slice z lines.length s] W (bP M W (.bool r)):=by
 have:=G.len;unfold m6 at hr;refine aM (M:=M) func6 J ntmps6 J hH ?_;refine C (I J (C (a1 J (I J (sq (C ?_))))));refine I J ?_;obtain ⟨c,Y,aa⟩:=L hr;refine jn (fun a w=>St M W H [H] [] w∧aT [] 69 a [(0,.slice z lines.length s),(3,.int .i64 c.1),(4,.int .i64 c.2)]) ?_ ?_
 ·refine bk ?_;refine lp Y (fun g a w=>St M W H [H] [] w∧aT [] 69 a [(0,.slice z lines.length s),(3,.int .i64 g.2.1),(4,.int .i64 g.2.2),(5,.int .i64 (g.1:Int))]) ?_ ?_
  ·exact cuE J
  rintro j g y0 hF hJ a w ⟨y,t⟩;refine TG.ap ?_ y t;unfold NM at hF;refine sq (C (A J (A J (dV jJ J J (dU J J J (N ?_))))));refine ci J (fun hG=>?_) (fun hG=>?_)
  ·have ab:=aJ hG hF;refine sk (sq (bk (C (A J (A J (A J ?_))))));obtain ⟨F,B,ac⟩:=L ab;obtain ⟨p0,rfl⟩:=G.adr B;have hK:=G.atF B;refine cO jJ Z9 J J J J (aS B) (aV G9 J (P 0 J hK) J (uN U9 J J (XX (IntKind.i64.wrap (g.2.1+(F.length:Int))) J J J J (I J (C (A J (A J (cO jJ Z9 J J J J (aS B) (aV G9 J (P 0 J hK) J ?_)))))))));obtain ⟨r0,ad,ae⟩:=L ac;refine gY C11 J J J J (fun w H hH le=>w11 hH F ad) ?_;rintro v_ h ⟨a0,c0,rfl,af⟩;have:=af.len;refine A J (ex J J J (ex J J J (ex J J J (ex J J J (a1 J (a1 J (a1 J (I J (sq ?_)))))))));obtain ⟨t0,hL,ag⟩:=L ae;refine jn (fun a w=>St M W H [h,H] [] w∧aT [] 69 a [(0,.slice (some p0) lines.length s),(3,.int .i64 (IntKind.i64.wrap (g.2.1+(F.length:Int)))),(4,.int .i64 g.2.2),(5,.int .i64 (g.1:Int)),(37,.bool t0)]) ?_ ?_
   ·refine rg (A J (A J ?_));rcases Bool.eq_false_or_eq_true (r0.2.2.2) with i | i
    ·have ah:=aJ i hL;refine gN J J (i) (A J (gN J J (i) (pP J J J (pT J J (i) J (N ?_)))));cases ah;exact cuE J
    have ai:=bM i hL;refine cH 2 J J J (i) J (pF J J (i) J (N ?_));cases ai;exact cuE J
   refine X ?_;obtain ⟨t1,hM,aj⟩:=L ag;refine jn (fun a w=>St M W H [h,H] [] w∧aT [] 69 a [(0,.slice (some p0) lines.length s),(3,.int .i64 (IntKind.i64.wrap (g.2.1+(F.length:Int)))),(4,.int .i64 t1),(5,.int .i64 (g.1:Int))]) ?_ ?_
   ·refine cb J (fun hI=>?_) (fun hI=>?_)
    ·have ak:=aJ hI hM;refine rg (A J (XX (IntKind.i64.wrap (g.2.2+1)) J J J J (I J ?_)));cases ak;exact cuE J
    have an:=bM hI hM;refine sk ?_;cases an;exact cuE J
   refine X ?_;refine rg (A J (dN J J J (by omega) (I J ?_)));cases aj;intro a w y t;exact ⟨_,hJ,y.selH [1] J,t.cuE J⟩
  have ao:=aX hG hF;refine xt J ?_;cases ao;obtain rfl:=dI.out hJ;exact cuE J
 rintro a w ⟨y,t⟩;apply TG.ap ?_ y t;refine sq ?_;obtain ⟨t2,hN,aq⟩:=L aa;refine jn (fun a w=>St M W H [H] [] w∧aT [] 69 a [(2,.bool t2)]) ?_ ?_
 ·refine rg (A J (jW J J J (A J ?_)));by_cases b:c.2≤8
  ·have hO:=aJ b hN;refine gt b J (A J (gt b J (dV jJ J J (gt b J (jW J J J (gt b J (A J ?_)))))));by_cases k:(lines.length:Int)≤40
   ·have hP:=aJ k hO;refine gt k J (A J (gt k J (jW J J J (gt b J (pt k J J (gt b J (A J ?_)))))));by_cases d:c.1≤1500
    ·have ar:=aJ d hP;refine cH 4 J J J (decide_eq_true d) J (gU J J J (gU J J J (zL d J (gt b J (pt d J J (gt b J (A J (cH 4 J J J J J (gU J J J (gU J J J (gF J J J J ?_)))))))))));refine gt b J (pT J J J J (pt b J J (I J ?_)));cases ar;exact cuE J
    have hR:=aX d hP;refine cW d J (A J (cW d J (dV jJ J J (cW d J (jW J J J (cW d J (A J ?_)))))));by_cases l:(lines.length:Int)≤62
    ·have hT:=aJ l hR;refine gt l J (A J (gt l J (jW J J J (cW d J (pt l J J (gt b J (pf d J J (gt b J (A J ?_)))))))));by_cases e:c.1≤200
     ·have au:=aJ e hT;refine cH 4 J J J (decide_eq_true e) J (gU J J J (gU J J J (zL e J (gt b J (pt e J J (pt b J J (I J ?_)))))));cases au;exact cuE J
     have hV:=aX e hT;refine cW e J (A J (cW e J (dV jJ J J (cW e J (fE J J J (cW e J (A J ?_)))))));by_cases m:(lines.length:Int)=1
     ·have aw:=aJ m hV;refine gt m J (A J (gt m J (jW J J J (cW e J (pt m J J (gt b J (pf e J J (pt b J J (I J ?_)))))))));cases aw;exact cuE J
     have ax:=aX m hV;refine cH 2 J J J (decide_eq_false m) J (cW e J (pf m J J (gt b J (pf e J J (pt b J J (I J ?_))))));cases ax;exact cuE J
    have hW:=aX l hR;refine cH 2 J J J (decide_eq_false l) J (cW d J (pf l J J (gt b J (pf d J J (gt b J (A J (gN J J J (A J (gN J J J (dV jJ J J (gN J J J ?_)))))))))));refine fE J J J (gN J J J (A J ?_));by_cases n:(lines.length:Int)=1
    ·have az:=aJ n hW;refine gt n J (A J (gt n J (jW J J J (gN J J J (pt n J J (gt b J (pF J J J J (pt b J J (I J ?_)))))))));cases az;exact cuE J
    have a2:=aX n hW;refine cH 2 J J J (decide_eq_false n) J (gN J J J (pf n J J (gt b J (pF J J J J (pt b J J (I J ?_))))));cases a2;exact cuE J
   have hX:=aX k hO;refine cH 2 J J J (decide_eq_false k) J (gt b J (pf k J J (gt b J (A J (gN J J J (A J (gN J J J (dV jJ J J (gN J J J (jW J J J (gN J J J ?_)))))))))));refine A J ?_;by_cases o:(lines.length:Int)≤62
   ·have u:=aJ o hX;refine gt o J (A J (gt o J (jW J J J (gN J J J (pt o J J (gt b J (pF J J J J (gt b J (A J ?_)))))))));by_cases f:c.1≤200
    ·have a3:=aJ f u;refine cH 4 J J J (decide_eq_true f) J (gU J J J (gU J J J (zL f J (gt b J (pt f J J (pt b J J (I J ?_)))))));cases a3;exact cuE J
    have v:=aX f u;refine cW f J (A J (cW f J (dV jJ J J (cW f J (fE J J J (cW f J (A J ?_)))))));by_cases p:(lines.length:Int)=1
    ·have a4:=aJ p v;refine gt p J (A J (gt p J (jW J J J (cW f J (pt p J J (gt b J (pf f J J (pt b J J (I J ?_)))))))));cases a4;exact cuE J
    have K:=aX p v;refine cH 2 J J J (decide_eq_false p) J (cW f J (pf p J J (gt b J (pf f J J (pt b J J (I J ?_))))));cases K;exact cuE J
   have x:=aX o hX;refine cH 2 J J J (decide_eq_false o) J (gN J J J (pf o J J (gt b J (pF J J J J (gt b J (A J (gN J J J (A J (gN J J J (dV jJ J J (gN J J J ?_)))))))))));refine fE J J J (gN J J J (A J ?_));by_cases q:(lines.length:Int)=1
   ·have R:=aJ q x;refine gt q J (A J (gt q J (jW J J J (gN J J J (pt q J J (gt b J (pF J J J J (pt b J J (I J ?_)))))))));cases R;exact cuE J
   have V:=aX q x;refine cH 2 J J J (decide_eq_false q) J (gN J J J (pf q J J (gt b J (pF J J J J (pt b J J (I J ?_))))));cases V;exact cuE J
  have Z:=aX b hN;refine cH 4 J J J (decide_eq_false b) J (gU J J J (gU J J J (cH 2 J J J (decide_eq_false b) J (gU J J J (gU J J J (gU J J J (gU J J J (gU J J J (gU J J J (gU J J J (cH 2 J J J (decide_eq_false b) J ?_)))))))))));refine gU J J J (gU J J J (gU J J J (gU J J J (gU J J J (gU J J J (gU J J J (gf b J (pf b J J (I J ?_)))))))));cases Z;exact cuE J
 refine X ?_;refine bK ?_;cases aq;exact cQ J J

theorem w7 (B:H.le (hp W)) {e:Option Addr} {d:Nat} {lines:List aF} (f:Sl (aG cE) 1 H e d lines) {r:Bool} (p:m7 lines=some r):Calls prog 7 #[.slice e lines.length d] W (bP M W (.bool r)):=by
 have:=f.len;unfold m7 at p;refine aM (M:=M) func7 J ntmps7 J B ?_;refine C (I J (sq (C (I J ?_))));obtain ⟨g,t,n⟩:=L p;refine jn (fun a w=>∃ s,g=.inl s∧St M W H [H] [] w∧aT [] 19 a [(0,.slice e lines.length d)]) ?_ ?_
 ·refine bk ?_;refine lp t (fun q a w=>St M W H [H] [] w∧aT [] 19 a [(0,.slice e lines.length d),(3,.int .i64 (q:Int))]) ?_ ?_
  ·exact cuE J
  rintro j q K h i a w ⟨c,b⟩;refine TG.ap ?_ c b;unfold NN at h;refine sq (C (A J (A J (dV jJ J J (dU J J J (N ?_))))));refine ci J (fun k=>?_) (fun k=>?_)
  ·have u:=aJ k h;refine sk (sq (bk (C (A J (A J ?_)))));obtain ⟨G,l,o⟩:=L u;obtain ⟨F,rfl⟩:=f.adr l;have v:=f.atF l;refine cO jJ Z9 J J J J (aS l) (aV G9 J (P 0 J v) J (uN U9 J J (lW J J J (N ?_))));refine ci J (fun m=>?_) (fun m=>?_)
   ·have x:=aJ m o;refine C (I J (bK ?_));cases x;obtain rfl:=dI.out i;cases n;exact cQ J J
   have y:=aX m o;refine sk (rg (A J (dN J J J (by omega) (I J ?_))));cases y;intro a w c b;exact ⟨_,i,c,b.cuE J⟩
  have z:=aX k h;refine xt J ?_;cases z;obtain rfl:=dI.out i;intro a w c b;exact ⟨_,J,c,b.cuE J⟩
 rintro a w ⟨s,rfl,c,b⟩;apply TG.ap ?_ c b;refine C (A J (dV jJ J J (jW J J J (I J (bK ?_)))));cases n;exact cQ J J

theorem w17 (k:H.le (hp W))  {r:List aF} (h:m17=some r):Calls prog 17 #[] W (eU M H W (fun v K=>∃ (c:Option Addr) (b:Nat),v=.slice c r.length b∧Sl (aG cE) 1 K c b r)):=by
 unfold m17 at h;refine aM (M:=M) func17 J ntmps17 J k ?_;refine C (I J (C (bS (cs:=[.string (bs [104,111,117,115,101,32,53]),.string (bs [115,97,121,32,49,49,32,84,104,101,32,72,111,117,115,101,32,109,101,116,46]),.string (bs [109,111,118,101,32,116,104,105,115,32,72,111,117,115,101,32,110,111,116,101,115,32,116,104,101,32,114,101,112,111,114,116]),.string (bs [112,97,112,101,114,32,51,32,48,32,50,32,51,32,119,101,108,99,111,109,101,115]),.string (bs [97,100,111,112,116,32,51]),.string (bs [100,105,118,105,100,101,32,48,32,48,32,51,32,50]),.string (bs [116,101,108,108,32,49,32,48,32,48]),.string (bs [116,101,108,108,32,49,32,49,32,48]),.string (bs [116,101,108,108,32,49,32,48,32,49]),.string (bs [116,101,108,108,32,49,32,49,32,49]),.string (bs [116,101,108,108,32,50,32,48,32,52]),.string (bs [114,101,115,117,108,116]),.string (bs [116,101,108,108,32,50,32,49,32,52]),.string (bs [114,101,115,117,108,116]),.string (bs [111,114,100,101,114,32,49,50]),.string (bs [98,105,110,100,32,51,32,52,32,50,48]),.string (bs [104,105,100,101,32,49,49,32,50,32,49,57,57,48]),.string (bs [99,105,116,101,32,49,50,32,48])]) T12.E22 J J J J fun l i f e=>?_)));have d:Sl (aG cE) 1 i (some l) 18 ([[104,111,117,115,101,32,53],[115,97,121,32,49,49,32,84,104,101,32,72,111,117,115,101,32,109,101,116,46],[109,111,118,101,32,116,104,105,115,32,72,111,117,115,101,32,110,111,116,101,115,32,116,104,101,32,114,101,112,111,114,116],[112,97,112,101,114,32,51,32,48,32,50,32,51,32,119,101,108,99,111,109,101,115],[97,100,111,112,116,32,51],[100,105,118,105,100,101,32,48,32,48,32,51,32,50],[116,101,108,108,32,49,32,48,32,48],[116,101,108,108,32,49,32,49,32,48],[116,101,108,108,32,49,32,48,32,49],[116,101,108,108,32,49,32,49,32,49],[116,101,108,108,32,50,32,48,32,52],[114,101,115,117,108,116],[116,101,108,108,32,50,32,49,32,52],[114,101,115,117,108,116],[111,114,100,101,114,32,49,50],[98,105,110,100,32,51,32,52,32,50,48],[104,105,100,101,32,49,49,32,50,32,49,57,57,48],[99,105,116,101,32,49,50,32,48]]:List aF):=Sl.litF (fun _=>J) (fun _=>J) f e J J J;have:=d.len;refine I J (bK ?_);obtain rfl:=sj h;intro a w g j;refine dQ j J J ?_;exact ⟨⟨_,_,J,(d.mono (aG.mono _) (g.grow 0 J))⟩,g.ext⟩

theorem w75 (hH:H.le (hp W)) {i:Option Addr} {h:Nat} {ai:List aF} (k:Sl (aG cE) 1 H i h ai) {q:Value} {cj:aF→Option Bool} (s:fB M prog H q (fU Vs Value.bool cj)) {r:Int} (x:SO ai cj=some r):Calls prog 75 #[.slice i ai.length h,q] W (bP M W (.int .i64 r)):=by
 have:=k.len;have d:=s;obtain ⟨e,c,b,rfl,_,_⟩:=s;unfold SO at x;refine aM (M:=M) func75 J ntmps75 J hH ?_;refine C (I J (sq (C (A J (dV jJ J J (A J (N ?_)))))));obtain ⟨e19,F,t⟩:=L x;refine jn (fun a w=>∃ B,e19=.inl B∧St M W H [H] [] w∧aT [] 19 a []) ?_ ?_
 ·refine bk ?_;refine lp F (fun z a w=>St M W H [H] [] w∧aT [] 19 a [(0,.slice i ai.length h),(1,.func (.func e) c.toArray b.toArray),(7,.int .i64 (ai.length:Int)),(8,.int .i64 (z:Int))]) ?_ ?_
  ·exact cuE J
  rintro j z y0 l m a w ⟨g,f⟩;refine TG.ap ?_ g f;unfold yD at l;refine C (dU J J J (N (sq ?_)));refine ci J (fun n=>?_) (fun n=>?_)
  ·have G:=aJ n l;refine sk (sq (bk (C (A J (I J (C (A J (A J ?_))))))));refine A J ?_;obtain ⟨x0,o,K⟩:=L G;obtain ⟨p0,rfl⟩:=k.adr o;have R:=k.atF o;refine cO jJ Z9 J J J J (aS o) (aV G9 J (P 0 J R) J ?_);obtain ⟨y,V,u⟩:=L K;refine oE (v:=.bool y) d 0 J J J J (fun H le=>⟨_,x0,y,J,J,V,J⟩) (N ?_);refine cb J (fun p=>?_) (fun p=>?_)
   ·have Y:=aJ p u;refine C (A J (I J (bK ?_)));cases Y;obtain rfl:=dI.out m;cases t;exact cQ J J
   have Z:=bM p u;refine sk (rg (dN J J J (by omega) (A J (N ?_))));cases Z;intro a w g f;exact ⟨_,m,g,f.cuE J⟩
  have hG:=aX n l;refine xt J ?_;cases hG;obtain rfl:=dI.out m;intro a w g f;exact ⟨_,J,g,f.cut tv⟩
 rintro a w ⟨B,rfl,g,f⟩;apply TG.ap ?_ g f;refine C (I J (bK ?_));cases t;exact cQ J J

theorem w47 (f:H.le (hp W)) {j:Option Addr} {i:Nat} {ai:List aF} (k:Sl (aG cE) 1 H j i ai) {l:Value} {cj:aF→Option Bool} (m:fB M prog H l (fU Vs Value.bool cj)) {r:Bool} (n:NO ai cj=some r):Calls prog 47 #[.slice j ai.length i,l] W (bP M W (.bool r)):=by
 have:=k.len;have b:=m;obtain ⟨e,d,c,rfl,_,_⟩:=m;unfold NO at n;refine aM (M:=M) func47 J ntmps47 J f ?_;refine C (I J (C (A J (A J ?_))));obtain ⟨o,h,g⟩:=L n;refine bD C75 J (fun w H f le=>w75 f (k.mono (aG.mono _) (le.at 0 J)) (cj:=cj) (b.mono (le.at 0 J)) h) (qE J J J (I J (bK ?_)));cases g;exact cQ J J

theorem w48 {M:Prop} {W:World} (ai:aF) {r:Bool} (b:KZ ai=some r):Calls prog 48 #[.string (bs ai)] W (bP M W (.bool r)):=by
 unfold KZ at b;refine aM (M:=M) func48 J ntmps48 J (Hp.le.refl _) ?_;refine C (I J (C (A J (uN U9 J J (lW J J J (I J (bK ?_)))))));obtain rfl:=sj b;exact cQ J J

theorem w20 (g:H.le (hp W)) {j:Option Addr} {i:Nat} {lines:List aF} (k:Sl (aG cE) 1 H j i lines) {r:Int} (m:NP lines=some r):Calls prog 20 #[.slice j lines.length i] W (bP M W (.int .i64 r)):=by
 have:=k.len;unfold NP at m;refine aM (M:=M) func20 J ntmps20 J g ?_;refine C (I J (sq (sq ?_)));obtain ⟨B,c,l⟩:=L m;refine jn (fun a w=>St M W H [H] [] w∧aT [] 10 a [(9,.bool B)]) ?_ ?_
 ·refine rg (A J (dV jJ J J (lW J J J (A J ?_))));by_cases b:60 < (lines.length:Int)
  ·have n:=aJ b c;refine cH 2 J J J (decide_eq_true b) J (pt b J J (N ?_));cases n;exact cuE J
  have o:=aX b c;refine cW b J (A J (cW b J ?_));obtain ⟨z,p,q⟩:=L o
  refine nQ (v:=.bool z) C47 J J J J (fun w H g le=>by
    have s:fB M prog H (.func (.func 48) #[] #[]) (fU Vs Value.bool (KZ)):=⟨48,[],[],rfl,C48,fun Z G d Y K R x=>by obtain ⟨F,h,V,rfl,e,y,rfl⟩:=x;cases e;exact w48  h  y⟩
    exact w47 g (k.mono (aG.mono _) (le.at 0 J)) (cj:=(KZ)) s p) ?_
  refine pf b J J (N ?_);cases q;exact cuE J
 refine X ?_;refine cb J (fun f=>?_) (fun f=>?_)
 ·have t:=aJ f l;refine C (I J (bK ?_));cases t;exact cQ J J
 have u:=bM f l;refine sk (C (I J (bK ?_)));cases u;exact cQ J J

theorem AW {M:Prop} {W:World} (e:Int) (low:Int) (c:Int) {r:Bool} (i:tI e low c=some r):Calls prog 42 #[.int .i64 e,.int .i64 low,.int .i64 c] W (bP M W (.bool r)):=by
 unfold tI at i;refine aM (M:=M) func42 J ntmps42 J (Hp.le.refl _) ?_;refine C (I J (sq ?_));obtain ⟨j,d,f⟩:=L i;refine jn (fun a w=>St M W (hp W) [(hp W)] [] w∧aT [] 15 a [(6,.bool j)]) ?_ ?_
 ·refine rg (A J (A J (jW J J J (A J ?_))));by_cases b:low≤e
  ·have g:=aJ b d;refine gt b J (A J (gt b J (A J (gt b J (jW J J J (pt b J J (I J ?_)))))));cases g;exact cuE J
  have h:=aX b d;refine cH 3 J J J (decide_eq_false b) J (pf b J J (I J ?_));cases h;exact cuE J
 refine X ?_;refine bK ?_;cases f;exact cQ J J

theorem eT {M:Prop} {W:World} (h:Bool) (e:Int) {r:Unit⊕Unit} (d:jD h e=some r):Calls prog 79 #[.bool h,.int .i64 e] W (vB M W (fun r=>.tuple #[]) (.iface 149 (.agg #[.int .i64 e])) r):=by
 unfold jD at d;refine aM (M:=M) func79 J ntmps79 J (Hp.le.refl _) ?_;refine C (A J (nt J J (N ?_)));refine cb J (fun hc4=>?_) (fun hc4=>?_)
 ·replace hc4:=mQ hc4
  have f:=bM hc4 d;refine rg (A J (bu (cs:=[.int .i64 e]) T12.B149 J J J (fi aCx J J J (pnc J ?_))));cases f;intro a w c b;exact ⟨b.defers,lY c.ext⟩
 replace hc4:=mR hc4
 have g:=aJ hc4 d;refine sk ?_;cases g;intro a w c b;refine eA b J ?_;exact rE J c.ext

theorem aC2 {M:Prop} {W w:World} {H V:Hp} {σr:aK} {d:Nat} {l:List Value} (f:aI) (Z:aU V l f) {q:Option Addr} {p:Nat} {bp:List Int} (m:Sl (aG (bT .i64)) 1 V q p bp) (s:aF) {r:aI⊕Int} (B:CP f bp s=some r) (h:St M W H [V] ((1,bH d 81 l)::σr) w):Calls prog 110 #[.pointer (some ⟨d,0,none⟩),.slice q bp.length p,.string (bs s)] w (eX M W H V σr (qK (fun y e K R=>∃ (t:List Value),e=.returned (.tuple #[])∧R=[(1,bH d 81 t)]∧aU K t y) (fun u=>.iface 149 (.agg #[.int .i64 u])) [(1,bH d 81 l)] r)):=by
 have:=m.len;unfold CP at B;obtain ⟨G,rfl,c⟩:=Z;have:=c.lens;refine cP (M:=M) func110 J ntmps110 J h ?_;refine sq ?_;obtain ⟨j,b,o⟩:=L B;obtain ⟨p6,rfl⟩:=m.adr b;have i:=m.atF b;refine eB 8 mixed (by kernel_rfl) J (E J (A J D) (E J (cO eI Z3 J J J J (aS b) D) (E J (aV G3 J (P 1 J i) J D) (E J (A J D) (E J (nl J J D) (E J (aZ 0 eZ J eJ D) (E J (aZ 0 eO J Z3 D) (E J (aV G3 J ((sO 1 J).take 1) J D) (DF.nil fun Y hF=>?_)))))))));obtain ⟨F,h2,h3⟩:=L o;refine bD AR J (fun w H z le=>AW j f.state.day 99999 h2) ?_;obtain ⟨r1,v,x⟩:=L h3;rcases r1 with y0 | y0
 ·refine bD eS J (fun w H z le=>iD (eT F 2 v)) (N (rg (A J (A J (cO eI Z3 J J J J (aS b) (aV G3 J (P 1 J i) J (nl J J (aZ 0 eZ J eJ (aZ 0 eO J Z3 (eV 1 (cs:=[.int .i64 j]) Z3 J J J J J J J (N ?_)))))))))))
  let g:List Value:=((cB f.state G).set 0 (.int .i64 j))
  refine TG.pack (fun K=>aU K g (⟨({f.state with day:=j}:cY)⟩:aI)) (fun H le=>⟨G,J,{c.mono (le.at 1 J) with f0:=(c.f0.mono (bV.mono) (le.at 1 J))}⟩) fun k h4=>?_;cases x;intro a w h n;refine eA n J ?_;exact ⟨k,[(1,bH d 81 g)],h.selH [0,2] J,_,J,J,h4⟩
 refine dW eS J J J (fun w H z le=>iE (eT F 2 v)) ?_;cases x;intro a w h n;exact ⟨n.defers,V,[_],h.selH [1,1] J,J,J⟩

theorem aC3 {M:Prop} {W w:World} {H V:Hp} {σr:aK} {h:Option Addr} {g:Nat} {ai:List dX} (i:Sl (bV) 2 V h g ai) {r:List dX} (p:CQ ai=some r) (d:St M W H [V] σr w):Calls prog 166 #[.slice h ai.length g] w (eX M W H V σr (fun e K s=>∃ (ad:Option Addr) (cap:Nat) (css:List (List Value)),e=.returned (.slice ad r.length cap)∧s=[(1,S.rows ad cap 54 2 css r)]∧Rows (bV) 2 K css r)):=by
 have:=i.len;unfold CQ at p;refine cP (M:=M) func166 J ntmps166 J d ?_;refine C (I J (sq (C (A J (HX yR J J (N ?_))))));refine cb J (fun f=>?_) (fun f=>?_)
 ·obtain rfl:=Sl.isNil i f;have q:=(aE p).2;refine C (I J (bK (TG.nilRow 1 54 2 ?_)));have k:Rows (bV) 2 V [] ([]:List dX):=tv;cases q;intro a w d j;refine dQ j J J ?_;exact ⟨_,[(1,S.rows none 0 54 2 [] ([]:List dX))],d.selH [0,0] J,_,_,_,J,J,k⟩
 refine sk (C (TG.pack (fun K=>Rows (bV) 2 K [] ([]:List dX)) (fun H le=>tv) fun G n=>(YA 1 (cs:=[]) T12.E25 J J J J fun v=>(TG.as 1 (z:=S.rows (some ⟨v,0,none⟩) 0 54 2 [] ([]:List dX)) J J (A J ?_)))));obtain ⟨o,B⟩:=aE p;have:=eM ([]:List dX) ai;refine TG.pack (fun K=>Sl (bV) 2 K h g ai∧Rows (bV) 2 K [] ([]:List dX)) (fun H le=>⟨i.mono (bV.mono) (le.at 1 J),n.mono (bV.mono) (le.at 0 J)⟩) fun t ⟨F,b⟩=>(VZ 1 (l:=([]:List dX)) (m:=ai) T12.E25 J J J J J J F b bV.one J o fun u x y c=>(I J (bK ?_)));cases B;intro a w d j;refine dQ j J J ?_;exact ⟨_,[(1,S.rows u x 54 2 y (([]:List dX)++ai))],d.selH [0,2] J,_,_,_,J,J,c⟩

theorem aC4 {M:Prop} {W w:World} {H V:Hp} {σr:aK} {p:Option Addr} {o:Nat} {ai:List aH} (g:Sl (aG aY) 2 V p o ai) {r:List aH} (j:IN ai=some r) (c:St M W H [V] σr w):Calls prog 204 #[.slice p ai.length o] w (eX M W H V σr (fun e K q=>∃ (ad:Option Addr) (cap:Nat),e=.returned (.slice ad r.length cap)∧q=[(1,S.list ad cap 58 2 aY r)])):=by
 have:=g.len;unfold IN at j;refine cP (M:=M) func204 J ntmps204 J c ?_;refine C (I J (sq (C (A J (HX AV J J (N ?_))))));refine cb J (fun d=>?_) (fun d=>?_)
 ·obtain rfl:=Sl.isNil g d;have k:=(aE j).2;refine C (I J (bK (TG.nilRow 1 58 2 ?_)));cases k;intro a w c h;refine dQ h J J ?_;exact ⟨_,[(1,S.list none 0 58 2 aY ([]:List aH))],c.selH [0,0] J,_,_,J,J⟩
 refine sk (C (KM 1 aY ([]:List aH) (cs:=[]) T12.E52 J J J J J J fun s=>(A J ?_)));obtain ⟨i,n⟩:=aE j;have:=eM ([]:List aH) ai;refine pL 1 (enc:=aY) (l:=([]:List aH)) (m:=ai) T12.E52 J J J J J J g 0 J (fun _=>J) (fun _=>J) J i fun f b=>(I J (bK ?_));cases n;intro a w c h;refine dQ h J J ?_;exact ⟨_,[(1,S.list f b 58 2 aY (([]:List aH)++ai))],c.selH [0,0] J,_,_,J,J⟩

theorem aC5 (hH:H.le (hp W)) {y:Option Addr} {x:Nat} {bw:List aH} (z:Sl (aG aY) 2 H y x bw) {B:List Value} (c:aH) (ed:(aG aY) H B c) {r:List aH} (Z:CR bw c=some r):Calls prog 167 #[.slice y bw.length x,.agg B.toArray] W (eU M H W (fun v K=>∃ (e:Option Addr) (b:Nat),v=.slice e r.length b∧Sl (aG aY) 2 K e b r)):=by
 have:=z.len;obtain rfl:=ed;unfold CR at Z;refine aM (M:=M) func167 J ntmps167 J hH ?_
 let g:List Value:=[.int .i64 c.anchor,.string (bs c.text)]
 refine C (bI (cs:=g) J J J fun q1 K2 p=>(I J (sq ?_)));obtain ⟨j,s,q⟩:=L Z;refine kK 4 [1] [] mixed (fun _ _ _ _ _ h=>h) (by kernel_rfl) (by kernel_rfl) (by kernel_rfl) J (by kernel_rfl) (.nil) (dA J (A J D) (tS j.length (fun t u=>[(1,S.list t u 58 2 aY j)]) J (fun a w K d o Y F=>TG.pa d o (rF 1 aBc J J J J (fun w V σr d le=>aC4 (ai:=bw) (z.mono (aG.mono _) (le.at 2 J)) s d) fun n f=>F _ _)) fun n f=>(dA J (cU FQ mD J J (P 1 J p) J D) ?_)))
 refine uT 1 (aG aY) 2 ([c]:List aH) (aG.mono _) J (bS (cs:=g) T12.E52 J J J J fun q9 k h2 i=>by
   have G:Sl (aG aY) 2 k (some q9) 1 ([c]:List aH):=Sl.litF (fun _=>J) (fun _=>J) h2 i J J J;have:=G.len
   exact qM (aG.mono _) G) fun a0 c0=>?_
 refine DC.nil fun aa Y=>?_;obtain ⟨R,_,_⟩:=Y;have:=R.len;obtain ⟨h3,h4⟩:=aE q;have:=eM j ([c]:List aH);refine pL 1 (enc:=aY) (l:=j) (m:=([c]:List aH)) T12.E52 J J J J J J R 0 J (fun _=>J) (fun _=>J) J h3 fun a2 c1=>(I J (bK ?_));cases h4;intro a w d o;refine dQ o J J ?_;exact ⟨⟨_,_,J,(d.listOut 1 J (fun _=>J))⟩,d.ext⟩

theorem UM {M:Prop} {W w:World} {H V:Hp} {σr:aK} {e:Nat} {f:List Value} (c:aI) (n:aU V f c) {h:Option Addr} {g:Nat} {parts:List dX} (k:Sl (bV) 2 V h g parts) {r:bU} (l:CS c parts=some r) (d:St M W H [V] ((1,bH e 81 f)::σr) w):Calls prog 170 #[.pointer (some ⟨e,0,none⟩),.slice h parts.length g] w (NB M W H V ((1,bH e 81 f)::σr) (fun v K=>∃ dg:List Value,v=.agg dg.toArray∧cC K dg r)):=by
 have:=k.len;unfold CS at l;obtain ⟨q,rfl,j⟩:=n;have:=j.lens;refine cP (M:=M) func170 J ntmps170 J d ?_;refine C (al 2 (cs:=[.int .i64 0,.int .i64 0,.int .i64 0,.int .i64 0,.slice none 0 0]) zeroValue27 J J fun p=>(N (C (A J (nl J J (aZ 0 eZ J eJ (aZ 0 eO J Z3 (aV G3 J ((sO 1 J).take 1) J (A J ?_)))))))))
 let b:List Value:=[.int .i64 1,.int .i64 c.state.day,.int .i64 1,.int .i64 10,.slice h parts.length g]
 refine bu (cs:=b) T12.B27 J J J (eV 2 (cs:=b) iQ J J J J J J J (N (bK (TG.pack (fun K=>cC K b (⟨1,c.state.day,1,10,parts⟩:bU)) (fun H le=>⟨_,_,J,(k.mono (bV.mono) (le.at 0 J))⟩) fun m i=>?_))));obtain rfl:=sj l;intro a w d o;refine uL o J (cX.cell J (gA mJ iQ (dC (d.get (t:=2) J)) J)) ?_;exact ⟨_,m,J,(d.selH [0,1] J).del 2,_,J,i⟩

theorem UN (q:H.le (hp W)) {m:Addr} {j:List Value} (e:aI) (o:aL H m j) (k:(aU) H j e) {g:Option Addr} {f:Nat} {parts:List dX} (l:Sl (bV) 2 H g f parts) {r:bU} (n:CT e parts=some r):Calls prog 170 #[.pointer (some m),.slice g parts.length f] W (eU M H W (fun v K=>∃ (c:List Value),v=.agg c.toArray∧(cC) K c r)):=by
 have d:=k;obtain ⟨u,rfl,i⟩:=k;have:=i.lens;have:=l.len;unfold CT at n;refine aM (M:=M) func170 J ntmps170 J q ?_;refine C (al 1 (cs:=[.int .i64 0,.int .i64 0,.int .i64 0,.int .i64 0,.slice none 0 0]) zeroValue27 J J fun s=>(N (C (A J (nl J J (aZ 0 eZ J eJ (aZ 0 eO J Z3 (aV G3 J ((P 0 J o).take 1) J (A J ?_)))))))))
 let b:List Value:=[.int .i64 1,.int .i64 e.state.day,.int .i64 1,.int .i64 10,.slice g parts.length f]
 refine bu (cs:=b) T12.B27 J J J (eV 1 (cs:=b) iQ J J J J J J J (N (bK ?_)));obtain rfl:=sj n;intro a w h p;refine uL p J (cX.cell J (gA mJ iQ (dC (h.get (t:=1) J)) J)) ?_;exact ⟨⟨_,J,⟨_,_,J,(l.mono (bV.mono) (h.grow 0 J))⟩⟩,h.ext⟩

theorem JS (hH:H.le (hp W)) {Y:List Value} (d:bU) (Z:(cC) H Y d) {r:List aH} (hr:tJ d=some r):Calls prog 205 #[.agg Y.toArray] W (eU M H W (fun v K=>∃ (k:Option Addr) (e:Nat),v=.slice k r.length e∧Sl (aG aY) 2 K k e r)):=by
 have s:=Z;obtain ⟨n,f,rfl,h⟩:=Z;have:=h.len;unfold tJ at hr;refine aM (M:=M) func205 J ntmps205 J hH ?_;refine C (bI (cs:=[.int .i64 d.number,.int .i64 d.bound,.int .i64 d.height,.int .i64 d.width,.slice n d.parts.length f]) J J J fun q4 V G=>(I J (sq (C (aZ 4 nL J AT (aV GW J ((P 0 J G).drop 4) J (dV yR J J (A J ?_))))))));refine N (TG.nilRow 2 58 2 (TG.as 2 (z:=S.list none 0 58 2 aY ([]:List aH)) J J ?_));obtain ⟨o,h6,h7⟩:=L hr;refine jn (fun a w=>∃ (u:Option Addr) (x:Nat),St M W H [V,H] [(2,S.list u x 58 2 aY o)] w∧aT [] 18 a [(2,.slice u o.length x)]) ?_ ?_
 ·refine bk ?_;refine lp h6 (fun i a w=>∃ (p:Option Addr) (q:Nat),St M W H [V,H] [(2,S.list p q 58 2 aY i.2)] w∧aT [] 18 a [(2,.slice p i.2.length q),(6,.slice n d.parts.length f),(7,.int .i64 (d.parts.length:Int)),(8,.int .i64 (i.1:Int))]) ?_ ?_
  ·intro a w b c;exact ⟨none,0,b,c.cuE J⟩
  rintro j i y0 y h3 a w ⟨p,q,b,c⟩;refine TG.ap ?_ b c;unfold rJ at y;refine C (dU J J J (N (sq ?_)));refine ci J (fun B=>?_) (fun B=>?_)
  ·have h8:=aJ B y;refine sk (sq (bk (C ?_)));obtain ⟨t,F,h9⟩:=L h8;obtain ⟨p0,rfl⟩:=h.adr F;obtain ⟨c4,hG,hB,h4⟩:=h.at F;have hI:=h4;obtain ⟨a3,c2,rfl,h5⟩:=h4;have:=h5.len;refine cO yR yQ J J J J (aS F) (cU G54 yQ J J (P 1 J hB) J (va (cs:=[.int .i64 t.day,.slice a3 t.paragraphs.length c2]) zeroValue54 yQ J J J J J J J J fun q0 R g=>(N (rg (A J (aZ 1 GY J UG (aV G52 J ((P 0 J g).drop 1) J ?_)))))));obtain ⟨hC,hE⟩:=aE h9;have:=eM i.2 t.paragraphs;refine pL 2 (enc:=aY) (l:=i.2) (m:=t.paragraphs) T12.E52 J J J J J J h5 2 J (fun _=>J) (fun _=>J) J hC fun a4 c3=>(I J (rg (dN J J J (by omega) (A J (N ?_)))));cases hE;intro a w b c;exact ⟨_,h3,a4,c3,b.selH [1,2] J,c.cuE J⟩
  have hF:=aX B y;refine xt J ?_;cases hF;obtain rfl:=dI.out h3;intro a w b c;exact ⟨p,q,b,c.cuE J⟩
 rintro a w ⟨u,x,b,c⟩;apply TG.ap ?_ b c;refine C (A J (I J (bK ?_)));cases h7;intro a w b c;refine dQ c J J ?_;exact ⟨⟨_,_,J,(b.listOut 2 J (fun _=>J))⟩,b.ext⟩

theorem xB {M:Prop} {W:World} (e:Int) (low:Int) (c:Int) {r:Bool} (i:pB e low c=some r):Calls prog 240 #[.int .i64 e,.int .i64 low,.int .i64 c] W (bP M W (.bool r)):=by
 unfold pB at i;refine aM (M:=M) func240 J ntmps240 J (Hp.le.refl _) ?_;refine C (I J (sq ?_));obtain ⟨j,d,f⟩:=L i;refine jn (fun a w=>St M W (hp W) [(hp W)] [] w∧aT [] 15 a [(6,.bool j)]) ?_ ?_
 ·refine rg (A J (A J (jW J J J (A J ?_))));by_cases b:low≤e
  ·have g:=aJ b d;refine gt b J (A J (gt b J (A J (gt b J (jW J J J (pt b J J (I J ?_)))))));cases g;exact cuE J
  have h:=aX b d;refine cH 3 J J J (decide_eq_false b) J (pf b J J (I J ?_));cases h;exact cuE J
 refine X ?_;refine bK ?_;cases f;exact cQ J J

theorem AJ {M:Prop} {W:World} (b:Int) {r:Bool} (e:pV b=some r):Calls prog 210 #[.int .i64 b] W (bP M W (.bool r)):=by
 unfold pV at e;refine aM (M:=M) func210 J ntmps210 J (Hp.le.refl _) ?_;refine C (I J (C (A J ?_)));obtain ⟨g,d,c⟩:=L e;refine bD wT J (fun w H f le=>xB b 0 99999 d) (I J (bK ?_));cases c;exact cQ J J

theorem aC6 (s:H.le (hp W)) {m:List Value} (c:aH) (q:(aG aY) H m c) {j:Addr} {l:Value} {cc:aH→Option Bool} (p:aL H j [l]) (k:fB M prog H l (fU (Va aY) Value.bool cc)) {r:Bool} (n:tK c cc=some r):Calls prog 263 #[.agg m.toArray,.pointer (some j)] W (bP M W (.bool r)):=by
 obtain rfl:=q;have b:=k;obtain ⟨f,e,d,rfl,_,_⟩:=k;unfold tK at n;refine aM (M:=M) func263 J ntmps263 J s ?_;refine C (bI (cs:=[.int .i64 c.anchor,.string (bs c.text)]) J J J fun u t g=>(I J (C (aV aCl J (P 1 J p) J (cU FQ mD J J (P 0 J g) J ?_)))));obtain ⟨o,i,h⟩:=L n;refine oE (v:=.bool o) b 1 J J J J (fun H le=>⟨_,c,o,J,J,i,J⟩) (nt J J (I J (bK ?_)));cases h;exact cQ J J

theorem aC7 (hH:H.le (hp W)) {i:Option Addr} {h:Nat} {ai:List aH} (k:Sl (aG aY) 2 H i h ai) {q:Value} {cj:aH→Option Bool} (s:fB M prog H q (fU (Va aY) Value.bool cj)) {r:Int} (x:IP ai cj=some r):Calls prog 284 #[.slice i ai.length h,q] W (bP M W (.int .i64 r)):=by
 have:=k.len;have d:=s;obtain ⟨e,c,b,rfl,_,_⟩:=s;unfold IP at x;refine aM (M:=M) func284 J ntmps284 J hH ?_;refine C (I J (sq (C (A J (dV AV J J (A J (N ?_)))))));obtain ⟨e19,F,t⟩:=L x;refine jn (fun a w=>∃ B,e19=.inl B∧St M W H [H] [] w∧aT [] 19 a []) ?_ ?_
 ·refine bk ?_;refine lp F (fun z a w=>St M W H [H] [] w∧aT [] 19 a [(0,.slice i ai.length h),(1,.func (.func e) c.toArray b.toArray),(7,.int .i64 (ai.length:Int)),(8,.int .i64 (z:Int))]) ?_ ?_
  ·exact cuE J
  rintro j z y0 l m a w ⟨g,f⟩;refine TG.ap ?_ g f;unfold vJ at l;refine C (dU J J J (N (sq ?_)));refine ci J (fun n=>?_) (fun n=>?_)
  ·have G:=aJ n l;refine sk (sq (bk (C (A J (I J (C (A J (A J ?_))))))));refine A J ?_;obtain ⟨x0,o,K⟩:=L G;obtain ⟨p0,rfl⟩:=k.adr o;have R:=k.atF o;refine cO AV mD J J J J (aS o) (cU FQ mD J J (P 0 J R) J ?_);obtain ⟨y,V,u⟩:=L K;refine oE (v:=.bool y) d 0 J J J J (fun H le=>⟨_,x0,y,J,J,V,J⟩) (N ?_);refine cb J (fun p=>?_) (fun p=>?_)
   ·have Y:=aJ p u;refine C (A J (I J (bK ?_)));cases Y;obtain rfl:=dI.out m;cases t;exact cQ J J
   have Z:=bM p u;refine sk (rg (dN J J J (by omega) (A J (N ?_))));cases Z;intro a w g f;exact ⟨_,m,g,f.cuE J⟩
  have hG:=aX n l;refine xt J ?_;cases hG;obtain rfl:=dI.out m;intro a w g f;exact ⟨_,J,g,f.cut tv⟩
 rintro a w ⟨B,rfl,g,f⟩;apply TG.ap ?_ g f;refine C (I J (bK ?_));cases t;exact cQ J J

theorem aC8 (f:H.le (hp W)) {j:Option Addr} {i:Nat} {ai:List aH} (k:Sl (aG aY) 2 H j i ai) {l:Value} {cj:aH→Option Bool} (m:fB M prog H l (fU (Va aY) Value.bool cj)) {r:Bool} (n:IQ ai cj=some r):Calls prog 262 #[.slice j ai.length i,l] W (bP M W (.bool r)):=by
 have:=k.len;have b:=m;obtain ⟨e,d,c,rfl,_,_⟩:=m;unfold IQ at n;refine aM (M:=M) func262 J ntmps262 J f ?_;refine C (I J (C (A J (A J ?_))));obtain ⟨o,h,g⟩:=L n;refine bD aB7 J (fun w H f le=>aC7 f (k.mono (aG.mono _) (le.at 0 J)) (cj:=cj) (b.mono (le.at 0 J)) h) (qE J J J (I J (bK ?_)));cases g;exact cQ J J

theorem aC9 (i:H.le (hp W)) {o:Option Addr} {n:Nat} {bw:List aH} (p:Sl (aG aY) 2 H o n bw) {q:Value} {right:aH→Option Bool} (s:fB M prog H q (fU (Va aY) Value.bool right)) {r:Bool} (u:CU bw right=some r):Calls prog 241 #[.slice o bw.length n,q] W (bP M W (.bool r)):=by
 have:=p.len;have d:=s;obtain ⟨e,c,b,rfl,_,_⟩:=s;unfold CU at u;refine aM (M:=M) func241 J ntmps241 J i ?_;refine C (bI (cs:=[.func (.func e) c.toArray b.toArray]) J J J fun x R j=>(I J (C (A J (fn J J J ?_)))));obtain ⟨G,m,l⟩:=L u
 refine nQ (v:=.bool G) aBx J J J J (fun w H i le=>by
   have k:fB M prog H (.func (.func 263) #[] #[.pointer (some x)]) (fU (Va aY) Value.bool (fun f=>tK f right)):=⟨263,[],[.pointer (some x)],rfl,aBy,fun Z y g Y t B z=>by obtain ⟨K,f,V,rfl,h,F,rfl⟩:=z;cases h;exact aC6 (H:=y) B  f rfl (cc:=right) (j.mono ((le.at 0 rfl).trans t)) (d.mono ((le.at 1 rfl).trans t)) F⟩
   exact aC8 i (p.mono (aG.mono _) (le.at 1 J)) (cj:=(fun f=>tK f right)) k m) ?_
 refine nt J J (I J (bK ?_));cases l;exact cQ J J

theorem OX {M:Prop} {W:World} (b:Int) {r:Bool} (e:vK b=some r):Calls prog 243 #[.int .i64 b] W (bP M W (.bool r)):=by
 unfold vK at e;refine aM (M:=M) func243 J ntmps243 J (Hp.le.refl _) ?_;refine C (I J (C (A J ?_)));obtain ⟨g,d,c⟩:=L e;refine bD wT J (fun w H f le=>xB b 1 999 d) (I J (bK ?_));cases c;exact cQ J J

theorem aDa (o:H.le (hp W)) (e:Int) {i:Addr} {k:Value} {cc:Int→Option Bool} (n:aL H i [k]) (j:fB M prog H k (fU (Vi .u8) Value.bool cc)) {r:Bool} (l:tL e cc=some r):Calls prog 285 #[.int .u8 e,.pointer (some i)] W (bP M W (.bool r)):=by
 have b:=j;obtain ⟨f,d,c,rfl,_,_⟩:=j;unfold tL at l;refine aM (M:=M) func285 J ntmps285 J o ?_;refine C (I J (C (aV TZ J (P 0 J n) J (A J ?_))));obtain ⟨m,h,g⟩:=L l;refine oE (v:=.bool m) b 0 J J J J (fun H le=>⟨_,e,m,J,J,h,J⟩) (nt J J (I J (bK ?_)));cases g;exact cQ J J

theorem aDb (hH:H.le (hp W)) {i:Option Addr} {h:Nat} {ai:List UInt8} (k:Sl (aG cD) 1 H i h ai) {q:Value} {cj:Int→Option Bool} (s:fB M prog H q (fU (Vi .u8) Value.bool cj)) {r:Int} (x:CV ai cj=some r):Calls prog 106 #[.slice i ai.length h,q] W (bP M W (.int .i64 r)):=by
 have:=k.len;have d:=s;obtain ⟨e,c,b,rfl,_,_⟩:=s;unfold CV at x;refine aM (M:=M) func106 J ntmps106 J hH ?_;refine C (I J (sq (C (A J (dV kZ J J (A J (N ?_)))))));obtain ⟨e19,G,t⟩:=L x;refine jn (fun a w=>∃ B,e19=.inl B∧St M W H [H] [] w∧aT [] 19 a []) ?_ ?_
 ·refine bk ?_;refine lp G (fun z a w=>St M W H [H] [] w∧aT [] 19 a [(0,.slice i ai.length h),(1,.func (.func e) c.toArray b.toArray),(7,.int .i64 (ai.length:Int)),(8,.int .i64 (z:Int))]) ?_ ?_
  ·exact cuE J
  rintro j z y0 l m a w ⟨g,f⟩;refine TG.ap ?_ g f;unfold rK at l;refine C (dU J J J (N (sq ?_)));refine ci J (fun n=>?_) (fun n=>?_)
  ·have K:=aJ n l;refine sk (sq (bk (C (A J (I J (C (A J (A J ?_))))))));refine A J ?_;obtain ⟨F,o,R⟩:=L K;obtain ⟨p0,rfl⟩:=k.adr o;have V:=k.atF o;have:=UInt8.toNat_lt F;refine cO kZ Z5 J J J J (aS o) (aV G5 J (P 0 J V) J ?_);obtain ⟨y,Y,u⟩:=L R;refine oE (v:=.bool y) d 0 J J J J (fun H le=>⟨_,(F.toNat:Int),y,J,J,Y,J⟩) (N ?_);refine cb J (fun p=>?_) (fun p=>?_)
   ·have Z:=aJ p u;refine C (A J (I J (bK ?_)));cases Z;obtain rfl:=dI.out m;cases t;exact cQ J J
   have hF:=bM p u;refine sk (rg (dN J J J (by omega) (A J (N ?_))));cases hF;intro a w g f;exact ⟨_,m,g,f.cuE J⟩
  have hG:=aX n l;refine xt J ?_;cases hG;obtain rfl:=dI.out m;intro a w g f;exact ⟨_,J,g,f.cut tv⟩
 rintro a w ⟨B,rfl,g,f⟩;apply TG.ap ?_ g f;refine C (I J (bK ?_));cases t;exact cQ J J

theorem w70 (f:H.le (hp W)) {j:Option Addr} {i:Nat} {ai:List UInt8} (k:Sl (aG cD) 1 H j i ai) {l:Value} {cj:Int→Option Bool} (m:fB M prog H l (fU (Vi .u8) Value.bool cj)) {r:Bool} (n:PW ai cj=some r):Calls prog 70 #[.slice j ai.length i,l] W (bP M W (.bool r)):=by
 have:=k.len;have b:=m;obtain ⟨e,d,c,rfl,_,_⟩:=m;unfold PW at n;refine aM (M:=M) func70 J ntmps70 J f ?_;refine C (I J (C (A J (A J ?_))));obtain ⟨o,h,g⟩:=L n;refine bD ZJ J (fun w H f le=>aDb f (k.mono (aG.mono _) (le.at 0 J)) (cj:=cj) (b.mono (le.at 0 J)) h) (qE J J J (I J (bK ?_)));cases g;exact cQ J J

theorem aDc (i:H.le (hp W)) {o:Option Addr} {n:Nat} {bw:List UInt8} (p:Sl (aG cD) 1 H o n bw) {q:Value} {right:Int→Option Bool} (s:fB M prog H q (fU (Vi .u8) Value.bool right)) {r:Bool} (u:CW bw right=some r):Calls prog 264 #[.slice o bw.length n,q] W (bP M W (.bool r)):=by
 have:=p.len;have d:=s;obtain ⟨e,c,b,rfl,_,_⟩:=s;unfold CW at u;refine aM (M:=M) func264 J ntmps264 J i ?_;refine C (bI (cs:=[.func (.func e) c.toArray b.toArray]) J J J fun x R j=>(I J (C (A J (fn J J J ?_)))));obtain ⟨G,m,l⟩:=L u
 refine nQ (v:=.bool G) C70 J J J J (fun w H i le=>by
   have k:fB M prog H (.func (.func 285) #[] #[.pointer (some x)]) (fU (Vi .u8) Value.bool (fun f=>tL f right)):=⟨285,[],[.pointer (some x)],rfl,aB8,fun Z y g Y t B z=>by obtain ⟨K,f,V,rfl,h,F,rfl⟩:=z;cases h;exact aDa (H:=y) B  f (cc:=right) (j.mono ((le.at 0 rfl).trans t)) (d.mono ((le.at 1 rfl).trans t)) F⟩
   exact w70 i (p.mono (aG.mono _) (le.at 1 J)) (cj:=(fun f=>tL f right)) k m) ?_
 refine nt J J (I J (bK ?_));cases l;exact cQ J J

theorem aDd {M:Prop} {W:World} (d:Int) {r:Bool} (h:vL d=some r):Calls prog 265 #[.int .u8 d] W (bP M W (.bool r)):=by
 unfold vL at h;refine aM (M:=M) func265 J ntmps265 J (Hp.le.refl _) ?_;refine C (I J (sq ?_));obtain ⟨i,c,e⟩:=L h;refine jn (fun a w=>St M W (hp W) [(hp W)] [] w∧aT [] 9 a [(2,.bool i)]) ?_ ?_
 ·refine rg (A J (jW J J J (A J ?_)));by_cases b:(32:Int)≤d
  ·have f:=aJ b c;refine gt b J (A J (gt b J (jW J J J (pt b J J (I J ?_)))));cases f;exact cuE J
  have g:=aX b c;refine cH 2 J J J (decide_eq_false b) J (pf b J J (I J ?_));cases g;exact cuE J
 refine X ?_;refine bK ?_;cases e;exact cQ J J

theorem OY {M:Prop} {W:World} (ai:aF) {r:Bool} (i:vM ai=some r):Calls prog 244 #[.string (bs ai)] W (bP M W (.bool r)):=by
 unfold vM at i;refine aM (M:=M) func244 J ntmps244 J (Hp.le.refl _) ?_;refine C (I J (sq ?_));obtain ⟨K,k,l⟩:=L i;refine jn (fun a w=>St M W (hp W) [(hp W)] [] w∧aT [] 11 a [(2,.bool K)]) ?_ ?_
 ·refine rg (A J (uN U9 J J ?_));obtain ⟨F,m,f⟩:=L k;refine bD wT J (fun w H h le=>xB (ai.length:Int) 1 200 m) (A J ?_);rcases Bool.eq_false_or_eq_true (F) with b | b
  ·have n:=aJ b f;refine gN J J (b) (A J (gN J J (b) ?_));obtain ⟨o,p⟩:=aE n;refine XY U9 kZ U5 J J o fun Y Z j g=>?_;have:=g.len;refine gN J J (b) ?_;obtain ⟨G,q,t⟩:=L p
   refine nQ (v:=.bool G) aBz J J J J (fun w H h le=>by
     have u:fB M prog H (.func (.func 265) #[] #[]) (fU (Vi .u8) Value.bool (vL)):=⟨265,[],[],rfl,aB0,fun w_ V c v_ hK hw z=>by obtain ⟨R,e,r_,rfl,d,B,rfl⟩:=z;cases d;exact aDd  e  B⟩
     exact aDc h (g.mono (aG.mono _) (le.at 0 J)) (right:=(vL)) u q) ?_
   refine pT J J (b) J (I J ?_);cases t;intro a w y s;exact ⟨y.selH [1] J,s.cuE J⟩
  have x:=bM b f;refine cH 3 J J J (b) J (pF J J (b) J (I J ?_));cases x;exact cuE J
 refine X ?_;refine bK ?_;cases l;exact cQ J J

theorem aDe {M:Prop} {W:World} {e:List Value} (c:aH) (i:(aG aY) (hp W) e c) {r:Bool} (g:tM c=some r):Calls prog 242 #[.agg e.toArray] W (bP M W (.bool r)):=by
 obtain rfl:=i;unfold tM at g;refine aM (M:=M) func242 J ntmps242 J (Hp.le.refl _) ?_;refine C (bI (cs:=[.int .i64 c.anchor,.string (bs c.text)]) J J J fun u h d=>(I J (sq ?_)));obtain ⟨t,j,k⟩:=L g;refine jn (fun a w=>St M W (hp W) [h,(hp W)] [] w∧aT [] 11 a [(2,.bool t)]) ?_ ?_
 ·refine rg (aZ 0 AI J Z3 (aV G3 J ((P 0 J d).take 1) J ?_));obtain ⟨s,l,f⟩:=L j;refine bD OB J (fun w H q le=>OX c.anchor l) (A J ?_);rcases Bool.eq_false_or_eq_true (s) with b | b
  ·have m:=aJ b f;refine gN J J (b) (aZ 1 AI J Z9 (gN J J (b) (aV G9 J ((P 0 J d).drop 1) J (gN J J (b) ?_))));obtain ⟨v,n,o⟩:=L m;refine bD OC J (fun w H q le=>OY c.text n) (pT J J (b) J (I J ?_));cases o;exact cuE J
  have p:=bM b f;refine cH 3 J J J (b) J (pF J J (b) J (I J ?_));cases p;exact cuE J
 refine X ?_;refine bK ?_;cases k;exact cQ J J

theorem aDf (k:H.le (hp W)) {cl:List Value} (b:bU) (cw:(cC) H cl b) {r:Bool} (hr:CX b=some r):Calls prog 206 #[.agg cl.toArray] W (bP M W (.bool r)):=by
 have p:=cw;obtain ⟨s,h,rfl,q⟩:=cw;have:=q.len;unfold CX at hr;refine aM (M:=M) func206 J ntmps206 J k ?_;refine C (bI (cs:=[.int .i64 b.number,.int .i64 b.bound,.int .i64 b.height,.int .i64 b.width,.slice s b.parts.length h]) J J J fun q4 u d=>(I J (sq (C (aZ 4 nL J AT (aV GW J ((P 0 J d).drop 4) J (dV yR J J (A J ?_))))))));refine N ?_;obtain ⟨B,hX,hE⟩:=L hr;refine jn (fun a w=>∃ t58,B=.inl t58∧St M W H [u,H] [] w∧aT [] 64 a [(1,.pointer (some q4))]) ?_ ?_
 ·refine bk ?_;refine lp hX (fun x a w=>St M W H [u,H] [] w∧aT [] 64 a [(1,.pointer (some q4)),(6,.slice s b.parts.length h),(7,.int .i64 (b.parts.length:Int)),(8,.int .i64 (x:Int))]) ?_ ?_
  ·exact cuE J
  rintro j x y0 G K a w ⟨e,c⟩;refine TG.ap ?_ e c;unfold vN at G;refine C (dU J J J (N (sq ?_)));refine ci J (fun R=>?_) (fun R=>?_)
  ·have V:=aJ R G;refine sk (sq (bk (C (A J ?_))));obtain ⟨y,Z,aa⟩:=L V;obtain ⟨p0,rfl⟩:=q.adr Z;obtain ⟨c1,bo,ac,hG⟩:=q.at Z;have bp:=hG;obtain ⟨a0,c0,rfl,ae⟩:=hG;have:=ae.len
   let t:List Value:=[.int .i64 y.day,.slice a0 y.paragraphs.length c0]
   refine cO yR yQ J J J J (aS Z) (cU G54 yQ J J (P 1 J ac) J (al 1 (cs:=[.int .i64 0,.slice none 0 0]) zeroValue54 J J fun b0=>(a1 J (eV 1 (cs:=t) yQ J J J J J J J (N (sq ?_))))));obtain ⟨t0,ag,hI⟩:=L aa;refine jn (fun a w=>St M W H [u,H] [(1,bH b0 54 t)] w∧aT [] 64 a [(1,.pointer (some q4)),(6,.slice (some p0) b.parts.length h),(7,.int .i64 (b.parts.length:Int)),(8,.int .i64 (x:Int)),(39,.bool t0)]) ?_ ?_
   ·obtain ⟨r0,ai,hJ⟩:=L ag;refine eB 24 mixed (by kernel_rfl) J (E J (aZ 0 GY J Z3 D) (E J (aV G3 J ((sO 1 J).take 1) J D) (E J (bD AB J (fun w H k le=>AJ y.day ai) D) (E J (nt J J D) (E J (A J D) ?_)))));rcases Bool.eq_false_or_eq_true (r0) with i | i
    ·have hL:=aJ i hJ;refine E J (gN J J (congrArg not (i)) (aZ 0 GY J Z3 D)) (E J (gN J J (congrArg not (i)) (aV G3 J ((sO 1 J).take 1) J D)) (E J (gN J J (congrArg not (i)) (aZ 1 nL J Z3 D)) (E J (gN J J (congrArg not (i)) (aV G3 J (((P 1 J d).drop 1).take 1) J D)) (E J (gN J J (congrArg not (i)) (lW J J J D)) (E J (pF J J (congrArg not (i)) J D) (E J (A J D) ?_))))));by_cases g:b.bound < y.day
     ·have ak:=aJ g hL;refine jC 3 J J (decide_eq_true g) J ⟨J,J,J,tv⟩ (E J (gU J J J D) (E J (gU J J J D) (E J (gU J J J D) (E J (gU J J J D) (E J (gU J J J D) (E J (gU J J J D) (E J (gU J J J D) (E J (gU J J J D) (E J (gU J J J D) (DF.nil fun bi hF=>(gU J J J ?_)))))))))));refine zL g J (pt g J J (N ?_));cases ak;intro a w e c;exact ⟨e.selH [1,2] J,c.cuE J⟩
     have hM:=aX g hL;refine E J (cW g J (A J D)) (E J (cW g J (lW J J J D)) (E J (cW g J (A J D)) ?_));by_cases f:0 < (x:Int)
     ·have an:=aJ f hM;obtain ⟨x1,hN,aq⟩:=L an;obtain ⟨c2,bq,aw,hO⟩:=q.at hN;have br:=hO;obtain ⟨a2,c3,rfl,ax⟩:=hO;have:=ax.len;refine E J (gt f J (aZ 0 GY J Z3 D)) (E J (gt f J (aV G3 J ((sO 1 J).take 1) J D)) (E J (gt f J (aZ 4 nL J AT D)) (E J (gt f J (aV GW J ((P 1 J d).drop 4) J D)) (E J (gt f J (A J D)) (E J (gt f J (oD J J J (by omega) D)) (E J (gt f J (cO yR yQ J J J (by omega) (aS hN) D)) (E J (gt f J (aZ 0 GY J Z3 D)) (E J (gt f J (aV G3 J ((P 2 J aw).take 1) J D)) (DF.nil fun bj hF=>(gt f J (jW J J J ?_)))))))))));refine cW g J (pt f J J (pf g J J (N ?_)));cases aq;intro a w e c;exact ⟨e.selH [1,2] J,c.cuE J⟩
     have ay:=aX f hM;refine jC 9 J J (decide_eq_false f) J ⟨J,J,J,J,J,J,J,J,J,tv⟩ (DF.nil fun bl hF=>(gf f J (cW g J (pf f J J (pf g J J (N ?_))))));cases ay;intro a w e c;exact ⟨e.selH [1,2] J,c.cuE J⟩
    have az:=bM i hJ;refine jC 5 J J (congrArg not (i)) J ⟨J,J,J,J,J,tv⟩ (E J (pT J J (congrArg not (i)) J D) (E J (A J D) (jC 3 J J J J ⟨J,J,J,tv⟩ (E J (gU J J J D) (E J (gU J J J D) (E J (gU J J J D) (E J (gU J J J D) (E J (gU J J J D) (E J (gU J J J D) (E J (gU J J J D) (E J (gU J J J D) ?_)))))))))));refine E J (gU J J J D) (DF.nil fun bm hF=>(gU J J J (gF J J J J (pT J J J J (N ?_)))));cases az;intro a w e c;exact ⟨e.selH [1,2] J,c.cuE J⟩
   refine X ?_;refine cb J (fun hC=>?_) (fun hC=>?_)
   ·have a4:=aJ hC hI;refine C (I J (bK ?_));cases a4;obtain rfl:=dI.out K;cases hE;exact cQ J J
   have a5:=bM hC hI;refine sk (rg (dN J J J (by omega) (A J (N (TG.del 1 ?_)))));cases a5;intro a w e c;exact ⟨_,K,e,c.cuE J⟩
  have a6:=aX R G;refine xt J ?_;cases a6;obtain rfl:=dI.out K;intro a w e c;exact ⟨_,J,e,c.cuE J⟩
 rintro a w ⟨t58,rfl,e,c⟩;apply TG.ap ?_ e c;refine sq ?_;obtain ⟨t1,a7,a8⟩:=L hE;refine jn (fun a w=>St M W H [u,H] [] w∧aT [] 64 a [(2,.bool t1)]) ?_ ?_
 ·refine rg (aZ 0 nL J Z3 (aV G3 J ((P 0 J d).take 1) J ?_));obtain ⟨r1,a9,hP⟩:=L a7;refine bD wT J (fun w H k le=>xB b.number 1 99 a9) (A J ?_);rcases Bool.eq_false_or_eq_true (r1) with l | l
  ·have ba:=aJ l hP;refine gN J J (l) (aZ 1 nL J Z3 (gN J J (l) (aV G3 J (((P 0 J d).drop 1).take 1) J (gN J J (l) ?_))));obtain ⟨r2,bb,hR⟩:=L ba;refine bD AB J (fun w H k le=>AJ b.bound bb) (pT J J (l) J (A J ?_));rcases Bool.eq_false_or_eq_true (r2) with m | m
   ·have bc:=aJ m hR;refine gN J J (m) (aZ 2 nL J Z3 (gN J J (m) (aV G3 J (((P 0 J d).drop 2).take 1) J (gN J J (m) ?_))));obtain ⟨r3,bd,hT⟩:=L bc;refine bD wT J (fun w H k le=>xB b.height 1 60 bd) (pT J J (m) J (A J ?_));rcases Bool.eq_false_or_eq_true (r3) with n | n
    ·have be:=aJ n hT;refine gN J J (n) (aZ 3 nL J Z3 (gN J J (n) (aV G3 J (((P 0 J d).drop 3).take 1) J (gN J J (n) ?_))));obtain ⟨r4,bf,hV⟩:=L be;refine bD wT J (fun w H k le=>xB b.width 10 80 bf) (pT J J (n) J (A J ?_));rcases Bool.eq_false_or_eq_true (r4) with o | o
     ·have bg:=aJ o hV;refine gN J J (o) (cU mJ iQ J J (P 0 J d) J (gN J J (o) ?_));obtain ⟨r8,Y,ab⟩:=L bg;refine gY JN J J J J (fun w H k le=>JS k b (cC.mono _ _ _ _ (le.at 1 J) p) Y) ?_;rintro v_ bn ⟨a3,c4,rfl,hW⟩;have:=hW.len;refine gN J J (o) ?_;obtain ⟨r5,ad,af⟩:=L ab
      refine nQ (v:=.bool r5) aBr J J J J (fun w H k le=>by
        have ah:fB M prog H (.func (.func 242) #[] #[]) (fU (Va aY) Value.bool (tM)):=⟨242,[],[],rfl,aBs,fun w_ K_ z v_ hK hw hs=>by obtain ⟨bt,bh,r_,rfl,F,hx,rfl⟩:=hs;cases F;exact aDe  bh rfl  hx⟩
        exact aC9 k (hW.mono (aG.mono _) (le.at 0 J)) (right:=(tM)) ah ad) ?_
      refine pT J J (o) J (I J ?_);cases af;intro a w e c;exact ⟨e.selH [1,2] J,c.cuE J⟩
     have aj:=bM o hV;refine cH 3 J J J (o) J (pF J J (o) J (I J ?_));cases aj;exact cuE J
    have am:=bM n hT;refine cH 3 J J J (n) J (pF J J (n) J (A J (cH 3 J J J J J (pF J J J J (I J ?_)))));cases am;exact cuE J
   have ao:=bM m hR;refine cH 3 J J J (m) J (pF J J (m) J (A J (cH 3 J J J J J (pF J J J J (A J (cH 3 J J J J J (pF J J J J (I J ?_))))))));cases ao;exact cuE J
  have ar:=bM l hP;refine cH 3 J J J (l) J (pF J J (l) J (A J (cH 3 J J J J J (pF J J J J (A J (cH 3 J J J J J (pF J J J J (A J (cH 3 J J J J J (pF J J J J (a1 J ?_)))))))))));refine N ?_;cases ar;exact cuE J
 refine X ?_;refine bK ?_;cases a8;exact cQ J J

theorem OZ (l:H.le (hp W)) {cl:List Value} (d:bU) (cw:(cC) H cl d) {r:Int} (hr:vP d=some r):Calls prog 169 #[.agg cl.toArray] W (bP M W (.int .i64 r)):=by
 have b:=cw;obtain ⟨o,k,rfl,B⟩:=cw;have:=B.len;unfold vP at hr;refine aM (M:=M) func169 J ntmps169 J l ?_;refine C (bI (cs:=[.int .i64 d.number,.int .i64 d.bound,.int .i64 d.height,.int .i64 d.width,.slice o d.parts.length k]) J J J fun q4 n h=>(I J (C (cU mJ iQ J J (P 0 J h) J ?_))));obtain ⟨r7,G,F⟩:=L hr;refine gY JN J J J J (fun w H l le=>JS l d (cC.mono _ _ _ _ (le.at 1 J) b) G) ?_;rintro v_ f ⟨Y,Z,rfl,s⟩;have:=s.len;refine I J (sq (bk (sq ?_)));obtain ⟨t30,h9,hB⟩:=L F;refine jn (fun a w=>St M W H [f,n,H] [] w∧aT [] 38 a [(1,.pointer (some q4)),(3,.slice Y r7.length Z),(9,.bool t30)]) ?_ ?_
 ·refine rg (aZ 4 nL J AT (aV GW J ((P 1 J h).drop 4) J (dV yR J J (lW J J J (A J ?_)))));by_cases e:6 < (d.parts.length:Int)
  ·have hG:=aJ e h9;refine cH 3 J J J (decide_eq_true e) J (pt e J J (I J ?_));cases hG;exact cuE J
  have hI:=aX e h9;refine cW e J (A J (cW e J (dV AV J J (cW e J (lW J J J (pf e J J (I J ?_)))))));cases hI;exact cuE J
 refine X ?_;refine cb J (fun t=>?_) (fun t=>?_)
 ·have hJ:=aJ t hB;refine C (I J (bK ?_));cases hJ;exact cQ J J
 have hK:=bM t hB;refine C (cU mJ iQ J J (P 1 J h) J ?_);obtain ⟨r0,hL,hC⟩:=L hK;refine bD aBd J (fun w H l le=>aDf l d (cC.mono _ _ _ _ (le.at 2 J) b) hL) (nt J J (I J ?_));refine cb J (fun h1=>?_) (fun h1=>?_)
 ·replace h1:=mQ h1
  have hM:=bM h1 hC;refine C (I J (bK ?_));cases hM;exact cQ J J
 replace h1:=mR h1
 have hN:=aJ h1 hC;refine sk (C (KN 1 fC Value.bool J fun p=>(I J (sq (C (A J (dV AV J J (A J ?_))))))));refine N ?_;obtain ⟨q,hO,hE⟩:=L hN;refine jn (fun a w=>∃ R,q=.inl R∧St M W H [f,n,H] [(1,S.map' fC Value.bool p R)] w∧aT [] 38 a []) ?_ ?_
 ·refine bk ?_;refine lp hO (fun K a w=>St M W H [f,n,H] [(1,S.map' fC Value.bool p K.2)] w∧aT [] 38 a [(4,.map (some p)),(24,.slice Y r7.length Z),(25,.int .i64 (r7.length:Int)),(26,.int .i64 (K.1:Int))]) ?_ ?_
  ·exact cuE J
  rintro j K y0 u v a w ⟨i,g⟩;refine TG.ap ?_ i g;unfold vO at u;refine C (dU J J J (N (sq ?_)));refine ci J (fun x=>?_) (fun x=>?_)
  ·have hP:=aJ x u;refine sk (sq (bk (C ?_)));obtain ⟨m,y,hF⟩:=L hP;obtain ⟨p0,rfl⟩:=s.adr y;have hR:=s.atF y;refine cO AV mD J J J J (aS y) (cU FQ mD J J (P 0 J hR) J (va (cs:=[.int .i64 m.anchor,.string (bs m.text)]) zeroValue58 mD J J J J J J J J fun q0 V c=>(N (sq (C (A J (aZ 0 AI J Z3 (aV G3 J ((P 0 J c).take 1) J (HY (ke:=fC) (enc:=Value.bool) m.anchor (z0:=false) kN U3 zeroValue4 J J J J (mO 1 J) (N ?_))))))))));refine cb J (fun z=>?_) (fun z=>?_)
   ·have hT:=aJ z hF;refine C (I J (bK ?_));cases hT;obtain rfl:=dI.out v;cases hE;exact cQ J J
   have hV:=bM z hF;refine sk (rg (A J (aZ 0 AI J Z3 (aV G3 J ((P 0 J c).take 1) J (GR 1 (ke:=fC) (enc:=Value.bool) m.anchor true kN U3 J J J J (N (rg (dN J J J (by omega) (A J (N ?_))))))))));cases hV;intro a w i g;exact ⟨_,v,i.selH [1,2,3] J,g.cuE J⟩
  have hW:=aX x u;refine xt J ?_;cases hW;obtain rfl:=dI.out v;intro a w i g;exact ⟨_,J,i,g.cut tv⟩
 rintro a w ⟨R,rfl,i,g⟩;apply TG.ap ?_ i g;refine C (I J (bK ?_));cases hE;exact cQ J J

theorem iU {M:Prop} {W:World} (e:Int) {r:Unit⊕Unit} (g:lH e=some r):Calls prog 168 #[.int .i64 e] W (vB M W (fun r=>.tuple #[]) (.iface 149 (.agg #[.int .i64 e])) r):=by
 unfold lH at g;refine aM (M:=M) func168 J ntmps168 J (Hp.le.refl _) ?_;refine rg (A J (fE J J J (A J ?_)));obtain ⟨i,c,b⟩:=L g;rcases i with j | j
 ·refine bD eS J (fun w H h le=>iD (eT (decide (e=0)) e c)) (N ?_);cases b;intro a w f d;refine eA d J ?_;exact rE J f.ext
 refine dW eS J J J (fun w H h le=>iE (eT (decide (e=0)) e c)) ?_;cases b;intro a w f d;exact ⟨d.defers,lY f.ext⟩

theorem PA {M:Prop} {W w:World} {H V:Hp} {σr:aK} {v:Nat} {ae:List Value} (f:aI) (bf:aU V ae f) {bb:Option Addr} {aw:Nat} {bp:List Int} (ah:Sl (aG (bT .i64)) 1 V bb aw bp) (text:aF) {r:aI⊕Int} (hr:zO f bp text=some r) (c:St M W H [V] ((1,bH v 81 ae)::σr) w):Calls prog 111 #[.pointer (some ⟨v,0,none⟩),.slice bb bp.length aw,.string (bs text)] w (eX M W H V σr (qK (fun y e K A'=>∃ (dg:List Value),e=.returned (.tuple #[])∧A'=[(1,bH v 81 dg)]∧aU K dg y) (fun u=>.iface 149 (.agg #[.int .i64 u])) [(1,bH v 81 ae)] r)):=by
 have:=ah.len;unfold zO at hr;obtain ⟨z1,rfl,p⟩:=bf;have:=p.lens;refine cP (M:=M) func111 J ntmps111 J c ?_;refine C (A J (nl J J (aZ 0 eZ J eJ (aZ 7 eO J Z4 (aV G4 J (((sO 1 J).drop 7).take 1) J (nt J J ?_))))));obtain ⟨r3,bc,ba⟩:=L hr;rcases r3 with y6 | y6
 ·refine bD eS J (fun w H hH le=>iD (eT (!f.state.bound) 8 bc)) (N (C (A J ?_)));obtain ⟨s,an,hL⟩:=L ba;obtain ⟨p0,rfl⟩:=ah.adr an;have hM:=ah.atF an
  let ab:List Value:=[.int .i64 s,.string (bs text)]
  refine cO eI Z3 J J J J (aS an) (aV G3 J (P 0 J hM) J (A J (bu (cs:=ab) T12.B58 J J J (va (cs:=ab) zeroValue58 mD J J J J J J J J fun q0 ao Y=>(N (C (A J (nl J J (aZ 0 eZ J eJ (aZ 2 eO J iQ ?_))))))))));refine aZ 4 nL J AT (aV GW J (((sO 1 J).drop 6).take 1) J ?_);obtain ⟨k,hN,hO⟩:=L hL;refine KU 2 aAu J J J J (fun w V σr c le=>aC3 (ai:=f.state.volume.parts) (p.f0.mono (bV.mono) (le.at 1 J)) hN c) fun a4 c2 c3 ay i=>(I J (sq (C (A J (TG.len 2 J fun _=>(dV yR J J (oD J J J (by omega) (I J ?_))))))));refine sq ?_;obtain ⟨t45,h5,hP⟩:=L hO;refine jn (fun a w=>St M W H [ay,ao,V] ([(2,S.rows a4 c2 54 2 c3 k),(1,bH v 81 (cB f.state z1))]++σr) w∧aT [] 79 a [(0,.pointer (some (⟨v,0,none⟩))),(6,.pointer (some q0)),(7,.slice a4 k.length c2),(8,.int .i64 ((k.length:Int) - 1)),(45,.bool t45)]) ?_ ?_
  ·by_cases g:0≤((k.length:Int) - 1)
   ·have hR:=aJ g h5;obtain ⟨x1,h2,hT⟩:=L hR;refine TG.addr 2 J (fO h2) fun b1 h=>?_;subst h;obtain ⟨cR,h6,cn,co,s1⟩:=VY i h2;have cp:=h6;obtain ⟨a8,cS,rfl,hV⟩:=h6;have:=hV.len;refine eB 13 mixed (by kernel_rfl) J (E J (A J D) (E J (qE J J J D) (E J (A J D) (E J (gt g J (A J D)) (E J (gt g J (A J D)) (E J (gt g J (cO yR yQ J J J (by omega) (aS h2) D)) (E J (gt g J (aZ 0 GY J Z3 D)) (E J (gt g J (aV G3 J ((s1 (t:=2) J).take 1) J D)) (E J (gt g J (A J D)) (E J (gt g J (nl J J D)) (E J (gt g J (aZ 0 eZ J eJ D)) ?_)))))))))));refine E J (gt g J (aZ 0 eO J Z3 D)) (E J (gt g J (aV G3 J ((sO 1 J).take 1) J D)) (DF.nil fun cd B=>(gt g J (fE J J J (pt g J J (N ?_))))));cases hT;intro a w c d;exact ⟨c.selH [1,2,3] J,d.cuE J⟩
   have hW:=aX g h5;refine eB 13 mixed (by kernel_rfl) J (E J (A J D) (E J (qE J J J D) (E J (A J D) (jC 10 J J (decide_eq_false g) J ⟨J,J,J,J,J,J,J,J,J,J,tv⟩ (DF.nil fun ce B=>(gf g J (pf g J J (N ?_))))))));cases hW;intro a w c d;exact ⟨c.selH [1,2,3] J,d.cuE J⟩
  refine X ?_;obtain ⟨t142,h7,hX⟩:=L hP;refine jn (fun a w=>∃ (a2:Option Addr) (c1:Nat) (c4:List (List Value)) (o:Hp),St M W H [o,ay,ao,V] ([(2,S.rows a2 c1 54 2 c4 t142),(1,bH v 81 (cB f.state z1))]++σr) w∧aT [] 79 a [(0,.pointer (some (⟨v,0,none⟩))),(7,.slice a2 t142.length c1)]∧Rows (bV) 2 o c4 t142) ?_ ?_
  ·refine cb J (fun h3=>?_) (fun h3=>?_)
   ·have bd:=aJ h3 h7;obtain ⟨cq,be⟩:=aE bd;obtain ⟨x0,h1,bg⟩:=L be;refine TG.addr 2 J (fO h1) fun b0 h=>?_;subst h;obtain ⟨cg,h8,cr,bh,s2⟩:=VY i h1;have cl:=h8;obtain ⟨a9,ch,rfl,h9⟩:=h8;have:=h9.len;obtain ⟨G,bi,bj⟩:=L bg;refine eB 9 mixed (by kernel_rfl) J (E J (A J D) (E J (A J D) (E J (A J D) (E J (A J D) (E J (cO yR yQ J J J (by omega) (aS h1) D) (E J (aZ 1 GY J UG D) (E J (aV G52 J ((s2 (t:=2) J).drop 1) J D) (E J (cU FQ mD J J (P 2 J Y) J D) (uS G.length (aG aY) 2 G (aG.mono _) J (gY aAv J J J J (fun w H hH le=>aC5 hH (h9.mono (aG.mono _) (le.at 1 J)) (⟨s,text⟩:aH) J bi) (kS (aG.mono _))) fun a3 c5=>(DF.nil fun b6 B=>?_))))))))));obtain ⟨hB,_⟩:=B;have:=hB.len;refine cO yR yQ J J J (by omega) (aS h1) (aZ 1 GY J UG ?_);have bl:(k.set (((k.length:Int) - 1).toNat) (⟨x0.day,G⟩:dX)).length=k.length:=(zH _ _ _)
    let Z:List Value:=[.int .i64 x0.day,.slice a3 G.length c5]
    refine TG.pack (fun K=>Rows (bV) 2 K (c3.set (((k.length:Int) - 1).toNat) Z) (k.set (((k.length:Int) - 1).toNat) (⟨x0.day,G⟩:dX))) (fun H le=>Rows.set (R:=bV) (cs1:=Z) (y:=(⟨x0.day,G⟩:dX)) J J ⟨_,_,J,(hB.mono (aG.mono _) (le.at 0 J))⟩ (((k.length:Int) - 1).toNat) (i.mono (bV.mono) (le.at 1 J))) fun aq aj=>(stR 2 (⟨x0.day,G⟩:dX) Z (q:=⟨b0,0,none⟩) (j:=((k.length:Int) - 1).toNat) (size:=2) (cs:=[.slice a3 G.length c5]) (off:=1) UG (MY (b:=1) J) J J i bh J J J J J J (N ?_));cases bj;intro a w c d;exact ⟨(some ⟨b0,0,none⟩),c2,(c3.set (((k.length:Int) - 1).toNat) [Value.int .i64 x0.day,Value.slice a3 G.length c5]),aq,c.selH [0,2,3,4] J,d.cut ⟨J,(congrArg (fun (n:Nat)=>some (Value.slice (some ⟨b0,0,none⟩) n c2)) bl.symm),tv⟩,aj⟩
   have bm:=bM h3 h7;refine eB 10 mixed (by kernel_rfl) J (E J (A J D) (E J (A J D) (E J (nl J J D) (E J (aZ 0 eZ J eJ D) (E J (aZ 0 eO J Z3 D) (E J (aV G3 J ((sO 1 J).take 1) J D) (E J (cU FQ mD J J (P 2 J Y) J D) ?_)))))))
   refine uS 1 (aG aY) 2 ([(⟨s,text⟩:aH)]:List aH) (aG.mono _) J (bS (cs:=ab) T12.E52 J J J J fun q1 ar bn ad=>by
     have hC:Sl (aG aY) 2 ar (some q1) 1 ([(⟨s,text⟩:aH)]:List aH):=Sl.litF (fun _=>J) (fun _=>J) bn ad J J J;have:=hC.len
     exact qM (aG.mono _) hC) fun a5 c6=>?_
   let z:List Value:=[.int .i64 f.state.day,.slice a5 1 c6]
   refine uC (.agg z.toArray) (fun K=>Sl (aG aY) 2 K a5 c6 ([(⟨s,text⟩:aH)]:List aH)) (fun _ _ h x=>x.mono (aG.mono _) h) J (fun a w K c d B F=>TG.pa c d (bu (cs:=z) T12.B54 J J J (F (B.1 J)))) ?_
   refine uF 1 (bV) 2 ([(⟨f.state.day,([(⟨s,text⟩:aH)]:List aH)⟩:dX)]:List dX) (bV.mono) J (fun a w K c d B=>TG.pa c d (bS (cs:=z) T12.E25 J J J J fun q2 b7 bo af=>by
     refine TG.pack (fun K=>Sl (bV) 2 K (some q2) 1 ([(⟨f.state.day,([(⟨s,text⟩:aH)]:List aH)⟩:dX)]:List dX)) (fun H le=>Sl.litR (css:=[z]) (l:=([(⟨f.state.day,([(⟨s,text⟩:aH)]:List aH)⟩:dX)]:List dX)) ⟨⟨J,J,⟨_,_,J,((B.1 J).mono (aG.mono _) (le.at 1 J))⟩⟩,tv⟩ bo (af.mono (le.at 0 J)) J) fun b8 hE=>?_;have:=hE.len;refine sk1 ?_
     exact qM (bV.mono) hE)) fun a6 c7=>?_
   refine DF.nil fun b9 B=>?_;obtain ⟨hG,cm,bq,_⟩:=B;have:=bq.len;have:=hG.len;obtain ⟨br,bt⟩:=aE bm;have:=eM k ([(⟨f.state.day,([(⟨s,text⟩:aH)]:List aH)⟩:dX)]:List dX);refine TG.pack (fun K=>Sl (bV) 2 K a6 c7 ([(⟨f.state.day,([(⟨s,text⟩:aH)]:List aH)⟩:dX)]:List dX)∧Rows (bV) 2 K c3 k) (fun H le=>⟨hG.mono (bV.mono) (le.at 0 J),i.mono (bV.mono) (le.at 1 J)⟩) fun au ⟨bv,ak⟩=>(VZ 2 (l:=k) (m:=([(⟨f.state.day,([(⟨s,text⟩:aH)]:List aH)⟩:dX)]:List dX)) T12.E25 J J J J J J bv ak bV.one J br fun a7 c8 c9 am=>(I J ?_));cases bt;intro a w c d;exact ⟨a7,c8,c9,au,c.selH [0,2,3,4] J,d.cuE J,am⟩
  rintro a w ⟨a2,c1,c4,o,c,d,ag⟩;refine TG.ap ?_ c d;refine C (A J (A J (TG.stillR 2 J 0 J (bV.mono) ag fun ca h4=>?_)));have:=h4.len;obtain ⟨r4,bw,bx⟩:=L hX;refine YP 1 NX J J J J J (fun w V σr c le=>UM f ⟨z1,J,{p.mono (le.at 4 J) with f0:=(p.f0.mono (bV.mono) (le.at 4 J))}⟩ (parts:=t142) (h4.mono (bV.mono) (le.at 0 J)) bw c) ?_;rintro v_ cc ⟨cj,rfl,hI⟩;have bz:=hI;obtain ⟨cf,ck,rfl,b2⟩:=hI;have:=b2.len;obtain ⟨r2,b3,b4⟩:=L bx;refine bD NW J (fun w H hH le=>OZ hH r4 (cC.mono _ _ _ _ (le.at 0 J) bz) b3) ?_;obtain ⟨r5,hJ,hK⟩:=L b4
  let az:List Value:=((cB f.state z1).set 6 (.slice a2 t142.length c1))
  rcases r5 with y0 | y0
  ·refine bD iT J (fun w H hH le=>iD (iU r2 hJ)) (N (rg (A J (A J (nl J J (aZ 0 eZ J eJ (aZ 2 eO J iQ (aZ 4 nL J AT (eV 1 (cs:=[.slice a2 t142.length c1]) AT J J J J J J J (N (TG.pack (fun K=>aU K az (⟨({f.state with volume:=({f.state.volume with parts:=t142}:bU)}:cY)⟩:aI)) (fun H le=>⟨{z1 with a0:=a2,c0:=c1},J,{p.mono (le.at 5 J) with f0:=(h4.mono (bV.mono) (le.at 1 J))}⟩) fun ax b5=>?_)))))))))));cases hK;intro a w c d;refine eA d J ?_;exact ⟨ax,[(1,bH v 81 az)],c.selH [0,6] J,_,J,J,b5⟩
  refine dW iT J J J (fun w H hH le=>iE (iU r2 hJ)) ?_;cases hK;intro a w c d;exact ⟨d.defers,V,[_],c.selH [5,5] J,J,J⟩
 refine dW eS J J J (fun w H hH le=>iE (eT (!f.state.bound) 8 bc)) ?_;cases ba;intro a w c d;exact ⟨d.defers,V,[_],c.selH [0,0] J,J,J⟩

theorem aDg {M:Prop} {W w:World} {H V:Hp} {σr:aK} {j:Nat} {ae:List Value} (b:aI) (bf:aU V ae b) {bb:Option Addr} {aw:Nat} {bp:List Int} (o:Sl (aG (bT .i64)) 1 V bb aw bp) (cx:aF) {r:aI⊕Int} (hr:CY b bp cx=some r) (c:St M W H [V] ((1,bH j 81 ae)::σr) w):Calls prog 112 #[.pointer (some ⟨j,0,none⟩),.slice bb bp.length aw,.string (bs cx)] w (eX M W H V σr (qK (fun y e K A'=>∃ (dg:List Value),e=.returned (.tuple #[])∧A'=[(1,bH j 81 dg)]∧aU K dg y) (fun u=>.iface 149 (.agg #[.int .i64 u])) [(1,bH j 81 ae)] r)):=by
 have:=o.len;unfold CY at hr;obtain ⟨z,rfl,l⟩:=bf;have:=l.lens;refine cP (M:=M) func112 J ntmps112 J c ?_;refine C (A J (nl J J (aZ 0 eZ J eJ (aZ 7 eO J Z4 (aV G4 J (((sO 1 J).drop 7).take 1) J (nt J J ?_))))));obtain ⟨r3,x,s⟩:=L hr;rcases r3 with y6 | y6
 ·refine bD eS J (fun w H q le=>iD (eT (!b.state.bound) 8 x)) (N (sq ?_));obtain ⟨Y,n,h4⟩:=L s;obtain ⟨p0,rfl⟩:=o.adr n;have h5:=o.atF n;obtain ⟨F,h0,h6⟩:=L h4;have h7:=o.atF h0;obtain ⟨R,h1,h8⟩:=L h6;have h9:=o.atF h1
  let k:List Value:=[.int .i64 0,.int .i64 0,.int .i64 0,.int .i64 0,.slice none 0 0]
  let g:List Value:=(cB b.state z)
  refine RQ (PO 21 6 (fun d=>([(2,bH d 27 k),(1,bH j 81 g)]++σr)) (fun _ _=>[])) 22 [21] [] mixed (fun _ _ _ _ _ h=>h) (by kernel_rfl) (by kernel_rfl) (by kernel_rfl) J (by kernel_rfl) (by kernel_rfl) (.nil) (dA J (A J D) (dA J (cO eI Z3 J J J J (aS n) D) (dA J (aV G3 J (P 1 J h5) J D) (dA J (A J D) (dA J (nl J J D) (dA J (aZ 0 eZ J eJ D) (dA J (aZ 0 eO J Z3 D) (DC.detQ (fun τ=>cI τ 1=some (bH j 81 g)) J J tv ⟨_,J,fun u v t=>by simp at t;subst t;rfl⟩ J J (fun τ hτ a w K c i B=>TG.pa c i (aV G3 J ((sO 1 hτ).take 1) J D)) (dA J (A J D) (dA J (cO eI Z3 J J J J (aS h0) D) (dA J (aV G3 J (P 1 J h7) J D) ?_)))))))))))
  let m:List Value:=[.int .i64 Y,.int .i64 b.state.day,.int .i64 F,.int .i64 R,.slice z.a0 b.state.volume.parts.length z.c0]
  refine dA J (A J D) (dA J (cO eI Z3 J J J J (aS h1) D) (dA J (aV G3 J (P 1 J h9) J D) (dA J (A J D) (dA J (nl J J D) (dA J (aZ 0 eZ J eJ D) (dA J (aZ 2 eO J iQ D) (dA J (aZ 4 nL J AT D) (DC.detQ (fun τ=>cI τ 1=some (bH j 81 g)) J J tv ⟨_,J,fun u v t=>by simp at t;subst t;rfl⟩ J J (fun τ hτ a w K c i B=>TG.pa c i (aV GW J (((sO 1 hτ).drop 6).take 1) J D)) (dA J (bu (cs:=m) T12.B27 J J J D) ?_)))))))));refine DC.turn (α:=Nat) 0 (fun d=>.pointer (some (⟨d,0,none⟩))) (fun _ _=>True) (fun d=>([(2,bH d 27 k),(1,bH j 81 g)]++σr)) J (fun _ _ _ _ h=>h) (by kernel_rfl) J J (fun a w K c i B=>TG.pa c i (al 2 (cs:=k) zeroValue27 J J fun d=>RK (f:=fun d=>.pointer (some (⟨d,0,none⟩))) (G:=fun _ _=>True) (σ1:=fun d=>([(2,bH d 27 k),(1,bH j 81 g)]++σr)) d tv)) fun d=>?_;refine DC.nil fun ab B=>?_;obtain ⟨_,_⟩:=B;refine eV 2 (cs:=m) iQ J J J J J J J (N (C (cU mJ iQ J J (sO 2 J) J ?_)));obtain ⟨r0,hB,hC⟩:=L h8;refine bD NW J (fun w H q le=>OZ q (⟨Y,b.state.day,F,R,b.state.volume.parts⟩:bU) ⟨_,_,J,(l.f0.mono (bV.mono) (le.at 1 J))⟩ hB) ?_;obtain ⟨r1,h2,h3⟩:=L hC;rcases r1 with y0 | y0
  ·refine bD iT J (fun w H q le=>iD (iU r0 h2)) (N (rg (A J (A J (cU mJ iQ J J (sO 2 J) J (nl J J (aZ 0 eZ J eJ (aZ 2 eO J iQ (eV 1 (cs:=m) iQ J J J J J J J (nl J J (aZ 0 eZ J eJ ?_)))))))))))
   let p:List Value:=((((((cB b.state z).set 2 (.int .i64 Y)).set 3 (.int .i64 b.state.day)).set 4 (.int .i64 F)).set 5 (.int .i64 R)).set 7 (.bool true))
   refine aZ 7 eO J Z4 (eV 1 (cs:=[.bool true]) Z4 J J J J J J J (N (TG.del 2 (TG.pack (fun K=>aU K p (⟨({b.state with volume:=(⟨Y,b.state.day,F,R,b.state.volume.parts⟩:bU),bound:=true}:cY)⟩:aI)) (fun H le=>⟨z,J,{l.mono (le.at 1 J) with f0:=(l.f0.mono (bV.mono) (le.at 1 J))}⟩) fun Z hE=>?_))));cases h3;intro a w c i;refine eA i J ?_;exact ⟨Z,[(1,bH j 81 p)],c.selH [0,2] J,_,J,J,hE⟩
  refine dW iT J J J (fun w H q le=>iE (iU r0 h2)) (TG.del 2 ?_);cases h3;intro a w c i;exact ⟨i.defers,V,[_],c.selH [1,1] J,J,J⟩
 refine dW eS J J J (fun w H q le=>iE (eT (!b.state.bound) 8 x)) ?_;cases s;intro a w c i;exact ⟨i.defers,V,[_],c.selH [0,0] J,J,J⟩

theorem JT {M:Prop} {W w:World} {H V:Hp} {σr:aK} {p:Option Addr} {o:Nat} {ai:List aO} (g:Sl (aG aN) 6 V p o ai) {r:List aO} (j:rL ai=some r) (c:St M W H [V] σr w):Calls prog 245 #[.slice p ai.length o] w (eX M W H V σr (fun e K q=>∃ (ad:Option Addr) (cap:Nat),e=.returned (.slice ad r.length cap)∧q=[(1,S.list ad cap 217 6 aN r)])):=by
 have:=g.len;unfold rL at j;refine cP (M:=M) func245 J ntmps245 J c ?_;refine C (I J (sq (C (A J (HX AU J J (N ?_))))));refine cb J (fun d=>?_) (fun d=>?_)
 ·obtain rfl:=Sl.isNil g d;have k:=(aE j).2;refine C (I J (bK (TG.nilRow 1 217 6 ?_)));cases k;intro a w c h;refine dQ h J J ?_;exact ⟨_,[(1,S.list none 0 217 6 aN ([]:List aO))],c.selH [0,0] J,_,_,J,J⟩
 refine sk (C (KM 1 aN ([]:List aO) (cs:=[]) T12.E28 J J J J J J fun s=>(A J ?_)));obtain ⟨i,n⟩:=aE j;have:=eM ([]:List aO) ai;refine pL 1 (enc:=aN) (l:=([]:List aO)) (m:=ai) T12.E28 J J J J J J g 0 J (fun _=>J) (fun _=>J) J i fun f b=>(I J (bK ?_));cases n;intro a w c h;refine dQ h J J ?_;exact ⟨_,[(1,S.list f b 217 6 aN (([]:List aO)++ai))],c.selH [0,0] J,_,_,J,J⟩

theorem aDh (hH:H.le (hp W)) {y:Option Addr} {x:Nat} {bw:List aO} (z:Sl (aG aN) 6 H y x bw) {B:List Value} (b:aO) (ed:(aG aN) H B b) {r:List aO} (Z:CZ bw b=some r):Calls prog 207 #[.slice y bw.length x,.agg B.toArray] W (eU M H W (fun v K=>∃ (e:Option Addr) (c:Nat),v=.slice e r.length c∧Sl (aG aN) 6 K e c r)):=by
 have:=z.len;obtain rfl:=ed;unfold CZ at Z;refine aM (M:=M) func207 J ntmps207 J hH ?_
 let g:List Value:=[.int .i64 b.number,.int .i64 b.day,.int .u8 b.kind,.int .i64 b.anchor,.string (bs b.text),.int .i64 b.new_]
 refine C (bI (cs:=g) J J J fun q1 K2 p=>(I J (sq ?_)));obtain ⟨j,s,q⟩:=L Z;refine kK 4 [1] [] mixed (fun _ _ _ _ _ h=>h) (by kernel_rfl) (by kernel_rfl) (by kernel_rfl) J (by kernel_rfl) (.nil) (dA J (A J D) (tS j.length (fun t u=>[(1,S.list t u 217 6 aN j)]) J (fun a w K d o Y F=>TG.pa d o (rF 1 JO J J J J (fun w V σr d le=>JT (ai:=bw) (z.mono (aG.mono _) (le.at 2 J)) s d) fun n f=>F _ _)) fun n f=>(dA J (cU mC iF J J (P 1 J p) J D) ?_)))
 refine uT 1 (aG aN) 6 ([b]:List aO) (aG.mono _) J (bS (cs:=g) T12.E28 J J J J fun q9 k h2 i=>by
   have G:Sl (aG aN) 6 k (some q9) 1 ([b]:List aO):=Sl.litF (fun _=>J) (fun _=>J) h2 i J J J;have:=G.len
   exact qM (aG.mono _) G) fun a0 c0=>?_
 refine DC.nil fun aa Y=>?_;obtain ⟨R,_,_⟩:=Y;have:=R.len;obtain ⟨h3,h4⟩:=aE q;have:=eM j ([b]:List aO);refine pL 1 (enc:=aN) (l:=j) (m:=([b]:List aO)) T12.E28 J J J J J J R 0 J (fun _=>J) (fun _=>J) J h3 fun a2 c1=>(I J (bK ?_));cases h4;intro a w d o;refine dQ o J J ?_;exact ⟨⟨_,_,J,(d.listOut 1 J (fun _=>J))⟩,d.ext⟩

theorem aDi (s:H.le (hp W)) {m:List Value} (b:aO) (q:(aG aN) H m b) {j:Addr} {l:Value} {cc:aO→Option Bool} (p:aL H j [l]) (k:fB M prog H l (fU (Va aN) Value.bool cc)) {r:Bool} (n:tN b cc=some r):Calls prog 267 #[.agg m.toArray,.pointer (some j)] W (bP M W (.bool r)):=by
 obtain rfl:=q;have c:=k;obtain ⟨f,e,d,rfl,_,_⟩:=k;unfold tN at n;refine aM (M:=M) func267 J ntmps267 J s ?_;refine C (bI (cs:=[.int .i64 b.number,.int .i64 b.day,.int .u8 b.kind,.int .i64 b.anchor,.string (bs b.text),.int .i64 b.new_]) J J J fun u t g=>(I J (C (aV aCm J (P 1 J p) J (cU mC iF J J (P 0 J g) J ?_)))));obtain ⟨o,i,h⟩:=L n;refine oE (v:=.bool o) c 1 J J J J (fun H le=>⟨_,b,o,J,J,i,J⟩) (nt J J (I J (bK ?_)));cases h;exact cQ J J

theorem aDj (hH:H.le (hp W)) {i:Option Addr} {h:Nat} {ai:List aO} (k:Sl (aG aN) 6 H i h ai) {q:Value} {cj:aO→Option Bool} (s:fB M prog H q (fU (Va aN) Value.bool cj)) {r:Int} (x:IR ai cj=some r):Calls prog 286 #[.slice i ai.length h,q] W (bP M W (.int .i64 r)):=by
 have:=k.len;have d:=s;obtain ⟨e,c,b,rfl,_,_⟩:=s;unfold IR at x;refine aM (M:=M) func286 J ntmps286 J hH ?_;refine C (I J (sq (C (A J (dV AU J J (A J (N ?_)))))));obtain ⟨e19,F,t⟩:=L x;refine jn (fun a w=>∃ B,e19=.inl B∧St M W H [H] [] w∧aT [] 19 a []) ?_ ?_
 ·refine bk ?_;refine lp F (fun z a w=>St M W H [H] [] w∧aT [] 19 a [(0,.slice i ai.length h),(1,.func (.func e) c.toArray b.toArray),(7,.int .i64 (ai.length:Int)),(8,.int .i64 (z:Int))]) ?_ ?_
  ·exact cuE J
  rintro j z y0 l m a w ⟨g,f⟩;refine TG.ap ?_ g f;unfold vQ at l;refine C (dU J J J (N (sq ?_)));refine ci J (fun n=>?_) (fun n=>?_)
  ·have G:=aJ n l;refine sk (sq (bk (C (A J (I J (C (A J (A J ?_))))))));refine A J ?_;obtain ⟨x0,o,K⟩:=L G;obtain ⟨p0,rfl⟩:=k.adr o;have R:=k.atF o;refine cO AU iF J J J J (aS o) (cU mC iF J J (P 0 J R) J ?_);obtain ⟨y,V,u⟩:=L K;refine oE (v:=.bool y) d 0 J J J J (fun H le=>⟨_,x0,y,J,J,V,J⟩) (N ?_);refine cb J (fun p=>?_) (fun p=>?_)
   ·have Y:=aJ p u;refine C (A J (I J (bK ?_)));cases Y;obtain rfl:=dI.out m;cases t;exact cQ J J
   have Z:=bM p u;refine sk (rg (dN J J J (by omega) (A J (N ?_))));cases Z;intro a w g f;exact ⟨_,m,g,f.cuE J⟩
  have hG:=aX n l;refine xt J ?_;cases hG;obtain rfl:=dI.out m;intro a w g f;exact ⟨_,J,g,f.cut tv⟩
 rintro a w ⟨B,rfl,g,f⟩;apply TG.ap ?_ g f;refine C (I J (bK ?_));cases t;exact cQ J J

theorem aDk (f:H.le (hp W)) {j:Option Addr} {i:Nat} {ai:List aO} (k:Sl (aG aN) 6 H j i ai) {l:Value} {cj:aO→Option Bool} (m:fB M prog H l (fU (Va aN) Value.bool cj)) {r:Bool} (n:IS ai cj=some r):Calls prog 266 #[.slice j ai.length i,l] W (bP M W (.bool r)):=by
 have:=k.len;have b:=m;obtain ⟨e,d,c,rfl,_,_⟩:=m;unfold IS at n;refine aM (M:=M) func266 J ntmps266 J f ?_;refine C (I J (C (A J (A J ?_))));obtain ⟨o,h,g⟩:=L n;refine bD aB9 J (fun w H f le=>aDj f (k.mono (aG.mono _) (le.at 0 J)) (cj:=cj) (b.mono (le.at 0 J)) h) (qE J J J (I J (bK ?_)));cases g;exact cQ J J

theorem aDl (i:H.le (hp W)) {o:Option Addr} {n:Nat} {bw:List aO} (p:Sl (aG aN) 6 H o n bw) {q:Value} {right:aO→Option Bool} (s:fB M prog H q (fU (Va aN) Value.bool right)) {r:Bool} (u:DA bw right=some r):Calls prog 246 #[.slice o bw.length n,q] W (bP M W (.bool r)):=by
 have:=p.len;have d:=s;obtain ⟨e,c,b,rfl,_,_⟩:=s;unfold DA at u;refine aM (M:=M) func246 J ntmps246 J i ?_;refine C (bI (cs:=[.func (.func e) c.toArray b.toArray]) J J J fun x R j=>(I J (C (A J (fn J J J ?_)))));obtain ⟨G,m,l⟩:=L u
 refine nQ (v:=.bool G) aB1 J J J J (fun w H i le=>by
   have k:fB M prog H (.func (.func 267) #[] #[.pointer (some x)]) (fU (Va aN) Value.bool (fun f=>tN f right)):=⟨267,[],[.pointer (some x)],rfl,aB2,fun Z y g Y t B z=>by obtain ⟨K,f,V,rfl,h,F,rfl⟩:=z;cases h;exact aDi (H:=y) B  f rfl (cc:=right) (j.mono ((le.at 0 rfl).trans t)) (d.mono ((le.at 1 rfl).trans t)) F⟩
   exact aDk i (p.mono (aG.mono _) (le.at 1 J)) (cj:=(fun f=>tN f right)) k m) ?_
 refine nt J J (I J (bK ?_));cases l;exact cQ J J

theorem aDm {M:Prop} {W:World} {co:List Value} (c:aO) (ct:(aG aN) (hp W) co c) {r:Bool} (hr:tO c=some r):Calls prog 247 #[.agg co.toArray] W (bP M W (.bool r)):=by
 obtain rfl:=ct;unfold tO at hr;refine aM (M:=M) func247 J ntmps247 J (Hp.le.refl _) ?_;refine C (bI (cs:=[.int .i64 c.number,.int .i64 c.day,.int .u8 c.kind,.int .i64 c.anchor,.string (bs c.text),.int .i64 c.new_]) J J J fun q1 j b=>(I J (sq (sq ?_))));obtain ⟨t0,hL,h9⟩:=L hr;refine jn (fun a w=>St M W (hp W) [j,(hp W)] [] w∧aT [] 51 a [(1,.pointer (some q1)),(18,.bool t0)]) ?_ ?_
 ·refine rg (aZ 0 fW J Z3 (aV G3 J ((P 0 J b).take 1) J ?_));obtain ⟨r22,hM,hB⟩:=L hL;refine bD wT J (fun w H i le=>xB c.number 1 999 hM) (nt J J (A J ?_));rcases Bool.eq_false_or_eq_true (r22) with d | d
  ·have hN:=aJ d hB;refine gN J J (congrArg not (d)) (aZ 1 fW J Z3 (gN J J (congrArg not (d)) (aV G3 J (((P 0 J b).drop 1).take 1) J (gN J J (congrArg not (d)) ?_))));obtain ⟨r0,hO,hC⟩:=L hN;refine bD AB J (fun w H i le=>AJ c.day hO) (gN J J (congrArg not (d)) (nt J J (pF J J (congrArg not (d)) J (A J ?_))));rcases Bool.eq_false_or_eq_true (r0) with e | e
   ·have hP:=aJ e hC;refine gN J J (congrArg not (e)) (aZ 3 fW J Z3 (gN J J (congrArg not (e)) (aV G3 J (((P 0 J b).drop 3).take 1) J (gN J J (congrArg not (e)) ?_))));obtain ⟨r3,hR,hT⟩:=L hP;refine bD OB J (fun w H i le=>OX c.anchor hR) (gN J J (congrArg not (e)) (nt J J (pF J J (congrArg not (e)) J (N ?_))));cases hT;exact cuE J
   have hV:=bM e hC;refine cH 4 J J J (congrArg not (e)) J (pT J J (congrArg not (e)) J (N ?_));cases hV;exact cuE J
  have hW:=bM d hB;refine cH 4 J J J (congrArg not (d)) J (pT J J (congrArg not (d)) J (A J (cH 4 J J J J J (pT J J J J (N ?_)))));cases hW;exact cuE J
 refine X ?_;refine cb J (fun k=>?_) (fun k=>?_)
 ·have hX:=aJ k h9;refine C (I J (bK ?_));cases hX;exact cQ J J
 have hE:=bM k h9;refine sk (sq (C (aZ 2 fW J Z5 (aV G5 J (((P 0 J b).drop 2).take 1) J (N (bk (C (fE J J J (a1 J ?_)))))))));refine N ?_;refine ci J (fun l=>?_) (fun l=>?_)
 ·have o:=aJ l hE;refine sq ?_;obtain ⟨t1,p,q⟩:=L o;refine jn (fun a w=>St M W (hp W) [j,(hp W)] [] w∧aT [] 51 a [(2,.bool t1)]) ?_ ?_
  ·refine rg (aZ 4 fW J Z9 (aV G9 J (((P 0 J b).drop 4).take 1) J ?_));obtain ⟨r1,s,hF⟩:=L p;refine bD OC J (fun w H i le=>OY c.text s) (A J ?_);rcases Bool.eq_false_or_eq_true (r1) with f | f
   ·have t:=aJ f hF;refine gN J J (f) (aZ 5 fW J Z3 (gN J J (f) (aV G3 J ((P 0 J b).drop 5) J (gN J J (f) (fE J J J (pT J J (f) J (I J ?_)))))));cases t;exact cuE J
   have u:=bM f hF;refine cH 3 J J J (f) J (pF J J (f) J (I J ?_));cases u;exact cuE J
  refine X ?_;refine bK ?_;cases q;exact cQ J J
 have hG:=aX l hE;refine C (fE J J J (I J ?_));refine ci J (fun m=>?_) (fun m=>?_)
 ·have v:=aJ m hG;refine sq ?_;obtain ⟨t2,hI,x⟩:=L v;refine jn (fun a w=>St M W (hp W) [j,(hp W)] [] w∧aT [] 51 a [(2,.bool t2)]) ?_ ?_
  ·refine rg (aZ 4 fW J Z9 (aV G9 J (((P 0 J b).drop 4).take 1) J (pP J J J (A J ?_))));by_cases h:c.text=[]
   ·have y:=aJ h hI;refine gt h J (aZ 5 fW J Z3 (gt h J (aV G3 J ((P 0 J b).drop 5) J (gt h J (fE J J J (pt h J J (I J ?_)))))));cases y;exact cuE J
   have z:=aX h hI;refine cH 3 J J J (decide_eq_false h) J (pf h J J (I J ?_));cases z;exact cuE J
  refine X ?_;refine bK ?_;cases x;exact cQ J J
 have hJ:=aX m hG;refine C (fE J J J (I J ?_));refine ci J (fun n=>?_) (fun n=>?_)
 ·have B:=aJ n hJ;refine sq ?_;obtain ⟨t3,F,G⟩:=L B;refine jn (fun a w=>St M W (hp W) [j,(hp W)] [] w∧aT [] 51 a [(2,.bool t3)]) ?_ ?_
  ·refine rg (aZ 4 fW J Z9 (aV G9 J (((P 0 J b).drop 4).take 1) J ?_));obtain ⟨r2,K,hK⟩:=L F;refine bD OC J (fun w H i le=>OY c.text K) (A J ?_);rcases Bool.eq_false_or_eq_true (r2) with g | g
   ·have R:=aJ g hK;refine gN J J (g) (aZ 5 fW J Z3 (gN J J (g) (aV G3 J ((P 0 J b).drop 5) J (gN J J (g) ?_))));obtain ⟨r4,V,Y⟩:=L R;refine bD OB J (fun w H i le=>OX c.new_ V) (pT J J (g) J (I J ?_));cases Y;exact cuE J
   have Z:=bM g hK;refine cH 3 J J J (g) J (pF J J (g) J (I J ?_));cases Z;exact cuE J
  refine X ?_;refine bK ?_;cases G;exact cQ J J
 have aa:=aX n hJ;refine sk (C (I J (bK ?_)));cases aa;exact cQ J J

theorem JU {M:Prop} {W:World} (b:Int) {r:Bool} (c:tP b=some r):Calls prog 251 #[.int .i64 b] W (bP M W (.bool r)):=by
 unfold tP at c;refine aM (M:=M) func251 J ntmps251 J (Hp.le.refl _) ?_;refine C (I J (C (A J (A J (lE J J J (I J (bK ?_)))))));obtain rfl:=sj c;exact cQ J J

theorem UO {M:Prop} {W:World} (c:Int) (d:Int) {r:Int} (q:zP c d=some r):Calls prog 289 #[.int .i64 c,.int .i64 d] W (bP M W (.int .i64 r)):=by
 unfold zP at q;refine aM (M:=M) func289 J ntmps289 J (Hp.le.refl _) ?_;refine C (I J (C (A J ?_)));obtain ⟨B,k,j⟩:=L q;refine bD JP J (fun w H z le=>JU c k) (I J (C (A J ?_)));obtain ⟨F,l,b⟩:=L j;refine bD JP J (fun w H z le=>JU d l) (I J (sq (C (A J (N ?_)))));refine cb J (fun e=>?_) (fun e=>?_)
 ·have m:=aJ e b;refine sq (C (A J (N ?_)));refine cb J (fun f=>?_) (fun f=>?_)
  ·have s:=aJ f m;refine C (I J (bK ?_));cases s;exact cQ J J
  have t:=bM f m;refine sk (C (I J (bK ?_)));cases t;exact cQ J J
 have n:=bM e b;refine sk (sq (C (A J (N ?_))));refine cb J (fun g=>?_) (fun g=>?_)
 ·have u:=aJ g n;refine C (I J (bK ?_));cases u;exact cQ J J
 have o:=bM g n;refine sk (sq (C (A J (A J (dU J J J (N ?_))))));refine ci J (fun h=>?_) (fun h=>?_)
 ·have v:=aJ h o;refine C (I J (bK ?_));cases v;exact cQ J J
 have p:=aX h o;refine sk (sq (C (A J (A J (lW J J J (N ?_))))));refine ci J (fun i=>?_) (fun i=>?_)
 ·have x:=aJ i p;refine C (I J (bK ?_));cases x;exact cQ J J
 have y:=aX i p;refine sk (C (I J (bK ?_)));cases y;exact cQ J J

theorem aDn (B:H.le (hp W)) {f:Option Addr} {e:Nat} {vals:List Int} (g:Sl (aG (bT .i64)) 1 H f e vals) {r:Int} (p:DB vals=some r):Calls prog 288 #[.slice f vals.length e] W (bP M W (.int .i64 r)):=by
 have:=g.len;unfold DB at p;refine aM (M:=M) func288 J ntmps288 J B ?_;refine C (I J (C (I J (sq (C (A J ?_))))));refine dV eI J J (A J (N ?_));obtain ⟨d,t,n⟩:=L p;refine jn (fun a w=>∃ s,d=.inl s∧St M W H [H] [] w∧aT [] 18 a [(3,.int .i64 0)]) ?_ ?_
 ·refine bk ?_;refine lp t (fun q a w=>St M W H [H] [] w∧aT [] 18 a [(3,.int .i64 0),(6,.slice f vals.length e),(7,.int .i64 (vals.length:Int)),(8,.int .i64 (q:Int))]) ?_ ?_
  ·exact cuE J
  rintro j q K h i a w ⟨c,b⟩;refine TG.ap ?_ c b;unfold pC at h;refine C (dU J J J (N (sq ?_)));refine ci J (fun k=>?_) (fun k=>?_)
  ·have u:=aJ k h;refine sk (sq (bk (C ?_)));obtain ⟨G,l,o⟩:=L u;obtain ⟨F,rfl⟩:=g.adr l;have v:=g.atF l;refine cO eI Z3 J J J J (aS l) (aV G3 J (P 0 J v) J (I J (C (A J (A J (lE J J J (N ?_)))))));refine ci J (fun m=>?_) (fun m=>?_)
   ·have x:=aJ m o;refine C (A J (I J (bK ?_)));cases x;obtain rfl:=dI.out i;cases n;exact cQ J J
   have y:=aX m o;refine sk (rg (dN J J J (by omega) (A J (N ?_))));cases y;intro a w c b;exact ⟨_,i,c,b.cuE J⟩
  have z:=aX k h;refine xt J ?_;cases z;obtain rfl:=dI.out i;intro a w c b;exact ⟨_,J,c,b.cuE J⟩
 rintro a w ⟨s,rfl,c,b⟩;apply TG.ap ?_ c b;refine C (A J (I J (bK ?_)));cases n;exact cQ J J

theorem PB {M:Prop} {W:World} {k:List Value} (b:aO) (p:(aG aN) (hp W) k b) {l:List Value} (c:aO) (q:(aG aN) (hp W) l c) {r:Int} (n:rM b c=some r):Calls prog 270 #[.agg k.toArray,.agg l.toArray] W (bP M W (.int .i64 r)):=by
 obtain rfl:=p;obtain rfl:=q;unfold rM at n;refine aM (M:=M) func270 J ntmps270 J (Hp.le.refl _) ?_;refine C (bI (cs:=[.int .i64 b.number,.int .i64 b.day,.int .u8 b.kind,.int .i64 b.anchor,.string (bs b.text),.int .i64 b.new_]) J J J fun G z e=>(bI (cs:=[.int .i64 c.number,.int .i64 c.day,.int .u8 c.kind,.int .i64 c.anchor,.string (bs c.text),.int .i64 c.new_]) J J J fun K B f=>(I J (sq ?_))));obtain ⟨r7,j,i⟩:=L n;refine eB 9 mixed (by kernel_rfl) J (E J (aZ 1 fW J Z3 D) (E J (aV G3 J (((P 2 J e).drop 1).take 1) J D) (E J (aZ 1 fW J Z3 D) (E J (aV G3 J (((P 1 J f).drop 1).take 1) J D) (E J (bD TY J (fun w H h le=>UO b.day c.day j) D) (E J (aZ 0 fW J Z3 D) (E J (aV G3 J ((P 2 J e).take 1) J D) (E J (aZ 0 fW J Z3 D) (E J (aV G3 J ((P 1 J f).take 1) J D) (DF.nil fun o F=>?_))))))))));obtain ⟨r11,s,t⟩:=L i;refine bD TY J (fun w H h le=>UO b.number c.number s) (bS (cs:=[.int .i64 r7,.int .i64 r11]) T12.E33 J J J J fun y g u d=>?_);have m:Sl (aG (bT .i64)) 1 g (some y) 2 ([r7,r11]:List Int):=Sl.litF (fun _=>J) (fun _=>J) u d J J J;have:=m.len;obtain ⟨R,v,x⟩:=L t;refine bD aCa J (fun w H h le=>aDn h (m.mono (aG.mono _) (le.at 0 J)) v) (I J (bK ?_));cases x;exact cQ J J

theorem aJy (hH:H.le (hp W)) {dv:Value} {yield:aO→Option Bool} (ee:fB M prog H dv (fU (Va aN) Value.bool yield)) {bj:Addr} {fj:Option Addr} {fa:Nat} {cc:List aO} (bq:aL H bj [.slice fj cc.length fa]) (bm:Sl (aG aN) 6 H fj fa cc) {t:Addr} (z:Int) (eu:aL H t [.int .i64 z]) {r:Unit} (hr:SP yield cc z=some r):Calls prog 268 #[dv,.pointer (some bj),.pointer (some t)] W (bP M W (.tuple #[])):=by
 have g:=ee;obtain ⟨d,c,b,rfl,_,_⟩:=ee;have:=bm.len;unfold SP at hr;refine aM (M:=M) func268 J ntmps268 J hH ?_;refine C (aV QF J (P 0 J bq) J ?_);obtain ⟨s,ac,aa⟩:=L hr;refine rF 1 JO J J J J (fun w V σr f le=>JT (ai:=cc) (bm.mono (aG.mono _) (le.at 0 J)) ac f) fun n e=>(TG.len 1 J fun _=>(I J (C (A J ?_))));obtain ⟨l6,q,ab⟩:=L aa;have p:l6.length=s.length:=(gJ q);refine IF 1 (enc:=aN) (V:=Va aN) (V':=Va aN) (fun _=>rfl) (fun _=>rfl) srt269 OD J J J J J J (fun H le=>⟨270,[],[],rfl,OE,fun w_ K_ x v_ hK hw hs=>by obtain ⟨af,ag,ad,ae,r_,rfl,B,G,hx,rfl⟩:=hs;cases B;cases G;exact PB  ad rfl ae rfl  hx⟩) (fun _ _=>rfl) (fun _ _=>rfl) q (N (C (A rfl (dV AU J J (A rfl (N ?_))))));obtain ⟨y,h9,h6⟩:=L ab
 let o:aK:=[(1,S.list n e 217 6 aN l6)]
 refine jn (fun a w=>∃ t34,y=.inl t34∧St M W H [H] o w∧aT [] 28 a []) ?_ ?_
 ·refine bk ?_;refine lp h9 (fun s1 a w=>St M W H [H] o w∧aT [] 28 a [(0,.func (.func d) c.toArray b.toArray),(2,.pointer (some t)),(11,.slice n s.length e),(12,.int .i64 (s.length:Int)),(13,.int .i64 (s1:Int))]) ?_ ?_
  ·exact cuE J
  rintro j s1 y0 F K a w ⟨f,i⟩;refine TG.ap ?_ f i;unfold DD at F;refine C (dU J J J (N (sq ?_)));refine ci J (fun R=>?_) (fun R=>?_)
  ·have hB:=aJ R F;refine sk (sq (bk (C ?_)));obtain ⟨m,Y,hC⟩:=L hB;refine TG.addr 1 J (fO Y) fun b0 h=>?_;subst h;refine cO AU iF J J J J (Nat.lt_of_lt_of_eq (aS Y) p) (cU mC iF J J (sE (enc:=aN) 1 J (fun _=>J) Y) J (va (cs:=[.int .i64 m.number,.int .i64 m.day,.int .u8 m.kind,.int .i64 m.anchor,.string (bs m.text),.int .i64 m.new_]) zeroValue217 iF J J J J J J J J fun q0 u l=>(N (sq ?_))));obtain ⟨t0,h7,h8⟩:=L hC;refine jn (fun a w=>St M W H [u,H] [(1,S.list (some ⟨b0,0,none⟩) e 217 6 aN l6)] w∧aT [] 28 a [(0,.func (.func d) c.toArray b.toArray),(2,.pointer (some t)),(11,.slice (some ⟨b0,0,none⟩) s.length e),(12,.int .i64 (s.length:Int)),(13,.int .i64 (s1:Int)),(26,.bool t0)]) ?_ ?_
   ·refine rg (aZ 1 fW J Z3 (aV G3 J (((P 0 J l).drop 1).take 1) J (aV G3 J (P 1 J eu) J (lW J J J (A J ?_)))));by_cases k:z < m.day
    ·have hE:=aJ k h7;refine cH 4 J J J (decide_eq_true k) J (pt k J J (N ?_));cases hE;exact cuE J
    have hF:=aX k h7;refine cW k J (A J (cW k J (cU mC iF J J (P 0 J l) J (cW k J ?_))));obtain ⟨r0,hG,hI⟩:=L hF;refine oE (v:=.bool r0) g 1 J J J J (fun H le=>⟨_,m,r0,J,J,hG,J⟩) (cW k J (nt J J (pf k J J (N ?_))));cases hI;exact cuE J
   refine X ?_;refine cb J (fun Z=>?_) (fun Z=>?_)
   ·have hJ:=aJ Z h8;refine bK ?_;cases hJ;obtain rfl:=dI.out K;cases h6;intro a w f i;refine eA i J ?_;exact ⟨J,f.ext⟩
   have hL:=bM Z h8;refine sk (rg (dN J J J (by omega) (A J (N ?_))));cases hL;intro a w f i;exact ⟨_,K,f.selH [1] J,i.cuE J⟩
  have hM:=aX R F;refine xt J ?_;cases hM;obtain rfl:=dI.out K;intro a w f i;exact ⟨_,J,f,i.cut tv⟩
 rintro a w ⟨t34,rfl,f,i⟩;apply TG.ap ?_ f i;cases h6;intro a w f i;refine eA i J ?_;exact ⟨J,f.ext⟩

theorem aDo (hH:H.le (hp W)) {cl:List Value} (B:bU) (cw:(cC) H cl B) {ax:Option Addr} {Z:Nat} {errata:List aO} (bl:Sl (aG aN) 6 H ax Z errata) {r:Int} (hr:DE B errata=some r):Calls prog 248 #[.agg cl.toArray,.slice ax errata.length Z] W (bP M W (.int .i64 r)):=by
 have y:=cw;obtain ⟨ae,aa,rfl,bc⟩:=cw;have:=bc.len;have:=bl.len;unfold DE at hr;refine qZ (M:=M) func248 J ntmps248 J hH ?_;refine C (bI (cs:=[.int .i64 B.number,.int .i64 B.bound,.int .i64 B.height,.int .i64 B.width,.slice ae B.parts.length aa]) J J J fun q4 x a7=>(al 1 (cs:=[.int .i64 0]) zeroValue43 J J fun b7=>(N (C (KN 2 fC Value.bool J fun o=>(al 3 (cs:=[.map none]) zeroValue180 J J fun b9=>(eV 3 (cs:=[.map (some o)]) UE J J J J J J J (N (sq ?_)))))))));refine C (cU mJ iQ J J (P 0 J a7) J ?_);obtain ⟨r10,hN,hO⟩:=L hr;refine gY JN J J J J (fun w H hH le=>JS hH B (cC.mono _ _ _ _ (le.at 1 J) y) hN) ?_;rintro v_ g ⟨a2,c1,rfl,h3⟩;have:=h3.len;refine dV AV J J (A J (N ?_));obtain ⟨ag,hP,hR⟩:=L hO
 let m:S:=bH b7 43 [.int .i64 0]
 refine jn (fun a w=>St M W H [g,x,H] [(3,bH b9 180 [.map (some o)]),(2,S.map' fC Value.bool o ag),(1,m)] w∧aT [] 35 a [(1,.slice ax errata.length Z),(4,.pointer (some (⟨b7,0,none⟩))),(5,.pointer (some (⟨b9,0,none⟩)))]) ?_ ?_
 ·refine bk ?_;refine lp hP (fun s2 a w=>St M W H [g,x,H] [(3,bH b9 180 [.map (some o)]),(2,S.map' fC Value.bool o s2.2),(1,m)] w∧aT [] 35 a [(1,.slice ax errata.length Z),(4,.pointer (some (⟨b7,0,none⟩))),(5,.pointer (some (⟨b9,0,none⟩))),(11,.slice a2 r10.length c1),(12,.int .i64 (r10.length:Int)),(13,.int .i64 (s2.1:Int))]) ?_ ?_
  ·exact cuE J
  rintro j s2 y0 h4 hE a w ⟨b,d⟩;refine TG.ap ?_ b d;unfold vT at h4;refine C (dU J J J (N (sq ?_)));refine ci J (fun h5=>?_) (fun h5=>?_)
  ·have hT:=aJ h5 h4;refine sk (sq (bk (C ?_)));obtain ⟨x1,h6,hV⟩:=L hT;obtain ⟨p0,rfl⟩:=h3.adr h6;have hW:=h3.atF h6;refine cO AV mD J J J J (aS h6) (cU FQ mD J J (P 0 J hW) J (va (cs:=[.int .i64 x1.anchor,.string (bs x1.text)]) zeroValue58 mD J J J J J J J J fun q1 bf ab=>(N (rg (aV AC J (sO 3 J) J (aZ 0 AI J Z3 (aV G3 J ((P 0 J ab).take 1) J (GR 2 (ke:=fC) (enc:=Value.bool) x1.anchor true kN U3 J J J J (N (rg (dN J J J (by omega) ?_)))))))))));refine A J (N ?_);cases hV;intro a w b d;exact ⟨_,hE,b.selH [1,2,3] J,d.cuE J⟩
  have hX:=aX h5 h4;refine xt J ?_;cases hX;obtain rfl:=dI.out hE;exact cuE J
 rintro a w ⟨b,d⟩;apply TG.ap ?_ b d;refine sq (C (A J (WF TW func249 J ntmps249 J J J J (C (bI (cs:=[.slice ax errata.length Z]) J J J fun q2 i ac=>(bI (cs:=[.int .i64 99999]) J J J fun q0 k ad=>(I J (sq ?_))))))));refine rg (fn J J J (I J (bK ?_)));intro a w b d;refine dQ d J J ?_;refine ⟨_,J,fun a d=>?_⟩;refine fA J d b (N (bk ?_));obtain ⟨t5,an,hF⟩:=L hR
 let l:S:=bH b9 180 [.map (some o)]
 refine WD 4 5 TX func268 J ntmps268 J J (fun u c f w=>(∃ (t1:(List (Int×Bool))),t5=(.inl t1)∧St M W H [k,i,g,x,H] [(4,S.blk u (f .ready none)),(5,S.blk c (.deferred (some []))),(3,l),(2,S.map' fC Value.bool o t1),(1,m)] w)∨(∃ (t0:Nat×(List (Int×Bool))),t5=(.inr t0)∧St M W H [k,i,g,x,H] [(4,S.blk u (f .done (some .ret))),(5,S.blk c (.deferred (some []))),(3,l),(2,S.map' fC Value.bool o t0.2),(1,bH b7 43 [.int .i64 (t0.1:Int)])] w)) ?_ ?_
 ·intro u c f t7 G e;refine C (aV QF J (P 1 J ac) J ?_);obtain ⟨r0,ao,aq⟩:=L an;refine rF 6 JO J J J J (fun w V σr b le=>JT (ai:=errata) (bl.mono (aG.mono _) (le.at 4 J)) ao b) fun a0 K=>(TG.len 6 J fun _=>(I J (C (A J ?_))));obtain ⟨R,hG,ar⟩:=L aq;have aw:R.length=r0.length:=(gJ hG);refine IF 6 (enc:=aN) (V:=Va aN) (V':=Va aN) (fun _=>rfl) (fun _=>rfl) srt269 OD J J J J J J (fun H le=>⟨270,[],[],rfl,OE,fun w_ K_ af v_ hK hw hs=>by obtain ⟨bg,bh,bd,be,r_,rfl,ak,am,hx,rfl⟩:=hs;cases ak;cases am;exact PB  bd rfl be rfl  hx⟩) (fun _ _=>rfl) (fun _ _=>rfl) hG (N (C (A rfl (dV AU J J (A rfl (N ?_))))));obtain ⟨ah,ay,h7⟩:=L ar;refine jn (fun a w=>∃ t2,ah=.inl t2∧St M W H [k,i,g,x,H] [(6,S.list a0 K 217 6 aN R),(4,S.blk u (f .ready none)),(5,S.blk c (.deferred (some []))),(3,l),(2,S.map' fC Value.bool o t2),(1,m)] w∧aT [] 28 a []) ?_ ?_
  ·refine bk ?_;refine lp ay (fun s1 a w=>St M W H [k,i,g,x,H] [(6,S.list a0 K 217 6 aN R),(4,S.blk u (f .ready none)),(5,S.blk c (.deferred (some []))),(3,l),(2,S.map' fC Value.bool o s1.2),(1,m)] w∧aT [] 28 a [(0,.func (.yield u) #[] #[]),(2,.pointer (some q0)),(11,.slice a0 r0.length K),(12,.int .i64 (r0.length:Int)),(13,.int .i64 (s1.1:Int))]) ?_ ?_
   ·exact cuE J
   rintro j s1 y1 h8 h2 a w ⟨b,d⟩;refine TG.ap ?_ b d;unfold vU at h8;refine C (dU J J J (N (sq ?_)));refine ci J (fun h9=>?_) (fun h9=>?_)
   ·have az:=aJ h9 h8;refine sk (sq (bk (C ?_)));obtain ⟨z,hB,hI⟩:=L az;refine TG.addr 6 J (fO hB) fun b0 h=>?_;subst h
    let F:List Value:=[.int .i64 z.number,.int .i64 z.day,.int .u8 z.kind,.int .i64 z.anchor,.string (bs z.text),.int .i64 z.new_]
    refine cO AU iF J J J J (Nat.lt_of_lt_of_eq (aS hB) aw) (cU mC iF J J (sE (enc:=aN) 6 J (fun _=>J) hB) J (va (cs:=F) zeroValue217 iF J J J J J J J J fun q3 p s=>(N (C (aZ 1 fW J Z3 (aV G3 J (((P 0 J s).drop 1).take 1) J (aV G3 J (P 1 J ad) J (lW J J J (A J ?_)))))))));by_cases q:99999 < z.day
    ·have a3:=aJ q hI;refine cH 4 J J J (decide_eq_true q) J (pt q J J (N (cT J J (bK ?_))));cases a3;obtain rfl:=dI.out h2;refine TG.del 6 ?_;cases h7;intro a w b d;refine eA d J ?_;exact ⟨_,J,.inl ⟨_,J,b.selH [1,2,3,4,5] J⟩⟩
    have a4:=aX q hI;refine cW q J (A J (cW q J (cU mC iF J J (P 0 J s) J (cW q J ?_))));obtain ⟨t6,hJ,hL⟩:=L a4;refine yl 4 [] (L1:=(23,.agg F.toArray)::_) J J J G e J J J (fun v w=>(∃ (t3:Nat),t6=(.inl t3)∧v=.bool false∧St M W H [p,k,i,g,x,H] [(6,S.list (some ⟨b0,0,none⟩) K 217 6 aN R),(4,S.blk u (f .done (some .ret))),(5,S.blk c (.deferred (some []))),(3,l),(2,S.map' fC Value.bool o s1.2),(1,bH b7 43 [.int .i64 (t3:Int)])] w)∨(∃ (t4:(List (Int×Bool))),t6=(.inr t4)∧v=.bool true∧St M W H [p,k,i,g,x,H] [(6,S.list (some ⟨b0,0,none⟩) K 217 6 aN R),(4,S.blk u (f .ready none)),(5,S.blk c (.deferred (some []))),(3,l),(2,S.map' fC Value.bool o t4),(1,m)] w)) ?_ ?_
    ·refine rg (va (cs:=F) zeroValue217 iF J J J J J J J J fun q5 Y n=>(N (bR 4 e J (bk (sq (C (aV AC J (sO 3 J) J (aZ 3 fW J Z3 (aV G3 J (((P 0 J n).drop 3).take 1) J (HY (ke:=fC) (enc:=Value.bool) z.anchor (z0:=false) kN U3 zeroValue4 J J J J (mO 2 J) ?_))))))))));refine nt J J (N ?_);refine cb J (fun h1=>?_) (fun h1=>?_)
     ·replace h1:=mQ h1
      have a5:=bM h1 hJ;refine C (eV 1 (cs:=[.int .i64 7]) qQ J J J J J J J (N (bK ?_)));cases a5;refine eR 4 (some .ret) e J fun w b=>?_;exact .inl ⟨_,J,J,b.selH [1,2,3,4,5,6] J⟩
     replace h1:=mR h1
     have a6:=aJ h1 hJ;refine sk (C (aZ 2 fW J Z5 (aV G5 J (((P 0 J n).drop 2).take 1) J (fE J J J (N ?_)))));obtain ⟨t8,hM,a8⟩:=L a6;refine jn (fun a w=>St M W H [Y,p,k,i,g,x,H] [(6,S.list (some ⟨b0,0,none⟩) K 217 6 aN R),(4,S.blk u (f .busy none)),(5,S.blk c (.deferred (some []))),(3,l),(2,S.map' fC Value.bool o t8),(1,m)] w∧aT [] 35 a []) ?_ ?_
     ·refine ci J (fun hC=>?_) (fun hC=>?_)
      ·have a9:=aJ hC hM;refine rg (aV AC J (sO 3 J) J (aZ 5 fW J Z3 (aV G3 J ((P 0 J n).drop 5) J (GR 2 (ke:=fC) (enc:=Value.bool) z.new_ true kN U3 J J J J (N ?_)))));cases a9;exact cu tv
      have ba:=aX hC hM;refine sk ?_;cases ba;exact cu tv
     refine X ?_;cases a8;refine eR 4 none e J fun w b=>?_;exact .inr (⟨_,J,J,b.selH [1,2,3,4,5,6] J⟩)
    rintro a w v d (⟨t3,rfl,rfl,b⟩ | ⟨t4,rfl,rfl,b⟩)
    ·refine fA J d b (cW q J (nt J J (pf q J J (N (cT J J (bK ?_))))));cases hL;obtain rfl:=dI.out h2;refine TG.del 6 ?_;cases h7;intro a w b d;refine eA d J ?_;exact ⟨_,J,.inr (⟨_,J,b.selH [1,2,3,4,5] J⟩)⟩
    refine fA J d b (cW q J (nt J J (pf q J J (N (cF J J (sk (rg (dN J J J (by omega) (A J (N ?_))))))))));cases hL;intro a w b d;exact ⟨_,h2,b.selH [1,2,3,4,5] J,d.cuE J⟩
   have bb:=aX h9 h8;refine xt J ?_;cases bb;obtain rfl:=dI.out h2;intro a w b d;exact ⟨_,J,b,d.cut tv⟩
  rintro a w ⟨t2,rfl,b,d⟩;apply TG.ap ?_ b d;refine TG.del 6 ?_;cases h7;intro a w b d;refine eA d J ?_;exact ⟨_,J,.inl ⟨_,J,b⟩⟩
 rintro u c f t7 a w e d (⟨t1,rfl,b⟩ | ⟨t0,rfl,b⟩)
 ·refine TG.ap ?_ b d;refine WE 4 e J (C (eV 1 (cs:=[.int .i64 0]) qQ J J J J J J J (N (bK ?_))));cases hF;refine PP (RR 5 J (PQ ?_));intro a w b d;refine uL d J (cX.cell J (iC nV (dC (b.get (t:=1) J)) J)) ?_;exact ⟨J,b.ext⟩
 refine TG.ap ?_ b d;refine elC 4 e J (bK ?_);cases hF;refine PP (RR 5 J (PQ ?_));intro a w b d;refine uL d J (cX.cell J (iC nV (dC (b.get (t:=1) J)) J)) ?_;exact ⟨J,b.ext⟩

theorem PC (p:H.le (hp W)) {cl:List Value} (m:bU) (cw:(cC) H cl m) {s:Option Addr} {i:Nat} {errata:List aO} (z:Sl (aG aN) 6 H s i errata) {r:Int} (hr:vX m errata=some r):Calls prog 209 #[.agg cl.toArray,.slice s errata.length i] W (bP M W (.int .i64 r)):=by
 have c:=cw;obtain ⟨R,B,rfl,bb⟩:=cw;have:=bb.len;have:=z.len;unfold vX at hr;refine aM (M:=M) func209 J ntmps209 J p ?_;refine C (bI (cs:=[.int .i64 m.number,.int .i64 m.bound,.int .i64 m.height,.int .i64 m.width,.slice R m.parts.length B]) J J J fun y x u=>(I J (sq (C (cU mJ iQ J J (P 0 J u) J ?_)))));obtain ⟨r7,bc,F⟩:=L hr;refine bD NW J (fun w H p le=>OZ p m (cC.mono _ _ _ _ (le.at 1 J) c) bc) (I J (C (A J (lE J J J (N ?_)))));refine ci J (fun h3=>?_) (fun h3=>?_)
 ·have hT:=aJ h3 F;refine C (A J (I J (bK ?_)));cases hT;exact cQ J J
 have hI:=aX h3 F;refine sk (sq (bk (C (A J (dV AU J J (lW J J J (I J ?_)))))));refine ci J (fun h4=>?_) (fun h4=>?_)
 ·have hV:=aJ h4 hI;refine C (I J (bK ?_));cases hV;exact cQ J J
 have hW:=aX h4 hI;refine C (A J ?_);obtain ⟨r1,hX,hJ⟩:=L hW
 refine nQ (v:=.bool r1) aBt J J J J (fun w H p le=>by
   have ab:fB M prog H (.func (.func 247) #[] #[]) (fU (Va aN) Value.bool (tO)):=⟨247,[],[],rfl,aBu,fun w_ K_ V v_ hK hw hs=>by obtain ⟨bf,bd,r_,rfl,aa,hx,rfl⟩:=hs;cases aa;exact aDm  bd rfl  hx⟩
   exact aDl p (z.mono (aG.mono _) (le.at 1 J)) (right:=(tO)) ab hX) ?_
 refine nt J J (I J ?_);refine cb J (fun h2=>?_) (fun h2=>?_)
 ·replace h2:=mQ h2
  have ac:=bM h2 hJ;refine C (I J (bK ?_));cases ac;exact cQ J J
 replace h2:=mR h2
 have ad:=aJ h2 hJ;refine sk (C (KN 1 fC Value.bool J fun k=>(KN 2 fC Value.bool J fun l=>(a1 J (I J (sq (C (cU mJ iQ J J (P 0 J u) J ?_))))))));obtain ⟨r0,ae,af⟩:=L ad;refine gY JN J J J J (fun w H p le=>JS p m (cC.mono _ _ _ _ (le.at 1 J) c) ae) ?_;rintro v_ e ⟨a0,c0,rfl,h5⟩;have:=h5.len;refine dV AV J J (A J (N ?_));obtain ⟨Y,ag,ah⟩:=L af;refine jn (fun a w=>St M W H [e,x,H] [(2,S.map' fC Value.bool l ([]:List (Int×Bool))),(1,S.map' fC Value.bool k Y)] w∧aT [] 72 a [(1,.slice s errata.length i),(2,.pointer (some y)),(6,.map (some k)),(7,.map (some l))]) ?_ ?_
 ·refine bk ?_;refine lp ag (fun s2 a w=>St M W H [e,x,H] [(2,S.map' fC Value.bool l ([]:List (Int×Bool))),(1,S.map' fC Value.bool k s2.2)] w∧aT [] 72 a [(1,.slice s errata.length i),(2,.pointer (some y)),(6,.map (some k)),(7,.map (some l)),(28,.slice a0 r0.length c0),(29,.int .i64 (r0.length:Int)),(30,.int .i64 (s2.1:Int))]) ?_ ?_
  ·exact cuE J
  rintro j s2 y0 h6 hL a w ⟨g,f⟩;refine TG.ap ?_ g f;unfold vV at h6;refine C (dU J J J (N (sq ?_)));refine ci J (fun h7=>?_) (fun h7=>?_)
  ·have ai:=aJ h7 h6;refine sk (sq (bk (C ?_)));obtain ⟨x1,h8,ak⟩:=L ai;obtain ⟨p1,rfl⟩:=h5.adr h8;have am:=h5.atF h8;refine cO AV mD J J J J (aS h8) (cU FQ mD J J (P 0 J am) J (va (cs:=[.int .i64 x1.anchor,.string (bs x1.text)]) zeroValue58 mD J J J J J J J J fun q1 be t=>(N (rg (A J (aZ 0 AI J Z3 (aV G3 J ((P 0 J t).take 1) J (GR 1 (ke:=fC) (enc:=Value.bool) x1.anchor true kN U3 J J J J (N (rg (dN J J J (by omega) ?_)))))))))));refine A J (N ?_);cases ak;intro a w g f;exact ⟨_,hL,g.selH [1,2,3] J,f.cuE J⟩
  have an:=aX h7 h6;refine xt J ?_;cases an;obtain rfl:=dI.out hL;exact cuE J
 rintro a w ⟨g,f⟩;apply TG.ap ?_ g f;refine sq (C (A J (dV AU J J (A J (N ?_)))));obtain ⟨Z,ao,hM⟩:=L ah;refine jn (fun a w=>∃ K,Z=.inl K∧St M W H [e,x,H] [(2,S.map' fC Value.bool l K.1),(1,S.map' fC Value.bool k K.2)] w∧aT [] 72 a [(1,.slice s errata.length i),(2,.pointer (some y))]) ?_ ?_
 ·refine bk ?_;refine lp ao (fun n a w=>St M W H [e,x,H] [(2,S.map' fC Value.bool l n.2.1),(1,S.map' fC Value.bool k n.2.2)] w∧aT [] 72 a [(1,.slice s errata.length i),(2,.pointer (some y)),(6,.map (some k)),(7,.map (some l)),(38,.slice s errata.length i),(39,.int .i64 (errata.length:Int)),(40,.int .i64 (n.1:Int))]) ?_ ?_
  ·exact cuE J
  rintro j n y1 h9 hB a w ⟨g,f⟩;refine TG.ap ?_ g f;unfold vW at h9;refine C (dU J J J (N (sq ?_)));refine ci J (fun hC=>?_) (fun hC=>?_)
  ·have aq:=aJ hC h9;refine sk (sq (bk (C ?_)));obtain ⟨h,hE,ar⟩:=L aq;obtain ⟨G,rfl⟩:=z.adr hE;have aw:=z.atF hE;refine cO AU iF J J J J (aS hE) (cU mC iF J J (P 2 J aw) J (va (cs:=[.int .i64 h.number,.int .i64 h.day,.int .u8 h.kind,.int .i64 h.anchor,.string (bs h.text),.int .i64 h.new_]) zeroValue217 iF J J J J J J J J fun q0 q b=>(N (sq (sq ?_)))));obtain ⟨t1,hN,hO⟩:=L ar;refine jn (fun a w=>St M W H [q,e,x,H] [(2,S.map' fC Value.bool l n.2.1),(1,S.map' fC Value.bool k n.2.2)] w∧aT [] 72 a [(1,.slice (some G) errata.length i),(2,.pointer (some y)),(6,.map (some k)),(7,.map (some l)),(11,.pointer (some q0)),(38,.slice (some G) errata.length i),(39,.int .i64 (errata.length:Int)),(40,.int .i64 (n.1:Int)),(58,.bool t1)]) ?_ ?_
   ·refine rg (A J (aZ 0 fW J Z3 (aV G3 J ((P 0 J b).take 1) J (HY (ke:=fC) (enc:=Value.bool) h.number (z0:=false) kN U3 zeroValue4 J J J J (mO 2 J) (A J ?_)))));rcases Bool.eq_false_or_eq_true ((eE n.2.1 h.number).getD false) with d | d
    ·have ay:=aJ d hN;refine cH 4 J J J (d) J (gU J J J (gU J J J (gU J J J (gU J J J (gF J J (d) J (pT J J (d) J (N ?_)))))));cases ay;exact cuE J
    have hP:=bM d hN;refine gN J J (d) (aZ 2 fW J Z5 (gN J J (d) (aV G5 J (((P 0 J b).drop 2).take 1) J (gN J J (d) (fE J J J (gN J J (d) (A J ?_)))))));by_cases o:h.kind=2
    ·have az:=aJ o hP;refine gt o J (A J (gt o J (aZ 5 fW J Z3 (gt o J (aV G3 J ((P 0 J b).drop 5) J (gt o J (HY (ke:=fC) (enc:=Value.bool) h.new_ (z0:=false) kN U3 zeroValue4 J J J J (mO 1 J) (gN J J (d) (pt o J J (pF J J (d) J (N ?_)))))))))));cases az;exact cuE J
    have a2:=aX o hP;refine cH 4 J J J (decide_eq_false o) J (gN J J (d) (pf o J J (pF J J (d) J (N ?_))));cases a2;exact cuE J
   refine X ?_;refine cb J (fun hF=>?_) (fun hF=>?_)
   ·have a3:=aJ hF hO;refine C (I J (bK ?_));cases a3;obtain rfl:=dI.out hB;cases hM;exact cQ J J
   have a4:=bM hF hO;refine sk (C (A J (aZ 0 fW J Z3 (aV G3 J ((P 0 J b).take 1) J (GR 2 (ke:=fC) (enc:=Value.bool) h.number true kN U3 J J J J (N (C (aZ 2 fW J Z5 (aV G5 J (((P 0 J b).drop 2).take 1) J ?_)))))))));refine fE J J J (N ?_);obtain ⟨t2,hR,a5⟩:=L a4;refine jn (fun a w=>St M W H [q,e,x,H] [(2,S.map' fC Value.bool l (put n.2.1 h.number true)),(1,S.map' fC Value.bool k t2)] w∧aT [] 72 a [(1,.slice (some G) errata.length i),(2,.pointer (some y)),(6,.map (some k)),(7,.map (some l)),(38,.slice (some G) errata.length i),(39,.int .i64 (errata.length:Int)),(40,.int .i64 (n.1:Int))]) ?_ ?_
   ·refine ci J (fun hG=>?_) (fun hG=>?_)
    ·have a6:=aJ hG hR;refine rg (A J (aZ 5 fW J Z3 (aV G3 J ((P 0 J b).drop 5) J (GR 1 (ke:=fC) (enc:=Value.bool) h.new_ true kN U3 J J J J (N ?_)))));cases a6;exact cuE J
    have a7:=aX hG hR;refine sk ?_;cases a7;exact cuE J
   refine X ?_;refine rg (dN J J J (by omega) (A J (N ?_)));cases a5;intro a w g f;exact ⟨_,hB,g.selH [1,2,3] J,f.cuE J⟩
  have a8:=aX hC h9;refine xt J ?_;cases a8;obtain rfl:=dI.out hB;intro a w g f;exact ⟨_,J,g,f.cuE J⟩
 rintro a w ⟨K,rfl,g,f⟩;apply TG.ap ?_ g f;refine C (cU mJ iQ J J (P 1 J u) J (A J ?_));obtain ⟨r2,a9,ba⟩:=L hM;refine bD aBv J (fun w H p le=>aDo p m (cC.mono _ _ _ _ (le.at 2 J) c) (z.mono (aG.mono _) (le.at 2 J)) a9) (I J (bK ?_));cases ba;exact cQ J J

theorem aJz (hH:H.le (hp W)) {V:Addr} {G:List Value} (e:gX) (ei:aL H V G) (K:(jG) H G e) (anchor:Int) {r:Int×Int×Bool} (hr:SQ e anchor=some r):Calls prog 214 #[.pointer (some V),.int .i64 anchor] W (bP M W (.tuple #[.int .i64 r.1,.int .i64 r.2.1,.bool r.2.2])):=by
 have l:=K;obtain ⟨aa,R,m,d,rfl,B,h⟩:=K;have:=B.len;have:=h.len;unfold SQ at hr;refine aM (M:=M) func214 J ntmps214 J hH ?_;refine C (a1 J (a1 J (I J (sc (sq (lb (sq (C ?_))))))));refine A J (nl J J (aZ 5 nW J nF (aV pE J ((P 0 J ei).drop 5) J (dV lI J J (A J (N ?_))))));obtain ⟨g,hF,hG⟩:=L hr;refine jn (fun a w=>St M W H [H] [] w∧aT [] 40 a [(4,.int .i64 (g.1:Int)),(5,.int .i64 (g.2.1:Int)),(6,.bool g.2.2)]) ?_ ?_
 ·refine bk ?_;refine lp hF (fun f a w=>St M W H [H] [] w∧aT [] 40 a [(1,.int .i64 anchor),(4,.int .i64 (f.1:Int)),(5,.int .i64 (f.2.1:Int)),(6,.bool f.2.2.2),(14,.slice m e.parts.length d),(15,.int .i64 (e.parts.length:Int)),(16,.int .i64 (f.2.2.1:Int))]) ?_ ?_
  ·exact cuE J
  rintro j f y0 o p a w ⟨c,b⟩;refine TG.ap ?_ c b;unfold DH at o;refine C (dU J J J (N (sq ?_)));refine ci J (fun q=>?_) (fun q=>?_)
  ·have hI:=aJ q o;refine sk (sq (bk (C (A J ?_))));obtain ⟨x1,s,hJ⟩:=L hI;obtain ⟨p0,rfl⟩:=h.adr s;obtain ⟨c1,hW,hK,Y⟩:=h.at s;have hX:=Y;obtain ⟨a0,c0,rfl,t⟩:=Y;have:=t.len;refine cO lI pG J J J J (aS s) (aV rS J (P 0 J hK) J (a1 J (I J (C (A J (dV nH J J (A J (N ?_))))))));obtain ⟨n,hL,Z⟩:=L hJ;refine jn (fun a w=>∃ k,n=.inl k∧St M W H [H] [] w∧aT [] 40 a [(1,.int .i64 anchor),(4,.int .i64 (k.1:Int)),(5,.int .i64 (k.2.1:Int)),(6,.bool k.2.2),(14,.slice (some p0) e.parts.length d),(15,.int .i64 (e.parts.length:Int)),(16,.int .i64 (f.2.2.1:Int))]) ?_ ?_
   ·refine bk ?_;refine lp hL (fun i a w=>St M W H [H] [] w∧aT [] 40 a [(1,.int .i64 anchor),(4,.int .i64 (i.1:Int)),(5,.int .i64 (i.2.1:Int)),(6,.bool i.2.2.2),(7,.int .i64 (f.2.2.1:Int)),(14,.slice (some p0) e.parts.length d),(15,.int .i64 (e.parts.length:Int)),(16,.int .i64 (f.2.2.1:Int)),(21,.slice a0 x1.length c0),(22,.int .i64 (x1.length:Int)),(23,.int .i64 (i.2.2.1:Int))]) ?_ ?_
    ·exact cuE J
    rintro j i y1 u v a w ⟨c,b⟩;refine TG.ap ?_ c b;unfold DG at u;refine C (dU J J J (N (sq ?_)));refine ci J (fun x=>?_) (fun x=>?_)
    ·have hM:=aJ x u;refine sk (sq (bk (C (A J ?_))));obtain ⟨F,y,hE⟩:=L hM;obtain ⟨p1,rfl⟩:=t.adr y;have hN:=t.atF y;refine cO nH jI J J J J (aS y) (cU AD jI J J (P 0 J hN) J (al 1 (cs:=[.int .i64 0,.string (bs []),.bool false]) zeroValue265 J J fun b0=>(a1 J (eV 1 (cs:=[.int .i64 F.paragraph.anchor,.string (bs F.paragraph.text),.bool F.removed]) jI J J J J J J J (N (C (aZ 0 nG J mD (aZ 0 AI J Z3 (aV G3 J ((sO 1 J).take 1) J (A J ?_))))))))));refine fE J J J (N ?_);refine ci J (fun z=>?_) (fun z=>?_)
     ·have hO:=aJ z hE;refine C (A J (A J (a1 J (a1 J (I J (xt J ?_))))));obtain ⟨z0,hP,rfl⟩:=oC hO;obtain rfl:=dI.out v;cases Z;refine TG.del 1 ?_;cases hP;obtain rfl:=dI.out p;exact cuE J
     have hR:=aX z hE;refine sk (rg (dN J J J (by omega) (A J (N (TG.del 1 ?_)))));cases hR;intro a w c b;exact ⟨_,v,c,b.cuE J⟩
    have hT:=aX x u;refine xt J ?_;cases hT;obtain rfl:=dI.out v;intro a w c b;exact ⟨_,J,c,b.cuE J⟩
   rintro a w ⟨k,rfl,c,b⟩;apply TG.ap ?_ c b;refine rg (dN J J J (by omega) (A J (N ?_)));cases Z;intro a w c b;exact ⟨_,p,c,b.cuE J⟩
  have hV:=aX q o;refine xt J ?_;cases hV;obtain rfl:=dI.out p;exact cuE J
 rintro a w ⟨c,b⟩;apply TG.ap ?_ c b;refine C (A J (A J (A J (a1 J (a1 J (I J (bK ?_)))))));cases hG;exact SJ J J J J

theorem aDp (g:H.le (hp W))  {r:Unit} (d:IT=some r):Calls prog 250 #[] W (eU M H W (fun v K=>∃ (e:Addr),v=.slice (some e) 3 3∧aL K e [.func (.func 271) #[] #[],.func (.func 272) #[] #[],.func (.func 273) #[] #[]])):=by
 unfold IT at d;refine aM (M:=M) func250 J ntmps250 J g ?_;refine C (I J (C (bu (cs:=[.func (.func 271) #[] #[]]) T12.B308 J J J (bu (cs:=[.func (.func 272) #[] #[]]) T12.B308 J J J (bu (cs:=[.func (.func 273) #[] #[]]) T12.B308 J J J (bS (cs:=[.func (.func 271) #[] #[],.func (.func 272) #[] #[],.func (.func 273) #[] #[]]) T12.E309 J J J J fun j i h b=>(I J ?_)))))));refine bK ?_;obtain rfl:=sj d;intro a w c f;refine dQ f J J ?_;exact ⟨⟨_,J,b.mono (c.grow 0 J)⟩,c.ext⟩

theorem PD (hH:H.le (hp W)) {cl:List Value} (o:bU) (cw:(cC) H cl o) {ax:Option Addr} {aj:Nat} {errata:List aO} (bl:Sl (aG aN) 6 H ax aj errata) (eh:Int) {r:gX} (hr:wC o errata eh=some r):Calls prog 213 #[.agg cl.toArray,.slice ax errata.length aj,.int .i64 eh] W (eU M H W (fun v K=>∃ (u0:Addr) (d1:List Value),v=.pointer (some u0)∧aL K u0 d1∧(jG) K d1 r)):=by
 have ew:=cw;obtain ⟨am,Y,rfl,bw⟩:=cw;have:=bw.len;have:=bl.len;unfold wC at hr;refine qZ (M:=M) func213 J ntmps213 J hH ?_
 let dy:List Value:=[.int .i64 o.number,.int .i64 o.bound,.int .i64 o.height,.int .i64 o.width,.slice am o.parts.length Y,.slice none 0 0]
 refine C (bI (cs:=[.int .i64 o.number,.int .i64 o.bound,.int .i64 o.height,.int .i64 o.width,.slice am o.parts.length Y]) J J J fun q4 K5 ee=>(I J (C (cU mJ iQ J J (P 0 J ee) J (bu (cs:=dy) T12.B269 J J J (bO 1 J J J fun b7=>(va (cs:=[.pointer (some (⟨b7,0,none⟩))]) zeroValue260 aCw J J J J J J J J fun q8 K9 ad=>(N ?_))))))));refine sq (C (aZ 4 nL J AT (aV GW J ((P 1 J ee).drop 4) J (dV yR J J (A J (N (TG.nilRow 5 266 1 (TG.as 5 (z:=S.list none 0 266 1 eW ([]:List Hd)) J J (TG.gopen (σ:=[(5,S.list none 0 266 1 eW ([]:List Hd)),(1,bH b7 269 dy)]) 265 3 bX 1000 0 ?_)))))))));have cr:=gM.none cL;obtain ⟨d2,g9,hb⟩:=L hr;refine jn (fun a w=>∃ (h1:List Hd) (a9:List fJ) (a2:Option Addr) (c0:Nat),St M W H [K9,K5,H] ([(5,S.list a2 c0 266 1 eW h1),(1,bH b7 269 [.int .i64 o.number,.int .i64 o.bound,.int .i64 o.height,.int .i64 o.width,.slice am o.parts.length Y,.slice a2 h1.length c0])]++gZ 265 3 bX 1000 a9 d2) w∧aT [] 76 a [(1,.slice ax errata.length aj),(2,.int .i64 eh),(7,.pointer (some q8))]∧gM h1 a9 d2) ?_ ?_
 ·refine bk ?_;refine lp g9 (fun s3 a w=>∃ (h2:List Hd) (a6:List fJ) (a4:Option Addr) (c3:Nat),St M W H [K9,K5,H] ([(5,S.list a4 c3 266 1 eW h2),(1,bH b7 269 [.int .i64 o.number,.int .i64 o.bound,.int .i64 o.height,.int .i64 o.width,.slice am o.parts.length Y,.slice a4 h2.length c3])]++gZ 265 3 bX 1000 a6 s3.2) w∧aT [] 76 a [(1,.slice ax errata.length aj),(2,.int .i64 eh),(7,.pointer (some q8)),(21,.slice am o.parts.length Y),(22,.int .i64 (o.parts.length:Int)),(23,.int .i64 (s3.1:Int))]∧gM h2 a6 s3.2) ?_ ?_
  ·intro a w d g;exact ⟨([]:List Hd),([]:List fJ),none,0,d,g.cuE J,cr⟩
  rintro j s3 y0 hP en a w ⟨h2,a6,a4,c3,d,g,ae⟩;refine TG.ap ?_ d g;unfold vZ at hP;refine C (dU J J J (N (sq ?_)));refine ci J (fun hR=>?_) (fun hR=>?_)
  ·have hf:=aJ hR hP;refine sk (sq (bk (C ?_)));obtain ⟨x3,hT,hj⟩:=L hf;obtain ⟨p0,rfl⟩:=bw.adr hT;obtain ⟨cR,i0,hn,eo⟩:=bw.at hT;have i1:=eo;obtain ⟨dx,c7,rfl,hV⟩:=eo;have:=hV.len;refine cO yR yQ J J J J (aS hT) (cU G54 yQ J J (P 2 J hn) J (va (cs:=[.int .i64 x3.day,.slice dx x3.paragraphs.length c7]) zeroValue54 yQ J J J J J J J J fun q5 bx db=>(N (C (I J (sq (C (aZ 1 GY J UG ?_))))))));refine aV G52 J ((P 0 J db).drop 1) J (dV AV J J (A J (N (TG.nilRow 3 265 3 (TG.as 3 (z:=S.list none 0 265 3 bX ([]:List cL)) J J ?_)))));obtain ⟨Z,hu,ia⟩:=L hj;refine jn (fun a w=>∃ (a0:Option Addr) (c1:Nat),St M W H [bx,K9,K5,H] ([(3,S.list a0 c1 265 3 bX Z),(5,S.list a4 c3 266 1 eW h2),(1,bH b7 269 [.int .i64 o.number,.int .i64 o.bound,.int .i64 o.height,.int .i64 o.width,.slice (some p0) o.parts.length Y,.slice a4 h2.length c3])]++gZ 265 3 bX 1000 a6 s3.2) w∧aT [] 76 a [(1,.slice ax errata.length aj),(2,.int .i64 eh),(7,.pointer (some q8)),(10,.slice a0 Z.length c1),(21,.slice (some p0) o.parts.length Y),(22,.int .i64 (o.parts.length:Int)),(23,.int .i64 (s3.1:Int))]) ?_ ?_
   ·refine bk ?_;refine lp hu (fun s4 a w=>∃ (aq:Option Addr) (c6:Nat),St M W H [bx,K9,K5,H] ([(3,S.list aq c6 265 3 bX s4.2),(5,S.list a4 c3 266 1 eW h2),(1,bH b7 269 [.int .i64 o.number,.int .i64 o.bound,.int .i64 o.height,.int .i64 o.width,.slice (some p0) o.parts.length Y,.slice a4 h2.length c3])]++gZ 265 3 bX 1000 a6 s3.2) w∧aT [] 76 a [(1,.slice ax errata.length aj),(2,.int .i64 eh),(7,.pointer (some q8)),(10,.slice aq s4.2.length c6),(21,.slice (some p0) o.parts.length Y),(22,.int .i64 (o.parts.length:Int)),(23,.int .i64 (s3.1:Int)),(28,.slice dx x3.paragraphs.length c7),(29,.int .i64 (x3.paragraphs.length:Int)),(30,.int .i64 (s4.1:Int))]) ?_ ?_
    ·intro a w d g;exact ⟨none,0,d,g.cuE J⟩
    rintro j s4 y1 hW ep a w ⟨aq,c6,d,g⟩;refine TG.ap ?_ d g;unfold vY at hW;refine C (dU J J J (N (sq ?_)));refine ci J (fun hX=>?_) (fun hX=>?_)
    ·have ig:=aJ hX hW;refine sk (sq (bk (C ?_)));obtain ⟨x2,cj,fa⟩:=L ig;obtain ⟨p1,rfl⟩:=hV.adr cj;have fg:=hV.atF cj;refine cO AV mD J J J J (aS cj) (cU FQ mD J J (P 3 J fg) J (va (cs:=[.int .i64 x2.anchor,.string (bs x2.text)]) zeroValue58 mD J J J J J J J J fun q6 im dd=>(N (rg (A J (cU FQ mD J J (P 0 J dd) J (bu (cs:=[.int .i64 x2.anchor,.string (bs x2.text),.bool false]) T12.B265 J J J ?_)))))));obtain ⟨fl,fq⟩:=aE fa;have:=eM s4.2 [(⟨x2,false⟩:cL)];have:=mZ (⟨x2,false⟩:cL);refine zF 3 bX (l:=s4.2) (⟨x2,false⟩:cL) T12.E266 J J J J J J J J J J J J fl fun e3 c8 u1=>(I J (rg (dN J J J (by omega) (A J (N ?_)))));cases fq;intro a w d g;exact ⟨_,ep,e3,c8,d.selH [1,2,3,4] J,g.cuE J⟩
    have fu:=aX hX hW;refine xt J ?_;cases fu;obtain rfl:=dI.out ep;intro a w d g;exact ⟨aq,c6,d,g.cuE J⟩
   rintro a w ⟨a0,c1,d,g⟩;apply TG.ap ?_ d g;obtain ⟨i2,fy⟩:=aE ia;refine kK 8 [7] [] mixed (fun _ _ _ _ _ h=>h) (by kernel_rfl) (by kernel_rfl) (by kernel_rfl) J (by kernel_rfl) (.nil) (dA J (aV wX J (P 2 J ad) J D) (dA J (aV wX J (P 2 J ad) J D) (dA J (nl J J D) (dA J (aZ 5 nW J nF D) (dc J (by kernel_rfl) tv J J (aV pE J ((sO 1 J).drop 5) J D) (dA J (A J D) ?_))))))
   refine uT 1 (aG eW) 1 [(a0,Z.length,c1)] (aG.mono eW) J (bS (cs:=[(Value.slice a0 Z.length c1)]) T12.E267 J J J J fun q2 dw f2 de=>by
     have f5:Sl (aG eW) 1 dw (some q2) 1 [(a0,Z.length,c1)]:=Sl.litR (css:=[[(Value.slice a0 Z.length c1)]]) (l:=[(a0,Z.length,c1)]) ⟨⟨J,J,J⟩,tv⟩ f2 de J
     exact qM (aG.mono eW) f5) fun iq cS=>?_
   refine tS ((h2++[(a0,Z.length,c1)]).length) (fun du dv=>([(3,S.list a0 c1 265 3 bX Z),(5,S.list du dv 266 1 eW (h2++[(a0,Z.length,c1)])),(1,bH b7 269 [.int .i64 o.number,.int .i64 o.bound,.int .i64 o.height,.int .i64 o.width,.slice (some p0) o.parts.length Y,.slice a4 h2.length c3])]++gZ 265 3 bX 1000 a6 s3.2)) J (fun a w K d g hF F=>TG.pa d g (pL 5 (enc:=eW) (l:=h2) (m:=[(a0,Z.length,c1)]) T12.E267 J J J J J J (hF.1 J) 0 J (fun _=>J) (fun _=>J) J (by have:=ae.hlen;simp only [List.length_cons,List.length_nil];omega) fun a7 c5=>F _ _)) fun a7 c5=>(DC.nil fun ip hF=>?_);obtain ⟨_,f8,_⟩:=hF;have:=f8.len;refine TG.absorbA [(3,S.list a0 c1 265 3 bX Z),(5,S.list a7 c5 266 1 eW (h2++[(a0,Z.length,c1)])),(1,bH b7 269 [.int .i64 o.number,.int .i64 o.bound,.int .i64 o.height,.int .i64 o.width,.slice (some p0) o.parts.length Y,.slice a4 h2.length c3])] (B:=[(5,S.list a7 c5 266 1 eW (h2++[(a0,Z.length,c1)])),(1,bH b7 269 [.int .i64 o.number,.int .i64 o.bound,.int .i64 o.height,.int .i64 o.width,.slice (some p0) o.parts.length Y,.slice a4 h2.length c3])]) 3 (b:=1000) ae J J ?_;have cv:=ae.snoc Z a0 c1;refine nl J J (aZ 5 nW J nF (eV 1 (cs:=[.slice a7 ((h2++[(a0,Z.length,c1)]).length) c5]) nF J J J J J J J (N (rg (dN J J J (by omega) (A J (N ?_)))))));cases fy;intro a w d g;exact ⟨_,en,(h2++[(a0,Z.length,c1)]),(a6++[(a0,c1)]),a7,c5,d.selH [2,3,4] J,g.cuE J,cv⟩
  have gb:=aX hR hP;refine xt J ?_;cases gb;obtain rfl:=dI.out en;intro a w d g;exact ⟨h2,a6,a4,c3,d,g.cuE J,ae⟩
 rintro a w ⟨h1,a9,a2,c0,d,g,ct⟩;apply TG.ap ?_ d g;refine sq (C (A J (A J (WF TW func249 J ntmps249 J J J J (C (bI (cs:=[.slice ax errata.length aj]) J J J fun q7 s dg=>(bI (cs:=[.int .i64 eh]) J J J fun q1 t dh=>(I J ?_))))))));refine C (fn J J J (I J (bK ?_)));intro a w d g;refine dQ g J J ?_;refine ⟨_,J,fun a g=>?_⟩;refine fA J g d (N (bk (TG.stillC 1 J fun n aa=>?_)));obtain ⟨t3,gh,gl⟩:=L hb;refine WD 6 7 TX func268 J ntmps268 J J (fun l0 e i w=>(∃ (h7:List Hd) (ce:List fJ),St M W H [n,t,s,K9,K5,H] ([(6,S.blk l0 (i .ready none)),(7,S.blk e (.deferred (some []))),(5,S.list a2 c0 266 1 eW h7)]++gZ 265 3 bX 1000 ce t3) w∧gM h7 ce t3∧h7.length=h1.length)) ?_ ?_
 ·intro l0 e i tE bv ac;refine C (aV QF J (P 2 J dg) J ?_);obtain ⟨r0,gq,gu⟩:=L gh;refine rF 8 JO J J J J (fun w V σr d le=>JT (ai:=errata) (bl.mono (aG.mono _) (le.at 5 J)) gq d) fun cf c2=>(TG.len 8 J fun _=>(I J (C (A J ?_))));obtain ⟨l1,es,gx⟩:=L gu;have g0:l1.length=r0.length:=(gJ es);refine IF 8 (enc:=aN) (V:=Va aN) (V':=Va aN) (fun _=>rfl) (fun _=>rfl) srt269 OD J J J J J J (fun H le=>⟨270,[],[],rfl,OE,fun w_ K_ e5 v_ hK hw hs=>by obtain ⟨jd,je,ik,il,r_,rfl,e8,e9,hx,rfl⟩:=hs;cases e8;cases e9;exact PB  ik rfl il rfl  hx⟩) (fun _ _=>rfl) (fun _ _=>rfl) es (N (C (A rfl (dV AU J J (A rfl (N ?_))))));obtain ⟨e6,g3,et⟩:=L gx;refine jn (fun a w=>∃ t2,e6=.inl t2∧∃ (h8:List Hd) (ar:List fJ),St M W H [n,t,s,K9,K5,H] ([(8,S.list cf c2 217 6 aN l1),(6,S.blk l0 (i .ready none)),(7,S.blk e (.deferred (some []))),(5,S.list a2 c0 266 1 eW h8)]++gZ 265 3 bX 1000 ar t2) w∧aT [] 28 a []∧gM h8 ar t2∧h8.length=h1.length) ?_ ?_
  ·refine bk ?_;refine lp g3 (fun s1 a w=>∃ (h0:List Hd) (a3:List fJ),St M W H [n,t,s,K9,K5,H] ([(8,S.list cf c2 217 6 aN l1),(6,S.blk l0 (i .ready none)),(7,S.blk e (.deferred (some []))),(5,S.list a2 c0 266 1 eW h0)]++gZ 265 3 bX 1000 a3 s1.2) w∧aT [] 28 a [(0,.func (.yield l0) #[] #[]),(2,.pointer (some q1)),(11,.slice cf r0.length c2),(12,.int .i64 (r0.length:Int)),(13,.int .i64 (s1.1:Int))]∧gM h0 a3 s1.2∧h0.length=h1.length) ?_ ?_
   ·intro a w d g;exact ⟨h1,a9,d,g.cuE J,ct,J⟩
   rintro j s1 y2 ck cm a w ⟨h0,a3,d,g,k,h3⟩;refine TG.ap ?_ d g;unfold wB at ck;refine C (dU J J J (N (sq ?_)));refine ci J (fun cn=>?_) (fun cn=>?_)
   ·have g6:=aJ cn ck;refine sk (sq (bk (C ?_)));obtain ⟨u,co,gR⟩:=L g6;refine TG.addr 8 J (fO co) fun b0 h=>?_;subst h
    let an:List Value:=[.int .i64 u.number,.int .i64 u.day,.int .u8 u.kind,.int .i64 u.anchor,.string (bs u.text),.int .i64 u.new_]
    refine cO AU iF J J J J (Nat.lt_of_lt_of_eq (aS co) g0) (cU mC iF J J (sE (enc:=aN) 8 J (fun _=>J) co) J (va (cs:=an) zeroValue217 iF J J J J J J J J fun q9 p ah=>(N (sq ?_))));obtain ⟨t4,d3,d4⟩:=L gR;refine jn (fun a w=>∃ (h6:List Hd) (a8:List fJ),St M W H [p,n,t,s,K9,K5,H] ([(8,S.list (some ⟨b0,0,none⟩) c2 217 6 aN l1),(6,S.blk l0 (i .ready none)),(7,S.blk e (.deferred (some []))),(5,S.list a2 c0 266 1 eW h6)]++gZ 265 3 bX 1000 a8 t4.2) w∧aT [] 28 a [(0,.func (.yield l0) #[] #[]),(2,.pointer (some q1)),(11,.slice (some ⟨b0,0,none⟩) r0.length c2),(12,.int .i64 (r0.length:Int)),(13,.int .i64 (s1.1:Int)),(26,.bool t4.1)]∧gM h6 a8 t4.2∧h6.length=h1.length) ?_ ?_
    ·refine rg (aZ 1 fW J Z3 (aV G3 J (((P 0 J ah).drop 1).take 1) J (aV G3 J (P 2 J dh) J (lW J J J (A J ?_)))));by_cases h4:eh < u.day
     ·have hc:=aJ h4 d3;refine cH 4 J J J (decide_eq_true h4) J (pt h4 J J (N ?_));cases hc;intro a w d g;exact ⟨h0,a3,d,g.cuE J,k,h3⟩
     have hg:=aX h4 d3;refine cW h4 J (A J (cW h4 J (cU mC iF J J (P 0 J ah) J (cW h4 J ?_))));obtain ⟨t5,hk,ho⟩:=L hg;refine yl 6 [] (L1:=(54,.agg an.toArray)::_) J J J bv ac J J J (fun v w=>(∃ (h9:List Hd) (aw:List fJ),v=.bool true∧St M W H [p,n,t,s,K9,K5,H] ([(8,S.list (some ⟨b0,0,none⟩) c2 217 6 aN l1),(6,S.blk l0 (i .ready none)),(7,S.blk e (.deferred (some []))),(5,S.list a2 c0 266 1 eW h9)]++gZ 265 3 bX 1000 aw t5) w∧gM h9 aw t5∧h9.length=h1.length)) ?_ ?_
     ·refine rg (va (cs:=an) zeroValue217 iF J J J J J J J J fun iR y ab=>(N (bR 6 ac J (bk (C (aV wX J (P 5 J ad) J (aZ 3 fW J Z3 (aV G3 J (((P 0 J ab).drop 3).take 1) J ?_))))))));obtain ⟨R,hv,ib⟩:=L hk;refine zG TU func214 J ntmps214 J J J J (fun v w=>(v=.tuple #[.int .i64 (R.2.1:Int),.int .i64 (R.1:Int),.bool R.2.2]∧St M W H [y,p,n,t,s,K9,K5,H] ([(8,S.list (some ⟨b0,0,none⟩) c2 217 6 aN l1),(6,S.blk l0 (i .busy none)),(7,S.blk e (.deferred (some []))),(5,S.list a2 c0 266 1 eW h0)]++gZ 265 3 bX 1000 a3 s1.2) w)) ?_ ?_
      ·refine C (a1 J (a1 J (I J (sc (sq (lb (sq (C ?_))))))));refine A J (nl J J (aZ 5 nW J nF (aV pE J ((P 2 J aa).drop 5) J (lnE (h3.symm.trans k.hlen) lI J J (A J (N ?_))))));obtain ⟨ch,ih,fc⟩:=L hv;refine jn (fun a w=>St M W H [y,p,n,t,s,K9,K5,H] ([(8,S.list (some ⟨b0,0,none⟩) c2 217 6 aN l1),(6,S.blk l0 (i .busy none)),(7,S.blk e (.deferred (some []))),(5,S.list a2 c0 266 1 eW h0)]++gZ 265 3 bX 1000 a3 s1.2) w∧aT [] 40 a [(4,.int .i64 (ch.1:Int)),(5,.int .i64 (ch.2.1:Int)),(6,.bool ch.2.2)]) ?_ ?_
       ·refine bk ?_;refine lp ih (fun s2 a w=>St M W H [y,p,n,t,s,K9,K5,H] ([(8,S.list (some ⟨b0,0,none⟩) c2 217 6 aN l1),(6,S.blk l0 (i .busy none)),(7,S.blk e (.deferred (some []))),(5,S.list a2 c0 266 1 eW h0)]++gZ 265 3 bX 1000 a3 s1.2) w∧aT [] 40 a [(1,.int .i64 u.anchor),(4,.int .i64 (s2.1:Int)),(5,.int .i64 (s2.2.1:Int)),(6,.bool s2.2.2.2),(14,.slice a2 h1.length c0),(15,.int .i64 (s1.2.length:Int)),(16,.int .i64 (s2.2.2.1:Int))]) ?_ ?_
        ·exact cuE J
        rintro j s2 y3 cp cq a w ⟨d,g⟩;refine TG.ap ?_ d g;unfold rN at cp;refine C (dU J J J (N (sq ?_)));refine ci J (fun cx=>?_) (fun cx=>?_)
        ·have fh:=aJ cx cp;refine sk (sq (bk (C (A J ?_))));obtain ⟨x6,cy,fm⟩:=L fh;obtain ⟨e4,c9,d5,cz⟩:=k.at cy;refine TG.addr 5 J (fO cz) fun b2 h=>?_;subst h;refine cO lI pG J J J J (Nat.lt_of_lt_of_eq (aS cz) h3) (aV rS J (sE 5 J (fun _=>J) cz) J (a1 J (I J (C (A J (dV nH J J (A J (N ?_))))))));obtain ⟨e7,fr,d6⟩:=L fm;refine jn (fun a w=>∃ t1,e7=.inl t1∧St M W H [y,p,n,t,s,K9,K5,H] ([(8,S.list (some ⟨b0,0,none⟩) c2 217 6 aN l1),(6,S.blk l0 (i .busy none)),(7,S.blk e (.deferred (some []))),(5,S.list (some ⟨b2,0,none⟩) c0 266 1 eW h0)]++gZ 265 3 bX 1000 a3 s1.2) w∧aT [] 40 a [(1,.int .i64 u.anchor),(4,.int .i64 (t1.1:Int)),(5,.int .i64 (t1.2.1:Int)),(6,.bool t1.2.2),(14,.slice (some ⟨b2,0,none⟩) h1.length c0),(15,.int .i64 (s1.2.length:Int)),(16,.int .i64 (s2.2.2.1:Int))]) ?_ ?_
         ·refine bk ?_;refine lp fr (fun s5 a w=>St M W H [y,p,n,t,s,K9,K5,H] ([(8,S.list (some ⟨b0,0,none⟩) c2 217 6 aN l1),(6,S.blk l0 (i .busy none)),(7,S.blk e (.deferred (some []))),(5,S.list (some ⟨b2,0,none⟩) c0 266 1 eW h0)]++gZ 265 3 bX 1000 a3 s1.2) w∧aT [] 40 a [(1,.int .i64 u.anchor),(4,.int .i64 (s5.1:Int)),(5,.int .i64 (s5.2.1:Int)),(6,.bool s5.2.2.2),(7,.int .i64 (s2.2.2.1:Int)),(14,.slice (some ⟨b2,0,none⟩) h1.length c0),(15,.int .i64 (s1.2.length:Int)),(16,.int .i64 (s2.2.2.1:Int)),(21,.slice e4 x6.length c9),(22,.int .i64 (x6.length:Int)),(23,.int .i64 (s5.2.2.1:Int))]) ?_ ?_
          ·exact cuE J
          rintro j s5 y4 da di a w ⟨d,g⟩;refine TG.ap ?_ d g;unfold wA at da;refine C (dU J J J (N (sq ?_)));refine ci J (fun dj=>?_) (fun dj=>?_)
          ·have fv:=aJ dj da;refine sk (sq (bk (C (A J ?_))));obtain ⟨x5,dk,d7⟩:=L fv;refine TG.addr (1000+s2.2.2.1) (gk J (gk J (gk J (gk J (rD d5 cy))))) (fO dk) fun b6 h=>?_;subst h;refine cO nH jI J J J J (aS dk) (cU AD jI J J (sE (enc:=bX) (size:=3) (1000+s2.2.2.1) (gk J (gk J (gk J (gk J (rD d5 cy))))) (fun _=>J) dk) J (al 9 (cs:=[.int .i64 0,.string (bs []),.bool false]) zeroValue265 J J fun b8=>(a1 J (eV 9 (cs:=[.int .i64 x5.paragraph.anchor,.string (bs x5.paragraph.text),.bool x5.removed]) jI J J J J J J J (N (C (aZ 0 nG J mD (aZ 0 AI J Z3 (aV G3 J ((sO 9 J).take 1) J (A J ?_))))))))));refine fE J J J (N ?_);refine ci J (fun dl=>?_) (fun dl=>?_)
           ·have fz:=aJ dl d7;refine C (A J (A J (a1 J (a1 J (I J (xt J ?_))))));obtain ⟨z0,f3,rfl⟩:=oC fz;obtain rfl:=dI.out di;cases d6;refine TG.del 9 ?_;cases f3;obtain rfl:=dI.out cq;exact cuE J
           have f6:=aX dl d7;refine sk (rg ?_);obtain ⟨f9,gc⟩:=aE f6;refine dN J J J f9 (A J (N (TG.del 9 ?_)));cases gc;intro a w d g;exact ⟨_,di,d,g.cuE J⟩
          have gi:=aX dj da;refine xt J ?_;cases gi;obtain rfl:=dI.out di;intro a w d g;exact ⟨_,J,d,g.cuE J⟩
         rintro a w ⟨t1,rfl,d,g⟩;apply TG.ap ?_ d g;refine rg ?_;obtain ⟨gn,gr⟩:=aE d6;refine dN J J J gn (A J (N ?_));cases gr;intro a w d g;exact ⟨_,cq,d,g.cuE J⟩
        have gv:=aX cx cp;refine xt J ?_;cases gv;obtain rfl:=dI.out cq;exact cuE J
       rintro a w ⟨d,g⟩;apply TG.ap ?_ d g;refine C (A J (A J (A J (a1 J (a1 J (I J (bK ?_)))))));cases fc;intro a w d g;refine MB g J J J J ?_;exact ⟨_,J,⟨J,d⟩⟩
      rintro a w v g (⟨rfl,d⟩);refine fA J g d (A J (ex J J J (ex J J J (ex J J J (a1 J (a1 J (I J (C (A J ?_)))))))));refine N ?_;obtain ⟨t6,d8,gy⟩:=L ib;refine jn (fun a w=>∃ (hB:List Hd) (ay:List fJ),St M W H [y,p,n,t,s,K9,K5,H] ([(8,S.list (some ⟨b0,0,none⟩) c2 217 6 aN l1),(6,S.blk l0 (i .busy none)),(7,S.blk e (.deferred (some []))),(5,S.list a2 c0 266 1 eW hB)]++gZ 265 3 bX 1000 ay t6) w∧aT [] 76 a []∧gM hB ay t6∧hB.length=h1.length) ?_ ?_
      ·refine cb J (fun dm=>?_) (fun dm=>?_)
       ·have g1:=aJ dm d8;obtain ⟨r1,g4,g7⟩:=L g1;obtain ⟨i3,d9⟩:=aE g7;refine eB 10 mixed (by kernel_rfl) J ?_
        let bd:List Value:=[.func (.func 271) #[] #[],.func (.func 272) #[] #[],.func (.func 273) #[] #[]]
        refine DF.und (α:=Addr) default (fun q=>.slice (some q) 3 3) (fun (q:Addr) K=>aL K q bd) (fun _ _ _ h x=>x.mono h) (by kernel_rfl) J (fun a w K d g hF=>TG.pa d g (gY aBw J J J J (fun w H hH le=>aDp hH g4) (by
          rintro v_ ey ⟨iS,rfl,bq⟩
          exact pQ (f:=fun q=>.slice (some q) 3 3) (G:=(fun (q:Addr) K=>aL K q bd)) _ (fun _ _ _ h x=>x.mono h) bq))) fun q0=>?_
        refine E J (aZ 2 fW J Z5 D) (E J (aV G5 J (((P 1 J ab).drop 2).take 1) J D) ?_);by_cases dB:u.kind=0
        ·have gT:=aJ dB d9;refine uC (.pointer (some (q0.add (0*1)))) (fun K=>aL K (q0.add (0*1)) bd) (fun _ _ h x=>x.mono h) J (fun a w K d g hF F=>TG.pa d g (cO (j:=0) OV OQ J J J (by omega) (by decide) (F ((hF.1 J).drop (0*1))))) (uC (.pointer (some (q0.add (0*1)))) (fun K=>aL K (q0.add (0*1)) bd) (fun _ _ h x=>x.mono h) J (fun a w K d g hF F=>TG.pa d g (aZ 0 OU J OP (F (hF.1 J)))) (DF.det J (fun a w K d g hF=>TG.pa d g (aV OJ J ((P 0 J (hF.1 J)).take 1) J D)) (E J (aV wX J (P 6 J ad) J D) (E J (A J D) (E J (A J D) (E J (cU mC iF J J (P 1 J ab) J D) (DF.nil fun ao hF=>?_)))))));obtain ⟨i4,i5,ea,_⟩:=hF;obtain ⟨t7,hd,hh⟩:=L gT;refine zG aB3 func271 J ntmps271 J J J J (fun v w=>(∃ (hC:List Hd) (az:List fJ),v=.tuple #[]∧St M W H [ao,y,p,n,t,s,K9,K5,H] ([(8,S.list (some ⟨b0,0,none⟩) c2 217 6 aN l1),(6,S.blk l0 (i .busy none)),(7,S.blk e (.deferred (some []))),(5,S.list a2 c0 266 1 eW hC)]++gZ 265 3 bX 1000 az t7) w∧gM hC az t7∧hC.length=h1.length)) ?_ ?_
         ·refine C (bI (cs:=an) J J J fun ja bz br=>(N (C (A J (nl J J (aZ 5 nW J nF (aV pE J ((P 4 J aa).drop 5) J (A J ?_))))))));obtain ⟨x8,hE,hl⟩:=L hd;obtain ⟨ir,iw,hM,dn⟩:=k.at hE;refine TG.addr 5 J (fO dn) fun b3 h=>?_;subst h;refine cO lI pG J J J J (Nat.lt_of_lt_of_eq (aS dn) h3) (aV rS J (sE 5 J (fun _=>J) dn) J (A J ?_));obtain ⟨x4,hN,hq⟩:=L hl;refine TG.addr (1000+R.2.1) (gk J (gk J (gk J (gk J (rD hM hE))))) (fO hN) fun b4 h=>?_;subst h;refine cO nH jI J J J J (aS hN) (I J (C (A J (nl J J (aZ 2 nG J Z4 (aV G4 J ((sE (enc:=bX) (size:=3) (1000+R.2.1) (gk J (gk J (gk J (gk J (rD hM hE))))) (fun _=>J) hN).drop 2) J (nt J J (N ?_))))))));obtain ⟨t8,ec,hy⟩:=L hq;refine jn (fun a w=>∃ (hG:List Hd) (ba:List fJ),St M W H [bz,ao,y,p,n,t,s,K9,K5,H] ([(8,S.list (some ⟨b0,0,none⟩) c2 217 6 aN l1),(6,S.blk l0 (i .busy none)),(7,S.blk e (.deferred (some []))),(5,S.list (some ⟨b3,0,none⟩) c0 266 1 eW hG)]++gZ 265 3 bX 1000 ba t8) w∧aT [] 29 a []∧gM hG ba t8∧hG.length=h1.length) ?_ ?_
          ·refine cb J (fun h5=>?_) (fun h5=>?_)
           ·replace h5:=mQ h5
            have ic:=bM h5 ec;refine rg (A J (aZ 4 fW J Z9 (aV G9 J (((P 0 J br).drop 4).take 1) J (nl J J (aZ 0 nG J mD (aZ 1 AI J Z9 (RJ (enc:=bX) (1000+R.2.1) (⟨(⟨x4.paragraph.anchor,u.text⟩:aH),x4.removed⟩:cL) (q:=⟨b4,0,none⟩) (j:=R.1) (size:=3) (cs:=[.string (bs u.text)]) (off:=1) Z9 (WH (b:=0) (c:=1) J) J (gk J (gk J (gk J (gk J (rD hM hE))))) (fun _=>J) hN J J J J J (TG.eq (zk J (zk J (zk J (zk J (MW hM))))) ?_))))))));have bj:=k.put hE (zH x8 R.1 (⟨(⟨x4.paragraph.anchor,u.text⟩:aH),x4.removed⟩:cL));refine N ?_;cases ic;intro a w d g;exact ⟨h0,a3,d,g.cut tv,bj,h3⟩
           replace h5:=mR h5
           have ii:=aJ h5 ec;refine sk ?_;cases ii;intro a w d g;exact ⟨h0,a3,d,g.cut tv,k,h3⟩
          rintro a w ⟨hG,ba,d,g,bi,fe⟩;refine TG.ap ?_ d g;cases hy;intro a w d g;refine eA g J ?_;exact ⟨_,J,⟨hG,ba,J,d.selH [1,2,3,4,5,6,7,8,9] J,bi,fe⟩⟩
         rintro a w v g (⟨hC,az,rfl,d,bh,fj⟩);refine fA J g d (N ?_);cases hh;intro a w d g;exact ⟨hC,az,d.selH [1,2,3,4,5,6,7,8] J,g.cut tv,bh,fj⟩
        have ed:=aX dB d9;by_cases ef:u.kind=1
        ·have fo:=aJ ef ed
         let dz:List Value:=[.func (.func 272) #[] #[],.func (.func 273) #[] #[]]
         refine uC (.pointer (some (q0.add (1*1)))) (fun K=>aL K (q0.add (1*1)) dz) (fun _ _ h x=>x.mono h) J (fun a w K d g hF F=>TG.pa d g (cO (j:=1) OV OQ J J J (by omega) (by decide) (F ((hF.1 J).drop (1*1))))) (uC (.pointer (some (q0.add (1*1)))) (fun K=>aL K (q0.add (1*1)) dz) (fun _ _ h x=>x.mono h) J (fun a w K d g hF F=>TG.pa d g (aZ 0 OU J OP (F (hF.1 J)))) (DF.det J (fun a w K d g hF=>TG.pa d g (aV OJ J ((P 0 J (hF.1 J)).take 1) J D)) (E J (aV wX J (P 6 J ad) J D) (E J (A J D) (E J (A J D) (E J (cU mC iF J J (P 1 J ab) J D) (DF.nil fun ca hF=>?_)))))));obtain ⟨i6,i7,ea,_⟩:=hF;obtain ⟨t9,fs,fw⟩:=L fo;refine zG aB4 func272 J ntmps272 J J J J (fun v w=>(∃ (hI:List Hd) (bb:List fJ),v=.tuple #[]∧St M W H [ca,y,p,n,t,s,K9,K5,H] ([(8,S.list (some ⟨b0,0,none⟩) c2 217 6 aN l1),(6,S.blk l0 (i .busy none)),(7,S.blk e (.deferred (some []))),(5,S.list a2 c0 266 1 eW hI)]++gZ 265 3 bX 1000 bb t9) w∧gM hI bb t9∧hI.length=h1.length)) ?_ ?_
         ·refine C (bI (cs:=an) J J J fun jb ez eu=>(N (rg (A J (nl J J (aZ 5 nW J nF (aV pE J ((P 4 J aa).drop 5) J (A J ?_))))))));obtain ⟨x9,hO,f0⟩:=L fs;obtain ⟨it,ix,dp,dq⟩:=k.at hO;refine TG.addr 5 J (fO dq) fun b9 h=>?_;subst h;refine cO lI pG J J J J (Nat.lt_of_lt_of_eq (aS dq) h3) (aV rS J (sE 5 J (fun _=>J) dq) J (A J ?_));obtain ⟨x7,dr,f4⟩:=L f0;refine TG.addr (1000+R.2.1) (gk J (gk J (gk J (gk J (rD dp hO))))) (fO dr) fun b5 h=>?_;subst h;refine cO nH jI J J J J (aS dr) (aZ 2 nG J Z4 (RJ (enc:=bX) (1000+R.2.1) (⟨x7.paragraph,true⟩:cL) (q:=⟨b5,0,none⟩) (j:=R.1) (size:=3) (cs:=[.bool true]) (off:=2) Z4 (MY (b:=2) J) J (gk J (gk J (gk J (gk J (rD dp hO))))) (fun _=>J) dr J J J J J (TG.eq (zk J (zk J (zk J (zk J (MW dp))))) ?_)));have bn:=k.put hO (zH x9 R.1 (⟨x7.paragraph,true⟩:cL));refine N ?_;cases f4;intro a w d g;refine eA g J ?_;exact ⟨_,J,⟨h0,a3,J,d.selH [1,2,3,4,5,6,7,8,9] J,bn,h3⟩⟩
         rintro a w v g (⟨hI,bb,rfl,d,bm,f7⟩);refine fA J g d (N ?_);cases fw;intro a w d g;exact ⟨hI,bb,d.selH [1,2,3,4,5,6,7,8] J,g.cut tv,bm,f7⟩
        have eg:=aX ef ed;by_cases ei:u.kind=2
        ·have ga:=aJ ei eg;refine uC (.pointer (some (q0.add (2*1)))) (fun K=>aL K (q0.add (2*1)) [.func (.func 273) #[] #[]]) (fun _ _ h x=>x.mono h) J (fun a w K d g hF F=>TG.pa d g (cO (j:=2) OV OQ J J J (by omega) (by decide) (F ((hF.1 J).drop (2*1))))) (uC (.pointer (some (q0.add (2*1)))) (fun K=>aL K (q0.add (2*1)) [.func (.func 273) #[] #[]]) (fun _ _ h x=>x.mono h) J (fun a w K d g hF F=>TG.pa d g (aZ 0 OU J OP (F (hF.1 J)))) (DF.det J (fun a w K d g hF=>TG.pa d g (aV OJ J (P 0 J (hF.1 J)) J D)) (E J (aV wX J (P 6 J ad) J D) (E J (A J D) (E J (A J D) (E J (cU mC iF J J (P 1 J ab) J D) (DF.nil fun cc hF=>?_)))))));obtain ⟨i8,i9,ea,_⟩:=hF;obtain ⟨tD,gg,gj⟩:=L ga;refine zG aB5 func273 J ntmps273 J J J J (fun v w=>(∃ (hJ:List Hd) (bc:List fJ),v=.tuple #[]∧St M W H [cc,y,p,n,t,s,K9,K5,H] ([(8,S.list (some ⟨b0,0,none⟩) c2 217 6 aN l1),(6,S.blk l0 (i .busy none)),(7,S.blk e (.deferred (some []))),(5,S.list a2 c0 266 1 eW hJ)]++gZ 265 3 bX 1000 bc tD) w∧gM hJ bc tD∧hJ.length=h1.length)) ?_ ?_
         ·refine C (bI (cs:=an) J J J fun jc e0 ak=>(N ?_));obtain ⟨x1,ej,gp⟩:=L gg;obtain ⟨iu,iy,gs,hL⟩:=k.at ej;refine TG.addr 5 J (fO hL) fun b1 h=>?_;subst h;obtain ⟨gw,gz⟩:=aE gp;refine TG.focus [(8,S.list (some ⟨b0,0,none⟩) c2 217 6 aN l1),(6,S.blk l0 (i .busy none)),(7,S.blk e (.deferred (some []))),(5,S.list (some ⟨b1,0,none⟩) c0 266 1 eW h0)] 10 (b:=1000) gs ej ?_;obtain ⟨g2,g5⟩:=aE gz;obtain ⟨g8,ha⟩:=aE g5;refine kK 22 [21] [] mixed (fun _ _ _ _ _ h=>h) (by kernel_rfl) (by kernel_rfl) (by kernel_rfl) J (by kernel_rfl) (.nil) (dA J (A J D) (dA J (nl J J D) (dA J (aZ 5 nW J nF D) (dA J (aV pE J ((P 5 J aa).drop 5) J D) (dA J (A J D) (dA J (A J D) (dA J (nl J J D) (dA J (aZ 5 nW J nF D) (dA J (aV pE J ((P 5 J aa).drop 5) J D) (dA J (A J D) (dA J (cO lI pG J J J J (Nat.lt_of_lt_of_eq (aS hL) h3) D) ?_)))))))))))
          let d0:List Value:=[.int .i64 u.new_,.string (bs u.text),.bool false]
          refine dc J (by kernel_rfl) tv J J (aV rS J (sE 5 J (fun _=>J) hL) J D) (dA J (A J D) (dA J (dN J J J gw D) (dA J (aZ 5 fW J Z3 D) (dA J (aV G3 J ((P 1 J ak).drop 5) J D) (dA J (aZ 4 fW J Z9 D) (dA J (aV G9 J (((P 1 J ak).drop 4).take 1) J D) (dA J (bu (cs:=[.int .i64 u.new_,.string (bs u.text)]) T12.B58 J J J D) (dA J (bu (cs:=d0) T12.B265 J J J D) ?_))))))))
          refine uT 1 (aG bX) 3 ([(⟨(⟨u.new_,u.text⟩:aH),false⟩:cL)]:List cL) (aG.mono _) J (bS (cs:=d0) T12.E266 J J J J fun q3 cd he bt=>by
            have ek:Sl (aG bX) 3 cd (some q3) 1 ([(⟨(⟨u.new_,u.text⟩:aH),false⟩:cL)]:List cL):=Sl.litF (fun _=>J) (fun _=>J) he bt J J J;have:=ek.len
            exact qM (aG.mono _) ek) fun iv iz=>?_
          let cg:S:=S.list (some ⟨b0,0,none⟩) c2 217 6 aN l1
          refine tS ((x1.take (((R.1:Int)+1).toNat)++[(⟨(⟨u.new_,u.text⟩:aH),false⟩:cL)]++x1.drop (((R.1:Int)+1).toNat)).length) (fun du dv=>([(10,S.list du dv 265 3 bX (x1.take (((R.1:Int)+1).toNat)++[(⟨(⟨u.new_,u.text⟩:aH),false⟩:cL)]++x1.drop (((R.1:Int)+1).toNat))),(8,cg),(6,S.blk l0 (i .busy none)),(7,S.blk e (.deferred (some []))),(5,S.list (some ⟨b1,0,none⟩) c0 266 1 eW h0)]++gZ 265 3 bX 1000 (a3.set R.2.1 (none,0)) (s1.2.set R.2.1 []))) J (fun a w K d g hF F=>TG.pa d g (YM 10 (enc:=bX) J (fun _=>J) (fun _=>J) (((R.1:Int)+1).toNat) (⟨(⟨u.new_,u.text⟩:aH),false⟩:cL) (l:=x1) ins274 aB6 J J J J J J J (hF.1 J) 0 J (by omega) g8 g2 fun a5 c4=>F _ _)) fun a5 c4=>(DC.nil fun e1 hF=>?_);obtain ⟨_,hi,_⟩:=hF;have:=hi.len;refine cO lI pG J J J J (Nat.lt_of_lt_of_eq (aS hL) h3) (RJ 5 (a5,(x1.take (((R.1:Int)+1).toNat)++[(⟨(⟨u.new_,u.text⟩:aH),false⟩:cL)]++x1.drop (((R.1:Int)+1).toNat)).length,c4) (q:=⟨b1,0,none⟩) (j:=R.2.1) (size:=1) (cs:=[(Value.slice a5 (x1.take (((R.1:Int)+1).toNat)++[(⟨(⟨u.new_,u.text⟩:aH),false⟩:cL)]++x1.drop (((R.1:Int)+1).toNat)).length c4)]) (off:=0) pG J J J (fun _=>J) hL J J J J J (TG.absorb [(10,S.list a5 c4 265 3 bX (x1.take (((R.1:Int)+1).toNat)++[(⟨(⟨u.new_,u.text⟩:aH),false⟩:cL)]++x1.drop (((R.1:Int)+1).toNat))),(8,cg),(6,S.blk l0 (i .busy none)),(7,S.blk e (.deferred (some []))),(5,S.list (some ⟨b1,0,none⟩) c0 266 1 eW (h0.set R.2.1 (a5,(x1.take (((R.1:Int)+1).toNat)++[(⟨(⟨u.new_,u.text⟩:aH),false⟩:cL)]++x1.drop (((R.1:Int)+1).toNat)).length,c4)))] (B:=[(8,cg),(6,S.blk l0 (i .busy none)),(7,S.blk e (.deferred (some []))),(5,S.list (some ⟨b1,0,none⟩) c0 266 1 eW (h0.set R.2.1 (a5,(x1.take (((R.1:Int)+1).toNat)++[(⟨(⟨u.new_,u.text⟩:aH),false⟩:cL)]++x1.drop (((R.1:Int)+1).toNat)).length,c4)))]) 10 (b:=1000) (j:=R.2.1) J J (TG.eq (by rw [List.set_set,List.set_set]) ?_)));have bp:=k.new R.2.1 (x1.take (((R.1:Int)+1).toNat)++[(⟨(⟨u.new_,u.text⟩:aH),false⟩:cL)]++x1.drop (((R.1:Int)+1).toNat)) a5 c4;have hm:(h0.set R.2.1 (a5,(x1.take (((R.1:Int)+1).toNat)++[(⟨(⟨u.new_,u.text⟩:aH),false⟩:cL)]++x1.drop (((R.1:Int)+1).toNat)).length,c4)).length=h1.length:=(zH _ _ _).trans h3;refine N ?_;cases ha;intro a w d g;refine eA g J ?_;exact ⟨_,J,⟨(h0.set R.2.1 (a5,(x1.take (((R.1:Int)+1).toNat)++[(⟨(⟨u.new_,u.text⟩:aH),false⟩:cL)]++x1.drop (((R.1:Int)+1).toNat)).length,c4)),(a3.set R.2.1 (a5,c4)),J,d.selH [2,3,4,5,6,7,8,9,10] J,bp,hm⟩⟩
         rintro a w v g (⟨hJ,bc,rfl,d,bo,ht⟩);refine fA J g d (N ?_);cases gj;intro a w d g;exact ⟨hJ,bc,d.selH [1,2,3,4,5,6,7,8] J,g.cut tv,bo,ht⟩
        have hz:=aX ei eg;cases hz
       have ie:=bM dm d8;refine sk ?_;cases ie;intro a w d g;exact ⟨h0,a3,d,g.cut tv,k,h3⟩
      rintro a w ⟨hB,ay,d,g,bg,ij⟩;refine TG.ap ?_ d g;cases gy;refine eR 6 none ac J fun w d=>?_;exact ⟨hB,ay,J,d.selH [1,2,3,4,5,6,7] J,bg,ij⟩
     rintro a w v g (⟨h9,aw,rfl,d,bf,ff⟩);refine fA J g d (cW h4 J (nt J J (pf h4 J J (N ?_))));cases ho;intro a w d g;exact ⟨h9,aw,d,g.cuE J,bf,ff⟩
    rintro a w ⟨h6,a8,d,g,ag,el⟩;refine TG.ap ?_ d g;refine cb J (fun ds=>?_) (fun ds=>?_)
    ·have fk:=aJ ds d4;refine bK ?_;cases fk;obtain rfl:=dI.out cm;refine TG.del 8 ?_;cases et;intro a w d g;refine eA g J ?_;exact ⟨_,J,⟨h6,a8,d.selH [1,2,3,4,5,6] J,ag,el⟩⟩
    have fp:=bM ds d4;refine sk (rg (dN J J J (by omega) (A J (N ?_))));cases fp;intro a w d g;exact ⟨_,cm,h6,a8,d.selH [1,2,3,4,5,6] J,g.cuE J,ag,el⟩
   have ft:=aX cn ck;refine xt J ?_;cases ft;obtain rfl:=dI.out cm;intro a w d g;exact ⟨_,J,h0,a3,d,g.cut tv,k,h3⟩
  rintro a w ⟨t2,rfl,h8,ar,d,g,be,fx⟩;apply TG.ap ?_ d g;refine TG.del 8 ?_;cases et;intro a w d g;refine eA g J ?_;exact ⟨_,J,⟨h8,ar,d,be,fx⟩⟩
 rintro l0 e i tE a w ac g (⟨h7,ce,d,af,f1⟩);refine TG.ap ?_ d g;refine WE 6 ac J (C (aV wX J (P 3 J ad) J (I J (bK (TG.stillG [(7,S.blk e (.deferred (some []))),(5,S.list a2 c0 266 1 eW h7)] (B:=[(7,S.blk e (.deferred (some [])))]) 5 (b:=1000) af J J (fun _=>J) fun e2 em=>?_)))));have:=em.len;cases gl;refine PP (RR 7 J (PQ ?_));intro a w d g;refine dQ g J J ?_;exact ⟨⟨_,_,J,(aa.mono (d.grow 1 J)),⟨am,Y,a2,c0,(by rw [show h1.length=t3.length from (f1.symm.trans af.hlen)]),(bw.mono (bV.mono) (d.grow 6 J)),(em.mono (sG.mono (aG.mono _)) (d.grow 0 J))⟩⟩,d.ext⟩

theorem aDq (n:H.le (hp W)) {cl:List Value} (g:bU) (cw:(cC) H cl g) {ax:Option Addr} {aj:Nat} {errata:List aO} (bl:Sl (aG aN) 6 H ax aj errata) (eh:Int) {r:List aH×Int} (hr:DI g errata eh=some r):Calls prog 208 #[.agg cl.toArray,.slice ax errata.length aj,.int .i64 eh] W (eU M H W (fun v K=>∃ (x:Option Addr) (h:Nat),v=.tuple #[.slice x r.1.length h,.int .i64 r.2]∧Sl (aG aY) 2 K x h r.1)):=by
 have d:=cw;obtain ⟨aa,F,rfl,ay⟩:=cw;have:=ay.len;have:=bl.len;unfold DI at hr;refine aM (M:=M) func208 J ntmps208 J n ?_;refine C (bI (cs:=[.int .i64 g.number,.int .i64 g.bound,.int .i64 g.height,.int .i64 g.width,.slice aa g.parts.length F]) J J J fun q4 q V=>(a1 J (I J (sq (C (cU mJ iQ J J (P 0 J V) J (A J ?_)))))));obtain ⟨r7,az,Y⟩:=L hr;refine bD NY J (fun w H n le=>PC n g (cC.mono _ _ _ _ (le.at 1 J) d) (bl.mono (aG.mono _) (le.at 1 J)) az) (I J (C (A J (lE J J J (N ?_)))));refine ci J (fun h2=>?_) (fun h2=>?_)
 ·have hK:=aJ h2 Y;refine C (A J (a1 J (I J (bK ?_))));cases hK;intro a w b c;refine nN c J J J ?_;exact ⟨⟨_,_,J,Sl.o⟩,b.ext⟩
 have hL:=aX h2 Y;refine sk (sq (C (A J ?_)));obtain ⟨r1,hM,hC⟩:=L hL;refine bD AB J (fun w H n le=>AJ eh hM) (nt J J (N ?_));refine cb J (fun h0=>?_) (fun h0=>?_)
 ·replace h0:=mQ h0
  have hN:=bM h0 hC;refine C (a1 J (I J (bK ?_)));cases hN;intro a w b c;refine nN c J J J ?_;exact ⟨⟨_,_,J,Sl.o⟩,b.ext⟩
 replace h0:=mR h0
 have hO:=aJ h0 hC;refine sk (C (I J (sq (C (cU mJ iQ J J (P 0 J V) J (A J (A J ?_)))))));obtain ⟨i,hP,hR⟩:=L hO;refine gY OA J J J J (fun w H n le=>PD n g (cC.mono _ _ _ _ (le.at 1 J) d) (bl.mono (aG.mono _) (le.at 1 J)) eh hP) ?_;rintro v_ e ⟨q0,c8,rfl,hT,hE⟩;have ba:=hE;obtain ⟨a9,c9,a6,c2,rfl,hV,h3⟩:=hE;have:=hV.len;have:=h3.len;refine nl J J (aZ 5 nW J nF (aV pE J ((P 0 J hT).drop 5) J (dV lI J J (A J (N (TG.nilRow 2 58 2 (TG.as 2 (z:=S.list none 0 58 2 aY ([]:List aH)) J J ?_)))))));obtain ⟨G,hW,hX⟩:=L hR;refine jn (fun a w=>∃ (a5:Option Addr) (c5:Nat),St M W H [e,q,H] [(2,S.list a5 c5 58 2 aY G)] w∧aT [] 52 a [(9,.slice a5 G.length c5)]) ?_ ?_
 ·refine bk ?_;refine lp hW (fun k a w=>∃ (t:Option Addr) (y:Nat),St M W H [e,q,H] [(2,S.list t y 58 2 aY k.2)] w∧aT [] 52 a [(9,.slice t k.2.length y),(29,.slice a6 i.parts.length c2),(30,.int .i64 (i.parts.length:Int)),(31,.int .i64 (k.1:Int))]) ?_ ?_
  ·intro a w b c;exact ⟨none,0,b,c.cuE J⟩
  rintro j k y0 h4 hF a w ⟨t,y,b,c⟩;refine TG.ap ?_ b c;unfold wE at h4;refine C (dU J J J (N (sq ?_)));refine ci J (fun h5=>?_) (fun h5=>?_)
  ·have ab:=aJ h5 h4;refine sk (sq (bk (C ?_)));obtain ⟨x1,h6,ac⟩:=L ab;obtain ⟨p0,rfl⟩:=h3.adr h6;obtain ⟨cR,bb,ad,hG⟩:=h3.at h6;have bc:=hG;obtain ⟨a7,c6,rfl,h7⟩:=hG;have:=h7.len;refine cO lI pG J J J J (aS h6) (aV rS J (P 0 J ad) J (I J (C (A J (dV nH J J (A J (N ?_)))))));obtain ⟨R,ae,af⟩:=L ac;refine jn (fun a w=>∃ (Z:Option Addr) (c3:Nat),St M W H [e,q,H] [(2,S.list Z c3 58 2 aY R)] w∧aT [] 52 a [(9,.slice Z R.length c3),(29,.slice (some p0) i.parts.length c2),(30,.int .i64 (i.parts.length:Int)),(31,.int .i64 (k.1:Int))]) ?_ ?_
   ·refine bk ?_;refine lp ae (fun m a w=>∃ (u:Option Addr) (B:Nat),St M W H [e,q,H] [(2,S.list u B 58 2 aY m.2)] w∧aT [] 52 a [(9,.slice u m.2.length B),(29,.slice (some p0) i.parts.length c2),(30,.int .i64 (i.parts.length:Int)),(31,.int .i64 (k.1:Int)),(35,.slice a7 x1.length c6),(36,.int .i64 (x1.length:Int)),(37,.int .i64 (m.1:Int))]) ?_ ?_
    ·intro a w b c;exact ⟨t,y,b,c.cuE J⟩
    rintro j m y1 h8 hI a w ⟨u,B,b,c⟩;refine TG.ap ?_ b c;unfold wD at h8;refine C (dU J J J (N (sq ?_)));refine ci J (fun h9=>?_) (fun h9=>?_)
    ·have ag:=aJ h9 h8;refine sk (sq (bk (C ?_)));obtain ⟨p,hB,ah⟩:=L ag;obtain ⟨p1,rfl⟩:=h7.adr hB;have ai:=h7.atF hB;refine cO nH jI J J J J (aS hB) (cU AD jI J J (P 0 J ai) J (va (cs:=[.int .i64 p.paragraph.anchor,.string (bs p.paragraph.text),.bool p.removed]) zeroValue265 jI J J J J J J J J fun q1 s f=>(N (C (aZ 2 nG J Z4 (aV G4 J ((P 0 J f).drop 2) J (nt J J (N ?_))))))));obtain ⟨t0,hJ,ak⟩:=L ah;refine jn (fun a w=>∃ (a4:Option Addr) (c4:Nat),St M W H [s,e,q,H] [(2,S.list a4 c4 58 2 aY t0)] w∧aT [] 52 a [(9,.slice a4 t0.length c4),(29,.slice (some p0) i.parts.length c2),(30,.int .i64 (i.parts.length:Int)),(31,.int .i64 (k.1:Int)),(35,.slice (some p1) x1.length c6),(36,.int .i64 (x1.length:Int)),(37,.int .i64 (m.1:Int))]) ?_ ?_
     ·refine cb J (fun h1=>?_) (fun h1=>?_)
      ·replace h1:=mQ h1
       have am:=bM h1 hJ;refine rg (A J (aZ 0 nG J mD (cU FQ mD J J ((P 0 J f).take 2) J ?_)));obtain ⟨an,ao⟩:=aE am;have:=eM m.2 [p.paragraph];have:=mZ p.paragraph;refine zF 2 aY (l:=m.2) p.paragraph T12.E52 J J J J J J J J J J J J an fun a8 c7 u0=>(I J ?_);cases ao;intro a w b c;exact ⟨a8,c7,b,c.cuE J⟩
      replace h1:=mR h1
      have aq:=aJ h1 hJ;refine sk ?_;cases aq;intro a w b c;exact ⟨u,B,b,c.cuE J⟩
     rintro a w ⟨a4,c4,b,c⟩;refine TG.ap ?_ b c;refine rg (dN J J J (by omega) (A J (N ?_)));cases ak;intro a w b c;exact ⟨_,hI,a4,c4,b.selH [1,2,3] J,c.cuE J⟩
    have ar:=aX h9 h8;refine xt J ?_;cases ar;obtain rfl:=dI.out hI;intro a w b c;exact ⟨u,B,b,c.cuE J⟩
   rintro a w ⟨Z,c3,b,c⟩;apply TG.ap ?_ b c;refine rg (dN J J J (by omega) (A J (N ?_)));cases af;intro a w b c;exact ⟨_,hF,Z,c3,b,c.cuE J⟩
  have aw:=aX h5 h4;refine xt J ?_;cases aw;obtain rfl:=dI.out hF;intro a w b c;exact ⟨t,y,b,c.cuE J⟩
 rintro a w ⟨a5,c5,b,c⟩;apply TG.ap ?_ b c;refine C (A J (a1 J (I J (bK ?_))));cases hX;intro a w b c;refine nN c J J J ?_;exact ⟨⟨_,_,J,(b.listOut 2 J (fun _=>J))⟩,b.ext⟩

theorem AK {M:Prop} {W w:World} {H V:Hp} {σr:aK} {n:Nat} {z:List Value} (i:aI) (bf:aU V z i) {db:List Value} (k:aO) (ed:(aG aN) V db k) {r:aI⊕Int} (hr:wF i k=some r) (b:St M W H [V] ((1,bH n 81 z)::σr) w):Calls prog 171 #[.pointer (some ⟨n,0,none⟩),.agg db.toArray] w (eX M W H V σr (qK (fun y e K A'=>∃ (dg:List Value),e=.returned (.tuple #[])∧A'=[(1,bH n 81 dg)]∧aU K dg y) (fun u=>.iface 149 (.agg #[.int .i64 u])) [(1,bH n 81 z)] r)):=by
 obtain rfl:=ed;unfold wF at hr;obtain ⟨z1,rfl,m⟩:=bf;have:=m.lens;refine cP (M:=M) func171 J ntmps171 J b ?_;refine C (bO 2 J J J fun b3=>(N (sq ?_)));obtain ⟨t1,h3,R⟩:=L hr;refine jn (fun a w=>∃ t0,t1=.inl t0∧St M W H [V] ([(2,bH b3 217 [.int .i64 k.number,.int .i64 k.day,.int .u8 k.kind,.int .i64 k.anchor,.string (bs k.text),.int .i64 k.new_]),(1,bH n 81 (cB i.state z1))]++σr) w∧aT [] 62 a [(0,.pointer (some (⟨n,0,none⟩))),(3,.pointer (some (⟨b3,0,none⟩)))]) ?_ ?_
 ·refine eB 17 mixed (by kernel_rfl) J (E J (A J D) (E J (nl J J D) (E J (aZ 0 eZ J eJ D) (E J (aZ 7 eO J Z4 D) (E J (aV G4 J (((sO 1 J).drop 7).take 1) J D) (E J (A J D) ?_))))));rcases Bool.eq_false_or_eq_true (i.state.bound) with d | d
  ·have hB:=aJ d h3;refine E J (gN J J (d) (A J D)) (E J (gN J J (d) (nl J J D)) (E J (gN J J (d) (aZ 0 eZ J eJ D)) (E J (gN J J (d) (aZ 0 eO J Z3 D)) (E J (gN J J (d) (aV G3 J ((sO 1 J).take 1) J D)) (E J (gN J J (d) (A J D)) (E J (gN J J (d) (nl J J D)) (E J (gN J J (d) (aZ 0 eZ J eJ D)) (E J (gN J J (d) (aZ 2 eO J iQ D)) (E J (gN J J (d) (aZ 1 nL J Z3 D)) (E J (gN J J (d) (aV G3 J (((sO 1 J).drop 3).take 1) J D)) (DF.nil fun ab j=>?_)))))))))));refine gN J J (d) (lW J J J (pT J J (d) J ?_));obtain ⟨r2,h4,h5⟩:=L hB;rcases r2 with y0 | y0
   ·refine bD eS J (fun w H l le=>iD (eT (decide (i.state.volume.bound < i.state.day)) 8 h4)) (N ?_);cases h5;intro a w b c;exact ⟨_,J,b.selH [1] J,c.cuE J⟩
   refine dW eS J J J (fun w H l le=>iE (eT (decide (i.state.volume.bound < i.state.day)) 8 h4)) ?_;cases h5;refine TG.del 2 ?_;cases R;intro a w b c;exact ⟨c.defers,V,[_],b.selH [1,1] J,J,J⟩
  have hC:=bM d h3;refine jC 11 J J (d) J ⟨J,J,J,J,J,J,J,J,J,J,J,tv⟩ (DF.nil fun ad j=>(gF J J (d) J (pF J J (d) J ?_)));obtain ⟨r3,h6,h7⟩:=L hC;rcases r3 with y1 | y1
  ·refine bD eS J (fun w H l le=>iD (eT false 8 h6)) (N ?_);cases h7;intro a w b c;exact ⟨_,J,b.selH [1] J,c.cuE J⟩
  refine dW eS J J J (fun w H l le=>iE (eT false 8 h6)) ?_;cases h7;refine TG.del 2 ?_;cases R;intro a w b c;exact ⟨c.defers,V,[_],b.selH [1,1] J,J,J⟩
 rintro a w ⟨t0,rfl,b,c⟩;refine TG.ap ?_ b c;refine C (A J (nl J J (aZ 0 eZ J eJ (aZ 0 eO J Z3 (aV G3 J ((sO 1 J).take 1) J (aZ 1 fW J Z3 (eV 2 (cs:=[.int .i64 i.state.day]) Z3 J J J J J J J (N (sq (eB 6 mixed (by kernel_rfl) J ?_))))))))));refine E J (A J D) (E J (nl J J D) (E J (aZ 0 eZ J eJ D) (E J (aZ 8 eO J UF D) (E J (aV QF J (((sO 1 J).drop 8).take 1) J D) (E J (cU mC iF J J (sO 2 J) J D) (DF.nil fun af j=>?_))))));obtain ⟨Z,hE,hG⟩:=L R;refine gY aBe J J J J (fun w H l le=>aDh l (m.f1.mono (aG.mono _) (le.at 1 J)) ({k with day:=i.state.day}:aO) J hE) ?_;rintro v_ ag ⟨v,B,rfl,Y⟩;have:=Y.len;refine I J (sq ?_);obtain ⟨g,hI,hJ⟩:=L hG;refine eB 16 mixed (by kernel_rfl) J (E J (A J D) (E J (nl J J D) (E J (aZ 0 eZ J eJ D) (E J (aZ 2 eO J iQ D) (E J (cU mJ iQ J J (((sO 1 J).drop 2).take 5) J D) (E J (A J D) (E J (A J D) (E J (nl J J D) (E J (aZ 0 eZ J eJ D) (E J (aZ 0 eO J Z3 D) (E J (aV G3 J ((sO 1 J).take 1) J D) ?_)))))))))))
 refine DF.und (α:=Option Addr×Nat) (none,0) (fun q=>.tuple #[.slice q.1 g.1.length q.2,.int .i64 g.2]) (fun (q:Option Addr×Nat) K=>Sl (aG aY) 2 K q.1 q.2 g.1) (fun _ _ _ h x=>x.mono (aG.mono _) h) (by kernel_rfl) J (fun a w K b c j=>TG.pa b c (gY aBf J J J J (fun w H l le=>aDq l i.state.volume ⟨_,_,J,(m.f0.mono (bV.mono) (le.at 3 J))⟩ (Y.mono (aG.mono _) (le.at 1 J)) i.state.day hI) (by
   rintro v_ ah ⟨a3,c3,rfl,hK⟩
   exact pQ (f:=fun q=>.tuple #[.slice q.1 g.1.length q.2,.int .i64 g.2]) (G:=(fun (q:Option Addr×Nat) K=>Sl (aG aY) 2 K q.1 q.2 g.1)) (a3,c3) (fun _ _ _ h x=>x.mono (aG.mono _) h) hK))) ?_
 rintro ⟨o,p⟩;refine uC (.tuple #[.slice o g.1.length p,.int .i64 g.2]) (fun K=>Sl (aG aY) 2 K o p g.1) (fun _ _ h x=>x.mono (aG.mono _) h) J (fun a w K b c j F=>TG.pa b c (A J (F (j.1 J)))) (uC (.slice o g.1.length p) (fun K=>Sl (aG aY) 2 K o p g.1) (fun _ _ h x=>x.mono (aG.mono _) h) J (fun a w K b c j F=>TG.pa b c (ex J J J (F (j.1 J)))) (E J (ex J J J D) (uC (.slice o g.1.length p) (fun K=>Sl (aG aY) 2 K o p g.1) (fun _ _ h x=>x.mono (aG.mono _) h) J (fun a w K b c j F=>TG.pa b c (a1 J (F (j.1 J)))) (DF.nil fun ai j=>?_))));obtain ⟨hN,hO,hP,hL,_⟩:=j;have:=hL.len;refine I J (C (A J ?_));obtain ⟨r4,h8,h9⟩:=L hJ
 let s:List Value:=((cB i.state z1).set 8 (.slice v Z.length B))
 rcases r4 with y2 | y2
 ·refine bD iT J (fun w H l le=>iD (iU g.2 h8)) (N (rg (A J (A J (nl J J (aZ 0 eZ J eJ (aZ 8 eO J UF (eV 1 (cs:=[.slice v Z.length B]) UF J J J J J J J (N (TG.del 2 (TG.pack (fun K=>aU K s (⟨({i.state with errata:=Z}:cY)⟩:aI)) (fun H le=>⟨{z1 with a1:=v,c1:=B},J,{m.mono (le.at 3 J) with f1:=(Y.mono (aG.mono _) (le.at 1 J))}⟩) fun t hM=>?_)))))))))));cases h9;intro a w b c;refine eA c J ?_;exact ⟨t,[(1,bH n 81 s)],b.selH [0,4] J,_,J,J,hM⟩
 refine dW iT J J J (fun w H l le=>iE (iU g.2 h8)) (TG.del 2 ?_);cases h9;intro a w b c;exact ⟨c.defers,V,[_],b.selH [3,3] J,J,J⟩

theorem aDr {M:Prop} {W w:World} {H V:Hp} {σr:aK} {f:Nat} {m:List Value} (g:aI) (bf:aU V m g) {z:Option Addr} {x:Nat} {bp:List Int} (j:Sl (aG (bT .i64)) 1 V z x bp) (text:aF) {r:aI⊕Int} (hr:DJ g bp text=some r) (b:St M W H [V] ((1,bH f 81 m)::σr) w):Calls prog 113 #[.pointer (some ⟨f,0,none⟩),.slice z bp.length x,.string (bs text)] w (eX M W H V σr (qK (fun y e K A'=>∃ (F:List Value),e=.returned (.tuple #[])∧A'=[(1,bH f 81 F)]∧aU K F y) (fun u=>.iface 149 (.agg #[.int .i64 u])) [(1,bH f 81 m)] r)):=by
 have:=j.len;unfold DJ at hr;obtain ⟨v,rfl,c⟩:=bf;have:=c.lens;refine cP (M:=M) func113 J ntmps113 J b ?_;obtain ⟨s,d,p⟩:=L hr;obtain ⟨p6,rfl⟩:=j.adr d;have o:=j.atF d;obtain ⟨q,G,h5⟩:=L p;have h6:=j.atF G;refine eB 9 mixed (by kernel_rfl) J (E J (A J D) (E J (A J D) (E J (cO eI Z3 J J J J (aS d) D) (E J (aV G3 J (P 1 J o) J D) (E J (A J D) (E J (cO eI Z3 J J J J (aS G) D) (E J (aV G3 J (P 1 J h6) J D) (E J (A J D) (E J (bu (cs:=[.int .i64 s,.int .i64 0,.int .u8 0,.int .i64 q,.string (bs text),.int .i64 0]) T12.B217 J J J D) (DF.nil fun ab hF=>?_))))))))));obtain ⟨r0,R,Y⟩:=L h5
 let h:aK:=[(1,bH f 81 (cB g.state v))]
 rcases r0 with k | k
 ·refine oU h (B:=([]++σr)) J AA J J J J (fun w V b le=>AK g ⟨v,J,{c.mono (le.at 1 J) with f0:=(c.f0.mono (bV.mono) (le.at 1 J))}⟩ (⟨s,0,0,q,text,0⟩:aO) J R b) ?_;rintro e_ ad A_ a w ⟨c0,rfl,rfl,Z⟩ b i;refine uO (fA J i b ?_);have h8:=Z;obtain ⟨t,rfl,n⟩:=Z;have:=n.lens;refine N (TG.pack (fun K=>aU K (cB k.state t) k) (fun H le=>⟨t,J,{n.mono (le.at 0 J) with f0:=(n.f0.mono (bV.mono) (le.at 0 J))}⟩) fun l h7=>?_);cases Y;intro a w b i;refine eA i J ?_;exact ⟨l,[(1,bH f 81 (cB k.state t))],b.selH [0,3] J,_,J,J,h7⟩
 refine oU h (B:=([]++σr)) J AA J J J J (fun w V b le=>AK g ⟨v,J,{c.mono (le.at 1 J) with f0:=(c.f0.mono (bV.mono) (le.at 1 J))}⟩ (⟨s,0,0,q,text,0⟩:aO) J R b) ?_;rintro e_ af A_ a w ⟨rfl,rfl⟩ b i;refine NC ?_;cases Y;exact ⟨i.defers,V,[_],b.selH [2,2] J,J,J⟩

theorem aDs {M:Prop} {W w:World} {H V:Hp} {σr:aK} {f:Nat} {m:List Value} (g:aI) (bf:aU V m g) {z:Option Addr} {x:Nat} {bp:List Int} (j:Sl (aG (bT .i64)) 1 V z x bp) (F:aF) {r:aI⊕Int} (hr:DK g bp F=some r) (b:St M W H [V] ((1,bH f 81 m)::σr) w):Calls prog 114 #[.pointer (some ⟨f,0,none⟩),.slice z bp.length x,.string (bs F)] w (eX M W H V σr (qK (fun y e K A'=>∃ (G:List Value),e=.returned (.tuple #[])∧A'=[(1,bH f 81 G)]∧aU K G y) (fun u=>.iface 149 (.agg #[.int .i64 u])) [(1,bH f 81 m)] r)):=by
 have:=j.len;unfold DK at hr;obtain ⟨v,rfl,c⟩:=bf;have:=c.lens;refine cP (M:=M) func114 J ntmps114 J b ?_;obtain ⟨s,d,p⟩:=L hr;obtain ⟨p6,rfl⟩:=j.adr d;have o:=j.atF d;obtain ⟨q,R,h5⟩:=L p;have h6:=j.atF R;refine eB 8 mixed (by kernel_rfl) J (E J (A J D) (E J (A J D) (E J (cO eI Z3 J J J J (aS d) D) (E J (aV G3 J (P 1 J o) J D) (E J (A J D) (E J (cO eI Z3 J J J J (aS R) D) (E J (aV G3 J (P 1 J h6) J D) (E J (bu (cs:=[.int .i64 s,.int .i64 0,.int .u8 1,.int .i64 q,.string (bs []),.int .i64 0]) T12.B217 J J J D) (DF.nil fun ab hF=>?_)))))))));obtain ⟨r0,Y,Z⟩:=L h5
 let h:aK:=[(1,bH f 81 (cB g.state v))]
 rcases r0 with k | k
 ·refine oU h (B:=([]++σr)) J AA J J J J (fun w V b le=>AK g ⟨v,J,{c.mono (le.at 1 J) with f0:=(c.f0.mono (bV.mono) (le.at 1 J))}⟩ (⟨s,0,1,q,[],0⟩:aO) J Y b) ?_;rintro e_ ad A_ a w ⟨c0,rfl,rfl,h4⟩ b i;refine uO (fA J i b ?_);have h8:=h4;obtain ⟨t,rfl,n⟩:=h4;have:=n.lens;refine N (TG.pack (fun K=>aU K (cB k.state t) k) (fun H le=>⟨t,J,{n.mono (le.at 0 J) with f0:=(n.f0.mono (bV.mono) (le.at 0 J))}⟩) fun l h7=>?_);cases Z;intro a w b i;refine eA i J ?_;exact ⟨l,[(1,bH f 81 (cB k.state t))],b.selH [0,3] J,_,J,J,h7⟩
 refine oU h (B:=([]++σr)) J AA J J J J (fun w V b le=>AK g ⟨v,J,{c.mono (le.at 1 J) with f0:=(c.f0.mono (bV.mono) (le.at 1 J))}⟩ (⟨s,0,1,q,[],0⟩:aO) J Y b) ?_;rintro e_ af A_ a w ⟨rfl,rfl⟩ b i;refine NC ?_;cases Z;exact ⟨i.defers,V,[_],b.selH [2,2] J,J,J⟩

theorem aDt {M:Prop} {W w:World} {H V:Hp} {σr:aK} {f:Nat} {m:List Value} (g:aI) (bf:aU V m g) {F:Option Addr} {z:Nat} {bp:List Int} (h:Sl (aG (bT .i64)) 1 V F z bp) (text:aF) {r:aI⊕Int} (hr:DL g bp text=some r) (b:St M W H [V] ((1,bH f 81 m)::σr) w):Calls prog 115 #[.pointer (some ⟨f,0,none⟩),.slice F bp.length z,.string (bs text)] w (eX M W H V σr (qK (fun y e K A'=>∃ (G:List Value),e=.returned (.tuple #[])∧A'=[(1,bH f 81 G)]∧aU K G y) (fun u=>.iface 149 (.agg #[.int .i64 u])) [(1,bH f 81 m)] r)):=by
 have:=h.len;unfold DL at hr;obtain ⟨x,rfl,c⟩:=bf;have:=c.lens;refine cP (M:=M) func115 J ntmps115 J b ?_;obtain ⟨t,d,p⟩:=L hr;obtain ⟨p6,rfl⟩:=h.adr d;have o:=h.atF d;obtain ⟨q,R,h6⟩:=L p;have h7:=h.atF R;obtain ⟨s,Y,h8⟩:=L h6;have h9:=h.atF Y;refine eB 12 mixed (by kernel_rfl) J (E J (A J D) (E J (A J D) (E J (cO eI Z3 J J J J (aS d) D) (E J (aV G3 J (P 1 J o) J D) (E J (A J D) (E J (cO eI Z3 J J J J (aS R) D) (E J (aV G3 J (P 1 J h7) J D) (E J (A J D) (E J (A J D) (E J (cO eI Z3 J J J J (aS Y) D) (E J (aV G3 J (P 1 J h9) J D) ?_)))))))))));refine E J (bu (cs:=[.int .i64 t,.int .i64 0,.int .u8 2,.int .i64 q,.string (bs text),.int .i64 s]) T12.B217 J J J D) (DF.nil fun ab hF=>?_);obtain ⟨r0,Z,h4⟩:=L h8
 let i:aK:=[(1,bH f 81 (cB g.state x))]
 rcases r0 with k | k
 ·refine oU i (B:=([]++σr)) J AA J J J J (fun w V b le=>AK g ⟨x,J,{c.mono (le.at 1 J) with f0:=(c.f0.mono (bV.mono) (le.at 1 J))}⟩ (⟨t,0,2,q,text,s⟩:aO) J Z b) ?_;rintro e_ ad A_ a w ⟨c0,rfl,rfl,h5⟩ b j;refine uO (fA J j b ?_);have hC:=h5;obtain ⟨v,rfl,n⟩:=h5;have:=n.lens;refine N (TG.pack (fun K=>aU K (cB k.state v) k) (fun H le=>⟨v,J,{n.mono (le.at 0 J) with f0:=(n.f0.mono (bV.mono) (le.at 0 J))}⟩) fun l hB=>?_);cases h4;intro a w b j;refine eA j J ?_;exact ⟨l,[(1,bH f 81 (cB k.state v))],b.selH [0,3] J,_,J,J,hB⟩
 refine oU i (B:=([]++σr)) J AA J J J J (fun w V b le=>AK g ⟨x,J,{c.mono (le.at 1 J) with f0:=(c.f0.mono (bV.mono) (le.at 1 J))}⟩ (⟨t,0,2,q,text,s⟩:aO) J Z b) ?_;rintro e_ af A_ a w ⟨rfl,rfl⟩ b j;refine NC ?_;cases h4;exact ⟨j.defers,V,[_],b.selH [2,2] J,J,J⟩

theorem UP (p:H.le (hp W)) {cl:List Value} (h:bU) (cw:(cC) H cl h) {u:Option Addr} {t:Nat} {errata:List aO} (Y:Sl (aG aN) 6 H u t errata) (anchor:Int) (n:Int) {r:aF×Bool×Int} (hr:zQ h errata anchor n=some r):Calls prog 174 #[.agg cl.toArray,.slice u errata.length t,.int .i64 anchor,.int .i64 n] W (bP M W (.tuple #[.string (bs r.1),.bool r.2.1,.int .i64 r.2.2])):=by
 have e:=cw;obtain ⟨V,x,rfl,bd⟩:=cw;have:=bd.len;have:=Y.len;unfold zQ at hr;refine aM (M:=M) func174 J ntmps174 J p ?_
 let i:List Value:=[.int .i64 h.number,.int .i64 h.bound,.int .i64 h.height,.int .i64 h.width,.slice V h.parts.length x]
 refine C (bI (cs:=i) J J J fun q4 s B=>(a1 J (a1 J (I J (sq (C (cU mJ iQ J J (P 0 J B) J (A J ?_))))))));obtain ⟨r7,be,F⟩:=L hr;refine bD NY J (fun w H p le=>PC p h (cC.mono _ _ _ _ (le.at 1 J) e) (Y.mono (aG.mono _) (le.at 1 J)) be) (I J (C (A J (lE J J J (N ?_)))));refine ci J (fun h3=>?_) (fun h3=>?_)
 ·have hW:=aJ h3 F;refine C (A J (a1 J (a1 J (I J (bK ?_)))));cases hW;exact SJ J J J J
 have hX:=aX h3 F;refine sk (sq (C (A J ?_)));obtain ⟨r1,aa,hL⟩:=L hX;refine bD AB J (fun w H p le=>AJ n aa) (nt J J (N ?_));refine cb J (fun h0=>?_) (fun h0=>?_)
 ·replace h0:=mQ h0
  have ab:=bM h0 hL;refine C (a1 J (a1 J (I J (bK ?_))));cases ab;exact SJ J J J J
 replace h0:=mR h0
 have ac:=aJ h0 hL;refine sk (C (cU mJ iQ J J (P 0 J B) J (A J (A J ?_))));obtain ⟨o,ad,ae⟩:=L ac;refine gY OA J J J J (fun w H p le=>PD p h (cC.mono _ _ _ _ (le.at 1 J) e) (Y.mono (aG.mono _) (le.at 1 J)) n ad) ?_;rintro v_ f ⟨q,c3,rfl,hM,hN⟩;have bh:=hN;obtain ⟨a3,c4,a0,R,rfl,af,z⟩:=hN;have:=af.len;have:=z.len;refine I J (C (A J (A J ?_)));obtain ⟨d,ag,hO⟩:=L ae
 let l:List Value:=[.int .i64 (d.2.1:Int),.int .i64 (d.1:Int),.bool d.2.2]
 refine zG TU func214 J ntmps214 J J J J (fun v w=>(v=.tuple l.toArray∧St M W H [f,s,H] [] w)) ?_ ?_
 ·refine C (a1 J (a1 J (I J (sc (sq (lb (sq (C ?_))))))));refine A J (nl J J (aZ 5 nW J nF (aV pE J ((P 0 J hM).drop 5) J (dV lI J J (A J (N ?_))))));obtain ⟨m,ah,ai⟩:=L ag;refine jn (fun a w=>St M W H [f,s,H] [] w∧aT [] 40 a [(4,.int .i64 (m.1:Int)),(5,.int .i64 (m.2.1:Int)),(6,.bool m.2.2)]) ?_ ?_
  ·refine bk ?_;refine lp ah (fun k a w=>St M W H [f,s,H] [] w∧aT [] 40 a [(1,.int .i64 anchor),(4,.int .i64 (k.1:Int)),(5,.int .i64 (k.2.1:Int)),(6,.bool k.2.2.2),(14,.slice a0 o.parts.length R),(15,.int .i64 (o.parts.length:Int)),(16,.int .i64 (k.2.2.1:Int))]) ?_ ?_
   ·exact cuE J
   rintro j k y0 h4 h5 a w ⟨c,b⟩;refine TG.ap ?_ c b;unfold rO at h4;refine C (dU J J J (N (sq ?_)));refine ci J (fun h6=>?_) (fun h6=>?_)
   ·have ak:=aJ h6 h4;refine sk (sq (bk (C (A J ?_))));obtain ⟨x2,h7,am⟩:=L ak;obtain ⟨p0,rfl⟩:=z.adr h7;obtain ⟨c5,bi,an,hP⟩:=z.at h7;have bj:=hP;obtain ⟨a2,c1,rfl,h8⟩:=hP;have:=h8.len;refine cO lI pG J J J J (aS h7) (aV rS J (P 0 J an) J (a1 J (I J (C (A J (dV nH J J (A J (N ?_))))))));obtain ⟨Z,ao,hR⟩:=L am;refine jn (fun a w=>∃ K,Z=.inl K∧St M W H [f,s,H] [] w∧aT [] 40 a [(1,.int .i64 anchor),(4,.int .i64 (K.1:Int)),(5,.int .i64 (K.2.1:Int)),(6,.bool K.2.2),(14,.slice (some p0) o.parts.length R),(15,.int .i64 (o.parts.length:Int)),(16,.int .i64 (k.2.2.1:Int))]) ?_ ?_
    ·refine bk ?_;refine lp ao (fun G a w=>St M W H [f,s,H] [] w∧aT [] 40 a [(1,.int .i64 anchor),(4,.int .i64 (G.1:Int)),(5,.int .i64 (G.2.1:Int)),(6,.bool G.2.2.2),(7,.int .i64 (k.2.2.1:Int)),(14,.slice (some p0) o.parts.length R),(15,.int .i64 (o.parts.length:Int)),(16,.int .i64 (k.2.2.1:Int)),(21,.slice a2 x2.length c1),(22,.int .i64 (x2.length:Int)),(23,.int .i64 (G.2.2.1:Int))]) ?_ ?_
     ·exact cuE J
     rintro j G y1 h9 hB a w ⟨c,b⟩;refine TG.ap ?_ c b;unfold wG at h9;refine C (dU J J J (N (sq ?_)));refine ci J (fun hC=>?_) (fun hC=>?_)
     ·have aq:=aJ hC h9;refine sk (sq (bk (C (A J ?_))));obtain ⟨x0,hE,hT⟩:=L aq;obtain ⟨p3,rfl⟩:=h8.adr hE;have ar:=h8.atF hE;refine cO nH jI J J J J (aS hE) (cU AD jI J J (P 0 J ar) J (al 1 (cs:=[.int .i64 0,.string (bs []),.bool false]) zeroValue265 J J fun b0=>(a1 J (eV 1 (cs:=[.int .i64 x0.paragraph.anchor,.string (bs x0.paragraph.text),.bool x0.removed]) jI J J J J J J J (N (C (aZ 0 nG J mD (aZ 0 AI J Z3 (aV G3 J ((sO 1 J).take 1) J (A J ?_))))))))));refine fE J J J (N ?_);refine ci J (fun hG=>?_) (fun hG=>?_)
      ·have aw:=aJ hG hT;refine C (A J (A J (a1 J (a1 J (I J (xt J ?_))))));obtain ⟨z0,ay,rfl⟩:=oC aw;obtain rfl:=dI.out hB;cases hR;refine TG.del 1 ?_;cases ay;obtain rfl:=dI.out h5;exact cuE J
      have az:=aX hG hT;refine sk (rg (dN J J J (by omega) (A J (N (TG.del 1 ?_)))));cases az;intro a w c b;exact ⟨_,hB,c,b.cuE J⟩
     have a5:=aX hC h9;refine xt J ?_;cases a5;obtain rfl:=dI.out hB;intro a w c b;exact ⟨_,J,c,b.cuE J⟩
    rintro a w ⟨K,rfl,c,b⟩;apply TG.ap ?_ c b;refine rg (dN J J J (by omega) (A J (N ?_)));cases hR;intro a w c b;exact ⟨_,h5,c,b.cuE J⟩
   have a6:=aX h6 h4;refine xt J ?_;cases a6;obtain rfl:=dI.out h5;exact cuE J
  rintro a w ⟨c,b⟩;apply TG.ap ?_ c b;refine C (A J (A J (A J (a1 J (a1 J (I J (bK ?_)))))));cases ai;intro a w c b;refine MB b J J J J ?_;exact ⟨_,J,⟨J,c⟩⟩
 rintro a w v b (⟨rfl,c⟩);refine fA J b c (A J (ex J J J (ex J J J (ex J J J (a1 J (a1 J (I J (sq (C ?_)))))))));refine A J (nt J J (N ?_));refine cb J (fun h1=>?_) (fun h1=>?_)
 ·replace h1:=mQ h1
  have a7:=bM h1 hO;refine C (a1 J (a1 J (I J (bK ?_))));cases a7;exact SJ J J J J
 replace h1:=mR h1
 have a8:=aJ h1 hO;refine sk (C (A J (nl J J (aZ 5 nW J nF (aV pE J ((P 0 J hM).drop 5) J (A J ?_))))));obtain ⟨x3,hI,a9⟩:=L a8;obtain ⟨p1,rfl⟩:=z.adr hI;obtain ⟨c6,bm,ba,hV⟩:=z.at hI;have bn:=hV;obtain ⟨a4,c2,rfl,hJ⟩:=hV;have:=hJ.len;refine cO lI pG J J J J (aS hI) (aV rS J (P 0 J ba) J (A J ?_));obtain ⟨x1,hK,bb⟩:=L a9;obtain ⟨p2,rfl⟩:=hJ.adr hK;have bc:=hJ.atF hK
 let y:List Value:=[.int .i64 x1.paragraph.anchor,.string (bs x1.paragraph.text),.bool x1.removed]
 refine cO nH jI J J J J (aS hK) (cU AD jI J J (P 0 J bc) J (va (cs:=y) zeroValue265 jI J J J J J J J J fun q1 bf g=>(N (sq ?_))));refine TG.cut (L':=[(0,.agg i.toArray),(1,.slice u errata.length t),(2,.int .i64 anchor),(3,.int .i64 n),(4,.pointer (some q4)),(9,.bool false),(10,.int .i64 0),(11,.int .i64 r7),(12,.pointer (some q)),(13,.int .i64 (d.2.1:Int)),(14,.int .i64 (d.1:Int)),(15,.bool d.2.2),(16,.pointer (some q1)),(17,.agg i.toArray),(18,.slice u errata.length t),(19,.int .i64 r7),(20,.int .i64 r7),(21,.bool (decide (r7≠0))),(23,.int .i64 n),(24,.bool r1),(25,.bool (!r1)),(26,.agg i.toArray),(27,.slice u errata.length t),(28,.int .i64 n),(29,.pointer (some q)),(30,.tuple l.toArray),(31,.pointer (some q)),(32,.int .i64 anchor),(33,.tuple l.toArray),(34,.int .i64 (d.2.1:Int)),(35,.int .i64 (d.1:Int)),(36,.bool d.2.2),(37,.bool d.2.2),(38,.bool (!d.2.2)),(39,.pointer (some q)),(40,.pointer (some q)),(41,.pointer (some (q.add 5))),(42,.slice (some p1) o.parts.length R),(43,.int .i64 (d.2.1:Int)),(44,.pointer (some (p1.add (d.2.1*1)))),(45,.slice (some p2) x3.length c2),(46,.int .i64 (d.1:Int)),(47,.pointer (some (p2.add (d.1*3)))),(48,.agg y.toArray)]) ⟨J,J,J,J,J,J,J,J,J,J,J,J,J,J,J,J,J,J,J,J,J,J,J,J,J,J,J,J,J,J,J,J,J,J,J,J,J,J,J,J,J,J,J,J,tv⟩ ?_;refine eB 6 mixed (by kernel_rfl) J (E J (aZ 0 nG J mD D) (E J (aZ 1 AI J Z9 D) (E J (aV G9 J (((P 1 J g).drop 1).take 1) J D) (E J (aZ 2 nG J Z4 D) (E J (aV G4 J ((P 1 J g).drop 2) J D) (E J (a1 J D) (DF.nil fun bg hF=>(a1 J (I J (bK ?_))))))))));cases bb;exact SJ J J J J

theorem aDu (hH:H.le (hp W)) {cl:List Value} (b:bU) (cw:(cC) H cl b) {ax:Option Addr} {aj:Nat} {errata:List aO} (bl:Sl (aG aN) 6 H ax aj errata) {r:List cV} (hr:DM b errata=some r):Calls prog 212 #[.agg cl.toArray,.slice ax errata.length aj] W (eU M H W (fun v K=>∃ (F:Option Addr) (q:Nat),v=.slice F r.length q∧Sl (aG eK) 6 K F q r)):=by
 have p:=cw;obtain ⟨ac,V,rfl,u⟩:=cw;have:=u.len;have:=bl.len;unfold DM at hr;refine aM (M:=M) func212 J ntmps212 J hH ?_;refine C (bI (cs:=[.int .i64 b.number,.int .i64 b.bound,.int .i64 b.height,.int .i64 b.width,.slice ac b.parts.length V]) J J J fun q4 x g=>(I J (C (cU mJ iQ J J (P 0 J g) J (A J (aZ 1 nL J Z3 (aV G3 J (((P 0 J g).drop 1).take 1) J ?_)))))));obtain ⟨r7,b5,b4⟩:=L hr;refine gY OA J J J J (fun w H hH le=>PD hH b (cC.mono _ _ _ _ (le.at 1 J) p) (bl.mono (aG.mono _) (le.at 1 J)) b.bound b5) ?_;rintro v_ n ⟨q1,c8,rfl,hN,hB⟩;have ca:=hB;obtain ⟨a9,c9,a7,c2,rfl,hO,h0⟩:=hB;have:=hO.len;have:=h0.len;refine I J (C (I J (sq (C (A J (nl J J (aZ 5 nW J nF ?_)))))));refine aV pE J ((P 0 J hN).drop 5) J (dV lI J J (A J (N (TG.nilRow 2 259 6 (TG.as 2 (z:=S.list none 0 259 6 eK ([]:List cV)) J J ?_)))));obtain ⟨Z,hP,hR⟩:=L b4;refine jn (fun a w=>∃ (a5:Option Addr) (c5:Nat),St M W H [n,x,H] [(2,S.list a5 c5 259 6 eK Z)] w∧aT [] 93 a [(4,.slice a5 Z.length c5)]) ?_ ?_
 ·refine bk ?_;refine lp hP (fun i a w=>∃ (y:Option Addr) (G:Nat),St M W H [n,x,H] [(2,S.list y G 259 6 eK i.2.2)] w∧aT [] 93 a [(2,.pointer (some q4)),(4,.slice y i.2.2.length G),(6,.int .i64 i.2.1),(22,.slice a7 r7.parts.length c2),(23,.int .i64 (r7.parts.length:Int)),(24,.int .i64 (i.1:Int))]) ?_ ?_
  ·intro a w d e;exact ⟨none,0,d,e.cuE J⟩
  rintro j i y0 h1 hC a w ⟨y,G,d,e⟩;refine TG.ap ?_ d e;unfold wI at h1;refine C (dU J J J (N (sq ?_)));refine ci J (fun h2=>?_) (fun h2=>?_)
  ·have hT:=aJ h2 h1;refine sk (sq (bk (C (A J ?_))));obtain ⟨x2,h3,hV⟩:=L hT;obtain ⟨p0,rfl⟩:=h0.adr h3;obtain ⟨cR,cc,hW,hE⟩:=h0.at h3;have cd:=hE;obtain ⟨a6,c6,rfl,h4⟩:=hE;have:=h4.len;refine cO lI pG J J J J (aS h3) (aV rS J (P 0 J hW) J (a1 J (I J (C (a1 J (I J (sq (sq ?_))))))));refine rg (A J (dV nH J J (A J (N ?_))));obtain ⟨t,hX,ad⟩:=L hV;refine jn (fun a w=>∃ (a3:Option Addr) (c3:Nat),St M W H [n,x,H] [(2,S.list a3 c3 259 6 eK t.2)] w∧aT [] 93 a [(2,.pointer (some q4)),(4,.slice a3 t.2.length c3),(6,.int .i64 i.2.1),(9,.int .i64 t.1),(22,.slice (some p0) r7.parts.length c2),(23,.int .i64 (r7.parts.length:Int)),(24,.int .i64 (i.1:Int))]) ?_ ?_
   ·refine bk ?_;refine lp hX (fun c a w=>∃ (B:Option Addr) (R:Nat),St M W H [n,x,H] [(2,S.list B R 259 6 eK c.2.2.2)] w∧aT [] 93 a [(2,.pointer (some q4)),(4,.slice B c.2.2.2.length R),(6,.int .i64 i.2.1),(7,.int .i64 (i.1:Int)),(9,.int .i64 c.2.2.1),(10,.int .i64 (c.1:Int)),(22,.slice (some p0) r7.parts.length c2),(23,.int .i64 (r7.parts.length:Int)),(24,.int .i64 (i.1:Int)),(29,.slice a6 x2.length c6),(30,.int .i64 (x2.length:Int)),(31,.int .i64 (c.2.1:Int))]) ?_ ?_
    ·intro a w d e;exact ⟨y,G,d,e.cuE J⟩
    rintro j c y1 h5 hG a w ⟨B,R,d,e⟩;refine TG.ap ?_ d e;unfold wH at h5;refine C (dU J J J (N (sq ?_)));refine ci J (fun h6=>?_) (fun h6=>?_)
    ·have af:=aJ h6 h5;refine sk (sq ?_);obtain ⟨t0,ah,ak⟩:=L af;refine jn (fun a w=>∃ (a4:Option Addr) (c4:Nat),St M W H [n,x,H] [(2,S.list a4 c4 259 6 eK t0.2.2)] w∧aT [] 93 a [(2,.pointer (some q4)),(4,.slice a4 t0.2.2.length c4),(6,.int .i64 i.2.1),(7,.int .i64 (i.1:Int)),(9,.int .i64 t0.2.1),(10,.int .i64 (t0.1:Int)),(22,.slice (some p0) r7.parts.length c2),(23,.int .i64 (r7.parts.length:Int)),(24,.int .i64 (i.1:Int)),(29,.slice a6 x2.length c6),(30,.int .i64 (x2.length:Int)),(31,.int .i64 (c.2.1:Int))]) ?_ ?_
     ·refine bk (C ?_);obtain ⟨k,h7,hI⟩:=L ah;obtain ⟨p1,rfl⟩:=h4.adr h7;have an:=h4.atF h7;refine cO nH jI J J J J (aS h7) (cU AD jI J J (P 0 J an) J (va (cs:=[.int .i64 k.paragraph.anchor,.string (bs k.paragraph.text),.bool k.removed]) zeroValue265 jI J J J J J J J J fun q2 aa f=>(N (sq (C (aZ 2 nG J Z4 (aV G4 J ((P 0 J f).drop 2) J (N ?_))))))));refine cb J (fun h8=>?_) (fun h8=>?_)
      ·have aq:=aJ h8 hI;refine xt J ?_;cases aq;intro a w d e;exact ⟨B,R,d.selH [1,2,3] J,e.cuE J⟩
      have aw:=bM h8 hI;refine sk (C (A J ?_));obtain ⟨az,bb⟩:=aE aw;refine dN J J J az (I J (C (aZ 0 nG J mD (aZ 1 AI J Z9 (aV G9 J (((P 0 J f).drop 1).take 1) J (uN U9 J J (aZ 3 nL J Z3 (aV G3 J (((P 2 J g).drop 3).take 1) J ?_))))))));obtain ⟨bd,bf⟩:=aE bb;refine dN J J J bd ?_;obtain ⟨bh,bj⟩:=aE bf;refine oD J J J bh (aZ 3 nL J Z3 (aV G3 J (((P 2 J g).drop 3).take 1) J ?_));obtain ⟨bn,bp⟩:=aE bj;refine VX J J J bn (I J (sq ?_));obtain ⟨bq,br⟩:=aE bp;obtain ⟨bt,bv⟩:=aE br;obtain ⟨hJ,bw⟩:=aE bv;have:0≤(c.2.2.1%b.height)∧(c.2.2.1%b.height) < b.height:=have h:=(hJ:0≤c.2.2.1∧0 < b.height);⟨Int.emod_nonneg _ (by omega),Int.emod_lt_of_pos _ h.2⟩;obtain ⟨bx,bz⟩:=aE bw;obtain ⟨x1,h9,b0⟩:=L bz;obtain ⟨p2,rfl⟩:=u.adr h9;obtain ⟨cS,ce,b1,hK⟩:=u.at h9;have cf:=hK;obtain ⟨b6,b8,rfl,b2⟩:=hK;have:=b2.len;refine eB 26 mixed (by kernel_rfl) J (E J (A J D) (E J (aZ 0 nG J mD D) (E J (aZ 0 AI J Z3 D) (E J (aV G3 J ((P 1 J f).take 1) J D) (E J (A J D) (E J (A J D) (E J (aZ 2 nL J Z3 D) (E J (aV G3 J (((P 3 J g).drop 2).take 1) J D) (E J (VX J J J bq D) (E J (dN J J J bt D) (E J (A J D) ?_)))))))))));refine E J (aZ 2 nL J Z3 D) (E J (aV G3 J (((P 3 J g).drop 2).take 1) J D) (E J (RH J J J hJ D) (E J (dN J J J bx D) (E J (A J D) (E J (bu (cs:=[.int .i64 k.paragraph.anchor,.int .i64 (i.2.1+(c.2.2.1/b.height)),.int .i64 ((c.2.2.1%b.height)+1),.int .i64 ((((k.paragraph.text.length:Int)+b.width) - 1)/b.width)]) T12.B257 J J J D) (E J (aZ 4 nL J AT D) (E J (aV GW J ((P 3 J g).drop 4) J D) (E J (A J D) (E J (cO yR yQ J J J J (aS h9) D) (E J (aZ 0 GY J Z3 D) (E J (aV G3 J ((P 4 J b1).take 1) J D) ?_)))))))))))
      let Y:List Value:=[.int .i64 k.paragraph.anchor,.int .i64 (i.2.1+(c.2.2.1/b.height)),.int .i64 ((c.2.2.1%b.height)+1),.int .i64 ((((k.paragraph.text.length:Int)+b.width) - 1)/b.width),.int .i64 x1.day,.int .i64 ((c.1:Int)+1)]
      refine E J (A J D) (E J (bu (cs:=Y) T12.B259 J J J D) ?_)
      refine uS 1 (aG eK) 6 ([(⟨(⟨k.paragraph.anchor,(i.2.1+(c.2.2.1/b.height)),((c.2.2.1%b.height)+1),((((k.paragraph.text.length:Int)+b.width) - 1)/b.width)⟩:pA),x1.day,((c.1:Int)+1)⟩:cV)]:List cV) (aG.mono _) J (bS (cs:=Y) T12.E254 J J J J fun q0 s b3 o=>by
        have hL:Sl (aG eK) 6 s (some q0) 1 ([(⟨(⟨k.paragraph.anchor,(i.2.1+(c.2.2.1/b.height)),((c.2.2.1%b.height)+1),((((k.paragraph.text.length:Int)+b.width) - 1)/b.width)⟩:pA),x1.day,((c.1:Int)+1)⟩:cV)]:List cV):=Sl.litF (fun _=>J) (fun _=>J) b3 o J J J;have:=hL.len
        exact qM (aG.mono _) hL) fun b7 b9=>?_
      refine DF.nil fun ab hF=>?_;obtain ⟨hM,_⟩:=hF;have:=hM.len;obtain ⟨ae,ag⟩:=aE b0;have:=eM c.2.2.2 ([(⟨(⟨k.paragraph.anchor,(i.2.1+(c.2.2.1/b.height)),((c.2.2.1%b.height)+1),((((k.paragraph.text.length:Int)+b.width) - 1)/b.width)⟩:pA),x1.day,((c.1:Int)+1)⟩:cV)]:List cV);refine pL 2 (enc:=eK) (l:=c.2.2.2) (m:=([(⟨(⟨k.paragraph.anchor,(i.2.1+(c.2.2.1/b.height)),((c.2.2.1%b.height)+1),((((k.paragraph.text.length:Int)+b.width) - 1)/b.width)⟩:pA),x1.day,((c.1:Int)+1)⟩:cV)]:List cV)) T12.E254 J J J J J J hM 0 J (fun _=>J) (fun _=>J) J ae fun a8 c7=>(I J (rg (A J (A J ?_))));obtain ⟨ai,am⟩:=aE ag;refine dN J J J ai (I J ?_);cases am;intro a w d e;exact ⟨a8,c7,d.selH [2,3,4] J,e.cuE J⟩
     rintro a w ⟨a4,c4,d,e⟩;refine TG.ap ?_ d e;refine rg (dN J J J (by omega) (A J (N ?_)));cases ak;intro a w d e;exact ⟨_,hG,a4,c4,d,e.cuE J⟩
    have ao:=aX h6 h5;refine xt J ?_;cases ao;obtain rfl:=dI.out hG;intro a w d e;exact ⟨B,R,d,e.cuE J⟩
   rintro a w ⟨a3,c3,d,e⟩;apply TG.ap ?_ d e;refine rg (A J (A J (aZ 2 nL J Z3 (aV G3 J (((P 1 J g).drop 2).take 1) J ?_))));obtain ⟨ar,ay⟩:=aE ad;refine dN J J J ar ?_;obtain ⟨ba,bc⟩:=aE ay;refine oD J J J ba (aZ 2 nL J Z3 (aV G3 J (((P 1 J g).drop 2).take 1) J ?_));obtain ⟨be,bg⟩:=aE bc;refine VX J J J be ?_;obtain ⟨bi,bm⟩:=aE bg;refine dN J J J bi (I J (rg (dN J J J (by omega) (A J (N ?_)))));cases bm;intro a w d e;exact ⟨_,hC,a3,c3,d,e.cuE J⟩
  have bo:=aX h2 h1;refine xt J ?_;cases bo;obtain rfl:=dI.out hC;intro a w d e;exact ⟨y,G,d,e.cuE J⟩
 rintro a w ⟨a5,c5,d,e⟩;apply TG.ap ?_ d e;refine C (A J (I J (bK ?_)));cases hR;intro a w d e;refine dQ e J J ?_;exact ⟨⟨_,_,J,(d.listOut 2 J (fun _=>J))⟩,d.ext⟩

end T12
