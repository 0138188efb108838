/-
 Walks of functions of a session: each call comes to what the model says. Printed by a program of ours.
-/
import Derived.Test.YteojaobgcjmgdaaGreatDoorMade
set_option linter.all false
set_option maxHeartbeats 4000000
namespace T12
open Go Go.Proofs Pk Tryz
open Pk renaming m1→A,aB→C,aC→D,dt→E,aD→I,aA→L,on→N,sS→P,aP→S,aQ→U
theorem X {D:List Deferred} {k:Nat} {M:Prop} {w0:World} {H0:Hp} {Hs:List Hp} {σ:aK} {L:cG} {N:aZ} (h:TG ⟨D,k,M,w0,H0⟩ Hs σ L N):∀ a w,St M w0 H0 Hs σ w∧aX D k a L→N a w:=fun a w z=>h a w z.1 z.2
variable {M:Prop} {W:World} {H:Hp}
theorem w35 {M:Prop} {W:World} (line:aF) (h:Int) {r:Int} (n:RB line h=some r):Calls prog 35 #[.string (bs line),.int .i64 h] W (bU M W (.int .i64 r)):=by
 unfold RB at n;refine aL (M:=M) func35 J ntmps35 J (Hp.le.refl _) ?_;refine C (I J (sq ?_));obtain ⟨f,o,p⟩:=L n;refine jn (fun a w=>St M W (hp W) [(hp W)] [] w∧aX [] 18 a [(1,.int .i64 f)]) ?_ ?_
 ·refine bk ?_;refine lp o (fun e a w=>St M W (hp W) [(hp W)] [] w∧aX [] 18 a [(0,.string (bs line)),(1,.int .i64 e)]) ?_ ?_
  ·exact cuE J
  rintro j e K i k a w ⟨d,c⟩;refine TG.ap ?_ d c;unfold DJ at i;refine sq (sq ?_);obtain ⟨t31,l,m⟩:=L i;refine jn (fun a w=>St M W (hp W) [(hp W)] [] w∧aX [] 18 a [(0,.string (bs line)),(1,.int .i64 e),(14,.bool t31)]) ?_ ?_
  ·refine rg (A J (A J (oT U9 J J (dT J J J (A J ?_)))));by_cases b:e < (line.length:Int)
   ·have q:=aH b l;refine gt b J (A J (gt b J (A J (gt b J ?_))));obtain ⟨G,s⟩:=aG q;obtain ⟨F,t,u⟩:=L s;have:=UInt8.toNat_lt F;refine OJ U9 J J J (by omega) t (gt b J (iB J J J (pt b J J (N ?_))));cases u;exact cuE J
   have v:=aU b l;refine bJ 4 J J J (decide_eq_false b) J (pf b J J (N ?_));cases v;exact cuE J
  refine X ?_;refine cb J (fun g=>?_) (fun g=>?_)
  ·have x:=aH g m;refine sk (bk (rg (A J ?_)));obtain ⟨y,z⟩:=aG x;refine dN J J J y (I J ?_);cases z;intro a w d c;exact ⟨_,k,d,c.cuE J⟩
  have B:=bM g m;refine xt J ?_;cases B;obtain rfl:=cZ.out k;exact cuE J
 rintro a w ⟨d,c⟩;apply TG.ap ?_ d c;refine C (A J (I J (bK ?_)));cases p;exact cO J J

theorem w36 {M:Prop} {W:World} (cV:aF) {r:Int×Bool} (hr:RD cV=some r):Calls prog 36 #[.string (bs cV)] W (bU M W (.tuple #[.int .i64 r.1,.bool r.2])):=by
 unfold RD at hr;refine aL (M:=M) func36 J ntmps36 J (Hp.le.refl _) ?_;refine C (a1 J (I J (sq (C (A J (N (bk (sq ?_))))))));refine rg (qL J J J (I J ?_));refine ci J (fun h=>?_) (fun h=>?_)
 ·have B:=aH h hr;refine C (a1 J (I J (bK ?_)));cases B;exact oM J J J
 have hJ:=aU h hr;refine C (qL J J J (I J ?_));refine ci J (fun i=>?_) (fun i=>?_)
 ·have K:=aH i hJ;refine C (a1 J (I J (bK ?_)));cases K;exact oM J J J
 have Y:=aU i hJ;refine sq (C (qL J J J (I J ?_)));obtain ⟨t0,hK,hL⟩:=L Y;refine jn (fun a w=>St M W (hp W) [(hp W)] [] w∧aX [] 32 a [(4,.string (bs cV)),(9,.bool t0)]) ?_ ?_
 ·refine ci J (fun j=>?_) (fun j=>?_)
  ·have aa:=aH j hK;refine sk ?_;cases aa;exact cuE J
  have ac:=aU j hK;refine C (qL J J J (I J ?_));obtain ⟨t1,hM,ae⟩:=L ac;refine jn (fun a w=>St M W (hp W) [(hp W)] [] w∧aX [] 32 a [(4,.string (bs cV)),(9,.bool t1)]) ?_ ?_
  ·refine ci J (fun k=>?_) (fun k=>?_)
   ·have ag:=aH k hM;refine sk ?_;cases ag;exact cuE J
   have ah:=aU k hM;refine C (qL J J J (I J ?_));obtain ⟨t2,hN,ai⟩:=L ah;refine jn (fun a w=>St M W (hp W) [(hp W)] [] w∧aX [] 32 a [(4,.string (bs cV)),(9,.bool t2)]) ?_ ?_
   ·refine ci J (fun l=>?_) (fun l=>?_)
    ·have aj:=aH l hN;refine sk ?_;cases aj;exact cuE J
    have ak:=aU l hN;refine rg (qL J J J (I J ?_));cases ak;exact cuE J
   rintro a w ⟨c,b⟩;refine TG.apJ ?_ c b;cases ai;exact cuE J
  rintro a w ⟨c,b⟩;refine TG.apJ ?_ c b;cases ae;exact cuE J
 refine X ?_;refine cb J (fun m=>?_) (fun m=>?_)
 ·have am:=aH m hL;refine C (a1 J (I J (bK ?_)));cases am;exact oM J J J
 have hO:=bM m hL;refine C (qL J J J (I J ?_));refine ci J (fun n=>?_) (fun n=>?_)
 ·have an:=aH n hO;refine C (a1 J (I J (bK ?_)));cases an;exact oM J J J
 have ao:=aU n hO;refine sq (C (qL J J J (I J ?_)));obtain ⟨t3,hP,hR⟩:=L ao;refine jn (fun a w=>St M W (hp W) [(hp W)] [] w∧aX [] 32 a [(4,.string (bs cV)),(16,.bool t3)]) ?_ ?_
 ·refine ci J (fun o=>?_) (fun o=>?_)
  ·have ap:=aH o hP;refine sk ?_;cases ap;exact cuE J
  have aq:=aU o hP;refine C (qL J J J (I J ?_));obtain ⟨t4,hT,ar⟩:=L aq;refine jn (fun a w=>St M W (hp W) [(hp W)] [] w∧aX [] 32 a [(4,.string (bs cV)),(16,.bool t4)]) ?_ ?_
  ·refine ci J (fun p=>?_) (fun p=>?_)
   ·have au:=aH p hT;refine sk ?_;cases au;exact cuE J
   have aw:=aU p hT;refine rg (qL J J J (I J ?_));cases aw;exact cuE J
  rintro a w ⟨c,b⟩;refine TG.apJ ?_ c b;cases ar;exact cuE J
 refine X ?_;refine cb J (fun q=>?_) (fun q=>?_)
 ·have ax:=aH q hR;refine C (a1 J (I J (bK ?_)));cases ax;exact oM J J J
 have hV:=bM q hR;refine C (qL J J J (I J ?_));refine ci J (fun t=>?_) (fun t=>?_)
 ·have ay:=aH t hV;refine C (a1 J (I J (bK ?_)));cases ay;exact oM J J J
 have az:=aU t hV;refine sq (C (qL J J J (I J ?_)));obtain ⟨t5,hW,hX⟩:=L az;refine jn (fun a w=>St M W (hp W) [(hp W)] [] w∧aX [] 32 a [(4,.string (bs cV)),(22,.bool t5)]) ?_ ?_
 ·refine ci J (fun v=>?_) (fun v=>?_)
  ·have s:=aH v hW;refine sk ?_;cases s;exact cuE J
  have u:=aU v hW;refine C (qL J J J (I J ?_));obtain ⟨t6,d,x⟩:=L u;refine jn (fun a w=>St M W (hp W) [(hp W)] [] w∧aX [] 32 a [(4,.string (bs cV)),(22,.bool t6)]) ?_ ?_
  ·refine ci J (fun z=>?_) (fun z=>?_)
   ·have y:=aH z d;refine sk ?_;cases y;exact cuE J
   have F:=aU z d;refine rg (qL J J J (I J ?_));cases F;exact cuE J
  rintro a w ⟨c,b⟩;refine TG.apJ ?_ c b;cases x;exact cuE J
 refine X ?_;refine cb J (fun G=>?_) (fun G=>?_)
 ·have R:=aH G hX;refine C (a1 J (I J (bK ?_)));cases R;exact oM J J J
 have e:=bM G hX;refine C (qL J J J (I J ?_));refine ci J (fun V=>?_) (fun V=>?_)
 ·have Z:=aH V e;refine C (a1 J (I J (bK ?_)));cases Z;exact oM J J J
 have f:=aU V e;refine C (qL J J J (I J ?_));refine ci J (fun hH=>?_) (fun hH=>?_)
 ·have ab:=aH hH f;refine C (a1 J (I J (bK ?_)));cases ab;exact oM J J J
 have g:=aU hH f;refine C (qL J J J (I J ?_));refine ci J (fun hI=>?_) (fun hI=>?_)
 ·have ad:=aH hI g;refine C (a1 J (I J (bK ?_)));cases ad;exact oM J J J
 have af:=aU hI g;refine sk (C (a1 J (I J (bK ?_))));cases af;exact oM J J J

theorem w37 {M:Prop} {W:World} (aj:aF) {r:Int×Bool} (hr:MS aj=some r):Calls prog 37 #[.string (bs aj)] W (bU M W (.tuple #[.int .i64 r.1,.bool r.2])):=by
 unfold MS at hr;refine aL (M:=M) func37 J ntmps37 J (Hp.le.refl _) ?_;refine C (a1 J (I J (sq ?_)));obtain ⟨k,l,a4⟩:=L hr;refine jn (fun a w=>St M W (hp W) [(hp W)] [] w∧aX [] 69 a [(0,.string (bs aj)),(4,.bool k)]) ?_ ?_
 ·refine rg (A J (oT U9 J J (nC J J J (A J ?_))));by_cases e:0 < (aj.length:Int)
  ·have hR:=aH e l;refine gt e J (A J (gt e J ?_));obtain ⟨x3,hT,hV⟩:=L hR;have:=UInt8.toNat_lt x3;refine OJ U9 J J J J hT (gt e J (fY J J J (pt e J J (I J ?_))));cases hV;exact cuE J
  have hW:=aU e l;refine bJ 3 J J J (decide_eq_false e) J (pf e J J (I J ?_));cases hW;exact cuE J
 refine X ?_;refine C (A J (I J (sq (C (A J (N ?_))))));obtain ⟨t21,hF,hX⟩:=L a4;refine jn (fun a w=>St M W (hp W) [(hp W)] [] w∧aX [] 69 a [(4,.bool k),(5,.string (bs t21))]) ?_ ?_
 ·refine cb J (fun o=>?_) (fun o=>?_)
  ·have t:=aH o hF;refine rg (A J ?_);obtain ⟨x,B⟩:=aG t;refine ssF 1 U9 J J J J x (I J ?_);cases B;exact cuE J
  have G:=bM o hF;refine sk ?_;cases G;exact cuE J
 refine X ?_;refine sq (sq ?_);obtain ⟨t44,hG,hH⟩:=L hX;refine jn (fun a w=>St M W (hp W) [(hp W)] [] w∧aX [] 69 a [(4,.bool k),(5,.string (bs t21)),(40,.bool t44)]) ?_ ?_
 ·refine rg (A J (oT U9 J J (fY J J J (A J ?_))));by_cases f:(t21.length:Int)=0
  ·have V:=aH f hG;refine bJ 3 J J J (decide_eq_true f) J (pt f J J (A J (bJ 4 J J J J J (gU J J J (gU J J J (gU J J J (gU J J J (gU J J J (gU J J J (gF J J J J (pT J J J J ?_)))))))))));refine N ?_;cases V;exact cuE J
  have hI:=aU f hG;refine cA f J (A J (cA f J (oT U9 J J (cA f J (nC J J J (pf f J J (A J ?_)))))));by_cases b:9 < (t21.length:Int)
  ·have Z:=aH b hI;refine bJ 4 J J J (decide_eq_true b) J (gU J J J (gU J J J (gU J J J (gU J J J (gU J J J (gU J J J (CU b J (pt b J J (N ?_)))))))));cases Z;exact cuE J
  have ab:=aU b hI;refine cA b J (A J (cA b J ?_));obtain ⟨x0,ad,hJ⟩:=L ab;have:=UInt8.toNat_lt x0;refine OJ U9 J J J J ad (cA b J (fY J J J (cA b J (A J ?_))));by_cases c:(x0.toNat:Int)=48
  ·have hK:=aH c hJ;refine gt c J (A J (gt c J (oT U9 J J (gt c J (nC J J J (gt c J (A J ?_)))))));by_cases i:1 < (t21.length:Int)
   ·have af:=aH i hK;refine CU i J (gt c J (pt i J J (cA b J (pt c J J (pf b J J (N ?_))))));cases af;exact cuE J
   have ag:=aU i hK;refine cA i J (A J (gt c J (pf i J J (cA b J (pt c J J (pf b J J (N ?_)))))));cases ag;exact cuE J
  have ah:=aU c hJ;refine bJ 4 J J J (decide_eq_false c) J (gU J J J (gf c J (cA b J (pf c J J (pf b J J (N ?_))))));cases ah;exact cuE J
 refine X ?_;refine cb J (fun p=>?_) (fun p=>?_)
 ·have ai:=aH p hH;refine C (a1 J (I J (bK ?_)));cases ai;exact oM J J J
 have ak:=bM p hH;refine sk (C (I J (sq (C (I J ?_)))));obtain ⟨n,am,hL⟩:=L ak;refine jn (fun a w=>∃ t0,n=.inl t0∧St M W (hp W) [(hp W)] [] w∧aX [] 69 a [(4,.bool k),(6,.int .i64 t0)]) ?_ ?_
 ·refine bk ?_;refine lp am (fun m a w=>St M W (hp W) [(hp W)] [] w∧aX [] 69 a [(4,.bool k),(5,.string (bs t21)),(6,.int .i64 m.2),(7,.int .i64 (m.1:Int))]) ?_ ?_
  ·exact cuE J
  rintro j m y0 q s a w ⟨h,g⟩;refine TG.ap ?_ h g;unfold yX at q;refine sq (C (A J (A J (oT U9 J J (dT J J J (N ?_))))));refine ci J (fun v=>?_) (fun v=>?_)
  ·have an:=aH v q;refine sk (sq (bk (sq (sq ?_))));obtain ⟨t1,ao,hM⟩:=L an;refine jn (fun a w=>St M W (hp W) [(hp W)] [] w∧aX [] 69 a [(4,.bool k),(5,.string (bs t21)),(6,.int .i64 m.2),(7,.int .i64 (m.1:Int)),(56,.bool t1)]) ?_ ?_
   ·refine rg (A J (A J ?_));obtain ⟨x1,hN,hO⟩:=L ao;have:=UInt8.toNat_lt x1;refine OJ U9 J J J J hN (dT J J J (A J ?_));by_cases d:(x1.toNat:Int) < 48
    ·have aq:=aH d hO;refine bJ 4 J J J (decide_eq_true d) J (pt d J J (N ?_));cases aq;exact cuE J
    have ar:=aU d hO;refine cA d J (A J (cA d J (A J (cA d J (OJ U9 J J J J hN (cA d J (nC J J J (pf d J J (N ?_)))))))));cases ar;exact cuE J
   refine X ?_;refine cb J (fun z=>?_) (fun z=>?_)
   ·have au:=aH z hM;refine C (a1 J (I J (bK ?_)));cases au;obtain rfl:=cZ.out s;cases hL;exact oM J J J
   have aw:=bM z hM;refine sk (rg (A J ?_));obtain ⟨ax,ay⟩:=aG aw;refine XV J J J ax (A J (A J ?_));obtain ⟨x2,az,a0⟩:=L ay;have:=UInt8.toNat_lt x2;refine OJ U9 J J J J az (ZM (((x2.toNat:Int) - 48)%256) J J J (OX _) (BP U5 U3 J J (pI (by omega)) ?_));obtain ⟨a2,a3⟩:=aG a0;refine dN J J J a2 (I J (rg (A J ?_)));obtain ⟨u,y⟩:=aG a3;refine dN J J J u (I J ?_);cases y;intro a w h g;exact ⟨_,s,h,g.cuE J⟩
  have F:=aU v q;refine xt J ?_;cases F;obtain rfl:=cZ.out s;intro a w h g;exact ⟨_,J,h,g.cuE J⟩
 rintro a w ⟨t0,rfl,h,g⟩;apply TG.ap ?_ h g;refine sq (C (A J (N ?_)));obtain ⟨t2,hP,K⟩:=L hL;refine jn (fun a w=>St M W (hp W) [(hp W)] [] w∧aX [] 69 a [(6,.int .i64 t2)]) ?_ ?_
 ·refine cb J (fun R=>?_) (fun R=>?_)
  ·have Y:=aH R hP;refine rg (A J ?_);obtain ⟨aa,ac⟩:=aG Y;refine ngI J J aa (I J ?_);cases ac;exact cuE J
  have ae:=bM R hP;refine sk ?_;cases ae;exact cuE J
 refine X ?_;refine C (A J (a1 J (I J (bK ?_))));cases K;exact oM J J J

theorem w16 (h:H.le (hp W)) (line:aF) {r:aF×List Int×aF×Bool} (hr:m16 line=some r):Calls prog 16 #[.string (bs line)] W (eQ M H W (fun v K=>∃ (g:Option Addr) (e:Nat),v=.tuple #[.string (bs r.1),.slice g r.2.1.length e,.string (bs r.2.2.1),.bool r.2.2.2]∧Sl (aE (bZ .i64)) 1 K g e r.2.1)):=by
 unfold m16 at hr;refine aL (M:=M) func16 J ntmps16 J h ?_;refine C (a1 J (a1 J (a1 J (I J (C (A J ?_))))));obtain ⟨p,aq,am⟩:=L hr;refine bC C35 J (fun w H h le=>w35 line 0 aq) (I J (C (A J (A J ?_))));obtain ⟨az,an⟩:=aG am;obtain ⟨ak,ao⟩:=aG an;refine ssT p.toNat U9 J J J (by omega) ak (I J (C (A J ?_)));obtain ⟨r8,ar,h9⟩:=L ao;refine bC C36 J (fun w H h le=>w36 (line.take p.toNat) ar) (A J (ex J J J (ex J J J (a1 J (I J (sq (C (A J (dT J J J ?_)))))))));refine N ?_;refine ci J (fun u=>?_) (fun u=>?_)
 ·have hI:=aH u h9;refine C (a1 J (a1 J (a1 J (I J (bK ?_)))));cases hI;intro a w b c;refine zV c J J J J J ?_;exact ⟨⟨_,_,J,Sl.o⟩,b.ext⟩
 have hJ:=aU u h9;refine sk (C (I J (sq (C (I J (TG.nilRow 2 3 1 (TG.as 2 (z:=aS.list none 0 3 1 (bZ .i64) ([]:List Int)) J J ?_)))))));obtain ⟨t,hK,m⟩:=L hJ;refine jn (fun a w=>∃ f,t=.inl f∧∃ (q:Option Addr) (s:Nat),St M W H [H] [(2,aS.list q s 3 1 (bZ .i64) f.2)] w∧aX [] 71 a [(0,.string (bs line)),(6,.int .i64 f.1),(7,.string (bs (line.take p.toNat))),(9,.bool r8.2),(10,.slice q f.2.length s)]) ?_ ?_
 ·refine bk ?_;refine lp hK (fun d a w=>∃ (i:Option Addr) (k:Nat),St M W H [H] [(2,aS.list i k 3 1 (bZ .i64) d.2.2)] w∧aX [] 71 a [(0,.string (bs line)),(6,.int .i64 d.2.1),(7,.string (bs (line.take p.toNat))),(8,.int .i64 r8.1),(9,.bool r8.2),(10,.slice i d.2.2.length k),(11,.int .i64 (d.1:Int))]) ?_ ?_
  ·intro a w b c;exact ⟨none,0,b,c.cuE J⟩
  rintro j d y0 x n a w ⟨i,k,b,c⟩;refine TG.ap ?_ b c;unfold DK at x;refine sq (C (A J (A J (dT J J J (N ?_)))));refine ci J (fun y=>?_) (fun y=>?_)
  ·have hB:=aH y x;refine sk (sq (bk (sq (C (A J (A J (oT U9 J J (fY J J J (N ?_)))))))));refine ci J (fun B=>?_) (fun B=>?_)
   ·have hL:=aH B hB;refine C (a1 J (a1 J (a1 J (I J (bK ?_)))));cases hL;obtain rfl:=cZ.out n;cases m;intro a w b c;refine zV c J J J J J ?_;exact ⟨⟨_,_,J,Sl.o⟩,b.ext⟩
   have hM:=aU B hB;refine sk (C (A J (A J ?_)));obtain ⟨hC,hN⟩:=aG hM;refine dN J J J hC ?_;obtain ⟨r2,hO,hP⟩:=L hN;refine bC C35 J (fun w H h le=>w35 line (d.2.1+1) hO) (I J (C (A J (A J (dN J J J hC (A J ?_))))));obtain ⟨aw,hR⟩:=aG hP;obtain ⟨ax,hT⟩:=aG hR;obtain ⟨hV,hW⟩:=aG hT;refine ssB ((d.2.1+1).toNat) r2.toNat U9 J J J J (by omega) (by omega) hV ?_;obtain ⟨r0,hX,hE⟩:=L hW;refine bC C37 J (fun w H h le=>w37 ((line.drop ((d.2.1+1).toNat)).take (r2.toNat - ((d.2.1+1).toNat))) hX) (A J (ex J J J (ex J J J (a1 J (I J (sq (C (A J (nt J J ?_)))))))));refine N ?_;refine cb J (fun h0=>?_) (fun h0=>?_)
   ·replace h0:=lU h0
    have G:=bM h0 hE;refine C (a1 J (a1 J (a1 J (I J (bK ?_)))));cases G;obtain rfl:=cZ.out n;cases m;intro a w b c;refine zV c J J J J J ?_;exact ⟨⟨_,_,J,Sl.o⟩,b.ext⟩
   replace h0:=lV h0
   have R:=aH h0 hE;refine sk (rg (A J (A J ?_)));obtain ⟨V,Y⟩:=aG R;have:=fA d.2.2 [r0.1];have:=mR r0.1;refine yJ 2 (bZ .i64) (l:=d.2.2) r0.1 T12.E33 J J J J J J J J J J J J V fun a3 c2 u0=>(A J (a1 J (I J (rg (A J ?_)))));obtain ⟨Z,aa⟩:=aG Y;refine dN J J J Z (I J ?_);cases aa;intro a w b c;exact ⟨_,n,a3,c2,b,c.cuE J⟩
  have ab:=aU y x;refine xt J ?_;cases ab;obtain rfl:=cZ.out n;intro a w b c;exact ⟨_,J,i,k,b,c.cuE J⟩
 rintro a w ⟨f,rfl,q,s,b,c⟩;apply TG.ap ?_ b c;refine sq (C (A J (A J (A J (oT U9 J J (dT J J J (XX U4 J J J (N ?_))))))));refine cb J (fun h1=>?_) (fun h1=>?_)
 ·replace h1:=lU h1
  have ac:=bM h1 m;refine C (a1 J (a1 J (a1 J (I J (bK ?_)))));cases ac;intro a w b c;refine zV c J J J J J ?_;exact ⟨⟨_,_,J,Sl.o⟩,b.ext⟩
 replace h1:=lV h1
 have hG:=aH h1 m;refine sk (sq (C (A J (N ?_))));refine cb J (fun F=>?_) (fun F=>?_)
 ·have ad:=aH F hG;refine sq ?_;obtain ⟨ae,af⟩:=aG ad;obtain ⟨ay,ag⟩:=aG af;obtain ⟨ah,ai⟩:=aG ag;refine dR 8 mixed (by kernel_rfl) J (E J (A J D) (E J (A J D) (E J (A J D) (E J (A J D) (E J (dN J J J ae D) (E J (ssF ((f.1+1).toNat) U9 J J J (by omega) ah D) (E J (a1 J D) (E J (a1 J D) (DF.nil fun au hF=>(a1 J (a1 J ?_)))))))))));refine N (bK ?_);cases ai;intro a w b c;refine zV c J J J J J ?_;exact ⟨⟨_,_,J,(b.listOut 2 J (fun _=>J))⟩,b.ext⟩
 have aj:=bM F hG;refine sk (C (A J (A J (a1 J (a1 J (a1 J (I J (bK ?_))))))));cases aj;intro a w b c;refine zV c J J J J J ?_;exact ⟨⟨_,_,J,(b.listOut 2 J (fun _=>J))⟩,b.ext⟩

theorem w5 (hH:H.le (hp W)) {z:Option Addr} {s:Nat} {lines:List aF} (G:Sl (aE cC) 1 H z s lines) {r:Bool} (hr:m5 lines=some r):Calls prog 5 #[.slice z lines.length s] W (bU M W (.bool r)):=by
 have:=G.len;unfold m5 at hr;refine aL (M:=M) func5 J ntmps5 J hH ?_;refine C (I J (C (a1 J (I J (sq (C ?_))))));refine I J ?_;obtain ⟨c,Y,aa⟩:=L hr;refine jn (fun a w=>St M W H [H] [] w∧aX [] 69 a [(0,.slice z lines.length s),(3,.int .i64 c.1),(4,.int .i64 c.2)]) ?_ ?_
 ·refine bk ?_;refine lp Y (fun g a w=>St M W H [H] [] w∧aX [] 69 a [(0,.slice z lines.length s),(3,.int .i64 g.2.1),(4,.int .i64 g.2.2),(5,.int .i64 (g.1:Int))]) ?_ ?_
  ·exact cuE J
  rintro j g y0 hF hJ a w ⟨y,t⟩;refine TG.ap ?_ y t;unfold PF at hF;refine sq (C (A J (A J (dK jU J J (dT J J J (N ?_))))));refine ci J (fun hG=>?_) (fun hG=>?_)
  ·have ab:=aH hG hF;refine sk (sq (bk (C (A J (A J (A J ?_))))));obtain ⟨F,B,ac⟩:=L ab;obtain ⟨p0,rfl⟩:=G.adr B;have hK:=G.atF B;refine cP jU Z9 J J J J (aV B) (U G9 J (P 0 J hK) J (oT U9 J J (ZM (IntKind.i64.wrap (g.2.1+(F.length:Int))) J J J J (I J (C (A J (A J (cP jU Z9 J J J J (aV B) (U G9 J (P 0 J hK) J ?_)))))))));obtain ⟨r0,ad,ae⟩:=L ac;refine gE C16 J J J J (fun w H hH le=>w16 hH F ad) ?_;rintro v_ h ⟨a0,c0,rfl,af⟩;have:=af.len;refine A J (ex J J J (ex J J J (ex J J J (ex J J J (a1 J (a1 J (a1 J (I J (sq ?_)))))))));obtain ⟨t0,hL,ag⟩:=L ae;refine jn (fun a w=>St M W H [h,H] [] w∧aX [] 69 a [(0,.slice (some p0) lines.length s),(3,.int .i64 (IntKind.i64.wrap (g.2.1+(F.length:Int)))),(4,.int .i64 g.2.2),(5,.int .i64 (g.1:Int)),(37,.bool t0)]) ?_ ?_
   ·refine rg (A J (A J ?_));rcases Bool.eq_false_or_eq_true (r0.2.2.2) with i | i
    ·have ah:=aH i hL;refine gN J J (i) (A J (gN J J (i) (qL J J J (pT J J (i) J (N ?_)))));cases ah;exact cuE J
    have ai:=bM i hL;refine bJ 2 J J J (i) J (pF J J (i) J (N ?_));cases ai;exact cuE J
   refine X ?_;obtain ⟨t1,hM,aj⟩:=L ag;refine jn (fun a w=>St M W H [h,H] [] w∧aX [] 69 a [(0,.slice (some p0) lines.length s),(3,.int .i64 (IntKind.i64.wrap (g.2.1+(F.length:Int)))),(4,.int .i64 t1),(5,.int .i64 (g.1:Int))]) ?_ ?_
   ·refine cb J (fun hI=>?_) (fun hI=>?_)
    ·have ak:=aH hI hM;refine rg (A J (ZM (IntKind.i64.wrap (g.2.2+1)) J J J J (I J ?_)));cases ak;exact cuE J
    have am:=bM hI hM;refine sk ?_;cases am;exact cuE J
   refine X ?_;refine rg (A J (dN J J J (by omega) (I J ?_)));cases aj;intro a w y t;exact ⟨_,hJ,y.selH [1] J,t.cuE J⟩
  have an:=aU hG hF;refine xt J ?_;cases an;obtain rfl:=cZ.out hJ;exact cuE J
 rintro a w ⟨y,t⟩;apply TG.ap ?_ y t;refine sq ?_;obtain ⟨t2,hN,ao⟩:=L aa;refine jn (fun a w=>St M W H [H] [] w∧aX [] 69 a [(2,.bool t2)]) ?_ ?_
 ·refine rg (A J (kK J J J (A J ?_)));by_cases b:c.2≤8
  ·have hO:=aH b hN;refine gt b J (A J (gt b J (dK jU J J (gt b J (kK J J J (gt b J (A J ?_)))))));by_cases k:(lines.length:Int)≤40
   ·have hP:=aH k hO;refine gt k J (A J (gt k J (kK J J J (gt b J (pt k J J (gt b J (A J ?_)))))));by_cases d:c.1≤1500
    ·have aq:=aH d hP;refine bJ 4 J J J (decide_eq_true d) J (gU J J J (gU J J J (CU d J (gt b J (pt d J J (gt b J (A J (bJ 4 J J J J J (gU J J J (gU J J J (gF J J J J ?_)))))))))));refine gt b J (pT J J J J (pt b J J (I J ?_)));cases aq;exact cuE J
    have hR:=aU d hP;refine cA d J (A J (cA d J (dK jU J J (cA d J (kK J J J (cA d J (A J ?_)))))));by_cases l:(lines.length:Int)≤62
    ·have hT:=aH l hR;refine gt l J (A J (gt l J (kK J J J (cA d J (pt l J J (gt b J (pf d J J (gt b J (A J ?_)))))))));by_cases e:c.1≤200
     ·have au:=aH e hT;refine bJ 4 J J J (decide_eq_true e) J (gU J J J (gU J J J (CU e J (gt b J (pt e J J (pt b J J (I J ?_)))))));cases au;exact cuE J
     have hV:=aU e hT;refine cA e J (A J (cA e J (dK jU J J (cA e J (fY J J J (cA e J (A J ?_)))))));by_cases m:(lines.length:Int)=1
     ·have aw:=aH m hV;refine gt m J (A J (gt m J (kK J J J (cA e J (pt m J J (gt b J (pf e J J (pt b J J (I J ?_)))))))));cases aw;exact cuE J
     have ax:=aU m hV;refine bJ 2 J J J (decide_eq_false m) J (cA e J (pf m J J (gt b J (pf e J J (pt b J J (I J ?_))))));cases ax;exact cuE J
    have hW:=aU l hR;refine bJ 2 J J J (decide_eq_false l) J (cA d J (pf l J J (gt b J (pf d J J (gt b J (A J (gN J J J (A J (gN J J J (dK jU J J (gN J J J ?_)))))))))));refine fY J J J (gN J J J (A J ?_));by_cases n:(lines.length:Int)=1
    ·have az:=aH n hW;refine gt n J (A J (gt n J (kK J J J (gN J J J (pt n J J (gt b J (pF J J J J (pt b J J (I J ?_)))))))));cases az;exact cuE J
    have a2:=aU n hW;refine bJ 2 J J J (decide_eq_false n) J (gN J J J (pf n J J (gt b J (pF J J J J (pt b J J (I J ?_))))));cases a2;exact cuE J
   have hX:=aU k hO;refine bJ 2 J J J (decide_eq_false k) J (gt b J (pf k J J (gt b J (A J (gN J J J (A J (gN J J J (dK jU J J (gN J J J (kK J J J (gN J J J ?_)))))))))));refine A J ?_;by_cases o:(lines.length:Int)≤62
   ·have u:=aH o hX;refine gt o J (A J (gt o J (kK J J J (gN J J J (pt o J J (gt b J (pF J J J J (gt b J (A J ?_)))))))));by_cases f:c.1≤200
    ·have a3:=aH f u;refine bJ 4 J J J (decide_eq_true f) J (gU J J J (gU J J J (CU f J (gt b J (pt f J J (pt b J J (I J ?_)))))));cases a3;exact cuE J
    have v:=aU f u;refine cA f J (A J (cA f J (dK jU J J (cA f J (fY J J J (cA f J (A J ?_)))))));by_cases p:(lines.length:Int)=1
    ·have a4:=aH p v;refine gt p J (A J (gt p J (kK J J J (cA f J (pt p J J (gt b J (pf f J J (pt b J J (I J ?_)))))))));cases a4;exact cuE J
    have K:=aU p v;refine bJ 2 J J J (decide_eq_false p) J (cA f J (pf p J J (gt b J (pf f J J (pt b J J (I J ?_))))));cases K;exact cuE J
   have x:=aU o hX;refine bJ 2 J J J (decide_eq_false o) J (gN J J J (pf o J J (gt b J (pF J J J J (gt b J (A J (gN J J J (A J (gN J J J (dK jU J J (gN J J J ?_)))))))))));refine fY J J J (gN J J J (A J ?_));by_cases q:(lines.length:Int)=1
   ·have R:=aH q x;refine gt q J (A J (gt q J (kK J J J (gN J J J (pt q J J (gt b J (pF J J J J (pt b J J (I J ?_)))))))));cases R;exact cuE J
   have V:=aU q x;refine bJ 2 J J J (decide_eq_false q) J (gN J J J (pf q J J (gt b J (pF J J J J (pt b J J (I J ?_))))));cases V;exact cuE J
  have Z:=aU b hN;refine bJ 4 J J J (decide_eq_false b) J (gU J J J (gU J J J (bJ 2 J J J (decide_eq_false b) J (gU J J J (gU J J J (gU J J J (gU J J J (gU J J J (gU J J J (gU J J J (bJ 2 J J J (decide_eq_false b) J ?_)))))))))));refine gU J J J (gU J J J (gU J J J (gU J J J (gU J J J (gU J J J (gU J J J (gf b J (pf b J J (I J ?_)))))))));cases Z;exact cuE J
 refine X ?_;refine bK ?_;cases ao;exact cO J J

theorem w6 (B:H.le (hp W)) {e:Option Addr} {d:Nat} {lines:List aF} (f:Sl (aE cC) 1 H e d lines) {r:Bool} (p:m6 lines=some r):Calls prog 6 #[.slice e lines.length d] W (bU M W (.bool r)):=by
 have:=f.len;unfold m6 at p;refine aL (M:=M) func6 J ntmps6 J B ?_;refine C (I J (sq (C (I J ?_))));obtain ⟨g,t,n⟩:=L p;refine jn (fun a w=>∃ s,g=.inl s∧St M W H [H] [] w∧aX [] 19 a [(0,.slice e lines.length d)]) ?_ ?_
 ·refine bk ?_;refine lp t (fun q a w=>St M W H [H] [] w∧aX [] 19 a [(0,.slice e lines.length d),(3,.int .i64 (q:Int))]) ?_ ?_
  ·exact cuE J
  rintro j q K h i a w ⟨c,b⟩;refine TG.ap ?_ c b;unfold PG at h;refine sq (C (A J (A J (dK jU J J (dT J J J (N ?_))))));refine ci J (fun k=>?_) (fun k=>?_)
  ·have u:=aH k h;refine sk (sq (bk (C (A J (A J ?_)))));obtain ⟨G,l,o⟩:=L u;obtain ⟨F,rfl⟩:=f.adr l;have v:=f.atF l;refine cP jU Z9 J J J J (aV l) (U G9 J (P 0 J v) J (oT U9 J J (nC J J J (N ?_))));refine ci J (fun m=>?_) (fun m=>?_)
   ·have x:=aH m o;refine C (I J (bK ?_));cases x;obtain rfl:=cZ.out i;cases n;exact cO J J
   have y:=aU m o;refine sk (rg (A J (dN J J J (by omega) (I J ?_))));cases y;intro a w c b;exact ⟨_,i,c,b.cuE J⟩
  have z:=aU k h;refine xt J ?_;cases z;obtain rfl:=cZ.out i;intro a w c b;exact ⟨_,J,c,b.cuE J⟩
 rintro a w ⟨s,rfl,c,b⟩;apply TG.ap ?_ c b;refine C (A J (dK jU J J (kK J J J (I J (bK ?_)))));cases n;exact cO J J

theorem w17 (k:H.le (hp W))  {r:List aF} (h:m17=some r):Calls prog 17 #[] W (eQ M H W (fun v K=>∃ (c:Option Addr) (b:Nat),v=.slice c r.length b∧Sl (aE cC) 1 K c b r)):=by
 unfold m17 at h;refine aL (M:=M) func17 J ntmps17 J k ?_;refine C (I J (C (bS (cs:=[.string (bs [104,111,117,115,101,32,53]),.string (bs [115,97,121,32,49,49,32,84,104,101,32,72,111,117,115,101,32,109,101,116,46]),.string (bs [109,111,118,101,32,116,104,105,115,32,72,111,117,115,101,32,110,111,116,101,115,32,116,104,101,32,114,101,112,111,114,116]),.string (bs [112,97,112,101,114,32,51,32,48,32,50,32,51,32,119,101,108,99,111,109,101,115]),.string (bs [97,100,111,112,116,32,51]),.string (bs [100,105,118,105,100,101,32,48,32,48,32,51,32,50]),.string (bs [116,101,108,108,32,49,32,48,32,48]),.string (bs [116,101,108,108,32,49,32,49,32,48]),.string (bs [116,101,108,108,32,49,32,48,32,49]),.string (bs [116,101,108,108,32,49,32,49,32,49]),.string (bs [116,101,108,108,32,50,32,48,32,52]),.string (bs [114,101,115,117,108,116]),.string (bs [116,101,108,108,32,50,32,49,32,52]),.string (bs [114,101,115,117,108,116]),.string (bs [111,114,100,101,114,32,49,50]),.string (bs [98,105,110,100,32,51,32,52,32,50,48]),.string (bs [104,105,100,101,32,49,49,32,50,32,49,57,57,48]),.string (bs [99,105,116,101,32,49,50,32,48])]) T12.E22 J J J J fun l i f e=>?_)));have d:Sl (aE cC) 1 i (some l) 18 ([[104,111,117,115,101,32,53],[115,97,121,32,49,49,32,84,104,101,32,72,111,117,115,101,32,109,101,116,46],[109,111,118,101,32,116,104,105,115,32,72,111,117,115,101,32,110,111,116,101,115,32,116,104,101,32,114,101,112,111,114,116],[112,97,112,101,114,32,51,32,48,32,50,32,51,32,119,101,108,99,111,109,101,115],[97,100,111,112,116,32,51],[100,105,118,105,100,101,32,48,32,48,32,51,32,50],[116,101,108,108,32,49,32,48,32,48],[116,101,108,108,32,49,32,49,32,48],[116,101,108,108,32,49,32,48,32,49],[116,101,108,108,32,49,32,49,32,49],[116,101,108,108,32,50,32,48,32,52],[114,101,115,117,108,116],[116,101,108,108,32,50,32,49,32,52],[114,101,115,117,108,116],[111,114,100,101,114,32,49,50],[98,105,110,100,32,51,32,52,32,50,48],[104,105,100,101,32,49,49,32,50,32,49,57,57,48],[99,105,116,101,32,49,50,32,48]]:List aF):=Sl.litF (fun _=>J) (fun _=>J) f e J J J;have:=d.len;refine I J (bK ?_);obtain rfl:=sj h;intro a w g j;refine dV j J J ?_;exact ⟨⟨_,_,J,(d.mono (aE.mono _) (g.grow 0 J))⟩,g.ext⟩

theorem w56 (hH:H.le (hp W)) {i:Option Addr} {h:Nat} {aj:List aF} (k:Sl (aE cC) 1 H i h aj) {q:Value} {cl:aF→Option Bool} (s:fE M prog H q (fZ Vs Value.bool cl)) {r:Int} (x:TI aj cl=some r):Calls prog 56 #[.slice i aj.length h,q] W (bU M W (.int .i64 r)):=by
 have:=k.len;have d:=s;obtain ⟨e,c,b,rfl,_,_⟩:=s;unfold TI at x;refine aL (M:=M) func56 J ntmps56 J hH ?_;refine C (I J (sq (C (A J (dK jU J J (A J (N ?_)))))));obtain ⟨e19,F,t⟩:=L x;refine jn (fun a w=>∃ B,e19=.inl B∧St M W H [H] [] w∧aX [] 19 a []) ?_ ?_
 ·refine bk ?_;refine lp F (fun z a w=>St M W H [H] [] w∧aX [] 19 a [(0,.slice i aj.length h),(1,.func (.func e) c.toArray b.toArray),(7,.int .i64 (aj.length:Int)),(8,.int .i64 (z:Int))]) ?_ ?_
  ·exact cuE J
  rintro j z y0 l m a w ⟨g,f⟩;refine TG.ap ?_ g f;unfold yY at l;refine C (dT J J J (N (sq ?_)));refine ci J (fun n=>?_) (fun n=>?_)
  ·have G:=aH n l;refine sk (sq (bk (C (A J (I J (C (A J (A J ?_))))))));refine A J ?_;obtain ⟨x0,o,K⟩:=L G;obtain ⟨p0,rfl⟩:=k.adr o;have R:=k.atF o;refine cP jU Z9 J J J J (aV o) (U G9 J (P 0 J R) J ?_);obtain ⟨y,V,u⟩:=L K;refine oU (v:=.bool y) d 0 J J J J (fun H le=>⟨_,x0,y,J,J,V,J⟩) (N ?_);refine cb J (fun p=>?_) (fun p=>?_)
   ·have Y:=aH p u;refine C (A J (I J (bK ?_)));cases Y;obtain rfl:=cZ.out m;cases t;exact cO J J
   have Z:=bM p u;refine sk (rg (dN J J J (by omega) (A J (N ?_))));cases Z;intro a w g f;exact ⟨_,m,g,f.cuE J⟩
  have hG:=aU n l;refine xt J ?_;cases hG;obtain rfl:=cZ.out m;intro a w g f;exact ⟨_,J,g,f.cut tv⟩
 rintro a w ⟨B,rfl,g,f⟩;apply TG.ap ?_ g f;refine C (I J (bK ?_));cases t;exact cO J J

theorem w38 (f:H.le (hp W)) {j:Option Addr} {i:Nat} {aj:List aF} (k:Sl (aE cC) 1 H j i aj) {l:Value} {cl:aF→Option Bool} (m:fE M prog H l (fZ Vs Value.bool cl)) {r:Bool} (n:PH aj cl=some r):Calls prog 38 #[.slice j aj.length i,l] W (bU M W (.bool r)):=by
 have:=k.len;have b:=m;obtain ⟨e,d,c,rfl,_,_⟩:=m;unfold PH at n;refine aL (M:=M) func38 J ntmps38 J f ?_;refine C (I J (C (A J (A J ?_))));obtain ⟨o,h,g⟩:=L n;refine bC C56 J (fun w H f le=>w56 f (k.mono (aE.mono _) (le.at 0 J)) (cl:=cl) (b.mono (le.at 0 J)) h) (rN J J J (I J (bK ?_)));cases g;exact cO J J

theorem w39 {M:Prop} {W:World} (aj:aF) {r:Bool} (b:MT aj=some r):Calls prog 39 #[.string (bs aj)] W (bU M W (.bool r)):=by
 unfold MT at b;refine aL (M:=M) func39 J ntmps39 J (Hp.le.refl _) ?_;refine C (I J (C (A J (oT U9 J J (nC J J J (I J (bK ?_)))))));obtain rfl:=sj b;exact cO J J

theorem w19 (g:H.le (hp W)) {j:Option Addr} {i:Nat} {lines:List aF} (k:Sl (aE cC) 1 H j i lines) {r:Int} (m:m19 lines=some r):Calls prog 19 #[.slice j lines.length i] W (bU M W (.int .i64 r)):=by
 have:=k.len;unfold m19 at m;refine aL (M:=M) func19 J ntmps19 J g ?_;refine C (I J (sq (sq ?_)));obtain ⟨B,c,l⟩:=L m;refine jn (fun a w=>St M W H [H] [] w∧aX [] 10 a [(9,.bool B)]) ?_ ?_
 ·refine rg (A J (dK jU J J (nC J J J (A J ?_))));by_cases b:60 < (lines.length:Int)
  ·have n:=aH b c;refine bJ 2 J J J (decide_eq_true b) J (pt b J J (N ?_));cases n;exact cuE J
  have o:=aU b c;refine cA b J (A J (cA b J ?_));obtain ⟨z,p,q⟩:=L o
  refine oL (v:=.bool z) C38 J J J J (fun w H g le=>by
    have s:fE M prog H (.func (.func 39) #[] #[]) (fZ Vs Value.bool (MT)):=⟨39,[],[],rfl,C39,fun Z G d Y K R x=>by obtain ⟨F,h,V,rfl,e,y,rfl⟩:=x;cases e;exact w39  h  y⟩
    exact w38 g (k.mono (aE.mono _) (le.at 0 J)) (cl:=(MT)) s p) ?_
  refine pf b J J (N ?_);cases q;exact cuE J
 refine X ?_;refine cb J (fun f=>?_) (fun f=>?_)
 ·have t:=aH f l;refine C (I J (bK ?_));cases t;exact cO J J
 have u:=bM f l;refine sk (C (I J (bK ?_)));cases u;exact cO J J

theorem GU {M:Prop} {W:World} (e:Int) (low:Int) (c:Int) {r:Bool} (i:wK e low c=some r):Calls prog 55 #[.int .i64 e,.int .i64 low,.int .i64 c] W (bU M W (.bool r)):=by
 unfold wK at i;refine aL (M:=M) func55 J ntmps55 J (Hp.le.refl _) ?_;refine C (I J (sq ?_));obtain ⟨j,d,f⟩:=L i;refine jn (fun a w=>St M W (hp W) [(hp W)] [] w∧aX [] 15 a [(6,.bool j)]) ?_ ?_
 ·refine rg (A J (A J (kK J J J (A J ?_))));by_cases b:low≤e
  ·have g:=aH b d;refine gt b J (A J (gt b J (A J (gt b J (kK J J J (pt b J J (I J ?_)))))));cases g;exact cuE J
  have h:=aU b d;refine bJ 3 J J J (decide_eq_false b) J (pf b J J (I J ?_));cases h;exact cuE J
 refine X ?_;refine bK ?_;cases f;exact cO J J

theorem eZ {M:Prop} {W:World} (h:Bool) (e:Int) {r:Unit⊕Unit} (d:jK h e=some r):Calls prog 51 #[.bool h,.int .i64 e] W (wC M W (fun r=>.tuple #[]) (.iface 126 (.agg #[.int .i64 e])) r):=by
 unfold jK at d;refine aL (M:=M) func51 J ntmps51 J (Hp.le.refl _) ?_;refine C (A J (nt J J (N ?_)));refine cb J (fun hc4=>?_) (fun hc4=>?_)
 ·replace hc4:=lU hc4
  have f:=bM hc4 d;refine rg (A J (bu (cs:=[.int .i64 e]) T12.B126 J J J (fi aDw J J J (pnc J ?_))));cases f;intro a w c b;exact ⟨b.defers,mQ c.ext⟩
 replace hc4:=lV hc4
 have g:=aH hc4 d;refine sk ?_;cases g;intro a w c b;refine dW b J ?_;exact rU J c.ext

theorem w70 {M:Prop} {W w:World} {H V:Hp} {σr:aK} {d:Nat} {l:List Value} (f:aJ) (Z:aY V l f) {q:Option Addr} {p:Nat} {bq:List Int} (m:Sl (aE (bZ .i64)) 1 V q p bq) (s:aF) {r:aJ⊕Int} (B:TJ f bq s=some r) (h:St M W H [V] ((1,bE d 67 l)::σr) w):Calls prog 70 #[.pointer (some ⟨d,0,none⟩),.slice q bq.length p,.string (bs s)] w (fD M W H V σr (rE (fun y e K R=>∃ (t:List Value),e=.returned (.tuple #[])∧R=[(1,bE d 67 t)]∧aY K t y) (fun u=>.iface 126 (.agg #[.int .i64 u])) [(1,bE d 67 l)] r)):=by
 have:=m.len;unfold TJ at B;obtain ⟨G,rfl,c⟩:=Z;have:=c.lens;refine cW (M:=M) func70 J ntmps70 J h ?_;refine sq ?_;obtain ⟨j,b,o⟩:=L B;obtain ⟨p6,rfl⟩:=m.adr b;have i:=m.atF b;refine dR 8 mixed (by kernel_rfl) J (E J (A J D) (E J (cP eO Z3 J J J J (aV b) D) (E J (U G3 J (P 1 J i) J D) (E J (A J D) (E J (nl J J D) (E J (S 0 eJ J eC D) (E J (S 0 dM J Z3 D) (E J (U G3 J ((sO 1 J).take 1) J D) (DF.nil fun Y hF=>?_)))))))));obtain ⟨F,h2,h3⟩:=L o;refine bC GK J (fun w H z le=>GU j f.state.day 99999 h2) ?_;obtain ⟨r1,v,x⟩:=L h3;rcases r1 with y0 | y0
 ·refine bC eY J (fun w H z le=>iK (eZ F 2 v)) (N (rg (A J (A J (cP eO Z3 J J J J (aV b) (U G3 J (P 1 J i) J (nl J J (S 0 eJ J eC (S 0 dM J Z3 (eP 1 (cs:=[.int .i64 j]) Z3 J J J J J J J (N ?_)))))))))))
  let g:List Value:=((cJ f.state G).set 0 (.int .i64 j))
  refine TG.pack (fun K=>aY K g (⟨({f.state with day:=j}:cU)⟩:aJ)) (fun H le=>⟨G,J,{c.mono (le.at 1 J) with f0:=(c.f0.mono (bV.mono) (le.at 1 J))}⟩) fun k h4=>?_;cases x;intro a w h n;refine dW n J ?_;exact ⟨k,[(1,bE d 67 g)],h.selH [0,2] J,_,J,J,h4⟩
 refine eE eY J J J (fun w H z le=>iL (eZ F 2 v)) ?_;cases x;intro a w h n;exact ⟨n.defers,V,[_],h.selH [1,1] J,J,J⟩

theorem aDz {M:Prop} {W w:World} {H V:Hp} {σr:aK} {h:Option Addr} {g:Nat} {aj:List eB} (i:Sl (bV) 2 V h g aj) {r:List eB} (p:DL aj=some r) (d:St M W H [V] σr w):Calls prog 103 #[.slice h aj.length g] w (fD M W H V σr (fun e K s=>∃ (ad:Option Addr) (cap:Nat) (css:List (List Value)),e=.returned (.slice ad r.length cap)∧s=[(1,aS.rows ad cap 115 2 css r)]∧Rows (bV) 2 K css r)):=by
 have:=i.len;unfold DL at p;refine cW (M:=M) func103 J ntmps103 J d ?_;refine C (I J (sq (C (A J (IX sR J J (N ?_))))));refine cb J (fun f=>?_) (fun f=>?_)
 ·obtain rfl:=Sl.isNil i f;have q:=(aG p).2;refine C (I J (bK (TG.nilRow 1 115 2 ?_)));have k:Rows (bV) 2 V [] ([]:List eB):=tv;cases q;intro a w d j;refine dV j J J ?_;exact ⟨_,[(1,aS.rows none 0 115 2 [] ([]:List eB))],d.selH [0,0] J,_,_,_,J,J,k⟩
 refine sk (C (TG.pack (fun K=>Rows (bV) 2 K [] ([]:List eB)) (fun H le=>tv) fun G n=>(ZP 1 (cs:=[]) T12.E25 J J J J fun v=>(TG.as 1 (z:=aS.rows (some ⟨v,0,none⟩) 0 115 2 [] ([]:List eB)) J J (A J ?_)))));obtain ⟨o,B⟩:=aG p;have:=fA ([]:List eB) aj;refine TG.pack (fun K=>Sl (bV) 2 K h g aj∧Rows (bV) 2 K [] ([]:List eB)) (fun H le=>⟨i.mono (bV.mono) (le.at 1 J),n.mono (bV.mono) (le.at 0 J)⟩) fun t ⟨F,b⟩=>(XZ 1 (l:=([]:List eB)) (m:=aj) T12.E25 J J J J J J F b bV.one J o fun u x y c=>(I J (bK ?_)));cases B;intro a w d j;refine dV j J J ?_;exact ⟨_,[(1,aS.rows u x 115 2 y (([]:List eB)++aj))],d.selH [0,2] J,_,_,_,J,J,c⟩

theorem aD0 {M:Prop} {W w:World} {H V:Hp} {σr:aK} {p:Option Addr} {o:Nat} {aj:List aI} (g:Sl (aE aN) 2 V p o aj) {r:List aI} (j:JP aj=some r) (c:St M W H [V] σr w):Calls prog 146 #[.slice p aj.length o] w (fD M W H V σr (fun e K q=>∃ (ad:Option Addr) (cap:Nat),e=.returned (.slice ad r.length cap)∧q=[(1,aS.list ad cap 117 2 aN r)])):=by
 have:=g.len;unfold JP at j;refine cW (M:=M) func146 J ntmps146 J c ?_;refine C (I J (sq (C (A J (IX tB J J (N ?_))))));refine cb J (fun d=>?_) (fun d=>?_)
 ·obtain rfl:=Sl.isNil g d;have k:=(aG j).2;refine C (I J (bK (TG.nilRow 1 117 2 ?_)));cases k;intro a w c h;refine dV h J J ?_;exact ⟨_,[(1,aS.list none 0 117 2 aN ([]:List aI))],c.selH [0,0] J,_,_,J,J⟩
 refine sk (C (MG 1 aN ([]:List aI) (cs:=[]) T12.E83 J J J J J J fun s=>(A J ?_)));obtain ⟨i,n⟩:=aG j;have:=fA ([]:List aI) aj;refine rO 1 (enc:=aN) (l:=([]:List aI)) (m:=aj) T12.E83 J J J J J J g 0 J (fun _=>J) (fun _=>J) J i fun f b=>(I J (bK ?_));cases n;intro a w c h;refine dV h J J ?_;exact ⟨_,[(1,aS.list f b 117 2 aN (([]:List aI)++aj))],c.selH [0,0] J,_,_,J,J⟩

theorem aD1 (hH:H.le (hp W)) {z:Option Addr} {y:Nat} {j:List aI} (B:Sl (aE aN) 2 H z y j) {G:List Value} (c:aI) (ei:(aE aN) H G c) {r:List aI} (hr:DM j c=some r):Calls prog 104 #[.slice z j.length y,.agg G.toArray] W (eQ M H W (fun v K=>∃ (e:Option Addr) (b:Nat),v=.slice e r.length b∧Sl (aE aN) 2 K e b r)):=by
 have:=B.len;obtain rfl:=ei;unfold DM at hr;refine aL (M:=M) func104 J ntmps104 J hH ?_
 let g:List Value:=[.int .i64 c.anchor,.string (bs c.text)]
 refine C (bI (cs:=g) J J J fun q1 K2 q=>(I J (sq ?_)));obtain ⟨k,t,s⟩:=L hr;refine kV 4 [1] [] mixed (fun _ _ _ _ _ h=>h) (by kernel_rfl) (by kernel_rfl) (by kernel_rfl) J (by kernel_rfl) (.nil) (dA J (A J D) (tS k.length (fun u x=>[(1,aS.list u x 117 2 aN k)]) J (fun a w K d p Z F=>TG.pa d p (yV 1 aA1 J J J J (fun w V σr d le=>aD0 (aj:=j) (B.mono (aE.mono _) (le.at 2 J)) t d) fun o f=>F _ _)) fun o f=>(dA J (cL nU fU J J (P 1 J q) J D) ?_)))
 refine uT 1 (aE aN) 2 ([c]:List aI) (aE.mono _) J (bS (cs:=g) T12.E83 J J J J fun q9 n h2 i=>by
   have R:Sl (aE aN) 2 n (some q9) 1 ([c]:List aI):=Sl.litF (fun _=>J) (fun _=>J) h2 i J J J;have:=R.len
   exact oW (aE.mono _) R) fun a0 c0=>?_
 refine DC.nil fun aa Z=>?_;obtain ⟨Y,_,_⟩:=Z;have:=Y.len;obtain ⟨h3,h4⟩:=aG s;have:=fA k ([c]:List aI);refine rO 1 (enc:=aN) (l:=k) (m:=([c]:List aI)) T12.E83 J J J J J J Y 0 J (fun _=>J) (fun _=>J) J h3 fun a2 c1=>(I J (bK ?_));cases h4;intro a w d p;refine dV p J J ?_;exact ⟨⟨_,_,J,(d.listOut 1 J (fun _=>J))⟩,d.ext⟩

theorem w67 {M:Prop} {W w:World} {H V:Hp} {σr:aK} {e:Nat} {f:List Value} (c:aJ) (n:aY V f c) {h:Option Addr} {g:Nat} {parts:List eB} (k:Sl (bV) 2 V h g parts) {r:bN} (l:TK c parts=some r) (d:St M W H [V] ((1,bE e 67 f)::σr) w):Calls prog 67 #[.pointer (some ⟨e,0,none⟩),.slice h parts.length g] w (OU M W H V ((1,bE e 67 f)::σr) (fun v K=>∃ dv:List Value,v=.agg dv.toArray∧bQ K dv r)):=by
 have:=k.len;unfold TK at l;obtain ⟨q,rfl,j⟩:=n;have:=j.lens;refine cW (M:=M) func67 J ntmps67 J d ?_;refine C (al 2 (cs:=[.int .i64 0,.int .i64 0,.int .i64 0,.int .i64 0,.slice none 0 0]) zeroValue27 J J fun p=>(N (C (A J (nl J J (S 0 eJ J eC (S 0 dM J Z3 (U G3 J ((sO 1 J).take 1) J (A J ?_)))))))))
 let b:List Value:=[.int .i64 1,.int .i64 c.state.day,.int .i64 1,.int .i64 10,.slice h parts.length g]
 refine bu (cs:=b) T12.B27 J J J (eP 2 (cs:=b) iC J J J J J J J (N (bK (TG.pack (fun K=>bQ K b (⟨1,c.state.day,1,10,parts⟩:bN)) (fun H le=>⟨_,_,J,(k.mono (bV.mono) (le.at 0 J))⟩) fun m i=>?_))));obtain rfl:=sj l;intro a w d o;refine vK o J (cY.cell J (gI lM iC (dD (d.get (t:=2) J)) J)) ?_;exact ⟨_,m,J,(d.selH [0,1] J).del 2,_,J,i⟩

theorem aD2 (q:H.le (hp W)) {l:Addr} {j:List Value} (e:aJ) (o:aM H l j) (k:(aY) H j e) {g:Option Addr} {f:Nat} {parts:List eB} (m:Sl (bV) 2 H g f parts) {r:bN} (n:JQ e parts=some r):Calls prog 67 #[.pointer (some l),.slice g parts.length f] W (eQ M H W (fun v K=>∃ (c:List Value),v=.agg c.toArray∧(bQ) K c r)):=by
 have d:=k;obtain ⟨u,rfl,i⟩:=k;have:=i.lens;have:=m.len;unfold JQ at n;refine aL (M:=M) func67 J ntmps67 J q ?_;refine C (al 1 (cs:=[.int .i64 0,.int .i64 0,.int .i64 0,.int .i64 0,.slice none 0 0]) zeroValue27 J J fun s=>(N (C (A J (nl J J (S 0 eJ J eC (S 0 dM J Z3 (U G3 J ((P 0 J o).take 1) J (A J ?_)))))))))
 let b:List Value:=[.int .i64 1,.int .i64 e.state.day,.int .i64 1,.int .i64 10,.slice g parts.length f]
 refine bu (cs:=b) T12.B27 J J J (eP 1 (cs:=b) iC J J J J J J J (N (bK ?_)));obtain rfl:=sj n;intro a w h p;refine vK p J (cY.cell J (gI lM iC (dD (h.get (t:=1) J)) J)) ?_;exact ⟨⟨_,J,⟨_,_,J,(m.mono (bV.mono) (h.grow 0 J))⟩⟩,h.ext⟩

theorem YV (hH:H.le (hp W)) {Y:List Value} (d:bN) (Z:(bQ) H Y d) {r:List aI} (hr:MU d=some r):Calls prog 63 #[.agg Y.toArray] W (eQ M H W (fun v K=>∃ (k:Option Addr) (e:Nat),v=.slice k r.length e∧Sl (aE aN) 2 K k e r)):=by
 have s:=Z;obtain ⟨n,f,rfl,h⟩:=Z;have:=h.len;unfold MU at hr;refine aL (M:=M) func63 J ntmps63 J hH ?_;refine C (bI (cs:=[.int .i64 d.number,.int .i64 d.bound,.int .i64 d.height,.int .i64 d.width,.slice n d.parts.length f]) J J J fun q4 V G=>(I J (sq (C (S 4 jV J vD (U xS J ((P 0 J G).drop 4) J (dK sR J J (A J ?_))))))));refine N (TG.nilRow 2 117 2 (TG.as 2 (z:=aS.list none 0 117 2 aN ([]:List aI)) J J ?_));obtain ⟨o,h6,h7⟩:=L hr;refine jn (fun a w=>∃ (u:Option Addr) (x:Nat),St M W H [V,H] [(2,aS.list u x 117 2 aN o)] w∧aX [] 18 a [(2,.slice u o.length x)]) ?_ ?_
 ·refine bk ?_;refine lp h6 (fun i a w=>∃ (p:Option Addr) (q:Nat),St M W H [V,H] [(2,aS.list p q 117 2 aN i.2)] w∧aX [] 18 a [(2,.slice p i.2.length q),(6,.slice n d.parts.length f),(7,.int .i64 (d.parts.length:Int)),(8,.int .i64 (i.1:Int))]) ?_ ?_
  ·intro a w b c;exact ⟨none,0,b,c.cuE J⟩
  rintro j i y0 y h3 a w ⟨p,q,b,c⟩;refine TG.ap ?_ b c;unfold yZ at y;refine C (dT J J J (N (sq ?_)));refine ci J (fun B=>?_) (fun B=>?_)
  ·have h8:=aH B y;refine sk (sq (bk (C ?_)));obtain ⟨t,F,h9⟩:=L h8;obtain ⟨p0,rfl⟩:=h.adr F;obtain ⟨c4,hG,hB,h4⟩:=h.at F;have hI:=h4;obtain ⟨a3,c2,rfl,h5⟩:=h4;have:=h5.len;refine cP sR jQ J J J J (aV F) (cL GL jQ J J (P 1 J hB) J (va (cs:=[.int .i64 t.day,.slice a3 t.paragraphs.length c2]) zeroValue115 jQ J J J J J J J J fun q0 R g=>(N (rg (A J (S 1 kX J HZ (U NE J ((P 0 J g).drop 1) J ?_)))))));obtain ⟨hC,hE⟩:=aG h9;have:=fA i.2 t.paragraphs;refine rO 2 (enc:=aN) (l:=i.2) (m:=t.paragraphs) T12.E83 J J J J J J h5 2 J (fun _=>J) (fun _=>J) J hC fun a4 c3=>(I J (rg (dN J J J (by omega) (A J (N ?_)))));cases hE;intro a w b c;exact ⟨_,h3,a4,c3,b.selH [1,2] J,c.cuE J⟩
  have hF:=aU B y;refine xt J ?_;cases hF;obtain rfl:=cZ.out h3;intro a w b c;exact ⟨p,q,b,c.cuE J⟩
 rintro a w ⟨u,x,b,c⟩;apply TG.ap ?_ b c;refine C (A J (I J (bK ?_)));cases h7;intro a w b c;refine dV c J J ?_;exact ⟨⟨_,_,J,(b.listOut 2 J (fun _=>J))⟩,b.ext⟩

theorem QN {M:Prop} {W:World} (e:Int) (low:Int) (c:Int) {r:Bool} (i:DN e low c=some r):Calls prog 96 #[.int .i64 e,.int .i64 low,.int .i64 c] W (bU M W (.bool r)):=by
 unfold DN at i;refine aL (M:=M) func96 J ntmps96 J (Hp.le.refl _) ?_;refine C (I J (sq ?_));obtain ⟨j,d,f⟩:=L i;refine jn (fun a w=>St M W (hp W) [(hp W)] [] w∧aX [] 15 a [(6,.bool j)]) ?_ ?_
 ·refine rg (A J (A J (kK J J J (A J ?_))));by_cases b:low≤e
  ·have g:=aH b d;refine gt b J (A J (gt b J (A J (gt b J (kK J J J (pt b J J (I J ?_)))))));cases g;exact cuE J
  have h:=aU b d;refine bJ 3 J J J (decide_eq_false b) J (pf b J J (I J ?_));cases h;exact cuE J
 refine X ?_;refine bK ?_;cases f;exact cO J J

theorem RK {M:Prop} {W:World} (b:Int) {r:Bool} (e:HX b=some r):Calls prog 66 #[.int .i64 b] W (bU M W (.bool r)):=by
 unfold HX at e;refine aL (M:=M) func66 J ntmps66 J (Hp.le.refl _) ?_;refine C (I J (C (A J ?_)));obtain ⟨g,d,c⟩:=L e;refine bC PX J (fun w H f le=>QN b 0 99999 d) (I J (bK ?_));cases c;exact cO J J

theorem aD3 (s:H.le (hp W)) {m:List Value} (c:aI) (q:(aE aN) H m c) {j:Addr} {l:Value} {cm:aI→Option Bool} (p:aM H j [l]) (k:fE M prog H l (fZ (Va aN) Value.bool cm)) {r:Bool} (n:uM c cm=some r):Calls prog 182 #[.agg m.toArray,.pointer (some j)] W (bU M W (.bool r)):=by
 obtain rfl:=q;have b:=k;obtain ⟨f,e,d,rfl,_,_⟩:=k;unfold uM at n;refine aL (M:=M) func182 J ntmps182 J s ?_;refine C (bI (cs:=[.int .i64 c.anchor,.string (bs c.text)]) J J J fun u t g=>(I J (C (U aDk J (P 1 J p) J (cL nU fU J J (P 0 J g) J ?_)))));obtain ⟨o,i,h⟩:=L n;refine oU (v:=.bool o) b 1 J J J J (fun H le=>⟨_,c,o,J,J,i,J⟩) (nt J J (I J (bK ?_)));cases h;exact cO J J

theorem aD4 (hH:H.le (hp W)) {i:Option Addr} {h:Nat} {aj:List aI} (k:Sl (aE aN) 2 H i h aj) {q:Value} {cl:aI→Option Bool} (s:fE M prog H q (fZ (Va aN) Value.bool cl)) {r:Int} (x:JR aj cl=some r):Calls prog 230 #[.slice i aj.length h,q] W (bU M W (.int .i64 r)):=by
 have:=k.len;have d:=s;obtain ⟨e,c,b,rfl,_,_⟩:=s;unfold JR at x;refine aL (M:=M) func230 J ntmps230 J hH ?_;refine C (I J (sq (C (A J (dK tB J J (A J (N ?_)))))));obtain ⟨e19,F,t⟩:=L x;refine jn (fun a w=>∃ B,e19=.inl B∧St M W H [H] [] w∧aX [] 19 a []) ?_ ?_
 ·refine bk ?_;refine lp F (fun z a w=>St M W H [H] [] w∧aX [] 19 a [(0,.slice i aj.length h),(1,.func (.func e) c.toArray b.toArray),(7,.int .i64 (aj.length:Int)),(8,.int .i64 (z:Int))]) ?_ ?_
  ·exact cuE J
  rintro j z y0 l m a w ⟨g,f⟩;refine TG.ap ?_ g f;unfold wL at l;refine C (dT J J J (N (sq ?_)));refine ci J (fun n=>?_) (fun n=>?_)
  ·have G:=aH n l;refine sk (sq (bk (C (A J (I J (C (A J (A J ?_))))))));refine A J ?_;obtain ⟨x0,o,K⟩:=L G;obtain ⟨p0,rfl⟩:=k.adr o;have R:=k.atF o;refine cP tB fU J J J J (aV o) (cL nU fU J J (P 0 J R) J ?_);obtain ⟨y,V,u⟩:=L K;refine oU (v:=.bool y) d 0 J J J J (fun H le=>⟨_,x0,y,J,J,V,J⟩) (N ?_);refine cb J (fun p=>?_) (fun p=>?_)
   ·have Y:=aH p u;refine C (A J (I J (bK ?_)));cases Y;obtain rfl:=cZ.out m;cases t;exact cO J J
   have Z:=bM p u;refine sk (rg (dN J J J (by omega) (A J (N ?_))));cases Z;intro a w g f;exact ⟨_,m,g,f.cuE J⟩
  have hG:=aU n l;refine xt J ?_;cases hG;obtain rfl:=cZ.out m;intro a w g f;exact ⟨_,J,g,f.cut tv⟩
 rintro a w ⟨B,rfl,g,f⟩;apply TG.ap ?_ g f;refine C (I J (bK ?_));cases t;exact cO J J

theorem aD5 (f:H.le (hp W)) {j:Option Addr} {i:Nat} {aj:List aI} (k:Sl (aE aN) 2 H j i aj) {l:Value} {cl:aI→Option Bool} (m:fE M prog H l (fZ (Va aN) Value.bool cl)) {r:Bool} (n:JS aj cl=some r):Calls prog 181 #[.slice j aj.length i,l] W (bU M W (.bool r)):=by
 have:=k.len;have b:=m;obtain ⟨e,d,c,rfl,_,_⟩:=m;unfold JS at n;refine aL (M:=M) func181 J ntmps181 J f ?_;refine C (I J (C (A J (A J ?_))));obtain ⟨o,h,g⟩:=L n;refine bC aCb J (fun w H f le=>aD4 f (k.mono (aE.mono _) (le.at 0 J)) (cl:=cl) (b.mono (le.at 0 J)) h) (rN J J J (I J (bK ?_)));cases g;exact cO J J

theorem aD6 (j:H.le (hp W)) {p:Option Addr} {o:Nat} {h:List aI} (q:Sl (aE aN) 2 H p o h) {s:Value} {right:aI→Option Bool} (t:fE M prog H s (fZ (Va aN) Value.bool right)) {r:Bool} (x:DO h right=some r):Calls prog 129 #[.slice p h.length o,s] W (bU M W (.bool r)):=by
 have:=q.len;have d:=t;obtain ⟨e,c,b,rfl,_,_⟩:=t;unfold DO at x;refine aL (M:=M) func129 J ntmps129 J j ?_;refine C (bI (cs:=[.func (.func e) c.toArray b.toArray]) J J J fun y V k=>(I J (C (A J (fn J J J ?_)))));obtain ⟨K,n,m⟩:=L x
 refine oL (v:=.bool K) aBk J J J J (fun w H j le=>by
   have l:fE M prog H (.func (.func 182) #[] #[.pointer (some y)]) (fZ (Va aN) Value.bool (fun f=>uM f right)):=⟨182,[],[.pointer (some y)],rfl,aBl,fun w_ z g Z u F B=>by obtain ⟨R,f,Y,rfl,i,G,rfl⟩:=B;cases i;exact aD3 (H:=z) F  f rfl (cm:=right) (k.mono ((le.at 0 rfl).trans u)) (d.mono ((le.at 1 rfl).trans u)) G⟩
   exact aD5 j (q.mono (aE.mono _) (le.at 1 J)) (cl:=(fun f=>uM f right)) l n) ?_
 refine nt J J (I J (bK ?_));cases m;exact cO J J

theorem w97 {M:Prop} {W:World} (b:Int) {r:Bool} (e:PI b=some r):Calls prog 97 #[.int .i64 b] W (bU M W (.bool r)):=by
 unfold PI at e;refine aL (M:=M) func97 J ntmps97 J (Hp.le.refl _) ?_;refine C (I J (C (A J ?_)));obtain ⟨g,d,c⟩:=L e;refine bC PX J (fun w H f le=>QN b 1 999 d) (I J (bK ?_));cases c;exact cO J J

theorem aD8 (o:H.le (hp W)) (e:Int) {i:Addr} {k:Value} {cm:Int→Option Bool} (n:aM H i [k]) (j:fE M prog H k (fZ (Vi .u8) Value.bool cm)) {r:Bool} (l:uN e cm=some r):Calls prog 184 #[.int .u8 e,.pointer (some i)] W (bU M W (.bool r)):=by
 have b:=j;obtain ⟨f,d,c,rfl,_,_⟩:=j;unfold uN at l;refine aL (M:=M) func184 J ntmps184 J o ?_;refine C (I J (C (U VS J (P 0 J n) J (A J ?_))));obtain ⟨m,h,g⟩:=L l;refine oU (v:=.bool m) b 0 J J J J (fun H le=>⟨_,e,m,J,J,h,J⟩) (nt J J (I J (bK ?_)));cases g;exact cO J J

theorem aD9 (hH:H.le (hp W)) {i:Option Addr} {h:Nat} {aj:List UInt8} (k:Sl (aE bW) 1 H i h aj) {q:Value} {cl:Int→Option Bool} (s:fE M prog H q (fZ (Vi .u8) Value.bool cl)) {r:Int} (x:DP aj cl=some r):Calls prog 231 #[.slice i aj.length h,q] W (bU M W (.int .i64 r)):=by
 have:=k.len;have d:=s;obtain ⟨e,c,b,rfl,_,_⟩:=s;unfold DP at x;refine aL (M:=M) func231 J ntmps231 J hH ?_;refine C (I J (sq (C (A J (dK jD J J (A J (N ?_)))))));obtain ⟨e19,G,t⟩:=L x;refine jn (fun a w=>∃ B,e19=.inl B∧St M W H [H] [] w∧aX [] 19 a []) ?_ ?_
 ·refine bk ?_;refine lp G (fun z a w=>St M W H [H] [] w∧aX [] 19 a [(0,.slice i aj.length h),(1,.func (.func e) c.toArray b.toArray),(7,.int .i64 (aj.length:Int)),(8,.int .i64 (z:Int))]) ?_ ?_
  ·exact cuE J
  rintro j z y0 l m a w ⟨g,f⟩;refine TG.ap ?_ g f;unfold rY at l;refine C (dT J J J (N (sq ?_)));refine ci J (fun n=>?_) (fun n=>?_)
  ·have K:=aH n l;refine sk (sq (bk (C (A J (I J (C (A J (A J ?_))))))));refine A J ?_;obtain ⟨F,o,R⟩:=L K;obtain ⟨p0,rfl⟩:=k.adr o;have V:=k.atF o;have:=UInt8.toNat_lt F;refine cP jD Z5 J J J J (aV o) (U G5 J (P 0 J V) J ?_);obtain ⟨y,Y,u⟩:=L R;refine oU (v:=.bool y) d 0 J J J J (fun H le=>⟨_,(F.toNat:Int),y,J,J,Y,J⟩) (N ?_);refine cb J (fun p=>?_) (fun p=>?_)
   ·have Z:=aH p u;refine C (A J (I J (bK ?_)));cases Z;obtain rfl:=cZ.out m;cases t;exact cO J J
   have hF:=bM p u;refine sk (rg (dN J J J (by omega) (A J (N ?_))));cases hF;intro a w g f;exact ⟨_,m,g,f.cuE J⟩
  have hG:=aU n l;refine xt J ?_;cases hG;obtain rfl:=cZ.out m;intro a w g f;exact ⟨_,J,g,f.cut tv⟩
 rintro a w ⟨B,rfl,g,f⟩;apply TG.ap ?_ g f;refine C (I J (bK ?_));cases t;exact cO J J

theorem WB (f:H.le (hp W)) {j:Option Addr} {i:Nat} {aj:List UInt8} (k:Sl (aE bW) 1 H j i aj) {l:Value} {cl:Int→Option Bool} (m:fE M prog H l (fZ (Vi .u8) Value.bool cl)) {r:Bool} (n:AG aj cl=some r):Calls prog 183 #[.slice j aj.length i,l] W (bU M W (.bool r)):=by
 have:=k.len;have b:=m;obtain ⟨e,d,c,rfl,_,_⟩:=m;unfold AG at n;refine aL (M:=M) func183 J ntmps183 J f ?_;refine C (I J (C (A J (A J ?_))));obtain ⟨o,h,g⟩:=L n;refine bC aCc J (fun w H f le=>aD9 f (k.mono (aE.mono _) (le.at 0 J)) (cl:=cl) (b.mono (le.at 0 J)) h) (rN J J J (I J (bK ?_)));cases g;exact cO J J

theorem aEa (j:H.le (hp W)) {p:Option Addr} {o:Nat} {h:List UInt8} (q:Sl (aE bW) 1 H p o h) {s:Value} {right:Int→Option Bool} (t:fE M prog H s (fZ (Vi .u8) Value.bool right)) {r:Bool} (x:DQ h right=some r):Calls prog 132 #[.slice p h.length o,s] W (bU M W (.bool r)):=by
 have:=q.len;have d:=t;obtain ⟨e,c,b,rfl,_,_⟩:=t;unfold DQ at x;refine aL (M:=M) func132 J ntmps132 J j ?_;refine C (bI (cs:=[.func (.func e) c.toArray b.toArray]) J J J fun y V k=>(I J (C (A J (fn J J J ?_)))));obtain ⟨K,n,m⟩:=L x
 refine oL (v:=.bool K) VC J J J J (fun w H j le=>by
   have l:fE M prog H (.func (.func 184) #[] #[.pointer (some y)]) (fZ (Vi .u8) Value.bool (fun f=>uN f right)):=⟨184,[],[.pointer (some y)],rfl,aBm,fun w_ z g Z u F B=>by obtain ⟨R,f,Y,rfl,i,G,rfl⟩:=B;cases i;exact aD8 (H:=z) F  f (cm:=right) (k.mono ((le.at 0 rfl).trans u)) (d.mono ((le.at 1 rfl).trans u)) G⟩
   exact WB j (q.mono (aE.mono _) (le.at 1 J)) (cl:=(fun f=>uN f right)) l n) ?_
 refine nt J J (I J (bK ?_));cases m;exact cO J J

theorem aEb {M:Prop} {W:World} (d:Int) {r:Bool} (h:wM d=some r):Calls prog 133 #[.int .u8 d] W (bU M W (.bool r)):=by
 unfold wM at h;refine aL (M:=M) func133 J ntmps133 J (Hp.le.refl _) ?_;refine C (I J (sq ?_));obtain ⟨i,c,e⟩:=L h;refine jn (fun a w=>St M W (hp W) [(hp W)] [] w∧aX [] 9 a [(2,.bool i)]) ?_ ?_
 ·refine rg (A J (kK J J J (A J ?_)));by_cases b:(32:Int)≤d
  ·have f:=aH b c;refine gt b J (A J (gt b J (kK J J J (pt b J J (I J ?_)))));cases f;exact cuE J
  have g:=aU b c;refine bJ 2 J J J (decide_eq_false b) J (pf b J J (I J ?_));cases g;exact cuE J
 refine X ?_;refine bK ?_;cases e;exact cO J J

theorem w98 {M:Prop} {W:World} (aj:aF) {r:Bool} (i:PJ aj=some r):Calls prog 98 #[.string (bs aj)] W (bU M W (.bool r)):=by
 unfold PJ at i;refine aL (M:=M) func98 J ntmps98 J (Hp.le.refl _) ?_;refine C (I J (sq ?_));obtain ⟨K,k,l⟩:=L i;refine jn (fun a w=>St M W (hp W) [(hp W)] [] w∧aX [] 11 a [(2,.bool K)]) ?_ ?_
 ·refine rg (A J (oT U9 J J ?_));obtain ⟨F,m,f⟩:=L k;refine bC PX J (fun w H h le=>QN (aj.length:Int) 1 200 m) (A J ?_);rcases Bool.eq_false_or_eq_true (F) with b | b
  ·have n:=aH b f;refine gN J J (b) (A J (gN J J (b) ?_));obtain ⟨o,p⟩:=aG n;refine ZN U9 jD U5 J J o fun Y Z j g=>?_;have:=g.len;refine gN J J (b) ?_;obtain ⟨G,q,t⟩:=L p
   refine oL (v:=.bool G) aAv J J J J (fun w H h le=>by
     have u:fE M prog H (.func (.func 133) #[] #[]) (fZ (Vi .u8) Value.bool (wM)):=⟨133,[],[],rfl,aAw,fun w_ V c v_ hK hw z=>by obtain ⟨R,e,r_,rfl,d,B,rfl⟩:=z;cases d;exact aEb  e  B⟩
     exact aEa h (g.mono (aE.mono _) (le.at 0 J)) (right:=(wM)) u q) ?_
   refine pT J J (b) J (I J ?_);cases t;intro a w y s;exact ⟨y.selH [1] J,s.cuE J⟩
  have x:=bM b f;refine bJ 3 J J J (b) J (pF J J (b) J (I J ?_));cases x;exact cuE J
 refine X ?_;refine bK ?_;cases l;exact cO J J

theorem aEd {M:Prop} {W:World} {e:List Value} (c:aI) (i:(aE aN) (hp W) e c) {r:Bool} (g:uO c=some r):Calls prog 130 #[.agg e.toArray] W (bU M W (.bool r)):=by
 obtain rfl:=i;unfold uO at g;refine aL (M:=M) func130 J ntmps130 J (Hp.le.refl _) ?_;refine C (bI (cs:=[.int .i64 c.anchor,.string (bs c.text)]) J J J fun u h d=>(I J (sq ?_)));obtain ⟨t,j,k⟩:=L g;refine jn (fun a w=>St M W (hp W) [h,(hp W)] [] w∧aX [] 11 a [(2,.bool t)]) ?_ ?_
 ·refine rg (S 0 nZ J Z3 (U G3 J ((P 0 J d).take 1) J ?_));obtain ⟨s,l,f⟩:=L j;refine bC C97 J (fun w H q le=>w97 c.anchor l) (A J ?_);rcases Bool.eq_false_or_eq_true (s) with b | b
  ·have m:=aH b f;refine gN J J (b) (S 1 nZ J Z9 (gN J J (b) (U G9 J ((P 0 J d).drop 1) J (gN J J (b) ?_))));obtain ⟨v,n,o⟩:=L m;refine bC C98 J (fun w H q le=>w98 c.text n) (pT J J (b) J (I J ?_));cases o;exact cuE J
  have p:=bM b f;refine bJ 3 J J J (b) J (pF J J (b) J (I J ?_));cases p;exact cuE J
 refine X ?_;refine bK ?_;cases k;exact cO J J

theorem w93 (k:H.le (hp W)) {ce:List Value} (b:bN) (cw:(bQ) H ce b) {r:Bool} (hr:TL b=some r):Calls prog 93 #[.agg ce.toArray] W (bU M W (.bool r)):=by
 have p:=cw;obtain ⟨s,h,rfl,q⟩:=cw;have:=q.len;unfold TL at hr;refine aL (M:=M) func93 J ntmps93 J k ?_;refine C (bI (cs:=[.int .i64 b.number,.int .i64 b.bound,.int .i64 b.height,.int .i64 b.width,.slice s b.parts.length h]) J J J fun q4 u d=>(I J (sq (C (S 4 jV J vD (U xS J ((P 0 J d).drop 4) J (dK sR J J (A J ?_))))))));refine N ?_;obtain ⟨B,hX,hE⟩:=L hr;refine jn (fun a w=>∃ t58,B=.inl t58∧St M W H [u,H] [] w∧aX [] 64 a [(1,.pointer (some q4))]) ?_ ?_
 ·refine bk ?_;refine lp hX (fun x a w=>St M W H [u,H] [] w∧aX [] 64 a [(1,.pointer (some q4)),(6,.slice s b.parts.length h),(7,.int .i64 (b.parts.length:Int)),(8,.int .i64 (x:Int))]) ?_ ?_
  ·exact cuE J
  rintro j x y0 G K a w ⟨e,c⟩;refine TG.ap ?_ e c;unfold DR at G;refine C (dT J J J (N (sq ?_)));refine ci J (fun R=>?_) (fun R=>?_)
  ·have V:=aH R G;refine sk (sq (bk (C (A J ?_))));obtain ⟨y,Z,aa⟩:=L V;obtain ⟨p0,rfl⟩:=q.adr Z;obtain ⟨c1,bo,ac,hG⟩:=q.at Z;have bp:=hG;obtain ⟨a0,c0,rfl,ae⟩:=hG;have:=ae.len
   let t:List Value:=[.int .i64 y.day,.slice a0 y.paragraphs.length c0]
   refine cP sR jQ J J J J (aV Z) (cL GL jQ J J (P 1 J ac) J (al 1 (cs:=[.int .i64 0,.slice none 0 0]) zeroValue115 J J fun b0=>(a1 J (eP 1 (cs:=t) jQ J J J J J J J (N (sq ?_))))));obtain ⟨t0,ag,hI⟩:=L aa;refine jn (fun a w=>St M W H [u,H] [(1,bE b0 115 t)] w∧aX [] 64 a [(1,.pointer (some q4)),(6,.slice (some p0) b.parts.length h),(7,.int .i64 (b.parts.length:Int)),(8,.int .i64 (x:Int)),(39,.bool t0)]) ?_ ?_
   ·obtain ⟨r0,ai,hJ⟩:=L ag;refine dR 24 mixed (by kernel_rfl) J (E J (S 0 kX J Z3 D) (E J (U G3 J ((sO 1 J).take 1) J D) (E J (bC RJ J (fun w H k le=>RK y.day ai) D) (E J (nt J J D) (E J (A J D) ?_)))));rcases Bool.eq_false_or_eq_true (r0) with i | i
    ·have hL:=aH i hJ;refine E J (gN J J (congrArg not (i)) (S 0 kX J Z3 D)) (E J (gN J J (congrArg not (i)) (U G3 J ((sO 1 J).take 1) J D)) (E J (gN J J (congrArg not (i)) (S 1 jV J Z3 D)) (E J (gN J J (congrArg not (i)) (U G3 J (((P 1 J d).drop 1).take 1) J D)) (E J (gN J J (congrArg not (i)) (nC J J J D)) (E J (pF J J (congrArg not (i)) J D) (E J (A J D) ?_))))));by_cases g:b.bound < y.day
     ·have ak:=aH g hL;refine kI 3 J J (decide_eq_true g) J ⟨J,J,J,tv⟩ (E J (gU J J J D) (E J (gU J J J D) (E J (gU J J J D) (E J (gU J J J D) (E J (gU J J J D) (E J (gU J J J D) (E J (gU J J J D) (E J (gU J J J D) (E J (gU J J J D) (DF.nil fun bi hF=>(gU J J J ?_)))))))))));refine CU g J (pt g J J (N ?_));cases ak;intro a w e c;exact ⟨e.selH [1,2] J,c.cuE J⟩
     have hM:=aU g hL;refine E J (cA g J (A J D)) (E J (cA g J (nC J J J D)) (E J (cA g J (A J D)) ?_));by_cases f:0 < (x:Int)
     ·have an:=aH f hM;obtain ⟨x1,hN,ar⟩:=L an;obtain ⟨c2,bq,aw,hO⟩:=q.at hN;have br:=hO;obtain ⟨a2,c3,rfl,ax⟩:=hO;have:=ax.len;refine E J (gt f J (S 0 kX J Z3 D)) (E J (gt f J (U G3 J ((sO 1 J).take 1) J D)) (E J (gt f J (S 4 jV J vD D)) (E J (gt f J (U xS J ((P 1 J d).drop 4) J D)) (E J (gt f J (A J D)) (E J (gt f J (rM J J J (by omega) D)) (E J (gt f J (cP sR jQ J J J (by omega) (aV hN) D)) (E J (gt f J (S 0 kX J Z3 D)) (E J (gt f J (U G3 J ((P 2 J aw).take 1) J D)) (DF.nil fun bj hF=>(gt f J (kK J J J ?_)))))))))));refine cA g J (pt f J J (pf g J J (N ?_)));cases ar;intro a w e c;exact ⟨e.selH [1,2] J,c.cuE J⟩
     have ay:=aU f hM;refine kI 9 J J (decide_eq_false f) J ⟨J,J,J,J,J,J,J,J,J,tv⟩ (DF.nil fun bl hF=>(gf f J (cA g J (pf f J J (pf g J J (N ?_))))));cases ay;intro a w e c;exact ⟨e.selH [1,2] J,c.cuE J⟩
    have az:=bM i hJ;refine kI 5 J J (congrArg not (i)) J ⟨J,J,J,J,J,tv⟩ (E J (pT J J (congrArg not (i)) J D) (E J (A J D) (kI 3 J J J J ⟨J,J,J,tv⟩ (E J (gU J J J D) (E J (gU J J J D) (E J (gU J J J D) (E J (gU J J J D) (E J (gU J J J D) (E J (gU J J J D) (E J (gU J J J D) (E J (gU J J J D) ?_)))))))))));refine E J (gU J J J D) (DF.nil fun bm hF=>(gU J J J (gF J J J J (pT J J J J (N ?_)))));cases az;intro a w e c;exact ⟨e.selH [1,2] J,c.cuE J⟩
   refine X ?_;refine cb J (fun hC=>?_) (fun hC=>?_)
   ·have a4:=aH hC hI;refine C (I J (bK ?_));cases a4;obtain rfl:=cZ.out K;cases hE;exact cO J J
   have a5:=bM hC hI;refine sk (rg (dN J J J (by omega) (A J (N (TG.del 1 ?_)))));cases a5;intro a w e c;exact ⟨_,K,e,c.cuE J⟩
  have a6:=aU R G;refine xt J ?_;cases a6;obtain rfl:=cZ.out K;intro a w e c;exact ⟨_,J,e,c.cuE J⟩
 rintro a w ⟨t58,rfl,e,c⟩;apply TG.ap ?_ e c;refine sq ?_;obtain ⟨t1,a7,a8⟩:=L hE;refine jn (fun a w=>St M W H [u,H] [] w∧aX [] 64 a [(2,.bool t1)]) ?_ ?_
 ·refine rg (S 0 jV J Z3 (U G3 J ((P 0 J d).take 1) J ?_));obtain ⟨r1,a9,hP⟩:=L a7;refine bC PX J (fun w H k le=>QN b.number 1 99 a9) (A J ?_);rcases Bool.eq_false_or_eq_true (r1) with l | l
  ·have ba:=aH l hP;refine gN J J (l) (S 1 jV J Z3 (gN J J (l) (U G3 J (((P 0 J d).drop 1).take 1) J (gN J J (l) ?_))));obtain ⟨r2,bb,hR⟩:=L ba;refine bC RJ J (fun w H k le=>RK b.bound bb) (pT J J (l) J (A J ?_));rcases Bool.eq_false_or_eq_true (r2) with m | m
   ·have bc:=aH m hR;refine gN J J (m) (S 2 jV J Z3 (gN J J (m) (U G3 J (((P 0 J d).drop 2).take 1) J (gN J J (m) ?_))));obtain ⟨r3,bd,hT⟩:=L bc;refine bC PX J (fun w H k le=>QN b.height 1 60 bd) (pT J J (m) J (A J ?_));rcases Bool.eq_false_or_eq_true (r3) with n | n
    ·have be:=aH n hT;refine gN J J (n) (S 3 jV J Z3 (gN J J (n) (U G3 J (((P 0 J d).drop 3).take 1) J (gN J J (n) ?_))));obtain ⟨r4,bf,hV⟩:=L be;refine bC PX J (fun w H k le=>QN b.width 10 80 bf) (pT J J (n) J (A J ?_));rcases Bool.eq_false_or_eq_true (r4) with o | o
     ·have bg:=aH o hV;refine gN J J (o) (cL lM iC J J (P 0 J d) J (gN J J (o) ?_));obtain ⟨r8,Y,ab⟩:=L bg;refine gE YU J J J J (fun w H k le=>YV k b (bQ.mono _ _ _ _ (le.at 1 J) p) Y) ?_;rintro v_ bn ⟨a3,c4,rfl,hW⟩;have:=hW.len;refine gN J J (o) ?_;obtain ⟨r5,ad,af⟩:=L ab
      refine oL (v:=.bool r5) aAs J J J J (fun w H k le=>by
        have ah:fE M prog H (.func (.func 130) #[] #[]) (fZ (Va aN) Value.bool (uO)):=⟨130,[],[],rfl,aAt,fun w_ K_ z v_ hK hw hs=>by obtain ⟨bt,bh,r_,rfl,F,hx,rfl⟩:=hs;cases F;exact aEd  bh rfl  hx⟩
        exact aD6 k (hW.mono (aE.mono _) (le.at 0 J)) (right:=(uO)) ah ad) ?_
      refine pT J J (o) J (I J ?_);cases af;intro a w e c;exact ⟨e.selH [1,2] J,c.cuE J⟩
     have aj:=bM o hV;refine bJ 3 J J J (o) J (pF J J (o) J (I J ?_));cases aj;exact cuE J
    have am:=bM n hT;refine bJ 3 J J J (n) J (pF J J (n) J (A J (bJ 3 J J J J J (pF J J J J (I J ?_)))));cases am;exact cuE J
   have ao:=bM m hR;refine bJ 3 J J J (m) J (pF J J (m) J (A J (bJ 3 J J J J J (pF J J J J (A J (bJ 3 J J J J J (pF J J J J (I J ?_))))))));cases ao;exact cuE J
  have au:=bM l hP;refine bJ 3 J J J (l) J (pF J J (l) J (A J (bJ 3 J J J J J (pF J J J J (A J (bJ 3 J J J J J (pF J J J J (A J (bJ 3 J J J J J (pF J J J J (a1 J ?_)))))))))));refine N ?_;cases au;exact cuE J
 refine X ?_;refine bK ?_;cases a8;exact cO J J

theorem w60 (l:H.le (hp W)) {ce:List Value} (d:bN) (cw:(bQ) H ce d) {r:Int} (hr:PK d=some r):Calls prog 60 #[.agg ce.toArray] W (bU M W (.int .i64 r)):=by
 have b:=cw;obtain ⟨o,k,rfl,B⟩:=cw;have:=B.len;unfold PK at hr;refine aL (M:=M) func60 J ntmps60 J l ?_;refine C (bI (cs:=[.int .i64 d.number,.int .i64 d.bound,.int .i64 d.height,.int .i64 d.width,.slice o d.parts.length k]) J J J fun q4 n h=>(I J (C (cL lM iC J J (P 0 J h) J ?_))));obtain ⟨r7,G,F⟩:=L hr;refine gE YU J J J J (fun w H l le=>YV l d (bQ.mono _ _ _ _ (le.at 1 J) b) G) ?_;rintro v_ f ⟨Y,Z,rfl,s⟩;have:=s.len;refine I J (sq (bk (sq ?_)));obtain ⟨t30,h9,hB⟩:=L F;refine jn (fun a w=>St M W H [f,n,H] [] w∧aX [] 38 a [(1,.pointer (some q4)),(3,.slice Y r7.length Z),(9,.bool t30)]) ?_ ?_
 ·refine rg (S 4 jV J vD (U xS J ((P 1 J h).drop 4) J (dK sR J J (nC J J J (A J ?_)))));by_cases e:6 < (d.parts.length:Int)
  ·have hG:=aH e h9;refine bJ 3 J J J (decide_eq_true e) J (pt e J J (I J ?_));cases hG;exact cuE J
  have hI:=aU e h9;refine cA e J (A J (cA e J (dK tB J J (cA e J (nC J J J (pf e J J (I J ?_)))))));cases hI;exact cuE J
 refine X ?_;refine cb J (fun t=>?_) (fun t=>?_)
 ·have hJ:=aH t hB;refine C (I J (bK ?_));cases hJ;exact cO J J
 have hK:=bM t hB;refine C (cL lM iC J J (P 1 J h) J ?_);obtain ⟨r0,hL,hC⟩:=L hK;refine bC C93 J (fun w H l le=>w93 l d (bQ.mono _ _ _ _ (le.at 2 J) b) hL) (nt J J (I J ?_));refine cb J (fun h1=>?_) (fun h1=>?_)
 ·replace h1:=lU h1
  have hM:=bM h1 hC;refine C (I J (bK ?_));cases hM;exact cO J J
 replace h1:=lV h1
 have hN:=aH h1 hC;refine sk (C (MH 1 fF Value.bool J fun p=>(I J (sq (C (A J (dK tB J J (A J ?_))))))));refine N ?_;obtain ⟨q,hO,hE⟩:=L hN;refine jn (fun a w=>∃ R,q=.inl R∧St M W H [f,n,H] [(1,aS.map' fF Value.bool p R)] w∧aX [] 38 a []) ?_ ?_
 ·refine bk ?_;refine lp hO (fun K a w=>St M W H [f,n,H] [(1,aS.map' fF Value.bool p K.2)] w∧aX [] 38 a [(4,.map (some p)),(24,.slice Y r7.length Z),(25,.int .i64 (r7.length:Int)),(26,.int .i64 (K.1:Int))]) ?_ ?_
  ·exact cuE J
  rintro j K y0 u v a w ⟨i,g⟩;refine TG.ap ?_ i g;unfold DS at u;refine C (dT J J J (N (sq ?_)));refine ci J (fun x=>?_) (fun x=>?_)
  ·have hP:=aH x u;refine sk (sq (bk (C ?_)));obtain ⟨m,y,hF⟩:=L hP;obtain ⟨p0,rfl⟩:=s.adr y;have hR:=s.atF y;refine cP tB fU J J J J (aV y) (cL nU fU J J (P 0 J hR) J (va (cs:=[.int .i64 m.anchor,.string (bs m.text)]) zeroValue117 fU J J J J J J J J fun q0 V c=>(N (sq (C (A J (S 0 nZ J Z3 (U G3 J ((P 0 J c).take 1) J (IZ (ke:=fF) (enc:=Value.bool) m.anchor (z0:=false) kY U3 zeroValue4 J J J J (mO 1 J) (N ?_))))))))));refine cb J (fun z=>?_) (fun z=>?_)
   ·have hT:=aH z hF;refine C (I J (bK ?_));cases hT;obtain rfl:=cZ.out v;cases hE;exact cO J J
   have hV:=bM z hF;refine sk (rg (A J (S 0 nZ J Z3 (U G3 J ((P 0 J c).take 1) J (HQ 1 (ke:=fF) (enc:=Value.bool) m.anchor true kY U3 J J J J (N (rg (dN J J J (by omega) (A J (N ?_))))))))));cases hV;intro a w i g;exact ⟨_,v,i.selH [1,2,3] J,g.cuE J⟩
  have hW:=aU x u;refine xt J ?_;cases hW;obtain rfl:=cZ.out v;intro a w i g;exact ⟨_,J,i,g.cut tv⟩
 rintro a w ⟨R,rfl,i,g⟩;apply TG.ap ?_ i g;refine C (I J (bK ?_));cases hE;exact cO J J

theorem jA {M:Prop} {W:World} (e:Int) {r:Unit⊕Unit} (g:lX e=some r):Calls prog 105 #[.int .i64 e] W (wC M W (fun r=>.tuple #[]) (.iface 126 (.agg #[.int .i64 e])) r):=by
 unfold lX at g;refine aL (M:=M) func105 J ntmps105 J (Hp.le.refl _) ?_;refine rg (A J (fY J J J (A J ?_)));obtain ⟨i,c,b⟩:=L g;rcases i with j | j
 ·refine bC eY J (fun w H h le=>iK (eZ (decide (e=0)) e c)) (N ?_);cases b;intro a w f d;refine dW d J ?_;exact rU J f.ext
 refine eE eY J J J (fun w H h le=>iL (eZ (decide (e=0)) e c)) ?_;cases b;intro a w f d;exact ⟨d.defers,mQ f.ext⟩

theorem w71 {M:Prop} {W w:World} {H V:Hp} {σr:aK} {v:Nat} {ae:List Value} (f:aJ) (bb:aY V ae f) {bc:Option Addr} {ax:Nat} {bq:List Int} (ai:Sl (aE (bZ .i64)) 1 V bc ax bq) (text:aF) {r:aJ⊕Int} (hr:RF f bq text=some r) (c:St M W H [V] ((1,bE v 67 ae)::σr) w):Calls prog 71 #[.pointer (some ⟨v,0,none⟩),.slice bc bq.length ax,.string (bs text)] w (fD M W H V σr (rE (fun y e K A'=>∃ (dv:List Value),e=.returned (.tuple #[])∧A'=[(1,bE v 67 dv)]∧aY K dv y) (fun u=>.iface 126 (.agg #[.int .i64 u])) [(1,bE v 67 ae)] r)):=by
 have:=ai.len;unfold RF at hr;obtain ⟨z1,rfl,p⟩:=bb;have:=p.lens;refine cW (M:=M) func71 J ntmps71 J c ?_;refine C (A J (nl J J (S 0 eJ J eC (S 7 dM J Z4 (U G4 J (((sO 1 J).drop 7).take 1) J (nt J J ?_))))));obtain ⟨r3,bd,ba⟩:=L hr;rcases r3 with y6 | y6
 ·refine bC eY J (fun w H hH le=>iK (eZ (!f.state.bound) 8 bd)) (N (C (A J ?_)));obtain ⟨s,an,hL⟩:=L ba;obtain ⟨p0,rfl⟩:=ai.adr an;have hM:=ai.atF an
  let ab:List Value:=[.int .i64 s,.string (bs text)]
  refine cP eO Z3 J J J J (aV an) (U G3 J (P 0 J hM) J (A J (bu (cs:=ab) T12.B117 J J J (va (cs:=ab) zeroValue117 fU J J J J J J J J fun q0 ao Y=>(N (C (A J (nl J J (S 0 eJ J eC (S 2 dM J iC ?_))))))))));refine S 4 jV J vD (U xS J (((sO 1 J).drop 6).take 1) J ?_);obtain ⟨k,hN,hO⟩:=L hL;refine MO 2 aAi J J J J (fun w V σr c le=>aDz (aj:=f.state.volume.parts) (p.f0.mono (bV.mono) (le.at 1 J)) hN c) fun a4 c2 c3 ay i=>(I J (sq (C (A J (TG.len 2 J fun _=>(dK sR J J (rM J J J (by omega) (I J ?_))))))));refine sq ?_;obtain ⟨t45,h5,hP⟩:=L hO;refine jn (fun a w=>St M W H [ay,ao,V] ([(2,aS.rows a4 c2 115 2 c3 k),(1,bE v 67 (cJ f.state z1))]++σr) w∧aX [] 79 a [(0,.pointer (some (⟨v,0,none⟩))),(6,.pointer (some q0)),(7,.slice a4 k.length c2),(8,.int .i64 ((k.length:Int) - 1)),(45,.bool t45)]) ?_ ?_
  ·by_cases g:0≤((k.length:Int) - 1)
   ·have hR:=aH g h5;obtain ⟨x1,h2,hT⟩:=L hR;refine TG.addr 2 J (fR h2) fun b1 h=>?_;subst h;obtain ⟨cR,h6,cn,co,s1⟩:=XY i h2;have cp:=h6;obtain ⟨a8,cS,rfl,hV⟩:=h6;have:=hV.len;refine dR 13 mixed (by kernel_rfl) J (E J (A J D) (E J (rN J J J D) (E J (A J D) (E J (gt g J (A J D)) (E J (gt g J (A J D)) (E J (gt g J (cP sR jQ J J J (by omega) (aV h2) D)) (E J (gt g J (S 0 kX J Z3 D)) (E J (gt g J (U G3 J ((s1 (t:=2) J).take 1) J D)) (E J (gt g J (A J D)) (E J (gt g J (nl J J D)) (E J (gt g J (S 0 eJ J eC D)) ?_)))))))))));refine E J (gt g J (S 0 dM J Z3 D)) (E J (gt g J (U G3 J ((sO 1 J).take 1) J D)) (DF.nil fun cd B=>(gt g J (fY J J J (pt g J J (N ?_))))));cases hT;intro a w c d;exact ⟨c.selH [1,2,3] J,d.cuE J⟩
   have hW:=aU g h5;refine dR 13 mixed (by kernel_rfl) J (E J (A J D) (E J (rN J J J D) (E J (A J D) (kI 10 J J (decide_eq_false g) J ⟨J,J,J,J,J,J,J,J,J,J,tv⟩ (DF.nil fun ce B=>(gf g J (pf g J J (N ?_))))))));cases hW;intro a w c d;exact ⟨c.selH [1,2,3] J,d.cuE J⟩
  refine X ?_;obtain ⟨t142,h7,hX⟩:=L hP;refine jn (fun a w=>∃ (a2:Option Addr) (c1:Nat) (c4:List (List Value)) (o:Hp),St M W H [o,ay,ao,V] ([(2,aS.rows a2 c1 115 2 c4 t142),(1,bE v 67 (cJ f.state z1))]++σr) w∧aX [] 79 a [(0,.pointer (some (⟨v,0,none⟩))),(7,.slice a2 t142.length c1)]∧Rows (bV) 2 o c4 t142) ?_ ?_
  ·refine cb J (fun h3=>?_) (fun h3=>?_)
   ·have be:=aH h3 h7;obtain ⟨cq,bf⟩:=aG be;obtain ⟨x0,h1,bg⟩:=L bf;refine TG.addr 2 J (fR h1) fun b0 h=>?_;subst h;obtain ⟨cg,h8,cr,bh,s2⟩:=XY i h1;have cl:=h8;obtain ⟨a9,ch,rfl,h9⟩:=h8;have:=h9.len;obtain ⟨G,bi,bj⟩:=L bg;refine dR 9 mixed (by kernel_rfl) J (E J (A J D) (E J (A J D) (E J (A J D) (E J (A J D) (E J (cP sR jQ J J J (by omega) (aV h1) D) (E J (S 1 kX J HZ D) (E J (U NE J ((s2 (t:=2) J).drop 1) J D) (E J (cL nU fU J J (P 2 J Y) J D) (uS G.length (aE aN) 2 G (aE.mono _) J (gE aAj J J J J (fun w H hH le=>aD1 hH (h9.mono (aE.mono _) (le.at 1 J)) (⟨s,text⟩:aI) J bi) (kS (aE.mono _))) fun a3 c5=>(DF.nil fun b6 B=>?_))))))))));obtain ⟨hB,_⟩:=B;have:=hB.len;refine cP sR jQ J J J (by omega) (aV h1) (S 1 kX J HZ ?_);have bl:(k.set (((k.length:Int) - 1).toNat) (⟨x0.day,G⟩:eB)).length=k.length:=(zZ _ _ _)
    let Z:List Value:=[.int .i64 x0.day,.slice a3 G.length c5]
    refine TG.pack (fun K=>Rows (bV) 2 K (c3.set (((k.length:Int) - 1).toNat) Z) (k.set (((k.length:Int) - 1).toNat) (⟨x0.day,G⟩:eB))) (fun H le=>Rows.set (R:=bV) (cs1:=Z) (y:=(⟨x0.day,G⟩:eB)) J J ⟨_,_,J,(hB.mono (aE.mono _) (le.at 0 J))⟩ (((k.length:Int) - 1).toNat) (i.mono (bV.mono) (le.at 1 J))) fun aq ah=>(stR 2 (⟨x0.day,G⟩:eB) Z (q:=⟨b0,0,none⟩) (j:=((k.length:Int) - 1).toNat) (size:=2) (cs:=[.slice a3 G.length c5]) (off:=1) HZ (OR (b:=1) J) J J i bh J J J J J J (N ?_));cases bj;intro a w c d;exact ⟨(some ⟨b0,0,none⟩),c2,(c3.set (((k.length:Int) - 1).toNat) [Value.int .i64 x0.day,Value.slice a3 G.length c5]),aq,c.selH [0,2,3,4] J,d.cut ⟨J,(congrArg (fun (n:Nat)=>some (Value.slice (some ⟨b0,0,none⟩) n c2)) bl.symm),tv⟩,ah⟩
   have bm:=bM h3 h7;refine dR 10 mixed (by kernel_rfl) J (E J (A J D) (E J (A J D) (E J (nl J J D) (E J (S 0 eJ J eC D) (E J (S 0 dM J Z3 D) (E J (U G3 J ((sO 1 J).take 1) J D) (E J (cL nU fU J J (P 2 J Y) J D) ?_)))))))
   refine uS 1 (aE aN) 2 ([(⟨s,text⟩:aI)]:List aI) (aE.mono _) J (bS (cs:=ab) T12.E83 J J J J fun q1 ar bn ad=>by
     have hC:Sl (aE aN) 2 ar (some q1) 1 ([(⟨s,text⟩:aI)]:List aI):=Sl.litF (fun _=>J) (fun _=>J) bn ad J J J;have:=hC.len
     exact oW (aE.mono _) hC) fun a5 c6=>?_
   let z:List Value:=[.int .i64 f.state.day,.slice a5 1 c6]
   refine uC (.agg z.toArray) (fun K=>Sl (aE aN) 2 K a5 c6 ([(⟨s,text⟩:aI)]:List aI)) (fun _ _ h x=>x.mono (aE.mono _) h) J (fun a w K c d B F=>TG.pa c d (bu (cs:=z) T12.B115 J J J (F (B.1 J)))) ?_
   refine uF 1 (bV) 2 ([(⟨f.state.day,([(⟨s,text⟩:aI)]:List aI)⟩:eB)]:List eB) (bV.mono) J (fun a w K c d B=>TG.pa c d (bS (cs:=z) T12.E25 J J J J fun q2 b7 bo af=>by
     refine TG.pack (fun K=>Sl (bV) 2 K (some q2) 1 ([(⟨f.state.day,([(⟨s,text⟩:aI)]:List aI)⟩:eB)]:List eB)) (fun H le=>Sl.litR (css:=[z]) (l:=([(⟨f.state.day,([(⟨s,text⟩:aI)]:List aI)⟩:eB)]:List eB)) ⟨⟨J,J,⟨_,_,J,((B.1 J).mono (aE.mono _) (le.at 1 J))⟩⟩,tv⟩ bo (af.mono (le.at 0 J)) J) fun b8 hE=>?_;have:=hE.len;refine sk1 ?_
     exact oW (bV.mono) hE)) fun a6 c7=>?_
   refine DF.nil fun b9 B=>?_;obtain ⟨hG,cm,bp,_⟩:=B;have:=bp.len;have:=hG.len;obtain ⟨br,bt⟩:=aG bm;have:=fA k ([(⟨f.state.day,([(⟨s,text⟩:aI)]:List aI)⟩:eB)]:List eB);refine TG.pack (fun K=>Sl (bV) 2 K a6 c7 ([(⟨f.state.day,([(⟨s,text⟩:aI)]:List aI)⟩:eB)]:List eB)∧Rows (bV) 2 K c3 k) (fun H le=>⟨hG.mono (bV.mono) (le.at 0 J),i.mono (bV.mono) (le.at 1 J)⟩) fun au ⟨bv,ak⟩=>(XZ 2 (l:=k) (m:=([(⟨f.state.day,([(⟨s,text⟩:aI)]:List aI)⟩:eB)]:List eB)) T12.E25 J J J J J J bv ak bV.one J br fun a7 c8 c9 am=>(I J ?_));cases bt;intro a w c d;exact ⟨a7,c8,c9,au,c.selH [0,2,3,4] J,d.cuE J,am⟩
  rintro a w ⟨a2,c1,c4,o,c,d,ag⟩;refine TG.ap ?_ c d;refine C (A J (A J (TG.stillR 2 J 0 J (bV.mono) ag fun ca h4=>?_)));have:=h4.len;obtain ⟨r4,bw,bx⟩:=L hX;refine ZX 1 C67 J J J J J (fun w V σr c le=>w67 f ⟨z1,J,{p.mono (le.at 4 J) with f0:=(p.f0.mono (bV.mono) (le.at 4 J))}⟩ (parts:=t142) (h4.mono (bV.mono) (le.at 0 J)) bw c) ?_;rintro v_ cc ⟨cj,rfl,hI⟩;have bz:=hI;obtain ⟨cf,ck,rfl,b2⟩:=hI;have:=b2.len;obtain ⟨r2,b3,b4⟩:=L bx;refine bC C60 J (fun w H hH le=>w60 hH r4 (bQ.mono _ _ _ _ (le.at 0 J) bz) b3) ?_;obtain ⟨r5,hJ,hK⟩:=L b4
  let az:List Value:=((cJ f.state z1).set 6 (.slice a2 t142.length c1))
  rcases r5 with y0 | y0
  ·refine bC iZ J (fun w H hH le=>iK (jA r2 hJ)) (N (rg (A J (A J (nl J J (S 0 eJ J eC (S 2 dM J iC (S 4 jV J vD (eP 1 (cs:=[.slice a2 t142.length c1]) vD J J J J J J J (N (TG.pack (fun K=>aY K az (⟨({f.state with volume:=({f.state.volume with parts:=t142}:bN)}:cU)⟩:aJ)) (fun H le=>⟨{z1 with a0:=a2,c0:=c1},J,{p.mono (le.at 5 J) with f0:=(h4.mono (bV.mono) (le.at 1 J))}⟩) fun aw b5=>?_)))))))))));cases hK;intro a w c d;refine dW d J ?_;exact ⟨aw,[(1,bE v 67 az)],c.selH [0,6] J,_,J,J,b5⟩
  refine eE iZ J J J (fun w H hH le=>iL (jA r2 hJ)) ?_;cases hK;intro a w c d;exact ⟨d.defers,V,[_],c.selH [5,5] J,J,J⟩
 refine eE eY J J J (fun w H hH le=>iL (eZ (!f.state.bound) 8 bd)) ?_;cases ba;intro a w c d;exact ⟨d.defers,V,[_],c.selH [0,0] J,J,J⟩

theorem w72 {M:Prop} {W w:World} {H V:Hp} {σr:aK} {j:Nat} {ae:List Value} (b:aJ) (bb:aY V ae b) {bc:Option Addr} {ax:Nat} {bq:List Int} (o:Sl (aE (bZ .i64)) 1 V bc ax bq) (cy:aF) {r:aJ⊕Int} (hr:TM b bq cy=some r) (c:St M W H [V] ((1,bE j 67 ae)::σr) w):Calls prog 72 #[.pointer (some ⟨j,0,none⟩),.slice bc bq.length ax,.string (bs cy)] w (fD M W H V σr (rE (fun y e K A'=>∃ (dv:List Value),e=.returned (.tuple #[])∧A'=[(1,bE j 67 dv)]∧aY K dv y) (fun u=>.iface 126 (.agg #[.int .i64 u])) [(1,bE j 67 ae)] r)):=by
 have:=o.len;unfold TM at hr;obtain ⟨z,rfl,l⟩:=bb;have:=l.lens;refine cW (M:=M) func72 J ntmps72 J c ?_;refine C (A J (nl J J (S 0 eJ J eC (S 7 dM J Z4 (U G4 J (((sO 1 J).drop 7).take 1) J (nt J J ?_))))));obtain ⟨r3,x,s⟩:=L hr;rcases r3 with y6 | y6
 ·refine bC eY J (fun w H q le=>iK (eZ (!b.state.bound) 8 x)) (N (sq ?_));obtain ⟨Y,n,h4⟩:=L s;obtain ⟨p0,rfl⟩:=o.adr n;have h5:=o.atF n;obtain ⟨F,h0,h6⟩:=L h4;have h7:=o.atF h0;obtain ⟨R,h1,h8⟩:=L h6;have h9:=o.atF h1
  let k:List Value:=[.int .i64 0,.int .i64 0,.int .i64 0,.int .i64 0,.slice none 0 0]
  let g:List Value:=(cJ b.state z)
  refine JA (HR 21 6 (fun d=>([(2,bE d 27 k),(1,bE j 67 g)]++σr)) (fun _ _=>[])) 22 [21] [] mixed (fun _ _ _ _ _ h=>h) (by kernel_rfl) (by kernel_rfl) (by kernel_rfl) J (by kernel_rfl) (by kernel_rfl) (.nil) (dA J (A J D) (dA J (cP eO Z3 J J J J (aV n) D) (dA J (U G3 J (P 1 J h5) J D) (dA J (A J D) (dA J (nl J J D) (dA J (S 0 eJ J eC D) (dA J (S 0 dM J Z3 D) (DC.detQ (fun τ=>cI τ 1=some (bE j 67 g)) J J tv ⟨_,J,fun u v t=>by simp at t;subst t;rfl⟩ J J (fun τ hτ a w K c i B=>TG.pa c i (U G3 J ((sO 1 hτ).take 1) J D)) (dA J (A J D) (dA J (cP eO Z3 J J J J (aV h0) D) (dA J (U G3 J (P 1 J h7) J D) ?_)))))))))))
  let m:List Value:=[.int .i64 Y,.int .i64 b.state.day,.int .i64 F,.int .i64 R,.slice z.a0 b.state.volume.parts.length z.c0]
  refine dA J (A J D) (dA J (cP eO Z3 J J J J (aV h1) D) (dA J (U G3 J (P 1 J h9) J D) (dA J (A J D) (dA J (nl J J D) (dA J (S 0 eJ J eC D) (dA J (S 2 dM J iC D) (dA J (S 4 jV J vD D) (DC.detQ (fun τ=>cI τ 1=some (bE j 67 g)) J J tv ⟨_,J,fun u v t=>by simp at t;subst t;rfl⟩ J J (fun τ hτ a w K c i B=>TG.pa c i (U xS J (((sO 1 hτ).drop 6).take 1) J D)) (dA J (bu (cs:=m) T12.B27 J J J D) ?_)))))))));refine DC.turn (α:=Nat) 0 (fun d=>.pointer (some (⟨d,0,none⟩))) (fun _ _=>True) (fun d=>([(2,bE d 27 k),(1,bE j 67 g)]++σr)) J (fun _ _ _ _ h=>h) (by kernel_rfl) J J (fun a w K c i B=>TG.pa c i (al 2 (cs:=k) zeroValue27 J J fun d=>IY (f:=fun d=>.pointer (some (⟨d,0,none⟩))) (G:=fun _ _=>True) (σ1:=fun d=>([(2,bE d 27 k),(1,bE j 67 g)]++σr)) d tv)) fun d=>?_;refine DC.nil fun ab B=>?_;obtain ⟨_,_⟩:=B;refine eP 2 (cs:=m) iC J J J J J J J (N (C (cL lM iC J J (sO 2 J) J ?_)));obtain ⟨r0,hB,hC⟩:=L h8;refine bC C60 J (fun w H q le=>w60 q (⟨Y,b.state.day,F,R,b.state.volume.parts⟩:bN) ⟨_,_,J,(l.f0.mono (bV.mono) (le.at 1 J))⟩ hB) ?_;obtain ⟨r1,h2,h3⟩:=L hC;rcases r1 with y0 | y0
  ·refine bC iZ J (fun w H q le=>iK (jA r0 h2)) (N (rg (A J (A J (cL lM iC J J (sO 2 J) J (nl J J (S 0 eJ J eC (S 2 dM J iC (eP 1 (cs:=m) iC J J J J J J J (nl J J (S 0 eJ J eC ?_)))))))))))
   let p:List Value:=((((((cJ b.state z).set 2 (.int .i64 Y)).set 3 (.int .i64 b.state.day)).set 4 (.int .i64 F)).set 5 (.int .i64 R)).set 7 (.bool true))
   refine S 7 dM J Z4 (eP 1 (cs:=[.bool true]) Z4 J J J J J J J (N (TG.del 2 (TG.pack (fun K=>aY K p (⟨({b.state with volume:=(⟨Y,b.state.day,F,R,b.state.volume.parts⟩:bN),bound:=true}:cU)⟩:aJ)) (fun H le=>⟨z,J,{l.mono (le.at 1 J) with f0:=(l.f0.mono (bV.mono) (le.at 1 J))}⟩) fun Z hE=>?_))));cases h3;intro a w c i;refine dW i J ?_;exact ⟨Z,[(1,bE j 67 p)],c.selH [0,2] J,_,J,J,hE⟩
  refine eE iZ J J J (fun w H q le=>iL (jA r0 h2)) (TG.del 2 ?_);cases h3;intro a w c i;exact ⟨i.defers,V,[_],c.selH [1,1] J,J,J⟩
 refine eE eY J J J (fun w H q le=>iL (eZ (!b.state.bound) 8 x)) ?_;cases s;intro a w c i;exact ⟨i.defers,V,[_],c.selH [0,0] J,J,J⟩

theorem LJ {M:Prop} {W w:World} {H V:Hp} {σr:aK} {p:Option Addr} {o:Nat} {aj:List aR} (g:Sl (aE aO) 6 V p o aj) {r:List aR} (j:rZ aj=some r) (c:St M W H [V] σr w):Calls prog 135 #[.slice p aj.length o] w (fD M W H V σr (fun e K q=>∃ (ad:Option Addr) (cap:Nat),e=.returned (.slice ad r.length cap)∧q=[(1,aS.list ad cap 91 6 aO r)])):=by
 have:=g.len;unfold rZ at j;refine cW (M:=M) func135 J ntmps135 J c ?_;refine C (I J (sq (C (A J (IX tA J J (N ?_))))));refine cb J (fun d=>?_) (fun d=>?_)
 ·obtain rfl:=Sl.isNil g d;have k:=(aG j).2;refine C (I J (bK (TG.nilRow 1 91 6 ?_)));cases k;intro a w c h;refine dV h J J ?_;exact ⟨_,[(1,aS.list none 0 91 6 aO ([]:List aR))],c.selH [0,0] J,_,_,J,J⟩
 refine sk (C (MG 1 aO ([]:List aR) (cs:=[]) T12.E28 J J J J J J fun s=>(A J ?_)));obtain ⟨i,n⟩:=aG j;have:=fA ([]:List aR) aj;refine rO 1 (enc:=aO) (l:=([]:List aR)) (m:=aj) T12.E28 J J J J J J g 0 J (fun _=>J) (fun _=>J) J i fun f b=>(I J (bK ?_));cases n;intro a w c h;refine dV h J J ?_;exact ⟨_,[(1,aS.list f b 91 6 aO (([]:List aR)++aj))],c.selH [0,0] J,_,_,J,J⟩

theorem aEg (hH:H.le (hp W)) {z:Option Addr} {y:Nat} {j:List aR} (B:Sl (aE aO) 6 H z y j) {G:List Value} (b:aR) (ei:(aE aO) H G b) {r:List aR} (hr:DT j b=some r):Calls prog 147 #[.slice z j.length y,.agg G.toArray] W (eQ M H W (fun v K=>∃ (e:Option Addr) (c:Nat),v=.slice e r.length c∧Sl (aE aO) 6 K e c r)):=by
 have:=B.len;obtain rfl:=ei;unfold DT at hr;refine aL (M:=M) func147 J ntmps147 J hH ?_
 let g:List Value:=[.int .i64 b.number,.int .i64 b.day,.int .u8 b.kind,.int .i64 b.anchor,.string (bs b.text),.int .i64 b.new_]
 refine C (bI (cs:=g) J J J fun q1 K2 q=>(I J (sq ?_)));obtain ⟨k,t,s⟩:=L hr;refine kV 4 [1] [] mixed (fun _ _ _ _ _ h=>h) (by kernel_rfl) (by kernel_rfl) (by kernel_rfl) J (by kernel_rfl) (.nil) (dA J (A J D) (tS k.length (fun u x=>[(1,aS.list u x 91 6 aO k)]) J (fun a w K d p Z F=>TG.pa d p (yV 1 KT J J J J (fun w V σr d le=>LJ (aj:=j) (B.mono (aE.mono _) (le.at 2 J)) t d) fun o f=>F _ _)) fun o f=>(dA J (cL vO mX J J (P 1 J q) J D) ?_)))
 refine uT 1 (aE aO) 6 ([b]:List aR) (aE.mono _) J (bS (cs:=g) T12.E28 J J J J fun q9 n h2 i=>by
   have R:Sl (aE aO) 6 n (some q9) 1 ([b]:List aR):=Sl.litF (fun _=>J) (fun _=>J) h2 i J J J;have:=R.len
   exact oW (aE.mono _) R) fun a0 c0=>?_
 refine DC.nil fun aa Z=>?_;obtain ⟨Y,_,_⟩:=Z;have:=Y.len;obtain ⟨h3,h4⟩:=aG s;have:=fA k ([b]:List aR);refine rO 1 (enc:=aO) (l:=k) (m:=([b]:List aR)) T12.E28 J J J J J J Y 0 J (fun _=>J) (fun _=>J) J h3 fun a2 c1=>(I J (bK ?_));cases h4;intro a w d p;refine dV p J J ?_;exact ⟨⟨_,_,J,(d.listOut 1 J (fun _=>J))⟩,d.ext⟩

theorem w95 (s:H.le (hp W)) {m:List Value} (b:aR) (q:(aE aO) H m b) {j:Addr} {l:Value} {cm:aR→Option Bool} (p:aM H j [l]) (k:fE M prog H l (fZ (Va aO) Value.bool cm)) {r:Bool} (n:MV b cm=some r):Calls prog 95 #[.agg m.toArray,.pointer (some j)] W (bU M W (.bool r)):=by
 obtain rfl:=q;have c:=k;obtain ⟨f,e,d,rfl,_,_⟩:=k;unfold MV at n;refine aL (M:=M) func95 J ntmps95 J s ?_;refine C (bI (cs:=[.int .i64 b.number,.int .i64 b.day,.int .u8 b.kind,.int .i64 b.anchor,.string (bs b.text),.int .i64 b.new_]) J J J fun u t g=>(I J (C (U aDi J (P 1 J p) J (cL vO mX J J (P 0 J g) J ?_)))));obtain ⟨o,i,h⟩:=L n;refine oU (v:=.bool o) c 1 J J J J (fun H le=>⟨_,b,o,J,J,i,J⟩) (nt J J (I J (bK ?_)));cases h;exact cO J J

theorem aEh (hH:H.le (hp W)) {i:Option Addr} {h:Nat} {aj:List aR} (k:Sl (aE aO) 6 H i h aj) {q:Value} {cl:aR→Option Bool} (s:fE M prog H q (fZ (Va aO) Value.bool cl)) {r:Int} (x:JT aj cl=some r):Calls prog 131 #[.slice i aj.length h,q] W (bU M W (.int .i64 r)):=by
 have:=k.len;have d:=s;obtain ⟨e,c,b,rfl,_,_⟩:=s;unfold JT at x;refine aL (M:=M) func131 J ntmps131 J hH ?_;refine C (I J (sq (C (A J (dK tA J J (A J (N ?_)))))));obtain ⟨e19,F,t⟩:=L x;refine jn (fun a w=>∃ B,e19=.inl B∧St M W H [H] [] w∧aX [] 19 a []) ?_ ?_
 ·refine bk ?_;refine lp F (fun z a w=>St M W H [H] [] w∧aX [] 19 a [(0,.slice i aj.length h),(1,.func (.func e) c.toArray b.toArray),(7,.int .i64 (aj.length:Int)),(8,.int .i64 (z:Int))]) ?_ ?_
  ·exact cuE J
  rintro j z y0 l m a w ⟨g,f⟩;refine TG.ap ?_ g f;unfold wN at l;refine C (dT J J J (N (sq ?_)));refine ci J (fun n=>?_) (fun n=>?_)
  ·have G:=aH n l;refine sk (sq (bk (C (A J (I J (C (A J (A J ?_))))))));refine A J ?_;obtain ⟨x0,o,K⟩:=L G;obtain ⟨p0,rfl⟩:=k.adr o;have R:=k.atF o;refine cP tA mX J J J J (aV o) (cL vO mX J J (P 0 J R) J ?_);obtain ⟨y,V,u⟩:=L K;refine oU (v:=.bool y) d 0 J J J J (fun H le=>⟨_,x0,y,J,J,V,J⟩) (N ?_);refine cb J (fun p=>?_) (fun p=>?_)
   ·have Y:=aH p u;refine C (A J (I J (bK ?_)));cases Y;obtain rfl:=cZ.out m;cases t;exact cO J J
   have Z:=bM p u;refine sk (rg (dN J J J (by omega) (A J (N ?_))));cases Z;intro a w g f;exact ⟨_,m,g,f.cuE J⟩
  have hG:=aU n l;refine xt J ?_;cases hG;obtain rfl:=cZ.out m;intro a w g f;exact ⟨_,J,g,f.cut tv⟩
 rintro a w ⟨B,rfl,g,f⟩;apply TG.ap ?_ g f;refine C (I J (bK ?_));cases t;exact cO J J

theorem w94 (f:H.le (hp W)) {j:Option Addr} {i:Nat} {aj:List aR} (k:Sl (aE aO) 6 H j i aj) {l:Value} {cl:aR→Option Bool} (m:fE M prog H l (fZ (Va aO) Value.bool cl)) {r:Bool} (n:YR aj cl=some r):Calls prog 94 #[.slice j aj.length i,l] W (bU M W (.bool r)):=by
 have:=k.len;have b:=m;obtain ⟨e,d,c,rfl,_,_⟩:=m;unfold YR at n;refine aL (M:=M) func94 J ntmps94 J f ?_;refine C (I J (C (A J (A J ?_))));obtain ⟨o,h,g⟩:=L n;refine bC aAu J (fun w H f le=>aEh f (k.mono (aE.mono _) (le.at 0 J)) (cl:=cl) (b.mono (le.at 0 J)) h) (rN J J J (I J (bK ?_)));cases g;exact cO J J

theorem w61 (j:H.le (hp W)) {p:Option Addr} {o:Nat} {h:List aR} (q:Sl (aE aO) 6 H p o h) {s:Value} {right:aR→Option Bool} (t:fE M prog H s (fZ (Va aO) Value.bool right)) {r:Bool} (x:TN h right=some r):Calls prog 61 #[.slice p h.length o,s] W (bU M W (.bool r)):=by
 have:=q.len;have d:=t;obtain ⟨e,c,b,rfl,_,_⟩:=t;unfold TN at x;refine aL (M:=M) func61 J ntmps61 J j ?_;refine C (bI (cs:=[.func (.func e) c.toArray b.toArray]) J J J fun y V k=>(I J (C (A J (fn J J J ?_)))));obtain ⟨K,n,m⟩:=L x
 refine oL (v:=.bool K) C94 J J J J (fun w H j le=>by
   have l:fE M prog H (.func (.func 95) #[] #[.pointer (some y)]) (fZ (Va aO) Value.bool (fun f=>MV f right)):=⟨95,[],[.pointer (some y)],rfl,C95,fun w_ z g Z u F B=>by obtain ⟨R,f,Y,rfl,i,G,rfl⟩:=B;cases i;exact w95 (H:=z) F  f rfl (cm:=right) (k.mono ((le.at 0 rfl).trans u)) (d.mono ((le.at 1 rfl).trans u)) G⟩
   exact w94 j (q.mono (aE.mono _) (le.at 1 J)) (cl:=(fun f=>MV f right)) l n) ?_
 refine nt J J (I J (bK ?_));cases m;exact cO J J

theorem w62 {M:Prop} {W:World} {cq:List Value} (c:aR) (cx:(aE aO) (hp W) cq c) {r:Bool} (hr:MW c=some r):Calls prog 62 #[.agg cq.toArray] W (bU M W (.bool r)):=by
 obtain rfl:=cx;unfold MW at hr;refine aL (M:=M) func62 J ntmps62 J (Hp.le.refl _) ?_;refine C (bI (cs:=[.int .i64 c.number,.int .i64 c.day,.int .u8 c.kind,.int .i64 c.anchor,.string (bs c.text),.int .i64 c.new_]) J J J fun q1 j b=>(I J (sq (sq ?_))));obtain ⟨t0,hL,h9⟩:=L hr;refine jn (fun a w=>St M W (hp W) [j,(hp W)] [] w∧aX [] 51 a [(1,.pointer (some q1)),(18,.bool t0)]) ?_ ?_
 ·refine rg (S 0 lP J Z3 (U G3 J ((P 0 J b).take 1) J ?_));obtain ⟨r22,hM,hB⟩:=L hL;refine bC PX J (fun w H i le=>QN c.number 1 999 hM) (nt J J (A J ?_));rcases Bool.eq_false_or_eq_true (r22) with d | d
  ·have hN:=aH d hB;refine gN J J (congrArg not (d)) (S 1 lP J Z3 (gN J J (congrArg not (d)) (U G3 J (((P 0 J b).drop 1).take 1) J (gN J J (congrArg not (d)) ?_))));obtain ⟨r0,hO,hC⟩:=L hN;refine bC RJ J (fun w H i le=>RK c.day hO) (gN J J (congrArg not (d)) (nt J J (pF J J (congrArg not (d)) J (A J ?_))));rcases Bool.eq_false_or_eq_true (r0) with e | e
   ·have hP:=aH e hC;refine gN J J (congrArg not (e)) (S 3 lP J Z3 (gN J J (congrArg not (e)) (U G3 J (((P 0 J b).drop 3).take 1) J (gN J J (congrArg not (e)) ?_))));obtain ⟨r3,hR,hT⟩:=L hP;refine bC C97 J (fun w H i le=>w97 c.anchor hR) (gN J J (congrArg not (e)) (nt J J (pF J J (congrArg not (e)) J (N ?_))));cases hT;exact cuE J
   have hV:=bM e hC;refine bJ 4 J J J (congrArg not (e)) J (pT J J (congrArg not (e)) J (N ?_));cases hV;exact cuE J
  have hW:=bM d hB;refine bJ 4 J J J (congrArg not (d)) J (pT J J (congrArg not (d)) J (A J (bJ 4 J J J J J (pT J J J J (N ?_)))));cases hW;exact cuE J
 refine X ?_;refine cb J (fun k=>?_) (fun k=>?_)
 ·have hX:=aH k h9;refine C (I J (bK ?_));cases hX;exact cO J J
 have hE:=bM k h9;refine sk (sq (C (S 2 lP J Z5 (U G5 J (((P 0 J b).drop 2).take 1) J (N (bk (C (fY J J J (a1 J ?_)))))))));refine N ?_;refine ci J (fun l=>?_) (fun l=>?_)
 ·have o:=aH l hE;refine sq ?_;obtain ⟨t1,p,q⟩:=L o;refine jn (fun a w=>St M W (hp W) [j,(hp W)] [] w∧aX [] 51 a [(2,.bool t1)]) ?_ ?_
  ·refine rg (S 4 lP J Z9 (U G9 J (((P 0 J b).drop 4).take 1) J ?_));obtain ⟨r1,s,hF⟩:=L p;refine bC C98 J (fun w H i le=>w98 c.text s) (A J ?_);rcases Bool.eq_false_or_eq_true (r1) with f | f
   ·have t:=aH f hF;refine gN J J (f) (S 5 lP J Z3 (gN J J (f) (U G3 J ((P 0 J b).drop 5) J (gN J J (f) (fY J J J (pT J J (f) J (I J ?_)))))));cases t;exact cuE J
   have u:=bM f hF;refine bJ 3 J J J (f) J (pF J J (f) J (I J ?_));cases u;exact cuE J
  refine X ?_;refine bK ?_;cases q;exact cO J J
 have hG:=aU l hE;refine C (fY J J J (I J ?_));refine ci J (fun m=>?_) (fun m=>?_)
 ·have v:=aH m hG;refine sq ?_;obtain ⟨t2,hI,x⟩:=L v;refine jn (fun a w=>St M W (hp W) [j,(hp W)] [] w∧aX [] 51 a [(2,.bool t2)]) ?_ ?_
  ·refine rg (S 4 lP J Z9 (U G9 J (((P 0 J b).drop 4).take 1) J (qL J J J (A J ?_))));by_cases h:c.text=[]
   ·have y:=aH h hI;refine gt h J (S 5 lP J Z3 (gt h J (U G3 J ((P 0 J b).drop 5) J (gt h J (fY J J J (pt h J J (I J ?_)))))));cases y;exact cuE J
   have z:=aU h hI;refine bJ 3 J J J (decide_eq_false h) J (pf h J J (I J ?_));cases z;exact cuE J
  refine X ?_;refine bK ?_;cases x;exact cO J J
 have hJ:=aU m hG;refine C (fY J J J (I J ?_));refine ci J (fun n=>?_) (fun n=>?_)
 ·have B:=aH n hJ;refine sq ?_;obtain ⟨t3,F,G⟩:=L B;refine jn (fun a w=>St M W (hp W) [j,(hp W)] [] w∧aX [] 51 a [(2,.bool t3)]) ?_ ?_
  ·refine rg (S 4 lP J Z9 (U G9 J (((P 0 J b).drop 4).take 1) J ?_));obtain ⟨r2,K,hK⟩:=L F;refine bC C98 J (fun w H i le=>w98 c.text K) (A J ?_);rcases Bool.eq_false_or_eq_true (r2) with g | g
   ·have R:=aH g hK;refine gN J J (g) (S 5 lP J Z3 (gN J J (g) (U G3 J ((P 0 J b).drop 5) J (gN J J (g) ?_))));obtain ⟨r4,V,Y⟩:=L R;refine bC C97 J (fun w H i le=>w97 c.new_ V) (pT J J (g) J (I J ?_));cases Y;exact cuE J
   have Z:=bM g hK;refine bJ 3 J J J (g) J (pF J J (g) J (I J ?_));cases Z;exact cuE J
  refine X ?_;refine bK ?_;cases G;exact cO J J
 have aa:=aU n hJ;refine sk (C (I J (bK ?_)));cases aa;exact cO J J

theorem LK {M:Prop} {W:World} (b:Int) {r:Bool} (c:uP b=some r):Calls prog 194 #[.int .i64 b] W (bU M W (.bool r)):=by
 unfold uP at c;refine aL (M:=M) func194 J ntmps194 J (Hp.le.refl _) ?_;refine C (I J (C (A J (A J (iB J J J (I J (bK ?_)))))));obtain rfl:=sj c;exact cO J J

theorem WC {M:Prop} {W:World} (c:Int) (d:Int) {r:Int} (q:AH c d=some r):Calls prog 188 #[.int .i64 c,.int .i64 d] W (bU M W (.int .i64 r)):=by
 unfold AH at q;refine aL (M:=M) func188 J ntmps188 J (Hp.le.refl _) ?_;refine C (I J (C (A J ?_)));obtain ⟨B,k,j⟩:=L q;refine bC KV J (fun w H z le=>LK c k) (I J (C (A J ?_)));obtain ⟨F,l,b⟩:=L j;refine bC KV J (fun w H z le=>LK d l) (I J (sq (C (A J (N ?_)))));refine cb J (fun e=>?_) (fun e=>?_)
 ·have m:=aH e b;refine sq (C (A J (N ?_)));refine cb J (fun f=>?_) (fun f=>?_)
  ·have s:=aH f m;refine C (I J (bK ?_));cases s;exact cO J J
  have t:=bM f m;refine sk (C (I J (bK ?_)));cases t;exact cO J J
 have n:=bM e b;refine sk (sq (C (A J (N ?_))));refine cb J (fun g=>?_) (fun g=>?_)
 ·have u:=aH g n;refine C (I J (bK ?_));cases u;exact cO J J
 have o:=bM g n;refine sk (sq (C (A J (A J (dT J J J (N ?_))))));refine ci J (fun h=>?_) (fun h=>?_)
 ·have v:=aH h o;refine C (I J (bK ?_));cases v;exact cO J J
 have p:=aU h o;refine sk (sq (C (A J (A J (nC J J J (N ?_))))));refine ci J (fun i=>?_) (fun i=>?_)
 ·have x:=aH i p;refine C (I J (bK ?_));cases x;exact cO J J
 have y:=aU i p;refine sk (C (I J (bK ?_)));cases y;exact cO J J

theorem aEi (B:H.le (hp W)) {f:Option Addr} {e:Nat} {vals:List Int} (g:Sl (aE (bZ .i64)) 1 H f e vals) {r:Int} (p:DU vals=some r):Calls prog 187 #[.slice f vals.length e] W (bU M W (.int .i64 r)):=by
 have:=g.len;unfold DU at p;refine aL (M:=M) func187 J ntmps187 J B ?_;refine C (I J (C (I J (sq (C (A J ?_))))));refine dK eO J J (A J (N ?_));obtain ⟨d,t,n⟩:=L p;refine jn (fun a w=>∃ s,d=.inl s∧St M W H [H] [] w∧aX [] 18 a [(3,.int .i64 0)]) ?_ ?_
 ·refine bk ?_;refine lp t (fun q a w=>St M W H [H] [] w∧aX [] 18 a [(3,.int .i64 0),(6,.slice f vals.length e),(7,.int .i64 (vals.length:Int)),(8,.int .i64 (q:Int))]) ?_ ?_
  ·exact cuE J
  rintro j q K h i a w ⟨c,b⟩;refine TG.ap ?_ c b;unfold pU at h;refine C (dT J J J (N (sq ?_)));refine ci J (fun k=>?_) (fun k=>?_)
  ·have u:=aH k h;refine sk (sq (bk (C ?_)));obtain ⟨G,l,o⟩:=L u;obtain ⟨F,rfl⟩:=g.adr l;have v:=g.atF l;refine cP eO Z3 J J J J (aV l) (U G3 J (P 0 J v) J (I J (C (A J (A J (iB J J J (N ?_)))))));refine ci J (fun m=>?_) (fun m=>?_)
   ·have x:=aH m o;refine C (A J (I J (bK ?_)));cases x;obtain rfl:=cZ.out i;cases n;exact cO J J
   have y:=aU m o;refine sk (rg (dN J J J (by omega) (A J (N ?_))));cases y;intro a w c b;exact ⟨_,i,c,b.cuE J⟩
  have z:=aU k h;refine xt J ?_;cases z;obtain rfl:=cZ.out i;intro a w c b;exact ⟨_,J,c,b.cuE J⟩
 rintro a w ⟨s,rfl,c,b⟩;apply TG.ap ?_ c b;refine C (A J (I J (bK ?_)));cases n;exact cO J J

theorem QO {M:Prop} {W:World} {k:List Value} (b:aR) (p:(aE aO) (hp W) k b) {l:List Value} (c:aR) (q:(aE aO) (hp W) l c) {r:Int} (n:sA b c=some r):Calls prog 137 #[.agg k.toArray,.agg l.toArray] W (bU M W (.int .i64 r)):=by
 obtain rfl:=p;obtain rfl:=q;unfold sA at n;refine aL (M:=M) func137 J ntmps137 J (Hp.le.refl _) ?_;refine C (bI (cs:=[.int .i64 b.number,.int .i64 b.day,.int .u8 b.kind,.int .i64 b.anchor,.string (bs b.text),.int .i64 b.new_]) J J J fun G z e=>(bI (cs:=[.int .i64 c.number,.int .i64 c.day,.int .u8 c.kind,.int .i64 c.anchor,.string (bs c.text),.int .i64 c.new_]) J J J fun K B f=>(I J (sq ?_))));obtain ⟨r7,j,i⟩:=L n;refine dR 9 mixed (by kernel_rfl) J (E J (S 1 lP J Z3 D) (E J (U G3 J (((P 2 J e).drop 1).take 1) J D) (E J (S 1 lP J Z3 D) (E J (U G3 J (((P 1 J f).drop 1).take 1) J D) (E J (bC VD J (fun w H h le=>WC b.day c.day j) D) (E J (S 0 lP J Z3 D) (E J (U G3 J ((P 2 J e).take 1) J D) (E J (S 0 lP J Z3 D) (E J (U G3 J ((P 1 J f).take 1) J D) (DF.nil fun o F=>?_))))))))));obtain ⟨r11,s,t⟩:=L i;refine bC VD J (fun w H h le=>WC b.number c.number s) (bS (cs:=[.int .i64 r7,.int .i64 r11]) T12.E33 J J J J fun y g u d=>?_);have m:Sl (aE (bZ .i64)) 1 g (some y) 2 ([r7,r11]:List Int):=Sl.litF (fun _=>J) (fun _=>J) u d J J J;have:=m.len;obtain ⟨R,v,x⟩:=L t;refine bC aBo J (fun w H h le=>aEi h (m.mono (aE.mono _) (le.at 0 J)) v) (I J (bK ?_));cases x;exact cO J J

theorem aKj (hH:H.le (hp W)) {dz:Value} {yield:aR→Option Bool} (ej:fE M prog H dz (fZ (Va aO) Value.bool yield)) {bn:Addr} {gp:Option Addr} {gh:Nat} {cm:List aR} (bw:aM H bn [.slice gp cm.length gh]) (br:Sl (aE aO) 6 H gp gh cm) {t:Addr} (z:Int) (fl:aM H t [.int .i64 z]) {r:Unit} (hr:TO yield cm z=some r):Calls prog 134 #[dz,.pointer (some bn),.pointer (some t)] W (bU M W (.tuple #[])):=by
 have g:=ej;obtain ⟨d,c,b,rfl,_,_⟩:=ej;have:=br.len;unfold TO at hr;refine aL (M:=M) func134 J ntmps134 J hH ?_;refine C (U xW J (P 0 J bw) J ?_);obtain ⟨s,ac,aa⟩:=L hr;refine yV 1 KT J J J J (fun w V σr f le=>LJ (aj:=cm) (br.mono (aE.mono _) (le.at 0 J)) ac f) fun n e=>(TG.len 1 J fun _=>(I J (C (A J ?_))));obtain ⟨l6,q,ab⟩:=L aa;have p:l6.length=s.length:=(gO q);refine JI 1 (enc:=aO) (V:=Va aO) (V':=Va aO) (fun _=>rfl) (fun _=>rfl) srt136 PU J J J J J J (fun H le=>⟨137,[],[],rfl,PV,fun w_ K_ x v_ hK hw hs=>by obtain ⟨af,ag,ad,ae,r_,rfl,B,G,hx,rfl⟩:=hs;cases B;cases G;exact QO  ad rfl ae rfl  hx⟩) (fun _ _=>rfl) (fun _ _=>rfl) q (N (C (A rfl (dK tA J J (A rfl (N ?_))))));obtain ⟨y,h9,h6⟩:=L ab
 let o:aK:=[(1,aS.list n e 91 6 aO l6)]
 refine jn (fun a w=>∃ t34,y=.inl t34∧St M W H [H] o w∧aX [] 28 a []) ?_ ?_
 ·refine bk ?_;refine lp h9 (fun s1 a w=>St M W H [H] o w∧aX [] 28 a [(0,.func (.func d) c.toArray b.toArray),(2,.pointer (some t)),(11,.slice n s.length e),(12,.int .i64 (s.length:Int)),(13,.int .i64 (s1:Int))]) ?_ ?_
  ·exact cuE J
  rintro j s1 y0 F K a w ⟨f,i⟩;refine TG.ap ?_ f i;unfold DV at F;refine C (dT J J J (N (sq ?_)));refine ci J (fun R=>?_) (fun R=>?_)
  ·have hB:=aH R F;refine sk (sq (bk (C ?_)));obtain ⟨m,Y,hC⟩:=L hB;refine TG.addr 1 J (fR Y) fun b0 h=>?_;subst h;refine cP tA mX J J J J (Nat.lt_of_lt_of_eq (aV Y) p) (cL vO mX J J (sE (enc:=aO) 1 J (fun _=>J) Y) J (va (cs:=[.int .i64 m.number,.int .i64 m.day,.int .u8 m.kind,.int .i64 m.anchor,.string (bs m.text),.int .i64 m.new_]) zeroValue91 mX J J J J J J J J fun q0 u l=>(N (sq ?_))));obtain ⟨t0,h7,h8⟩:=L hC;refine jn (fun a w=>St M W H [u,H] [(1,aS.list (some ⟨b0,0,none⟩) e 91 6 aO l6)] w∧aX [] 28 a [(0,.func (.func d) c.toArray b.toArray),(2,.pointer (some t)),(11,.slice (some ⟨b0,0,none⟩) s.length e),(12,.int .i64 (s.length:Int)),(13,.int .i64 (s1:Int)),(26,.bool t0)]) ?_ ?_
   ·refine rg (S 1 lP J Z3 (U G3 J (((P 0 J l).drop 1).take 1) J (U G3 J (P 1 J fl) J (nC J J J (A J ?_)))));by_cases k:z < m.day
    ·have hE:=aH k h7;refine bJ 4 J J J (decide_eq_true k) J (pt k J J (N ?_));cases hE;exact cuE J
    have hF:=aU k h7;refine cA k J (A J (cA k J (cL vO mX J J (P 0 J l) J (cA k J ?_))));obtain ⟨r0,hG,hI⟩:=L hF;refine oU (v:=.bool r0) g 1 J J J J (fun H le=>⟨_,m,r0,J,J,hG,J⟩) (cA k J (nt J J (pf k J J (N ?_))));cases hI;exact cuE J
   refine X ?_;refine cb J (fun Z=>?_) (fun Z=>?_)
   ·have hJ:=aH Z h8;refine bK ?_;cases hJ;obtain rfl:=cZ.out K;cases h6;intro a w f i;refine dW i J ?_;exact ⟨J,f.ext⟩
   have hL:=bM Z h8;refine sk (rg (dN J J J (by omega) (A J (N ?_))));cases hL;intro a w f i;exact ⟨_,K,f.selH [1] J,i.cuE J⟩
  have hM:=aU R F;refine xt J ?_;cases hM;obtain rfl:=cZ.out K;intro a w f i;exact ⟨_,J,f,i.cut tv⟩
 rintro a w ⟨t34,rfl,f,i⟩;apply TG.ap ?_ f i;cases h6;intro a w f i;refine dW i J ?_;exact ⟨J,f.ext⟩

theorem w64 (hH:H.le (hp W)) {ce:List Value} (B:bN) (cw:(bQ) H ce B) {aw:Option Addr} {Z:Nat} {errata:List aR} (bl:Sl (aE aO) 6 H aw Z errata) {r:Int} (hr:TP B errata=some r):Calls prog 64 #[.agg ce.toArray,.slice aw errata.length Z] W (bU M W (.int .i64 r)):=by
 have y:=cw;obtain ⟨ae,aa,rfl,bc⟩:=cw;have:=bc.len;have:=bl.len;unfold TP at hr;refine rP (M:=M) func64 J ntmps64 J hH ?_;refine C (bI (cs:=[.int .i64 B.number,.int .i64 B.bound,.int .i64 B.height,.int .i64 B.width,.slice ae B.parts.length aa]) J J J fun q4 x a7=>(al 1 (cs:=[.int .i64 0]) zeroValue43 J J fun b7=>(N (C (MH 2 fF Value.bool J fun o=>(al 3 (cs:=[.map none]) zeroValue147 J J fun b9=>(eP 3 (cs:=[.map (some o)]) VW J J J J J J J (N (sq ?_)))))))));refine C (cL lM iC J J (P 0 J a7) J ?_);obtain ⟨r10,hN,hO⟩:=L hr;refine gE YU J J J J (fun w H hH le=>YV hH B (bQ.mono _ _ _ _ (le.at 1 J) y) hN) ?_;rintro v_ g ⟨a2,c1,rfl,h3⟩;have:=h3.len;refine dK tB J J (A J (N ?_));obtain ⟨ag,hP,hR⟩:=L hO
 let m:aS:=bE b7 43 [.int .i64 0]
 refine jn (fun a w=>St M W H [g,x,H] [(3,bE b9 147 [.map (some o)]),(2,aS.map' fF Value.bool o ag),(1,m)] w∧aX [] 35 a [(1,.slice aw errata.length Z),(4,.pointer (some (⟨b7,0,none⟩))),(5,.pointer (some (⟨b9,0,none⟩)))]) ?_ ?_
 ·refine bk ?_;refine lp hP (fun s2 a w=>St M W H [g,x,H] [(3,bE b9 147 [.map (some o)]),(2,aS.map' fF Value.bool o s2.2),(1,m)] w∧aX [] 35 a [(1,.slice aw errata.length Z),(4,.pointer (some (⟨b7,0,none⟩))),(5,.pointer (some (⟨b9,0,none⟩))),(11,.slice a2 r10.length c1),(12,.int .i64 (r10.length:Int)),(13,.int .i64 (s2.1:Int))]) ?_ ?_
  ·exact cuE J
  rintro j s2 y0 h4 hE a w ⟨b,d⟩;refine TG.ap ?_ b d;unfold DW at h4;refine C (dT J J J (N (sq ?_)));refine ci J (fun h5=>?_) (fun h5=>?_)
  ·have hT:=aH h5 h4;refine sk (sq (bk (C ?_)));obtain ⟨x1,h6,hV⟩:=L hT;obtain ⟨p0,rfl⟩:=h3.adr h6;have hW:=h3.atF h6;refine cP tB fU J J J J (aV h6) (cL nU fU J J (P 0 J hW) J (va (cs:=[.int .i64 x1.anchor,.string (bs x1.text)]) zeroValue117 fU J J J J J J J J fun q1 bf ab=>(N (rg (U BC J (sO 3 J) J (S 0 nZ J Z3 (U G3 J ((P 0 J ab).take 1) J (HQ 2 (ke:=fF) (enc:=Value.bool) x1.anchor true kY U3 J J J J (N (rg (dN J J J (by omega) ?_)))))))))));refine A J (N ?_);cases hV;intro a w b d;exact ⟨_,hE,b.selH [1,2,3] J,d.cuE J⟩
  have hX:=aU h5 h4;refine xt J ?_;cases hX;obtain rfl:=cZ.out hE;exact cuE J
 rintro a w ⟨b,d⟩;apply TG.ap ?_ b d;refine sq (C (A J (YF C99 func99 J ntmps99 J J J J (C (bI (cs:=[.slice aw errata.length Z]) J J J fun q2 i ac=>(bI (cs:=[.int .i64 99999]) J J J fun q0 k ad=>(I J (sq ?_))))))));refine rg (fn J J J (I J (bK ?_)));intro a w b d;refine dV d J J ?_;refine ⟨_,J,fun a d=>?_⟩;refine dY J d b (N (bk ?_));obtain ⟨t5,an,hF⟩:=L hR
 let l:aS:=bE b9 147 [.map (some o)]
 refine YD 4 5 UX func134 J ntmps134 J J (fun u c f w=>(∃ (t1:(List (Int×Bool))),t5=(.inl t1)∧St M W H [k,i,g,x,H] [(4,aS.blk u (f .ready none)),(5,aS.blk c (.deferred (some []))),(3,l),(2,aS.map' fF Value.bool o t1),(1,m)] w)∨(∃ (t0:Nat×(List (Int×Bool))),t5=(.inr t0)∧St M W H [k,i,g,x,H] [(4,aS.blk u (f .done (some .ret))),(5,aS.blk c (.deferred (some []))),(3,l),(2,aS.map' fF Value.bool o t0.2),(1,bE b7 43 [.int .i64 (t0.1:Int)])] w)) ?_ ?_
 ·intro u c f t7 G e;refine C (U xW J (P 1 J ac) J ?_);obtain ⟨r0,ao,ar⟩:=L an;refine yV 6 KT J J J J (fun w V σr b le=>LJ (aj:=errata) (bl.mono (aE.mono _) (le.at 4 J)) ao b) fun a0 K=>(TG.len 6 J fun _=>(I J (C (A J ?_))));obtain ⟨R,hG,au⟩:=L ar;have ax:R.length=r0.length:=(gO hG);refine JI 6 (enc:=aO) (V:=Va aO) (V':=Va aO) (fun _=>rfl) (fun _=>rfl) srt136 PU J J J J J J (fun H le=>⟨137,[],[],rfl,PV,fun w_ K_ af v_ hK hw hs=>by obtain ⟨bg,bh,bd,be,r_,rfl,ak,am,hx,rfl⟩:=hs;cases ak;cases am;exact QO  bd rfl be rfl  hx⟩) (fun _ _=>rfl) (fun _ _=>rfl) hG (N (C (A rfl (dK tA J J (A rfl (N ?_))))));obtain ⟨ai,ay,h7⟩:=L au;refine jn (fun a w=>∃ t2,ai=.inl t2∧St M W H [k,i,g,x,H] [(6,aS.list a0 K 91 6 aO R),(4,aS.blk u (f .ready none)),(5,aS.blk c (.deferred (some []))),(3,l),(2,aS.map' fF Value.bool o t2),(1,m)] w∧aX [] 28 a []) ?_ ?_
  ·refine bk ?_;refine lp ay (fun s1 a w=>St M W H [k,i,g,x,H] [(6,aS.list a0 K 91 6 aO R),(4,aS.blk u (f .ready none)),(5,aS.blk c (.deferred (some []))),(3,l),(2,aS.map' fF Value.bool o s1.2),(1,m)] w∧aX [] 28 a [(0,.func (.yield u) #[] #[]),(2,.pointer (some q0)),(11,.slice a0 r0.length K),(12,.int .i64 (r0.length:Int)),(13,.int .i64 (s1.1:Int))]) ?_ ?_
   ·exact cuE J
   rintro j s1 y1 h8 h2 a w ⟨b,d⟩;refine TG.ap ?_ b d;unfold DX at h8;refine C (dT J J J (N (sq ?_)));refine ci J (fun h9=>?_) (fun h9=>?_)
   ·have az:=aH h9 h8;refine sk (sq (bk (C ?_)));obtain ⟨z,hB,hI⟩:=L az;refine TG.addr 6 J (fR hB) fun b0 h=>?_;subst h
    let F:List Value:=[.int .i64 z.number,.int .i64 z.day,.int .u8 z.kind,.int .i64 z.anchor,.string (bs z.text),.int .i64 z.new_]
    refine cP tA mX J J J J (Nat.lt_of_lt_of_eq (aV hB) ax) (cL vO mX J J (sE (enc:=aO) 6 J (fun _=>J) hB) J (va (cs:=F) zeroValue91 mX J J J J J J J J fun q3 p s=>(N (C (S 1 lP J Z3 (U G3 J (((P 0 J s).drop 1).take 1) J (U G3 J (P 1 J ad) J (nC J J J (A J ?_)))))))));by_cases q:99999 < z.day
    ·have a3:=aH q hI;refine bJ 4 J J J (decide_eq_true q) J (pt q J J (N (cT J J (bK ?_))));cases a3;obtain rfl:=cZ.out h2;refine TG.del 6 ?_;cases h7;intro a w b d;refine dW d J ?_;exact ⟨_,J,.inl ⟨_,J,b.selH [1,2,3,4,5] J⟩⟩
    have a4:=aU q hI;refine cA q J (A J (cA q J (cL vO mX J J (P 0 J s) J (cA q J ?_))));obtain ⟨t6,hJ,hL⟩:=L a4;refine yl 4 [] (L1:=(23,.agg F.toArray)::_) J J J G e J J J (fun v w=>(∃ (t3:Nat),t6=(.inl t3)∧v=.bool false∧St M W H [p,k,i,g,x,H] [(6,aS.list (some ⟨b0,0,none⟩) K 91 6 aO R),(4,aS.blk u (f .done (some .ret))),(5,aS.blk c (.deferred (some []))),(3,l),(2,aS.map' fF Value.bool o s1.2),(1,bE b7 43 [.int .i64 (t3:Int)])] w)∨(∃ (t4:(List (Int×Bool))),t6=(.inr t4)∧v=.bool true∧St M W H [p,k,i,g,x,H] [(6,aS.list (some ⟨b0,0,none⟩) K 91 6 aO R),(4,aS.blk u (f .ready none)),(5,aS.blk c (.deferred (some []))),(3,l),(2,aS.map' fF Value.bool o t4),(1,m)] w)) ?_ ?_
    ·refine rg (va (cs:=F) zeroValue91 mX J J J J J J J J fun q5 Y n=>(N (bR 4 e J (bk (sq (C (U BC J (sO 3 J) J (S 3 lP J Z3 (U G3 J (((P 0 J n).drop 3).take 1) J (IZ (ke:=fF) (enc:=Value.bool) z.anchor (z0:=false) kY U3 zeroValue4 J J J J (mO 2 J) ?_))))))))));refine nt J J (N ?_);refine cb J (fun h1=>?_) (fun h1=>?_)
     ·replace h1:=lU h1
      have a5:=bM h1 hJ;refine C (eP 1 (cs:=[.int .i64 7]) zM J J J J J J J (N (bK ?_)));cases a5;refine eR 4 (some .ret) e J fun w b=>?_;exact .inl ⟨_,J,J,b.selH [1,2,3,4,5,6] J⟩
     replace h1:=lV h1
     have a6:=aH h1 hJ;refine sk (C (S 2 lP J Z5 (U G5 J (((P 0 J n).drop 2).take 1) J (fY J J J (N ?_)))));obtain ⟨t8,hM,a8⟩:=L a6;refine jn (fun a w=>St M W H [Y,p,k,i,g,x,H] [(6,aS.list (some ⟨b0,0,none⟩) K 91 6 aO R),(4,aS.blk u (f .busy none)),(5,aS.blk c (.deferred (some []))),(3,l),(2,aS.map' fF Value.bool o t8),(1,m)] w∧aX [] 35 a []) ?_ ?_
     ·refine ci J (fun hC=>?_) (fun hC=>?_)
      ·have a9:=aH hC hM;refine rg (U BC J (sO 3 J) J (S 5 lP J Z3 (U G3 J ((P 0 J n).drop 5) J (HQ 2 (ke:=fF) (enc:=Value.bool) z.new_ true kY U3 J J J J (N ?_)))));cases a9;exact cu tv
      have ba:=aU hC hM;refine sk ?_;cases ba;exact cu tv
     refine X ?_;cases a8;refine eR 4 none e J fun w b=>?_;exact .inr (⟨_,J,J,b.selH [1,2,3,4,5,6] J⟩)
    rintro a w v d (⟨t3,rfl,rfl,b⟩ | ⟨t4,rfl,rfl,b⟩)
    ·refine dY J d b (cA q J (nt J J (pf q J J (N (cT J J (bK ?_))))));cases hL;obtain rfl:=cZ.out h2;refine TG.del 6 ?_;cases h7;intro a w b d;refine dW d J ?_;exact ⟨_,J,.inr (⟨_,J,b.selH [1,2,3,4,5] J⟩)⟩
    refine dY J d b (cA q J (nt J J (pf q J J (N (cF J J (sk (rg (dN J J J (by omega) (A J (N ?_))))))))));cases hL;intro a w b d;exact ⟨_,h2,b.selH [1,2,3,4,5] J,d.cuE J⟩
   have bb:=aU h9 h8;refine xt J ?_;cases bb;obtain rfl:=cZ.out h2;intro a w b d;exact ⟨_,J,b,d.cut tv⟩
  rintro a w ⟨t2,rfl,b,d⟩;apply TG.ap ?_ b d;refine TG.del 6 ?_;cases h7;intro a w b d;refine dW d J ?_;exact ⟨_,J,.inl ⟨_,J,b⟩⟩
 rintro u c f t7 a w e d (⟨t1,rfl,b⟩ | ⟨t0,rfl,b⟩)
 ·refine TG.ap ?_ b d;refine YE 4 e J (C (eP 1 (cs:=[.int .i64 0]) zM J J J J J J J (N (bK ?_))));cases hF;refine QY (SL 5 J (QZ ?_));intro a w b d;refine vK d J (cY.cell J (iJ sQ (dD (b.get (t:=1) J)) J)) ?_;exact ⟨J,b.ext⟩
 refine TG.ap ?_ b d;refine elC 4 e J (bK ?_);cases hF;refine QY (SL 5 J (QZ ?_));intro a w b d;refine vK d J (cY.cell J (iJ sQ (dD (b.get (t:=1) J)) J)) ?_;exact ⟨J,b.ext⟩

theorem YW (p:H.le (hp W)) {ce:List Value} (m:bN) (cw:(bQ) H ce m) {s:Option Addr} {i:Nat} {errata:List aR} (z:Sl (aE aO) 6 H s i errata) {r:Int} (hr:MX m errata=some r):Calls prog 43 #[.agg ce.toArray,.slice s errata.length i] W (bU M W (.int .i64 r)):=by
 have c:=cw;obtain ⟨R,B,rfl,bb⟩:=cw;have:=bb.len;have:=z.len;unfold MX at hr;refine aL (M:=M) func43 J ntmps43 J p ?_;refine C (bI (cs:=[.int .i64 m.number,.int .i64 m.bound,.int .i64 m.height,.int .i64 m.width,.slice R m.parts.length B]) J J J fun y x u=>(I J (sq (C (cL lM iC J J (P 0 J u) J ?_)))));obtain ⟨r7,bc,F⟩:=L hr;refine bC C60 J (fun w H p le=>w60 p m (bQ.mono _ _ _ _ (le.at 1 J) c) bc) (I J (C (A J (iB J J J (N ?_)))));refine ci J (fun h3=>?_) (fun h3=>?_)
 ·have hT:=aH h3 F;refine C (A J (I J (bK ?_)));cases hT;exact cO J J
 have hI:=aU h3 F;refine sk (sq (bk (C (A J (dK tA J J (nC J J J (I J ?_)))))));refine ci J (fun h4=>?_) (fun h4=>?_)
 ·have hV:=aH h4 hI;refine C (I J (bK ?_));cases hV;exact cO J J
 have hW:=aU h4 hI;refine C (A J ?_);obtain ⟨r1,hX,hJ⟩:=L hW
 refine oL (v:=.bool r1) C61 J J J J (fun w H p le=>by
   have ab:fE M prog H (.func (.func 62) #[] #[]) (fZ (Va aO) Value.bool (MW)):=⟨62,[],[],rfl,C62,fun w_ K_ V v_ hK hw hs=>by obtain ⟨bf,bd,r_,rfl,aa,hx,rfl⟩:=hs;cases aa;exact w62  bd rfl  hx⟩
   exact w61 p (z.mono (aE.mono _) (le.at 1 J)) (right:=(MW)) ab hX) ?_
 refine nt J J (I J ?_);refine cb J (fun h2=>?_) (fun h2=>?_)
 ·replace h2:=lU h2
  have ac:=bM h2 hJ;refine C (I J (bK ?_));cases ac;exact cO J J
 replace h2:=lV h2
 have ad:=aH h2 hJ;refine sk (C (MH 1 fF Value.bool J fun k=>(MH 2 fF Value.bool J fun l=>(a1 J (I J (sq (C (cL lM iC J J (P 0 J u) J ?_))))))));obtain ⟨r0,ae,af⟩:=L ad;refine gE YU J J J J (fun w H p le=>YV p m (bQ.mono _ _ _ _ (le.at 1 J) c) ae) ?_;rintro v_ e ⟨a0,c0,rfl,h5⟩;have:=h5.len;refine dK tB J J (A J (N ?_));obtain ⟨Y,ag,ai⟩:=L af;refine jn (fun a w=>St M W H [e,x,H] [(2,aS.map' fF Value.bool l ([]:List (Int×Bool))),(1,aS.map' fF Value.bool k Y)] w∧aX [] 72 a [(1,.slice s errata.length i),(2,.pointer (some y)),(6,.map (some k)),(7,.map (some l))]) ?_ ?_
 ·refine bk ?_;refine lp ag (fun s2 a w=>St M W H [e,x,H] [(2,aS.map' fF Value.bool l ([]:List (Int×Bool))),(1,aS.map' fF Value.bool k s2.2)] w∧aX [] 72 a [(1,.slice s errata.length i),(2,.pointer (some y)),(6,.map (some k)),(7,.map (some l)),(28,.slice a0 r0.length c0),(29,.int .i64 (r0.length:Int)),(30,.int .i64 (s2.1:Int))]) ?_ ?_
  ·exact cuE J
  rintro j s2 y0 h6 hL a w ⟨g,f⟩;refine TG.ap ?_ g f;unfold DY at h6;refine C (dT J J J (N (sq ?_)));refine ci J (fun h7=>?_) (fun h7=>?_)
  ·have aj:=aH h7 h6;refine sk (sq (bk (C ?_)));obtain ⟨x1,h8,ak⟩:=L aj;obtain ⟨p1,rfl⟩:=h5.adr h8;have am:=h5.atF h8;refine cP tB fU J J J J (aV h8) (cL nU fU J J (P 0 J am) J (va (cs:=[.int .i64 x1.anchor,.string (bs x1.text)]) zeroValue117 fU J J J J J J J J fun q1 be t=>(N (rg (A J (S 0 nZ J Z3 (U G3 J ((P 0 J t).take 1) J (HQ 1 (ke:=fF) (enc:=Value.bool) x1.anchor true kY U3 J J J J (N (rg (dN J J J (by omega) ?_)))))))))));refine A J (N ?_);cases ak;intro a w g f;exact ⟨_,hL,g.selH [1,2,3] J,f.cuE J⟩
  have an:=aU h7 h6;refine xt J ?_;cases an;obtain rfl:=cZ.out hL;exact cuE J
 rintro a w ⟨g,f⟩;apply TG.ap ?_ g f;refine sq (C (A J (dK tA J J (A J (N ?_)))));obtain ⟨Z,ao,hM⟩:=L ai;refine jn (fun a w=>∃ K,Z=.inl K∧St M W H [e,x,H] [(2,aS.map' fF Value.bool l K.1),(1,aS.map' fF Value.bool k K.2)] w∧aX [] 72 a [(1,.slice s errata.length i),(2,.pointer (some y))]) ?_ ?_
 ·refine bk ?_;refine lp ao (fun n a w=>St M W H [e,x,H] [(2,aS.map' fF Value.bool l n.2.1),(1,aS.map' fF Value.bool k n.2.2)] w∧aX [] 72 a [(1,.slice s errata.length i),(2,.pointer (some y)),(6,.map (some k)),(7,.map (some l)),(38,.slice s errata.length i),(39,.int .i64 (errata.length:Int)),(40,.int .i64 (n.1:Int))]) ?_ ?_
  ·exact cuE J
  rintro j n y1 h9 hB a w ⟨g,f⟩;refine TG.ap ?_ g f;unfold DZ at h9;refine C (dT J J J (N (sq ?_)));refine ci J (fun hC=>?_) (fun hC=>?_)
  ·have ar:=aH hC h9;refine sk (sq (bk (C ?_)));obtain ⟨h,hE,au⟩:=L ar;obtain ⟨G,rfl⟩:=z.adr hE;have ax:=z.atF hE;refine cP tA mX J J J J (aV hE) (cL vO mX J J (P 2 J ax) J (va (cs:=[.int .i64 h.number,.int .i64 h.day,.int .u8 h.kind,.int .i64 h.anchor,.string (bs h.text),.int .i64 h.new_]) zeroValue91 mX J J J J J J J J fun q0 q b=>(N (sq (sq ?_)))));obtain ⟨t1,hN,hO⟩:=L au;refine jn (fun a w=>St M W H [q,e,x,H] [(2,aS.map' fF Value.bool l n.2.1),(1,aS.map' fF Value.bool k n.2.2)] w∧aX [] 72 a [(1,.slice (some G) errata.length i),(2,.pointer (some y)),(6,.map (some k)),(7,.map (some l)),(11,.pointer (some q0)),(38,.slice (some G) errata.length i),(39,.int .i64 (errata.length:Int)),(40,.int .i64 (n.1:Int)),(58,.bool t1)]) ?_ ?_
   ·refine rg (A J (S 0 lP J Z3 (U G3 J ((P 0 J b).take 1) J (IZ (ke:=fF) (enc:=Value.bool) h.number (z0:=false) kY U3 zeroValue4 J J J J (mO 2 J) (A J ?_)))));rcases Bool.eq_false_or_eq_true ((eM n.2.1 h.number).getD false) with d | d
    ·have ay:=aH d hN;refine bJ 4 J J J (d) J (gU J J J (gU J J J (gU J J J (gU J J J (gF J J (d) J (pT J J (d) J (N ?_)))))));cases ay;exact cuE J
    have hP:=bM d hN;refine gN J J (d) (S 2 lP J Z5 (gN J J (d) (U G5 J (((P 0 J b).drop 2).take 1) J (gN J J (d) (fY J J J (gN J J (d) (A J ?_)))))));by_cases o:h.kind=2
    ·have az:=aH o hP;refine gt o J (A J (gt o J (S 5 lP J Z3 (gt o J (U G3 J ((P 0 J b).drop 5) J (gt o J (IZ (ke:=fF) (enc:=Value.bool) h.new_ (z0:=false) kY U3 zeroValue4 J J J J (mO 1 J) (gN J J (d) (pt o J J (pF J J (d) J (N ?_)))))))))));cases az;exact cuE J
    have a2:=aU o hP;refine bJ 4 J J J (decide_eq_false o) J (gN J J (d) (pf o J J (pF J J (d) J (N ?_))));cases a2;exact cuE J
   refine X ?_;refine cb J (fun hF=>?_) (fun hF=>?_)
   ·have a3:=aH hF hO;refine C (I J (bK ?_));cases a3;obtain rfl:=cZ.out hB;cases hM;exact cO J J
   have a4:=bM hF hO;refine sk (C (A J (S 0 lP J Z3 (U G3 J ((P 0 J b).take 1) J (HQ 2 (ke:=fF) (enc:=Value.bool) h.number true kY U3 J J J J (N (C (S 2 lP J Z5 (U G5 J (((P 0 J b).drop 2).take 1) J ?_)))))))));refine fY J J J (N ?_);obtain ⟨t2,hR,a5⟩:=L a4;refine jn (fun a w=>St M W H [q,e,x,H] [(2,aS.map' fF Value.bool l (put n.2.1 h.number true)),(1,aS.map' fF Value.bool k t2)] w∧aX [] 72 a [(1,.slice (some G) errata.length i),(2,.pointer (some y)),(6,.map (some k)),(7,.map (some l)),(38,.slice (some G) errata.length i),(39,.int .i64 (errata.length:Int)),(40,.int .i64 (n.1:Int))]) ?_ ?_
   ·refine ci J (fun hG=>?_) (fun hG=>?_)
    ·have a6:=aH hG hR;refine rg (A J (S 5 lP J Z3 (U G3 J ((P 0 J b).drop 5) J (HQ 1 (ke:=fF) (enc:=Value.bool) h.new_ true kY U3 J J J J (N ?_)))));cases a6;exact cuE J
    have a7:=aU hG hR;refine sk ?_;cases a7;exact cuE J
   refine X ?_;refine rg (dN J J J (by omega) (A J (N ?_)));cases a5;intro a w g f;exact ⟨_,hB,g.selH [1,2,3] J,f.cuE J⟩
  have a8:=aU hC h9;refine xt J ?_;cases a8;obtain rfl:=cZ.out hB;intro a w g f;exact ⟨_,J,g,f.cuE J⟩
 rintro a w ⟨K,rfl,g,f⟩;apply TG.ap ?_ g f;refine C (cL lM iC J J (P 1 J u) J (A J ?_));obtain ⟨r2,a9,ba⟩:=L hM;refine bC C64 J (fun w H p le=>w64 p m (bQ.mono _ _ _ _ (le.at 2 J) c) (z.mono (aE.mono _) (le.at 2 J)) a9) (I J (bK ?_));cases ba;exact cO J J

theorem aKl (hH:H.le (hp W)) {V:Addr} {G:List Value} (e:hY) (ea:aM H V G) (K:(jO) H G e) (anchor:Int) {r:Int×Int×Bool} (hr:TQ e anchor=some r):Calls prog 100 #[.pointer (some V),.int .i64 anchor] W (bU M W (.tuple #[.int .i64 r.1,.int .i64 r.2.1,.bool r.2.2])):=by
 have l:=K;obtain ⟨aa,R,m,d,rfl,B,h⟩:=K;have:=B.len;have:=h.len;unfold TQ at hr;refine aL (M:=M) func100 J ntmps100 J hH ?_;refine C (a1 J (a1 J (I J (sc (sq (lb (sq (C ?_))))))));refine A J (nl J J (S 5 oO J nY (U qA J ((P 0 J ea).drop 5) J (dK lZ J J (A J (N ?_))))));obtain ⟨g,hF,hG⟩:=L hr;refine jn (fun a w=>St M W H [H] [] w∧aX [] 40 a [(4,.int .i64 (g.1:Int)),(5,.int .i64 (g.2.1:Int)),(6,.bool g.2.2)]) ?_ ?_
 ·refine bk ?_;refine lp hF (fun f a w=>St M W H [H] [] w∧aX [] 40 a [(1,.int .i64 anchor),(4,.int .i64 (f.1:Int)),(5,.int .i64 (f.2.1:Int)),(6,.bool f.2.2.2),(14,.slice m e.parts.length d),(15,.int .i64 (e.parts.length:Int)),(16,.int .i64 (f.2.2.1:Int))]) ?_ ?_
  ·exact cuE J
  rintro j f y0 o p a w ⟨c,b⟩;refine TG.ap ?_ c b;unfold EB at o;refine C (dT J J J (N (sq ?_)));refine ci J (fun q=>?_) (fun q=>?_)
  ·have hI:=aH q o;refine sk (sq (bk (C (A J ?_))));obtain ⟨x1,s,hJ⟩:=L hI;obtain ⟨p0,rfl⟩:=h.adr s;obtain ⟨c1,hW,hK,Y⟩:=h.at s;have hX:=Y;obtain ⟨a0,c0,rfl,t⟩:=Y;have:=t.len;refine cP lZ qD J J J J (aV s) (U sN J (P 0 J hK) J (a1 J (I J (C (A J (dK oA J J (A J (N ?_))))))));obtain ⟨n,hL,Z⟩:=L hJ;refine jn (fun a w=>∃ k,n=.inl k∧St M W H [H] [] w∧aX [] 40 a [(1,.int .i64 anchor),(4,.int .i64 (k.1:Int)),(5,.int .i64 (k.2.1:Int)),(6,.bool k.2.2),(14,.slice (some p0) e.parts.length d),(15,.int .i64 (e.parts.length:Int)),(16,.int .i64 (f.2.2.1:Int))]) ?_ ?_
   ·refine bk ?_;refine lp hL (fun i a w=>St M W H [H] [] w∧aX [] 40 a [(1,.int .i64 anchor),(4,.int .i64 (i.1:Int)),(5,.int .i64 (i.2.1:Int)),(6,.bool i.2.2.2),(7,.int .i64 (f.2.2.1:Int)),(14,.slice (some p0) e.parts.length d),(15,.int .i64 (e.parts.length:Int)),(16,.int .i64 (f.2.2.1:Int)),(21,.slice a0 x1.length c0),(22,.int .i64 (x1.length:Int)),(23,.int .i64 (i.2.2.1:Int))]) ?_ ?_
    ·exact cuE J
    rintro j i y1 u v a w ⟨c,b⟩;refine TG.ap ?_ c b;unfold EA at u;refine C (dT J J J (N (sq ?_)));refine ci J (fun x=>?_) (fun x=>?_)
    ·have hM:=aH x u;refine sk (sq (bk (C (A J ?_))));obtain ⟨F,y,hE⟩:=L hM;obtain ⟨p1,rfl⟩:=t.adr y;have hN:=t.atF y;refine cP oA jR J J J J (aV y) (cL BD jR J J (P 0 J hN) J (al 1 (cs:=[.int .i64 0,.string (bs []),.bool false]) zeroValue156 J J fun b0=>(a1 J (eP 1 (cs:=[.int .i64 F.paragraph.anchor,.string (bs F.paragraph.text),.bool F.removed]) jR J J J J J J J (N (C (S 0 oB J fU (S 0 nZ J Z3 (U G3 J ((sO 1 J).take 1) J (A J ?_))))))))));refine fY J J J (N ?_);refine ci J (fun z=>?_) (fun z=>?_)
     ·have hO:=aH z hE;refine C (A J (A J (a1 J (a1 J (I J (xt J ?_))))));obtain ⟨z0,hP,rfl⟩:=oS hO;obtain rfl:=cZ.out v;cases Z;refine TG.del 1 ?_;cases hP;obtain rfl:=cZ.out p;exact cuE J
     have hR:=aU z hE;refine sk (rg (dN J J J (by omega) (A J (N (TG.del 1 ?_)))));cases hR;intro a w c b;exact ⟨_,v,c,b.cuE J⟩
    have hT:=aU x u;refine xt J ?_;cases hT;obtain rfl:=cZ.out v;intro a w c b;exact ⟨_,J,c,b.cuE J⟩
   rintro a w ⟨k,rfl,c,b⟩;apply TG.ap ?_ c b;refine rg (dN J J J (by omega) (A J (N ?_)));cases Z;intro a w c b;exact ⟨_,p,c,b.cuE J⟩
  have hV:=aU q o;refine xt J ?_;cases hV;obtain rfl:=cZ.out p;exact cuE J
 rintro a w ⟨c,b⟩;apply TG.ap ?_ c b;refine C (A J (A J (A J (a1 J (a1 J (I J (bK ?_)))))));cases hG;exact TD J J J J

theorem aEj (g:H.le (hp W))  {r:Unit} (d:JU=some r):Calls prog 101 #[] W (eQ M H W (fun v K=>∃ (e:Addr),v=.slice (some e) 3 3∧aM K e [.func (.func 138) #[] #[],.func (.func 139) #[] #[],.func (.func 140) #[] #[]])):=by
 unfold JU at d;refine aL (M:=M) func101 J ntmps101 J g ?_;refine C (I J (C (bu (cs:=[.func (.func 138) #[] #[]]) T12.B175 J J J (bu (cs:=[.func (.func 139) #[] #[]]) T12.B175 J J J (bu (cs:=[.func (.func 140) #[] #[]]) T12.B175 J J J (bS (cs:=[.func (.func 138) #[] #[],.func (.func 139) #[] #[],.func (.func 140) #[] #[]]) T12.E176 J J J J fun j i h b=>(I J ?_)))))));refine bK ?_;obtain rfl:=sj d;intro a w c f;refine dV f J J ?_;exact ⟨⟨_,J,b.mono (c.grow 0 J)⟩,c.ext⟩

theorem w65 (hH:H.le (hp W)) {ce:List Value} (o:bN) (cw:(bQ) H ce o) {aw:Option Addr} {ah:Nat} {errata:List aR} (bl:Sl (aE aO) 6 H aw ah errata) (eo:Int) {r:hY} (hr:PL o errata eo=some r):Calls prog 65 #[.agg ce.toArray,.slice aw errata.length ah,.int .i64 eo] W (eQ M H W (fun v K=>∃ (u0:Addr) (d1:List Value),v=.pointer (some u0)∧aM K u0 d1∧(jO) K d1 r)):=by
 have eu:=cw;obtain ⟨am,Y,rfl,bw⟩:=cw;have:=bw.len;have:=bl.len;unfold PL at hr;refine rP (M:=M) func65 J ntmps65 J hH ?_
 let dy:List Value:=[.int .i64 o.number,.int .i64 o.bound,.int .i64 o.height,.int .i64 o.width,.slice am o.parts.length Y,.slice none 0 0]
 refine C (bI (cs:=[.int .i64 o.number,.int .i64 o.bound,.int .i64 o.height,.int .i64 o.width,.slice am o.parts.length Y]) J J J fun q4 K5 ee=>(I J (C (cL lM iC J J (P 0 J ee) J (bu (cs:=dy) T12.B153 J J J (bO 1 J J J fun b7=>(va (cs:=[.pointer (some (⟨b7,0,none⟩))]) zeroValue149 aDt J J J J J J J J fun q8 K9 ad=>(N ?_))))))));refine sq (C (S 4 jV J vD (U xS J ((P 1 J ee).drop 4) J (dK sR J J (A J (N (TG.nilRow 5 154 1 (TG.as 5 (z:=aS.list none 0 154 1 fB ([]:List Hd)) J J (TG.gopen (σ:=[(5,aS.list none 0 154 1 fB ([]:List Hd)),(1,bE b7 153 dy)]) 156 3 cB 1000 0 ?_)))))))));have cr:=gW.none cN;obtain ⟨d2,g8,ha⟩:=L hr;refine jn (fun a w=>∃ (h1:List Hd) (a9:List fN) (a2:Option Addr) (c0:Nat),St M W H [K9,K5,H] ([(5,aS.list a2 c0 154 1 fB h1),(1,bE b7 153 [.int .i64 o.number,.int .i64 o.bound,.int .i64 o.height,.int .i64 o.width,.slice am o.parts.length Y,.slice a2 h1.length c0])]++hZ 156 3 cB 1000 a9 d2) w∧aX [] 76 a [(1,.slice aw errata.length ah),(2,.int .i64 eo),(7,.pointer (some q8))]∧gW h1 a9 d2) ?_ ?_
 ·refine bk ?_;refine lp g8 (fun s3 a w=>∃ (h2:List Hd) (a6:List fN) (a4:Option Addr) (c3:Nat),St M W H [K9,K5,H] ([(5,aS.list a4 c3 154 1 fB h2),(1,bE b7 153 [.int .i64 o.number,.int .i64 o.bound,.int .i64 o.height,.int .i64 o.width,.slice am o.parts.length Y,.slice a4 h2.length c3])]++hZ 156 3 cB 1000 a6 s3.2) w∧aX [] 76 a [(1,.slice aw errata.length ah),(2,.int .i64 eo),(7,.pointer (some q8)),(21,.slice am o.parts.length Y),(22,.int .i64 (o.parts.length:Int)),(23,.int .i64 (s3.1:Int))]∧gW h2 a6 s3.2) ?_ ?_
  ·intro a w d g;exact ⟨([]:List Hd),([]:List fN),none,0,d,g.cuE J,cr⟩
  rintro j s3 y0 hP em a w ⟨h2,a6,a4,c3,d,g,ae⟩;refine TG.ap ?_ d g;unfold ED at hP;refine C (dT J J J (N (sq ?_)));refine ci J (fun hR=>?_) (fun hR=>?_)
  ·have he:=aH hR hP;refine sk (sq (bk (C ?_)));obtain ⟨x3,hT,hi⟩:=L he;obtain ⟨p0,rfl⟩:=bw.adr hT;obtain ⟨cR,iz,hm,en⟩:=bw.at hT;have i0:=en;obtain ⟨dx,c7,rfl,hV⟩:=en;have:=hV.len;refine cP sR jQ J J J J (aV hT) (cL GL jQ J J (P 2 J hm) J (va (cs:=[.int .i64 x3.day,.slice dx x3.paragraphs.length c7]) zeroValue115 jQ J J J J J J J J fun q5 bx db=>(N (C (I J (sq (C (S 1 kX J HZ ?_))))))));refine U NE J ((P 0 J db).drop 1) J (dK tB J J (A J (N (TG.nilRow 3 156 3 (TG.as 3 (z:=aS.list none 0 156 3 cB ([]:List cN)) J J ?_)))));obtain ⟨Z,ht,hz⟩:=L hi;refine jn (fun a w=>∃ (a0:Option Addr) (c1:Nat),St M W H [bx,K9,K5,H] ([(3,aS.list a0 c1 156 3 cB Z),(5,aS.list a4 c3 154 1 fB h2),(1,bE b7 153 [.int .i64 o.number,.int .i64 o.bound,.int .i64 o.height,.int .i64 o.width,.slice (some p0) o.parts.length Y,.slice a4 h2.length c3])]++hZ 156 3 cB 1000 a6 s3.2) w∧aX [] 76 a [(1,.slice aw errata.length ah),(2,.int .i64 eo),(7,.pointer (some q8)),(10,.slice a0 Z.length c1),(21,.slice (some p0) o.parts.length Y),(22,.int .i64 (o.parts.length:Int)),(23,.int .i64 (s3.1:Int))]) ?_ ?_
   ·refine bk ?_;refine lp ht (fun s4 a w=>∃ (ar:Option Addr) (c6:Nat),St M W H [bx,K9,K5,H] ([(3,aS.list ar c6 156 3 cB s4.2),(5,aS.list a4 c3 154 1 fB h2),(1,bE b7 153 [.int .i64 o.number,.int .i64 o.bound,.int .i64 o.height,.int .i64 o.width,.slice (some p0) o.parts.length Y,.slice a4 h2.length c3])]++hZ 156 3 cB 1000 a6 s3.2) w∧aX [] 76 a [(1,.slice aw errata.length ah),(2,.int .i64 eo),(7,.pointer (some q8)),(10,.slice ar s4.2.length c6),(21,.slice (some p0) o.parts.length Y),(22,.int .i64 (o.parts.length:Int)),(23,.int .i64 (s3.1:Int)),(28,.slice dx x3.paragraphs.length c7),(29,.int .i64 (x3.paragraphs.length:Int)),(30,.int .i64 (s4.1:Int))]) ?_ ?_
    ·intro a w d g;exact ⟨none,0,d,g.cuE J⟩
    rintro j s4 y1 hW ep a w ⟨ar,c6,d,g⟩;refine TG.ap ?_ d g;unfold EC at hW;refine C (dT J J J (N (sq ?_)));refine ci J (fun hX=>?_) (fun hX=>?_)
    ·have ie:=aH hX hW;refine sk (sq (bk (C ?_)));obtain ⟨x2,ck,e9⟩:=L ie;obtain ⟨p1,rfl⟩:=hV.adr ck;have ff:=hV.atF ck;refine cP tB fU J J J J (aV ck) (cL nU fU J J (P 3 J ff) J (va (cs:=[.int .i64 x2.anchor,.string (bs x2.text)]) zeroValue117 fU J J J J J J J J fun q6 il dd=>(N (rg (A J (cL nU fU J J (P 0 J dd) J (bu (cs:=[.int .i64 x2.anchor,.string (bs x2.text),.bool false]) T12.B156 J J J ?_)))))));obtain ⟨fk,fp⟩:=aG e9;have:=fA s4.2 [(⟨x2,false⟩:cN)];have:=mR (⟨x2,false⟩:cN);refine yJ 3 cB (l:=s4.2) (⟨x2,false⟩:cN) T12.E154 J J J J J J J J J J J J fk fun e2 c8 u1=>(I J (rg (dN J J J (by omega) (A J (N ?_)))));cases fp;intro a w d g;exact ⟨_,ep,e2,c8,d.selH [1,2,3,4] J,g.cuE J⟩
    have ft:=aU hX hW;refine xt J ?_;cases ft;obtain rfl:=cZ.out ep;intro a w d g;exact ⟨ar,c6,d,g.cuE J⟩
   rintro a w ⟨a0,c1,d,g⟩;apply TG.ap ?_ d g;obtain ⟨i1,fx⟩:=aG hz;refine kV 8 [7] [] mixed (fun _ _ _ _ _ h=>h) (by kernel_rfl) (by kernel_rfl) (by kernel_rfl) J (by kernel_rfl) (.nil) (dA J (U xQ J (P 2 J ad) J D) (dA J (U xQ J (P 2 J ad) J D) (dA J (nl J J D) (dA J (S 5 oO J nY D) (dc J (by kernel_rfl) tv J J (U qA J ((sO 1 J).drop 5) J D) (dA J (A J D) ?_))))))
   refine uT 1 (aE fB) 1 [(a0,Z.length,c1)] (aE.mono fB) J (bS (cs:=[(Value.slice a0 Z.length c1)]) T12.E151 J J J J fun q2 dw f1 de=>by
     have f4:Sl (aE fB) 1 dw (some q2) 1 [(a0,Z.length,c1)]:=Sl.litR (css:=[[(Value.slice a0 Z.length c1)]]) (l:=[(a0,Z.length,c1)]) ⟨⟨J,J,J⟩,tv⟩ f1 de J
     exact oW (aE.mono fB) f4) fun ip cS=>?_
   refine tS ((h2++[(a0,Z.length,c1)]).length) (fun du dv=>([(3,aS.list a0 c1 156 3 cB Z),(5,aS.list du dv 154 1 fB (h2++[(a0,Z.length,c1)])),(1,bE b7 153 [.int .i64 o.number,.int .i64 o.bound,.int .i64 o.height,.int .i64 o.width,.slice (some p0) o.parts.length Y,.slice a4 h2.length c3])]++hZ 156 3 cB 1000 a6 s3.2)) J (fun a w K d g hF F=>TG.pa d g (rO 5 (enc:=fB) (l:=h2) (m:=[(a0,Z.length,c1)]) T12.E151 J J J J J J (hF.1 J) 0 J (fun _=>J) (fun _=>J) J (by have:=ae.hlen;simp only [List.length_cons,List.length_nil];omega) fun a7 c5=>F _ _)) fun a7 c5=>(DC.nil fun im hF=>?_);obtain ⟨_,f7,_⟩:=hF;have:=f7.len;refine TG.absorbA [(3,aS.list a0 c1 156 3 cB Z),(5,aS.list a7 c5 154 1 fB (h2++[(a0,Z.length,c1)])),(1,bE b7 153 [.int .i64 o.number,.int .i64 o.bound,.int .i64 o.height,.int .i64 o.width,.slice (some p0) o.parts.length Y,.slice a4 h2.length c3])] (B:=[(5,aS.list a7 c5 154 1 fB (h2++[(a0,Z.length,c1)])),(1,bE b7 153 [.int .i64 o.number,.int .i64 o.bound,.int .i64 o.height,.int .i64 o.width,.slice (some p0) o.parts.length Y,.slice a4 h2.length c3])]) 3 (b:=1000) ae J J ?_;have cv:=ae.snoc Z a0 c1;refine nl J J (S 5 oO J nY (eP 1 (cs:=[.slice a7 ((h2++[(a0,Z.length,c1)]).length) c5]) nY J J J J J J J (N (rg (dN J J J (by omega) (A J (N ?_)))))));cases fx;intro a w d g;exact ⟨_,em,(h2++[(a0,Z.length,c1)]),(a6++[(a0,c1)]),a7,c5,d.selH [2,3,4] J,g.cuE J,cv⟩
  have ga:=aU hR hP;refine xt J ?_;cases ga;obtain rfl:=cZ.out em;intro a w d g;exact ⟨h2,a6,a4,c3,d,g.cuE J,ae⟩
 rintro a w ⟨h1,a9,a2,c0,d,g,ct⟩;apply TG.ap ?_ d g;refine sq (C (A J (A J (YF C99 func99 J ntmps99 J J J J (C (bI (cs:=[.slice aw errata.length ah]) J J J fun q7 s dg=>(bI (cs:=[.int .i64 eo]) J J J fun q1 t dh=>(I J ?_))))))));refine C (fn J J J (I J (bK ?_)));intro a w d g;refine dV g J J ?_;refine ⟨_,J,fun a g=>?_⟩;refine dY J g d (N (bk (TG.stillC 1 J fun n aa=>?_)));obtain ⟨t3,gg,gj⟩:=L ha;refine YD 6 7 UX func134 J ntmps134 J J (fun l0 e i w=>(∃ (h7:List Hd) (cf:List fN),St M W H [n,t,s,K9,K5,H] ([(6,aS.blk l0 (i .ready none)),(7,aS.blk e (.deferred (some []))),(5,aS.list a2 c0 154 1 fB h7)]++hZ 156 3 cB 1000 cf t3) w∧gW h7 cf t3∧h7.length=h1.length)) ?_ ?_
 ·intro l0 e i tE bv ac;refine C (U xW J (P 2 J dg) J ?_);obtain ⟨r0,gp,gs⟩:=L gg;refine yV 8 KT J J J J (fun w V σr d le=>LJ (aj:=errata) (bl.mono (aE.mono _) (le.at 5 J)) gp d) fun cg c2=>(TG.len 8 J fun _=>(I J (C (A J ?_))));obtain ⟨l1,er,gw⟩:=L gs;have gz:l1.length=r0.length:=(gO er);refine JI 8 (enc:=aO) (V:=Va aO) (V':=Va aO) (fun _=>rfl) (fun _=>rfl) srt136 PU J J J J J J (fun H le=>⟨137,[],[],rfl,PV,fun w_ K_ e4 v_ hK hw hs=>by obtain ⟨jc,jd,ij,ik,r_,rfl,e7,e8,hx,rfl⟩:=hs;cases e7;cases e8;exact QO  ij rfl ik rfl  hx⟩) (fun _ _=>rfl) (fun _ _=>rfl) er (N (C (A rfl (dK tA J J (A rfl (N ?_))))));obtain ⟨e5,g2,es⟩:=L gw;refine jn (fun a w=>∃ t2,e5=.inl t2∧∃ (h8:List Hd) (au:List fN),St M W H [n,t,s,K9,K5,H] ([(8,aS.list cg c2 91 6 aO l1),(6,aS.blk l0 (i .ready none)),(7,aS.blk e (.deferred (some []))),(5,aS.list a2 c0 154 1 fB h8)]++hZ 156 3 cB 1000 au t2) w∧aX [] 28 a []∧gW h8 au t2∧h8.length=h1.length) ?_ ?_
  ·refine bk ?_;refine lp g2 (fun s1 a w=>∃ (h0:List Hd) (a3:List fN),St M W H [n,t,s,K9,K5,H] ([(8,aS.list cg c2 91 6 aO l1),(6,aS.blk l0 (i .ready none)),(7,aS.blk e (.deferred (some []))),(5,aS.list a2 c0 154 1 fB h0)]++hZ 156 3 cB 1000 a3 s1.2) w∧aX [] 28 a [(0,.func (.yield l0) #[] #[]),(2,.pointer (some q1)),(11,.slice cg r0.length c2),(12,.int .i64 (r0.length:Int)),(13,.int .i64 (s1.1:Int))]∧gW h0 a3 s1.2∧h0.length=h1.length) ?_ ?_
   ·intro a w d g;exact ⟨h1,a9,d,g.cuE J,ct,J⟩
   rintro j s1 y2 cl cm a w ⟨h0,a3,d,g,k,h3⟩;refine TG.ap ?_ d g;unfold EF at cl;refine C (dT J J J (N (sq ?_)));refine ci J (fun cn=>?_) (fun cn=>?_)
   ·have g5:=aH cn cl;refine sk (sq (bk (C ?_)));obtain ⟨u,co,g9⟩:=L g5;refine TG.addr 8 J (fR co) fun b0 h=>?_;subst h
    let an:List Value:=[.int .i64 u.number,.int .i64 u.day,.int .u8 u.kind,.int .i64 u.anchor,.string (bs u.text),.int .i64 u.new_]
    refine cP tA mX J J J J (Nat.lt_of_lt_of_eq (aV co) gz) (cL vO mX J J (sE (enc:=aO) 8 J (fun _=>J) co) J (va (cs:=an) zeroValue91 mX J J J J J J J J fun q9 p ai=>(N (sq ?_))));obtain ⟨t4,d3,d4⟩:=L g9;refine jn (fun a w=>∃ (h6:List Hd) (a8:List fN),St M W H [p,n,t,s,K9,K5,H] ([(8,aS.list (some ⟨b0,0,none⟩) c2 91 6 aO l1),(6,aS.blk l0 (i .ready none)),(7,aS.blk e (.deferred (some []))),(5,aS.list a2 c0 154 1 fB h6)]++hZ 156 3 cB 1000 a8 t4.2) w∧aX [] 28 a [(0,.func (.yield l0) #[] #[]),(2,.pointer (some q1)),(11,.slice (some ⟨b0,0,none⟩) r0.length c2),(12,.int .i64 (r0.length:Int)),(13,.int .i64 (s1.1:Int)),(26,.bool t4.1)]∧gW h6 a8 t4.2∧h6.length=h1.length) ?_ ?_
    ·refine rg (S 1 lP J Z3 (U G3 J (((P 0 J ai).drop 1).take 1) J (U G3 J (P 2 J dh) J (nC J J J (A J ?_)))));by_cases h4:eo < u.day
     ·have hb:=aH h4 d3;refine bJ 4 J J J (decide_eq_true h4) J (pt h4 J J (N ?_));cases hb;intro a w d g;exact ⟨h0,a3,d,g.cuE J,k,h3⟩
     have hf:=aU h4 d3;refine cA h4 J (A J (cA h4 J (cL vO mX J J (P 0 J ai) J (cA h4 J ?_))));obtain ⟨t5,hj,hn⟩:=L hf;refine yl 6 [] (L1:=(54,.agg an.toArray)::_) J J J bv ac J J J (fun v w=>(∃ (h9:List Hd) (ax:List fN),v=.bool true∧St M W H [p,n,t,s,K9,K5,H] ([(8,aS.list (some ⟨b0,0,none⟩) c2 91 6 aO l1),(6,aS.blk l0 (i .ready none)),(7,aS.blk e (.deferred (some []))),(5,aS.list a2 c0 154 1 fB h9)]++hZ 156 3 cB 1000 ax t5) w∧gW h9 ax t5∧h9.length=h1.length)) ?_ ?_
     ·refine rg (va (cs:=an) zeroValue91 mX J J J J J J J J fun i9 y ab=>(N (bR 6 ac J (bk (C (U xQ J (P 5 J ad) J (S 3 lP J Z3 (U G3 J (((P 0 J ab).drop 3).take 1) J ?_))))))));obtain ⟨R,hu,ia⟩:=L hj;refine mB UT func100 J ntmps100 J J J J (fun v w=>(v=.tuple #[.int .i64 (R.2.1:Int),.int .i64 (R.1:Int),.bool R.2.2]∧St M W H [y,p,n,t,s,K9,K5,H] ([(8,aS.list (some ⟨b0,0,none⟩) c2 91 6 aO l1),(6,aS.blk l0 (i .busy none)),(7,aS.blk e (.deferred (some []))),(5,aS.list a2 c0 154 1 fB h0)]++hZ 156 3 cB 1000 a3 s1.2) w)) ?_ ?_
      ·refine C (a1 J (a1 J (I J (sc (sq (lb (sq (C ?_))))))));refine A J (nl J J (S 5 oO J nY (U qA J ((P 2 J aa).drop 5) J (lnE (h3.symm.trans k.hlen) lZ J J (A J (N ?_))))));obtain ⟨cj,ig,fa⟩:=L hu;refine jn (fun a w=>St M W H [y,p,n,t,s,K9,K5,H] ([(8,aS.list (some ⟨b0,0,none⟩) c2 91 6 aO l1),(6,aS.blk l0 (i .busy none)),(7,aS.blk e (.deferred (some []))),(5,aS.list a2 c0 154 1 fB h0)]++hZ 156 3 cB 1000 a3 s1.2) w∧aX [] 40 a [(4,.int .i64 (cj.1:Int)),(5,.int .i64 (cj.2.1:Int)),(6,.bool cj.2.2)]) ?_ ?_
       ·refine bk ?_;refine lp ig (fun s2 a w=>St M W H [y,p,n,t,s,K9,K5,H] ([(8,aS.list (some ⟨b0,0,none⟩) c2 91 6 aO l1),(6,aS.blk l0 (i .busy none)),(7,aS.blk e (.deferred (some []))),(5,aS.list a2 c0 154 1 fB h0)]++hZ 156 3 cB 1000 a3 s1.2) w∧aX [] 40 a [(1,.int .i64 u.anchor),(4,.int .i64 (s2.1:Int)),(5,.int .i64 (s2.2.1:Int)),(6,.bool s2.2.2.2),(14,.slice a2 h1.length c0),(15,.int .i64 (s1.2.length:Int)),(16,.int .i64 (s2.2.2.1:Int))]) ?_ ?_
        ·exact cuE J
        rintro j s2 y3 cp cq a w ⟨d,g⟩;refine TG.ap ?_ d g;unfold zA at cp;refine C (dT J J J (N (sq ?_)));refine ci J (fun cx=>?_) (fun cx=>?_)
        ·have fg:=aH cx cp;refine sk (sq (bk (C (A J ?_))));obtain ⟨x6,cy,fl⟩:=L fg;obtain ⟨e3,c9,d5,cz⟩:=k.at cy;refine TG.addr 5 J (fR cz) fun b2 h=>?_;subst h;refine cP lZ qD J J J J (Nat.lt_of_lt_of_eq (aV cz) h3) (U sN J (sE 5 J (fun _=>J) cz) J (a1 J (I J (C (A J (dK oA J J (A J (N ?_))))))));obtain ⟨e6,fq,d6⟩:=L fl;refine jn (fun a w=>∃ t1,e6=.inl t1∧St M W H [y,p,n,t,s,K9,K5,H] ([(8,aS.list (some ⟨b0,0,none⟩) c2 91 6 aO l1),(6,aS.blk l0 (i .busy none)),(7,aS.blk e (.deferred (some []))),(5,aS.list (some ⟨b2,0,none⟩) c0 154 1 fB h0)]++hZ 156 3 cB 1000 a3 s1.2) w∧aX [] 40 a [(1,.int .i64 u.anchor),(4,.int .i64 (t1.1:Int)),(5,.int .i64 (t1.2.1:Int)),(6,.bool t1.2.2),(14,.slice (some ⟨b2,0,none⟩) h1.length c0),(15,.int .i64 (s1.2.length:Int)),(16,.int .i64 (s2.2.2.1:Int))]) ?_ ?_
         ·refine bk ?_;refine lp fq (fun s5 a w=>St M W H [y,p,n,t,s,K9,K5,H] ([(8,aS.list (some ⟨b0,0,none⟩) c2 91 6 aO l1),(6,aS.blk l0 (i .busy none)),(7,aS.blk e (.deferred (some []))),(5,aS.list (some ⟨b2,0,none⟩) c0 154 1 fB h0)]++hZ 156 3 cB 1000 a3 s1.2) w∧aX [] 40 a [(1,.int .i64 u.anchor),(4,.int .i64 (s5.1:Int)),(5,.int .i64 (s5.2.1:Int)),(6,.bool s5.2.2.2),(7,.int .i64 (s2.2.2.1:Int)),(14,.slice (some ⟨b2,0,none⟩) h1.length c0),(15,.int .i64 (s1.2.length:Int)),(16,.int .i64 (s2.2.2.1:Int)),(21,.slice e3 x6.length c9),(22,.int .i64 (x6.length:Int)),(23,.int .i64 (s5.2.2.1:Int))]) ?_ ?_
          ·exact cuE J
          rintro j s5 y4 da di a w ⟨d,g⟩;refine TG.ap ?_ d g;unfold EE at da;refine C (dT J J J (N (sq ?_)));refine ci J (fun dj=>?_) (fun dj=>?_)
          ·have fu:=aH dj da;refine sk (sq (bk (C (A J ?_))));obtain ⟨x5,dk,d7⟩:=L fu;refine TG.addr (1000+s2.2.2.1) (gk J (gk J (gk J (gk J (rT d5 cy))))) (fR dk) fun b6 h=>?_;subst h;refine cP oA jR J J J J (aV dk) (cL BD jR J J (sE (enc:=cB) (size:=3) (1000+s2.2.2.1) (gk J (gk J (gk J (gk J (rT d5 cy))))) (fun _=>J) dk) J (al 9 (cs:=[.int .i64 0,.string (bs []),.bool false]) zeroValue156 J J fun b8=>(a1 J (eP 9 (cs:=[.int .i64 x5.paragraph.anchor,.string (bs x5.paragraph.text),.bool x5.removed]) jR J J J J J J J (N (C (S 0 oB J fU (S 0 nZ J Z3 (U G3 J ((sO 9 J).take 1) J (A J ?_))))))))));refine fY J J J (N ?_);refine ci J (fun dl=>?_) (fun dl=>?_)
           ·have fy:=aH dl d7;refine C (A J (A J (a1 J (a1 J (I J (xt J ?_))))));obtain ⟨z0,f2,rfl⟩:=oS fy;obtain rfl:=cZ.out di;cases d6;refine TG.del 9 ?_;cases f2;obtain rfl:=cZ.out cq;exact cuE J
           have f5:=aU dl d7;refine sk (rg ?_);obtain ⟨f8,gb⟩:=aG f5;refine dN J J J f8 (A J (N (TG.del 9 ?_)));cases gb;intro a w d g;exact ⟨_,di,d,g.cuE J⟩
          have gh:=aU dj da;refine xt J ?_;cases gh;obtain rfl:=cZ.out di;intro a w d g;exact ⟨_,J,d,g.cuE J⟩
         rintro a w ⟨t1,rfl,d,g⟩;apply TG.ap ?_ d g;refine rg ?_;obtain ⟨gl,gq⟩:=aG d6;refine dN J J J gl (A J (N ?_));cases gq;intro a w d g;exact ⟨_,cq,d,g.cuE J⟩
        have gu:=aU cx cp;refine xt J ?_;cases gu;obtain rfl:=cZ.out cq;exact cuE J
       rintro a w ⟨d,g⟩;apply TG.ap ?_ d g;refine C (A J (A J (A J (a1 J (a1 J (I J (bK ?_)))))));cases fa;intro a w d g;refine NS g J J J J ?_;exact ⟨_,J,⟨J,d⟩⟩
      rintro a w v g (⟨rfl,d⟩);refine dY J g d (A J (ex J J J (ex J J J (ex J J J (a1 J (a1 J (I J (C (A J ?_)))))))));refine N ?_;obtain ⟨t6,d8,gx⟩:=L ia;refine jn (fun a w=>∃ (hB:List Hd) (ay:List fN),St M W H [y,p,n,t,s,K9,K5,H] ([(8,aS.list (some ⟨b0,0,none⟩) c2 91 6 aO l1),(6,aS.blk l0 (i .busy none)),(7,aS.blk e (.deferred (some []))),(5,aS.list a2 c0 154 1 fB hB)]++hZ 156 3 cB 1000 ay t6) w∧aX [] 76 a []∧gW hB ay t6∧hB.length=h1.length) ?_ ?_
      ·refine cb J (fun dm=>?_) (fun dm=>?_)
       ·have g0:=aH dm d8;obtain ⟨r1,g3,g6⟩:=L g0;obtain ⟨i2,d9⟩:=aG g6;refine dR 10 mixed (by kernel_rfl) J ?_
        let bd:List Value:=[.func (.func 138) #[] #[],.func (.func 139) #[] #[],.func (.func 140) #[] #[]]
        refine DF.und (α:=Addr) default (fun q=>.slice (some q) 3 3) (fun (q:Addr) K=>aM K q bd) (fun _ _ _ h x=>x.mono h) (by kernel_rfl) J (fun a w K d g hF=>TG.pa d g (gE aAh J J J J (fun w H hH le=>aEj hH g3) (by
          rintro v_ ew ⟨iR,rfl,bq⟩
          exact kU (f:=fun q=>.slice (some q) 3 3) (G:=(fun (q:Addr) K=>aM K q bd)) _ (fun _ _ _ h x=>x.mono h) bq))) fun q0=>?_
        refine E J (S 2 lP J Z5 D) (E J (U G5 J (((P 1 J ab).drop 2).take 1) J D) ?_);by_cases dB:u.kind=0
        ·have gR:=aH dB d9;refine uC (.pointer (some (q0.add (0*1)))) (fun K=>aM K (q0.add (0*1)) bd) (fun _ _ h x=>x.mono h) J (fun a w K d g hF F=>TG.pa d g (cP (j:=0) QI QD J J J (by omega) (by decide) (F ((hF.1 J).drop (0*1))))) (uC (.pointer (some (q0.add (0*1)))) (fun K=>aM K (q0.add (0*1)) bd) (fun _ _ h x=>x.mono h) J (fun a w K d g hF F=>TG.pa d g (S 0 QH J QC (F (hF.1 J)))) (DF.det J (fun a w K d g hF=>TG.pa d g (U PY J ((P 0 J (hF.1 J)).take 1) J D)) (E J (U xQ J (P 6 J ad) J D) (E J (A J D) (E J (A J D) (E J (cL vO mX J J (P 1 J ab) J D) (DF.nil fun ao hF=>?_)))))));obtain ⟨i3,i4,ea,_⟩:=hF;obtain ⟨t7,hc,hg⟩:=L gR;refine mB aAx func138 J ntmps138 J J J J (fun v w=>(∃ (hC:List Hd) (az:List fN),v=.tuple #[]∧St M W H [ao,y,p,n,t,s,K9,K5,H] ([(8,aS.list (some ⟨b0,0,none⟩) c2 91 6 aO l1),(6,aS.blk l0 (i .busy none)),(7,aS.blk e (.deferred (some []))),(5,aS.list a2 c0 154 1 fB hC)]++hZ 156 3 cB 1000 az t7) w∧gW hC az t7∧hC.length=h1.length)) ?_ ?_
         ·refine C (bI (cs:=an) J J J fun iS bz br=>(N (C (A J (nl J J (S 5 oO J nY (U qA J ((P 4 J aa).drop 5) J (A J ?_))))))));obtain ⟨x8,hE,hk⟩:=L hc;obtain ⟨iq,iv,hM,dn⟩:=k.at hE;refine TG.addr 5 J (fR dn) fun b3 h=>?_;subst h;refine cP lZ qD J J J J (Nat.lt_of_lt_of_eq (aV dn) h3) (U sN J (sE 5 J (fun _=>J) dn) J (A J ?_));obtain ⟨x4,hN,ho⟩:=L hk;refine TG.addr (1000+R.2.1) (gk J (gk J (gk J (gk J (rT hM hE))))) (fR hN) fun b4 h=>?_;subst h;refine cP oA jR J J J J (aV hN) (I J (C (A J (nl J J (S 2 oB J Z4 (U G4 J ((sE (enc:=cB) (size:=3) (1000+R.2.1) (gk J (gk J (gk J (gk J (rT hM hE))))) (fun _=>J) hN).drop 2) J (nt J J (N ?_))))))));obtain ⟨t8,ec,hv⟩:=L ho;refine jn (fun a w=>∃ (hG:List Hd) (ba:List fN),St M W H [bz,ao,y,p,n,t,s,K9,K5,H] ([(8,aS.list (some ⟨b0,0,none⟩) c2 91 6 aO l1),(6,aS.blk l0 (i .busy none)),(7,aS.blk e (.deferred (some []))),(5,aS.list (some ⟨b3,0,none⟩) c0 154 1 fB hG)]++hZ 156 3 cB 1000 ba t8) w∧aX [] 29 a []∧gW hG ba t8∧hG.length=h1.length) ?_ ?_
          ·refine cb J (fun h5=>?_) (fun h5=>?_)
           ·replace h5:=lU h5
            have ib:=bM h5 ec;refine rg (A J (S 4 lP J Z9 (U G9 J (((P 0 J br).drop 4).take 1) J (nl J J (S 0 oB J fU (S 1 nZ J Z9 (SG (enc:=cB) (1000+R.2.1) (⟨(⟨x4.paragraph.anchor,u.text⟩:aI),x4.removed⟩:cN) (q:=⟨b4,0,none⟩) (j:=R.1) (size:=3) (cs:=[.string (bs u.text)]) (off:=1) Z9 (YH (b:=0) (c:=1) J) J (gk J (gk J (gk J (gk J (rT hM hE))))) (fun _=>J) hN J J J J J (TG.eq (zk J (zk J (zk J (zk J (OP hM))))) ?_))))))));have bj:=k.put hE (zZ x8 R.1 (⟨(⟨x4.paragraph.anchor,u.text⟩:aI),x4.removed⟩:cN));refine N ?_;cases ib;intro a w d g;exact ⟨h0,a3,d,g.cut tv,bj,h3⟩
           replace h5:=lV h5
           have ih:=aH h5 ec;refine sk ?_;cases ih;intro a w d g;exact ⟨h0,a3,d,g.cut tv,k,h3⟩
          rintro a w ⟨hG,ba,d,g,bi,fc⟩;refine TG.ap ?_ d g;cases hv;intro a w d g;refine dW g J ?_;exact ⟨_,J,⟨hG,ba,J,d.selH [1,2,3,4,5,6,7,8,9] J,bi,fc⟩⟩
         rintro a w v g (⟨hC,az,rfl,d,bh,fh⟩);refine dY J g d (N ?_);cases hg;intro a w d g;exact ⟨hC,az,d.selH [1,2,3,4,5,6,7,8] J,g.cut tv,bh,fh⟩
        have ed:=aU dB d9;by_cases ef:u.kind=1
        ·have fm:=aH ef ed
         let dz:List Value:=[.func (.func 139) #[] #[],.func (.func 140) #[] #[]]
         refine uC (.pointer (some (q0.add (1*1)))) (fun K=>aM K (q0.add (1*1)) dz) (fun _ _ h x=>x.mono h) J (fun a w K d g hF F=>TG.pa d g (cP (j:=1) QI QD J J J (by omega) (by decide) (F ((hF.1 J).drop (1*1))))) (uC (.pointer (some (q0.add (1*1)))) (fun K=>aM K (q0.add (1*1)) dz) (fun _ _ h x=>x.mono h) J (fun a w K d g hF F=>TG.pa d g (S 0 QH J QC (F (hF.1 J)))) (DF.det J (fun a w K d g hF=>TG.pa d g (U PY J ((P 0 J (hF.1 J)).take 1) J D)) (E J (U xQ J (P 6 J ad) J D) (E J (A J D) (E J (A J D) (E J (cL vO mX J J (P 1 J ab) J D) (DF.nil fun ca hF=>?_)))))));obtain ⟨i5,i6,ea,_⟩:=hF;obtain ⟨t9,fr,fv⟩:=L fm;refine mB aAy func139 J ntmps139 J J J J (fun v w=>(∃ (hI:List Hd) (bb:List fN),v=.tuple #[]∧St M W H [ca,y,p,n,t,s,K9,K5,H] ([(8,aS.list (some ⟨b0,0,none⟩) c2 91 6 aO l1),(6,aS.blk l0 (i .busy none)),(7,aS.blk e (.deferred (some []))),(5,aS.list a2 c0 154 1 fB hI)]++hZ 156 3 cB 1000 bb t9) w∧gW hI bb t9∧hI.length=h1.length)) ?_ ?_
         ·refine C (bI (cs:=an) J J J fun ja ey et=>(N (rg (A J (nl J J (S 5 oO J nY (U qA J ((P 4 J aa).drop 5) J (A J ?_))))))));obtain ⟨x9,hO,fz⟩:=L fr;obtain ⟨ir,iw,dp,dq⟩:=k.at hO;refine TG.addr 5 J (fR dq) fun b9 h=>?_;subst h;refine cP lZ qD J J J J (Nat.lt_of_lt_of_eq (aV dq) h3) (U sN J (sE 5 J (fun _=>J) dq) J (A J ?_));obtain ⟨x7,dr,f3⟩:=L fz;refine TG.addr (1000+R.2.1) (gk J (gk J (gk J (gk J (rT dp hO))))) (fR dr) fun b5 h=>?_;subst h;refine cP oA jR J J J J (aV dr) (S 2 oB J Z4 (SG (enc:=cB) (1000+R.2.1) (⟨x7.paragraph,true⟩:cN) (q:=⟨b5,0,none⟩) (j:=R.1) (size:=3) (cs:=[.bool true]) (off:=2) Z4 (OR (b:=2) J) J (gk J (gk J (gk J (gk J (rT dp hO))))) (fun _=>J) dr J J J J J (TG.eq (zk J (zk J (zk J (zk J (OP dp))))) ?_)));have bn:=k.put hO (zZ x9 R.1 (⟨x7.paragraph,true⟩:cN));refine N ?_;cases f3;intro a w d g;refine dW g J ?_;exact ⟨_,J,⟨h0,a3,J,d.selH [1,2,3,4,5,6,7,8,9] J,bn,h3⟩⟩
         rintro a w v g (⟨hI,bb,rfl,d,bm,f6⟩);refine dY J g d (N ?_);cases fv;intro a w d g;exact ⟨hI,bb,d.selH [1,2,3,4,5,6,7,8] J,g.cut tv,bm,f6⟩
        have eg:=aU ef ed;by_cases eh:u.kind=2
        ·have f9:=aH eh eg;refine uC (.pointer (some (q0.add (2*1)))) (fun K=>aM K (q0.add (2*1)) [.func (.func 140) #[] #[]]) (fun _ _ h x=>x.mono h) J (fun a w K d g hF F=>TG.pa d g (cP (j:=2) QI QD J J J (by omega) (by decide) (F ((hF.1 J).drop (2*1))))) (uC (.pointer (some (q0.add (2*1)))) (fun K=>aM K (q0.add (2*1)) [.func (.func 140) #[] #[]]) (fun _ _ h x=>x.mono h) J (fun a w K d g hF F=>TG.pa d g (S 0 QH J QC (F (hF.1 J)))) (DF.det J (fun a w K d g hF=>TG.pa d g (U PY J (P 0 J (hF.1 J)) J D)) (E J (U xQ J (P 6 J ad) J D) (E J (A J D) (E J (A J D) (E J (cL vO mX J J (P 1 J ab) J D) (DF.nil fun cc hF=>?_)))))));obtain ⟨i7,i8,ea,_⟩:=hF;obtain ⟨tD,gc,gi⟩:=L f9;refine mB aAz func140 J ntmps140 J J J J (fun v w=>(∃ (hJ:List Hd) (bc:List fN),v=.tuple #[]∧St M W H [cc,y,p,n,t,s,K9,K5,H] ([(8,aS.list (some ⟨b0,0,none⟩) c2 91 6 aO l1),(6,aS.blk l0 (i .busy none)),(7,aS.blk e (.deferred (some []))),(5,aS.list a2 c0 154 1 fB hJ)]++hZ 156 3 cB 1000 bc tD) w∧gW hJ bc tD∧hJ.length=h1.length)) ?_ ?_
         ·refine C (bI (cs:=an) J J J fun jb ez ak=>(N ?_));obtain ⟨x1,ei,gn⟩:=L gc;obtain ⟨it,ix,gr,hL⟩:=k.at ei;refine TG.addr 5 J (fR hL) fun b1 h=>?_;subst h;obtain ⟨gv,gy⟩:=aG gn;refine TG.focus [(8,aS.list (some ⟨b0,0,none⟩) c2 91 6 aO l1),(6,aS.blk l0 (i .busy none)),(7,aS.blk e (.deferred (some []))),(5,aS.list (some ⟨b1,0,none⟩) c0 154 1 fB h0)] 10 (b:=1000) gr ei ?_;obtain ⟨g1,g4⟩:=aG gy;obtain ⟨g7,gT⟩:=aG g4;refine kV 22 [21] [] mixed (fun _ _ _ _ _ h=>h) (by kernel_rfl) (by kernel_rfl) (by kernel_rfl) J (by kernel_rfl) (.nil) (dA J (A J D) (dA J (nl J J D) (dA J (S 5 oO J nY D) (dA J (U qA J ((P 5 J aa).drop 5) J D) (dA J (A J D) (dA J (A J D) (dA J (nl J J D) (dA J (S 5 oO J nY D) (dA J (U qA J ((P 5 J aa).drop 5) J D) (dA J (A J D) (dA J (cP lZ qD J J J J (Nat.lt_of_lt_of_eq (aV hL) h3) D) ?_)))))))))))
          let d0:List Value:=[.int .i64 u.new_,.string (bs u.text),.bool false]
          refine dc J (by kernel_rfl) tv J J (U sN J (sE 5 J (fun _=>J) hL) J D) (dA J (A J D) (dA J (dN J J J gv D) (dA J (S 5 lP J Z3 D) (dA J (U G3 J ((P 1 J ak).drop 5) J D) (dA J (S 4 lP J Z9 D) (dA J (U G9 J (((P 1 J ak).drop 4).take 1) J D) (dA J (bu (cs:=[.int .i64 u.new_,.string (bs u.text)]) T12.B117 J J J D) (dA J (bu (cs:=d0) T12.B156 J J J D) ?_))))))))
          refine uT 1 (aE cB) 3 ([(⟨(⟨u.new_,u.text⟩:aI),false⟩:cN)]:List cN) (aE.mono _) J (bS (cs:=d0) T12.E154 J J J J fun q3 cd hd bt=>by
            have ej:Sl (aE cB) 3 cd (some q3) 1 ([(⟨(⟨u.new_,u.text⟩:aI),false⟩:cN)]:List cN):=Sl.litF (fun _=>J) (fun _=>J) hd bt J J J;have:=ej.len
            exact oW (aE.mono _) ej) fun iu iy=>?_
          let ch:aS:=aS.list (some ⟨b0,0,none⟩) c2 91 6 aO l1
          refine tS ((x1.take (((R.1:Int)+1).toNat)++[(⟨(⟨u.new_,u.text⟩:aI),false⟩:cN)]++x1.drop (((R.1:Int)+1).toNat)).length) (fun du dv=>([(10,aS.list du dv 156 3 cB (x1.take (((R.1:Int)+1).toNat)++[(⟨(⟨u.new_,u.text⟩:aI),false⟩:cN)]++x1.drop (((R.1:Int)+1).toNat))),(8,ch),(6,aS.blk l0 (i .busy none)),(7,aS.blk e (.deferred (some []))),(5,aS.list (some ⟨b1,0,none⟩) c0 154 1 fB h0)]++hZ 156 3 cB 1000 (a3.set R.2.1 (none,0)) (s1.2.set R.2.1 []))) J (fun a w K d g hF F=>TG.pa d g (ZV 10 (enc:=cB) J (fun _=>J) (fun _=>J) (((R.1:Int)+1).toNat) (⟨(⟨u.new_,u.text⟩:aI),false⟩:cN) (l:=x1) ins141 aA0 J J J J J J J (hF.1 J) 0 J (by omega) g7 g1 fun a5 c4=>F _ _)) fun a5 c4=>(DC.nil fun e0 hF=>?_);obtain ⟨_,hh,_⟩:=hF;have:=hh.len;refine cP lZ qD J J J J (Nat.lt_of_lt_of_eq (aV hL) h3) (SG 5 (a5,(x1.take (((R.1:Int)+1).toNat)++[(⟨(⟨u.new_,u.text⟩:aI),false⟩:cN)]++x1.drop (((R.1:Int)+1).toNat)).length,c4) (q:=⟨b1,0,none⟩) (j:=R.2.1) (size:=1) (cs:=[(Value.slice a5 (x1.take (((R.1:Int)+1).toNat)++[(⟨(⟨u.new_,u.text⟩:aI),false⟩:cN)]++x1.drop (((R.1:Int)+1).toNat)).length c4)]) (off:=0) qD J J J (fun _=>J) hL J J J J J (TG.absorb [(10,aS.list a5 c4 156 3 cB (x1.take (((R.1:Int)+1).toNat)++[(⟨(⟨u.new_,u.text⟩:aI),false⟩:cN)]++x1.drop (((R.1:Int)+1).toNat))),(8,ch),(6,aS.blk l0 (i .busy none)),(7,aS.blk e (.deferred (some []))),(5,aS.list (some ⟨b1,0,none⟩) c0 154 1 fB (h0.set R.2.1 (a5,(x1.take (((R.1:Int)+1).toNat)++[(⟨(⟨u.new_,u.text⟩:aI),false⟩:cN)]++x1.drop (((R.1:Int)+1).toNat)).length,c4)))] (B:=[(8,ch),(6,aS.blk l0 (i .busy none)),(7,aS.blk e (.deferred (some []))),(5,aS.list (some ⟨b1,0,none⟩) c0 154 1 fB (h0.set R.2.1 (a5,(x1.take (((R.1:Int)+1).toNat)++[(⟨(⟨u.new_,u.text⟩:aI),false⟩:cN)]++x1.drop (((R.1:Int)+1).toNat)).length,c4)))]) 10 (b:=1000) (j:=R.2.1) J J (TG.eq (by rw [List.set_set,List.set_set]) ?_)));have bp:=k.new R.2.1 (x1.take (((R.1:Int)+1).toNat)++[(⟨(⟨u.new_,u.text⟩:aI),false⟩:cN)]++x1.drop (((R.1:Int)+1).toNat)) a5 c4;have hl:(h0.set R.2.1 (a5,(x1.take (((R.1:Int)+1).toNat)++[(⟨(⟨u.new_,u.text⟩:aI),false⟩:cN)]++x1.drop (((R.1:Int)+1).toNat)).length,c4)).length=h1.length:=(zZ _ _ _).trans h3;refine N ?_;cases gT;intro a w d g;refine dW g J ?_;exact ⟨_,J,⟨(h0.set R.2.1 (a5,(x1.take (((R.1:Int)+1).toNat)++[(⟨(⟨u.new_,u.text⟩:aI),false⟩:cN)]++x1.drop (((R.1:Int)+1).toNat)).length,c4)),(a3.set R.2.1 (a5,c4)),J,d.selH [2,3,4,5,6,7,8,9,10] J,bp,hl⟩⟩
         rintro a w v g (⟨hJ,bc,rfl,d,bo,hq⟩);refine dY J g d (N ?_);cases gi;intro a w d g;exact ⟨hJ,bc,d.selH [1,2,3,4,5,6,7,8] J,g.cut tv,bo,hq⟩
        have hy:=aU eh eg;cases hy
       have ic:=bM dm d8;refine sk ?_;cases ic;intro a w d g;exact ⟨h0,a3,d,g.cut tv,k,h3⟩
      rintro a w ⟨hB,ay,d,g,bg,ii⟩;refine TG.ap ?_ d g;cases gx;refine eR 6 none ac J fun w d=>?_;exact ⟨hB,ay,J,d.selH [1,2,3,4,5,6,7] J,bg,ii⟩
     rintro a w v g (⟨h9,ax,rfl,d,bf,fe⟩);refine dY J g d (cA h4 J (nt J J (pf h4 J J (N ?_))));cases hn;intro a w d g;exact ⟨h9,ax,d,g.cuE J,bf,fe⟩
    rintro a w ⟨h6,a8,d,g,ag,ek⟩;refine TG.ap ?_ d g;refine cb J (fun ds=>?_) (fun ds=>?_)
    ·have fj:=aH ds d4;refine bK ?_;cases fj;obtain rfl:=cZ.out cm;refine TG.del 8 ?_;cases es;intro a w d g;refine dW g J ?_;exact ⟨_,J,⟨h6,a8,d.selH [1,2,3,4,5,6] J,ag,ek⟩⟩
    have fo:=bM ds d4;refine sk (rg (dN J J J (by omega) (A J (N ?_))));cases fo;intro a w d g;exact ⟨_,cm,h6,a8,d.selH [1,2,3,4,5,6] J,g.cuE J,ag,ek⟩
   have fs:=aU cn cl;refine xt J ?_;cases fs;obtain rfl:=cZ.out cm;intro a w d g;exact ⟨_,J,h0,a3,d,g.cut tv,k,h3⟩
  rintro a w ⟨t2,rfl,h8,au,d,g,be,fw⟩;apply TG.ap ?_ d g;refine TG.del 8 ?_;cases es;intro a w d g;refine dW g J ?_;exact ⟨_,J,⟨h8,au,d,be,fw⟩⟩
 rintro l0 e i tE a w ac g (⟨h7,cf,d,af,f0⟩);refine TG.ap ?_ d g;refine YE 6 ac J (C (U xQ J (P 3 J ad) J (I J (bK (TG.stillG [(7,aS.blk e (.deferred (some []))),(5,aS.list a2 c0 154 1 fB h7)] (B:=[(7,aS.blk e (.deferred (some [])))]) 5 (b:=1000) af J J (fun _=>J) fun e1 el=>?_)))));have:=el.len;cases gj;refine QY (SL 7 J (QZ ?_));intro a w d g;refine dV g J J ?_;exact ⟨⟨_,_,J,(aa.mono (d.grow 1 J)),⟨am,Y,a2,c0,(by rw [show h1.length=t3.length from (f0.symm.trans af.hlen)]),(bw.mono (bV.mono) (d.grow 6 J)),(el.mono (tL.mono (aE.mono _)) (d.grow 0 J))⟩⟩,d.ext⟩

theorem w45 (n:H.le (hp W)) {ce:List Value} (g:bN) (cw:(bQ) H ce g) {aw:Option Addr} {ah:Nat} {errata:List aR} (bl:Sl (aE aO) 6 H aw ah errata) (eo:Int) {r:List aI×Int} (hr:PM g errata eo=some r):Calls prog 45 #[.agg ce.toArray,.slice aw errata.length ah,.int .i64 eo] W (eQ M H W (fun v K=>∃ (x:Option Addr) (h:Nat),v=.tuple #[.slice x r.1.length h,.int .i64 r.2]∧Sl (aE aN) 2 K x h r.1)):=by
 have d:=cw;obtain ⟨aa,F,rfl,ay⟩:=cw;have:=ay.len;have:=bl.len;unfold PM at hr;refine aL (M:=M) func45 J ntmps45 J n ?_;refine C (bI (cs:=[.int .i64 g.number,.int .i64 g.bound,.int .i64 g.height,.int .i64 g.width,.slice aa g.parts.length F]) J J J fun q4 q V=>(a1 J (I J (sq (C (cL lM iC J J (P 0 J V) J (A J ?_)))))));obtain ⟨r7,az,Y⟩:=L hr;refine bC YT J (fun w H n le=>YW n g (bQ.mono _ _ _ _ (le.at 1 J) d) (bl.mono (aE.mono _) (le.at 1 J)) az) (I J (C (A J (iB J J J (N ?_)))));refine ci J (fun h2=>?_) (fun h2=>?_)
 ·have hK:=aH h2 Y;refine C (A J (a1 J (I J (bK ?_))));cases hK;intro a w b c;refine jW c J J J ?_;exact ⟨⟨_,_,J,Sl.o⟩,b.ext⟩
 have hL:=aU h2 Y;refine sk (sq (C (A J ?_)));obtain ⟨r1,hM,hC⟩:=L hL;refine bC RJ J (fun w H n le=>RK eo hM) (nt J J (N ?_));refine cb J (fun h0=>?_) (fun h0=>?_)
 ·replace h0:=lU h0
  have hN:=bM h0 hC;refine C (a1 J (I J (bK ?_)));cases hN;intro a w b c;refine jW c J J J ?_;exact ⟨⟨_,_,J,Sl.o⟩,b.ext⟩
 replace h0:=lV h0
 have hO:=aH h0 hC;refine sk (C (I J (sq (C (cL lM iC J J (P 0 J V) J (A J (A J ?_)))))));obtain ⟨i,hP,hR⟩:=L hO;refine gE C65 J J J J (fun w H n le=>w65 n g (bQ.mono _ _ _ _ (le.at 1 J) d) (bl.mono (aE.mono _) (le.at 1 J)) eo hP) ?_;rintro v_ e ⟨q0,c8,rfl,hT,hE⟩;have ba:=hE;obtain ⟨a9,c9,a6,c2,rfl,hV,h3⟩:=hE;have:=hV.len;have:=h3.len;refine nl J J (S 5 oO J nY (U qA J ((P 0 J hT).drop 5) J (dK lZ J J (A J (N (TG.nilRow 2 117 2 (TG.as 2 (z:=aS.list none 0 117 2 aN ([]:List aI)) J J ?_)))))));obtain ⟨G,hW,hX⟩:=L hR;refine jn (fun a w=>∃ (a5:Option Addr) (c5:Nat),St M W H [e,q,H] [(2,aS.list a5 c5 117 2 aN G)] w∧aX [] 52 a [(9,.slice a5 G.length c5)]) ?_ ?_
 ·refine bk ?_;refine lp hW (fun k a w=>∃ (t:Option Addr) (y:Nat),St M W H [e,q,H] [(2,aS.list t y 117 2 aN k.2)] w∧aX [] 52 a [(9,.slice t k.2.length y),(29,.slice a6 i.parts.length c2),(30,.int .i64 (i.parts.length:Int)),(31,.int .i64 (k.1:Int))]) ?_ ?_
  ·intro a w b c;exact ⟨none,0,b,c.cuE J⟩
  rintro j k y0 h4 hF a w ⟨t,y,b,c⟩;refine TG.ap ?_ b c;unfold EH at h4;refine C (dT J J J (N (sq ?_)));refine ci J (fun h5=>?_) (fun h5=>?_)
  ·have ab:=aH h5 h4;refine sk (sq (bk (C ?_)));obtain ⟨x1,h6,ac⟩:=L ab;obtain ⟨p0,rfl⟩:=h3.adr h6;obtain ⟨cR,bb,ad,hG⟩:=h3.at h6;have bc:=hG;obtain ⟨a7,c6,rfl,h7⟩:=hG;have:=h7.len;refine cP lZ qD J J J J (aV h6) (U sN J (P 0 J ad) J (I J (C (A J (dK oA J J (A J (N ?_)))))));obtain ⟨R,ae,af⟩:=L ac;refine jn (fun a w=>∃ (Z:Option Addr) (c3:Nat),St M W H [e,q,H] [(2,aS.list Z c3 117 2 aN R)] w∧aX [] 52 a [(9,.slice Z R.length c3),(29,.slice (some p0) i.parts.length c2),(30,.int .i64 (i.parts.length:Int)),(31,.int .i64 (k.1:Int))]) ?_ ?_
   ·refine bk ?_;refine lp ae (fun m a w=>∃ (u:Option Addr) (B:Nat),St M W H [e,q,H] [(2,aS.list u B 117 2 aN m.2)] w∧aX [] 52 a [(9,.slice u m.2.length B),(29,.slice (some p0) i.parts.length c2),(30,.int .i64 (i.parts.length:Int)),(31,.int .i64 (k.1:Int)),(35,.slice a7 x1.length c6),(36,.int .i64 (x1.length:Int)),(37,.int .i64 (m.1:Int))]) ?_ ?_
    ·intro a w b c;exact ⟨t,y,b,c.cuE J⟩
    rintro j m y1 h8 hI a w ⟨u,B,b,c⟩;refine TG.ap ?_ b c;unfold EG at h8;refine C (dT J J J (N (sq ?_)));refine ci J (fun h9=>?_) (fun h9=>?_)
    ·have ag:=aH h9 h8;refine sk (sq (bk (C ?_)));obtain ⟨p,hB,ai⟩:=L ag;obtain ⟨p1,rfl⟩:=h7.adr hB;have aj:=h7.atF hB;refine cP oA jR J J J J (aV hB) (cL BD jR J J (P 0 J aj) J (va (cs:=[.int .i64 p.paragraph.anchor,.string (bs p.paragraph.text),.bool p.removed]) zeroValue156 jR J J J J J J J J fun q1 s f=>(N (C (S 2 oB J Z4 (U G4 J ((P 0 J f).drop 2) J (nt J J (N ?_))))))));obtain ⟨t0,hJ,ak⟩:=L ai;refine jn (fun a w=>∃ (a4:Option Addr) (c4:Nat),St M W H [s,e,q,H] [(2,aS.list a4 c4 117 2 aN t0)] w∧aX [] 52 a [(9,.slice a4 t0.length c4),(29,.slice (some p0) i.parts.length c2),(30,.int .i64 (i.parts.length:Int)),(31,.int .i64 (k.1:Int)),(35,.slice (some p1) x1.length c6),(36,.int .i64 (x1.length:Int)),(37,.int .i64 (m.1:Int))]) ?_ ?_
     ·refine cb J (fun h1=>?_) (fun h1=>?_)
      ·replace h1:=lU h1
       have am:=bM h1 hJ;refine rg (A J (S 0 oB J fU (cL nU fU J J ((P 0 J f).take 2) J ?_)));obtain ⟨an,ao⟩:=aG am;have:=fA m.2 [p.paragraph];have:=mR p.paragraph;refine yJ 2 aN (l:=m.2) p.paragraph T12.E83 J J J J J J J J J J J J an fun a8 c7 u0=>(I J ?_);cases ao;intro a w b c;exact ⟨a8,c7,b,c.cuE J⟩
      replace h1:=lV h1
      have ar:=aH h1 hJ;refine sk ?_;cases ar;intro a w b c;exact ⟨u,B,b,c.cuE J⟩
     rintro a w ⟨a4,c4,b,c⟩;refine TG.ap ?_ b c;refine rg (dN J J J (by omega) (A J (N ?_)));cases ak;intro a w b c;exact ⟨_,hI,a4,c4,b.selH [1,2,3] J,c.cuE J⟩
    have au:=aU h9 h8;refine xt J ?_;cases au;obtain rfl:=cZ.out hI;intro a w b c;exact ⟨u,B,b,c.cuE J⟩
   rintro a w ⟨Z,c3,b,c⟩;apply TG.ap ?_ b c;refine rg (dN J J J (by omega) (A J (N ?_)));cases af;intro a w b c;exact ⟨_,hF,Z,c3,b,c.cuE J⟩
  have ax:=aU h5 h4;refine xt J ?_;cases ax;obtain rfl:=cZ.out hF;intro a w b c;exact ⟨t,y,b,c.cuE J⟩
 rintro a w ⟨a5,c5,b,c⟩;apply TG.ap ?_ b c;refine C (A J (a1 J (I J (bK ?_))));cases hX;intro a w b c;refine jW c J J J ?_;exact ⟨⟨_,_,J,(b.listOut 2 J (fun _=>J))⟩,b.ext⟩

theorem BK {M:Prop} {W w:World} {H V:Hp} {σr:aK} {n:Nat} {z:List Value} (i:aJ) (bb:aY V z i) {dq:List Value} (k:aR) (ei:(aE aO) V dq k) {r:aJ⊕Int} (hr:wO i k=some r) (b:St M W H [V] ((1,bE n 67 z)::σr) w):Calls prog 106 #[.pointer (some ⟨n,0,none⟩),.agg dq.toArray] w (fD M W H V σr (rE (fun y e K A'=>∃ (dv:List Value),e=.returned (.tuple #[])∧A'=[(1,bE n 67 dv)]∧aY K dv y) (fun u=>.iface 126 (.agg #[.int .i64 u])) [(1,bE n 67 z)] r)):=by
 obtain rfl:=ei;unfold wO at hr;obtain ⟨z1,rfl,m⟩:=bb;have:=m.lens;refine cW (M:=M) func106 J ntmps106 J b ?_;refine C (bO 2 J J J fun b3=>(N (sq ?_)));obtain ⟨t1,h3,R⟩:=L hr;refine jn (fun a w=>∃ t0,t1=.inl t0∧St M W H [V] ([(2,bE b3 91 [.int .i64 k.number,.int .i64 k.day,.int .u8 k.kind,.int .i64 k.anchor,.string (bs k.text),.int .i64 k.new_]),(1,bE n 67 (cJ i.state z1))]++σr) w∧aX [] 62 a [(0,.pointer (some (⟨n,0,none⟩))),(3,.pointer (some (⟨b3,0,none⟩)))]) ?_ ?_
 ·refine dR 17 mixed (by kernel_rfl) J (E J (A J D) (E J (nl J J D) (E J (S 0 eJ J eC D) (E J (S 7 dM J Z4 D) (E J (U G4 J (((sO 1 J).drop 7).take 1) J D) (E J (A J D) ?_))))));rcases Bool.eq_false_or_eq_true (i.state.bound) with d | d
  ·have hB:=aH d h3;refine E J (gN J J (d) (A J D)) (E J (gN J J (d) (nl J J D)) (E J (gN J J (d) (S 0 eJ J eC D)) (E J (gN J J (d) (S 0 dM J Z3 D)) (E J (gN J J (d) (U G3 J ((sO 1 J).take 1) J D)) (E J (gN J J (d) (A J D)) (E J (gN J J (d) (nl J J D)) (E J (gN J J (d) (S 0 eJ J eC D)) (E J (gN J J (d) (S 2 dM J iC D)) (E J (gN J J (d) (S 1 jV J Z3 D)) (E J (gN J J (d) (U G3 J (((sO 1 J).drop 3).take 1) J D)) (DF.nil fun ab j=>?_)))))))))));refine gN J J (d) (nC J J J (pT J J (d) J ?_));obtain ⟨r2,h4,h5⟩:=L hB;rcases r2 with y0 | y0
   ·refine bC eY J (fun w H l le=>iK (eZ (decide (i.state.volume.bound < i.state.day)) 8 h4)) (N ?_);cases h5;intro a w b c;exact ⟨_,J,b.selH [1] J,c.cuE J⟩
   refine eE eY J J J (fun w H l le=>iL (eZ (decide (i.state.volume.bound < i.state.day)) 8 h4)) ?_;cases h5;refine TG.del 2 ?_;cases R;intro a w b c;exact ⟨c.defers,V,[_],b.selH [1,1] J,J,J⟩
  have hC:=bM d h3;refine kI 11 J J (d) J ⟨J,J,J,J,J,J,J,J,J,J,J,tv⟩ (DF.nil fun ad j=>(gF J J (d) J (pF J J (d) J ?_)));obtain ⟨r3,h6,h7⟩:=L hC;rcases r3 with y1 | y1
  ·refine bC eY J (fun w H l le=>iK (eZ false 8 h6)) (N ?_);cases h7;intro a w b c;exact ⟨_,J,b.selH [1] J,c.cuE J⟩
  refine eE eY J J J (fun w H l le=>iL (eZ false 8 h6)) ?_;cases h7;refine TG.del 2 ?_;cases R;intro a w b c;exact ⟨c.defers,V,[_],b.selH [1,1] J,J,J⟩
 rintro a w ⟨t0,rfl,b,c⟩;refine TG.ap ?_ b c;refine C (A J (nl J J (S 0 eJ J eC (S 0 dM J Z3 (U G3 J ((sO 1 J).take 1) J (S 1 lP J Z3 (eP 2 (cs:=[.int .i64 i.state.day]) Z3 J J J J J J J (N (sq (dR 6 mixed (by kernel_rfl) J ?_))))))))));refine E J (A J D) (E J (nl J J D) (E J (S 0 eJ J eC D) (E J (S 8 dM J zL D) (E J (U xW J (((sO 1 J).drop 8).take 1) J D) (E J (cL vO mX J J (sO 2 J) J D) (DF.nil fun af j=>?_))))));obtain ⟨Z,hE,hG⟩:=L R;refine gE aA2 J J J J (fun w H l le=>aEg l (m.f1.mono (aE.mono _) (le.at 1 J)) ({k with day:=i.state.day}:aR) J hE) ?_;rintro v_ ag ⟨v,B,rfl,Y⟩;have:=Y.len;refine I J (sq ?_);obtain ⟨g,hI,hJ⟩:=L hG;refine dR 16 mixed (by kernel_rfl) J (E J (A J D) (E J (nl J J D) (E J (S 0 eJ J eC D) (E J (S 2 dM J iC D) (E J (cL lM iC J J (((sO 1 J).drop 2).take 5) J D) (E J (A J D) (E J (A J D) (E J (nl J J D) (E J (S 0 eJ J eC D) (E J (S 0 dM J Z3 D) (E J (U G3 J ((sO 1 J).take 1) J D) ?_)))))))))))
 refine DF.und (α:=Option Addr×Nat) (none,0) (fun q=>.tuple #[.slice q.1 g.1.length q.2,.int .i64 g.2]) (fun (q:Option Addr×Nat) K=>Sl (aE aN) 2 K q.1 q.2 g.1) (fun _ _ _ h x=>x.mono (aE.mono _) h) (by kernel_rfl) J (fun a w K b c j=>TG.pa b c (gE C45 J J J J (fun w H l le=>w45 l i.state.volume ⟨_,_,J,(m.f0.mono (bV.mono) (le.at 3 J))⟩ (Y.mono (aE.mono _) (le.at 1 J)) i.state.day hI) (by
   rintro v_ ah ⟨a3,c3,rfl,hK⟩
   exact kU (f:=fun q=>.tuple #[.slice q.1 g.1.length q.2,.int .i64 g.2]) (G:=(fun (q:Option Addr×Nat) K=>Sl (aE aN) 2 K q.1 q.2 g.1)) (a3,c3) (fun _ _ _ h x=>x.mono (aE.mono _) h) hK))) ?_
 rintro ⟨o,p⟩;refine uC (.tuple #[.slice o g.1.length p,.int .i64 g.2]) (fun K=>Sl (aE aN) 2 K o p g.1) (fun _ _ h x=>x.mono (aE.mono _) h) J (fun a w K b c j F=>TG.pa b c (A J (F (j.1 J)))) (uC (.slice o g.1.length p) (fun K=>Sl (aE aN) 2 K o p g.1) (fun _ _ h x=>x.mono (aE.mono _) h) J (fun a w K b c j F=>TG.pa b c (ex J J J (F (j.1 J)))) (E J (ex J J J D) (uC (.slice o g.1.length p) (fun K=>Sl (aE aN) 2 K o p g.1) (fun _ _ h x=>x.mono (aE.mono _) h) J (fun a w K b c j F=>TG.pa b c (a1 J (F (j.1 J)))) (DF.nil fun ai j=>?_))));obtain ⟨hN,hO,hP,hL,_⟩:=j;have:=hL.len;refine I J (C (A J ?_));obtain ⟨r4,h8,h9⟩:=L hJ
 let s:List Value:=((cJ i.state z1).set 8 (.slice v Z.length B))
 rcases r4 with y2 | y2
 ·refine bC iZ J (fun w H l le=>iK (jA g.2 h8)) (N (rg (A J (A J (nl J J (S 0 eJ J eC (S 8 dM J zL (eP 1 (cs:=[.slice v Z.length B]) zL J J J J J J J (N (TG.del 2 (TG.pack (fun K=>aY K s (⟨({i.state with errata:=Z}:cU)⟩:aJ)) (fun H le=>⟨{z1 with a1:=v,c1:=B},J,{m.mono (le.at 3 J) with f1:=(Y.mono (aE.mono _) (le.at 1 J))}⟩) fun t hM=>?_)))))))))));cases h9;intro a w b c;refine dW c J ?_;exact ⟨t,[(1,bE n 67 s)],b.selH [0,4] J,_,J,J,hM⟩
 refine eE iZ J J J (fun w H l le=>iL (jA g.2 h8)) (TG.del 2 ?_);cases h9;intro a w b c;exact ⟨c.defers,V,[_],b.selH [3,3] J,J,J⟩

theorem w73 {M:Prop} {W w:World} {H V:Hp} {σr:aK} {f:Nat} {m:List Value} (g:aJ) (bb:aY V m g) {z:Option Addr} {x:Nat} {bq:List Int} (j:Sl (aE (bZ .i64)) 1 V z x bq) (text:aF) {r:aJ⊕Int} (hr:TR g bq text=some r) (b:St M W H [V] ((1,bE f 67 m)::σr) w):Calls prog 73 #[.pointer (some ⟨f,0,none⟩),.slice z bq.length x,.string (bs text)] w (fD M W H V σr (rE (fun y e K A'=>∃ (F:List Value),e=.returned (.tuple #[])∧A'=[(1,bE f 67 F)]∧aY K F y) (fun u=>.iface 126 (.agg #[.int .i64 u])) [(1,bE f 67 m)] r)):=by
 have:=j.len;unfold TR at hr;obtain ⟨v,rfl,c⟩:=bb;have:=c.lens;refine cW (M:=M) func73 J ntmps73 J b ?_;obtain ⟨s,d,p⟩:=L hr;obtain ⟨p6,rfl⟩:=j.adr d;have o:=j.atF d;obtain ⟨q,G,h5⟩:=L p;have h6:=j.atF G;refine dR 9 mixed (by kernel_rfl) J (E J (A J D) (E J (A J D) (E J (cP eO Z3 J J J J (aV d) D) (E J (U G3 J (P 1 J o) J D) (E J (A J D) (E J (cP eO Z3 J J J J (aV G) D) (E J (U G3 J (P 1 J h6) J D) (E J (A J D) (E J (bu (cs:=[.int .i64 s,.int .i64 0,.int .u8 0,.int .i64 q,.string (bs text),.int .i64 0]) T12.B91 J J J D) (DF.nil fun ab hF=>?_))))))))));obtain ⟨r0,R,Y⟩:=L h5
 let h:aK:=[(1,bE f 67 (cJ g.state v))]
 rcases r0 with k | k
 ·refine pP h (B:=([]++σr)) J AY J J J J (fun w V b le=>BK g ⟨v,J,{c.mono (le.at 1 J) with f0:=(c.f0.mono (bV.mono) (le.at 1 J))}⟩ (⟨s,0,0,q,text,0⟩:aR) J R b) ?_;rintro e_ ad A_ a w ⟨c0,rfl,rfl,Z⟩ b i;refine vN (dY J i b ?_);have h8:=Z;obtain ⟨t,rfl,n⟩:=Z;have:=n.lens;refine N (TG.pack (fun K=>aY K (cJ k.state t) k) (fun H le=>⟨t,J,{n.mono (le.at 0 J) with f0:=(n.f0.mono (bV.mono) (le.at 0 J))}⟩) fun l h7=>?_);cases Y;intro a w b i;refine dW i J ?_;exact ⟨l,[(1,bE f 67 (cJ k.state t))],b.selH [0,3] J,_,J,J,h7⟩
 refine pP h (B:=([]++σr)) J AY J J J J (fun w V b le=>BK g ⟨v,J,{c.mono (le.at 1 J) with f0:=(c.f0.mono (bV.mono) (le.at 1 J))}⟩ (⟨s,0,0,q,text,0⟩:aR) J R b) ?_;rintro e_ af A_ a w ⟨rfl,rfl⟩ b i;refine OV ?_;cases Y;exact ⟨i.defers,V,[_],b.selH [2,2] J,J,J⟩

theorem w74 {M:Prop} {W w:World} {H V:Hp} {σr:aK} {f:Nat} {m:List Value} (g:aJ) (bb:aY V m g) {z:Option Addr} {x:Nat} {bq:List Int} (j:Sl (aE (bZ .i64)) 1 V z x bq) (F:aF) {r:aJ⊕Int} (hr:TS g bq F=some r) (b:St M W H [V] ((1,bE f 67 m)::σr) w):Calls prog 74 #[.pointer (some ⟨f,0,none⟩),.slice z bq.length x,.string (bs F)] w (fD M W H V σr (rE (fun y e K A'=>∃ (G:List Value),e=.returned (.tuple #[])∧A'=[(1,bE f 67 G)]∧aY K G y) (fun u=>.iface 126 (.agg #[.int .i64 u])) [(1,bE f 67 m)] r)):=by
 have:=j.len;unfold TS at hr;obtain ⟨v,rfl,c⟩:=bb;have:=c.lens;refine cW (M:=M) func74 J ntmps74 J b ?_;obtain ⟨s,d,p⟩:=L hr;obtain ⟨p6,rfl⟩:=j.adr d;have o:=j.atF d;obtain ⟨q,R,h5⟩:=L p;have h6:=j.atF R;refine dR 8 mixed (by kernel_rfl) J (E J (A J D) (E J (A J D) (E J (cP eO Z3 J J J J (aV d) D) (E J (U G3 J (P 1 J o) J D) (E J (A J D) (E J (cP eO Z3 J J J J (aV R) D) (E J (U G3 J (P 1 J h6) J D) (E J (bu (cs:=[.int .i64 s,.int .i64 0,.int .u8 1,.int .i64 q,.string (bs []),.int .i64 0]) T12.B91 J J J D) (DF.nil fun ab hF=>?_)))))))));obtain ⟨r0,Y,Z⟩:=L h5
 let h:aK:=[(1,bE f 67 (cJ g.state v))]
 rcases r0 with k | k
 ·refine pP h (B:=([]++σr)) J AY J J J J (fun w V b le=>BK g ⟨v,J,{c.mono (le.at 1 J) with f0:=(c.f0.mono (bV.mono) (le.at 1 J))}⟩ (⟨s,0,1,q,[],0⟩:aR) J Y b) ?_;rintro e_ ad A_ a w ⟨c0,rfl,rfl,h4⟩ b i;refine vN (dY J i b ?_);have h8:=h4;obtain ⟨t,rfl,n⟩:=h4;have:=n.lens;refine N (TG.pack (fun K=>aY K (cJ k.state t) k) (fun H le=>⟨t,J,{n.mono (le.at 0 J) with f0:=(n.f0.mono (bV.mono) (le.at 0 J))}⟩) fun l h7=>?_);cases Z;intro a w b i;refine dW i J ?_;exact ⟨l,[(1,bE f 67 (cJ k.state t))],b.selH [0,3] J,_,J,J,h7⟩
 refine pP h (B:=([]++σr)) J AY J J J J (fun w V b le=>BK g ⟨v,J,{c.mono (le.at 1 J) with f0:=(c.f0.mono (bV.mono) (le.at 1 J))}⟩ (⟨s,0,1,q,[],0⟩:aR) J Y b) ?_;rintro e_ af A_ a w ⟨rfl,rfl⟩ b i;refine OV ?_;cases Z;exact ⟨i.defers,V,[_],b.selH [2,2] J,J,J⟩

theorem w75 {M:Prop} {W w:World} {H V:Hp} {σr:aK} {f:Nat} {m:List Value} (g:aJ) (bb:aY V m g) {F:Option Addr} {z:Nat} {bq:List Int} (h:Sl (aE (bZ .i64)) 1 V F z bq) (text:aF) {r:aJ⊕Int} (hr:TT g bq text=some r) (b:St M W H [V] ((1,bE f 67 m)::σr) w):Calls prog 75 #[.pointer (some ⟨f,0,none⟩),.slice F bq.length z,.string (bs text)] w (fD M W H V σr (rE (fun y e K A'=>∃ (G:List Value),e=.returned (.tuple #[])∧A'=[(1,bE f 67 G)]∧aY K G y) (fun u=>.iface 126 (.agg #[.int .i64 u])) [(1,bE f 67 m)] r)):=by
 have:=h.len;unfold TT at hr;obtain ⟨x,rfl,c⟩:=bb;have:=c.lens;refine cW (M:=M) func75 J ntmps75 J b ?_;obtain ⟨t,d,p⟩:=L hr;obtain ⟨p6,rfl⟩:=h.adr d;have o:=h.atF d;obtain ⟨q,R,h6⟩:=L p;have h7:=h.atF R;obtain ⟨s,Y,h8⟩:=L h6;have h9:=h.atF Y;refine dR 12 mixed (by kernel_rfl) J (E J (A J D) (E J (A J D) (E J (cP eO Z3 J J J J (aV d) D) (E J (U G3 J (P 1 J o) J D) (E J (A J D) (E J (cP eO Z3 J J J J (aV R) D) (E J (U G3 J (P 1 J h7) J D) (E J (A J D) (E J (A J D) (E J (cP eO Z3 J J J J (aV Y) D) (E J (U G3 J (P 1 J h9) J D) ?_)))))))))));refine E J (bu (cs:=[.int .i64 t,.int .i64 0,.int .u8 2,.int .i64 q,.string (bs text),.int .i64 s]) T12.B91 J J J D) (DF.nil fun ab hF=>?_);obtain ⟨r0,Z,h4⟩:=L h8
 let i:aK:=[(1,bE f 67 (cJ g.state x))]
 rcases r0 with k | k
 ·refine pP i (B:=([]++σr)) J AY J J J J (fun w V b le=>BK g ⟨x,J,{c.mono (le.at 1 J) with f0:=(c.f0.mono (bV.mono) (le.at 1 J))}⟩ (⟨t,0,2,q,text,s⟩:aR) J Z b) ?_;rintro e_ ad A_ a w ⟨c0,rfl,rfl,h5⟩ b j;refine vN (dY J j b ?_);have hC:=h5;obtain ⟨v,rfl,n⟩:=h5;have:=n.lens;refine N (TG.pack (fun K=>aY K (cJ k.state v) k) (fun H le=>⟨v,J,{n.mono (le.at 0 J) with f0:=(n.f0.mono (bV.mono) (le.at 0 J))}⟩) fun l hB=>?_);cases h4;intro a w b j;refine dW j J ?_;exact ⟨l,[(1,bE f 67 (cJ k.state v))],b.selH [0,3] J,_,J,J,hB⟩
 refine pP i (B:=([]++σr)) J AY J J J J (fun w V b le=>BK g ⟨x,J,{c.mono (le.at 1 J) with f0:=(c.f0.mono (bV.mono) (le.at 1 J))}⟩ (⟨t,0,2,q,text,s⟩:aR) J Z b) ?_;rintro e_ af A_ a w ⟨rfl,rfl⟩ b j;refine OV ?_;cases h4;exact ⟨j.defers,V,[_],b.selH [2,2] J,J,J⟩

theorem WD (p:H.le (hp W)) {ce:List Value} (h:bN) (cw:(bQ) H ce h) {u:Option Addr} {t:Nat} {errata:List aR} (Y:Sl (aE aO) 6 H u t errata) (anchor:Int) (n:Int) {r:aF×Bool×Int} (hr:AI h errata anchor n=some r):Calls prog 109 #[.agg ce.toArray,.slice u errata.length t,.int .i64 anchor,.int .i64 n] W (bU M W (.tuple #[.string (bs r.1),.bool r.2.1,.int .i64 r.2.2])):=by
 have e:=cw;obtain ⟨V,x,rfl,bd⟩:=cw;have:=bd.len;have:=Y.len;unfold AI at hr;refine aL (M:=M) func109 J ntmps109 J p ?_
 let i:List Value:=[.int .i64 h.number,.int .i64 h.bound,.int .i64 h.height,.int .i64 h.width,.slice V h.parts.length x]
 refine C (bI (cs:=i) J J J fun q4 s B=>(a1 J (a1 J (I J (sq (C (cL lM iC J J (P 0 J B) J (A J ?_))))))));obtain ⟨r7,be,F⟩:=L hr;refine bC YT J (fun w H p le=>YW p h (bQ.mono _ _ _ _ (le.at 1 J) e) (Y.mono (aE.mono _) (le.at 1 J)) be) (I J (C (A J (iB J J J (N ?_)))));refine ci J (fun h3=>?_) (fun h3=>?_)
 ·have hW:=aH h3 F;refine C (A J (a1 J (a1 J (I J (bK ?_)))));cases hW;exact TD J J J J
 have hX:=aU h3 F;refine sk (sq (C (A J ?_)));obtain ⟨r1,aa,hL⟩:=L hX;refine bC RJ J (fun w H p le=>RK n aa) (nt J J (N ?_));refine cb J (fun h0=>?_) (fun h0=>?_)
 ·replace h0:=lU h0
  have ab:=bM h0 hL;refine C (a1 J (a1 J (I J (bK ?_))));cases ab;exact TD J J J J
 replace h0:=lV h0
 have ac:=aH h0 hL;refine sk (C (cL lM iC J J (P 0 J B) J (A J (A J ?_))));obtain ⟨o,ad,ae⟩:=L ac;refine gE C65 J J J J (fun w H p le=>w65 p h (bQ.mono _ _ _ _ (le.at 1 J) e) (Y.mono (aE.mono _) (le.at 1 J)) n ad) ?_;rintro v_ f ⟨q,c3,rfl,hM,hN⟩;have bh:=hN;obtain ⟨a3,c4,a0,R,rfl,af,z⟩:=hN;have:=af.len;have:=z.len;refine I J (C (A J (A J ?_)));obtain ⟨d,ag,hO⟩:=L ae
 let l:List Value:=[.int .i64 (d.2.1:Int),.int .i64 (d.1:Int),.bool d.2.2]
 refine mB UT func100 J ntmps100 J J J J (fun v w=>(v=.tuple l.toArray∧St M W H [f,s,H] [] w)) ?_ ?_
 ·refine C (a1 J (a1 J (I J (sc (sq (lb (sq (C ?_))))))));refine A J (nl J J (S 5 oO J nY (U qA J ((P 0 J hM).drop 5) J (dK lZ J J (A J (N ?_))))));obtain ⟨m,ai,aj⟩:=L ag;refine jn (fun a w=>St M W H [f,s,H] [] w∧aX [] 40 a [(4,.int .i64 (m.1:Int)),(5,.int .i64 (m.2.1:Int)),(6,.bool m.2.2)]) ?_ ?_
  ·refine bk ?_;refine lp ai (fun k a w=>St M W H [f,s,H] [] w∧aX [] 40 a [(1,.int .i64 anchor),(4,.int .i64 (k.1:Int)),(5,.int .i64 (k.2.1:Int)),(6,.bool k.2.2.2),(14,.slice a0 o.parts.length R),(15,.int .i64 (o.parts.length:Int)),(16,.int .i64 (k.2.2.1:Int))]) ?_ ?_
   ·exact cuE J
   rintro j k y0 h4 h5 a w ⟨c,b⟩;refine TG.ap ?_ c b;unfold sB at h4;refine C (dT J J J (N (sq ?_)));refine ci J (fun h6=>?_) (fun h6=>?_)
   ·have ak:=aH h6 h4;refine sk (sq (bk (C (A J ?_))));obtain ⟨x2,h7,am⟩:=L ak;obtain ⟨p0,rfl⟩:=z.adr h7;obtain ⟨c5,bi,an,hP⟩:=z.at h7;have bj:=hP;obtain ⟨a2,c1,rfl,h8⟩:=hP;have:=h8.len;refine cP lZ qD J J J J (aV h7) (U sN J (P 0 J an) J (a1 J (I J (C (A J (dK oA J J (A J (N ?_))))))));obtain ⟨Z,ao,hR⟩:=L am;refine jn (fun a w=>∃ K,Z=.inl K∧St M W H [f,s,H] [] w∧aX [] 40 a [(1,.int .i64 anchor),(4,.int .i64 (K.1:Int)),(5,.int .i64 (K.2.1:Int)),(6,.bool K.2.2),(14,.slice (some p0) o.parts.length R),(15,.int .i64 (o.parts.length:Int)),(16,.int .i64 (k.2.2.1:Int))]) ?_ ?_
    ·refine bk ?_;refine lp ao (fun G a w=>St M W H [f,s,H] [] w∧aX [] 40 a [(1,.int .i64 anchor),(4,.int .i64 (G.1:Int)),(5,.int .i64 (G.2.1:Int)),(6,.bool G.2.2.2),(7,.int .i64 (k.2.2.1:Int)),(14,.slice (some p0) o.parts.length R),(15,.int .i64 (o.parts.length:Int)),(16,.int .i64 (k.2.2.1:Int)),(21,.slice a2 x2.length c1),(22,.int .i64 (x2.length:Int)),(23,.int .i64 (G.2.2.1:Int))]) ?_ ?_
     ·exact cuE J
     rintro j G y1 h9 hB a w ⟨c,b⟩;refine TG.ap ?_ c b;unfold wP at h9;refine C (dT J J J (N (sq ?_)));refine ci J (fun hC=>?_) (fun hC=>?_)
     ·have ar:=aH hC h9;refine sk (sq (bk (C (A J ?_))));obtain ⟨x0,hE,hT⟩:=L ar;obtain ⟨p3,rfl⟩:=h8.adr hE;have au:=h8.atF hE;refine cP oA jR J J J J (aV hE) (cL BD jR J J (P 0 J au) J (al 1 (cs:=[.int .i64 0,.string (bs []),.bool false]) zeroValue156 J J fun b0=>(a1 J (eP 1 (cs:=[.int .i64 x0.paragraph.anchor,.string (bs x0.paragraph.text),.bool x0.removed]) jR J J J J J J J (N (C (S 0 oB J fU (S 0 nZ J Z3 (U G3 J ((sO 1 J).take 1) J (A J ?_))))))))));refine fY J J J (N ?_);refine ci J (fun hG=>?_) (fun hG=>?_)
      ·have ax:=aH hG hT;refine C (A J (A J (a1 J (a1 J (I J (xt J ?_))))));obtain ⟨z0,ay,rfl⟩:=oS ax;obtain rfl:=cZ.out hB;cases hR;refine TG.del 1 ?_;cases ay;obtain rfl:=cZ.out h5;exact cuE J
      have az:=aU hG hT;refine sk (rg (dN J J J (by omega) (A J (N (TG.del 1 ?_)))));cases az;intro a w c b;exact ⟨_,hB,c,b.cuE J⟩
     have a5:=aU hC h9;refine xt J ?_;cases a5;obtain rfl:=cZ.out hB;intro a w c b;exact ⟨_,J,c,b.cuE J⟩
    rintro a w ⟨K,rfl,c,b⟩;apply TG.ap ?_ c b;refine rg (dN J J J (by omega) (A J (N ?_)));cases hR;intro a w c b;exact ⟨_,h5,c,b.cuE J⟩
   have a6:=aU h6 h4;refine xt J ?_;cases a6;obtain rfl:=cZ.out h5;exact cuE J
  rintro a w ⟨c,b⟩;apply TG.ap ?_ c b;refine C (A J (A J (A J (a1 J (a1 J (I J (bK ?_)))))));cases aj;intro a w c b;refine NS b J J J J ?_;exact ⟨_,J,⟨J,c⟩⟩
 rintro a w v b (⟨rfl,c⟩);refine dY J b c (A J (ex J J J (ex J J J (ex J J J (a1 J (a1 J (I J (sq (C ?_)))))))));refine A J (nt J J (N ?_));refine cb J (fun h1=>?_) (fun h1=>?_)
 ·replace h1:=lU h1
  have a7:=bM h1 hO;refine C (a1 J (a1 J (I J (bK ?_))));cases a7;exact TD J J J J
 replace h1:=lV h1
 have a8:=aH h1 hO;refine sk (C (A J (nl J J (S 5 oO J nY (U qA J ((P 0 J hM).drop 5) J (A J ?_))))));obtain ⟨x3,hI,a9⟩:=L a8;obtain ⟨p1,rfl⟩:=z.adr hI;obtain ⟨c6,bm,ba,hV⟩:=z.at hI;have bn:=hV;obtain ⟨a4,c2,rfl,hJ⟩:=hV;have:=hJ.len;refine cP lZ qD J J J J (aV hI) (U sN J (P 0 J ba) J (A J ?_));obtain ⟨x1,hK,bb⟩:=L a9;obtain ⟨p2,rfl⟩:=hJ.adr hK;have bc:=hJ.atF hK
 let y:List Value:=[.int .i64 x1.paragraph.anchor,.string (bs x1.paragraph.text),.bool x1.removed]
 refine cP oA jR J J J J (aV hK) (cL BD jR J J (P 0 J bc) J (va (cs:=y) zeroValue156 jR J J J J J J J J fun q1 bf g=>(N (sq ?_))));refine TG.cut (L':=[(0,.agg i.toArray),(1,.slice u errata.length t),(2,.int .i64 anchor),(3,.int .i64 n),(4,.pointer (some q4)),(9,.bool false),(10,.int .i64 0),(11,.int .i64 r7),(12,.pointer (some q)),(13,.int .i64 (d.2.1:Int)),(14,.int .i64 (d.1:Int)),(15,.bool d.2.2),(16,.pointer (some q1)),(17,.agg i.toArray),(18,.slice u errata.length t),(19,.int .i64 r7),(20,.int .i64 r7),(21,.bool (decide (r7≠0))),(23,.int .i64 n),(24,.bool r1),(25,.bool (!r1)),(26,.agg i.toArray),(27,.slice u errata.length t),(28,.int .i64 n),(29,.pointer (some q)),(30,.tuple l.toArray),(31,.pointer (some q)),(32,.int .i64 anchor),(33,.tuple l.toArray),(34,.int .i64 (d.2.1:Int)),(35,.int .i64 (d.1:Int)),(36,.bool d.2.2),(37,.bool d.2.2),(38,.bool (!d.2.2)),(39,.pointer (some q)),(40,.pointer (some q)),(41,.pointer (some (q.add 5))),(42,.slice (some p1) o.parts.length R),(43,.int .i64 (d.2.1:Int)),(44,.pointer (some (p1.add (d.2.1*1)))),(45,.slice (some p2) x3.length c2),(46,.int .i64 (d.1:Int)),(47,.pointer (some (p2.add (d.1*3)))),(48,.agg y.toArray)]) ⟨J,J,J,J,J,J,J,J,J,J,J,J,J,J,J,J,J,J,J,J,J,J,J,J,J,J,J,J,J,J,J,J,J,J,J,J,J,J,J,J,J,J,J,J,tv⟩ ?_;refine dR 6 mixed (by kernel_rfl) J (E J (S 0 oB J fU D) (E J (S 1 nZ J Z9 D) (E J (U G9 J (((P 1 J g).drop 1).take 1) J D) (E J (S 2 oB J Z4 D) (E J (U G4 J ((P 1 J g).drop 2) J D) (E J (a1 J D) (DF.nil fun bg hF=>(a1 J (I J (bK ?_))))))))));cases bb;exact TD J J J J

theorem w44 (hH:H.le (hp W)) {ce:List Value} (b:bN) (cw:(bQ) H ce b) {aw:Option Addr} {ah:Nat} {errata:List aR} (bl:Sl (aE aO) 6 H aw ah errata) {r:List cX} (hr:RG b errata=some r):Calls prog 44 #[.agg ce.toArray,.slice aw errata.length ah] W (eQ M H W (fun v K=>∃ (F:Option Addr) (q:Nat),v=.slice F r.length q∧Sl (aE eN) 6 K F q r)):=by
 have p:=cw;obtain ⟨ac,V,rfl,u⟩:=cw;have:=u.len;have:=bl.len;unfold RG at hr;refine aL (M:=M) func44 J ntmps44 J hH ?_;refine C (bI (cs:=[.int .i64 b.number,.int .i64 b.bound,.int .i64 b.height,.int .i64 b.width,.slice ac b.parts.length V]) J J J fun q4 x g=>(I J (C (cL lM iC J J (P 0 J g) J (A J (S 1 jV J Z3 (U G3 J (((P 0 J g).drop 1).take 1) J ?_)))))));obtain ⟨r7,b5,b4⟩:=L hr;refine gE C65 J J J J (fun w H hH le=>w65 hH b (bQ.mono _ _ _ _ (le.at 1 J) p) (bl.mono (aE.mono _) (le.at 1 J)) b.bound b5) ?_;rintro v_ n ⟨q1,c8,rfl,hN,hB⟩;have ca:=hB;obtain ⟨a9,c9,a7,c2,rfl,hO,h0⟩:=hB;have:=hO.len;have:=h0.len;refine I J (C (I J (sq (C (A J (nl J J (S 5 oO J nY ?_)))))));refine U qA J ((P 0 J hN).drop 5) J (dK lZ J J (A J (N (TG.nilRow 2 109 6 (TG.as 2 (z:=aS.list none 0 109 6 eN ([]:List cX)) J J ?_)))));obtain ⟨Z,hP,hR⟩:=L b4;refine jn (fun a w=>∃ (a5:Option Addr) (c5:Nat),St M W H [n,x,H] [(2,aS.list a5 c5 109 6 eN Z)] w∧aX [] 93 a [(4,.slice a5 Z.length c5)]) ?_ ?_
 ·refine bk ?_;refine lp hP (fun i a w=>∃ (y:Option Addr) (G:Nat),St M W H [n,x,H] [(2,aS.list y G 109 6 eN i.2.2)] w∧aX [] 93 a [(2,.pointer (some q4)),(4,.slice y i.2.2.length G),(6,.int .i64 i.2.1),(22,.slice a7 r7.parts.length c2),(23,.int .i64 (r7.parts.length:Int)),(24,.int .i64 (i.1:Int))]) ?_ ?_
  ·intro a w d e;exact ⟨none,0,d,e.cuE J⟩
  rintro j i y0 h1 hC a w ⟨y,G,d,e⟩;refine TG.ap ?_ d e;unfold EJ at h1;refine C (dT J J J (N (sq ?_)));refine ci J (fun h2=>?_) (fun h2=>?_)
  ·have hT:=aH h2 h1;refine sk (sq (bk (C (A J ?_))));obtain ⟨x2,h3,hV⟩:=L hT;obtain ⟨p0,rfl⟩:=h0.adr h3;obtain ⟨cR,cc,hW,hE⟩:=h0.at h3;have cd:=hE;obtain ⟨a6,c6,rfl,h4⟩:=hE;have:=h4.len;refine cP lZ qD J J J J (aV h3) (U sN J (P 0 J hW) J (a1 J (I J (C (a1 J (I J (sq (sq ?_))))))));refine rg (A J (dK oA J J (A J (N ?_))));obtain ⟨t,hX,ad⟩:=L hV;refine jn (fun a w=>∃ (a3:Option Addr) (c3:Nat),St M W H [n,x,H] [(2,aS.list a3 c3 109 6 eN t.2)] w∧aX [] 93 a [(2,.pointer (some q4)),(4,.slice a3 t.2.length c3),(6,.int .i64 i.2.1),(9,.int .i64 t.1),(22,.slice (some p0) r7.parts.length c2),(23,.int .i64 (r7.parts.length:Int)),(24,.int .i64 (i.1:Int))]) ?_ ?_
   ·refine bk ?_;refine lp hX (fun c a w=>∃ (B:Option Addr) (R:Nat),St M W H [n,x,H] [(2,aS.list B R 109 6 eN c.2.2.2)] w∧aX [] 93 a [(2,.pointer (some q4)),(4,.slice B c.2.2.2.length R),(6,.int .i64 i.2.1),(7,.int .i64 (i.1:Int)),(9,.int .i64 c.2.2.1),(10,.int .i64 (c.1:Int)),(22,.slice (some p0) r7.parts.length c2),(23,.int .i64 (r7.parts.length:Int)),(24,.int .i64 (i.1:Int)),(29,.slice a6 x2.length c6),(30,.int .i64 (x2.length:Int)),(31,.int .i64 (c.2.1:Int))]) ?_ ?_
    ·intro a w d e;exact ⟨y,G,d,e.cuE J⟩
    rintro j c y1 h5 hG a w ⟨B,R,d,e⟩;refine TG.ap ?_ d e;unfold EI at h5;refine C (dT J J J (N (sq ?_)));refine ci J (fun h6=>?_) (fun h6=>?_)
    ·have af:=aH h6 h5;refine sk (sq ?_);obtain ⟨t0,ai,ak⟩:=L af;refine jn (fun a w=>∃ (a4:Option Addr) (c4:Nat),St M W H [n,x,H] [(2,aS.list a4 c4 109 6 eN t0.2.2)] w∧aX [] 93 a [(2,.pointer (some q4)),(4,.slice a4 t0.2.2.length c4),(6,.int .i64 i.2.1),(7,.int .i64 (i.1:Int)),(9,.int .i64 t0.2.1),(10,.int .i64 (t0.1:Int)),(22,.slice (some p0) r7.parts.length c2),(23,.int .i64 (r7.parts.length:Int)),(24,.int .i64 (i.1:Int)),(29,.slice a6 x2.length c6),(30,.int .i64 (x2.length:Int)),(31,.int .i64 (c.2.1:Int))]) ?_ ?_
     ·refine bk (C ?_);obtain ⟨k,h7,hI⟩:=L ai;obtain ⟨p1,rfl⟩:=h4.adr h7;have an:=h4.atF h7;refine cP oA jR J J J J (aV h7) (cL BD jR J J (P 0 J an) J (va (cs:=[.int .i64 k.paragraph.anchor,.string (bs k.paragraph.text),.bool k.removed]) zeroValue156 jR J J J J J J J J fun q2 aa f=>(N (sq (C (S 2 oB J Z4 (U G4 J ((P 0 J f).drop 2) J (N ?_))))))));refine cb J (fun h8=>?_) (fun h8=>?_)
      ·have ar:=aH h8 hI;refine xt J ?_;cases ar;intro a w d e;exact ⟨B,R,d.selH [1,2,3] J,e.cuE J⟩
      have ax:=bM h8 hI;refine sk (C (A J ?_));obtain ⟨az,bb⟩:=aG ax;refine dN J J J az (I J (C (S 0 oB J fU (S 1 nZ J Z9 (U G9 J (((P 0 J f).drop 1).take 1) J (oT U9 J J (S 3 jV J Z3 (U G3 J (((P 2 J g).drop 3).take 1) J ?_))))))));obtain ⟨bd,bf⟩:=aG bb;refine dN J J J bd ?_;obtain ⟨bh,bj⟩:=aG bf;refine rM J J J bh (S 3 jV J Z3 (U G3 J (((P 2 J g).drop 3).take 1) J ?_));obtain ⟨bn,bp⟩:=aG bj;refine XW J J J bn (I J (sq ?_));obtain ⟨bq,br⟩:=aG bp;obtain ⟨bt,bv⟩:=aG br;obtain ⟨hJ,bw⟩:=aG bv;have:0≤(c.2.2.1%b.height)∧(c.2.2.1%b.height) < b.height:=have h:=(hJ:0≤c.2.2.1∧0 < b.height);⟨Int.emod_nonneg _ (by omega),Int.emod_lt_of_pos _ h.2⟩;obtain ⟨bx,bz⟩:=aG bw;obtain ⟨x1,h9,b0⟩:=L bz;obtain ⟨p2,rfl⟩:=u.adr h9;obtain ⟨cS,cf,b1,hK⟩:=u.at h9;have cg:=hK;obtain ⟨b6,b8,rfl,b2⟩:=hK;have:=b2.len;refine dR 26 mixed (by kernel_rfl) J (E J (A J D) (E J (S 0 oB J fU D) (E J (S 0 nZ J Z3 D) (E J (U G3 J ((P 1 J f).take 1) J D) (E J (A J D) (E J (A J D) (E J (S 2 jV J Z3 D) (E J (U G3 J (((P 3 J g).drop 2).take 1) J D) (E J (XW J J J bq D) (E J (dN J J J bt D) (E J (A J D) ?_)))))))))));refine E J (S 2 jV J Z3 D) (E J (U G3 J (((P 3 J g).drop 2).take 1) J D) (E J (ZL J J J hJ D) (E J (dN J J J bx D) (E J (A J D) (E J (bu (cs:=[.int .i64 k.paragraph.anchor,.int .i64 (i.2.1+(c.2.2.1/b.height)),.int .i64 ((c.2.2.1%b.height)+1),.int .i64 ((((k.paragraph.text.length:Int)+b.width) - 1)/b.width)]) T12.B82 J J J D) (E J (S 4 jV J vD D) (E J (U xS J ((P 3 J g).drop 4) J D) (E J (A J D) (E J (cP sR jQ J J J J (aV h9) D) (E J (S 0 kX J Z3 D) (E J (U G3 J ((P 4 J b1).take 1) J D) ?_)))))))))))
      let Y:List Value:=[.int .i64 k.paragraph.anchor,.int .i64 (i.2.1+(c.2.2.1/b.height)),.int .i64 ((c.2.2.1%b.height)+1),.int .i64 ((((k.paragraph.text.length:Int)+b.width) - 1)/b.width),.int .i64 x1.day,.int .i64 ((c.1:Int)+1)]
      refine E J (A J D) (E J (bu (cs:=Y) T12.B109 J J J D) ?_)
      refine uS 1 (aE eN) 6 ([(⟨(⟨k.paragraph.anchor,(i.2.1+(c.2.2.1/b.height)),((c.2.2.1%b.height)+1),((((k.paragraph.text.length:Int)+b.width) - 1)/b.width)⟩:gP),x1.day,((c.1:Int)+1)⟩:cX)]:List cX) (aE.mono _) J (bS (cs:=Y) T12.E106 J J J J fun q0 s b3 o=>by
        have hL:Sl (aE eN) 6 s (some q0) 1 ([(⟨(⟨k.paragraph.anchor,(i.2.1+(c.2.2.1/b.height)),((c.2.2.1%b.height)+1),((((k.paragraph.text.length:Int)+b.width) - 1)/b.width)⟩:gP),x1.day,((c.1:Int)+1)⟩:cX)]:List cX):=Sl.litF (fun _=>J) (fun _=>J) b3 o J J J;have:=hL.len
        exact oW (aE.mono _) hL) fun b7 b9=>?_
      refine DF.nil fun ab hF=>?_;obtain ⟨hM,_⟩:=hF;have:=hM.len;obtain ⟨ae,ag⟩:=aG b0;have:=fA c.2.2.2 ([(⟨(⟨k.paragraph.anchor,(i.2.1+(c.2.2.1/b.height)),((c.2.2.1%b.height)+1),((((k.paragraph.text.length:Int)+b.width) - 1)/b.width)⟩:gP),x1.day,((c.1:Int)+1)⟩:cX)]:List cX);refine rO 2 (enc:=eN) (l:=c.2.2.2) (m:=([(⟨(⟨k.paragraph.anchor,(i.2.1+(c.2.2.1/b.height)),((c.2.2.1%b.height)+1),((((k.paragraph.text.length:Int)+b.width) - 1)/b.width)⟩:gP),x1.day,((c.1:Int)+1)⟩:cX)]:List cX)) T12.E106 J J J J J J hM 0 J (fun _=>J) (fun _=>J) J ae fun a8 c7=>(I J (rg (A J (A J ?_))));obtain ⟨aj,am⟩:=aG ag;refine dN J J J aj (I J ?_);cases am;intro a w d e;exact ⟨a8,c7,d.selH [2,3,4] J,e.cuE J⟩
     rintro a w ⟨a4,c4,d,e⟩;refine TG.ap ?_ d e;refine rg (dN J J J (by omega) (A J (N ?_)));cases ak;intro a w d e;exact ⟨_,hG,a4,c4,d,e.cuE J⟩
    have ao:=aU h6 h5;refine xt J ?_;cases ao;obtain rfl:=cZ.out hG;intro a w d e;exact ⟨B,R,d,e.cuE J⟩
   rintro a w ⟨a3,c3,d,e⟩;apply TG.ap ?_ d e;refine rg (A J (A J (S 2 jV J Z3 (U G3 J (((P 1 J g).drop 2).take 1) J ?_))));obtain ⟨au,ay⟩:=aG ad;refine dN J J J au ?_;obtain ⟨ba,bc⟩:=aG ay;refine rM J J J ba (S 2 jV J Z3 (U G3 J (((P 1 J g).drop 2).take 1) J ?_));obtain ⟨be,bg⟩:=aG bc;refine XW J J J be ?_;obtain ⟨bi,bm⟩:=aG bg;refine dN J J J bi (I J (rg (dN J J J (by omega) (A J (N ?_)))));cases bm;intro a w d e;exact ⟨_,hC,a3,c3,d,e.cuE J⟩
  have bo:=aU h2 h1;refine xt J ?_;cases bo;obtain rfl:=cZ.out hC;intro a w d e;exact ⟨y,G,d,e.cuE J⟩
 rintro a w ⟨a5,c5,d,e⟩;apply TG.ap ?_ d e;refine C (A J (I J (bK ?_)));cases hR;intro a w d e;refine dV e J J ?_;exact ⟨⟨_,_,J,(d.listOut 2 J (fun _=>J))⟩,d.ext⟩

end T12
