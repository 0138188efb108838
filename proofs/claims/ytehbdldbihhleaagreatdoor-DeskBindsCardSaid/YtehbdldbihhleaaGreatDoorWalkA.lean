/-
 Walks of functions of a session: each call comes to what the model says. Printed by a program of ours.
-/
import Derived.Test.YtehbdldbihhleaaGreatDoorMade
set_option linter.all false
set_option maxHeartbeats 4000000
namespace T12
open Go Go.Proofs Pk Tryz
open Pk renaming m1→A,aB→C,aC→D,dt→E,aD→I,aA→L,on→N,sS→P,aP→S,aQ→U
theorem X {D:List Deferred} {k:Nat} {M:Prop} {w0:World} {H0:Hp} {Hs:List Hp} {σ:aL} {L:cD} {N:aS} (h:TG ⟨D,k,M,w0,H0⟩ Hs σ L N):∀ a w,St M w0 H0 Hs σ w∧bM D k a L→N a w:=fun a w z=>h a w z.1 z.2
variable {M:Prop} {W:World} {H:Hp}
theorem w32 {M:Prop} {W:World} (line:aE) (h:Int) {r:Int} (n:TO line h=some r):Calls prog 32 #[.string (bs line),.int .i64 h] W (bN M W (.int .i64 r)):=by
 unfold TO at n;refine aN (M:=M) func32 J ntmps32 J (Hp.le.refl _) ?_;refine C (I J (sq ?_));obtain ⟨f,o,p⟩:=L n;refine jn (SJ M W (hp W) [(hp W)] [] 18 [(1,.int .i64 f)]) ?_ ?_
 ·refine bk ?_;refine lp o (fun e=>SJ M W (hp W) [(hp W)] [] 18 [(0,.string (bs line)),(1,.int .i64 e)]) ?_ ?_
  ·exact cuE J
  rintro j e K i k a w ⟨d,c⟩;refine TG.ap ?_ d c;unfold FB at i;refine sq (sq ?_);obtain ⟨t31,l,m⟩:=L i;refine jn (SJ M W (hp W) [(hp W)] [] 18 [(0,.string (bs line)),(1,.int .i64 e),(14,.bool t31)]) ?_ ?_
  ·refine rg (A J (A J (wP U9 J J (dY J J J (A J ?_)))));by_cases b:e < (line.length:Int)
   ·have q:=aJ b l;refine gt b J (A J (gt b J (A J (gt b J ?_))));obtain ⟨G,s⟩:=aF q;obtain ⟨F,t,u⟩:=L s;have:=UInt8.toNat_lt F;refine PT U9 J J J (by omega) t (gt b J (kZ J J J (pt b J J (N ?_))));cases u;exact cuE J
   have v:=aU b l;refine cC 4 J J J (decide_eq_false b) J (pf b J J (N ?_));cases v;exact cuE J
  refine X ?_;refine cb J (fun g=>?_) (fun g=>?_)
  ·have x:=aJ g m;refine sk (bk (rg (A J ?_)));obtain ⟨y,z⟩:=aF x;refine dO J J J y (I J ?_);cases z;intro a w d c;exact ⟨_,k,d,c.cuE J⟩
  have B:=bJ g m;refine xt J ?_;cases B;obtain rfl:=dJ.out k;exact cuE J
 rintro a w ⟨d,c⟩;apply TG.ap ?_ d c;refine C (A J (I J (bK ?_)));cases p;exact cX J J

theorem w33 {M:Prop} {W:World} (cQ:aE) {r:Int×Bool} (hr:TP cQ=some r):Calls prog 33 #[.string (bs cQ)] W (bN M W (.tuple #[.int .i64 r.1,.bool r.2])):=by
 unfold TP at hr;refine aN (M:=M) func33 J ntmps33 J (Hp.le.refl _) ?_;refine C (a1 J (I J (sq (C (A J (N (bk (sq ?_))))))));refine rg (qU J J J (I J ?_));refine ci J (fun g=>?_) (fun g=>?_)
 ·have x:=aJ g hr;refine C (a1 J (I J (bK ?_)));cases x;exact qA J J J
 have hJ:=aU g hr;refine C (qU J J J (I J ?_));refine ci J (fun h=>?_) (fun h=>?_)
 ·have B:=aJ h hJ;refine C (a1 J (I J (bK ?_)));cases B;exact qA J J J
 have K:=aU h hJ;refine sq (C (qU J J J (I J ?_)));obtain ⟨t0,hK,hL⟩:=L K;refine jn (SJ M W (hp W) [(hp W)] [] 32 [(4,.string (bs cQ)),(9,.bool t0)]) ?_ ?_
 ·refine ci J (fun i=>?_) (fun i=>?_)
  ·have Y:=aJ i hK;refine sk ?_;cases Y;exact cuE J
  have aa:=aU i hK;refine C (qU J J J (I J ?_));obtain ⟨t1,hM,ac⟩:=L aa;refine jn (SJ M W (hp W) [(hp W)] [] 32 [(4,.string (bs cQ)),(9,.bool t1)]) ?_ ?_
  ·refine ci J (fun j=>?_) (fun j=>?_)
   ·have ae:=aJ j hM;refine sk ?_;cases ae;exact cuE J
   have af:=aU j hM;refine C (qU J J J (I J ?_));obtain ⟨t2,hN,ag⟩:=L af;refine jn (SJ M W (hp W) [(hp W)] [] 32 [(4,.string (bs cQ)),(9,.bool t2)]) ?_ ?_
   ·refine ci J (fun k=>?_) (fun k=>?_)
    ·have ah:=aJ k hN;refine sk ?_;cases ah;exact cuE J
    have ai:=aU k hN;refine rg (qU J J J (I J ?_));cases ai;exact cuE J
   rintro a w ⟨c,b⟩;refine TG.apJ ?_ c b;cases ag;exact cuE J
  rintro a w ⟨c,b⟩;refine TG.apJ ?_ c b;cases ac;exact cuE J
 refine X ?_;refine cb J (fun l=>?_) (fun l=>?_)
 ·have aj:=aJ l hL;refine C (a1 J (I J (bK ?_)));cases aj;exact qA J J J
 have hO:=bJ l hL;refine C (qU J J J (I J ?_));refine ci J (fun m=>?_) (fun m=>?_)
 ·have ak:=aJ m hO;refine C (a1 J (I J (bK ?_)));cases ak;exact qA J J J
 have am:=aU m hO;refine sq (C (qU J J J (I J ?_)));obtain ⟨t3,hP,hQ⟩:=L am;refine jn (SJ M W (hp W) [(hp W)] [] 32 [(4,.string (bs cQ)),(16,.bool t3)]) ?_ ?_
 ·refine ci J (fun n=>?_) (fun n=>?_)
  ·have an:=aJ n hP;refine sk ?_;cases an;exact cuE J
  have ao:=aU n hP;refine C (qU J J J (I J ?_));obtain ⟨t4,hR,ap⟩:=L ao;refine jn (SJ M W (hp W) [(hp W)] [] 32 [(4,.string (bs cQ)),(16,.bool t4)]) ?_ ?_
  ·refine ci J (fun o=>?_) (fun o=>?_)
   ·have aq:=aJ o hR;refine sk ?_;cases aq;exact cuE J
   have ar:=aU o hR;refine rg (qU J J J (I J ?_));cases ar;exact cuE J
  rintro a w ⟨c,b⟩;refine TG.apJ ?_ c b;cases ap;exact cuE J
 refine X ?_;refine cb J (fun p=>?_) (fun p=>?_)
 ·have au:=aJ p hQ;refine C (a1 J (I J (bK ?_)));cases au;exact qA J J J
 have hT:=bJ p hQ;refine C (qU J J J (I J ?_));refine ci J (fun s=>?_) (fun s=>?_)
 ·have aw:=aJ s hT;refine C (a1 J (I J (bK ?_)));cases aw;exact qA J J J
 have ax:=aU s hT;refine sq (C (qU J J J (I J ?_)));obtain ⟨t5,hV,hW⟩:=L ax;refine jn (SJ M W (hp W) [(hp W)] [] 32 [(4,.string (bs cQ)),(22,.bool t5)]) ?_ ?_
 ·refine ci J (fun u=>?_) (fun u=>?_)
  ·have ay:=aJ u hV;refine sk ?_;cases ay;exact cuE J
  have q:=aU u hV;refine C (qU J J J (I J ?_));obtain ⟨t6,hX,t⟩:=L q;refine jn (SJ M W (hp W) [(hp W)] [] 32 [(4,.string (bs cQ)),(22,.bool t6)]) ?_ ?_
  ·refine ci J (fun z=>?_) (fun z=>?_)
   ·have v:=aJ z hX;refine sk ?_;cases v;exact cuE J
   have y:=aU z hX;refine rg (qU J J J (I J ?_));cases y;exact cuE J
  rintro a w ⟨c,b⟩;refine TG.apJ ?_ c b;cases t;exact cuE J
 refine X ?_;refine cb J (fun G=>?_) (fun G=>?_)
 ·have F:=aJ G hW;refine C (a1 J (I J (bK ?_)));cases F;exact qA J J J
 have d:=bJ G hW;refine C (qU J J J (I J ?_));refine ci J (fun V=>?_) (fun V=>?_)
 ·have R:=aJ V d;refine C (a1 J (I J (bK ?_)));cases R;exact qA J J J
 have e:=aU V d;refine C (qU J J J (I J ?_));refine ci J (fun hH=>?_) (fun hH=>?_)
 ·have Z:=aJ hH e;refine C (a1 J (I J (bK ?_)));cases Z;exact qA J J J
 have f:=aU hH e;refine C (qU J J J (I J ?_));refine ci J (fun hI=>?_) (fun hI=>?_)
 ·have ab:=aJ hI f;refine C (a1 J (I J (bK ?_)));cases ab;exact qA J J J
 have ad:=aU hI f;refine sk (C (a1 J (I J (bK ?_))));cases ad;exact qA J J J

theorem w34 {M:Prop} {W:World} (aj:aE) {r:Int×Bool} (hr:NY aj=some r):Calls prog 34 #[.string (bs aj)] W (bN M W (.tuple #[.int .i64 r.1,.bool r.2])):=by
 unfold NY at hr;refine aN (M:=M) func34 J ntmps34 J (Hp.le.refl _) ?_;refine C (a1 J (I J (sq ?_)));obtain ⟨k,l,a3⟩:=L hr;refine jn (SJ M W (hp W) [(hp W)] [] 69 [(0,.string (bs aj)),(4,.bool k)]) ?_ ?_
 ·refine rg (A J (wP U9 J J (nH J J J (A J ?_))));by_cases e:0 < (aj.length:Int)
  ·have hQ:=aJ e l;refine gt e J (A J (gt e J ?_));obtain ⟨x3,hR,hT⟩:=L hQ;have:=UInt8.toNat_lt x3;refine PT U9 J J J J hR (gt e J (fQ J J J (pt e J J (I J ?_))));cases hT;exact cuE J
  have hV:=aU e l;refine cC 3 J J J (decide_eq_false e) J (pf e J J (I J ?_));cases hV;exact cuE J
 refine X ?_;refine C (A J (I J (sq (C (A J (N ?_))))));obtain ⟨t21,hF,hW⟩:=L a3;refine jn (SJ M W (hp W) [(hp W)] [] 69 [(4,.bool k),(5,.string (bs t21))]) ?_ ?_
 ·refine cb J (fun o=>?_) (fun o=>?_)
  ·have hX:=aJ o hF;refine rg (A J ?_);obtain ⟨t,x⟩:=aF hX;refine ssF 1 U9 J J J J t (I J ?_);cases x;exact cuE J
  have B:=bJ o hF;refine sk ?_;cases B;exact cuE J
 refine X ?_;refine sq (sq ?_);obtain ⟨t44,hG,hH⟩:=L hW;refine jn (SJ M W (hp W) [(hp W)] [] 69 [(4,.bool k),(5,.string (bs t21)),(40,.bool t44)]) ?_ ?_
 ·refine rg (A J (wP U9 J J (fQ J J J (A J ?_))));by_cases f:(t21.length:Int)=0
  ·have G:=aJ f hG;refine cC 3 J J J (decide_eq_true f) J (pt f J J (A J (cC 4 J J J J J (gU J J J (gU J J J (gU J J J (gU J J J (gU J J J (gU J J J (gF J J J J (pT J J J J ?_)))))))))));refine N ?_;cases G;exact cuE J
  have hI:=aU f hG;refine dC f J (A J (dC f J (wP U9 J J (dC f J (nH J J J (pf f J J (A J ?_)))))));by_cases b:9 < (t21.length:Int)
  ·have V:=aJ b hI;refine cC 4 J J J (decide_eq_true b) J (gU J J J (gU J J J (gU J J J (gU J J J (gU J J J (gU J J J (CU b J (pt b J J (N ?_)))))))));cases V;exact cuE J
  have Z:=aU b hI;refine dC b J (A J (dC b J ?_));obtain ⟨x0,ab,hJ⟩:=L Z;have:=UInt8.toNat_lt x0;refine PT U9 J J J J ab (dC b J (fQ J J J (dC b J (A J ?_))));by_cases c:(x0.toNat:Int)=48
  ·have hK:=aJ c hJ;refine gt c J (A J (gt c J (wP U9 J J (gt c J (nH J J J (gt c J (A J ?_)))))));by_cases i:1 < (t21.length:Int)
   ·have ad:=aJ i hK;refine CU i J (gt c J (pt i J J (dC b J (pt c J J (pf b J J (N ?_))))));cases ad;exact cuE J
   have ae:=aU i hK;refine dC i J (A J (gt c J (pf i J J (dC b J (pt c J J (pf b J J (N ?_)))))));cases ae;exact cuE J
  have af:=aU c hJ;refine cC 4 J J J (decide_eq_false c) J (gU J J J (gf c J (dC b J (pf c J J (pf b J J (N ?_))))));cases af;exact cuE J
 refine X ?_;refine cb J (fun p=>?_) (fun p=>?_)
 ·have ag:=aJ p hH;refine C (a1 J (I J (bK ?_)));cases ag;exact qA J J J
 have ah:=bJ p hH;refine sk (C (I J (sq (C (I J ?_)))));obtain ⟨n,ai,hL⟩:=L ah;refine jn (fun a w=>∃ t0,n=.inl t0∧SJ M W (hp W) [(hp W)] [] 69 [(4,.bool k),(6,.int .i64 t0)] a w) ?_ ?_
 ·refine bk ?_;refine lp ai (fun m=>SJ M W (hp W) [(hp W)] [] 69 [(4,.bool k),(5,.string (bs t21)),(6,.int .i64 m.2),(7,.int .i64 (m.1:Int))]) ?_ ?_
  ·exact cuE J
  rintro j m y0 q s a w ⟨h,g⟩;refine TG.ap ?_ h g;unfold zY at q;refine sq (C (A J (A J (wP U9 J J (dY J J J (N ?_))))));refine ci J (fun v=>?_) (fun v=>?_)
  ·have ak:=aJ v q;refine sk (sq (bk (sq (sq ?_))));obtain ⟨t1,am,hM⟩:=L ak;refine jn (SJ M W (hp W) [(hp W)] [] 69 [(4,.bool k),(5,.string (bs t21)),(6,.int .i64 m.2),(7,.int .i64 (m.1:Int)),(56,.bool t1)]) ?_ ?_
   ·refine rg (A J (A J ?_));obtain ⟨x1,hN,hO⟩:=L am;have:=UInt8.toNat_lt x1;refine PT U9 J J J J hN (dY J J J (A J ?_));by_cases d:(x1.toNat:Int) < 48
    ·have an:=aJ d hO;refine cC 4 J J J (decide_eq_true d) J (pt d J J (N ?_));cases an;exact cuE J
    have ao:=aU d hO;refine dC d J (A J (dC d J (A J (dC d J (PT U9 J J J J hN (dC d J (nH J J J (pf d J J (N ?_)))))))));cases ao;exact cuE J
   refine X ?_;refine cb J (fun z=>?_) (fun z=>?_)
   ·have aq:=aJ z hM;refine C (a1 J (I J (bK ?_)));cases aq;obtain rfl:=dJ.out s;cases hL;exact qA J J J
   have ar:=bJ z hM;refine sk (rg (A J ?_));obtain ⟨au,aw⟩:=aF ar;refine UO J J J au (A J (A J ?_));obtain ⟨x2,ax,ay⟩:=L aw;have:=UInt8.toNat_lt x2;refine PT U9 J J J J ax (wrI (((x2.toNat:Int) - 48)%256) J J J (QF _) (zG U5 U3 J J (mB (by omega)) ?_));obtain ⟨az,a0⟩:=aF ay;refine dO J J J az (I J (rg (A J ?_)));obtain ⟨a2,u⟩:=aF a0;refine dO J J J a2 (I J ?_);cases u;intro a w h g;exact ⟨_,s,h,g.cuE J⟩
  have y:=aU v q;refine xt J ?_;cases y;obtain rfl:=dJ.out s;intro a w h g;exact ⟨_,J,h,g.cuE J⟩
 rintro a w ⟨t0,rfl,h,g⟩;apply TG.ap ?_ h g;refine sq (C (A J (N ?_)));obtain ⟨t2,hP,F⟩:=L hL;refine jn (SJ M W (hp W) [(hp W)] [] 69 [(6,.int .i64 t2)]) ?_ ?_
 ·refine cb J (fun R=>?_) (fun R=>?_)
  ·have K:=aJ R hP;refine rg (A J ?_);obtain ⟨Y,aa⟩:=aF K;refine ngI J J Y (I J ?_);cases aa;exact cuE J
  have ac:=bJ R hP;refine sk ?_;cases ac;exact cuE J
 refine X ?_;refine C (A J (a1 J (I J (bK ?_))));cases F;exact qA J J J

theorem w16 (h:H.le (hp W)) (line:aE) {r:aE×List Int×aE×Bool} (hr:m16 line=some r):Calls prog 16 #[.string (bs line)] W (eW M H W (fun v K=>∃ (g:Option Addr) (e:Nat),v=.tuple #[.string (bs r.1),.slice g r.2.1.length e,.string (bs r.2.2.1),.bool r.2.2.2]∧Sl (aG (bX .i64)) 1 K g e r.2.1)):=by
 unfold m16 at hr;refine aN (M:=M) func16 J ntmps16 J h ?_;refine C (a1 J (a1 J (a1 J (I J (C (A J ?_))))));obtain ⟨p,ao,ak⟩:=L hr;refine bB C32 J (fun w H h le=>w32 line 0 ao) (I J (C (A J (A J ?_))));obtain ⟨ay,am⟩:=aF ak;obtain ⟨aj,an⟩:=aF am;refine ssT p.toNat U9 J J J (by omega) aj (I J (C (A J ?_)));obtain ⟨r8,aq,h9⟩:=L an;refine bB C33 J (fun w H h le=>w33 (line.take p.toNat) aq) (A J (ex J J J (ex J J J (a1 J (I J (sq (C (A J (dY J J J ?_)))))))));refine N ?_;refine ci J (fun u=>?_) (fun u=>?_)
 ·have hI:=aJ u h9;refine C (a1 J (a1 J (a1 J (I J (bK ?_)))));cases hI;intro a w b c;refine AV c J J J J J ?_;exact ⟨⟨_,_,J,Sl.o⟩,b.ext⟩
 have hJ:=aU u h9;refine sk (C (I J (sq (C (I J (TG.nilRow 2 3 1 (TG.as 2 (z:=S.list none 0 3 1 (bX .i64) ([]:List Int)) J J ?_)))))));obtain ⟨t,hK,m⟩:=L hJ;refine jn (fun a w=>∃ f,t=.inl f∧∃ (q:Option Addr) (s:Nat),SJ M W H [H] [(2,S.list q s 3 1 (bX .i64) f.2)] 71 [(0,.string (bs line)),(6,.int .i64 f.1),(7,.string (bs (line.take p.toNat))),(9,.bool r8.2),(10,.slice q f.2.length s)] a w) ?_ ?_
 ·refine bk ?_;refine lp hK (fun d a w=>∃ (i:Option Addr) (k:Nat),SJ M W H [H] [(2,S.list i k 3 1 (bX .i64) d.2.2)] 71 [(0,.string (bs line)),(6,.int .i64 d.2.1),(7,.string (bs (line.take p.toNat))),(8,.int .i64 r8.1),(9,.bool r8.2),(10,.slice i d.2.2.length k),(11,.int .i64 (d.1:Int))] a w) ?_ ?_
  ·intro a w b c;exact ⟨none,0,b,c.cuE J⟩
  rintro j d y0 x n a w ⟨i,k,b,c⟩;refine TG.ap ?_ b c;unfold FC at x;refine sq (C (A J (A J (dY J J J (N ?_)))));refine ci J (fun y=>?_) (fun y=>?_)
  ·have hB:=aJ y x;refine sk (sq (bk (sq (C (A J (A J (wP U9 J J (fQ J J J (N ?_)))))))));refine ci J (fun B=>?_) (fun B=>?_)
   ·have hL:=aJ B hB;refine C (a1 J (a1 J (a1 J (I J (bK ?_)))));cases hL;obtain rfl:=dJ.out n;cases m;intro a w b c;refine AV c J J J J J ?_;exact ⟨⟨_,_,J,Sl.o⟩,b.ext⟩
   have hM:=aU B hB;refine sk (C (A J (A J ?_)));obtain ⟨hC,hN⟩:=aF hM;refine dO J J J hC ?_;obtain ⟨r2,hO,hP⟩:=L hN;refine bB C32 J (fun w H h le=>w32 line (d.2.1+1) hO) (I J (C (A J (A J (dO J J J hC (A J ?_))))));obtain ⟨au,hQ⟩:=aF hP;obtain ⟨aw,hR⟩:=aF hQ;obtain ⟨hT,hV⟩:=aF hR;refine ssB ((d.2.1+1).toNat) r2.toNat U9 J J J J (by omega) (by omega) hT ?_;obtain ⟨r0,hW,hE⟩:=L hV;refine bB C34 J (fun w H h le=>w34 ((line.drop ((d.2.1+1).toNat)).take (r2.toNat - ((d.2.1+1).toNat))) hW) (A J (ex J J J (ex J J J (a1 J (I J (sq (C (A J (nt J J ?_)))))))));refine N ?_;refine cb J (fun h0=>?_) (fun h0=>?_)
   ·replace h0:=kX h0
    have hX:=bJ h0 hE;refine C (a1 J (a1 J (a1 J (I J (bK ?_)))));cases hX;obtain rfl:=dJ.out n;cases m;intro a w b c;refine AV c J J J J J ?_;exact ⟨⟨_,_,J,Sl.o⟩,b.ext⟩
   replace h0:=kY h0
   have G:=aJ h0 hE;refine sk (rg (A J (A J ?_)));obtain ⟨R,V⟩:=aF G;have:=fI d.2.2 [r0.1];have:=nX r0.1;refine AZ 2 (bX .i64) (l:=d.2.2) r0.1 T12.E33 J J J J J J J J J J J J R fun a3 c2 u0=>(A J (a1 J (I J (rg (A J ?_)))));obtain ⟨Y,Z⟩:=aF V;refine dO J J J Y (I J ?_);cases Z;intro a w b c;exact ⟨_,n,a3,c2,b,c.cuE J⟩
  have aa:=aU y x;refine xt J ?_;cases aa;obtain rfl:=dJ.out n;intro a w b c;exact ⟨_,J,i,k,b,c.cuE J⟩
 rintro a w ⟨f,rfl,q,s,b,c⟩;apply TG.ap ?_ b c;refine sq (C (A J (A J (A J (wP U9 J J (dY J J J (neB U4 J J J (N ?_))))))));refine cb J (fun h1=>?_) (fun h1=>?_)
 ·replace h1:=kX h1
  have ab:=bJ h1 m;refine C (a1 J (a1 J (a1 J (I J (bK ?_)))));cases ab;intro a w b c;refine AV c J J J J J ?_;exact ⟨⟨_,_,J,Sl.o⟩,b.ext⟩
 replace h1:=kY h1
 have hG:=aJ h1 m;refine sk (sq (C (A J (N ?_))));refine cb J (fun F=>?_) (fun F=>?_)
 ·have ac:=aJ F hG;refine sq ?_;obtain ⟨ad,ae⟩:=aF ac;obtain ⟨ax,af⟩:=aF ae;obtain ⟨ag,ah⟩:=aF af;refine dV 8 mixed (by kernel_rfl) J (E J (A J D) (E J (A J D) (E J (A J D) (E J (A J D) (E J (dO J J J ad D) (E J (ssF ((f.1+1).toNat) U9 J J J (by omega) ag D) (E J (a1 J D) (E J (a1 J D) (DF.nil fun ar hF=>(a1 J (a1 J ?_)))))))))));refine N (bK ?_);cases ah;intro a w b c;refine AV c J J J J J ?_;exact ⟨⟨_,_,J,(b.listOut 2 J (fun _=>J))⟩,b.ext⟩
 have ai:=bJ F hG;refine sk (C (A J (A J (a1 J (a1 J (a1 J (I J (bK ?_))))))));cases ai;intro a w b c;refine AV c J J J J J ?_;exact ⟨⟨_,_,J,(b.listOut 2 J (fun _=>J))⟩,b.ext⟩

theorem w5 (hH:H.le (hp W)) {y:Option Addr} {s:Nat} {lines:List aE} (F:Sl (aG cN) 1 H y s lines) {r:Bool} (hr:m5 lines=some r):Calls prog 5 #[.slice y lines.length s] W (bN M W (.bool r)):=by
 have:=F.len;unfold m5 at hr;refine aN (M:=M) func5 J ntmps5 J hH ?_;refine C (I J (C (a1 J (I J (sq (C ?_))))));refine I J ?_;obtain ⟨c,R,Y⟩:=L hr;refine jn (SJ M W H [H] [] 69 [(0,.slice y lines.length s),(3,.int .i64 c.1),(4,.int .i64 c.2)]) ?_ ?_
 ·refine bk ?_;refine lp R (fun g=>SJ M W H [H] [] 69 [(0,.slice y lines.length s),(3,.int .i64 g.2.1),(4,.int .i64 g.2.2),(5,.int .i64 (g.1:Int))]) ?_ ?_
  ·exact cuE J
  rintro j g y0 hF hJ a w ⟨x,t⟩;refine TG.ap ?_ x t;unfold QR at hF;refine sq (C (A J (A J (dU jN J J (dY J J J (N ?_))))));refine ci J (fun hG=>?_) (fun hG=>?_)
  ·have Z:=aJ hG hF;refine sk (sq (bk (C (A J (A J (A J ?_))))));obtain ⟨B,z,aa⟩:=L Z;obtain ⟨p0,rfl⟩:=F.adr z;have hK:=F.atF z;refine cY jN Z9 J J J J (aW z) (U G9 J (P 0 J hK) J (wP U9 J J (wrI (IntKind.i64.wrap (g.2.1+(B.length:Int))) J J J J (I J (C (A J (A J (cY jN Z9 J J J J (aW z) (U G9 J (P 0 J hK) J ?_)))))))));obtain ⟨r0,ab,ac⟩:=L aa;refine gA C16 J J J J (fun w H hH le=>w16 hH B ab) ?_;rintro v_ h ⟨a0,c0,rfl,ad⟩;have:=ad.len;refine A J (ex J J J (ex J J J (ex J J J (ex J J J (a1 J (a1 J (a1 J (I J (sq ?_)))))))));obtain ⟨t0,hL,ae⟩:=L ac;refine jn (SJ M W H [h,H] [] 69 [(0,.slice (some p0) lines.length s),(3,.int .i64 (IntKind.i64.wrap (g.2.1+(B.length:Int)))),(4,.int .i64 g.2.2),(5,.int .i64 (g.1:Int)),(37,.bool t0)]) ?_ ?_
   ·refine rg (A J (A J ?_));rcases Bool.eq_false_or_eq_true (r0.2.2.2) with i | i
    ·have af:=aJ i hL;refine gN J J (i) (A J (gN J J (i) (qU J J J (pT J J (i) J (N ?_)))));cases af;exact cuE J
    have ag:=bJ i hL;refine cC 2 J J J (i) J (pF J J (i) J (N ?_));cases ag;exact cuE J
   refine X ?_;obtain ⟨t1,hM,ah⟩:=L ae;refine jn (SJ M W H [h,H] [] 69 [(0,.slice (some p0) lines.length s),(3,.int .i64 (IntKind.i64.wrap (g.2.1+(B.length:Int)))),(4,.int .i64 t1),(5,.int .i64 (g.1:Int))]) ?_ ?_
   ·refine cb J (fun hI=>?_) (fun hI=>?_)
    ·have ai:=aJ hI hM;refine rg (A J (wrI (IntKind.i64.wrap (g.2.2+1)) J J J J (I J ?_)));cases ai;exact cuE J
    have aj:=bJ hI hM;refine sk ?_;cases aj;exact cuE J
   refine X ?_;refine rg (A J (dO J J J (by omega) (I J ?_)));cases ah;intro a w x t;exact ⟨_,hJ,x.selH [1] J,t.cuE J⟩
  have ak:=aU hG hF;refine xt J ?_;cases ak;obtain rfl:=dJ.out hJ;exact cuE J
 rintro a w ⟨x,t⟩;apply TG.ap ?_ x t;refine sq ?_;obtain ⟨t2,hN,am⟩:=L Y;refine jn (SJ M W H [H] [] 69 [(2,.bool t2)]) ?_ ?_
 ·refine rg (A J (kM J J J (A J ?_)));by_cases b:c.2≤8
  ·have hO:=aJ b hN;refine gt b J (A J (gt b J (dU jN J J (gt b J (kM J J J (gt b J (A J ?_)))))));by_cases k:(lines.length:Int)≤40
   ·have hP:=aJ k hO;refine gt k J (A J (gt k J (kM J J J (gt b J (pt k J J (gt b J (A J ?_)))))));by_cases d:c.1≤1500
    ·have an:=aJ d hP;refine cC 4 J J J (decide_eq_true d) J (gU J J J (gU J J J (CU d J (gt b J (pt d J J (gt b J (A J (cC 4 J J J J J (gU J J J (gU J J J (gF J J J J ?_)))))))))));refine gt b J (pT J J J J (pt b J J (I J ?_)));cases an;exact cuE J
    have hQ:=aU d hP;refine dC d J (A J (dC d J (dU jN J J (dC d J (kM J J J (dC d J (A J ?_)))))));by_cases l:(lines.length:Int)≤62
    ·have hR:=aJ l hQ;refine gt l J (A J (gt l J (kM J J J (dC d J (pt l J J (gt b J (pf d J J (gt b J (A J ?_)))))))));by_cases e:c.1≤200
     ·have ao:=aJ e hR;refine cC 4 J J J (decide_eq_true e) J (gU J J J (gU J J J (CU e J (gt b J (pt e J J (pt b J J (I J ?_)))))));cases ao;exact cuE J
     have hT:=aU e hR;refine dC e J (A J (dC e J (dU jN J J (dC e J (fQ J J J (dC e J (A J ?_)))))));by_cases m:(lines.length:Int)=1
     ·have aq:=aJ m hT;refine gt m J (A J (gt m J (kM J J J (dC e J (pt m J J (gt b J (pf e J J (pt b J J (I J ?_)))))))));cases aq;exact cuE J
     have ar:=aU m hT;refine cC 2 J J J (decide_eq_false m) J (dC e J (pf m J J (gt b J (pf e J J (pt b J J (I J ?_))))));cases ar;exact cuE J
    have hV:=aU l hQ;refine cC 2 J J J (decide_eq_false l) J (dC d J (pf l J J (gt b J (pf d J J (gt b J (A J (gN J J J (A J (gN J J J (dU jN J J (gN J J J ?_)))))))))));refine fQ J J J (gN J J J (A J ?_));by_cases n:(lines.length:Int)=1
    ·have au:=aJ n hV;refine gt n J (A J (gt n J (kM J J J (gN J J J (pt n J J (gt b J (pF J J J J (pt b J J (I J ?_)))))))));cases au;exact cuE J
    have aw:=aU n hV;refine cC 2 J J J (decide_eq_false n) J (gN J J J (pf n J J (gt b J (pF J J J J (pt b J J (I J ?_))))));cases aw;exact cuE J
   have hW:=aU k hO;refine cC 2 J J J (decide_eq_false k) J (gt b J (pf k J J (gt b J (A J (gN J J J (A J (gN J J J (dU jN J J (gN J J J (kM J J J (gN J J J ?_)))))))))));refine A J ?_;by_cases o:(lines.length:Int)≤62
   ·have hX:=aJ o hW;refine gt o J (A J (gt o J (kM J J J (gN J J J (pt o J J (gt b J (pF J J J J (gt b J (A J ?_)))))))));by_cases f:c.1≤200
    ·have ax:=aJ f hX;refine cC 4 J J J (decide_eq_true f) J (gU J J J (gU J J J (CU f J (gt b J (pt f J J (pt b J J (I J ?_)))))));cases ax;exact cuE J
    have u:=aU f hX;refine dC f J (A J (dC f J (dU jN J J (dC f J (fQ J J J (dC f J (A J ?_)))))));by_cases p:(lines.length:Int)=1
    ·have az:=aJ p u;refine gt p J (A J (gt p J (kM J J J (dC f J (pt p J J (gt b J (pf f J J (pt b J J (I J ?_)))))))));cases az;exact cuE J
    have a2:=aU p u;refine cC 2 J J J (decide_eq_false p) J (dC f J (pf p J J (gt b J (pf f J J (pt b J J (I J ?_))))));cases a2;exact cuE J
   have v:=aU o hW;refine cC 2 J J J (decide_eq_false o) J (gN J J J (pf o J J (gt b J (pF J J J J (gt b J (A J (gN J J J (A J (gN J J J (dU jN J J (gN J J J ?_)))))))))));refine fQ J J J (gN J J J (A J ?_));by_cases q:(lines.length:Int)=1
   ·have G:=aJ q v;refine gt q J (A J (gt q J (kM J J J (gN J J J (pt q J J (gt b J (pF J J J J (pt b J J (I J ?_)))))))));cases G;exact cuE J
   have K:=aU q v;refine cC 2 J J J (decide_eq_false q) J (gN J J J (pf q J J (gt b J (pF J J J J (pt b J J (I J ?_))))));cases K;exact cuE J
  have V:=aU b hN;refine cC 4 J J J (decide_eq_false b) J (gU J J J (gU J J J (cC 2 J J J (decide_eq_false b) J (gU J J J (gU J J J (gU J J J (gU J J J (gU J J J (gU J J J (gU J J J (cC 2 J J J (decide_eq_false b) J ?_)))))))))));refine gU J J J (gU J J J (gU J J J (gU J J J (gU J J J (gU J J J (gU J J J (gf b J (pf b J J (I J ?_)))))))));cases V;exact cuE J
 refine X ?_;refine bK ?_;cases am;exact cX J J

theorem w6 (B:H.le (hp W)) {e:Option Addr} {d:Nat} {lines:List aE} (f:Sl (aG cN) 1 H e d lines) {r:Bool} (p:m6 lines=some r):Calls prog 6 #[.slice e lines.length d] W (bN M W (.bool r)):=by
 have:=f.len;unfold m6 at p;refine aN (M:=M) func6 J ntmps6 J B ?_;refine C (I J (sq (C (I J ?_))));obtain ⟨g,t,n⟩:=L p;refine jn (fun a w=>∃ s,g=.inl s∧SJ M W H [H] [] 19 [(0,.slice e lines.length d)] a w) ?_ ?_
 ·refine bk ?_;refine lp t (fun q=>SJ M W H [H] [] 19 [(0,.slice e lines.length d),(3,.int .i64 (q:Int))]) ?_ ?_
  ·exact cuE J
  rintro j q K h i a w ⟨c,b⟩;refine TG.ap ?_ c b;unfold QS at h;refine sq (C (A J (A J (dU jN J J (dY J J J (N ?_))))));refine ci J (fun k=>?_) (fun k=>?_)
  ·have u:=aJ k h;refine sk (sq (bk (C (A J (A J ?_)))));obtain ⟨G,l,o⟩:=L u;obtain ⟨F,rfl⟩:=f.adr l;have v:=f.atF l;refine cY jN Z9 J J J J (aW l) (U G9 J (P 0 J v) J (wP U9 J J (nH J J J (N ?_))));refine ci J (fun m=>?_) (fun m=>?_)
   ·have x:=aJ m o;refine C (I J (bK ?_));cases x;obtain rfl:=dJ.out i;cases n;exact cX J J
   have y:=aU m o;refine sk (rg (A J (dO J J J (by omega) (I J ?_))));cases y;intro a w c b;exact ⟨_,i,c,b.cuE J⟩
  have z:=aU k h;refine xt J ?_;cases z;obtain rfl:=dJ.out i;intro a w c b;exact ⟨_,J,c,b.cuE J⟩
 rintro a w ⟨s,rfl,c,b⟩;apply TG.ap ?_ c b;refine C (A J (dU jN J J (kM J J J (I J (bK ?_)))));cases n;exact cX J J

theorem w18 (k:H.le (hp W))  {r:List aE} (h:m18=some r):Calls prog 18 #[] W (eW M H W (fun v K=>∃ (c:Option Addr) (b:Nat),v=.slice c r.length b∧Sl (aG cN) 1 K c b r)):=by
 unfold m18 at h;refine aN (M:=M) func18 J ntmps18 J k ?_;refine C (I J (C (bS (cs:=[.string (bs [104,111,117,115,101,32,53]),.string (bs [115,97,121,32,49,49,32,84,104,101,32,72,111,117,115,101,32,109,101,116,46]),.string (bs [109,111,118,101,32,116,104,105,115,32,72,111,117,115,101,32,110,111,116,101,115,32,116,104,101,32,114,101,112,111,114,116]),.string (bs [112,97,112,101,114,32,51,32,48,32,50,32,51,32,119,101,108,99,111,109,101,115]),.string (bs [97,100,111,112,116,32,51]),.string (bs [100,105,118,105,100,101,32,48,32,48,32,51,32,50]),.string (bs [116,101,108,108,32,49,32,48,32,48]),.string (bs [116,101,108,108,32,49,32,49,32,48]),.string (bs [116,101,108,108,32,49,32,48,32,49]),.string (bs [116,101,108,108,32,49,32,49,32,49]),.string (bs [116,101,108,108,32,50,32,48,32,52]),.string (bs [114,101,115,117,108,116]),.string (bs [116,101,108,108,32,50,32,49,32,52]),.string (bs [114,101,115,117,108,116]),.string (bs [111,114,100,101,114,32,49,50]),.string (bs [98,105,110,100,32,51,32,52,32,50,48]),.string (bs [104,105,100,101,32,49,49,32,50,32,49,57,57,48]),.string (bs [99,105,116,101,32,49,50,32,48])]) T12.E22 J J J J fun l i f e=>?_)));have d:Sl (aG cN) 1 i (some l) 18 ([[104,111,117,115,101,32,53],[115,97,121,32,49,49,32,84,104,101,32,72,111,117,115,101,32,109,101,116,46],[109,111,118,101,32,116,104,105,115,32,72,111,117,115,101,32,110,111,116,101,115,32,116,104,101,32,114,101,112,111,114,116],[112,97,112,101,114,32,51,32,48,32,50,32,51,32,119,101,108,99,111,109,101,115],[97,100,111,112,116,32,51],[100,105,118,105,100,101,32,48,32,48,32,51,32,50],[116,101,108,108,32,49,32,48,32,48],[116,101,108,108,32,49,32,49,32,48],[116,101,108,108,32,49,32,48,32,49],[116,101,108,108,32,49,32,49,32,49],[116,101,108,108,32,50,32,48,32,52],[114,101,115,117,108,116],[116,101,108,108,32,50,32,49,32,52],[114,101,115,117,108,116],[111,114,100,101,114,32,49,50],[98,105,110,100,32,51,32,52,32,50,48],[104,105,100,101,32,49,49,32,50,32,49,57,57,48],[99,105,116,101,32,49,50,32,48]]:List aE):=Sl.litF (fun _=>J) (fun _=>J) f e J J J;have:=d.len;refine I J (bK ?_);obtain rfl:=sj h;intro a w g j;refine dN j J J ?_;exact ⟨⟨_,_,J,(d.mono (aG.mono _) (g.grow 0 J))⟩,g.ext⟩

theorem w55 (hH:H.le (hp W)) {i:Option Addr} {h:Nat} {aj:List aE} (k:Sl (aG cN) 1 H i h aj) {q:Value} {cl:aE→Option Bool} (s:fL M prog H q (gD Vs Value.bool cl)) {r:Int} (x:VU aj cl=some r):Calls prog 55 #[.slice i aj.length h,q] W (bN M W (.int .i64 r)):=by
 have:=k.len;have d:=s;obtain ⟨e,c,b,rfl,_,_⟩:=s;unfold VU at x;refine aN (M:=M) func55 J ntmps55 J hH ?_;refine C (I J (sq (C (A J (dU jN J J (A J (N ?_)))))));obtain ⟨e19,F,t⟩:=L x;refine jn (fun a w=>∃ B,e19=.inl B∧SJ M W H [H] [] 19 [] a w) ?_ ?_
 ·refine bk ?_;refine lp F (fun z=>SJ M W H [H] [] 19 [(0,.slice i aj.length h),(1,.func (.func e) c.toArray b.toArray),(7,.int .i64 (aj.length:Int)),(8,.int .i64 (z:Int))]) ?_ ?_
  ·exact cuE J
  rintro j z y0 l m a w ⟨g,f⟩;refine TG.ap ?_ g f;unfold zZ at l;refine C (dY J J J (N (sq ?_)));refine ci J (fun n=>?_) (fun n=>?_)
  ·have G:=aJ n l;refine sk (sq (bk (C (A J (I J (C (A J (A J ?_))))))));refine A J ?_;obtain ⟨x0,o,K⟩:=L G;obtain ⟨p0,rfl⟩:=k.adr o;have R:=k.atF o;refine cY jN Z9 J J J J (aW o) (U G9 J (P 0 J R) J ?_);obtain ⟨y,V,u⟩:=L K;refine oY (v:=.bool y) d 0 J J J J (fun H le=>⟨_,x0,y,J,J,V,J⟩) (N ?_);refine cb J (fun p=>?_) (fun p=>?_)
   ·have Y:=aJ p u;refine C (A J (I J (bK ?_)));cases Y;obtain rfl:=dJ.out m;cases t;exact cX J J
   have Z:=bJ p u;refine sk (rg (dO J J J (by omega) (A J (N ?_))));cases Z;intro a w g f;exact ⟨_,m,g,f.cuE J⟩
  have hG:=aU n l;refine xt J ?_;cases hG;obtain rfl:=dJ.out m;intro a w g f;exact ⟨_,J,g,f.cut tv⟩
 rintro a w ⟨B,rfl,g,f⟩;apply TG.ap ?_ g f;refine C (I J (bK ?_));cases t;exact cX J J

theorem w36 (f:H.le (hp W)) {j:Option Addr} {i:Nat} {aj:List aE} (n:Sl (aG cN) 1 H j i aj) {k:Value} {cl:aE→Option Bool} (l:fL M prog H k (gD Vs Value.bool cl)) {r:Bool} (m:QT aj cl=some r):Calls prog 36 #[.slice j aj.length i,k] W (bN M W (.bool r)):=by
 have b:=l;obtain ⟨e,d,c,rfl,_,_⟩:=l;unfold QT at m;refine aN (M:=M) func36 J ntmps36 J f ?_;refine C (I J (C (A J (A J ?_))));obtain ⟨p,h,g⟩:=L m;refine bB C55 J (fun w H f le=>w55 f (n.mono (aG.mono _) le.o) (cl:=cl) (b.mono le.o) h) (sI J J J (I J (bK ?_)));cases g;exact cX J J

theorem w37 {M:Prop} {W:World} (aj:aE) {r:Bool} (b:NZ aj=some r):Calls prog 37 #[.string (bs aj)] W (bN M W (.bool r)):=by
 unfold NZ at b;refine aN (M:=M) func37 J ntmps37 J (Hp.le.refl _) ?_;refine C (I J (C (A J (wP U9 J J (nH J J J (I J (bK ?_)))))));obtain rfl:=sj b;exact cX J J

theorem w20 (g:H.le (hp W)) {j:Option Addr} {i:Nat} {lines:List aE} (k:Sl (aG cN) 1 H j i lines) {r:Int} (m:TQ lines=some r):Calls prog 20 #[.slice j lines.length i] W (bN M W (.int .i64 r)):=by
 have:=k.len;unfold TQ at m;refine aN (M:=M) func20 J ntmps20 J g ?_;refine C (I J (sq (sq ?_)));obtain ⟨F,c,l⟩:=L m;refine jn (SJ M W H [H] [] 10 [(9,.bool F)]) ?_ ?_
 ·refine rg (A J (dU jN J J (nH J J J (A J ?_))));by_cases b:60 < (lines.length:Int)
  ·have n:=aJ b c;refine cC 2 J J J (decide_eq_true b) J (pt b J J (N ?_));cases n;exact cuE J
  have p:=aU b c;refine dC b J (A J (dC b J ?_));obtain ⟨B,q,s⟩:=L p
  refine oP (v:=.bool B) C36 J J J J (fun w H g le=>by
    have t:fL M prog H (.func (.func 37) #[] #[]) (gD Vs Value.bool (NZ)):=⟨37,[],[],rfl,C37,fun w_ K d Z R V y=>by obtain ⟨G,h,Y,rfl,e,z,rfl⟩:=y;cases e;exact w37  h  z⟩
    exact w36 g (k.mono (aG.mono _) le.o) (cl:=(NZ)) t q) ?_
  refine pf b J J (N ?_);cases s;exact cuE J
 refine X ?_;refine cb J (fun f=>?_) (fun f=>?_)
 ·have u:=aJ f l;refine C (I J (bK ?_));cases u;exact cX J J
 have x:=bJ f l;refine sk (C (I J (bK ?_)));cases x;exact cX J J

theorem HW {M:Prop} {W:World} (e:Int) (low:Int) (c:Int) {r:Bool} (i:xH e low c=some r):Calls prog 99 #[.int .i64 e,.int .i64 low,.int .i64 c] W (bN M W (.bool r)):=by
 unfold xH at i;refine aN (M:=M) func99 J ntmps99 J (Hp.le.refl _) ?_;refine C (I J (sq ?_));obtain ⟨j,d,f⟩:=L i;refine jn (SJ M W (hp W) [(hp W)] [] 15 [(6,.bool j)]) ?_ ?_
 ·refine rg (A J (A J (kM J J J (A J ?_))));by_cases b:low≤e
  ·have g:=aJ b d;refine gt b J (A J (gt b J (A J (gt b J (kM J J J (pt b J J (I J ?_)))))));cases g;exact cuE J
  have h:=aU b d;refine cC 3 J J J (decide_eq_false b) J (pf b J J (I J ?_));cases h;exact cuE J
 refine X ?_;refine bK ?_;cases f;exact cX J J

theorem fB {M:Prop} {W:World} (h:Bool) (e:Int) {r:Unit⊕Unit} (d:jS h e=some r):Calls prog 59 #[.bool h,.int .i64 e] W (sQ M W (fun r=>.tuple #[]) (.iface 155 (.agg #[.int .i64 e])) r):=by
 unfold jS at d;refine aN (M:=M) func59 J ntmps59 J (Hp.le.refl _) ?_;refine C (A J (nt J J (N ?_)));refine cb J (fun hc4=>?_) (fun hc4=>?_)
 ·replace hc4:=kX hc4
  have f:=bJ hc4 d;refine rg (A J (bu (cs:=[.int .i64 e]) T12.B155 J J J (fi aFc J J J (xB J ?_))));cases f;intro a w c b;exact ⟨b.defers,eC c.ext⟩
 replace hc4:=kY hc4
 have g:=aJ hc4 d;refine sk ?_;cases g;intro a w c b;refine eG b J ?_;exact pB J c.ext

theorem w82 {M:Prop} {W w:World} {H V:Hp} {σr:aL} {d:Nat} {m:List Value} (f:aH) (bf:aT V m f) {s:Option Addr} {q:Nat} {bo:List Int} (n:Sl (aG (bX .i64)) 1 V s q bo) (t:aE) {r:aH⊕Int} (F:QU f bo t=some r) (h:St M W H [V] ((1,bF d 77 m)::σr) w):Calls prog 82 #[.pointer (some ⟨d,0,none⟩),.slice s bo.length q,.string (bs t)] w (fJ M W H V σr (rT (fun y e K Y=>∃ (v:List Value),e=.returned (.tuple #[])∧Y=[(1,bF d 77 v)]∧aT K v y) (fun u=>.iface 155 (.agg #[.int .i64 u])) [(1,bF d 77 m)] r)):=by
 have:=n.len;unfold QU at F;obtain ⟨R,rfl,c⟩:=bf;have:=c.lens;refine cZ (M:=M) func82 J ntmps82 J h ?_;refine sq ?_;obtain ⟨k,b,p⟩:=L F;obtain ⟨p6,rfl⟩:=n.adr b;have j:=n.atF b;refine dV 8 mixed (by kernel_rfl) J (E J (A J D) (E J (cY eV Z3 J J J J (aW b) D) (E J (U G3 J (P 1 J j) J D) (E J (A J D) (E J (nl J J D) (E J (aX 0 fH J eQ D) (E J (aX 0 eD J Z3 D) (E J (U G3 J ((sO 1 J).take 1) J D) (DF.nil fun Z hF=>?_)))))))));obtain ⟨G,h2,h3⟩:=L p;refine bB HL J (fun w H B le=>HW k f.state.day 99999 h2) ?_;obtain ⟨r1,x,z⟩:=L h3;rcases r1 with y0 | y0
 ·refine bB eZ J (fun w H B le=>iQ (fB G 2 x)) (N (rg (A J (A J (cY eV Z3 J J J J (aW b) (U G3 J (P 1 J j) J (nl J J (aX 0 fH J eQ (aX 0 eD J Z3 (eP 1 (cs:=[.int .i64 k]) Z3 J J J J J J J (N ?_)))))))))))
  let g:List Value:=((cJ f.state R).set 0 (.int .i64 k))
  refine TG.pack (fun K=>aT K g (⟨({f.state with day:=k}:cV)⟩:aH)) (fun H le=>⟨R,J,{c.mono le.i with f0:=(c.f0.mono (bT.mono) le.i)}⟩) fun l h4=>?_;cases z;intro a w h o;refine eG o J ?_;exact ⟨l,[(1,bF d 77 g)],h.selH [0,2] J,_,J,J,h4⟩
 refine eA eZ J J J (fun w H B le=>iT (fB G 2 x)) ?_;cases z;intro a w h o;exact ⟨o.defers,V,[_],h.selH [1,1] J,J,J⟩

theorem aFf {M:Prop} {W w:World} {H V:Hp} {σr:aL} {h:Option Addr} {g:Nat} {aj:List eB} (j:Sl (bT) 2 V h g aj) {r:List eB} (s:FD aj=some r) (d:St M W H [V] σr w):Calls prog 129 #[.slice h aj.length g] w (fJ M W H V σr (fun e K u=>∃ (ad:Option Addr) (cap:Nat) (css:List (List Value)),e=.returned (.slice ad r.length cap)∧u=[(1,S.rows ad cap 132 2 css r)]∧Rows (bT) 2 K css r)):=by
 have:=j.len;unfold FD at s;refine cZ (M:=M) func129 J ntmps129 J d ?_;refine C (I J (sq (C (A J (KA AL J J (N ?_))))));refine cb J (fun f=>?_) (fun f=>?_)
 ·obtain rfl:=Sl.isNil j f;have t:=(aF s).2;refine C (I J (bK (TG.nilRow 1 132 2 ?_)));have n:Rows (bT) 2 V [] ([]:List eB):=tv;cases t;intro a w d k;refine dN k J J ?_;exact ⟨_,[(1,S.rows none 0 132 2 [] ([]:List eB))],d.selH [0,0] J,_,_,_,J,J,n⟩
 refine sk (C (TG.pack (fun K=>Rows (bT) 2 K [] ([]:List eB)) (fun H le=>tv) fun Y p=>(bSO 1 (cs:=[]) T12.E25 J J J J fun y=>(TG.as 1 (z:=S.rows (some ⟨y,0,none⟩) 0 132 2 [] ([]:List eB)) J J (A J ?_)))));obtain ⟨q,G⟩:=aF s;have:=fI ([]:List eB) aj;refine TG.pack (fun K=>Sl (bT) 2 K h g aj∧Rows (bT) 2 K [] ([]:List eB)) (fun H le=>⟨j.mono (bT.mono) le.i,p.mono (bT.mono) le.o⟩) fun v ⟨R,b⟩=>(ZV 1 (l:=([]:List eB)) (m:=aj) T12.E25 J J J J J J R b bT.one J q fun x B F c=>(I J (bK ?_)));cases G;intro a w d k;refine dN k J J ?_;exact ⟨_,[(1,S.rows x B 132 2 F (([]:List eB)++aj))],d.selH [0,2] J,_,_,_,J,J,c⟩

theorem aFg {M:Prop} {W w:World} {H V:Hp} {σr:aL} {p:Option Addr} {o:Nat} {aj:List aI} (g:Sl (aG aY) 2 V p o aj) {r:List aI} (j:KS aj=some r) (c:St M W H [V] σr w):Calls prog 180 #[.slice p aj.length o] w (fJ M W H V σr (fun e K q=>∃ (ad:Option Addr) (cap:Nat),e=.returned (.slice ad r.length cap)∧q=[(1,S.list ad cap 98 2 aY r)])):=by
 have:=g.len;unfold KS at j;refine cZ (M:=M) func180 J ntmps180 J c ?_;refine C (I J (sq (C (A J (KA DD J J (N ?_))))));refine cb J (fun d=>?_) (fun d=>?_)
 ·obtain rfl:=Sl.isNil g d;have k:=(aF j).2;refine C (I J (bK (TG.nilRow 1 98 2 ?_)));cases k;intro a w c h;refine dN h J J ?_;exact ⟨_,[(1,S.list none 0 98 2 aY ([]:List aI))],c.selH [0,0] J,_,_,J,J⟩
 refine sk (C (NM 1 aY ([]:List aI) (cs:=[]) T12.E91 J J J J J J fun s=>(A J ?_)));obtain ⟨i,n⟩:=aF j;have:=fI ([]:List aI) aj;refine sJ 1 (enc:=aY) (l:=([]:List aI)) (m:=aj) T12.E91 J J J J J J g 0 J (fun _=>J) (fun _=>J) J i fun f b=>(I J (bK ?_));cases n;intro a w c h;refine dN h J J ?_;exact ⟨_,[(1,S.list f b 98 2 aY (([]:List aI)++aj))],c.selH [0,0] J,_,_,J,J⟩

theorem aFh (hH:H.le (hp W)) {B:Option Addr} {z:Nat} {j:List aI} (G:Sl (aG aY) 2 H B z j) {R:List Value} (c:aI) (ee:(aG aY) H R c) {r:List aI} (hr:FE j c=some r):Calls prog 130 #[.slice B j.length z,.agg R.toArray] W (eW M H W (fun v K=>∃ (e:Option Addr) (b:Nat),v=.slice e r.length b∧Sl (aG aY) 2 K e b r)):=by
 have:=G.len;obtain rfl:=ee;unfold FE at hr;refine aN (M:=M) func130 J ntmps130 J hH ?_
 let g:List Value:=[.int .i64 c.anchor,.string (bs c.text)]
 refine C (bI (cs:=g) J J J fun q1 K2 q=>(I J (sq ?_)));obtain ⟨k,t,s⟩:=L hr;refine lA 4 [1] [] mixed (fun _ _ _ _ _ h=>h) (by kernel_rfl) (by kernel_rfl) (by kernel_rfl) J (by kernel_rfl) (.nil) (dA J (A J D) (tS k.length (fun x y=>[(1,S.list x y 98 2 aY k)]) J (fun a w K d p hF F=>TG.pa d p (zT 1 aCk J J J J (fun w V σr d le=>aFg (aj:=j) (G.mono (aG.mono _) le.u) t d) fun o f=>F _ _)) fun o f=>(dA J (cP HR nC J J (P 1 J q) J D) ?_)))
 refine uT 1 (aG aY) 2 ([c]:List aI) (aG.mono _) J (bS (cs:=g) T12.E91 J J J J fun q9 n h2 i=>by
   have Y:Sl (aG aY) 2 n (some q9) 1 ([c]:List aI):=Sl.litF (fun _=>J) (fun _=>J) h2 i J J J;have:=Y.len
   exact rV (aG.mono _) Y) fun a0 c0=>?_
 refine DC.nil fun aa hF=>?_;obtain ⟨Z,_,_⟩:=hF;have:=Z.len;obtain ⟨h3,h4⟩:=aF s;have:=fI k ([c]:List aI);refine sJ 1 (enc:=aY) (l:=k) (m:=([c]:List aI)) T12.E91 J J J J J J Z 0 J (fun _=>J) (fun _=>J) J h3 fun a2 c1=>(I J (bK ?_));cases h4;intro a w d p;refine dN p J J ?_;exact ⟨⟨_,_,J,(d.listOut 1 J (fun _=>J))⟩,d.ext⟩

theorem w72 {M:Prop} {W w:World} {H V:Hp} {σr:aL} {e:Nat} {f:List Value} (c:aH) (n:aT V f c) {h:Option Addr} {g:Nat} {parts:List eB} (k:Sl (bT) 2 V h g parts) {r:bE} (l:VV c parts=some r) (d:St M W H [V] ((1,bF e 77 f)::σr) w):Calls prog 72 #[.pointer (some ⟨e,0,none⟩),.slice h parts.length g] w (QC M W H V ((1,bF e 77 f)::σr) (fun v K=>∃ dl:List Value,v=.agg dl.toArray∧bW K dl r)):=by
 have:=k.len;unfold VV at l;obtain ⟨s,rfl,j⟩:=n;have:=j.lens;refine cZ (M:=M) func72 J ntmps72 J d ?_;refine C (al 2 (cs:=[.int .i64 0,.int .i64 0,.int .i64 0,.int .i64 0,.slice none 0 0]) zeroValue27 J J fun q=>(N (C (A J (nl J J (aX 0 fH J eQ (aX 0 eD J Z3 (U G3 J ((sO 1 J).take 1) J (A J ?_)))))))))
 let b:List Value:=[.int .i64 1,.int .i64 c.state.day,.int .i64 1,.int .i64 10,.slice h parts.length g]
 refine bu (cs:=b) T12.B27 J J J (eP 2 (cs:=b) gZ J J J J J J J (N (bK (TG.pack (fun K=>bW K b (⟨1,c.state.day,1,10,parts⟩:bE)) (fun H le=>⟨_,_,J,(k.mono (bT.mono) le.o)⟩) fun m i=>?_))));obtain rfl:=sj l;intro a w d p;refine uH p J (dD.cell J (fW kJ gZ (cU (d.get (t:=2) J)) J)) ?_;exact ⟨_,m,J,(d.selH [0,1] J).del 2,_,J,i⟩

theorem aFi (q:H.le (hp W)) {m:Addr} {j:List Value} (e:aH) (o:aM H m j) (k:(aT) H j e) {g:Option Addr} {f:Nat} {parts:List eB} (l:Sl (bT) 2 H g f parts) {r:bE} (n:QV e parts=some r):Calls prog 72 #[.pointer (some m),.slice g parts.length f] W (eW M H W (fun v K=>∃ (c:List Value),v=.agg c.toArray∧(bW) K c r)):=by
 have d:=k;obtain ⟨u,rfl,i⟩:=k;have:=i.lens;have:=l.len;unfold QV at n;refine aN (M:=M) func72 J ntmps72 J q ?_;refine C (al 1 (cs:=[.int .i64 0,.int .i64 0,.int .i64 0,.int .i64 0,.slice none 0 0]) zeroValue27 J J fun s=>(N (C (A J (nl J J (aX 0 fH J eQ (aX 0 eD J Z3 (U G3 J ((P 0 J o).take 1) J (A J ?_)))))))))
 let b:List Value:=[.int .i64 1,.int .i64 e.state.day,.int .i64 1,.int .i64 10,.slice g parts.length f]
 refine bu (cs:=b) T12.B27 J J J (eP 1 (cs:=b) gZ J J J J J J J (N (bK ?_)));obtain rfl:=sj n;intro a w h p;refine uH p J (dD.cell J (fW kJ gZ (cU (h.get (t:=1) J)) J)) ?_;exact ⟨⟨_,J,⟨_,_,J,(l.mono (bT.mono) (h.grow 0 J))⟩⟩,h.ext⟩

theorem w42 (hH:H.le (hp W)) {Y:List Value} (d:bE) (Z:(bW) H Y d) {r:List aI} (hr:OA d=some r):Calls prog 42 #[.agg Y.toArray] W (eW M H W (fun v K=>∃ (k:Option Addr) (e:Nat),v=.slice k r.length e∧Sl (aG aY) 2 K k e r)):=by
 have s:=Z;obtain ⟨n,f,rfl,h⟩:=Z;have:=h.len;unfold OA at hr;refine aN (M:=M) func42 J ntmps42 J hH ?_;refine C (bI (cs:=[.int .i64 d.number,.int .i64 d.bound,.int .i64 d.height,.int .i64 d.width,.slice n d.parts.length f]) J J J fun q4 V G=>(I J (sq (C (aX 4 mG J CZ (U JB J ((P 0 J G).drop 4) J (dU AL J J (A J ?_))))))));refine N (TG.nilRow 2 98 2 (TG.as 2 (z:=S.list none 0 98 2 aY ([]:List aI)) J J ?_));obtain ⟨o,h6,h7⟩:=L hr;refine jn (fun a w=>∃ (u:Option Addr) (x:Nat),SJ M W H [V,H] [(2,S.list u x 98 2 aY o)] 18 [(2,.slice u o.length x)] a w) ?_ ?_
 ·refine bk ?_;refine lp h6 (fun i a w=>∃ (p:Option Addr) (q:Nat),SJ M W H [V,H] [(2,S.list p q 98 2 aY i.2)] 18 [(2,.slice p i.2.length q),(6,.slice n d.parts.length f),(7,.int .i64 (d.parts.length:Int)),(8,.int .i64 (i.1:Int))] a w) ?_ ?_
  ·intro a w b c;exact ⟨none,0,b,c.cuE J⟩
  rintro j i y0 y h3 a w ⟨p,q,b,c⟩;refine TG.ap ?_ b c;unfold AA at y;refine C (dY J J J (N (sq ?_)));refine ci J (fun B=>?_) (fun B=>?_)
  ·have h8:=aJ B y;refine sk (sq (bk (C ?_)));obtain ⟨t,F,h9⟩:=L h8;obtain ⟨p0,rfl⟩:=h.adr F;obtain ⟨c4,hG,hB,h4⟩:=h.at F;have hI:=h4;obtain ⟨a3,c2,rfl,h5⟩:=h4;have:=h5.len;refine cY AL nB J J J J (aW F) (cP SC nB J J (P 1 J hB) J (va (cs:=[.int .i64 t.day,.slice a3 t.paragraphs.length c2]) zeroValue132 nB J J J J J J J J fun q0 R g=>(N (rg (A J (aX 1 rE J XK (U G91 J ((P 0 J g).drop 1) J ?_)))))));obtain ⟨hC,hE⟩:=aF h9;have:=fI i.2 t.paragraphs;refine sJ 2 (enc:=aY) (l:=i.2) (m:=t.paragraphs) T12.E91 J J J J J J h5 2 J (fun _=>J) (fun _=>J) J hC fun a4 c3=>(I J (rg (dO J J J (by omega) (A J (N ?_)))));cases hE;intro a w b c;exact ⟨_,h3,a4,c3,b.selH [1,2] J,c.cuE J⟩
  have hF:=aU B y;refine xt J ?_;cases hF;obtain rfl:=dJ.out h3;intro a w b c;exact ⟨p,q,b,c.cuE J⟩
 rintro a w ⟨u,x,b,c⟩;apply TG.ap ?_ b c;refine C (A J (I J (bK ?_)));cases h7;intro a w b c;refine dN c J J ?_;exact ⟨⟨_,_,J,(b.listOut 2 J (fun _=>J))⟩,b.ext⟩

theorem wD {M:Prop} {W:World} (e:Int) (low:Int) (c:Int) {r:Bool} (i:qR e low c=some r):Calls prog 26 #[.int .i64 e,.int .i64 low,.int .i64 c] W (bN M W (.bool r)):=by
 unfold qR at i;refine aN (M:=M) func26 J ntmps26 J (Hp.le.refl _) ?_;refine C (I J (sq ?_));obtain ⟨j,d,f⟩:=L i;refine jn (SJ M W (hp W) [(hp W)] [] 15 [(6,.bool j)]) ?_ ?_
 ·refine rg (A J (A J (kM J J J (A J ?_))));by_cases b:low≤e
  ·have g:=aJ b d;refine gt b J (A J (gt b J (A J (gt b J (kM J J J (pt b J J (I J ?_)))))));cases g;exact cuE J
  have h:=aU b d;refine cC 3 J J J (decide_eq_false b) J (pf b J J (I J ?_));cases h;exact cuE J
 refine X ?_;refine bK ?_;cases f;exact cX J J

theorem SV {M:Prop} {W:World} (b:Int) {r:Bool} (e:FF b=some r):Calls prog 47 #[.int .i64 b] W (bN M W (.bool r)):=by
 unfold FF at e;refine aN (M:=M) func47 J ntmps47 J (Hp.le.refl _) ?_;refine C (I J (C (A J ?_)));obtain ⟨g,d,c⟩:=L e;refine bB vY J (fun w H f le=>wD b 0 99999 d) (I J (bK ?_));cases c;exact cX J J

theorem aFj (s:H.le (hp W)) {m:List Value} (c:aI) (q:(aG aY) H m c) {j:Addr} {l:Value} {cm:aI→Option Bool} (p:aM H j [l]) (k:fL M prog H l (gD (Va aY) Value.bool cm)) {r:Bool} (n:vF c cm=some r):Calls prog 149 #[.agg m.toArray,.pointer (some j)] W (bN M W (.bool r)):=by
 obtain rfl:=q;have b:=k;obtain ⟨f,e,d,rfl,_,_⟩:=k;unfold vF at n;refine aN (M:=M) func149 J ntmps149 J s ?_;refine C (bI (cs:=[.int .i64 c.anchor,.string (bs c.text)]) J J J fun u t g=>(I J (C (U aEx J (P 1 J p) J (cP HR nC J J (P 0 J g) J ?_)))));obtain ⟨o,i,h⟩:=L n;refine oY (v:=.bool o) b 1 J J J J (fun H le=>⟨_,c,o,J,J,i,J⟩) (nt J J (I J (bK ?_)));cases h;exact cX J J

theorem aFk (hH:H.le (hp W)) {i:Option Addr} {h:Nat} {aj:List aI} (k:Sl (aG aY) 2 H i h aj) {q:Value} {cl:aI→Option Bool} (s:fL M prog H q (gD (Va aY) Value.bool cl)) {r:Int} (x:KT aj cl=some r):Calls prog 210 #[.slice i aj.length h,q] W (bN M W (.int .i64 r)):=by
 have:=k.len;have d:=s;obtain ⟨e,c,b,rfl,_,_⟩:=s;unfold KT at x;refine aN (M:=M) func210 J ntmps210 J hH ?_;refine C (I J (sq (C (A J (dU DD J J (A J (N ?_)))))));obtain ⟨e19,F,t⟩:=L x;refine jn (fun a w=>∃ B,e19=.inl B∧SJ M W H [H] [] 19 [] a w) ?_ ?_
 ·refine bk ?_;refine lp F (fun z=>SJ M W H [H] [] 19 [(0,.slice i aj.length h),(1,.func (.func e) c.toArray b.toArray),(7,.int .i64 (aj.length:Int)),(8,.int .i64 (z:Int))]) ?_ ?_
  ·exact cuE J
  rintro j z y0 l m a w ⟨g,f⟩;refine TG.ap ?_ g f;unfold xI at l;refine C (dY J J J (N (sq ?_)));refine ci J (fun n=>?_) (fun n=>?_)
  ·have G:=aJ n l;refine sk (sq (bk (C (A J (I J (C (A J (A J ?_))))))));refine A J ?_;obtain ⟨x0,o,K⟩:=L G;obtain ⟨p0,rfl⟩:=k.adr o;have R:=k.atF o;refine cY DD nC J J J J (aW o) (cP HR nC J J (P 0 J R) J ?_);obtain ⟨y,V,u⟩:=L K;refine oY (v:=.bool y) d 0 J J J J (fun H le=>⟨_,x0,y,J,J,V,J⟩) (N ?_);refine cb J (fun p=>?_) (fun p=>?_)
   ·have Y:=aJ p u;refine C (A J (I J (bK ?_)));cases Y;obtain rfl:=dJ.out m;cases t;exact cX J J
   have Z:=bJ p u;refine sk (rg (dO J J J (by omega) (A J (N ?_))));cases Z;intro a w g f;exact ⟨_,m,g,f.cuE J⟩
  have hG:=aU n l;refine xt J ?_;cases hG;obtain rfl:=dJ.out m;intro a w g f;exact ⟨_,J,g,f.cut tv⟩
 rintro a w ⟨B,rfl,g,f⟩;apply TG.ap ?_ g f;refine C (I J (bK ?_));cases t;exact cX J J

theorem aFl (f:H.le (hp W)) {j:Option Addr} {i:Nat} {aj:List aI} (n:Sl (aG aY) 2 H j i aj) {k:Value} {cl:aI→Option Bool} (l:fL M prog H k (gD (Va aY) Value.bool cl)) {r:Bool} (m:KU aj cl=some r):Calls prog 148 #[.slice j aj.length i,k] W (bN M W (.bool r)):=by
 have b:=l;obtain ⟨e,d,c,rfl,_,_⟩:=l;unfold KU at m;refine aN (M:=M) func148 J ntmps148 J f ?_;refine C (I J (C (A J (A J ?_))));obtain ⟨p,h,g⟩:=L m;refine bB aC3 J (fun w H f le=>aFk f (n.mono (aG.mono _) le.o) (cl:=cl) (b.mono le.o) h) (sI J J J (I J (bK ?_)));cases g;exact cX J J

theorem aFm (k:H.le (hp W)) {q:Option Addr} {p:Nat} {h:List aI} (s:Sl (aG aY) 2 H q p h) {t:Value} {right:aI→Option Bool} (u:fL M prog H t (gD (Va aY) Value.bool right)) {r:Bool} (y:FG h right=some r):Calls prog 100 #[.slice q h.length p,t] W (bN M W (.bool r)):=by
 have:=s.len;have d:=u;obtain ⟨e,c,b,rfl,_,_⟩:=u;unfold FG at y;refine aN (M:=M) func100 J ntmps100 J k ?_;refine C (bI (cs:=[.func (.func e) c.toArray b.toArray]) J J J fun z Y l=>(I J (C (A J (fn J J J ?_)))));obtain ⟨R,o,n⟩:=L y
 refine oP (v:=.bool R) aCe J J J J (fun w H k le=>by
   have m:fL M prog H (.func (.func 149) #[] #[.pointer (some z)]) (gD (Va aY) Value.bool (fun f=>vF f right)):=⟨149,[],[.pointer (some z)],rfl,aCf,fun w_ B g v_ x G F=>by obtain ⟨V,f,Z,rfl,j,K,rfl⟩:=F;cases j;exact aFj (H:=B) G  f rfl (cm:=right) (l.mono ((le.at 0 rfl).trans x)) (d.mono ((le.at 1 rfl).trans x)) K⟩
   exact aFl k (s.mono (aG.mono _) le.i) (cl:=(fun f=>vF f right)) m o) ?_
 refine nt J J (I J (bK ?_));cases n;exact cX J J

theorem w64 {M:Prop} {W:World} (b:Int) {r:Bool} (e:QW b=some r):Calls prog 64 #[.int .i64 b] W (bN M W (.bool r)):=by
 unfold QW at e;refine aN (M:=M) func64 J ntmps64 J (Hp.le.refl _) ?_;refine C (I J (C (A J ?_)));obtain ⟨g,d,c⟩:=L e;refine bB vY J (fun w H f le=>wD b 1 999 d) (I J (bK ?_));cases c;exact cX J J

theorem aFo (o:H.le (hp W)) (e:Int) {i:Addr} {k:Value} {cm:Int→Option Bool} (n:aM H i [k]) (j:fL M prog H k (gD (Vi .u8) Value.bool cm)) {r:Bool} (l:vG e cm=some r):Calls prog 151 #[.int .u8 e,.pointer (some i)] W (bN M W (.bool r)):=by
 have b:=j;obtain ⟨f,d,c,rfl,_,_⟩:=j;unfold vG at l;refine aN (M:=M) func151 J ntmps151 J o ?_;refine C (I J (C (U XF J (P 0 J n) J (A J ?_))));obtain ⟨m,h,g⟩:=L l;refine oY (v:=.bool m) b 0 J J J J (fun H le=>⟨_,e,m,J,J,h,J⟩) (nt J J (I J (bK ?_)));cases g;exact cX J J

theorem aFp (hH:H.le (hp W)) {i:Option Addr} {h:Nat} {aj:List UInt8} (k:Sl (aG cE) 1 H i h aj) {q:Value} {cl:Int→Option Bool} (s:fL M prog H q (gD (Vi .u8) Value.bool cl)) {r:Int} (x:FH aj cl=some r):Calls prog 211 #[.slice i aj.length h,q] W (bN M W (.int .i64 r)):=by
 have:=k.len;have d:=s;obtain ⟨e,c,b,rfl,_,_⟩:=s;unfold FH at x;refine aN (M:=M) func211 J ntmps211 J hH ?_;refine C (I J (sq (C (A J (dU lV J J (A J (N ?_)))))));obtain ⟨e19,G,t⟩:=L x;refine jn (fun a w=>∃ B,e19=.inl B∧SJ M W H [H] [] 19 [] a w) ?_ ?_
 ·refine bk ?_;refine lp G (fun z=>SJ M W H [H] [] 19 [(0,.slice i aj.length h),(1,.func (.func e) c.toArray b.toArray),(7,.int .i64 (aj.length:Int)),(8,.int .i64 (z:Int))]) ?_ ?_
  ·exact cuE J
  rintro j z y0 l m a w ⟨g,f⟩;refine TG.ap ?_ g f;unfold sU at l;refine C (dY J J J (N (sq ?_)));refine ci J (fun n=>?_) (fun n=>?_)
  ·have K:=aJ n l;refine sk (sq (bk (C (A J (I J (C (A J (A J ?_))))))));refine A J ?_;obtain ⟨F,o,R⟩:=L K;obtain ⟨p0,rfl⟩:=k.adr o;have V:=k.atF o;have:=UInt8.toNat_lt F;refine cY lV Z5 J J J J (aW o) (U G5 J (P 0 J V) J ?_);obtain ⟨y,Y,u⟩:=L R;refine oY (v:=.bool y) d 0 J J J J (fun H le=>⟨_,(F.toNat:Int),y,J,J,Y,J⟩) (N ?_);refine cb J (fun p=>?_) (fun p=>?_)
   ·have Z:=aJ p u;refine C (A J (I J (bK ?_)));cases Z;obtain rfl:=dJ.out m;cases t;exact cX J J
   have hF:=bJ p u;refine sk (rg (dO J J J (by omega) (A J (N ?_))));cases hF;intro a w g f;exact ⟨_,m,g,f.cuE J⟩
  have hG:=aU n l;refine xt J ?_;cases hG;obtain rfl:=dJ.out m;intro a w g f;exact ⟨_,J,g,f.cut tv⟩
 rintro a w ⟨B,rfl,g,f⟩;apply TG.ap ?_ g f;refine C (I J (bK ?_));cases t;exact cX J J

theorem XP (f:H.le (hp W)) {j:Option Addr} {i:Nat} {aj:List UInt8} (n:Sl (aG cE) 1 H j i aj) {k:Value} {cl:Int→Option Bool} (l:fL M prog H k (gD (Vi .u8) Value.bool cl)) {r:Bool} (m:BJ aj cl=some r):Calls prog 150 #[.slice j aj.length i,k] W (bN M W (.bool r)):=by
 have b:=l;obtain ⟨e,d,c,rfl,_,_⟩:=l;unfold BJ at m;refine aN (M:=M) func150 J ntmps150 J f ?_;refine C (I J (C (A J (A J ?_))));obtain ⟨p,h,g⟩:=L m;refine bB aC4 J (fun w H f le=>aFp f (n.mono (aG.mono _) le.o) (cl:=cl) (b.mono le.o) h) (sI J J J (I J (bK ?_)));cases g;exact cX J J

theorem aFq (k:H.le (hp W)) {q:Option Addr} {p:Nat} {h:List UInt8} (s:Sl (aG cE) 1 H q p h) {t:Value} {right:Int→Option Bool} (u:fL M prog H t (gD (Vi .u8) Value.bool right)) {r:Bool} (y:FI h right=some r):Calls prog 103 #[.slice q h.length p,t] W (bN M W (.bool r)):=by
 have:=s.len;have d:=u;obtain ⟨e,c,b,rfl,_,_⟩:=u;unfold FI at y;refine aN (M:=M) func103 J ntmps103 J k ?_;refine C (bI (cs:=[.func (.func e) c.toArray b.toArray]) J J J fun z Y l=>(I J (C (A J (fn J J J ?_)))));obtain ⟨R,o,n⟩:=L y
 refine oP (v:=.bool R) WM J J J J (fun w H k le=>by
   have m:fL M prog H (.func (.func 151) #[] #[.pointer (some z)]) (gD (Vi .u8) Value.bool (fun f=>vG f right)):=⟨151,[],[.pointer (some z)],rfl,aCg,fun w_ B g v_ x G F=>by obtain ⟨V,f,Z,rfl,j,K,rfl⟩:=F;cases j;exact aFo (H:=B) G  f (cm:=right) (l.mono ((le.at 0 rfl).trans x)) (d.mono ((le.at 1 rfl).trans x)) K⟩
   exact XP k (s.mono (aG.mono _) le.i) (cl:=(fun f=>vG f right)) m o) ?_
 refine nt J J (I J (bK ?_));cases n;exact cX J J

theorem aFr {M:Prop} {W:World} (d:Int) {r:Bool} (h:xJ d=some r):Calls prog 104 #[.int .u8 d] W (bN M W (.bool r)):=by
 unfold xJ at h;refine aN (M:=M) func104 J ntmps104 J (Hp.le.refl _) ?_;refine C (I J (sq ?_));obtain ⟨i,c,e⟩:=L h;refine jn (SJ M W (hp W) [(hp W)] [] 9 [(2,.bool i)]) ?_ ?_
 ·refine rg (A J (kM J J J (A J ?_)));by_cases b:(32:Int)≤d
  ·have f:=aJ b c;refine gt b J (A J (gt b J (kM J J J (pt b J J (I J ?_)))));cases f;exact cuE J
  have g:=aU b c;refine cC 2 J J J (decide_eq_false b) J (pf b J J (I J ?_));cases g;exact cuE J
 refine X ?_;refine bK ?_;cases e;exact cX J J

theorem w65 {M:Prop} {W:World} (aj:aE) {r:Bool} (i:QX aj=some r):Calls prog 65 #[.string (bs aj)] W (bN M W (.bool r)):=by
 unfold QX at i;refine aN (M:=M) func65 J ntmps65 J (Hp.le.refl _) ?_;refine C (I J (sq ?_));obtain ⟨R,k,l⟩:=L i;refine jn (SJ M W (hp W) [(hp W)] [] 11 [(2,.bool R)]) ?_ ?_
 ·refine rg (A J (wP U9 J J ?_));obtain ⟨G,m,f⟩:=L k;refine bB vY J (fun w H h le=>wD (aj.length:Int) 1 200 m) (A J ?_);rcases Bool.eq_false_or_eq_true (G) with b | b
  ·have n:=aJ b f;refine gN J J (b) (A J (gN J J (b) ?_));obtain ⟨p,q⟩:=aF n;refine cvB U9 lV U5 J J p fun Z c0 j g=>?_;have:=g.len;refine gN J J (b) ?_;obtain ⟨K,s,u⟩:=L q
   refine oP (v:=.bool K) aBy J J J J (fun w H h le=>by
     have x:fL M prog H (.func (.func 104) #[] #[]) (gD (Vi .u8) Value.bool (xJ)):=⟨104,[],[],rfl,aBz,fun w_ Y c v_ hK hw B=>by obtain ⟨V,e,r_,rfl,d,F,rfl⟩:=B;cases d;exact aFr  e  F⟩
     exact aFq h (g.mono (aG.mono _) le.o) (right:=(xJ)) x s) ?_
   refine pT J J (b) J (I J ?_);cases u;intro a w z t;exact ⟨z.selH [1] J,t.cuE J⟩
  have y:=bJ b f;refine cC 3 J J J (b) J (pF J J (b) J (I J ?_));cases y;exact cuE J
 refine X ?_;refine bK ?_;cases l;exact cX J J

theorem aFt {M:Prop} {W:World} {e:List Value} (c:aI) (i:(aG aY) (hp W) e c) {r:Bool} (g:vH c=some r):Calls prog 101 #[.agg e.toArray] W (bN M W (.bool r)):=by
 obtain rfl:=i;unfold vH at g;refine aN (M:=M) func101 J ntmps101 J (Hp.le.refl _) ?_;refine C (bI (cs:=[.int .i64 c.anchor,.string (bs c.text)]) J J J fun u h d=>(I J (sq ?_)));obtain ⟨t,j,k⟩:=L g;refine jn (SJ M W (hp W) [h,(hp W)] [] 11 [(2,.bool t)]) ?_ ?_
 ·refine rg (aX 0 CN J Z3 (U G3 J ((P 0 J d).take 1) J ?_));obtain ⟨s,l,f⟩:=L j;refine bB C64 J (fun w H q le=>w64 c.anchor l) (A J ?_);rcases Bool.eq_false_or_eq_true (s) with b | b
  ·have m:=aJ b f;refine gN J J (b) (aX 1 CN J Z9 (gN J J (b) (U G9 J ((P 0 J d).drop 1) J (gN J J (b) ?_))));obtain ⟨v,n,o⟩:=L m;refine bB C65 J (fun w H q le=>w65 c.text n) (pT J J (b) J (I J ?_));cases o;exact cuE J
  have p:=bJ b f;refine cC 3 J J J (b) J (pF J J (b) J (I J ?_));cases p;exact cuE J
 refine X ?_;refine bK ?_;cases k;exact cX J J

theorem w61 (l:H.le (hp W)) {bz:List Value} (b:bE) (cq:(bW) H bz b) {r:Bool} (hr:VW b=some r):Calls prog 61 #[.agg bz.toArray] W (bN M W (.bool r)):=by
 have s:=cq;obtain ⟨u,h,rfl,t⟩:=cq;have:=t.len;unfold VW at hr;refine aN (M:=M) func61 J ntmps61 J l ?_;refine C (bI (cs:=[.int .i64 b.number,.int .i64 b.bound,.int .i64 b.height,.int .i64 b.width,.slice u b.parts.length h]) J J J fun q4 y d=>(I J (sq (C (aX 4 mG J CZ (U JB J ((P 0 J d).drop 4) J (dU AL J J (A J ?_))))))));refine N ?_;obtain ⟨G,hW,hE⟩:=L hr;refine jn (fun a w=>∃ t58,G=.inl t58∧SJ M W H [y,H] [] 64 [(1,.pointer (some q4))] a w) ?_ ?_
 ·refine bk ?_;refine lp hW (fun z=>SJ M W H [y,H] [] 64 [(1,.pointer (some q4)),(6,.slice u b.parts.length h),(7,.int .i64 (b.parts.length:Int)),(8,.int .i64 (z:Int))]) ?_ ?_
  ·exact cuE J
  rintro j z y0 R V a w ⟨e,c⟩;refine TG.ap ?_ e c;unfold FJ at R;refine C (dY J J J (N (sq ?_)));refine ci J (fun Y=>?_) (fun Y=>?_)
  ·have hX:=aJ Y R;refine sk (sq (bk (C (A J ?_))));obtain ⟨B,hB,Z⟩:=L hX;obtain ⟨p0,rfl⟩:=t.adr hB;obtain ⟨c1,bo,ab,hG⟩:=t.at hB;have bp:=hG;obtain ⟨a0,c0,rfl,ad⟩:=hG;have:=ad.len
   let x:List Value:=[.int .i64 B.day,.slice a0 B.paragraphs.length c0]
   refine cY AL nB J J J J (aW hB) (cP SC nB J J (P 1 J ab) J (al 1 (cs:=[.int .i64 0,.slice none 0 0]) zeroValue132 J J fun b0=>(a1 J (eP 1 (cs:=x) nB J J J J J J J (N (sq ?_))))));obtain ⟨t0,af,hI⟩:=L Z;refine jn (SJ M W H [y,H] [(1,bF b0 132 x)] 64 [(1,.pointer (some q4)),(6,.slice (some p0) b.parts.length h),(7,.int .i64 (b.parts.length:Int)),(8,.int .i64 (z:Int)),(39,.bool t0)]) ?_ ?_
   ·obtain ⟨r0,ah,hJ⟩:=L af;refine dV 24 mixed (by kernel_rfl) J (E J (aX 0 rE J Z3 D) (E J (U G3 J ((sO 1 J).take 1) J D) (E J (bB SA J (fun w H l le=>SV B.day ah) D) (E J (nt J J D) (E J (A J D) ?_)))));rcases Bool.eq_false_or_eq_true (r0) with k | k
    ·have hL:=aJ k hJ;refine E J (gN J J (congrArg not (k)) (aX 0 rE J Z3 D)) (E J (gN J J (congrArg not (k)) (U G3 J ((sO 1 J).take 1) J D)) (E J (gN J J (congrArg not (k)) (aX 1 mG J Z3 D)) (E J (gN J J (congrArg not (k)) (U G3 J (((P 1 J d).drop 1).take 1) J D)) (E J (gN J J (congrArg not (k)) (nH J J J D)) (E J (pF J J (congrArg not (k)) J D) (E J (A J D) ?_))))));by_cases g:b.bound < B.day
     ·have aj:=aJ g hL;refine jF 3 J J (decide_eq_true g) J ⟨J,J,J,tv⟩ (E J (gU J J J D) (E J (gU J J J D) (E J (gU J J J D) (E J (gU J J J D) (E J (gU J J J D) (E J (gU J J J D) (E J (gU J J J D) (E J (gU J J J D) (E J (gU J J J D) (DF.nil fun bi hF=>(gU J J J ?_)))))))))));refine CU g J (pt g J J (N ?_));cases aj;intro a w e c;exact ⟨e.selH [1,2] J,c.cuE J⟩
     have hM:=aU g hL;refine E J (dC g J (A J D)) (E J (dC g J (nH J J J D)) (E J (dC g J (A J D)) ?_));by_cases f:0 < (z:Int)
     ·have an:=aJ f hM;obtain ⟨x1,hN,aq⟩:=L an;obtain ⟨c2,bq,au,hO⟩:=t.at hN;have br:=hO;obtain ⟨a2,c3,rfl,aw⟩:=hO;have:=aw.len;refine E J (gt f J (aX 0 rE J Z3 D)) (E J (gt f J (U G3 J ((sO 1 J).take 1) J D)) (E J (gt f J (aX 4 mG J CZ D)) (E J (gt f J (U JB J ((P 1 J d).drop 4) J D)) (E J (gt f J (A J D)) (E J (gt f J (pN J J J (by omega) D)) (E J (gt f J (cY AL nB J J J (by omega) (aW hN) D)) (E J (gt f J (aX 0 rE J Z3 D)) (E J (gt f J (U G3 J ((P 2 J au).take 1) J D)) (DF.nil fun bj hF=>(gt f J (kM J J J ?_)))))))))));refine dC g J (pt f J J (pf g J J (N ?_)));cases aq;intro a w e c;exact ⟨e.selH [1,2] J,c.cuE J⟩
     have ax:=aU f hM;refine jF 9 J J (decide_eq_false f) J ⟨J,J,J,J,J,J,J,J,J,tv⟩ (DF.nil fun bl hF=>(gf f J (dC g J (pf f J J (pf g J J (N ?_))))));cases ax;intro a w e c;exact ⟨e.selH [1,2] J,c.cuE J⟩
    have ay:=bJ k hJ;refine jF 5 J J (congrArg not (k)) J ⟨J,J,J,J,J,tv⟩ (E J (pT J J (congrArg not (k)) J D) (E J (A J D) (jF 3 J J J J ⟨J,J,J,tv⟩ (E J (gU J J J D) (E J (gU J J J D) (E J (gU J J J D) (E J (gU J J J D) (E J (gU J J J D) (E J (gU J J J D) (E J (gU J J J D) (E J (gU J J J D) ?_)))))))))));refine E J (gU J J J D) (DF.nil fun bm hF=>(gU J J J (gF J J J J (pT J J J J (N ?_)))));cases ay;intro a w e c;exact ⟨e.selH [1,2] J,c.cuE J⟩
   refine X ?_;refine cb J (fun hC=>?_) (fun hC=>?_)
   ·have az:=aJ hC hI;refine C (I J (bK ?_));cases az;obtain rfl:=dJ.out V;cases hE;exact cX J J
   have a4:=bJ hC hI;refine sk (rg (dO J J J (by omega) (A J (N (TG.del 1 ?_)))));cases a4;intro a w e c;exact ⟨_,V,e,c.cuE J⟩
  have a5:=aU Y R;refine xt J ?_;cases a5;obtain rfl:=dJ.out V;intro a w e c;exact ⟨_,J,e,c.cuE J⟩
 rintro a w ⟨t58,rfl,e,c⟩;apply TG.ap ?_ e c;refine sq ?_;obtain ⟨t1,a6,a7⟩:=L hE;refine jn (SJ M W H [y,H] [] 64 [(2,.bool t1)]) ?_ ?_
 ·refine rg (aX 0 mG J Z3 (U G3 J ((P 0 J d).take 1) J ?_));obtain ⟨r1,a8,hP⟩:=L a6;refine bB vY J (fun w H l le=>wD b.number 1 99 a8) (A J ?_);rcases Bool.eq_false_or_eq_true (r1) with m | m
  ·have a9:=aJ m hP;refine gN J J (m) (aX 1 mG J Z3 (gN J J (m) (U G3 J (((P 0 J d).drop 1).take 1) J (gN J J (m) ?_))));obtain ⟨r2,ba,hQ⟩:=L a9;refine bB SA J (fun w H l le=>SV b.bound ba) (pT J J (m) J (A J ?_));rcases Bool.eq_false_or_eq_true (r2) with n | n
   ·have bb:=aJ n hQ;refine gN J J (n) (aX 2 mG J Z3 (gN J J (n) (U G3 J (((P 0 J d).drop 2).take 1) J (gN J J (n) ?_))));obtain ⟨r3,bc,hR⟩:=L bb;refine bB vY J (fun w H l le=>wD b.height 1 60 bc) (pT J J (n) J (A J ?_));rcases Bool.eq_false_or_eq_true (r3) with p | p
    ·have bd:=aJ p hR;refine gN J J (p) (aX 3 mG J Z3 (gN J J (p) (U G3 J (((P 0 J d).drop 3).take 1) J (gN J J (p) ?_))));obtain ⟨r4,be,hT⟩:=L bd;refine bB vY J (fun w H l le=>wD b.width 10 80 be) (pT J J (p) J (A J ?_));rcases Bool.eq_false_or_eq_true (r4) with q | q
     ·have bf:=aJ q hT;refine gN J J (q) (cP kJ gZ J J (P 0 J d) J (gN J J (q) ?_));obtain ⟨r8,bg,aa⟩:=L bf;refine gA C42 J J J J (fun w H l le=>w42 l b (bW.mono _ _ _ _ le.i s) bg) ?_;rintro v_ bn ⟨a3,c4,rfl,hV⟩;have:=hV.len;refine gN J J (q) ?_;obtain ⟨r5,ac,ae⟩:=L aa
      refine oP (v:=.bool r5) aBv J J J J (fun w H l le=>by
        have ag:fL M prog H (.func (.func 101) #[] #[]) (gD (Va aY) Value.bool (vH)):=⟨101,[],[],rfl,aBw,fun w_ K_ F v_ hK hw hs=>by obtain ⟨bt,bh,r_,rfl,K,hx,rfl⟩:=hs;cases K;exact aFt  bh rfl  hx⟩
        exact aFm l (hV.mono (aG.mono _) le.o) (right:=(vH)) ag ac) ?_
      refine pT J J (q) J (I J ?_);cases ae;intro a w e c;exact ⟨e.selH [1,2] J,c.cuE J⟩
     have ai:=bJ q hT;refine cC 3 J J J (q) J (pF J J (q) J (I J ?_));cases ai;exact cuE J
    have ak:=bJ p hR;refine cC 3 J J J (p) J (pF J J (p) J (A J (cC 3 J J J J J (pF J J J J (I J ?_)))));cases ak;exact cuE J
   have ao:=bJ n hQ;refine cC 3 J J J (n) J (pF J J (n) J (A J (cC 3 J J J J J (pF J J J J (A J (cC 3 J J J J J (pF J J J J (I J ?_))))))));cases ao;exact cuE J
  have ar:=bJ m hP;refine cC 3 J J J (m) J (pF J J (m) J (A J (cC 3 J J J J J (pF J J J J (A J (cC 3 J J J J J (pF J J J J (A J (cC 3 J J J J J (pF J J J J (a1 J ?_)))))))))));refine N ?_;cases ar;exact cuE J
 refine X ?_;refine bK ?_;cases a7;exact cX J J

theorem w39 (m:H.le (hp W)) {bz:List Value} (d:bE) (cq:(bW) H bz d) {r:Int} (hr:IZ d=some r):Calls prog 39 #[.agg bz.toArray] W (bN M W (.int .i64 r)):=by
 have b:=cq;obtain ⟨p,l,rfl,G⟩:=cq;have:=G.len;unfold IZ at hr;refine aN (M:=M) func39 J ntmps39 J m ?_;refine C (bI (cs:=[.int .i64 d.number,.int .i64 d.bound,.int .i64 d.height,.int .i64 d.width,.slice p d.parts.length l]) J J J fun q4 o h=>(I J (C (cP kJ gZ J J (P 0 J h) J ?_))));obtain ⟨r7,R,K⟩:=L hr;refine gA C42 J J J J (fun w H m le=>w42 m d (bW.mono _ _ _ _ le.i b) R) ?_;rintro v_ f ⟨a0,c0,rfl,t⟩;have:=t.len;refine I J (sq (bk (sq ?_)));obtain ⟨t30,h9,hB⟩:=L K;refine jn (SJ M W H [f,o,H] [] 38 [(1,.pointer (some q4)),(3,.slice a0 r7.length c0),(9,.bool t30)]) ?_ ?_
 ·refine rg (aX 4 mG J CZ (U JB J ((P 1 J h).drop 4) J (dU AL J J (nH J J J (A J ?_)))));by_cases e:6 < (d.parts.length:Int)
  ·have hG:=aJ e h9;refine cC 3 J J J (decide_eq_true e) J (pt e J J (I J ?_));cases hG;exact cuE J
  have hI:=aU e h9;refine dC e J (A J (dC e J (dU DD J J (dC e J (nH J J J (pf e J J (I J ?_)))))));cases hI;exact cuE J
 refine X ?_;refine cb J (fun v=>?_) (fun v=>?_)
 ·have hJ:=aJ v hB;refine C (I J (bK ?_));cases hJ;exact cX J J
 have hK:=bJ v hB;refine C (cP kJ gZ J J (P 1 J h) J ?_);obtain ⟨r0,hL,hC⟩:=L hK;refine bB C61 J (fun w H m le=>w61 m d (bW.mono _ _ _ _ le.u b) hL) (nt J J (I J ?_));refine cb J (fun h1=>?_) (fun h1=>?_)
 ·replace h1:=kX h1
  have hM:=bJ h1 hC;refine C (I J (bK ?_));cases hM;exact cX J J
 replace h1:=kY h1
 have hN:=aJ h1 hC;refine sk (C (NN 1 fM Value.bool J fun q=>(I J (sq (C (A J (dU DD J J (A J ?_))))))));refine N ?_;obtain ⟨s,hO,hE⟩:=L hN;refine jn (fun a w=>∃ Y,s=.inl Y∧SJ M W H [f,o,H] [(1,S.map' fM Value.bool q Y)] 38 [] a w) ?_ ?_
 ·refine bk ?_;refine lp hO (fun V=>SJ M W H [f,o,H] [(1,S.map' fM Value.bool q V.2)] 38 [(4,.map (some q)),(24,.slice a0 r7.length c0),(25,.int .i64 (r7.length:Int)),(26,.int .i64 (V.1:Int))]) ?_ ?_
  ·exact cuE J
  rintro j V y0 x y a w ⟨k,g⟩;refine TG.ap ?_ k g;unfold FK at x;refine C (dY J J J (N (sq ?_)));refine ci J (fun z=>?_) (fun z=>?_)
  ·have hP:=aJ z x;refine sk (sq (bk (C ?_)));obtain ⟨n,B,hF⟩:=L hP;obtain ⟨p0,rfl⟩:=t.adr B;have hQ:=t.atF B;refine cY DD nC J J J J (aW B) (cP HR nC J J (P 0 J hQ) J (va (cs:=[.int .i64 n.anchor,.string (bs n.text)]) zeroValue98 nC J J J J J J J J fun q0 Z c=>(N (sq (C (A J (aX 0 CN J Z3 (U G3 J ((P 0 J c).take 1) J (KB (ke:=fM) (enc:=Value.bool) n.anchor (z0:=false) lC U3 zeroValue4 J J J J (mO 1 J) (N ?_))))))))));refine cb J (fun F=>?_) (fun F=>?_)
   ·have hR:=aJ F hF;refine C (I J (bK ?_));cases hR;obtain rfl:=dJ.out y;cases hE;exact cX J J
   have hT:=bJ F hF;refine sk (rg (A J (aX 0 CN J Z3 (U G3 J ((P 0 J c).take 1) J (IW 1 (ke:=fM) (enc:=Value.bool) n.anchor true lC U3 J J J J (N (rg (dO J J J (by omega) (A J (N ?_))))))))));cases hT;intro a w k g;exact ⟨_,y,k.selH [1,2,3] J,g.cuE J⟩
  have hV:=aU z x;refine xt J ?_;cases hV;obtain rfl:=dJ.out y;intro a w k g;exact ⟨_,J,k,g.cut tv⟩
 rintro a w ⟨Y,rfl,k,g⟩;apply TG.ap ?_ k g;refine C (I J (bK ?_));cases hE;exact cX J J

theorem jH {M:Prop} {W:World} (e:Int) {r:Unit⊕Unit} (g:mD e=some r):Calls prog 131 #[.int .i64 e] W (sQ M W (fun r=>.tuple #[]) (.iface 155 (.agg #[.int .i64 e])) r):=by
 unfold mD at g;refine aN (M:=M) func131 J ntmps131 J (Hp.le.refl _) ?_;refine rg (A J (fQ J J J (A J ?_)));obtain ⟨i,c,b⟩:=L g;rcases i with j | j
 ·refine bB eZ J (fun w H h le=>iQ (fB (decide (e=0)) e c)) (N ?_);cases b;intro a w f d;refine eG d J ?_;exact pB J f.ext
 refine eA eZ J J J (fun w H h le=>iT (fB (decide (e=0)) e c)) ?_;cases b;intro a w f d;exact ⟨d.defers,eC f.ext⟩

theorem w83 {M:Prop} {W w:World} {H V:Hp} {σr:aL} {B:Nat} {ag:List Value} (f:aH) (bf:aT V ag f) {bb:Option Addr} {aw:Nat} {bo:List Int} (ai:Sl (aG (bX .i64)) 1 V bb aw bo) (text:aE) {r:aH⊕Int} (hr:KV f bo text=some r) (c:St M W H [V] ((1,bF B 77 ag)::σr) w):Calls prog 83 #[.pointer (some ⟨B,0,none⟩),.slice bb bo.length aw,.string (bs text)] w (fJ M W H V σr (rT (fun y e K A'=>∃ (dl:List Value),e=.returned (.tuple #[])∧A'=[(1,bF B 77 dl)]∧aT K dl y) (fun u=>.iface 155 (.agg #[.int .i64 u])) [(1,bF B 77 ag)] r)):=by
 have:=ai.len;unfold KV at hr;obtain ⟨z1,rfl,v⟩:=bf;have:=v.lens;refine cZ (M:=M) func83 J ntmps83 J c ?_;refine C (A J (nl J J (aX 0 fH J eQ (aX 7 eD J Z4 (U G4 J (((sO 1 J).drop 7).take 1) J (nt J J ?_))))));obtain ⟨r3,be,bd⟩:=L hr;rcases r3 with y6 | y6
 ·refine bB eZ J (fun w H hH le=>iQ (fB (!f.state.bound) 8 be)) (N (C (A J ?_)));obtain ⟨z,aq,hL⟩:=L bd;obtain ⟨p0,rfl⟩:=ai.adr aq;have hM:=ai.atF aq
  let ae:List Value:=[.int .i64 z,.string (bs text)]
  refine cY eV Z3 J J J J (aW aq) (U G3 J (P 0 J hM) J (A J (bu (cs:=ae) T12.B98 J J J (va (cs:=ae) zeroValue98 nC J J J J J J J J fun q0 ar ab=>(N (C (A J (nl J J (aX 0 fH J eQ (aX 2 eD J gZ ?_))))))))));refine aX 4 mG J CZ (U JB J (((sO 1 J).drop 6).take 1) J ?_);obtain ⟨p,hN,hO⟩:=L hL;refine NV 2 aB4 J J J J (fun w V σr c le=>aFf (aj:=f.state.volume.parts) (v.f0.mono (bT.mono) le.i) hN c) fun a4 c2 c3 ba k=>(I J (sq (C (A J (TG.len 2 J fun _=>(dU AL J J (pN J J J (by omega) (I J ?_))))))));refine sq ?_;obtain ⟨t45,h5,hP⟩:=L hO;refine jn (SJ M W H [ba,ar,V] ([(2,S.rows a4 c2 132 2 c3 p),(1,bF B 77 (cJ f.state z1))]++σr) 79 [(0,.pointer (some (⟨B,0,none⟩))),(6,.pointer (some q0)),(7,.slice a4 p.length c2),(8,.int .i64 ((p.length:Int) - 1)),(45,.bool t45)]) ?_ ?_
  ·by_cases g:0≤((p.length:Int) - 1)
   ·have hQ:=aJ g h5;obtain ⟨x1,h2,hR⟩:=L hQ;refine TG.addr 2 J (fX h2) fun b1 h=>?_;subst h;obtain ⟨cR,h6,cn,co,s1⟩:=ZU k h2;have cp:=h6;obtain ⟨a8,cS,rfl,hT⟩:=h6;have:=hT.len;refine dV 13 mixed (by kernel_rfl) J (E J (A J D) (E J (sI J J J D) (E J (A J D) (E J (gt g J (A J D)) (E J (gt g J (A J D)) (E J (gt g J (cY AL nB J J J (by omega) (aW h2) D)) (E J (gt g J (aX 0 rE J Z3 D)) (E J (gt g J (U G3 J ((s1 (t:=2) J).take 1) J D)) (E J (gt g J (A J D)) (E J (gt g J (nl J J D)) (E J (gt g J (aX 0 fH J eQ D)) ?_)))))))))));refine E J (gt g J (aX 0 eD J Z3 D)) (E J (gt g J (U G3 J ((sO 1 J).take 1) J D)) (DF.nil fun ce Y=>(gt g J (fQ J J J (pt g J J (N ?_))))));cases hR;intro a w c d;exact ⟨c.selH [1,2,3] J,d.cuE J⟩
   have hV:=aU g h5;refine dV 13 mixed (by kernel_rfl) J (E J (A J D) (E J (sI J J J D) (E J (A J D) (jF 10 J J (decide_eq_false g) J ⟨J,J,J,J,J,J,J,J,J,J,tv⟩ (DF.nil fun cf Y=>(gf g J (pf g J J (N ?_))))))));cases hV;intro a w c d;exact ⟨c.selH [1,2,3] J,d.cuE J⟩
  refine X ?_;obtain ⟨t142,h7,hW⟩:=L hP;refine jn (fun a w=>∃ (a2:Option Addr) (c1:Nat) (c4:List (List Value)) (s:Hp),St M W H [s,ba,ar,V] ([(2,S.rows a2 c1 132 2 c4 t142),(1,bF B 77 (cJ f.state z1))]++σr) w∧bM [] 79 a [(0,.pointer (some (⟨B,0,none⟩))),(7,.slice a2 t142.length c1)]∧Rows (bT) 2 s c4 t142) ?_ ?_
  ·refine cb J (fun h3=>?_) (fun h3=>?_)
   ·have hX:=aJ h3 h7;obtain ⟨cq,bg⟩:=aF hX;obtain ⟨x0,h1,bh⟩:=L bg;refine TG.addr 2 J (fX h1) fun b0 h=>?_;subst h;obtain ⟨ch,h8,cr,bi,s2⟩:=ZU k h1;have ct:=h8;obtain ⟨a9,cj,rfl,h9⟩:=h8;have:=h9.len;obtain ⟨Z,bj,bl⟩:=L bh;refine dV 9 mixed (by kernel_rfl) J (E J (A J D) (E J (A J D) (E J (A J D) (E J (A J D) (E J (cY AL nB J J J (by omega) (aW h1) D) (E J (aX 1 rE J XK D) (E J (U G91 J ((s2 (t:=2) J).drop 1) J D) (E J (cP HR nC J J (P 2 J ab) J D) (uS Z.length (aG aY) 2 Z (aG.mono _) J (gA aB5 J J J J (fun w H hH le=>aFh hH (h9.mono (aG.mono _) le.i) (⟨z,text⟩:aI) J bj) (kS (aG.mono _))) fun a3 c5=>(DF.nil fun b7 Y=>?_))))))))));obtain ⟨hB,_⟩:=Y;have:=hB.len;refine cY AL nB J J J (by omega) (aW h1) (aX 1 rE J XK ?_);have bm:(p.set (((p.length:Int) - 1).toNat) (⟨x0.day,Z⟩:eB)).length=p.length:=(BB _ _ _)
    let ad:List Value:=[.int .i64 x0.day,.slice a3 Z.length c5]
    refine TG.pack (fun K=>Rows (bT) 2 K (c3.set (((p.length:Int) - 1).toNat) ad) (p.set (((p.length:Int) - 1).toNat) (⟨x0.day,Z⟩:eB))) (fun H le=>Rows.set (R:=bT) (cs1:=ad) (y:=(⟨x0.day,Z⟩:eB)) J J ⟨_,_,J,(hB.mono (aG.mono _) le.o)⟩ (((p.length:Int) - 1).toNat) (k.mono (bT.mono) le.i)) fun au am=>(stR 2 (⟨x0.day,Z⟩:eB) ad (q:=⟨b0,0,none⟩) (j:=((p.length:Int) - 1).toNat) (size:=2) (cs:=[.slice a3 Z.length c5]) (off:=1) XK (PZ (b:=1) J) J J k bi J J J J J J (N ?_));cases bl;intro a w c d;exact ⟨(some ⟨b0,0,none⟩),c2,(c3.set (((p.length:Int) - 1).toNat) [Value.int .i64 x0.day,Value.slice a3 Z.length c5]),au,c.selH [0,2,3,4] J,d.cut ⟨J,(congrArg (fun (n:Nat)=>some (Value.slice (some ⟨b0,0,none⟩) n c2)) bm.symm),tv⟩,am⟩
   have bn:=bJ h3 h7;refine dV 10 mixed (by kernel_rfl) J (E J (A J D) (E J (A J D) (E J (nl J J D) (E J (aX 0 fH J eQ D) (E J (aX 0 eD J Z3 D) (E J (U G3 J ((sO 1 J).take 1) J D) (E J (cP HR nC J J (P 2 J ab) J D) ?_)))))))
   refine uS 1 (aG aY) 2 ([(⟨z,text⟩:aI)]:List aI) (aG.mono _) J (bS (cs:=ae) T12.E91 J J J J fun q1 ax bp af=>by
     have hC:Sl (aG aY) 2 ax (some q1) 1 ([(⟨z,text⟩:aI)]:List aI):=Sl.litF (fun _=>J) (fun _=>J) bp af J J J;have:=hC.len
     exact rV (aG.mono _) hC) fun a5 c6=>?_
   let G:List Value:=[.int .i64 f.state.day,.slice a5 1 c6]
   refine uC (.agg G.toArray) (fun K=>Sl (aG aY) 2 K a5 c6 ([(⟨z,text⟩:aI)]:List aI)) (fun _ _ h x=>x.mono (aG.mono _) h) J (fun a w K c d Y F=>TG.pa c d (bu (cs:=G) T12.B132 J J J (F (Y.1 J)))) ?_
   refine uF 1 (bT) 2 ([(⟨f.state.day,([(⟨z,text⟩:aI)]:List aI)⟩:eB)]:List eB) (bT.mono) J (fun a w K c d Y=>TG.pa c d (bS (cs:=G) T12.E25 J J J J fun q2 b8 bq ah=>by
     refine TG.pack (fun K=>Sl (bT) 2 K (some q2) 1 ([(⟨f.state.day,([(⟨z,text⟩:aI)]:List aI)⟩:eB)]:List eB)) (fun H le=>Sl.litR (css:=[G]) (l:=([(⟨f.state.day,([(⟨z,text⟩:aI)]:List aI)⟩:eB)]:List eB)) ⟨⟨J,J,⟨_,_,J,((Y.1 J).mono (aG.mono _) le.i)⟩⟩,tv⟩ bq (ah.mono le.o) J) fun b9 hE=>?_;have:=hE.len;refine sk1 ?_
     exact rV (bT.mono) hE)) fun a6 c7=>?_
   refine DF.nil fun ca Y=>?_;obtain ⟨hG,cm,br,_⟩:=Y;have:=br.len;have:=hG.len;obtain ⟨bt,bv⟩:=aF bn;have:=fI p ([(⟨f.state.day,([(⟨z,text⟩:aI)]:List aI)⟩:eB)]:List eB);refine TG.pack (fun K=>Sl (bT) 2 K a6 c7 ([(⟨f.state.day,([(⟨z,text⟩:aI)]:List aI)⟩:eB)]:List eB)∧Rows (bT) 2 K c3 p) (fun H le=>⟨hG.mono (bT.mono) le.o,k.mono (bT.mono) le.i⟩) fun ay ⟨bw,an⟩=>(ZV 2 (l:=p) (m:=([(⟨f.state.day,([(⟨z,text⟩:aI)]:List aI)⟩:eB)]:List eB)) T12.E25 J J J J J J bw an bT.one J bt fun a7 c8 c9 ao=>(I J ?_));cases bv;intro a w c d;exact ⟨a7,c8,c9,ay,c.selH [0,2,3,4] J,d.cuE J,ao⟩
  rintro a w ⟨a2,c1,c4,s,c,d,ak⟩;refine TG.ap ?_ c d;refine C (A J (A J (TG.stillR 2 J 0 J (bT.mono) ak fun cc h4=>?_)));have:=h4.len;obtain ⟨r4,bx,bz⟩:=L hW;refine clQ 1 C72 J J J J J (fun w V σr c le=>w72 f ⟨z1,J,{v.mono le.x with f0:=(v.f0.mono (bT.mono) le.x)}⟩ (parts:=t142) (h4.mono (bT.mono) le.o) bx c) ?_;rintro v_ cd ⟨ck,rfl,hI⟩;have b2:=hI;obtain ⟨cg,cl,rfl,b3⟩:=hI;have:=b3.len;obtain ⟨r2,b4,b5⟩:=L bz;refine bB C39 J (fun w H hH le=>w39 hH r4 (bW.mono _ _ _ _ le.o b2) b4) ?_;obtain ⟨r5,hJ,hK⟩:=L b5
  let bc:List Value:=((cJ f.state z1).set 6 (.slice a2 t142.length c1))
  rcases r5 with y0 | y0
  ·refine bB jG J (fun w H hH le=>iQ (jH r2 hJ)) (N (rg (A J (A J (nl J J (aX 0 fH J eQ (aX 2 eD J gZ (aX 4 mG J CZ (eP 1 (cs:=[.slice a2 t142.length c1]) CZ J J J J J J J (N (TG.pack (fun K=>aT K bc (⟨({f.state with volume:=({f.state.volume with parts:=t142}:bE)}:cV)⟩:aH)) (fun H le=>⟨{z1 with a0:=a2,c0:=c1},J,{v.mono (le.at 5 J) with f0:=(h4.mono (bT.mono) le.i)}⟩) fun az b6=>?_)))))))))));cases hK;intro a w c d;refine eG d J ?_;exact ⟨az,[(1,bF B 77 bc)],c.selH [0,6] J,_,J,J,b6⟩
  refine eA jG J J J (fun w H hH le=>iT (jH r2 hJ)) ?_;cases hK;intro a w c d;exact ⟨d.defers,V,[_],c.selH [5,5] J,J,J⟩
 refine eA eZ J J J (fun w H hH le=>iT (fB (!f.state.bound) 8 be)) ?_;cases bd;intro a w c d;exact ⟨d.defers,V,[_],c.selH [0,0] J,J,J⟩

theorem w84 {M:Prop} {W w:World} {H V:Hp} {σr:aL} {k:Nat} {ag:List Value} (b:aH) (bf:aT V ag b) {bb:Option Addr} {aw:Nat} {bo:List Int} (p:Sl (aG (bX .i64)) 1 V bb aw bo) (cz:aE) {r:aH⊕Int} (hr:QY b bo cz=some r) (c:St M W H [V] ((1,bF k 77 ag)::σr) w):Calls prog 84 #[.pointer (some ⟨k,0,none⟩),.slice bb bo.length aw,.string (bs cz)] w (fJ M W H V σr (rT (fun y e K A'=>∃ (dl:List Value),e=.returned (.tuple #[])∧A'=[(1,bF k 77 dl)]∧aT K dl y) (fun u=>.iface 155 (.agg #[.int .i64 u])) [(1,bF k 77 ag)] r)):=by
 have:=p.len;unfold QY at hr;obtain ⟨B,rfl,m⟩:=bf;have:=m.lens;refine cZ (M:=M) func84 J ntmps84 J c ?_;refine C (A J (nl J J (aX 0 fH J eQ (aX 7 eD J Z4 (U G4 J (((sO 1 J).drop 7).take 1) J (nt J J ?_))))));obtain ⟨r3,z,t⟩:=L hr;rcases r3 with y6 | y6
 ·refine bB eZ J (fun w H s le=>iQ (fB (!b.state.bound) 8 z)) (N (sq ?_));obtain ⟨Z,o,h4⟩:=L t;obtain ⟨p0,rfl⟩:=p.adr o;have h5:=p.atF o;obtain ⟨R,h0,h6⟩:=L h4;have h7:=p.atF h0;obtain ⟨Y,h1,h8⟩:=L h6;have h9:=p.atF h1
  let l:List Value:=[.int .i64 0,.int .i64 0,.int .i64 0,.int .i64 0,.slice none 0 0]
  let g:List Value:=(cJ b.state B)
  refine UX (TJ 21 6 (fun d=>([(2,bF d 27 l),(1,bF k 77 g)]++σr)) (fun _ _=>[])) 22 [21] [] mixed (fun _ _ _ _ _ h=>h) (by kernel_rfl) (by kernel_rfl) (by kernel_rfl) J (by kernel_rfl) (by kernel_rfl) (.nil) (dA J (A J D) (dA J (cY eV Z3 J J J J (aW o) D) (dA J (U G3 J (P 1 J h5) J D) (dA J (A J D) (dA J (nl J J D) (dA J (aX 0 fH J eQ D) (dA J (aX 0 eD J Z3 D) (DC.detQ (fun τ=>cI τ 1=some (bF k 77 g)) J J tv ⟨_,J,fun u v x=>by simp at x;subst x;rfl⟩ J J (fun τ hτ a w K c j F=>TG.pa c j (U G3 J ((sO 1 hτ).take 1) J D)) (dA J (A J D) (dA J (cY eV Z3 J J J J (aW h0) D) (dA J (U G3 J (P 1 J h7) J D) ?_)))))))))))
  let n:List Value:=[.int .i64 Z,.int .i64 b.state.day,.int .i64 R,.int .i64 Y,.slice B.a0 b.state.volume.parts.length B.c0]
  refine dA J (A J D) (dA J (cY eV Z3 J J J J (aW h1) D) (dA J (U G3 J (P 1 J h9) J D) (dA J (A J D) (dA J (nl J J D) (dA J (aX 0 fH J eQ D) (dA J (aX 2 eD J gZ D) (dA J (aX 4 mG J CZ D) (DC.detQ (fun τ=>cI τ 1=some (bF k 77 g)) J J tv ⟨_,J,fun u v x=>by simp at x;subst x;rfl⟩ J J (fun τ hτ a w K c j F=>TG.pa c j (U JB J (((sO 1 hτ).drop 6).take 1) J D)) (dA J (bu (cs:=n) T12.B27 J J J D) ?_)))))))));refine DC.turn (α:=Nat) 0 (fun d=>.pointer (some (⟨d,0,none⟩))) (fun _ _=>True) (fun d=>([(2,bF d 27 l),(1,bF k 77 g)]++σr)) J (fun _ _ _ _ h=>h) (by kernel_rfl) J J (fun a w K c j F=>TG.pa c j (al 2 (cs:=l) zeroValue27 J J fun d=>US (f:=fun d=>.pointer (some (⟨d,0,none⟩))) (G:=fun _ _=>True) (σ1:=fun d=>([(2,bF d 27 l),(1,bF k 77 g)]++σr)) d tv)) fun d=>?_;refine DC.nil fun ad F=>?_;obtain ⟨_,_⟩:=F;refine eP 2 (cs:=n) gZ J J J J J J J (N (C (cP kJ gZ J J (sO 2 J) J ?_)));obtain ⟨r0,hB,hC⟩:=L h8;refine bB C39 J (fun w H s le=>w39 s (⟨Z,b.state.day,R,Y,b.state.volume.parts⟩:bE) ⟨_,_,J,(m.f0.mono (bT.mono) le.i)⟩ hB) ?_;obtain ⟨r1,h2,h3⟩:=L hC;rcases r1 with y0 | y0
  ·refine bB jG J (fun w H s le=>iQ (jH r0 h2)) (N (rg (A J (A J (cP kJ gZ J J (sO 2 J) J (nl J J (aX 0 fH J eQ (aX 2 eD J gZ (eP 1 (cs:=n) gZ J J J J J J J (nl J J (aX 0 fH J eQ ?_)))))))))))
   let q:List Value:=((((((cJ b.state B).set 2 (.int .i64 Z)).set 3 (.int .i64 b.state.day)).set 4 (.int .i64 R)).set 5 (.int .i64 Y)).set 7 (.bool true))
   refine aX 7 eD J Z4 (eP 1 (cs:=[.bool true]) Z4 J J J J J J J (N (TG.del 2 (TG.pack (fun K=>aT K q (⟨({b.state with volume:=(⟨Z,b.state.day,R,Y,b.state.volume.parts⟩:bE),bound:=true}:cV)⟩:aH)) (fun H le=>⟨B,J,{m.mono le.i with f0:=(m.f0.mono (bT.mono) le.i)}⟩) fun ab hE=>?_))));cases h3;intro a w c j;refine eG j J ?_;exact ⟨ab,[(1,bF k 77 q)],c.selH [0,2] J,_,J,J,hE⟩
  refine eA jG J J J (fun w H s le=>iT (jH r0 h2)) (TG.del 2 ?_);cases h3;intro a w c j;exact ⟨j.defers,V,[_],c.selH [1,1] J,J,J⟩
 refine eA eZ J J J (fun w H s le=>iT (fB (!b.state.bound) 8 z)) ?_;cases t;intro a w c j;exact ⟨j.defers,V,[_],c.selH [0,0] J,J,J⟩

theorem ML {M:Prop} {W w:World} {H V:Hp} {σr:aL} {p:Option Addr} {o:Nat} {aj:List aK} (g:Sl (aG aO) 6 V p o aj) {r:List aK} (j:rA aj=some r) (c:St M W H [V] σr w):Calls prog 106 #[.slice p aj.length o] w (fJ M W H V σr (fun e K q=>∃ (ad:Option Addr) (cap:Nat),e=.returned (.slice ad r.length cap)∧q=[(1,S.list ad cap 119 6 aO r)])):=by
 have:=g.len;unfold rA at j;refine cZ (M:=M) func106 J ntmps106 J c ?_;refine C (I J (sq (C (A J (KA CM J J (N ?_))))));refine cb J (fun d=>?_) (fun d=>?_)
 ·obtain rfl:=Sl.isNil g d;have k:=(aF j).2;refine C (I J (bK (TG.nilRow 1 119 6 ?_)));cases k;intro a w c h;refine dN h J J ?_;exact ⟨_,[(1,S.list none 0 119 6 aO ([]:List aK))],c.selH [0,0] J,_,_,J,J⟩
 refine sk (C (NM 1 aO ([]:List aK) (cs:=[]) T12.E28 J J J J J J fun s=>(A J ?_)));obtain ⟨i,n⟩:=aF j;have:=fI ([]:List aK) aj;refine sJ 1 (enc:=aO) (l:=([]:List aK)) (m:=aj) T12.E28 J J J J J J g 0 J (fun _=>J) (fun _=>J) J i fun f b=>(I J (bK ?_));cases n;intro a w c h;refine dN h J J ?_;exact ⟨_,[(1,S.list f b 119 6 aO (([]:List aK)++aj))],c.selH [0,0] J,_,_,J,J⟩

theorem aFw (hH:H.le (hp W)) {B:Option Addr} {z:Nat} {j:List aK} (G:Sl (aG aO) 6 H B z j) {R:List Value} (b:aK) (ee:(aG aO) H R b) {r:List aK} (hr:BK j b=some r):Calls prog 181 #[.slice B j.length z,.agg R.toArray] W (eW M H W (fun v K=>∃ (e:Option Addr) (c:Nat),v=.slice e r.length c∧Sl (aG aO) 6 K e c r)):=by
 have:=G.len;obtain rfl:=ee;unfold BK at hr;refine aN (M:=M) func181 J ntmps181 J hH ?_
 let g:List Value:=[.int .i64 b.number,.int .i64 b.day,.int .u8 b.kind,.int .i64 b.anchor,.string (bs b.text),.int .i64 b.new_]
 refine C (bI (cs:=g) J J J fun q1 K2 q=>(I J (sq ?_)));obtain ⟨k,t,s⟩:=L hr;refine lA 4 [1] [] mixed (fun _ _ _ _ _ h=>h) (by kernel_rfl) (by kernel_rfl) (by kernel_rfl) J (by kernel_rfl) (.nil) (dA J (A J D) (tS k.length (fun x y=>[(1,S.list x y 119 6 aO k)]) J (fun a w K d p hF F=>TG.pa d p (zT 1 LX J J J J (fun w V σr d le=>ML (aj:=j) (G.mono (aG.mono _) le.u) t d) fun o f=>F _ _)) fun o f=>(dA J (cP mY iU J J (P 1 J q) J D) ?_)))
 refine uT 1 (aG aO) 6 ([b]:List aK) (aG.mono _) J (bS (cs:=g) T12.E28 J J J J fun q9 n h2 i=>by
   have Y:Sl (aG aO) 6 n (some q9) 1 ([b]:List aK):=Sl.litF (fun _=>J) (fun _=>J) h2 i J J J;have:=Y.len
   exact rV (aG.mono _) Y) fun a0 c0=>?_
 refine DC.nil fun aa hF=>?_;obtain ⟨Z,_,_⟩:=hF;have:=Z.len;obtain ⟨h3,h4⟩:=aF s;have:=fI k ([b]:List aK);refine sJ 1 (enc:=aO) (l:=k) (m:=([b]:List aK)) T12.E28 J J J J J J Z 0 J (fun _=>J) (fun _=>J) J h3 fun a2 c1=>(I J (bK ?_));cases h4;intro a w d p;refine dN p J J ?_;exact ⟨⟨_,_,J,(d.listOut 1 J (fun _=>J))⟩,d.ext⟩

theorem w63 (s:H.le (hp W)) {m:List Value} (b:aK) (q:(aG aO) H m b) {j:Addr} {l:Value} {cm:aK→Option Bool} (p:aM H j [l]) (k:fL M prog H l (gD (Va aO) Value.bool cm)) {r:Bool} (n:OB b cm=some r):Calls prog 63 #[.agg m.toArray,.pointer (some j)] W (bN M W (.bool r)):=by
 obtain rfl:=q;have c:=k;obtain ⟨f,e,d,rfl,_,_⟩:=k;unfold OB at n;refine aN (M:=M) func63 J ntmps63 J s ?_;refine C (bI (cs:=[.int .i64 b.number,.int .i64 b.day,.int .u8 b.kind,.int .i64 b.anchor,.string (bs b.text),.int .i64 b.new_]) J J J fun u t g=>(I J (C (U aEu J (P 1 J p) J (cP mY iU J J (P 0 J g) J ?_)))));obtain ⟨o,i,h⟩:=L n;refine oY (v:=.bool o) c 1 J J J J (fun H le=>⟨_,b,o,J,J,i,J⟩) (nt J J (I J (bK ?_)));cases h;exact cX J J

theorem aFx (hH:H.le (hp W)) {i:Option Addr} {h:Nat} {aj:List aK} (k:Sl (aG aO) 6 H i h aj) {q:Value} {cl:aK→Option Bool} (s:fL M prog H q (gD (Va aO) Value.bool cl)) {r:Int} (x:KW aj cl=some r):Calls prog 102 #[.slice i aj.length h,q] W (bN M W (.int .i64 r)):=by
 have:=k.len;have d:=s;obtain ⟨e,c,b,rfl,_,_⟩:=s;unfold KW at x;refine aN (M:=M) func102 J ntmps102 J hH ?_;refine C (I J (sq (C (A J (dU CM J J (A J (N ?_)))))));obtain ⟨e19,F,t⟩:=L x;refine jn (fun a w=>∃ B,e19=.inl B∧SJ M W H [H] [] 19 [] a w) ?_ ?_
 ·refine bk ?_;refine lp F (fun z=>SJ M W H [H] [] 19 [(0,.slice i aj.length h),(1,.func (.func e) c.toArray b.toArray),(7,.int .i64 (aj.length:Int)),(8,.int .i64 (z:Int))]) ?_ ?_
  ·exact cuE J
  rintro j z y0 l m a w ⟨g,f⟩;refine TG.ap ?_ g f;unfold xK at l;refine C (dY J J J (N (sq ?_)));refine ci J (fun n=>?_) (fun n=>?_)
  ·have G:=aJ n l;refine sk (sq (bk (C (A J (I J (C (A J (A J ?_))))))));refine A J ?_;obtain ⟨x0,o,K⟩:=L G;obtain ⟨p0,rfl⟩:=k.adr o;have R:=k.atF o;refine cY CM iU J J J J (aW o) (cP mY iU J J (P 0 J R) J ?_);obtain ⟨y,V,u⟩:=L K;refine oY (v:=.bool y) d 0 J J J J (fun H le=>⟨_,x0,y,J,J,V,J⟩) (N ?_);refine cb J (fun p=>?_) (fun p=>?_)
   ·have Y:=aJ p u;refine C (A J (I J (bK ?_)));cases Y;obtain rfl:=dJ.out m;cases t;exact cX J J
   have Z:=bJ p u;refine sk (rg (dO J J J (by omega) (A J (N ?_))));cases Z;intro a w g f;exact ⟨_,m,g,f.cuE J⟩
  have hG:=aU n l;refine xt J ?_;cases hG;obtain rfl:=dJ.out m;intro a w g f;exact ⟨_,J,g,f.cut tv⟩
 rintro a w ⟨B,rfl,g,f⟩;apply TG.ap ?_ g f;refine C (I J (bK ?_));cases t;exact cX J J

theorem w62 (f:H.le (hp W)) {j:Option Addr} {i:Nat} {aj:List aK} (n:Sl (aG aO) 6 H j i aj) {k:Value} {cl:aK→Option Bool} (l:fL M prog H k (gD (Va aO) Value.bool cl)) {r:Bool} (m:m62 aj cl=some r):Calls prog 62 #[.slice j aj.length i,k] W (bN M W (.bool r)):=by
 have b:=l;obtain ⟨e,d,c,rfl,_,_⟩:=l;unfold m62 at m;refine aN (M:=M) func62 J ntmps62 J f ?_;refine C (I J (C (A J (A J ?_))));obtain ⟨p,h,g⟩:=L m;refine bB aBx J (fun w H f le=>aFx f (n.mono (aG.mono _) le.o) (cl:=cl) (b.mono le.o) h) (sI J J J (I J (bK ?_)));cases g;exact cX J J

theorem w40 (k:H.le (hp W)) {q:Option Addr} {p:Nat} {h:List aK} (s:Sl (aG aO) 6 H q p h) {t:Value} {right:aK→Option Bool} (u:fL M prog H t (gD (Va aO) Value.bool right)) {r:Bool} (y:VX h right=some r):Calls prog 40 #[.slice q h.length p,t] W (bN M W (.bool r)):=by
 have:=s.len;have d:=u;obtain ⟨e,c,b,rfl,_,_⟩:=u;unfold VX at y;refine aN (M:=M) func40 J ntmps40 J k ?_;refine C (bI (cs:=[.func (.func e) c.toArray b.toArray]) J J J fun z Y l=>(I J (C (A J (fn J J J ?_)))));obtain ⟨R,o,n⟩:=L y
 refine oP (v:=.bool R) C62 J J J J (fun w H k le=>by
   have m:fL M prog H (.func (.func 63) #[] #[.pointer (some z)]) (gD (Va aO) Value.bool (fun f=>OB f right)):=⟨63,[],[.pointer (some z)],rfl,C63,fun w_ B g v_ x G F=>by obtain ⟨V,f,Z,rfl,j,K,rfl⟩:=F;cases j;exact w63 (H:=B) G  f rfl (cm:=right) (l.mono ((le.at 0 rfl).trans x)) (d.mono ((le.at 1 rfl).trans x)) K⟩
   exact w62 k (s.mono (aG.mono _) le.i) (cl:=(fun f=>OB f right)) m o) ?_
 refine nt J J (I J (bK ?_));cases n;exact cX J J

theorem w41 {M:Prop} {W:World} {cr:List Value} (c:aK) (cy:(aG aO) (hp W) cr c) {r:Bool} (hr:OC c=some r):Calls prog 41 #[.agg cr.toArray] W (bN M W (.bool r)):=by
 obtain rfl:=cy;unfold OC at hr;refine aN (M:=M) func41 J ntmps41 J (Hp.le.refl _) ?_;refine C (bI (cs:=[.int .i64 c.number,.int .i64 c.day,.int .u8 c.kind,.int .i64 c.anchor,.string (bs c.text),.int .i64 c.new_]) J J J fun q1 j b=>(I J (sq (sq ?_))));obtain ⟨t0,hL,h9⟩:=L hr;refine jn (SJ M W (hp W) [j,(hp W)] [] 51 [(1,.pointer (some q1)),(18,.bool t0)]) ?_ ?_
 ·refine rg (aX 0 gG J Z3 (U G3 J ((P 0 J b).take 1) J ?_));obtain ⟨r22,hM,hB⟩:=L hL;refine bB vY J (fun w H i le=>wD c.number 1 999 hM) (nt J J (A J ?_));rcases Bool.eq_false_or_eq_true (r22) with d | d
  ·have hN:=aJ d hB;refine gN J J (congrArg not (d)) (aX 1 gG J Z3 (gN J J (congrArg not (d)) (U G3 J (((P 0 J b).drop 1).take 1) J (gN J J (congrArg not (d)) ?_))));obtain ⟨r0,hO,hC⟩:=L hN;refine bB SA J (fun w H i le=>SV c.day hO) (gN J J (congrArg not (d)) (nt J J (pF J J (congrArg not (d)) J (A J ?_))));rcases Bool.eq_false_or_eq_true (r0) with e | e
   ·have hP:=aJ e hC;refine gN J J (congrArg not (e)) (aX 3 gG J Z3 (gN J J (congrArg not (e)) (U G3 J (((P 0 J b).drop 3).take 1) J (gN J J (congrArg not (e)) ?_))));obtain ⟨r3,hQ,hR⟩:=L hP;refine bB C64 J (fun w H i le=>w64 c.anchor hQ) (gN J J (congrArg not (e)) (nt J J (pF J J (congrArg not (e)) J (N ?_))));cases hR;exact cuE J
   have hT:=bJ e hC;refine cC 4 J J J (congrArg not (e)) J (pT J J (congrArg not (e)) J (N ?_));cases hT;exact cuE J
  have hV:=bJ d hB;refine cC 4 J J J (congrArg not (d)) J (pT J J (congrArg not (d)) J (A J (cC 4 J J J J J (pT J J J J (N ?_)))));cases hV;exact cuE J
 refine X ?_;refine cb J (fun k=>?_) (fun k=>?_)
 ·have hW:=aJ k h9;refine C (I J (bK ?_));cases hW;exact cX J J
 have hE:=bJ k h9;refine sk (sq (C (aX 2 gG J Z5 (U G5 J (((P 0 J b).drop 2).take 1) J (N (bk (C (fQ J J J (a1 J ?_)))))))));refine N ?_;refine ci J (fun l=>?_) (fun l=>?_)
 ·have hX:=aJ l hE;refine sq ?_;obtain ⟨t1,o,p⟩:=L hX;refine jn (SJ M W (hp W) [j,(hp W)] [] 51 [(2,.bool t1)]) ?_ ?_
  ·refine rg (aX 4 gG J Z9 (U G9 J (((P 0 J b).drop 4).take 1) J ?_));obtain ⟨r1,q,hF⟩:=L o;refine bB C65 J (fun w H i le=>w65 c.text q) (A J ?_);rcases Bool.eq_false_or_eq_true (r1) with f | f
   ·have s:=aJ f hF;refine gN J J (f) (aX 5 gG J Z3 (gN J J (f) (U G3 J ((P 0 J b).drop 5) J (gN J J (f) (fQ J J J (pT J J (f) J (I J ?_)))))));cases s;exact cuE J
   have t:=bJ f hF;refine cC 3 J J J (f) J (pF J J (f) J (I J ?_));cases t;exact cuE J
  refine X ?_;refine bK ?_;cases p;exact cX J J
 have hG:=aU l hE;refine C (fQ J J J (I J ?_));refine ci J (fun m=>?_) (fun m=>?_)
 ·have u:=aJ m hG;refine sq ?_;obtain ⟨t2,hI,v⟩:=L u;refine jn (SJ M W (hp W) [j,(hp W)] [] 51 [(2,.bool t2)]) ?_ ?_
  ·refine rg (aX 4 gG J Z9 (U G9 J (((P 0 J b).drop 4).take 1) J (qU J J J (A J ?_))));by_cases h:c.text=[]
   ·have x:=aJ h hI;refine gt h J (aX 5 gG J Z3 (gt h J (U G3 J ((P 0 J b).drop 5) J (gt h J (fQ J J J (pt h J J (I J ?_)))))));cases x;exact cuE J
   have y:=aU h hI;refine cC 3 J J J (decide_eq_false h) J (pf h J J (I J ?_));cases y;exact cuE J
  refine X ?_;refine bK ?_;cases v;exact cX J J
 have hJ:=aU m hG;refine C (fQ J J J (I J ?_));refine ci J (fun n=>?_) (fun n=>?_)
 ·have z:=aJ n hJ;refine sq ?_;obtain ⟨t3,B,F⟩:=L z;refine jn (SJ M W (hp W) [j,(hp W)] [] 51 [(2,.bool t3)]) ?_ ?_
  ·refine rg (aX 4 gG J Z9 (U G9 J (((P 0 J b).drop 4).take 1) J ?_));obtain ⟨r2,G,hK⟩:=L B;refine bB C65 J (fun w H i le=>w65 c.text G) (A J ?_);rcases Bool.eq_false_or_eq_true (r2) with g | g
   ·have K:=aJ g hK;refine gN J J (g) (aX 5 gG J Z3 (gN J J (g) (U G3 J ((P 0 J b).drop 5) J (gN J J (g) ?_))));obtain ⟨r4,R,V⟩:=L K;refine bB C64 J (fun w H i le=>w64 c.new_ R) (pT J J (g) J (I J ?_));cases V;exact cuE J
   have Y:=bJ g hK;refine cC 3 J J J (g) J (pF J J (g) J (I J ?_));cases Y;exact cuE J
  refine X ?_;refine bK ?_;cases F;exact cX J J
 have Z:=aU n hJ;refine sk (C (I J (bK ?_)));cases Z;exact cX J J

theorem MM {M:Prop} {W:World} (b:Int) {r:Bool} (c:vI b=some r):Calls prog 221 #[.int .i64 b] W (bN M W (.bool r)):=by
 unfold vI at c;refine aN (M:=M) func221 J ntmps221 J (Hp.le.refl _) ?_;refine C (I J (C (A J (A J (kZ J J J (I J (bK ?_)))))));obtain rfl:=sj c;exact cX J J

theorem XQ {M:Prop} {W:World} (c:Int) (d:Int) {r:Int} (q:BL c d=some r):Calls prog 155 #[.int .i64 c,.int .i64 d] W (bN M W (.int .i64 r)):=by
 unfold BL at q;refine aN (M:=M) func155 J ntmps155 J (Hp.le.refl _) ?_;refine C (I J (C (A J ?_)));obtain ⟨B,k,j⟩:=L q;refine bB MA J (fun w H z le=>MM c k) (I J (C (A J ?_)));obtain ⟨F,l,b⟩:=L j;refine bB MA J (fun w H z le=>MM d l) (I J (sq (C (A J (N ?_)))));refine cb J (fun e=>?_) (fun e=>?_)
 ·have m:=aJ e b;refine sq (C (A J (N ?_)));refine cb J (fun f=>?_) (fun f=>?_)
  ·have s:=aJ f m;refine C (I J (bK ?_));cases s;exact cX J J
  have t:=bJ f m;refine sk (C (I J (bK ?_)));cases t;exact cX J J
 have n:=bJ e b;refine sk (sq (C (A J (N ?_))));refine cb J (fun g=>?_) (fun g=>?_)
 ·have u:=aJ g n;refine C (I J (bK ?_));cases u;exact cX J J
 have o:=bJ g n;refine sk (sq (C (A J (A J (dY J J J (N ?_))))));refine ci J (fun h=>?_) (fun h=>?_)
 ·have v:=aJ h o;refine C (I J (bK ?_));cases v;exact cX J J
 have p:=aU h o;refine sk (sq (C (A J (A J (nH J J J (N ?_))))));refine ci J (fun i=>?_) (fun i=>?_)
 ·have x:=aJ i p;refine C (I J (bK ?_));cases x;exact cX J J
 have y:=aU i p;refine sk (C (I J (bK ?_)));cases y;exact cX J J

theorem aFy (B:H.le (hp W)) {f:Option Addr} {e:Nat} {vals:List Int} (g:Sl (aG (bX .i64)) 1 H f e vals) {r:Int} (p:FL vals=some r):Calls prog 154 #[.slice f vals.length e] W (bN M W (.int .i64 r)):=by
 have:=g.len;unfold FL at p;refine aN (M:=M) func154 J ntmps154 J B ?_;refine C (I J (C (I J (sq (C (A J ?_))))));refine dU eV J J (A J (N ?_));obtain ⟨d,t,n⟩:=L p;refine jn (fun a w=>∃ s,d=.inl s∧SJ M W H [H] [] 18 [(3,.int .i64 0)] a w) ?_ ?_
 ·refine bk ?_;refine lp t (fun q=>SJ M W H [H] [] 18 [(3,.int .i64 0),(6,.slice f vals.length e),(7,.int .i64 (vals.length:Int)),(8,.int .i64 (q:Int))]) ?_ ?_
  ·exact cuE J
  rintro j q K h i a w ⟨c,b⟩;refine TG.ap ?_ c b;unfold qE at h;refine C (dY J J J (N (sq ?_)));refine ci J (fun k=>?_) (fun k=>?_)
  ·have u:=aJ k h;refine sk (sq (bk (C ?_)));obtain ⟨G,l,o⟩:=L u;obtain ⟨F,rfl⟩:=g.adr l;have v:=g.atF l;refine cY eV Z3 J J J J (aW l) (U G3 J (P 0 J v) J (I J (C (A J (A J (kZ J J J (N ?_)))))));refine ci J (fun m=>?_) (fun m=>?_)
   ·have x:=aJ m o;refine C (A J (I J (bK ?_)));cases x;obtain rfl:=dJ.out i;cases n;exact cX J J
   have y:=aU m o;refine sk (rg (dO J J J (by omega) (A J (N ?_))));cases y;intro a w c b;exact ⟨_,i,c,b.cuE J⟩
  have z:=aU k h;refine xt J ?_;cases z;obtain rfl:=dJ.out i;intro a w c b;exact ⟨_,J,c,b.cuE J⟩
 rintro a w ⟨s,rfl,c,b⟩;apply TG.ap ?_ c b;refine C (A J (I J (bK ?_)));cases n;exact cX J J

theorem SW {M:Prop} {W:World} {k:List Value} (b:aK) (q:(aG aO) (hp W) k b) {l:List Value} (c:aK) (s:(aG aO) (hp W) l c) {r:Int} (n:oC b c=some r):Calls prog 108 #[.agg k.toArray,.agg l.toArray] W (bN M W (.int .i64 r)):=by
 obtain rfl:=q;obtain rfl:=s;unfold oC at n;refine aN (M:=M) func108 J ntmps108 J (Hp.le.refl _) ?_;refine C (bI (cs:=[.int .i64 b.number,.int .i64 b.day,.int .u8 b.kind,.int .i64 b.anchor,.string (bs b.text),.int .i64 b.new_]) J J J fun K B e=>(bI (cs:=[.int .i64 c.number,.int .i64 c.day,.int .u8 c.kind,.int .i64 c.anchor,.string (bs c.text),.int .i64 c.new_]) J J J fun R F f=>(I J (sq ?_))));obtain ⟨r7,j,i⟩:=L n;refine dV 9 mixed (by kernel_rfl) J (E J (aX 1 gG J Z3 D) (E J (U G3 J (((P 2 J e).drop 1).take 1) J D) (E J (aX 1 gG J Z3 D) (E J (U G3 J (((P 1 J f).drop 1).take 1) J D) (E J (bB WN J (fun w H h le=>XQ b.day c.day j) D) (E J (aX 0 gG J Z3 D) (E J (U G3 J ((P 2 J e).take 1) J D) (E J (aX 0 gG J Z3 D) (E J (U G3 J ((P 1 J f).take 1) J D) (DF.nil fun p G=>?_))))))))));obtain ⟨r11,t,u⟩:=L i;refine bB WN J (fun w H h le=>XQ b.number c.number t) (bS (cs:=[.int .i64 r7,.int .i64 r11]) T12.E33 J J J J fun z g v d=>?_);have m:Sl (aG (bX .i64)) 1 g (some z) 2 ([r7,r11]:List Int):=Sl.litF (fun _=>J) (fun _=>J) v d J J J;have:=m.len;obtain ⟨V,x,y⟩:=L u;refine bB aCi J (fun w H h le=>aFy h (m.mono (aG.mono _) le.o) x) (I J (bK ?_));cases y;exact cX J J

theorem aMe (hH:H.le (hp W)) {dx:Value} {yield:aK→Option Bool} (ef:fL M prog H dx (gD (Va aO) Value.bool yield)) {bj:Addr} {gq:Option Addr} {gi:Nat} {cm:List aK} (bw:aM H bj [.slice gq cm.length gi]) (bp:Sl (aG aO) 6 H gq gi cm) {u:Addr} (B:Int) (fj:aM H u [.int .i64 B]) {r:Unit} (hr:VY yield cm B=some r):Calls prog 105 #[dx,.pointer (some bj),.pointer (some u)] W (bN M W (.tuple #[])):=by
 have g:=ef;obtain ⟨d,c,b,rfl,_,_⟩:=ef;have:=bp.len;unfold VY at hr;refine aN (M:=M) func105 J ntmps105 J hH ?_;refine C (U HN J (P 0 J bw) J ?_);obtain ⟨t,ac,aa⟩:=L hr;refine zT 1 LX J J J J (fun w V σr f le=>ML (aj:=cm) (bp.mono (aG.mono _) le.o) ac f) fun n e=>(TG.len 1 J fun _=>(I J (C (A J ?_))));obtain ⟨l6,s,ab⟩:=L aa;have q:l6.length=t.length:=(gP s);refine KJ 1 (enc:=aO) (V:=Va aO) (V':=Va aO) (fun _=>rfl) (fun _=>rfl) srt107 RW J J J J J J (fun H le=>⟨108,[],[],rfl,RX,fun w_ K_ y v_ hK hw hs=>by obtain ⟨af,ag,ad,ae,r_,rfl,F,K,hx,rfl⟩:=hs;cases F;cases K;exact SW  ad rfl ae rfl  hx⟩) (fun _ _=>rfl) (fun _ _=>rfl) s (N (C (A rfl (dU CM J J (A rfl (N ?_))))));obtain ⟨z,h9,h6⟩:=L ab
 let p:aL:=[(1,S.list n e 119 6 aO l6)]
 refine jn (fun a w=>∃ t34,z=.inl t34∧SJ M W H [H] p 28 [] a w) ?_ ?_
 ·refine bk ?_;refine lp h9 (fun s1=>SJ M W H [H] p 28 [(0,.func (.func d) c.toArray b.toArray),(2,.pointer (some u)),(11,.slice n t.length e),(12,.int .i64 (t.length:Int)),(13,.int .i64 (s1:Int))]) ?_ ?_
  ·exact cuE J
  rintro j s1 y0 G R a w ⟨f,i⟩;refine TG.ap ?_ f i;unfold FM at G;refine C (dY J J J (N (sq ?_)));refine ci J (fun Y=>?_) (fun Y=>?_)
  ·have hB:=aJ Y G;refine sk (sq (bk (C ?_)));obtain ⟨m,Z,hC⟩:=L hB;refine TG.addr 1 J (fX Z) fun b0 h=>?_;subst h;refine cY CM iU J J J J (Nat.lt_of_lt_of_eq (aW Z) q) (cP mY iU J J (sE (enc:=aO) 1 J (fun _=>J) Z) J (va (cs:=[.int .i64 m.number,.int .i64 m.day,.int .u8 m.kind,.int .i64 m.anchor,.string (bs m.text),.int .i64 m.new_]) zeroValue119 iU J J J J J J J J fun q0 x l=>(N (sq ?_))));obtain ⟨t0,h7,h8⟩:=L hC;refine jn (SJ M W H [x,H] [(1,S.list (some ⟨b0,0,none⟩) e 119 6 aO l6)] 28 [(0,.func (.func d) c.toArray b.toArray),(2,.pointer (some u)),(11,.slice (some ⟨b0,0,none⟩) t.length e),(12,.int .i64 (t.length:Int)),(13,.int .i64 (s1:Int)),(26,.bool t0)]) ?_ ?_
   ·refine rg (aX 1 gG J Z3 (U G3 J (((P 0 J l).drop 1).take 1) J (U G3 J (P 1 J fj) J (nH J J J (A J ?_)))));by_cases k:B < m.day
    ·have hE:=aJ k h7;refine cC 4 J J J (decide_eq_true k) J (pt k J J (N ?_));cases hE;exact cuE J
    have hF:=aU k h7;refine dC k J (A J (dC k J (cP mY iU J J (P 0 J l) J (dC k J ?_))));obtain ⟨r0,hG,hI⟩:=L hF;refine oY (v:=.bool r0) g 1 J J J J (fun H le=>⟨_,m,r0,J,J,hG,J⟩) (dC k J (nt J J (pf k J J (N ?_))));cases hI;exact cuE J
   refine X ?_;refine cb J (fun h5=>?_) (fun h5=>?_)
   ·have hJ:=aJ h5 h8;refine bK ?_;cases hJ;obtain rfl:=dJ.out R;cases h6;intro a w f i;refine eG i J ?_;exact ⟨J,f.ext⟩
   have hL:=bJ h5 h8;refine sk (rg (dO J J J (by omega) (A J (N ?_))));cases hL;intro a w f i;exact ⟨_,R,f.selH [1] J,i.cuE J⟩
  have hM:=aU Y G;refine xt J ?_;cases hM;obtain rfl:=dJ.out R;intro a w f i;exact ⟨_,J,f,i.cut tv⟩
 rintro a w ⟨t34,rfl,f,i⟩;apply TG.ap ?_ f i;cases h6;intro a w f i;refine eG i J ?_;exact ⟨J,f.ext⟩

theorem w43 (hH:H.le (hp W)) {bz:List Value} (G:bE) (cq:(bW) H bz G) {ak:Option Addr} {ae:Nat} {errata:List aK} (ba:Sl (aG aO) 6 H ak ae errata) {r:Int} (hr:QZ G errata=some r):Calls prog 43 #[.agg bz.toArray,.slice ak errata.length ae] W (bN M W (.int .i64 r)):=by
 have B:=cq;obtain ⟨ag,ab,rfl,bd⟩:=cq;have:=bd.len;have:=ba.len;unfold QZ at hr;refine sK (M:=M) func43 J ntmps43 J hH ?_;refine C (bI (cs:=[.int .i64 G.number,.int .i64 G.bound,.int .i64 G.height,.int .i64 G.width,.slice ag G.parts.length ab]) J J J fun q4 z a8=>(al 1 (cs:=[.int .i64 0]) zeroValue43 J J fun b7=>(N (C (NN 2 fM Value.bool J fun p=>(al 3 (cs:=[.map none]) zeroValue121 J J fun b9=>(eP 3 (cs:=[.map (some p)]) XH J J J J J J J (N (sq ?_)))))))));refine C (cP kJ gZ J J (P 0 J a8) J ?_);obtain ⟨r10,hN,hO⟩:=L hr;refine gA C42 J J J J (fun w H hH le=>w42 hH G (bW.mono _ _ _ _ le.i B) hN) ?_;rintro v_ g ⟨a2,c1,rfl,h3⟩;have:=h3.len;refine dU DD J J (A J (N ?_));obtain ⟨ai,hP,hQ⟩:=L hO
 let n:S:=bF b7 43 [.int .i64 0]
 refine jn (SJ M W H [g,z,H] [(3,bF b9 121 [.map (some p)]),(2,S.map' fM Value.bool p ai),(1,n)] 35 [(1,.slice ak errata.length ae),(4,.pointer (some (⟨b7,0,none⟩))),(5,.pointer (some (⟨b9,0,none⟩)))]) ?_ ?_
 ·refine bk ?_;refine lp hP (fun s2=>SJ M W H [g,z,H] [(3,bF b9 121 [.map (some p)]),(2,S.map' fM Value.bool p s2.2),(1,n)] 35 [(1,.slice ak errata.length ae),(4,.pointer (some (⟨b7,0,none⟩))),(5,.pointer (some (⟨b9,0,none⟩))),(11,.slice a2 r10.length c1),(12,.int .i64 (r10.length:Int)),(13,.int .i64 (s2.1:Int))]) ?_ ?_
  ·exact cuE J
  rintro j s2 y0 h4 hE a w ⟨b,d⟩;refine TG.ap ?_ b d;unfold AB at h4;refine C (dY J J J (N (sq ?_)));refine ci J (fun h5=>?_) (fun h5=>?_)
  ·have hR:=aJ h5 h4;refine sk (sq (bk (C ?_)));obtain ⟨x1,h6,hT⟩:=L hR;obtain ⟨p0,rfl⟩:=h3.adr h6;have hV:=h3.atF h6;refine cY DD nC J J J J (aW h6) (cP HR nC J J (P 0 J hV) J (va (cs:=[.int .i64 x1.anchor,.string (bs x1.text)]) zeroValue98 nC J J J J J J J J fun q1 bg ac=>(N (rg (U CD J (sO 3 J) J (aX 0 CN J Z3 (U G3 J ((P 0 J ac).take 1) J (IW 2 (ke:=fM) (enc:=Value.bool) x1.anchor true lC U3 J J J J (N (rg (dO J J J (by omega) ?_)))))))))));refine A J (N ?_);cases hT;intro a w b d;exact ⟨_,hE,b.selH [1,2,3] J,d.cuE J⟩
  have hW:=aU h5 h4;refine xt J ?_;cases hW;obtain rfl:=dJ.out hE;exact cuE J
 rintro a w ⟨b,d⟩;apply TG.ap ?_ b d;refine sq (C (A J (clT C66 func66 J ntmps66 J J J J (C (bI (cs:=[.slice ak errata.length ae]) J J J fun q2 k ad=>(bI (cs:=[.int .i64 99999]) J J J fun q0 l af=>(I J (sq ?_))))))));refine rg (fn J J J (I J (bK ?_)));intro a w b d;refine dN d J J ?_;refine ⟨_,J,fun a d=>?_⟩;refine eL J d b (N (bk ?_));obtain ⟨t5,hX,hF⟩:=L hQ
 let m:S:=bF b9 121 [.map (some p)]
 refine ZZ 4 5 WJ func105 J ntmps105 J J (fun y c f w=>(∃ (t1:(List (Int×Bool))),t5=(.inl t1)∧St M W H [l,k,g,z,H] [(4,S.blk y (f .ready none)),(5,S.blk c (.deferred (some []))),(3,m),(2,S.map' fM Value.bool p t1),(1,n)] w)∨(∃ (t0:Nat×(List (Int×Bool))),t5=(.inr t0)∧St M W H [l,k,g,z,H] [(4,S.blk y (f .done (some .ret))),(5,S.blk c (.deferred (some []))),(3,m),(2,S.map' fM Value.bool p t0.2),(1,bF b7 43 [.int .i64 (t0.1:Int)])] w)) ?_ ?_
 ·intro y c f t7 R e;refine C (U HN J (P 1 J ad) J ?_);obtain ⟨r0,ar,au⟩:=L hX;refine zT 6 LX J J J J (fun w V σr b le=>ML (aj:=errata) (ba.mono (aG.mono _) le.x) ar b) fun a0 Y=>(TG.len 6 J fun _=>(I J (C (A J ?_))));obtain ⟨Z,hG,aw⟩:=L au;have ax:Z.length=r0.length:=(gP hG);refine KJ 6 (enc:=aO) (V:=Va aO) (V':=Va aO) (fun _=>rfl) (fun _=>rfl) srt107 RW J J J J J J (fun H le=>⟨108,[],[],rfl,RX,fun w_ K_ ah v_ hK hw hs=>by obtain ⟨bh,bi,be,bf,r_,rfl,ao,aq,hx,rfl⟩:=hs;cases ao;cases aq;exact SW  be rfl bf rfl  hx⟩) (fun _ _=>rfl) (fun _ _=>rfl) hG (N (C (A rfl (dU CM J J (A rfl (N ?_))))));obtain ⟨an,ay,h7⟩:=L aw;refine jn (fun a w=>∃ t2,an=.inl t2∧SJ M W H [l,k,g,z,H] [(6,S.list a0 Y 119 6 aO Z),(4,S.blk y (f .ready none)),(5,S.blk c (.deferred (some []))),(3,m),(2,S.map' fM Value.bool p t2),(1,n)] 28 [] a w) ?_ ?_
  ·refine bk ?_;refine lp ay (fun s1=>SJ M W H [l,k,g,z,H] [(6,S.list a0 Y 119 6 aO Z),(4,S.blk y (f .ready none)),(5,S.blk c (.deferred (some []))),(3,m),(2,S.map' fM Value.bool p s1.2),(1,n)] 28 [(0,.func (.yield y) #[] #[]),(2,.pointer (some q0)),(11,.slice a0 r0.length Y),(12,.int .i64 (r0.length:Int)),(13,.int .i64 (s1.1:Int))]) ?_ ?_
   ·exact cuE J
   rintro j s1 y1 h8 h2 a w ⟨b,d⟩;refine TG.ap ?_ b d;unfold AC at h8;refine C (dY J J J (N (sq ?_)));refine ci J (fun h9=>?_) (fun h9=>?_)
   ·have az:=aJ h9 h8;refine sk (sq (bk (C ?_)));obtain ⟨F,hB,hI⟩:=L az;refine TG.addr 6 J (fX hB) fun b0 h=>?_;subst h
    let K:List Value:=[.int .i64 F.number,.int .i64 F.day,.int .u8 F.kind,.int .i64 F.anchor,.string (bs F.text),.int .i64 F.new_]
    refine cY CM iU J J J J (Nat.lt_of_lt_of_eq (aW hB) ax) (cP mY iU J J (sE (enc:=aO) 6 J (fun _=>J) hB) J (va (cs:=K) zeroValue119 iU J J J J J J J J fun q3 q u=>(N (C (aX 1 gG J Z3 (U G3 J (((P 0 J u).drop 1).take 1) J (U G3 J (P 1 J af) J (nH J J J (A J ?_)))))))));by_cases s:99999 < F.day
    ·have a3:=aJ s hI;refine cC 4 J J J (decide_eq_true s) J (pt s J J (N (cT J J (bK ?_))));cases a3;obtain rfl:=dJ.out h2;refine TG.del 6 ?_;cases h7;intro a w b d;refine eG d J ?_;exact ⟨_,J,.inl ⟨_,J,b.selH [1,2,3,4,5] J⟩⟩
    have a4:=aU s hI;refine dC s J (A J (dC s J (cP mY iU J J (P 0 J u) J (dC s J ?_))));obtain ⟨t6,hJ,hL⟩:=L a4;refine yl 4 [] (L1:=(23,.agg K.toArray)::_) J J J R e J J J (fun v w=>(∃ (t3:Nat),t6=(.inl t3)∧v=.bool false∧St M W H [q,l,k,g,z,H] [(6,S.list (some ⟨b0,0,none⟩) Y 119 6 aO Z),(4,S.blk y (f .done (some .ret))),(5,S.blk c (.deferred (some []))),(3,m),(2,S.map' fM Value.bool p s1.2),(1,bF b7 43 [.int .i64 (t3:Int)])] w)∨(∃ (t4:(List (Int×Bool))),t6=(.inr t4)∧v=.bool true∧St M W H [q,l,k,g,z,H] [(6,S.list (some ⟨b0,0,none⟩) Y 119 6 aO Z),(4,S.blk y (f .ready none)),(5,S.blk c (.deferred (some []))),(3,m),(2,S.map' fM Value.bool p t4),(1,n)] w)) ?_ ?_
    ·refine rg (va (cs:=K) zeroValue119 iU J J J J J J J J fun q5 aa o=>(N (bR 4 e J (bk (sq (C (U CD J (sO 3 J) J (aX 3 gG J Z3 (U G3 J (((P 0 J o).drop 3).take 1) J (KB (ke:=fM) (enc:=Value.bool) F.anchor (z0:=false) lC U3 zeroValue4 J J J J (mO 2 J) ?_))))))))));refine nt J J (N ?_);refine cb J (fun h1=>?_) (fun h1=>?_)
     ·replace h1:=kX h1
      have a5:=bJ h1 hJ;refine C (eP 1 (cs:=[.int .i64 7]) DA J J J J J J J (N (bK ?_)));cases a5;refine eR 4 (some .ret) e J fun w b=>?_;exact .inl ⟨_,J,J,b.selH [1,2,3,4,5,6] J⟩
     replace h1:=kY h1
     have a6:=aJ h1 hJ;refine sk (C (aX 2 gG J Z5 (U G5 J (((P 0 J o).drop 2).take 1) J (fQ J J J (N ?_)))));obtain ⟨t8,hM,a7⟩:=L a6;refine jn (SJ M W H [aa,q,l,k,g,z,H] [(6,S.list (some ⟨b0,0,none⟩) Y 119 6 aO Z),(4,S.blk y (f .busy none)),(5,S.blk c (.deferred (some []))),(3,m),(2,S.map' fM Value.bool p t8),(1,n)] 35 []) ?_ ?_
     ·refine ci J (fun hC=>?_) (fun hC=>?_)
      ·have a9:=aJ hC hM;refine rg (U CD J (sO 3 J) J (aX 5 gG J Z3 (U G3 J ((P 0 J o).drop 5) J (IW 2 (ke:=fM) (enc:=Value.bool) F.new_ true lC U3 J J J J (N ?_)))));cases a9;exact cu tv
      have bb:=aU hC hM;refine sk ?_;cases bb;exact cu tv
     refine X ?_;cases a7;refine eR 4 none e J fun w b=>?_;exact .inr (⟨_,J,J,b.selH [1,2,3,4,5,6] J⟩)
    rintro a w v d (⟨t3,rfl,rfl,b⟩ | ⟨t4,rfl,rfl,b⟩)
    ·refine eL J d b (dC s J (nt J J (pf s J J (N (cT J J (bK ?_))))));cases hL;obtain rfl:=dJ.out h2;refine TG.del 6 ?_;cases h7;intro a w b d;refine eG d J ?_;exact ⟨_,J,.inr (⟨_,J,b.selH [1,2,3,4,5] J⟩)⟩
    refine eL J d b (dC s J (nt J J (pf s J J (N (cF J J (sk (rg (dO J J J (by omega) (A J (N ?_))))))))));cases hL;intro a w b d;exact ⟨_,h2,b.selH [1,2,3,4,5] J,d.cuE J⟩
   have bc:=aU h9 h8;refine xt J ?_;cases bc;obtain rfl:=dJ.out h2;intro a w b d;exact ⟨_,J,b,d.cut tv⟩
  rintro a w ⟨t2,rfl,b,d⟩;apply TG.ap ?_ b d;refine TG.del 6 ?_;cases h7;intro a w b d;refine eG d J ?_;exact ⟨_,J,.inl ⟨_,J,b⟩⟩
 rintro y c f t7 a w e d (⟨t1,rfl,b⟩ | ⟨t0,rfl,b⟩)
 ·refine TG.ap ?_ b d;refine elN 4 e J (C (eP 1 (cs:=[.int .i64 0]) DA J J J J J J J (N (bK ?_))));cases hF;refine TK (UY 5 J (TL ?_));intro a w b d;refine uH d J (dD.cell J (iO vZ (cU (b.get (t:=1) J)) J)) ?_;exact ⟨J,b.ext⟩
 refine TG.ap ?_ b d;refine elC 4 e J (bK ?_);cases hF;refine TK (UY 5 J (TL ?_));intro a w b d;refine uH d J (dD.cell J (iO vZ (cU (b.get (t:=1) J)) J)) ?_;exact ⟨J,b.ext⟩

theorem XR (q:H.le (hp W)) {bz:List Value} (n:bE) (cq:(bW) H bz n) {t:Option Addr} {k:Nat} {errata:List aK} (F:Sl (aG aO) 6 H t k errata) {r:Int} (hr:rB n errata=some r):Calls prog 22 #[.agg bz.toArray,.slice t errata.length k] W (bN M W (.int .i64 r)):=by
 have c:=cq;obtain ⟨Y,G,rfl,bd⟩:=cq;have:=bd.len;have:=F.len;unfold rB at hr;refine aN (M:=M) func22 J ntmps22 J q ?_;refine C (bI (cs:=[.int .i64 n.number,.int .i64 n.bound,.int .i64 n.height,.int .i64 n.width,.slice Y n.parts.length G]) J J J fun B z y=>(I J (sq (C (cP kJ gZ J J (P 0 J y) J ?_)))));obtain ⟨r7,be,K⟩:=L hr;refine bB C39 J (fun w H q le=>w39 q n (bW.mono _ _ _ _ le.i c) be) (I J (C (A J (kZ J J J (N ?_)))));refine ci J (fun h3=>?_) (fun h3=>?_)
 ·have hR:=aJ h3 K;refine C (A J (I J (bK ?_)));cases hR;exact cX J J
 have hI:=aU h3 K;refine sk (sq (bk (C (A J (dU CM J J (nH J J J (I J ?_)))))));refine ci J (fun h4=>?_) (fun h4=>?_)
 ·have hT:=aJ h4 hI;refine C (I J (bK ?_));cases hT;exact cX J J
 have hV:=aU h4 hI;refine C (A J ?_);obtain ⟨r1,hW,hJ⟩:=L hV
 refine oP (v:=.bool r1) C40 J J J J (fun w H q le=>by
   have hX:fL M prog H (.func (.func 41) #[] #[]) (gD (Va aO) Value.bool (OC)):=⟨41,[],[],rfl,C41,fun w_ K_ Z v_ hK hw hs=>by obtain ⟨bh,bf,r_,rfl,ac,hx,rfl⟩:=hs;cases ac;exact w41  bf rfl  hx⟩
   exact w40 q (F.mono (aG.mono _) le.i) (right:=(OC)) hX hW) ?_
 refine nt J J (I J ?_);refine cb J (fun h2=>?_) (fun h2=>?_)
 ·replace h2:=kX h2
  have ad:=bJ h2 hJ;refine C (I J (bK ?_));cases ad;exact cX J J
 replace h2:=kY h2
 have af:=aJ h2 hJ;refine sk (C (NN 1 fM Value.bool J fun l=>(NN 2 fM Value.bool J fun m=>(a1 J (I J (sq (C (cP kJ gZ J J (P 0 J y) J ?_))))))));obtain ⟨r0,ag,ah⟩:=L af;refine gA C42 J J J J (fun w H q le=>w42 q n (bW.mono _ _ _ _ le.i c) ag) ?_;rintro v_ e ⟨a0,c0,rfl,h5⟩;have:=h5.len;refine dU DD J J (A J (N ?_));obtain ⟨aa,ai,aj⟩:=L ah;refine jn (SJ M W H [e,z,H] [(2,S.map' fM Value.bool m ([]:List (Int×Bool))),(1,S.map' fM Value.bool l aa)] 72 [(1,.slice t errata.length k),(2,.pointer (some B)),(6,.map (some l)),(7,.map (some m))]) ?_ ?_
 ·refine bk ?_;refine lp ai (fun s2=>SJ M W H [e,z,H] [(2,S.map' fM Value.bool m ([]:List (Int×Bool))),(1,S.map' fM Value.bool l s2.2)] 72 [(1,.slice t errata.length k),(2,.pointer (some B)),(6,.map (some l)),(7,.map (some m)),(28,.slice a0 r0.length c0),(29,.int .i64 (r0.length:Int)),(30,.int .i64 (s2.1:Int))]) ?_ ?_
  ·exact cuE J
  rintro j s2 y0 h6 hL a w ⟨g,f⟩;refine TG.ap ?_ g f;unfold AD at h6;refine C (dY J J J (N (sq ?_)));refine ci J (fun h7=>?_) (fun h7=>?_)
  ·have an:=aJ h7 h6;refine sk (sq (bk (C ?_)));obtain ⟨x1,h8,ao⟩:=L an;obtain ⟨p1,rfl⟩:=h5.adr h8;have aq:=h5.atF h8;refine cY DD nC J J J J (aW h8) (cP HR nC J J (P 0 J aq) J (va (cs:=[.int .i64 x1.anchor,.string (bs x1.text)]) zeroValue98 nC J J J J J J J J fun q1 bg x=>(N (rg (A J (aX 0 CN J Z3 (U G3 J ((P 0 J x).take 1) J (IW 1 (ke:=fM) (enc:=Value.bool) x1.anchor true lC U3 J J J J (N (rg (dO J J J (by omega) ?_)))))))))));refine A J (N ?_);cases ao;intro a w g f;exact ⟨_,hL,g.selH [1,2,3] J,f.cuE J⟩
  have ar:=aU h7 h6;refine xt J ?_;cases ar;obtain rfl:=dJ.out hL;exact cuE J
 rintro a w ⟨g,f⟩;apply TG.ap ?_ g f;refine sq (C (A J (dU CM J J (A J (N ?_)))));obtain ⟨ab,au,hM⟩:=L aj;refine jn (fun a w=>∃ V,ab=.inl V∧SJ M W H [e,z,H] [(2,S.map' fM Value.bool m V.1),(1,S.map' fM Value.bool l V.2)] 72 [(1,.slice t errata.length k),(2,.pointer (some B))] a w) ?_ ?_
 ·refine bk ?_;refine lp au (fun o=>SJ M W H [e,z,H] [(2,S.map' fM Value.bool m o.2.1),(1,S.map' fM Value.bool l o.2.2)] 72 [(1,.slice t errata.length k),(2,.pointer (some B)),(6,.map (some l)),(7,.map (some m)),(38,.slice t errata.length k),(39,.int .i64 (errata.length:Int)),(40,.int .i64 (o.1:Int))]) ?_ ?_
  ·exact cuE J
  rintro j o y1 h9 hB a w ⟨g,f⟩;refine TG.ap ?_ g f;unfold AE at h9;refine C (dY J J J (N (sq ?_)));refine ci J (fun hC=>?_) (fun hC=>?_)
  ·have aw:=aJ hC h9;refine sk (sq (bk (C ?_)));obtain ⟨h,hE,ax⟩:=L aw;obtain ⟨R,rfl⟩:=F.adr hE;have ay:=F.atF hE;refine cY CM iU J J J J (aW hE) (cP mY iU J J (P 2 J ay) J (va (cs:=[.int .i64 h.number,.int .i64 h.day,.int .u8 h.kind,.int .i64 h.anchor,.string (bs h.text),.int .i64 h.new_]) zeroValue119 iU J J J J J J J J fun q0 s b=>(N (sq (sq ?_)))));obtain ⟨t1,hN,hO⟩:=L ax;refine jn (SJ M W H [s,e,z,H] [(2,S.map' fM Value.bool m o.2.1),(1,S.map' fM Value.bool l o.2.2)] 72 [(1,.slice (some R) errata.length k),(2,.pointer (some B)),(6,.map (some l)),(7,.map (some m)),(11,.pointer (some q0)),(38,.slice (some R) errata.length k),(39,.int .i64 (errata.length:Int)),(40,.int .i64 (o.1:Int)),(58,.bool t1)]) ?_ ?_
   ·refine rg (A J (aX 0 gG J Z3 (U G3 J ((P 0 J b).take 1) J (KB (ke:=fM) (enc:=Value.bool) h.number (z0:=false) lC U3 zeroValue4 J J J J (mO 2 J) (A J ?_)))));rcases Bool.eq_false_or_eq_true ((eK o.2.1 h.number).getD false) with d | d
    ·have az:=aJ d hN;refine cC 4 J J J (d) J (gU J J J (gU J J J (gU J J J (gU J J J (gF J J (d) J (pT J J (d) J (N ?_)))))));cases az;exact cuE J
    have hP:=bJ d hN;refine gN J J (d) (aX 2 gG J Z5 (gN J J (d) (U G5 J (((P 0 J b).drop 2).take 1) J (gN J J (d) (fQ J J J (gN J J (d) (A J ?_)))))));by_cases p:h.kind=2
    ·have a2:=aJ p hP;refine gt p J (A J (gt p J (aX 5 gG J Z3 (gt p J (U G3 J ((P 0 J b).drop 5) J (gt p J (KB (ke:=fM) (enc:=Value.bool) h.new_ (z0:=false) lC U3 zeroValue4 J J J J (mO 1 J) (gN J J (d) (pt p J J (pF J J (d) J (N ?_)))))))))));cases a2;exact cuE J
    have a3:=aU p hP;refine cC 4 J J J (decide_eq_false p) J (gN J J (d) (pf p J J (pF J J (d) J (N ?_))));cases a3;exact cuE J
   refine X ?_;refine cb J (fun hF=>?_) (fun hF=>?_)
   ·have a4:=aJ hF hO;refine C (I J (bK ?_));cases a4;obtain rfl:=dJ.out hB;cases hM;exact cX J J
   have a5:=bJ hF hO;refine sk (C (A J (aX 0 gG J Z3 (U G3 J ((P 0 J b).take 1) J (IW 2 (ke:=fM) (enc:=Value.bool) h.number true lC U3 J J J J (N (C (aX 2 gG J Z5 (U G5 J (((P 0 J b).drop 2).take 1) J ?_)))))))));refine fQ J J J (N ?_);obtain ⟨t2,hQ,a6⟩:=L a5;refine jn (SJ M W H [s,e,z,H] [(2,S.map' fM Value.bool m (put o.2.1 h.number true)),(1,S.map' fM Value.bool l t2)] 72 [(1,.slice (some R) errata.length k),(2,.pointer (some B)),(6,.map (some l)),(7,.map (some m)),(38,.slice (some R) errata.length k),(39,.int .i64 (errata.length:Int)),(40,.int .i64 (o.1:Int))]) ?_ ?_
   ·refine ci J (fun hG=>?_) (fun hG=>?_)
    ·have a7:=aJ hG hQ;refine rg (A J (aX 5 gG J Z3 (U G3 J ((P 0 J b).drop 5) J (IW 1 (ke:=fM) (enc:=Value.bool) h.new_ true lC U3 J J J J (N ?_)))));cases a7;exact cuE J
    have a8:=aU hG hQ;refine sk ?_;cases a8;exact cuE J
   refine X ?_;refine rg (dO J J J (by omega) (A J (N ?_)));cases a6;intro a w g f;exact ⟨_,hB,g.selH [1,2,3] J,f.cuE J⟩
  have a9:=aU hC h9;refine xt J ?_;cases a9;obtain rfl:=dJ.out hB;intro a w g f;exact ⟨_,J,g,f.cuE J⟩
 rintro a w ⟨V,rfl,g,f⟩;apply TG.ap ?_ g f;refine C (cP kJ gZ J J (P 1 J y) J (A J ?_));obtain ⟨r2,bb,bc⟩:=L hM;refine bB C43 J (fun w H q le=>w43 q n (bW.mono _ _ _ _ le.u c) (F.mono (aG.mono _) le.u) bb) (I J (bK ?_));cases bc;exact cX J J

theorem w48 (hH:H.le (hp W)) {V:Addr} {G:List Value} (e:gJ) (ek:aM H V G) (K:(jW) H G e) (anchor:Int) {r:Int×Int×Bool} (hr:m48 e anchor=some r):Calls prog 48 #[.pointer (some V),.int .i64 anchor] W (bN M W (.tuple #[.int .i64 r.1,.int .i64 r.2.1,.bool r.2.2])):=by
 have l:=K;obtain ⟨aa,R,m,d,rfl,B,h⟩:=K;have:=B.len;have:=h.len;unfold m48 at hr;refine aN (M:=M) func48 J ntmps48 J hH ?_;refine C (a1 J (a1 J (I J (sc (sq (lb (sq (C ?_))))))));refine A J (nl J J (aX 5 oS J oD (U qK J ((P 0 J ek).drop 5) J (dU mE J J (A J (N ?_))))));obtain ⟨g,hF,hG⟩:=L hr;refine jn (SJ M W H [H] [] 40 [(4,.int .i64 (g.1:Int)),(5,.int .i64 (g.2.1:Int)),(6,.bool g.2.2)]) ?_ ?_
 ·refine bk ?_;refine lp hF (fun f=>SJ M W H [H] [] 40 [(1,.int .i64 anchor),(4,.int .i64 (f.1:Int)),(5,.int .i64 (f.2.1:Int)),(6,.bool f.2.2.2),(14,.slice m e.parts.length d),(15,.int .i64 (e.parts.length:Int)),(16,.int .i64 (f.2.2.1:Int))]) ?_ ?_
  ·exact cuE J
  rintro j f y0 o p a w ⟨c,b⟩;refine TG.ap ?_ c b;unfold OE at o;refine C (dY J J J (N (sq ?_)));refine ci J (fun q=>?_) (fun q=>?_)
  ·have hI:=aJ q o;refine sk (sq (bk (C (A J ?_))));obtain ⟨x1,s,hJ⟩:=L hI;obtain ⟨p0,rfl⟩:=h.adr s;obtain ⟨c1,hV,hK,Y⟩:=h.at s;have hW:=Y;obtain ⟨a0,c0,rfl,t⟩:=Y;have:=t.len;refine cY mE qL J J J J (aW s) (U tK J (P 0 J hK) J (a1 J (I J (C (A J (dU oE J J (A J (N ?_))))))));obtain ⟨n,hL,Z⟩:=L hJ;refine jn (fun a w=>∃ k,n=.inl k∧SJ M W H [H] [] 40 [(1,.int .i64 anchor),(4,.int .i64 (k.1:Int)),(5,.int .i64 (k.2.1:Int)),(6,.bool k.2.2),(14,.slice (some p0) e.parts.length d),(15,.int .i64 (e.parts.length:Int)),(16,.int .i64 (f.2.2.1:Int))] a w) ?_ ?_
   ·refine bk ?_;refine lp hL (fun i=>SJ M W H [H] [] 40 [(1,.int .i64 anchor),(4,.int .i64 (i.1:Int)),(5,.int .i64 (i.2.1:Int)),(6,.bool i.2.2.2),(7,.int .i64 (f.2.2.1:Int)),(14,.slice (some p0) e.parts.length d),(15,.int .i64 (e.parts.length:Int)),(16,.int .i64 (f.2.2.1:Int)),(21,.slice a0 x1.length c0),(22,.int .i64 (x1.length:Int)),(23,.int .i64 (i.2.2.1:Int))]) ?_ ?_
    ·exact cuE J
    rintro j i y1 u v a w ⟨c,b⟩;refine TG.ap ?_ c b;unfold OD at u;refine C (dY J J J (N (sq ?_)));refine ci J (fun x=>?_) (fun x=>?_)
    ·have hM:=aJ x u;refine sk (sq (bk (C (A J ?_))));obtain ⟨F,y,hE⟩:=L hM;obtain ⟨p1,rfl⟩:=t.adr y;have hN:=t.atF y;refine cY oE jY J J J J (aW y) (cP CE jY J J (P 0 J hN) J (al 1 (cs:=[.int .i64 0,.string (bs []),.bool false]) zeroValue130 J J fun b0=>(a1 J (eP 1 (cs:=[.int .i64 F.paragraph.anchor,.string (bs F.paragraph.text),.bool F.removed]) jY J J J J J J J (N (C (aX 0 oF J nC (aX 0 CN J Z3 (U G3 J ((sO 1 J).take 1) J (A J ?_))))))))));refine fQ J J J (N ?_);refine ci J (fun z=>?_) (fun z=>?_)
     ·have hO:=aJ z hE;refine C (A J (A J (a1 J (a1 J (I J (xt J ?_))))));obtain ⟨z0,hP,rfl⟩:=mR hO;obtain rfl:=dJ.out v;cases Z;refine TG.del 1 ?_;cases hP;obtain rfl:=dJ.out p;exact cuE J
     have hQ:=aU z hE;refine sk (rg (dO J J J (by omega) (A J (N (TG.del 1 ?_)))));cases hQ;intro a w c b;exact ⟨_,v,c,b.cuE J⟩
    have hR:=aU x u;refine xt J ?_;cases hR;obtain rfl:=dJ.out v;intro a w c b;exact ⟨_,J,c,b.cuE J⟩
   rintro a w ⟨k,rfl,c,b⟩;apply TG.ap ?_ c b;refine rg (dO J J J (by omega) (A J (N ?_)));cases Z;intro a w c b;exact ⟨_,p,c,b.cuE J⟩
  have hT:=aU q o;refine xt J ?_;cases hT;obtain rfl:=dJ.out p;exact cuE J
 rintro a w ⟨c,b⟩;apply TG.ap ?_ c b;refine C (A J (A J (A J (a1 J (a1 J (I J (bK ?_)))))));cases hG;exact EQ J J J J

theorem w67 (g:H.le (hp W))  {r:Unit} (d:m67=some r):Calls prog 67 #[] W (eW M H W (fun v K=>∃ (e:Addr),v=.slice (some e) 3 3∧aM K e [.func (.func 109) #[] #[],.func (.func 110) #[] #[],.func (.func 111) #[] #[]])):=by
 unfold m67 at d;refine aN (M:=M) func67 J ntmps67 J g ?_;refine C (I J (C (bu (cs:=[.func (.func 109) #[] #[]]) T12.B171 J J J (bu (cs:=[.func (.func 110) #[] #[]]) T12.B171 J J J (bu (cs:=[.func (.func 111) #[] #[]]) T12.B171 J J J (bS (cs:=[.func (.func 109) #[] #[],.func (.func 110) #[] #[],.func (.func 111) #[] #[]]) T12.E172 J J J J fun j i h b=>(I J ?_)))))));refine bK ?_;obtain rfl:=sj d;intro a w c f;refine dN f J J ?_;exact ⟨⟨_,J,b.mono (c.grow 0 J)⟩,c.ext⟩

theorem w44 (hH:H.le (hp W)) {bz:List Value} (o:bE) (cq:(bW) H bz o) {ak:Option Addr} {ae:Nat} {errata:List aK} (ba:Sl (aG aO) 6 H ak ae errata) (ei:Int) {r:gJ} (hr:CW o errata ei=some r):Calls prog 44 #[.agg bz.toArray,.slice ak errata.length ae,.int .i64 ei] W (eW M H W (fun v K=>∃ (u0:Addr) (d0:List Value),v=.pointer (some u0)∧aM K u0 d0∧(jW) K d0 r)):=by
 have et:=cq;obtain ⟨ao,Y,rfl,bw⟩:=cq;have:=bw.len;have:=ba.len;unfold CW at hr;refine sK (M:=M) func44 J ntmps44 J hH ?_
 let dx:List Value:=[.int .i64 o.number,.int .i64 o.bound,.int .i64 o.height,.int .i64 o.width,.slice ao o.parts.length Y,.slice none 0 0]
 refine C (bI (cs:=[.int .i64 o.number,.int .i64 o.bound,.int .i64 o.height,.int .i64 o.width,.slice ao o.parts.length Y]) J J J fun q4 K5 ed=>(I J (C (cP kJ gZ J J (P 0 J ed) J (bu (cs:=dx) T12.B127 J J J (bO 1 J J J fun b7=>(va (cs:=[.pointer (some (⟨b7,0,none⟩))]) zeroValue123 aE7 J J J J J J J J fun q8 K9 ad=>(N ?_))))))));refine sq (C (aX 4 mG J CZ (U JB J ((P 1 J ed).drop 4) J (dU AL J J (A J (N (TG.nilRow 5 128 1 (TG.as 5 (z:=S.list none 0 128 1 fE ([]:List Hd)) J J (TG.gopen (σ:=[(5,S.list none 0 128 1 fE ([]:List Hd)),(1,bF b7 127 dx)]) 130 3 bZ 1000 0 ?_)))))))));have ct:=gW.none bY;obtain ⟨d1,g4,g8⟩:=L hr;refine jn (fun a w=>∃ (h1:List Hd) (a9:List fR) (a2:Option Addr) (c0:Nat),St M W H [K9,K5,H] ([(5,S.list a2 c0 128 1 fE h1),(1,bF b7 127 [.int .i64 o.number,.int .i64 o.bound,.int .i64 o.height,.int .i64 o.width,.slice ao o.parts.length Y,.slice a2 h1.length c0])]++iD 130 3 bZ 1000 a9 d1) w∧bM [] 76 a [(1,.slice ak errata.length ae),(2,.int .i64 ei),(7,.pointer (some q8))]∧gW h1 a9 d1) ?_ ?_
 ·refine bk ?_;refine lp g4 (fun s3 a w=>∃ (h2:List Hd) (a6:List fR) (a4:Option Addr) (c3:Nat),St M W H [K9,K5,H] ([(5,S.list a4 c3 128 1 fE h2),(1,bF b7 127 [.int .i64 o.number,.int .i64 o.bound,.int .i64 o.height,.int .i64 o.width,.slice ao o.parts.length Y,.slice a4 h2.length c3])]++iD 130 3 bZ 1000 a6 s3.2) w∧bM [] 76 a [(1,.slice ak errata.length ae),(2,.int .i64 ei),(7,.pointer (some q8)),(21,.slice ao o.parts.length Y),(22,.int .i64 (o.parts.length:Int)),(23,.int .i64 (s3.1:Int))]∧gW h2 a6 s3.2) ?_ ?_
  ·intro a w d g;exact ⟨([]:List Hd),([]:List fR),none,0,d,g.cuE J,ct⟩
  rintro j s3 y0 hP el a w ⟨h2,a6,a4,c3,d,g,af⟩;refine TG.ap ?_ d g;unfold vJ at hP;refine C (dY J J J (N (sq ?_)));refine ci J (fun hQ=>?_) (fun hQ=>?_)
  ·have ha:=aJ hQ hP;refine sk (sq (bk (C ?_)));obtain ⟨x3,hR,he⟩:=L ha;obtain ⟨p0,rfl⟩:=bw.adr hR;obtain ⟨cR,iz,hi,em⟩:=bw.at hR;have i0:=em;obtain ⟨dw,c7,rfl,hT⟩:=em;have:=hT.len;refine cY AL nB J J J J (aW hR) (cP SC nB J J (P 2 J hi) J (va (cs:=[.int .i64 x3.day,.slice dw x3.paragraphs.length c7]) zeroValue132 nB J J J J J J J J fun q5 bx db=>(N (C (I J (sq (C (aX 1 rE J XK ?_))))))));refine U G91 J ((P 0 J db).drop 1) J (dU DD J J (A J (N (TG.nilRow 3 130 3 (TG.as 3 (z:=S.list none 0 130 3 bZ ([]:List bY)) J J ?_)))));obtain ⟨Z,hm,ht⟩:=L he;refine jn (fun a w=>∃ (a0:Option Addr) (c1:Nat),SJ M W H [bx,K9,K5,H] ([(3,S.list a0 c1 130 3 bZ Z),(5,S.list a4 c3 128 1 fE h2),(1,bF b7 127 [.int .i64 o.number,.int .i64 o.bound,.int .i64 o.height,.int .i64 o.width,.slice (some p0) o.parts.length Y,.slice a4 h2.length c3])]++iD 130 3 bZ 1000 a6 s3.2) 76 [(1,.slice ak errata.length ae),(2,.int .i64 ei),(7,.pointer (some q8)),(10,.slice a0 Z.length c1),(21,.slice (some p0) o.parts.length Y),(22,.int .i64 (o.parts.length:Int)),(23,.int .i64 (s3.1:Int))] a w) ?_ ?_
   ·refine bk ?_;refine lp hm (fun s4 a w=>∃ (au:Option Addr) (c6:Nat),SJ M W H [bx,K9,K5,H] ([(3,S.list au c6 130 3 bZ s4.2),(5,S.list a4 c3 128 1 fE h2),(1,bF b7 127 [.int .i64 o.number,.int .i64 o.bound,.int .i64 o.height,.int .i64 o.width,.slice (some p0) o.parts.length Y,.slice a4 h2.length c3])]++iD 130 3 bZ 1000 a6 s3.2) 76 [(1,.slice ak errata.length ae),(2,.int .i64 ei),(7,.pointer (some q8)),(10,.slice au s4.2.length c6),(21,.slice (some p0) o.parts.length Y),(22,.int .i64 (o.parts.length:Int)),(23,.int .i64 (s3.1:Int)),(28,.slice dw x3.paragraphs.length c7),(29,.int .i64 (x3.paragraphs.length:Int)),(30,.int .i64 (s4.1:Int))] a w) ?_ ?_
    ·intro a w d g;exact ⟨none,0,d,g.cuE J⟩
    rintro j s4 y1 hV en a w ⟨au,c6,d,g⟩;refine TG.ap ?_ d g;unfold AF at hV;refine C (dY J J J (N (sq ?_)));refine ci J (fun hW=>?_) (fun hW=>?_)
    ·have hz:=aJ hW hV;refine sk (sq (bk (C ?_)));obtain ⟨x2,hX,ie⟩:=L hz;obtain ⟨p1,rfl⟩:=hT.adr hX;have e8:=hT.atF hX;refine cY DD nC J J J J (aW hX) (cP HR nC J J (P 3 J e8) J (va (cs:=[.int .i64 x2.anchor,.string (bs x2.text)]) zeroValue98 nC J J J J J J J J fun q6 il dd=>(N (rg (A J (cP HR nC J J (P 0 J dd) J (bu (cs:=[.int .i64 x2.anchor,.string (bs x2.text),.bool false]) T12.B130 J J J ?_)))))));obtain ⟨fe,fj⟩:=aF ie;have:=fI s4.2 [(⟨x2,false⟩:bY)];have:=nX (⟨x2,false⟩:bY);refine AZ 3 bZ (l:=s4.2) (⟨x2,false⟩:bY) T12.E128 J J J J J J J J J J J J fe fun e1 c8 u1=>(I J (rg (dO J J J (by omega) (A J (N ?_)))));cases fj;intro a w d g;exact ⟨_,en,e1,c8,d.selH [1,2,3,4] J,g.cuE J⟩
    have fo:=aU hW hV;refine xt J ?_;cases fo;obtain rfl:=dJ.out en;intro a w d g;exact ⟨au,c6,d,g.cuE J⟩
   rintro a w ⟨a0,c1,d,g⟩;apply TG.ap ?_ d g;obtain ⟨i1,fs⟩:=aF ht;refine lA 8 [7] [] mixed (fun _ _ _ _ _ h=>h) (by kernel_rfl) (by kernel_rfl) (by kernel_rfl) J (by kernel_rfl) (.nil) (dA J (U yK J (P 2 J ad) J D) (dA J (U yK J (P 2 J ad) J D) (dA J (nl J J D) (dA J (aX 5 oS J oD D) (dc J (by kernel_rfl) tv J J (U qK J ((sO 1 J).drop 5) J D) (dA J (A J D) ?_))))))
   refine uT 1 (aG fE) 1 [(a0,Z.length,c1)] (aG.mono fE) J (bS (cs:=[(Value.slice a0 Z.length c1)]) T12.E125 J J J J fun q2 dv fw de=>by
     have fz:Sl (aG fE) 1 dv (some q2) 1 [(a0,Z.length,c1)]:=Sl.litR (css:=[[(Value.slice a0 Z.length c1)]]) (l:=[(a0,Z.length,c1)]) ⟨⟨J,J,J⟩,tv⟩ fw de J
     exact rV (aG.mono fE) fz) fun ip cS=>?_
   refine tS ((h2++[(a0,Z.length,c1)]).length) (fun ds du=>([(3,S.list a0 c1 130 3 bZ Z),(5,S.list ds du 128 1 fE (h2++[(a0,Z.length,c1)])),(1,bF b7 127 [.int .i64 o.number,.int .i64 o.bound,.int .i64 o.height,.int .i64 o.width,.slice (some p0) o.parts.length Y,.slice a4 h2.length c3])]++iD 130 3 bZ 1000 a6 s3.2)) J (fun a w K d g hF F=>TG.pa d g (sJ 5 (enc:=fE) (l:=h2) (m:=[(a0,Z.length,c1)]) T12.E125 J J J J J J (hF.1 J) 0 J (fun _=>J) (fun _=>J) J (by have:=af.hlen;simp only [List.length_cons,List.length_nil];omega) fun a7 c5=>F _ _)) fun a7 c5=>(DC.nil fun im hF=>?_);obtain ⟨_,f2,_⟩:=hF;have:=f2.len;refine TG.absorbA [(3,S.list a0 c1 130 3 bZ Z),(5,S.list a7 c5 128 1 fE (h2++[(a0,Z.length,c1)])),(1,bF b7 127 [.int .i64 o.number,.int .i64 o.bound,.int .i64 o.height,.int .i64 o.width,.slice (some p0) o.parts.length Y,.slice a4 h2.length c3])] (B:=[(5,S.list a7 c5 128 1 fE (h2++[(a0,Z.length,c1)])),(1,bF b7 127 [.int .i64 o.number,.int .i64 o.bound,.int .i64 o.height,.int .i64 o.width,.slice (some p0) o.parts.length Y,.slice a4 h2.length c3])]) 3 (b:=1000) af J J ?_;have cw:=af.snoc Z a0 c1;refine nl J J (aX 5 oS J oD (eP 1 (cs:=[.slice a7 ((h2++[(a0,Z.length,c1)]).length) c5]) oD J J J J J J J (N (rg (dO J J J (by omega) (A J (N ?_)))))));cases fs;intro a w d g;exact ⟨_,el,(h2++[(a0,Z.length,c1)]),(a6++[(a0,c1)]),a7,c5,d.selH [2,3,4] J,g.cuE J,cw⟩
  have f5:=aU hQ hP;refine xt J ?_;cases f5;obtain rfl:=dJ.out el;intro a w d g;exact ⟨h2,a6,a4,c3,d,g.cuE J,af⟩
 rintro a w ⟨h1,a9,a2,c0,d,g,cv⟩;apply TG.ap ?_ d g;refine sq (C (A J (A J (clT C66 func66 J ntmps66 J J J J (C (bI (cs:=[.slice ak errata.length ae]) J J J fun q7 s dg=>(bI (cs:=[.int .i64 ei]) J J J fun q1 t dh=>(I J ?_))))))));refine C (fn J J J (I J (bK ?_)));intro a w d g;refine dN g J J ?_;refine ⟨_,J,fun a g=>?_⟩;refine eL J g d (N (bk (TG.stillC 1 J fun n aa=>?_)));obtain ⟨t3,f8,gb⟩:=L g8;refine ZZ 6 7 WJ func105 J ntmps105 J J (fun l0 e i w=>(∃ (h7:List Hd) (cf:List fR),St M W H [n,t,s,K9,K5,H] ([(6,S.blk l0 (i .ready none)),(7,S.blk e (.deferred (some []))),(5,S.list a2 c0 128 1 fE h7)]++iD 130 3 bZ 1000 cf t3) w∧gW h7 cf t3∧h7.length=h1.length)) ?_ ?_
 ·intro l0 e i tE bv ac;refine C (U HN J (P 2 J dg) J ?_);obtain ⟨r0,gh,gl⟩:=L f8;refine zT 8 LX J J J J (fun w V σr d le=>ML (aj:=errata) (ba.mono (aG.mono _) (le.at 5 J)) gh d) fun cg c2=>(TG.len 8 J fun _=>(I J (C (A J ?_))));obtain ⟨l1,eo,gq⟩:=L gl;have gu:l1.length=r0.length:=(gP eo);refine KJ 8 (enc:=aO) (V:=Va aO) (V':=Va aO) (fun _=>rfl) (fun _=>rfl) srt107 RW J J J J J J (fun H le=>⟨108,[],[],rfl,RX,fun w_ K_ e3 v_ hK hw hs=>by obtain ⟨jc,jd,ij,ik,r_,rfl,e6,e7,hx,rfl⟩:=hs;cases e6;cases e7;exact SW  ij rfl ik rfl  hx⟩) (fun _ _=>rfl) (fun _ _=>rfl) eo (N (C (A rfl (dU CM J J (A rfl (N ?_))))));obtain ⟨e4,gx,ep⟩:=L gq;refine jn (fun a w=>∃ t2,e4=.inl t2∧∃ (h8:List Hd) (aw:List fR),St M W H [n,t,s,K9,K5,H] ([(8,S.list cg c2 119 6 aO l1),(6,S.blk l0 (i .ready none)),(7,S.blk e (.deferred (some []))),(5,S.list a2 c0 128 1 fE h8)]++iD 130 3 bZ 1000 aw t2) w∧bM [] 28 a []∧gW h8 aw t2∧h8.length=h1.length) ?_ ?_
  ·refine bk ?_;refine lp gx (fun s1 a w=>∃ (h0:List Hd) (a3:List fR),St M W H [n,t,s,K9,K5,H] ([(8,S.list cg c2 119 6 aO l1),(6,S.blk l0 (i .ready none)),(7,S.blk e (.deferred (some []))),(5,S.list a2 c0 128 1 fE h0)]++iD 130 3 bZ 1000 a3 s1.2) w∧bM [] 28 a [(0,.func (.yield l0) #[] #[]),(2,.pointer (some q1)),(11,.slice cg r0.length c2),(12,.int .i64 (r0.length:Int)),(13,.int .i64 (s1.1:Int))]∧gW h0 a3 s1.2∧h0.length=h1.length) ?_ ?_
   ·intro a w d g;exact ⟨h1,a9,d,g.cuE J,cv,J⟩
   rintro j s1 y2 ck cl a w ⟨h0,a3,d,g,k,h3⟩;refine TG.ap ?_ d g;unfold vK at ck;refine C (dY J J J (N (sq ?_)));refine ci J (fun cm=>?_) (fun cm=>?_)
   ·have g1:=aJ cm ck;refine sk (sq (bk (C ?_)));obtain ⟨u,cn,g5⟩:=L g1;refine TG.addr 8 J (fX cn) fun b0 h=>?_;subst h
    let aq:List Value:=[.int .i64 u.number,.int .i64 u.day,.int .u8 u.kind,.int .i64 u.anchor,.string (bs u.text),.int .i64 u.new_]
    refine cY CM iU J J J J (Nat.lt_of_lt_of_eq (aW cn) gu) (cP mY iU J J (sE (enc:=aO) 8 J (fun _=>J) cn) J (va (cs:=aq) zeroValue119 iU J J J J J J J J fun q9 p ai=>(N (sq ?_))));obtain ⟨t4,er,d2⟩:=L g5;refine jn (fun a w=>∃ (h6:List Hd) (a8:List fR),St M W H [p,n,t,s,K9,K5,H] ([(8,S.list (some ⟨b0,0,none⟩) c2 119 6 aO l1),(6,S.blk l0 (i .ready none)),(7,S.blk e (.deferred (some []))),(5,S.list a2 c0 128 1 fE h6)]++iD 130 3 bZ 1000 a8 t4.2) w∧bM [] 28 a [(0,.func (.yield l0) #[] #[]),(2,.pointer (some q1)),(11,.slice (some ⟨b0,0,none⟩) r0.length c2),(12,.int .i64 (r0.length:Int)),(13,.int .i64 (s1.1:Int)),(26,.bool t4.1)]∧gW h6 a8 t4.2∧h6.length=h1.length) ?_ ?_
    ·refine rg (aX 1 gG J Z3 (U G3 J (((P 0 J ai).drop 1).take 1) J (U G3 J (P 2 J dh) J (nH J J J (A J ?_)))));by_cases h4:ei < u.day
     ·have g9:=aJ h4 er;refine cC 4 J J J (decide_eq_true h4) J (pt h4 J J (N ?_));cases g9;intro a w d g;exact ⟨h0,a3,d,g.cuE J,k,h3⟩
     have hb:=aU h4 er;refine dC h4 J (A J (dC h4 J (cP mY iU J J (P 0 J ai) J (dC h4 J ?_))));obtain ⟨t5,hf,hj⟩:=L hb;refine yl 6 [] (L1:=(54,.agg aq.toArray)::_) J J J bv ac J J J (fun v w=>(∃ (h9:List Hd) (ax:List fR),v=.bool true∧St M W H [p,n,t,s,K9,K5,H] ([(8,S.list (some ⟨b0,0,none⟩) c2 119 6 aO l1),(6,S.blk l0 (i .ready none)),(7,S.blk e (.deferred (some []))),(5,S.list a2 c0 128 1 fE h9)]++iD 130 3 bZ 1000 ax t5) w∧gW h9 ax t5∧h9.length=h1.length)) ?_ ?_
     ·refine rg (va (cs:=aq) zeroValue119 iU J J J J J J J J fun i9 y ab=>(N (bR 6 ac J (bk (C (U yK J (P 5 J ad) J (aX 3 gG J Z3 (U G3 J (((P 0 J ab).drop 3).take 1) J ?_))))))));obtain ⟨R,hn,hu⟩:=L hf;refine BA C48 func48 J ntmps48 J J J J (fun v w=>(v=.tuple #[.int .i64 (R.2.1:Int),.int .i64 (R.1:Int),.bool R.2.2]∧St M W H [y,p,n,t,s,K9,K5,H] ([(8,S.list (some ⟨b0,0,none⟩) c2 119 6 aO l1),(6,S.blk l0 (i .busy none)),(7,S.blk e (.deferred (some []))),(5,S.list a2 c0 128 1 fE h0)]++iD 130 3 bZ 1000 a3 s1.2) w)) ?_ ?_
      ·refine C (a1 J (a1 J (I J (sc (sq (lb (sq (C ?_))))))));refine A J (nl J J (aX 5 oS J oD (U qK J ((P 2 J aa).drop 5) J (lnE (h3.symm.trans k.hlen) mE J J (A J (N ?_))))));obtain ⟨cj,ia,ig⟩:=L hn;refine jn (SJ M W H [y,p,n,t,s,K9,K5,H] ([(8,S.list (some ⟨b0,0,none⟩) c2 119 6 aO l1),(6,S.blk l0 (i .busy none)),(7,S.blk e (.deferred (some []))),(5,S.list a2 c0 128 1 fE h0)]++iD 130 3 bZ 1000 a3 s1.2) 40 [(4,.int .i64 (cj.1:Int)),(5,.int .i64 (cj.2.1:Int)),(6,.bool cj.2.2)]) ?_ ?_
       ·refine bk ?_;refine lp ia (fun s2=>SJ M W H [y,p,n,t,s,K9,K5,H] ([(8,S.list (some ⟨b0,0,none⟩) c2 119 6 aO l1),(6,S.blk l0 (i .busy none)),(7,S.blk e (.deferred (some []))),(5,S.list a2 c0 128 1 fE h0)]++iD 130 3 bZ 1000 a3 s1.2) 40 [(1,.int .i64 u.anchor),(4,.int .i64 (s2.1:Int)),(5,.int .i64 (s2.2.1:Int)),(6,.bool s2.2.2.2),(14,.slice a2 h1.length c0),(15,.int .i64 (s1.2.length:Int)),(16,.int .i64 (s2.2.2.1:Int))]) ?_ ?_
        ·exact cuE J
        rintro j s2 y3 co cp a w ⟨d,g⟩;refine TG.ap ?_ d g;unfold rX at co;refine C (dY J J J (N (sq ?_)));refine ci J (fun cr=>?_) (fun cr=>?_)
        ·have e9:=aJ cr co;refine sk (sq (bk (C (A J ?_))));obtain ⟨x6,cx,ff⟩:=L e9;obtain ⟨e2,c9,d3,cy⟩:=k.at cx;refine TG.addr 5 J (fX cy) fun b2 h=>?_;subst h;refine cY mE qL J J J J (Nat.lt_of_lt_of_eq (aW cy) h3) (U tK J (sE 5 J (fun _=>J) cy) J (a1 J (I J (C (A J (dU oE J J (A J (N ?_))))))));obtain ⟨e5,fk,d4⟩:=L ff;refine jn (fun a w=>∃ t1,e5=.inl t1∧SJ M W H [y,p,n,t,s,K9,K5,H] ([(8,S.list (some ⟨b0,0,none⟩) c2 119 6 aO l1),(6,S.blk l0 (i .busy none)),(7,S.blk e (.deferred (some []))),(5,S.list (some ⟨b2,0,none⟩) c0 128 1 fE h0)]++iD 130 3 bZ 1000 a3 s1.2) 40 [(1,.int .i64 u.anchor),(4,.int .i64 (t1.1:Int)),(5,.int .i64 (t1.2.1:Int)),(6,.bool t1.2.2),(14,.slice (some ⟨b2,0,none⟩) h1.length c0),(15,.int .i64 (s1.2.length:Int)),(16,.int .i64 (s2.2.2.1:Int))] a w) ?_ ?_
         ·refine bk ?_;refine lp fk (fun s5=>SJ M W H [y,p,n,t,s,K9,K5,H] ([(8,S.list (some ⟨b0,0,none⟩) c2 119 6 aO l1),(6,S.blk l0 (i .busy none)),(7,S.blk e (.deferred (some []))),(5,S.list (some ⟨b2,0,none⟩) c0 128 1 fE h0)]++iD 130 3 bZ 1000 a3 s1.2) 40 [(1,.int .i64 u.anchor),(4,.int .i64 (s5.1:Int)),(5,.int .i64 (s5.2.1:Int)),(6,.bool s5.2.2.2),(7,.int .i64 (s2.2.2.1:Int)),(14,.slice (some ⟨b2,0,none⟩) h1.length c0),(15,.int .i64 (s1.2.length:Int)),(16,.int .i64 (s2.2.2.1:Int)),(21,.slice e2 x6.length c9),(22,.int .i64 (x6.length:Int)),(23,.int .i64 (s5.2.2.1:Int))]) ?_ ?_
          ·exact cuE J
          rintro j s5 y4 cz da a w ⟨d,g⟩;refine TG.ap ?_ d g;unfold AG at cz;refine C (dY J J J (N (sq ?_)));refine ci J (fun di=>?_) (fun di=>?_)
          ·have fp:=aJ di cz;refine sk (sq (bk (C (A J ?_))));obtain ⟨x5,dj,d5⟩:=L fp;refine TG.addr (1000+s2.2.2.1) (gk J (gk J (gk J (gk J (sP d3 cx))))) (fX dj) fun b6 h=>?_;subst h;refine cY oE jY J J J J (aW dj) (cP CE jY J J (sE (enc:=bZ) (size:=3) (1000+s2.2.2.1) (gk J (gk J (gk J (gk J (sP d3 cx))))) (fun _=>J) dj) J (al 9 (cs:=[.int .i64 0,.string (bs []),.bool false]) zeroValue130 J J fun b8=>(a1 J (eP 9 (cs:=[.int .i64 x5.paragraph.anchor,.string (bs x5.paragraph.text),.bool x5.removed]) jY J J J J J J J (N (C (aX 0 oF J nC (aX 0 CN J Z3 (U G3 J ((sO 9 J).take 1) J (A J ?_))))))))));refine fQ J J J (N ?_);refine ci J (fun dk=>?_) (fun dk=>?_)
           ·have ft:=aJ dk d5;refine C (A J (A J (a1 J (a1 J (I J (xt J ?_))))));obtain ⟨z0,fx,rfl⟩:=mR ft;obtain rfl:=dJ.out da;cases d4;refine TG.del 9 ?_;cases fx;obtain rfl:=dJ.out cp;exact cuE J
           have f0:=aU dk d5;refine sk (rg ?_);obtain ⟨f3,f6⟩:=aF f0;refine dO J J J f3 (A J (N (TG.del 9 ?_)));cases f6;intro a w d g;exact ⟨_,da,d,g.cuE J⟩
          have f9:=aU di cz;refine xt J ?_;cases f9;obtain rfl:=dJ.out da;intro a w d g;exact ⟨_,J,d,g.cuE J⟩
         rintro a w ⟨t1,rfl,d,g⟩;apply TG.ap ?_ d g;refine rg ?_;obtain ⟨gc,gi⟩:=aF d4;refine dO J J J gc (A J (N ?_));cases gi;intro a w d g;exact ⟨_,cp,d,g.cuE J⟩
        have gn:=aU cr co;refine xt J ?_;cases gn;obtain rfl:=dJ.out cp;exact cuE J
       rintro a w ⟨d,g⟩;apply TG.ap ?_ d g;refine C (A J (A J (A J (a1 J (a1 J (I J (bK ?_)))))));cases ig;intro a w d g;refine PD g J J J J ?_;exact ⟨_,J,⟨J,d⟩⟩
      rintro a w v g (⟨rfl,d⟩);refine eL J g d (A J (ex J J J (ex J J J (ex J J J (a1 J (a1 J (I J (C (A J ?_)))))))));refine N ?_;obtain ⟨t6,d6,gr⟩:=L hu;refine jn (fun a w=>∃ (hB:List Hd) (ay:List fR),St M W H [y,p,n,t,s,K9,K5,H] ([(8,S.list (some ⟨b0,0,none⟩) c2 119 6 aO l1),(6,S.blk l0 (i .busy none)),(7,S.blk e (.deferred (some []))),(5,S.list a2 c0 128 1 fE hB)]++iD 130 3 bZ 1000 ay t6) w∧bM [] 76 a []∧gW hB ay t6∧hB.length=h1.length) ?_ ?_
      ·refine cb J (fun dl=>?_) (fun dl=>?_)
       ·have gv:=aJ dl d6;obtain ⟨r1,gy,g2⟩:=L gv;obtain ⟨i2,d7⟩:=aF g2;refine dV 10 mixed (by kernel_rfl) J ?_
        let be:List Value:=[.func (.func 109) #[] #[],.func (.func 110) #[] #[],.func (.func 111) #[] #[]]
        refine DF.und (α:=Addr) default (fun q=>.slice (some q) 3 3) (fun (q:Addr) K=>aM K q be) (fun _ _ _ h x=>x.mono h) (by kernel_rfl) J (fun a w K d g hF=>TG.pa d g (gA C67 J J J J (fun w H hH le=>w67 hH gy) (by
          rintro v_ eu ⟨iR,rfl,bq⟩
          exact qV (f:=fun q=>.slice (some q) 3 3) (G:=(fun (q:Addr) K=>aM K q be)) _ (fun _ _ _ h x=>x.mono h) bq))) fun q0=>?_
        refine E J (aX 2 gG J Z5 D) (E J (U G5 J (((P 1 J ab).drop 2).take 1) J D) ?_);by_cases d8:u.kind=0
        ·have g6:=aJ d8 d7;refine uC (.pointer (some (q0.add (0*1)))) (fun K=>aM K (q0.add (0*1)) be) (fun _ _ h x=>x.mono h) J (fun a w K d g hF F=>TG.pa d g (cY (j:=0) SP SI J J J (by omega) (by decide) (F ((hF.1 J).drop (0*1))))) (uC (.pointer (some (q0.add (0*1)))) (fun K=>aM K (q0.add (0*1)) be) (fun _ _ h x=>x.mono h) J (fun a w K d g hF F=>TG.pa d g (aX 0 SO J SH (F (hF.1 J)))) (DF.det J (fun a w K d g hF=>TG.pa d g (U SD J ((P 0 J (hF.1 J)).take 1) J D)) (E J (U yK J (P 6 J ad) J D) (E J (A J D) (E J (A J D) (E J (cP mY iU J J (P 1 J ab) J D) (DF.nil fun ar hF=>?_)))))));obtain ⟨i3,i4,d9,_⟩:=hF;obtain ⟨t7,gR,hc⟩:=L g6;refine BA aB0 func109 J ntmps109 J J J J (fun v w=>(∃ (hC:List Hd) (az:List fR),v=.tuple #[]∧St M W H [ar,y,p,n,t,s,K9,K5,H] ([(8,S.list (some ⟨b0,0,none⟩) c2 119 6 aO l1),(6,S.blk l0 (i .busy none)),(7,S.blk e (.deferred (some []))),(5,S.list a2 c0 128 1 fE hC)]++iD 130 3 bZ 1000 az t7) w∧gW hC az t7∧hC.length=h1.length)) ?_ ?_
         ·refine C (bI (cs:=aq) J J J fun iS ca br=>(N (C (A J (nl J J (aX 5 oS J oD (U qK J ((P 4 J aa).drop 5) J (A J ?_))))))));obtain ⟨x8,hE,hg⟩:=L gR;obtain ⟨iq,iv,hM,dm⟩:=k.at hE;refine TG.addr 5 J (fX dm) fun b3 h=>?_;subst h;refine cY mE qL J J J J (Nat.lt_of_lt_of_eq (aW dm) h3) (U tK J (sE 5 J (fun _=>J) dm) J (A J ?_));obtain ⟨x4,hN,hk⟩:=L hg;refine TG.addr (1000+R.2.1) (gk J (gk J (gk J (gk J (sP hM hE))))) (fX hN) fun b4 h=>?_;subst h;refine cY oE jY J J J J (aW hN) (I J (C (A J (nl J J (aX 2 oF J Z4 (U G4 J ((sE (enc:=bZ) (size:=3) (1000+R.2.1) (gk J (gk J (gk J (gk J (sP hM hE))))) (fun _=>J) hN).drop 2) J (nt J J (N ?_))))))));obtain ⟨t8,dB,ho⟩:=L hk;refine jn (fun a w=>∃ (hG:List Hd) (bb:List fR),St M W H [ca,ar,y,p,n,t,s,K9,K5,H] ([(8,S.list (some ⟨b0,0,none⟩) c2 119 6 aO l1),(6,S.blk l0 (i .busy none)),(7,S.blk e (.deferred (some []))),(5,S.list (some ⟨b3,0,none⟩) c0 128 1 fE hG)]++iD 130 3 bZ 1000 bb t8) w∧bM [] 29 a []∧gW hG bb t8∧hG.length=h1.length) ?_ ?_
          ·refine cb J (fun h5=>?_) (fun h5=>?_)
           ·replace h5:=kX h5
            have hv:=bJ h5 dB;refine rg (A J (aX 4 gG J Z9 (U G9 J (((P 0 J br).drop 4).take 1) J (nl J J (aX 0 oF J nC (aX 1 CN J Z9 (UR (enc:=bZ) (1000+R.2.1) (⟨(⟨x4.paragraph.anchor,u.text⟩:aI),x4.removed⟩:bY) (q:=⟨b4,0,none⟩) (j:=R.1) (size:=3) (cs:=[.string (bs u.text)]) (off:=1) Z9 (ad3 (b:=0) (c:=1) J) J (gk J (gk J (gk J (gk J (sP hM hE))))) (fun _=>J) hN J J J J J (TG.eq (zk J (zk J (zk J (zk J (PX hM))))) ?_))))))));have bl:=k.put hE (BB x8 R.1 (⟨(⟨x4.paragraph.anchor,u.text⟩:aI),x4.removed⟩:bY));refine N ?_;cases hv;intro a w d g;exact ⟨h0,a3,d,g.cut tv,bl,h3⟩
           replace h5:=kY h5
           have ib:=aJ h5 dB;refine sk ?_;cases ib;intro a w d g;exact ⟨h0,a3,d,g.cut tv,k,h3⟩
          rintro a w ⟨hG,bb,d,g,bj,ih⟩;refine TG.ap ?_ d g;cases ho;intro a w d g;refine eG g J ?_;exact ⟨_,J,⟨hG,bb,J,d.selH [1,2,3,4,5,6,7,8,9] J,bj,ih⟩⟩
         rintro a w v g (⟨hC,az,rfl,d,bi,fa⟩);refine eL J g d (N ?_);cases hc;intro a w d g;exact ⟨hC,az,d.selH [1,2,3,4,5,6,7,8] J,g.cut tv,bi,fa⟩
        have ea:=aU d8 d7;by_cases ec:u.kind=1
        ·have fg:=aJ ec ea
         let dy:List Value:=[.func (.func 110) #[] #[],.func (.func 111) #[] #[]]
         refine uC (.pointer (some (q0.add (1*1)))) (fun K=>aM K (q0.add (1*1)) dy) (fun _ _ h x=>x.mono h) J (fun a w K d g hF F=>TG.pa d g (cY (j:=1) SP SI J J J (by omega) (by decide) (F ((hF.1 J).drop (1*1))))) (uC (.pointer (some (q0.add (1*1)))) (fun K=>aM K (q0.add (1*1)) dy) (fun _ _ h x=>x.mono h) J (fun a w K d g hF F=>TG.pa d g (aX 0 SO J SH (F (hF.1 J)))) (DF.det J (fun a w K d g hF=>TG.pa d g (U SD J ((P 0 J (hF.1 J)).take 1) J D)) (E J (U yK J (P 6 J ad) J D) (E J (A J D) (E J (A J D) (E J (cP mY iU J J (P 1 J ab) J D) (DF.nil fun cc hF=>?_)))))));obtain ⟨i5,i6,d9,_⟩:=hF;obtain ⟨t9,fl,fq⟩:=L fg;refine BA aB1 func110 J ntmps110 J J J J (fun v w=>(∃ (hI:List Hd) (bc:List fR),v=.tuple #[]∧St M W H [cc,y,p,n,t,s,K9,K5,H] ([(8,S.list (some ⟨b0,0,none⟩) c2 119 6 aO l1),(6,S.blk l0 (i .busy none)),(7,S.blk e (.deferred (some []))),(5,S.list a2 c0 128 1 fE hI)]++iD 130 3 bZ 1000 bc t9) w∧gW hI bc t9∧hI.length=h1.length)) ?_ ?_
         ·refine C (bI (cs:=aq) J J J fun ja ew es=>(N (rg (A J (nl J J (aX 5 oS J oD (U qK J ((P 4 J aa).drop 5) J (A J ?_))))))));obtain ⟨x9,hO,fu⟩:=L fl;obtain ⟨ir,iw,dn,dp⟩:=k.at hO;refine TG.addr 5 J (fX dp) fun b9 h=>?_;subst h;refine cY mE qL J J J J (Nat.lt_of_lt_of_eq (aW dp) h3) (U tK J (sE 5 J (fun _=>J) dp) J (A J ?_));obtain ⟨x7,dq,fy⟩:=L fu;refine TG.addr (1000+R.2.1) (gk J (gk J (gk J (gk J (sP dn hO))))) (fX dq) fun b5 h=>?_;subst h;refine cY oE jY J J J J (aW dq) (aX 2 oF J Z4 (UR (enc:=bZ) (1000+R.2.1) (⟨x7.paragraph,true⟩:bY) (q:=⟨b5,0,none⟩) (j:=R.1) (size:=3) (cs:=[.bool true]) (off:=2) Z4 (PZ (b:=2) J) J (gk J (gk J (gk J (gk J (sP dn hO))))) (fun _=>J) dq J J J J J (TG.eq (zk J (zk J (zk J (zk J (PX dn))))) ?_)));have bn:=k.put hO (BB x9 R.1 (⟨x7.paragraph,true⟩:bY));refine N ?_;cases fy;intro a w d g;refine eG g J ?_;exact ⟨_,J,⟨h0,a3,J,d.selH [1,2,3,4,5,6,7,8,9] J,bn,h3⟩⟩
         rintro a w v g (⟨hI,bc,rfl,d,bm,f1⟩);refine eL J g d (N ?_);cases fq;intro a w d g;exact ⟨hI,bc,d.selH [1,2,3,4,5,6,7,8] J,g.cut tv,bm,f1⟩
        have ee:=aU ec ea;by_cases ef:u.kind=2
        ·have f4:=aJ ef ee;refine uC (.pointer (some (q0.add (2*1)))) (fun K=>aM K (q0.add (2*1)) [.func (.func 111) #[] #[]]) (fun _ _ h x=>x.mono h) J (fun a w K d g hF F=>TG.pa d g (cY (j:=2) SP SI J J J (by omega) (by decide) (F ((hF.1 J).drop (2*1))))) (uC (.pointer (some (q0.add (2*1)))) (fun K=>aM K (q0.add (2*1)) [.func (.func 111) #[] #[]]) (fun _ _ h x=>x.mono h) J (fun a w K d g hF F=>TG.pa d g (aX 0 SO J SH (F (hF.1 J)))) (DF.det J (fun a w K d g hF=>TG.pa d g (U SD J (P 0 J (hF.1 J)) J D)) (E J (U yK J (P 6 J ad) J D) (E J (A J D) (E J (A J D) (E J (cP mY iU J J (P 1 J ab) J D) (DF.nil fun cd hF=>?_)))))));obtain ⟨i7,i8,d9,_⟩:=hF;obtain ⟨tD,f7,ga⟩:=L f4;refine BA aB2 func111 J ntmps111 J J J J (fun v w=>(∃ (hJ:List Hd) (bd:List fR),v=.tuple #[]∧St M W H [cd,y,p,n,t,s,K9,K5,H] ([(8,S.list (some ⟨b0,0,none⟩) c2 119 6 aO l1),(6,S.blk l0 (i .busy none)),(7,S.blk e (.deferred (some []))),(5,S.list a2 c0 128 1 fE hJ)]++iD 130 3 bZ 1000 bd tD) w∧gW hJ bd tD∧hJ.length=h1.length)) ?_ ?_
         ·refine C (bI (cs:=aq) J J J fun jb ey an=>(N ?_));obtain ⟨x1,eg,gg⟩:=L f7;obtain ⟨it,ix,gj,hL⟩:=k.at eg;refine TG.addr 5 J (fX hL) fun b1 h=>?_;subst h;obtain ⟨gp,gs⟩:=aF gg;refine TG.focus [(8,S.list (some ⟨b0,0,none⟩) c2 119 6 aO l1),(6,S.blk l0 (i .busy none)),(7,S.blk e (.deferred (some []))),(5,S.list (some ⟨b1,0,none⟩) c0 128 1 fE h0)] 10 (b:=1000) gj eg ?_;obtain ⟨gw,gz⟩:=aF gs;obtain ⟨g3,g7⟩:=aF gz;refine lA 22 [21] [] mixed (fun _ _ _ _ _ h=>h) (by kernel_rfl) (by kernel_rfl) (by kernel_rfl) J (by kernel_rfl) (.nil) (dA J (A J D) (dA J (nl J J D) (dA J (aX 5 oS J oD D) (dA J (U qK J ((P 5 J aa).drop 5) J D) (dA J (A J D) (dA J (A J D) (dA J (nl J J D) (dA J (aX 5 oS J oD D) (dA J (U qK J ((P 5 J aa).drop 5) J D) (dA J (A J D) (dA J (cY mE qL J J J J (Nat.lt_of_lt_of_eq (aW hL) h3) D) ?_)))))))))))
          let dz:List Value:=[.int .i64 u.new_,.string (bs u.text),.bool false]
          refine dc J (by kernel_rfl) tv J J (U tK J (sE 5 J (fun _=>J) hL) J D) (dA J (A J D) (dA J (dO J J J gp D) (dA J (aX 5 gG J Z3 D) (dA J (U G3 J ((P 1 J an).drop 5) J D) (dA J (aX 4 gG J Z9 D) (dA J (U G9 J (((P 1 J an).drop 4).take 1) J D) (dA J (bu (cs:=[.int .i64 u.new_,.string (bs u.text)]) T12.B98 J J J D) (dA J (bu (cs:=dz) T12.B130 J J J D) ?_))))))))
          refine uT 1 (aG bZ) 3 ([(⟨(⟨u.new_,u.text⟩:aI),false⟩:bY)]:List bY) (aG.mono _) J (bS (cs:=dz) T12.E128 J J J J fun q3 ce gT bt=>by
            have eh:Sl (aG bZ) 3 ce (some q3) 1 ([(⟨(⟨u.new_,u.text⟩:aI),false⟩:bY)]:List bY):=Sl.litF (fun _=>J) (fun _=>J) gT bt J J J;have:=eh.len
            exact rV (aG.mono _) eh) fun iu iy=>?_
          let ch:S:=S.list (some ⟨b0,0,none⟩) c2 119 6 aO l1
          refine tS ((x1.take (((R.1:Int)+1).toNat)++[(⟨(⟨u.new_,u.text⟩:aI),false⟩:bY)]++x1.drop (((R.1:Int)+1).toNat)).length) (fun ds du=>([(10,S.list ds du 130 3 bZ (x1.take (((R.1:Int)+1).toNat)++[(⟨(⟨u.new_,u.text⟩:aI),false⟩:bY)]++x1.drop (((R.1:Int)+1).toNat))),(8,ch),(6,S.blk l0 (i .busy none)),(7,S.blk e (.deferred (some []))),(5,S.list (some ⟨b1,0,none⟩) c0 128 1 fE h0)]++iD 130 3 bZ 1000 (a3.set R.2.1 (none,0)) (s1.2.set R.2.1 []))) J (fun a w K d g hF F=>TG.pa d g (aBk 10 (enc:=bZ) J (fun _=>J) (fun _=>J) (((R.1:Int)+1).toNat) (⟨(⟨u.new_,u.text⟩:aI),false⟩:bY) (l:=x1) ins112 aB3 J J J J J J J (hF.1 J) 0 J (by omega) g3 gw fun a5 c4=>F _ _)) fun a5 c4=>(DC.nil fun ez hF=>?_);obtain ⟨_,hd,_⟩:=hF;have:=hd.len;refine cY mE qL J J J J (Nat.lt_of_lt_of_eq (aW hL) h3) (UR 5 (a5,(x1.take (((R.1:Int)+1).toNat)++[(⟨(⟨u.new_,u.text⟩:aI),false⟩:bY)]++x1.drop (((R.1:Int)+1).toNat)).length,c4) (q:=⟨b1,0,none⟩) (j:=R.2.1) (size:=1) (cs:=[(Value.slice a5 (x1.take (((R.1:Int)+1).toNat)++[(⟨(⟨u.new_,u.text⟩:aI),false⟩:bY)]++x1.drop (((R.1:Int)+1).toNat)).length c4)]) (off:=0) qL J J J (fun _=>J) hL J J J J J (TG.absorb [(10,S.list a5 c4 130 3 bZ (x1.take (((R.1:Int)+1).toNat)++[(⟨(⟨u.new_,u.text⟩:aI),false⟩:bY)]++x1.drop (((R.1:Int)+1).toNat))),(8,ch),(6,S.blk l0 (i .busy none)),(7,S.blk e (.deferred (some []))),(5,S.list (some ⟨b1,0,none⟩) c0 128 1 fE (h0.set R.2.1 (a5,(x1.take (((R.1:Int)+1).toNat)++[(⟨(⟨u.new_,u.text⟩:aI),false⟩:bY)]++x1.drop (((R.1:Int)+1).toNat)).length,c4)))] (B:=[(8,ch),(6,S.blk l0 (i .busy none)),(7,S.blk e (.deferred (some []))),(5,S.list (some ⟨b1,0,none⟩) c0 128 1 fE (h0.set R.2.1 (a5,(x1.take (((R.1:Int)+1).toNat)++[(⟨(⟨u.new_,u.text⟩:aI),false⟩:bY)]++x1.drop (((R.1:Int)+1).toNat)).length,c4)))]) 10 (b:=1000) (j:=R.2.1) J J (TG.eq (by rw [List.set_set,List.set_set]) ?_)));have bp:=k.new R.2.1 (x1.take (((R.1:Int)+1).toNat)++[(⟨(⟨u.new_,u.text⟩:aI),false⟩:bY)]++x1.drop (((R.1:Int)+1).toNat)) a5 c4;have hh:(h0.set R.2.1 (a5,(x1.take (((R.1:Int)+1).toNat)++[(⟨(⟨u.new_,u.text⟩:aI),false⟩:bY)]++x1.drop (((R.1:Int)+1).toNat)).length,c4)).length=h1.length:=(BB _ _ _).trans h3;refine N ?_;cases g7;intro a w d g;refine eG g J ?_;exact ⟨_,J,⟨(h0.set R.2.1 (a5,(x1.take (((R.1:Int)+1).toNat)++[(⟨(⟨u.new_,u.text⟩:aI),false⟩:bY)]++x1.drop (((R.1:Int)+1).toNat)).length,c4)),(a3.set R.2.1 (a5,c4)),J,d.selH [2,3,4,5,6,7,8,9,10] J,bp,hh⟩⟩
         rintro a w v g (⟨hJ,bd,rfl,d,bo,hl⟩);refine eL J g d (N ?_);cases ga;intro a w d g;exact ⟨hJ,bd,d.selH [1,2,3,4,5,6,7,8] J,g.cut tv,bo,hl⟩
        have hq:=aU ef ee;cases hq
       have hy:=bJ dl d6;refine sk ?_;cases hy;intro a w d g;exact ⟨h0,a3,d,g.cut tv,k,h3⟩
      rintro a w ⟨hB,ay,d,g,bh,ic⟩;refine TG.ap ?_ d g;cases gr;refine eR 6 none ac J fun w d=>?_;exact ⟨hB,ay,J,d.selH [1,2,3,4,5,6,7] J,bh,ic⟩
     rintro a w v g (⟨h9,ax,rfl,d,bg,ii⟩);refine eL J g d (dC h4 J (nt J J (pf h4 J J (N ?_))));cases hj;intro a w d g;exact ⟨h9,ax,d,g.cuE J,bg,ii⟩
    rintro a w ⟨h6,a8,d,g,ah,ej⟩;refine TG.ap ?_ d g;refine cb J (fun dr=>?_) (fun dr=>?_)
    ·have fc:=aJ dr d2;refine bK ?_;cases fc;obtain rfl:=dJ.out cl;refine TG.del 8 ?_;cases ep;intro a w d g;refine eG g J ?_;exact ⟨_,J,⟨h6,a8,d.selH [1,2,3,4,5,6] J,ah,ej⟩⟩
    have fh:=bJ dr d2;refine sk (rg (dO J J J (by omega) (A J (N ?_))));cases fh;intro a w d g;exact ⟨_,cl,h6,a8,d.selH [1,2,3,4,5,6] J,g.cuE J,ah,ej⟩
   have fm:=aU cm ck;refine xt J ?_;cases fm;obtain rfl:=dJ.out cl;intro a w d g;exact ⟨_,J,h0,a3,d,g.cut tv,k,h3⟩
  rintro a w ⟨t2,rfl,h8,aw,d,g,bf,fr⟩;apply TG.ap ?_ d g;refine TG.del 8 ?_;cases ep;intro a w d g;refine eG g J ?_;exact ⟨_,J,⟨h8,aw,d,bf,fr⟩⟩
 rintro l0 e i tE a w ac g (⟨h7,cf,d,ag,fv⟩);refine TG.ap ?_ d g;refine elN 6 ac J (C (U yK J (P 3 J ad) J (I J (bK (TG.stillG [(7,S.blk e (.deferred (some []))),(5,S.list a2 c0 128 1 fE h7)] (B:=[(7,S.blk e (.deferred (some [])))]) 5 (b:=1000) ag J J (fun _=>J) fun e0 ek=>?_)))));have:=ek.len;cases gb;refine TK (UY 7 J (TL ?_));intro a w d g;refine dN g J J ?_;exact ⟨⟨_,_,J,(aa.mono (d.grow 1 J)),⟨ao,Y,a2,c0,(by rw [show h1.length=t3.length from (fv.symm.trans ag.hlen)]),(bw.mono (bT.mono) (d.grow 6 J)),(ek.mono (uE.mono (aG.mono _)) (d.grow 0 J))⟩⟩,d.ext⟩

theorem w49 (p:H.le (hp W)) {bz:List Value} (g:bE) (cq:(bW) H bz g) {ak:Option Addr} {ae:Nat} {errata:List aK} (ba:Sl (aG aO) 6 H ak ae errata) (ei:Int) {r:List aI×Int} (hr:TR g errata ei=some r):Calls prog 49 #[.agg bz.toArray,.slice ak errata.length ae,.int .i64 ei] W (eW M H W (fun v K=>∃ (y:Option Addr) (h:Nat),v=.tuple #[.slice y r.1.length h,.int .i64 r.2]∧Sl (aG aY) 2 K y h r.1)):=by
 have d:=cq;obtain ⟨aa,G,rfl,ax⟩:=cq;have:=ax.len;have:=ba.len;unfold TR at hr;refine aN (M:=M) func49 J ntmps49 J p ?_;refine C (bI (cs:=[.int .i64 g.number,.int .i64 g.bound,.int .i64 g.height,.int .i64 g.width,.slice aa g.parts.length G]) J J J fun q4 s Y=>(a1 J (I J (sq (C (cP kJ gZ J J (P 0 J Y) J (A J ?_)))))));obtain ⟨r7,ay,Z⟩:=L hr;refine bB WS J (fun w H p le=>XR p g (bW.mono _ _ _ _ le.i d) (ba.mono (aG.mono _) le.i) ay) (I J (C (A J (kZ J J J (N ?_)))));refine ci J (fun h2=>?_) (fun h2=>?_)
 ·have hK:=aJ h2 Z;refine C (A J (a1 J (I J (bK ?_))));cases hK;intro a w b c;refine pI c J J J ?_;exact ⟨⟨_,_,J,Sl.o⟩,b.ext⟩
 have hL:=aU h2 Z;refine sk (sq (C (A J ?_)));obtain ⟨r1,hM,hC⟩:=L hL;refine bB SA J (fun w H p le=>SV ei hM) (nt J J (N ?_));refine cb J (fun h0=>?_) (fun h0=>?_)
 ·replace h0:=kX h0
  have hN:=bJ h0 hC;refine C (a1 J (I J (bK ?_)));cases hN;intro a w b c;refine pI c J J J ?_;exact ⟨⟨_,_,J,Sl.o⟩,b.ext⟩
 replace h0:=kY h0
 have hO:=aJ h0 hC;refine sk (C (I J (sq (C (cP kJ gZ J J (P 0 J Y) J (A J (A J ?_)))))));obtain ⟨k,hP,hQ⟩:=L hO;refine gA C44 J J J J (fun w H p le=>w44 p g (bW.mono _ _ _ _ le.i d) (ba.mono (aG.mono _) le.i) ei hP) ?_;rintro v_ e ⟨q0,c8,rfl,hR,hE⟩;have az:=hE;obtain ⟨a9,c9,a6,c2,rfl,hT,h3⟩:=hE;have:=hT.len;have:=h3.len;refine nl J J (aX 5 oS J oD (U qK J ((P 0 J hR).drop 5) J (dU mE J J (A J (N (TG.nilRow 2 98 2 (TG.as 2 (z:=S.list none 0 98 2 aY ([]:List aI)) J J ?_)))))));obtain ⟨R,hV,hW⟩:=L hQ;refine jn (fun a w=>∃ (a5:Option Addr) (c5:Nat),SJ M W H [e,s,H] [(2,S.list a5 c5 98 2 aY R)] 52 [(9,.slice a5 R.length c5)] a w) ?_ ?_
 ·refine bk ?_;refine lp hV (fun m a w=>∃ (u:Option Addr) (B:Nat),SJ M W H [e,s,H] [(2,S.list u B 98 2 aY m.2)] 52 [(9,.slice u m.2.length B),(29,.slice a6 k.parts.length c2),(30,.int .i64 (k.parts.length:Int)),(31,.int .i64 (m.1:Int))] a w) ?_ ?_
  ·intro a w b c;exact ⟨none,0,b,c.cuE J⟩
  rintro j m y0 h4 hF a w ⟨u,B,b,c⟩;refine TG.ap ?_ b c;unfold FO at h4;refine C (dY J J J (N (sq ?_)));refine ci J (fun h5=>?_) (fun h5=>?_)
  ·have hX:=aJ h5 h4;refine sk (sq (bk (C ?_)));obtain ⟨x1,h6,ab⟩:=L hX;obtain ⟨p0,rfl⟩:=h3.adr h6;obtain ⟨cR,bb,ac,hG⟩:=h3.at h6;have bc:=hG;obtain ⟨a7,c6,rfl,h7⟩:=hG;have:=h7.len;refine cY mE qL J J J J (aW h6) (U tK J (P 0 J ac) J (I J (C (A J (dU oE J J (A J (N ?_)))))));obtain ⟨V,ad,af⟩:=L ab;refine jn (fun a w=>∃ (a3:Option Addr) (c3:Nat),SJ M W H [e,s,H] [(2,S.list a3 c3 98 2 aY V)] 52 [(9,.slice a3 V.length c3),(29,.slice (some p0) k.parts.length c2),(30,.int .i64 (k.parts.length:Int)),(31,.int .i64 (m.1:Int))] a w) ?_ ?_
   ·refine bk ?_;refine lp ad (fun n a w=>∃ (x:Option Addr) (F:Nat),SJ M W H [e,s,H] [(2,S.list x F 98 2 aY n.2)] 52 [(9,.slice x n.2.length F),(29,.slice (some p0) k.parts.length c2),(30,.int .i64 (k.parts.length:Int)),(31,.int .i64 (m.1:Int)),(35,.slice a7 x1.length c6),(36,.int .i64 (x1.length:Int)),(37,.int .i64 (n.1:Int))] a w) ?_ ?_
    ·intro a w b c;exact ⟨u,B,b,c.cuE J⟩
    rintro j n y1 h8 hI a w ⟨x,F,b,c⟩;refine TG.ap ?_ b c;unfold FN at h8;refine C (dY J J J (N (sq ?_)));refine ci J (fun h9=>?_) (fun h9=>?_)
    ·have ag:=aJ h9 h8;refine sk (sq (bk (C ?_)));obtain ⟨q,hB,ah⟩:=L ag;obtain ⟨p1,rfl⟩:=h7.adr hB;have ai:=h7.atF hB;refine cY oE jY J J J J (aW hB) (cP CE jY J J (P 0 J ai) J (va (cs:=[.int .i64 q.paragraph.anchor,.string (bs q.paragraph.text),.bool q.removed]) zeroValue130 jY J J J J J J J J fun q1 t f=>(N (C (aX 2 oF J Z4 (U G4 J ((P 0 J f).drop 2) J (nt J J (N ?_))))))));obtain ⟨t0,hJ,aj⟩:=L ah;refine jn (fun a w=>∃ (a4:Option Addr) (c4:Nat),SJ M W H [t,e,s,H] [(2,S.list a4 c4 98 2 aY t0)] 52 [(9,.slice a4 t0.length c4),(29,.slice (some p0) k.parts.length c2),(30,.int .i64 (k.parts.length:Int)),(31,.int .i64 (m.1:Int)),(35,.slice (some p1) x1.length c6),(36,.int .i64 (x1.length:Int)),(37,.int .i64 (n.1:Int))] a w) ?_ ?_
     ·refine cb J (fun h1=>?_) (fun h1=>?_)
      ·replace h1:=kX h1
       have an:=bJ h1 hJ;refine rg (A J (aX 0 oF J nC (cP HR nC J J ((P 0 J f).take 2) J ?_)));obtain ⟨ao,aq⟩:=aF an;have:=fI n.2 [q.paragraph];have:=nX q.paragraph;refine AZ 2 aY (l:=n.2) q.paragraph T12.E91 J J J J J J J J J J J J ao fun a8 c7 u0=>(I J ?_);cases aq;intro a w b c;exact ⟨a8,c7,b,c.cuE J⟩
      replace h1:=kY h1
      have ar:=aJ h1 hJ;refine sk ?_;cases ar;intro a w b c;exact ⟨x,F,b,c.cuE J⟩
     rintro a w ⟨a4,c4,b,c⟩;refine TG.ap ?_ b c;refine rg (dO J J J (by omega) (A J (N ?_)));cases aj;intro a w b c;exact ⟨_,hI,a4,c4,b.selH [1,2,3] J,c.cuE J⟩
    have au:=aU h9 h8;refine xt J ?_;cases au;obtain rfl:=dJ.out hI;intro a w b c;exact ⟨x,F,b,c.cuE J⟩
   rintro a w ⟨a3,c3,b,c⟩;apply TG.ap ?_ b c;refine rg (dO J J J (by omega) (A J (N ?_)));cases af;intro a w b c;exact ⟨_,hF,a3,c3,b,c.cuE J⟩
  have aw:=aU h5 h4;refine xt J ?_;cases aw;obtain rfl:=dJ.out hF;intro a w b c;exact ⟨u,B,b,c.cuE J⟩
 rintro a w ⟨a5,c5,b,c⟩;apply TG.ap ?_ b c;refine C (A J (a1 J (I J (bK ?_))));cases hW;intro a w b c;refine pI c J J J ?_;exact ⟨⟨_,_,J,(b.listOut 2 J (fun _=>J))⟩,b.ext⟩

theorem CO {M:Prop} {W w:World} {H V:Hp} {σr:aL} {o:Nat} {R:List Value} (j:aH) (bf:aT V R j) {dg:List Value} (l:aK) (ee:(aG aO) V dg l) {r:aH⊕Int} (hr:sV j l=some r) (b:St M W H [V] ((1,bF o 77 R)::σr) w):Calls prog 132 #[.pointer (some ⟨o,0,none⟩),.agg dg.toArray] w (fJ M W H V σr (rT (fun y e K A'=>∃ (dl:List Value),e=.returned (.tuple #[])∧A'=[(1,bF o 77 dl)]∧aT K dl y) (fun u=>.iface 155 (.agg #[.int .i64 u])) [(1,bF o 77 R)] r)):=by
 obtain rfl:=ee;unfold sV at hr;obtain ⟨z1,rfl,n⟩:=bf;have:=n.lens;refine cZ (M:=M) func132 J ntmps132 J b ?_;refine C (bO 2 J J J fun b3=>(N (sq ?_)));obtain ⟨t1,h3,Z⟩:=L hr;refine jn (fun a w=>∃ t0,t1=.inl t0∧SJ M W H [V] ([(2,bF b3 119 [.int .i64 l.number,.int .i64 l.day,.int .u8 l.kind,.int .i64 l.anchor,.string (bs l.text),.int .i64 l.new_]),(1,bF o 77 (cJ j.state z1))]++σr) 62 [(0,.pointer (some (⟨o,0,none⟩))),(3,.pointer (some (⟨b3,0,none⟩)))] a w) ?_ ?_
 ·refine dV 17 mixed (by kernel_rfl) J (E J (A J D) (E J (nl J J D) (E J (aX 0 fH J eQ D) (E J (aX 7 eD J Z4 D) (E J (U G4 J (((sO 1 J).drop 7).take 1) J D) (E J (A J D) ?_))))));rcases Bool.eq_false_or_eq_true (j.state.bound) with d | d
  ·have hB:=aJ d h3;refine E J (gN J J (d) (A J D)) (E J (gN J J (d) (nl J J D)) (E J (gN J J (d) (aX 0 fH J eQ D)) (E J (gN J J (d) (aX 0 eD J Z3 D)) (E J (gN J J (d) (U G3 J ((sO 1 J).take 1) J D)) (E J (gN J J (d) (A J D)) (E J (gN J J (d) (nl J J D)) (E J (gN J J (d) (aX 0 fH J eQ D)) (E J (gN J J (d) (aX 2 eD J gZ D)) (E J (gN J J (d) (aX 1 mG J Z3 D)) (E J (gN J J (d) (U G3 J (((sO 1 J).drop 3).take 1) J D)) (DF.nil fun ab k=>?_)))))))))));refine gN J J (d) (nH J J J (pT J J (d) J ?_));obtain ⟨r2,h4,h5⟩:=L hB;rcases r2 with y0 | y0
   ·refine bB eZ J (fun w H m le=>iQ (fB (decide (j.state.volume.bound < j.state.day)) 8 h4)) (N ?_);cases h5;intro a w b c;exact ⟨_,J,b.selH [1] J,c.cuE J⟩
   refine eA eZ J J J (fun w H m le=>iT (fB (decide (j.state.volume.bound < j.state.day)) 8 h4)) ?_;cases h5;refine TG.del 2 ?_;cases Z;intro a w b c;exact ⟨c.defers,V,[_],b.selH [1,1] J,J,J⟩
  have hC:=bJ d h3;refine jF 11 J J (d) J ⟨J,J,J,J,J,J,J,J,J,J,J,tv⟩ (DF.nil fun ad k=>(gF J J (d) J (pF J J (d) J ?_)));obtain ⟨r3,h6,h7⟩:=L hC;rcases r3 with y1 | y1
  ·refine bB eZ J (fun w H m le=>iQ (fB false 8 h6)) (N ?_);cases h7;intro a w b c;exact ⟨_,J,b.selH [1] J,c.cuE J⟩
  refine eA eZ J J J (fun w H m le=>iT (fB false 8 h6)) ?_;cases h7;refine TG.del 2 ?_;cases Z;intro a w b c;exact ⟨c.defers,V,[_],b.selH [1,1] J,J,J⟩
 rintro a w ⟨t0,rfl,b,c⟩;refine TG.ap ?_ b c;refine C (A J (nl J J (aX 0 fH J eQ (aX 0 eD J Z3 (U G3 J ((sO 1 J).take 1) J (aX 1 gG J Z3 (eP 2 (cs:=[.int .i64 j.state.day]) Z3 J J J J J J J (N (sq (dV 6 mixed (by kernel_rfl) J ?_))))))))));refine E J (A J D) (E J (nl J J D) (E J (aX 0 fH J eQ D) (E J (aX 8 eD J JC D) (E J (U HN J (((sO 1 J).drop 8).take 1) J D) (E J (cP mY iU J J (sO 2 J) J D) (DF.nil fun ae k=>?_))))));obtain ⟨r1,hE,hG⟩:=L Z;refine gA aCl J J J J (fun w H m le=>aFw m (n.f1.mono (aG.mono _) le.i) ({l with day:=j.state.day}:aK) J hE) ?_;rintro v_ af ⟨B,Y,rfl,h2⟩;have:=h2.len;refine I J (sq ?_);obtain ⟨g,hI,hJ⟩:=L hG;refine dV 16 mixed (by kernel_rfl) J (E J (A J D) (E J (nl J J D) (E J (aX 0 fH J eQ D) (E J (aX 2 eD J gZ D) (E J (cP kJ gZ J J (((sO 1 J).drop 2).take 5) J D) (E J (A J D) (E J (A J D) (E J (nl J J D) (E J (aX 0 fH J eQ D) (E J (aX 0 eD J Z3 D) (E J (U G3 J ((sO 1 J).take 1) J D) ?_)))))))))))
 refine DF.und (α:=Option Addr×Nat) (none,0) (fun q=>.tuple #[.slice q.1 g.1.length q.2,.int .i64 g.2]) (fun (q:Option Addr×Nat) K=>Sl (aG aY) 2 K q.1 q.2 g.1) (fun _ _ _ h x=>x.mono (aG.mono _) h) (by kernel_rfl) J (fun a w K b c k=>TG.pa b c (gA C49 J J J J (fun w H m le=>w49 m j.state.volume ⟨_,_,J,(n.f0.mono (bT.mono) le.v)⟩ (h2.mono (aG.mono _) le.i) j.state.day hI) (by
   rintro v_ ah ⟨a3,c3,rfl,hK⟩
   exact qV (f:=fun q=>.tuple #[.slice q.1 g.1.length q.2,.int .i64 g.2]) (G:=(fun (q:Option Addr×Nat) K=>Sl (aG aY) 2 K q.1 q.2 g.1)) (a3,c3) (fun _ _ _ h x=>x.mono (aG.mono _) h) hK))) ?_
 rintro ⟨p,s⟩;refine uC (.tuple #[.slice p g.1.length s,.int .i64 g.2]) (fun K=>Sl (aG aY) 2 K p s g.1) (fun _ _ h x=>x.mono (aG.mono _) h) J (fun a w K b c k F=>TG.pa b c (A J (F (k.1 J)))) (uC (.slice p g.1.length s) (fun K=>Sl (aG aY) 2 K p s g.1) (fun _ _ h x=>x.mono (aG.mono _) h) J (fun a w K b c k F=>TG.pa b c (ex J J J (F (k.1 J)))) (E J (ex J J J D) (uC (.slice p g.1.length s) (fun K=>Sl (aG aY) 2 K p s g.1) (fun _ _ h x=>x.mono (aG.mono _) h) J (fun a w K b c k F=>TG.pa b c (a1 J (F (k.1 J)))) (DF.nil fun ai k=>?_))));obtain ⟨hN,hO,hP,hL,_⟩:=k;have:=hL.len;refine I J (C (A J ?_));obtain ⟨r4,h8,h9⟩:=L hJ
 let t:List Value:=((cJ j.state z1).set 8 (.slice B r1.length Y))
 rcases r4 with y2 | y2
 ·refine bB jG J (fun w H m le=>iQ (jH g.2 h8)) (N (rg (A J (A J (nl J J (aX 0 fH J eQ (aX 8 eD J JC (eP 1 (cs:=[.slice B r1.length Y]) JC J J J J J J J (N (TG.del 2 (TG.pack (fun K=>aT K t (⟨({j.state with errata:=r1}:cV)⟩:aH)) (fun H le=>⟨{z1 with a1:=B,c1:=Y},J,{n.mono le.v with f1:=(h2.mono (aG.mono _) le.i)}⟩) fun z hM=>?_)))))))))));cases h9;intro a w b c;refine eG c J ?_;exact ⟨z,[(1,bF o 77 t)],b.selH [0,4] J,_,J,J,hM⟩
 refine eA jG J J J (fun w H m le=>iT (jH g.2 h8)) (TG.del 2 ?_);cases h9;intro a w b c;exact ⟨c.defers,V,[_],b.selH [3,3] J,J,J⟩

theorem w85 {M:Prop} {W w:World} {H V:Hp} {σr:aL} {f:Nat} {n:List Value} (g:aH) (bf:aT V n g) {G:Option Addr} {F:Nat} {bo:List Int} (k:Sl (aG (bX .i64)) 1 V G F bo) (text:aE) {r:aH⊕Int} (hr:RA g bo text=some r) (b:St M W H [V] ((1,bF f 77 n)::σr) w):Calls prog 85 #[.pointer (some ⟨f,0,none⟩),.slice G bo.length F,.string (bs text)] w (fJ M W H V σr (rT (fun y e K A'=>∃ (R:List Value),e=.returned (.tuple #[])∧A'=[(1,bF f 77 R)]∧aT K R y) (fun u=>.iface 155 (.agg #[.int .i64 u])) [(1,bF f 77 n)] r)):=by
 have:=k.len;unfold RA at hr;obtain ⟨z,rfl,c⟩:=bf;have:=c.lens;refine cZ (M:=M) func85 J ntmps85 J b ?_;obtain ⟨v,d,s⟩:=L hr;obtain ⟨p6,rfl⟩:=k.adr d;have q:=k.atF d;obtain ⟨t,Y,h5⟩:=L s;have h6:=k.atF Y;refine dV 9 mixed (by kernel_rfl) J (E J (A J D) (E J (A J D) (E J (cY eV Z3 J J J J (aW d) D) (E J (U G3 J (P 1 J q) J D) (E J (A J D) (E J (cY eV Z3 J J J J (aW Y) D) (E J (U G3 J (P 1 J h6) J D) (E J (A J D) (E J (bu (cs:=[.int .i64 v,.int .i64 0,.int .u8 0,.int .i64 t,.string (bs text),.int .i64 0]) T12.B119 J J J D) (DF.nil fun ab hF=>?_))))))))));obtain ⟨r0,Z,h3⟩:=L h5
 let h:aL:=[(1,bF f 77 (cJ g.state z))]
 rcases r0 with l | l
 ·refine pX h (B:=([]++σr)) J CB J J J J (fun w V b le=>CO g ⟨z,J,{c.mono le.i with f0:=(c.f0.mono (bT.mono) le.i)}⟩ (⟨v,0,0,t,text,0⟩:aK) J Z b) ?_;rintro e_ ad A_ a w ⟨c0,rfl,rfl,h4⟩ b j;refine wQ (eL J j b ?_);have h8:=h4;obtain ⟨x,rfl,p⟩:=h4;have:=p.lens;refine N (TG.pack (fun K=>aT K (cJ l.state x) l) (fun H le=>⟨x,J,{p.mono le.o with f0:=(p.f0.mono (bT.mono) le.o)}⟩) fun m h7=>?_);cases h3;intro a w b j;refine eG j J ?_;exact ⟨m,[(1,bF f 77 (cJ l.state x))],b.selH [0,3] J,_,J,J,h7⟩
 refine pX h (B:=([]++σr)) J CB J J J J (fun w V b le=>CO g ⟨z,J,{c.mono le.i with f0:=(c.f0.mono (bT.mono) le.i)}⟩ (⟨v,0,0,t,text,0⟩:aK) J Z b) ?_;rintro e_ ae A_ a w ⟨rfl,rfl⟩ b j;refine QD ?_;cases h3;exact ⟨j.defers,V,[_],b.selH [2,2] J,J,J⟩

theorem w86 {M:Prop} {W w:World} {H V:Hp} {σr:aL} {f:Nat} {n:List Value} (g:aH) (bf:aT V n g) {G:Option Addr} {F:Nat} {bo:List Int} (k:Sl (aG (bX .i64)) 1 V G F bo) (R:aE) {r:aH⊕Int} (hr:RB g bo R=some r) (b:St M W H [V] ((1,bF f 77 n)::σr) w):Calls prog 86 #[.pointer (some ⟨f,0,none⟩),.slice G bo.length F,.string (bs R)] w (fJ M W H V σr (rT (fun y e K A'=>∃ (Y:List Value),e=.returned (.tuple #[])∧A'=[(1,bF f 77 Y)]∧aT K Y y) (fun u=>.iface 155 (.agg #[.int .i64 u])) [(1,bF f 77 n)] r)):=by
 have:=k.len;unfold RB at hr;obtain ⟨z,rfl,c⟩:=bf;have:=c.lens;refine cZ (M:=M) func86 J ntmps86 J b ?_;obtain ⟨v,d,s⟩:=L hr;obtain ⟨p6,rfl⟩:=k.adr d;have q:=k.atF d;obtain ⟨t,Z,h5⟩:=L s;have h6:=k.atF Z;refine dV 8 mixed (by kernel_rfl) J (E J (A J D) (E J (A J D) (E J (cY eV Z3 J J J J (aW d) D) (E J (U G3 J (P 1 J q) J D) (E J (A J D) (E J (cY eV Z3 J J J J (aW Z) D) (E J (U G3 J (P 1 J h6) J D) (E J (bu (cs:=[.int .i64 v,.int .i64 0,.int .u8 1,.int .i64 t,.string (bs []),.int .i64 0]) T12.B119 J J J D) (DF.nil fun ab hF=>?_)))))))));obtain ⟨r0,h2,h3⟩:=L h5
 let h:aL:=[(1,bF f 77 (cJ g.state z))]
 rcases r0 with l | l
 ·refine pX h (B:=([]++σr)) J CB J J J J (fun w V b le=>CO g ⟨z,J,{c.mono le.i with f0:=(c.f0.mono (bT.mono) le.i)}⟩ (⟨v,0,1,t,[],0⟩:aK) J h2 b) ?_;rintro e_ ad A_ a w ⟨c0,rfl,rfl,h4⟩ b j;refine wQ (eL J j b ?_);have h8:=h4;obtain ⟨x,rfl,p⟩:=h4;have:=p.lens;refine N (TG.pack (fun K=>aT K (cJ l.state x) l) (fun H le=>⟨x,J,{p.mono le.o with f0:=(p.f0.mono (bT.mono) le.o)}⟩) fun m h7=>?_);cases h3;intro a w b j;refine eG j J ?_;exact ⟨m,[(1,bF f 77 (cJ l.state x))],b.selH [0,3] J,_,J,J,h7⟩
 refine pX h (B:=([]++σr)) J CB J J J J (fun w V b le=>CO g ⟨z,J,{c.mono le.i with f0:=(c.f0.mono (bT.mono) le.i)}⟩ (⟨v,0,1,t,[],0⟩:aK) J h2 b) ?_;rintro e_ ae A_ a w ⟨rfl,rfl⟩ b j;refine QD ?_;cases h3;exact ⟨j.defers,V,[_],b.selH [2,2] J,J,J⟩

theorem w87 {M:Prop} {W w:World} {H V:Hp} {σr:aL} {f:Nat} {n:List Value} (g:aH) (bf:aT V n g) {R:Option Addr} {G:Nat} {bo:List Int} (h:Sl (aG (bX .i64)) 1 V R G bo) (text:aE) {r:aH⊕Int} (hr:RD g bo text=some r) (b:St M W H [V] ((1,bF f 77 n)::σr) w):Calls prog 87 #[.pointer (some ⟨f,0,none⟩),.slice R bo.length G,.string (bs text)] w (fJ M W H V σr (rT (fun y e K A'=>∃ (Y:List Value),e=.returned (.tuple #[])∧A'=[(1,bF f 77 Y)]∧aT K Y y) (fun u=>.iface 155 (.agg #[.int .i64 u])) [(1,bF f 77 n)] r)):=by
 have:=h.len;unfold RD at hr;obtain ⟨F,rfl,c⟩:=bf;have:=c.lens;refine cZ (M:=M) func87 J ntmps87 J b ?_;obtain ⟨x,d,s⟩:=L hr;obtain ⟨p6,rfl⟩:=h.adr d;have q:=h.atF d;obtain ⟨t,Z,h6⟩:=L s;have h7:=h.atF Z;obtain ⟨v,h2,h8⟩:=L h6;have h9:=h.atF h2;refine dV 12 mixed (by kernel_rfl) J (E J (A J D) (E J (A J D) (E J (cY eV Z3 J J J J (aW d) D) (E J (U G3 J (P 1 J q) J D) (E J (A J D) (E J (cY eV Z3 J J J J (aW Z) D) (E J (U G3 J (P 1 J h7) J D) (E J (A J D) (E J (A J D) (E J (cY eV Z3 J J J J (aW h2) D) (E J (U G3 J (P 1 J h9) J D) ?_)))))))))));refine E J (bu (cs:=[.int .i64 x,.int .i64 0,.int .u8 2,.int .i64 t,.string (bs text),.int .i64 v]) T12.B119 J J J D) (DF.nil fun ab hF=>?_);obtain ⟨r0,h3,h4⟩:=L h8
 let j:aL:=[(1,bF f 77 (cJ g.state F))]
 rcases r0 with l | l
 ·refine pX j (B:=([]++σr)) J CB J J J J (fun w V b le=>CO g ⟨F,J,{c.mono le.i with f0:=(c.f0.mono (bT.mono) le.i)}⟩ (⟨x,0,2,t,text,v⟩:aK) J h3 b) ?_;rintro e_ ad A_ a w ⟨c0,rfl,rfl,h5⟩ b k;refine wQ (eL J k b ?_);have hC:=h5;obtain ⟨z,rfl,p⟩:=h5;have:=p.lens;refine N (TG.pack (fun K=>aT K (cJ l.state z) l) (fun H le=>⟨z,J,{p.mono le.o with f0:=(p.f0.mono (bT.mono) le.o)}⟩) fun m hB=>?_);cases h4;intro a w b k;refine eG k J ?_;exact ⟨m,[(1,bF f 77 (cJ l.state z))],b.selH [0,3] J,_,J,J,hB⟩
 refine pX j (B:=([]++σr)) J CB J J J J (fun w V b le=>CO g ⟨F,J,{c.mono le.i with f0:=(c.f0.mono (bT.mono) le.i)}⟩ (⟨x,0,2,t,text,v⟩:aK) J h3 b) ?_;rintro e_ ae A_ a w ⟨rfl,rfl⟩ b k;refine QD ?_;cases h4;exact ⟨k.defers,V,[_],b.selH [2,2] J,J,J⟩

theorem w25 (q:H.le (hp W)) {bz:List Value} (h:bE) (cq:(bW) H bz h) {x:Option Addr} {u:Nat} {errata:List aK} (Z:Sl (aG aO) 6 H x u errata) (anchor:Int) (o:Int) {r:aE×Bool×Int} (hr:KX h errata anchor o=some r):Calls prog 25 #[.agg bz.toArray,.slice x errata.length u,.int .i64 anchor,.int .i64 o] W (bN M W (.tuple #[.string (bs r.1),.bool r.2.1,.int .i64 r.2.2])):=by
 have e:=cq;obtain ⟨Y,y,rfl,be⟩:=cq;have:=be.len;have:=Z.len;unfold KX at hr;refine aN (M:=M) func25 J ntmps25 J q ?_
 let k:List Value:=[.int .i64 h.number,.int .i64 h.bound,.int .i64 h.height,.int .i64 h.width,.slice Y h.parts.length y]
 refine C (bI (cs:=k) J J J fun q4 t F=>(a1 J (a1 J (I J (sq (C (cP kJ gZ J J (P 0 J F) J (A J ?_))))))));obtain ⟨r7,bf,G⟩:=L hr;refine bB WS J (fun w H q le=>XR q h (bW.mono _ _ _ _ le.i e) (Z.mono (aG.mono _) le.i) bf) (I J (C (A J (kZ J J J (N ?_)))));refine ci J (fun h3=>?_) (fun h3=>?_)
 ·have hV:=aJ h3 G;refine C (A J (a1 J (a1 J (I J (bK ?_)))));cases hV;exact EQ J J J J
 have hW:=aU h3 G;refine sk (sq (C (A J ?_)));obtain ⟨r1,hX,hL⟩:=L hW;refine bB SA J (fun w H q le=>SV o hX) (nt J J (N ?_));refine cb J (fun h0=>?_) (fun h0=>?_)
 ·replace h0:=kX h0
  have ab:=bJ h0 hL;refine C (a1 J (a1 J (I J (bK ?_))));cases ab;exact EQ J J J J
 replace h0:=kY h0
 have ac:=aJ h0 hL;refine sk (C (cP kJ gZ J J (P 0 J F) J (A J (A J ?_))));obtain ⟨p,ad,af⟩:=L ac;refine gA C44 J J J J (fun w H q le=>w44 q h (bW.mono _ _ _ _ le.i e) (Z.mono (aG.mono _) le.i) o ad) ?_;rintro v_ f ⟨s,c3,rfl,hM,hN⟩;have bn:=hN;obtain ⟨a3,c4,a0,V,rfl,ag,B⟩:=hN;have:=ag.len;have:=B.len;refine I J (C (A J (A J ?_)));obtain ⟨d,ah,hO⟩:=L af
 let m:List Value:=[.int .i64 (d.2.1:Int),.int .i64 (d.1:Int),.bool d.2.2]
 refine BA C48 func48 J ntmps48 J J J J (fun v w=>(v=.tuple m.toArray∧St M W H [f,t,H] [] w)) ?_ ?_
 ·refine C (a1 J (a1 J (I J (sc (sq (lb (sq (C ?_))))))));refine A J (nl J J (aX 5 oS J oD (U qK J ((P 0 J hM).drop 5) J (dU mE J J (A J (N ?_))))));obtain ⟨n,ai,aj⟩:=L ah;refine jn (SJ M W H [f,t,H] [] 40 [(4,.int .i64 (n.1:Int)),(5,.int .i64 (n.2.1:Int)),(6,.bool n.2.2)]) ?_ ?_
  ·refine bk ?_;refine lp ai (fun l=>SJ M W H [f,t,H] [] 40 [(1,.int .i64 anchor),(4,.int .i64 (l.1:Int)),(5,.int .i64 (l.2.1:Int)),(6,.bool l.2.2.2),(14,.slice a0 p.parts.length V),(15,.int .i64 (p.parts.length:Int)),(16,.int .i64 (l.2.2.1:Int))]) ?_ ?_
   ·exact cuE J
   rintro j l y0 h4 h5 a w ⟨c,b⟩;refine TG.ap ?_ c b;unfold rY at h4;refine C (dY J J J (N (sq ?_)));refine ci J (fun h6=>?_) (fun h6=>?_)
   ·have an:=aJ h6 h4;refine sk (sq (bk (C (A J ?_))));obtain ⟨x2,h7,ao⟩:=L an;obtain ⟨p0,rfl⟩:=B.adr h7;obtain ⟨c5,bi,aq,hP⟩:=B.at h7;have bj:=hP;obtain ⟨a2,c1,rfl,h8⟩:=hP;have:=h8.len;refine cY mE qL J J J J (aW h7) (U tK J (P 0 J aq) J (a1 J (I J (C (A J (dU oE J J (A J (N ?_))))))));obtain ⟨aa,ar,hQ⟩:=L ao;refine jn (fun a w=>∃ R,aa=.inl R∧SJ M W H [f,t,H] [] 40 [(1,.int .i64 anchor),(4,.int .i64 (R.1:Int)),(5,.int .i64 (R.2.1:Int)),(6,.bool R.2.2),(14,.slice (some p0) p.parts.length V),(15,.int .i64 (p.parts.length:Int)),(16,.int .i64 (l.2.2.1:Int))] a w) ?_ ?_
    ·refine bk ?_;refine lp ar (fun K=>SJ M W H [f,t,H] [] 40 [(1,.int .i64 anchor),(4,.int .i64 (K.1:Int)),(5,.int .i64 (K.2.1:Int)),(6,.bool K.2.2.2),(7,.int .i64 (l.2.2.1:Int)),(14,.slice (some p0) p.parts.length V),(15,.int .i64 (p.parts.length:Int)),(16,.int .i64 (l.2.2.1:Int)),(21,.slice a2 x2.length c1),(22,.int .i64 (x2.length:Int)),(23,.int .i64 (K.2.2.1:Int))]) ?_ ?_
     ·exact cuE J
     rintro j K y1 h9 hB a w ⟨c,b⟩;refine TG.ap ?_ c b;unfold AH at h9;refine C (dY J J J (N (sq ?_)));refine ci J (fun hC=>?_) (fun hC=>?_)
     ·have au:=aJ hC h9;refine sk (sq (bk (C (A J ?_))));obtain ⟨x0,hE,hR⟩:=L au;obtain ⟨p3,rfl⟩:=h8.adr hE;have aw:=h8.atF hE;refine cY oE jY J J J J (aW hE) (cP CE jY J J (P 0 J aw) J (al 1 (cs:=[.int .i64 0,.string (bs []),.bool false]) zeroValue130 J J fun b0=>(a1 J (eP 1 (cs:=[.int .i64 x0.paragraph.anchor,.string (bs x0.paragraph.text),.bool x0.removed]) jY J J J J J J J (N (C (aX 0 oF J nC (aX 0 CN J Z3 (U G3 J ((sO 1 J).take 1) J (A J ?_))))))))));refine fQ J J J (N ?_);refine ci J (fun hG=>?_) (fun hG=>?_)
      ·have ax:=aJ hG hR;refine C (A J (A J (a1 J (a1 J (I J (xt J ?_))))));obtain ⟨z0,ay,rfl⟩:=mR ax;obtain rfl:=dJ.out hB;cases hQ;refine TG.del 1 ?_;cases ay;obtain rfl:=dJ.out h5;exact cuE J
      have az:=aU hG hR;refine sk (rg (dO J J J (by omega) (A J (N (TG.del 1 ?_)))));cases az;intro a w c b;exact ⟨_,hB,c,b.cuE J⟩
     have a5:=aU hC h9;refine xt J ?_;cases a5;obtain rfl:=dJ.out hB;intro a w c b;exact ⟨_,J,c,b.cuE J⟩
    rintro a w ⟨R,rfl,c,b⟩;apply TG.ap ?_ c b;refine rg (dO J J J (by omega) (A J (N ?_)));cases hQ;intro a w c b;exact ⟨_,h5,c,b.cuE J⟩
   have a6:=aU h6 h4;refine xt J ?_;cases a6;obtain rfl:=dJ.out h5;exact cuE J
  rintro a w ⟨c,b⟩;apply TG.ap ?_ c b;refine C (A J (A J (A J (a1 J (a1 J (I J (bK ?_)))))));cases aj;intro a w c b;refine PD b J J J J ?_;exact ⟨_,J,⟨J,c⟩⟩
 rintro a w v b (⟨rfl,c⟩);refine eL J b c (A J (ex J J J (ex J J J (ex J J J (a1 J (a1 J (I J (sq (C ?_)))))))));refine A J (nt J J (N ?_));refine cb J (fun h1=>?_) (fun h1=>?_)
 ·replace h1:=kX h1
  have a7:=bJ h1 hO;refine C (a1 J (a1 J (I J (bK ?_))));cases a7;exact EQ J J J J
 replace h1:=kY h1
 have a8:=aJ h1 hO;refine sk (C (A J (nl J J (aX 5 oS J oD (U qK J ((P 0 J hM).drop 5) J (A J ?_))))));obtain ⟨x3,hI,a9⟩:=L a8;obtain ⟨p1,rfl⟩:=B.adr hI;obtain ⟨c6,bl,bb,hT⟩:=B.at hI;have bm:=hT;obtain ⟨a4,c2,rfl,hJ⟩:=hT;have:=hJ.len;refine cY mE qL J J J J (aW hI) (U tK J (P 0 J bb) J (A J ?_));obtain ⟨x1,hK,bc⟩:=L a9;obtain ⟨p2,rfl⟩:=hJ.adr hK;have bd:=hJ.atF hK
 let z:List Value:=[.int .i64 x1.paragraph.anchor,.string (bs x1.paragraph.text),.bool x1.removed]
 refine cY oE jY J J J J (aW hK) (cP CE jY J J (P 0 J bd) J (va (cs:=z) zeroValue130 jY J J J J J J J J fun q1 bg g=>(N (sq ?_))));refine TG.cut (L':=[(0,.agg k.toArray),(1,.slice x errata.length u),(2,.int .i64 anchor),(3,.int .i64 o),(4,.pointer (some q4)),(9,.bool false),(10,.int .i64 0),(11,.int .i64 r7),(12,.pointer (some s)),(13,.int .i64 (d.2.1:Int)),(14,.int .i64 (d.1:Int)),(15,.bool d.2.2),(16,.pointer (some q1)),(17,.agg k.toArray),(18,.slice x errata.length u),(19,.int .i64 r7),(20,.int .i64 r7),(21,.bool (decide (r7≠0))),(23,.int .i64 o),(24,.bool r1),(25,.bool (!r1)),(26,.agg k.toArray),(27,.slice x errata.length u),(28,.int .i64 o),(29,.pointer (some s)),(30,.tuple m.toArray),(31,.pointer (some s)),(32,.int .i64 anchor),(33,.tuple m.toArray),(34,.int .i64 (d.2.1:Int)),(35,.int .i64 (d.1:Int)),(36,.bool d.2.2),(37,.bool d.2.2),(38,.bool (!d.2.2)),(39,.pointer (some s)),(40,.pointer (some s)),(41,.pointer (some (s.add 5))),(42,.slice (some p1) p.parts.length V),(43,.int .i64 (d.2.1:Int)),(44,.pointer (some (p1.add (d.2.1*1)))),(45,.slice (some p2) x3.length c2),(46,.int .i64 (d.1:Int)),(47,.pointer (some (p2.add (d.1*3)))),(48,.agg z.toArray)]) ⟨J,J,J,J,J,J,J,J,J,J,J,J,J,J,J,J,J,J,J,J,J,J,J,J,J,J,J,J,J,J,J,J,J,J,J,J,J,J,J,J,J,J,J,J,tv⟩ ?_;refine dV 6 mixed (by kernel_rfl) J (E J (aX 0 oF J nC D) (E J (aX 1 CN J Z9 D) (E J (U G9 J (((P 1 J g).drop 1).take 1) J D) (E J (aX 2 oF J Z4 D) (E J (U G4 J ((P 1 J g).drop 2) J D) (E J (a1 J D) (DF.nil fun bh hF=>(a1 J (I J (bK ?_))))))))));cases bc;exact EQ J J J J

theorem w23 (hH:H.le (hp W)) {bz:List Value} (b:bE) (cq:(bW) H bz b) {ak:Option Addr} {ae:Nat} {errata:List aK} (ba:Sl (aG aO) 6 H ak ae errata) {r:List cK} (hr:CX b errata=some r):Calls prog 23 #[.agg bz.toArray,.slice ak errata.length ae] W (eW M H W (fun v K=>∃ (G:Option Addr) (s:Nat),v=.slice G r.length s∧Sl (aG eO) 6 K G s r)):=by
 have q:=cq;obtain ⟨ad,Y,rfl,x⟩:=cq;have:=x.len;have:=ba.len;unfold CX at hr;refine aN (M:=M) func23 J ntmps23 J hH ?_;refine C (bI (cs:=[.int .i64 b.number,.int .i64 b.bound,.int .i64 b.height,.int .i64 b.width,.slice ad b.parts.length Y]) J J J fun q4 y g=>(I J (C (cP kJ gZ J J (P 0 J g) J (A J (aX 1 mG J Z3 (U G3 J (((P 0 J g).drop 1).take 1) J ?_)))))));obtain ⟨r7,b6,b5⟩:=L hr;refine gA C44 J J J J (fun w H hH le=>w44 hH b (bW.mono _ _ _ _ le.i q) (ba.mono (aG.mono _) le.i) b.bound b6) ?_;rintro v_ o ⟨q1,c8,rfl,hN,hB⟩;have cc:=hB;obtain ⟨a9,c9,a7,c2,rfl,hO,h0⟩:=hB;have:=hO.len;have:=h0.len;refine I J (C (I J (sq (C (A J (nl J J (aX 5 oS J oD ?_)))))));refine U qK J ((P 0 J hN).drop 5) J (dU mE J J (A J (N (TG.nilRow 2 82 6 (TG.as 2 (z:=S.list none 0 82 6 eO ([]:List cK)) J J ?_)))));obtain ⟨aa,hP,hQ⟩:=L b5;refine jn (fun a w=>∃ (a5:Option Addr) (c5:Nat),SJ M W H [o,y,H] [(2,S.list a5 c5 82 6 eO aa)] 93 [(4,.slice a5 aa.length c5)] a w) ?_ ?_
 ·refine bk ?_;refine lp hP (fun k a w=>∃ (B:Option Addr) (R:Nat),SJ M W H [o,y,H] [(2,S.list B R 82 6 eO k.2.2)] 93 [(2,.pointer (some q4)),(4,.slice B k.2.2.length R),(6,.int .i64 k.2.1),(22,.slice a7 r7.parts.length c2),(23,.int .i64 (r7.parts.length:Int)),(24,.int .i64 (k.1:Int))] a w) ?_ ?_
  ·intro a w d e;exact ⟨none,0,d,e.cuE J⟩
  rintro j k y0 h1 hC a w ⟨B,R,d,e⟩;refine TG.ap ?_ d e;unfold FQ at h1;refine C (dY J J J (N (sq ?_)));refine ci J (fun h2=>?_) (fun h2=>?_)
  ·have hR:=aJ h2 h1;refine sk (sq (bk (C (A J ?_))));obtain ⟨x2,h3,hT⟩:=L hR;obtain ⟨p0,rfl⟩:=h0.adr h3;obtain ⟨cR,cd,hV,hE⟩:=h0.at h3;have ce:=hE;obtain ⟨a6,c6,rfl,h4⟩:=hE;have:=h4.len;refine cY mE qL J J J J (aW h3) (U tK J (P 0 J hV) J (a1 J (I J (C (a1 J (I J (sq (sq ?_))))))));refine rg (A J (dU oE J J (A J (N ?_))));obtain ⟨u,hW,hX⟩:=L hT;refine jn (fun a w=>∃ (a3:Option Addr) (c3:Nat),SJ M W H [o,y,H] [(2,S.list a3 c3 82 6 eO u.2)] 93 [(2,.pointer (some q4)),(4,.slice a3 u.2.length c3),(6,.int .i64 k.2.1),(9,.int .i64 u.1),(22,.slice (some p0) r7.parts.length c2),(23,.int .i64 (r7.parts.length:Int)),(24,.int .i64 (k.1:Int))] a w) ?_ ?_
   ·refine bk ?_;refine lp hW (fun c a w=>∃ (F:Option Addr) (V:Nat),SJ M W H [o,y,H] [(2,S.list F V 82 6 eO c.2.2.2)] 93 [(2,.pointer (some q4)),(4,.slice F c.2.2.2.length V),(6,.int .i64 k.2.1),(7,.int .i64 (k.1:Int)),(9,.int .i64 c.2.2.1),(10,.int .i64 (c.1:Int)),(22,.slice (some p0) r7.parts.length c2),(23,.int .i64 (r7.parts.length:Int)),(24,.int .i64 (k.1:Int)),(29,.slice a6 x2.length c6),(30,.int .i64 (x2.length:Int)),(31,.int .i64 (c.2.1:Int))] a w) ?_ ?_
    ·intro a w d e;exact ⟨B,R,d,e.cuE J⟩
    rintro j c y1 h5 hG a w ⟨F,V,d,e⟩;refine TG.ap ?_ d e;unfold FP at h5;refine C (dY J J J (N (sq ?_)));refine ci J (fun h6=>?_) (fun h6=>?_)
    ·have af:=aJ h6 h5;refine sk (sq ?_);obtain ⟨t0,ah,aj⟩:=L af;refine jn (fun a w=>∃ (a4:Option Addr) (c4:Nat),SJ M W H [o,y,H] [(2,S.list a4 c4 82 6 eO t0.2.2)] 93 [(2,.pointer (some q4)),(4,.slice a4 t0.2.2.length c4),(6,.int .i64 k.2.1),(7,.int .i64 (k.1:Int)),(9,.int .i64 t0.2.1),(10,.int .i64 (t0.1:Int)),(22,.slice (some p0) r7.parts.length c2),(23,.int .i64 (r7.parts.length:Int)),(24,.int .i64 (k.1:Int)),(29,.slice a6 x2.length c6),(30,.int .i64 (x2.length:Int)),(31,.int .i64 (c.2.1:Int))] a w) ?_ ?_
     ·refine bk (C ?_);obtain ⟨n,h7,hI⟩:=L ah;obtain ⟨p1,rfl⟩:=h4.adr h7;have ao:=h4.atF h7;refine cY oE jY J J J J (aW h7) (cP CE jY J J (P 0 J ao) J (va (cs:=[.int .i64 n.paragraph.anchor,.string (bs n.paragraph.text),.bool n.removed]) zeroValue130 jY J J J J J J J J fun q2 ab f=>(N (sq (C (aX 2 oF J Z4 (U G4 J ((P 0 J f).drop 2) J (N ?_))))))));refine cb J (fun h8=>?_) (fun h8=>?_)
      ·have ar:=aJ h8 hI;refine xt J ?_;cases ar;intro a w d e;exact ⟨F,V,d.selH [1,2,3] J,e.cuE J⟩
      have aw:=bJ h8 hI;refine sk (C (A J ?_));obtain ⟨ay,bb⟩:=aF aw;refine dO J J J ay (I J (C (aX 0 oF J nC (aX 1 CN J Z9 (U G9 J (((P 0 J f).drop 1).take 1) J (wP U9 J J (aX 3 mG J Z3 (U G3 J (((P 2 J g).drop 3).take 1) J ?_))))))));obtain ⟨bd,bf⟩:=aF bb;refine dO J J J bd ?_;obtain ⟨bh,bj⟩:=aF bf;refine pN J J J bh (aX 3 mG J Z3 (U G3 J (((P 2 J g).drop 3).take 1) J ?_));obtain ⟨bm,bo⟩:=aF bj;refine ZT J J J bm (I J (sq ?_));obtain ⟨bp,bq⟩:=aF bo;obtain ⟨br,bt⟩:=aF bq;obtain ⟨hJ,bv⟩:=aF bt;have:0≤(c.2.2.1%b.height)∧(c.2.2.1%b.height) < b.height:=have h:=(hJ:0≤c.2.2.1∧0 < b.height);⟨Int.emod_nonneg _ (by omega),Int.emod_lt_of_pos _ h.2⟩;obtain ⟨bw,bx⟩:=aF bv;obtain ⟨x1,h9,b0⟩:=L bx;obtain ⟨p2,rfl⟩:=x.adr h9;obtain ⟨cS,cf,b1,hK⟩:=x.at h9;have cg:=hK;obtain ⟨b7,b9,rfl,b2⟩:=hK;have:=b2.len;refine dV 26 mixed (by kernel_rfl) J (E J (A J D) (E J (aX 0 oF J nC D) (E J (aX 0 CN J Z3 D) (E J (U G3 J ((P 1 J f).take 1) J D) (E J (A J D) (E J (A J D) (E J (aX 2 mG J Z3 D) (E J (U G3 J (((P 3 J g).drop 2).take 1) J D) (E J (ZT J J J bp D) (E J (dO J J J br D) (E J (A J D) ?_)))))))))));refine E J (aX 2 mG J Z3 D) (E J (U G3 J (((P 3 J g).drop 2).take 1) J D) (E J (UP J J J hJ D) (E J (dO J J J bw D) (E J (A J D) (E J (bu (cs:=[.int .i64 n.paragraph.anchor,.int .i64 (k.2.1+(c.2.2.1/b.height)),.int .i64 ((c.2.2.1%b.height)+1),.int .i64 ((((n.paragraph.text.length:Int)+b.width) - 1)/b.width)]) T12.B51 J J J D) (E J (aX 4 mG J CZ D) (E J (U JB J ((P 3 J g).drop 4) J D) (E J (A J D) (E J (cY AL nB J J J J (aW h9) D) (E J (aX 0 rE J Z3 D) (E J (U G3 J ((P 4 J b1).take 1) J D) ?_)))))))))))
      let Z:List Value:=[.int .i64 n.paragraph.anchor,.int .i64 (k.2.1+(c.2.2.1/b.height)),.int .i64 ((c.2.2.1%b.height)+1),.int .i64 ((((n.paragraph.text.length:Int)+b.width) - 1)/b.width),.int .i64 x1.day,.int .i64 ((c.1:Int)+1)]
      refine E J (A J D) (E J (bu (cs:=Z) T12.B82 J J J D) ?_)
      refine uS 1 (aG eO) 6 ([(⟨(⟨n.paragraph.anchor,(k.2.1+(c.2.2.1/b.height)),((c.2.2.1%b.height)+1),((((n.paragraph.text.length:Int)+b.width) - 1)/b.width)⟩:iA),x1.day,((c.1:Int)+1)⟩:cK)]:List cK) (aG.mono _) J (bS (cs:=Z) T12.E79 J J J J fun q0 t b3 p=>by
        have hL:Sl (aG eO) 6 t (some q0) 1 ([(⟨(⟨n.paragraph.anchor,(k.2.1+(c.2.2.1/b.height)),((c.2.2.1%b.height)+1),((((n.paragraph.text.length:Int)+b.width) - 1)/b.width)⟩:iA),x1.day,((c.1:Int)+1)⟩:cK)]:List cK):=Sl.litF (fun _=>J) (fun _=>J) b3 p J J J;have:=hL.len
        exact rV (aG.mono _) hL) fun b8 ca=>?_
      refine DF.nil fun ac hF=>?_;obtain ⟨hM,_⟩:=hF;have:=hM.len;obtain ⟨b4,ag⟩:=aF b0;have:=fI c.2.2.2 ([(⟨(⟨n.paragraph.anchor,(k.2.1+(c.2.2.1/b.height)),((c.2.2.1%b.height)+1),((((n.paragraph.text.length:Int)+b.width) - 1)/b.width)⟩:iA),x1.day,((c.1:Int)+1)⟩:cK)]:List cK);refine sJ 2 (enc:=eO) (l:=c.2.2.2) (m:=([(⟨(⟨n.paragraph.anchor,(k.2.1+(c.2.2.1/b.height)),((c.2.2.1%b.height)+1),((((n.paragraph.text.length:Int)+b.width) - 1)/b.width)⟩:iA),x1.day,((c.1:Int)+1)⟩:cK)]:List cK)) T12.E79 J J J J J J hM 0 J (fun _=>J) (fun _=>J) J b4 fun a8 c7=>(I J (rg (A J (A J ?_))));obtain ⟨ai,an⟩:=aF ag;refine dO J J J ai (I J ?_);cases an;intro a w d e;exact ⟨a8,c7,d.selH [2,3,4] J,e.cuE J⟩
     rintro a w ⟨a4,c4,d,e⟩;refine TG.ap ?_ d e;refine rg (dO J J J (by omega) (A J (N ?_)));cases aj;intro a w d e;exact ⟨_,hG,a4,c4,d,e.cuE J⟩
    have aq:=aU h6 h5;refine xt J ?_;cases aq;obtain rfl:=dJ.out hG;intro a w d e;exact ⟨F,V,d,e.cuE J⟩
   rintro a w ⟨a3,c3,d,e⟩;apply TG.ap ?_ d e;refine rg (A J (A J (aX 2 mG J Z3 (U G3 J (((P 1 J g).drop 2).take 1) J ?_))));obtain ⟨au,ax⟩:=aF hX;refine dO J J J au ?_;obtain ⟨az,bc⟩:=aF ax;refine pN J J J az (aX 2 mG J Z3 (U G3 J (((P 1 J g).drop 2).take 1) J ?_));obtain ⟨be,bg⟩:=aF bc;refine ZT J J J be ?_;obtain ⟨bi,bl⟩:=aF bg;refine dO J J J bi (I J (rg (dO J J J (by omega) (A J (N ?_)))));cases bl;intro a w d e;exact ⟨_,hC,a3,c3,d,e.cuE J⟩
  have bn:=aU h2 h1;refine xt J ?_;cases bn;obtain rfl:=dJ.out hC;intro a w d e;exact ⟨B,R,d,e.cuE J⟩
 rintro a w ⟨a5,c5,d,e⟩;apply TG.ap ?_ d e;refine C (A J (I J (bK ?_)));cases hQ;intro a w d e;refine dN e J J ?_;exact ⟨⟨_,_,J,(d.listOut 2 J (fun _=>J))⟩,d.ext⟩

end T12
