/-
 Walks of functions of a session: each call comes to what the model says. Printed by a program of ours.
-/
import Derived.Test.YtehbdldbihhleaaGreatDoorMade
set_option linter.all false
set_option maxHeartbeats 4000000
namespace T12
open Go Go.Proofs Pk Tryz
open Pk renaming m1→A,aB→C,aC→D,dt→E,aD→I,aA→L,on→N,sS→P,aP→S
open T12 renaming aQ→U
theorem X {D:List Deferred} {k:Nat} {M:Prop} {w0:World} {H0:Hp} {Hs:List Hp} {σ:aM} {L:cB} {N:aV} (h:TG ⟨D,k,M,w0,H0⟩ Hs σ L N):∀ a w,St M w0 H0 Hs σ w∧bQ D k a L→N a w:=fun a w z=>h a w z.1 z.2
variable {M:Prop} {W:World} {H:Hp}
theorem w32 {M:Prop} {W:World} (line:aE) (h:Int) {r:Int} (B:XA line h=some r):Calls prog 32 #[.string (bs line),.int .i64 h] W (bJ M W (.int .i64 r)):=by
 refine aK (M:=M) func32 J ntmps32 J (Hp.le.refl _) ?_;refine C (D J (sq ?_));obtain ⟨c,m,n⟩:=L B;refine jn (SJ M W (hp W) [(hp W)] [] 18 [(1,.int .i64 c)]) ?_ ?_
 ·refine bk ?_;refine jO [0] J m (fun F g=>(1,.int .i64 g)::F) ?_ ?_
  ·exact cuE J
  intro j g R o i;refine sq (sq ?_);obtain ⟨t31,k,l⟩:=L o;refine eU [0,1] [(14,.bool t31)] J ?_ ?_
  ·refine rg (A J (A J (uL U9 J J (dS J J J (A J ?_)))));by_cases b:g<(line.length:Int)
   ·have p:=aJ b k;refine gt b J (A J (gt b J (A J (gt b J ?_))));obtain ⟨G,q⟩:=aF p;obtain ⟨K,s,t⟩:=L q;refine QI U9 J J J (by omega) s (gt b J (nI J J J (pt b J J (N ?_))));cases t;exact cuE J
   have u:=aS b k;refine cC 4 J J J (decide_eq_false b) J (pf b J J (N ?_));cases u;exact cuE J
  refine cb J (fun d=>?_) (fun d=>?_)
  ·have v:=aJ d l;refine sk (bk (rg (A J ?_)));obtain ⟨x,y⟩:=aF v;refine dN J J J x (D J ?_);cases y;intro a w f e;exact ⟨_,i,f,e.cuE J⟩
  have z:=bK d l;refine xt J ?_;cases z;obtain rfl:=dF.out i;exact cuE J
 rintro a w ⟨f,e⟩;apply TG.ap ?_ f e;refine C (A J (D J (bH ?_)));cases n;exact cK J J

theorem w33 {M:Prop} {W:World} (cX:aE) {r:Int×Bool} (hr:XB cX=some r):Calls prog 33 #[.string (bs cX)] W (bJ M W (.tuple #[.int .i64 r.1,.bool r.2])):=by
 refine aK (M:=M) func33 J ntmps33 J (Hp.le.refl _) ?_;refine C (a1 J (D J (sq (C (A J (N (bk (sq ?_))))))));refine rg (pX J J J (D J ?_));refine ci J (fun d=>?_) (fun d=>?_)
 ·have t:=aJ d hr;refine C (a1 J (D J (bH ?_)));cases t;exact qS J J J
 have hI:=aS d hr;refine C (pX J J J (D J ?_));refine ci J (fun e=>?_) (fun e=>?_)
 ·have v:=aJ e hI;refine C (a1 J (D J (bH ?_)));cases v;exact qS J J J
 have z:=aS e hI;refine sq (C (pX J J J (D J ?_)));obtain ⟨t0,hJ,hK⟩:=L z;refine eU [4] [(9,.bool t0)] J ?_ ?_
 ·refine ci J (fun f=>?_) (fun f=>?_)
  ·have G:=aJ f hJ;refine sk ?_;cases G;exact cuE J
  have V:=aS f hJ;refine C (pX J J J (D J ?_));obtain ⟨t1,hL,aa⟩:=L V;refine eU [4] [(9,.bool t1)] J ?_ ?_
  ·refine ci J (fun g=>?_) (fun g=>?_)
   ·have ac:=aJ g hL;refine sk ?_;cases ac;exact cuE J
   have ad:=aS g hL;refine C (pX J J J (D J ?_));obtain ⟨t2,hM,ae⟩:=L ad;refine eU [4] [(9,.bool t2)] J ?_ ?_
   ·refine ci J (fun h=>?_) (fun h=>?_)
    ·have af:=aJ h hM;refine sk ?_;cases af;exact cuE J
    have ag:=aS h hM;refine rg (pX J J J (D J ?_));cases ag;exact cuE J
   cases ae;exact cuE J
  cases aa;exact cuE J
 refine cb J (fun i=>?_) (fun i=>?_)
 ·have ah:=aJ i hK;refine C (a1 J (D J (bH ?_)));cases ah;exact qS J J J
 have hN:=bK i hK;refine C (pX J J J (D J ?_));refine ci J (fun j=>?_) (fun j=>?_)
 ·have ai:=aJ j hN;refine C (a1 J (D J (bH ?_)));cases ai;exact qS J J J
 have aj:=aS j hN;refine sq (C (pX J J J (D J ?_)));obtain ⟨t3,hO,hP⟩:=L aj;refine eU [4] [(16,.bool t3)] J ?_ ?_
 ·refine ci J (fun k=>?_) (fun k=>?_)
  ·have ak:=aJ k hO;refine sk ?_;cases ak;exact cuE J
  have am:=aS k hO;refine C (pX J J J (D J ?_));obtain ⟨t4,hR,an⟩:=L am;refine eU [4] [(16,.bool t4)] J ?_ ?_
  ·refine ci J (fun l=>?_) (fun l=>?_)
   ·have ao:=aJ l hR;refine sk ?_;cases ao;exact cuE J
   have ap:=aS l hR;refine rg (pX J J J (D J ?_));cases ap;exact cuE J
  cases an;exact cuE J
 refine cb J (fun m=>?_) (fun m=>?_)
 ·have aq:=aJ m hP;refine C (a1 J (D J (bH ?_)));cases aq;exact qS J J J
 have hS:=bK m hP;refine C (pX J J J (D J ?_));refine ci J (fun n=>?_) (fun n=>?_)
 ·have ar:=aJ n hS;refine C (a1 J (D J (bH ?_)));cases ar;exact qS J J J
 have au:=aS n hS;refine sq (C (pX J J J (D J ?_)));obtain ⟨t5,hT,hV⟩:=L au;refine eU [4] [(22,.bool t5)] J ?_ ?_
 ·refine ci J (fun p=>?_) (fun p=>?_)
  ·have aw:=aJ p hT;refine sk ?_;cases aw;exact cuE J
  have ax:=aS p hT;refine C (pX J J J (D J ?_));obtain ⟨t6,hW,o⟩:=L ax;refine eU [4] [(22,.bool t6)] J ?_ ?_
  ·refine ci J (fun s=>?_) (fun s=>?_)
   ·have q:=aJ s hW;refine sk ?_;cases q;exact cuE J
   have u:=aS s hW;refine rg (pX J J J (D J ?_));cases u;exact cuE J
  cases o;exact cuE J
 refine cb J (fun y=>?_) (fun y=>?_)
 ·have x:=aJ y hV;refine C (a1 J (D J (bH ?_)));cases x;exact qS J J J
 have hX:=bK y hV;refine C (pX J J J (D J ?_));refine ci J (fun F=>?_) (fun F=>?_)
 ·have B:=aJ F hX;refine C (a1 J (D J (bH ?_)));cases B;exact qS J J J
 have b:=aS F hX;refine C (pX J J J (D J ?_));refine ci J (fun R=>?_) (fun R=>?_)
 ·have K:=aJ R b;refine C (a1 J (D J (bH ?_)));cases K;exact qS J J J
 have c:=aS R b;refine C (pX J J J (D J ?_));refine ci J (fun Z=>?_) (fun Z=>?_)
 ·have Y:=aJ Z c;refine C (a1 J (D J (bH ?_)));cases Y;exact qS J J J
 have ab:=aS Z c;refine sk (C (a1 J (D J (bH ?_))));cases ab;exact qS J J J

theorem w34 {M:Prop} {W:World} (ai:aE) {r:Int×Bool} (hr:IN ai=some r):Calls prog 34 #[.string (bs ai)] W (bJ M W (.tuple #[.int .i64 r.1,.bool r.2])):=by
 refine aK (M:=M) func34 J ntmps34 J (Hp.le.refl _) ?_;refine C (a1 J (D J (sq ?_)));obtain ⟨t7,k,a0⟩:=L hr;refine eU [0] [(4,.bool t7)] J ?_ ?_
 ·refine rg (A J (uL U9 J J (lL J J J (A J ?_))));by_cases e:0<(ai.length:Int)
  ·have hR:=aJ e k;refine gt e J (A J (gt e J ?_));obtain ⟨x3,hT,hV⟩:=L hR;refine QI U9 J J J J hT (gt e J (fZ J J J (pt e J J (D J ?_))));cases hV;exact cuE J
  have hW:=aS e k;refine cC 3 J J J (decide_eq_false e) J (pf e J J (D J ?_));cases hW;exact cuE J
 refine C (A J (D J (sq (C (A J (N ?_))))));obtain ⟨t21,hE,hX⟩:=L a0;refine eU [] [(4,.bool t7),(5,.string (bs t21))] J ?_ ?_
 ·refine cb J (fun m=>?_) (fun m=>?_)
  ·have q:=aJ m hE;refine rg (A J ?_);obtain ⟨u,y⟩:=aF q;refine ssF 1 U9 J J J J u (D J ?_);cases y;exact cuE J
  have B:=bK m hE;refine sk ?_;cases B;exact cuE J
 refine sq (sq ?_);obtain ⟨t44,hF,hG⟩:=L hX;refine eU [4,5] [(40,.bool t44)] J ?_ ?_
 ·refine rg (A J (uL U9 J J (fZ J J J (A J ?_))));by_cases f:(t21.length:Int)=0
  ·have G:=aJ f hF;refine cC 3 J J J (decide_eq_true f) J (pt f J J (A J (cC 4 J J J J J (gU J J J (gU J J J (gU J J J (gU J J J (gU J J J (gU J J J (gF J J J J (pT J J J J ?_)))))))))));refine N ?_;cases G;exact cuE J
  have hH:=aS f hF;refine dJ f J (A J (dJ f J (uL U9 J J (dJ f J (lL J J J (pf f J J (A J ?_)))))));by_cases b:9<(t21.length:Int)
  ·have R:=aJ b hH;refine cC 4 J J J (decide_eq_true b) J (gU J J J (gU J J J (gU J J J (gU J J J (gU J J J (gU J J J (BZ b J (pt b J J (N ?_)))))))));cases R;exact cuE J
  have Y:=aS b hH;refine dJ b J (A J (dJ b J ?_));obtain ⟨x0,aa,hI⟩:=L Y;refine QI U9 J J J J aa (dJ b J (fZ J J J (dJ b J (A J ?_))));by_cases c:(x0.toNat:Int)=48
  ·have hJ:=aJ c hI;refine gt c J (A J (gt c J (uL U9 J J (gt c J (lL J J J (gt c J (A J ?_)))))));by_cases g:1<(t21.length:Int)
   ·have ac:=aJ g hJ;refine BZ g J (gt c J (pt g J J (dJ b J (pt c J J (pf b J J (N ?_))))));cases ac;exact cuE J
   have ad:=aS g hJ;refine dJ g J (A J (gt c J (pf g J J (dJ b J (pt c J J (pf b J J (N ?_)))))));cases ad;exact cuE J
  have ae:=aS c hI;refine cC 4 J J J (decide_eq_false c) J (gU J J J (gf c J (dJ b J (pf c J J (pf b J J (N ?_))))));cases ae;exact cuE J
 refine cb J (fun n=>?_) (fun n=>?_)
 ·have af:=aJ n hG;refine C (a1 J (D J (bH ?_)));cases af;exact qS J J J
 have ag:=bK n hG;refine sk (C (D J (sq (C (D J ?_)))));obtain ⟨l,ah,hK⟩:=L ag;refine jn (fun a w=>∃ t0,l=.inl t0∧SJ M W (hp W) [(hp W)] [] 69 [(4,.bool t7),(6,.int .i64 t0)] a w) ?_ ?_
 ·refine bk ?_;refine jO [4,5] J ah (fun l_ s1=>(6,.int .i64 s1.2)::(7,.int .i64 (s1.1:Int))::l_) ?_ ?_
  ·exact cuE J
  intro j s1 y0 hL o;refine sq (C (A J (A J (uL U9 J J (dS J J J (N ?_))))));refine ci J (fun p=>?_) (fun p=>?_)
  ·have aj:=aJ p hL;refine sk (sq (bk (sq (sq ?_))));obtain ⟨t1,ak,hM⟩:=L aj;refine eU [4,5,6,7] [(56,.bool t1)] J ?_ ?_
   ·refine rg (A J (A J ?_));obtain ⟨x1,hN,hO⟩:=L ak;refine QI U9 J J J J hN (dS J J J (A J ?_));by_cases d:(x1.toNat:Int)<48
    ·have am:=aJ d hO;refine cC 4 J J J (decide_eq_true d) J (pt d J J (N ?_));cases am;exact cuE J
    have an:=aS d hO;refine dJ d J (A J (dJ d J (A J (dJ d J (QI U9 J J J J hN (dJ d J (lL J J J (pf d J J (N ?_)))))))));cases an;exact cuE J
   refine cb J (fun t=>?_) (fun t=>?_)
   ·have ao:=aJ t hM;refine C (a1 J (D J (bH ?_)));cases ao;obtain rfl:=dF.out o;cases hK;exact qS J J J
   have aq:=bK t hM;refine sk (rg (A J ?_));obtain ⟨ar,au⟩:=aF aq;refine mlI J J J ar (A J (A J ?_));obtain ⟨x2,aw,ax⟩:=L au;refine QI U9 J J J J aw (wrI (((x2.toNat:Int)-48)%256) J J J (QT _) (yY U5 U3 J J (oL (by omega)) ?_));obtain ⟨ay,az⟩:=aF ax;refine dN J J J ay (D J (rg (A J ?_)));obtain ⟨s,v⟩:=aF az;refine dN J J J s (D J ?_);cases v;intro a w i h;exact ⟨_,o,i,h.cuE J⟩
  have z:=aS p hL;refine xt J ?_;cases z;obtain rfl:=dF.out o;intro a w i h;exact ⟨_,J,i,h.cuE J⟩
 rintro a w ⟨t0,rfl,i,h⟩;apply TG.ap ?_ i h;refine sq (C (A J (N ?_)));obtain ⟨t2,hP,F⟩:=L hK;refine eU [] [(6,.int .i64 t2)] J ?_ ?_
 ·refine cb J (fun x=>?_) (fun x=>?_)
  ·have K:=aJ x hP;refine rg (A J ?_);obtain ⟨V,Z⟩:=aF K;refine ngI J J V (D J ?_);cases Z;exact cuE J
  have ab:=bK x hP;refine sk ?_;cases ab;exact cuE J
 refine C (A J (a1 J (D J (bH ?_))));cases F;exact qS J J J

theorem w16 (h:H.le (hp W)) (line:aE) {r:aE×List Int×aE×Bool} (hr:m16 line=some r):Calls prog 16 #[.string (bs line)] W (eY M H W (fun v K=>∃ (g:Option Addr) (e:Nat),v=.tuple #[.string (bs r.1),.slice g r.2.1.length e,.string (bs r.2.2.1),.bool r.2.2.2]∧Sl (I (bP .i64)) 1 K g e r.2.1)):=by
 refine aK (M:=M) func16 J ntmps16 J h ?_;refine C (a1 J (a1 J (a1 J (D J (C (A J ?_))))));obtain ⟨r1,an,aj⟩:=L hr;refine bB C32 J (fun w H h le=>w32 line 0 an) (D J (C (A J (A J ?_))));obtain ⟨ax,ak⟩:=aF aj;obtain ⟨ai,am⟩:=aF ak;refine ssT r1.toNat U9 J J J (by omega) ai (D J (C (A J ?_)));obtain ⟨r8,ao,h8⟩:=L am;refine bB C33 J (fun w H h le=>w33 (line.take r1.toNat) ao) (A J (ex J J J (ex J J J (a1 J (D J (sq (C (A J (dS J J J ?_)))))))));refine N ?_;refine ci J (fun t=>?_) (fun t=>?_)
 ·have hI:=aJ t h8;refine C (a1 J (a1 J (a1 J (D J (bH ?_)))));cases hI;intro a w b c;refine AK c J J J J J ?_;exact ⟨⟨_,_,J,Sl.o⟩,b.ext⟩
 have hJ:=aS t h8;refine sk (C (D J (sq (C (D J (TG.nilRow 2 3 1 (TG.as 2 (z:=S.list none 0 3 1 (bP .i64) ([]:List Int)) J J ?_)))))));obtain ⟨s,hK,m⟩:=L hJ;refine gG [0,7,9] J (fun l_ a w=>∃ f,s=.inl f∧∃ (p:Option Addr) (q:Nat),SJ M W H [H] [(2,S.list p q 3 1 (bP .i64) f.2)] 71 ((6,.int .i64 f.1)::(10,.slice p f.2.length q)::l_) a w) ?_ ?_
 ·refine bk ?_;refine jZ [0,7,8,9] J hK (fun l_ d a w=>∃ (i:Option Addr) (k:Nat),SJ M W H [H] [(2,S.list i k 3 1 (bP .i64) d.2.2)] 71 ((6,.int .i64 d.2.1)::(10,.slice i d.2.2.length k)::(11,.int .i64 (d.1:Int))::l_) a w) ?_ ?_
  ·intro a w b c;exact ⟨none,0,b,c.cuE J⟩
  rintro j d y0 h9 n a w ⟨i,k,b,c⟩;refine TG.ap ?_ b c;refine sq (C (A J (A J (dS J J J (N ?_)))));refine ci J (fun u=>?_) (fun u=>?_)
  ·have hB:=aJ u h9;refine sk (sq (bk (sq (C (A J (A J (uL U9 J J (fZ J J J (N ?_)))))))));refine ci J (fun x=>?_) (fun x=>?_)
   ·have hL:=aJ x hB;refine C (a1 J (a1 J (a1 J (D J (bH ?_)))));cases hL;obtain rfl:=dF.out n;cases m;intro a w b c;refine AK c J J J J J ?_;exact ⟨⟨_,_,J,Sl.o⟩,b.ext⟩
   have hM:=aS x hB;refine sk (C (A J (A J ?_)));obtain ⟨hC,hN⟩:=aF hM;refine dN J J J hC ?_;obtain ⟨r0,hO,hP⟩:=L hN;refine bB C32 J (fun w H h le=>w32 line (d.2.1+1) hO) (D J (C (A J (A J (dN J J J hC (A J ?_))))));obtain ⟨ar,hR⟩:=aF hP;obtain ⟨au,hT⟩:=aF hR;obtain ⟨hV,hW⟩:=aF hT;refine ssB ((d.2.1+1).toNat) r0.toNat U9 J J J J (by omega) (by omega) hV ?_;obtain ⟨r2,hX,hE⟩:=L hW;refine bB C34 J (fun w H h le=>w34 ((line.drop ((d.2.1+1).toNat)).take (r0.toNat-((d.2.1+1).toNat))) hX) (A J (ex J J J (ex J J J (a1 J (D J (sq (C (A J (nt J J ?_)))))))));refine N ?_;refine cb J (fun h0=>?_) (fun h0=>?_)
   ·replace h0:=oI h0
    have B:=bK h0 hE;refine C (a1 J (a1 J (a1 J (D J (bH ?_)))));cases B;obtain rfl:=dF.out n;cases m;intro a w b c;refine AK c J J J J J ?_;exact ⟨⟨_,_,J,Sl.o⟩,b.ext⟩
   replace h0:=oJ h0
   have F:=aJ h0 hE;refine sk (rg (A J (A J ?_)));obtain ⟨G,R⟩:=aF F;refine wO 2 (bP .i64) (l:=d.2.2) r2.1 T12.E33 J J J J J J J J J J J J G fun a3 c2 u0=>(A J (a1 J (D J (rg (A J ?_)))));obtain ⟨V,Y⟩:=aF R;refine dN J J J V (D J ?_);cases Y;intro a w b c;exact ⟨_,n,a3,c2,b,c.cuE J⟩
  have Z:=aS u h9;refine xt J ?_;cases Z;obtain rfl:=dF.out n;intro a w b c;exact ⟨_,J,i,k,b,c.cuE J⟩
 rintro a w ⟨f,rfl,p,q,b,c⟩;apply TG.ap ?_ b c;refine sq (C (A J (A J (A J (uL U9 J J (dS J J J (neB U4 J J J (N ?_))))))));refine cb J (fun h1=>?_) (fun h1=>?_)
 ·replace h1:=oI h1
  have aa:=bK h1 m;refine C (a1 J (a1 J (a1 J (D J (bH ?_)))));cases aa;intro a w b c;refine AK c J J J J J ?_;exact ⟨⟨_,_,J,Sl.o⟩,b.ext⟩
 replace h1:=oJ h1
 have hG:=aJ h1 m;refine sk (sq (C (A J (N ?_))));refine cb J (fun y=>?_) (fun y=>?_)
 ·have ab:=aJ y hG;refine sq ?_;obtain ⟨ac,ad⟩:=aF ab;obtain ⟨aw,ae⟩:=aF ad;obtain ⟨af,ag⟩:=aF ae;refine eH 8 mixed (by kernel_rfl) J (dC J (dC J (dC J (dC J (E J (dN J J J ac aG) (E J (ssF ((f.1+1).toNat) U9 J J J (by omega) af aG) (E J (a1 J aG) (E J (a1 J aG) (DF.nil fun aq hF=>(a1 J (a1 J ?_)))))))))));refine N (bH ?_);cases ag;intro a w b c;refine AK c J J J J J ?_;exact ⟨⟨_,_,J,(b.listOut 2 J (fun _=>J))⟩,b.ext⟩
 have ah:=bK y hG;refine sk (C (A J (A J (a1 J (a1 J (a1 J (D J (bH ?_))))))));cases ah;intro a w b c;refine AK c J J J J J ?_;exact ⟨⟨_,_,J,(b.listOut 2 J (fun _=>J))⟩,b.ext⟩

theorem w5 (Z:H.le (hp W)) {bp:Option Addr} {bg:Nat} {lines:List aE} (v:Sl (I bY) 1 H bp bg lines) {r:Bool} (hr:m5 lines=some r):Calls prog 5 #[.slice bp lines.length bg] W (bJ M W (.bool r)):=by
 have:=v.len;refine aK (M:=M) func5 J ntmps5 J Z ?_;refine C (D J (C (a1 J (D J (sq (C ?_))))));refine D J ?_;obtain ⟨c,F,G⟩:=L hr;refine gG [0] J (fun l_=>SJ M W H [H] [] 69 ((3,.int .i64 c.1)::(4,.int .i64 c.2)::l_)) ?_ ?_
 ·refine bk ?_;refine jO [0] J F (fun l_ p=>(3,.int .i64 p.2.1)::(4,.int .i64 p.2.2)::(5,.int .i64 (p.1:Int))::l_) ?_ ?_
  ·exact cuE J
  intro j p y0 hI hJ;refine sq (C (A J (A J (dU kZ J J (dS J J J (N ?_))))));refine ci J (fun K=>?_) (fun K=>?_)
  ·have R:=aJ K hI;refine sk (sq (bk (C (A J (A J (A J ?_))))));obtain ⟨x0,u,Y⟩:=L R;obtain ⟨p0,rfl⟩:=v.adr u;have hK:=v.atF u;refine cP kZ Z9 J J J J (aT u) (aR G9 J (P 0 J hK) J (uL U9 J J (wrI (IntKind.i64.wrap (p.2.1+(x0.length:Int))) J J J J (D J (C (A J (A J (cP kZ Z9 J J J J (aT u) (aR G9 J (P 0 J hK) J ?_)))))))));obtain ⟨r0,aa,ab⟩:=L Y;refine gW C16 J J J J (fun w H Z le=>w16 Z x0 aa) ?_;rintro v_ ay ⟨a0,c0,rfl,az⟩;refine A J (ex J J J (ex J J J (ex J J J (ex J J J (a1 J (a1 J (a1 J (D J (sq ?_)))))))));obtain ⟨t0,hL,ac⟩:=L ab;refine eU [0,3,4,5] [(37,.bool t0)] J ?_ ?_
   ·refine rg (A J (A J ?_));rcases Bool.eq_false_or_eq_true (r0.2.2.2) with g|g
    ·have ad:=aJ g hL;refine gN J J (g) (A J (gN J J (g) (pX J J J (pT J J (g) J (N ?_)))));cases ad;exact cuE J
    have ae:=bK g hL;refine cC 2 J J J (g) J (pF J J (g) J (N ?_));cases ae;exact cuE J
   obtain ⟨t1,hM,af⟩:=L ac;refine eU [0,3,5] [(4,.int .i64 t1)] J ?_ ?_
   ·refine cb J (fun V=>?_) (fun V=>?_)
    ·have ag:=aJ V hM;refine rg (A J (wrI (IntKind.i64.wrap (p.2.2+1)) J J J J (D J ?_)));cases ag;exact cuE J
    have ah:=bK V hM;refine sk ?_;cases ah;exact cuE J
   refine rg (A J (dN J J J (by omega) (D J ?_)));cases af;intro a w hS x;exact ⟨_,hJ,hS.selH [1] J,x.cuE J⟩
  have ai:=aS K hI;refine xt J ?_;cases ai;obtain rfl:=dF.out hJ;exact cuE J
 rintro a w ⟨hS,x⟩;apply TG.ap ?_ hS x;refine sq ?_;obtain ⟨t2,hN,aj⟩:=L G;refine eU [] [(2,.bool t2)] J ?_ ?_
 ·refine rg (A J (jN J J J (A J ?_)));by_cases b:c.2≤8
  ·have hO:=aJ b hN;refine gt b J (A J (gt b J (dU kZ J J (gt b J (jN J J J (gt b J (A J ?_)))))));by_cases h:(lines.length:Int)≤40
   ·have hP:=aJ h hO;refine gt h J (A J (gt h J (jN J J J (gt b J (pt h J J (gt b J (A J ?_)))))));by_cases d:c.1≤1500
    ·have ak:=aJ d hP;refine cC 4 J J J (decide_eq_true d) J (gU J J J (gU J J J (BZ d J (gt b J (pt d J J (gt b J (A J (cC 4 J J J J J (gU J J J (gU J J J (gF J J J J ?_)))))))))));refine gt b J (pT J J J J (pt b J J (D J ?_)));cases ak;exact cuE J
    have hR:=aS d hP;refine dJ d J (A J (dJ d J (dU kZ J J (dJ d J (jN J J J (dJ d J (A J ?_)))))));by_cases i:(lines.length:Int)≤62
    ·have hT:=aJ i hR;refine gt i J (A J (gt i J (jN J J J (dJ d J (pt i J J (gt b J (pf d J J (gt b J (A J ?_)))))))));by_cases e:c.1≤200
     ·have am:=aJ e hT;refine cC 4 J J J (decide_eq_true e) J (gU J J J (gU J J J (BZ e J (gt b J (pt e J J (pt b J J (D J ?_)))))));cases am;exact cuE J
     have hV:=aS e hT;refine dJ e J (A J (dJ e J (dU kZ J J (dJ e J (fZ J J J (dJ e J (A J ?_)))))));by_cases k:(lines.length:Int)=1
     ·have an:=aJ k hV;refine gt k J (A J (gt k J (jN J J J (dJ e J (pt k J J (gt b J (pf e J J (pt b J J (D J ?_)))))))));cases an;exact cuE J
     have ao:=aS k hV;refine cC 2 J J J (decide_eq_false k) J (dJ e J (pf k J J (gt b J (pf e J J (pt b J J (D J ?_))))));cases ao;exact cuE J
    have hW:=aS i hR;refine cC 2 J J J (decide_eq_false i) J (dJ d J (pf i J J (gt b J (pf d J J (gt b J (A J (gN J J J (A J (gN J J J (dU kZ J J (gN J J J ?_)))))))))));refine fZ J J J (gN J J J (A J ?_));by_cases l:(lines.length:Int)=1
    ·have aq:=aJ l hW;refine gt l J (A J (gt l J (jN J J J (gN J J J (pt l J J (gt b J (pF J J J J (pt b J J (D J ?_)))))))));cases aq;exact cuE J
    have ar:=aS l hW;refine cC 2 J J J (decide_eq_false l) J (gN J J J (pf l J J (gt b J (pF J J J J (pt b J J (D J ?_))))));cases ar;exact cuE J
   have hX:=aS h hO;refine cC 2 J J J (decide_eq_false h) J (gt b J (pf h J J (gt b J (A J (gN J J J (A J (gN J J J (dU kZ J J (gN J J J (jN J J J (gN J J J ?_)))))))))));refine A J ?_;by_cases m:(lines.length:Int)≤62
   ·have q:=aJ m hX;refine gt m J (A J (gt m J (jN J J J (gN J J J (pt m J J (gt b J (pF J J J J (gt b J (A J ?_)))))))));by_cases f:c.1≤200
    ·have au:=aJ f q;refine cC 4 J J J (decide_eq_true f) J (gU J J J (gU J J J (BZ f J (gt b J (pt f J J (pt b J J (D J ?_)))))));cases au;exact cuE J
    have s:=aS f q;refine dJ f J (A J (dJ f J (dU kZ J J (dJ f J (fZ J J J (dJ f J (A J ?_)))))));by_cases n:(lines.length:Int)=1
    ·have aw:=aJ n s;refine gt n J (A J (gt n J (jN J J J (dJ f J (pt n J J (gt b J (pf f J J (pt b J J (D J ?_)))))))));cases aw;exact cuE J
    have ax:=aS n s;refine cC 2 J J J (decide_eq_false n) J (dJ f J (pf n J J (gt b J (pf f J J (pt b J J (D J ?_))))));cases ax;exact cuE J
   have t:=aS m hX;refine cC 2 J J J (decide_eq_false m) J (gN J J J (pf m J J (gt b J (pF J J J J (gt b J (A J (gN J J J (A J (gN J J J (dU kZ J J (gN J J J ?_)))))))))));refine fZ J J J (gN J J J (A J ?_));by_cases o:(lines.length:Int)=1
   ·have y:=aJ o t;refine gt o J (A J (gt o J (jN J J J (gN J J J (pt o J J (gt b J (pF J J J J (pt b J J (D J ?_)))))))));cases y;exact cuE J
   have z:=aS o t;refine cC 2 J J J (decide_eq_false o) J (gN J J J (pf o J J (gt b J (pF J J J J (pt b J J (D J ?_))))));cases z;exact cuE J
  have B:=aS b hN;refine cC 4 J J J (decide_eq_false b) J (gU J J J (gU J J J (cC 2 J J J (decide_eq_false b) J (gU J J J (gU J J J (gU J J J (gU J J J (gU J J J (gU J J J (gU J J J (cC 2 J J J (decide_eq_false b) J ?_)))))))))));refine gU J J J (gU J J J (gU J J J (gU J J J (gU J J J (gU J J J (gU J J J (gf b J (pf b J J (D J ?_)))))))));cases B;exact cuE J
 refine bH ?_;cases aj;exact cK J J

theorem w6 (B:H.le (hp W)) {m:Option Addr} {l:Nat} {lines:List aE} (d:Sl (I bY) 1 H m l lines) {r:Bool} (F:m6 lines=some r):Calls prog 6 #[.slice m lines.length l] W (bJ M W (.bool r)):=by
 have:=d.len;refine aK (M:=M) func6 J ntmps6 J B ?_;refine C (D J (sq (C (D J ?_))));obtain ⟨e,t,n⟩:=L F;refine gG [0] J (fun k a w=>∃ s,e=.inl s∧SJ M W H [H] [] 19 k a w) ?_ ?_
 ·refine bk ?_;refine jO [0] J t (fun k q=>(3,.int .i64 (q:Int))::k) ?_ ?_
  ·exact cuE J
  intro j q R o f;refine sq (C (A J (A J (dU kZ J J (dS J J J (N ?_))))));refine ci J (fun g=>?_) (fun g=>?_)
  ·have u:=aJ g o;refine sk (sq (bk (C (A J (A J ?_)))));obtain ⟨K,h,p⟩:=L u;obtain ⟨G,rfl⟩:=d.adr h;have v:=d.atF h;refine cP kZ Z9 J J J J (aT h) (aR G9 J (P 0 J v) J (uL U9 J J (lL J J J (N ?_))));refine ci J (fun i=>?_) (fun i=>?_)
   ·have x:=aJ i p;refine C (D J (bH ?_));cases x;obtain rfl:=dF.out f;cases n;exact cK J J
   have y:=aS i p;refine sk (rg (A J (dN J J J (by omega) (D J ?_))));cases y;intro a w c b;exact ⟨_,f,c,b.cuE J⟩
  have z:=aS g o;refine xt J ?_;cases z;obtain rfl:=dF.out f;intro a w c b;exact ⟨_,J,c,b.cuE J⟩
 rintro a w ⟨s,rfl,c,b⟩;apply TG.ap ?_ c b;refine C (A J (dU kZ J J (jN J J J (D J (bH ?_)))));cases n;exact cK J J

theorem w27 {M:Prop} {W:World} (e:Int) (low:Int) (c:Int) {r:Bool} (i:XE e low c=some r):Calls prog 27 #[.int .i64 e,.int .i64 low,.int .i64 c] W (bJ M W (.bool r)):=by
 refine aK (M:=M) func27 J ntmps27 J (Hp.le.refl _) ?_;refine C (D J (sq ?_));obtain ⟨j,d,f⟩:=L i;refine eU [] [(6,.bool j)] J ?_ ?_
 ·refine rg (A J (A J (pW J J J (A J ?_))));by_cases b:low≤e
  ·have g:=aJ b d;refine gt b J (A J (gt b J (A J (gt b J (jN J J J (pt b J J (D J ?_)))))));cases g;exact cuE J
  have h:=aS b d;refine cC 3 J J J (decide_eq_false b) J (pf b J J (D J ?_));cases h;exact cuE J
 refine bH ?_;cases f;exact cK J J

theorem w28 (G:H.le (hp W)) {s:Option Addr} {q:Nat} {bj:List Int} (f:Sl (I (bP .i64)) 1 H s q bj) (most:Int) {r:Bool} (hr:m28 bj most=some r):Calls prog 28 #[.slice s bj.length q,.int .i64 most] W (bJ M W (.bool r)):=by
 have:=f.len;refine aK (M:=M) func28 J ntmps28 J G ?_;refine C (D J (sq (C (D J ?_))));obtain ⟨h,K,t⟩:=L hr;refine jn (fun a w=>∃ t39,h=.inl t39∧SJ M W H [H] [] 35 [] a w) ?_ ?_
 ·refine bk ?_;refine jO [0,1] J K (fun l_ m=>(5,.int .i64 (m:Int))::l_) ?_ ?_
  ·exact cuE J
  intro j m y0 u i;refine sq (C (A J (A J (dU eO J J (dS J J J (N ?_))))));refine ci J (fun k=>?_) (fun k=>?_)
  ·have R:=aJ k u;refine sk (sq (bk (sq ?_)));obtain ⟨t0,V,v⟩:=L R;refine eU [0,1,5] [(34,.bool t0)] J ?_ ?_
   ·obtain ⟨x0,g,Y⟩:=L V;obtain ⟨p0,rfl⟩:=f.adr g;have x:=f.atF g;obtain ⟨r0,Z,y⟩:=L Y;refine eH 20 mixed (by kernel_rfl) J (dC J (dC J (E J (cP eO Z3 J J J J (aT g) aG) (E J (aR G3 J (P 1 J x) J aG) (dC J (E J (bB C27 J (fun w H G le=>w27 x0 0 most Z) aG) (E J (nt J J aG) (dC J ?_))))))));rcases Bool.eq_false_or_eq_true (r0) with c|c
    ·have z:=aJ c y;refine E J (gN J J (congrArg not (c)) (A J aG)) (E J (gN J J (congrArg not (c)) (lL J J J aG)) (E J (gN J J (congrArg not (c)) (A J aG)) ?_));by_cases b:0<(m:Int)
     ·have hM:=aJ b z;obtain ⟨x1,B,hN⟩:=L hM;have hO:=f.atF B;refine E J (gt b J (A J aG)) (E J (gt b J (A J aG)) (E J (gt b J (cP eO Z3 J J J J (aT g) aG)) (E J (gt b J (aR G3 J (P 1 J x) J aG)) (E J (gt b J (A J aG)) (E J (gt b J (A J aG)) (E J (gt b J (qH J J J (by omega) aG)) (E J (gt b J (cP eO Z3 J J J (by omega) (aT B) aG)) (E J (gt b J (aR G3 J (P 1 J hO) J aG)) (DF.nil fun n F=>(gt b J (jN J J J ?_)))))))))));refine gN J J (congrArg not (c)) (pt b J J (pF J J (congrArg not (c)) J (N ?_)));cases hN;intro a w e d;exact ⟨e.selH [1] J,d.cuE J⟩
     have hP:=aS b z;refine kY 9 J J (decide_eq_false b) J ⟨J,J,J,J,J,J,J,J,J,tv⟩ (DF.nil fun o F=>(gf b J (gN J J (congrArg not (c)) (pf b J J (pF J J (congrArg not (c)) J (N ?_))))));cases hP;intro a w e d;exact ⟨e.selH [1] J,d.cuE J⟩
    have hR:=bK c y;refine kY 3 J J (congrArg not (c)) J ⟨J,J,J,tv⟩ (E J (gU J J J aG) (E J (gU J J J aG) (E J (gU J J J aG) (E J (gU J J J aG) (E J (gU J J J aG) (E J (gU J J J aG) (E J (gU J J J aG) (E J (gU J J J aG) (E J (gU J J J aG) (DF.nil fun p F=>(gU J J J ?_)))))))))));refine gF J J (congrArg not (c)) J (pT J J (congrArg not (c)) J (N ?_));cases hR;intro a w e d;exact ⟨e.selH [1] J,d.cuE J⟩
   refine cb J (fun l=>?_) (fun l=>?_)
   ·have hT:=aJ l v;refine C (D J (bH ?_));cases hT;obtain rfl:=dF.out i;cases t;exact cK J J
   have hV:=bK l v;refine sk (rg (A J (dN J J J (by omega) (D J ?_))));cases hV;intro a w e d;exact ⟨_,i,e,d.cuE J⟩
  have hW:=aS k u;refine xt J ?_;cases hW;obtain rfl:=dF.out i;intro a w e d;exact ⟨_,J,e,d.cut tv⟩
 rintro a w ⟨t39,rfl,e,d⟩;apply TG.ap ?_ e d;refine C (D J (bH ?_));cases t;exact cK J J

theorem w12 (d:H.le (hp W)) {j:List Value} (f:eV) (k:(jU) H j f) {r:Bool} (v:m12 f=some r):Calls prog 12 #[.agg j.toArray] W (bJ M W (.bool r)):=by
 have e:=k;obtain ⟨m,h,rfl,g⟩:=k;refine aK (M:=M) func12 J ntmps12 J d ?_;refine C (bI J J J fun B z c=>(D J (sq ?_)));obtain ⟨y,n,o⟩:=L v;refine eU [] [(2,.bool y)] J ?_ ?_
 ·refine rg (aU 0 YY J Z3 (aR G3 J ((P 0 J c).take 1) J ?_));obtain ⟨x,p,l⟩:=L n;refine bB C27 J (fun w H d le=>w27 f.year 0 9999 p) (A J ?_);rcases Bool.eq_false_or_eq_true (x) with b|b
  ·have q:=aJ b l;refine gN J J (b) (aU 1 YY J pQ (gN J J (b) (aR rN J ((P 0 J c).drop 1) J (gN J J (b) ?_))));obtain ⟨r24,s,t⟩:=L q;refine bB C28 J (fun w H d le=>w28 d (g.mono (I.mono _) le.i) 7 s) (pT J J (b) J (D J ?_));cases t;exact cuE J
  have u:=bK b l;refine cC 3 J J J (b) J (pF J J (b) J (D J ?_));cases u;exact cuE J
 refine bH ?_;cases o;exact cK J J

theorem w18 (j:H.le (hp W))  {r:List aE} (k:m18=some r):Calls prog 18 #[] W (eY M H W (fun v K=>∃ (c:Option Addr) (b:Nat),v=.slice c r.length b∧Sl (I bY) 1 K c b r)):=by
 refine aK (M:=M) func18 J ntmps18 J j ?_;refine C (D J (C (bS T12.E22 J J J J fun l h f d=>?_)));have e:Sl (I bY) 1 h (some l) 18 ([[104,111,117,115,101,32,53],[115,97,121,32,49,49,32,84,104,101,32,72,111,117,115,101,32,109,101,116,46],[109,111,118,101,32,116,104,105,115,32,72,111,117,115,101,32,110,111,116,101,115,32,116,104,101,32,114,101,112,111,114,116],[112,97,112,101,114,32,51,32,48,32,50,32,51,32,119,101,108,99,111,109,101,115],[97,100,111,112,116,32,51],[100,105,118,105,100,101,32,48,32,48,32,51,32,50],[116,101,108,108,32,49,32,48,32,48],[116,101,108,108,32,49,32,49,32,48],[116,101,108,108,32,49,32,48,32,49],[116,101,108,108,32,49,32,49,32,49],[116,101,108,108,32,50,32,48,32,52],[114,101,115,117,108,116],[116,101,108,108,32,50,32,49,32,52],[114,101,115,117,108,116],[111,114,100,101,114,32,49,50],[98,105,110,100,32,51,32,52,32,50,48],[104,105,100,101,32,49,49,32,50,32,49,57,57,48],[99,105,116,101,32,49,50,32,48]]:List aE):=Sl.litF (fun _=>J) (fun _=>J) f d J J J;refine D J (bH ?_);obtain rfl:=sj k;intro a w g i;refine dT i J J ?_;exact ⟨⟨_,_,J,(e.mono (I.mono _) (g.grow 0 J))⟩,g.ext⟩

theorem w55 (hH:H.le (hp W)) {o:Option Addr} {n:Nat} {ai:List aE} (g:Sl (I bY) 1 H o n ai) {p:Value} {cg:aE→Option Bool} (q:eP M prog H p (fC Vs Value.bool cg)) {r:Int} (hr:m55 ai cg=some r):Calls prog 55 #[.slice o ai.length n,p] W (bJ M W (.int .i64 r)):=by
 have:=g.len;have b:=q;obtain ⟨h,f,e,rfl,_,_⟩:=q;refine aK (M:=M) func55 J ntmps55 J hH ?_;refine C (D J (sq (C (A J (dU kZ J J (A J (N ?_)))))));obtain ⟨e19,B,s⟩:=L hr;refine jn (fun a w=>∃ z,e19=.inl z∧SJ M W H [H] [] 19 [] a w) ?_ ?_
 ·refine bk ?_;refine jO [0,1,7] J B (fun l_ y=>(8,.int .i64 (y:Int))::l_) ?_ ?_
  ·exact cuE J
  intro j y y0 t i;refine C (dS J J J (N (sq ?_)));refine ci J (fun k=>?_) (fun k=>?_)
  ·have F:=aJ k t;refine sk (sq (bk (C (A J (D J (C (A J (A J ?_))))))));refine A J ?_;obtain ⟨x0,l,G⟩:=L F;obtain ⟨p0,rfl⟩:=g.adr l;have K:=g.atF l;refine cP kZ Z9 J J J J (aT l) (aR G9 J (P 0 J K) J ?_);obtain ⟨x,R,u⟩:=L G;refine mT (v:=.bool x) b 0 J J J J (fun H le=>⟨_,x0,x,J,J,R,J⟩) (N ?_);refine cb J (fun m=>?_) (fun m=>?_)
   ·have V:=aJ m u;refine C (A J (D J (bH ?_)));cases V;obtain rfl:=dF.out i;cases s;exact cK J J
   have Y:=bK m u;refine sk (rg (dN J J J (by omega) (A J (N ?_))));cases Y;intro a w d c;exact ⟨_,i,d,c.cuE J⟩
  have Z:=aS k t;refine xt J ?_;cases Z;obtain rfl:=dF.out i;intro a w d c;exact ⟨_,J,d,c.cut tv⟩
 rintro a w ⟨z,rfl,d,c⟩;apply TG.ap ?_ d c;refine C (D J (bH ?_));cases s;exact cK J J

theorem w36 (f:H.le (hp W)) {j:Option Addr} {i:Nat} {ai:List aE} (m:Sl (I bY) 1 H j i ai) {k:Value} {cg:aE→Option Bool} (l:eP M prog H k (fC Vs Value.bool cg)) {r:Bool} (n:UU ai cg=some r):Calls prog 36 #[.slice j ai.length i,k] W (bJ M W (.bool r)):=by
 have b:=l;obtain ⟨e,d,c,rfl,_,_⟩:=l;refine aK (M:=M) func36 J ntmps36 J f ?_;refine C (D J (C (A J (A J ?_))));obtain ⟨p,h,g⟩:=L n;refine bB C55 J (fun w H f le=>w55 f (m.mono (I.mono _) le.o) (cg:=cg) (b.mono le.o) h) (pW J J J (D J (bH ?_)));cases g;exact cK J J

theorem w37 {M:Prop} {W:World} (ai:aE) {r:Bool} (b:RB ai=some r):Calls prog 37 #[.string (bs ai)] W (bJ M W (.bool r)):=by
 refine aK (M:=M) func37 J ntmps37 J (Hp.le.refl _) ?_;refine C (D J (C (A J (uL U9 J J (lL J J J (D J (bH ?_)))))));obtain rfl:=sj b;exact cK J J

theorem w20 (g:H.le (hp W)) {j:Option Addr} {i:Nat} {lines:List aE} (l:Sl (I bY) 1 H j i lines) {r:Int} (x:UV lines=some r):Calls prog 20 #[.slice j lines.length i] W (bJ M W (.int .i64 r)):=by
 refine aK (M:=M) func20 J ntmps20 J g ?_;refine C (D J (sq (sq ?_)));obtain ⟨B,c,k⟩:=L x;refine eU [] [(9,.bool B)] J ?_ ?_
 ·refine rg (A J (dU kZ J J (lL J J J (A J ?_))));by_cases b:60<(lines.length:Int)
  ·have m:=aJ b c;refine cC 2 J J J (decide_eq_true b) J (pt b J J (N ?_));cases m;exact cuE J
  have n:=aS b c;refine dJ b J (A J (dJ b J ?_));obtain ⟨z,p,q⟩:=L n
  refine mG (v:=.bool z) C36 J J J J (fun w H g le=>by
    have s:eP M prog H (.func (.func 37) #[] #[]) (fC Vs Value.bool (RB)):=⟨37,[],[],rfl,C37,fun Z G d Y K R hs=>by obtain ⟨F,h,V,rfl,e,y,rfl⟩:=hs;cases e;exact w37  h  y⟩
    exact w36 g (l.mono (I.mono _) le.o) (cg:=(RB)) s p) ?_
  refine pf b J J (N ?_);cases q;exact cuE J
 refine cb J (fun f=>?_) (fun f=>?_)
 ·have t:=aJ f k;refine C (D J (bH ?_));cases t;exact cK J J
 have u:=bK f k;refine sk (C (D J (bH ?_)));cases u;exact cK J J

theorem GZ {M:Prop} {W:World} (e:Int) (low:Int) (c:Int) {r:Bool} (i:zN e low c=some r):Calls prog 99 #[.int .i64 e,.int .i64 low,.int .i64 c] W (bJ M W (.bool r)):=by
 refine aK (M:=M) func99 J ntmps99 J (Hp.le.refl _) ?_;refine C (D J (sq ?_));obtain ⟨j,d,f⟩:=L i;refine eU [] [(6,.bool j)] J ?_ ?_
 ·refine rg (A J (A J (jN J J J (A J ?_))));by_cases b:low≤e
  ·have g:=aJ b d;refine gt b J (A J (gt b J (A J (gt b J (jN J J J (pt b J J (D J ?_)))))));cases g;exact cuE J
  have h:=aS b d;refine cC 3 J J J (decide_eq_false b) J (pf b J J (D J ?_));cases h;exact cuE J
 refine bH ?_;cases f;exact cK J J

theorem fH {M:Prop} {W:World} (h:Bool) (e:Int) {r:Unit⊕Unit} (g:jL h e=some r):Calls prog 59 #[.bool h,.int .i64 e] W (wW M W (fun r=>.tuple #[]) (.iface 155 (.agg #[.int .i64 e])) r):=by
 refine aK (M:=M) func59 J ntmps59 J (Hp.le.refl _) ?_;refine C (A J (nt J J (N ?_)));refine cb J (fun hc4=>?_) (fun hc4=>?_)
 ·replace hc4:=oI hc4
  have d:=bK hc4 g;refine rg (A J (bu T12.B155 J J J (fi aG4 J J J (pnc J ?_))));cases d;intro a w c b;exact ⟨b.defers,nM c.ext⟩
 replace hc4:=oJ hc4
 have f:=aJ hc4 g;refine sk ?_;cases f;intro a w c b;refine eF b J ?_;exact sV J c.ext

theorem w82 {M:Prop} {W w:World} {H V:Hp} {σr:aM} {c:Nat} {l:List Value} (d:aI) (Z:aX V l d) {s:Option Addr} {q:Nat} {bz:List Int} (p:Sl (I (bP .i64)) 1 V s q bz) (t:aE) {r:aI⊕Int} (hr:KF d bz t=some r) (g:St M W H [V] ((1,bE c 77 l)::σr) w):Calls prog 82 #[.pointer (some ⟨c,0,none⟩),.slice s bz.length q,.string (bs t)] w (fI M W H V σr (sC (fun y e K R=>∃ (v:List Value),e=.returned (.tuple #[])∧R=[(1,bE c 77 v)]∧aX K v y) (fun u=>.iface 155 (.agg #[.int .i64 u])) [(1,bE c 77 l)] r)):=by
 obtain ⟨G,rfl,j⟩:=Z;refine cV (M:=M) func82 J ntmps82 J g ?_;refine sq ?_;obtain ⟨o,b,n⟩:=L hr;obtain ⟨p6,rfl⟩:=p.adr b;have h:=p.atF b;refine eH 8 mixed (by kernel_rfl) J (dC J (E J (cP eO Z3 J J J J (aT b) aG) (E J (aR G3 J (P 1 J h) J aG) (dC J (E J (nl J J aG) (E J (aU 0 fD J eT aG) (E J (aU 0 eX J Z3 aG) (E J (aR G3 J ((sO 1 J).take 1) J aG) (DF.nil fun Y hF=>?_)))))))));obtain ⟨F,h2,h3⟩:=L n;refine bB GQ J (fun w H B le=>GZ o d.state.day 99999 h2) ?_;obtain ⟨r1,x,z⟩:=L h3;rcases r1 with y0|y0
 ·refine bB fG J (fun w H B le=>iX (fH F 2 x)) (N (rg (A J (A J (cP eO Z3 J J J J (aT b) (aR G3 J (P 1 J h) J (nl J J (aU 0 fD J eT (aU 0 eX J Z3 (eQ 1 Z3 J J J J J J J (N ?_)))))))))))
  let f:List Value:=((cO d.state G).set 0 (.int .i64 o))
  refine TG.pack (fun K=>aX K f (⟨({d.state with day:=o}:dE)⟩:aI)) (fun H le=>⟨G,J,{j.mono le.i with f0:=(j.f0.mono (bW.mono) le.i)}⟩) fun k h4=>?_;cases z;intro a w g m;refine eF m J ?_;exact ⟨k,[(1,bE c 77 f)],g.selH [0,2] J,_,J,J,h4⟩
 refine eG fG J J J (fun w H B le=>iY (fH F 2 x)) ?_;cases z;intro a w g m;exact ⟨m.defers,V,[_],g.selH [1,1] J,J,J⟩

theorem aG9 {M:Prop} {W w:World} {H V:Hp} {σr:aM} {h:Option Addr} {g:Nat} {ai:List eI} (s:Sl (bW) 2 V h g ai) {r:List eI} (t:EC ai=some r) (d:St M W H [V] σr w):Calls prog 129 #[.slice h ai.length g] w (fI M W H V σr (fun e K u=>∃ (ad:Option Addr) (cap:Nat) (css:List (List Value)),e=.returned (.slice ad r.length cap)∧u=[(1,S.rows ad cap 132 2 css r)]∧Rows (bW) 2 K css r)):=by
 refine cV (M:=M) func129 J ntmps129 J d ?_;refine C (D J (sq (C (A J (JO AB J J (N ?_))))));refine cb J (fun f=>?_) (fun f=>?_)
 ·obtain rfl:=Sl.isNil s f;have q:=(aF t).2;refine C (D J (bH (TG.nilRow 1 132 2 ?_)));have k:Rows (bW) 2 V [] ([]:List eI):=tv;cases q;intro a w d j;refine dT j J J ?_;exact ⟨_,[(1,S.rows none 0 132 2 [] ([]:List eI))],d.selH [0,0] J,_,_,_,J,J,k⟩
 refine sk (C (TG.pack (fun K=>Rows (bW) 2 K [] ([]:List eI)) (fun H le=>tv) fun Y n=>(bSO 1 T12.E25 J J J J fun y=>(TG.as 1 (z:=S.rows (some ⟨y,0,none⟩) 0 132 2 [] ([]:List eI)) J J (A J ?_)))));obtain ⟨p,G⟩:=aF t;refine TG.pack (fun K=>Sl (bW) 2 K h g ai∧Rows (bW) 2 K [] ([]:List eI)) (fun H le=>⟨s.mono (bW.mono) le.i,n.mono (bW.mono) le.o⟩) fun v ⟨R,b⟩=>(VX 1 (l:=([]:List eI)) (m:=ai) T12.E25 J J J J J J R b bW.one J p fun x B F c=>(D J (bH ?_)));cases G;intro a w d j;refine dT j J J ?_;exact ⟨_,[(1,S.rows x B 132 2 F (([]:List eI)++ai))],d.selH [0,2] J,_,_,_,J,J,c⟩

theorem aHa {M:Prop} {W w:World} {H V:Hp} {σr:aM} {n:Option Addr} {k:Nat} {ai:List aH} (o:Sl (I aO) 2 V n k ai) {r:List aH} (p:KG ai=some r) (c:St M W H [V] σr w):Calls prog 180 #[.slice n ai.length k] w (fI M W H V σr (fun e K q=>∃ (ad:Option Addr) (cap:Nat),e=.returned (.slice ad r.length cap)∧q=[(1,S.list ad cap 98 2 aO r)])):=by
 refine cV (M:=M) func180 J ntmps180 J c ?_;refine C (D J (sq (C (A J (JO wG J J (N ?_))))));refine cb J (fun d=>?_) (fun d=>?_)
 ·obtain rfl:=Sl.isNil o d;have i:=(aF p).2;refine C (D J (bH (TG.nilRow 1 98 2 ?_)));cases i;intro a w c g;refine dT g J J ?_;exact ⟨_,[(1,S.list none 0 98 2 aO ([]:List aH))],c.selH [0,0] J,_,_,J,J⟩
 refine sk (C (CY 1 aO ([]:List aH) (cs:=[]) T12.E91 J J J J J J fun s=>(A J ?_)));obtain ⟨h,j⟩:=aF p;refine rD 1 (enc:=aO) (l:=([]:List aH)) (m:=ai) T12.E91 J J J J J J o 0 J (fun _=>J) (fun _=>J) J h fun f b=>(D J (bH ?_));cases j;intro a w c g;refine dT g J J ?_;exact ⟨_,[(1,S.list f b 98 2 aO (([]:List aH)++ai))],c.selH [0,0] J,_,_,J,J⟩

theorem aHb (hH:H.le (hp W)) {y:Option Addr} {x:Nat} {bj:List aH} (R:Sl (I aO) 2 H y x bj) {z:List Value} (f:aH) (Y:(I aO) H z f) {r:List aH} (hr:AT bj f=some r):Calls prog 130 #[.slice y bj.length x,.agg z.toArray] W (eY M H W (fun v K=>∃ (d:Option Addr) (b:Nat),v=.slice d r.length b∧Sl (I aO) 2 K d b r)):=by
 obtain rfl:=Y;refine aK (M:=M) func130 J ntmps130 J hH ?_;refine C (bI J J J fun q1 K2 n=>(D J (sq ?_)));obtain ⟨t,p,o⟩:=L hr;refine lB 4 [1] [] mixed (fun _ _ _ _ _ h=>h) (by kernel_rfl) (by kernel_rfl) (by kernel_rfl) J (by kernel_rfl) (.nil) (dA J (A J aG) (tS t.length (fun q s=>[(1,S.list q s 98 2 aO t)]) J (fun a w K c k B F=>TG.pa c k (wY 1 aD3 J J J J (fun w V σr c le=>aHa (ai:=bj) (R.mono (I.mono _) le.u) p c) fun j e=>F _ _)) fun j e=>(dA J (cM BI lO J J (P 1 J n) J aG) ?_)))
 refine uT 1 (I aO) 2 ([f]:List aH) (I.mono _) J (bS T12.E91 J J J J fun q9 i Z g=>by
   have h1:Sl (I aO) 2 i (some q9) 1 ([f]:List aH):=Sl.litF (fun _=>J) (fun _=>J) Z g J J J
   exact rJ (I.mono _) h1) fun a0 c0=>?_
 refine DC.nil fun G B=>?_;obtain ⟨h2,_,_⟩:=B;obtain ⟨h3,h4⟩:=aF o;refine rD 1 (enc:=aO) (l:=t) (m:=([f]:List aH)) T12.E91 J J J J J J h2 0 J (fun _=>J) (fun _=>J) J h3 fun a2 c1=>(D J (bH ?_));cases h4;intro a w c k;refine dT k J J ?_;exact ⟨⟨_,_,J,(c.listOut 1 J (fun _=>J))⟩,c.ext⟩

theorem w72 {M:Prop} {W w:World} {H V:Hp} {σr:aM} {d:Nat} {e:List Value} (b:aI) (j:aX V e b) {g:Option Addr} {f:Nat} {parts:List eI} (k:Sl (bW) 2 V g f parts) {r:bD} (m:OU b parts=some r) (c:St M W H [V] ((1,bE d 77 e)::σr) w):Calls prog 72 #[.pointer (some ⟨d,0,none⟩),.slice g parts.length f] w (QQ M W H V ((1,bE d 77 e)::σr) (fun v K=>∃ du:List Value,v=.agg du.toArray∧bV K du r)):=by
 obtain ⟨q,rfl,n⟩:=j;refine cV (M:=M) func72 J ntmps72 J c ?_;refine C (al 2 zeroValue27 J J fun p=>(N (C (A J (nl J J (aU 0 fD J eT (aU 0 eX J Z3 (aR G3 J ((sO 1 J).take 1) J (A J ?_)))))))));refine bu T12.B27 J J J (eQ 2 jM J J J J J J J (N (bH (TG.pack (fun K=>bV K [.int .i64 1,.int .i64 b.state.day,.int .i64 1,.int .i64 10,.slice g parts.length f] (⟨1,b.state.day,1,10,parts⟩:bD)) (fun H le=>⟨_,_,J,(k.mono (bW.mono) le.o)⟩) fun i h=>?_))));obtain rfl:=sj m;intro a w c l;refine wC l J (cU.cell J (fK oC jM (cW (c.get (t:=2) J)) J)) ?_;exact ⟨_,i,J,(c.selH [0,1] J).del 2,_,J,h⟩

theorem aHc (n:H.le (hp W)) {j:Addr} {f:List Value} (e:aI) (k:aN H j f) (g:(aX) H f e) {i:Option Addr} {h:Nat} {parts:List eI} (l:Sl (bW) 2 H i h parts) {r:bD} (o:KH e parts=some r):Calls prog 72 #[.pointer (some j),.slice i parts.length h] W (eY M H W (fun v K=>∃ (b:List Value),v=.agg b.toArray∧(bV) K b r)):=by
 have c:=g;obtain ⟨s,rfl,p⟩:=g;refine aK (M:=M) func72 J ntmps72 J n ?_;refine C (al 1 zeroValue27 J J fun q=>(N (C (A J (nl J J (aU 0 fD J eT (aU 0 eX J Z3 (aR G3 J ((P 0 J k).take 1) J (A J ?_)))))))));refine bu T12.B27 J J J (eQ 1 jM J J J J J J J (N (bH ?_)));obtain rfl:=sj o;intro a w d m;refine wC m J (cU.cell J (fK oC jM (cW (d.get (t:=1) J)) J)) ?_;exact ⟨⟨_,J,⟨_,_,J,(l.mono (bW.mono) (d.grow 0 J))⟩⟩,d.ext⟩

theorem w42 (hH:H.le (hp W)) {G:List Value} (B:bD) (R:(bV) H G B) {r:List aH} (hr:CA B=some r):Calls prog 42 #[.agg G.toArray] W (eY M H W (fun v K=>∃ (g:Option Addr) (d:Nat),v=.slice g r.length d∧Sl (I aO) 2 K g d r)):=by
 have o:=R;obtain ⟨aa,F,rfl,f⟩:=R;have:=f.len;refine aK (M:=M) func42 J ntmps42 J hH ?_;refine C (bI J J J fun q4 y u=>(D J (sq (C (aU 4 pK J CE (aR IQ J ((P 0 J u).drop 4) J (dU AB J J (A J ?_))))))));refine N (TG.nilRow 2 98 2 (TG.as 2 (z:=S.list none 0 98 2 aO ([]:List aH)) J J ?_));obtain ⟨h,h5,h6⟩:=L hr;refine jn (fun a w=>∃ (p:Option Addr) (q:Nat),SJ M W H [y,H] [(2,S.list p q 98 2 aO h)] 18 [(2,.slice p h.length q)] a w) ?_ ?_
 ·refine bk ?_;refine jZ [6,7] J h5 (fun l_ i a w=>∃ (k:Option Addr) (n:Nat),SJ M W H [y,H] [(2,S.list k n 98 2 aO i.2)] 18 ((2,.slice k i.2.length n)::(8,.int .i64 (i.1:Int))::l_) a w) ?_ ?_
  ·intro a w b c;exact ⟨none,0,b,c.cuE J⟩
  rintro j i y0 V Y a w ⟨k,n,b,c⟩;refine TG.ap ?_ b c;refine C (dS J J J (N (sq ?_)));refine ci J (fun s=>?_) (fun s=>?_)
  ·have h7:=aJ s V;refine sk (sq (bk (C ?_)));obtain ⟨x0,t,h8⟩:=L h7;obtain ⟨p0,rfl⟩:=f.adr t;obtain ⟨c3,hG,h9,Z⟩:=f.at t;have hI:=Z;obtain ⟨a4,c4,rfl,hB⟩:=Z;refine cP AB nW J J J J (aT t) (cM TD nW J J (P 1 J h9) J (va zeroValue132 nW J J J J J J J J fun q0 x e=>(N (rg (A J (aU 1 rP J YT (aR G91 J ((P 0 J e).drop 1) J ?_)))))));obtain ⟨hC,hE⟩:=aF h8;refine rD 2 (enc:=aO) (l:=i.2) (m:=x0.paragraphs) T12.E91 J J J J J J hB 2 J (fun _=>J) (fun _=>J) J hC fun a3 c2=>(D J (rg (dN J J J (by omega) (A J (N ?_)))));cases hE;intro a w b c;exact ⟨_,Y,a3,c2,b.selH [1,2] J,c.cuE J⟩
  have hF:=aS s V;refine xt J ?_;cases hF;obtain rfl:=dF.out Y;intro a w b c;exact ⟨k,n,b,c.cuE J⟩
 rintro a w ⟨p,q,b,c⟩;apply TG.ap ?_ b c;refine C (A J (D J (bH ?_)));cases h6;intro a w b c;refine dT c J J ?_;exact ⟨⟨_,_,J,(b.listOut 2 J (fun _=>J))⟩,b.ext⟩

theorem TZ {M:Prop} {W:World} (e:Int) (low:Int) (c:Int) {r:Bool} (i:IP e low c=some r):Calls prog 26 #[.int .i64 e,.int .i64 low,.int .i64 c] W (bJ M W (.bool r)):=by
 refine aK (M:=M) func26 J ntmps26 J (Hp.le.refl _) ?_;refine C (D J (sq ?_));obtain ⟨j,d,f⟩:=L i;refine eU [] [(6,.bool j)] J ?_ ?_
 ·refine rg (A J (A J (jN J J J (A J ?_))));by_cases b:low≤e
  ·have g:=aJ b d;refine gt b J (A J (gt b J (A J (gt b J (jN J J J (pt b J J (D J ?_)))))));cases g;exact cuE J
  have h:=aS b d;refine cC 3 J J J (decide_eq_false b) J (pf b J J (D J ?_));cases h;exact cuE J
 refine bH ?_;cases f;exact cK J J

theorem VE {M:Prop} {W:World} (b:Int) {r:Bool} (e:KI b=some r):Calls prog 47 #[.int .i64 b] W (bJ M W (.bool r)):=by
 refine aK (M:=M) func47 J ntmps47 J (Hp.le.refl _) ?_;refine C (D J (C (A J ?_)));obtain ⟨g,d,c⟩:=L e;refine bB TC J (fun w H f le=>TZ b 0 99999 d) (D J (bH ?_));cases c;exact cK J J

theorem aHd (q:H.le (hp W)) {m:List Value} (e:aH) (p:(I aO) H m e) {j:Addr} {l:Value} {bx:aH→Option Bool} (o:aN H j [l]) (k:eP M prog H l (fC (Va aO) Value.bool bx)) {r:Bool} (s:xD e bx=some r):Calls prog 149 #[.agg m.toArray,.pointer (some j)] W (bJ M W (.bool r)):=by
 obtain rfl:=p;have b:=k;obtain ⟨f,d,c,rfl,_,_⟩:=k;refine aK (M:=M) func149 J ntmps149 J q ?_;refine C (bI J J J fun u t g=>(D J (C (aR aGm J (P 1 J o) J (cM BI lO J J (P 0 J g) J ?_)))));obtain ⟨n,i,h⟩:=L s;refine mT (v:=.bool n) b 1 J J J J (fun H le=>⟨_,e,n,J,J,i,J⟩) (nt J J (D J (bH ?_)));cases h;exact cK J J

theorem aHe (hH:H.le (hp W)) {o:Option Addr} {n:Nat} {ai:List aH} (g:Sl (I aO) 2 H o n ai) {p:Value} {cg:aH→Option Bool} (q:eP M prog H p (fC (Va aO) Value.bool cg)) {r:Int} (hr:RD ai cg=some r):Calls prog 210 #[.slice o ai.length n,p] W (bJ M W (.int .i64 r)):=by
 have:=g.len;have b:=q;obtain ⟨h,f,e,rfl,_,_⟩:=q;refine aK (M:=M) func210 J ntmps210 J hH ?_;refine C (D J (sq (C (A J (dU wG J J (A J (N ?_)))))));obtain ⟨e19,B,s⟩:=L hr;refine jn (fun a w=>∃ z,e19=.inl z∧SJ M W H [H] [] 19 [] a w) ?_ ?_
 ·refine bk ?_;refine jO [0,1,7] J B (fun l_ y=>(8,.int .i64 (y:Int))::l_) ?_ ?_
  ·exact cuE J
  intro j y y0 t i;refine C (dS J J J (N (sq ?_)));refine ci J (fun k=>?_) (fun k=>?_)
  ·have F:=aJ k t;refine sk (sq (bk (C (A J (D J (C (A J (A J ?_))))))));refine A J ?_;obtain ⟨x0,l,G⟩:=L F;obtain ⟨p0,rfl⟩:=g.adr l;have K:=g.atF l;refine cP wG lO J J J J (aT l) (cM BI lO J J (P 0 J K) J ?_);obtain ⟨x,R,u⟩:=L G;refine mT (v:=.bool x) b 0 J J J J (fun H le=>⟨_,x0,x,J,J,R,J⟩) (N ?_);refine cb J (fun m=>?_) (fun m=>?_)
   ·have V:=aJ m u;refine C (A J (D J (bH ?_)));cases V;obtain rfl:=dF.out i;cases s;exact cK J J
   have Y:=bK m u;refine sk (rg (dN J J J (by omega) (A J (N ?_))));cases Y;intro a w d c;exact ⟨_,i,d,c.cuE J⟩
  have Z:=aS k t;refine xt J ?_;cases Z;obtain rfl:=dF.out i;intro a w d c;exact ⟨_,J,d,c.cut tv⟩
 rintro a w ⟨z,rfl,d,c⟩;apply TG.ap ?_ d c;refine C (D J (bH ?_));cases s;exact cK J J

theorem aHf (f:H.le (hp W)) {j:Option Addr} {i:Nat} {ai:List aH} (m:Sl (I aO) 2 H j i ai) {k:Value} {cg:aH→Option Bool} (l:eP M prog H k (fC (Va aO) Value.bool cg)) {r:Bool} (n:RF ai cg=some r):Calls prog 148 #[.slice j ai.length i,k] W (bJ M W (.bool r)):=by
 have b:=l;obtain ⟨e,d,c,rfl,_,_⟩:=l;refine aK (M:=M) func148 J ntmps148 J f ?_;refine C (D J (C (A J (A J ?_))));obtain ⟨p,h,g⟩:=L n;refine bB aEn J (fun w H f le=>aHe f (m.mono (I.mono _) le.o) (cg:=cg) (b.mono le.o) h) (pW J J J (D J (bH ?_)));cases g;exact cK J J

theorem aHg (j:H.le (hp W)) {p:Option Addr} {o:Nat} {bj:List aH} (y:Sl (I aO) 2 H p o bj) {q:Value} {right:aH→Option Bool} (s:eP M prog H q (fC (Va aO) Value.bool right)) {r:Bool} (z:AU bj right=some r):Calls prog 100 #[.slice p bj.length o,q] W (bJ M W (.bool r)):=by
 have b:=s;obtain ⟨f,e,d,rfl,_,_⟩:=s;refine aK (M:=M) func100 J ntmps100 J j ?_;refine C (bI J J J fun u R k=>(D J (C (A J (fn J J J ?_)))));obtain ⟨G,n,m⟩:=L z
 refine mG (v:=.bool G) aDr J J J J (fun w H j le=>by
   have l:eP M prog H (.func (.func 149) #[] #[.pointer (some u)]) (fC (Va aO) Value.bool (fun c=>xD c right)):=⟨149,[],[.pointer (some u)],rfl,aDs,fun Z x g Y t B hs=>by obtain ⟨K,c,V,rfl,h,F,rfl⟩:=hs;cases h;exact aHd (H:=x) B  c rfl (bx:=right) (k.mono ((le.at 0 rfl).trans t)) (b.mono ((le.at 1 rfl).trans t)) F⟩
   exact aHf j (y.mono (I.mono _) le.i) (cg:=(fun c=>xD c right)) l n) ?_
 refine nt J J (D J (bH ?_));cases m;exact cK J J

theorem w64 {M:Prop} {W:World} (b:Int) {r:Bool} (e:UW b=some r):Calls prog 64 #[.int .i64 b] W (bJ M W (.bool r)):=by
 refine aK (M:=M) func64 J ntmps64 J (Hp.le.refl _) ?_;refine C (D J (C (A J ?_)));obtain ⟨g,d,c⟩:=L e;refine bB TC J (fun w H f le=>TZ b 1 999 d) (D J (bH ?_));cases c;exact cK J J

theorem aHi (n:H.le (hp W)) (e:Int) {i:Addr} {k:Value} {bx:Int→Option Bool} (m:aN H i [k]) (j:eP M prog H k (fC (Vi .u8) Value.bool bx)) {r:Bool} (o:xE e bx=some r):Calls prog 151 #[.int .u8 e,.pointer (some i)] W (bJ M W (.bool r)):=by
 have b:=j;obtain ⟨f,d,c,rfl,_,_⟩:=j;refine aK (M:=M) func151 J ntmps151 J n ?_;refine C (D J (C (aR TF J (P 0 J m) J (A J ?_))));obtain ⟨l,h,g⟩:=L o;refine mT (v:=.bool l) b 0 J J J J (fun H le=>⟨_,e,l,J,J,h,J⟩) (nt J J (D J (bH ?_)));cases g;exact cK J J

theorem aHj (hH:H.le (hp W)) {o:Option Addr} {n:Nat} {ai:List UInt8} (g:Sl (I cH) 1 H o n ai) {p:Value} {cg:Int→Option Bool} (q:eP M prog H p (fC (Vi .u8) Value.bool cg)) {r:Int} (hr:EE ai cg=some r):Calls prog 211 #[.slice o ai.length n,p] W (bJ M W (.int .i64 r)):=by
 have:=g.len;have b:=q;obtain ⟨h,f,e,rfl,_,_⟩:=q;refine aK (M:=M) func211 J ntmps211 J hH ?_;refine C (D J (sq (C (A J (dU mB J J (A J (N ?_)))))));obtain ⟨e19,B,s⟩:=L hr;refine jn (fun a w=>∃ z,e19=.inl z∧SJ M W H [H] [] 19 [] a w) ?_ ?_
 ·refine bk ?_;refine jO [0,1,7] J B (fun l_ y=>(8,.int .i64 (y:Int))::l_) ?_ ?_
  ·exact cuE J
  intro j y y0 t i;refine C (dS J J J (N (sq ?_)));refine ci J (fun k=>?_) (fun k=>?_)
  ·have F:=aJ k t;refine sk (sq (bk (C (A J (D J (C (A J (A J ?_))))))));refine A J ?_;obtain ⟨x0,l,G⟩:=L F;obtain ⟨p0,rfl⟩:=g.adr l;have K:=g.atF l;refine cP mB Z5 J J J J (aT l) (aR G5 J (P 0 J K) J ?_);obtain ⟨x,R,u⟩:=L G;refine mT (v:=.bool x) b 0 J J J J (fun H le=>⟨_,(x0.toNat:Int),x,J,J,R,J⟩) (N ?_);refine cb J (fun m=>?_) (fun m=>?_)
   ·have V:=aJ m u;refine C (A J (D J (bH ?_)));cases V;obtain rfl:=dF.out i;cases s;exact cK J J
   have Y:=bK m u;refine sk (rg (dN J J J (by omega) (A J (N ?_))));cases Y;intro a w d c;exact ⟨_,i,d,c.cuE J⟩
  have Z:=aS k t;refine xt J ?_;cases Z;obtain rfl:=dF.out i;intro a w d c;exact ⟨_,J,d,c.cut tv⟩
 rintro a w ⟨z,rfl,d,c⟩;apply TG.ap ?_ d c;refine C (D J (bH ?_));cases s;exact cK J J

theorem UA (f:H.le (hp W)) {j:Option Addr} {i:Nat} {ai:List UInt8} (m:Sl (I cH) 1 H j i ai) {k:Value} {cg:Int→Option Bool} (l:eP M prog H k (fC (Vi .u8) Value.bool cg)) {r:Bool} (n:xF ai cg=some r):Calls prog 150 #[.slice j ai.length i,k] W (bJ M W (.bool r)):=by
 have b:=l;obtain ⟨e,d,c,rfl,_,_⟩:=l;refine aK (M:=M) func150 J ntmps150 J f ?_;refine C (D J (C (A J (A J ?_))));obtain ⟨p,h,g⟩:=L n;refine bB aEo J (fun w H f le=>aHj f (m.mono (I.mono _) le.o) (cg:=cg) (b.mono le.o) h) (pW J J J (D J (bH ?_)));cases g;exact cK J J

theorem aHk (j:H.le (hp W)) {p:Option Addr} {o:Nat} {bj:List UInt8} (y:Sl (I cH) 1 H p o bj) {q:Value} {right:Int→Option Bool} (s:eP M prog H q (fC (Vi .u8) Value.bool right)) {r:Bool} (z:KJ bj right=some r):Calls prog 103 #[.slice p bj.length o,q] W (bJ M W (.bool r)):=by
 have b:=s;obtain ⟨f,e,d,rfl,_,_⟩:=s;refine aK (M:=M) func103 J ntmps103 J j ?_;refine C (bI J J J fun u R k=>(D J (C (A J (fn J J J ?_)))));obtain ⟨G,n,m⟩:=L z
 refine mG (v:=.bool G) TA J J J J (fun w H j le=>by
   have l:eP M prog H (.func (.func 151) #[] #[.pointer (some u)]) (fC (Vi .u8) Value.bool (fun c=>xE c right)):=⟨151,[],[.pointer (some u)],rfl,aDt,fun Z x g Y t B hs=>by obtain ⟨K,c,V,rfl,h,F,rfl⟩:=hs;cases h;exact aHi (H:=x) B  c (bx:=right) (k.mono ((le.at 0 rfl).trans t)) (b.mono ((le.at 1 rfl).trans t)) F⟩
   exact UA j (y.mono (I.mono _) le.i) (cg:=(fun c=>xE c right)) l n) ?_
 refine nt J J (D J (bH ?_));cases m;exact cK J J

theorem aHl {M:Prop} {W:World} (d:Int) {r:Bool} (h:AV d=some r):Calls prog 104 #[.int .u8 d] W (bJ M W (.bool r)):=by
 refine aK (M:=M) func104 J ntmps104 J (Hp.le.refl _) ?_;refine C (D J (sq ?_));obtain ⟨i,c,e⟩:=L h;refine eU [] [(2,.bool i)] J ?_ ?_
 ·refine rg (A J (jN J J J (A J ?_)));by_cases b:(32:Int)≤d
  ·have f:=aJ b c;refine gt b J (A J (gt b J (jN J J J (pt b J J (D J ?_)))));cases f;exact cuE J
  have g:=aS b c;refine cC 2 J J J (decide_eq_false b) J (pf b J J (D J ?_));cases g;exact cuE J
 refine bH ?_;cases e;exact cK J J

theorem w65 {M:Prop} {W:World} (ai:aE) {r:Bool} (z:wE ai=some r):Calls prog 65 #[.string (bs ai)] W (bJ M W (.bool r)):=by
 refine aK (M:=M) func65 J ntmps65 J (Hp.le.refl _) ?_;refine C (D J (sq ?_));obtain ⟨K,i,j⟩:=L z;refine eU [] [(2,.bool K)] J ?_ ?_
 ·refine rg (A J (uL U9 J J ?_));obtain ⟨F,k,f⟩:=L i;refine bB TC J (fun w H g le=>TZ (ai.length:Int) 1 200 k) (A J ?_);rcases Bool.eq_false_or_eq_true (F) with b|b
  ·have l:=aJ b f;refine gN J J (b) (A J (gN J J (b) ?_));obtain ⟨m,n⟩:=aF l;refine cvB U9 mB U5 J J m fun Y Z h p=>?_;refine gN J J (b) ?_;obtain ⟨G,q,t⟩:=L n
   refine mG (v:=.bool G) aC6 J J J J (fun w H g le=>by
     have u:eP M prog H (.func (.func 104) #[] #[]) (fC (Vi .u8) Value.bool (AV)):=⟨104,[],[],rfl,aC7,fun w_ V c v_ hK hw hs=>by obtain ⟨R,e,r_,rfl,d,B,rfl⟩:=hs;cases d;exact aHl  e  B⟩
     exact aHk g (p.mono (I.mono _) le.o) (right:=(AV)) u q) ?_
   refine pT J J (b) J (D J ?_);cases t;intro a w y s;exact ⟨y.selH [1] J,s.cuE J⟩
  have x:=bK b f;refine cC 3 J J J (b) J (pF J J (b) J (D J ?_));cases x;exact cuE J
 refine bH ?_;cases j;exact cK J J

theorem aHn {M:Prop} {W:World} {e:List Value} (d:aH) (g:(I aO) (hp W) e d) {r:Bool} (p:jP d=some r):Calls prog 101 #[.agg e.toArray] W (bJ M W (.bool r)):=by
 obtain rfl:=g;refine aK (M:=M) func101 J ntmps101 J (Hp.le.refl _) ?_;refine C (bI J J J fun t s c=>(D J (sq ?_)));obtain ⟨t13,h,i⟩:=L p;refine eU [] [(2,.bool t13)] J ?_ ?_
 ·refine rg (aU 0 yK J Z3 (aR G3 J ((P 0 J c).take 1) J ?_));obtain ⟨q,j,f⟩:=L h;refine bB C64 J (fun w H o le=>w64 d.anchor j) (A J ?_);rcases Bool.eq_false_or_eq_true (q) with b|b
  ·have k:=aJ b f;refine gN J J (b) (aU 1 yK J Z9 (gN J J (b) (aR G9 J ((P 0 J c).drop 1) J (gN J J (b) ?_))));obtain ⟨u,l,m⟩:=L k;refine bB C65 J (fun w H o le=>w65 d.text l) (pT J J (b) J (D J ?_));cases m;exact cuE J
  have n:=bK b f;refine cC 3 J J J (b) J (pF J J (b) J (D J ?_));cases n;exact cuE J
 refine bH ?_;cases i;exact cK J J

theorem w61 (h:H.le (hp W)) {cn:List Value} (s:bD) (cz:(bV) H cn s) {r:Bool} (hr:KK s=some r):Calls prog 61 #[.agg cn.toArray] W (bJ M W (.bool r)):=by
 have p:=cz;obtain ⟨bi,bh,rfl,q⟩:=cz;have:=q.len;refine aK (M:=M) func61 J ntmps61 J h ?_;refine C (bI J J J fun q4 K5 b=>(D J (sq (C (aU 4 pK J CE (aR IQ J ((P 0 J b).drop 4) J (dU AB J J (A J ?_))))))));refine N ?_;obtain ⟨u,hW,hC⟩:=L hr;refine gG [1] J (fun l_ a w=>∃ t58,u=.inl t58∧SJ M W H [K5,H] [] 64 l_ a w) ?_ ?_
 ·refine bk ?_;refine jO [1,6,7] J hW (fun l_ s1=>(8,.int .i64 (s1:Int))::l_) ?_ ?_
  ·exact cuE J
  intro j s1 y0 hE y;refine C (dS J J J (N (sq ?_)));refine ci J (fun z=>?_) (fun z=>?_)
  ·have hX:=aJ z hE;refine sk (sq (bk (C (A J ?_))));obtain ⟨x0,B,F⟩:=L hX;obtain ⟨p0,rfl⟩:=q.adr B;obtain ⟨c0,bj,R,hG⟩:=q.at B;have bl:=hG;obtain ⟨a0,c1,rfl,bm⟩:=hG;refine cP AB nW J J J J (aT B) (cM TD nW J J (P 1 J R) J (al 1 zeroValue132 J J fun b0=>(a1 J (eQ 1 nW J J J J J J J (N (sq ?_))))));obtain ⟨t0,Y,hI⟩:=L F;refine eU [1,6,7,8] [(39,.bool t0)] J ?_ ?_
   ·obtain ⟨r0,aa,hJ⟩:=L Y;refine eH 24 mixed (by kernel_rfl) J (E J (aU 0 rP J Z3 aG) (E J (aR G3 J ((sO 1 J).take 1) J aG) (E J (bB UZ J (fun w H h le=>VE x0.day aa) aG) (E J (nt J J aG) (dC J ?_)))));rcases Bool.eq_false_or_eq_true (r0) with g|g
    ·have hL:=aJ g hJ;refine E J (gN J J (congrArg not (g)) (aU 0 rP J Z3 aG)) (E J (gN J J (congrArg not (g)) (aR G3 J ((sO 1 J).take 1) J aG)) (E J (gN J J (congrArg not (g)) (aU 1 pK J Z3 aG)) (E J (gN J J (congrArg not (g)) (aR G3 J (((P 1 J b).drop 1).take 1) J aG)) (E J (gN J J (congrArg not (g)) (lL J J J aG)) (E J (pF J J (congrArg not (g)) J aG) (dC J ?_))))));by_cases f:s.bound<x0.day
     ·have ac:=aJ f hL;refine kY 3 J J (decide_eq_true f) J ⟨J,J,J,tv⟩ (E J (gU J J J aG) (E J (gU J J J aG) (E J (gU J J J aG) (E J (gU J J J aG) (E J (gU J J J aG) (E J (gU J J J aG) (E J (gU J J J aG) (E J (gU J J J aG) (E J (gU J J J aG) (DF.nil fun bc hF=>(gU J J J ?_)))))))))));refine BZ f J (pt f J J (N ?_));cases ac;intro a w e d;exact ⟨e.selH [1,2] J,d.cuE J⟩
     have hM:=aS f hL;refine E J (dJ f J (A J aG)) (E J (dJ f J (lL J J J aG)) (E J (dJ f J (A J aG)) ?_));by_cases c:0<(s1:Int)
     ·have ae:=aJ c hM;obtain ⟨x1,hN,ag⟩:=L ae;obtain ⟨c2,bn,ai,hO⟩:=q.at hN;have bo:=hO;obtain ⟨a2,c3,rfl,bp⟩:=hO;refine E J (gt c J (aU 0 rP J Z3 aG)) (E J (gt c J (aR G3 J ((sO 1 J).take 1) J aG)) (E J (gt c J (aU 4 pK J CE aG)) (E J (gt c J (aR IQ J ((P 1 J b).drop 4) J aG)) (E J (gt c J (A J aG)) (E J (gt c J (qH J J J (by omega) aG)) (E J (gt c J (cP AB nW J J J (by omega) (aT hN) aG)) (E J (gt c J (aU 0 rP J Z3 aG)) (E J (gt c J (aR G3 J ((P 2 J ai).take 1) J aG)) (DF.nil fun bd hF=>(gt c J (jN J J J ?_)))))))))));refine dJ f J (pt c J J (pf f J J (N ?_)));cases ag;intro a w e d;exact ⟨e.selH [1,2] J,d.cuE J⟩
     have aj:=aS c hM;refine kY 9 J J (decide_eq_false c) J ⟨J,J,J,J,J,J,J,J,J,tv⟩ (DF.nil fun be hF=>(gf c J (dJ f J (pf c J J (pf f J J (N ?_))))));cases aj;intro a w e d;exact ⟨e.selH [1,2] J,d.cuE J⟩
    have ak:=bK g hJ;refine kY 5 J J (congrArg not (g)) J ⟨J,J,J,J,J,tv⟩ (E J (pT J J (congrArg not (g)) J aG) (dC J (kY 3 J J J J ⟨J,J,J,tv⟩ (E J (gU J J J aG) (E J (gU J J J aG) (E J (gU J J J aG) (E J (gU J J J aG) (E J (gU J J J aG) (E J (gU J J J aG) (E J (gU J J J aG) (E J (gU J J J aG) ?_)))))))))));refine E J (gU J J J aG) (DF.nil fun bf hF=>(gU J J J (gF J J J J (pT J J J J (N ?_)))));cases ak;intro a w e d;exact ⟨e.selH [1,2] J,d.cuE J⟩
   refine cb J (fun K=>?_) (fun K=>?_)
   ·have am:=aJ K hI;refine C (D J (bH ?_));cases am;obtain rfl:=dF.out y;cases hC;exact cK J J
   have an:=bK K hI;refine sk (rg (dN J J J (by omega) (A J (N (TG.del 1 ?_)))));cases an;intro a w e d;exact ⟨_,y,e,d.cuE J⟩
  have ao:=aS z hE;refine xt J ?_;cases ao;obtain rfl:=dF.out y;intro a w e d;exact ⟨_,J,e,d.cuE J⟩
 rintro a w ⟨t58,rfl,e,d⟩;apply TG.ap ?_ e d;refine sq ?_;obtain ⟨t1,aq,ar⟩:=L hC;refine eU [] [(2,.bool t1)] J ?_ ?_
 ·refine rg (aU 0 pK J Z3 (aR G3 J ((P 0 J b).take 1) J ?_));obtain ⟨r1,au,hP⟩:=L aq;refine bB TC J (fun w H h le=>TZ s.number 1 99 au) (A J ?_);rcases Bool.eq_false_or_eq_true (r1) with k|k
  ·have aw:=aJ k hP;refine gN J J (k) (aU 1 pK J Z3 (gN J J (k) (aR G3 J (((P 0 J b).drop 1).take 1) J (gN J J (k) ?_))));obtain ⟨r2,ax,hR⟩:=L aw;refine bB UZ J (fun w H h le=>VE s.bound ax) (pT J J (k) J (A J ?_));rcases Bool.eq_false_or_eq_true (r2) with l|l
   ·have ay:=aJ l hR;refine gN J J (l) (aU 2 pK J Z3 (gN J J (l) (aR G3 J (((P 0 J b).drop 2).take 1) J (gN J J (l) ?_))));obtain ⟨r3,az,hT⟩:=L ay;refine bB TC J (fun w H h le=>TZ s.height 1 60 az) (pT J J (l) J (A J ?_));rcases Bool.eq_false_or_eq_true (r3) with m|m
    ·have a4:=aJ m hT;refine gN J J (m) (aU 3 pK J Z3 (gN J J (m) (aR G3 J (((P 0 J b).drop 3).take 1) J (gN J J (m) ?_))));obtain ⟨r4,a5,hV⟩:=L a4;refine bB TC J (fun w H h le=>TZ s.width 10 80 a5) (pT J J (m) J (A J ?_));rcases Bool.eq_false_or_eq_true (r4) with n|n
     ·have a6:=aJ n hV;refine gN J J (n) (cM oC jM J J (P 0 J b) J (gN J J (n) ?_));obtain ⟨r8,a7,a8⟩:=L a6;refine gW C42 J J J J (fun w H h le=>w42 h s (bV.mono _ _ _ _ le.i p) a7) ?_;rintro v_ bg ⟨a3,c4,rfl,a9⟩;refine gN J J (n) ?_;obtain ⟨r5,G,V⟩:=L a8
      refine mG (v:=.bool r5) aC3 J J J J (fun w H h le=>by
        have Z:eP M prog H (.func (.func 101) #[] #[]) (fC (Va aO) Value.bool (jP)):=⟨101,[],[],rfl,aC4,fun w_ K_ t v_ hK hw hs=>by obtain ⟨bq,bb,r_,rfl,x,hx,rfl⟩:=hs;cases x;exact aHn  bb rfl  hx⟩
        exact aHg h (a9.mono (I.mono _) le.o) (right:=(jP)) Z G) ?_
      refine pT J J (n) J (D J ?_);cases V;intro a w e d;exact ⟨e.selH [1,2] J,d.cuE J⟩
     have ab:=bK n hV;refine cC 3 J J J (n) J (pF J J (n) J (D J ?_));cases ab;exact cuE J
    have ad:=bK m hT;refine cC 3 J J J (m) J (pF J J (m) J (A J (cC 3 J J J J J (pF J J J J (D J ?_)))));cases ad;exact cuE J
   have af:=bK l hR;refine cC 3 J J J (l) J (pF J J (l) J (A J (cC 3 J J J J J (pF J J J J (A J (cC 3 J J J J J (pF J J J J (D J ?_))))))));cases af;exact cuE J
  have ah:=bK k hP;refine cC 3 J J J (k) J (pF J J (k) J (A J (cC 3 J J J J J (pF J J J J (A J (cC 3 J J J J J (pF J J J J (A J (cC 3 J J J J J (pF J J J J (a1 J ?_)))))))))));refine N ?_;cases ah;exact cuE J
 refine bH ?_;cases ar;exact cK J J

theorem w39 (l:H.le (hp W)) {K:List Value} (k:bD) (R:(bV) H K k) {r:Int} (hr:AW k=some r):Calls prog 39 #[.agg K.toArray] W (bJ M W (.int .i64 r)):=by
 have b:=R;obtain ⟨aa,G,rfl,ab⟩:=R;refine aK (M:=M) func39 J ntmps39 J l ?_;refine C (bI J J J fun q4 B f=>(D J (C (cM oC jM J J (P 0 J f) J ?_))));obtain ⟨r7,x,v⟩:=L hr;refine gW C42 J J J J (fun w H l le=>w42 l k (bV.mono _ _ _ _ le.i b) x) ?_;rintro v_ h ⟨a0,c0,rfl,n⟩;have:=n.len;refine D J (sq (bk (sq ?_)));obtain ⟨t30,V,Y⟩:=L v;refine eU [1,3] [(9,.bool t30)] J ?_ ?_
 ·refine rg (aU 4 pK J CE (aR IQ J ((P 1 J f).drop 4) J (dU AB J J (lL J J J (A J ?_)))));by_cases d:6<(k.parts.length:Int)
  ·have hG:=aJ d V;refine cC 3 J J J (decide_eq_true d) J (pt d J J (D J ?_));cases hG;exact cuE J
  have hI:=aS d V;refine dJ d J (A J (dJ d J (dU wG J J (dJ d J (lL J J J (pf d J J (D J ?_)))))));cases hI;exact cuE J
 refine cb J (fun o=>?_) (fun o=>?_)
 ·have hJ:=aJ o Y;refine C (D J (bH ?_));cases hJ;exact cK J J
 have hK:=bK o Y;refine C (cM oC jM J J (P 1 J f) J ?_);obtain ⟨r0,hL,Z⟩:=L hK;refine bB C61 J (fun w H l le=>w61 l k (bV.mono _ _ _ _ le.u b) hL) (nt J J (D J ?_));refine cb J (fun h1=>?_) (fun h1=>?_)
 ·replace h1:=oI h1
  have hM:=bK h1 Z;refine C (D J (bH ?_));cases hM;exact cK J J
 replace h1:=oJ h1
 have hN:=aJ h1 Z;refine sk (C (OC 1 fT Value.bool J fun F=>(D J (sq (C (A J (dU wG J J (A J ?_))))))));refine N ?_;obtain ⟨m,hO,hC⟩:=L hN;refine jn (fun a w=>∃ y,m=.inl y∧SJ M W H [h,B,H] [(1,S.map' fT Value.bool F y)] 38 [] a w) ?_ ?_
 ·refine bk ?_;refine jZ [4,24,25] J hO (fun l_ s98=>SJ M W H [h,B,H] [(1,S.map' fT Value.bool F s98.2)] 38 ((26,.int .i64 (s98.1:Int))::l_)) ?_ ?_
  ·exact cuE J
  rintro j s98 y0 hE p a w ⟨g,e⟩;refine TG.ap ?_ g e;refine C (dS J J J (N (sq ?_)));refine ci J (fun q=>?_) (fun q=>?_)
  ·have hP:=aJ q hE;refine sk (sq (bk (C ?_)));obtain ⟨x0,s,hF⟩:=L hP;obtain ⟨p0,rfl⟩:=n.adr s;have hR:=n.atF s;refine cP wG lO J J J J (aT s) (cM BI lO J J (P 0 J hR) J (va zeroValue98 lO J J J J J J J J fun q0 z c=>(N (sq (C (A J (aU 0 yK J Z3 (aR G3 J ((P 0 J c).take 1) J (JQ (ke:=fT) (enc:=Value.bool) x0.anchor (z0:=false) lP U3 zeroValue4 J J J J (mO 1 J) (N ?_))))))))));refine cb J (fun t=>?_) (fun t=>?_)
   ·have hT:=aJ t hF;refine C (D J (bH ?_));cases hT;obtain rfl:=dF.out p;cases hC;exact cK J J
   have hV:=bK t hF;refine sk (rg (A J (aU 0 yK J Z3 (aR G3 J ((P 0 J c).take 1) J (II 1 (ke:=fT) (enc:=Value.bool) x0.anchor true lP U3 J J J J (N (rg (dN J J J (by omega) (A J (N ?_))))))))));cases hV;intro a w g e;exact ⟨_,p,g.selH [1,2,3] J,e.cuE J⟩
  have hW:=aS q hE;refine xt J ?_;cases hW;obtain rfl:=dF.out p;intro a w g e;exact ⟨_,J,g,e.cut tv⟩
 rintro a w ⟨y,rfl,g,e⟩;apply TG.ap ?_ g e;refine C (D J (bH ?_));cases hC;exact cK J J

theorem jR {M:Prop} {W:World} (e:Int) {r:Unit⊕Unit} (h:nP e=some r):Calls prog 131 #[.int .i64 e] W (wW M W (fun r=>.tuple #[]) (.iface 155 (.agg #[.int .i64 e])) r):=by
 refine aK (M:=M) func131 J ntmps131 J (Hp.le.refl _) ?_;refine rg (A J (fZ J J J (A J ?_)));obtain ⟨i,c,b⟩:=L h;rcases i with j|j
 ·refine bB fG J (fun w H g le=>iX (fH (decide (e=0)) e c)) (N ?_);cases b;intro a w f d;refine eF d J ?_;exact sV J f.ext
 refine eG fG J J J (fun w H g le=>iY (fH (decide (e=0)) e c)) ?_;cases b;intro a w f d;exact ⟨d.defers,nM f.ext⟩

theorem w83 {M:Prop} {W w:World} {H V:Hp} {σr:aM} {ab:Nat} {ae:List Value} (k:aI) (au:aX V ae k) {bb:Option Addr} {aq:Nat} {bz:List Int} (am:Sl (I (bP .i64)) 1 V bb aq bz) (text:aE) {r:aI⊕Int} (hr:xG k bz text=some r) (c:St M W H [V] ((1,bE ab 77 ae)::σr) w):Calls prog 83 #[.pointer (some ⟨ab,0,none⟩),.slice bb bz.length aq,.string (bs text)] w (fI M W H V σr (sC (fun y e K A'=>∃ (du:List Value),e=.returned (.tuple #[])∧A'=[(1,bE ab 77 du)]∧aX K du y) (fun u=>.iface 155 (.agg #[.int .i64 u])) [(1,bE ab 77 ae)] r)):=by
 obtain ⟨z1,rfl,z⟩:=au;refine cV (M:=M) func83 J ntmps83 J c ?_;refine C (A J (nl J J (aU 0 fD J eT (aU 7 eX J Z4 (aR G4 J (((sO 1 J).drop 7).take 1) J (nt J J ?_))))));obtain ⟨r3,ba,az⟩:=L hr;rcases r3 with y6|y6
 ·refine bB fG J (fun w H hH le=>iX (fH (!k.state.bound) 8 ba)) (N (C (A J ?_)));obtain ⟨G,ak,hE⟩:=L az;obtain ⟨p0,rfl⟩:=am.adr ak;have hG:=am.atF ak;refine cP eO Z3 J J J J (aT ak) (aR G3 J (P 0 J hG) J (A J (bu T12.B98 J J J (va zeroValue98 lO J J J J J J J J fun q2 bc Y=>(N (C (A J (nl J J (aU 0 fD J eT (aU 2 eX J jM ?_))))))))));refine aU 4 pK J CE (aR IQ J (((sO 1 J).drop 6).take 1) J ?_);obtain ⟨p,hI,hJ⟩:=L hE;refine OO 2 aDh J J J J (fun w V σr c le=>aG9 (ai:=k.state.volume.parts) (z.f0.mono (bW.mono) le.i) hI c) fun a7 c5 c2 bd g=>(D J (sq (C (A J (TG.len 2 J fun _=>(dU AB J J (qH J J J (by omega) (D J ?_))))))));refine sq ?_;obtain ⟨t45,h4,hK⟩:=L hJ;refine eU [0,6,7,8] [(45,.bool t45)] J ?_ ?_
  ·by_cases f:0≤((p.length:Int)-1)
   ·have hL:=aJ f h4;obtain ⟨x1,h2,hM⟩:=L hL;refine TG.addr 2 J (fR h2) fun b1 h=>?_;subst h;obtain ⟨cR,h5,ck,cl,s1⟩:=sER g h2;have cm:=h5;obtain ⟨a8,cS,rfl,cn⟩:=h5;refine eH 13 mixed (by kernel_rfl) J (dC J (E J (pW J J J aG) (dC J (E J (gt f J (A J aG)) (E J (gt f J (A J aG)) (E J (gt f J (cP AB nW J J J (by omega) (aT h2) aG)) (E J (gt f J (aU 0 rP J Z3 aG)) (E J (gt f J (aR G3 J ((s1 (t:=2) J).take 1) J aG)) (E J (gt f J (A J aG)) (E J (gt f J (nl J J aG)) (E J (gt f J (aU 0 fD J eT aG)) ?_)))))))))));refine E J (gt f J (aU 0 eX J Z3 aG)) (E J (gt f J (aR G3 J ((sO 1 J).take 1) J aG)) (DF.nil fun b9 v=>(gt f J (fZ J J J (pt f J J (N ?_))))));cases hM;intro a w c d;exact ⟨c.selH [1,2,3] J,d.cuE J⟩
   have hN:=aS f h4;refine eH 13 mixed (by kernel_rfl) J (dC J (E J (pW J J J aG) (dC J (kY 10 J J (decide_eq_false f) J ⟨J,J,J,J,J,J,J,J,J,J,tv⟩ (DF.nil fun ca v=>(gf f J (pf f J J (N ?_))))))));cases hN;intro a w c d;exact ⟨c.selH [1,2,3] J,d.cuE J⟩
  obtain ⟨t142,h6,hO⟩:=L hK;refine gG [0] J (fun l_ a w=>∃ (a2:Option Addr) (c1:Nat) (c3:List (List Value)) (s:Hp),St M W H [s,bd,bc,V] ([(2,S.rows a2 c1 132 2 c3 t142),(1,bE ab 77 (cO k.state z1))]++σr) w∧bQ [] 79 a ((7,.slice a2 t142.length c1)::l_)∧Rows (bW) 2 s c3 t142) ?_ ?_
  ·refine cb J (fun h3=>?_) (fun h3=>?_)
   ·have hP:=aJ h3 h6;obtain ⟨co,hR⟩:=aF hP;obtain ⟨x0,h1,hT⟩:=L hR;refine TG.addr 2 J (fR h1) fun b0 h=>?_;subst h;obtain ⟨cd,h7,cp,hV,s2⟩:=sER g h1;have cq:=h7;obtain ⟨a9,ce,rfl,hW⟩:=h7;obtain ⟨B,hX,be⟩:=L hT;refine eH 9 mixed (by kernel_rfl) J (dC J (dC J (dC J (dC J (E J (cP AB nW J J J (by omega) (aT h1) aG) (E J (aU 1 rP J YT aG) (E J (aR G91 J ((s2 (t:=2) J).drop 1) J aG) (E J (cM BI lO J J (P 2 J Y) J aG) (uS B.length (I aO) 2 B (I.mono _) J (gW aDi J J J J (fun w H hH le=>aHb hH (hW.mono (I.mono _) le.i) (⟨G,text⟩:aH) J hX) (kS (I.mono _))) fun a3 c4=>(DF.nil fun b3 v=>?_))))))))));obtain ⟨bf,_⟩:=v;refine cP AB nW J J J (by omega) (aT h1) (aU 1 rP J YT ?_);have bg:(p.set (((p.length:Int)-1).toNat) (⟨x0.day,B⟩:eI)).length=p.length:=(wQ _ _ _)
    let Z:List Value:=[.int .i64 x0.day,.slice a3 B.length c4]
    refine TG.pack (fun K=>Rows (bW) 2 K (c2.set (((p.length:Int)-1).toNat) Z) (p.set (((p.length:Int)-1).toNat) (⟨x0.day,B⟩:eI))) (fun H le=>Rows.set (R:=bW) (cs1:=Z) (y:=(⟨x0.day,B⟩:eI)) J J ⟨_,_,J,(bf.mono (I.mono _) le.o)⟩ (((p.length:Int)-1).toNat) (g.mono (bW.mono) le.i)) fun an ag=>(stR 2 (⟨x0.day,B⟩:eI) Z (q:=⟨b0,0,none⟩) (j:=((p.length:Int)-1).toNat) (size:=2) (cs:=[.slice a3 B.length c4]) (off:=1) YT (OJ (b:=1) J) J J g hV J J J J J J (N ?_));cases be;intro a w c d;exact ⟨(some ⟨b0,0,none⟩),c5,(c2.set (((p.length:Int)-1).toNat) [Value.int .i64 x0.day,Value.slice a3 B.length c4]),an,c.selH [0,2,3,4] J,d.cut ⟨(congrArg (fun (n:Nat)=>some (Value.slice (some ⟨b0,0,none⟩) n c5)) bg.symm),J,tv⟩,ag⟩
   have bh:=bK h3 h6;refine eH 10 mixed (by kernel_rfl) J (dC J (dC J (E J (nl J J aG) (E J (aU 0 fD J eT aG) (E J (aU 0 eX J Z3 aG) (E J (aR G3 J ((sO 1 J).take 1) J aG) (E J (cM BI lO J J (P 2 J Y) J aG) ?_)))))))
   refine uS 1 (I aO) 2 ([(⟨G,text⟩:aH)]:List aH) (I.mono _) J (bS T12.E91 J J J J fun q0 ao bi aa=>by
     have bj:Sl (I aO) 2 ao (some q0) 1 ([(⟨G,text⟩:aH)]:List aH):=Sl.litF (fun _=>J) (fun _=>J) bi aa J J J
     exact rJ (I.mono _) bj) fun a4 c6=>?_
   let ay:List Value:=[.int .i64 k.state.day,.slice a4 1 c6]
   refine uC (.agg ay.toArray) (fun K=>Sl (I aO) 2 K a4 c6 ([(⟨G,text⟩:aH)]:List aH)) (fun _ _ h x=>x.mono (I.mono _) h) J (fun a w K c d v F=>TG.pa c d (bu T12.B132 J J J (F (v.1 J)))) ?_
   refine uF 1 (bW) 2 ([(⟨k.state.day,([(⟨G,text⟩:aH)]:List aH)⟩:eI)]:List eI) (bW.mono) J (fun a w K c d v=>TG.pa c d (bS T12.E25 J J J J fun q1 b4 bl ad=>by
     refine TG.pack (fun K=>Sl (bW) 2 K (some q1) 1 ([(⟨k.state.day,([(⟨G,text⟩:aH)]:List aH)⟩:eI)]:List eI)) (fun H le=>Sl.litR (css:=[ay]) (l:=([(⟨k.state.day,([(⟨G,text⟩:aH)]:List aH)⟩:eI)]:List eI)) ⟨⟨J,J,⟨_,_,J,((v.1 J).mono (I.mono _) le.i)⟩⟩,tv⟩ bl (ad.mono le.o) J) fun b5 bm=>?_;refine sk1 ?_
     exact rJ (bW.mono) bm)) fun a5 c7=>?_
   refine DF.nil fun b6 v=>?_;obtain ⟨bn,cr,ch,_⟩:=v;obtain ⟨bo,bp⟩:=aF bh;refine TG.pack (fun K=>Sl (bW) 2 K a5 c7 ([(⟨k.state.day,([(⟨G,text⟩:aH)]:List aH)⟩:eI)]:List eI)∧Rows (bW) 2 K c2 p) (fun H le=>⟨bn.mono (bW.mono) le.o,g.mono (bW.mono) le.i⟩) fun ar ⟨bq,ah⟩=>(VX 2 (l:=p) (m:=([(⟨k.state.day,([(⟨G,text⟩:aH)]:List aH)⟩:eI)]:List eI)) T12.E25 J J J J J J bq ah bW.one J bo fun a6 c8 c9 aj=>(D J ?_));cases bp;intro a w c d;exact ⟨a6,c8,c9,ar,c.selH [0,2,3,4] J,d.cuE J,aj⟩
  rintro a w ⟨a2,c1,c3,s,c,d,af⟩;refine TG.ap ?_ c d;refine C (A J (A J (TG.stillR 2 J 0 J (bW.mono) af fun b7 h8=>?_)));obtain ⟨r4,br,bt⟩:=L hO;refine clQ 1 C72 J J J J J (fun w V σr c le=>w72 k ⟨z1,J,{z.mono le.x with f0:=(z.f0.mono (bW.mono) le.x)}⟩ (parts:=t142) (h8.mono (bW.mono) le.o) br c) ?_;rintro v_ b8 ⟨cf,rfl,h9⟩;have bv:=h9;obtain ⟨cc,cg,rfl,cj⟩:=h9;obtain ⟨r2,bw,bx⟩:=L bt;refine bB C39 J (fun w H hH le=>w39 hH r4 (bV.mono _ _ _ _ le.o bv) bw) ?_;obtain ⟨r5,hB,hC⟩:=L bx
  let ax:List Value:=((cO k.state z1).set 6 (.slice a2 t142.length c1))
  rcases r5 with y0|y0
  ·refine bB jQ J (fun w H hH le=>iX (jR r2 hB)) (N (rg (A J (A J (nl J J (aU 0 fD J eT (aU 2 eX J jM (aU 4 pK J CE (eQ 1 CE J J J J J J J (N (TG.pack (fun K=>aX K ax (⟨({k.state with volume:=({k.state.volume with parts:=t142}:bD)}:dE)⟩:aI)) (fun H le=>⟨{z1 with a0:=a2,c0:=c1},J,{z.mono (le.at 5 J) with f0:=(h8.mono (bW.mono) le.i)}⟩) fun aw b2=>?_)))))))))));cases hC;intro a w c d;refine eF d J ?_;exact ⟨aw,[(1,bE ab 77 ax)],c.selH [0,6] J,_,J,J,b2⟩
  refine eG jQ J J J (fun w H hH le=>iY (jR r2 hB)) ?_;cases hC;intro a w c d;exact ⟨d.defers,V,[_],c.selH [5,5] J,J,J⟩
 refine eG fG J J J (fun w H hH le=>iY (fH (!k.state.bound) 8 ba)) ?_;cases az;intro a w c d;exact ⟨d.defers,V,[_],c.selH [0,0] J,J,J⟩

theorem w84 {M:Prop} {W w:World} {H V:Hp} {σr:aM} {k:Nat} {F:List Value} (c:aI) (au:aX V F c) {bb:Option Addr} {aq:Nat} {bz:List Int} (x:Sl (I (bP .i64)) 1 V bb aq bz) (db:aE) {r:aI⊕Int} (hr:KL c bz db=some r) (b:St M W H [V] ((1,bE k 77 F)::σr) w):Calls prog 84 #[.pointer (some ⟨k,0,none⟩),.slice bb bz.length aq,.string (bs db)] w (fI M W H V σr (sC (fun y e K A'=>∃ (du:List Value),e=.returned (.tuple #[])∧A'=[(1,bE k 77 du)]∧aX K du y) (fun u=>.iface 155 (.agg #[.int .i64 u])) [(1,bE k 77 F)] r)):=by
 obtain ⟨z1,rfl,n⟩:=au;refine cV (M:=M) func84 J ntmps84 J b ?_;refine C (A J (nl J J (aU 0 fD J eT (aU 7 eX J Z4 (aR G4 J (((sO 1 J).drop 7).take 1) J (nt J J ?_))))));obtain ⟨r3,t,q⟩:=L hr;rcases r3 with y6|y6
 ·refine bB fG J (fun w H p le=>iX (fH (!c.state.bound) 8 t)) (N (sq ?_));obtain ⟨x8,m,h4⟩:=L q;obtain ⟨p0,rfl⟩:=x.adr m;have h5:=x.atF m;obtain ⟨Y,h0,h6⟩:=L h4;have h7:=x.atF h0;obtain ⟨Z,h1,h8⟩:=L h6;have h9:=x.atF h1
  let l:List Value:=[.int .i64 0,.int .i64 0,.int .i64 0,.int .i64 0,.slice none 0 0]
  let g:List Value:=(cO c.state z1)
  refine DA (JR 21 6 (fun d=>([(2,bE d 27 l),(1,bE k 77 g)]++σr)) (fun _ _=>[])) 22 [21] [] mixed (fun _ _ _ _ _ h=>h) (by kernel_rfl) (by kernel_rfl) (by kernel_rfl) J (by kernel_rfl) (by kernel_rfl) (.nil) (dA J (A J aG) (dA J (cP eO Z3 J J J J (aT m) aG) (dA J (aR G3 J (P 1 J h5) J aG) (dA J (A J aG) (dA J (nl J J aG) (dA J (aU 0 fD J eT aG) (dA J (aU 0 eX J Z3 aG) (DC.detQ (fun τ=>cJ τ 1=some (bE k 77 g)) J J tv ⟨_,J,fun u v s=>by simp at s;subst s;rfl⟩ J J (fun τ R a w K b j z=>TG.pa b j (aR G3 J ((sO 1 R).take 1) J aG)) (dA J (A J aG) (dA J (cP eO Z3 J J J J (aT h0) aG) (dA J (aR G3 J (P 1 J h7) J aG) ?_)))))))))));refine dA J (A J aG) (dA J (cP eO Z3 J J J J (aT h1) aG) (dA J (aR G3 J (P 1 J h9) J aG) (dA J (A J aG) (dA J (nl J J aG) (dA J (aU 0 fD J eT aG) (dA J (aU 2 eX J jM aG) (dA J (aU 4 pK J CE aG) (DC.detQ (fun τ=>cJ τ 1=some (bE k 77 g)) J J tv ⟨_,J,fun u v s=>by simp at s;subst s;rfl⟩ J J (fun τ R a w K b j z=>TG.pa b j (aR IQ J (((sO 1 R).drop 6).take 1) J aG)) (dA J (bu T12.B27 J J J aG) ?_)))))))));refine DC.turn (α:=Nat) 0 (fun d=>.pointer (some (⟨d,0,none⟩))) (fun _ _=>True) (fun d=>([(2,bE d 27 l),(1,bE k 77 g)]++σr)) J (fun _ _ _ _ h=>h) (by kernel_rfl) J J (fun a w K b j z=>TG.pa b j (al 2 zeroValue27 J J fun d=>wS (f:=fun d=>.pointer (some (⟨d,0,none⟩))) (G:=fun _ _=>True) (σ1:=fun d=>([(2,bE d 27 l),(1,bE k 77 g)]++σr)) d tv)) fun d=>?_;refine DC.nil fun aa z=>?_;obtain ⟨_,_⟩:=z;refine eQ 2 jM J J J J J J J (N (C (cM oC jM J J (sO 2 J) J ?_)));obtain ⟨r0,hB,hC⟩:=L h8;refine bB C39 J (fun w H p le=>w39 p (⟨x8,c.state.day,Y,Z,c.state.volume.parts⟩:bD) ⟨_,_,J,(n.f0.mono (bW.mono) le.i)⟩ hB) ?_;obtain ⟨r1,h2,h3⟩:=L hC;rcases r1 with y0|y0
  ·refine bB jQ J (fun w H p le=>iX (jR r0 h2)) (N (rg (A J (A J (cM oC jM J J (sO 2 J) J (nl J J (aU 0 fD J eT (aU 2 eX J jM (eQ 1 jM J J J J J J J (nl J J (aU 0 fD J eT ?_)))))))))))
   let o:List Value:=((((((cO c.state z1).set 2 (.int .i64 x8)).set 3 (.int .i64 c.state.day)).set 4 (.int .i64 Y)).set 5 (.int .i64 Z)).set 7 (.bool true))
   refine aU 7 eX J Z4 (eQ 1 Z4 J J J J J J J (N (TG.del 2 (TG.pack (fun K=>aX K o (⟨({c.state with volume:=(⟨x8,c.state.day,Y,Z,c.state.volume.parts⟩:bD),bound:=true}:dE)⟩:aI)) (fun H le=>⟨z1,J,{n.mono le.i with f0:=(n.f0.mono (bW.mono) le.i)}⟩) fun B hE=>?_))));cases h3;intro a w b j;refine eF j J ?_;exact ⟨B,[(1,bE k 77 o)],b.selH [0,2] J,_,J,J,hE⟩
  refine eG jQ J J J (fun w H p le=>iY (jR r0 h2)) (TG.del 2 ?_);cases h3;intro a w b j;exact ⟨j.defers,V,[_],b.selH [1,1] J,J,J⟩
 refine eG fG J J J (fun w H p le=>iY (fH (!c.state.bound) 8 t)) ?_;cases q;intro a w b j;exact ⟨j.defers,V,[_],b.selH [0,0] J,J,J⟩

theorem NE {M:Prop} {W w:World} {H V:Hp} {σr:aM} {n:Option Addr} {k:Nat} {ai:List aL} (o:Sl (I U) 6 V n k ai) {r:List aL} (p:vK ai=some r) (c:St M W H [V] σr w):Calls prog 106 #[.slice n ai.length k] w (fI M W H V σr (fun e K q=>∃ (ad:Option Addr) (cap:Nat),e=.returned (.slice ad r.length cap)∧q=[(1,S.list ad cap 119 6 U r)])):=by
 refine cV (M:=M) func106 J ntmps106 J c ?_;refine C (D J (sq (C (A J (JO CF J J (N ?_))))));refine cb J (fun d=>?_) (fun d=>?_)
 ·obtain rfl:=Sl.isNil o d;have i:=(aF p).2;refine C (D J (bH (TG.nilRow 1 119 6 ?_)));cases i;intro a w c g;refine dT g J J ?_;exact ⟨_,[(1,S.list none 0 119 6 U ([]:List aL))],c.selH [0,0] J,_,_,J,J⟩
 refine sk (C (CY 1 U ([]:List aL) (cs:=[]) T12.E28 J J J J J J fun s=>(A J ?_)));obtain ⟨h,j⟩:=aF p;refine rD 1 (enc:=U) (l:=([]:List aL)) (m:=ai) T12.E28 J J J J J J o 0 J (fun _=>J) (fun _=>J) J h fun f b=>(D J (bH ?_));cases j;intro a w c g;refine dT g J J ?_;exact ⟨_,[(1,S.list f b 119 6 U (([]:List aL)++ai))],c.selH [0,0] J,_,_,J,J⟩

theorem aHq (hH:H.le (hp W)) {y:Option Addr} {x:Nat} {bj:List aL} (R:Sl (I U) 6 H y x bj) {z:List Value} (f:aL) (Y:(I U) H z f) {r:List aL} (hr:KM bj f=some r):Calls prog 181 #[.slice y bj.length x,.agg z.toArray] W (eY M H W (fun v K=>∃ (d:Option Addr) (b:Nat),v=.slice d r.length b∧Sl (I U) 6 K d b r)):=by
 obtain rfl:=Y;refine aK (M:=M) func181 J ntmps181 J hH ?_;refine C (bI J J J fun q1 K2 n=>(D J (sq ?_)));obtain ⟨t,p,o⟩:=L hr;refine lB 4 [1] [] mixed (fun _ _ _ _ _ h=>h) (by kernel_rfl) (by kernel_rfl) (by kernel_rfl) J (by kernel_rfl) (.nil) (dA J (A J aG) (tS t.length (fun q s=>[(1,S.list q s 119 6 U t)]) J (fun a w K c k B F=>TG.pa c k (wY 1 MO J J J J (fun w V σr c le=>NE (ai:=bj) (R.mono (I.mono _) le.u) p c) fun j e=>F _ _)) fun j e=>(dA J (cM nQ iZ J J (P 1 J n) J aG) ?_)))
 refine uT 1 (I U) 6 ([f]:List aL) (I.mono _) J (bS T12.E28 J J J J fun q9 i Z g=>by
   have h1:Sl (I U) 6 i (some q9) 1 ([f]:List aL):=Sl.litF (fun _=>J) (fun _=>J) Z g J J J
   exact rJ (I.mono _) h1) fun a0 c0=>?_
 refine DC.nil fun G B=>?_;obtain ⟨h2,_,_⟩:=B;obtain ⟨h3,h4⟩:=aF o;refine rD 1 (enc:=U) (l:=t) (m:=([f]:List aL)) T12.E28 J J J J J J h2 0 J (fun _=>J) (fun _=>J) J h3 fun a2 c1=>(D J (bH ?_));cases h4;intro a w c k;refine dT k J J ?_;exact ⟨⟨_,_,J,(c.listOut 1 J (fun _=>J))⟩,c.ext⟩

theorem w63 (q:H.le (hp W)) {m:List Value} (e:aL) (p:(I U) H m e) {j:Addr} {l:Value} {bx:aL→Option Bool} (o:aN H j [l]) (k:eP M prog H l (fC (Va U) Value.bool bx)) {r:Bool} (s:RG e bx=some r):Calls prog 63 #[.agg m.toArray,.pointer (some j)] W (bJ M W (.bool r)):=by
 obtain rfl:=p;have b:=k;obtain ⟨f,d,c,rfl,_,_⟩:=k;refine aK (M:=M) func63 J ntmps63 J q ?_;refine C (bI J J J fun u t g=>(D J (C (aR aGi J (P 1 J o) J (cM nQ iZ J J (P 0 J g) J ?_)))));obtain ⟨n,i,h⟩:=L s;refine mT (v:=.bool n) b 1 J J J J (fun H le=>⟨_,e,n,J,J,i,J⟩) (nt J J (D J (bH ?_)));cases h;exact cK J J

theorem aHr (hH:H.le (hp W)) {o:Option Addr} {n:Nat} {ai:List aL} (g:Sl (I U) 6 H o n ai) {p:Value} {cg:aL→Option Bool} (q:eP M prog H p (fC (Va U) Value.bool cg)) {r:Int} (hr:RH ai cg=some r):Calls prog 102 #[.slice o ai.length n,p] W (bJ M W (.int .i64 r)):=by
 have:=g.len;have b:=q;obtain ⟨h,f,e,rfl,_,_⟩:=q;refine aK (M:=M) func102 J ntmps102 J hH ?_;refine C (D J (sq (C (A J (dU CF J J (A J (N ?_)))))));obtain ⟨e19,B,s⟩:=L hr;refine jn (fun a w=>∃ z,e19=.inl z∧SJ M W H [H] [] 19 [] a w) ?_ ?_
 ·refine bk ?_;refine jO [0,1,7] J B (fun l_ y=>(8,.int .i64 (y:Int))::l_) ?_ ?_
  ·exact cuE J
  intro j y y0 t i;refine C (dS J J J (N (sq ?_)));refine ci J (fun k=>?_) (fun k=>?_)
  ·have F:=aJ k t;refine sk (sq (bk (C (A J (D J (C (A J (A J ?_))))))));refine A J ?_;obtain ⟨x0,l,G⟩:=L F;obtain ⟨p0,rfl⟩:=g.adr l;have K:=g.atF l;refine cP CF iZ J J J J (aT l) (cM nQ iZ J J (P 0 J K) J ?_);obtain ⟨x,R,u⟩:=L G;refine mT (v:=.bool x) b 0 J J J J (fun H le=>⟨_,x0,x,J,J,R,J⟩) (N ?_);refine cb J (fun m=>?_) (fun m=>?_)
   ·have V:=aJ m u;refine C (A J (D J (bH ?_)));cases V;obtain rfl:=dF.out i;cases s;exact cK J J
   have Y:=bK m u;refine sk (rg (dN J J J (by omega) (A J (N ?_))));cases Y;intro a w d c;exact ⟨_,i,d,c.cuE J⟩
  have Z:=aS k t;refine xt J ?_;cases Z;obtain rfl:=dF.out i;intro a w d c;exact ⟨_,J,d,c.cut tv⟩
 rintro a w ⟨z,rfl,d,c⟩;apply TG.ap ?_ d c;refine C (D J (bH ?_));cases s;exact cK J J

theorem w62 (f:H.le (hp W)) {j:Option Addr} {i:Nat} {ai:List aL} (m:Sl (I U) 6 H j i ai) {k:Value} {cg:aL→Option Bool} (l:eP M prog H k (fC (Va U) Value.bool cg)) {r:Bool} (n:m62 ai cg=some r):Calls prog 62 #[.slice j ai.length i,k] W (bJ M W (.bool r)):=by
 have b:=l;obtain ⟨e,d,c,rfl,_,_⟩:=l;refine aK (M:=M) func62 J ntmps62 J f ?_;refine C (D J (C (A J (A J ?_))));obtain ⟨p,h,g⟩:=L n;refine bB aC5 J (fun w H f le=>aHr f (m.mono (I.mono _) le.o) (cg:=cg) (b.mono le.o) h) (pW J J J (D J (bH ?_)));cases g;exact cK J J

theorem w40 (j:H.le (hp W)) {p:Option Addr} {o:Nat} {bj:List aL} (y:Sl (I U) 6 H p o bj) {q:Value} {right:aL→Option Bool} (s:eP M prog H q (fC (Va U) Value.bool right)) {r:Bool} (z:m40 bj right=some r):Calls prog 40 #[.slice p bj.length o,q] W (bJ M W (.bool r)):=by
 have b:=s;obtain ⟨f,e,d,rfl,_,_⟩:=s;refine aK (M:=M) func40 J ntmps40 J j ?_;refine C (bI J J J fun u R k=>(D J (C (A J (fn J J J ?_)))));obtain ⟨G,n,m⟩:=L z
 refine mG (v:=.bool G) C62 J J J J (fun w H j le=>by
   have l:eP M prog H (.func (.func 63) #[] #[.pointer (some u)]) (fC (Va U) Value.bool (fun c=>RG c right)):=⟨63,[],[.pointer (some u)],rfl,C63,fun Z x g Y t B hs=>by obtain ⟨K,c,V,rfl,h,F,rfl⟩:=hs;cases h;exact w63 (H:=x) B  c rfl (bx:=right) (k.mono ((le.at 0 rfl).trans t)) (b.mono ((le.at 1 rfl).trans t)) F⟩
   exact w62 j (y.mono (I.mono _) le.i) (cg:=(fun c=>RG c right)) l n) ?_
 refine nt J J (D J (bH ?_));cases m;exact cK J J

theorem w41 {M:Prop} {W:World} {Y:List Value} (e:aL) (cr:(I U) (hp W) Y e) {r:Bool} (hr:RI e=some r):Calls prog 41 #[.agg Y.toArray] W (bJ M W (.bool r)):=by
 obtain rfl:=cr;refine aK (M:=M) func41 J ntmps41 J (Hp.le.refl _) ?_;refine C (bI J J J fun q1 K2 b=>(D J (sq (sq ?_))));obtain ⟨t0,hK,Z⟩:=L hr;refine eU [1] [(18,.bool t0)] J ?_ ?_
 ·refine rg (aU 0 gO J Z3 (aR G3 J ((P 0 J b).take 1) J ?_));obtain ⟨r22,hL,hA⟩:=L hK;refine bB TC J (fun w H i le=>TZ e.number 1 999 hL) (nt J J (A J ?_));rcases Bool.eq_false_or_eq_true (r22) with c|c
  ·have hM:=aJ c hA;refine gN J J (congrArg not (c)) (aU 1 gO J Z3 (gN J J (congrArg not (c)) (aR G3 J (((P 0 J b).drop 1).take 1) J (gN J J (congrArg not (c)) ?_))));obtain ⟨r0,hN,hB⟩:=L hM;refine bB UZ J (fun w H i le=>VE e.day hN) (gN J J (congrArg not (c)) (nt J J (pF J J (congrArg not (c)) J (A J ?_))));rcases Bool.eq_false_or_eq_true (r0) with d|d
   ·have hO:=aJ d hB;refine gN J J (congrArg not (d)) (aU 3 gO J Z3 (gN J J (congrArg not (d)) (aR G3 J (((P 0 J b).drop 3).take 1) J (gN J J (congrArg not (d)) ?_))));obtain ⟨r3,hP,hR⟩:=L hO;refine bB C64 J (fun w H i le=>w64 e.anchor hP) (gN J J (congrArg not (d)) (nt J J (pF J J (congrArg not (d)) J (N ?_))));cases hR;exact cuE J
   have hS:=bK d hB;refine cC 4 J J J (congrArg not (d)) J (pT J J (congrArg not (d)) J (N ?_));cases hS;exact cuE J
  have hT:=bK c hA;refine cC 4 J J J (congrArg not (c)) J (pT J J (congrArg not (c)) J (A J (cC 4 J J J J J (pT J J J J (N ?_)))));cases hT;exact cuE J
 refine cb J (fun j=>?_) (fun j=>?_)
 ·have hV:=aJ j Z;refine C (D J (bH ?_));cases hV;exact cK J J
 have hC:=bK j Z;refine sk (sq (C (aU 2 gO J Z5 (aR G5 J (((P 0 J b).drop 2).take 1) J (N (bk (C (fZ J J J (a1 J ?_)))))))));refine N ?_;refine ci J (fun k=>?_) (fun k=>?_)
 ·have hW:=aJ k hC;refine sq ?_;obtain ⟨t1,hX,n⟩:=L hW;refine eU [] [(2,.bool t1)] J ?_ ?_
  ·refine rg (aU 4 gO J Z9 (aR G9 J (((P 0 J b).drop 4).take 1) J ?_));obtain ⟨r1,o,hE⟩:=L hX;refine bB C65 J (fun w H i le=>w65 e.text o) (A J ?_);rcases Bool.eq_false_or_eq_true (r1) with f|f
   ·have p:=aJ f hE;refine gN J J (f) (aU 5 gO J Z3 (gN J J (f) (aR G3 J ((P 0 J b).drop 5) J (gN J J (f) (fZ J J J (pT J J (f) J (D J ?_)))))));cases p;exact cuE J
   have q:=bK f hE;refine cC 3 J J J (f) J (pF J J (f) J (D J ?_));cases q;exact cuE J
  refine bH ?_;cases n;exact cK J J
 have hF:=aS k hC;refine C (fZ J J J (D J ?_));refine ci J (fun l=>?_) (fun l=>?_)
 ·have s:=aJ l hF;refine sq ?_;obtain ⟨t2,hG,t⟩:=L s;refine eU [] [(2,.bool t2)] J ?_ ?_
  ·refine rg (aU 4 gO J Z9 (aR G9 J (((P 0 J b).drop 4).take 1) J (pX J J J (A J ?_))));by_cases h:e.text=[]
   ·have u:=aJ h hG;refine gt h J (aU 5 gO J Z3 (gt h J (aR G3 J ((P 0 J b).drop 5) J (gt h J (fZ J J J (pt h J J (D J ?_)))))));cases u;exact cuE J
   have v:=aS h hG;refine cC 3 J J J (decide_eq_false h) J (pf h J J (D J ?_));cases v;exact cuE J
  refine bH ?_;cases t;exact cK J J
 have hI:=aS l hF;refine C (fZ J J J (D J ?_));refine ci J (fun m=>?_) (fun m=>?_)
 ·have x:=aJ m hI;refine sq ?_;obtain ⟨t3,y,z⟩:=L x;refine eU [] [(2,.bool t3)] J ?_ ?_
  ·refine rg (aU 4 gO J Z9 (aR G9 J (((P 0 J b).drop 4).take 1) J ?_));obtain ⟨r2,B,hJ⟩:=L y;refine bB C65 J (fun w H i le=>w65 e.text B) (A J ?_);rcases Bool.eq_false_or_eq_true (r2) with g|g
   ·have F:=aJ g hJ;refine gN J J (g) (aU 5 gO J Z3 (gN J J (g) (aR G3 J ((P 0 J b).drop 5) J (gN J J (g) ?_))));obtain ⟨r4,G,K⟩:=L F;refine bB C64 J (fun w H i le=>w64 e.new_ G) (pT J J (g) J (D J ?_));cases K;exact cuE J
   have R:=bK g hJ;refine cC 3 J J J (g) J (pF J J (g) J (D J ?_));cases R;exact cuE J
  refine bH ?_;cases z;exact cK J J
 have V:=aS m hI;refine sk (C (D J (bH ?_)));cases V;exact cK J J

theorem NF {M:Prop} {W:World} (b:Int) {r:Bool} (c:xH b=some r):Calls prog 221 #[.int .i64 b] W (bJ M W (.bool r)):=by
 refine aK (M:=M) func221 J ntmps221 J (Hp.le.refl _) ?_;refine C (D J (C (A J (A J (nI J J J (D J (bH ?_)))))));obtain rfl:=sj c;exact cK J J

theorem ZB {M:Prop} {W:World} (c:Int) (d:Int) {r:Int} (z:EG c d=some r):Calls prog 155 #[.int .i64 c,.int .i64 d] W (bJ M W (.int .i64 r)):=by
 refine aK (M:=M) func155 J ntmps155 J (Hp.le.refl _) ?_;refine C (D J (C (A J ?_)));obtain ⟨B,k,j⟩:=L z;refine bB MQ J (fun w H y le=>NF c k) (D J (C (A J ?_)));obtain ⟨F,l,b⟩:=L j;refine bB MQ J (fun w H y le=>NF d l) (D J (sq (C (A J (N ?_)))));refine cb J (fun e=>?_) (fun e=>?_)
 ·have m:=aJ e b;refine sq (C (A J (N ?_)));refine cb J (fun f=>?_) (fun f=>?_)
  ·have q:=aJ f m;refine C (D J (bH ?_));cases q;exact cK J J
  have s:=bK f m;refine sk (C (D J (bH ?_)));cases s;exact cK J J
 have n:=bK e b;refine sk (sq (C (A J (N ?_))));refine cb J (fun g=>?_) (fun g=>?_)
 ·have t:=aJ g n;refine C (D J (bH ?_));cases t;exact cK J J
 have o:=bK g n;refine sk (sq (C (A J (A J (dS J J J (N ?_))))));refine ci J (fun h=>?_) (fun h=>?_)
 ·have u:=aJ h o;refine C (D J (bH ?_));cases u;exact cK J J
 have p:=aS h o;refine sk (sq (C (A J (A J (lL J J J (N ?_))))));refine ci J (fun i=>?_) (fun i=>?_)
 ·have v:=aJ i p;refine C (D J (bH ?_));cases v;exact cK J J
 have x:=aS i p;refine sk (C (D J (bH ?_)));cases x;exact cK J J

theorem aHs (z:H.le (hp W)) {l:Option Addr} {k:Nat} {vals:List Int} (e:Sl (I (bP .i64)) 1 H l k vals) {r:Int} (B:KN vals=some r):Calls prog 154 #[.slice l vals.length k] W (bJ M W (.int .i64 r)):=by
 have:=e.len;refine aK (M:=M) func154 J ntmps154 J z ?_;refine C (D J (C (D J (sq (C (A J ?_))))));refine dU eO J J (A J (N ?_));obtain ⟨d,s,m⟩:=L B;refine jn (fun a w=>∃ q,d=.inl q∧SJ M W H [H] [] 18 [(3,.int .i64 0)] a w) ?_ ?_
 ·refine bk ?_;refine jO [3,6,7] J s (fun F p=>(8,.int .i64 (p:Int))::F) ?_ ?_
  ·exact cuE J
  intro j p R n f;refine C (dS J J J (N (sq ?_)));refine ci J (fun g=>?_) (fun g=>?_)
  ·have t:=aJ g n;refine sk (sq (bk (C ?_)));obtain ⟨K,h,o⟩:=L t;obtain ⟨G,rfl⟩:=e.adr h;have u:=e.atF h;refine cP eO Z3 J J J J (aT h) (aR G3 J (P 0 J u) J (D J (C (A J (A J (nI J J J (N ?_)))))));refine ci J (fun i=>?_) (fun i=>?_)
   ·have v:=aJ i o;refine C (A J (D J (bH ?_)));cases v;obtain rfl:=dF.out f;cases m;exact cK J J
   have x:=aS i o;refine sk (rg (dN J J J (by omega) (A J (N ?_))));cases x;intro a w c b;exact ⟨_,f,c,b.cuE J⟩
  have y:=aS g n;refine xt J ?_;cases y;obtain rfl:=dF.out f;intro a w c b;exact ⟨_,J,c,b.cuE J⟩
 rintro a w ⟨q,rfl,c,b⟩;apply TG.ap ?_ c b;refine C (A J (D J (bH ?_)));cases m;exact cK J J

theorem UB {M:Prop} {W:World} {k:List Value} (e:aL) (p:(I U) (hp W) k e) {l:List Value} (f:aL) (n:(I U) (hp W) l f) {r:Int} (y:pN e f=some r):Calls prog 108 #[.agg k.toArray,.agg l.toArray] W (bJ M W (.int .i64 r)):=by
 obtain rfl:=p;obtain rfl:=n;refine aK (M:=M) func108 J ntmps108 J (Hp.le.refl _) ?_;refine C (bI J J J fun K B c=>(bI J J J fun R F d=>(D J (sq ?_))));obtain ⟨r7,j,i⟩:=L y;refine eH 9 mixed (by kernel_rfl) J (E J (aU 1 gO J Z3 aG) (E J (aR G3 J (((P 2 J c).drop 1).take 1) J aG) (E J (aU 1 gO J Z3 aG) (E J (aR G3 J (((P 1 J d).drop 1).take 1) J aG) (E J (bB XU J (fun w H h le=>ZB e.day f.day j) aG) (E J (aU 0 gO J Z3 aG) (E J (aR G3 J ((P 2 J c).take 1) J aG) (E J (aU 0 gO J Z3 aG) (E J (aR G3 J ((P 1 J d).take 1) J aG) (DF.nil fun m G=>?_))))))))));obtain ⟨r11,q,s⟩:=L i;refine bB XU J (fun w H h le=>ZB e.number f.number q) (bS T12.E33 J J J J fun z g t b=>?_);have u:Sl (I (bP .i64)) 1 g (some z) 2 ([r7,r11]:List Int):=Sl.litF (fun _=>J) (fun _=>J) t b J J J;obtain ⟨V,v,x⟩:=L s;refine bB aDv J (fun w H h le=>aHs h (u.mono (I.mono _) le.o) v) (D J (bH ?_));cases x;exact cK J J

theorem aPs (hH:H.le (hp W)) {dg:Value} {yield:aL→Option Bool} (dx:eP M prog H dg (fC (Va U) Value.bool yield)) {ay:Addr} {ic:Option Addr} {gu:Nat} {bx:List aL} (bc:aN H ay [.slice ic bx.length gu]) (bf:Sl (I U) 6 H ic gu bx) {ff:Addr} (t:Int) (fl:aN H ff [.int .i64 t]) {r:Unit} (hr:aCx yield bx t=some r):Calls prog 105 #[dg,.pointer (some ay),.pointer (some ff)] W (bJ M W (.tuple #[])):=by
 have b:=dx;obtain ⟨l,i,g,rfl,_,_⟩:=dx;refine aK (M:=M) func105 J ntmps105 J hH ?_;refine C (aR PC J (P 0 J bc) J ?_);obtain ⟨r1,R,G⟩:=L hr;refine wY 1 MO J J J J (fun w V σr c le=>NE (ai:=bx) (bf.mono (I.mono _) le.o) R c) fun p k=>(TG.len 1 J fun _=>(D J (C (A J ?_))));obtain ⟨l6,n,K⟩:=L G;have m:l6.length=r1.length:=(jE n);refine JZ 1 (enc:=U) (V:=Va U) (V':=Va U) (fun _=>rfl) (fun _=>rfl) srt107 SX J J J J J J (fun H le=>⟨108,[],[],rfl,SY,fun w_ K_ q v_ hK hw hs=>by obtain ⟨ab,ac,Y,Z,r_,rfl,u,y,hx,rfl⟩:=hs;cases u;cases y;exact UB  Y rfl Z rfl  hx⟩) (fun _ _=>rfl) (fun _ _=>rfl) n (N (C (A rfl (dU CF J J (A rfl (N ?_))))));obtain ⟨s,h9,h5⟩:=L K;refine jn (fun a w=>∃ t34,s=.inl t34∧SJ M W H [H] [(1,S.list p k 119 6 U l6)] 28 [] a w) ?_ ?_
 ·refine bk ?_;refine jO [0,2,11,12] J h9 (fun l_ s1=>(13,.int .i64 (s1:Int))::l_) ?_ ?_
  ·exact cuE J
  intro j s1 y0 h6 x;refine C (dS J J J (N (sq ?_)));refine ci J (fun z=>?_) (fun z=>?_)
  ·have hB:=aJ z h6;refine sk (sq (bk (C ?_)));obtain ⟨x0,B,hC⟩:=L hB;refine TG.addr 1 J (fR B) fun b0 h=>?_;subst h;refine cP CF iZ J J J J (Nat.lt_of_lt_of_eq (aT B) m) (cM nQ iZ J J (sE (enc:=U) 1 J (fun _=>J) B) J (va zeroValue119 iZ J J J J J J J J fun q0 aa f=>(N (sq ?_))));obtain ⟨t0,h7,h8⟩:=L hC;refine eU [0,2,11,12,13] [(26,.bool t0)] J ?_ ?_
   ·refine rg (aU 1 gO J Z3 (aR G3 J (((P 0 J f).drop 1).take 1) J (aR G3 J (P 1 J fl) J (lL J J J (A J ?_)))));by_cases d:t<x0.day
    ·have hE:=aJ d h7;refine cC 4 J J J (decide_eq_true d) J (pt d J J (N ?_));cases hE;exact cuE J
    have hF:=aS d h7;refine dJ d J (A J (dJ d J (cM nQ iZ J J (P 0 J f) J (dJ d J ?_))));obtain ⟨r0,hG,hI⟩:=L hF;refine mT (v:=.bool r0) b 1 J J J J (fun H le=>⟨_,x0,r0,J,J,hG,J⟩) (dJ d J (nt J J (pf d J J (N ?_))));cases hI;exact cuE J
   refine cb J (fun F=>?_) (fun F=>?_)
   ·have hJ:=aJ F h8;refine bH ?_;cases hJ;obtain rfl:=dF.out x;cases h5;intro a w c e;refine eF e J ?_;exact ⟨J,c.ext⟩
   have hL:=bK F h8;refine sk (rg (dN J J J (by omega) (A J (N ?_))));cases hL;intro a w c e;exact ⟨_,x,c.selH [1] J,e.cuE J⟩
  have hM:=aS z h6;refine xt J ?_;cases hM;obtain rfl:=dF.out x;intro a w c e;exact ⟨_,J,c,e.cut tv⟩
 rintro a w ⟨t34,rfl,c,e⟩;apply TG.ap ?_ c e;cases h5;intro a w c e;refine eF e J ?_;exact ⟨J,c.ext⟩

theorem w43 (hH:H.le (hp W)) {cn:List Value} (ba:bD) (cz:(bV) H cn ba) {bw:Option Addr} {bi:Nat} {errata:List aL} (cl:Sl (I U) 6 H bw bi errata) {r:Int} (hr:RK ba errata=some r):Calls prog 43 #[.agg cn.toArray,.slice bw errata.length bi] W (bJ M W (.int .i64 r)):=by
 have z:=cz;obtain ⟨bb,a8,rfl,bc⟩:=cz;refine pY (M:=M) func43 J ntmps43 J hH ?_;refine C (bI J J J fun q4 y ay=>(al 1 zeroValue43 J J fun b7=>(N (C (OC 2 fT Value.bool J fun p=>(al 3 zeroValue121 J J fun b9=>(eQ 3 YQ J J J J J J J (N (sq ?_)))))))));refine C (cM oC jM J J (P 0 J ay) J ?_);obtain ⟨r10,hN,hO⟩:=L hr;refine gW C42 J J J J (fun w H hH le=>w42 hH ba (bV.mono _ _ _ _ le.i z) hN) ?_;rintro v_ g ⟨a2,c1,rfl,h3⟩;have:=h3.len;refine dU wG J J (A J (N ?_));obtain ⟨ad,hP,hR⟩:=L hO
 let n:S:=bE b7 43 [.int .i64 0]
 refine gG [1,4,5] J (fun l_=>SJ M W H [g,y,H] [(3,bE b9 121 [.map (some p)]),(2,S.map' fT Value.bool p ad),(1,n)] 35 l_) ?_ ?_
 ·refine bk ?_;refine jZ [1,4,5,11,12] J hP (fun l_ s50=>SJ M W H [g,y,H] [(3,bE b9 121 [.map (some p)]),(2,S.map' fT Value.bool p s50.2),(1,n)] 35 ((13,.int .i64 (s50.1:Int))::l_)) ?_ ?_
  ·exact cuE J
  rintro j s50 y0 hB hC a w ⟨b,d⟩;refine TG.ap ?_ b d;refine C (dS J J J (N (sq ?_)));refine ci J (fun h4=>?_) (fun h4=>?_)
  ·have hT:=aJ h4 hB;refine sk (sq (bk (C ?_)));obtain ⟨x1,h5,hV⟩:=L hT;obtain ⟨p0,rfl⟩:=h3.adr h5;have hW:=h3.atF h5;refine cP wG lO J J J J (aT h5) (cM BI lO J J (P 0 J hW) J (va zeroValue98 lO J J J J J J J J fun q0 a9 Z=>(N (rg (aR BF J (sO 3 J) J (aU 0 yK J Z3 (aR G3 J ((P 0 J Z).take 1) J (II 2 (ke:=fT) (enc:=Value.bool) x1.anchor true lP U3 J J J J (N (rg (dN J J J (by omega) ?_)))))))))));refine A J (N ?_);cases hV;intro a w b d;exact ⟨_,hC,b.selH [1,2,3] J,d.cuE J⟩
  have hX:=aS h4 hB;refine xt J ?_;cases hX;obtain rfl:=dF.out hC;exact cuE J
 rintro a w ⟨b,d⟩;apply TG.ap ?_ b d;refine sq (C (A J (WG C66 func66 J ntmps66 J J J J (C (bI J J J fun q1 k aa=>(bI J J J fun q2 l ab=>(D J (sq ?_))))))));refine rg (fn J J J (D J (bH ?_)));intro a w b d;refine dT d J J ?_;refine ⟨_,J,fun a d=>?_⟩;refine fB J d b (N (bk ?_));obtain ⟨t5,ah,hE⟩:=L hR
 let m:S:=bE b9 121 [.map (some p)]
 refine WE 4 5 XQ func105 J ntmps105 J J (fun B c f w=>(∃ (t1:(List (Int×Bool))),t5=(.inl t1)∧St M W H [l,k,g,y,H] [(4,S.blk B (f .ready none)),(5,S.blk c (.deferred (some []))),(3,m),(2,S.map' fT Value.bool p t1),(1,n)] w)∨(∃ (t0:Nat×(List (Int×Bool))),t5=(.inr t0)∧St M W H [l,k,g,y,H] [(4,S.blk B (f .done (some .ret))),(5,S.blk c (.deferred (some []))),(3,m),(2,S.map' fT Value.bool p t0.2),(1,bE b7 43 [.int .i64 (t0.1:Int)])] w)) ?_ ?_
 ·intro B c f t7 G e;refine C (aR PC J (P 1 J aa) J ?_);obtain ⟨r0,aj,ak⟩:=L ah;refine wY 6 MO J J J J (fun w V σr b le=>NE (ai:=errata) (cl.mono (I.mono _) le.x) aj b) fun a0 Y=>(TG.len 6 J fun _=>(D J (C (A J ?_))));obtain ⟨K,hF,am⟩:=L ak;have an:K.length=r0.length:=(jE hF);refine JZ 6 (enc:=U) (V:=Va U) (V':=Va U) (fun _=>rfl) (fun _=>rfl) srt107 SX J J J J J J (fun H le=>⟨108,[],[],rfl,SY,fun w_ K_ ac v_ hK hw hs=>by obtain ⟨bd,be,a6,a7,r_,rfl,af,ag,hx,rfl⟩:=hs;cases af;cases ag;exact UB  a6 rfl a7 rfl  hx⟩) (fun _ _=>rfl) (fun _ _=>rfl) hF (N (C (A rfl (dU CF J J (A rfl (N ?_))))));obtain ⟨ae,ao,h6⟩:=L am;refine jn (fun a w=>∃ t2,ae=.inl t2∧SJ M W H [l,k,g,y,H] [(6,S.list a0 Y 119 6 U K),(4,S.blk B (f .ready none)),(5,S.blk c (.deferred (some []))),(3,m),(2,S.map' fT Value.bool p t2),(1,n)] 28 [] a w) ?_ ?_
  ·refine bk ?_;refine jZ [0,2,11,12] J ao (fun l_ s1=>SJ M W H [l,k,g,y,H] [(6,S.list a0 Y 119 6 U K),(4,S.blk B (f .ready none)),(5,S.blk c (.deferred (some []))),(3,m),(2,S.map' fT Value.bool p s1.2),(1,n)] 28 ((13,.int .i64 (s1.1:Int))::l_)) ?_ ?_
   ·exact cuE J
   rintro j s1 y1 hG h2 a w ⟨b,d⟩;refine TG.ap ?_ b d;refine C (dS J J J (N (sq ?_)));refine ci J (fun h7=>?_) (fun h7=>?_)
   ·have aq:=aJ h7 hG;refine sk (sq (bk (C ?_)));obtain ⟨F,h8,hI⟩:=L aq;refine TG.addr 6 J (fR h8) fun b0 h=>?_;subst h;refine cP CF iZ J J J J (Nat.lt_of_lt_of_eq (aT h8) an) (cM nQ iZ J J (sE (enc:=U) 6 J (fun _=>J) h8) J (va zeroValue119 iZ J J J J J J J J fun q3 q u=>(N (C (aU 1 gO J Z3 (aR G3 J (((P 0 J u).drop 1).take 1) J (aR G3 J (P 1 J ab) J (lL J J J (A J ?_)))))))));by_cases s:99999<F.day
    ·have ar:=aJ s hI;refine cC 4 J J J (decide_eq_true s) J (pt s J J (N (cT J J (bH ?_))));cases ar;obtain rfl:=dF.out h2;refine TG.del 6 ?_;cases h6;intro a w b d;refine eF d J ?_;exact ⟨_,J,.inl ⟨_,J,b.selH [1,2,3,4,5] J⟩⟩
    have au:=aS s hI;refine dJ s J (A J (dJ s J (cM nQ iZ J J (P 0 J u) J (dJ s J ?_))));obtain ⟨t6,hJ,hL⟩:=L au;refine yl 4 [] (L1:=(23,.agg #[.int .i64 F.number,.int .i64 F.day,.int .u8 F.kind,.int .i64 F.anchor,.string (bs F.text),.int .i64 F.new_])::_) J J J G e J J J (fun v w=>(∃ (t3:Nat),t6=(.inl t3)∧v=.bool false∧St M W H [q,l,k,g,y,H] [(6,S.list (some ⟨b0,0,none⟩) Y 119 6 U K),(4,S.blk B (f .done (some .ret))),(5,S.blk c (.deferred (some []))),(3,m),(2,S.map' fT Value.bool p s1.2),(1,bE b7 43 [.int .i64 (t3:Int)])] w)∨(∃ (t4:(List (Int×Bool))),t6=(.inr t4)∧v=.bool true∧St M W H [q,l,k,g,y,H] [(6,S.list (some ⟨b0,0,none⟩) Y 119 6 U K),(4,S.blk B (f .ready none)),(5,S.blk c (.deferred (some []))),(3,m),(2,S.map' fT Value.bool p t4),(1,n)] w)) ?_ ?_
    ·refine rg (va zeroValue119 iZ J J J J J J J J fun q5 R o=>(N (bR 4 e J (bk (sq (C (aR BF J (sO 3 J) J (aU 3 gO J Z3 (aR G3 J (((P 0 J o).drop 3).take 1) J (JQ (ke:=fT) (enc:=Value.bool) F.anchor (z0:=false) lP U3 zeroValue4 J J J J (mO 2 J) ?_))))))))));refine nt J J (N ?_);refine cb J (fun h1=>?_) (fun h1=>?_)
     ·replace h1:=oI h1
      have aw:=bK h1 hJ;refine C (eQ 1 BM J J J J J J J (N (bH ?_)));cases aw;refine eR 4 (some .ret) e J fun w b=>?_;exact .inl ⟨_,J,J,b.selH [1,2,3,4,5,6] J⟩
     replace h1:=oJ h1
     have ax:=aJ h1 hJ;refine sk (C (aU 2 gO J Z5 (aR G5 J (((P 0 J o).drop 2).take 1) J (fZ J J J (N ?_)))));obtain ⟨t8,hM,az⟩:=L ax;refine jn (SJ M W H [R,q,l,k,g,y,H] [(6,S.list (some ⟨b0,0,none⟩) Y 119 6 U K),(4,S.blk B (f .busy none)),(5,S.blk c (.deferred (some []))),(3,m),(2,S.map' fT Value.bool p t8),(1,n)] 35 []) ?_ ?_
     ·refine ci J (fun h9=>?_) (fun h9=>?_)
      ·have a3:=aJ h9 hM;refine rg (aR BF J (sO 3 J) J (aU 5 gO J Z3 (aR G3 J ((P 0 J o).drop 5) J (II 2 (ke:=fT) (enc:=Value.bool) F.new_ true lP U3 J J J J (N ?_)))));cases a3;exact cu tv
      have a4:=aS h9 hM;refine sk ?_;cases a4;exact cu tv
     refine X ?_;cases az;refine eR 4 none e J fun w b=>?_;exact .inr (⟨_,J,J,b.selH [1,2,3,4,5,6] J⟩)
    rintro a w v d (⟨t3,rfl,rfl,b⟩|⟨t4,rfl,rfl,b⟩)
    ·refine fB J d b (dJ s J (nt J J (pf s J J (N (cT J J (bH ?_))))));cases hL;obtain rfl:=dF.out h2;refine TG.del 6 ?_;cases h6;intro a w b d;refine eF d J ?_;exact ⟨_,J,.inr (⟨_,J,b.selH [1,2,3,4,5] J⟩)⟩
    refine fB J d b (dJ s J (nt J J (pf s J J (N (cF J J (sk (rg (dN J J J (by omega) (A J (N ?_))))))))));cases hL;intro a w b d;exact ⟨_,h2,b.selH [1,2,3,4,5] J,d.cuE J⟩
   have a5:=aS h7 hG;refine xt J ?_;cases a5;obtain rfl:=dF.out h2;intro a w b d;exact ⟨_,J,b,d.cut tv⟩
  rintro a w ⟨t2,rfl,b,d⟩;apply TG.ap ?_ b d;refine TG.del 6 ?_;cases h6;intro a w b d;refine eF d J ?_;exact ⟨_,J,.inl ⟨_,J,b⟩⟩
 rintro B c f t7 a w e d (⟨t1,rfl,b⟩|⟨t0,rfl,b⟩)
 ·refine TG.ap ?_ b d;refine WF 4 e J (C (eQ 1 BM J J J J J J J (N (bH ?_))));cases hE;refine OE (UR 5 J (OF ?_));intro a w b d;refine wC d J (cU.cell J (iV uA (cW (b.get (t:=1) J)) J)) ?_;exact ⟨J,b.ext⟩
 refine TG.ap ?_ b d;refine elC 4 e J (bH ?_);cases hE;refine OE (UR 5 J (OF ?_));intro a w b d;refine wC d J (cU.cell J (iV uA (cW (b.get (t:=1) J)) J)) ?_;exact ⟨J,b.ext⟩

theorem w22 (k:H.le (hp W)) {cn:List Value} (y:bD) (cz:(bV) H cn y) {bw:Option Addr} {bi:Nat} {errata:List aL} (B:Sl (I U) 6 H bw bi errata) {r:Int} (hr:CB y errata=some r):Calls prog 22 #[.agg cn.toArray,.slice bw errata.length bi] W (bJ M W (.int .i64 r)):=by
 have c:=cz;obtain ⟨bc,bb,rfl,bd⟩:=cz;refine aK (M:=M) func22 J ntmps22 J k ?_;refine C (bI J J J fun q4 s n=>(D J (sq (C (cM oC jM J J (P 0 J n) J ?_)))));obtain ⟨r7,a7,z⟩:=L hr;refine bB C39 J (fun w H k le=>w39 k y (bV.mono _ _ _ _ le.i c) a7) (D J (C (A J (nI J J J (N ?_)))));refine ci J (fun Y=>?_) (fun Y=>?_)
 ·have hT:=aJ Y z;refine C (A J (D J (bH ?_)));cases hT;exact cK J J
 have hF:=aS Y z;refine sk (sq (bk (C (A J (dU CF J J (lL J J J (D J ?_)))))));refine ci J (fun Z=>?_) (fun Z=>?_)
 ·have hV:=aJ Z hF;refine C (D J (bH ?_));cases hV;exact cK J J
 have hW:=aS Z hF;refine C (A J ?_);obtain ⟨r0,hX,hG⟩:=L hW
 refine mG (v:=.bool r0) C40 J J J J (fun w H k le=>by
   have aa:eP M prog H (.func (.func 41) #[] #[]) (fC (Va U) Value.bool (RI)):=⟨41,[],[],rfl,C41,fun w_ K_ G v_ hK hw hs=>by obtain ⟨be,a8,r_,rfl,V,hx,rfl⟩:=hs;cases V;exact w41  a8 rfl  hx⟩
   exact w40 k (B.mono (I.mono _) le.i) (right:=(RI)) aa hX) ?_
 refine nt J J (D J ?_);refine cb J (fun h2=>?_) (fun h2=>?_)
 ·replace h2:=oI h2
  have ab:=bK h2 hG;refine C (D J (bH ?_));cases ab;exact cK J J
 replace h2:=oJ h2
 have ac:=aJ h2 hG;refine sk (C (OC 1 fT Value.bool J fun t=>(OC 2 fT Value.bool J fun x=>(a1 J (D J (sq (C (cM oC jM J J (P 0 J n) J ?_))))))));obtain ⟨r1,ad,ae⟩:=L ac;refine gW C42 J J J J (fun w H k le=>w42 k y (bV.mono _ _ _ _ le.i c) ad) ?_;rintro v_ g ⟨a0,c0,rfl,h5⟩;have:=h5.len;refine dU wG J J (A J (N ?_));obtain ⟨K,af,ag⟩:=L ae;refine gG [1,2,6,7] J (fun l=>SJ M W H [g,s,H] [(2,S.map' fT Value.bool x ([]:List (Int×Bool))),(1,S.map' fT Value.bool t K)] 72 l) ?_ ?_
 ·refine bk ?_;refine jZ [1,2,6,7,28,29] J af (fun l s2=>SJ M W H [g,s,H] [(2,S.map' fT Value.bool x ([]:List (Int×Bool))),(1,S.map' fT Value.bool t s2.2)] 72 ((30,.int .i64 (s2.1:Int))::l)) ?_ ?_
  ·exact cuE J
  rintro j s2 y0 hI hJ a w ⟨f,e⟩;refine TG.ap ?_ f e;refine C (dS J J J (N (sq ?_)));refine ci J (fun h6=>?_) (fun h6=>?_)
  ·have ah:=aJ h6 hI;refine sk (sq (bk (C ?_)));obtain ⟨x1,h7,ai⟩:=L ah;obtain ⟨p0,rfl⟩:=h5.adr h7;have aj:=h5.atF h7;refine cP wG lO J J J J (aT h7) (cM BI lO J J (P 0 J aj) J (va zeroValue98 lO J J J J J J J J fun q0 a9 m=>(N (rg (A J (aU 0 yK J Z3 (aR G3 J ((P 0 J m).take 1) J (II 1 (ke:=fT) (enc:=Value.bool) x1.anchor true lP U3 J J J J (N (rg (dN J J J (by omega) ?_)))))))))));refine A J (N ?_);cases ai;intro a w f e;exact ⟨_,hJ,f.selH [1,2,3] J,e.cuE J⟩
  have ak:=aS h6 hI;refine xt J ?_;cases ak;obtain rfl:=dF.out hJ;exact cuE J
 rintro a w ⟨f,e⟩;apply TG.ap ?_ f e;refine sq (C (A J (dU CF J J (A J (N ?_)))));obtain ⟨R,am,hL⟩:=L ag;refine gG [1,2] J (fun l a w=>∃ F,R=.inl F∧SJ M W H [g,s,H] [(2,S.map' fT Value.bool x F.1),(1,S.map' fT Value.bool t F.2)] 72 l a w) ?_ ?_
 ·refine bk ?_;refine jZ [1,2,6,7,38,39] J am (fun l p=>SJ M W H [g,s,H] [(2,S.map' fT Value.bool x p.2.1),(1,S.map' fT Value.bool t p.2.2)] 72 ((40,.int .i64 (p.1:Int))::l)) ?_ ?_
  ·exact cuE J
  rintro j p y1 hM h8 a w ⟨f,e⟩;refine TG.ap ?_ f e;refine C (dS J J J (N (sq ?_)));refine ci J (fun h9=>?_) (fun h9=>?_)
  ·have an:=aJ h9 hM;refine sk (sq (bk (C ?_)));obtain ⟨o,hB,ao⟩:=L an;obtain ⟨p1,rfl⟩:=B.adr hB;have aq:=B.atF hB;refine cP CF iZ J J J J (aT hB) (cM nQ iZ J J (P 2 J aq) J (va zeroValue119 iZ J J J J J J J J fun q1 q b=>(N (sq (sq ?_)))));obtain ⟨t1,hN,hO⟩:=L ao;refine eU [1,2,6,7,11,38,39,40] [(58,.bool t1)] J ?_ ?_
   ·refine rg (A J (aU 0 gO J Z3 (aR G3 J ((P 0 J b).take 1) J (JQ (ke:=fT) (enc:=Value.bool) o.number (z0:=false) lP U3 zeroValue4 J J J J (mO 2 J) (A J ?_)))));rcases Bool.eq_false_or_eq_true ((eN p.2.1 o.number).getD false) with d|d
    ·have ar:=aJ d hN;refine cC 4 J J J (d) J (gU J J J (gU J J J (gU J J J (gU J J J (gF J J (d) J (pT J J (d) J (N ?_)))))));cases ar;exact cuE J
    have hP:=bK d hN;refine gN J J (d) (aU 2 gO J Z5 (gN J J (d) (aR G5 J (((P 0 J b).drop 2).take 1) J (gN J J (d) (fZ J J J (gN J J (d) (A J ?_)))))));by_cases h:o.kind=2
    ·have au:=aJ h hP;refine gt h J (A J (gt h J (aU 5 gO J Z3 (gt h J (aR G3 J ((P 0 J b).drop 5) J (gt h J (JQ (ke:=fT) (enc:=Value.bool) o.new_ (z0:=false) lP U3 zeroValue4 J J J J (mO 1 J) (gN J J (d) (pt h J J (pF J J (d) J (N ?_)))))))))));cases au;exact cuE J
    have aw:=aS h hP;refine cC 4 J J J (decide_eq_false h) J (gN J J (d) (pf h J J (pF J J (d) J (N ?_))));cases aw;exact cuE J
   refine cb J (fun hC=>?_) (fun hC=>?_)
   ·have ax:=aJ hC hO;refine C (D J (bH ?_));cases ax;obtain rfl:=dF.out h8;cases hL;exact cK J J
   have ay:=bK hC hO;refine sk (C (A J (aU 0 gO J Z3 (aR G3 J ((P 0 J b).take 1) J (II 2 (ke:=fT) (enc:=Value.bool) o.number true lP U3 J J J J (N (C (aU 2 gO J Z5 (aR G5 J (((P 0 J b).drop 2).take 1) J ?_)))))))));refine fZ J J J (N ?_);obtain ⟨t2,hR,az⟩:=L ay;refine gG [1,2,6,7,38,39,40] J (fun l=>SJ M W H [q,g,s,H] [(2,S.map' fT Value.bool x (put p.2.1 o.number true)),(1,S.map' fT Value.bool t t2)] 72 l) ?_ ?_
   ·refine ci J (fun hE=>?_) (fun hE=>?_)
    ·have a2:=aJ hE hR;refine rg (A J (aU 5 gO J Z3 (aR G3 J ((P 0 J b).drop 5) J (II 1 (ke:=fT) (enc:=Value.bool) o.new_ true lP U3 J J J J (N ?_)))));cases a2;exact cuE J
    have a3:=aS hE hR;refine sk ?_;cases a3;exact cuE J
   refine X ?_;refine rg (dN J J J (by omega) (A J (N ?_)));cases az;intro a w f e;exact ⟨_,h8,f.selH [1,2,3] J,e.cuE J⟩
  have a4:=aS h9 hM;refine xt J ?_;cases a4;obtain rfl:=dF.out h8;intro a w f e;exact ⟨_,J,f,e.cuE J⟩
 rintro a w ⟨F,rfl,f,e⟩;apply TG.ap ?_ f e;refine C (cM oC jM J J (P 1 J n) J (A J ?_));obtain ⟨r2,a5,a6⟩:=L hL;refine bB C43 J (fun w H k le=>w43 k y (bV.mono _ _ _ _ le.u c) (B.mono (I.mono _) le.u) a5) (D J (bH ?_));cases a6;exact cK J J

theorem w48 (hH:H.le (hp W)) {F:Addr} {x:List Value} (v:fY) (ec:aN H F x) (y:(kF) H x v) (anchor:Int) {r:Int×Int×Bool} (hr:m48 v anchor=some r):Calls prog 48 #[.pointer (some F),.int .i64 anchor] W (bJ M W (.tuple #[.int .i64 r.1,.int .i64 r.2.1,.bool r.2.2])):=by
 have k:=y;obtain ⟨Z,z,aa,B,rfl,ab,e⟩:=y;have:=e.len;refine aK (M:=M) func48 J ntmps48 J hH ?_;refine C (a1 J (a1 J (D J (sc (sq (lb (sq (C ?_))))))));refine A J (nl J J (aU 5 pR J oX (aR qW J ((P 0 J ec).drop 5) J (dU mQ J J (A J (N ?_))))));obtain ⟨d,hF,hG⟩:=L hr;refine jn (SJ M W H [H] [] 40 [(4,.int .i64 (d.1:Int)),(5,.int .i64 (d.2.1:Int)),(6,.bool d.2.2)]) ?_ ?_
 ·refine bk ?_;refine jO [1,14,15] J hF (fun f g=>(4,.int .i64 (g.1:Int))::(5,.int .i64 (g.2.1:Int))::(6,.bool g.2.2.2)::(16,.int .i64 (g.2.2.1:Int))::f) ?_ ?_
  ·exact cuE J
  intro j g y0 G m;refine C (dS J J J (N (sq ?_)));refine ci J (fun n=>?_) (fun n=>?_)
  ·have hI:=aJ n G;refine sk (sq (bk (C (A J ?_))));obtain ⟨x0,o,hJ⟩:=L hI;obtain ⟨p0,rfl⟩:=e.adr o;obtain ⟨c0,hW,hK,K⟩:=e.at o;have hX:=K;obtain ⟨a0,c1,rfl,p⟩:=K;have:=p.len;refine cP mQ qX J J J J (aT o) (aR tM J (P 0 J hK) J (a1 J (D J (C (A J (dU oY J J (A J (N ?_))))))));obtain ⟨l,hL,R⟩:=L hJ;refine gG [1,14,15,16] J (fun f a w=>∃ i,l=.inl i∧SJ M W H [H] [] 40 ((4,.int .i64 (i.1:Int))::(5,.int .i64 (i.2.1:Int))::(6,.bool i.2.2)::f) a w) ?_ ?_
   ·refine bk ?_;refine jO [1,7,14,15,16,21,22] J hL (fun f h=>(4,.int .i64 (h.1:Int))::(5,.int .i64 (h.2.1:Int))::(6,.bool h.2.2.2)::(23,.int .i64 (h.2.2.1:Int))::f) ?_ ?_
    ·exact cuE J
    intro j h y1 V q;refine C (dS J J J (N (sq ?_)));refine ci J (fun s=>?_) (fun s=>?_)
    ·have hM:=aJ s V;refine sk (sq (bk (C (A J ?_))));obtain ⟨x1,t,Y⟩:=L hM;obtain ⟨p1,rfl⟩:=p.adr t;have hN:=p.atF t;refine cP oY kI J J J J (aT t) (cM BG kI J J (P 0 J hN) J (al 1 zeroValue130 J J fun b0=>(a1 J (eQ 1 kI J J J J J J J (N (C (aU 0 oZ J lO (aU 0 yK J Z3 (aR G3 J ((sO 1 J).take 1) J (A J ?_))))))))));refine fZ J J J (N ?_);refine ci J (fun u=>?_) (fun u=>?_)
     ·have hO:=aJ u Y;refine C (A J (A J (a1 J (a1 J (D J (xt J ?_))))));obtain ⟨z0,hP,rfl⟩:=kQ hO;obtain rfl:=dF.out q;cases R;refine TG.del 1 ?_;cases hP;obtain rfl:=dF.out m;exact cuE J
     have hR:=aS u Y;refine sk (rg (dN J J J (by omega) (A J (N (TG.del 1 ?_)))));cases hR;intro a w c b;exact ⟨_,q,c,b.cuE J⟩
    have hT:=aS s V;refine xt J ?_;cases hT;obtain rfl:=dF.out q;intro a w c b;exact ⟨_,J,c,b.cuE J⟩
   rintro a w ⟨i,rfl,c,b⟩;apply TG.ap ?_ c b;refine rg (dN J J J (by omega) (A J (N ?_)));cases R;intro a w c b;exact ⟨_,m,c,b.cuE J⟩
  have hV:=aS n G;refine xt J ?_;cases hV;obtain rfl:=dF.out m;exact cuE J
 rintro a w ⟨c,b⟩;apply TG.ap ?_ c b;refine C (A J (A J (A J (a1 J (a1 J (D J (bH ?_)))))));cases hG;exact WX J J J J

theorem w67 (f:H.le (hp W))  {r:Unit} (h:m67=some r):Calls prog 67 #[] W (eY M H W (fun v K=>∃ (d:Addr),v=.slice (some d) 3 3∧aN K d [.func (.func 109) #[] #[],.func (.func 110) #[] #[],.func (.func 111) #[] #[]])):=by
 refine aK (M:=M) func67 J ntmps67 J f ?_;refine C (D J (C (bu T12.B171 J J J (bu T12.B171 J J J (bu T12.B171 J J J (bS T12.E172 J J J J fun j i g b=>(D J ?_)))))));refine bH ?_;obtain rfl:=sj h;intro a w c e;refine dT e J J ?_;exact ⟨⟨_,J,b.mono (c.grow 0 J)⟩,c.ext⟩

theorem w44 (hH:H.le (hp W)) {cn:List Value} (s:bD) (cz:(bV) H cn s) {bw:Option Addr} {bi:Nat} {errata:List aL} (cl:Sl (I U) 6 H bw bi errata) (fa:Int) {r:fY} (hr:EK s errata fa=some r):Calls prog 44 #[.agg cn.toArray,.slice bw errata.length bi,.int .i64 fa] W (eY M H W (fun v K=>∃ (u0:Addr) (ds:List Value),v=.pointer (some u0)∧aN K u0 ds∧(kF) K ds r)):=by
 have en:=cz;obtain ⟨az,ab,rfl,bt⟩:=cz;have:=bt.len;refine pY (M:=M) func44 J ntmps44 J hH ?_;refine C (bI J J J fun q4 K5 d6=>(D J (C (cM oC jM J J (P 0 J d6) J (bu T12.B127 J J J (bO 1 J J J fun b7=>(va zeroValue123 aGx J J J J J J J J fun q8 K9 ae=>(N ?_))))))));refine sq (C (aU 4 pK J CE (aR IQ J ((P 1 J d6).drop 4) J (dU AB J J (A J (N (TG.nilRow 5 128 1 (TG.as 5 (z:=S.list none 0 128 1 fM ([]:List Hd)) J J (TG.gopen (σ:=[(5,S.list none 0 128 1 fM ([]:List Hd)),(1,bE b7 127 [.int .i64 s.number,.int .i64 s.bound,.int .i64 s.height,.int .i64 s.width,.slice az s.parts.length ab,.slice none 0 0])]) 130 3 cG 1000 0 ?_)))))))));have cq:=hZ.none bZ;obtain ⟨du,gu,gy⟩:=L hr;refine gG [1,2,7] J (fun l_ a w=>∃ (h2:List Hd) (a8:List gD) (a2:Option Addr) (c0:Nat),St M W H [K9,K5,H] ([(5,S.list a2 c0 128 1 fM h2),(1,bE b7 127 [.int .i64 s.number,.int .i64 s.bound,.int .i64 s.height,.int .i64 s.width,.slice az s.parts.length ab,.slice a2 h2.length c0])]++iG 130 3 cG 1000 a8 du) w∧bQ [] 76 a l_∧hZ h2 a8 du) ?_ ?_
 ·refine bk ?_;refine jZ [1,2,7,21,22] J gu (fun l_ s2 a w=>∃ (h1:List Hd) (a6:List gD) (a4:Option Addr) (c3:Nat),St M W H [K9,K5,H] ([(5,S.list a4 c3 128 1 fM h1),(1,bE b7 127 [.int .i64 s.number,.int .i64 s.bound,.int .i64 s.height,.int .i64 s.width,.slice az s.parts.length ab,.slice a4 h1.length c3])]++iG 130 3 cG 1000 a6 s2.2) w∧bQ [] 76 a ((23,.int .i64 (s2.1:Int))::l_)∧hZ h1 a6 s2.2) ?_ ?_
  ·intro a w d e;exact ⟨([]:List Hd),([]:List gD),none,0,d,e.cuE J,cq⟩
  rintro j s2 y0 ec ed a w ⟨h1,a6,a4,c3,d,e,af⟩;refine TG.ap ?_ d e;refine C (dS J J J (N (sq ?_)));refine ci J (fun hP=>?_) (fun hP=>?_)
  ·have g3:=aJ hP ec;refine sk (sq (bk (C ?_)));obtain ⟨x7,hR,g7⟩:=L g3;obtain ⟨p0,rfl⟩:=bt.adr hR;obtain ⟨c8,iw,gT,ee⟩:=bt.at hR;have ix:=ee;obtain ⟨ij,c9,rfl,hT⟩:=ee;have:=hT.len;refine cP AB nW J J J J (aT hR) (cM TD nW J J (P 2 J gT) J (va zeroValue132 nW J J J J J J J J fun q3 bv da=>(N (C (D J (sq (C (aU 1 rP J YT ?_))))))));refine aR G91 J ((P 0 J da).drop 1) J (dU wG J J (A J (N (TG.nilRow 3 130 3 (TG.as 3 (z:=S.list none 0 130 3 cG ([]:List bZ)) J J ?_)))));obtain ⟨aa,hd,hh⟩:=L g7;refine gG [1,2,7,21,22,23] J (fun l_ a w=>∃ (a0:Option Addr) (c1:Nat),SJ M W H [bv,K9,K5,H] ([(3,S.list a0 c1 130 3 cG aa),(5,S.list a4 c3 128 1 fM h1),(1,bE b7 127 [.int .i64 s.number,.int .i64 s.bound,.int .i64 s.height,.int .i64 s.width,.slice (some p0) s.parts.length ab,.slice a4 h1.length c3])]++iG 130 3 cG 1000 a6 s2.2) 76 ((10,.slice a0 aa.length c1)::l_) a w) ?_ ?_
   ·refine bk ?_;refine jZ [1,2,7,21,22,23,28,29] J hd (fun l_ s4 a w=>∃ (a9:Option Addr) (c5:Nat),SJ M W H [bv,K9,K5,H] ([(3,S.list a9 c5 130 3 cG s4.2),(5,S.list a4 c3 128 1 fM h1),(1,bE b7 127 [.int .i64 s.number,.int .i64 s.bound,.int .i64 s.height,.int .i64 s.width,.slice (some p0) s.parts.length ab,.slice a4 h1.length c3])]++iG 130 3 cG 1000 a6 s2.2) 76 ((10,.slice a9 s4.2.length c5)::(30,.int .i64 (s4.1:Int))::l_) a w) ?_ ?_
    ·intro a w d e;exact ⟨none,0,d,e.cuE J⟩
    rintro j s4 y1 ef eg a w ⟨a9,c5,d,e⟩;refine TG.ap ?_ d e;refine C (dS J J J (N (sq ?_)));refine ci J (fun hV=>?_) (fun hV=>?_)
    ·have hl:=aJ hV ef;refine sk (sq (bk (C ?_)));obtain ⟨x4,hW,hq⟩:=L hl;obtain ⟨p1,rfl⟩:=hT.adr hW;have hy:=hT.atF hW;refine cP wG lO J J J J (aT hW) (cM BI lO J J (P 3 J hy) J (va zeroValue98 lO J J J J J J J J fun q5 ig db=>(N (rg (A J (cM BI lO J J (P 0 J db) J (bu T12.B130 J J J ?_)))))));obtain ⟨e2,e6⟩:=aF hq;refine wO 3 cG (l:=s4.2) (⟨x4,false⟩:bZ) T12.E128 J J J J J J J J J J J J e2 fun eu c7 u1=>(D J (rg (dN J J J (by omega) (A J (N ?_)))));cases e6;intro a w d e;exact ⟨_,eg,eu,c7,d.selH [1,2,3,4] J,e.cuE J⟩
    have fc:=aS hV ef;refine xt J ?_;cases fc;obtain rfl:=dF.out eg;intro a w d e;exact ⟨a9,c5,d,e.cuE J⟩
   rintro a w ⟨a0,c1,d,e⟩;apply TG.ap ?_ d e;obtain ⟨iy,fh⟩:=aF hh;refine lB 8 [7] [] mixed (fun _ _ _ _ _ h=>h) (by kernel_rfl) (by kernel_rfl) (by kernel_rfl) J (by kernel_rfl) (.nil) (dA J (aR yC J (P 2 J ae) J aG) (dA J (aR yC J (P 2 J ae) J aG) (dA J (nl J J aG) (dA J (aU 5 pR J oX aG) (dc J (by kernel_rfl) tv J J (aR qW J ((sO 1 J).drop 5) J aG) (dA J (A J aG) ?_))))))
   refine uT 1 (I fM) 1 [(a0,aa.length,c1)] (I.mono fM) J (bS T12.E125 J J J J fun q1 dp fm dd=>by
     have fq:Sl (I fM) 1 dp (some q1) 1 [(a0,aa.length,c1)]:=Sl.litR (css:=[[(Value.slice a0 aa.length c1)]]) (l:=[(a0,aa.length,c1)]) ⟨⟨J,J,J⟩,tv⟩ fm dd J
     exact rJ (I.mono fM) fq) fun ik cR=>?_
   refine tS ((h1++[(a0,aa.length,c1)]).length) (fun dm dn=>([(3,S.list a0 c1 130 3 cG aa),(5,S.list dm dn 128 1 fM (h1++[(a0,aa.length,c1)])),(1,bE b7 127 [.int .i64 s.number,.int .i64 s.bound,.int .i64 s.height,.int .i64 s.width,.slice (some p0) s.parts.length ab,.slice a4 h1.length c3])]++iG 130 3 cG 1000 a6 s2.2)) J (fun a w K d e Z F=>TG.pa d e (rD 5 (enc:=fM) (l:=h1) (m:=[(a0,aa.length,c1)]) T12.E125 J J J J J J (Z.1 J) 0 J (fun _=>J) (fun _=>J) J (by have:=af.hlen;simp only [List.length_cons,List.length_nil];omega) fun an c6=>F _ _)) fun an c6=>(DC.nil fun ih Z=>?_);obtain ⟨_,iz,_⟩:=Z;refine TG.absorbA [(3,S.list a0 c1 130 3 cG aa),(5,S.list an c6 128 1 fM (h1++[(a0,aa.length,c1)])),(1,bE b7 127 [.int .i64 s.number,.int .i64 s.bound,.int .i64 s.height,.int .i64 s.width,.slice (some p0) s.parts.length ab,.slice a4 h1.length c3])] (B:=[(5,S.list an c6 128 1 fM (h1++[(a0,aa.length,c1)])),(1,bE b7 127 [.int .i64 s.number,.int .i64 s.bound,.int .i64 s.height,.int .i64 s.width,.slice (some p0) s.parts.length ab,.slice a4 h1.length c3])]) 3 (b:=1000) af J J ?_;have ct:=af.snoc aa a0 c1;refine nl J J (aU 5 pR J oX (eQ 1 oX J J J J J J J (N (rg (dN J J J (by omega) (A J (N ?_)))))));cases fh;intro a w d e;exact ⟨_,ed,(h1++[(a0,aa.length,c1)]),(a6++[(a0,c1)]),an,c6,d.selH [2,3,4] J,e.cuE J,ct⟩
  have ft:=aS hP ec;refine xt J ?_;cases ft;obtain rfl:=dF.out ed;intro a w d e;exact ⟨h1,a6,a4,c3,d,e.cuE J,af⟩
 rintro a w ⟨h2,a8,a2,c0,d,e,cr⟩;apply TG.ap ?_ d e;refine sq (C (A J (A J (WG C66 func66 J ntmps66 J J J J (C (bI J J J fun q6 t de=>(bI J J J fun q7 u dg=>(D J ?_))))))));refine C (fn J J J (D J (bH ?_)));intro a w d e;refine dT e J J ?_;refine ⟨_,J,fun a e=>?_⟩;refine fB J e d (N (bk (TG.stillC 1 J fun n Y=>?_)));obtain ⟨t3,fw,fz⟩:=L gy;refine WE 6 7 XQ func105 J ntmps105 J J (fun l0 g i w=>(∃ (h7:List Hd) (cd:List gD),St M W H [n,u,t,K9,K5,H] ([(6,S.blk l0 (i .ready none)),(7,S.blk g (.deferred (some []))),(5,S.list a2 c0 128 1 fM h7)]++iG 130 3 cG 1000 cd t3) w∧hZ h7 cd t3∧h7.length=h2.length)) ?_ ?_
 ·intro l0 g i tE br ad;refine C (aR PC J (P 2 J de) J ?_);obtain ⟨r0,f2,f5⟩:=L fw;refine wY 8 MO J J J J (fun w V σr d le=>NE (ai:=errata) (cl.mono (I.mono _) (le.at 5 J)) f2 d) fun dq c2=>(TG.len 8 J fun _=>(D J (C (A J ?_))));obtain ⟨l1,eh,f8⟩:=L f5;have gb:l1.length=r0.length:=(jE eh);refine JZ 8 (enc:=U) (V:=Va U) (V':=Va U) (fun _=>rfl) (fun _=>rfl) srt107 SX J J J J J J (fun H le=>⟨108,[],[],rfl,SY,fun w_ K_ ew v_ hK hw hs=>by obtain ⟨jb,jc,ic,ie,r_,rfl,e0,e1,hx,rfl⟩:=hs;cases e0;cases e1;exact UB  ic rfl ie rfl  hx⟩) (fun _ _=>rfl) (fun _ _=>rfl) eh (N (C (A rfl (dU CF J J (A rfl (N ?_))))));obtain ⟨ey,gh,ei⟩:=L f8;refine jn (fun a w=>∃ t2,ey=.inl t2∧∃ (h8:List Hd) (ao:List gD),St M W H [n,u,t,K9,K5,H] ([(8,S.list dq c2 119 6 U l1),(6,S.blk l0 (i .ready none)),(7,S.blk g (.deferred (some []))),(5,S.list a2 c0 128 1 fM h8)]++iG 130 3 cG 1000 ao t2) w∧bQ [] 28 a []∧hZ h8 ao t2∧h8.length=h2.length) ?_ ?_
  ·refine bk ?_;refine jZ [0,2,11,12] J gh (fun l_ s1 a w=>∃ (h0:List Hd) (a3:List gD),St M W H [n,u,t,K9,K5,H] ([(8,S.list dq c2 119 6 U l1),(6,S.blk l0 (i .ready none)),(7,S.blk g (.deferred (some []))),(5,S.list a2 c0 128 1 fM h0)]++iG 130 3 cG 1000 a3 s1.2) w∧bQ [] 28 a ((13,.int .i64 (s1.1:Int))::l_)∧hZ h0 a3 s1.2∧h0.length=h2.length) ?_ ?_
   ·intro a w d e;exact ⟨h2,a8,d,e.cuE J,cr,J⟩
   rintro j s1 y2 ej hX a w ⟨h0,a3,d,e,k,h3⟩;refine TG.ap ?_ d e;refine C (dS J J J (N (sq ?_)));refine ci J (fun cg=>?_) (fun cg=>?_)
   ·have gl:=aJ cg ej;refine sk (sq (bk (C ?_)));obtain ⟨y,ch,gq⟩:=L gl;refine TG.addr 8 J (fR ch) fun b0 h=>?_;subst h;refine cP CF iZ J J J J (Nat.lt_of_lt_of_eq (aT ch) gb) (cM nQ iZ J J (sE (enc:=U) 8 J (fun _=>J) ch) J (va zeroValue119 iZ J J J J J J J J fun q9 o aj=>(N (sq ?_))));obtain ⟨t4,ek,el⟩:=L gq;refine gG [0,2,11,12,13] J (fun l_ a w=>∃ (h6:List Hd) (a7:List gD),St M W H [o,n,u,t,K9,K5,H] ([(8,S.list (some ⟨b0,0,none⟩) c2 119 6 U l1),(6,S.blk l0 (i .ready none)),(7,S.blk g (.deferred (some []))),(5,S.list a2 c0 128 1 fM h6)]++iG 130 3 cG 1000 a7 t4.2) w∧bQ [] 28 a ((26,.bool t4.1)::l_)∧hZ h6 a7 t4.2∧h6.length=h2.length) ?_ ?_
    ·refine rg (aU 1 gO J Z3 (aR G3 J (((P 0 J aj).drop 1).take 1) J (aR G3 J (P 2 J dg) J (lL J J J (A J ?_)))));by_cases h4:fa<y.day
     ·have gv:=aJ h4 ek;refine cC 4 J J J (decide_eq_true h4) J (pt h4 J J (N ?_));cases gv;intro a w d e;exact ⟨h0,a3,d,e.cuE J,k,h3⟩
     have gz:=aS h4 ek;refine dJ h4 J (A J (dJ h4 J (cM nQ iZ J J (P 0 J aj) J (dJ h4 J ?_))));obtain ⟨t5,g4,g8⟩:=L gz;refine yl 6 [] (L1:=(54,.agg #[.int .i64 y.number,.int .i64 y.day,.int .u8 y.kind,.int .i64 y.anchor,.string (bs y.text),.int .i64 y.new_])::_) J J J br ad J J J (fun v w=>(∃ (h9:List Hd) (aq:List gD),v=.bool true∧St M W H [o,n,u,t,K9,K5,H] ([(8,S.list (some ⟨b0,0,none⟩) c2 119 6 U l1),(6,S.blk l0 (i .ready none)),(7,S.blk g (.deferred (some []))),(5,S.list a2 c0 128 1 fM h9)]++iG 130 3 cG 1000 aq t5) w∧hZ h9 aq t5∧h9.length=h2.length)) ?_ ?_
     ·refine rg (va zeroValue119 iZ J J J J J J J J fun i8 R ac=>(N (bR 6 ad J (bk (C (aR yC J (P 5 J ae) J (aU 3 gO J Z3 (aR G3 J (((P 0 J ac).drop 3).take 1) J ?_))))))));obtain ⟨p,ha,he⟩:=L g4;refine wP C48 func48 J ntmps48 J J J J (fun v w=>(v=.tuple #[.int .i64 (p.2.1:Int),.int .i64 (p.1:Int),.bool p.2.2]∧St M W H [R,o,n,u,t,K9,K5,H] ([(8,S.list (some ⟨b0,0,none⟩) c2 119 6 U l1),(6,S.blk l0 (i .busy none)),(7,S.blk g (.deferred (some []))),(5,S.list a2 c0 128 1 fM h0)]++iG 130 3 cG 1000 a3 s1.2) w)) ?_ ?_
      ·refine C (a1 J (a1 J (D J (sc (sq (lb (sq (C ?_))))))));refine A J (nl J J (aU 5 pR J oX (aR qW J ((P 2 J Y).drop 5) J (lnE (h3.symm.trans k.hlen) mQ J J (A J (N ?_))))));obtain ⟨cf,hi,hm⟩:=L ha;refine jn (SJ M W H [R,o,n,u,t,K9,K5,H] ([(8,S.list (some ⟨b0,0,none⟩) c2 119 6 U l1),(6,S.blk l0 (i .busy none)),(7,S.blk g (.deferred (some []))),(5,S.list a2 c0 128 1 fM h0)]++iG 130 3 cG 1000 a3 s1.2) 40 [(4,.int .i64 (cf.1:Int)),(5,.int .i64 (cf.2.1:Int)),(6,.bool cf.2.2)]) ?_ ?_
       ·refine bk ?_;refine jO [1,14,15] J hi (fun l_ s3=>(4,.int .i64 (s3.1:Int))::(5,.int .i64 (s3.2.1:Int))::(6,.bool s3.2.2.2)::(16,.int .i64 (s3.2.2.1:Int))::l_) ?_ ?_
        ·exact cuE J
        intro j s3 y3 dv cj;refine C (dS J J J (N (sq ?_)));refine ci J (fun ck=>?_) (fun ck=>?_)
        ·have ht:=aJ ck dv;refine sk (sq (bk (C (A J ?_))));obtain ⟨x8,cm,hz⟩:=L ht;obtain ⟨il,cS,dw,co⟩:=k.at cm;refine TG.addr 5 J (fR co) fun b2 h=>?_;subst h;refine cP mQ qX J J J J (Nat.lt_of_lt_of_eq (aT co) h3) (aR tM J (sE 5 J (fun _=>J) co) J (a1 J (D J (C (A J (dU oY J J (A J (N ?_))))))));obtain ⟨ez,e3,dx⟩:=L hz;refine gG [1,14,15,16] J (fun l_ a w=>∃ t1,ez=.inl t1∧SJ M W H [R,o,n,u,t,K9,K5,H] ([(8,S.list (some ⟨b0,0,none⟩) c2 119 6 U l1),(6,S.blk l0 (i .busy none)),(7,S.blk g (.deferred (some []))),(5,S.list (some ⟨b2,0,none⟩) c0 128 1 fM h0)]++iG 130 3 cG 1000 a3 s1.2) 40 ((4,.int .i64 (t1.1:Int))::(5,.int .i64 (t1.2.1:Int))::(6,.bool t1.2.2)::l_) a w) ?_ ?_
         ·refine bk ?_;refine jO [1,7,14,15,16,21,22] J e3 (fun l_ s5=>(4,.int .i64 (s5.1:Int))::(5,.int .i64 (s5.2.1:Int))::(6,.bool s5.2.2.2)::(23,.int .i64 (s5.2.2.1:Int))::l_) ?_ ?_
          ·exact cuE J
          intro j s5 y4 dy cp;refine C (dS J J J (N (sq ?_)));refine ci J (fun cv=>?_) (fun cv=>?_)
          ·have e7:=aJ cv dy;refine sk (sq (bk (C (A J ?_))));obtain ⟨x9,cw,dz⟩:=L e7;refine TG.addr (1000+s3.2.2.1) (gk J (gk J (gk J (gk J (sU dw cm))))) (fR cw) fun b6 h=>?_;subst h;refine cP oY kI J J J J (aT cw) (cM BG kI J J (sE (enc:=cG) (size:=3) (1000+s3.2.2.1) (gk J (gk J (gk J (gk J (sU dw cm))))) (fun _=>J) cw) J (al 9 zeroValue130 J J fun b8=>(a1 J (eQ 9 kI J J J J J J J (N (C (aU 0 oZ J lO (aU 0 yK J Z3 (aR G3 J ((sO 9 J).take 1) J (A J ?_))))))))));refine fZ J J J (N ?_);refine ci J (fun cx=>?_) (fun cx=>?_)
           ·have fe:=aJ cx dz;refine C (A J (A J (a1 J (a1 J (D J (xt J ?_))))));obtain ⟨z0,fj,rfl⟩:=kQ fe;obtain rfl:=dF.out cp;cases dx;refine TG.del 9 ?_;cases fj;obtain rfl:=dF.out cj;exact cuE J
           have fo:=aS cx dz;refine sk (rg ?_);obtain ⟨fr,fu⟩:=aF fo;refine dN J J J fr (A J (N (TG.del 9 ?_)));cases fu;intro a w d e;exact ⟨_,cp,d,e.cuE J⟩
          have fx:=aS cv dy;refine xt J ?_;cases fx;obtain rfl:=dF.out cp;intro a w d e;exact ⟨_,J,d,e.cuE J⟩
         rintro a w ⟨t1,rfl,d,e⟩;apply TG.ap ?_ d e;refine rg ?_;obtain ⟨f0,f3⟩:=aF dx;refine dN J J J f0 (A J (N ?_));cases f3;intro a w d e;exact ⟨_,cj,d,e.cuE J⟩
        have f6:=aS ck dv;refine xt J ?_;cases f6;obtain rfl:=dF.out cj;exact cuE J
       rintro a w ⟨d,e⟩;apply TG.ap ?_ d e;refine C (A J (A J (A J (a1 J (a1 J (D J (bH ?_)))))));cases hm;intro a w d e;refine PR e J J J J ?_;exact ⟨_,J,⟨J,d⟩⟩
      rintro a w v e (⟨rfl,d⟩);refine fB J e d (A J (ex J J J (ex J J J (ex J J J (a1 J (a1 J (D J (C (A J ?_)))))))));refine N ?_;obtain ⟨t6,d0,f9⟩:=L he;refine jn (fun a w=>∃ (hB:List Hd) (ar:List gD),St M W H [R,o,n,u,t,K9,K5,H] ([(8,S.list (some ⟨b0,0,none⟩) c2 119 6 U l1),(6,S.blk l0 (i .busy none)),(7,S.blk g (.deferred (some []))),(5,S.list a2 c0 128 1 fM hB)]++iG 130 3 cG 1000 ar t6) w∧bQ [] 76 a []∧hZ hB ar t6∧hB.length=h2.length) ?_ ?_
      ·refine cb J (fun cy=>?_) (fun cy=>?_)
       ·have gc:=aJ cy d0;obtain ⟨r1,gi,gn⟩:=L gc;obtain ⟨i0,d1⟩:=aF gn;refine eH 10 mixed (by kernel_rfl) J ?_
        let bb:List Value:=[.func (.func 109) #[] #[],.func (.func 110) #[] #[],.func (.func 111) #[] #[]]
        refine DF.und (α:=Addr) default (fun q=>.slice (some q) 3 3) (fun (q:Addr) K=>aN K q bb) (fun _ _ _ h x=>x.mono h) (by kernel_rfl) J (fun a w K d e Z=>TG.pa d e (gW C67 J J J J (fun w H hH le=>w67 hH gi) (by
          rintro v_ eo ⟨i9,rfl,bo⟩
          exact nJ (f:=fun q=>.slice (some q) 3 3) (G:=(fun (q:Addr) K=>aN K q bb)) _ (fun _ _ _ h x=>x.mono h) bo))) fun q0=>?_
        refine E J (aU 2 gO J Z5 aG) (E J (aR G5 J (((P 1 J ac).drop 2).take 1) J aG) ?_);by_cases d2:y.kind=0
        ·have gr:=aJ d2 d1;refine uC (.pointer (some (q0.add (0*1)))) (fun K=>aN K (q0.add (0*1)) bb) (fun _ _ h x=>x.mono h) J (fun a w K d e Z F=>TG.pa d e (cP (j:=0) TU TM J J J (by omega) (by decide) (F ((Z.1 J).drop (0*1))))) (uC (.pointer (some (q0.add (0*1)))) (fun K=>aN K (q0.add (0*1)) bb) (fun _ _ h x=>x.mono h) J (fun a w K d e Z F=>TG.pa d e (aU 0 TT J TL (F (Z.1 J)))) (DF.det J (fun a w K d e Z=>TG.pa d e (aR TE J ((P 0 J (Z.1 J)).take 1) J aG)) (E J (aR yC J (P 6 J ae) J aG) (dC J (dC J (E J (cM nQ iZ J J (P 1 J ac) J aG) (DF.nil fun am Z=>?_)))))));obtain ⟨i1,i2,d3,_⟩:=Z;obtain ⟨t7,gw,g1⟩:=L gr;refine wP aC8 func109 J ntmps109 J J J J (fun v w=>(∃ (hC:List Hd) (au:List gD),v=.tuple #[]∧St M W H [am,R,o,n,u,t,K9,K5,H] ([(8,S.list (some ⟨b0,0,none⟩) c2 119 6 U l1),(6,S.blk l0 (i .busy none)),(7,S.blk g (.deferred (some []))),(5,S.list a2 c0 128 1 fM hC)]++iG 130 3 cG 1000 au t7) w∧hZ hC au t7∧hC.length=h2.length)) ?_ ?_
         ·refine C (bI J J J fun iR bx bp=>(N (C (A J (nl J J (aU 5 pR J oX (aR qW J ((P 4 J Y).drop 5) J (A J ?_))))))));obtain ⟨x5,hE,g5⟩:=L gw;obtain ⟨im,ir,hM,dh⟩:=k.at hE;refine TG.addr 5 J (fR dh) fun b3 h=>?_;subst h;refine cP mQ qX J J J J (Nat.lt_of_lt_of_eq (aT dh) h3) (aR tM J (sE 5 J (fun _=>J) dh) J (A J ?_));obtain ⟨x2,hN,g9⟩:=L g5;refine TG.addr (1000+p.2.1) (gk J (gk J (gk J (gk J (sU hM hE))))) (fR hN) fun b4 h=>?_;subst h;refine cP oY kI J J J J (aT hN) (D J (C (A J (nl J J (aU 2 oZ J Z4 (aR G4 J ((sE (enc:=cG) (size:=3) (1000+p.2.1) (gk J (gk J (gk J (gk J (sU hM hE))))) (fun _=>J) hN).drop 2) J (nt J J (N ?_))))))));obtain ⟨t8,d4,hb⟩:=L g9;refine jn (fun a w=>∃ (hG:List Hd) (aw:List gD),St M W H [bx,am,R,o,n,u,t,K9,K5,H] ([(8,S.list (some ⟨b0,0,none⟩) c2 119 6 U l1),(6,S.blk l0 (i .busy none)),(7,S.blk g (.deferred (some []))),(5,S.list (some ⟨b3,0,none⟩) c0 128 1 fM hG)]++iG 130 3 cG 1000 aw t8) w∧bQ [] 29 a []∧hZ hG aw t8∧hG.length=h2.length) ?_ ?_
          ·refine cb J (fun h5=>?_) (fun h5=>?_)
           ·replace h5:=oI h5
            have hf:=bK h5 d4;refine rg (A J (aU 4 gO J Z9 (aR G9 J (((P 0 J bp).drop 4).take 1) J (nl J J (aU 0 oZ J lO (aU 1 yK J Z9 (UP (enc:=cG) (1000+p.2.1) (⟨(⟨x2.paragraph.anchor,y.text⟩:aH),x2.removed⟩:bZ) (q:=⟨b4,0,none⟩) (j:=p.1) (size:=3) (cs:=[.string (bs y.text)]) (off:=1) Z9 (ad3 (b:=0) (c:=1) J) J (gk J (gk J (gk J (gk J (sU hM hE))))) (fun _=>J) hN J J J J J (TG.eq (zk J (zk J (zk J (zk J (QM hM))))) ?_))))))));have bh:=k.put hE (wQ x5 p.1 (⟨(⟨x2.paragraph.anchor,y.text⟩:aH),x2.removed⟩:bZ));refine N ?_;cases hf;intro a w d e;exact ⟨h0,a3,d,e.cut tv,bh,h3⟩
           replace h5:=oJ h5
           have hj:=aJ h5 d4;refine sk ?_;cases hj;intro a w d e;exact ⟨h0,a3,d,e.cut tv,k,h3⟩
          rintro a w ⟨hG,aw,d,e,bg,hn⟩;refine TG.ap ?_ d e;cases hb;intro a w d e;refine eF e J ?_;exact ⟨_,J,⟨hG,aw,J,d.selH [1,2,3,4,5,6,7,8,9] J,bg,hn⟩⟩
         rintro a w v e (⟨hC,au,rfl,d,bf,hu⟩);refine fB J e d (N ?_);cases g1;intro a w d e;exact ⟨hC,au,d.selH [1,2,3,4,5,6,7,8] J,e.cut tv,bf,hu⟩
        have d5:=aS d2 d1;by_cases d7:y.kind=1
        ·have ia:=aJ d7 d5
         let dr:List Value:=[.func (.func 110) #[] #[],.func (.func 111) #[] #[]]
         refine uC (.pointer (some (q0.add (1*1)))) (fun K=>aN K (q0.add (1*1)) dr) (fun _ _ h x=>x.mono h) J (fun a w K d e Z F=>TG.pa d e (cP (j:=1) TU TM J J J (by omega) (by decide) (F ((Z.1 J).drop (1*1))))) (uC (.pointer (some (q0.add (1*1)))) (fun K=>aN K (q0.add (1*1)) dr) (fun _ _ h x=>x.mono h) J (fun a w K d e Z F=>TG.pa d e (aU 0 TT J TL (F (Z.1 J)))) (DF.det J (fun a w K d e Z=>TG.pa d e (aR TE J ((P 0 J (Z.1 J)).take 1) J aG)) (E J (aR yC J (P 6 J ae) J aG) (dC J (dC J (E J (cM nQ iZ J J (P 1 J ac) J aG) (DF.nil fun bz Z=>?_)))))));obtain ⟨i3,i4,d3,_⟩:=Z;obtain ⟨t9,e4,e8⟩:=L ia;refine wP aC9 func110 J ntmps110 J J J J (fun v w=>(∃ (hI:List Hd) (ax:List gD),v=.tuple #[]∧St M W H [bz,R,o,n,u,t,K9,K5,H] ([(8,S.list (some ⟨b0,0,none⟩) c2 119 6 U l1),(6,S.blk l0 (i .busy none)),(7,S.blk g (.deferred (some []))),(5,S.list a2 c0 128 1 fM hI)]++iG 130 3 cG 1000 ax t9) w∧hZ hI ax t9∧hI.length=h2.length)) ?_ ?_
         ·refine C (bI J J J fun iS ep em=>(N (rg (A J (nl J J (aU 5 pR J oX (aR qW J ((P 4 J Y).drop 5) J (A J ?_))))))));obtain ⟨x6,hO,ff⟩:=L e4;obtain ⟨ip,it,di,dj⟩:=k.at hO;refine TG.addr 5 J (fR dj) fun b9 h=>?_;subst h;refine cP mQ qX J J J J (Nat.lt_of_lt_of_eq (aT dj) h3) (aR tM J (sE 5 J (fun _=>J) dj) J (A J ?_));obtain ⟨x3,dk,fk⟩:=L ff;refine TG.addr (1000+p.2.1) (gk J (gk J (gk J (gk J (sU di hO))))) (fR dk) fun b5 h=>?_;subst h;refine cP oY kI J J J J (aT dk) (aU 2 oZ J Z4 (UP (enc:=cG) (1000+p.2.1) (⟨x3.paragraph,true⟩:bZ) (q:=⟨b5,0,none⟩) (j:=p.1) (size:=3) (cs:=[.bool true]) (off:=2) Z4 (OJ (b:=2) J) J (gk J (gk J (gk J (gk J (sU di hO))))) (fun _=>J) dk J J J J J (TG.eq (zk J (zk J (zk J (zk J (QM di))))) ?_)));have bl:=k.put hO (wQ x6 p.1 (⟨x3.paragraph,true⟩:bZ));refine N ?_;cases fk;intro a w d e;refine eF e J ?_;exact ⟨_,J,⟨h0,a3,J,d.selH [1,2,3,4,5,6,7,8,9] J,bl,h3⟩⟩
         rintro a w v e (⟨hI,ax,rfl,d,bj,fp⟩);refine fB J e d (N ?_);cases e8;intro a w d e;exact ⟨hI,ax,d.selH [1,2,3,4,5,6,7,8] J,e.cut tv,bj,fp⟩
        have d8:=aS d7 d5;by_cases d9:y.kind=2
        ·have fs:=aJ d9 d8;refine uC (.pointer (some (q0.add (2*1)))) (fun K=>aN K (q0.add (2*1)) [.func (.func 111) #[] #[]]) (fun _ _ h x=>x.mono h) J (fun a w K d e Z F=>TG.pa d e (cP (j:=2) TU TM J J J (by omega) (by decide) (F ((Z.1 J).drop (2*1))))) (uC (.pointer (some (q0.add (2*1)))) (fun K=>aN K (q0.add (2*1)) [.func (.func 111) #[] #[]]) (fun _ _ h x=>x.mono h) J (fun a w K d e Z F=>TG.pa d e (aU 0 TT J TL (F (Z.1 J)))) (DF.det J (fun a w K d e Z=>TG.pa d e (aR TE J (P 0 J (Z.1 J)) J aG)) (E J (aR yC J (P 6 J ae) J aG) (dC J (dC J (E J (cM nQ iZ J J (P 1 J ac) J aG) (DF.nil fun ca Z=>?_)))))));obtain ⟨i5,i6,d3,_⟩:=Z;obtain ⟨tD,fv,fy⟩:=L fs;refine wP aDa func111 J ntmps111 J J J J (fun v w=>(∃ (hJ:List Hd) (ay:List gD),v=.tuple #[]∧St M W H [ca,R,o,n,u,t,K9,K5,H] ([(8,S.list (some ⟨b0,0,none⟩) c2 119 6 U l1),(6,S.blk l0 (i .busy none)),(7,S.blk g (.deferred (some []))),(5,S.list a2 c0 128 1 fM hJ)]++iG 130 3 cG 1000 ay tD) w∧hZ hJ ay tD∧hJ.length=h2.length)) ?_ ?_
         ·refine C (bI J J J fun ja er ak=>(N ?_));obtain ⟨x1,dB,f1⟩:=L fv;obtain ⟨iq,iu,f4,hL⟩:=k.at dB;refine TG.addr 5 J (fR hL) fun b1 h=>?_;subst h;obtain ⟨f7,ga⟩:=aF f1;refine TG.focus [(8,S.list (some ⟨b0,0,none⟩) c2 119 6 U l1),(6,S.blk l0 (i .busy none)),(7,S.blk g (.deferred (some []))),(5,S.list (some ⟨b1,0,none⟩) c0 128 1 fM h0)] 10 (b:=1000) f4 dB ?_;obtain ⟨gg,gj⟩:=aF ga;obtain ⟨gp,gs⟩:=aF gj;refine lB 22 [21] [] mixed (fun _ _ _ _ _ h=>h) (by kernel_rfl) (by kernel_rfl) (by kernel_rfl) J (by kernel_rfl) (.nil) (dA J (A J aG) (dA J (nl J J aG) (dA J (aU 5 pR J oX aG) (dA J (aR qW J ((P 5 J Y).drop 5) J aG) (dA J (A J aG) (dA J (A J aG) (dA J (nl J J aG) (dA J (aU 5 pR J oX aG) (dA J (aR qW J ((P 5 J Y).drop 5) J aG) (dA J (A J aG) (dA J (cP mQ qX J J J J (Nat.lt_of_lt_of_eq (aT hL) h3) aG) ?_)))))))))));refine dc J (by kernel_rfl) tv J J (aR tM J (sE 5 J (fun _=>J) hL) J aG) (dA J (A J aG) (dA J (dN J J J f7 aG) (dA J (aU 5 gO J Z3 aG) (dA J (aR G3 J ((P 1 J ak).drop 5) J aG) (dA J (aU 4 gO J Z9 aG) (dA J (aR G9 J (((P 1 J ak).drop 4).take 1) J aG) (dA J (bu T12.B98 J J J aG) (dA J (bu T12.B130 J J J aG) ?_))))))))
          refine uT 1 (I cG) 3 ([(⟨(⟨y.new_,y.text⟩:aH),false⟩:bZ)]:List bZ) (I.mono _) J (bS T12.E128 J J J J fun q2 cc gx bq=>by
            have g2:Sl (I cG) 3 cc (some q2) 1 ([(⟨(⟨y.new_,y.text⟩:aH),false⟩:bZ)]:List bZ):=Sl.litF (fun _=>J) (fun _=>J) gx bq J J J
            exact rJ (I.mono _) g2) fun ii iv=>?_
          let ce:S:=S.list (some ⟨b0,0,none⟩) c2 119 6 U l1
          refine tS ((x1.take (((p.1:Int)+1).toNat)++[(⟨(⟨y.new_,y.text⟩:aH),false⟩:bZ)]++x1.drop (((p.1:Int)+1).toNat)).length) (fun dm dn=>([(10,S.list dm dn 130 3 cG (x1.take (((p.1:Int)+1).toNat)++[(⟨(⟨y.new_,y.text⟩:aH),false⟩:bZ)]++x1.drop (((p.1:Int)+1).toNat))),(8,ce),(6,S.blk l0 (i .busy none)),(7,S.blk g (.deferred (some []))),(5,S.list (some ⟨b1,0,none⟩) c0 128 1 fM h0)]++iG 130 3 cG 1000 (a3.set p.2.1 (none,0)) (s1.2.set p.2.1 []))) J (fun a w K d e Z F=>TG.pa d e (aCl 10 (enc:=cG) J (fun _=>J) (fun _=>J) (((p.1:Int)+1).toNat) (⟨(⟨y.new_,y.text⟩:aH),false⟩:bZ) (l:=x1) ins112 aDb J J J J J J J (Z.1 J) 0 J (by omega) gp gg fun a5 c4=>F _ _)) fun a5 c4=>(DC.nil fun es Z=>?_);obtain ⟨_,i7,_⟩:=Z;refine cP mQ qX J J J J (Nat.lt_of_lt_of_eq (aT hL) h3) (UP 5 (a5,(x1.take (((p.1:Int)+1).toNat)++[(⟨(⟨y.new_,y.text⟩:aH),false⟩:bZ)]++x1.drop (((p.1:Int)+1).toNat)).length,c4) (q:=⟨b1,0,none⟩) (j:=p.2.1) (size:=1) (cs:=[(Value.slice a5 (x1.take (((p.1:Int)+1).toNat)++[(⟨(⟨y.new_,y.text⟩:aH),false⟩:bZ)]++x1.drop (((p.1:Int)+1).toNat)).length c4)]) (off:=0) qX J J J (fun _=>J) hL J J J J J (TG.absorb [(10,S.list a5 c4 130 3 cG (x1.take (((p.1:Int)+1).toNat)++[(⟨(⟨y.new_,y.text⟩:aH),false⟩:bZ)]++x1.drop (((p.1:Int)+1).toNat))),(8,ce),(6,S.blk l0 (i .busy none)),(7,S.blk g (.deferred (some []))),(5,S.list (some ⟨b1,0,none⟩) c0 128 1 fM (h0.set p.2.1 (a5,(x1.take (((p.1:Int)+1).toNat)++[(⟨(⟨y.new_,y.text⟩:aH),false⟩:bZ)]++x1.drop (((p.1:Int)+1).toNat)).length,c4)))] (B:=[(8,ce),(6,S.blk l0 (i .busy none)),(7,S.blk g (.deferred (some []))),(5,S.list (some ⟨b1,0,none⟩) c0 128 1 fM (h0.set p.2.1 (a5,(x1.take (((p.1:Int)+1).toNat)++[(⟨(⟨y.new_,y.text⟩:aH),false⟩:bZ)]++x1.drop (((p.1:Int)+1).toNat)).length,c4)))]) 10 (b:=1000) (j:=p.2.1) J J (TG.eq (by rw [List.set_set,List.set_set]) ?_)));have bn:=k.new p.2.1 (x1.take (((p.1:Int)+1).toNat)++[(⟨(⟨y.new_,y.text⟩:aH),false⟩:bZ)]++x1.drop (((p.1:Int)+1).toNat)) a5 c4;have g6:(h0.set p.2.1 (a5,(x1.take (((p.1:Int)+1).toNat)++[(⟨(⟨y.new_,y.text⟩:aH),false⟩:bZ)]++x1.drop (((p.1:Int)+1).toNat)).length,c4)).length=h2.length:=(wQ _ _ _).trans h3;refine N ?_;cases gs;intro a w d e;refine eF e J ?_;exact ⟨_,J,⟨(h0.set p.2.1 (a5,(x1.take (((p.1:Int)+1).toNat)++[(⟨(⟨y.new_,y.text⟩:aH),false⟩:bZ)]++x1.drop (((p.1:Int)+1).toNat)).length,c4)),(a3.set p.2.1 (a5,c4)),J,d.selH [2,3,4,5,6,7,8,9,10] J,bn,g6⟩⟩
         rintro a w v e (⟨hJ,ay,rfl,d,bm,gR⟩);refine fB J e d (N ?_);cases fy;intro a w d e;exact ⟨hJ,ay,d.selH [1,2,3,4,5,6,7,8] J,e.cut tv,bm,gR⟩
        have hc:=aS d9 d8;cases hc
       have hg:=bK cy d0;refine sk ?_;cases hg;intro a w d e;exact ⟨h0,a3,d,e.cut tv,k,h3⟩
      rintro a w ⟨hB,ar,d,e,be,hk⟩;refine TG.ap ?_ d e;cases f9;refine eR 6 none ad J fun w d=>?_;exact ⟨hB,ar,J,d.selH [1,2,3,4,5,6,7] J,be,hk⟩
     rintro a w v e (⟨h9,aq,rfl,d,bd,ho⟩);refine fB J e d (dJ h4 J (nt J J (pf h4 J J (N ?_))));cases g8;intro a w d e;exact ⟨h9,aq,d,e.cuE J,bd,ho⟩
    rintro a w ⟨h6,a7,d,e,ah,ea⟩;refine TG.ap ?_ d e;refine cb J (fun dl=>?_) (fun dl=>?_)
    ·have hv:=aJ dl el;refine bH ?_;cases hv;obtain rfl:=dF.out hX;refine TG.del 8 ?_;cases ei;intro a w d e;refine eF e J ?_;exact ⟨_,J,⟨h6,a7,d.selH [1,2,3,4,5,6] J,ah,ea⟩⟩
    have ib:=bK dl el;refine sk (rg (dN J J J (by omega) (A J (N ?_))));cases ib;intro a w d e;exact ⟨_,hX,h6,a7,d.selH [1,2,3,4,5,6] J,e.cuE J,ah,ea⟩
   have e5:=aS cg ej;refine xt J ?_;cases e5;obtain rfl:=dF.out hX;intro a w d e;exact ⟨_,J,h0,a3,d,e.cut tv,k,h3⟩
  rintro a w ⟨t2,rfl,h8,ao,d,e,bc,e9⟩;apply TG.ap ?_ d e;refine TG.del 8 ?_;cases ei;intro a w d e;refine eF e J ?_;exact ⟨_,J,⟨h8,ao,d,bc,e9⟩⟩
 rintro l0 g i tE a w ad e (⟨h7,cd,d,ag,fg⟩);refine TG.ap ?_ d e;refine WF 6 ad J (C (aR yC J (P 3 J ae) J (D J (bH (TG.stillG [(7,S.blk g (.deferred (some []))),(5,S.list a2 c0 128 1 fM h7)] (B:=[(7,S.blk g (.deferred (some [])))]) 5 (b:=1000) ag J J (fun _=>J) fun et fl=>?_)))));cases fz;refine OE (UR 7 J (OF ?_));intro a w d e;refine dT e J J ?_;exact ⟨⟨_,_,J,(Y.mono (d.grow 1 J)),⟨az,ab,a2,c0,(by rw [show h2.length=t3.length from (fg.symm.trans ag.hlen)]),(bt.mono (bW.mono) (d.grow 6 J)),(fl.mono (tX.mono (I.mono _)) (d.grow 0 J))⟩⟩,d.ext⟩

theorem w49 (k:H.le (hp W)) {cn:List Value} (Y:bD) (cz:(bV) H cn Y) {bw:Option Addr} {bi:Nat} {errata:List aL} (cl:Sl (I U) 6 H bw bi errata) (fa:Int) {r:List aH×Int} (hr:EM Y errata fa=some r):Calls prog 49 #[.agg cn.toArray,.slice bw errata.length bi,.int .i64 fa] W (eY M H W (fun v K=>∃ (s:Option Addr) (g:Nat),v=.tuple #[.slice s r.1.length g,.int .i64 r.2]∧Sl (I aO) 2 K s g r.1)):=by
 have d:=cz;obtain ⟨au,ar,rfl,bb⟩:=cz;refine aK (M:=M) func49 J ntmps49 J k ?_;refine C (bI J J J fun q4 m B=>(a1 J (D J (sq (C (cM oC jM J J (P 0 J B) J (A J ?_)))))));obtain ⟨r7,aq,F⟩:=L hr;refine bB C22 J (fun w H k le=>w22 k Y (bV.mono _ _ _ _ le.i d) (cl.mono (I.mono _) le.i) aq) (D J (C (A J (nI J J J (N ?_)))));refine ci J (fun h2=>?_) (fun h2=>?_)
 ·have hK:=aJ h2 F;refine C (A J (a1 J (D J (bH ?_))));cases hK;intro a w b c;refine mW c J J J ?_;exact ⟨⟨_,_,J,Sl.o⟩,b.ext⟩
 have hL:=aS h2 F;refine sk (sq (C (A J ?_)));obtain ⟨r0,hM,h9⟩:=L hL;refine bB UZ J (fun w H k le=>VE fa hM) (nt J J (N ?_));refine cb J (fun h0=>?_) (fun h0=>?_)
 ·replace h0:=oI h0
  have hN:=bK h0 h9;refine C (a1 J (D J (bH ?_)));cases hN;intro a w b c;refine mW c J J J ?_;exact ⟨⟨_,_,J,Sl.o⟩,b.ext⟩
 replace h0:=oJ h0
 have hO:=aJ h0 h9;refine sk (C (D J (sq (C (cM oC jM J J (P 0 J B) J (A J (A J ?_)))))));obtain ⟨r1,hP,hR⟩:=L hO;refine gW C44 J J J J (fun w H k le=>w44 k Y (bV.mono _ _ _ _ le.i d) (cl.mono (I.mono _) le.i) fa hP) ?_;rintro v_ e ⟨q0,c6,rfl,hT,hB⟩;have aw:=hB;obtain ⟨a7,c7,a8,c8,rfl,ax,h3⟩:=hB;have:=h3.len;refine nl J J (aU 5 pR J oX (aR qW J ((P 0 J hT).drop 5) J (dU mQ J J (A J (N (TG.nilRow 2 98 2 (TG.as 2 (z:=S.list none 0 98 2 aO ([]:List aH)) J J ?_)))))));obtain ⟨x,hV,hW⟩:=L hR;refine jn (fun a w=>∃ (a5:Option Addr) (c4:Nat),SJ M W H [e,m,H] [(2,S.list a5 c4 98 2 aO x)] 52 [(9,.slice a5 x.length c4)] a w) ?_ ?_
 ·refine bk ?_;refine jZ [29,30] J hV (fun h s2 a w=>∃ (p:Option Addr) (t:Nat),SJ M W H [e,m,H] [(2,S.list p t 98 2 aO s2.2)] 52 ((9,.slice p s2.2.length t)::(31,.int .i64 (s2.1:Int))::h) a w) ?_ ?_
  ·intro a w b c;exact ⟨none,0,b,c.cuE J⟩
  rintro j s2 y0 hC hE a w ⟨p,t,b,c⟩;refine TG.ap ?_ b c;refine C (dS J J J (N (sq ?_)));refine ci J (fun h4=>?_) (fun h4=>?_)
  ·have hX:=aJ h4 hC;refine sk (sq (bk (C ?_)));obtain ⟨x1,h5,aa⟩:=L hX;obtain ⟨p0,rfl⟩:=h3.adr h5;obtain ⟨c9,ay,ab,hF⟩:=h3.at h5;have az:=hF;obtain ⟨a9,cR,rfl,h6⟩:=hF;have:=h6.len;refine cP mQ qX J J J J (aT h5) (aR tM J (P 0 J ab) J (D J (C (A J (dU oY J J (A J (N ?_)))))));obtain ⟨y,ac,ad⟩:=L aa;refine gG [29,30,31] J (fun h a w=>∃ (R:Option Addr) (Z:Nat),SJ M W H [e,m,H] [(2,S.list R Z 98 2 aO y)] 52 ((9,.slice R y.length Z)::h) a w) ?_ ?_
   ·refine bk ?_;refine jZ [29,30,31,35,36] J ac (fun h G a w=>∃ (q:Option Addr) (u:Nat),SJ M W H [e,m,H] [(2,S.list q u 98 2 aO G.2)] 52 ((9,.slice q G.2.length u)::(37,.int .i64 (G.1:Int))::h) a w) ?_ ?_
    ·intro a w b c;exact ⟨p,t,b,c.cuE J⟩
    rintro j G y1 hG hI a w ⟨q,u,b,c⟩;refine TG.ap ?_ b c;refine C (dS J J J (N (sq ?_)));refine ci J (fun h7=>?_) (fun h7=>?_)
    ·have ae:=aJ h7 hG;refine sk (sq (bk (C ?_)));obtain ⟨x0,h8,af⟩:=L ae;obtain ⟨p1,rfl⟩:=h6.adr h8;have ag:=h6.atF h8;refine cP oY kI J J J J (aT h8) (cM BG kI J J (P 0 J ag) J (va zeroValue130 kI J J J J J J J J fun q1 n f=>(N (C (aU 2 oZ J Z4 (aR G4 J ((P 0 J f).drop 2) J (nt J J (N ?_))))))));obtain ⟨t0,hJ,ah⟩:=L af;refine gG [29,30,31,35,36,37] J (fun h a w=>∃ (V:Option Addr) (c3:Nat),SJ M W H [n,e,m,H] [(2,S.list V c3 98 2 aO t0)] 52 ((9,.slice V t0.length c3)::h) a w) ?_ ?_
     ·refine cb J (fun h1=>?_) (fun h1=>?_)
      ·replace h1:=oI h1
       have ai:=bK h1 hJ;refine rg (A J (aU 0 oZ J lO (cM BI lO J J ((P 0 J f).take 2) J ?_)));obtain ⟨aj,ak⟩:=aF ai;refine wO 2 aO (l:=G.2) x0.paragraph T12.E91 J J J J J J J J J J J J aj fun a6 c5 u0=>(D J ?_);cases ak;intro a w b c;exact ⟨a6,c5,b,c.cuE J⟩
      replace h1:=oJ h1
      have am:=aJ h1 hJ;refine sk ?_;cases am;intro a w b c;exact ⟨q,u,b,c.cuE J⟩
     rintro a w ⟨V,c3,b,c⟩;refine TG.ap ?_ b c;refine rg (dN J J J (by omega) (A J (N ?_)));cases ah;intro a w b c;exact ⟨_,hI,V,c3,b.selH [1,2,3] J,c.cuE J⟩
    have an:=aS h7 hG;refine xt J ?_;cases an;obtain rfl:=dF.out hI;intro a w b c;exact ⟨q,u,b,c.cuE J⟩
   rintro a w ⟨R,Z,b,c⟩;apply TG.ap ?_ b c;refine rg (dN J J J (by omega) (A J (N ?_)));cases ad;intro a w b c;exact ⟨_,hE,R,Z,b,c.cuE J⟩
  have ao:=aS h4 hC;refine xt J ?_;cases ao;obtain rfl:=dF.out hE;intro a w b c;exact ⟨p,t,b,c.cuE J⟩
 rintro a w ⟨a5,c4,b,c⟩;apply TG.ap ?_ b c;refine C (A J (a1 J (D J (bH ?_))));cases hW;intro a w b c;refine mW c J J J ?_;exact ⟨⟨_,_,J,(b.listOut 2 J (fun _=>J))⟩,b.ext⟩

theorem BQ {M:Prop} {W w:World} {H V:Hp} {σr:aM} {p:Nat} {B:List Value} (j:aI) (au:aX V B j) {cx:List Value} (l:aL) (dw:(I U) V cx l) {r:aI⊕Int} (hr:oV j l=some r) (b:St M W H [V] ((1,bE p 77 B)::σr) w):Calls prog 132 #[.pointer (some ⟨p,0,none⟩),.agg cx.toArray] w (fI M W H V σr (sC (fun y e K A'=>∃ (du:List Value),e=.returned (.tuple #[])∧A'=[(1,bE p 77 du)]∧aX K du y) (fun u=>.iface 155 (.agg #[.int .i64 u])) [(1,bE p 77 B)] r)):=by
 obtain rfl:=dw;obtain ⟨Y,rfl,n⟩:=au;refine cV (M:=M) func132 J ntmps132 J b ?_;refine C (bO 2 J J J fun b3=>(N (sq ?_)));obtain ⟨t1,h2,R⟩:=L hr;refine gG [0,3] J (fun l_ a w=>∃ t0,t1=.inl t0∧SJ M W H [V] ([(2,bE b3 119 [.int .i64 l.number,.int .i64 l.day,.int .u8 l.kind,.int .i64 l.anchor,.string (bs l.text),.int .i64 l.new_]),(1,bE p 77 (cO j.state Y))]++σr) 62 l_ a w) ?_ ?_
 ·refine eH 17 mixed (by kernel_rfl) J (dC J (E J (nl J J aG) (E J (aU 0 fD J eT aG) (E J (aU 7 eX J Z4 aG) (E J (aR G4 J (((sO 1 J).drop 7).take 1) J aG) (dC J ?_))))));rcases Bool.eq_false_or_eq_true (j.state.bound) with d|d
  ·have hB:=aJ d h2;refine E J (gN J J (d) (A J aG)) (E J (gN J J (d) (nl J J aG)) (E J (gN J J (d) (aU 0 fD J eT aG)) (E J (gN J J (d) (aU 0 eX J Z3 aG)) (E J (gN J J (d) (aR G3 J ((sO 1 J).take 1) J aG)) (E J (gN J J (d) (A J aG)) (E J (gN J J (d) (nl J J aG)) (E J (gN J J (d) (aU 0 fD J eT aG)) (E J (gN J J (d) (aU 2 eX J jM aG)) (E J (gN J J (d) (aU 1 pK J Z3 aG)) (E J (gN J J (d) (aR G3 J (((sO 1 J).drop 3).take 1) J aG)) (DF.nil fun aa k=>?_)))))))))));refine gN J J (d) (lL J J J (pT J J (d) J ?_));obtain ⟨r2,h3,h4⟩:=L hB;rcases r2 with y0|y0
   ·refine bB fG J (fun w H m le=>iX (fH (decide (j.state.volume.bound<j.state.day)) 8 h3)) (N ?_);cases h4;intro a w b c;exact ⟨_,J,b.selH [1] J,c.cuE J⟩
   refine eG fG J J J (fun w H m le=>iY (fH (decide (j.state.volume.bound<j.state.day)) 8 h3)) ?_;cases h4;refine TG.del 2 ?_;cases R;intro a w b c;exact ⟨c.defers,V,[_],b.selH [1,1] J,J,J⟩
  have hC:=bK d h2;refine kY 11 J J (d) J ⟨J,J,J,J,J,J,J,J,J,J,J,tv⟩ (DF.nil fun ad k=>(gF J J (d) J (pF J J (d) J ?_)));obtain ⟨r3,h5,h6⟩:=L hC;rcases r3 with y1|y1
  ·refine bB fG J (fun w H m le=>iX (fH false 8 h5)) (N ?_);cases h6;intro a w b c;exact ⟨_,J,b.selH [1] J,c.cuE J⟩
  refine eG fG J J J (fun w H m le=>iY (fH false 8 h5)) ?_;cases h6;refine TG.del 2 ?_;cases R;intro a w b c;exact ⟨c.defers,V,[_],b.selH [1,1] J,J,J⟩
 rintro a w ⟨t0,rfl,b,c⟩;refine TG.ap ?_ b c;refine C (A J (nl J J (aU 0 fD J eT (aU 0 eX J Z3 (aR G3 J ((sO 1 J).take 1) J (aU 1 gO J Z3 (eQ 2 Z3 J J J J J J J (N (sq (eH 6 mixed (by kernel_rfl) J ?_))))))))));refine dC J (E J (nl J J aG) (E J (aU 0 fD J eT aG) (E J (aU 8 eX J TN aG) (E J (aR PC J (((sO 1 J).drop 8).take 1) J aG) (E J (cM nQ iZ J J (sO 2 J) J aG) (DF.nil fun af k=>?_))))));obtain ⟨r1,hE,hG⟩:=L R;refine gW aD4 J J J J (fun w H m le=>aHq m (n.f1.mono (I.mono _) le.i) ({l with day:=j.state.day}:aL) J hE) ?_;rintro v_ ag ⟨Z,c2,rfl,h7⟩;refine D J (sq ?_);obtain ⟨g,hI,hJ⟩:=L hG;refine eH 16 mixed (by kernel_rfl) J (dC J (E J (nl J J aG) (E J (aU 0 fD J eT aG) (E J (aU 2 eX J jM aG) (E J (cM oC jM J J (((sO 1 J).drop 2).take 5) J aG) (dC J (dC J (E J (nl J J aG) (E J (aU 0 fD J eT aG) (E J (aU 0 eX J Z3 aG) (E J (aR G3 J ((sO 1 J).take 1) J aG) ?_)))))))))))
 refine DF.und (α:=Option Addr×Nat) (none,0) (fun q=>.tuple #[.slice q.1 g.1.length q.2,.int .i64 g.2]) (fun (q:Option Addr×Nat) K=>Sl (I aO) 2 K q.1 q.2 g.1) (fun _ _ _ h x=>x.mono (I.mono _) h) (by kernel_rfl) J (fun a w K b c k=>TG.pa b c (gW C49 J J J J (fun w H m le=>w49 m j.state.volume ⟨_,_,J,(n.f0.mono (bW.mono) le.v)⟩ (h7.mono (I.mono _) le.i) j.state.day hI) (by
   rintro v_ ah ⟨a3,c3,rfl,hK⟩
   exact nJ (f:=fun q=>.tuple #[.slice q.1 g.1.length q.2,.int .i64 g.2]) (G:=(fun (q:Option Addr×Nat) K=>Sl (I aO) 2 K q.1 q.2 g.1)) (a3,c3) (fun _ _ _ h x=>x.mono (I.mono _) h) hK))) ?_
 rintro ⟨o,s⟩;refine uC (.tuple #[.slice o g.1.length s,.int .i64 g.2]) (fun K=>Sl (I aO) 2 K o s g.1) (fun _ _ h x=>x.mono (I.mono _) h) J (fun a w K b c k F=>TG.pa b c (A J (F (k.1 J)))) (uC (.slice o g.1.length s) (fun K=>Sl (I aO) 2 K o s g.1) (fun _ _ h x=>x.mono (I.mono _) h) J (fun a w K b c k F=>TG.pa b c (ex J J J (F (k.1 J)))) (E J (ex J J J aG) (uC (.slice o g.1.length s) (fun K=>Sl (I aO) 2 K o s g.1) (fun _ _ h x=>x.mono (I.mono _) h) J (fun a w K b c k F=>TG.pa b c (a1 J (F (k.1 J)))) (DF.nil fun ai k=>?_))));obtain ⟨hM,hN,hO,hP,_⟩:=k;refine D J (C (A J ?_));obtain ⟨r4,h8,h9⟩:=L hJ
 let t:List Value:=((cO j.state Y).set 8 (.slice Z r1.length c2))
 rcases r4 with y2|y2
 ·refine bB jQ J (fun w H m le=>iX (jR g.2 h8)) (N (rg (A J (A J (nl J J (aU 0 fD J eT (aU 8 eX J TN (eQ 1 TN J J J J J J J (N (TG.del 2 (TG.pack (fun K=>aX K t (⟨({j.state with errata:=r1}:dE)⟩:aI)) (fun H le=>⟨{Y with a1:=Z,c1:=c2},J,{n.mono le.v with f1:=(h7.mono (I.mono _) le.i)}⟩) fun z hL=>?_)))))))))));cases h9;intro a w b c;refine eF c J ?_;exact ⟨z,[(1,bE p 77 t)],b.selH [0,4] J,_,J,J,hL⟩
 refine eG jQ J J J (fun w H m le=>iY (jR g.2 h8)) (TG.del 2 ?_);cases h9;intro a w b c;exact ⟨c.defers,V,[_],b.selH [3,3] J,J,J⟩

theorem w85 {M:Prop} {W w:World} {H V:Hp} {σr:aM} {f:Nat} {m:List Value} (g:aI) (au:aX V m g) {x:Option Addr} {v:Nat} {bz:List Int} (n:Sl (I (bP .i64)) 1 V x v bz) (text:aE) {r:aI⊕Int} (hr:RL g bz text=some r) (b:St M W H [V] ((1,bE f 77 m)::σr) w):Calls prog 85 #[.pointer (some ⟨f,0,none⟩),.slice x bz.length v,.string (bs text)] w (fI M W H V σr (sC (fun y e K A'=>∃ (z:List Value),e=.returned (.tuple #[])∧A'=[(1,bE f 77 z)]∧aX K z y) (fun u=>.iface 155 (.agg #[.int .i64 u])) [(1,bE f 77 m)] r)):=by
 obtain ⟨t,rfl,c⟩:=au;refine cV (M:=M) func85 J ntmps85 J b ?_;obtain ⟨x3,d,q⟩:=L hr;obtain ⟨p6,rfl⟩:=n.adr d;have p:=n.atF d;obtain ⟨x0,F,h5⟩:=L q;have h6:=n.atF F;refine eH 9 mixed (by kernel_rfl) J (dC J (dC J (E J (cP eO Z3 J J J J (aT d) aG) (E J (aR G3 J (P 1 J p) J aG) (dC J (E J (cP eO Z3 J J J J (aT F) aG) (E J (aR G3 J (P 1 J h6) J aG) (dC J (E J (bu T12.B119 J J J aG) (DF.nil fun aa hF=>?_))))))))));obtain ⟨r0,G,R⟩:=L h5
 let h:aM:=[(1,bE f 77 (cO g.state t))]
 rcases r0 with k|k
 ·refine qP h (B:=([]++σr)) J BC J J J J (fun w V b le=>BQ g ⟨t,J,{c.mono le.i with f0:=(c.f0.mono (bW.mono) le.i)}⟩ (⟨x3,0,0,x0,text,0⟩:aL) J G b) ?_;rintro e_ ad A_ a w ⟨c0,rfl,rfl,Y⟩ b j;refine wD (fB J j b ?_);have h8:=Y;obtain ⟨s,rfl,Z⟩:=Y;refine N (TG.pack (fun K=>aX K (cO k.state s) k) (fun H le=>⟨s,J,{Z.mono le.o with f0:=(Z.f0.mono (bW.mono) le.o)}⟩) fun l h7=>?_);cases R;intro a w b j;refine eF j J ?_;exact ⟨l,[(1,bE f 77 (cO k.state s))],b.selH [0,3] J,_,J,J,h7⟩
 refine qP h (B:=([]++σr)) J BC J J J J (fun w V b le=>BQ g ⟨t,J,{c.mono le.i with f0:=(c.f0.mono (bW.mono) le.i)}⟩ (⟨x3,0,0,x0,text,0⟩:aL) J G b) ?_;rintro e_ af A_ a w ⟨rfl,rfl⟩ b j;refine QR ?_;cases R;exact ⟨j.defers,V,[_],b.selH [2,2] J,J,J⟩

theorem w86 {M:Prop} {W w:World} {H V:Hp} {σr:aM} {f:Nat} {m:List Value} (g:aI) (au:aX V m g) {x:Option Addr} {v:Nat} {bz:List Int} (n:Sl (I (bP .i64)) 1 V x v bz) (z:aE) {r:aI⊕Int} (hr:RM g bz z=some r) (b:St M W H [V] ((1,bE f 77 m)::σr) w):Calls prog 86 #[.pointer (some ⟨f,0,none⟩),.slice x bz.length v,.string (bs z)] w (fI M W H V σr (sC (fun y e K A'=>∃ (F:List Value),e=.returned (.tuple #[])∧A'=[(1,bE f 77 F)]∧aX K F y) (fun u=>.iface 155 (.agg #[.int .i64 u])) [(1,bE f 77 m)] r)):=by
 obtain ⟨t,rfl,c⟩:=au;refine cV (M:=M) func86 J ntmps86 J b ?_;obtain ⟨x3,d,q⟩:=L hr;obtain ⟨p6,rfl⟩:=n.adr d;have p:=n.atF d;obtain ⟨x0,G,h5⟩:=L q;have h6:=n.atF G;refine eH 8 mixed (by kernel_rfl) J (dC J (dC J (E J (cP eO Z3 J J J J (aT d) aG) (E J (aR G3 J (P 1 J p) J aG) (dC J (E J (cP eO Z3 J J J J (aT G) aG) (E J (aR G3 J (P 1 J h6) J aG) (E J (bu T12.B119 J J J aG) (DF.nil fun aa hF=>?_)))))))));obtain ⟨r0,R,Y⟩:=L h5
 let h:aM:=[(1,bE f 77 (cO g.state t))]
 rcases r0 with k|k
 ·refine qP h (B:=([]++σr)) J BC J J J J (fun w V b le=>BQ g ⟨t,J,{c.mono le.i with f0:=(c.f0.mono (bW.mono) le.i)}⟩ (⟨x3,0,1,x0,[],0⟩:aL) J R b) ?_;rintro e_ ad A_ a w ⟨c0,rfl,rfl,Z⟩ b j;refine wD (fB J j b ?_);have h8:=Z;obtain ⟨s,rfl,h4⟩:=Z;refine N (TG.pack (fun K=>aX K (cO k.state s) k) (fun H le=>⟨s,J,{h4.mono le.o with f0:=(h4.f0.mono (bW.mono) le.o)}⟩) fun l h7=>?_);cases Y;intro a w b j;refine eF j J ?_;exact ⟨l,[(1,bE f 77 (cO k.state s))],b.selH [0,3] J,_,J,J,h7⟩
 refine qP h (B:=([]++σr)) J BC J J J J (fun w V b le=>BQ g ⟨t,J,{c.mono le.i with f0:=(c.f0.mono (bW.mono) le.i)}⟩ (⟨x3,0,1,x0,[],0⟩:aL) J R b) ?_;rintro e_ af A_ a w ⟨rfl,rfl⟩ b j;refine QR ?_;cases Y;exact ⟨j.defers,V,[_],b.selH [2,2] J,J,J⟩

theorem w87 {M:Prop} {W w:World} {H V:Hp} {σr:aM} {f:Nat} {n:List Value} (g:aI) (au:aX V n g) {x:Option Addr} {v:Nat} {bz:List Int} (k:Sl (I (bP .i64)) 1 V x v bz) (text:aE) {r:aI⊕Int} (hr:RN g bz text=some r) (b:St M W H [V] ((1,bE f 77 n)::σr) w):Calls prog 87 #[.pointer (some ⟨f,0,none⟩),.slice x bz.length v,.string (bs text)] w (fI M W H V σr (sC (fun y e K A'=>∃ (z:List Value),e=.returned (.tuple #[])∧A'=[(1,bE f 77 z)]∧aX K z y) (fun u=>.iface 155 (.agg #[.int .i64 u])) [(1,bE f 77 n)] r)):=by
 obtain ⟨t,rfl,c⟩:=au;refine cV (M:=M) func87 J ntmps87 J b ?_;obtain ⟨x3,d,q⟩:=L hr;obtain ⟨p6,rfl⟩:=k.adr d;have p:=k.atF d;obtain ⟨x0,F,h6⟩:=L q;have h7:=k.atF F;obtain ⟨x1,G,h8⟩:=L h6;have h9:=k.atF G;refine eH 12 mixed (by kernel_rfl) J (dC J (dC J (E J (cP eO Z3 J J J J (aT d) aG) (E J (aR G3 J (P 1 J p) J aG) (dC J (E J (cP eO Z3 J J J J (aT F) aG) (E J (aR G3 J (P 1 J h7) J aG) (dC J (dC J (E J (cP eO Z3 J J J J (aT G) aG) (E J (aR G3 J (P 1 J h9) J aG) ?_)))))))))));refine E J (bu T12.B119 J J J aG) (DF.nil fun aa hF=>?_);obtain ⟨r0,R,Y⟩:=L h8
 let h:aM:=[(1,bE f 77 (cO g.state t))]
 rcases r0 with l|l
 ·refine qP h (B:=([]++σr)) J BC J J J J (fun w V b le=>BQ g ⟨t,J,{c.mono le.i with f0:=(c.f0.mono (bW.mono) le.i)}⟩ (⟨x3,0,2,x0,text,x1⟩:aL) J R b) ?_;rintro e_ ad A_ a w ⟨c0,rfl,rfl,Z⟩ b j;refine wD (fB J j b ?_);have hC:=Z;obtain ⟨s,rfl,h5⟩:=Z;refine N (TG.pack (fun K=>aX K (cO l.state s) l) (fun H le=>⟨s,J,{h5.mono le.o with f0:=(h5.f0.mono (bW.mono) le.o)}⟩) fun m hB=>?_);cases Y;intro a w b j;refine eF j J ?_;exact ⟨m,[(1,bE f 77 (cO l.state s))],b.selH [0,3] J,_,J,J,hB⟩
 refine qP h (B:=([]++σr)) J BC J J J J (fun w V b le=>BQ g ⟨t,J,{c.mono le.i with f0:=(c.f0.mono (bW.mono) le.i)}⟩ (⟨x3,0,2,x0,text,x1⟩:aL) J R b) ?_;rintro e_ af A_ a w ⟨rfl,rfl⟩ b j;refine QR ?_;cases Y;exact ⟨j.defers,V,[_],b.selH [2,2] J,J,J⟩

theorem w25 (o:H.le (hp W)) {cn:List Value} (g:bD) (cz:(bV) H cn g) {s:Option Addr} {q:Nat} {errata:List aL} (cl:Sl (I U) 6 H s q errata) (anchor:Int) (n:Int) {r:aE×Bool×Int} (hr:CC g errata anchor n=some r):Calls prog 25 #[.agg cn.toArray,.slice s errata.length q,.int .i64 anchor,.int .i64 n] W (bJ M W (.tuple #[.string (bs r.1),.bool r.2.1,.int .i64 r.2.2])):=by
 have c:=cz;obtain ⟨R,t,rfl,bl⟩:=cz;refine aK (M:=M) func25 J ntmps25 J o ?_;refine C (bI J J J fun q4 K x=>(a1 J (a1 J (D J (sq (C (cM oC jM J J (P 0 J x) J (A J ?_))))))));obtain ⟨r7,a9,y⟩:=L hr;refine bB C22 J (fun w H o le=>w22 o g (bV.mono _ _ _ _ le.i c) (cl.mono (I.mono _) le.i) a9) (D J (C (A J (nI J J J (N ?_)))));refine ci J (fun Y=>?_) (fun Y=>?_)
 ·have hW:=aJ Y y;refine C (A J (a1 J (a1 J (D J (bH ?_)))));cases hW;exact WX J J J J
 have hX:=aS Y y;refine sk (sq (C (A J ?_)));obtain ⟨r0,aa,hI⟩:=L hX;refine bB UZ J (fun w H o le=>VE n aa) (nt J J (N ?_));refine cb J (fun h0=>?_) (fun h0=>?_)
 ·replace h0:=oI h0
  have ab:=bK h0 hI;refine C (a1 J (a1 J (D J (bH ?_))));cases ab;exact WX J J J J
 replace h0:=oJ h0
 have ac:=aJ h0 hI;refine sk (C (cM oC jM J J (P 0 J x) J (A J (A J ?_))));obtain ⟨r1,ad,ae⟩:=L ac;refine gW C44 J J J J (fun w H o le=>w44 o g (bV.mono _ _ _ _ le.i c) (cl.mono (I.mono _) le.i) n ad) ?_;rintro v_ h ⟨p,c2,rfl,hJ,hK⟩;have bj:=hK;obtain ⟨a0,c3,a2,c0,rfl,bd,u⟩:=hK;have:=u.len;refine D J (C (A J (A J ?_)));obtain ⟨b,af,hL⟩:=L ae
 let l:List Value:=[.int .i64 (b.2.1:Int),.int .i64 (b.1:Int),.bool b.2.2]
 refine wP C48 func48 J ntmps48 J J J J (fun v w=>(v=.tuple l.toArray∧St M W H [h,K,H] [] w)) ?_ ?_
 ·refine C (a1 J (a1 J (D J (sc (sq (lb (sq (C ?_))))))));refine A J (nl J J (aU 5 pR J oX (aR qW J ((P 0 J hJ).drop 5) J (dU mQ J J (A J (N ?_))))));obtain ⟨m,ag,ah⟩:=L af;refine jn (SJ M W H [h,K,H] [] 40 [(4,.int .i64 (m.1:Int)),(5,.int .i64 (m.2.1:Int)),(6,.bool m.2.2)]) ?_ ?_
  ·refine bk ?_;refine jO [1,14,15] J ag (fun z B=>(4,.int .i64 (B.1:Int))::(5,.int .i64 (B.2.1:Int))::(6,.bool B.2.2.2)::(16,.int .i64 (B.2.2.1:Int))::z) ?_ ?_
   ·exact cuE J
   intro j B y0 hM Z;refine C (dS J J J (N (sq ?_)));refine ci J (fun h5=>?_) (fun h5=>?_)
   ·have ai:=aJ h5 hM;refine sk (sq (bk (C (A J ?_))));obtain ⟨x2,h6,aj⟩:=L ai;obtain ⟨p2,rfl⟩:=u.adr h6;obtain ⟨c4,be,ak,hN⟩:=u.at h6;have bf:=hN;obtain ⟨a3,c5,rfl,h7⟩:=hN;have:=h7.len;refine cP mQ qX J J J J (aT h6) (aR tM J (P 0 J ak) J (a1 J (D J (C (A J (dU oY J J (A J (N ?_))))))));obtain ⟨V,am,hO⟩:=L aj;refine gG [1,14,15,16] J (fun z a w=>∃ G,V=.inl G∧SJ M W H [h,K,H] [] 40 ((4,.int .i64 (G.1:Int))::(5,.int .i64 (G.2.1:Int))::(6,.bool G.2.2)::z) a w) ?_ ?_
    ·refine bk ?_;refine jO [1,7,14,15,16,21,22] J am (fun z F=>(4,.int .i64 (F.1:Int))::(5,.int .i64 (F.2.1:Int))::(6,.bool F.2.2.2)::(23,.int .i64 (F.2.2.1:Int))::z) ?_ ?_
     ·exact cuE J
     intro j F y1 hP h8;refine C (dS J J J (N (sq ?_)));refine ci J (fun h9=>?_) (fun h9=>?_)
     ·have an:=aJ h9 hP;refine sk (sq (bk (C (A J ?_))));obtain ⟨x3,hB,hR⟩:=L an;obtain ⟨p3,rfl⟩:=h7.adr hB;have ao:=h7.atF hB;refine cP oY kI J J J J (aT hB) (cM BG kI J J (P 0 J ao) J (al 1 zeroValue130 J J fun b0=>(a1 J (eQ 1 kI J J J J J J J (N (C (aU 0 oZ J lO (aU 0 yK J Z3 (aR G3 J ((sO 1 J).take 1) J (A J ?_))))))))));refine fZ J J J (N ?_);refine ci J (fun hC=>?_) (fun hC=>?_)
      ·have aq:=aJ hC hR;refine C (A J (A J (a1 J (a1 J (D J (xt J ?_))))));obtain ⟨z0,ar,rfl⟩:=kQ aq;obtain rfl:=dF.out h8;cases hO;refine TG.del 1 ?_;cases ar;obtain rfl:=dF.out Z;exact cuE J
      have au:=aS hC hR;refine sk (rg (dN J J J (by omega) (A J (N (TG.del 1 ?_)))));cases au;intro a w e d;exact ⟨_,h8,e,d.cuE J⟩
     have aw:=aS h9 hP;refine xt J ?_;cases aw;obtain rfl:=dF.out h8;intro a w e d;exact ⟨_,J,e,d.cuE J⟩
    rintro a w ⟨G,rfl,e,d⟩;apply TG.ap ?_ e d;refine rg (dN J J J (by omega) (A J (N ?_)));cases hO;intro a w e d;exact ⟨_,Z,e,d.cuE J⟩
   have ax:=aS h5 hM;refine xt J ?_;cases ax;obtain rfl:=dF.out Z;exact cuE J
  rintro a w ⟨e,d⟩;apply TG.ap ?_ e d;refine C (A J (A J (A J (a1 J (a1 J (D J (bH ?_)))))));cases ah;intro a w e d;refine PR d J J J J ?_;exact ⟨_,J,⟨J,e⟩⟩
 rintro a w v d (⟨rfl,e⟩);refine fB J d e (A J (ex J J J (ex J J J (ex J J J (a1 J (a1 J (D J (sq (C ?_)))))))));refine A J (nt J J (N ?_));refine cb J (fun h1=>?_) (fun h1=>?_)
 ·replace h1:=oI h1
  have ay:=bK h1 hL;refine C (a1 J (a1 J (D J (bH ?_))));cases ay;exact WX J J J J
 replace h1:=oJ h1
 have az:=aJ h1 hL;refine sk (C (A J (nl J J (aU 5 pR J oX (aR qW J ((P 0 J hJ).drop 5) J (A J ?_))))));obtain ⟨x1,hE,a5⟩:=L az;obtain ⟨p0,rfl⟩:=u.adr hE;obtain ⟨c6,bg,a6,hT⟩:=u.at hE;have bh:=hT;obtain ⟨a4,c1,rfl,hV⟩:=hT;refine cP mQ qX J J J J (aT hE) (aR tM J (P 0 J a6) J (A J ?_));obtain ⟨x0,hG,a7⟩:=L a5;obtain ⟨p1,rfl⟩:=hV.adr hG;have a8:=hV.atF hG;refine cP oY kI J J J J (aT hG) (cM BG kI J J (P 0 J a8) J (va zeroValue130 kI J J J J J J J J fun q1 bb f=>(N (sq ?_))))
 let k:List Value:=[.int .i64 g.number,.int .i64 g.bound,.int .i64 g.height,.int .i64 g.width,.slice R g.parts.length t]
 refine TG.cut (L':=[(0,.agg k.toArray),(1,.slice s errata.length q),(2,.int .i64 anchor),(3,.int .i64 n),(4,.pointer (some q4)),(9,.bool false),(10,.int .i64 0),(11,.int .i64 r7),(12,.pointer (some p)),(13,.int .i64 (b.2.1:Int)),(14,.int .i64 (b.1:Int)),(15,.bool b.2.2),(16,.pointer (some q1)),(17,.agg k.toArray),(18,.slice s errata.length q),(19,.int .i64 r7),(20,.int .i64 r7),(21,.bool (decide (r7≠0))),(23,.int .i64 n),(24,.bool r0),(25,.bool (!r0)),(26,.agg k.toArray),(27,.slice s errata.length q),(28,.int .i64 n),(29,.pointer (some p)),(30,.tuple l.toArray),(31,.pointer (some p)),(32,.int .i64 anchor),(33,.tuple l.toArray),(34,.int .i64 (b.2.1:Int)),(35,.int .i64 (b.1:Int)),(36,.bool b.2.2),(37,.bool b.2.2),(38,.bool (!b.2.2)),(39,.pointer (some p)),(40,.pointer (some p)),(41,.pointer (some (p.add 5))),(42,.slice (some p0) r1.parts.length c0),(43,.int .i64 (b.2.1:Int)),(44,.pointer (some (p0.add (b.2.1*1)))),(45,.slice (some p1) x1.length c1),(46,.int .i64 (b.1:Int)),(47,.pointer (some (p1.add (b.1*3)))),(48,.agg #[.int .i64 x0.paragraph.anchor,.string (bs x0.paragraph.text),.bool x0.removed])]) ⟨J,J,J,J,J,J,J,J,J,J,J,J,J,J,J,J,J,J,J,J,J,J,J,J,J,J,J,J,J,J,J,J,J,J,J,J,J,J,J,J,J,J,J,J,tv⟩ ?_;refine eH 6 mixed (by kernel_rfl) J (E J (aU 0 oZ J lO aG) (E J (aU 1 yK J Z9 aG) (E J (aR G9 J (((P 1 J f).drop 1).take 1) J aG) (E J (aU 2 oZ J Z4 aG) (E J (aR G4 J ((P 1 J f).drop 2) J aG) (E J (a1 J aG) (DF.nil fun bc hF=>(a1 J (D J (bH ?_))))))))));cases a7;exact WX J J J J

theorem w23 (hH:H.le (hp W)) {cn:List Value} (f:bD) (cz:(bV) H cn f) {bw:Option Addr} {bi:Nat} {errata:List aL} (cl:Sl (I U) 6 H bw bi errata) {r:List dH} (hr:RO f errata=some r):Calls prog 23 #[.agg cn.toArray,.slice bw errata.length bi] W (eY M H W (fun v K=>∃ (F:Option Addr) (o:Nat),v=.slice F r.length o∧Sl (I eW) 6 K F o r)):=by
 have n:=cz;obtain ⟨b5,b2,rfl,Y⟩:=cz;refine aK (M:=M) func23 J ntmps23 J hH ?_;refine C (bI J J J fun q4 x e=>(D J (C (cM oC jM J J (P 0 J e) J (A J (aU 1 pK J Z3 (aR G3 J (((P 0 J e).drop 1).take 1) J ?_)))))));obtain ⟨r7,b1,b0⟩:=L hr;refine gW C44 J J J J (fun w H hH le=>w44 hH f (bV.mono _ _ _ _ le.i n) (cl.mono (I.mono _) le.i) f.bound b1) ?_;rintro v_ h ⟨q1,c6,rfl,hK,h8⟩;have b8:=h8;obtain ⟨a7,c7,a8,c8,rfl,b9,h0⟩:=h8;have:=h0.len;refine D J (C (D J (sq (C (A J (nl J J (aU 5 pR J oX ?_)))))));refine aR qW J ((P 0 J hK).drop 5) J (dU mQ J J (A J (N (TG.nilRow 2 82 6 (TG.as 2 (z:=S.list none 0 82 6 eW ([]:List dH)) J J ?_)))));obtain ⟨V,hL,hM⟩:=L b0;refine jn (fun a w=>∃ (a5:Option Addr) (c4:Nat),SJ M W H [h,x,H] [(2,S.list a5 c4 82 6 eW V)] 93 [(4,.slice a5 V.length c4)] a w) ?_ ?_
 ·refine bk ?_;refine jZ [2,22,23] J hL (fun t p a w=>∃ (y:Option Addr) (G:Nat),SJ M W H [h,x,H] [(2,S.list y G 82 6 eW p.2.2)] 93 ((4,.slice y p.2.2.length G)::(6,.int .i64 p.2.1)::(24,.int .i64 (p.1:Int))::t) a w) ?_ ?_
  ·intro a w b c;exact ⟨none,0,b,c.cuE J⟩
  rintro j p y0 h9 hB a w ⟨y,G,b,c⟩;refine TG.ap ?_ b c;refine C (dS J J J (N (sq ?_)));refine ci J (fun h1=>?_) (fun h1=>?_)
  ·have hN:=aJ h1 h9;refine sk (sq (bk (C (A J ?_))));obtain ⟨x2,h2,hO⟩:=L hN;obtain ⟨p0,rfl⟩:=h0.adr h2;obtain ⟨c9,ca,hP,hC⟩:=h0.at h2;have cc:=hC;obtain ⟨a9,cR,rfl,h3⟩:=hC;have:=h3.len;refine cP mQ qX J J J J (aT h2) (aR tM J (P 0 J hP) J (a1 J (D J (C (a1 J (D J (sq (sq ?_))))))));refine rg (A J (dU oY J J (A J (N ?_))));obtain ⟨s,hR,hT⟩:=L hO;refine gG [2,6,22,23,24] J (fun t a w=>∃ (Z:Option Addr) (c2:Nat),SJ M W H [h,x,H] [(2,S.list Z c2 82 6 eW s.2)] 93 ((4,.slice Z s.2.length c2)::(9,.int .i64 s.1)::t) a w) ?_ ?_
   ·refine bk ?_;refine jZ [2,6,7,22,23,24,29,30] J hR (fun t g a w=>∃ (B:Option Addr) (R:Nat),SJ M W H [h,x,H] [(2,S.list B R 82 6 eW g.2.2.2)] 93 ((4,.slice B g.2.2.2.length R)::(9,.int .i64 g.2.2.1)::(10,.int .i64 (g.1:Int))::(31,.int .i64 (g.2.1:Int))::t) a w) ?_ ?_
    ·intro a w b c;exact ⟨y,G,b,c.cuE J⟩
    rintro j g y1 hE hG a w ⟨B,R,b,c⟩;refine TG.ap ?_ b c;refine C (dS J J J (N (sq ?_)));refine ci J (fun h4=>?_) (fun h4=>?_)
    ·have hV:=aJ h4 hE;refine sk (sq ?_);obtain ⟨t0,hW,hX⟩:=L hV;refine gG [2,6,7,22,23,24,29,30,31] J (fun t a w=>∃ (a4:Option Addr) (c3:Nat),SJ M W H [h,x,H] [(2,S.list a4 c3 82 6 eW t0.2.2)] 93 ((4,.slice a4 t0.2.2.length c3)::(9,.int .i64 t0.2.1)::(10,.int .i64 (t0.1:Int))::t) a w) ?_ ?_
     ·refine bk (C ?_);obtain ⟨u,h5,hI⟩:=L hW;obtain ⟨p1,rfl⟩:=h3.adr h5;have ac:=h3.atF h5;refine cP oY kI J J J J (aT h5) (cM BG kI J J (P 0 J ac) J (va zeroValue130 kI J J J J J J J J fun q2 aa d=>(N (sq (C (aU 2 oZ J Z4 (aR G4 J ((P 0 J d).drop 2) J (N ?_))))))));refine cb J (fun h6=>?_) (fun h6=>?_)
      ·have ae:=aJ h6 hI;refine xt J ?_;cases ae;intro a w b c;exact ⟨B,R,b.selH [1,2,3] J,c.cuE J⟩
      have ag:=bK h6 hI;refine sk (C (A J ?_));obtain ⟨ai,ak⟩:=aF ag;refine dN J J J ai (D J (C (aU 0 oZ J lO (aU 1 yK J Z9 (aR G9 J (((P 0 J d).drop 1).take 1) J (uL U9 J J (aU 3 pK J Z3 (aR G3 J (((P 2 J e).drop 3).take 1) J ?_))))))));obtain ⟨an,aq⟩:=aF ak;refine dN J J J an ?_;obtain ⟨au,ax⟩:=aF aq;refine qH J J J au (aU 3 pK J Z3 (aR G3 J (((P 2 J e).drop 3).take 1) J ?_));obtain ⟨az,bc⟩:=aF ax;refine QH J J J az (D J (sq ?_));obtain ⟨be,bg⟩:=aF bc;obtain ⟨bh,bj⟩:=aF bg;obtain ⟨bl,bm⟩:=aF bj;obtain ⟨bn,bo⟩:=aF bm;obtain ⟨x1,h7,bp⟩:=L bo;obtain ⟨p2,rfl⟩:=Y.adr h7;obtain ⟨cS,cd,bq,hJ⟩:=Y.at h7;have ce:=hJ;obtain ⟨b3,b6,rfl,cf⟩:=hJ;refine eH 26 mixed (by kernel_rfl) J (dC J (E J (aU 0 oZ J lO aG) (E J (aU 0 yK J Z3 aG) (E J (aR G3 J ((P 1 J d).take 1) J aG) (dC J (dC J (E J (aU 2 pK J Z3 aG) (E J (aR G3 J (((P 3 J e).drop 2).take 1) J aG) (E J (QH J J J be aG) (E J (dN J J J bh aG) (dC J ?_)))))))))));refine E J (aU 2 pK J Z3 aG) (E J (aR G3 J (((P 3 J e).drop 2).take 1) J aG) (E J (VV J J J bl aG) (E J (dN J J J bn aG) (dC J (E J (bu T12.B51 J J J aG) (E J (aU 4 pK J CE aG) (E J (aR IQ J ((P 3 J e).drop 4) J aG) (dC J (E J (cP AB nW J J J J (aT h7) aG) (E J (aU 0 rP J Z3 aG) (E J (aR G3 J ((P 4 J bq).take 1) J aG) ?_)))))))))));refine dC J (E J (bu T12.B82 J J J aG) ?_)
      refine uS 1 (I eW) 6 ([(⟨(⟨u.paragraph.anchor,(p.2.1+(g.2.2.1/f.height)),((g.2.2.1%f.height)+1),((((u.paragraph.text.length:Int)+f.width)-1)/f.width)⟩:sG),x1.day,((g.1:Int)+1)⟩:dH)]:List dH) (I.mono _) J (bS T12.E79 J J J J fun q0 q br k=>by
        have bt:Sl (I eW) 6 q (some q0) 1 ([(⟨(⟨u.paragraph.anchor,(p.2.1+(g.2.2.1/f.height)),((g.2.2.1%f.height)+1),((((u.paragraph.text.length:Int)+f.width)-1)/f.width)⟩:sG),x1.day,((g.1:Int)+1)⟩:dH)]:List dH):=Sl.litF (fun _=>J) (fun _=>J) br k J J J
        exact rJ (I.mono _) bt) fun b4 b7=>?_
      refine DF.nil fun ab hF=>?_;obtain ⟨bv,_⟩:=hF;obtain ⟨bx,bz⟩:=aF bp;refine rD 2 (enc:=eW) (l:=g.2.2.2) (m:=([(⟨(⟨u.paragraph.anchor,(p.2.1+(g.2.2.1/f.height)),((g.2.2.1%f.height)+1),((((u.paragraph.text.length:Int)+f.width)-1)/f.width)⟩:sG),x1.day,((g.1:Int)+1)⟩:dH)]:List dH)) T12.E79 J J J J J J bv 0 J (fun _=>J) (fun _=>J) J bx fun a6 c5=>(D J (rg (A J (A J ?_))));obtain ⟨ad,af⟩:=aF bz;refine dN J J J ad (D J ?_);cases af;intro a w b c;exact ⟨a6,c5,b.selH [2,3,4] J,c.cuE J⟩
     rintro a w ⟨a4,c3,b,c⟩;refine TG.ap ?_ b c;refine rg (dN J J J (by omega) (A J (N ?_)));cases hX;intro a w b c;exact ⟨_,hG,a4,c3,b,c.cuE J⟩
    have ah:=aS h4 hE;refine xt J ?_;cases ah;obtain rfl:=dF.out hG;intro a w b c;exact ⟨B,R,b,c.cuE J⟩
   rintro a w ⟨Z,c2,b,c⟩;apply TG.ap ?_ b c;refine rg (A J (A J (aU 2 pK J Z3 (aR G3 J (((P 1 J e).drop 2).take 1) J ?_))));obtain ⟨aj,am⟩:=aF hT;refine dN J J J aj ?_;obtain ⟨ao,ar⟩:=aF am;refine qH J J J ao (aU 2 pK J Z3 (aR G3 J (((P 1 J e).drop 2).take 1) J ?_));obtain ⟨aw,ay⟩:=aF ar;refine QH J J J aw ?_;obtain ⟨bb,bd⟩:=aF ay;refine dN J J J bb (D J (rg (dN J J J (by omega) (A J (N ?_)))));cases bd;intro a w b c;exact ⟨_,hB,Z,c2,b,c.cuE J⟩
  have bf:=aS h1 h9;refine xt J ?_;cases bf;obtain rfl:=dF.out hB;intro a w b c;exact ⟨y,G,b,c.cuE J⟩
 rintro a w ⟨a5,c4,b,c⟩;apply TG.ap ?_ b c;refine C (A J (D J (bH ?_)));cases hM;intro a w b c;refine dT c J J ?_;exact ⟨⟨_,_,J,(b.listOut 2 J (fun _=>J))⟩,b.ext⟩

theorem aHw (d:H.le (hp W)) (hg:Gv M H) {cn:List Value} (g:bD) (cz:(bV) H cn g) {bw:Option Addr} {bi:Nat} {errata:List aL} (V:Sl (I U) 6 H bw bi errata) (anchor:Int) (style:Int) (m:Int) {r:aE×Int} (hr:xJ g errata anchor style m=some r):Calls prog 133 #[.agg cn.toArray,.slice bw errata.length bi,.int .i64 anchor,.int .u8 style,.int .i64 m] W (bJ M W (.tuple #[.string (bs r.1),.int .i64 r.2])):=by
 have c:=cz;obtain ⟨bc,bb,rfl,bd⟩:=cz;refine aK (M:=M) func133 J ntmps133 J d ?_;refine C (bI J J J fun q4 K5 h=>(a1 J (D J (sq (C (cM oC jM J J (P 0 J h) J (A J ?_)))))));obtain ⟨r7,a8,F⟩:=L hr;refine bB C22 J (fun w H d le=>w22 d g (bV.mono _ _ _ _ le.i c) (V.mono (I.mono _) le.i) a8) (D J (C (A J (nI J J J (N ?_)))));refine ci J (fun Z=>?_) (fun Z=>?_)
 ·have hO:=aJ Z F;refine C (A J (a1 J (D J (bH ?_))));cases hO;exact qS J J J
 have hP:=aS Z F;refine sk (sq (sq ?_));obtain ⟨t25,hF,hG⟩:=L hP;refine eU [1,2,3,4,5] [(34,.bool t25)] J ?_ ?_
 ·refine rg (A J (lL J J J (A J ?_)));by_cases e:2<style
  ·have hR:=aJ e hF;refine cC 3 J J J (decide_eq_true e) J (gU J J J (gU J J J (gU J J J (BZ e J (pt e J J (N ?_))))));cases hR;exact cuE J
  have hI:=aS e hF;refine dJ e J (A J (dJ e J (fZ J J J (dJ e J (A J ?_)))));by_cases k:style=2
  ·have hT:=aJ k hI;refine gt k J (A J (gt k J ?_));obtain ⟨r0,hV,hW⟩:=L hT;refine bB UZ J (fun w H d le=>VE m hV) (gt k J (nt J J (dJ e J (pt k J J (pf e J J (N ?_))))));cases hW;exact cuE J
  have hX:=aS k hI;refine cC 3 J J J (decide_eq_false k) J (dJ e J (pf k J J (pf e J J (N ?_))));cases hX;exact cuE J
 refine cb J (fun h4=>?_) (fun h4=>?_)
 ·have aa:=aJ h4 hG;refine C (a1 J (D J (bH ?_)));cases aa;exact qS J J J
 have hJ:=bK h4 hG;refine sk (sq (C (A J (fZ J J J (N ?_)))));refine ci J (fun h5=>?_) (fun h5=>?_)
 ·have ac:=aJ h5 hJ;refine sq (C (cM oC jM J J (P 0 J h) J (A J (A J (A J ?_)))));obtain ⟨r1,ad,hK⟩:=L ac;refine bB C25 J (fun w H d le=>w25 d g (bV.mono _ _ _ _ le.i c) (V.mono (I.mono _) le.i) anchor m ad) (A J (ex J J J (ex J J J (ex J J J (a1 J (a1 J (D J (C (A J ?_)))))))));refine nI J J J (N ?_);refine ci J (fun h6=>?_) (fun h6=>?_)
  ·have ae:=aJ h6 hK;refine C (A J (a1 J (D J (bH ?_))));cases ae;exact qS J J J
  have af:=aS h6 hK;refine sk (C (A J (fi U3 J J J (fi U9 J J J (A J (fi U3 J J J (bS T12.E326 J J J J fun q0 K ag z=>?_)))))));have ah:Sl (I qO) 1 K (some q0) 3 ([(.i anchor:Any),(.s [64]:Any),(.i m:Any)]:List Any):=Sl.litR (css:=[[.iface 3 (.int .i64 anchor)],[.iface 9 (.string (bs [64]))],[.iface 3 (.int .i64 m)]]) (l:=([(.i anchor:Any),(.s [64]:Any),(.i m:Any)]:List Any)) ⟨⟨J,J,J⟩,⟨J,J,J⟩,⟨J,J,J⟩,tv⟩ ag z J;obtain ⟨r2,ai,aj⟩:=L af;refine bB TB J (fun w H d le=>QV d (hg.mono le.u) (ah.mono (I.mono _) le.o) ai) (a1 J (D J (bH ?_)));cases aj;exact qS J J J
 have ak:=aS h5 hJ;refine sk (sq (C (cM oC jM J J (P 0 J h) J (A J ?_))));obtain ⟨r3,am,an⟩:=L ak;refine gW C23 J J J J (fun w H d le=>w23 d g (bV.mono _ _ _ _ le.i c) (V.mono (I.mono _) le.i) am) ?_;rintro v_ R ⟨a0,c0,rfl,h7⟩;have:=h7.len;refine dU U79 J J (A J (N ?_));obtain ⟨Y,ao,h8⟩:=L an;refine jn (fun a w=>∃ t0,Y=.inl t0∧SJ M W H [R,K5,H] [] 104 [] a w) ?_ ?_
 ·refine bk ?_;refine jO [2,3,5,58,59] J ao (fun l_ s1=>(60,.int .i64 (s1:Int))::l_) ?_ ?_
  ·exact cuE J
  intro j s1 y0 hL G;refine C (dS J J J (N (sq ?_)));refine ci J (fun h9=>?_) (fun h9=>?_)
  ·have aq:=aJ h9 hL;refine sk (sq (bk (C ?_)));obtain ⟨f,hB,hM⟩:=L aq;obtain ⟨p0,rfl⟩:=h7.adr hB;have ar:=h7.atF hB;refine cP U79 Z82 J J J J (aT hB) (cM G82 Z82 J J (P 0 J ar) J (va zeroValue82 Z82 J J J J J J J J fun q3 a9 b=>(N (bk (C (aU 0 YZ J Z51 (aU 0 U51 J Z3 (aR G3 J ((P 0 J b).take 1) J (A J (nI J J J ?_))))))))));refine D J ?_;refine ci J (fun hC=>?_) (fun hC=>?_)
   ·have au:=aJ hC hM;refine sk (rg (dN J J J (by omega) (A J (N ?_))));cases au;intro a w B y;exact ⟨_,G,B.selH [1,2,3] J,y.cuE J⟩
   have hN:=aS hC hM;refine C (A J (fZ J J J (D J ?_)))
   let v:List Value:=[.iface 9 (.string (bs [118,111,108,46,32]))]
   refine ci J (fun hE=>?_) (fun hE=>?_)
   ·have aw:=aJ hE hN;refine C (fi U9 J J J (aU 0 pK J Z3 (aR G3 J ((P 2 J h).take 1) J (fi U3 J J J (fi U9 J J J (aU 0 YZ J Z51 (aU 1 U51 J Z3 (aR G3 J (((P 0 J b).drop 1).take 1) J (fi U3 J J J (fi U9 J J J ?_))))))))));refine aU 0 YZ J Z51 (aU 2 U51 J Z3 (aR G3 J (((P 0 J b).drop 2).take 1) J (fi U3 J J J (bS T12.E326 J J J J fun q1 q ax n=>?_))));have ay:Sl (I qO) 1 q (some q1) 6 ([(.s [118,111,108,46,32]:Any),(.i g.number:Any),(.s [44,32,99,111,108,46,32]:Any),(.i f.place.column:Any),(.s [44,32,108,46,32]:Any),(.i f.place.line:Any)]:List Any):=Sl.litR (css:=[v,[.iface 3 (.int .i64 g.number)],[.iface 9 (.string (bs [44,32,99,111,108,46,32]))],[.iface 3 (.int .i64 f.place.column)],[.iface 9 (.string (bs [44,32,108,46,32]))],[.iface 3 (.int .i64 f.place.line)]]) (l:=([(.s [118,111,108,46,32]:Any),(.i g.number:Any),(.s [44,32,99,111,108,46,32]:Any),(.i f.place.column:Any),(.s [44,32,108,46,32]:Any),(.i f.place.line:Any)]:List Any)) ⟨⟨J,J,J⟩,⟨J,J,J⟩,⟨J,J,J⟩,⟨J,J,J⟩,⟨J,J,J⟩,⟨J,J,J⟩,tv⟩ ax n J;obtain ⟨r4,az,a2⟩:=L aw;refine bB TB J (fun w H d le=>QV d (hg.mono le.x) (ay.mono (I.mono _) le.o) az) (a1 J (D J (bH ?_)));cases a2;obtain rfl:=dF.out G;cases h8;exact qS J J J
   have a3:=aS hE hN;refine C (fi U9 J J J (aU 0 pK J Z3 (aR G3 J ((P 2 J h).take 1) J (fi U3 J J J (fi U9 J J J (aU 4 YZ J Z3 (aR G3 J (((P 0 J b).drop 4).take 1) J (fi U3 J J J (fi U9 J J J (aU 5 YZ J Z3 ?_))))))))));refine aR G3 J ((P 0 J b).drop 5) J (fi U3 J J J (bS T12.E326 J J J J fun q2 t a4 p=>?_));have a5:Sl (I qO) 1 t (some q2) 6 ([(.s [118,111,108,46,32]:Any),(.i g.number:Any),(.s [44,32]:Any),(.i f.day:Any),(.s [44,32,112,97,114,46,32]:Any),(.i f.number:Any)]:List Any):=Sl.litR (css:=[v,[.iface 3 (.int .i64 g.number)],[.iface 9 (.string (bs [44,32]))],[.iface 3 (.int .i64 f.day)],[.iface 9 (.string (bs [44,32,112,97,114,46,32]))],[.iface 3 (.int .i64 f.number)]]) (l:=([(.s [118,111,108,46,32]:Any),(.i g.number:Any),(.s [44,32]:Any),(.i f.day:Any),(.s [44,32,112,97,114,46,32]:Any),(.i f.number:Any)]:List Any)) ⟨⟨J,J,J⟩,⟨J,J,J⟩,⟨J,J,J⟩,⟨J,J,J⟩,⟨J,J,J⟩,⟨J,J,J⟩,tv⟩ a4 p J;obtain ⟨r5,a6,a7⟩:=L a3;refine bB TB J (fun w H d le=>QV d (hg.mono le.x) (a5.mono (I.mono _) le.o) a6) (a1 J (D J (bH ?_)));cases a7;obtain rfl:=dF.out G;cases h8;exact qS J J J
  have ab:=aS h9 hL;refine xt J ?_;cases ab;obtain rfl:=dF.out G;intro a w B y;exact ⟨_,J,B,y.cut tv⟩
 rintro a w ⟨t0,rfl,B,y⟩;apply TG.ap ?_ B y;refine C (a1 J (D J (bH ?_)));cases h8;exact qS J J J

theorem aHx {M:Prop} {W w:World} {H V:Hp} {σr:aM} {n:Option Addr} {k:Nat} {ai:List aE} (o:Sl (I bY) 1 V n k ai) {r:List aE} (p:RP ai=some r) (c:St M W H [V] σr w):Calls prog 183 #[.slice n ai.length k] w (fI M W H V σr (fun e K q=>∃ (ad:Option Addr) (cap:Nat),e=.returned (.slice ad r.length cap)∧q=[(1,S.list ad cap 9 1 bY r)])):=by
 refine cV (M:=M) func183 J ntmps183 J c ?_;refine C (D J (sq (C (A J (JO kZ J J (N ?_))))));refine cb J (fun d=>?_) (fun d=>?_)
 ·obtain rfl:=Sl.isNil o d;have i:=(aF p).2;refine C (D J (bH (TG.nilRow 1 9 1 ?_)));cases i;intro a w c g;refine dT g J J ?_;exact ⟨_,[(1,S.list none 0 9 1 bY ([]:List aE))],c.selH [0,0] J,_,_,J,J⟩
 refine sk (C (CY 1 bY ([]:List aE) (cs:=[]) T12.E22 J J J J J J fun s=>(A J ?_)));obtain ⟨h,j⟩:=aF p;refine rD 1 (enc:=bY) (l:=([]:List aE)) (m:=ai) T12.E22 J J J J J J o 0 J (fun _=>J) (fun _=>J) J h fun f b=>(D J (bH ?_));cases j;intro a w c g;refine dT g J J ?_;exact ⟨_,[(1,S.list f b 9 1 bY (([]:List aE)++ai))],c.selH [0,0] J,_,_,J,J⟩

theorem aHy (u:H.le (hp W)) {k:Option Addr} {j:Nat} {bj:List aE} (s:Sl (I bY) 1 H k j bj) (e:aE) {r:List aE} (x:KO bj e=some r):Calls prog 134 #[.slice k bj.length j,.string (bs e)] W (eY M H W (fun v K=>∃ (c:Option Addr) (b:Nat),v=.slice c r.length b∧Sl (I bY) 1 K c b r)):=by
 refine aK (M:=M) func134 J ntmps134 J u ?_;refine C (D J (C (A J ?_)));obtain ⟨y,i,g⟩:=L x;refine wY 1 aD5 J J J J (fun w V σr d le=>aHx (ai:=bj) (s.mono (I.mono _) le.o) i d) fun p m=>(TG.len 1 J fun _=>(A J ?_));obtain ⟨f,h⟩:=aF g;refine wO 1 bY (l:=y) e T12.E22 J J J J J J J J J J J J f fun q n z=>(D J (bH ?_));cases h;intro a w d t;refine dT t J J ?_;exact ⟨⟨_,_,J,(d.listOut 1 J (fun _=>J))⟩,d.ext⟩

theorem w88 {M:Prop} {W w:World} {H V:Hp} {σr:aM} (hg:Gv M V) {j:Nat} {p:List Value} (g:aI) (au:aX V p g) {x:Option Addr} {v:Nat} {bz:List Int} (q:Sl (I (bP .i64)) 1 V x v bz) (B:aE) {r:aI⊕Int} (hr:KP g bz B=some r) (c:St M W H [V] ((1,bE j 77 p)::σr) w):Calls prog 88 #[.pointer (some ⟨j,0,none⟩),.slice x bz.length v,.string (bs B)] w (fI M W H V σr (sC (fun y e K A'=>∃ (F:List Value),e=.returned (.tuple #[])∧A'=[(1,bE j 77 F)]∧aX K F y) (fun u=>.iface 155 (.agg #[.int .i64 u])) [(1,bE j 77 p)] r)):=by
 obtain ⟨z1,rfl,f⟩:=au;refine cV (M:=M) func88 J ntmps88 J c ?_;refine C (A J (nl J J (aU 0 fD J eT (aU 7 eX J Z4 (aR G4 J (((sO 1 J).drop 7).take 1) J ?_)))));obtain ⟨r3,m,l⟩:=L hr;rcases r3 with y6|y6
 ·refine bB fG J (fun w H b le=>iX (fH g.state.bound 8 m)) (N (C (A J ?_)));obtain ⟨x8,d,h6⟩:=L l;obtain ⟨p0,rfl⟩:=q.adr d;have G:=q.atF d;refine cP eO Z3 J J J J (aT d) (aR G3 J (P 0 J G) J ?_);obtain ⟨r1,h7,h8⟩:=L h6;refine bB GQ J (fun w H b le=>GZ x8 0 255 h7) ?_;obtain ⟨r4,R,Y⟩:=L h8;rcases r4 with y0|y0
  ·refine bB fG J (fun w H b le=>iX (fH r1 2 R)) (N (sq ?_));obtain ⟨x0,Z,h9⟩:=L Y;have hB:=q.atF Z;obtain ⟨hC,hE⟩:=aF h9;obtain ⟨s,hG,hI⟩:=L hE;refine eH 27 mixed (by kernel_rfl) J (dC J (E J (nl J J aG) (E J (aU 0 fD J eT aG) (E J (aU 2 eX J jM aG) (E J (cM oC jM J J (((sO 1 J).drop 2).take 5) J aG) (dC J (E J (nl J J aG) (E J (aU 0 fD J eT aG) (E J (aU 8 eX J TN aG) (E J (aR PC J (((sO 1 J).drop 8).take 1) J aG) (dC J ?_)))))))))));refine E J (cP eO Z3 J J J J (aT Z) aG) (E J (aR G3 J (P 1 J hB) J aG) (dC J (E J (cP eO Z3 J J J J (aT d) aG) (E J (aR G3 J (P 1 J G) J aG) (E J (yY U3 U5 J J (rW hC) aG) (dC J (E J (nl J J aG) (E J (aU 0 fD J eT aG) (E J (aU 0 eX J Z3 aG) (E J (aR G3 J ((sO 1 J).take 1) J aG) (E J (bB aDj J (fun w H b le=>aHw b (hg.mono le.i) g.state.volume ⟨_,_,J,(f.f0.mono (bW.mono) le.i)⟩ (f.f1.mono (I.mono _) le.i) x0 x8 g.state.day hG) aG) ?_)))))))))));refine dC J (E J (ex J J J aG) (E J (ex J J J aG) (E J (a1 J aG) (DF.nil fun aa hF=>(D J (C (A J ?_)))))));obtain ⟨r5,h4,h5⟩:=L hI;rcases r5 with y1|y1
   ·refine bB jQ J (fun w H b le=>iX (jR s.2 h4)) (N (rg (A J (A J (nl J J (aU 0 fD J eT (aU 10 eX J AA (aR wF J (((sO 1 J).drop 10).take 1) J (A J ?_)))))))));obtain ⟨r2,hJ,hK⟩:=L h5;refine gW aDk J J J J (fun w H b le=>aHy b (f.f3.mono (I.mono _) le.i) s.1 hJ) ?_;rintro v_ ad ⟨t,z,rfl,hL⟩
    let k:List Value:=((cO g.state z1).set 10 (.slice t r2.length z))
    refine nl J J (aU 0 fD J eT (aU 10 eX J AA (eQ 1 AA J J J J J J J (N (TG.pack (fun K=>aX K k (⟨({g.state with cites:=r2}:dE)⟩:aI)) (fun H le=>⟨{z1 with a3:=t,c3:=z},J,{f.mono le.u with f3:=(hL.mono (I.mono _) le.o)}⟩) fun n hM=>?_)))));cases hK;intro a w c h;refine eF h J ?_;exact ⟨n,[(1,bE j 77 k)],c.selH [0,3] J,_,J,J,hM⟩
   refine eG jQ J J J (fun w H b le=>iY (jR s.2 h4)) ?_;cases h5;intro a w c h;exact ⟨h.defers,V,[_],c.selH [1,1] J,J,J⟩
  refine eG fG J J J (fun w H b le=>iY (fH r1 2 R)) ?_;cases Y;intro a w c h;exact ⟨h.defers,V,[_],c.selH [0,0] J,J,J⟩
 refine eG fG J J J (fun w H b le=>iY (fH g.state.bound 8 m)) ?_;cases l;intro a w c h;exact ⟨h.defers,V,[_],c.selH [0,0] J,J,J⟩

theorem w50 {M:Prop} {W w:World} {H V:Hp} {σr:aM} {h:Nat} {i:List Value} (b:aI) (u:aX V i b)  {r:bD} (n:OW b=some r) (c:St M W H [V] ((1,bE h 77 i)::σr) w):Calls prog 50 #[.pointer (some ⟨h,0,none⟩)] w (QQ M W H V ((1,bE h 77 i)::σr) (fun v K=>∃ du:List Value,v=.agg du.toArray∧bV K du r)):=by
 obtain ⟨l,rfl,d⟩:=u;refine cV (M:=M) func50 J ntmps50 J c ?_;refine C (al 2 zeroValue27 J J fun Y=>(N (sq (C (A J (nl J J (aU 0 fD J eT (aU 7 eX J Z4 (aR G4 J (((sO 1 J).drop 7).take 1) J ?_)))))))));refine N ?_;refine cb J (fun e=>?_) (fun e=>?_)
 ·have k:=aJ e n;refine C (A J (nl J J (aU 0 fD J eT (aU 2 eX J jM (cM oC jM J J (((sO 1 J).drop 2).take 5) J (eQ 2 jM J J J J J J J (N (bH (TG.pack (fun K=>bV K [.int .i64 b.state.volume.number,.int .i64 b.state.volume.bound,.int .i64 b.state.volume.height,.int .i64 b.state.volume.width,.slice l.a0 b.state.volume.parts.length l.c0] b.state.volume) (fun H le=>⟨_,_,J,(d.f0.mono (bW.mono) le.o)⟩) fun q y=>?_)))))))));cases k;intro a w c j;refine wC j J (cU.cell J (fK oC jM (cW (c.get (t:=2) J)) J)) ?_;exact ⟨_,q,J,(c.selH [0,1] J).del 2,_,J,y⟩
 have z:=bK e n;refine sk (C (A J (A J (nl J J (aU 0 fD J eT (aU 2 eX J jM (aU 4 pK J CE (aR IQ J (((sO 1 J).drop 6).take 1) J ?_))))))));obtain ⟨f,B,F⟩:=L z;refine clQ 1 C72 J J J J J (fun w V σr c le=>w72 b ⟨l,J,{d.mono le.o with f0:=(d.f0.mono (bW.mono) le.o)}⟩ (parts:=b.state.volume.parts) (d.f0.mono (bW.mono) le.o) B c) ?_;rintro v_ p ⟨Z,rfl,m⟩;have h7:=m;obtain ⟨s,x,rfl,G⟩:=m;refine eQ 2 jM J J J J J J J (N (bH (TG.pack (fun K=>bV K [.int .i64 f.number,.int .i64 f.bound,.int .i64 f.height,.int .i64 f.width,.slice s f.parts.length x] f) (fun H le=>⟨_,_,J,(G.mono (bW.mono) le.o)⟩) fun g R=>?_)));cases F;intro a w c j;refine wC j J (cU.cell J (fK oC jM (cW (c.get (t:=2) J)) J)) ?_;exact ⟨_,g,J,(c.selH [0,2] J).del 2,_,J,R⟩

theorem ZC (j:H.le (hp W)) {p:Addr} {m:List Value} (h:aI) (f:aN H p m) (n:(aX) H m h) {r:bD} (s:EP h=some r):Calls prog 50 #[.pointer (some p)] W (eY M H W (fun v K=>∃ (e:List Value),v=.agg e.toArray∧(bV) K e r)):=by
 have g:=n;obtain ⟨B,rfl,b⟩:=n;refine aK (M:=M) func50 J ntmps50 J j ?_;refine C (al 1 zeroValue27 J J fun G=>(N (sq (C (A J (nl J J (aU 0 fD J eT (aU 7 eX J Z4 (aR G4 J (((P 0 J f).drop 7).take 1) J ?_)))))))));refine N ?_;refine cb J (fun d=>?_) (fun d=>?_)
 ·have k:=aJ d s;refine C (A J (nl J J (aU 0 fD J eT (aU 2 eX J jM (cM oC jM J J (((P 0 J f).drop 2).take 5) J (eQ 1 jM J J J J J J J (N (bH ?_))))))));cases k;intro a w c i;refine wC i J (cU.cell J (fK oC jM (cW (c.get (t:=1) J)) J)) ?_;exact ⟨⟨_,J,⟨_,_,J,(b.f0.mono (bW.mono) (c.grow 0 J))⟩⟩,c.ext⟩
 have l:=bK d s;refine sk (C (A J (A J (nl J J (aU 0 fD J eT (aU 2 eX J jM (aU 4 pK J CE (aR IQ J (((P 0 J f).drop 6).take 1) J ?_))))))));obtain ⟨r10,x,y⟩:=L l;refine gW C72 J J J J (fun w H j le=>aHc j h (f.mono le.o) ⟨B,J,{b.mono le.o with f0:=(b.f0.mono (bW.mono) le.o)}⟩ (b.f0.mono (bW.mono) le.o) x) ?_;rintro Z u ⟨R,rfl,q⟩;have Y:=q;obtain ⟨F,V,rfl,z⟩:=q;refine eQ 1 jM J J J J J J J (N (bH ?_));cases y;intro a w c i;refine wC i J (cU.cell J (fK oC jM (cW (c.get (t:=1) J)) J)) ?_;exact ⟨⟨_,J,⟨_,_,J,(z.mono (bW.mono) (c.grow 0 J))⟩⟩,c.ext⟩

end T12
