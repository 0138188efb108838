/-
 Walks of functions of a session: each call comes to what the model says. Printed by a program of ours.
-/
import Derived.Test.YtehbdldbihhleaaGreatDoorWalkB
set_option linter.all false
set_option maxHeartbeats 4000000
namespace T12
open Go Go.Proofs Pk Tryz
open Pk renaming m1→A,aB→C,aC→D,dt→E,aD→I,aA→L,on→N,sS→P,aP→S
open T12 renaming aQ→U
variable {M:Prop} {W:World} {H:Hp}
theorem aJj (hH:H.le (hp W)) {ce:List Value} (x:bT) (cq:(cN) H ce x) {r:Bool} (hr:MA x=some r):Calls prog 258 #[.agg ce.toArray] W (bJ M W (.bool r)):=by
 have h:=cq;obtain ⟨ag,ae,ah,af,rfl,ao,n⟩:=cq;have:=n.len;refine aK (M:=M) func258 J ntmps258 J hH ?_;refine C (bI J J J fun q7 t m=>(D J (sc (C (cM pJ lC J J (P 0 J m) J ?_)))));obtain ⟨r10,hE,hF⟩:=L hr;refine gW BD J J J J (fun w H hH le=>BS hH x (cN.mono _ _ _ _ le.i h) hE) ?_;rintro aq g ⟨_,rfl,hG⟩;refine D J (C (D J (sq (lb (sq (C (aU 1 vW J yJ ?_)))))));refine aR BH J ((P 1 J m).drop 1) J (dU uB J J (A J (N ?_)));obtain ⟨y,hI,hJ⟩:=L hF;refine jn (SJ M W H [g,t,H] [] 33 [(4,.bool y)]) ?_ ?_
 ·refine bk ?_;refine jO [1,3,11,12] J hI (fun p s2=>(4,.bool s2.2)::(13,.int .i64 (s2.1:Int))::p) ?_ ?_
  ·exact cuE J
  intro j s2 y0 h6 F;refine C (dS J J J (N (sq ?_)));refine ci J (fun G=>?_) (fun G=>?_)
  ·have hK:=aJ G h6;refine sk (sq (bk (C ?_)));obtain ⟨x0,K,hL⟩:=L hK;obtain ⟨p0,rfl⟩:=n.adr K;obtain ⟨c4,ai,hM,h7⟩:=n.at K;have aj:=h7;obtain ⟨a3,c2,rfl,hN⟩:=h7;refine cP uB iE J J J J (aT K) (cM nU iE J J (P 2 J hM) J (al 1 zeroValue234 J J fun b0=>(eQ 1 iE J J J J J J J (N (C (D J ?_))))));obtain ⟨B,hO,h8⟩:=L hL;refine gG [1,3,11,12,13] J (fun p a w=>∃ t222,B=.inl t222∧∃ (u:Option Addr) (v:Nat) (e:Hp),St M W H [e,g,t,H] [(1,bE b0 234 [.int .i64 t222.2.1,.int .i64 t222.2.2.1,.int .i64 t222.2.2.2.1,.int .i64 t222.2.2.2.2.1,.slice u t222.2.2.2.2.2.length v])] w∧bQ [] 33 a ((4,.bool t222.1)::p)∧Sl (I bY) 1 e u v t222.2.2.2.2.2) ?_ ?_
   ·refine bk ?_;refine jZ [1,3,6,11,12,13] J hO (fun p f a w=>∃ (q:Option Addr) (s:Nat) (d:Hp),St M W H [d,g,t,H] [(1,bE b0 234 [.int .i64 f.2.2.1,.int .i64 f.2.2.2.1,.int .i64 f.2.2.2.2.1,.int .i64 f.2.2.2.2.2.1,.slice q f.2.2.2.2.2.2.length s])] w∧bQ [] 33 a ((4,.bool f.2.1)::(7,.int .i64 (f.1:Int))::p)∧Sl (I bY) 1 d q s f.2.2.2.2.2.2) ?_ ?_
    ·intro a w c b;exact ⟨a3,c2,H,c.selH [2,0,1,2] J,b.cuE J,hN⟩
    rintro j f y1 h9 R a w ⟨q,s,d,c,b,hP⟩;refine TG.ap ?_ c b;refine sq (C (aU 1 fJ J Z3 (aR G3 J (((sO 1 J).drop 1).take 1) J (nI J J J (N ?_)))));refine ci J (fun V=>?_) (fun V=>?_)
    ·have hR:=aJ V h9;refine sk (sq (bk (C (A J ?_))));obtain ⟨hT,hB⟩:=aF hR;refine dN J J J hT (D J (C (A J (aU 1 vW J yJ (aR BH J ((P 2 J m).drop 1) J (dU uB J J (lL J J J (N ?_))))))));refine ci J (fun Y=>?_) (fun Y=>?_)
     ·have hV:=aJ Y hB;refine C (D J (xt J ?_));obtain ⟨z0,hW,rfl⟩:=kQ hV;obtain rfl:=dF.out R;cases h8;refine TG.del 1 ?_;cases hW;obtain rfl:=dF.out F;intro a w c b;exact ⟨c.selH [1,2,3] J,b.cuE J⟩
     have hX:=aS Y hB;refine sk (rg (A J (aU 1 fJ J Z3 (aR G3 J (((sO 1 J).drop 1).take 1) J ?_))));obtain ⟨ak,Z,l⟩:=hG;obtain ⟨c5,aa,hC⟩:=l.get (k:=f.2.2.2.1) (zc:=[.int .i64 0,.int .i64 0,.int .i64 0,.int .i64 0,.slice none 0 0]) (z:=(⟨0,0,0,0,([]:List aE)⟩:aW)) ⟨_,_,J,Sl.o⟩;refine QP (ke:=fT) f.2.2.2.1 tT U3 zeroValue234 J J J (mS 1 J Z) aa ?_;have am:=hC;obtain ⟨a4,c3,rfl,ab⟩:=hC;refine eQ 1 iE J J J J J J J (N ?_);cases hX;intro a w c b;exact ⟨_,R,a4,c3,g,c.selH [1,1,2,3] J,b.cuE J,ab⟩
    have ac:=aS V h9;refine xt J ?_;cases ac;obtain rfl:=dF.out R;intro a w c b;exact ⟨_,J,q,s,d,c,b.cuE J,hP⟩
   rintro a w ⟨t222,rfl,u,v,e,c,b,an⟩;apply TG.ap ?_ c b;refine rg (dN J J J (by omega) (A J (N (TG.del 1 ?_))));cases h8;intro a w c b;exact ⟨_,F,c.selH [1,2,3] J,b.cuE J⟩
  have ad:=aS G h6;refine xt J ?_;cases ad;obtain rfl:=dF.out F;exact cuE J
 rintro a w ⟨c,b⟩;apply TG.ap ?_ c b;refine C (A J (D J (bH ?_)));cases hJ;exact cK J J

theorem ZO (m:H.le (hp W)) {s:List Value} (h:bT) (t:(cN) H s h) (number:Int) {r:List aE} (x:FS h number=some r):Calls prog 204 #[.agg s.toArray,.int .i64 number] W (eY M H W (fun v K=>∃ (d:Option Addr) (c:Nat),v=.slice d r.length c∧Sl (I bY) 1 K d c r)):=by
 have b:=t;obtain ⟨B,p,F,q,rfl,n,aa⟩:=t;refine aK (M:=M) func204 J ntmps204 J m ?_;refine C (bI J J J fun q7 K8 f=>(D J (sq (C (A J (fZ J J J (N ?_)))))));refine ci J (fun j=>?_) (fun j=>?_)
 ·have G:=aJ j x;refine C (aU 0 vW J AA (aR wF J ((P 0 J f).take 1) J (D J (bH ?_))));cases G;intro a w g l;refine dT l J J ?_;exact ⟨⟨_,_,J,(n.mono (I.mono _) (g.grow 1 J))⟩,g.ext⟩
 have R:=aS j x;refine sk (C (cM pJ lC J J (P 0 J f) J ?_));obtain ⟨r0,V,Y⟩:=L R;refine gW BD J J J J (fun w H m le=>BS m h (cN.mono _ _ _ _ le.i b) V) ?_;rintro ab y ⟨_,rfl,Z⟩;refine A J ?_;obtain ⟨hB,h7,e⟩:=Z;obtain ⟨c0,h8,u⟩:=e.get (k:=number) (zc:=[.int .i64 0,.int .i64 0,.int .i64 0,.int .i64 0,.slice none 0 0]) (z:=(⟨0,0,0,0,([]:List aE)⟩:aW)) ⟨_,_,J,Sl.o⟩;refine QP (ke:=fT) number tT U3 zeroValue234 J J J (mS 0 J h7) h8 ?_;have hC:=u;obtain ⟨a0,c1,rfl,h9⟩:=u;refine fd fJ J J J wF J (D J (bH ?_));cases Y;intro a w g l;refine dT l J J ?_;exact ⟨⟨_,_,J,(h9.mono (I.mono _) (g.grow 0 J))⟩,g.ext⟩

theorem aJk (k:H.le (hp W)) {q:List Value} (f:aW) (t:(aZ) H q f) {l:Addr} {s:List Value} (bx:bT) (Y:aN H l s) (m:(cN) H s bx) {r:Bool} (hr:FT f bx=some r):Calls prog 260 #[.agg q.toArray,.pointer (some l)] W (bJ M W (.bool r)):=by
 have i:=t;obtain ⟨K,n,rfl,aa⟩:=t;have e:=m;obtain ⟨R,o,V,p,rfl,ab,ac⟩:=m;refine aK (M:=M) func260 J ntmps260 J k ?_;refine C (bI J J J fun q0 z b=>(D J (sq ?_)));obtain ⟨t32,v,Z⟩:=L hr;refine eU [] [(3,.bool t32)] J ?_ ?_
 ·refine eH 18 mixed (by kernel_rfl) J (E J (aU 2 fJ J Z3 aG) (E J (aR G3 J (((P 1 J b).drop 2).take 1) J aG) (E J (jN J J J aG) (dC J ?_))));by_cases d:(0:Int)≤f.from_
  ·have x:=aJ d v;refine E J (gt d J (aU 2 fJ J Z3 aG)) (E J (gt d J (aR G3 J (((P 1 J b).drop 2).take 1) J aG)) (E J (gt d J (aU 3 fJ J Z3 aG)) (E J (gt d J (aR G3 J (((P 1 J b).drop 3).take 1) J aG)) (E J (gt d J (jN J J J aG)) (E J (pt d J J aG) (dC J ?_))))));by_cases c:f.from_≤f.to_
   ·have h5:=aJ c x;obtain ⟨y,h6,h7⟩:=L h5;refine E J (gt c J (aU 3 fJ J Z3 aG)) (E J (gt c J (aR G3 J (((P 1 J b).drop 3).take 1) J aG)) (E J (gt c J (cM pJ lC J J (P 2 J Y) J aG)) (E J (gt c J (aU 1 fJ J Z3 aG)) (E J (gt c J (aR G3 J (((P 1 J b).drop 1).take 1) J aG)) (uS y.length (I bY) 1 y (I.mono _) J (gt c J (gW XX J J J J (fun w H k le=>ZO k bx (cN.mono _ _ _ _ le.u e) f.of h6) (kS (I.mono _)))) fun a0 c0=>(E J (gt c J (dU kZ J J aG)) (DF.nil fun B j=>?_)))))));obtain ⟨hB,_⟩:=j;refine gt c J (jN J J J (pt c J J (D J ?_)));cases h7;intro a w h g;exact ⟨h.selH [1,2] J,g.cuE J⟩
   have h8:=aS c x;refine kY 7 J J (decide_eq_false c) J ⟨J,J,J,J,J,J,J,tv⟩ (DF.nil fun F j=>(gf c J (pf c J J (D J ?_))));cases h8;intro a w h g;exact ⟨h.selH [1,2] J,g.cuE J⟩
  have h9:=aS d v;refine kY 5 J J (decide_eq_false d) J ⟨J,J,J,J,J,tv⟩ (E J (pf d J J aG) (dC J (kY 7 J J J J ⟨J,J,J,J,J,J,J,tv⟩ (DF.nil fun G j=>(gF J J J J (pF J J J J (D J ?_)))))));cases h9;intro a w h g;exact ⟨h.selH [1,2] J,g.cuE J⟩
 refine bH ?_;cases Z;exact cK J J

theorem aJl (j:H.le (hp W)) {o:List Value} (d:bT) (p:(cN) H o d) {r:Bool} (B:SI d=some r):Calls prog 259 #[.agg o.toArray] W (bJ M W (.bool r)):=by
 have g:=p;obtain ⟨t,m,u,n,rfl,l,f⟩:=p;refine aK (M:=M) func259 J ntmps259 J j ?_;refine C (bI J J J fun q R e=>(D J (C (aU 1 vW J yJ (aR BH J ((P 0 J e).drop 1) J (fn J J J ?_))))));obtain ⟨r11,x,y⟩:=L B
 refine mG (v:=.bool r11) GO J J J J (fun w H j le=>by
   have z:eP M prog H (.func (.func 260) #[] #[.pointer (some q)]) (fC (Vr aZ) Value.bool (fun b=>FT b d)):=⟨260,[],[.pointer (some q)],rfl,aFa,fun Z s h Y k F hs=>by obtain ⟨K,b,V,rfl,c,G,rfl⟩:=hs;obtain ⟨_,rfl,c⟩:=c;exact aJk (H:=s) F  b c d (e.mono ((le.at 0 rfl).trans k)) ⟨_,_,_,_,rfl,(l.mono (I.mono _) ((le.at 1 rfl).trans k)),(f.mono (aZ.mono) ((le.at 1 rfl).trans k))⟩ G⟩
   exact HF j (f.mono (aZ.mono) le.i) (right:=(fun b=>FT b d)) z x) ?_
 refine D J (bH ?_);cases y;exact cK J J

theorem aJm (f:H.le (hp W))  {r:Unit} (h:SK=some r):Calls prog 200 #[] W (eY M H W (fun v K=>∃ (d:Addr),v=.slice (some d) 7 7∧aN K d [.int .i64 3,.func (.func 244) #[] #[],.int .i64 4,.func (.func 247) #[] #[],.int .i64 2,.func (.func 251) #[] #[],.int .i64 6,.func (.func 254) #[] #[],.int .i64 7,.func (.func 256) #[] #[],.int .i64 8,.func (.func 258) #[] #[],.int .i64 1,.func (.func 259) #[] #[]])):=by
 refine aK (M:=M) func200 J ntmps200 J f ?_;refine C (D J (C (bu T12.B292 J J J (bu T12.B292 J J J (bu T12.B292 J J J (bu T12.B292 J J J (bu T12.B292 J J J (bu T12.B292 J J J ?_))))))));refine bu T12.B292 J J J (bS T12.E288 J J J J fun j i g b=>(D J (bH ?_)));obtain rfl:=sj h;intro a w c e;refine dT e J J ?_;exact ⟨⟨_,J,b.mono (c.grow 0 J)⟩,c.ext⟩

theorem UC (d:H.le (hp W)) {Z:List Value} (m:bT) (cq:(cN) H Z m) {r:Int} (hr:AY m=some r):Calls prog 144 #[.agg Z.toArray] W (bJ M W (.int .i64 r)):=by
 have b:=cq;obtain ⟨ac,V,ad,Y,rfl,ae,af⟩:=cq;refine aK (M:=M) func144 J ntmps144 J d ?_;refine C (bI J J J fun q7 K8 e=>(D J (sq (C ?_))));obtain ⟨r10,hF,hG⟩:=L hr;refine gW aEj J J J J (fun w H d le=>aJm d hF) ?_;rintro v_ aa ⟨q0,rfl,c⟩;refine dU vV J J (A J (N (bk (lR 8 (rd (C (dS J J J (N (sq (cT J ((J:decide ((0:Int)<(7:Int))=true)) ?_))))))))));refine sk (sq (bk (C (cP (j:=0) vV kA J J J J (by decide) (cM yG kA J J ((P 0 J (c.drop (0*2))).take 2) J (va zeroValue292 kA J J J J J J J J fun q1 ab n=>(N (C (aU 1 nX J yI ?_)))))))));refine aR yF J ((P 0 J n).drop 1) J (cM pJ lC J J (P 2 J e) J ?_);obtain ⟨r0,hI,h7⟩:=L hG;refine bB aEz J (fun w H d le=>aI7 d m (cN.mono _ _ _ _ le.v b) hI) (nt J J (N ?_));refine cb J (fun h0=>?_) (fun h0=>?_)
 ·replace h0:=oI h0
  have hJ:=bK h0 h7;refine C (aU 0 nX J BM (aR uA J ((P 0 J n).take 1) J (D J (bH ?_))));cases hJ;exact cK J J
 replace h0:=oJ h0
 have hK:=aJ h0 h7;refine sk (rg (dN J J J (by omega) (A J (N (rd (C (dS J J J (N (sq (cT J ((J:decide ((1:Int)<(7:Int))=true)) ?_))))))))));refine sk (sq (bk (C (cP (j:=1) vV kA J J J J (by decide) (cM yG kA J J ((P 1 J (c.drop (1*2))).take 2) J (va zeroValue292 kA J J J J J J J J fun q2 z f=>(N (C (aU 1 nX J yI ?_)))))))));refine aR yF J ((P 0 J f).drop 1) J (cM pJ lC J J (P 3 J e) J ?_);obtain ⟨r1,hL,h8⟩:=L hK;refine bB aE1 J (fun w H d le=>aJd d m (cN.mono _ _ _ _ le.x b) hL) (nt J J (N ?_));refine cb J (fun h1=>?_) (fun h1=>?_)
 ·replace h1:=oI h1
  have hM:=bK h1 h8;refine C (aU 0 nX J BM (aR uA J ((P 0 J f).take 1) J (D J (bH ?_))));cases hM;exact cK J J
 replace h1:=oJ h1
 have hN:=aJ h1 h8;refine sk (rg (dN J J J (by omega) (A J (N (rd (C (dS J J J (N (sq (cT J ((J:decide ((2:Int)<(7:Int))=true)) ?_))))))))));refine sk (sq (bk (C (cP (j:=2) vV kA J J J J (by decide) (cM yG kA J J ((P 2 J (c.drop (2*2))).take 2) J (va zeroValue292 kA J J J J J J J J fun q3 B g=>(N (C (aU 1 nX J yI ?_)))))))));refine aR yF J ((P 0 J g).drop 1) J (cM pJ lC J J (P 4 J e) J ?_);obtain ⟨r2,hO,h9⟩:=L hN;refine bB aE3 J (fun w H d le=>aJf d m (cN.mono _ _ _ _ (le.at 5 J) b) hO) (nt J J (N ?_));refine cb J (fun h2=>?_) (fun h2=>?_)
 ·replace h2:=oI h2
  have hP:=bK h2 h9;refine C (aU 0 nX J BM (aR uA J ((P 0 J g).take 1) J (D J (bH ?_))));cases hP;exact cK J J
 replace h2:=oJ h2
 have hR:=aJ h2 h9;refine sk (rg (dN J J J (by omega) (A J (N (rd (C (dS J J J (N (sq (cT J ((J:decide ((3:Int)<(7:Int))=true)) ?_))))))))));refine sk (sq (bk (C (cP (j:=3) vV kA J J J J (by decide) (cM yG kA J J ((P 3 J (c.drop (3*2))).take 2) J (va zeroValue292 kA J J J J J J J J fun q4 F h=>(N (C (aU 1 nX J yI ?_)))))))));refine aR yF J ((P 0 J h).drop 1) J (cM pJ lC J J (P 5 J e) J ?_);obtain ⟨r3,hS,hA⟩:=L hR;refine bB aE5 J (fun w H d le=>aJg d m (cN.mono _ _ _ _ (le.at 6 J) b) hS) (nt J J (N ?_));refine cb J (fun h3=>?_) (fun h3=>?_)
 ·replace h3:=oI h3
  have hT:=bK h3 hA;refine C (aU 0 nX J BM (aR uA J ((P 0 J h).take 1) J (D J (bH ?_))));cases hT;exact cK J J
 replace h3:=oJ h3
 have hV:=aJ h3 hA;refine sk (rg (dN J J J (by omega) (A J (N (rd (C (dS J J J (N (sq (cT J ((J:decide ((4:Int)<(7:Int))=true)) ?_))))))))));refine sk (sq (bk (C (cP (j:=4) vV kA J J J J (by decide) (cM yG kA J J ((P 4 J (c.drop (4*2))).take 2) J (va zeroValue292 kA J J J J J J J J fun q5 G i=>(N (C (aU 1 nX J yI ?_)))))))));refine aR yF J ((P 0 J i).drop 1) J (cM pJ lC J J (P 6 J e) J ?_);obtain ⟨r4,hW,hB⟩:=L hV;refine bB aE6 J (fun w H d le=>aJi d m (cN.mono _ _ _ _ (le.at 7 J) b) hW) (nt J J (N ?_));refine cb J (fun h4=>?_) (fun h4=>?_)
 ·replace h4:=oI h4
  have hX:=bK h4 hB;refine C (aU 0 nX J BM (aR uA J ((P 0 J i).take 1) J (D J (bH ?_))));cases hX;exact cK J J
 replace h4:=oJ h4
 have o:=aJ h4 hB;refine sk (rg (dN J J J (by omega) (A J (N (rd (C (dS J J J (N (sq (cT J ((J:decide ((5:Int)<(7:Int))=true)) ?_))))))))));refine sk (sq (bk (C (cP (j:=5) vV kA J J J J (by decide) (cM yG kA J J ((P 5 J (c.drop (5*2))).take 2) J (va zeroValue292 kA J J J J J J J J fun q6 K k=>(N (C (aU 1 nX J yI ?_)))))))));refine aR yF J ((P 0 J k).drop 1) J (cM pJ lC J J (P 7 J e) J ?_);obtain ⟨r5,p,hC⟩:=L o;refine bB aE8 J (fun w H d le=>aJj d m (cN.mono _ _ _ _ (le.at 8 J) b) p) (nt J J (N ?_));refine cb J (fun h5=>?_) (fun h5=>?_)
 ·replace h5:=oI h5
  have q:=bK h5 hC;refine C (aU 0 nX J BM (aR uA J ((P 0 J k).take 1) J (D J (bH ?_))));cases q;exact cK J J
 replace h5:=oJ h5
 have s:=aJ h5 hC;refine sk (rg (dN J J J (by omega) (A J (N (rd (C (dS J J J (N (sq (cT J ((J:decide ((6:Int)<(7:Int))=true)) ?_))))))))));refine sk (sq (bk (C (cP (j:=6) vV kA J J J J (by decide) (cM yG kA J J (P 6 J (c.drop (6*2))) J (va zeroValue292 kA J J J J J J J J fun q8 R l=>(N (C (aU 1 nX J yI ?_)))))))));refine aR yF J ((P 0 J l).drop 1) J (cM pJ lC J J (P 8 J e) J ?_);obtain ⟨r8,t,hE⟩:=L s;refine bB aE9 J (fun w H d le=>aJl d m (cN.mono _ _ _ _ (le.at 9 J) b) t) (nt J J (N ?_));refine cb J (fun h6=>?_) (fun h6=>?_)
 ·replace h6:=oI h6
  have u:=bK h6 hE;refine C (aU 0 nX J BM (aR uA J ((P 0 J l).take 1) J (D J (bH ?_))));cases u;exact cK J J
 replace h6:=oJ h6
 have y:=aJ h6 hE;refine sk (rg (dN J J J (by omega) (A J (N (rd (C (dS J J J (N (sq (cF J ((J:decide ((7:Int)<(7:Int))=false)) ?_))))))))));refine xt J (C (D J (bH ?_)));cases y;exact cK J J

theorem w95 {M:Prop} {W w:World} {H V:Hp} {σr:aM} (hg:Gv M V) {g:Nat} {n:List Value} (f:aI) (au:aX V n f) {Y:Option Addr} {B:Nat} {s:List Int} (jo:Sl (I (bP .i64)) 1 V Y B s) (text:aE) {r:aI⊕Int} (hr:MB f s text=some r) (d:St M W H [V] ((1,bE g 77 n)::σr) w):Calls prog 95 #[.pointer (some ⟨g,0,none⟩),.slice Y s.length B,.string (bs text)] w (fI M W H V σr (sC (fun y e K A'=>∃ (z:List Value),e=.returned (.tuple #[])∧A'=[(1,bE g 77 z)]∧aX K z y) (fun u=>.iface 155 (.agg #[.int .i64 u])) [(1,bE g 77 n)] r)):=by
 obtain ⟨z1,rfl,q⟩:=au;refine cV (M:=M) func95 J ntmps95 J d ?_;refine C (A J (nl J J (aU 0 fD J eT (aU 13 eX J Z4 (aR G4 J (((sO 1 J).drop 13).take 1) J (nt J J ?_))))));obtain ⟨r3,l,k⟩:=L hr;rcases r3 with y6|y6
 ·refine bB fG J (fun w H c le=>iX (fH (!f.state.moved) 8 l)) (N (C (A J ?_)));obtain ⟨t,p,h3⟩:=L k;refine gW XS J J J J (fun w H c le=>ZK c (hg.mono le.o) text p) ?_;rintro v_ aa ⟨v,x,rfl,F⟩;refine bu T12.B32 J J J (va zeroValue32 lC J J J J J J J J fun q0 ad b=>(N (C (cM pJ lC J J (P 0 J b) J ?_))));obtain ⟨Z,h4,h5⟩:=L h3;refine bB SZ J (fun w H c le=>UC c (⟨t,([]:List aW)⟩:bT) ⟨_,_,_,_,J,(F.mono (I.mono _) le.i),Sl.o⟩ h4) ?_;obtain ⟨r1,G,R⟩:=L h5;rcases r1 with y0|y0
  ·refine bB jQ J (fun w H c le=>iX (jR Z G)) (N (rg (A J (A J (cM pJ lC J J (P 0 J b) J (nl J J (aU 0 fD J eT (aU 11 eX J lC (eQ 1 lC J J J J J J J (nl J J (aU 0 fD J eT ?_)))))))))))
   let h:List Value:=((((cO f.state z1).set 11 (.slice v t.length x)).set 12 (.slice none 0 0)).set 13 (.bool true))
   refine aU 13 eX J Z4 (eQ 1 Z4 J J J J J J J (N (TG.pack (fun K=>aX K h (⟨({f.state with motion:=(⟨t,([]:List aW)⟩:bT),moved:=true}:dE)⟩:aI)) (fun H le=>⟨{z1 with a4:=v,c4:=x,a5:=none,c5:=0},J,{q.mono le.u with f4:=(F.mono (I.mono _) le.i),f5:=Sl.o}⟩) fun m h6=>?_)));cases R;intro a w d j;refine eF j J ?_;exact ⟨m,[(1,bE g 77 h)],d.selH [0,3] J,_,J,J,h6⟩
  refine eG jQ J J J (fun w H c le=>iY (jR Z G)) ?_;cases R;intro a w d j;exact ⟨j.defers,V,[_],d.selH [2,2] J,J,J⟩
 refine eG fG J J J (fun w H c le=>iY (fH (!f.state.moved) 8 l)) ?_;cases k;intro a w d j;exact ⟨j.defers,V,[_],d.selH [0,0] J,J,J⟩

theorem aJn {M:Prop} {W w:World} {H V:Hp} {σr:aM} {h:Option Addr} {g:Nat} {ai:List aW} (s:Sl (aZ) 5 V h g ai) {r:List aW} (t:SL ai=some r) (d:St M W H [V] σr w):Calls prog 201 #[.slice h ai.length g] w (fI M W H V σr (fun e K u=>∃ (ad:Option Addr) (cap:Nat) (css:List (List Value)),e=.returned (.slice ad r.length cap)∧u=[(1,S.rows ad cap 234 5 css r)]∧Rows (aZ) 5 K css r)):=by
 refine cV (M:=M) func201 J ntmps201 J d ?_;refine C (D J (sq (C (A J (JO uB J J (N ?_))))));refine cb J (fun f=>?_) (fun f=>?_)
 ·obtain rfl:=Sl.isNil s f;have q:=(aF t).2;refine C (D J (bH (TG.nilRow 1 234 5 ?_)));have k:Rows (aZ) 5 V [] ([]:List aW):=tv;cases q;intro a w d j;refine dT j J J ?_;exact ⟨_,[(1,S.rows none 0 234 5 [] ([]:List aW))],d.selH [0,0] J,_,_,_,J,J,k⟩
 refine sk (C (TG.pack (fun K=>Rows (aZ) 5 K [] ([]:List aW)) (fun H le=>tv) fun Y n=>(bSO 1 T12.E30 J J J J fun y=>(TG.as 1 (z:=S.rows (some ⟨y,0,none⟩) 0 234 5 [] ([]:List aW)) J J (A J ?_)))));obtain ⟨p,G⟩:=aF t;refine TG.pack (fun K=>Sl (aZ) 5 K h g ai∧Rows (aZ) 5 K [] ([]:List aW)) (fun H le=>⟨s.mono (aZ.mono) le.i,n.mono (aZ.mono) le.o⟩) fun v ⟨R,b⟩=>(VX 1 (l:=([]:List aW)) (m:=ai) T12.E30 J J J J J J R b aZ.one J p fun x B F c=>(D J (bH ?_)));cases G;intro a w d j;refine dT j J J ?_;exact ⟨_,[(1,S.rows x B 234 5 F (([]:List aW)++ai))],d.selH [0,2] J,_,_,_,J,J,c⟩

theorem aJo (hH:H.le (hp W)) {aj:Option Addr} {Z:Nat} {bj:List aW} (bh:Sl (aZ) 5 H aj Z bj) {cx:List Value} (b:aW) (dw:(aZ) H cx b) {r:List aW} (hr:MC bj b=some r):Calls prog 145 #[.slice aj bj.length Z,.agg cx.toArray] W (eY M H W (fun v K=>∃ (g:Option Addr) (d:Nat),v=.slice g r.length d∧Sl (aZ) 5 K g d r)):=by
 have c:=dw;obtain ⟨t,i,rfl,ae⟩:=dw;refine aK (M:=M) func145 J ntmps145 J hH ?_;refine C (bI J J J fun q4 K5 B=>(D J (sq ?_)));obtain ⟨r7,R,F⟩:=L hr;refine lB 4 [1] [] mixed (fun _ _ _ _ _ h=>h) (by kernel_rfl) (by kernel_rfl) (by kernel_rfl) J (by kernel_rfl) (.nil) (dA J (A J aG) (DC.turn (α:=Option Addr×Nat×List (List Value)) (none,0,[]) (fun q=>.slice q.1 r7.length q.2.1) (fun (q:Option Addr×Nat×List (List Value)) K=>Rows (aZ) 5 K q.2.2 r7) (fun q=>[(1,S.rows q.1 q.2.1 234 5 q.2.2 r7)]) J (fun _ _ _ h x=>x.mono (aZ.mono) h) (by kernel_rfl) J J (fun a w K e j z=>TG.pa e j (OO 1 aEk J J J J (fun w V σr e le=>aJn (ai:=bj) (bh.mono (aZ.mono) le.u) R e) fun Y c1 y _ n=>WC (f:=fun (q:Option Addr×Nat×List (List Value))=>.slice q.1 r7.length q.2.1) (G:=(fun (q:Option Addr×Nat×List (List Value)) K=>Rows (aZ) 5 K q.2.2 r7)) (σ1:=fun q=>[(1,S.rows q.1 q.2.1 234 5 q.2.2 r7)]) (Y,c1,y) (fun _ _ _ h x=>x.mono (aZ.mono) h) n)) ?_));rintro ⟨Y,c1,y⟩;refine dA J (cM nU iE J J (P 1 J B) J aG) ?_
 refine uTf 1 (aZ) 5 ([b]:List aW) (aZ.mono) J (fun τ a w K e j z=>TG.pa e j (bS T12.E30 J J J J fun q0 aa h0 k=>by
   refine TG.pack (fun K=>Sl (aZ) 5 K (some q0) 1 ([b]:List aW)) (fun H le=>Sl.litR (css:=[[.int .i64 b.number,.int .i64 b.of,.int .i64 b.from_,.int .i64 b.to_,.slice t b.words.length i]]) (l:=([b]:List aW)) ⟨⟨J,J,(aZ.mono _ _ _ _ le.v c)⟩,tv⟩ h0 (k.mono le.o) J) fun ab h1=>?_;refine sk1 ?_
   exact rJ (aZ.mono) h1)) fun a2 c2=>?_
 refine DC.nil fun ac z=>?_;obtain ⟨h2,h3,_⟩:=z;obtain ⟨h4,h5⟩:=aF F;refine TG.pack (fun K=>Sl (aZ) 5 K a2 c2 ([b]:List aW)∧Rows (aZ) 5 K y r7) (fun H le=>⟨h2.mono (aZ.mono) le.o,h3.mono (aZ.mono) le.o⟩) fun ad ⟨h6,p⟩=>(VX 1 (l:=r7) (m:=([b]:List aW)) T12.E30 J J J J J J h6 p aZ.one J h4 fun a3 c3 c4 s=>(D J (bH ?_)));cases h5;intro a w e j;refine dT j J J ?_;exact ⟨⟨_,_,J,(e.rowsOut 1 J 0 J (aZ.mono) s)⟩,e.ext⟩

theorem w96 {M:Prop} {W w:World} {H V:Hp} {σr:aM} (hg:Gv M V) {l:Nat} {G:List Value} (b:aI) (au:aX V G b) {bb:Option Addr} {aq:Nat} {bz:List Int} (m:Sl (I (bP .i64)) 1 V bb aq bz) (text:aE) {r:aI⊕Int} (hr:MD b bz text=some r) (d:St M W H [V] ((1,bE l 77 G)::σr) w):Calls prog 96 #[.pointer (some ⟨l,0,none⟩),.slice bb bz.length aq,.string (bs text)] w (fI M W H V σr (sC (fun y e K A'=>∃ (du:List Value),e=.returned (.tuple #[])∧A'=[(1,bE l 77 du)]∧aX K du y) (fun u=>.iface 155 (.agg #[.int .i64 u])) [(1,bE l 77 G)] r)):=by
 obtain ⟨f,rfl,j⟩:=au;refine cV (M:=M) func96 J ntmps96 J d ?_;refine C (A J (nl J J (aU 0 fD J eT (aU 13 eX J Z4 (aR G4 J (((sO 1 J).drop 13).take 1) J ?_)))));obtain ⟨r3,q,p⟩:=L hr;rcases r3 with y6|y6
 ·refine bB fG J (fun w H c le=>iX (fH b.state.moved 8 q)) (N (C (A J (nl J J (aU 0 fD J eT (aU 11 eX J lC (cM pJ lC J J (((sO 1 J).drop 11).take 2) J (al 2 (cs:=[.slice none 0 0,.slice none 0 0]) zeroValue32 J J fun b8=>(eQ 2 (cs:=[.slice f.a4 b.state.motion.words.length f.c4,.slice f.a5 b.state.motion.papers.length f.c5]) lC J J J J J J J (N ?_))))))))));refine sq ?_;obtain ⟨x9,Y,h7⟩:=L p;obtain ⟨p0,rfl⟩:=m.adr Y;have h8:=m.atF Y;obtain ⟨x0,h1,h9⟩:=L h7;have hB:=m.atF h1;obtain ⟨x1,h2,hC⟩:=L h9;have hE:=m.atF h2;obtain ⟨x2,h3,hG⟩:=L hC;have hI:=m.atF h3;obtain ⟨k,hJ,hK⟩:=L hG;refine eH 17 mixed (by kernel_rfl) J (E J (aU 1 vW J yJ aG) (E J (aR BH J ((sO 2 J).drop 1) J aG) (dC J (E J (cP eO Z3 J J J J (aT Y) aG) (E J (aR G3 J (P 1 J h8) J aG) (dC J (E J (cP eO Z3 J J J J (aT h1) aG) (E J (aR G3 J (P 1 J hB) J aG) (dC J (E J (cP eO Z3 J J J J (aT h2) aG) (E J (aR G3 J (P 1 J hE) J aG) ?_)))))))))));refine dC J (E J (cP eO Z3 J J J J (aT h3) aG) (E J (aR G3 J (P 1 J hI) J aG) (dC J (uS k.length (I bY) 1 k (I.mono _) J (gW XS J J J J (fun w H c le=>ZK c (hg.mono le.i) text hJ) (kS (I.mono _))) fun B R=>(uC (.agg #[.int .i64 x9,.int .i64 x0,.int .i64 x1,.int .i64 x2,.slice B k.length R]) (fun K=>Sl (I bY) 1 K B R k) (fun _ _ h x=>x.mono (I.mono _) h) J (fun a w K d g Z F=>TG.pa d g (bu (cs:=[.int .i64 x9,.int .i64 x0,.int .i64 x1,.int .i64 x2,.slice B k.length R]) T12.B234 J J J (F (Z.1 J)))) (DF.nil fun aa Z=>?_))))));obtain ⟨hL,hT,_⟩:=Z;obtain ⟨s,hM,hN⟩:=L hK;refine gW aDp J J J J (fun w H c le=>aJo c (j.f5.mono (aZ.mono) le.i) (⟨x9,x0,x1,x2,k⟩:aW) ⟨_,_,J,(hL.mono (I.mono _) le.o)⟩ hM) ?_;rintro v_ ad ⟨t,v,rfl,h4⟩;refine aU 1 vW J yJ (eQ 2 (cs:=[.slice t s.length v]) yJ J J J J J J J (N (C (cM pJ lC J J (sO 2 J) J ?_))));obtain ⟨r2,hO,hP⟩:=L hN;refine bB SZ J (fun w H c le=>UC c (⟨b.state.motion.words,s⟩:bT) ⟨_,_,_,_,J,(j.f4.mono (I.mono _) le.u),(h4.mono (aZ.mono) le.o)⟩ hO) ?_;obtain ⟨r4,h5,h6⟩:=L hP
  let n:List Value:=((cO b.state f).set 12 (.slice t s.length v))
  rcases r4 with y0|y0
  ·refine bB jQ J (fun w H c le=>iX (jR r2 h5)) (N (rg (A J (cM pJ lC J J (sO 2 J) J (nl J J (aU 0 fD J eT (aU 11 eX J lC (eQ 1 (cs:=[.slice f.a4 b.state.motion.words.length f.c4,.slice t s.length v]) lC J J J J J J J (N (TG.del 2 (TG.pack (fun K=>aX K n (⟨({b.state with motion:=(⟨b.state.motion.words,s⟩:bT)}:dE)⟩:aI)) (fun H le=>⟨{f with a5:=t,c5:=v},J,{j.mono le.u with f5:=(h4.mono (aZ.mono) le.o)}⟩) fun z hR=>?_)))))))))));cases h6;intro a w d g;refine eF g J ?_;exact ⟨z,[(1,bE l 77 n)],d.selH [0,3] J,_,J,J,hR⟩
  refine eG jQ J J J (fun w H c le=>iY (jR r2 h5)) (TG.del 2 ?_);cases h6;intro a w d g;exact ⟨g.defers,V,[_],d.selH [2,2] J,J,J⟩
 refine eG fG J J J (fun w H c le=>iY (fH b.state.moved 8 q)) ?_;cases p;intro a w d g;exact ⟨g.defers,V,[_],d.selH [0,0] J,J,J⟩

theorem aJp (K:H.le (hp W)) {m:List Value} (g:aW) (p:(aZ) H m g) {n:List Value} (h:aW) (o:(aZ) H n h) {r:Bool} (Y:ME g h=some r):Calls prog 301 #[.agg m.toArray,.agg n.toArray] W (bJ M W (.bool r)):=by
 have i:=p;obtain ⟨v,k,rfl,R⟩:=p;have j:=o;obtain ⟨x,l,rfl,V⟩:=o;refine aK (M:=M) func301 J ntmps301 J K ?_;refine C (bI J J J fun q7 K8 f=>(bI J J J fun q0 u b=>(D J (sq ?_))));obtain ⟨Z,q,y⟩:=L Y;refine eU [] [(4,.bool Z)] J ?_ ?_
 ·refine rg (aU 0 fJ J Z3 (aR G3 J ((P 1 J f).take 1) J (aU 0 fJ J Z3 (aR G3 J ((P 0 J b).take 1) J (nI J J J (A J ?_))))));by_cases c:g.number≠h.number
  ·have s:=aJ c q;refine gt c J (aU 1 fJ J Z3 (gt c J (aR G3 J (((P 1 J f).drop 1).take 1) J (gt c J (aU 1 fJ J Z3 (gt c J (aR G3 J (((P 0 J b).drop 1).take 1) J (gt c J (fZ J J J (pt c J J (A J ?_)))))))))));by_cases d:g.of=h.of
   ·have t:=aJ d s;refine gt d J (aU 2 fJ J Z3 (gt d J (aR G3 J (((P 1 J f).drop 2).take 1) J (gt d J (aU 3 fJ J Z3 (gt d J (aR G3 J (((P 0 J b).drop 3).take 1) J (gt d J (dS J J J (pt d J J (A J ?_)))))))))));by_cases e:g.from_<h.to_
    ·have z:=aJ e t;refine gt e J (aU 2 fJ J Z3 (gt e J (aR G3 J (((P 0 J b).drop 2).take 1) J (gt e J (aU 3 fJ J Z3 (gt e J (aR G3 J (((P 1 J f).drop 3).take 1) J (gt e J (dS J J J (pt e J J (a1 J ?_)))))))))));refine N ?_;cases z;exact cuE J
    have B:=aS e t;refine cC 5 J J J (decide_eq_false e) J (pf e J J (D J ?_));cases B;exact cuE J
   have F:=aS d s;refine cC 5 J J J (decide_eq_false d) J (pf d J J (A J (cC 5 J J J J J (pF J J J J (D J ?_)))));cases F;exact cuE J
  have G:=aS c q;refine cC 5 J J J (decide_eq_false c) J (pf c J J (A J (cC 5 J J J J J (pF J J J J (A J (cC 5 J J J J J (pF J J J J (D J ?_))))))));cases G;exact cuE J
 refine bH ?_;cases y;exact cK J J

theorem aJq (n:H.le (hp W)) {ce:List Value} (t:bT) (cq:(cN) H ce t) {dv:Option Addr} {dl:Nat} {choice:List Int} (m:Sl (I (bP .i64)) 1 H dv dl choice) {r:Int} (hr:MF t choice=some r):Calls prog 261 #[.agg ce.toArray,.slice dv choice.length dl] W (bJ M W (.int .i64 r)):=by
 have f:=cq;obtain ⟨bg,be,bh,bf,rfl,bp,bq⟩:=cq;have:=m.len;refine aK (M:=M) func261 J ntmps261 J n ?_;refine C (bI J J J fun q7 s ar=>(D J (C (cM pJ lC J J (P 0 J ar) J ?_))));obtain ⟨r10,hW,hX⟩:=L hr;refine gW BD J J J J (fun w H n le=>BS n t (cN.mono _ _ _ _ le.i f) hW) ?_;rintro br h ⟨_,rfl,hC⟩;refine D J (sq (C (A J (dU eO J J (A J (N ?_))))));obtain ⟨v,aa,hE⟩:=L hX
 let l:List Value:=[.int .i64 0,.int .i64 0,.int .i64 0,.int .i64 0,.slice none 0 0]
 refine gG [1,5] J (fun g a w=>∃ t0,v=.inl t0∧SJ M W H [h,s,H] [] 55 g a w) ?_ ?_
 ·refine bk ?_;refine jO [1,5,15,16] J aa (fun g s1=>(17,.int .i64 (s1:Int))::g) ?_ ?_
  ·exact cuE J
  intro j s1 y0 hF B;refine C (dS J J J (N (sq ?_)));refine ci J (fun F=>?_) (fun F=>?_)
  ·have ac:=aJ F hF;refine sk (sq (bk (C ?_)));obtain ⟨q,G,ae⟩:=L ac;obtain ⟨p0,rfl⟩:=m.adr G;have ag:=m.atF G;refine cP eO Z3 J J J J (aT G) (aR G3 J (P 2 J ag) J (D J (C (A J (A J ?_)))));obtain ⟨bi,ai,p⟩:=hC;obtain ⟨c0,aj,hG⟩:=p.get (k:=q) (zc:=l) (z:=(⟨0,0,0,0,([]:List aE)⟩:aW)) ⟨_,_,J,Sl.o⟩;refine QP (ke:=fT) q tT U3 zeroValue234 J J J (mS 0 J ai) aj ?_;have bj:=hG;obtain ⟨a0,c1,rfl,bl⟩:=hG;refine fd fJ J J J G3 J (D J (sq ?_));obtain ⟨t3,hI,hJ⟩:=L ae;refine eU [1,5,15,16,17] [(32,.bool t3)] J ?_ ?_
   ·refine rg (A J (nI J J J (A J ?_)));by_cases e:((eN r10 q).getD (⟨0,0,0,0,([]:List aE)⟩:aW)).of≠0
    ·have ak:=aJ e hI;refine gt e J (A J (gt e J (A J (gt e J ?_))));obtain ⟨r0,am,an⟩:=L ak;refine bB GN J (fun w H n le=>HE n (m.mono (I.mono _) le.u) (((eN r10 q).getD (⟨0,0,0,0,([]:List aE)⟩:aW)).of) am) (gt e J (nt J J (pt e J J (N ?_))));cases an;exact cuE J
    have ao:=aS e hI;refine cC 4 J J J (decide_eq_false e) J (pf e J J (N ?_));cases ao;exact cuE J
   refine cb J (fun K=>?_) (fun K=>?_)
   ·have aq:=aJ K hJ;refine C (D J (bH ?_));cases aq;obtain rfl:=dF.out B;cases hE;exact cK J J
   have au:=bK K hJ;refine sk (rg (dN J J J (by omega) (A J (N ?_))));cases au;intro a w c b;exact ⟨_,B,c,b.cuE J⟩
  have aw:=aS F hF;refine xt J ?_;cases aw;obtain rfl:=dF.out B;intro a w c b;exact ⟨_,J,c,b.cuE J⟩
 rintro a w ⟨t0,rfl,c,b⟩;apply TG.ap ?_ c b;refine sq (C (A J (dU eO J J (A J (N ?_)))));obtain ⟨x,ax,hK⟩:=L hE;refine jn (fun a w=>∃ t1,x=.inl t1∧SJ M W H [h,s,H] [] 55 [] a w) ?_ ?_
 ·refine bk ?_;refine jO [1,5,34,35] J ax (fun g s2=>(36,.int .i64 (s2:Int))::g) ?_ ?_
  ·exact cuE J
  intro j s2 y1 hL R;refine C (dS J J J (N (sq ?_)));refine ci J (fun V=>?_) (fun V=>?_)
  ·have ay:=aJ V hL;refine sk (sq (bk (C ?_)));obtain ⟨x1,Y,az⟩:=L ay;obtain ⟨p1,rfl⟩:=m.adr Y;have a4:=m.atF Y;refine cP eO Z3 J J J J (aT Y) (aR G3 J (P 2 J a4) J (D J (C (A J (dU eO J J (A J (N ?_)))))));obtain ⟨y,a5,hM⟩:=L az;refine gG [1,5,34,35,36] J (fun g a w=>∃ t2,y=.inl t2∧SJ M W H [h,s,H] [] 55 g a w) ?_ ?_
   ·refine bk ?_;refine jO [1,5,10,34,35,36,40,41] J a5 (fun g s3=>(42,.int .i64 (s3:Int))::g) ?_ ?_
    ·exact cuE J
    intro j s3 y2 hN Z;refine C (dS J J J (N (sq ?_)));refine ci J (fun h9=>?_) (fun h9=>?_)
    ·have a6:=aJ h9 hN;refine sk (sq (bk (C ?_)));obtain ⟨x2,hO,a7⟩:=L a6;have a8:=m.atF hO;refine cP eO Z3 J J J J (aT hO) (aR G3 J (P 2 J a8) J (D J (C (A J (A J ?_)))));obtain ⟨bm,hP,d⟩:=hC;obtain ⟨c2,a9,hR⟩:=d.get (k:=x1) (zc:=l) (z:=(⟨0,0,0,0,([]:List aE)⟩:aW)) ⟨_,_,J,Sl.o⟩;refine QP (ke:=fT) x1 tT U3 zeroValue234 J J J (mS 0 J hP) a9 ?_;have ba:=hR;obtain ⟨a2,c3,rfl,bn⟩:=hR;refine A J (A J ?_);obtain ⟨c4,bb,hT⟩:=d.get (k:=x2) (zc:=l) (z:=(⟨0,0,0,0,([]:List aE)⟩:aW)) ⟨_,_,J,Sl.o⟩;refine QP (ke:=fT) x2 tT U3 zeroValue234 J J J (mS 0 J hP) bb ?_;have bc:=hT;obtain ⟨a3,c5,rfl,bo⟩:=hT;obtain ⟨r1,bd,hV⟩:=L a7;refine bB aFr J (fun w H n le=>aJp n ((eN r10 x1).getD (⟨0,0,0,0,([]:List aE)⟩:aW)) (aZ.mono _ _ _ _ le.o ba) ((eN r10 x2).getD (⟨0,0,0,0,([]:List aE)⟩:aW)) (aZ.mono _ _ _ _ le.o bc) bd) (N ?_);refine cb J (fun hB=>?_) (fun hB=>?_)
     ·have ab:=aJ hB hV;refine C (D J (bH ?_));cases ab;obtain rfl:=dF.out Z;cases hM;obtain rfl:=dF.out R;cases hK;exact cK J J
     have ad:=bK hB hV;refine sk (rg (dN J J J (by omega) (A J (N ?_))));cases ad;intro a w c b;exact ⟨_,Z,c,b.cuE J⟩
    have af:=aS h9 hN;refine xt J ?_;cases af;obtain rfl:=dF.out Z;intro a w c b;exact ⟨_,J,c,b.cuE J⟩
   rintro a w ⟨t2,rfl,c,b⟩;apply TG.ap ?_ c b;refine rg (dN J J J (by omega) (A J (N ?_)));cases hM;intro a w c b;exact ⟨_,R,c,b.cuE J⟩
  have ah:=aS V hL;refine xt J ?_;cases ah;obtain rfl:=dF.out R;intro a w c b;exact ⟨_,J,c,b.cut tv⟩
 rintro a w ⟨t1,rfl,c,b⟩;apply TG.ap ?_ c b;refine C (D J (bH ?_));cases hK;exact cK J J

theorem aJr (g:H.le (hp W)) {ce:List Value} (l:bT) (cq:(cN) H ce l) {dv:Option Addr} {dl:Nat} {choice:List Int} (m:Sl (I (bP .i64)) 1 H dv dl choice) {r:Int} (hr:MG l choice=some r):Calls prog 202 #[.agg ce.toArray,.slice dv choice.length dl] W (bJ M W (.int .i64 r)):=by
 have b:=cq;obtain ⟨ai,ag,aj,ah,rfl,ao,aq⟩:=cq;have:=m.len;refine aK (M:=M) func202 J ntmps202 J g ?_;refine C (bI J J J fun q7 K8 h=>(D J (sq (C (cM pJ lC J J (P 0 J h) J ?_)))));obtain ⟨r10,hK,h8⟩:=L hr;refine bB SZ J (fun w H g le=>UC g l (cN.mono _ _ _ _ le.i b) hK) (D J (C (A J (nI J J J (N ?_)))));refine ci J (fun v=>?_) (fun v=>?_)
 ·have hL:=aJ v h8;refine C (A J (D J (bH ?_)));cases hL;exact cK J J
 have hM:=aS v h8;refine sk (C (cM pJ lC J J (P 0 J h) J ?_));obtain ⟨r0,hN,hO⟩:=L hM;refine gW BD J J J J (fun w H g le=>BS g l (cN.mono _ _ _ _ le.i b) hN) ?_;rintro ar s ⟨_,rfl,hP⟩;refine D J (sq (C (A J (dU eO J J (A J (N ?_))))));obtain ⟨t,hR,h9⟩:=L hO;refine gG [1,2] J (fun l_ a w=>∃ t0,t=.inl t0∧SJ M W H [s,K8,H] [] 50 l_ a w) ?_ ?_
 ·refine bk ?_;refine jO [1,2,6,16,17] J hR (fun l_ s1=>(18,.int .i64 (s1:Int))::l_) ?_ ?_
  ·exact cuE J
  intro j s1 y0 hB x;refine C (dS J J J (N (sq ?_)));refine ci J (fun y=>?_) (fun y=>?_)
  ·have hT:=aJ y hB;refine sk (sq (bk (C (A J ?_))));obtain ⟨q,B,hV⟩:=L hT;obtain ⟨p0,rfl⟩:=m.adr B;have hW:=m.atF B;refine cP eO Z3 J J J J (aT B) (aR G3 J (P 2 J hW) J (a1 J (D J (sq ?_))));obtain ⟨t1,hC,hE⟩:=L hV;refine eU [1,2,6,16,17,18] [(45,.bool t1)] J ?_ ?_
   ·refine rg (A J (A J ?_));obtain ⟨ak,hX,f⟩:=hP;obtain ⟨c0,G,hF⟩:=f.get (k:=q) (zc:=[.int .i64 0,.int .i64 0,.int .i64 0,.int .i64 0,.slice none 0 0]) (z:=(⟨0,0,0,0,([]:List aE)⟩:aW)) ⟨_,_,J,Sl.o⟩;refine QP (ke:=fT) q tT U3 zeroValue234 J J J (mS 0 J hX) G ?_;have am:=hF;obtain ⟨a0,c1,rfl,an⟩:=hF;refine fd fJ J J J G3 J (A J (nI J J J (A J ?_)));by_cases e:((eN r0 q).getD (⟨0,0,0,0,([]:List aE)⟩:aW)).number≠q
    ·have K:=aJ e hC;refine cC 2 J J J (decide_eq_true e) J (pt e J J (A J (cC 3 J J J J J (gU J J J (gU J J J (gU J J J (gU J J J (gU J J J (gU J J J (gU J J J (gF J J J J ?_)))))))))));refine pT J J J J (N ?_);cases K;exact cuE J
    have hG:=aS e hC;refine dJ e J (A J (dJ e J (fZ J J J (pf e J J (A J ?_)))));by_cases c:q=0
    ·have R:=aJ c hG;refine cC 3 J J J (decide_eq_true c) J (gU J J J (gU J J J (gU J J J (gU J J J (gU J J J (gU J J J (gU J J J (BZ c J (pt c J J (N ?_))))))))));cases R;exact cuE J
    have hI:=aS c hG;refine dJ c J (A J (dJ c J (lL J J J (dJ c J (A J ?_)))));by_cases d:0<(s1:Int)
    ·have V:=aJ d hI;refine gt d J (A J (gt d J (A J (gt d J (A J (gt d J (qH J J J (by omega) (gt d J ?_))))))));obtain ⟨x1,hJ,Y⟩:=L V;have Z:=m.atF hJ;refine cP eO Z3 J J J (by omega) (aT hJ) (gt d J (aR G3 J (P 2 J Z) J (gt d J (jN J J J (dJ c J (pt d J J (pf c J J (N ?_))))))));cases Y;exact cuE J
    have aa:=aS d hI;refine cC 7 J J J (decide_eq_false d) J (dJ c J (pf d J J (pf c J J (N ?_))));cases aa;exact cuE J
   refine cb J (fun F=>?_) (fun F=>?_)
   ·have ab:=aJ F hE;refine C (D J (bH ?_));cases ab;obtain rfl:=dF.out x;cases h9;exact cK J J
   have ac:=bK F hE;refine sk (rg (dN J J J (by omega) (A J (N ?_))));cases ac;intro a w p n;exact ⟨_,x,p,n.cuE J⟩
  have ad:=aS y hB;refine xt J ?_;cases ad;obtain rfl:=dF.out x;intro a w p n;exact ⟨_,J,p,n.cuE J⟩
 rintro a w ⟨t0,rfl,p,n⟩;apply TG.ap ?_ p n;refine C (cM pJ lC J J (P 1 J h) J (A J ?_));obtain ⟨r1,ae,af⟩:=L h9;refine bB aFb J (fun w H g le=>aJq g l (cN.mono _ _ _ _ le.u b) (m.mono (I.mono _) le.u) ae) (D J (bH ?_));cases af;exact cK J J

theorem aJs (z:H.le (hp W)) {l:Option Addr} {k:Nat} {bj:List Int} (d:Sl (I (bP .i64)) 1 H l k bj) {r:Int} (B:MH bj=some r):Calls prog 265 #[.slice l bj.length k] W (bJ M W (.int .i64 r)):=by
 have:=d.len;refine aK (M:=M) func265 J ntmps265 J z ?_;refine C (D J (sq (C (A J (dU eO J J (A J (N ?_)))))));obtain ⟨e,s,m⟩:=L B;refine jn (fun a w=>∃ q,e=.inl q∧SJ M W H [H] [] 15 [] a w) ?_ ?_
 ·refine bk ?_;refine jO [5,6] J s (fun F p=>(7,.int .i64 (p:Int))::F) ?_ ?_
  ·exact cuE J
  intro j p R n f;refine C (dS J J J (N (sq ?_)));refine ci J (fun g=>?_) (fun g=>?_)
  ·have t:=aJ g n;refine sk (sq (bk (C ?_)));obtain ⟨K,h,o⟩:=L t;obtain ⟨G,rfl⟩:=d.adr h;have u:=d.atF h;refine cP eO Z3 J J J J (aT h) (aR G3 J (P 0 J u) J (D J (C (A J (nI J J J (N ?_))))));refine ci J (fun i=>?_) (fun i=>?_)
   ·have v:=aJ i o;refine C (A J (D J (bH ?_)));cases v;obtain rfl:=dF.out f;cases m;exact cK J J
   have x:=aS i o;refine sk (rg (dN J J J (by omega) (A J (N ?_))));cases x;intro a w c b;exact ⟨_,f,c,b.cuE J⟩
  have y:=aS g n;refine xt J ?_;cases y;obtain rfl:=dF.out f;intro a w c b;exact ⟨_,J,c,b.cut tv⟩
 rintro a w ⟨q,rfl,c,b⟩;apply TG.ap ?_ c b;refine C (D J (bH ?_));cases m;exact cK J J

theorem ZP (j:H.le (hp W)) {m:List Value} (d:aW) (q:(aZ) H m d) {n:List Value} (e:aW) (p:(aZ) H n e) {r:Int} (hr:xX d e=some r):Calls prog 264 #[.agg m.toArray,.agg n.toArray] W (bJ M W (.int .i64 r)):=by
 have g:=q;obtain ⟨t,k,rfl,Y⟩:=q;have h:=p;obtain ⟨u,l,rfl,Z⟩:=p;refine aK (M:=M) func264 J ntmps264 J j ?_;refine C (bI J J J fun q7 K8 c=>(bI J J J fun q1 s b=>(D J (C (aU 2 fJ J Z3 (aR G3 J (((P 1 J c).drop 2).take 1) J (aU 2 fJ J Z3 (aR G3 J (((P 0 J b).drop 2).take 1) J ?_))))))));obtain ⟨v,x⟩:=aF hr;refine qH J J J v (aU 3 fJ J Z3 (aR G3 J (((P 1 J c).drop 3).take 1) J (aU 3 fJ J Z3 (aR G3 J (((P 0 J b).drop 3).take 1) J ?_))));obtain ⟨y,z⟩:=aF x;refine qH J J J y (aU 0 fJ J Z3 (aR G3 J ((P 1 J c).take 1) J (aU 0 fJ J Z3 (aR G3 J ((P 0 J b).take 1) J ?_))));obtain ⟨B,F⟩:=aF z;refine qH J J J B (bS T12.E33 J J J J fun q0 i G f=>?_);have K:Sl (I (bP .i64)) 1 i (some q0) 3 ([(d.from_-e.from_),(d.to_-e.to_),(d.number-e.number)]:List Int):=Sl.litF (fun _=>J) (fun _=>J) G f J J J;obtain ⟨r24,R,V⟩:=L F;refine bB aFd J (fun w H j le=>aJs j (K.mono (I.mono _) le.o) R) (D J (bH ?_));cases V;exact cK J J

theorem aQc (hH:H.le (hp W)) {dg:Value} {yield:aW→Option Bool} (dx:eP M prog H dg (fC (Vr aZ) Value.bool yield)) {ay:Addr} {dh:List Value} (bx:bT) (bc:aN H ay dh) (bf:(cN) H dh bx) {ff:Addr} (gc:Int) (fl:aN H ff [.int .i64 gc]) {r:Unit} (hr:aC2 yield bx gc=some r):Calls prog 262 #[dg,.pointer (some ay),.pointer (some ff)] W (bJ M W (.tuple #[])):=by
 have k:=dx;obtain ⟨ae,ab,aa,rfl,_,_⟩:=dx;have ag:=bf;obtain ⟨bg,bd,bh,be,rfl,bo,Y⟩:=bf;have:=Y.len;refine aK (M:=M) func262 J ntmps262 J hH ?_;refine C (D J (sq (C (aU 1 vW J yJ (aR BH J ((P 0 J bc).drop 1) J (dU uB J J (A J (N ?_))))))));refine TG.nilRow 2 234 5 ?_;have af:Rows (aZ) 5 H [] ([]:List aW):=tv;refine TG.as 2 (z:=S.rows none 0 234 5 [] ([]:List aW)) J J ?_;obtain ⟨q,hJ,hL⟩:=L hr;refine gG [0] J (fun Z a w=>∃ (a2:Option Addr) (c2:Nat) (c5:List (List Value)) (f:Hp),St M W H [f,H] [(2,S.rows a2 c2 234 5 c5 q)] w∧bQ [] 38 a ((4,.slice a2 q.length c2)::Z)∧Rows (aZ) 5 f c5 q) ?_ ?_
 ·refine bk ?_;refine jZ [0,2,10,11] J hJ (fun Z s1 a w=>∃ (a0:Option Addr) (c1:Nat) (o:List (List Value)) (d:Hp),St M W H [d,H] [(2,S.rows a0 c1 234 5 o s1.2)] w∧bQ [] 38 a ((4,.slice a0 s1.2.length c1)::(12,.int .i64 (s1.1:Int))::Z)∧Rows (aZ) 5 d o s1.2) ?_ ?_
  ·intro a w c b;exact ⟨none,0,[],H,c.selH [0,0] J,b.cuE J,af⟩
  rintro j s1 y0 h7 h8 a w ⟨a0,c1,o,d,c,b,e⟩;refine TG.ap ?_ c b;refine C (dS J J J (N (sq ?_)));refine ci J (fun h1=>?_) (fun h1=>?_)
  ·have hM:=aJ h1 h7;refine sk (sq (bk (C ?_)));obtain ⟨m,h2,hN⟩:=L hM;obtain ⟨p0,rfl⟩:=Y.adr h2;obtain ⟨c9,bi,hO,h9⟩:=Y.at h2;have hP:=h9;obtain ⟨a4,c6,rfl,bj⟩:=h9;refine cP uB iE J J J J (aT h2) (cM nU iE J J (P 1 J hO) J (va zeroValue234 iE J J J J J J J J fun q0 ac n=>(N (C (aU 1 fJ J Z3 (aR G3 J (((P 0 J n).drop 1).take 1) J (aR G3 J (P 2 J fl) J (fZ J J J (N ?_)))))))));obtain ⟨t0,hB,hR⟩:=L hN;refine gG [0,2,10,11,12] J (fun Z a w=>∃ (a3:Option Addr) (c3:Nat) (c4:List (List Value)) (g:Hp),St M W H [g,ac,d,H] [(2,S.rows a3 c3 234 5 c4 t0)] w∧bQ [] 38 a ((4,.slice a3 t0.length c3)::Z)∧Rows (aZ) 5 g c4 t0) ?_ ?_
   ·refine ci J (fun h3=>?_) (fun h3=>?_)
    ·have hT:=aJ h3 hB;refine rg (A J (cM nU iE J J (P 0 J n) J ?_));obtain ⟨hV,hW⟩:=aF hT
     let p:List Value:=[.int .i64 m.number,.int .i64 m.of,.int .i64 m.from_,.int .i64 m.to_,.slice a4 m.words.length c6]
     refine TG.pack (fun K=>Rows (aZ) 5 K (o++[p]) (s1.2++[m])) (fun H le=>(e.mono (aZ.mono) le.i).snoc (cs:=p) (x:=m) J J (aZ.mono _ _ _ _ le.u hP)) fun ad R=>(VW 2 p m (l:=s1.2) (css:=o) T12.E30 J J J J J J J J J J J J hV fun a5 c7 u0=>(D J ?_));cases hW;intro a w c b;exact ⟨a5,c7,(o++[[Value.int .i64 m.number,Value.int .i64 m.of,Value.int .i64 m.from_,Value.int .i64 m.to_,Value.slice a4 m.words.length c6]]),ad,c,b.cuE J,R⟩
    have hX:=aS h3 hB;refine sk ?_;cases hX;intro a w c b;exact ⟨a0,c1,o,d,c.selH [1,0,1,2] J,b.cuE J,e⟩
   rintro a w ⟨a3,c3,c4,g,c,b,G⟩;refine TG.ap ?_ c b;refine rg (dN J J J (by omega) (A J (N ?_)));cases hR;intro a w c b;exact ⟨_,h8,a3,c3,c4,g,c.selH [0,3] J,b.cuE J,G⟩
  have aj:=aS h1 h7;refine xt J ?_;cases aj;obtain rfl:=dF.out h8;intro a w c b;exact ⟨a0,c1,o,d,c,b.cuE J,e⟩
 rintro a w ⟨a2,c2,c5,f,c,b,F⟩;apply TG.ap ?_ c b;refine C (A J ?_);obtain ⟨ak,am⟩:=aF hL;obtain ⟨l0,hC,an⟩:=L am;refine WQ 2 0 rfl (aZ.mono) srt263 YE J J J J F J J (fun H le=>⟨264,[],[],rfl,YF,fun w_ K_ ah v_ hK hw hs=>by obtain ⟨bp,bq,a9,ba,r_,rfl,s,y,hx,rfl⟩:=hs;obtain ⟨_,rfl,s⟩:=s;obtain ⟨_,rfl,y⟩:=y;exact ZP (H:=K_) hw  a9 s ba y  hx⟩) ak hC fun c8 V=>?_;have ao:=jE hC;refine N (C (A J (TG.len 2 J fun _=>(dU uB J J (A J (N ?_))))));obtain ⟨ai,aq,hE⟩:=L an;refine jn (fun a w=>∃ t1,ai=.inl t1∧SJ M W H [f,H] [(2,S.rows a2 c2 234 5 c8 l0)] 38 [] a w) ?_ ?_
 ·refine bk ?_;refine jO [0,27,28] J aq (fun Z s2=>(29,.int .i64 (s2:Int))::Z) ?_ ?_
  ·exact cuE J
  intro j s2 y1 hF h4;refine C (dS J J J (N (sq ?_)));refine ci J (fun h5=>?_) (fun h5=>?_)
  ·have ar:=aJ h5 hF;refine sk (sq (bk (C ?_)));obtain ⟨x1,h6,au⟩:=L ar;refine TG.addr 2 J (fR h6) fun b0 h=>?_;subst h;obtain ⟨cR,hG,bl,bm,s3⟩:=sER V h6;have aw:=hG;obtain ⟨a6,cS,rfl,bn⟩:=hG;refine cP uB iE J J J J (Nat.lt_of_lt_of_eq (aT h6) ao) (cM nU iE J J (s3 (t:=2) J) J (va zeroValue234 iE J J J J J J J J fun q1 bb B=>(N (C (A J (cM nU iE J J (P 0 J B) J ?_))))));obtain ⟨r0,ax,hI⟩:=L au;refine mT (v:=.bool r0) k 2 J J J J (fun H le=>⟨_,x1,r0,J,⟨_,J,(aZ.mono _ _ _ _ le.i aw)⟩,ax,J⟩) (nt J J (N ?_));refine cb J (fun h0=>?_) (fun h0=>?_)
   ·replace h0:=oI h0
    have az:=bK h0 hI;refine bH ?_;cases az;obtain rfl:=dF.out h4;cases hE;intro a w c b;refine eF b J ?_;exact ⟨J,c.ext⟩
   replace h0:=oJ h0
   have a7:=aJ h0 hI;refine sk (rg (dN J J J (by omega) (A J (N ?_))));cases a7;intro a w c b;exact ⟨_,h4,c.selH [1,2] J,b.cuE J⟩
  have a8:=aS h5 hF;refine xt J ?_;cases a8;obtain rfl:=dF.out h4;intro a w c b;exact ⟨_,J,c,b.cut tv⟩
 rintro a w ⟨t1,rfl,c,b⟩;apply TG.ap ?_ c b;cases hE;intro a w c b;refine eF b J ?_;exact ⟨J,c.ext⟩

theorem ZQ (hH:H.le (hp W)) {ce:List Value} (cm:bT) (cq:(cN) H ce cm) {dv:Option Addr} {dl:Nat} {choice:List Int} (cw:Sl (I (bP .i64)) 1 H dv dl choice) {r:List aE×List bL×Int} (hr:GB cm choice=some r):Calls prog 146 #[.agg ce.toArray,.slice dv choice.length dl] W (eY M H W (fun v K=>∃ (em:Option Addr) (dq:Nat) (d2:Option Addr) (dr:Nat),v=.tuple #[.slice em r.1.length dq,.slice d2 r.2.1.length dr,.int .i64 r.2.2]∧Sl (I bY) 1 K em dq r.1∧Sl (I cD) 2 K d2 dr r.2.1)):=by
 have ak:=cq;obtain ⟨d2,ih,ip,ii,rfl,i7,eh⟩:=cq;have:=eh.len;refine aK (M:=M) func146 J ntmps146 J hH ?_;refine C (bI J J J fun q7 K8 eg=>(bI J J J fun q0 Y ds=>(al 1 zeroValue22 J J fun g=>(al 2 zeroValue235 J J fun G=>(D J (sq (C (cM pJ lC J J (P 1 J eg) J ?_))))))));refine aR rN J (P 0 J ds) J ?_;obtain ⟨r3,fl,hE⟩:=L hr;refine bB aEl J (fun w H hH le=>aJr hH cm (cN.mono _ _ _ _ le.u ak) (cw.mono (I.mono _) le.u) fl) (D J (C (A J (nI J J J (N ?_)))));refine ci J (fun h1=>?_) (fun h1=>?_)
 ·have fq:=aJ h1 hE;refine C (A J (eQ 1 AA J J J J J J J (eQ 2 MZ J J J J J J J (D J (bH ?_)))));cases fq;intro a w c d;refine rc3 d J (cU.cell J (iV wF (cW (c.get (t:=1) J)) J)) (cU.cell J (iV GR (cW (c.get (t:=2) J)) J)) (cU.tmp J) ?_;exact ⟨⟨_,_,_,_,J,Sl.o,Sl.o⟩,c.ext⟩
 have fu:=aS h1 hE;refine sk (C (al 3 zeroValue295 J J fun k=>(N (C (fn J J J (eQ 3 YR J J J J J J J (N (C ?_))))))));refine aR MW J (sO 3 J) J (TG.nilRow 22 298 2 (TG.nilRow 23 9 1 ?_));have k0:∀ (n_:Nat) (s3:Int×List aE×List bL) (r0:List aE×List bL),mA cm choice n_ s3=some r0→∀ (V:Hp) (σr:aM) (w:World) (a2:Option Addr) (c4:Nat) (a3:Option Addr) (c5:Nat),St M W H [V] ([(23,S.list a2 c4 9 1 bY s3.2.1),(22,S.list a3 c5 298 2 cD s3.2.2),(3,bE k 295 [.func (.func 203) #[] #[.pointer (some q7),.pointer (some (⟨g,0,none⟩)),.pointer (some (⟨G,0,none⟩)),.pointer (some q0),.pointer (some (⟨k,0,none⟩))]]),(2,bE G 235 [.slice a3 s3.2.2.length c5]),(1,bE g 22 [.slice a2 s3.2.1.length c4])]++σr) w→mM [Y,K8,H] V→Calls prog 203 #[.int .i64 s3.1,.pointer (some q7),.pointer (some (⟨g,0,none⟩)),.pointer (some (⟨G,0,none⟩)),.pointer (some q0),.pointer (some (⟨k,0,none⟩))] w (fI M W H V σr (fun e K A'=>∃ (aN2:Option Addr) (cG2:Nat) (aO2:Option Addr) (cH2:Nat),e=.returned (.tuple #[])∧A'=[(23,S.list aN2 cG2 9 1 bY r0.1),(22,S.list aO2 cH2 298 2 cD r0.2),(3,bE k 295 [.func (.func 203) #[] #[.pointer (some q7),.pointer (some (⟨g,0,none⟩)),.pointer (some (⟨G,0,none⟩)),.pointer (some q0),.pointer (some (⟨k,0,none⟩))]]),(2,bE G 235 [.slice aO2 r0.2.length cH2]),(1,bE g 22 [.slice aN2 r0.1.length cG2])])):=by
  intro n_
  induction n_ with
  | zero=>intro _ _ hr;cases hr
  | succ n_ ih_ =>
   intro s3 r0 hr V σr w a2 c4 a3 c5 c hV;have c:=c.below hV;unfold mA tK at hr;refine DR (M:=M) func203 J ntmps203 J c ?_;refine C (bI J J J fun q5 n ac=>(N (C (cM pJ lC J J (P 3 J eg) J (aR G3 J (P 0 J ac) J ?_)))));obtain ⟨r2,fx,f0⟩:=L hr;refine gW XX J J J J (fun w H hH le=>ZO hH cm (cN.mono _ _ _ _ le.x ak) s3.1 fx) ?_;rintro v_ p ⟨e1,d9,rfl,h0⟩;refine al 4 zeroValue22 J J fun b5=>(al 5 zeroValue3 J J fun b3=>(eQ 4 AA J J J J J J J (eQ 5 Z3 J J J J J J J (N (C (fn J J J (va zeroValue295 YR J J J J J J J J fun q6 q ai=>(N (sq (sq ?_))))))))));refine rg (cM pJ lC J J (P 5 J eg) J (aR G3 J (P 2 J ac) J (WG aEm func206 J ntmps206 J J J J (C (bI J J J fun q8 s cz=>(bI J J J fun q9 y da=>(D J (C ?_))))))));refine fn J J J (D J (bH ?_));intro a w c d;refine dT d J J ?_;refine ⟨_,J,fun a d=>?_⟩;refine fB J d c (N (bk ?_));obtain ⟨t1,f3,f6⟩:=L f0
   let Z:S:=bE b5 22 [.slice e1 r2.length d9]
   refine WE 6 7 aFc func262 J ntmps262 J J (fun l0 b f w=>(∃ (bm:Option Addr) (b9:Nat) (bn:Option Addr) (ca:Nat),St M W H [y,s,q,p,n,V,Y,K8,H] ([(6,S.blk l0 (f .ready none)),(7,S.blk b (.deferred (some []))),(5,bE b3 3 [.int .i64 t1.1]),(4,Z),(23,S.list bm b9 9 1 bY t1.2.1),(22,S.list bn ca 298 2 cD t1.2.2),(3,bE k 295 [.func (.func 203) #[] #[.pointer (some q7),.pointer (some (⟨g,0,none⟩)),.pointer (some (⟨G,0,none⟩)),.pointer (some q0),.pointer (some (⟨k,0,none⟩))]]),(2,bE G 235 [.slice bn t1.2.2.length ca]),(1,bE g 22 [.slice bm t1.2.1.length b9])]++σr) w)) ?_ ?_
   ·intro l0 b f t6 dp aa;refine C (D J (sq (C (aU 1 vW J yJ (aR BH J ((P 1 J cz).drop 1) J (dU uB J J (A J (N ?_))))))));refine TG.nilRow 9 234 5 ?_;have di:Rows (aZ) 5 H [] ([]:List aW):=tv;refine TG.as 9 (z:=S.rows none 0 234 5 [] ([]:List aW)) J J ?_;obtain ⟨ed,f9,gc⟩:=L f3
    let dB:S:=bE G 235 [.slice a3 s3.2.2.length c5]
    let ea:S:=S.list a3 c5 298 2 cD s3.2.2
    let d3:S:=S.list a2 c4 9 1 bY s3.2.1
    let d4:List Value:=[.slice a2 s3.2.1.length c4]
    let d5:S:=bE b3 3 [.int .i64 0]
    refine gG [0] J (fun l_ a w=>∃ (ao:Option Addr) (c0:Nat) (d6:List (List Value)) (R:Hp),St M W H [R,y,s,q,p,n,V,Y,K8,H] ([(9,S.rows ao c0 234 5 d6 ed),(6,S.blk l0 (f .ready none)),(7,S.blk b (.deferred (some []))),(5,d5),(4,Z),(23,d3),(22,ea),(3,bE k 295 [.func (.func 203) #[] #[.pointer (some q7),.pointer (some (⟨g,0,none⟩)),.pointer (some (⟨G,0,none⟩)),.pointer (some q0),.pointer (some (⟨k,0,none⟩))]]),(2,dB),(1,bE g 22 d4)]++σr) w∧bQ [] 38 a ((4,.slice ao ed.length c0)::l_)∧Rows (aZ) 5 R d6 ed) ?_ ?_
    ·refine bk ?_;refine jZ [0,2,10,11] J f9 (fun l_ s4 a w=>∃ (aq:Option Addr) (ar:Nat) (c2:List (List Value)) (ab:Hp),St M W H [ab,y,s,q,p,n,V,Y,K8,H] ([(9,S.rows aq ar 234 5 c2 s4.2),(6,S.blk l0 (f .ready none)),(7,S.blk b (.deferred (some []))),(5,d5),(4,Z),(23,d3),(22,ea),(3,bE k 295 [.func (.func 203) #[] #[.pointer (some q7),.pointer (some (⟨g,0,none⟩)),.pointer (some (⟨G,0,none⟩)),.pointer (some q0),.pointer (some (⟨k,0,none⟩))]]),(2,dB),(1,bE g 22 d4)]++σr) w∧bQ [] 38 a ((4,.slice aq s4.2.length ar)::(12,.int .i64 (s4.1:Int))::l_)∧Rows (aZ) 5 ab c2 s4.2) ?_ ?_
     ·intro a w c d;exact ⟨none,0,[],H,c.selH [8,0,1,2,3,4,5,6,7,8] J,d.cuE J,di⟩
     rintro j s4 y0 hG hI a w ⟨aq,ar,c2,ab,c,d,ah⟩;refine TG.ap ?_ c d;refine C (dS J J J (N (sq ?_)));refine ci J (fun h2=>?_) (fun h2=>?_)
     ·have gi:=aJ h2 hG;refine sk (sq (bk (C ?_)));obtain ⟨x0,h3,gn⟩:=L gi;obtain ⟨p2,rfl⟩:=eh.adr h3;obtain ⟨iq,ix,gr,hJ⟩:=eh.at h3;have gv:=hJ;obtain ⟨ek,en,rfl,iy⟩:=hJ;refine cP uB iE J J J J (aT h3) (cM nU iE J J (P 9 J gr) J (va zeroValue234 iE J J J J J J J J fun i8 du aj=>(N (C (aU 1 fJ J Z3 (aR G3 J (((P 0 J aj).drop 1).take 1) J (aR G3 J (P 2 J da) J (fZ J J J (N ?_)))))))));obtain ⟨t5,hL,gy⟩:=L gn;refine gG [0,2,10,11,12] J (fun l_ a w=>∃ (bo:Option Addr) (cc:Nat) (cd:List (List Value)) (af:Hp),St M W H [af,du,ab,y,s,q,p,n,V,Y,K8,H] ([(9,S.rows bo cc 234 5 cd t5),(6,S.blk l0 (f .ready none)),(7,S.blk b (.deferred (some []))),(5,d5),(4,Z),(23,d3),(22,ea),(3,bE k 295 [.func (.func 203) #[] #[.pointer (some q7),.pointer (some (⟨g,0,none⟩)),.pointer (some (⟨G,0,none⟩)),.pointer (some q0),.pointer (some (⟨k,0,none⟩))]]),(2,dB),(1,bE g 22 d4)]++σr) w∧bQ [] 38 a ((4,.slice bo t5.length cc)::l_)∧Rows (aZ) 5 af cd t5) ?_ ?_
      ·refine ci J (fun h4=>?_) (fun h4=>?_)
       ·have g2:=aJ h4 hL;refine rg (A J (cM nU iE J J (P 0 J aj) J ?_));obtain ⟨g5,g8⟩:=aF g2
        let ec:List Value:=[.int .i64 x0.number,.int .i64 x0.of,.int .i64 x0.from_,.int .i64 x0.to_,.slice ek x0.words.length en]
        refine TG.pack (fun K=>Rows (aZ) 5 K (c2++[ec]) (s4.2++[x0])) (fun H le=>(ah.mono (aZ.mono) le.i).snoc (cs:=ec) (x:=x0) J J (aZ.mono _ _ _ _ (le.at 10 J) gv)) fun dw dm=>(VW 9 ec x0 (l:=s4.2) (css:=c2) T12.E30 J J J J J J J J J J J J g5 fun e2 e9 u0=>(D J ?_));cases g8;intro a w c d;exact ⟨e2,e9,(c2++[[Value.int .i64 x0.number,Value.int .i64 x0.of,Value.int .i64 x0.from_,Value.int .i64 x0.to_,Value.slice ek x0.words.length en]]),dw,c,d.cuE J,dm⟩
       have gT:=aS h4 hL;refine sk ?_;cases gT;intro a w c d;exact ⟨aq,ar,c2,ab,c.selH [1,0,1,2,3,4,5,6,7,8,9,10] J,d.cuE J,ah⟩
      rintro a w ⟨bo,cc,cd,af,c,d,dk⟩;refine TG.ap ?_ c d;refine rg (dN J J J (by omega) (A J (N ?_)));cases gy;intro a w c d;exact ⟨_,hI,bo,cc,cd,af,c.selH [0,3,4,5,6,7,8,9,10,11] J,d.cuE J,dk⟩
     have hc:=aS h2 hG;refine xt J ?_;cases hc;obtain rfl:=dF.out hI;intro a w c d;exact ⟨aq,ar,c2,ab,c,d.cuE J,ah⟩
    rintro a w ⟨ao,c0,d6,R,c,d,dj⟩;apply TG.ap ?_ c d;refine C (A J ?_);obtain ⟨hf,hi⟩:=aF gc;obtain ⟨l1,hM,hl⟩:=L hi;refine WQ 9 0 rfl (aZ.mono) srt263 YE J J J J dj J J (fun H le=>⟨264,[],[],rfl,YF,fun w_ K_ e8 v_ hK hw hs=>by obtain ⟨iS,ja,ie,ig,r_,rfl,ee,ef,hx,rfl⟩:=hs;obtain ⟨_,rfl,ee⟩:=ee;obtain ⟨_,rfl,ef⟩:=ef;exact ZP (H:=K_) hw  ie ee ig ef  hx⟩) hf hM fun c1 dn=>?_;have ho:=jE hM;refine N (C (A J (TG.len 9 J fun _=>(dU uB J J (A J (N ?_))))));obtain ⟨bf,hv,ia⟩:=L hl;refine jn (fun a w=>∃ (bp:Option Addr) (cf:Nat) (bq:Option Addr) (cg:Nat),SJ M W H [R,y,s,q,p,n,V,Y,K8,H] ([(9,S.rows ao c0 234 5 c1 l1),(6,S.blk l0 (f .ready none)),(7,S.blk b (.deferred (some []))),(5,bE b3 3 [.int .i64 bf.1]),(4,Z),(23,S.list bp cf 9 1 bY bf.2.1),(22,S.list bq cg 298 2 cD bf.2.2),(3,bE k 295 [.func (.func 203) #[] #[.pointer (some q7),.pointer (some (⟨g,0,none⟩)),.pointer (some (⟨G,0,none⟩)),.pointer (some q0),.pointer (some (⟨k,0,none⟩))]]),(2,bE G 235 [.slice bq bf.2.2.length cg]),(1,bE g 22 [.slice bp bf.2.1.length cf])]++σr) 38 [] a w) ?_ ?_
    ·refine bk ?_;refine jZ [0,27,28] J hv (fun l_ s5 a w=>∃ (a4:Option Addr) (c6:Nat) (a5:Option Addr) (c7:Nat),SJ M W H [R,y,s,q,p,n,V,Y,K8,H] ([(9,S.rows ao c0 234 5 c1 l1),(6,S.blk l0 (f .ready none)),(7,S.blk b (.deferred (some []))),(5,bE b3 3 [.int .i64 s5.2.1]),(4,Z),(23,S.list a4 c6 9 1 bY s5.2.2.1),(22,S.list a5 c7 298 2 cD s5.2.2.2),(3,bE k 295 [.func (.func 203) #[] #[.pointer (some q7),.pointer (some (⟨g,0,none⟩)),.pointer (some (⟨G,0,none⟩)),.pointer (some q0),.pointer (some (⟨k,0,none⟩))]]),(2,bE G 235 [.slice a5 s5.2.2.2.length c7]),(1,bE g 22 [.slice a4 s5.2.2.1.length c6])]++σr) 38 ((29,.int .i64 (s5.1:Int))::l_) a w) ?_ ?_
     ·intro a w c d;exact ⟨a2,c4,a3,c5,c,d.cuE J⟩
     rintro j s5 y1 hN hO a w ⟨a4,c6,a5,c7,c,d⟩;refine TG.ap ?_ c d;refine C (dS J J J (N (sq ?_)));refine ci J (fun h5=>?_) (fun h5=>?_)
     ·have fh:=aJ h5 hN;refine sk (sq (bk (C ?_)));obtain ⟨x2,h6,fm⟩:=L fh;refine TG.addr 9 J (fR h6) fun b4 h=>?_;subst h;obtain ⟨ir,hP,iz,i0,s6⟩:=sER dn h6;have i1:=hP;obtain ⟨e3,fa,rfl,i2⟩:=hP;refine cP uB iE J J J J (Nat.lt_of_lt_of_eq (aT h6) ho) (cM nU iE J J (s6 (t:=9) J) J (va zeroValue234 iE J J J J J J J J fun i9 ae db=>(N (C (A J (cM nU iE J J (P 0 J db) J ?_))))));obtain ⟨t2,fr,fv⟩:=L fm;refine yl 6 [] (L1:=(18,.agg #[.int .i64 x2.number,.int .i64 x2.of,.int .i64 x2.from_,.int .i64 x2.to_,.slice e3 x2.words.length fa])::_) J J J dp aa J J J (fun v w=>(∃ (br:Option Addr) (ch:Nat) (bt:Option Addr) (cj:Nat),v=.bool true∧St M W H [ae,R,y,s,q,p,n,V,Y,K8,H] ([(9,S.rows (some ⟨b4,0,none⟩) c0 234 5 c1 l1),(6,S.blk l0 (f .ready none)),(7,S.blk b (.deferred (some []))),(5,bE b3 3 [.int .i64 t2.1]),(4,Z),(23,S.list br ch 9 1 bY t2.2.1),(22,S.list bt cj 298 2 cD t2.2.2),(3,bE k 295 [.func (.func 203) #[] #[.pointer (some q7),.pointer (some (⟨g,0,none⟩)),.pointer (some (⟨G,0,none⟩)),.pointer (some q0),.pointer (some (⟨k,0,none⟩))]]),(2,bE G 235 [.slice bt t2.2.2.length cj]),(1,bE g 22 [.slice br t2.2.1.length ch])]++σr) w)) ?_ ?_
      ·refine rg (va zeroValue234 iE J J J J J J J J fun iR ag ad=>(N (bR 6 aa J (bk (C (aR rN J (P 9 J ds) J (aU 0 fJ J Z3 (aR G3 J ((P 0 J ad).take 1) J ?_))))))));obtain ⟨r4,fy,f1⟩:=L fr;refine bB GN J (fun w H hH le=>HE hH (cw.mono (I.mono _) (le.at 11 J)) x2.number fy) (N ?_);obtain ⟨t3,hR,f4⟩:=L f1;refine jn (fun a w=>∃ (bv:Option Addr) (ck:Nat) (bw:Option Addr) (cl:Nat),SJ M W H [ag,ae,R,y,s,q,p,n,V,Y,K8,H] ([(9,S.rows (some ⟨b4,0,none⟩) c0 234 5 c1 l1),(6,S.blk l0 (f .busy none)),(7,S.blk b (.deferred (some []))),(5,bE b3 3 [.int .i64 t3.1]),(4,Z),(23,S.list bv ck 9 1 bY t3.2.1),(22,S.list bw cl 298 2 cD t3.2.2),(3,bE k 295 [.func (.func 203) #[] #[.pointer (some q7),.pointer (some (⟨g,0,none⟩)),.pointer (some (⟨G,0,none⟩)),.pointer (some q0),.pointer (some (⟨k,0,none⟩))]]),(2,bE G 235 [.slice bw t3.2.2.length cl]),(1,bE g 22 [.slice bv t3.2.1.length ck])]++σr) 37 [] a w) ?_ ?_
       ·refine cb J (fun h7=>?_) (fun h7=>?_)
        ·have f7:=aJ h7 hR;refine C (aR MW J (P 5 J ai) J (aU 2 fJ J Z3 (aR G3 J (((P 0 J ad).drop 2).take 1) J ?_)));obtain ⟨t0,ga,gg⟩:=L f7;refine wP XY func205 J ntmps205 J J J J (fun v w=>(∃ (a6:Option Addr) (c8:Nat) (a7:Option Addr) (c9:Nat),v=.tuple #[]∧St M W H [ag,ae,R,y,s,q,p,n,V,Y,K8,H] ([(9,S.rows (some ⟨b4,0,none⟩) c0 234 5 c1 l1),(6,S.blk l0 (f .busy none)),(7,S.blk b (.deferred (some []))),(5,bE b3 3 [.int .i64 t0.1]),(4,Z),(23,S.list a6 c8 9 1 bY t0.2.1),(22,S.list a7 c9 298 2 cD t0.2.2),(3,bE k 295 [.func (.func 203) #[] #[.pointer (some q7),.pointer (some (⟨g,0,none⟩)),.pointer (some (⟨G,0,none⟩)),.pointer (some q0),.pointer (some (⟨k,0,none⟩))]]),(2,bE G 235 [.slice a7 t0.2.2.length c9]),(1,bE g 22 [.slice a6 t0.2.1.length c8])]++σr) w)) ?_ ?_
         ·obtain ⟨bg,gj,gp⟩:=L ga;refine jn (fun a w=>∃ (bx:Option Addr) (cn:Nat) (bz:Option Addr) (co:Nat),SJ M W H [ag,ae,R,y,s,q,p,n,V,Y,K8,H] ([(9,S.rows (some ⟨b4,0,none⟩) c0 234 5 c1 l1),(6,S.blk l0 (f .busy none)),(7,S.blk b (.deferred (some []))),(5,bE b3 3 [.int .i64 bg.1]),(4,Z),(23,S.list bx cn 9 1 bY bg.2.1),(22,S.list bz co 298 2 cD bg.2.2),(3,bE k 295 [.func (.func 203) #[] #[.pointer (some q7),.pointer (some (⟨g,0,none⟩)),.pointer (some (⟨G,0,none⟩)),.pointer (some q0),.pointer (some (⟨k,0,none⟩))]]),(2,bE G 235 [.slice bz bg.2.2.length co]),(1,bE g 22 [.slice bx bg.2.1.length cn])]++σr) 25 [] a w) ?_ ?_
          ·refine bk ?_;refine jZ [0,1,2,3,4,5] J gj (fun l_ s1 a w=>∃ (a0:Option Addr) (c3:Nat) (a8:Option Addr) (cR:Nat),SJ M W H [ag,ae,R,y,s,q,p,n,V,Y,K8,H] ([(9,S.rows (some ⟨b4,0,none⟩) c0 234 5 c1 l1),(6,S.blk l0 (f .busy none)),(7,S.blk b (.deferred (some []))),(5,bE b3 3 [.int .i64 s1.1]),(4,Z),(23,S.list a0 c3 9 1 bY s1.2.1),(22,S.list a8 cR 298 2 cD s1.2.2),(3,bE k 295 [.func (.func 203) #[] #[.pointer (some q7),.pointer (some (⟨g,0,none⟩)),.pointer (some (⟨G,0,none⟩)),.pointer (some q0),.pointer (some (⟨k,0,none⟩))]]),(2,bE G 235 [.slice a8 s1.2.2.length cR]),(1,bE g 22 [.slice a0 s1.2.1.length c3])]++σr) 25 l_ a w) ?_ ?_
           ·intro a w c d;exact ⟨a4,c6,a5,c7,c,d.cuE J⟩
           rintro j s1 y2 hT hW a w ⟨a0,c3,a8,cR,c,d⟩;refine TG.ap ?_ c d;refine sq (C (aR G3 J (sO 5 J) J (A J (dS J J J (N ?_)))));refine ci J (fun h8=>?_) (fun h8=>?_)
           ·have gs:=aJ h8 hT;refine sk (sq (bk ?_));obtain ⟨i3,gw⟩:=aF gs;obtain ⟨x3,h9,gz⟩:=L gw;obtain ⟨p0,rfl⟩:=h0.adr h9;have g3:=h0.atF h9;obtain ⟨g6,g9⟩:=aF gz;refine lB 12 [6] [] mixed (fun _ _ _ _ _ h=>h) (by kernel_rfl) (by kernel_rfl) (by kernel_rfl) J (by kernel_rfl) (.nil) (dc J (by kernel_rfl) tv J J (aR wF J (sO 1 J) J aG) (dc J (by kernel_rfl) tv J J (aR wF J (sO 4 J) J aG) (dc J (by kernel_rfl) tv J J (aR G3 J (sO 5 J) J aG) (dA J (cP kZ Z9 J J J (by omega) (aT h9) aG) (dA J (aR G9 J (P 7 J g3) J aG) ?_)))))
            refine uT 1 (I bY) 1 ([x3]:List aE) (I.mono _) J (bS T12.E22 J J J J fun q1 dx ha dd=>by
              have hd:Sl (I bY) 1 dx (some q1) 1 ([x3]:List aE):=Sl.litF (fun _=>J) (fun _=>J) ha dd J J J
              exact rJ (I.mono _) hd) fun il it=>?_
            let az:S:=bE b5 22 [.slice (some p0) r2.length d9]
            let bb:S:=bE G 235 [.slice a8 s1.2.2.length cR]
            let bd:S:=S.list a8 cR 298 2 cD s1.2.2
            let au:List Value:=[.slice a0 s1.2.1.length c3]
            let aw:S:=bE b3 3 [.int .i64 s1.1]
            refine tS ((s1.2.1++([x3]:List aE)).length) (fun ei ej=>([(9,S.rows (some ⟨b4,0,none⟩) c0 234 5 c1 l1),(6,S.blk l0 (f .busy none)),(7,S.blk b (.deferred (some []))),(5,aw),(4,az),(23,S.list ei ej 9 1 bY (s1.2.1++([x3]:List aE))),(22,bd),(3,bE k 295 [.func (.func 203) #[] #[.pointer (some q7),.pointer (some (⟨g,0,none⟩)),.pointer (some (⟨G,0,none⟩)),.pointer (some q0),.pointer (some (⟨k,0,none⟩))]]),(2,bb),(1,bE g 22 au)]++σr)) J (fun a w K c d hF F=>TG.pa c d (rD 23 (enc:=bY) (l:=s1.2.1) (m:=([x3]:List aE)) T12.E22 J J J J J J (hF.1 J) 0 J (fun _=>J) (fun _=>J) J g6 fun d1 d7=>F _ _)) fun d1 d7=>?_
            let eo:S:=S.list d1 d7 9 1 bY (s1.2.1++([x3]:List aE))
            refine DC.det (fun τ=>τ=([(9,S.rows (some ⟨b4,0,none⟩) c0 234 5 c1 l1),(6,S.blk l0 (f .busy none)),(7,S.blk b (.deferred (some []))),(5,aw),(4,az),(23,eo),(22,bd),(3,bE k 295 [.func (.func 203) #[] #[.pointer (some q7),.pointer (some (⟨g,0,none⟩)),.pointer (some (⟨G,0,none⟩)),.pointer (some q0),.pointer (some (⟨k,0,none⟩))]]),(2,bb),(1,bE g 22 au)]++σr)∨τ=([(9,S.rows (some ⟨b4,0,none⟩) c0 234 5 c1 l1),(6,S.blk l0 (f .busy none)),(7,S.blk b (.deferred (some []))),(5,aw),(4,az),(23,S.list a0 c3 9 1 bY s1.2.1),(22,bd),(3,bE k 295 [.func (.func 203) #[] #[.pointer (some q7),.pointer (some (⟨g,0,none⟩)),.pointer (some (⟨G,0,none⟩)),.pointer (some q0),.pointer (some (⟨k,0,none⟩))]]),(2,bb),(1,bE g 22 au)]++σr)) rfl (.inl rfl) (by kernel_rfl) ⟨.inl (.inr (rfl)),tv⟩ J J (fun τ hτ a w K c d hF=>by rcases hτ with rfl|rfl <;> exact TG.pa c d (aR GR J (sO 2 rfl) rfl aG)) ?_;refine dA J (aR G3 J (P 8 J ac) J aG) ?_;refine DC.det (fun τ=>τ=([(9,S.rows (some ⟨b4,0,none⟩) c0 234 5 c1 l1),(6,S.blk l0 (f .busy none)),(7,S.blk b (.deferred (some []))),(5,aw),(4,az),(23,eo),(22,bd),(3,bE k 295 [.func (.func 203) #[] #[.pointer (some q7),.pointer (some (⟨g,0,none⟩)),.pointer (some (⟨G,0,none⟩)),.pointer (some q0),.pointer (some (⟨k,0,none⟩))]]),(2,bb),(1,bE g 22 au)]++σr)∨τ=([(9,S.rows (some ⟨b4,0,none⟩) c0 234 5 c1 l1),(6,S.blk l0 (f .busy none)),(7,S.blk b (.deferred (some []))),(5,aw),(4,az),(23,S.list a0 c3 9 1 bY s1.2.1),(22,bd),(3,bE k 295 [.func (.func 203) #[] #[.pointer (some q7),.pointer (some (⟨g,0,none⟩)),.pointer (some (⟨G,0,none⟩)),.pointer (some q0),.pointer (some (⟨k,0,none⟩))]]),(2,bb),(1,bE g 22 au)]++σr)) rfl (.inl rfl) (by kernel_rfl) ⟨.inl (.inr (rfl)),tv⟩ J J (fun τ hτ a w K c d hF=>by rcases hτ with rfl|rfl <;> exact TG.pa c d (aR G3 J (sO 5 rfl) rfl aG)) ?_;refine dA J (bu T12.B298 J J J aG) ?_
            refine uT 1 (I cD) 2 ([(⟨s3.1,s1.1⟩:bL)]:List bL) (I.mono _) J (bS T12.E235 J J J J fun q2 dy hg de=>by
              have hj:Sl (I cD) 2 dy (some q2) 1 ([(⟨s3.1,s1.1⟩:bL)]:List bL):=Sl.litF (fun _=>J) (fun _=>J) hg de J J J
              exact rJ (I.mono _) hj) fun im iu=>?_
            refine DC.nil fun eu hF=>?_;obtain ⟨hm,_,i4,_⟩:=hF;obtain ⟨hq,hy⟩:=aF g9;refine rD 22 (enc:=cD) (l:=s1.2.2) (m:=([(⟨s3.1,s1.1⟩:bL)]:List bL)) T12.E235 J J J J J J hm 0 J (fun _=>J) (fun _=>J) J hq fun e4 fc=>(eQ 1 AA J J J J J J J (eQ 2 MZ J J J J J J J (N (rg (aR G3 J (sO 5 J) J ?_)))));obtain ⟨ib,fj⟩:=aF hy;refine dN J J J ib (eQ 5 Z3 J J J J J J J (N ?_));cases fj;intro a w c d;exact ⟨_,hW,d1,d7,e4,fc,c.selH [1,2,3,4,5,6,7,8,9,10,11,12] J,d.cuE J⟩
           have fo:=aS h8 hT;refine xt J ?_;cases fo;obtain rfl:=dF.out hW;intro a w c d;exact ⟨a0,c3,a8,cR,c,d.cut tv⟩
          rintro a w ⟨bx,cn,bz,co,c,d⟩;apply TG.ap ?_ c d;cases gp;intro a w c d;refine eF d J ?_;exact ⟨_,J,⟨bx,cn,bz,co,J,c⟩⟩
         rintro a w v d (⟨a6,c8,a7,c9,rfl,c⟩);refine fB J d c (N (C (aR MW J (sO 3 J) J (aU 0 fJ J Z3 (aR G3 J ((P 0 J ad).take 1) J ?_)))));obtain ⟨r5,fs,fw⟩:=L gg;refine TG.front 1 J (TG.front 2 J (TG.front 3 J (TG.front 22 J (TG.front 23 J (qP [(23,S.list a6 c8 9 1 bY t0.2.1),(22,S.list a7 c9 298 2 cD t0.2.2),(3,bE k 295 [.func (.func 203) #[] #[.pointer (some q7),.pointer (some (⟨g,0,none⟩)),.pointer (some (⟨G,0,none⟩)),.pointer (some q0),.pointer (some (⟨k,0,none⟩))]]),(2,bE G 235 [.slice a7 t0.2.2.length c9]),(1,bE g 22 [.slice a6 t0.2.1.length c8])] (B:=([(9,S.rows (some ⟨b4,0,none⟩) c0 234 5 c1 l1),(6,S.blk l0 (f .busy none)),(7,S.blk b (.deferred (some []))),(5,bE b3 3 [.int .i64 t0.1]),(4,Z)]++σr)) J XW J J J J (fun w V c le=>ih_ _ _ fs V _ w a6 c8 a7 c9 c (le.sel [9,10,11] J)) ?_)))));rintro e_ ew A_ a w ⟨e5,fe,e6,ff,rfl,rfl⟩ c d;refine wD (fB J d c (N (rg (aU 3 fJ J Z3 (aR G3 J (((P 1 J ad).drop 3).take 1) J (eQ 5 Z3 J J J J J J J (N (TG.front 4 J (TG.front 5 J (TG.front 7 J (TG.front 6 J ?_)))))))))));refine TG.front 9 J ?_;cases fw;intro a w c d;exact ⟨e5,fe,e6,ff,c.selH [1,2,3,4,5,6,7,8,9,10,11,12] J,d.cut tv⟩
        have fz:=bK h7 hR;refine sk ?_;cases fz;intro a w c d;exact ⟨a4,c6,a5,c7,c,d.cut tv⟩
       rintro a w ⟨bv,ck,bw,cl,c,d⟩;refine TG.ap ?_ c d;cases f4;refine eR 6 none aa J fun w c=>?_;exact ⟨bv,ck,bw,cl,J,c.selH [1,2,3,4,5,6,7,8,9,10,11] J⟩
      rintro a w v d (⟨br,ch,bt,cj,rfl,c⟩);refine fB J d c (nt J J (N (cF J J (sk (rg (dN J J J (by omega) (A J (N ?_))))))));cases fv;intro a w c d;exact ⟨_,hO,br,ch,bt,cj,c.selH [1,2,3,4,5,6,7,8,9,10] J,d.cuE J⟩
     have f2:=aS h5 hN;refine xt J ?_;cases f2;obtain rfl:=dF.out hO;intro a w c d;exact ⟨a4,c6,a5,c7,c,d.cut tv⟩
    rintro a w ⟨bp,cf,bq,cg,c,d⟩;apply TG.ap ?_ c d;refine TG.del 9 ?_;cases ia;intro a w c d;refine eF d J ?_;exact ⟨_,J,⟨bp,cf,bq,cg,c.selH [1,2,3,4,5,6,7,8,9] J⟩⟩
   rintro l0 b f t6 a w aa d (⟨bm,b9,bn,ca,c⟩);refine TG.ap ?_ c d;refine WF 6 aa J (rg (aR MW J (P 2 J ai) J (aR wF J (sO 4 J) J (dU kZ J J ?_))));obtain ⟨t4,f5,f8⟩:=L f6;refine wP XY func205 J ntmps205 J J J J (fun v w=>(∃ (b6:Option Addr) (cp:Nat) (b7:Option Addr) (cr:Nat),v=.tuple #[]∧St M W H [y,s,q,p,n,V,Y,K8,H] ([(7,S.blk b (.deferred (some []))),(5,bE b3 3 [.int .i64 t4.1]),(4,Z),(23,S.list b6 cp 9 1 bY t4.2.1),(22,S.list b7 cr 298 2 cD t4.2.2),(3,bE k 295 [.func (.func 203) #[] #[.pointer (some q7),.pointer (some (⟨g,0,none⟩)),.pointer (some (⟨G,0,none⟩)),.pointer (some q0),.pointer (some (⟨k,0,none⟩))]]),(2,bE G 235 [.slice b7 t4.2.2.length cr]),(1,bE g 22 [.slice b6 t4.2.1.length cp])]++σr) w)) ?_ ?_
   ·obtain ⟨bh,gb,gh⟩:=L f5;refine jn (fun a w=>∃ (b8:Option Addr) (ct:Nat) (bi:Option Addr) (cv:Nat),SJ M W H [y,s,q,p,n,V,Y,K8,H] ([(7,S.blk b (.deferred (some []))),(5,bE b3 3 [.int .i64 bh.1]),(4,Z),(23,S.list b8 ct 9 1 bY bh.2.1),(22,S.list bi cv 298 2 cD bh.2.2),(3,bE k 295 [.func (.func 203) #[] #[.pointer (some q7),.pointer (some (⟨g,0,none⟩)),.pointer (some (⟨G,0,none⟩)),.pointer (some q0),.pointer (some (⟨k,0,none⟩))]]),(2,bE G 235 [.slice bi bh.2.2.length cv]),(1,bE g 22 [.slice b8 bh.2.1.length ct])]++σr) 25 [] a w) ?_ ?_
    ·refine bk ?_;refine jZ [0,1,2,3,4,5] J gb (fun l_ s2 a w=>∃ (a9:Option Addr) (cS:Nat) (am:Option Addr) (an:Nat),SJ M W H [y,s,q,p,n,V,Y,K8,H] ([(7,S.blk b (.deferred (some []))),(5,bE b3 3 [.int .i64 s2.1]),(4,Z),(23,S.list a9 cS 9 1 bY s2.2.1),(22,S.list am an 298 2 cD s2.2.2),(3,bE k 295 [.func (.func 203) #[] #[.pointer (some q7),.pointer (some (⟨g,0,none⟩)),.pointer (some (⟨G,0,none⟩)),.pointer (some q0),.pointer (some (⟨k,0,none⟩))]]),(2,bE G 235 [.slice am s2.2.2.length an]),(1,bE g 22 [.slice a9 s2.2.1.length cS])]++σr) 25 l_ a w) ?_ ?_
     ·intro a w c d;exact ⟨bm,b9,bn,ca,c,d.cuE J⟩
     rintro j s2 y3 hX et a w ⟨a9,cS,am,an,c,d⟩;refine TG.ap ?_ c d;refine sq (C (aR G3 J (sO 5 J) J (A J (dS J J J (N ?_)))));refine ci J (fun hB=>?_) (fun hB=>?_)
     ·have gl:=aJ hB hX;refine sk (sq (bk ?_));obtain ⟨i5,gq⟩:=aF gl;obtain ⟨x1,hC,gu⟩:=L gq;obtain ⟨p1,rfl⟩:=h0.adr hC;have gx:=h0.atF hC;obtain ⟨g1,g4⟩:=aF gu;refine lB 12 [6] [] mixed (fun _ _ _ _ _ h=>h) (by kernel_rfl) (by kernel_rfl) (by kernel_rfl) J (by kernel_rfl) (.nil) (dc J (by kernel_rfl) tv J J (aR wF J (sO 1 J) J aG) (dc J (by kernel_rfl) tv J J (aR wF J (sO 4 J) J aG) (dc J (by kernel_rfl) tv J J (aR G3 J (sO 5 J) J aG) (dA J (cP kZ Z9 J J J (by omega) (aT hC) aG) (dA J (aR G9 J (P 4 J gx) J aG) ?_)))))
      refine uT 1 (I bY) 1 ([x1]:List aE) (I.mono _) J (bS T12.E22 J J J J fun q3 dz g7 dg=>by
        have gR:Sl (I bY) 1 dz (some q3) 1 ([x1]:List aE):=Sl.litF (fun _=>J) (fun _=>J) g7 dg J J J
        exact rJ (I.mono _) gR) fun ij iv=>?_
      let ay:S:=bE b5 22 [.slice (some p1) r2.length d9]
      let ba:S:=bE G 235 [.slice am s2.2.2.length an]
      let bc:S:=S.list am an 298 2 cD s2.2.2
      let be:List Value:=[.slice a9 s2.2.1.length cS]
      let ax:S:=bE b3 3 [.int .i64 s2.1]
      let ep:S:=S.list a9 cS 9 1 bY s2.2.1
      refine tS ((s2.2.1++([x1]:List aE)).length) (fun ei ej=>([(7,S.blk b (.deferred (some []))),(5,ax),(4,ay),(23,S.list ei ej 9 1 bY (s2.2.1++([x1]:List aE))),(22,bc),(3,bE k 295 [.func (.func 203) #[] #[.pointer (some q7),.pointer (some (⟨g,0,none⟩)),.pointer (some (⟨G,0,none⟩)),.pointer (some q0),.pointer (some (⟨k,0,none⟩))]]),(2,ba),(1,bE g 22 be)]++σr)) rfl (fun a w K c d hF F=>TG.pa c d (rD 23 (enc:=bY) (l:=s2.2.1) (m:=([x1]:List aE)) T12.E22 J J J J J J (hF.1 rfl) 0 rfl (fun _=>rfl) (fun _=>rfl) rfl g1 fun bj cx=>F _ _)) fun bj cx=>(DC.det (fun τ=>τ=([(7,S.blk b (.deferred (some []))),(5,ax),(4,ay),(23,S.list bj cx 9 1 bY (s2.2.1++([x1]:List aE))),(22,bc),(3,bE k 295 [.func (.func 203) #[] #[.pointer (some q7),.pointer (some (⟨g,0,none⟩)),.pointer (some (⟨G,0,none⟩)),.pointer (some q0),.pointer (some (⟨k,0,none⟩))]]),(2,ba),(1,bE g 22 be)]++σr)∨τ=([(7,S.blk b (.deferred (some []))),(5,ax),(4,ay),(23,ep),(22,bc),(3,bE k 295 [.func (.func 203) #[] #[.pointer (some q7),.pointer (some (⟨g,0,none⟩)),.pointer (some (⟨G,0,none⟩)),.pointer (some q0),.pointer (some (⟨k,0,none⟩))]]),(2,ba),(1,bE g 22 be)]++σr)) rfl (.inl rfl) (by kernel_rfl) ⟨.inl (.inr (rfl)),tv⟩ J J (fun τ hτ a w K c d hF=>by rcases hτ with rfl|rfl <;> exact TG.pa c d (aR GR J (sO 2 rfl) rfl aG)) (dA rfl (aR G3 J (P 5 rfl ac) rfl aG) (DC.det (fun τ=>τ=([(7,S.blk b (.deferred (some []))),(5,ax),(4,ay),(23,S.list bj cx 9 1 bY (s2.2.1++([x1]:List aE))),(22,bc),(3,bE k 295 [.func (.func 203) #[] #[.pointer (some q7),.pointer (some (⟨g,0,none⟩)),.pointer (some (⟨G,0,none⟩)),.pointer (some q0),.pointer (some (⟨k,0,none⟩))]]),(2,ba),(1,bE g 22 be)]++σr)∨τ=([(7,S.blk b (.deferred (some []))),(5,ax),(4,ay),(23,ep),(22,bc),(3,bE k 295 [.func (.func 203) #[] #[.pointer (some q7),.pointer (some (⟨g,0,none⟩)),.pointer (some (⟨G,0,none⟩)),.pointer (some q0),.pointer (some (⟨k,0,none⟩))]]),(2,ba),(1,bE g 22 be)]++σr)) rfl (.inl rfl) (by kernel_rfl) ⟨.inl (.inr (rfl)),tv⟩ J J (fun τ hτ a w K c d hF=>by rcases hτ with rfl|rfl <;> exact TG.pa c d (aR G3 J (sO 5 rfl) rfl aG)) (dA rfl (bu T12.B298 J J J aG) ?_))))
      refine uT 1 (I cD) 2 ([(⟨s3.1,s2.1⟩:bL)]:List bL) (I.mono _) J (bS T12.E235 J J J J fun q4 d0 hb dh=>by
        have he:Sl (I cD) 2 d0 (some q4) 1 ([(⟨s3.1,s2.1⟩:bL)]:List bL):=Sl.litF (fun _=>J) (fun _=>J) hb dh J J J
        exact rJ (I.mono _) he) fun ik iw=>?_
      refine DC.nil fun ey hF=>?_;obtain ⟨hh,_,i6,_⟩:=hF;obtain ⟨hk,hn⟩:=aF g4;refine rD 22 (enc:=cD) (l:=s2.2.2) (m:=([(⟨s3.1,s2.1⟩:bL)]:List bL)) T12.E235 J J J J J J hh 0 J (fun _=>J) (fun _=>J) J hk fun e7 fg=>(eQ 1 AA J J J J J J J (eQ 2 MZ J J J J J J J (N (rg (aR G3 J (sO 5 J) J ?_)))));obtain ⟨ht,hz⟩:=aF hn;refine dN J J J ht (eQ 5 Z3 J J J J J J J (N ?_));cases hz;intro a w c d;exact ⟨_,et,bj,cx,e7,fg,c.selH [1,2,3,4,5,6,7,8,9] J,d.cuE J⟩
     have ic:=aS hB hX;refine xt J ?_;cases ic;obtain rfl:=dF.out et;intro a w c d;exact ⟨a9,cS,am,an,c,d.cut tv⟩
    rintro a w ⟨b8,ct,bi,cv,c,d⟩;apply TG.ap ?_ c d;cases gh;intro a w c d;refine eF d J ?_;exact ⟨_,J,⟨b8,ct,bi,cv,J,c⟩⟩
   rintro a w v d (⟨b6,cp,b7,cr,rfl,c⟩);refine fB J d c (N (TG.del 5 (TG.del 4 ?_)));cases f8;refine OE (UR 7 J (OF (TG.del 7 ?_)));intro a w c d;refine eF d J ?_;exact ⟨V,[_,_,_,_,_],c.selH [5,5] J,b6,cp,b7,cr,J,J⟩
 refine TG.as 23 (z:=S.list none 0 9 1 bY ([]:List aE)) J J (TG.as 22 (z:=S.list none 0 298 2 cD ([]:List bL)) J J ?_);obtain ⟨r1,fk,fp⟩:=L fu;obtain ⟨n0,ft⟩:=nK fk;refine qP [(23,S.list none 0 9 1 bY ([]:List aE)),(22,S.list none 0 298 2 cD ([]:List bL)),(3,bE k 295 [.func (.func 203) #[] #[.pointer (some q7),.pointer (some (⟨g,0,none⟩)),.pointer (some (⟨G,0,none⟩)),.pointer (some q0),.pointer (some (⟨k,0,none⟩))]]),(2,bE G 235 [.slice none 0 0]),(1,bE g 22 [.slice none 0 0])] (B:=[]) J XW J J J J (fun w V c le=>k0 _ _ _ ft V _ w none 0 none 0 c le) ?_;rintro e_ ez A_ a w ⟨bl,cy,el,er,rfl,rfl⟩ c d
 let d8:List Value:=[.slice el r1.2.length er]
 let es:S:=S.list el er 298 2 cD r1.2
 refine wD (fB J d c (N (sq (DA (JR 2 4 (fun g=>[(23,S.list bl cy 9 1 bY r1.1),(22,es),(3,bE k 295 [.func (.func 203) #[] #[.pointer (some q7),.pointer (some (⟨g,0,none⟩)),.pointer (some (⟨G,0,none⟩)),.pointer (some q0),.pointer (some (⟨k,0,none⟩))]]),(2,bE G 235 d8),(1,bE g 22 [.slice bl r1.1.length cy])]) (fun _ _=>[])) 3 [2] [] mixed (fun _ _ _ _ _ h=>h) (by kernel_rfl) (by kernel_rfl) (by kernel_rfl) J (by kernel_rfl) (by kernel_rfl) (.nil) (dc J (by kernel_rfl) tv J J (aR wF J (sO 1 J) J aG) (DC.detQ (fun τ=>cJ τ 2=some (bE G 235 d8)) J J tv ⟨_,J,fun u v hu=>by simp at hu;subst hu;rfl⟩ J J (fun τ hτ a w K c d hF=>TG.pa c d (aR GR J (sO 2 hτ) J aG)) (DC.turnN [(23,S.list bl cy 9 1 bY r1.1),(22,es),(3,bE k 295 [.func (.func 203) #[] #[.pointer (some q7),.pointer (some (⟨g,0,none⟩)),.pointer (some (⟨G,0,none⟩)),.pointer (some q0),.pointer (some (⟨k,0,none⟩))]]),(2,bE G 235 d8),(1,bE g 22 [.slice bl r1.1.length cy])] J J J (fun a w K c d hF=>TG.pa c d (eQ 1 AA J J J J J J J QJ)) (DC.nil fun e0 hF=>(eQ 2 MZ J J J J J J J (D J ?_))))))))));refine bH ?_;cases fp;intro a w c d;refine rc3 d J (cU.cell J (iV wF (cW (c.get (t:=1) J)) J)) (cU.cell J (iV GR (cW (c.get (t:=2) J)) J)) (cU.tmp J) ?_;exact ⟨⟨_,_,_,_,J,(c.listOut 23 J (fun _=>J)),(c.listOut 22 J (fun _=>J))⟩,c.ext⟩

theorem w97 {M:Prop} {W w:World} {H V:Hp} {σr:aM} {n:Nat} {R:List Value} (d:aI) (au:aX V R d) {bb:Option Addr} {aq:Nat} {bz:List Int} (am:Sl (I (bP .i64)) 1 V bb aq bz) (db:aE) {r:aI⊕Int} (hr:MI d bz db=some r) (b:St M W H [V] ((1,bE n 77 R)::σr) w):Calls prog 97 #[.pointer (some ⟨n,0,none⟩),.slice bb bz.length aq,.string (bs db)] w (fI M W H V σr (sC (fun y e K A'=>∃ (du:List Value),e=.returned (.tuple #[])∧A'=[(1,bE n 77 du)]∧aX K du y) (fun u=>.iface 155 (.agg #[.int .i64 u])) [(1,bE n 77 R)] r)):=by
 obtain ⟨z1,rfl,c⟩:=au;refine cV (M:=M) func97 J ntmps97 J b ?_;refine C (A J (nl J J (aU 0 fD J eT (aU 13 eX J Z4 (aR G4 J (((sO 1 J).drop 13).take 1) J ?_)))));obtain ⟨r3,z,t⟩:=L hr;rcases r3 with y6|y6
 ·refine bB fG J (fun w H g le=>iX (fH d.state.moved 8 z)) (N (sq ?_));obtain ⟨p,j,h6⟩:=L t;obtain ⟨p0,rfl⟩:=am.adr j;have h0:=am.atF j;obtain ⟨k,h7,h8⟩:=L h6;refine eH 13 mixed (by kernel_rfl) J (dC J (E J (nl J J aG) (E J (aU 0 fD J eT aG) (E J (aU 14 eX J pQ aG) (E J (aR rN J (((sO 1 J).drop 14).take 1) J aG) (dC J (E J (cP eO Z3 J J J J (aT j) aG) (E J (aR G3 J (P 1 J h0) J aG) (E J (bB GK J (fun w H g le=>HB g (c.f6.mono (I.mono _) le.i) p h7) aG) (dC J (E J (ex J J J aG) ?_)))))))))));refine E J (ex J J J aG) (E J (a1 J aG) (DF.nil fun ad Y=>(D J (C (A J (nt J J ?_))))));obtain ⟨r4,h1,h2⟩:=L h8;rcases r4 with y0|y0
  ·refine bB fG J (fun w H g le=>iX (fH (!k.2) 6 h1)) (N (sq ?_));obtain ⟨m,h9,hB⟩:=L h2;refine lB 11 [5] [] mixed (fun _ _ _ _ _ h=>h) (by kernel_rfl) (by kernel_rfl) (by kernel_rfl) J (by kernel_rfl) (.nil) (dA J (A J aG) (dA J (nl J J aG) (dA J (aU 0 fD J eT aG) (dA J (aU 14 eX J pQ aG) (dc J (by kernel_rfl) tv J J (aR rN J (((sO 1 J).drop 14).take 1) J aG) (tS m.length (fun Z aa=>([(2,S.list Z aa 3 1 (bP .i64) m),(1,bE n 77 (cO d.state z1))]++σr)) J (fun a w K b f Y F=>TG.pa b f (wY 2 GM J J J J (fun w V σr b le=>HD (ai:=d.state.choice) (c.f6.mono (I.mono _) le.u) h9 b) fun a2 c1=>F _ _)) fun a2 c1=>(dA J (A J aG) (dA J (A J aG) (dA J (cP eO Z3 J J J J (aT j) aG) (dA J (aR G3 J (P 2 J h0) J aG) ?_))))))))))
   refine uT 1 (I (bP .i64)) 1 ([p]:List Int) (I.mono _) J (bS T12.E33 J J J J fun q0 B hC s=>by
     have hE:Sl (I (bP .i64)) 1 B (some q0) 1 ([p]:List Int):=Sl.litF (fun _=>J) (fun _=>J) hC s J J J
     exact rJ (I.mono _) hE) fun a3 c2=>?_
   refine DC.nil fun af Y=>?_;obtain ⟨hG,_,_⟩:=Y;obtain ⟨hR,hI⟩:=aF hB;obtain ⟨hJ,hK⟩:=aF hI;obtain ⟨hL,hM⟩:=aF hK;refine DO 2 (enc:=(bP .i64)) J (fun _=>J) (fun _=>J) k.1.toNat (xs:=([p]:List Int)) (l:=m) insM138 GL J J J J J J J J hG 0 J (by omega) hJ hL fun a0 c0=>(D J (C (A J (nl J J (aU 0 fD J eT (aU 11 eX J lC (cM pJ lC J J (((sO 1 J).drop 11).take 2) J (A J (TG.still 2 J (fun _=>J) fun ag h3=>?_)))))))));obtain ⟨r2,hN,hO⟩:=L hM;refine gW XT J J J J (fun w H g le=>ZQ g d.state.motion ⟨_,_,_,_,J,(c.f4.mono (I.mono _) le.v),(c.f5.mono (aZ.mono) le.v)⟩ (h3.mono (I.mono _) le.o) hN) ?_;rintro v_ ah ⟨a4,c3,a5,c4,rfl,hT,hV⟩;refine A J (ex J J J (ex J J J (ex J J J (a1 J (a1 J (D J (C (A J ?_))))))));obtain ⟨r5,h4,h5⟩:=L hO;rcases r5 with y1|y1
   ·refine bB jQ J (fun w H g le=>iX (jR r2.2.2 h4)) (N (rg (A J (A J (nl J J (aU 0 fD J eT (aU 14 eX J pQ (eQ 1 pQ J J J J J J J (N ?_)))))))))
    let q:List Value:=((cO d.state z1).set 14 (.slice a0 ((m.take k.1.toNat++([p]:List Int)++m.drop k.1.toNat).length) c0))
    refine TG.pack (fun K=>aX K q (⟨({d.state with choice:=(m.take k.1.toNat++([p]:List Int)++m.drop k.1.toNat)}:dE)⟩:aI)) (fun H le=>⟨{z1 with a6:=a0,c6:=c0},J,{c.mono le.x with f6:=(h3.mono (I.mono _) le.i)}⟩) fun G hP=>?_;cases h5;intro a w b f;refine eF f J ?_;exact ⟨G,[(1,bE n 77 q)],b.selH [0,5] J,_,J,J,hP⟩
   refine eG jQ J J J (fun w H g le=>iY (jR r2.2.2 h4)) ?_;cases h5;intro a w b f;exact ⟨f.defers,V,[_],b.selH [4,4] J,J,J⟩
  refine eG fG J J J (fun w H g le=>iY (fH (!k.2) 6 h1)) ?_;cases h2;intro a w b f;exact ⟨f.defers,V,[_],b.selH [1,1] J,J,J⟩
 refine eG fG J J J (fun w H g le=>iY (fH d.state.moved 8 z)) ?_;cases t;intro a w b f;exact ⟨f.defers,V,[_],b.selH [0,0] J,J,J⟩

theorem w98 {M:Prop} {W w:World} {H V:Hp} {σr:aM} (hg:Gv M V) {n:Nat} {ae:List Value} (l:aI) (au:aX V ae l) {bb:Option Addr} {aq:Nat} {bz:List Int} (am:Sl (I (bP .i64)) 1 V bb aq bz) (db:aE) {r:aI⊕Int} (hr:MJ l bz db=some r) (b:St M W H [V] ((1,bE n 77 ae)::σr) w):Calls prog 98 #[.pointer (some ⟨n,0,none⟩),.slice bb bz.length aq,.string (bs db)] w (fI M W H V σr (sC (fun y e K A'=>∃ (du:List Value),e=.returned (.tuple #[])∧A'=[(1,bE n 77 du)]∧aX K du y) (fun u=>.iface 155 (.agg #[.int .i64 u])) [(1,bE n 77 ae)] r)):=by
 obtain ⟨Y,rfl,g⟩:=au;refine cV (M:=M) func98 J ntmps98 J b ?_;refine sq ?_;obtain ⟨t1,h2,h1⟩:=L hr;refine gG [0,1] J (fun l_ a w=>∃ t0,t1=.inl t0∧SJ M W H [V] ([(1,bE n 77 (cO l.state Y))]++σr) 58 l_ a w) ?_ ?_
 ·refine rg (A J (nl J J (aU 0 fD J eT (aU 13 eX J Z4 (aR G4 J (((sO 1 J).drop 13).take 1) J (A J ?_))))));rcases Bool.eq_false_or_eq_true (l.state.moved) with k|k
  ·have hE:=aJ k h2;refine gN J J (k) (A J (gN J J (k) (nl J J (gN J J (k) (aU 0 fD J eT (gN J J (k) (aU 7 eX J Z4 (gN J J (k) (aR G4 J (((sO 1 J).drop 7).take 1) J (gN J J (k) (nt J J ?_)))))))))));refine pT J J (k) J ?_;obtain ⟨r22,h3,h4⟩:=L hE;rcases r22 with y1|y1
   ·refine bB fG J (fun w H m le=>iX (fH (!l.state.bound) 8 h3)) (N ?_);cases h4;intro a w b c;exact ⟨_,J,b,c.cuE J⟩
   refine eG fG J J J (fun w H m le=>iY (fH (!l.state.bound) 8 h3)) ?_;cases h4;cases h1;intro a w b c;exact ⟨c.defers,V,[_],b.selH [0,0] J,J,J⟩
  have hG:=bK k h2;refine cC 6 J J J (k) J (pF J J (k) J ?_);obtain ⟨r2,h5,h6⟩:=L hG;rcases r2 with y2|y2
  ·refine bB fG J (fun w H m le=>iX (fH false 8 h5)) (N ?_);cases h6;intro a w b c;exact ⟨_,J,b,c.cuE J⟩
  refine eG fG J J J (fun w H m le=>iY (fH false 8 h5)) ?_;cases h6;cases h1;intro a w b c;exact ⟨c.defers,V,[_],b.selH [0,0] J,J,J⟩
 rintro a w ⟨t0,rfl,b,c⟩;refine TG.ap ?_ b c;refine sq ?_;obtain ⟨d,hI,hJ⟩:=L h1;refine eH 17 mixed (by kernel_rfl) J (dC J (E J (nl J J aG) (E J (aU 0 fD J eT aG) (E J (aU 11 eX J lC aG) (E J (cM pJ lC J J (((sO 1 J).drop 11).take 2) J aG) (dC J (E J (nl J J aG) (E J (aU 0 fD J eT aG) (E J (aU 14 eX J pQ aG) (E J (aR rN J (((sO 1 J).drop 14).take 1) J aG) ?_))))))))))
 refine DF.und (α:=Option Addr×Nat×Option Addr×Nat) (none,0,none,0) (fun q=>.tuple #[.slice q.1 d.1.length q.2.1,.slice q.2.2.1 d.2.1.length q.2.2.2,.int .i64 d.2.2]) (fun (q:Option Addr×Nat×Option Addr×Nat) K=>Sl (I bY) 1 K q.1 q.2.1 d.1∧Sl (I cD) 2 K q.2.2.1 q.2.2.2 d.2.1) (fun _ _ _ h x=>⟨x.1.mono (I.mono _) h,x.2.mono (I.mono _) h⟩) (by kernel_rfl) J (fun a w K b c j=>TG.pa b c (gW XT J J J J (fun w H m le=>ZQ m l.state.motion ⟨_,_,_,_,J,(g.f4.mono (I.mono _) le.i),(g.f5.mono (aZ.mono) le.i)⟩ (g.f6.mono (I.mono _) le.i) hI) (by
   rintro v_ aa ⟨a3,c2,a7,c3,rfl,hK,hL⟩
   exact nJ (f:=fun q=>.tuple #[.slice q.1 d.1.length q.2.1,.slice q.2.2.1 d.2.1.length q.2.2.2,.int .i64 d.2.2]) (G:=(fun (q:Option Addr×Nat×Option Addr×Nat) K=>Sl (I bY) 1 K q.1 q.2.1 d.1∧Sl (I cD) 2 K q.2.2.1 q.2.2.2 d.2.1)) (a3,c2,a7,c3) (fun _ _ _ h x=>⟨x.1.mono (I.mono _) h,x.2.mono (I.mono _) h⟩) ⟨hK,hL⟩))) ?_
 rintro ⟨p,t,s,v⟩;refine uC (.tuple #[.slice p d.1.length t,.slice s d.2.1.length v,.int .i64 d.2.2]) (fun K=>Sl (I bY) 1 K p t d.1∧Sl (I cD) 2 K s v d.2.1) (fun _ _ h x=>⟨x.1.mono (I.mono _) h,x.2.mono (I.mono _) h⟩) J (fun a w K b c j F=>TG.pa b c (A J (F ⟨(j.1 J).1,(j.1 J).2⟩))) (uC (.slice p d.1.length t) (fun K=>Sl (I bY) 1 K p t d.1) (fun _ _ h x=>x.mono (I.mono _) h) J (fun a w K b c j F=>TG.pa b c (ex J J J (F ((j.1 J).1)))) (uC (.slice s d.2.1.length v) (fun K=>Sl (I cD) 2 K s v d.2.1) (fun _ _ h x=>x.mono (I.mono _) h) J (fun a w K b c j F=>TG.pa b c (ex J J J (F ((j.2.1 J).2)))) (E J (ex J J J aG) (uC (.slice p d.1.length t) (fun K=>Sl (I bY) 1 K p t d.1) (fun _ _ h x=>x.mono (I.mono _) h) J (fun a w K b c j F=>TG.pa b c (a1 J (F (j.2.1 J)))) (uC (.slice s d.2.1.length v) (fun K=>Sl (I cD) 2 K s v d.2.1) (fun _ _ h x=>x.mono (I.mono _) h) J (fun a w K b c j F=>TG.pa b c (a1 J (F (j.2.1 J)))) (DF.nil fun ad j=>?_))))));obtain ⟨hT,hM,hV,hW,hX,ah,_⟩:=j;refine D J (C (A J ?_));obtain ⟨r3,h7,h8⟩:=L hJ;rcases r3 with y3|y3
 ·refine bB jQ J (fun w H m le=>iX (jR d.2.2 h7)) (N (C (A J (A J (A J ?_)))));obtain ⟨r1,hN,hO⟩:=L h8;refine bB aDq J (fun w H m le=>aCt m (hg.mono le.i) (hM.mono (I.mono _) le.o) [32] hN) ?_;obtain ⟨r4,h9,hB⟩:=L hO
  let R:aM:=[(1,bE n 77 (cO l.state Y))]
  rcases r4 with y0|y0
  ·refine qP R (B:=([]++σr)) J C83 J J J J (fun w V b le=>w83 l ⟨Y,J,{g.mono le.i with f0:=(g.f0.mono (bW.mono) le.i)}⟩ (bz:=bz) (am.mono (I.mono _) le.i) r1 h9 b) ?_;rintro e_ af A_ a w ⟨c7,rfl,rfl,hC⟩ b c;refine wD (fB J c b ?_);have ai:=hC;obtain ⟨z0,rfl,hP⟩:=hC;refine N (rg (A J (A J (A J (bu T12.B32 J J J (nl J J (aU 0 fD J eT (aU 11 eX J lC (eQ 1 lC J J J J J J J (nl J J (aU 0 fD J eT ?_)))))))))));refine aU 13 eX J Z4 (eQ 1 Z4 J J J J J J J (nl J J (aU 0 fD J eT (aU 14 eX J pQ (eQ 1 pQ J J J J J J J (N ?_))))))
   let z:List Value:=(((((cO y0.state z0).set 11 (.slice none 0 0)).set 12 (.slice none 0 0)).set 13 (.bool false)).set 14 (.slice none 0 0))
   refine TG.pack (fun K=>aX K z (⟨({y0.state with motion:=(⟨([]:List aE),([]:List aW)⟩:bT),moved:=false,choice:=([]:List Int)}:dE)⟩:aI)) (fun H le=>⟨{z0 with a4:=none,c4:=0,a5:=none,c5:=0,a6:=none,c6:=0},J,{hP.mono le.o with f4:=Sl.o,f5:=Sl.o,f6:=Sl.o}⟩) fun Z hR=>?_;cases hB;intro a w b c;refine eF c J ?_;exact ⟨Z,[(1,bE n 77 z)],b.selH [0,3] J,_,J,J,hR⟩
  refine qP R (B:=([]++σr)) J C83 J J J J (fun w V b le=>w83 l ⟨Y,J,{g.mono le.i with f0:=(g.f0.mono (bW.mono) le.i)}⟩ (bz:=bz) (am.mono (I.mono _) le.i) r1 h9 b) ?_;rintro e_ ag A_ a w ⟨rfl,rfl⟩ b c;refine QR ?_;cases hB;exact ⟨c.defers,V,[_],b.selH [2,2] J,J,J⟩
 refine eG jQ J J J (fun w H m le=>iY (jR d.2.2 h7)) ?_;cases h8;intro a w b c;exact ⟨c.defers,V,[_],b.selH [1,1] J,J,J⟩

theorem w58 (e:H.le (hp W)) (h:Gv M H)  {r:(List (aE×cX))} (f:UX=some r):Calls prog 58 #[] W (eY M H W (fun v K=>∃ (b:Value),v=b∧Mp rE (fun x=>Value.agg (eD x).toArray) K b r)):=by
 refine aK (M:=M) func58 J ntmps58 J e ?_;refine C (D J (C (OC 1 rE (fun x=>Value.agg (eD x).toArray) J fun g=>(bu T12.B160 J J J (vB 1 (ke:=rE) (enc:=(fun x=>Value.agg (eD x).toArray)) [100,97,121] (⟨1,false,(some 82)⟩:cX) lD U9 J J J J (bu T12.B160 J J J (vB 1 (ke:=rE) (enc:=(fun x=>Value.agg (eD x).toArray)) [115,97,121] (⟨1,true,(some 83)⟩:cX) lD U9 J J J J (bu T12.B160 J J J ?_))))))));refine vB 1 (ke:=rE) (enc:=(fun x=>Value.agg (eD x).toArray)) [98,105,110,100] (⟨3,false,(some 84)⟩:cX) lD U9 J J J J (bu T12.B160 J J J (vB 1 (ke:=rE) (enc:=(fun x=>Value.agg (eD x).toArray)) [99,104,97,110,103,101] (⟨2,true,(some 85)⟩:cX) lD U9 J J J J (bu T12.B160 J J J (vB 1 (ke:=rE) (enc:=(fun x=>Value.agg (eD x).toArray)) [114,101,109,111,118,101] (⟨2,false,(some 86)⟩:cX) lD U9 J J J J (bu T12.B160 J J J (vB 1 (ke:=rE) (enc:=(fun x=>Value.agg (eD x).toArray)) [97,100,100] (⟨3,true,(some 87)⟩:cX) lD U9 J J J J (bu T12.B160 J J J (vB 1 (ke:=rE) (enc:=(fun x=>Value.agg (eD x).toArray)) [99,105,116,101] (⟨2,false,(some 88)⟩:cX) lD U9 J J J J (bu T12.B160 J J J (vB 1 (ke:=rE) (enc:=(fun x=>Value.agg (eD x).toArray)) [104,105,100,101] (⟨3,false,(some 89)⟩:cX) lD U9 J J J J (bu T12.B160 J J J ?_)))))))))));refine vB 1 (ke:=rE) (enc:=(fun x=>Value.agg (eD x).toArray)) [104,111,117,115,101] (⟨1,false,(some 90)⟩:cX) lD U9 J J J J (bu T12.B160 J J J (vB 1 (ke:=rE) (enc:=(fun x=>Value.agg (eD x).toArray)) [100,105,118,105,100,101] (⟨4,false,(some 91)⟩:cX) lD U9 J J J J (bu T12.B160 J J J (vB 1 (ke:=rE) (enc:=(fun x=>Value.agg (eD x).toArray)) [116,101,108,108] (⟨3,false,(some 92)⟩:cX) lD U9 J J J J (bu T12.B160 J J J (vB 1 (ke:=rE) (enc:=(fun x=>Value.agg (eD x).toArray)) [112,97,105,114] (⟨2,false,(some 93)⟩:cX) lD U9 J J J J (bu T12.B160 J J J (vB 1 (ke:=rE) (enc:=(fun x=>Value.agg (eD x).toArray)) [114,101,115,117,108,116] (⟨0,false,(some 94)⟩:cX) lD U9 J J J J (bu T12.B160 J J J (vB 1 (ke:=rE) (enc:=(fun x=>Value.agg (eD x).toArray)) [109,111,118,101] (⟨0,true,(some 95)⟩:cX) lD U9 J J J J (bu T12.B160 J J J ?_)))))))))));refine vB 1 (ke:=rE) (enc:=(fun x=>Value.agg (eD x).toArray)) [112,97,112,101,114] (⟨4,true,(some 96)⟩:cX) lD U9 J J J J (bu T12.B160 J J J (vB 1 (ke:=rE) (enc:=(fun x=>Value.agg (eD x).toArray)) [97,100,111,112,116] (⟨1,false,(some 97)⟩:cX) lD U9 J J J J (bu T12.B160 J J J (vB 1 (ke:=rE) (enc:=(fun x=>Value.agg (eD x).toArray)) [111,114,100,101,114] (⟨1,false,(some 98)⟩:cX) lD U9 J J J J (A J (D J (bH ?_)))))));obtain rfl:=sj f;intro a w c d;refine dT d J J ?_;exact ⟨⟨_,J,(c.mapOut 1 J)⟩,c.ext⟩

theorem w60 (d:H.le (hp W)) (x:Gv M H) (ai:aE) {r:Int⊕Unit} (hr:SO ai=some r):Calls prog 60 #[.string (bs ai)] W (wW M W (fun r=>.int .i64 r) (.iface 155 (.agg #[.int .i64 4])) r):=by
 refine aK (M:=M) func60 J ntmps60 J d ?_;refine C (D J (C (A J ?_)));obtain ⟨l,k,j⟩:=L hr;refine gW C69 J J J J (fun w H d le=>w69 d (x.mono le.o) ai k) ?_;rintro v_ z ⟨B,rfl,h⟩;refine A J (ex J J J (ex J J J (a1 J (D J (sq ?_)))));obtain ⟨t34,m,g⟩:=L j;refine gG [3] J (fun l_ a w=>∃ t37,t34=.inl t37∧SJ M W H [z,H] [] 24 l_ a w) ?_ ?_
 ·refine rg (A J (eqE aG5 J J h (A J ?_)));rcases Bool.eq_false_or_eq_true (l.2) with e|e
  ·have F:=aJ e m;refine cC 4 J J J (congrArg not (e)) J (pF J J (congrArg not (e)) J (A J (cC 2 J J J J J (pF J J J J ?_))));obtain ⟨r2,n,p⟩:=L F;rcases r2 with y0|y0
   ·refine bB fG J (fun w H d le=>iX (fH false 4 n)) (N ?_);cases p;intro a w c b;exact ⟨_,J,c,b.cuE J⟩
   refine eG fG J J J (fun w H d le=>iY (fH false 4 n)) ?_;cases p;cases g;intro a w c b;exact ⟨b.defers,nM c.ext⟩
  have G:=bK e m;refine gN J J (congrArg not (e)) (A J (gN J J (congrArg not (e)) ?_));obtain ⟨r3,K,q⟩:=L G;refine bB C30 J (fun w H d le=>w30 d (x.mono le.i) l.1 K) (gN J J (congrArg not (e)) (A J (gN J J (congrArg not (e)) (pX J J J (pT J J (congrArg not (e)) J (A J ?_))))));by_cases f:r3=ai
  ·have R:=aJ f q;refine gt f J (A J (gt f J ?_));obtain ⟨y,V,Y⟩:=L R;refine bB GQ J (fun w H d le=>GZ l.1 (-999999999) 999999999 V) (pt f J J ?_);obtain ⟨r4,s,t⟩:=L Y;rcases r4 with y1|y1
   ·refine bB fG J (fun w H d le=>iX (fH y 4 s)) (N ?_);cases t;intro a w c b;exact ⟨_,J,c,b.cuE J⟩
   refine eG fG J J J (fun w H d le=>iY (fH y 4 s)) ?_;cases t;cases g;intro a w c b;exact ⟨b.defers,nM c.ext⟩
  have Z:=aS f q;refine cC 2 J J J (decide_eq_false f) J (pf f J J ?_);obtain ⟨r5,u,v⟩:=L Z;rcases r5 with y2|y2
  ·refine bB fG J (fun w H d le=>iX (fH false 4 u)) (N ?_);cases v;intro a w c b;exact ⟨_,J,c,b.cuE J⟩
  refine eG fG J J J (fun w H d le=>iY (fH false 4 u)) ?_;cases v;cases g;intro a w c b;exact ⟨b.defers,nM c.ext⟩
 rintro a w ⟨t37,rfl,c,b⟩;refine TG.ap ?_ c b;refine C (A J (D J (bH ?_)));cases g;intro a w c b;refine dT b J J ?_;exact sV J c.ext

theorem vX {q:Option Nat} {c:aI} {bz:List Int} {d:aE} {r:aI⊕Int} (b:AZ q c bz d=some r):∃ k,q=some k∧∀ args w,(callFunc k args).run prog w=.ok (.enter k args) w:=by
 unfold AZ at b;by_cases h:q=some 82
 ·exact ⟨82,h,C82⟩
 rw [if_neg h] at b;by_cases h:q=some 83
 ·exact ⟨83,h,C83⟩
 rw [if_neg h] at b;by_cases h:q=some 84
 ·exact ⟨84,h,C84⟩
 rw [if_neg h] at b;by_cases h:q=some 85
 ·exact ⟨85,h,C85⟩
 rw [if_neg h] at b;by_cases h:q=some 86
 ·exact ⟨86,h,C86⟩
 rw [if_neg h] at b;by_cases h:q=some 87
 ·exact ⟨87,h,C87⟩
 rw [if_neg h] at b;by_cases h:q=some 88
 ·exact ⟨88,h,C88⟩
 rw [if_neg h] at b;by_cases h:q=some 89
 ·exact ⟨89,h,C89⟩
 rw [if_neg h] at b;by_cases h:q=some 90
 ·exact ⟨90,h,C90⟩
 rw [if_neg h] at b;by_cases h:q=some 91
 ·exact ⟨91,h,C91⟩
 rw [if_neg h] at b;by_cases h:q=some 92
 ·exact ⟨92,h,C92⟩
 rw [if_neg h] at b;by_cases h:q=some 93
 ·exact ⟨93,h,C93⟩
 rw [if_neg h] at b;by_cases h:q=some 94
 ·exact ⟨94,h,C94⟩
 rw [if_neg h] at b;by_cases h:q=some 95
 ·exact ⟨95,h,C95⟩
 rw [if_neg h] at b;by_cases h:q=some 96
 ·exact ⟨96,h,C96⟩
 rw [if_neg h] at b;by_cases h:q=some 97
 ·exact ⟨97,h,C97⟩
 rw [if_neg h] at b;by_cases h:q=some 98
 ·exact ⟨98,h,C98⟩
 rw [if_neg h] at b;cases b
theorem wDo {M:Prop} {q:Option Nat} {k:Nat} (t:q=some k) {W w:World} {H V:Hp} {σr:aM} (l:Gv M V) {j:Nat} {m:List Value} (c:aI) (g:aX V m c) {o:Option Addr} {n:Nat} {bz:List Int} (f:Sl (I (bP .i64)) 1 V o n bz) (d:aE) {r:aI⊕Int} (b:AZ q c bz d=some r) (i:St M W H [V] ((1,bE j 77 m)::σr) w):Calls prog k #[.pointer (some ⟨j,0,none⟩),.slice o bz.length n,.string (bs d)] w (fI M W H V σr (sC (fun y e K s=>∃ (p:List Value),e=.returned (.tuple #[])∧s=[(1,bE j 77 p)]∧aX K p y) (fun u=>.iface 155 (.agg #[.int .i64 u])) [(1,bE j 77 m)] r)):=by
 subst t;unfold AZ at b;by_cases h:some k=some 82
 ·cases h;exact w82 c g f d (by simpa using b) i
 rw [if_neg h] at b;by_cases h:some k=some 83
 ·cases h;exact w83 c g f d (by simpa using b) i
 rw [if_neg h] at b;by_cases h:some k=some 84
 ·cases h;exact w84 c g f d (by simpa using b) i
 rw [if_neg h] at b;by_cases h:some k=some 85
 ·cases h;exact w85 c g f d (by simpa using b) i
 rw [if_neg h] at b;by_cases h:some k=some 86
 ·cases h;exact w86 c g f d (by simpa using b) i
 rw [if_neg h] at b;by_cases h:some k=some 87
 ·cases h;exact w87 c g f d (by simpa using b) i
 rw [if_neg h] at b;by_cases h:some k=some 88
 ·cases h;exact w88 l c g f d (by simpa using b) i
 rw [if_neg h] at b;by_cases h:some k=some 89
 ·cases h;exact w89 c g f d (by simpa using b) i
 rw [if_neg h] at b;by_cases h:some k=some 90
 ·cases h;exact w90 c g f d (by simpa using b) i
 rw [if_neg h] at b;by_cases h:some k=some 91
 ·cases h;exact w91 c g f d (by simpa using b) i
 rw [if_neg h] at b;by_cases h:some k=some 92
 ·cases h;exact w92 c g f d (by simpa using b) i
 rw [if_neg h] at b;by_cases h:some k=some 93
 ·cases h;exact w93 c g f d (by simpa using b) i
 rw [if_neg h] at b;by_cases h:some k=some 94
 ·cases h;exact w94 c g f d (by simpa using b) i
 rw [if_neg h] at b;by_cases h:some k=some 95
 ·cases h;exact w95 l c g f d (by simpa using b) i
 rw [if_neg h] at b;by_cases h:some k=some 96
 ·cases h;exact w96 l c g f d (by simpa using b) i
 rw [if_neg h] at b;by_cases h:some k=some 97
 ·cases h;exact w97 c g f d (by simpa using b) i
 rw [if_neg h] at b;by_cases h:some k=some 98
 ·cases h;exact w98 l c g f d (by simpa using b) i
 rw [if_neg h] at b;cases b
theorem w38 {M:Prop} {W w:World} {H V:Hp} {σr:aM} (s:Gv M V) {q:Nat} {ae:List Value} (k:aI) (au:aX V ae k) (text:aE) {r:aI×Int} (hr:vN k text=some r) (b:St M W H [V] ((1,bE q 77 ae)::σr) w):Calls prog 38 #[.pointer (some ⟨q,0,none⟩),.string (bs text)] w (fI M W H V σr (fun e K A'=>∃ (du:List Value),e=.returned (.int .i64 r.2)∧A'=[(1,bE q 77 du)]∧aX K du r.1)):=by
 obtain ⟨p,rfl,c⟩:=au;refine DS (M:=M) func38 J ntmps38 J b ?_;refine C (al 2 (cs:=[.int .i64 0]) zeroValue43 J J fun b3=>(N (C (fn J J J (df J (N (C (A J ?_))))))));obtain ⟨n,ay,aw⟩:=L hr;refine bB C57 J (fun w H h le=>w57 h (s.mono le.o) text [32] ay) (A J (ex J J J (ex J J J (ex J J J (a1 J (a1 J (D J (C ?_))))))));obtain ⟨r7,az,ax⟩:=L aw;refine gW C58 J J J J (fun w H h le=>w58 h (s.mono le.o)  az) ?_;rintro a8 y ⟨_,rfl,hM⟩;refine A J (lk2 (ke:=rE) (enc:=(fun x=>Value.agg (eD x).toArray)) n.1 (z0:=(⟨0,false,(none:Option Nat)⟩:cX)) lD U9 zeroValue160 J J J J (mS 0 J hM) (A J (ex J J J (ex J J J (va (cs:=[.int .i64 (((eN r7 n.1).getD (⟨0,false,(none:Option Nat)⟩:cX)).many),.bool (((eN r7 n.1).getD (⟨0,false,(none:Option Nat)⟩:cX)).text),sD (((eN r7 n.1).getD (⟨0,false,(none:Option Nat)⟩:cX)).do_)]) zeroValue160 aGz J J J J J J J (by simp only [List.all_cons,QS];rfl) fun q13 F i=>(D J (C (A J ?_))))))));obtain ⟨r1,h4,h5⟩:=L ax
 let f:List Value:=(cO k.state p)
 let g:aM:=[(1,bE q 77 f)]
 rcases r1 with y2|y2
 ·refine bB fG J (fun w H h le=>iX (fH ((eN r7 n.1).isSome) 4 h4)) (N (C (D J (sq (C (aU 0 TS J Z3 (aR G3 J ((P 0 J i).take 1) J (A J ?_))))))));refine N (TG.nilRow 4 3 1 (TG.as 4 (z:=S.list none 0 3 1 (bP .i64) ([]:List Int)) J J ?_));obtain ⟨ag,hN,h2⟩:=L h5;refine gG [0,4,8] J (fun l_ a w=>∃ t102,ag=.inl t102∧∃ (a2:Option Addr) (c1:Nat),St M W H [F,y,V] ([(4,S.list a2 c1 3 1 (bP .i64) t102.2.2),(2,bE b3 43 [.int .i64 0]),(1,bE q 77 f)]++σr) w∧bQ [OL 56 [.pointer (some (⟨b3,0,none⟩))]] 56 a ((6,.string (bs t102.1))::(7,.bool t102.2.1)::(10,.slice a2 t102.2.2.length c1)::l_)) ?_ ?_
  ·refine bk ?_;refine jZ [0,4,8,28] J hN (fun l_ m a w=>∃ (a0:Option Addr) (c0:Nat),St M W H [F,y,V] ([(4,S.list a0 c0 3 1 (bP .i64) m.2.2.2),(2,bE b3 43 [.int .i64 0]),(1,bE q 77 f)]++σr) w∧bQ [OL 56 [.pointer (some (⟨b3,0,none⟩))]] 56 a ((6,.string (bs m.2.1))::(7,.bool m.2.2.1)::(10,.slice a0 m.2.2.2.length c0)::(29,.int .i64 (m.1:Int))::l_)) ?_ ?_
   ·intro a w b d;exact ⟨none,0,b,d.cuE J⟩
   rintro j m y5 h6 h0 a w ⟨a0,c0,b,d⟩;refine TG.ap ?_ b d;refine C (dS J J J (N (sq ?_)));refine ci J (fun h3=>?_) (fun h3=>?_)
   ·have hO:=aJ h3 h6;refine sk (sq (bk (C (A J ?_))));obtain ⟨r2,h7,h8⟩:=L hO;rcases r2 with y3|y3
    ·refine bB fG J (fun w H h le=>iX (fH m.2.2.1 4 h7)) (N (C (D J (C (A J ?_)))));obtain ⟨r0,hP,hR⟩:=L h8;refine bB C57 J (fun w H h le=>w57 h (s.mono le.u) m.2.1 [32] hP) (A J (ex J J J (ex J J J (ex J J J (a1 J (a1 J (D J (rg (A J (A J ?_))))))))));obtain ⟨r3,h9,hB⟩:=L hR;rcases r3 with y1|y1
     ·refine bB C60 J (fun w H h le=>iX (w60 h (s.mono le.u) r0.1 h9)) ?_;obtain ⟨hT,hV⟩:=aF hB;refine wO 4 (bP .i64) (l:=m.2.2.2) y1 T12.E33 J J J J J J J J J J J J hT fun a3 c2 u0=>(D J (rg ?_));obtain ⟨hW,hX⟩:=aF hV;refine dN J J J hW (A J (N ?_));cases hX;intro a w b d;exact ⟨_,h0,a3,c2,b,d.cuE J⟩
     refine eG C60 J J J (fun w H h le=>iY (w60 h (s.mono le.u) r0.1 h9)) ?_;cases hB;obtain rfl:=dF.out h0;refine TG.del 4 (DZ (tE:=2) (u:=4) J fun b0 c3=>(TG.del 999999 (TG.pack (fun K=>aX K f k) (fun H le=>⟨p,J,{c.mono le.u with f0:=(c.f0.mono (bW.mono) le.u)}⟩) fun G ah=>?_)));cases h2;intro a w b d;refine wC d J (cU.cell J (iV uA (cW (b.get (t:=2) J)) J)) ?_;exact ⟨G,g,(b.selH [0,3] J).del 2,_,J,J,ah⟩
    refine eG fG J J J (fun w H h le=>iY (fH m.2.2.1 4 h7)) ?_;cases h8;obtain rfl:=dF.out h0;refine TG.del 4 (DZ (tE:=2) (u:=4) J fun b1 c4=>(TG.del 999999 (TG.pack (fun K=>aX K f k) (fun H le=>⟨p,J,{c.mono le.u with f0:=(c.f0.mono (bW.mono) le.u)}⟩) fun R ai=>?_)));cases h2;intro a w b d;refine wC d J (cU.cell J (iV uA (cW (b.get (t:=2) J)) J)) ?_;exact ⟨R,g,(b.selH [0,3] J).del 2,_,J,J,ai⟩
   have aj:=aS h3 h6;refine xt J ?_;cases aj;obtain rfl:=dF.out h0;intro a w b d;exact ⟨_,J,a0,c0,b,d.cuE J⟩
  rintro a w ⟨t102,rfl,a2,c1,b,d⟩;apply TG.ap ?_ b d;refine C (A J (aU 1 TS J Z4 (aR G4 J (((P 0 J i).drop 1).take 1) J (eqB U4 J J J ?_))));obtain ⟨r5,hC,hE⟩:=L h2;rcases r5 with y4|y4
  ·refine bB fG J (fun w H h le=>iX (fH (t102.2.1==((eN r7 n.1).getD (⟨0,false,(none:Option Nat)⟩:cX)).text) 4 hC)) (N (C (aU 2 TS J aGy (aR aGk J ((P 0 J i).drop 2) J (A J (A J (A J (TG.still 4 J (fun _=>J) fun a4 hF=>?_))))))));obtain ⟨r8,h1,hG⟩:=L hE
   let af:aM:=([(2,bE b3 43 [.int .i64 0])]++σr)
   rcases r8 with y0|y0
   ·refine TG.front 1 J ?_;obtain ⟨k0,hI,ak⟩:=vX h1;refine qP g (B:=af) J ak J ((congrArg sD hI).trans (qQ _)) J J (fun w V b le=>wDo hI (s.mono le.v) k ⟨p,J,{c.mono le.v with f0:=(c.f0.mono (bW.mono) le.v)}⟩ (bz:=t102.2.2) (hF.mono (I.mono _) le.o) t102.1 h1 b) ?_;rintro e_ a5 A_ a w ⟨c5,rfl,rfl,hJ⟩ b d;refine wD (fB J d b ?_);have a7:=hJ;obtain ⟨z2,rfl,hK⟩:=hJ;refine N (C (eQ 2 (cs:=[.int .i64 0]) BM J J J J J J J (N (bH (aCu (TG.pack (fun K=>aX K (cO y0.state z2) y0) (fun H le=>⟨z2,J,{hK.mono le.o with f0:=(hK.f0.mono (bW.mono) le.o)}⟩) fun Y am=>?_))))));cases hG;intro a w b d;refine wC d J (cU.cell J (iV uA (cW (b.get (t:=2) J)) J)) ?_;exact ⟨Y,[(1,bE q 77 (cO y0.state z2))],(b.selH [0,5] J).del 2,_,J,J,am⟩
   refine TG.front 1 J ?_;obtain ⟨k1,hL,an⟩:=vX h1;refine qP g (B:=af) J an J ((congrArg sD hL).trans (qQ _)) J J (fun w V b le=>wDo hL (s.mono le.v) k ⟨p,J,{c.mono le.v with f0:=(c.f0.mono (bW.mono) le.v)}⟩ (bz:=t102.2.2) (hF.mono (I.mono _) le.o) t102.1 h1 b) ?_;rintro e_ a6 A_ a w ⟨rfl,rfl⟩ b d;refine QR ?_;revert b d;revert w;revert a;refine (?_:TG _ _ _ _ _);refine TG.front 2 J (DZ (tE:=2) (u:=y0) J fun b2 c6=>(TG.del 999999 (TG.pack (fun K=>aX K f k) (fun H le=>⟨p,J,{c.mono le.x with f0:=(c.f0.mono (bW.mono) le.x)}⟩) fun Z ao=>?_)));cases hG;intro a w b d;refine wC d J (cU.cell J (iV uA (cW (b.get (t:=2) J)) J)) ?_;exact ⟨Z,g,(b.selH [0,5] J).del 2,_,J,J,ao⟩
  refine eG fG J J J (fun w H h le=>iY (fH (t102.2.1==((eN r7 n.1).getD (⟨0,false,(none:Option Nat)⟩:cX)).text) 4 hC)) (TG.del 4 (DZ (tE:=2) (u:=4) J fun b4 c7=>(TG.del 999999 (TG.pack (fun K=>aX K f k) (fun H le=>⟨p,J,{c.mono le.u with f0:=(c.f0.mono (bW.mono) le.u)}⟩) fun aa aq=>?_))));cases hE;intro a w b d;refine wC d J (cU.cell J (iV uA (cW (b.get (t:=2) J)) J)) ?_;exact ⟨aa,g,(b.selH [0,3] J).del 2,_,J,J,aq⟩
 refine eG fG J J J (fun w H h le=>iY (fH ((eN r7 n.1).isSome) 4 h4)) (DZ (tE:=2) (u:=4) J fun b5 c8=>(TG.del 999999 (TG.pack (fun K=>aX K f k) (fun H le=>⟨p,J,{c.mono le.u with f0:=(c.f0.mono (bW.mono) le.u)}⟩) fun ad ar=>?_)));cases h5;intro a w b d;refine wC d J (cU.cell J (iV uA (cW (b.get (t:=2) J)) J)) ?_;exact ⟨ad,g,(b.selH [0,3] J).del 2,_,J,J,ar⟩

theorem w21 (hH:H.le (hp W)) (hg:Gv M H) {R:Option Addr} {F:Nat} {lines:List aE} (G:Sl (I bY) 1 H R F lines) {r:aI×List Int} (hr:XL lines=some r):Calls prog 21 #[.slice R lines.length F] W (eY M H W (fun v K=>∃ (u0:Addr) (q:List Value) (k:Option Addr) (g:Nat),v=.tuple #[.pointer (some u0),.slice k r.2.length g]∧aN K u0 q∧(aX) K q r.1∧Sl (I (bP .i64)) 1 K k g r.2)):=by
 have:=G.len;refine aK (M:=M) func21 J ntmps21 J hH ?_;refine C (a1 J (D J (C (bu T12.B77 J J J (bO 1 J J J fun m=>(D J (sq ?_)))))));refine TG.pack (fun K=>aX K (bX (.agg ([.int .i64 0,.int .i64 0,.int .i64 0,.int .i64 0,.int .i64 0,.int .i64 0,.slice none 0 0,.bool false,.slice none 0 0,.slice none 0 0,.slice none 0 0,.slice none 0 0,.slice none 0 0,.bool false,.slice none 0 0,.int .i64 0,.slice none 0 0,.slice none 0 0,.slice none 0 0,.slice none 0 0,.slice none 0 0,.slice none 0 0,.int .u8 0,.int .i64 0,.int .i64 0,.int .u8 0,.bool false,.slice none 0 0]).toArray)) (⟨(⟨0,0,(⟨0,0,0,0,([]:List eI)⟩:bD),false,([]:List aL),([]:List gY),([]:List aE),(⟨([]:List aE),([]:List aW)⟩:bT),false,([]:List Int),(⟨0,(⟨([]:List Int),([]:List Int)⟩:bN),(⟨([]:List Int),([]:List Int)⟩:bN),([]:List fN),([]:List dY),0,0,0,0⟩:aY),false,([]:List UInt8)⟩:dE)⟩:aI)) (fun H le=>⟨⟨_,_,_,_,_,_,_,_,_,_,_,_,_,_,_,_,_,_,_,_,_,_,_,_,_,_,_,_⟩,J,⟨Sl.o,Sl.o,Sl.o,Sl.o,Sl.o,Sl.o,Sl.o,Sl.o,Sl.o,Sl.o,Sl.o,Sl.o,Sl.o,Sl.o⟩⟩) fun K2 Z=>?_;refine rg (D J (sq (C (A J (dU kZ J J (A J (N (TG.nilRow 3 43 1 (TG.as 3 (z:=S.list none 0 43 1 (bP .i64) ([]:List Int)) J J ?_)))))))));refine TG.front 1 J ?_;obtain ⟨e,hl,hr⟩:=L hr;refine jn (fun a w=>∃ f d cap K,aX K f e.1∧SJ M W H [K,H] [(1,bE m 77 f),(3,S.list d cap 43 1 (bP .i64) e.2)] 25 [(4,.pointer (some ⟨m,0,none⟩)),(5,.slice d e.2.length cap)] a w) ?_ ?_
 ·refine bk ?_;refine lp hl (fun s a w=>∃ f d cap K,aX K f s.2.1∧SJ M W H [K,H] [(1,bE m 77 f),(3,S.list d cap 43 1 (bP .i64) s.2.2)] 25 [(4,.pointer (some ⟨m,0,none⟩)),(5,.slice d s.2.2.length cap),(10,.slice R lines.length F),(11,.int .i64 (lines.length:Int)),(12,.int .i64 (s.1:Int))] a w) ?_ ?_
  ·intro a w b c;exact ⟨_,none,0,K2,Z,b,c.cuE J⟩
  rintro j s y t hz a w ⟨f,d,cap,K,u,b,c⟩;refine TG.ap ?_ b c;refine C (dS J J J (N (sq ?_)));refine ci J (fun hc=>?_) (fun hc=>?_)
  ·have h:=aJ hc t;refine sk (sq (bk (C ?_)));obtain ⟨x,hx,ae⟩:=L h;obtain ⟨p,rfl⟩:=G.adr hx;have ac:=G.atF hx;refine cP kZ Z9 J J J J (aT hx) (aR G9 J (P 1 J ac) J (D J (rg (A J (A J (A J ?_))))));obtain ⟨r2,ah,af⟩:=L ae;refine qP [(1,bE m 77 f)] (B:=[(3,S.list d cap 43 1 (bP .i64) s.2.2)]) J C38 J J J J (fun w V b le=>w38 (hg.mono le.i) s.2.1 (aX.mono _ _ _ _ le.o u) x ah b) ?_;rintro e_ K3 A_ a w ⟨Y,rfl,rfl,ab⟩ b c;refine wD (fB J c b ?_);obtain ⟨hk,ag⟩:=aF af;refine wO 3 (bP .i64) (l:=s.2.2) r2.2 T12.E42 J J J J J J J J J J J J hk fun OJ n u2=>(D J (rg (dN J J J (by omega) (A J (N ?_)))));cases ag;intro a w b c;exact ⟨_,hz,Y,OJ,n,K3,ab,b.selH [0,2] J,c.cuE J⟩
  have h:=aS hc t;refine xt J ?_;cases h;obtain rfl:=dF.out hz;intro a w b c;exact ⟨f,d,cap,K,u,b,c.cuE J⟩
 rintro a w ⟨f,d,cap,K,u,b,c⟩;apply TG.ap ?_ b c;refine C (A J (A J (a1 J (D J (bH (TG.stillC 1 J fun K4 aa=>?_))))));cases hr;intro a w b c;refine mW c J J J ?_;exact ⟨⟨_,_,_,_,J,aa.mono (b.grow 0 J),aX.mono _ _ _ _ (b.grow 1 J) u,b.listOut 3 J (fun _=>J)⟩,b.ext⟩

theorem w8 (g:H.le (hp W)) (F:Gv M H) {n:Option Addr} {l:Nat} {lines:List aE} (m:Sl (I bY) 1 H n l lines) {r:dE×List Int×Int} (G:m8 lines=some r):Calls prog 8 #[.slice n lines.length l] W (eY M H W (fun v K=>∃ (f:List Value) (e:Option Addr) (b:Nat),v=.tuple #[.agg f.toArray,.slice e r.2.1.length b,.int .i64 r.2.2]∧(qT) K f r.1∧Sl (I (bP .i64)) 1 K e b r.2.1)):=by
 refine aK (M:=M) func8 J ntmps8 J g ?_;refine C (al 1 zeroValue41 J J fun Y=>(a1 J (D J (sq (C (A J ?_))))));obtain ⟨r2,k,h⟩:=L G;refine bB C20 J (fun w H g le=>w20 g (m.mono (I.mono _) le.o) k) (D J (C (A J (nI J J J (N ?_)))));refine ci J (fun d=>?_) (fun d=>?_)
 ·have j:=aJ d h;refine C (bu T12.B41 J J J (A J (eQ 1 eT J J J J J J J (a1 J (D J (bH ?_))))));cases j;intro a w c i;refine rc3 i J (cU.cell J (fK G41 eT (cW (c.get (t:=1) J)) J)) (cU.tmp J) (cU.tmp J) ?_;exact ⟨⟨_,_,_,J,⟨⟨_,_,_,_,_,_,_,_,_,_,_,_,_,_,_,_,_,_,_,_,_,_,_,_,_,_,_,_⟩,J,⟨Sl.o,Sl.o,Sl.o,Sl.o,Sl.o,Sl.o,Sl.o,Sl.o,Sl.o,Sl.o,Sl.o,Sl.o,Sl.o,Sl.o⟩⟩,Sl.o⟩,c.ext⟩
 have u:=aS d h;refine sk (C (A J ?_));obtain ⟨r11,x,y⟩:=L u;refine gW C21 J J J J (fun w H g le=>w21 g (F.mono le.o) (m.mono (I.mono _) le.o) x) ?_;rintro v_ s ⟨q0,Z,V,c1,rfl,z,p,B⟩;have h7:=p;obtain ⟨R,rfl,q⟩:=p;refine A J (ex J J J (ex J J J (a1 J (D J (C (A J (nl J J (aU 0 fD J eT (cM G41 eT J J (P 0 J z) J ?_)))))))));refine A J (eQ 1 eT J J J J J J J (a1 J (D J (bH ?_))));cases y;intro a w c i;refine rc3 i J (cU.cell J (fK G41 eT (cW (c.get (t:=1) J)) J)) (cU.tmp J) (cU.tmp J) ?_;exact ⟨⟨_,_,_,J,⟨R,J,{q.mono (c.grow 0 J) with f0:=(q.f0.mono (bW.mono) (c.grow 0 J))}⟩,(B.mono (I.mono _) (c.grow 0 J))⟩,c.ext⟩

theorem w80 {M:Prop} {W:World} (t:Int) (many:Int) (turned:Bool) {r:aE} (hr:m80 t many turned=some r):Calls prog 80 #[.int .i64 t,.int .i64 many,.bool turned] W (bJ M W (.string (bs r))):=by
 refine aK (M:=M) func80 J ntmps80 J (Hp.le.refl _) ?_;refine C (D J (C (al 1 zeroValue211 J J fun h=>(N (sq (C (A J ?_)))))));obtain ⟨p,q⟩:=aF hr;refine qH J J J p (D J ?_);obtain ⟨c,z,B⟩:=L q;refine gG [1,7] J (fun s=>SJ M W (hp W) [(hp W)] [(1,bE h 211 (iL c))] 31 s) ?_ ?_
 ·refine bk ?_;refine jZ [1,2,7] J z (fun s b=>SJ M W (hp W) [(hp W)] [(1,bE h 211 (iL b.2.2))] 31 ((0,.int .i64 b.1)::(8,.int .i64 b.2.1)::s)) ?_ ?_
  ·exact cuE J
  rintro j b y0 u v a w ⟨f,d⟩;refine TG.ap ?_ f d;refine sq (C (A J (pW J J J (N ?_))));refine ci J (fun i=>?_) (fun i=>?_)
  ·have F:=aJ i u;refine sk (sq (bk (C (A J ?_))));obtain ⟨G,R⟩:=aF F;refine VV J J J G (D J (sq (C (A J (N ?_)))));obtain ⟨t0,y,Y⟩:=L R;refine eU [0,1,2,7,8] [(9,.int .i64 t0)] J ?_ ?_
   ·refine cb J (fun k=>?_) (fun k=>?_)
    ·have Z:=aJ k y;refine rg (A J (qH J J J (by omega) (D J ?_)));cases Z;exact cuE J
    have hG:=bK k y;refine sk ?_;cases hG;exact cuE J
   refine C (A J (A J ?_));obtain ⟨hH,hI⟩:=aF Y;refine dN J J J hH ?_;obtain ⟨hJ,hK⟩:=aF hI;refine yY U3 U5 J J (rW hJ) ?_;obtain ⟨K,hL⟩:=aF hK;have m:b.2.1.toNat<6:=by omega
   refine oK YV Z5 J J J (j:=b.2.1.toNat) (by omega) m (vC 1 [] (iL b.2.2) (j:=b.2.1.toNat) Z5 J J J J J m (dL.st (x:=b.2.2) m) (N (rg (A J ?_))));obtain ⟨hM,hN⟩:=aF hL;refine QH J J J hM (D J (rg (A J ?_)));obtain ⟨hO,hP⟩:=aF hN;refine qH J J J hO (D J ?_);cases hP;intro a w f d;exact ⟨_,v,f,d.cuE J⟩
  have hR:=aS i u;refine xt J ?_;cases hR;obtain rfl:=dF.out v;exact cuE J
 rintro a w ⟨f,d⟩;apply TG.ap ?_ f d;refine C (A J (TG.stillC 1 J fun g e=>?_));obtain ⟨hT,hV⟩:=aF B;obtain ⟨V,hW⟩:=aF hV;obtain ⟨n,hX⟩:=aF hW;refine WU many.toNat YV Z5 J J J (by omega) n ?_;have o:Sl (I cH) 1 g (some ⟨h,0,none⟩) 6 (((dL.vals c).map IK).take many.toNat):=Sl.bytes (l:=dL.vals c) J e J hT (show 6≤1073741824 by decide) n;refine aCq (by rw [List.length_take];exact (Nat.min_eq_left n).symm) o 0 J mB U5 U9 J J (D J (bH ?_));cases hX;exact cK J J

theorem w54 {M:Prop} {W:World} (ai:aE) {r:aE} (hr:m54 ai=some r):Calls prog 54 #[.string (bs ai)] W (bJ M W (.string (bs r))):=by
 refine aK (M:=M) func54 J ntmps54 J (Hp.le.refl _) ?_;refine C (D J (C (D J (sq (C (A J ?_))))));obtain ⟨q,s⟩:=aF hr;refine cvB U9 mB U5 J J q fun B u z c=>?_;refine dU mB J J (A J (N ?_));obtain ⟨b,F,G⟩:=L s;refine gG [0] J (fun t=>SJ M W (hp W) [z,(hp W)] [] 36 ((3,.int .i64 b)::t)) ?_ ?_
 ·refine bk ?_;refine jO [0,7,8] J F (fun t s50=>(3,.int .i64 s50.2)::(9,.int .i64 (s50.1:Int))::t) ?_ ?_
  ·exact cuE J
  intro j s50 y0 v x;refine C (dS J J J (N (sq ?_)));refine ci J (fun d=>?_) (fun d=>?_)
  ·have K:=aJ d v;refine sk (sq (bk (C ?_)));obtain ⟨x0,e,R⟩:=L K;obtain ⟨p0,rfl⟩:=c.adr e;have V:=c.atF e;have:=UInt8.toNat_lt x0;refine cP mB Z5 J J J J (aT e) (aR G5 J (P 0 J V) J (D J (rg (A J ?_))));obtain ⟨Y,Z⟩:=aF R;refine mlI J J J Y (A J (yY U5 U3 J J (oL (by omega)) ?_));obtain ⟨hC,hE⟩:=aF Z;refine dN J J J hC ?_;obtain ⟨hF,hG⟩:=aF hE;refine dN J J J hF ?_;obtain ⟨hI,hJ⟩:=aF hG;refine VV J J J hI (D J (rg (dN J J J (by omega) (A J (N ?_)))));cases hJ;intro a w p f;exact ⟨_,x,p,f.cuE J⟩
  have hK:=aS d v;refine xt J ?_;cases hK;obtain rfl:=dF.out x;exact cuE J
 rintro a w ⟨p,f⟩;apply TG.ap ?_ p f;refine C (A J (uL U9 J J ?_));obtain ⟨r0,hL,hM⟩:=L G;refine bB C80 J (fun w H y le=>w80 (ai.length:Int) 4 false hL) ?_;obtain ⟨hN,hO⟩:=aF hM;refine KB J J J hN (A J (uL U9 J J ?_));obtain ⟨r1,hP,hR⟩:=L hO;refine bB C80 J (fun w H y le=>w80 (ai.length:Int) 4 true hP) ?_;obtain ⟨hT,hV⟩:=aF hR;refine KB J J J hT (A J ?_);obtain ⟨r2,hW,hX⟩:=L hV;refine bB C80 J (fun w H y le=>w80 b 6 false hW) ?_;obtain ⟨g,h⟩:=aF hX;refine KB J J J g ?_;obtain ⟨i,k⟩:=aF h;refine KB J J J i (A J ?_);obtain ⟨l,m⟩:=aF k;refine KB J J J l ?_;obtain ⟨n,o⟩:=aF m;refine KB J J J n (D J (bH ?_));cases o;exact cK J J

theorem w35 (y:H.le (hp W)) (hg:Gv M H) {t:Option Addr} {q:Nat} {lines:List aE} (m:Sl (I bY) 1 H t q lines) {r:List UInt8} (hr:m35 lines=some r):Calls prog 35 #[.slice t lines.length q] W (eY M H W (fun v K=>∃ (e:Option Addr) (d:Nat),v=.slice e r.length d∧Sl (I cH) 1 K e d r)):=by
 have:=m.len;refine aK (M:=M) func35 J ntmps35 J y ?_;refine C (D J (sq (C (A J (dU kZ J J (A J (N (TG.nilRow 2 5 1 ?_))))))));refine TG.as 2 (z:=S.list none 0 5 1 cH ([]:List UInt8)) J J ?_;obtain ⟨f,G,R⟩:=L hr;refine jn (fun a w=>∃ (k:Option Addr) (n:Nat),SJ M W H [H] [(2,S.list k n 5 1 cH f)] 17 [(2,.slice k f.length n)] a w) ?_ ?_
 ·refine bk ?_;refine jZ [5,6] J G (fun l_ g a w=>∃ (h:Option Addr) (i:Nat),SJ M W H [H] [(2,S.list h i 5 1 cH g.2)] 17 ((2,.slice h g.2.length i)::(7,.int .i64 (g.1:Int))::l_) a w) ?_ ?_
  ·intro a w b c;exact ⟨none,0,b,c.cuE J⟩
  rintro j g y0 u x a w ⟨h,i,b,c⟩;refine TG.ap ?_ b c;refine C (dS J J J (N (sq ?_)));refine ci J (fun o=>?_) (fun o=>?_)
  ·have V:=aJ o u;refine sk (sq (bk (C ?_)));obtain ⟨x0,p,Y⟩:=L V;obtain ⟨p0,rfl⟩:=m.adr p;have Z:=m.atF p;refine cP kZ Z9 J J J J (aT p) (aR G9 J (P 0 J Z) J (D J (rg (A J (A J ?_)))));obtain ⟨r0,h9,hB⟩:=L Y;refine bB C54 J (fun w H y le=>w54 x0 h9) ?_;obtain ⟨hC,hE⟩:=aF hB;refine apT hg.gl.nq 2 (l:=g.2) (s:=r0) mB U9 (dV type5) J J J J J J J J hC fun B F=>(D J (rg (dN J J J (by omega) (A J (N ?_)))));cases hE;intro a w b c;exact ⟨_,x,B,F,b,c.cuE J⟩
  have hF:=aS o u;refine xt J ?_;cases hF;obtain rfl:=dF.out x;intro a w b c;exact ⟨h,i,b,c.cuE J⟩
 rintro a w ⟨k,n,b,c⟩;apply TG.ap ?_ b c;refine C (A J (D J (bH ?_)));cases R;intro a w b c;refine dT c J J ?_;exact ⟨⟨_,_,J,(b.listOut 2 J (fun _=>J))⟩,b.ext⟩

theorem w19 (e:H.le (hp W)) (u:Gv M H) {n:Option Addr} {l:Nat} {lines:List aE} (m:Sl (I bY) 1 H n l lines) {r:List UInt8×Int} (x:m19 lines=some r):Calls prog 19 #[.slice n lines.length l] W (eY M H W (fun v K=>∃ (d:Option Addr) (b:Nat),v=.tuple #[.slice d r.1.length b,.int .i64 r.2]∧Sl (I cH) 1 K d b r.1)):=by
 refine aK (M:=M) func19 J ntmps19 J e ?_;refine C (a1 J (D J (sq (C (A J ?_)))));obtain ⟨B,k,f⟩:=L x;refine bB C20 J (fun w H e le=>w20 e (m.mono (I.mono _) le.o) k) (D J (C (A J (nI J J J (N ?_)))));refine ci J (fun c=>?_) (fun c=>?_)
 ·have i:=aJ c f;refine C (A J (a1 J (D J (bH ?_))));cases i;intro a w g h;refine mW h J J J ?_;exact ⟨⟨_,_,J,Sl.o⟩,g.ext⟩
 have j:=aS c f;refine sk (C (A J ?_));obtain ⟨r10,q,s⟩:=L j;refine gW C35 J J J J (fun w H e le=>w35 e (u.mono le.o) (m.mono (I.mono _) le.o) q) ?_;rintro F p ⟨y,z,rfl,t⟩;refine a1 J (D J (bH ?_));cases s;intro a w g h;refine mW h J J J ?_;exact ⟨⟨_,_,J,(t.mono (I.mono _) (g.grow 0 J))⟩,g.ext⟩

theorem w17 (hH:H.le (hp W)) {z:Option Addr} {s:Nat} {f:List aE} (q:Sl (I bY) 1 H z s f) {B:Option Addr} {t:Nat} {g:List aE} (h:Sl (I bY) 1 H B t g) {r:Bool} (y:m17 f g=some r):Calls prog 17 #[.slice z f.length s,.slice B g.length t] W (bJ M W (.bool r)):=by
 have:=h.len;refine aK (M:=M) func17 J ntmps17 J hH ?_;refine C (D J (sq (C (A J (dU kZ J J (A J (dU kZ J J (nI J J J ?_))))))));refine N ?_;refine ci J (fun b=>?_) (fun b=>?_)
 ·have o:=aJ b y;refine C (D J (bH ?_));cases o;exact cK J J
 have p:=aS b y;refine sk (sq (C (D J ?_)));obtain ⟨e,K,u⟩:=L p;refine jn (fun a w=>∃ t34,e=.inl t34∧SJ M W H [H] [] 26 [] a w) ?_ ?_
 ·refine bk ?_;refine jO [0,1] J K (fun l_ F=>(5,.int .i64 (F:Int))::l_) ?_ ?_
  ·exact cuE J
  intro j F y0 v i;refine sq (C (A J (A J (dU kZ J J (dS J J J (N ?_))))));refine ci J (fun k=>?_) (fun k=>?_)
  ·have R:=aJ k v;refine sk (sq (bk (sq ?_)));obtain ⟨x0,l,V⟩:=L R;obtain ⟨p0,rfl⟩:=q.adr l;have Y:=q.atF l;obtain ⟨x1,m,x⟩:=L V;obtain ⟨p1,rfl⟩:=h.adr m;have Z:=h.atF m;refine eH 8 mixed (by kernel_rfl) J (dC J (dC J (E J (cP kZ Z9 J J J J (aT l) aG) (E J (aR G9 J (P 1 J Y) J aG) (dC J (dC J (E J (cP kZ Z9 J J J J (aT m) aG) (E J (aR G9 J (P 1 J Z) J aG) (DF.nil fun G hF=>(neS J J J (N ?_)))))))))));refine ci J (fun n=>?_) (fun n=>?_)
   ·have hG:=aJ n x;refine C (D J (bH ?_));cases hG;obtain rfl:=dF.out i;cases u;exact cK J J
   have hI:=aS n x;refine sk (rg (A J (dN J J J (by omega) (D J ?_))));cases hI;intro a w d c;exact ⟨_,i,d.selH [1] J,c.cuE J⟩
  have hJ:=aS k v;refine xt J ?_;cases hJ;obtain rfl:=dF.out i;intro a w d c;exact ⟨_,J,d,c.cut tv⟩
 rintro a w ⟨t34,rfl,d,c⟩;apply TG.ap ?_ d c;refine C (D J (bH ?_));cases u;exact cK J J

theorem w7 (j:H.le (hp W)) (hg:Gv M H)  {r:Bool} (hr:m7=some r):Calls prog 7 #[] W (bJ M W (.bool r)):=by
 refine aK (M:=M) func7 J ntmps7 J j ?_;refine C (D J (C ?_));obtain ⟨r1,aw,au⟩:=L hr;refine gW C18 J J J J (fun w H j le=>w18 j  aw) ?_;rintro v_ K4 ⟨bj,ay,rfl,ar⟩;obtain ⟨s,ax,hT⟩:=L au;refine gW C8 J J J J (fun w H j le=>w8 j (hg.mono le.i) (ar.mono (I.mono _) le.o) ax) ?_;rintro v_ az ⟨c0,a0,c1,rfl,hE,u⟩;have b4:=hE;obtain ⟨⟨a2,c2,a3,c3,a4,c4,a5,c5,a6,c6,a7,c7,a8,c8,a9,c9,bc,cR,bd,cS,be,bl,bf,bm,bg,bn,bh,bo⟩,rfl,⟨b5,bq,br,hV,bt,bv,bw,bx,bz,b0,b1,b2,b3,hF⟩⟩:=hE;refine A J (ex J J J (ex J J J (ex J J J (va zeroValue41 eT J J J J J J J J fun q2 ba b=>(a1 J (D J (C (bS T12.E22 J J J J fun q0 t hW q=>?_))))))));have hX:Sl (I bY) 1 t (some q0) 1 ([[97]]:List aE):=Sl.litF (fun _=>J) (fun _=>J) hW q J J J;obtain ⟨r0,y,B⟩:=L hT;refine gW C19 J J J J (fun w H j le=>w19 j (hg.mono le.x) (hX.mono (I.mono _) le.o) y) ?_;rintro v_ bb ⟨bi,bp,rfl,G⟩;refine A J (ex J J J (ex J J J (a1 J (D J (sq ?_)))));obtain ⟨t0,hG,K⟩:=L B;refine eU [] [(0,.bool t0)] J ?_ ?_
 ·refine rg (A J (fZ J J J (A J ?_)));by_cases l:s.2.2=0
  ·have hI:=aJ l hG;refine gt l J (A J (gt l J (fZ J J J (pt l J J (A J ?_)))));by_cases k:r0.2=0
   ·have hJ:=aJ k hI;refine gt k J (A J (gt k J (dU YX J J (gt k J (fZ J J J (pt k J J (A J ?_)))))));by_cases e:(s.2.1.length:Int)=18
    ·have R:=aJ e hJ;refine gt e J (A J (gt e J ?_));obtain ⟨x0,z,hK⟩:=L R;obtain ⟨p0,rfl⟩:=u.adr z;have V:=u.atF z;refine cP YX BM J J J J (aT z) (gt e J (aR uA J (P 3 J V) J (gt e J (fZ J J J (pt e J J (A J ?_))))));by_cases f:x0=10
     ·have Y:=aJ f hK;refine gt f J (A J (gt f J ?_));obtain ⟨x1,hL,hM⟩:=L Y;have Z:=u.atF hL;refine cP YX BM J J J J (aT hL) (gt f J (aR uA J (P 3 J Z) J (gt f J (fZ J J J (pt f J J (A J ?_))))));by_cases m:x1=0
      ·have hN:=aJ m hM;refine gt m J (aU 7 eX J Z4 (gt m J (aR G4 J (((P 2 J b).drop 7).take 1) J (pt m J J (A J ?_)))));rcases Bool.eq_false_or_eq_true (s.1.bound) with c|c
       ·have hO:=aJ c hN;refine gN J J (c) (aU 27 eX J BL (gN J J (c) (aR CD J ((P 2 J b).drop 27) J (gN J J (c) (dU mB J J (gN J J (c) (fZ J J J (pT J J (c) J (A J ?_)))))))));by_cases d:(s.1.results.length:Int)=1
        ·have aa:=aJ d hO;refine gt d J (aU 27 eX J BL (gt d J (aR CD J ((P 2 J b).drop 27) J (gt d J ?_))));obtain ⟨x2,F,hP⟩:=L aa;obtain ⟨p1,rfl⟩:=hF.adr F;have ab:=hF.atF F;refine cP mB Z5 J J J J (aT F) (gt d J (aR G5 J (P 3 J ab) J (gt d J (fZ J J J (pt d J J (A J ?_))))));by_cases g:(x2.toNat:Int)=1
         ·have ac:=aJ g hP;refine gt g J (aU 10 eX J AA (gt g J (aR wF J (((P 2 J b).drop 10).take 1) J (gt g J (bS T12.E22 J J J J fun q1 p ad n=>?_)))));have ae:Sl (I bY) 1 p (some q1) 1 ([[118,111,108,46,32,51,44,32,99,111,108,46,32,49,44,32,108,46,32,50]]:List aE):=Sl.litF (fun _=>J) (fun _=>J) ad n J J J;refine gt g J ?_;obtain ⟨r2,af,hR⟩:=L ac;refine bB C17 J (fun w H j le=>w17 j (hV.mono (I.mono _) le.x) (ae.mono (I.mono _) le.o) af) (pt g J J (A J ?_));rcases Bool.eq_false_or_eq_true (r2) with h|h
          ·have ag:=aJ h hR;refine gN J J (h) (A J (gN J J (h) (cvT G 1 J mB U5 U9 J J (gN J J (h) (pX J J J (pT J J (h) J (D J ?_)))))));cases ag;intro a w hS v;exact ⟨hS.selH [1,2,3,4,5,6] J,v.cuE J⟩
          have ah:=bK h hR;refine cC 3 J J J (h) J (pF J J (h) J (D J ?_));cases ah;intro a w hS v;exact ⟨hS.selH [1,2,3,4,5,6] J,v.cuE J⟩
         have ai:=aS g hP;refine cC 4 J J J (decide_eq_false g) J (pf g J J (A J (cC 3 J J J J J (pF J J J J (D J ?_)))));cases ai;exact cuE J
        have aj:=aS d hO;refine cC 5 J J J (decide_eq_false d) J (pf d J J (A J (cC 4 J J J J J (pF J J J J (A J (cC 3 J J J J J (pF J J J J (D J ?_))))))));cases aj;exact cuE J
       have ak:=bK c hN;refine cC 4 J J J (c) J (pF J J (c) J (A J (cC 5 J J J J J (pF J J J J (A J (cC 4 J J J J J (pF J J J J (A J (cC 3 J J J J J (pF J J J J (a1 J ?_)))))))))));refine N ?_;cases ak;exact cuE J
      have am:=aS m hM;refine cC 2 J J J (decide_eq_false m) J (pf m J J (A J (cC 4 J J J J J (pF J J J J (A J (cC 5 J J J J J (pF J J J J (A J (cC 4 J J J J J (pF J J J J (A J ?_)))))))))));refine cC 3 J J J J J (pF J J J J (D J ?_));cases am;exact cuE J
     have an:=aS f hK;refine cC 4 J J J (decide_eq_false f) J (pf f J J (A J (cC 2 J J J J J (pF J J J J (A J (cC 4 J J J J J (pF J J J J (A J (cC 5 J J J J J (pF J J J J (A J ?_)))))))))));refine cC 4 J J J J J (pF J J J J (A J (cC 3 J J J J J (pF J J J J (D J ?_)))));cases an;exact cuE J
    have ao:=aS e hJ;refine cC 4 J J J (decide_eq_false e) J (pf e J J (A J (cC 4 J J J J J (pF J J J J (A J (cC 2 J J J J J (pF J J J J (A J (cC 4 J J J J J (pF J J J J (A J ?_)))))))))));refine cC 5 J J J J J (pF J J J J (A J (cC 4 J J J J J (pF J J J J (A J (cC 3 J J J J J (pF J J J J (D J ?_))))))));cases ao;exact cuE J
   have ap:=aS k hI;refine cC 3 J J J (decide_eq_false k) J (pf k J J (A J (cC 4 J J J J J (pF J J J J (A J (cC 4 J J J J J (pF J J J J (A J (cC 2 J J J J J (pF J J J J (A J ?_)))))))))));refine cC 4 J J J J J (pF J J J J (A J (cC 5 J J J J J (pF J J J J (A J (cC 4 J J J J J (pF J J J J (A J (cC 3 J J J J J (pF J J J J (a1 J ?_)))))))))));refine N ?_;cases ap;exact cuE J
  have aq:=aS l hG;refine cC 2 J J J (decide_eq_false l) J (pf l J J (A J (cC 3 J J J J J (pF J J J J (A J (cC 4 J J J J J (pF J J J J (A J (cC 4 J J J J J (pF J J J J (A J ?_)))))))))));refine cC 2 J J J J J (pF J J J J (A J (cC 4 J J J J J (pF J J J J (A J (cC 5 J J J J J (pF J J J J (A J (cC 4 J J J J J (pF J J J J (A J ?_)))))))))));refine cC 3 J J J J J (pF J J J J (D J ?_));cases aq;exact cuE J
 refine bH ?_;cases K;exact cK J J

theorem w9 {M:Prop} {W w:World} {H V:Hp} {σr:aM} {i:Option Addr} {h:Nat} {bj:List aE} (k:Sl (I bY) 1 V i h bj) {r:List aE} (o:m9 bj=some r) (d:St M W H [V] σr w):Calls prog 9 #[.slice i bj.length h] w (fI M W H V σr (fun e K j=>∃ (ad:Option Addr) (cap:Nat),e=.returned (.slice ad r.length cap)∧j=[(1,S.list ad cap 9 1 bY r)])):=by
 refine cV (M:=M) func9 J ntmps9 J d ?_;refine C (D J (C (CY 1 bY ([]:List aE) (cs:=[]) T12.E22 J J J J J J fun p=>(A J ?_))));obtain ⟨f,g⟩:=aF o;refine rD 1 (enc:=bY) (l:=([]:List aE)) (m:=bj) T12.E22 J J J J J J k 0 J (fun _=>J) (fun _=>J) J f fun c b=>(D J (bH ?_));cases g;intro a w d n;refine dT n J J ?_;exact ⟨_,[(1,S.list c b 9 1 bY (([]:List aE)++bj))],d.selH [0,0] J,_,_,J,J⟩

theorem w9i (o:H.le (hp W)) {g:Option Addr} {f:Nat} {bj:List aE} (k:Sl (I bY) 1 H g f bj) {r:List aE} (p:m9 bj=some r):Calls prog 9 #[.slice g bj.length f] W (eY M H W (fun v K=>∃ (c:Option Addr) (b:Nat),v=.slice c r.length b∧Sl (I bY) 1 K c b r)):=by
 refine aK (M:=M) func9 J ntmps9 J o ?_;refine C (D J (C (CY 1 bY ([]:List aE) (cs:=[]) T12.E22 J J J J J J fun q=>(A J ?_))));obtain ⟨d,e⟩:=aF p;refine rD 1 (enc:=bY) (l:=([]:List aE)) (m:=bj) T12.E22 J J J J J J k 0 J (fun _=>J) (fun _=>J) J d fun j h=>(D J (bH ?_));cases e;intro a w i n;refine dT n J J ?_;exact ⟨⟨_,_,J,(i.listOut 1 J (fun _=>J))⟩,i.ext⟩

theorem w29 (m:H.le (hp W)) {Y:Addr} {R:List Value} (p:aI) (t:aN H Y R) (V:(aX) H R p) {r:List aH} (hr:m29 p=some r):Calls prog 29 #[.pointer (some Y)] W (eY M H W (fun v K=>∃ (l:Option Addr) (e:Nat),v=.slice l r.length e∧Sl (I aO) 2 K l e r)):=by
 have s:=V;obtain ⟨z1,rfl,g⟩:=V;refine aK (M:=M) func29 J ntmps29 J m ?_;refine C (D J (sq ?_));obtain ⟨B,z,u⟩:=L hr;obtain ⟨r11,h0,h1⟩:=L u;refine eH 17 mixed (by kernel_rfl) J (dC J ?_)
 refine DF.und (α:=List Value) [] (fun q=>.agg q.toArray) (fun (q:List Value) K=>(bV) K q B) (fun _ _ _ h x=>bV.mono _ _ _ _ h x) (by kernel_rfl) J (fun a w K b c d=>TG.pa b c (gW C50 J J J J (fun w H m le=>ZC m p (t.mono le.i) ⟨z1,J,{g.mono le.i with f0:=(g.f0.mono (bW.mono) le.i)}⟩ z) (by
   rintro v_ K6 ⟨ab,rfl,y⟩
   exact nJ (f:=fun q=>.agg q.toArray) (G:=(fun (q:List Value) K=>(bV) K q B)) _ (fun _ _ _ h x=>bV.mono _ _ _ _ h x) y))) fun c2=>?_
 refine dC J (E J (nl J J aG) (E J (aU 0 fD J eT aG) (E J (aU 8 eX J TN aG) (E J (aR PC J (((P 1 J t).drop 8).take 1) J aG) (dC J (E J (nl J J aG) (E J (aU 0 fD J eT aG) (E J (aU 0 eX J Z3 aG) (E J (aR G3 J ((P 1 J t).take 1) J aG) ?_)))))))))
 refine DF.und (α:=Option Addr×Nat) (none,0) (fun q=>.tuple #[.slice q.1 r11.1.length q.2,.int .i64 r11.2]) (fun (q:Option Addr×Nat) K=>Sl (I aO) 2 K q.1 q.2 r11.1) (fun _ _ _ h x=>x.mono (I.mono _) h) (by kernel_rfl) J (fun a w K b c d=>TG.pa b c (gW C49 J J J J (fun w H m le=>w49 m B (bV.mono _ _ _ _ le.o (d.1 J)) (g.f1.mono (I.mono _) le.i) p.state.day h0) (by
   rintro v_ Z ⟨a2,c1,rfl,h2⟩
   exact nJ (f:=fun q=>.tuple #[.slice q.1 r11.1.length q.2,.int .i64 r11.2]) (G:=(fun (q:Option Addr×Nat) K=>Sl (I aO) 2 K q.1 q.2 r11.1)) (a2,c1) (fun _ _ _ h x=>x.mono (I.mono _) h) h2))) ?_
 rintro ⟨j,k⟩;refine uC (.tuple #[.slice j r11.1.length k,.int .i64 r11.2]) (fun K=>Sl (I aO) 2 K j k r11.1) (fun _ _ h x=>x.mono (I.mono _) h) J (fun a w K b c d F=>TG.pa b c (A J (F (d.1 J)))) (uC (.slice j r11.1.length k) (fun K=>Sl (I aO) 2 K j k r11.1) (fun _ _ h x=>x.mono (I.mono _) h) J (fun a w K b c d F=>TG.pa b c (ex J J J (F (d.1 J)))) (E J (ex J J J aG) (uC (.slice j r11.1.length k) (fun K=>Sl (I aO) 2 K j k r11.1) (fun _ _ h x=>x.mono (I.mono _) h) J (fun a w K b c d F=>TG.pa b c (a1 J (F (d.1 J)))) (DF.nil fun aa d=>?_))));obtain ⟨h3,h4,h5,h6,n,_⟩:=d;have h7:=n;obtain ⟨a3,c3,rfl,h8⟩:=n;refine D J (C (A J (D J (bH ?_))));cases h1;intro a w b c;refine dT c J J ?_;exact ⟨⟨_,_,J,(h3.mono (I.mono _) (b.grow 0 J))⟩,b.ext⟩

theorem HG {M:Prop} {W:World} (e:Int) (low:Int) (c:Int) {r:Bool} (i:vO e low c=some r):Calls prog 122 #[.int .i64 e,.int .i64 low,.int .i64 c] W (bJ M W (.bool r)):=by
 refine aK (M:=M) func122 J ntmps122 J (Hp.le.refl _) ?_;refine C (D J (sq ?_));obtain ⟨j,d,f⟩:=L i;refine eU [] [(6,.bool j)] J ?_ ?_
 ·refine rg (A J (A J (jN J J J (A J ?_))));by_cases b:low≤e
  ·have g:=aJ b d;refine gt b J (A J (gt b J (A J (gt b J (jN J J J (pt b J J (D J ?_)))))));cases g;exact cuE J
  have h:=aS b d;refine cC 3 J J J (decide_eq_false b) J (pf b J J (D J ?_));cases h;exact cuE J
 refine bH ?_;cases f;exact cK J J

theorem w75 {M:Prop} {W:World} (b:Int) {r:Bool} (e:GC b=some r):Calls prog 75 #[.int .i64 b] W (bJ M W (.bool r)):=by
 refine aK (M:=M) func75 J ntmps75 J (Hp.le.refl _) ?_;refine C (D J (C (A J ?_)));obtain ⟨g,d,c⟩:=L e;refine bB GJ J (fun w H f le=>HG b 0 9999 d) (D J (bH ?_));cases c;exact cK J J

theorem aJu (i:H.le (hp W)) {t:List Value} (f:dI) (ji:(I dO) H t f) {j:Addr} {n:List Value} (bx:eL) (x:aN H j n) (k:(iN) H n bx) {r:Bool} (hr:BA f bx=some r):Calls prog 121 #[.agg t.toArray,.pointer (some j)] W (bJ M W (.bool r)):=by
 obtain rfl:=ji;have h:=k;obtain ⟨u,l,v,m,rfl,aa,ab⟩:=k;refine aK (M:=M) func121 J ntmps121 J i ?_;refine C (bI J J J fun q7 K8 b=>(D J (sq ?_)));obtain ⟨t28,o,y⟩:=L hr;refine eU [] [(3,.bool t28)] J ?_ ?_
 ·refine rg (aU 0 rO J Z3 (aR G3 J ((P 0 J b).take 1) J (jN J J J (A J ?_))));by_cases d:(0:Int)≤f.from_
  ·have p:=aJ d o;refine gt d J (aU 0 rO J Z3 (gt d J (aR G3 J ((P 0 J b).take 1) J (gt d J (aU 1 rO J Z3 (gt d J (aR G3 J (((P 0 J b).drop 1).take 1) J (gt d J (dS J J J (pt d J J (A J ?_)))))))))));by_cases c:f.from_<f.to_
   ·have q:=aJ c p;refine gt c J (aU 1 rO J Z3 (gt c J (aR G3 J (((P 0 J b).drop 1).take 1) J (gt c J (aU 0 wH J NA (gt c J (aR TK J ((P 1 J x).take 1) J (gt c J (dU PE J J (gt c J (jN J J J ?_)))))))))));refine pt c J J (A J ?_);by_cases g:f.to_≤(bx.words.length:Int)
    ·have z:=aJ g q;refine gt g J (aU 2 rO J Z3 (gt g J (aR G3 J (((P 0 J b).drop 2).take 1) J (gt g J ?_))));obtain ⟨r0,B,s⟩:=L z;refine bB GJ J (fun w H i le=>HG f.kind 0 7 B) (pt g J J (A J ?_));rcases Bool.eq_false_or_eq_true (r0) with e|e
     ·have F:=aJ e s;refine gN J J (e) (aU 3 rO J Z3 (gN J J (e) (aR G3 J ((P 0 J b).drop 3) J (gN J J (e) ?_))));obtain ⟨r1,G,K⟩:=L F;refine bB C75 J (fun w H i le=>w75 f.until_ G) (pT J J (e) J (D J ?_));cases K;exact cuE J
     have R:=bK e s;refine cC 3 J J J (e) J (pF J J (e) J (D J ?_));cases R;exact cuE J
    have V:=aS g q;refine cC 3 J J J (decide_eq_false g) J (pf g J J (A J (cC 3 J J J J J (pF J J J J (D J ?_)))));cases V;exact cuE J
   have Y:=aS c p;refine cC 6 J J J (decide_eq_false c) J (pf c J J (A J (cC 3 J J J J J (pF J J J J (A J (cC 3 J J J J J (pF J J J J (D J ?_))))))));cases Y;exact cuE J
  have Z:=aS d o;refine cC 5 J J J (decide_eq_false d) J (pf d J J (A J (cC 6 J J J J J (pF J J J J (A J (cC 3 J J J J J (pF J J J J (A J (cC 3 J J J J J (pF J J J J (a1 J ?_)))))))))));refine N ?_;cases Z;exact cuE J
 refine bH ?_;cases y;exact cK J J

theorem aJv (u:H.le (hp W)) {p:List Value} (f:dZ) (q:(dM) H p f) {l:Addr} {n:Value} {bx:dZ→Option Bool} (t:aN H l [n]) (m:eP M prog H n (fC (Vr dM) Value.bool bx)) {r:Bool} (y:xZ f bx=some r):Calls prog 170 #[.agg p.toArray,.pointer (some l)] W (bJ M W (.bool r)):=by
 have c:=q;obtain ⟨s,o,rfl,x⟩:=q;have b:=m;obtain ⟨g,e,d,rfl,_,_⟩:=m;refine aK (M:=M) func170 J ntmps170 J u ?_;refine C (bI J J J fun B z h=>(D J (C (aR aGn J (P 1 J t) J (cM MU tN J J (P 0 J h) J ?_)))));obtain ⟨r7,k,j⟩:=L y;refine mT (v:=.bool r7) b 1 J J J J (fun H le=>⟨_,f,r7,J,⟨_,J,(dM.mono _ _ _ _ le.i c)⟩,k,J⟩) (nt J J (D J (bH ?_)));cases j;exact cK J J

theorem aJw (hH:H.le (hp W)) {q:Option Addr} {p:Nat} {ai:List dZ} (g:Sl (dM) 2 H q p ai) {s:Value} {cg:dZ→Option Bool} (t:eP M prog H s (fC (Vr dM) Value.bool cg)) {r:Int} (hr:SP ai cg=some r):Calls prog 228 #[.slice q ai.length p,s] W (bJ M W (.int .i64 r)):=by
 have:=g.len;have b:=t;obtain ⟨i,f,e,rfl,_,_⟩:=t;refine aK (M:=M) func228 J ntmps228 J hH ?_;refine C (D J (sq (C (A J (dU PE J J (A J (N ?_)))))));obtain ⟨h,G,u⟩:=L hr;refine jn (fun a w=>∃ t26,h=.inl t26∧SJ M W H [H] [] 19 [] a w) ?_ ?_
 ·refine bk ?_;refine jO [0,1,7] J G (fun l_ F=>(8,.int .i64 (F:Int))::l_) ?_ ?_
  ·exact cuE J
  intro j F y0 x k;refine C (dS J J J (N (sq ?_)));refine ci J (fun l=>?_) (fun l=>?_)
  ·have K:=aJ l x;refine sk (sq (bk (C (A J (D J (C (A J (A J ?_))))))));refine A J ?_;obtain ⟨x0,m,R⟩:=L K;obtain ⟨p0,rfl⟩:=g.adr m;obtain ⟨c0,hK,V,y⟩:=g.at m;have Y:=y;obtain ⟨a0,c1,rfl,hL⟩:=y;refine cP PE tN J J J J (aT m) (cM MU tN J J (P 0 J V) J ?_);obtain ⟨B,Z,z⟩:=L R;refine mT (v:=.bool B) b 0 J J J J (fun H le=>⟨_,x0,B,J,⟨_,J,(dM.mono _ _ _ _ le.o Y)⟩,Z,J⟩) (N ?_);refine cb J (fun n=>?_) (fun n=>?_)
   ·have hG:=aJ n z;refine C (A J (D J (bH ?_)));cases hG;obtain rfl:=dF.out k;cases u;exact cK J J
   have hI:=bK n z;refine sk (rg (dN J J J (by omega) (A J (N ?_))));cases hI;intro a w d c;exact ⟨_,k,d,c.cuE J⟩
  have hJ:=aS l x;refine xt J ?_;cases hJ;obtain rfl:=dF.out k;intro a w d c;exact ⟨_,J,d,c.cut tv⟩
 rintro a w ⟨t26,rfl,d,c⟩;apply TG.ap ?_ d c;refine C (D J (bH ?_));cases u;exact cK J J

theorem aJx (f:H.le (hp W)) {j:Option Addr} {i:Nat} {ai:List dZ} (m:Sl (dM) 2 H j i ai) {k:Value} {cg:dZ→Option Bool} (l:eP M prog H k (fC (Vr dM) Value.bool cg)) {r:Bool} (n:SQ ai cg=some r):Calls prog 169 #[.slice j ai.length i,k] W (bJ M W (.bool r)):=by
 have b:=l;obtain ⟨e,d,c,rfl,_,_⟩:=l;refine aK (M:=M) func169 J ntmps169 J f ?_;refine C (D J (C (A J (A J ?_))));obtain ⟨p,h,g⟩:=L n;refine bB aEq J (fun w H f le=>aJw f (m.mono (dM.mono) le.o) (cg:=cg) (b.mono le.o) h) (pW J J J (D J (bH ?_)));cases g;exact cK J J

theorem ZR (j:H.le (hp W)) {p:Option Addr} {o:Nat} {bj:List dZ} (y:Sl (dM) 2 H p o bj) {q:Value} {right:dZ→Option Bool} (s:eP M prog H q (fC (Vr dM) Value.bool right)) {r:Bool} (z:GE bj right=some r):Calls prog 123 #[.slice p bj.length o,q] W (bJ M W (.bool r)):=by
 have b:=s;obtain ⟨g,f,e,rfl,_,_⟩:=s;refine aK (M:=M) func123 J ntmps123 J j ?_;refine C (bI J J J fun u R k=>(D J (C (A J (fn J J J ?_)))));obtain ⟨G,n,m⟩:=L z
 refine mG (v:=.bool G) aDx J J J J (fun w H j le=>by
   have l:eP M prog H (.func (.func 170) #[] #[.pointer (some u)]) (fC (Vr dM) Value.bool (fun c=>xZ c right)):=⟨170,[],[.pointer (some u)],rfl,aDy,fun Z x h Y t B hs=>by obtain ⟨K,c,V,rfl,d,F,rfl⟩:=hs;obtain ⟨_,rfl,d⟩:=d;exact aJv (H:=x) B  c d (bx:=right) (k.mono ((le.at 0 rfl).trans t)) (b.mono ((le.at 1 rfl).trans t)) F⟩
   exact aJx j (y.mono (dM.mono) le.i) (cg:=(fun c=>xZ c right)) l n) ?_
 refine nt J J (D J (bH ?_));cases m;exact cK J J

theorem aJy (i:H.le (hp W)) {e:List Value} (g:dZ) (f:(dM) H e g) {r:Bool} (k:MK g=some r):Calls prog 124 #[.agg e.toArray] W (bJ M W (.bool r)):=by
 have b:=f;obtain ⟨h,d,rfl,j⟩:=f;refine aK (M:=M) func124 J ntmps124 J i ?_;refine C (bI J J J fun m l c=>(D J (C (aU 1 BN J pQ (aR rN J ((P 0 J c).drop 1) J (dU eO J J (jN J J J (a1 J ?_))))))));refine N (bH ?_);obtain rfl:=sj k;exact cK J J

theorem aJz (n:H.le (hp W)) (e:Int) {i:Addr} {k:Value} {bx:Int→Option Bool} (m:aN H i [k]) (j:eP M prog H k (fC (Vi .u8) Value.bool bx)) {r:Bool} (o:yA e bx=some r):Calls prog 229 #[.int .u8 e,.pointer (some i)] W (bJ M W (.bool r)):=by
 have b:=j;obtain ⟨f,d,c,rfl,_,_⟩:=j;refine aK (M:=M) func229 J ntmps229 J n ?_;refine C (D J (C (aR TF J (P 0 J m) J (A J ?_))));obtain ⟨l,h,g⟩:=L o;refine mT (v:=.bool l) b 0 J J J J (fun H le=>⟨_,e,l,J,J,h,J⟩) (nt J J (D J (bH ?_)));cases g;exact cK J J

theorem aJ0 (j:H.le (hp W)) {p:Option Addr} {o:Nat} {bj:List UInt8} (y:Sl (I cH) 1 H p o bj) {q:Value} {right:Int→Option Bool} (s:eP M prog H q (fC (Vi .u8) Value.bool right)) {r:Bool} (z:ML bj right=some r):Calls prog 171 #[.slice p bj.length o,q] W (bJ M W (.bool r)):=by
 have b:=s;obtain ⟨f,e,d,rfl,_,_⟩:=s;refine aK (M:=M) func171 J ntmps171 J j ?_;refine C (bI J J J fun u R k=>(D J (C (A J (fn J J J ?_)))));obtain ⟨G,n,m⟩:=L z
 refine mG (v:=.bool G) TA J J J J (fun w H j le=>by
   have l:eP M prog H (.func (.func 229) #[] #[.pointer (some u)]) (fC (Vi .u8) Value.bool (fun c=>yA c right)):=⟨229,[],[.pointer (some u)],rfl,aEr,fun Z x g Y t B hs=>by obtain ⟨K,c,V,rfl,h,F,rfl⟩:=hs;cases h;exact aJz (H:=x) B  c (bx:=right) (k.mono ((le.at 0 rfl).trans t)) (b.mono ((le.at 1 rfl).trans t)) F⟩
   exact UA j (y.mono (I.mono _) le.i) (cg:=(fun c=>yA c right)) l n) ?_
 refine nt J J (D J (bH ?_));cases m;exact cK J J

theorem aJ1 {M:Prop} {W:World} (d:Int) {r:Bool} (h:GF d=some r):Calls prog 172 #[.int .u8 d] W (bJ M W (.bool r)):=by
 refine aK (M:=M) func172 J ntmps172 J (Hp.le.refl _) ?_;refine C (D J (sq ?_));obtain ⟨i,c,e⟩:=L h;refine eU [] [(2,.bool i)] J ?_ ?_
 ·refine rg (A J (jN J J J (A J ?_)));by_cases b:(33:Int)≤d
  ·have f:=aJ b c;refine gt b J (A J (gt b J (jN J J J (pt b J J (D J ?_)))));cases f;exact cuE J
  have g:=aS b c;refine cC 2 J J J (decide_eq_false b) J (pf b J J (D J ?_));cases g;exact cuE J
 refine bH ?_;cases e;exact cK J J

theorem w76 (x:H.le (hp W)) {o:Option Addr} {n:Nat} {bj:List Int} (f:Sl (I (bP .i64)) 1 H o n bj) (most:Int) {r:Bool} (hr:zY bj most=some r):Calls prog 76 #[.slice o bj.length n,.int .i64 most] W (bJ M W (.bool r)):=by
 have:=f.len;refine aK (M:=M) func76 J ntmps76 J x ?_;refine C (D J (sq (C (A J (dU eO J J (A J (N ?_)))))));obtain ⟨g,y,p⟩:=L hr;refine jn (fun a w=>∃ t36,g=.inl t36∧SJ M W H [H] [] 32 [] a w) ?_ ?_
 ·refine bk ?_;refine jO [0,1,7,8] J y (fun l_ m=>(9,.int .i64 (m:Int))::l_) ?_ ?_
  ·exact cuE J
  intro j m y0 q h;refine C (dS J J J (N (sq ?_)));refine ci J (fun i=>?_) (fun i=>?_)
  ·have z:=aJ i q;refine sk (sq (bk (C (A J ?_))));obtain ⟨x0,k,B⟩:=L z;obtain ⟨p0,rfl⟩:=f.adr k;have F:=f.atF k;refine cP eO Z3 J J J J (aT k) (aR G3 J (P 0 J F) J (a1 J (D J (sq ?_))));obtain ⟨t0,G,s⟩:=L B;refine eU [0,1,7,8,9] [(30,.bool t0)] J ?_ ?_
   ·refine rg (A J (A J ?_));obtain ⟨r0,K,t⟩:=L G;refine bB GJ J (fun w H x le=>HG x0 0 most K) (nt J J (A J ?_));rcases Bool.eq_false_or_eq_true (r0) with b|b
    ·have u:=aJ b t;refine gN J J (congrArg not (b)) (A J (gN J J (congrArg not (b)) (lL J J J (gN J J (congrArg not (b)) (A J ?_)))));by_cases c:0<(m:Int)
     ·have R:=aJ c u;refine gt c J (A J (gt c J (A J (gt c J (A J (gt c J (qH J J J (by omega) (gt c J ?_))))))));obtain ⟨x1,v,V⟩:=L R;have Y:=f.atF v;refine cP eO Z3 J J J (by omega) (aT v) (gt c J (aR G3 J (P 0 J Y) J (gt c J (jN J J J (gN J J (congrArg not (b)) (pt c J J (pF J J (congrArg not (b)) J (N ?_))))))));cases V;exact cuE J
     have Z:=aS c u;refine cC 7 J J J (decide_eq_false c) J (gN J J (congrArg not (b)) (pf c J J (pF J J (congrArg not (b)) J (N ?_))));cases Z;exact cuE J
    have hP:=bK b t;refine cC 3 J J J (congrArg not (b)) J (gU J J J (gU J J J (gU J J J (gU J J J (gU J J J (gU J J J (gU J J J (gF J J (congrArg not (b)) J (pT J J (congrArg not (b)) J (N ?_))))))))));cases hP;exact cuE J
   refine cb J (fun l=>?_) (fun l=>?_)
   ·have hR:=aJ l s;refine C (D J (bH ?_));cases hR;obtain rfl:=dF.out h;cases p;exact cK J J
   have hT:=bK l s;refine sk (rg (dN J J J (by omega) (A J (N ?_))));cases hT;intro a w e d;exact ⟨_,h,e,d.cuE J⟩
  have hV:=aS i q;refine xt J ?_;cases hV;obtain rfl:=dF.out h;intro a w e d;exact ⟨_,J,e,d.cut tv⟩
 rintro a w ⟨t36,rfl,e,d⟩;apply TG.ap ?_ e d;refine C (D J (bH ?_));cases p;exact cK J J

theorem aJ2 (e:H.le (hp W)) {p:List Value} (l:dZ) (q:(dM) H p l) {r:Bool} (hr:BB l=some r):Calls prog 125 #[.agg p.toArray] W (bJ M W (.bool r)):=by
 have f:=q;obtain ⟨z,n,rfl,k⟩:=q;refine aK (M:=M) func125 J ntmps125 J e ?_;refine C (bI J J J fun q4 K5 d=>(D J (sq ?_)));obtain ⟨t0,B,F⟩:=L hr;refine eU [] [(2,.bool t0)] J ?_ ?_
 ·refine rg (aU 0 BN J Z9 (aR G9 J ((P 0 J d).take 1) J (uL U9 J J ?_)));obtain ⟨r1,G,s⟩:=L B;refine bB GJ J (fun w H e le=>HG (l.text.length:Int) 1 20 G) (A J ?_);rcases Bool.eq_false_or_eq_true (r1) with b|b
  ·have K:=aJ b s;refine gN J J (b) (aU 0 BN J Z9 (gN J J (b) (aR G9 J ((P 0 J d).take 1) J (gN J J (b) ?_))));obtain ⟨R,V⟩:=aF K;refine cvB U9 mB U5 J J R fun a0 c0 y Y=>?_;refine gN J J (b) ?_;obtain ⟨x,Z,t⟩:=L V
   refine mG (v:=.bool x) aDz J J J J (fun w H e le=>by
     have hE:eP M prog H (.func (.func 172) #[] #[]) (fC (Vi .u8) Value.bool (GF)):=⟨172,[],[],rfl,aD0,fun w_ K_ g v_ hK hw hs=>by obtain ⟨aa,m,r_,rfl,h,hx,rfl⟩:=hs;cases h;exact aJ1  m  hx⟩
     exact aJ0 e (Y.mono (I.mono _) le.o) (right:=(GF)) hE Z) ?_
   refine pT J J (b) J (A J ?_);rcases Bool.eq_false_or_eq_true (x) with c|c
   ·have hF:=aJ c t;refine gN J J (c) (aU 1 BN J pQ (gN J J (c) (aR rN J ((P 1 J d).drop 1) J (gN J J (c) ?_))));obtain ⟨r2,hG,hI⟩:=L hF;refine bB C76 J (fun w H e le=>w76 e (k.mono (I.mono _) le.u) 99 hG) (pT J J (c) J (D J ?_));cases hI;intro a w j i;exact ⟨j.selH [1,2] J,i.cuE J⟩
   have hJ:=bK c t;refine cC 3 J J J (c) J (pF J J (c) J (D J ?_));cases hJ;intro a w j i;exact ⟨j.selH [1,2] J,i.cuE J⟩
  have hL:=bK b s;refine cC 4 J J J (b) J (pF J J (b) J (A J (cC 3 J J J J J (pF J J J J (D J ?_)))));cases hL;exact cuE J
 refine bH ?_;cases F;exact cK J J

theorem aJ3 (q:H.le (hp W)) {m:List Value} (e:dI) (p:(I dO) H m e) {j:Addr} {l:Value} {bx:dI→Option Bool} (o:aN H j [l]) (k:eP M prog H l (fC (Va dO) Value.bool bx)) {r:Bool} (s:yB e bx=some r):Calls prog 174 #[.agg m.toArray,.pointer (some j)] W (bJ M W (.bool r)):=by
 obtain rfl:=p;have b:=k;obtain ⟨f,d,c,rfl,_,_⟩:=k;refine aK (M:=M) func174 J ntmps174 J q ?_;refine C (bI J J J fun u t g=>(D J (C (aR aGl J (P 1 J o) J (cM BE tO J J (P 0 J g) J ?_)))));obtain ⟨n,i,h⟩:=L s;refine mT (v:=.bool n) b 1 J J J J (fun H le=>⟨_,e,n,J,J,i,J⟩) (nt J J (D J (bH ?_)));cases h;exact cK J J

theorem aJ4 (hH:H.le (hp W)) {o:Option Addr} {n:Nat} {ai:List dI} (g:Sl (I dO) 4 H o n ai) {p:Value} {cg:dI→Option Bool} (q:eP M prog H p (fC (Va dO) Value.bool cg)) {r:Int} (hr:SR ai cg=some r):Calls prog 230 #[.slice o ai.length n,p] W (bJ M W (.int .i64 r)):=by
 have:=g.len;have b:=q;obtain ⟨h,f,e,rfl,_,_⟩:=q;refine aK (M:=M) func230 J ntmps230 J hH ?_;refine C (D J (sq (C (A J (dU ZA J J (A J (N ?_)))))));obtain ⟨e19,B,s⟩:=L hr;refine jn (fun a w=>∃ z,e19=.inl z∧SJ M W H [H] [] 19 [] a w) ?_ ?_
 ·refine bk ?_;refine jO [0,1,7] J B (fun l_ y=>(8,.int .i64 (y:Int))::l_) ?_ ?_
  ·exact cuE J
  intro j y y0 t i;refine C (dS J J J (N (sq ?_)));refine ci J (fun k=>?_) (fun k=>?_)
  ·have F:=aJ k t;refine sk (sq (bk (C (A J (D J (C (A J (A J ?_))))))));refine A J ?_;obtain ⟨x0,l,G⟩:=L F;obtain ⟨p0,rfl⟩:=g.adr l;have K:=g.atF l;refine cP ZA tO J J J J (aT l) (cM BE tO J J (P 0 J K) J ?_);obtain ⟨x,R,u⟩:=L G;refine mT (v:=.bool x) b 0 J J J J (fun H le=>⟨_,x0,x,J,J,R,J⟩) (N ?_);refine cb J (fun m=>?_) (fun m=>?_)
   ·have V:=aJ m u;refine C (A J (D J (bH ?_)));cases V;obtain rfl:=dF.out i;cases s;exact cK J J
   have Y:=bK m u;refine sk (rg (dN J J J (by omega) (A J (N ?_))));cases Y;intro a w d c;exact ⟨_,i,d,c.cuE J⟩
  have Z:=aS k t;refine xt J ?_;cases Z;obtain rfl:=dF.out i;intro a w d c;exact ⟨_,J,d,c.cut tv⟩
 rintro a w ⟨z,rfl,d,c⟩;apply TG.ap ?_ d c;refine C (D J (bH ?_));cases s;exact cK J J

theorem aJ5 (f:H.le (hp W)) {j:Option Addr} {i:Nat} {ai:List dI} (m:Sl (I dO) 4 H j i ai) {k:Value} {cg:dI→Option Bool} (l:eP M prog H k (fC (Va dO) Value.bool cg)) {r:Bool} (n:SS ai cg=some r):Calls prog 173 #[.slice j ai.length i,k] W (bJ M W (.bool r)):=by
 have b:=l;obtain ⟨e,d,c,rfl,_,_⟩:=l;refine aK (M:=M) func173 J ntmps173 J f ?_;refine C (D J (C (A J (A J ?_))));obtain ⟨p,h,g⟩:=L n;refine bB aEs J (fun w H f le=>aJ4 f (m.mono (I.mono _) le.o) (cg:=cg) (b.mono le.o) h) (pW J J J (D J (bH ?_)));cases g;exact cK J J

theorem aJ6 (j:H.le (hp W)) {p:Option Addr} {o:Nat} {bj:List dI} (y:Sl (I dO) 4 H p o bj) {q:Value} {right:dI→Option Bool} (s:eP M prog H q (fC (Va dO) Value.bool right)) {r:Bool} (z:MM bj right=some r):Calls prog 126 #[.slice p bj.length o,q] W (bJ M W (.bool r)):=by
 have b:=s;obtain ⟨f,e,d,rfl,_,_⟩:=s;refine aK (M:=M) func126 J ntmps126 J j ?_;refine C (bI J J J fun u R k=>(D J (C (A J (fn J J J ?_)))));obtain ⟨G,n,m⟩:=L z
 refine mG (v:=.bool G) aD1 J J J J (fun w H j le=>by
   have l:eP M prog H (.func (.func 174) #[] #[.pointer (some u)]) (fC (Va dO) Value.bool (fun c=>yB c right)):=⟨174,[],[.pointer (some u)],rfl,aD2,fun Z x g Y t B hs=>by obtain ⟨K,c,V,rfl,h,F,rfl⟩:=hs;cases h;exact aJ3 (H:=x) B  c rfl (bx:=right) (k.mono ((le.at 0 rfl).trans t)) (b.mono ((le.at 1 rfl).trans t)) F⟩
   exact aJ5 j (y.mono (I.mono _) le.i) (cg:=(fun c=>yB c right)) l n) ?_
 refine nt J J (D J (bH ?_));cases m;exact cK J J

theorem w74 (l:H.le (hp W)) {V:List Value} (k:eL) (Y:(iN) H V k) {r:Int} (hr:UY k=some r):Calls prog 74 #[.agg V.toArray] W (bJ M W (.int .i64 r)):=by
 have u:=Y;obtain ⟨aa,K,ab,R,rfl,m,p⟩:=Y;refine aK (M:=M) func74 J ntmps74 J l ?_;refine C (bI J J J fun q7 K8 d=>(D J (C (fn J J J (D J (sq (bk ?_)))))));refine sq ?_;obtain ⟨t55,Z,h7⟩:=L hr;refine eU [1,3] [(5,.bool t55)] J ?_ ?_
 ·refine rg (aU 0 wH J NA (aR TK J ((P 0 J d).take 1) J (dU PE J J (lL J J J (A J ?_)))));by_cases h:60<(k.words.length:Int)
  ·have hC:=aJ h Z;refine cC 4 J J J (decide_eq_true h) J (pt h J J (A J (cC 4 J J J J J (pT J J J J (D J ?_)))));cases hC;exact cuE J
  have h8:=aS h Z;refine dJ h J (aU 1 wH J VB (dJ h J (aR G94 J (((P 0 J d).drop 1).take 1) J (dJ h J (dU ZA J J (dJ h J (lL J J J (pf h J J (A J ?_)))))))));by_cases j:12<(k.orders.length:Int)
  ·have hE:=aJ j h8;refine cC 4 J J J (decide_eq_true j) J (pt j J J (D J ?_));cases hE;exact cuE J
  have hF:=aS j h8;refine dJ j J (aU 0 wH J NA (dJ j J (aR TK J ((P 0 J d).take 1) J (dJ j J ?_))));obtain ⟨r2,hG,hI⟩:=L hF
  refine mG (v:=.bool r2) XR J J J J (fun w H l le=>by
    have hJ:eP M prog H (.func (.func 124) #[] #[]) (fC (Vr dM) Value.bool (MK)):=⟨124,[],[],rfl,aDd,fun w_ n e v_ o q hs=>by obtain ⟨t,c,r_,rfl,b,s,rfl⟩:=hs;obtain ⟨_,rfl,b⟩:=b;exact aJy (H:=n) q  c b  s⟩
    exact ZR l (m.mono (dM.mono) le.i) (right:=(MK)) hJ hG) ?_
  refine dJ j J (nt J J (pf j J J (D J ?_)));cases hI;exact cuE J
 refine cb J (fun x=>?_) (fun x=>?_)
 ·have hL:=aJ x h7;refine C (D J (bH ?_));cases hL;exact cK J J
 have hM:=bK x h7;refine sq ?_;obtain ⟨t0,hN,h9⟩:=L hM;refine eU [] [(22,.bool t0)] J ?_ ?_
 ·refine rg (aU 0 wH J NA (aR TK J ((P 0 J d).take 1) J ?_));obtain ⟨r0,hO,hA⟩:=L hN
  refine mG (v:=.bool r0) XR J J J J (fun w H l le=>by
    have hP:eP M prog H (.func (.func 125) #[] #[]) (fC (Vr dM) Value.bool (BB)):=⟨125,[],[],rfl,aDe,fun w_ n e v_ o q hs=>by obtain ⟨t,c,r_,rfl,b,s,rfl⟩:=hs;obtain ⟨_,rfl,b⟩:=b;exact aJ2 (H:=n) q  c b  s⟩
    exact ZR l (m.mono (dM.mono) le.i) (right:=(BB)) hP hO) ?_
  refine nt J J (A J ?_);rcases Bool.eq_false_or_eq_true (r0) with f|f
  ·have hR:=aJ f hA;refine gN J J (congrArg not (f)) (aU 1 wH J VB (gN J J (congrArg not (f)) (aR G94 J (((P 0 J d).drop 1).take 1) J (gN J J (congrArg not (f)) (A J (gN J J (congrArg not (f)) ?_))))));obtain ⟨r1,hS,hB⟩:=L hR
   refine mG (v:=.bool r1) aDf J J J J (fun w H l le=>by
     have hT:eP M prog H (.func (.func 121) #[] #[.pointer (some q7)]) (fC (Va dO) Value.bool (fun c=>BA c k)):=⟨121,[],[.pointer (some q7)],rfl,aDc,fun w_ n e v_ o q hs=>by obtain ⟨t,c,r_,rfl,b,s,rfl⟩:=hs;cases b;exact aJu (H:=n) q  c rfl k (d.mono ((le.at 0 rfl).trans o)) ⟨_,_,_,_,rfl,(m.mono (dM.mono) ((le.at 1 rfl).trans o)),(p.mono (I.mono _) ((le.at 1 rfl).trans o))⟩ s⟩
     exact aJ6 l (p.mono (I.mono _) le.i) (right:=(fun c=>BA c k)) hT hS) ?_
   refine gN J J (congrArg not (f)) (nt J J (pF J J (congrArg not (f)) J (A J ?_)));rcases Bool.eq_false_or_eq_true (r1) with g|g
   ·have hV:=aJ g hB;refine gN J J (congrArg not (g)) (aU 2 wH J Z3 (gN J J (congrArg not (g)) (aR G3 J ((P 0 J d).drop 2) J (gN J J (congrArg not (g)) ?_))));obtain ⟨r3,hW,hX⟩:=L hV;refine bB GJ J (fun w H l le=>HG k.columns 1 20 hW) (gN J J (congrArg not (g)) (nt J J (pF J J (congrArg not (g)) J (D J ?_))));cases hX;exact cuE J
   have z:=bK g hB;refine cC 4 J J J (congrArg not (g)) J (pT J J (congrArg not (g)) J (D J ?_));cases z;exact cuE J
  have B:=bK f hA;refine cC 5 J J J (congrArg not (f)) J (pT J J (congrArg not (f)) J (A J (cC 4 J J J J J (pT J J J J (D J ?_)))));cases B;exact cuE J
 refine cb J (fun y=>?_) (fun y=>?_)
 ·have F:=aJ y h9;refine C (D J (bH ?_));cases F;exact cK J J
 have G:=bK y h9;refine sk (C (D J (bH ?_)));cases G;exact cK J J

theorem aJ7 (c:H.le (hp W)) {i:List Value} (h:eE) (j:(iD) H i h) {k:List Value} (g:dI) (o:(I dO) H k g) {r:Bool} (n:SU h g=some r):Calls prog 127 #[.agg i.toArray,.agg k.toArray] W (bJ M W (.bool r)):=by
 have b:=j;obtain ⟨x,rfl,f⟩:=j;obtain rfl:=o;refine aK (M:=M) func127 J ntmps127 J c ?_;refine C (bI J J J fun s p d=>(bI J J J fun t q e=>(D J (C (aU 3 qY J MY (aU 1 NC J pQ (aR rN J (((P 1 J d).drop 4).take 1) J (aU 2 rO J Z3 ?_))))))));refine aR G3 J (((P 0 J e).drop 2).take 1) J ?_;obtain ⟨v,l,m⟩:=L n;refine bB GN J (fun w H c le=>HE c (f.f2.mono (I.mono _) le.u) g.kind l) (nt J J (D J (bH ?_)));cases m;exact cK J J

theorem w77 (h:H.le (hp W)) {i:List Value} (f:eE) (j:(iD) H i f) {k:List Value} (g:dI) (v:(I dO) H k g) {r:Bool} (s:m77 f g=some r):Calls prog 77 #[.agg i.toArray,.agg k.toArray] W (bJ M W (.bool r)):=by
 have b:=j;obtain ⟨K,rfl,t⟩:=j;obtain rfl:=v;refine aK (M:=M) func77 J ntmps77 J h ?_;refine C (bI J J J fun B y d=>(bI J J J fun F z e=>(D J (sq ?_))));obtain ⟨x,l,m⟩:=L s;refine eU [] [(4,.bool x)] J ?_ ?_
 ·refine rg (aU 3 qY J MY (aU 0 NC J Z3 (aR G3 J (((P 1 J d).drop 3).take 1) J (aU 3 rO J Z3 (aR G3 J ((P 0 J e).drop 3) J (dS J J J (A J ?_)))))));by_cases c:f.reader.year<g.until_
  ·have n:=aJ c l;refine gt c J (cM yD pP J J (P 1 J d) J (gt c J (cM BE tO J J (P 0 J e) J (gt c J ?_))));obtain ⟨G,o,p⟩:=L n;refine bB aDg J (fun w H h le=>aJ7 h f (iD.mono _ _ _ _ le.u b) g J o) (pt c J J (D J ?_));cases p;exact cuE J
  have q:=aS c l;refine cC 3 J J J (decide_eq_false c) J (pf c J J (D J ?_));cases q;exact cuE J
 refine bH ?_;cases m;exact cK J J

theorem w52 (R:H.le (hp W)) {ew:List Value} (p:eL) (fg:(iN) H ew p) {cx:List Value} (G:eV) (dw:(jU) H cx G) {r:eE×Int} (hr:m52 p G=some r):Calls prog 52 #[.agg ew.toArray,.agg cx.toArray] W (eY M H W (fun v K=>∃ (ad:List Value),v=.tuple #[.agg ad.toArray,.int .i64 r.2]∧(iD) K ad r.1)):=by
 have s:=fg;obtain ⟨aa,z,ag,B,rfl,ae,n⟩:=fg;have:=n.len;have af:=dw;obtain ⟨ab,F,rfl,Y⟩:=dw;refine aK (M:=M) func52 J ntmps52 J R ?_;refine C (bI J J J fun q0 e i=>(bI J J J fun q13 f k=>(al 1 zeroValue146 J J fun b1=>(D J (sq (C (cM G96 NB J J (P 1 J i) J ?_)))))));obtain ⟨r1,hJ,h8⟩:=L hr;refine bB C74 J (fun w H R le=>w74 R p (iN.mono _ _ _ _ le.u s) hJ) (D J (C (A J (nI J J J (N ?_)))));refine ci J (fun h1=>?_) (fun h1=>?_)
 ·have hK:=aJ h1 h8;refine C (bu T12.B146 J J J (A J (eQ 1 pP J J J J J J J (D J (bH ?_)))));cases hK;intro a w b c;refine OB c J (cU.cell J (fK yD pP (cW (b.get (t:=1) J)) J)) (cU.tmp J) ?_;exact ⟨⟨_,J,⟨⟨_,_,_,_,_,_⟩,J,⟨Sl.o,Sl.o,Sl.o⟩⟩⟩,b.ext⟩
 have hL:=aS h1 h8;refine sk (sq (sq ?_));obtain ⟨t35,hM,h9⟩:=L hL;refine eU [2,3,4] [(25,.bool t35)] J ?_ ?_
 ·refine rg (aU 0 NC J Z3 (aR G3 J ((P 0 J k).take 1) J ?_));obtain ⟨r0,hN,hB⟩:=L hM;refine bB C75 J (fun w H R le=>w75 G.year hN) (nt J J (A J ?_));rcases Bool.eq_false_or_eq_true (r0) with q|q
  ·have hO:=aJ q hB;refine gN J J (congrArg not (q)) (aU 1 NC J pQ (gN J J (congrArg not (q)) (aR rN J ((P 0 J k).drop 1) J (gN J J (congrArg not (q)) ?_))));obtain ⟨r2,hP,hR⟩:=L hO;refine bB C76 J (fun w H R le=>w76 R (Y.mono (I.mono _) le.u) 7 hP) (gN J J (congrArg not (q)) (nt J J (pF J J (congrArg not (q)) J (N ?_))));cases hR;exact cuE J
  have hT:=bK q hB;refine cC 4 J J J (congrArg not (q)) J (pT J J (congrArg not (q)) J (N ?_));cases hT;exact cuE J
 refine cb J (fun h2=>?_) (fun h2=>?_)
 ·have hV:=aJ h2 h9;refine C (bu T12.B146 J J J (eQ 1 pP J J J J J J J (D J (bH ?_))));cases hV;intro a w b c;refine OB c J (cU.cell J (fK yD pP (cW (b.get (t:=1) J)) J)) (cU.tmp J) ?_;exact ⟨⟨_,J,⟨⟨_,_,_,_,_,_⟩,J,⟨Sl.o,Sl.o,Sl.o⟩⟩⟩,b.ext⟩
 have hW:=bK h2 h9;refine sk (C (cM G96 NB J J (P 1 J i) J (cM YN MY J J (P 0 J k) J (buA T12.B144 J J J (bu T12.B146 J J J (al 2 zeroValue146 J J fun b0=>(eQ 2 pP J J J J J J J (N (sq (sq ?_))))))))));refine rg (aU 1 wH J VB (aR G94 J (((P 1 J i).drop 1).take 1) J (dU ZA J J (A J (N ?_)))));obtain ⟨ah,hX,aj⟩:=L hW
 let g:S:=bE b1 146 (gE [.slice none 0 0,.slice none 0 0,.int .i64 0,.int .i64 0,.slice none 0 0] (cY bG.zero))
 let ac:List Value:=[.slice aa p.words.length z,.slice ag p.orders.length B,.int .i64 p.columns,.int .i64 G.year,.slice ab G.may.length F]
 refine gG [4,7] J (fun Z=>SJ M W H [f,e,H] [(2,bE b0 146 (gE ac (cY ah))),(1,g)] 46 Z) ?_ ?_
 ·refine bk ?_;refine jZ [4,7,32,33] J hX (fun Z s2=>SJ M W H [f,e,H] [(2,bE b0 146 (gE ac (cY s2.2))),(1,g)] 46 ((34,.int .i64 (s2.1:Int))::Z)) ?_ ?_
  ·exact cuE J
  rintro j s2 y0 hC hE a w ⟨b,c⟩;refine TG.ap ?_ b c;refine C (dS J J J (N (sq ?_)));refine ci J (fun h3=>?_) (fun h3=>?_)
  ·have ak:=aJ h3 hC;refine sk (sq (bk (C ?_)));obtain ⟨x0,h4,am⟩:=L ak;obtain ⟨p0,rfl⟩:=n.adr h4;have an:=n.atF h4;refine cP ZA tO J J J J (aT h4) (cM BE tO J J (P 2 J an) J (va zeroValue102 tO J J J J J J J J fun q1 d l=>(N (C (cM yD pP J J (sO 2 J) J (cM BE tO J J (P 0 J l) J ?_))))));obtain ⟨r3,ao,aq⟩:=L am;refine bB C77 J (fun w H R le=>w77 R (⟨p,G,s2.2⟩:eE) ⟨⟨_,_,_,_,_,_⟩,J,⟨(ae.mono (dM.mono) le.v),(n.mono (I.mono _) le.v),(Y.mono (I.mono _) le.v)⟩⟩ x0 J ao) (N ?_);obtain ⟨t0,hF,ar⟩:=L aq
   let h:List Value:=[.slice aa p.words.length z,.slice (some p0) p.orders.length B,.int .i64 p.columns,.int .i64 G.year,.slice ab G.may.length F]
   refine gG [4,7,32,33,34] J (fun Z=>SJ M W H [d,f,e,H] [(2,bE b0 146 (gE h (cY t0))),(1,g)] 46 Z) ?_ ?_
   ·refine cb J (fun h5=>?_) (fun h5=>?_)
    ·have au:=aJ h5 hF;refine rg (aU 5 qY J GU (cM BE tO J J (P 0 J l) J ?_));obtain ⟨t1,aw,ax⟩:=L au;refine wP C78 func78 J ntmps78 J J J J (fun v w=>(v=.tuple #[]∧St M W H [d,f,e,H] [(2,bE b0 146 (gE h (cY t1))),(1,g)] w)) ?_ ?_
     ·refine C (bI J J J fun q2 y m=>(N (C (aU 0 rO J Z3 (aR G3 J ((P 0 J m).take 1) J (D J ?_))))));obtain ⟨ai,ay,az⟩:=L aw;refine jn (SJ M W H [y,d,f,e,H] [(2,bE b0 146 (gE h (cY ai))),(1,g)] 17 []) ?_ ?_
      ·refine bk ?_;refine jZ [0,3] J ay (fun Z V=>SJ M W H [y,d,f,e,H] [(2,bE b0 146 (gE h (cY V.2))),(1,g)] 17 ((4,.int .i64 V.1)::Z)) ?_ ?_
       ·exact cuE J
       rintro j V y1 hG hI a w ⟨b,c⟩;refine TG.ap ?_ b c;refine sq (C (A J (aU 1 rO J Z3 (aR G3 J (((P 0 J m).drop 1).take 1) J (dS J J J (N ?_))))));refine ci J (fun h6=>?_) (fun h6=>?_)
       ·have a0:=aJ h6 hG;refine sk (sq (bk (rg (A J (A J (nl J J ?_))))));obtain ⟨a9,a2⟩:=aF a0;obtain ⟨ba,a3⟩:=aF a2;have h7:V.1.toNat<60:=by omega
        refine oK GX Z4 J J J (j:=V.1.toNat) (by omega) h7 (vC 2 h (cY V.2) (j:=V.1.toNat) Z4 J J J J J h7 (bG.st (x:=V.2) h7) (N (rg (A J ?_))));obtain ⟨a4,a5⟩:=aF a3;refine dN J J J a4 (D J ?_);cases a5;intro a w b c;exact ⟨_,hI,b,c.cuE J⟩
       have a6:=aS h6 hG;refine xt J ?_;cases a6;obtain rfl:=dF.out hI;exact cu tv
      rintro a w ⟨b,c⟩;apply TG.ap ?_ b c;cases az;intro a w b c;refine eF c J ?_;exact ⟨_,J,⟨J,b.selH [1,2,3,4] J⟩⟩
     rintro a w v c (⟨rfl,b⟩);refine fB J c b (N ?_);cases ax;exact cuE J
    have a7:=bK h5 hF;refine sk ?_;cases a7;exact cuE J
   refine X ?_;refine rg (dN J J J (by omega) (A J (N ?_)));cases ar;intro a w b c;exact ⟨_,hE,b.selH [1,2,3] J,c.cuE J⟩
  have a8:=aS h3 hC;refine xt J ?_;cases a8;obtain rfl:=dF.out hE;exact cuE J
 rintro a w ⟨b,c⟩;apply TG.ap ?_ b c;refine C (cM yD pP J J (sO 2 J) J (eQ 1 pP J J J J J J J (D J (bH ?_))));cases aj;intro a w b c;refine OB c J (cU.cell J (fK yD pP (cW (b.get (t:=1) J)) J)) (cU.tmp J) ?_;exact ⟨⟨_,J,⟨⟨_,_,_,_,_,_⟩,J,⟨(ae.mono (dM.mono) (b.grow 2 J)),(n.mono (I.mono _) (b.grow 2 J)),(Y.mono (I.mono _) (b.grow 2 J))⟩⟩⟩,b.ext⟩

theorem w79 (hH:H.le (hp W)) {dg:Value} {yield:Int→gA→Option Bool} (dx:eP M prog H dg (VY (Vi .i64) (Va gM) Value.bool yield)) {ay:Addr} {dh:List Value} (bx:eE) (y:aN H ay dh) (bf:(iD) H dh bx) {r:Unit} (hr:m79 yield bx=some r):Calls prog 79 #[dg,.pointer (some ay)] W (bJ M W (.tuple #[])):=by
 have e:=dx;obtain ⟨s,o,n,rfl,_,_⟩:=dx;have z:=bf;obtain ⟨⟨ax,ar,az,au,a2,aw⟩,rfl,⟨m,a8,a9⟩⟩:=bf;have:=m.len;refine aK (M:=M) func79 J ntmps79 J hH ?_;refine C (D J (C (aU 0 qY J NB (aU 0 wH J NA (aR TK J ((P 0 J y).take 1) J (dU PE J J (A J (N ?_))))))));obtain ⟨F,hM,h7⟩:=L hr;refine jn (fun a w=>∃ t62,F=.inl t62∧SJ M W H [H] [] 49 [] a w) ?_ ?_
 ·refine bk ?_;refine jO [0,1,10,11] J hM (fun t g=>(3,.int .i64 (g.1:Int))::(12,.int .i64 (g.2:Int))::t) ?_ ?_
  ·exact cuE J
  intro j g y0 h8 R;refine C (dS J J J (N (sq ?_)));refine ci J (fun V=>?_) (fun V=>?_)
  ·have hN:=aJ V h8;refine sk (sq ?_);obtain ⟨t2,hO,h9⟩:=L hN;refine gG [0,1,10,11,12] J (fun t a w=>∃ t1,t2=.inl t1∧SJ M W H [H] [] 49 ((3,.int .i64 (t1:Int))::t) a w) ?_ ?_
   ·refine bk (C (A J ?_));obtain ⟨x0,Y,hP⟩:=L hO;obtain ⟨p0,rfl⟩:=m.adr Y;obtain ⟨c1,a3,hR,hB⟩:=m.at Y;have a4:=hB;obtain ⟨a0,c0,rfl,a5⟩:=hB;refine cP PE tN J J J J (aT Y) (cM MU tN J J (P 0 J hR) J (al 1 zeroValue100 J J fun b1=>(a1 J (eQ 1 tN J J J J J J J (N (sq ?_))))));obtain ⟨hT,hV⟩:=aF hP;obtain ⟨hW,hX⟩:=aF hV
    let B:List Value:=[.string (bs x0.text),.slice a0 x0.heads.length c0]
    let l:List Value:=[.string (bs []),.int .i64 0]
    let i:S:=bE b1 100 B
    refine DA (JR 10 6 (fun d=>[(2,bE d 108 l),(1,i)]) (fun _ _=>[])) 11 [10] [(9,26,.int .i64 (g.2:Int))] mixed (fun _ _ _ _ _ h=>h) (by kernel_rfl) (by kernel_rfl) (by kernel_rfl) J (by kernel_rfl) (by kernel_rfl) (.cons J J J (fun _=>J) (by kernel_rfl) (by kernel_rfl) (fun _ _=>J) (mvY J) (.nil)) (dA J (aU 0 BN J Z9 aG) (DC.detQ (fun τ=>cJ τ 1=some (i)) J J tv ⟨_,J,fun u v hu=>by simp at hu;subst hu;rfl⟩ J J (fun τ hτ a w K c b hF=>TG.pa c b (ld (v:=.string (bs x0.text)) G9 J J ((sO 1 hτ).take 1) J aG)) (dA J (A J aG) (dA J (aU 0 qY J NB aG) (dA J (aU 2 wH J Z3 aG) (dA J (aR G3 J (((P 1 J y).drop 2).take 1) J aG) (dA J (QH J J J hT aG) (dA J (dN J J J hW aG) (dA J (bu T12.B108 J J J aG) (DC.pre (.head _) J (DC.turn (α:=Nat) 0 (fun d=>.pointer (some (⟨d,0,none⟩))) (fun _ _=>True) (fun d=>[(2,bE d 108 l),(1,i)]) J (fun _ _ _ _ h=>h) (by kernel_rfl) J J (fun a w K c b hF=>TG.pa c b (al 2 zeroValue108 J J fun d=>wS (f:=fun d=>.pointer (some (⟨d,0,none⟩))) (G:=fun _ _=>True) (σ1:=fun d=>[(2,bE d 108 l),(1,i)]) d tv)) fun d=>?_)))))))))));refine DC.nil fun q hF=>?_;obtain ⟨_,_⟩:=hF;refine eQ 2 tP J J J J J J J (D J (sq (C (A J (aU 5 qY J GU ?_)))));obtain ⟨a6,aa⟩:=aF hX;have hC:g.2<60:=by omega
    refine oK GX Z4 J J J (j:=g.2) J hC (aR G4 J (P 1 J ((y.drop 5).arr g.2 (bG.at (x:=bx.veil) hC))) J (N ?_));obtain ⟨t155,hE,hG⟩:=L aa;refine gG [0,1,3,6,10,11,12] J (fun t a w=>∃ p,t155=.inl p∧SJ M W H [q,H] [(2,bE d 108 [.string (bs p.2),.int .i64 (((g.1:Int)/bx.report.columns)+1)]),(1,i)] 49 ((7,.int .i64 p.1)::t) a w) ?_ ?_
    ·refine cb J (fun Z=>?_) (fun Z=>?_)
     ·have ab:=aJ Z hE;refine sq (sq ?_);obtain ⟨t167,hI,hJ⟩:=L ab;refine eU [0,1,3,6,10,11,12] [(39,.bool t167)] J ?_ ?_
      ·refine rg (A J (lL J J J (A J ?_)));by_cases k:0<(g.2:Int)
       ·have ac:=aJ k hI;refine gt k J (A J (gt k J (qH J J J (by omega) (gt k J (aU 5 qY J GU (gt k J ?_))))));obtain ⟨a7,ad⟩:=aF ac;have hK:((g.2:Int)-1).toNat<60:=by omega
        refine oK GX Z4 J J J (j:=((g.2:Int)-1).toNat) (by omega) hK (gt k J (aR G4 J (P 1 J ((y.drop 5).arr (((g.2:Int)-1).toNat) (bG.at (x:=bx.veil) hK))) J (pt k J J (N ?_))));cases ad;exact cuE J
       have ae:=aS k hI;refine cC 5 J J J (decide_eq_false k) J (pf k J J (N ?_));cases ae;exact cuE J
      refine cb J (fun h6=>?_) (fun h6=>?_)
      ·have af:=aJ h6 hJ;refine xt J ?_;obtain ⟨z0,ag,rfl⟩:=kQ af;cases hG;refine TG.del 2 (TG.del 1 ?_);cases ag;intro a w c b;exact ⟨_,J,c.selH [1] J,b.cuE J⟩
      have ah:=bK h6 hJ;refine sk (rg (aU 0 GW J Z9 (eQ 2 Z9 J J J J J J J (D J ?_))));cases ah;intro a w c b;exact ⟨_,J,c,b.cuE J⟩
     have ai:=bK Z hE;refine sk ?_;cases ai;intro a w c b;exact ⟨_,J,c,b.cuE J⟩
    rintro a w ⟨p,rfl,c,b⟩;refine TG.ap ?_ c b;refine sq (C (A J (A J (cM MV tP J J (sO 2 J) J ?_))));obtain ⟨r0,aj,hL⟩:=L hG;refine mT (v:=.bool r0) e 1 J J J J (fun H le=>⟨_,_,p.1,(⟨p.2,(((g.1:Int)/bx.report.columns)+1)⟩:gA),r0,J,J,J,aj,J⟩) (nt J J (N ?_));refine cb J (fun h1=>?_) (fun h1=>?_)
    ·replace h1:=oI h1
     have ak:=bK h1 hL;refine bH ?_;cases ak;cases h9;obtain rfl:=dF.out R;cases h7;intro a w c b;refine eF b J ?_;exact ⟨J,c.ext⟩
    replace h1:=oJ h1
    have am:=aJ h1 hL;refine sk (rg (A J ?_));obtain ⟨an,ao⟩:=aF am;refine dN J J J an (D J (TG.del 2 (TG.del 1 ?_)));cases ao;intro a w c b;exact ⟨_,J,c.selH [1] J,b.cuE J⟩
   rintro a w ⟨t1,rfl,c,b⟩;refine TG.ap ?_ c b;refine rg (dN J J J (by omega) (A J (N ?_)));cases h9;intro a w c b;exact ⟨_,R,c,b.cuE J⟩
  have aq:=aS V h8;refine xt J ?_;cases aq;obtain rfl:=dF.out R;intro a w c b;exact ⟨_,J,c,b.cut tv⟩
 rintro a w ⟨t62,rfl,c,b⟩;apply TG.ap ?_ c b;cases h7;intro a w c b;refine eF b J ?_;exact ⟨J,c.ext⟩

theorem w31 (hH:H.le (hp W)) {ew:List Value} (ej:eL) (fg:(iN) H ew ej) {cx:List Value} (ct:eV) (dw:(jU) H cx ct) {r:List gA×Int} (hr:m31 ej ct=some r):Calls prog 31 #[.agg ew.toArray,.agg cx.toArray] W (eY M H W (fun v K=>∃ (af:Option Addr) (ac:Nat),v=.tuple #[.slice af r.1.length ac,.int .i64 r.2]∧Sl (I gM) 2 K af ac r.1)):=by
 have aa:=fg;obtain ⟨bv,bp,bw,bq,rfl,ca,cc⟩:=fg;have ab:=dw;obtain ⟨bx,br,rfl,cd⟩:=dw;refine pY (M:=M) func31 J ntmps31 J hH ?_;refine C (bI J J J fun q0 n ai=>(bI J J J fun q13 p aj=>(a1 J (D J (C (cM G96 NB J J (P 1 J ai) J (cM YN MY J J (P 0 J aj) J ?_)))))));obtain ⟨r0,hM,h7⟩:=L hr;refine gW C52 J J J J (fun w H hH le=>w52 hH ej (iN.mono _ _ _ _ le.u aa) ct (jU.mono _ _ _ _ le.u ab) hM) ?_;rintro v_ q ⟨c7,rfl,h8⟩;have b7:=h8;obtain ⟨⟨a8,c8,a9,c9,bt,cR⟩,rfl,⟨h1,b8,b9⟩⟩:=h8;have:=h1.len;refine A J (ex J J J (ex J J J (va zeroValue146 pP J J J J J J J J fun q1 s ak=>(D J (sq (C (A J (nI J J J (N ?_)))))))));refine ci J (fun h2=>?_) (fun h2=>?_)
 ·have hN:=aJ h2 h7;refine C (A J (a1 J (D J (bH ?_))));cases hN;refine OE (OF ?_);intro a w c d;refine mW d J J J ?_;exact ⟨⟨_,_,J,Sl.o⟩,c.ext⟩
 have hO:=aS h2 h7;refine sk (C (al 1 zeroValue103 J J fun b1=>(N (sq (C (cM yD pP J J (P 0 J ak) J (WG C53 func53 J ntmps53 J J J J (C ?_))))))));refine bI J J J fun q2 t m=>(D J (C (fn J J J (D J (bH ?_)))));intro a w c d;refine dT d J J ?_;refine ⟨_,J,fun a d=>?_⟩;refine fB J d c (N (bk (TG.nilRow 8 108 2 ?_)));obtain ⟨t2,hP,hR⟩:=L hO;refine WE 2 3 C79 func79 J ntmps79 J J (fun F b e w=>(∃ (a5:Option Addr) (c4:Nat),St M W H [t,s,q,p,n,H] [(2,S.blk F (e .ready none)),(3,S.blk b (.deferred (some []))),(8,S.list a5 c4 108 2 gM t2),(1,bE b1 103 [.slice a5 t2.length c4])] w)) ?_ ?_
 ·intro F b e t4 ae g;refine C (D J (C (aU 0 qY J NB (aU 0 wH J NA (aR TK J ((P 0 J m).take 1) J (dU PE J J (A J (N ?_))))))));refine TG.as 8 (z:=S.list none 0 108 2 gM ([]:List gA)) J J ?_;obtain ⟨ah,hT,hV⟩:=L hP;refine jn (fun a w=>∃ (a2:Option Addr) (c1:Nat),SJ M W H [t,s,q,p,n,H] [(2,S.blk F (e .ready none)),(3,S.blk b (.deferred (some []))),(8,S.list a2 c1 108 2 gM ah),(1,bE b1 103 [.slice a2 ah.length c1])] 49 [] a w) ?_ ?_
  ·refine bk ?_;refine jZ [0,1,10,11] J hT (fun l_ i a w=>∃ (a0:Option Addr) (c0:Nat),SJ M W H [t,s,q,p,n,H] [(2,S.blk F (e .ready none)),(3,S.blk b (.deferred (some []))),(8,S.list a0 c0 108 2 gM i.2.2),(1,bE b1 103 [.slice a0 i.2.2.length c0])] 49 ((3,.int .i64 (i.1:Int))::(12,.int .i64 (i.2.1:Int))::l_) a w) ?_ ?_
   ·intro a w c d;exact ⟨none,0,c,d.cuE J⟩
   rintro j i y0 h9 hB a w ⟨a0,c0,c,d⟩;refine TG.ap ?_ c d;refine C (dS J J J (N (sq ?_)));refine ci J (fun h3=>?_) (fun h3=>?_)
   ·have hW:=aJ h3 h9;refine sk (sq ?_);obtain ⟨t1,hX,an⟩:=L hW;refine gG [0,1,10,11,12] J (fun l_ a w=>∃ (a3:Option Addr) (c2:Nat),SJ M W H [t,s,q,p,n,H] [(2,S.blk F (e .ready none)),(3,S.blk b (.deferred (some []))),(8,S.list a3 c2 108 2 gM t1.2),(1,bE b1 103 [.slice a3 t1.2.length c2])] 49 ((3,.int .i64 (t1.1:Int))::l_) a w) ?_ ?_
    ·refine bk (C (A J ?_));obtain ⟨x0,h4,ao⟩:=L hX;obtain ⟨p0,rfl⟩:=h1.adr h4;obtain ⟨cS,bz,aq,hC⟩:=h1.at h4;have b3:=hC;obtain ⟨a6,c5,rfl,b4⟩:=hC;refine cP PE tN J J J J (aT h4) (cM MU tN J J (P 2 J aq) J (al 4 zeroValue100 J J fun b2=>(a1 J (eQ 4 tN J J J J J J J (N (sq ?_))))));obtain ⟨ar,au⟩:=aF ao;obtain ⟨aw,ax⟩:=aF au
     let y:S:=bE b2 100 [.string (bs x0.text),.slice a6 x0.heads.length c5]
     let V:S:=bE b1 103 [.slice a0 i.2.2.length c0]
     let Y:S:=S.list a0 c0 108 2 gM i.2.2
     let ad:List Value:=[.string (bs []),.int .i64 0]
     refine DA (JR 10 6 (fun k=>[(5,bE k 108 ad),(4,y),(2,S.blk F (e .ready none)),(3,S.blk b (.deferred (some []))),(8,Y),(1,V)]) (fun _ _=>[])) 11 [10] [(9,26,.int .i64 (i.2.1:Int))] mixed (fun _ _ _ _ _ h=>h) (by kernel_rfl) (by kernel_rfl) (by kernel_rfl) J (by kernel_rfl) (by kernel_rfl) (.cons J J J (fun _=>J) (by kernel_rfl) (by kernel_rfl) (fun _ _=>J) (mvY J) (.nil)) (dA J (aU 0 BN J Z9 aG) (DC.detQ (fun τ=>cJ τ 4=some (y)) J J tv ⟨_,J,fun u v hu=>by simp at hu;subst hu;rfl⟩ J J (fun τ hτ a w K c d hF=>TG.pa c d (ld (v:=.string (bs x0.text)) G9 J J ((sO 4 hτ).take 1) J aG)) (dA J (A J aG) (dA J (aU 0 qY J NB aG) (dA J (aU 2 wH J Z3 aG) (dA J (aR G3 J (((P 1 J m).drop 2).take 1) J aG) (dA J (QH J J J ar aG) (dA J (dN J J J aw aG) (dA J (bu T12.B108 J J J aG) (DC.pre (.head _) J (DC.turn (α:=Nat) 0 (fun k=>.pointer (some (⟨k,0,none⟩))) (fun _ _=>True) (fun k=>[(5,bE k 108 ad),(4,y),(2,S.blk F (e .ready none)),(3,S.blk b (.deferred (some []))),(8,Y),(1,V)]) J (fun _ _ _ _ h=>h) (by kernel_rfl) J J (fun a w K c d hF=>TG.pa c d (al 5 zeroValue108 J J fun k=>wS (f:=fun k=>.pointer (some (⟨k,0,none⟩))) (G:=fun _ _=>True) (σ1:=fun k=>[(5,bE k 108 ad),(4,y),(2,S.blk F (e .ready none)),(3,S.blk b (.deferred (some []))),(8,Y),(1,V)]) k tv)) fun k=>?_)))))))))));refine DC.nil fun B hF=>?_;obtain ⟨_,_⟩:=hF;refine eQ 5 tP J J J J J J J (D J (sq (C (A J (aU 5 qY J GU ?_)))));obtain ⟨b5,ay⟩:=aF ax;have hE:i.2.1<60:=by omega
     refine oK GX Z4 J J J (j:=i.2.1) J hE (aR G4 J (P 1 J ((m.drop 5).arr i.2.1 (bG.at (x:=r0.1.veil) hE))) J (N ?_));obtain ⟨t5,hG,hI⟩:=L ay;refine gG [0,1,3,6,10,11,12] J (fun l_ a w=>∃ t0,t5=.inl t0∧SJ M W H [B,t,s,q,p,n,H] [(5,bE k 108 [.string (bs t0.2),.int .i64 (((i.1:Int)/r0.1.report.columns)+1)]),(4,y),(2,S.blk F (e .ready none)),(3,S.blk b (.deferred (some []))),(8,Y),(1,V)] 49 ((7,.int .i64 t0.1)::l_) a w) ?_ ?_
     ·refine cb J (fun h5=>?_) (fun h5=>?_)
      ·have az:=aJ h5 hG;refine sq (sq ?_);obtain ⟨t6,hJ,hK⟩:=L az;refine eU [0,1,3,6,10,11,12] [(39,.bool t6)] J ?_ ?_
       ·refine rg (A J (lL J J J (A J ?_)));by_cases R:0<(i.2.1:Int)
        ·have ba:=aJ R hJ;refine gt R J (A J (gt R J (qH J J J (by omega) (gt R J (aU 5 qY J GU (gt R J ?_))))));obtain ⟨b6,bb⟩:=aF ba;have hL:((i.2.1:Int)-1).toNat<60:=by omega
         refine oK GX Z4 J J J (j:=((i.2.1:Int)-1).toNat) (by omega) hL (gt R J (aR G4 J (P 1 J ((m.drop 5).arr (((i.2.1:Int)-1).toNat) (bG.at (x:=r0.1.veil) hL))) J (pt R J J (N ?_))));cases bb;exact cuE J
        have bc:=aS R hJ;refine cC 5 J J J (decide_eq_false R) J (pf R J J (N ?_));cases bc;exact cuE J
       refine cb J (fun h6=>?_) (fun h6=>?_)
       ·have bd:=aJ h6 hK;refine xt J ?_;obtain ⟨z0,be,rfl⟩:=kQ bd;cases hI;refine TG.del 5 (TG.del 4 ?_);cases be;intro a w c d;exact ⟨a0,c0,c.selH [1,2,3,4,5,6] J,d.cuE J⟩
       have bf:=bK h6 hK;refine sk (rg (aU 0 GW J Z9 (eQ 5 Z9 J J J J J J J (D J ?_))));cases bf;intro a w c d;exact ⟨_,J,c,d.cuE J⟩
      have bg:=bK h5 hG;refine sk ?_;cases bg;intro a w c d;exact ⟨_,J,c,d.cuE J⟩
     rintro a w ⟨t0,rfl,c,d⟩;refine TG.ap ?_ c d;refine sq (C (A J (A J (cM MV tP J J (sO 5 J) J ?_))));obtain ⟨t3,bh,bi⟩:=L hI
     let ag:List Value:=[.string (bs t0.2),.int .i64 (((i.1:Int)/r0.1.report.columns)+1)]
     refine yl 2 [] (L1:=(23,.agg ag.toArray)::(22,.int .i64 t0.1)::_) J J J ae g J J J (fun v w=>(∃ (a4:Option Addr) (c3:Nat),v=.bool true∧St M W H [B,t,s,q,p,n,H] [(5,bE k 108 ag),(4,y),(2,S.blk F (e .ready none)),(3,S.blk b (.deferred (some []))),(8,S.list a4 c3 108 2 gM t3),(1,bE b1 103 [.slice a4 t3.length c3])] w)) ?_ ?_
     ·refine rg (va zeroValue108 tP J J J J J J J J fun q3 am Z=>(N (bR 2 g J (bk (rg (aR YM J (sO 1 J) J (cM MV tP J J (P 0 J Z) J ?_)))))));obtain ⟨bj,bl⟩:=aF bh;refine wO 8 gM (l:=i.2.2) (⟨t0.2,(((i.1:Int)/r0.1.report.columns)+1)⟩:gA) T12.E103 J J J J J J J J J J J J bj fun a7 c6 u0=>(eQ 1 aGw J J J J J J J (N ?_));cases bl;refine eR 2 none g J fun w c=>?_;exact ⟨a7,c6,J,c.selH [1,2,3,4,5,6,7] J⟩
     rintro a w v d (⟨a4,c3,rfl,c⟩);refine fB J d c (nt J J (N (cF J J (sk (rg (A J ?_))))));obtain ⟨bm,bn⟩:=aF bi;refine dN J J J bm (D J (TG.del 5 (TG.del 4 ?_)));cases bn;intro a w c d;exact ⟨a4,c3,c.selH [1,2,3,4,5,6] J,d.cuE J⟩
    rintro a w ⟨a3,c2,c,d⟩;refine TG.ap ?_ c d;refine rg (dN J J J (by omega) (A J (N ?_)));cases an;intro a w c d;exact ⟨_,hB,a3,c2,c,d.cuE J⟩
   have bo:=aS h3 h9;refine xt J ?_;cases bo;obtain rfl:=dF.out hB;intro a w c d;exact ⟨a0,c0,c,d.cut tv⟩
  rintro a w ⟨a2,c1,c,d⟩;apply TG.ap ?_ c d;cases hV;intro a w c d;refine eF d J ?_;exact ⟨_,J,⟨a2,c1,c⟩⟩
 rintro F b e t4 a w g d (⟨a5,c4,c⟩);refine TG.ap ?_ c d;refine WF 2 g J (C (aR YM J (sO 1 J) J (a1 J (D J (bH ?_)))));cases hR;refine OE (UR 3 J (OF ?_));intro a w c d;refine mW d J J J ?_;exact ⟨⟨_,_,J,(c.listOut 8 J (fun _=>J))⟩,c.ext⟩

theorem w13 (y:H.le (hp W)) (hg:Gv M H) {bp:Option Addr} {bg:Nat} {lines:List aE} (bm:Sl (I bY) 1 H bp bg lines) (year:Int) {fe:Option Addr} {ey:Nat} {may:List Int} (fy:Sl (I (bP .i64)) 1 H fe ey may) {r:List aE×Int} (hr:PA lines year may=some r):Calls prog 13 #[.slice bp lines.length bg,.int .i64 year,.slice fe may.length ey] W (eY M H W (fun v K=>∃ (aq:Option Addr) (ac:Nat),v=.tuple #[.slice aq r.1.length ac,.int .i64 r.2]∧Sl (I bY) 1 K aq ac r.1)):=by
 refine aK (M:=M) func13 J ntmps13 J y ?_;refine C (a1 J (D J (sc (sq (C (A J ?_))))));obtain ⟨r1,ec,bc⟩:=L hr;refine bB C20 J (fun w H y le=>w20 y (bm.mono (I.mono _) le.o) ec) (D J (C (A J (nI J J J (N ?_)))));refine ci J (fun ak=>?_) (fun ak=>?_)
 ·have dB:=aJ ak bc;refine C (A J (a1 J (D J (bH ?_))));cases dB;intro a w b c;refine mW c J J J ?_;exact ⟨⟨_,_,J,Sl.o⟩,b.ext⟩
 have ea:=aS ak bc;refine sk (C (A J ?_));obtain ⟨r10,cd,cg⟩:=L ea;refine gW C21 J J J J (fun w H y le=>w21 y (hg.mono le.o) (bm.mono (I.mono _) le.o) cd) ?_;rintro v_ g ⟨q1,e4,eo,e5,rfl,h1,hO,fv⟩;have fw:=hO;obtain ⟨⟨ep,e6,er,e7,es,e8,et,e9,eu,fa,ew,fc,ez,ff,e0,fg,e1,fh,e2,fj,e3,fk,ej,fl,ek,fm,el,fo⟩,rfl,⟨ck,hP,h2,cn,cq,ct,cx,da,de,di,dl,dp,ds,dw⟩⟩:=hO;have:=h2.len;refine A J (ex J J J (ex J J J (a1 J (D J (C (A J ?_))))));obtain ⟨t90,dz,d2⟩:=L cg;refine wP C29 func29 J ntmps29 J J J J (fun v w=>(∃ (a8:Option Addr) (c9:Nat) (e:Hp),v=.slice a8 t90.length c9∧St M W H [e,g,H] [] w∧Sl (I aO) 2 e a8 c9 t90)) ?_ ?_
 ·refine C (D J (sq ?_));obtain ⟨r3,d4,d6⟩:=L dz;obtain ⟨B,d8,bt⟩:=L d6;refine eH 17 mixed (by kernel_rfl) J (dC J ?_)
  refine DF.und (α:=List Value) [] (fun q=>.agg q.toArray) (fun (q:List Value) K=>(bV) K q r3) (fun _ _ _ h x=>bV.mono _ _ _ _ h x) (by kernel_rfl) J (fun a w K b c t=>TG.pa b c (gW C50 J J J J (fun w H y le=>ZC y r10.1 (h1.mono le.i) ⟨⟨_,_,_,_,_,_,_,_,_,_,_,_,_,_,_,_,_,_,_,_,_,_,_,_,_,_,_,_⟩,J,⟨(ck.mono (bW.mono) le.i),(hP.mono (I.mono _) le.i),(h2.mono (I.mono _) le.i),(cn.mono (I.mono _) le.i),(cq.mono (I.mono _) le.i),(ct.mono (aZ.mono) le.i),(cx.mono (I.mono _) le.i),(da.mono (I.mono _) le.i),(de.mono (I.mono _) le.i),(di.mono (I.mono _) le.i),(dl.mono (I.mono _) le.i),(dp.mono (I.mono _) le.i),(ds.mono (I.mono _) le.i),(dw.mono (I.mono _) le.i)⟩⟩ d4) (by
    rintro v_ ed ⟨fp,rfl,bw⟩
    exact nJ (f:=fun q=>.agg q.toArray) (G:=(fun (q:List Value) K=>(bV) K q r3)) _ (fun _ _ _ h x=>bV.mono _ _ _ _ h x) bw))) fun fq=>?_
  refine dC J (E J (nl J J aG) (E J (aU 0 fD J eT aG) (E J (aU 8 eX J TN aG) (E J (aR PC J (((P 1 J h1).drop 8).take 1) J aG) (dC J (E J (nl J J aG) (E J (aU 0 fD J eT aG) (E J (aU 0 eX J Z3 aG) (E J (aR G3 J ((P 1 J h1).take 1) J aG) ?_)))))))))
  refine DF.und (α:=Option Addr×Nat) (none,0) (fun q=>.tuple #[.slice q.1 B.1.length q.2,.int .i64 B.2]) (fun (q:Option Addr×Nat) K=>Sl (I aO) 2 K q.1 q.2 B.1) (fun _ _ _ h x=>x.mono (I.mono _) h) (by kernel_rfl) J (fun a w K b c t=>TG.pa b c (gW C49 J J J J (fun w H y le=>w49 y r3 (bV.mono _ _ _ _ le.o (t.1 J)) (hP.mono (I.mono _) le.i) r10.1.state.day d8) (by
    rintro v_ ee ⟨bd,cS,rfl,bz⟩
    exact nJ (f:=fun q=>.tuple #[.slice q.1 B.1.length q.2,.int .i64 B.2]) (G:=(fun (q:Option Addr×Nat) K=>Sl (I aO) 2 K q.1 q.2 B.1)) (bd,cS) (fun _ _ _ h x=>x.mono (I.mono _) h) bz))) ?_
  rintro ⟨a2,c1⟩;refine uC (.tuple #[.slice a2 B.1.length c1,.int .i64 B.2]) (fun K=>Sl (I aO) 2 K a2 c1 B.1) (fun _ _ h x=>x.mono (I.mono _) h) J (fun a w K b c t F=>TG.pa b c (A J (F (t.1 J)))) (uC (.slice a2 B.1.length c1) (fun K=>Sl (I aO) 2 K a2 c1 B.1) (fun _ _ h x=>x.mono (I.mono _) h) J (fun a w K b c t F=>TG.pa b c (ex J J J (F (t.1 J)))) (E J (ex J J J aG) (uC (.slice a2 B.1.length c1) (fun K=>Sl (I aO) 2 K a2 c1 B.1) (fun _ _ h x=>x.mono (I.mono _) h) J (fun a w K b c t F=>TG.pa b c (a1 J (F (t.1 J)))) (DF.nil fun am t=>?_))));obtain ⟨b4,fx,fz,b6,hR,_⟩:=t;have ft:=hR;obtain ⟨em,fr,rfl,fu⟩:=hR;have:=b6.len;refine D J (C (A J (D J (bH ?_))));cases bt;intro a w b c;refine dT c J J ?_;exact ⟨_,J,⟨a2,c1,am,J,b,b4⟩⟩
 rintro a w v c (⟨a8,c9,e,rfl,b,h0⟩);have:=h0.len;refine fB J c b (D J (C (bu T12.B96 J J J (al 1 zeroValue96 J J fun b0=>(eQ 1 NB J J J J J J J (N (sq (C ?_))))))));refine A J (dU wG J J (A J (N (TG.nilRow 3 100 2 ?_))));have ag:Rows (dM) 2 H [] ([]:List dZ):=tv;refine TG.as 3 (z:=S.rows none 0 100 2 [] ([]:List dZ)) J J ?_;obtain ⟨k,b8,ca⟩:=L d2;refine gG [1,2,9,11,12] J (fun n a w=>∃ (a0:Option Addr) (c0:Nat) (c5:List (List Value)) (d:Hp),St M W H [d,e,g,H] [(3,S.rows a0 c0 100 2 c5 k),(1,bE b0 96 [.slice a0 k.length c0,.slice none 0 0,.int .i64 5])] w∧bQ [] 118 a n∧Rows (dM) 2 d c5 k) ?_ ?_
 ·refine bk ?_;refine jZ [1,2,9,11,12,37,38] J b8 (fun n s1 a w=>∃ (a5:Option Addr) (c6:Nat) (c3:List (List Value)) (s:Hp),St M W H [s,e,g,H] [(3,S.rows a5 c6 100 2 c3 s1.2),(1,bE b0 96 [.slice a5 s1.2.length c6,.slice none 0 0,.int .i64 5])] w∧bQ [] 118 a ((39,.int .i64 (s1.1:Int))::n)∧Rows (dM) 2 s c3 s1.2) ?_ ?_
  ·intro a w b c;exact ⟨none,0,[],H,b.selH [2,0,1,2] J,c.cuE J,ag⟩
  rintro j s1 y0 h3 hT a w ⟨a5,c6,c3,s,b,c,Z⟩;refine TG.ap ?_ b c;unfold vQ at h3;refine C (dS J J J (N (sq ?_)));refine ci J (fun h4=>?_) (fun h4=>?_)
  ·have ce:=aJ h4 h3;refine sk (sq (bk (C ?_)));obtain ⟨x1,h5,ch⟩:=L ce;obtain ⟨p0,rfl⟩:=h0.adr h5;have cl:=h0.atF h5;refine cP wG lO J J J J (aT h5) (cM BI lO J J (P 1 J cl) J (va zeroValue98 lO J J J J J J J J fun q2 ef ae=>(N ?_)));obtain ⟨r2,co,cr⟩:=L ch;refine eH 7 mixed (by kernel_rfl) J (E J (aU 0 wH J NA aG) (E J (aR TK J ((sO 1 J).take 1) J aG) (E J (aU 0 yK J Z3 aG) (E J (aR G3 J ((P 1 J ae).take 1) J aG) (E J (bB C30 J (fun w H y le=>w30 y (hg.mono (le.at 5 J)) x1.anchor co) aG) (E J (bu T12.B100 J J J aG) ?_))))))
   refine uF 1 (dM) 2 ([(⟨r2,([]:List Int)⟩:dZ)]:List dZ) (dM.mono) J (fun a w K b c t=>TG.pa b c (bS T12.E93 J J J J fun q0 eg cv af=>by
     refine TG.pack (fun K=>Sl (dM) 2 K (some q0) 1 ([(⟨r2,([]:List Int)⟩:dZ)]:List dZ)) (fun H le=>Sl.litR (css:=[[.string (bs r2),.slice none 0 0]]) (l:=([(⟨r2,([]:List Int)⟩:dZ)]:List dZ)) ⟨⟨J,J,⟨_,_,J,Sl.o⟩⟩,tv⟩ cv (af.mono le.o) J) fun eh hV=>?_;have:=hV.len;refine sk1 ?_
     exact rJ (dM.mono) hV)) fun be bj=>?_
   refine DF.nil fun ei t=>?_;obtain ⟨hW,_⟩:=t;have:=hW.len;obtain ⟨cy,db⟩:=aF cr;have:=JP s1.2 ([(⟨r2,([]:List Int)⟩:dZ)]:List dZ);refine TG.pack (fun K=>Sl (dM) 2 K be bj ([(⟨r2,([]:List Int)⟩:dZ)]:List dZ)∧Rows (dM) 2 K c3 s1.2) (fun H le=>⟨hW.mono (dM.mono) le.o,Z.mono (dM.mono) le.u⟩) fun an ⟨dg,ai⟩=>(VX 3 (l:=s1.2) (m:=([(⟨r2,([]:List Int)⟩:dZ)]:List dZ)) T12.E93 J J J J J J dg ai dM.one J cy fun bf bl bn aj=>(aU 0 wH J NA (eQ 1 NA J J J J J J J (N (rg (dN J J J (by omega) (A J (N ?_))))))));cases db;intro a w b c;exact ⟨_,hT,bf,bl,bn,an,b.selH [0,4,5,6] J,c.cuE J,aj⟩
  have dj:=aS h4 h3;refine xt J ?_;cases dj;obtain rfl:=dF.out hT;intro a w b c;exact ⟨a5,c6,c3,s,b,c.cuE J,Z⟩
 rintro a w ⟨a0,c0,c5,d,b,c,ah⟩;apply TG.ap ?_ b c;refine sq (lb (sq (C (A J (nl J J (aU 0 fD J eT (aU 9 eX J TO (aR YO J (((P 2 J h1).drop 9).take 1) J (dU VC J J (A J ?_))))))))));refine N (TG.nilRow 6 102 4 (TG.as 6 (z:=S.list none 0 102 4 dO ([]:List dI)) J J ?_));obtain ⟨ab,dm,dq⟩:=L ca
 let aa:S:=S.rows a0 c0 100 2 c5 k
 refine gG [1,2,12] J (fun n a w=>∃ (a6:Option Addr) (c7:Nat),SJ M W H [d,e,g,H] [(6,S.list a6 c7 102 4 dO ab),(3,aa),(1,bE b0 96 [.slice a0 k.length c0,.slice a6 ab.length c7,.int .i64 5])] 118 n a w) ?_ ?_
 ·refine bk ?_;refine jZ [1,2,11,12,57,58] J dm (fun n s2 a w=>∃ (a3:Option Addr) (c2:Nat),SJ M W H [d,e,g,H] [(6,S.list a3 c2 102 4 dO s2.2),(3,aa),(1,bE b0 96 [.slice a0 k.length c0,.slice a3 s2.2.length c2,.int .i64 5])] 118 ((59,.int .i64 (s2.1:Int))::n) a w) ?_ ?_
  ·intro a w b c;exact ⟨none,0,b,c.cuE J⟩
  rintro j s2 y1 h6 hX a w ⟨a3,c2,b,c⟩;refine TG.ap ?_ b c;unfold vT at h6;refine C (dS J J J (N (sq ?_)));refine ci J (fun h7=>?_) (fun h7=>?_)
  ·have du:=aJ h7 h6;refine sk (sq ?_);obtain ⟨t1,dx,d0⟩:=L du;refine gG [1,2,11,12,57,58,59] J (fun n a w=>∃ (a7:Option Addr) (c8:Nat),SJ M W H [d,e,g,H] [(6,S.list a7 c8 102 4 dO t1),(3,aa),(1,bE b0 96 [.slice a0 k.length c0,.slice a7 t1.length c8,.int .i64 5])] 118 n a w) ?_ ?_
   ·refine bk (C ?_);obtain ⟨x0,h8,d3⟩:=L dx;obtain ⟨p1,rfl⟩:=h2.adr h8;have d5:=h2.atF h8;refine cP VC TR J J J J (aT h8) (cM G62 TR J J (P 2 J d5) J (va zeroValue62 TR J J J J J J J J fun q3 ao p=>(N (C (A J (dU wG J J (A J (N ?_))))))));obtain ⟨br,d7,au⟩:=L d3;refine gG [1,2,11,12,57,58,59] J (fun n a w=>∃ t2,br=.inl t2∧SJ M W H [ao,d,e,g,H] [(6,S.list a3 c2 102 4 dO s2.2),(3,aa),(1,bE b0 96 [.slice a0 k.length c0,.slice a3 s2.2.length c2,.int .i64 5])] 118 n a w) ?_ ?_
    ·refine bk ?_;refine jO [1,2,11,12,16,57,58,59,63,64] J d7 (fun n s3=>(65,.int .i64 (s3:Int))::n) ?_ ?_
     ·exact cuE J
     intro j s3 y2 h9 hB;unfold zZ at h9;refine C (dS J J J (N (sq ?_)));refine ci J (fun hC=>?_) (fun hC=>?_)
     ·have d9:=aJ hC h9;refine sk (sq (bk (C (A J ?_))));obtain ⟨x3,hE,aw⟩:=L d9;obtain ⟨p2,rfl⟩:=h0.adr hE;have bv:=h0.atF hE;refine cP wG lO J J J J (aT hE) (cM BI lO J J (P 2 J bv) J (al 4 zeroValue98 J J fun b2=>(a1 J (eQ 4 lO J J J J J J J (N (C (aU 0 yK J Z3 (aR G3 J ((sO 4 J).take 1) J (aU 0 TY J Z3 (aR G3 J ((P 0 J p).take 1) J ?_))))))))));refine fZ J J J (N ?_);refine ci J (fun hG=>?_) (fun hG=>?_)
      ·have bx:=aJ hG aw;refine C (aU 1 wH J VB (aR G94 J (((sO 1 J).drop 1).take 1) J (A J (A J (dN J J J (by omega) (aU 1 TY J Z3 (aR G3 J (((P 0 J p).drop 1).take 1) J (aU 2 TY J Z3 (aR G3 J ((P 0 J p).drop 2) J (bu T12.B102 J J J ?_))))))))));obtain ⟨b3,b5⟩:=aF bx;have:=JP s2.2 [({x0 with from_:=(s3:Int),to_:=((s3:Int)+1)}:dI)];have:=WN ({x0 with from_:=(s3:Int),to_:=((s3:Int)+1)}:dI);refine wO 6 dO (l:=s2.2) ({x0 with from_:=(s3:Int),to_:=((s3:Int)+1)}:dI) T12.E94 J J J J J J J J J J J J b3 fun bh bo u0=>(aU 1 wH J VB (eQ 1 VB J J J J J J J (N (xt J ?_))));obtain ⟨z0,b7,rfl⟩:=kQ b5;obtain rfl:=dF.out hB;cases au;refine TG.del 4 ?_;cases b7;intro a w b c;exact ⟨bh,bo,b.selH [1,2,3,4] J,c.cuE J⟩
      have b9:=aS hG aw;refine sk (rg (dN J J J (by omega) (A J (N (TG.del 4 ?_)))));cases b9;intro a w b c;exact ⟨_,hB,b,c.cuE J⟩
     have cc:=aS hC h9;refine xt J ?_;cases cc;obtain rfl:=dF.out hB;intro a w b c;exact ⟨_,J,b,c.cuE J⟩
    rintro a w ⟨t2,rfl,b,c⟩;apply TG.ap ?_ b c;cases au;intro a w b c;exact ⟨a3,c2,b.selH [1,2,3,4] J,c.cuE J⟩
   rintro a w ⟨a7,c8,b,c⟩;refine TG.ap ?_ b c;refine rg (dN J J J (by omega) (A J (N ?_)));cases d0;intro a w b c;exact ⟨_,hX,a7,c8,b,c.cuE J⟩
  have cf:=aS h7 h6;refine xt J ?_;cases cf;obtain rfl:=dF.out hX;intro a w b c;exact ⟨a3,c2,b,c.cuE J⟩
 rintro a w ⟨a6,c7,b,c⟩;apply TG.ap ?_ b c;refine C (cM G96 NB J J (sO 1 J) J (A J (A J (bu T12.B106 J J J (TG.stillR 3 J 0 J (dM.mono) ah fun R ax=>?_)))));have:=ax.len;refine TG.still 6 J (fun _=>J) fun V ay=>?_;have:=ay.len;obtain ⟨r4,cj,az⟩:=L dq;refine gW C31 J J J J (fun w H y le=>w31 y (⟨k,ab,5⟩:eL) ⟨_,_,_,_,J,(ax.mono (dM.mono) le.i),(ay.mono (I.mono _) le.o)⟩ (⟨year,may⟩:eV) ⟨_,_,J,(fy.mono (I.mono _) (le.at 5 J))⟩ cj) ?_;rintro v_ Y ⟨en,fs,rfl,hI⟩;have:=hI.len;refine A J (ex J J J (ex J J J (a1 J (D J (sq (C (A J (nI J J J (N ?_)))))))));refine ci J (fun hJ=>?_) (fun hJ=>?_)
 ·have cm:=aJ hJ az;refine C (A J (a1 J (D J (bH ?_))));cases cm;intro a w b c;refine mW c J J J ?_;exact ⟨⟨_,_,J,Sl.o⟩,b.ext⟩
 have cp:=aS hJ az;refine sk (C (D J (sq (C (A J (dU YU J J (A J (N ?_))))))));refine TG.nilRow 9 9 1 (TG.as 9 (z:=S.list none 0 9 1 bY ([]:List aE)) J J ?_);obtain ⟨ar,cs,cw⟩:=L cp
 let ad:S:=bE b0 96 [.slice a0 k.length c0,.slice a6 ab.length c7,.int .i64 5]
 refine jn (fun a w=>∃ (a9:Option Addr) (cR:Nat),SJ M W H [Y,V,R,d,e,g,H] [(9,S.list a9 cR 9 1 bY ar),(1,ad)] 118 [(21,.slice a9 ar.length cR)] a w) ?_ ?_
 ·refine bk ?_;refine jZ [101,102] J cs (fun n s4 a w=>∃ (a4:Option Addr) (c4:Nat),SJ M W H [Y,V,R,d,e,g,H] [(9,S.list a4 c4 9 1 bY s4.2),(1,ad)] 118 ((21,.slice a4 s4.2.length c4)::(103,.int .i64 (s4.1:Int))::n) a w) ?_ ?_
  ·intro a w b c;exact ⟨none,0,b,c.cuE J⟩
  rintro j s4 y3 hK ba a w ⟨a4,c4,b,c⟩;refine TG.ap ?_ b c;unfold GI at hK;refine C (dS J J J (N (sq ?_)));refine ci J (fun hL=>?_) (fun hL=>?_)
  ·have cz:=aJ hL hK;refine sk (sq (bk (C ?_)));obtain ⟨x2,hM,dd⟩:=L cz;obtain ⟨p3,rfl⟩:=hI.adr hM;have dh:=hI.atF hM;refine cP YU tP J J J J (aT hM) (cM MV tP J J (P 0 J dh) J (al 7 zeroValue108 J J fun b1=>(eQ 7 tP J J J J J J J (N (sq (C (aU 0 GW J Z9 (aR G9 J ((sO 7 J).take 1) J (pX J J J (N ?_))))))))));obtain ⟨t0,bb,dk⟩:=L dd;refine gG [21,23,101,102,103] J (fun n=>SJ M W H [Y,V,R,d,e,g,H] [(7,bE b1 108 [.string (bs t0),.int .i64 x2.column]),(9,S.list a4 c4 9 1 bY s4.2),(1,ad)] 118 n) ?_ ?_
   ·refine ci J (fun hN=>?_) (fun hN=>?_)
    ·have dn:=aJ hN bb;refine rg (aU 0 GW J Z9 (eQ 7 Z9 J J J J J J J (N ?_)));cases dn;exact cuE J
    have dr:=aS hN bb;refine sk ?_;cases dr;exact cuE J
   refine X ?_;refine rg (A J (aU 0 GW J Z9 (aR G9 J ((sO 7 J).take 1) J ?_)));obtain ⟨dv,dy⟩:=aF dk;have:=JP s4.2 [t0];have:=WN t0;refine wO 9 bY (l:=s4.2) t0 T12.E22 J J J J J J J J J J J J dv fun bi bq u1=>(D J (rg (dN J J J (by omega) (A J (N (TG.del 7 ?_))))));cases dy;intro a w b c;exact ⟨_,ba,bi,bq,b,c.cuE J⟩
  have d1:=aS hL hK;refine xt J ?_;cases d1;obtain rfl:=dF.out ba;intro a w b c;exact ⟨a4,c4,b,c.cuE J⟩
 rintro a w ⟨a9,cR,b,c⟩;apply TG.ap ?_ b c;refine C (A J (a1 J (D J (bH ?_))));cases cw;intro a w b c;refine mW c J J J ?_;exact ⟨⟨_,_,J,(b.listOut 9 J (fun _=>J))⟩,b.ext⟩

theorem w14 (B:H.le (hp W)) {l:Option Addr} {k:Nat} {bj:List Int} (d:Sl (I (bP .i64)) 1 H l k bj) (m:Int) {r:Bool} (F:m14 bj m=some r):Calls prog 14 #[.slice l bj.length k,.int .i64 m] W (bJ M W (.bool r)):=by
 have:=d.len;refine aK (M:=M) func14 J ntmps14 J B ?_;refine C (D J (sq (C (D J ?_))));obtain ⟨e,t,n⟩:=L F;refine jn (fun a w=>∃ s,e=.inl s∧SJ M W H [H] [] 18 [] a w) ?_ ?_
 ·refine bk ?_;refine jO [0,1] J t (fun G q=>(5,.int .i64 (q:Int))::G) ?_ ?_
  ·exact cuE J
  intro j q V o f;refine sq (C (A J (A J (dU eO J J (dS J J J (N ?_))))));refine ci J (fun g=>?_) (fun g=>?_)
  ·have u:=aJ g o;refine sk (sq (bk (C (A J (A J ?_)))));obtain ⟨R,h,p⟩:=L u;obtain ⟨K,rfl⟩:=d.adr h;have v:=d.atF h;refine cP eO Z3 J J J J (aT h) (aR G3 J (P 0 J v) J (A J (fZ J J J (N ?_))));refine ci J (fun i=>?_) (fun i=>?_)
   ·have x:=aJ i p;refine C (D J (bH ?_));cases x;obtain rfl:=dF.out f;cases n;exact cK J J
   have y:=aS i p;refine sk (rg (A J (dN J J J (by omega) (D J ?_))));cases y;intro a w c b;exact ⟨_,f,c,b.cuE J⟩
  have z:=aS g o;refine xt J ?_;cases z;obtain rfl:=dF.out f;intro a w c b;exact ⟨_,J,c,b.cut tv⟩
 rintro a w ⟨s,rfl,c,b⟩;apply TG.ap ?_ c b;refine C (D J (bH ?_));cases n;exact cK J J

theorem aJ8 (g:Nat):∀ {M:Prop} {W:World} (b:Int) {r:aE},tL g b=some r→Calls prog 15 #[.int .i64 b] W (bJ M W (.string (bs r))):=by
 induction g with
 | zero=>intro M W b r d;cases d
 | succ g ih_ =>
  intro M W b r d;refine aK (M:=M) func15 J ntmps15 J (Hp.le.refl _) ?_;refine C (D J (sq (C (A J (dS J J J (N ?_))))));refine ci J (fun f=>?_) (fun f=>?_)
  ·have h:=aJ f d;refine C (A J ?_);obtain ⟨i,j⟩:=aF h;refine VV J J J i (dN J J J (by omega) (yY U3 U5 J J (rW (by omega)) ?_));obtain ⟨k,m⟩:=aF j;refine bS T12.E39 J J J J fun K e n c=>?_;have o:Sl (I cH) 1 e (some K) 1 ([(UInt8.ofNat (48+(b%10)).toNat)]:List UInt8):=Sl.litR (css:=[[.int .u8 (48+(b%10))]]) (l:=([(UInt8.ofNat (48+(b%10)).toNat)]:List UInt8)) ⟨⟨J,J,(u8e k)⟩,tv⟩ n c J;refine cvT o 0 J mB U5 U9 J J (D J (bH ?_));cases m;exact cK J J
  have p:=aS f d;refine sk (C (A J ?_));obtain ⟨q,s⟩:=aF p;refine QH J J J q ?_;obtain ⟨R,t,u⟩:=L s;refine bB C15 J (fun w H z le=>ih_ (b/10) t) (A J ?_);obtain ⟨v,x⟩:=aF u;refine VV J J J v ?_;obtain ⟨V,y,B⟩:=L x;refine bB C15 J (fun w H z le=>ih_ (b%10) y) ?_;obtain ⟨F,G⟩:=aF B;refine KB J J J F (D J (bH ?_));cases G;exact cK J J
theorem w15 {M:Prop} {W:World} (b:Int) {r:aE} (e:m15 b=some r):Calls prog 15 #[.int .i64 b] W (bJ M W (.string (bs r))):=by
 obtain ⟨c,d⟩:=nK (show sP (fun c=>tL c b)=some r from e);exact aJ8 c b d

end T12
