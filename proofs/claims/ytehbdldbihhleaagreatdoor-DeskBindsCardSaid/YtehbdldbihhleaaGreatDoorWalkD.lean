/-
 Walks of functions of a session: each call comes to what the model says. Printed by a program of ours.
-/
import Derived.Test.YtehbdldbihhleaaGreatDoorWalkC
set_option linter.all false
set_option maxHeartbeats 4000000
namespace T12
open Go Go.Proofs Pk Tryz
open Pk renaming m1→A,aB→C,aC→D,dt→E,aD→I,aA→L,on→N,sS→P,aP→S,aQ→U
variable {M:Prop} {W:World} {H:Hp}
theorem w46 (d:H.le (hp W)) (k:Gv M H) (cite:aE) {r:gE⊕Unit} (hr:JA cite=some r):Calls prog 46 #[.string (bs cite)] W (sQ M W (fun r=>.agg (cW r).toArray) (.iface 134 (.agg #[.string (bs cite)])) r):=by
 unfold JA at hr;refine aN (M:=M) func46 J ntmps46 J d ?_
 let f:List Value:=[.string (bs cite)]
 let a5:List Value:=[.int .u8 0,.int .i64 0,.int .i64 0,.int .i64 0]
 refine C (bI (cs:=f) J J J fun q l e=>(al 1 (cs:=a5) zeroValue85 J J fun b4=>(N (C (U G9 J (P 0 J e) J (al 2 (cs:=[.string (bs [])]) zeroValue9 J J fun m=>(eP 2 (cs:=f) Z9 J J J J J J J (N (sq ?_)))))))));refine rg (fn J J J (I J (C (U G9 J (P 0 J e) J ?_))));obtain ⟨r6,gj,gi⟩:=L hr;refine bB C70 J (fun w H d le=>w70 d (k.mono le.i) cite [118,111,108,46,32] gj) (A J (ex J J J (ex J J J (a1 J (I J (sq (bk (C (A J ?_)))))))));refine nt J J (I J ?_);obtain ⟨tD,bj,n⟩:=L gi
 let g:S:=bF b4 85 a5
 refine jn (fun a w=>∃ o,tD=.inl o∧SJ M W H [l,H] [(2,bF m 9 [.string (bs o.2.2.2.2)]),(1,bF b4 85 [.int .u8 o.1,.int .i64 o.2.1,.int .i64 o.2.2.1,.int .i64 o.2.2.2.1])] 58 [(1,.pointer (some q)),(2,.pointer (some (⟨b4,0,none⟩)))] a w) ?_ ?_
 ·refine cb J (fun hM=>?_) (fun hM=>?_)
  ·replace hM:=kX hM
   have fo:=bJ hM bj;refine rg (A J ?_);obtain ⟨tE,fu,hT⟩:=L fo;refine uZ ON func68 J ntmps68 J J J J (fun v w=>(∃ (t1:Int×aE),tE=(.inl t1)∧v=.int .i64 t1.1∧St M W H [l,H] [(2,bF m 9 [.string (bs t1.2)]),(1,g)] w)) _ (fun _ _ _ b h=>⟨b.defers,h⟩) ?_ ?_
   ·refine C (I J (C (U G9 J (sO 2 J) J (I J (sq (C ?_))))));refine A J (tV J J J (N (cT J ((by decide:decide (([64]:aE)≠[])=true)) (C (U G9 J (sO 2 J) J (A J ?_))))));obtain ⟨r0,f0,bm⟩:=L fu;refine bB SB J (fun w H d le=>QI d (k.mono le.i) cite [64] f0) (A J (ex J J J (ex J J J (ex J J J (a1 J (a1 J (I J (sq (C ?_)))))))));refine A J (nt J J (N ?_));refine cb J (fun hN=>?_) (fun hN=>?_)
    ·replace hN:=kX hN
     have f5:=bJ hN bm;refine rg (U G9 J (P 0 J e) J (bu (cs:=f) T12.B134 J J J (fi nD J J J (xB J ?_))));cases f5;cases hT;cases n;intro a w c b;exact ⟨b.defers,eC c.ext⟩
    replace hN:=kY hN
    have ga:=aJ hN bm;refine sk (rg (A J (A J (a1 J (eP 2 (cs:=[.string (bs r0.2.1)]) Z9 J J J J J J J (N (C (A J ?_))))))));obtain ⟨r1,cf,cl⟩:=L ga;refine gA MF J J J J (fun w H d le=>KO d (k.mono le.i) r0.1 cf) ?_;rintro v_ aw ⟨hb,rfl,cq⟩;refine A J (ex J J J (ex J J J (a1 J (I J (sq (sq ?_))))));obtain ⟨tR,bo,bq⟩:=L cl;refine jn (SJ M W H [aw,l,H] [(2,bF m 9 [.string (bs r0.2.1)]),(1,g)] 50 [(2,.pointer (some q)),(9,.int .i64 r1.1),(45,.bool tR)]) ?_ ?_
    ·refine rg (A J (NQ tM J J cq (A J ?_)));rcases Bool.eq_false_or_eq_true (r1.2) with s | s
     ·have cx:=aJ s bo;refine cC 4 J J J (s) J (pT J J (s) J (A J (cC 3 J J J J J (pT J J J J (N ?_)))));cases cx;exact cuE J
     have c3:=bJ s bo;refine gN J J (s) (A J (gN J J (s) ?_));obtain ⟨gl,c8,bt⟩:=L c3;refine bB ME J (fun w H d le=>KP d (k.mono le.u) r1.1 c8) (gN J J (s) (A J (gN J J (s) (tV J J J (pF J J (s) J (A J ?_))))));by_cases hC:gl≠r0.1
     ·have db:=aJ hC bt;refine cC 3 J J J (decide_eq_true hC) J (pt hC J J (N ?_));cases db;exact cuE J
     have di:=aU hC bt;refine dC hC J (A J (dC hC J ?_));obtain ⟨hk,dn,du⟩:=L di;refine bB vY J (fun w H d le=>wD r1.1 0 999999 dn) (dC hC J (nt J J (pf hC J J (N ?_))));cases du;exact cuE J
    refine X ?_;refine cb J (fun hV=>?_) (fun hV=>?_)
    ·have d3:=aJ hV bq;refine rg (U G9 J (P 1 J e) J (bu (cs:=f) T12.B134 J J J (fi nD J J J (xB J ?_))));cases d3;cases hT;cases n;intro a w c b;exact ⟨b.defers,eC c.ext⟩
    have d8:=bJ hV bq;refine sk (C (A J (I J (bK ?_))));cases d8;intro a w c b;refine dN b J J ?_;exact ⟨_,J,⟨_,J,J,c.selH [1,2] J⟩⟩
   rintro a w v b (⟨t1,rfl,rfl,c⟩);refine eL J b c (A J ?_);obtain ⟨gw,ed,bw⟩:=L hT
   let a6:aL:=[(2,bF m 9 [.string (bs t1.2)]),(1,g)]
   refine uZ ON func68 J ntmps68 J J J J (fun v w=>(∃ (t7:Int),gw=(.inl t7)∧v=.int .i64 t7∧St M W H [l,H] a6 w)) _ (fun _ _ _ b h=>⟨b.defers,h⟩) ?_ ?_
   ·refine C (I J (C (U G9 J (sO 2 J) J (I J (sq (C ?_))))));refine A J (tV J J J (N (cF J ((by decide:decide (([]:aE)≠[])=false)) (sk (C (A J ?_))))));obtain ⟨r2,ei,en⟩:=L ed;refine gA MF J J J J (fun w H d le=>KO d (k.mono le.i) t1.2 ei) ?_;rintro v_ ax ⟨hc,rfl,et⟩;refine A J (ex J J J (ex J J J (a1 J (I J (sq (sq ?_))))));obtain ⟨gx,bz,b1⟩:=L en;refine jn (SJ M W H [ax,l,H] a6 50 [(2,.pointer (some q)),(9,.int .i64 r2.1),(45,.bool gx)]) ?_ ?_
    ·refine rg (A J (NQ tM J J et (A J ?_)));rcases Bool.eq_false_or_eq_true (r2.2) with x | x
     ·have e0:=aJ x bz;refine cC 4 J J J (x) J (pT J J (x) J (A J (cC 3 J J J J J (pT J J J J (N ?_)))));cases e0;exact cuE J
     have e5:=bJ x bz;refine gN J J (x) (A J (gN J J (x) ?_));obtain ⟨gn,fa,b3⟩:=L e5;refine bB ME J (fun w H d le=>KP d (k.mono le.u) r2.1 fa) (gN J J (x) (A J (gN J J (x) (tV J J J (pF J J (x) J (A J ?_))))));by_cases hE:gn≠t1.2
     ·have fh:=aJ hE b3;refine cC 3 J J J (decide_eq_true hE) J (pt hE J J (N ?_));cases fh;exact cuE J
     have fp:=aU hE b3;refine dC hE J (A J (dC hE J ?_));obtain ⟨hl,fv,f1⟩:=L fp;refine bB vY J (fun w H d le=>wD r2.1 0 999999 fv) (dC hE J (nt J J (pf hE J J (N ?_))));cases f1;exact cuE J
    refine X ?_;refine cb J (fun hW=>?_) (fun hW=>?_)
    ·have f6:=aJ hW b1;refine rg (U G9 J (P 1 J e) J (bu (cs:=f) T12.B134 J J J (fi nD J J J (xB J ?_))));cases f6;cases bw;cases n;intro a w c b;exact ⟨b.defers,eC c.ext⟩
    have gb:=bJ hW b1;refine sk (C (A J (I J (bK ?_))));cases gb;intro a w c b;refine dN b J J ?_;exact ⟨_,J,⟨_,J,J,c.selH [1,2] J⟩⟩
   rintro a w v b (⟨t7,rfl,rfl,c⟩)
   let a4:List Value:=[.int .u8 2,.int .i64 t1.1,.int .i64 t7,.int .i64 0]
   refine eL J b c (VD (cs:=[.int .i64 t1.1,.int .i64 t7,.int .i64 0]) T12.B83 J J J (bu (cs:=a4) T12.B85 J J J (eP 1 (cs:=a4) SM J J J J J J J (N ?_))));cases bw;intro a w c b;exact ⟨_,J,c,b.cuE J⟩
  replace hM:=kY hM
  have cg:=aJ hM bj;refine C (U G9 J (P 0 J e) J ?_);obtain ⟨hm,cm,cr⟩:=L cg;refine bB C71 J (fun w H d le=>w71 d (k.mono le.i) cite [99,111,108,46,32] cm) (I J ?_);obtain ⟨gy,b7,p⟩:=L cr;refine jn (fun a w=>∃ t4,gy=.inl t4∧SJ M W H [l,H] [(2,bF m 9 [.string (bs t4.2.2.2.2)]),(1,bF b4 85 [.int .u8 t4.1,.int .i64 t4.2.1,.int .i64 t4.2.2.1,.int .i64 t4.2.2.2.1])] 58 [(1,.pointer (some q)),(2,.pointer (some (⟨b4,0,none⟩)))] a w) ?_ ?_
  ·refine cb J (fun hX=>?_) (fun hX=>?_)
   ·have cy:=aJ hX b7;refine C (A J (eP 2 (cs:=[.string (bs r6.1)]) Z9 J J J J J J J (N (rg (A J ?_)))));obtain ⟨gz,c4,ag⟩:=L cy;refine uZ ON func68 J ntmps68 J J J J (fun v w=>(∃ (t5:Int×aE),gz=(.inl t5)∧v=.int .i64 t5.1∧St M W H [l,H] [(2,bF m 9 [.string (bs t5.2)]),(1,g)] w)) _ (fun _ _ _ b h=>⟨b.defers,h⟩) ?_ ?_
    ·refine C (I J (C (U G9 J (sO 2 J) J (I J (sq (C ?_))))));refine A J (tV J J J (N (cT J ((by decide:decide (([44,32,99,111,108,46,32]:aE)≠[])=true)) (C (U G9 J (sO 2 J) J (A J ?_))))));obtain ⟨r3,c9,b9⟩:=L c4;refine bB SB J (fun w H d le=>QI d (k.mono le.i) r6.1 [44,32,99,111,108,46,32] c9) (A J (ex J J J (ex J J J (ex J J J (a1 J (a1 J (I J (sq (C ?_)))))))));refine A J (nt J J (N ?_));refine cb J (fun hO=>?_) (fun hO=>?_)
     ·replace hO:=kX hO
      have dd:=bJ hO b9;refine rg (U G9 J (P 0 J e) J (bu (cs:=f) T12.B134 J J J (fi nD J J J (xB J ?_))));cases dd;cases ag;cases p;cases n;intro a w c b;exact ⟨b.defers,eC c.ext⟩
     replace hO:=kY hO
     have dj:=aJ hO b9;refine sk (rg (A J (A J (a1 J (eP 2 (cs:=[.string (bs r3.2.1)]) Z9 J J J J J J J (N (C (A J ?_))))))));obtain ⟨r4,dp,dv⟩:=L dj;refine gA MF J J J J (fun w H d le=>KO d (k.mono le.i) r3.1 dp) ?_;rintro v_ ay ⟨hd,rfl,dz⟩;refine A J (ex J J J (ex J J J (a1 J (I J (sq (sq ?_))))));obtain ⟨g1,ca,cc⟩:=L dv;refine jn (SJ M W H [ay,l,H] [(2,bF m 9 [.string (bs r3.2.1)]),(1,g)] 50 [(2,.pointer (some q)),(9,.int .i64 r4.1),(45,.bool g1)]) ?_ ?_
     ·refine rg (A J (NQ tM J J dz (A J ?_)));rcases Bool.eq_false_or_eq_true (r4.2) with y | y
      ·have d4:=aJ y ca;refine cC 4 J J J (y) J (pT J J (y) J (A J (cC 3 J J J J J (pT J J J J (N ?_)))));cases d4;exact cuE J
      have d9:=bJ y ca;refine gN J J (y) (A J (gN J J (y) ?_));obtain ⟨gp,ee,cd⟩:=L d9;refine bB ME J (fun w H d le=>KP d (k.mono le.u) r4.1 ee) (gN J J (y) (A J (gN J J (y) (tV J J J (pF J J (y) J (A J ?_))))));by_cases hF:gp≠r3.1
      ·have ej:=aJ hF cd;refine cC 3 J J J (decide_eq_true hF) J (pt hF J J (N ?_));cases ej;exact cuE J
      have eo:=aU hF cd;refine dC hF J (A J (dC hF J ?_));obtain ⟨hn,eu,e1⟩:=L eo;refine bB vY J (fun w H d le=>wD r4.1 0 999999 eu) (dC hF J (nt J J (pf hF J J (N ?_))));cases e1;exact cuE J
     refine X ?_;refine cb J (fun ah=>?_) (fun ah=>?_)
     ·have e6:=aJ ah cc;refine rg (U G9 J (P 1 J e) J (bu (cs:=f) T12.B134 J J J (fi nD J J J (xB J ?_))));cases e6;cases ag;cases p;cases n;intro a w c b;exact ⟨b.defers,eC c.ext⟩
     have fc:=bJ ah cc;refine sk (C (A J (I J (bK ?_))));cases fc;intro a w c b;refine dN b J J ?_;exact ⟨_,J,⟨_,J,J,c.selH [1,2] J⟩⟩
    rintro a w v b (⟨t5,rfl,rfl,c⟩);refine eL J b c (A J ?_);obtain ⟨g2,fj,ai⟩:=L ag;refine uZ ON func68 J ntmps68 J J J J (fun v w=>(∃ (t2:Int×aE),g2=(.inl t2)∧v=.int .i64 t2.1∧St M W H [l,H] [(2,bF m 9 [.string (bs t2.2)]),(1,g)] w)) _ (fun _ _ _ b h=>⟨b.defers,h⟩) ?_ ?_
    ·refine C (I J (C (U G9 J (sO 2 J) J (I J (sq (C ?_))))));refine A J (tV J J J (N (cT J ((by decide:decide (([44,32,108,46,32]:aE)≠[])=true)) (C (U G9 J (sO 2 J) J (A J ?_))))));obtain ⟨r5,fq,ce⟩:=L fj;refine bB SB J (fun w H d le=>QI d (k.mono le.i) t5.2 [44,32,108,46,32] fq) (A J (ex J J J (ex J J J (ex J J J (a1 J (a1 J (I J (sq (C ?_)))))))));refine A J (nt J J (N ?_));refine cb J (fun hP=>?_) (fun hP=>?_)
     ·replace hP:=kX hP
      have fw:=bJ hP ce;refine rg (U G9 J (P 0 J e) J (bu (cs:=f) T12.B134 J J J (fi nD J J J (xB J ?_))));cases fw;cases ai;cases p;cases n;intro a w c b;exact ⟨b.defers,eC c.ext⟩
     replace hP:=kY hP
     have f2:=aJ hP ce;refine sk (rg (A J (A J (a1 J (eP 2 (cs:=[.string (bs r5.2.1)]) Z9 J J J J J J J (N (C (A J ?_))))))));obtain ⟨r8,f7,gc⟩:=L f2;refine gA MF J J J J (fun w H d le=>KO d (k.mono le.i) r5.1 f7) ?_;rintro v_ az ⟨he,rfl,ch⟩;refine A J (ex J J J (ex J J J (a1 J (I J (sq (sq ?_))))));obtain ⟨g3,a8,a9⟩:=L gc;refine jn (SJ M W H [az,l,H] [(2,bF m 9 [.string (bs r5.2.1)]),(1,g)] 50 [(2,.pointer (some q)),(9,.int .i64 r8.1),(45,.bool g3)]) ?_ ?_
     ·refine rg (A J (NQ tM J J ch (A J ?_)));rcases Bool.eq_false_or_eq_true (r8.2) with z | z
      ·have cn:=aJ z a8;refine cC 4 J J J (z) J (pT J J (z) J (A J (cC 3 J J J J J (pT J J J J (N ?_)))));cases cn;exact cuE J
      have ct:=bJ z a8;refine gN J J (z) (A J (gN J J (z) ?_));obtain ⟨gq,cz,ba⟩:=L ct;refine bB ME J (fun w H d le=>KP d (k.mono le.u) r8.1 cz) (gN J J (z) (A J (gN J J (z) (tV J J J (pF J J (z) J (A J ?_))))));by_cases hG:gq≠r5.1
      ·have c5:=aJ hG ba;refine cC 3 J J J (decide_eq_true hG) J (pt hG J J (N ?_));cases c5;exact cuE J
      have cR:=aU hG ba;refine dC hG J (A J (dC hG J ?_));obtain ⟨ho,de,dk⟩:=L cR;refine bB vY J (fun w H d le=>wD r8.1 0 999999 de) (dC hG J (nt J J (pf hG J J (N ?_))));cases dk;exact cuE J
     refine X ?_;refine cb J (fun aj=>?_) (fun aj=>?_)
     ·have dq:=aJ aj a9;refine rg (U G9 J (P 1 J e) J (bu (cs:=f) T12.B134 J J J (fi nD J J J (xB J ?_))));cases dq;cases ai;cases p;cases n;intro a w c b;exact ⟨b.defers,eC c.ext⟩
     have dw:=bJ aj a9;refine sk (C (A J (I J (bK ?_))));cases dw;intro a w c b;refine dN b J J ?_;exact ⟨_,J,⟨_,J,J,c.selH [1,2] J⟩⟩
    rintro a w v b (⟨t2,rfl,rfl,c⟩);refine eL J b c (A J ?_);obtain ⟨g4,d0,bb⟩:=L ai
    let c0:aL:=[(2,bF m 9 [.string (bs t2.2)]),(1,g)]
    refine uZ ON func68 J ntmps68 J J J J (fun v w=>(∃ (t8:Int),g4=(.inl t8)∧v=.int .i64 t8∧St M W H [l,H] c0 w)) _ (fun _ _ _ b h=>⟨b.defers,h⟩) ?_ ?_
    ·refine C (I J (C (U G9 J (sO 2 J) J (I J (sq (C ?_))))));refine A J (tV J J J (N (cF J ((by decide:decide (([]:aE)≠[])=false)) (sk (C (A J ?_))))));obtain ⟨r9,d5,dB⟩:=L d0;refine gA MF J J J J (fun w H d le=>KO d (k.mono le.i) t2.2 d5) ?_;rintro v_ ac ⟨hf,rfl,ef⟩;refine A J (ex J J J (ex J J J (a1 J (I J (sq (sq ?_))))));obtain ⟨g5,bc,bd⟩:=L dB;refine jn (SJ M W H [ac,l,H] c0 50 [(2,.pointer (some q)),(9,.int .i64 r9.1),(45,.bool g5)]) ?_ ?_
     ·refine rg (A J (NQ tM J J ef (A J ?_)));rcases Bool.eq_false_or_eq_true (r9.2) with B | B
      ·have ek:=aJ B bc;refine cC 4 J J J (B) J (pT J J (B) J (A J (cC 3 J J J J J (pT J J J J (N ?_)))));cases ek;exact cuE J
      have ep:=bJ B bc;refine gN J J (B) (A J (gN J J (B) ?_));obtain ⟨gr,ew,be⟩:=L ep;refine bB ME J (fun w H d le=>KP d (k.mono le.u) r9.1 ew) (gN J J (B) (A J (gN J J (B) (tV J J J (pF J J (B) J (A J ?_))))));by_cases hI:gr≠t2.2
      ·have e2:=aJ hI be;refine cC 3 J J J (decide_eq_true hI) J (pt hI J J (N ?_));cases e2;exact cuE J
      have e7:=aU hI be;refine dC hI J (A J (dC hI J ?_));obtain ⟨hq,fe,fk⟩:=L e7;refine bB vY J (fun w H d le=>wD r9.1 0 999999 fe) (dC hI J (nt J J (pf hI J J (N ?_))));cases fk;exact cuE J
     refine X ?_;refine cb J (fun ak=>?_) (fun ak=>?_)
     ·have fr:=aJ ak bd;refine rg (U G9 J (P 1 J e) J (bu (cs:=f) T12.B134 J J J (fi nD J J J (xB J ?_))));cases fr;cases bb;cases p;cases n;intro a w c b;exact ⟨b.defers,eC c.ext⟩
     have fx:=bJ ak bd;refine sk (C (A J (I J (bK ?_))));cases fx;intro a w c b;refine dN b J J ?_;exact ⟨_,J,⟨_,J,J,c.selH [1,2] J⟩⟩
    rintro a w v b (⟨t8,rfl,rfl,c⟩)
    let a3:List Value:=[.int .u8 0,.int .i64 t5.1,.int .i64 t2.1,.int .i64 t8]
    refine eL J b c (VD (cs:=[.int .i64 t5.1,.int .i64 t2.1,.int .i64 t8]) T12.B83 J J J (bu (cs:=a3) T12.B85 J J J (eP 1 (cs:=a3) SM J J J J J J J (N ?_))));cases bb;intro a w c b;exact ⟨_,J,c,b.cuE J⟩
   have f3:=bJ hX b7;refine C (A J (eP 2 (cs:=[.string (bs r6.1)]) Z9 J J J J J J J (N (rg (A J ?_)))));obtain ⟨g6,f8,am⟩:=L f3;refine uZ ON func68 J ntmps68 J J J J (fun v w=>(∃ (t6:Int×aE),g6=(.inl t6)∧v=.int .i64 t6.1∧St M W H [l,H] [(2,bF m 9 [.string (bs t6.2)]),(1,g)] w)) _ (fun _ _ _ b h=>⟨b.defers,h⟩) ?_ ?_
   ·refine C (I J (C (U G9 J (sO 2 J) J (I J (sq (C ?_))))));refine A J (tV J J J (N (cT J ((by decide:decide (([44,32]:aE)≠[])=true)) (C (U G9 J (sO 2 J) J (A J ?_))))));obtain ⟨V,gg,bf⟩:=L f8;refine bB SB J (fun w H d le=>QI d (k.mono le.i) r6.1 [44,32] gg) (A J (ex J J J (ex J J J (ex J J J (a1 J (a1 J (I J (sq (C ?_)))))))));refine A J (nt J J (N ?_));refine cb J (fun hQ=>?_) (fun hQ=>?_)
    ·replace hQ:=kX hQ
     have cj:=bJ hQ bf;refine rg (U G9 J (P 0 J e) J (bu (cs:=f) T12.B134 J J J (fi nD J J J (xB J ?_))));cases cj;cases am;cases p;cases n;intro a w c b;exact ⟨b.defers,eC c.ext⟩
    replace hQ:=kY hQ
    have co:=aJ hQ bf;refine sk (rg (A J (A J (a1 J (eP 2 (cs:=[.string (bs V.2.1)]) Z9 J J J J J J J (N (C (A J ?_))))))));obtain ⟨Y,cv,c1⟩:=L co;refine gA MF J J J J (fun w H d le=>KO d (k.mono le.i) V.1 cv) ?_;rintro v_ ad ⟨hh,rfl,c6⟩;refine A J (ex J J J (ex J J J (a1 J (I J (sq (sq ?_))))));obtain ⟨g7,bg,bh⟩:=L c1;refine jn (SJ M W H [ad,l,H] [(2,bF m 9 [.string (bs V.2.1)]),(1,g)] 50 [(2,.pointer (some q)),(9,.int .i64 Y.1),(45,.bool g7)]) ?_ ?_
    ·refine rg (A J (NQ tM J J c6 (A J ?_)));rcases Bool.eq_false_or_eq_true (Y.2) with F | F
     ·have cS:=aJ F bg;refine cC 4 J J J (F) J (pT J J (F) J (A J (cC 3 J J J J J (pT J J J J (N ?_)))));cases cS;exact cuE J
     have dg:=bJ F bg;refine gN J J (F) (A J (gN J J (F) ?_));obtain ⟨gs,dl,bi⟩:=L dg;refine bB ME J (fun w H d le=>KP d (k.mono le.u) Y.1 dl) (gN J J (F) (A J (gN J J (F) (tV J J J (pF J J (F) J (A J ?_))))));by_cases hJ:gs≠V.1
     ·have dr:=aJ hJ bi;refine cC 3 J J J (decide_eq_true hJ) J (pt hJ J J (N ?_));cases dr;exact cuE J
     have dx:=aU hJ bi;refine dC hJ J (A J (dC hJ J ?_));obtain ⟨hs,d1,d6⟩:=L dx;refine bB vY J (fun w H d le=>wD Y.1 0 999999 d1) (dC hJ J (nt J J (pf hJ J J (N ?_))));cases d6;exact cuE J
    refine X ?_;refine cb J (fun an=>?_) (fun an=>?_)
    ·have ea:=aJ an bh;refine rg (U G9 J (P 1 J e) J (bu (cs:=f) T12.B134 J J J (fi nD J J J (xB J ?_))));cases ea;cases am;cases p;cases n;intro a w c b;exact ⟨b.defers,eC c.ext⟩
    have eg:=bJ an bh;refine sk (C (A J (I J (bK ?_))));cases eg;intro a w c b;refine dN b J J ?_;exact ⟨_,J,⟨_,J,J,c.selH [1,2] J⟩⟩
   rintro a w v b (⟨t6,rfl,rfl,c⟩);refine eL J b c (A J ?_);obtain ⟨g8,el,ao⟩:=L am;refine uZ ON func68 J ntmps68 J J J J (fun v w=>(∃ (t3:Int×aE),g8=(.inl t3)∧v=.int .i64 t3.1∧St M W H [l,H] [(2,bF m 9 [.string (bs t3.2)]),(1,g)] w)) _ (fun _ _ _ b h=>⟨b.defers,h⟩) ?_ ?_
   ·refine C (I J (C (U G9 J (sO 2 J) J (I J (sq (C ?_))))));refine A J (tV J J J (N (cT J ((by decide:decide (([44,32,112,97,114,46,32]:aE)≠[])=true)) (C (U G9 J (sO 2 J) J (A J ?_))))));obtain ⟨Z,er,bl⟩:=L el;refine bB SB J (fun w H d le=>QI d (k.mono le.i) t6.2 [44,32,112,97,114,46,32] er) (A J (ex J J J (ex J J J (ex J J J (a1 J (a1 J (I J (sq (C ?_)))))))));refine A J (nt J J (N ?_));refine cb J (fun hR=>?_) (fun hR=>?_)
    ·replace hR:=kX hR
     have ey:=bJ hR bl;refine rg (U G9 J (P 0 J e) J (bu (cs:=f) T12.B134 J J J (fi nD J J J (xB J ?_))));cases ey;cases ao;cases p;cases n;intro a w c b;exact ⟨b.defers,eC c.ext⟩
    replace hR:=kY hR
    have e3:=aJ hR bl;refine sk (rg (A J (A J (a1 J (eP 2 (cs:=[.string (bs Z.2.1)]) Z9 J J J J J J J (N (C (A J ?_))))))));obtain ⟨aa,e8,ff⟩:=L e3;refine gA MF J J J J (fun w H d le=>KO d (k.mono le.i) Z.1 e8) ?_;rintro v_ ae ⟨hi,rfl,fl⟩;refine A J (ex J J J (ex J J J (a1 J (I J (sq (sq ?_))))));obtain ⟨g9,bn,bp⟩:=L ff;refine jn (SJ M W H [ae,l,H] [(2,bF m 9 [.string (bs Z.2.1)]),(1,g)] 50 [(2,.pointer (some q)),(9,.int .i64 aa.1),(45,.bool g9)]) ?_ ?_
    ·refine rg (A J (NQ tM J J fl (A J ?_)));rcases Bool.eq_false_or_eq_true (aa.2) with G | G
     ·have fs:=aJ G bn;refine cC 4 J J J (G) J (pT J J (G) J (A J (cC 3 J J J J J (pT J J J J (N ?_)))));cases fs;exact cuE J
     have fy:=bJ G bn;refine gN J J (G) (A J (gN J J (G) ?_));obtain ⟨gu,f4,br⟩:=L fy;refine bB ME J (fun w H d le=>KP d (k.mono le.u) aa.1 f4) (gN J J (G) (A J (gN J J (G) (tV J J J (pF J J (G) J (A J ?_))))));by_cases hK:gu≠Z.1
     ·have f9:=aJ hK br;refine cC 3 J J J (decide_eq_true hK) J (pt hK J J (N ?_));cases f9;exact cuE J
     have gh:=aU hK br;refine dC hK J (A J (dC hK J ?_));obtain ⟨ht,ck,cp⟩:=L gh;refine bB vY J (fun w H d le=>wD aa.1 0 999999 ck) (dC hK J (nt J J (pf hK J J (N ?_))));cases cp;exact cuE J
    refine X ?_;refine cb J (fun aq=>?_) (fun aq=>?_)
    ·have cw:=aJ aq bp;refine rg (U G9 J (P 1 J e) J (bu (cs:=f) T12.B134 J J J (fi nD J J J (xB J ?_))));cases cw;cases ao;cases p;cases n;intro a w c b;exact ⟨b.defers,eC c.ext⟩
    have c2:=bJ aq bp;refine sk (C (A J (I J (bK ?_))));cases c2;intro a w c b;refine dN b J J ?_;exact ⟨_,J,⟨_,J,J,c.selH [1,2] J⟩⟩
   rintro a w v b (⟨t3,rfl,rfl,c⟩);refine eL J b c (A J ?_);obtain ⟨gR,c7,bv⟩:=L ao
   let a7:aL:=[(2,bF m 9 [.string (bs t3.2)]),(1,g)]
   refine uZ ON func68 J ntmps68 J J J J (fun v w=>(∃ (t9:Int),gR=(.inl t9)∧v=.int .i64 t9∧St M W H [l,H] a7 w)) _ (fun _ _ _ b h=>⟨b.defers,h⟩) ?_ ?_
   ·refine C (I J (C (U G9 J (sO 2 J) J (I J (sq (C ?_))))));refine A J (tV J J J (N (cF J ((by decide:decide (([]:aE)≠[])=false)) (sk (C (A J ?_))))));obtain ⟨ab,da,dh⟩:=L c7;refine gA MF J J J J (fun w H d le=>KO d (k.mono le.i) t3.2 da) ?_;rintro v_ af ⟨hj,rfl,dm⟩;refine A J (ex J J J (ex J J J (a1 J (I J (sq (sq ?_))))));obtain ⟨gT,bx,b0⟩:=L dh;refine jn (SJ M W H [af,l,H] a7 50 [(2,.pointer (some q)),(9,.int .i64 ab.1),(45,.bool gT)]) ?_ ?_
    ·refine rg (A J (NQ tM J J dm (A J ?_)));rcases Bool.eq_false_or_eq_true (ab.2) with K | K
     ·have ds:=aJ K bx;refine cC 4 J J J (K) J (pT J J (K) J (A J (cC 3 J J J J J (pT J J J J (N ?_)))));cases ds;exact cuE J
     have dy:=bJ K bx;refine gN J J (K) (A J (gN J J (K) ?_));obtain ⟨gv,d2,b2⟩:=L dy;refine bB ME J (fun w H d le=>KP d (k.mono le.u) ab.1 d2) (gN J J (K) (A J (gN J J (K) (tV J J J (pF J J (K) J (A J ?_))))));by_cases hL:gv≠t3.2
     ·have d7:=aJ hL b2;refine cC 3 J J J (decide_eq_true hL) J (pt hL J J (N ?_));cases d7;exact cuE J
     have ec:=aU hL b2;refine dC hL J (A J (dC hL J ?_));obtain ⟨hu,eh,em⟩:=L ec;refine bB vY J (fun w H d le=>wD ab.1 0 999999 eh) (dC hL J (nt J J (pf hL J J (N ?_))));cases em;exact cuE J
    refine X ?_;refine cb J (fun ar=>?_) (fun ar=>?_)
    ·have es:=aJ ar b0;refine rg (U G9 J (P 1 J e) J (bu (cs:=f) T12.B134 J J J (fi nD J J J (xB J ?_))));cases es;cases bv;cases p;cases n;intro a w c b;exact ⟨b.defers,eC c.ext⟩
    have ez:=bJ ar b0;refine sk (C (A J (I J (bK ?_))));cases ez;intro a w c b;refine dN b J J ?_;exact ⟨_,J,⟨_,J,J,c.selH [1,2] J⟩⟩
   rintro a w v b (⟨t9,rfl,rfl,c⟩)
   let a2:List Value:=[.int .u8 1,.int .i64 t6.1,.int .i64 t3.1,.int .i64 t9]
   refine eL J b c (VD (cs:=[.int .i64 t6.1,.int .i64 t3.1,.int .i64 t9]) T12.B83 J J J (bu (cs:=a2) T12.B85 J J J (eP 1 (cs:=a2) SM J J J J J J J (N ?_))));cases bv;intro a w c b;exact ⟨_,J,c,b.cuE J⟩
  rintro a w ⟨t4,rfl,c,b⟩;cases p;exact ⟨_,J,c,b.cuE J⟩
 rintro a w ⟨o,rfl,c,b⟩;refine TG.ap ?_ c b;refine sq (sq ?_);obtain ⟨ha,b6,b8⟩:=L n
 let a0:List Value:=[.int .u8 o.1,.int .i64 o.2.1,.int .i64 o.2.2.1,.int .i64 o.2.2.2.1]
 refine jn (SJ M W H [l,H] [(2,bF m 9 [.string (bs o.2.2.2.2)]),(1,bF b4 85 a0)] 58 [(1,.pointer (some q)),(2,.pointer (some (⟨b4,0,none⟩))),(53,.bool ha)]) ?_ ?_
 ·refine rg (aX 0 XO J Z5 (U G5 J ((sO 1 J).take 1) J (kZ J J J (A J ?_))));by_cases R:o.1≠0
  ·have e4:=aJ R b6;refine gt R J (aX 1 XO J Z83 (gt R J (lP HV Z3 J J J (j:=1) J (by decide) (gt R J (U G3 J (((sO 1 J).drop 2).take 1) J (gt R J ?_))))));obtain ⟨hv,e9,fg⟩:=L e4;refine bB SA J (fun w H d le=>SV o.2.2.1 e9) (gt R J (nt J J (pt R J J (N ?_))));cases fg;exact cuE J
  have fm:=aU R b6;refine cC 5 J J J (decide_eq_false R) J (pf R J J (N ?_));cases fm;exact cuE J
 refine X ?_;refine cb J (fun au=>?_) (fun au=>?_)
 ·have ft:=aJ au b8;refine rg (U G9 J (P 0 J e) J (bu (cs:=f) T12.B134 J J J (fi nD J J J (xB J ?_))));cases ft;intro a w c b;exact ⟨b.defers,eC c.ext⟩
 have fz:=bJ au b8;refine sk (C (cP G85 SM J J (sO 1 J) J (eP 1 (cs:=a0) SM J J J J J J J (N (bK ?_)))));cases fz;intro a w c b;refine uH b J (dD.cell J (fW G85 SM (cU (c.get (t:=1) J)) J)) ?_;exact pB J c.ext

theorem w24 (i:H.le (hp W)) (j:Gv M H) (b:aE) {r:gE×Bool} (l:m24 b=some r):Calls prog 24 #[.string (bs b)] W (bN M W (.tuple #[.agg (cW r.1).toArray,.bool r.2])):=by
 obtain ⟨o,g,rfl⟩:=mR l
 cases o with
 | inl c =>
  refine QQ i b c fun w K d f=>(w46 d (j.mono f) b g).mono fun e m h=>?_;obtain ⟨rfl,k⟩:=h;exact ⟨J,k⟩
 | inr u=>exact VT i b fun w K d f=>w46 d (j.mono f) b g

theorem w11 (q:H.le (hp W)) (hg:Gv M H) {bz:List Value} (m:bE) (cq:(bW) H bz m) {Z:Option Addr} {Y:Nat} {errata:List aK} (ba:Sl (aG aO) 6 H Z Y errata) (cite:aE) {r:Int×Int×Int} (hr:LV m errata cite=some r):Calls prog 11 #[.agg bz.toArray,.slice Z errata.length Y,.string (bs cite)] W (bN M W (.tuple #[.int .i64 r.1,.int .i64 r.2.1,.int .i64 r.2.2])):=by
 have e:=cq;obtain ⟨af,aa,rfl,bv⟩:=cq;have:=bv.len;have:=ba.len;unfold LV at hr;refine aN (M:=M) func11 J ntmps11 J q ?_
 let y:List Value:=[.int .i64 m.number,.int .i64 m.bound,.int .i64 m.height,.int .i64 m.width,.slice af m.parts.length aa]
 refine C (bI (cs:=y) J J J fun R K f=>(a1 J (a1 J (I J (sq (C (cP kJ gZ J J (P 0 J f) J (A J ?_))))))));obtain ⟨r7,bw,ad⟩:=L hr;refine bB WS J (fun w H q le=>XR q m (bW.mono _ _ _ _ le.i e) (ba.mono (aG.mono _) le.i) bw) (I J (C (A J (kZ J J J (N ?_)))));refine ci J (fun h4=>?_) (fun h4=>?_)
 ·have hR:=aJ h4 ad;refine C (A J (a1 J (a1 J (I J (bK ?_)))));cases hR;exact EQ J J J J
 have hT:=aU h4 ad;refine sk (C (A J ?_));obtain ⟨c,hV,hI⟩:=L hT;refine bB C24 J (fun w H q le=>w24 q (hg.mono le.i) cite hV) (A J (ex J J J (ex J J J (va (cs:=[.int .u8 c.1.style,.int .i64 c.1.numbers.e0,.int .i64 c.1.numbers.e1,.int .i64 c.1.numbers.e2]) zeroValue85 SM J J J J J J J J fun F h s=>(I J (sq (C (A J (nt J J ?_)))))))));refine N ?_;refine cb J (fun h3=>?_) (fun h3=>?_)
 ·replace h3:=kX h3
  have hW:=bJ h3 hI;refine C (a1 J (a1 J (I J (bK ?_))));cases hW;exact EQ J J J J
 replace h3:=kY h3
 have hJ:=aJ h3 hI
 let ab:List Value:=[.int .i64 c.1.numbers.e0,.int .i64 c.1.numbers.e1,.int .i64 c.1.numbers.e2]
 refine sk (C (aX 1 XO J Z83 (cP G83 Z83 J J ((P 0 J s).drop 1) J (va (cs:=ab) zeroValue83 Z83 J J J J J J J J fun G k b=>(N (sq (C (aX 0 XO J Z5 (U G5 J ((P 1 J s).take 1) J ?_)))))))));refine fQ J J J (N ?_);refine ci J (fun h5=>?_) (fun h5=>?_)
 ·have hX:=aJ h5 hJ;refine sq (C (cP kJ gZ J J (P 2 J f) J (A J (lP HV Z3 J J J (j:=0) J (by decide) (U G3 J ((P 0 J b).take 1) J (lP HV Z3 J J J (j:=1) J (by decide) (U G3 J (((P 0 J b).drop 1).take 1) J ?_)))))));obtain ⟨t,ag,hK⟩:=L hX;refine bB C25 J (fun w H q le=>w25 q m (bW.mono _ _ _ _ le.v e) (ba.mono (aG.mono _) le.v) c.1.numbers.e0 c.1.numbers.e1 ag) (A J (ex J J J (ex J J J (ex J J J (a1 J (a1 J (I J (C (A J ?_)))))))));refine kZ J J J (N ?_);refine ci J (fun h6=>?_) (fun h6=>?_)
  ·have ai:=aJ h6 hK;refine C (A J (a1 J (a1 J (I J (bK ?_)))));cases ai;exact EQ J J J J
  have an:=aU h6 hK;refine sk (sq ?_)
  let ac:List Value:=[.string (bs t.1),.bool t.2.1,.int .i64 t.2.2]
  refine TG.cut (L':=[(0,.agg y.toArray),(1,.slice Z errata.length Y),(2,.string (bs cite)),(3,.pointer (some R)),(7,.int .i64 0),(8,.int .i64 0),(9,.int .i64 r7),(10,.pointer (some F)),(11,.bool c.2),(12,.pointer (some G)),(13,.string (bs t.1)),(14,.bool t.2.1),(15,.int .i64 t.2.2),(20,.agg y.toArray),(21,.slice Z errata.length Y),(22,.int .i64 r7),(23,.int .i64 r7),(24,.bool (decide (r7≠0))),(26,.tuple #[.agg (cW c.1).toArray,.bool c.2]),(27,.string (bs cite)),(28,.tuple #[.agg (cW c.1).toArray,.bool c.2]),(29,.agg (cW c.1).toArray),(30,.bool c.2),(31,.bool c.2),(32,.bool (!c.2)),(33,.pointer (some (F.add 1))),(34,.agg ab.toArray),(35,.pointer (some F)),(36,.int .u8 c.1.style),(37,.bool (decide (c.1.style=2))),(38,.tuple ac.toArray),(39,.agg y.toArray),(40,.slice Z errata.length Y),(41,.pointer (some G)),(42,.int .i64 c.1.numbers.e0),(43,.pointer (some (G.add 1))),(44,.int .i64 c.1.numbers.e1),(45,.tuple ac.toArray),(46,.string (bs t.1)),(47,.bool t.2.1),(48,.int .i64 t.2.2),(49,.int .i64 t.2.2),(50,.bool (decide (t.2.2≠0)))]) ⟨J,J,J,J,J,J,J,J,J,J,J,J,J,J,J,J,J,J,J,J,J,J,J,J,J,J,J,J,J,J,J,J,J,J,J,J,J,J,J,J,J,J,J,tv⟩ ?_;refine dV 5 mixed (by kernel_rfl) J (E J (lP HV Z3 J J J (j:=0) J (by decide) D) (E J (U G3 J ((P 1 J b).take 1) J D) (E J (lP HV Z3 J J J (j:=1) J (by decide) D) (E J (U G3 J (((P 1 J b).drop 1).take 1) J D) (E J (a1 J D) (DF.nil fun b0 hF=>(a1 J (I J (bK ?_)))))))));cases an;exact EQ J J J J
 have aq:=aU h5 hJ;refine sk (sq (C (cP kJ gZ J J (P 2 J f) J (A J ?_))));obtain ⟨x,au,ax⟩:=L aq;refine gA C23 J J J J (fun w H q le=>w23 q m (bW.mono _ _ _ _ le.v e) (ba.mono (aG.mono _) le.v) au) ?_;rintro v_ l ⟨a0,c0,rfl,h7⟩;have:=h7.len;refine dU TU J J (A J (N ?_));obtain ⟨e112,az,hL⟩:=L ax;refine jn (fun a w=>∃ t0,e112=.inl t0∧SJ M W H [l,k,h,K,H] [] 122 [] a w) ?_ ?_
 ·refine bk ?_;refine lp az (fun V=>SJ M W H [l,k,h,K,H] [] 122 [(3,.pointer (some R)),(10,.pointer (some F)),(12,.pointer (some G)),(58,.slice a0 x.length c0),(59,.int .i64 (x.length:Int)),(60,.int .i64 (V:Int))]) ?_ ?_
  ·exact cuE J
  rintro j V y0 h8 h9 a w ⟨B,z⟩;refine TG.ap ?_ B z;unfold AK at h8;refine C (dY J J J (N (sq ?_)));refine ci J (fun hB=>?_) (fun hB=>?_)
  ·have a3:=aJ hB h8;refine sk (sq (bk (C ?_)));obtain ⟨o,hC,a5⟩:=L a3;obtain ⟨p0,rfl⟩:=h7.adr hC;have a7:=h7.atF hC;refine cY TU MJ J J J J (aW hC) (cP G82 MJ J J (P 0 J a7) J (va (cs:=[.int .i64 o.place.anchor,.int .i64 o.place.column,.int .i64 o.place.line,.int .i64 o.place.lines,.int .i64 o.day,.int .i64 o.number]) zeroValue82 MJ J J J J J J J J fun q2 g d=>(N (C (lP HV Z3 J J J (j:=1) J (by decide) (U G3 J (((P 2 J b).drop 1).take 1) J (aX 0 DB J CJ (aX 1 SU J Z3 (U G3 J (((P 0 J d).drop 1).take 1) J ?_)))))))));obtain ⟨a9,bc⟩:=aF a5;refine pN J J J a9 (aX 2 mG J Z3 (U G3 J (((P 4 J f).drop 2).take 1) J ?_));obtain ⟨be,bf⟩:=aF bc;refine UO J J J be (lP HV Z3 J J J (j:=2) J (by decide) (U G3 J ((P 2 J b).drop 2) J ?_));obtain ⟨bg,bh⟩:=aF bf;refine dO J J J bg (aX 0 DB J CJ (aX 2 SU J Z3 (U G3 J (((P 0 J d).drop 2).take 1) J ?_)));obtain ⟨bi,bj⟩:=aF bh;refine pN J J J bi (I J (sq ?_));obtain ⟨t2,hM,bl⟩:=L bj;refine jn (SJ M W H [g,l,k,h,K,H] [] 122 [(3,.pointer (some R)),(10,.pointer (some F)),(12,.pointer (some G)),(17,.pointer (some q2)),(18,.int .i64 ((((c.1.numbers.e1 - o.place.column)*m.height)+c.1.numbers.e2) - o.place.line)),(19,.bool t2),(58,.slice (some p0) x.length c0),(59,.int .i64 (x.length:Int)),(60,.int .i64 (V:Int))]) ?_ ?_
   ·refine rg (aX 4 DB J Z3 (U G3 J (((P 0 J d).drop 4).take 1) J (lP HV Z3 J J J (j:=1) J (by decide) (U G3 J (((P 2 J b).drop 1).take 1) J (fQ J J J (A J ?_))))));by_cases u:o.day=c.1.numbers.e1
    ·have bm:=aJ u hM;refine gt u J (aX 5 DB J Z3 (gt u J (U G3 J ((P 0 J d).drop 5) J (gt u J (lP HV Z3 J J J (j:=2) J (by decide) (gt u J (U G3 J ((P 2 J b).drop 2) J (gt u J (fQ J J J (pt u J J (a1 J ?_)))))))))));refine N ?_;cases bm;exact cuE J
    have bn:=aU u hM;refine cC 5 J J J (decide_eq_false u) J (pf u J J (I J ?_));cases bn;exact cuE J
   refine X ?_;refine sq (C (aX 0 XO J Z5 (U G5 J ((P 3 J s).take 1) J (fQ J J J (N ?_)))));obtain ⟨t1,hN,bo⟩:=L bl;refine jn (SJ M W H [g,l,k,h,K,H] [] 122 [(3,.pointer (some R)),(10,.pointer (some F)),(12,.pointer (some G)),(17,.pointer (some q2)),(19,.bool t1),(58,.slice (some p0) x.length c0),(59,.int .i64 (x.length:Int)),(60,.int .i64 (V:Int))]) ?_ ?_
   ·refine ci J (fun hE=>?_) (fun hE=>?_)
    ·have bp:=aJ hE hN;obtain ⟨t3,bq,br⟩:=L bp;refine jn (SJ M W H [g,l,k,h,K,H] [] 122 [(3,.pointer (some R)),(10,.pointer (some F)),(12,.pointer (some G)),(17,.pointer (some q2)),(19,.bool t3),(58,.slice (some p0) x.length c0),(59,.int .i64 (x.length:Int)),(60,.int .i64 (V:Int))]) ?_ ?_
     ·refine rg (lP HV Z3 J J J (j:=2) J (by decide) (U G3 J ((P 2 J b).drop 2) J (aX 2 mG J Z3 (U G3 J (((P 4 J f).drop 2).take 1) J ?_))));obtain ⟨r3,bt,hO⟩:=L bq;refine bB vY J (fun w H q le=>wD c.1.numbers.e2 1 m.height bt) (A J ?_);rcases Bool.eq_false_or_eq_true (r3) with n | n
      ·have ah:=aJ n hO;refine gN J J (n) (A J (gN J J (n) (aX 0 DB J CJ (gN J J (n) (aX 3 SU J Z3 (gN J J (n) (U G3 J (((P 0 J d).drop 3).take 1) J (gN J J (n) ?_))))))));obtain ⟨aj,ao⟩:=aF ah;refine pN J J J aj (gN J J (n) ?_);obtain ⟨r4,ar,aw⟩:=L ao;refine bB vY J (fun w H q le=>wD ((((c.1.numbers.e1 - o.place.column)*m.height)+c.1.numbers.e2) - o.place.line) 0 (o.place.lines - 1) ar) (pT J J (n) J (I J ?_));cases aw;exact cuE J
      have ay:=bJ n hO;refine cC 6 J J J (n) J (pF J J (n) J (I J ?_));cases ay;exact cuE J
     rintro a w ⟨B,z⟩;refine TG.apJ ?_ B z;cases br;exact cuE J
    have a2:=aU hE hN;refine sk ?_;cases a2;exact cuE J
   refine X ?_;refine sq ?_;obtain ⟨t4,hP,hQ⟩:=L bo;refine jn (SJ M W H [g,l,k,h,K,H] [] 122 [(3,.pointer (some R)),(10,.pointer (some F)),(12,.pointer (some G)),(17,.pointer (some q2)),(58,.slice (some p0) x.length c0),(59,.int .i64 (x.length:Int)),(60,.int .i64 (V:Int)),(115,.bool t4)]) ?_ ?_
   ·refine rg (A J (A J ?_));rcases Bool.eq_false_or_eq_true (t1) with p | p
    ·have a4:=aJ p hP;refine gN J J (p) (lP HV Z3 J J J (j:=0) J (by decide) (gN J J (p) (U G3 J ((P 2 J b).take 1) J (gN J J (p) (aX 0 mG J Z3 (gN J J (p) (U G3 J ((P 4 J f).take 1) J (gN J J (p) (fQ J J J (pT J J (p) J (N ?_)))))))))));cases a4;exact cuE J
    have a6:=bJ p hP;refine cC 5 J J J (p) J (pF J J (p) J (N ?_));cases a6;exact cuE J
   refine X ?_;refine cb J (fun hG=>?_) (fun hG=>?_)
   ·have a8:=aJ hG hQ;refine sq (dV 6 mixed (by kernel_rfl) J (E J (aX 0 DB J CJ D) (E J (aX 0 SU J Z3 D) (E J (U G3 J ((P 1 J d).take 1) J D) (E J (aX 1 mG J Z3 D) (E J (U G3 J (((P 5 J f).drop 1).take 1) J D) (E J (a1 J D) (DF.nil fun bx hF=>(a1 J (I J ?_))))))))));refine bK ?_;cases a8;obtain rfl:=dJ.out h9;cases hL;exact EQ J J J J
   have bb:=bJ hG hQ;refine sk (rg (dO J J J (by omega) (A J (N ?_))));cases bb;intro a w B z;exact ⟨_,h9,B.selH [1,2,3,4,5] J,z.cuE J⟩
  have bd:=aU hB h8;refine xt J ?_;cases bd;obtain rfl:=dJ.out h9;intro a w B z;exact ⟨_,J,B,z.cut tv⟩
 rintro a w ⟨t0,rfl,B,z⟩;apply TG.ap ?_ B z;refine C (a1 J (a1 J (I J (bK ?_))));cases hL;exact EQ J J J J

theorem w3 (f:H.le (hp W)) (hg:Gv M H) {bh:Option Addr} {ay:Nat} {lines:List aE} (bl:Sl (aG cN) 1 H bh ay lines) (one:Int) (two:Int) {r:Bool} (hr:m3 lines one two=some r):Calls prog 3 #[.slice bh lines.length ay,.int .u8 one,.int .u8 two] W (bN M W (.bool r)):=by
 have:=bl.len;unfold m3 at hr;refine aN (M:=M) func3 J ntmps3 J f ?_;refine C (I J (sq (sq ?_)));obtain ⟨t2,eo,ar⟩:=L hr;refine jn (SJ M W H [H] [] 213 [(0,.slice bh lines.length ay),(1,.int .u8 one),(2,.int .u8 two),(34,.bool t2)]) ?_ ?_
 ·refine rg (A J ?_);obtain ⟨r8,eu,aw⟩:=L eo;refine bB C5 J (fun w H f le=>w5 f (bl.mono (aG.mono _) le.o) eu) (nt J J (A J ?_));rcases Bool.eq_false_or_eq_true (r8) with F | F
  ·have e3:=aJ F aw;refine gN J J (congrArg not (F)) (A J (gN J J (congrArg not (F)) ?_));obtain ⟨r9,e8,fe⟩:=L e3;refine bB C6 J (fun w H f le=>w6 f (bl.mono (aG.mono _) le.o) e8) (gN J J (congrArg not (F)) (nt J J (pF J J (congrArg not (F)) J (N ?_))));cases fe;exact cuE J
  have fj:=bJ F aw;refine cC 3 J J J (congrArg not (F)) J (pT J J (congrArg not (F)) J (N ?_));cases fj;exact cuE J
 refine X ?_;refine cb J (fun hJ=>?_) (fun hJ=>?_)
 ·have fo:=aJ hJ ar;refine C ?_;obtain ⟨hl,fs,fw⟩:=L fo;refine bB C7 J (fun w H f le=>w7 f (hg.mono le.o)  fs) (I J (bK ?_));cases fw;exact cX J J
 have f0:=bJ hJ ar;refine sk (C (A J ?_));obtain ⟨f4,f8⟩:=aF f0;refine zG U5 U3 J J (mB f4) (A J (dU jN J J ?_));obtain ⟨gc,gj⟩:=aF f8;refine dO J J J gc ?_;obtain ⟨az,gq⟩:=aF gj;have:0≤(one%((lines.length:Int)+1))∧(one%((lines.length:Int)+1)) < ((lines.length:Int)+1):=have h:=(az:0≤one∧0 < ((lines.length:Int)+1));⟨Int.emod_nonneg _ (by omega),Int.emod_lt_of_pos _ h.2⟩;refine UP J J J az (I J (C (A J (A J ?_))));obtain ⟨gv,di⟩:=aF gq;refine zG U5 U3 J J (mB gv) (A J (dU jN J J (A J (pN J J J (by omega) ?_))));obtain ⟨dm,dr⟩:=aF di;refine dO J J J dm ?_;obtain ⟨bb,dw⟩:=aF dr;have:0≤(two%(((lines.length:Int) - (one%((lines.length:Int)+1)))+1))∧(two%(((lines.length:Int) - (one%((lines.length:Int)+1)))+1)) < (((lines.length:Int) - (one%((lines.length:Int)+1)))+1):=have h:=(bb:0≤two∧0 < (((lines.length:Int) - (one%((lines.length:Int)+1)))+1));⟨Int.emod_nonneg _ (by omega),Int.emod_lt_of_pos _ h.2⟩;refine UP J J J bb ?_;obtain ⟨d0,d4⟩:=aF dw;refine dO J J J d0 (I J (C (A J (A J ?_))));obtain ⟨d8,ec⟩:=aF d4;refine slT ((one%((lines.length:Int)+1)).toNat) jN Z9 bl J J J J (by omega) d8 fun g6 ha bc=>?_;have:=bc.len;obtain ⟨hm,eg,ek⟩:=L ec;refine gA C9 J J J J (fun w H f le=>w9 f (bc.mono (aG.mono _) le.o) eg) ?_;rintro v_ t ⟨g7,hb,rfl,bd⟩;have:=bd.len;obtain ⟨d,ep,ew⟩:=L ek;refine gA C8 J J J J (fun w H f le=>w8 f (hg.mono le.i) (bd.mono (aG.mono _) le.o) ep) ?_;rintro v_ y ⟨hc,g8,hd,rfl,be,e4⟩;have hj:=be;obtain ⟨⟨a3,c2,a4,c3,a5,c4,a6,c5,a7,c6,a8,c7,a9,c8,bw,c9,bx,cR,bz,cS,b1,ck,b3,cl,b4,cm,b5,cn⟩,rfl,⟨hK,hL,e9,hM,ff,fk,fp,ft,fx,f1,f5,f9,gg,gl⟩⟩:=be;have:=hK.len;have:=hL.len;have:=e9.len;have:=hM.len;have:=ff.len;have:=fk.len;have:=fp.len;have:=ft.len;have:=fx.len;have:=f1.len;have:=f5.len;have:=f9.len;have:=gg.len;have:=gl.len;have:=e4.len;refine A J (ex J J J (ex J J J (ex J J J (va (cs:=[.int .i64 d.1.day,.int .i64 d.1.house,.int .i64 d.1.volume.number,.int .i64 d.1.volume.bound,.int .i64 d.1.volume.height,.int .i64 d.1.volume.width,.slice a3 d.1.volume.parts.length c2,.bool d.1.bound,.slice a4 d.1.errata.length c3,.slice a5 d.1.hides.length c4,.slice a6 d.1.cites.length c5,.slice a7 d.1.motion.words.length c6,.slice a8 d.1.motion.papers.length c7,.bool d.1.moved,.slice a9 d.1.choice.length c8,.int .i64 d.1.division.members,.slice bw d.1.division.ayes.e0.length c9,.slice bx d.1.division.ayes.e1.length cR,.slice bz d.1.division.noes.e0.length cS,.slice b1 d.1.division.noes.e1.length ck,.slice b3 d.1.division.pairs.length cl,.slice b4 d.1.division.proxies.length cm,.int .u8 d.1.division.rule,.int .i64 d.1.division.need,.int .i64 d.1.division.quorum,.int .u8 d.1.division.tie,.bool d.1.open_,.slice b5 d.1.results.length cn]) zeroValue41 eQ J J J J J J J J fun q0 g b=>(a1 J (I J (C (A J (A J ?_)))))))));obtain ⟨gr,gw⟩:=aF ew;refine slT (((one%((lines.length:Int)+1))+(two%(((lines.length:Int) - (one%((lines.length:Int)+1)))+1))).toNat) jN Z9 bl J J J J (by omega) gr fun g9 he bf=>?_;have:=bf.len;obtain ⟨hn,dj,dn⟩:=L gw;refine gA C9 J J J J (fun w H f le=>w9 f (bf.mono (aG.mono _) le.v) dj) ?_;rintro v_ k ⟨gR,hf,rfl,bg⟩;have:=bg.len;obtain ⟨e,ds,dx⟩:=L dn;refine gA C8 J J J J (fun w H f le=>w8 f (hg.mono le.x) (bg.mono (aG.mono _) le.o) ds) ?_;rintro v_ l ⟨hh,gT,hi,rfl,bi,d1⟩;have hk:=bi;obtain ⟨⟨b6,co,b7,cp,b8,cq,b9,cr,ca,ct,cc,cv,cd,cw,ce,cx,cf,cy,cg,cz,ch,da,cj,db,b0,dd,b2,de⟩,rfl,⟨hN,hO,d5,hP,d9,ed,eh,el,er,ey,e5,fa,fg,fl⟩⟩:=bi;have:=hN.len;have:=hO.len;have:=d5.len;have:=hP.len;have:=d9.len;have:=ed.len;have:=eh.len;have:=el.len;have:=er.len;have:=ey.len;have:=e5.len;have:=fa.len;have:=fg.len;have:=fl.len;have:=d1.len;refine A J (ex J J J (ex J J J (ex J J J (va (cs:=[.int .i64 e.1.day,.int .i64 e.1.house,.int .i64 e.1.volume.number,.int .i64 e.1.volume.bound,.int .i64 e.1.volume.height,.int .i64 e.1.volume.width,.slice b6 e.1.volume.parts.length co,.bool e.1.bound,.slice b7 e.1.errata.length cp,.slice b8 e.1.hides.length cq,.slice b9 e.1.cites.length cr,.slice ca e.1.motion.words.length ct,.slice cc e.1.motion.papers.length cv,.bool e.1.moved,.slice cd e.1.choice.length cw,.int .i64 e.1.division.members,.slice ce e.1.division.ayes.e0.length cx,.slice cf e.1.division.ayes.e1.length cy,.slice cg e.1.division.noes.e0.length cz,.slice ch e.1.division.noes.e1.length da,.slice cj e.1.division.pairs.length db,.slice b0 e.1.division.proxies.length dd,.int .u8 e.1.division.rule,.int .i64 e.1.division.need,.int .i64 e.1.division.quorum,.int .u8 e.1.division.tie,.bool e.1.open_,.slice b2 e.1.results.length de]) zeroValue41 eQ J J J J J J J J fun q1 m c=>(a1 J (I J (sq (sq ?_))))))));obtain ⟨t3,bj,bm⟩:=L dx;refine jn (SJ M W H [m,l,k,g,y,t,H] [] 213 [(9,.pointer (some q0)),(12,.pointer (some q1)),(75,.bool t3)]) ?_ ?_
 ·refine rg (A J (kZ J J J (A J ?_)));by_cases V:d.2.2≠0
  ·have fq:=aJ V bj;refine cC 2 J J J (decide_eq_true V) J (pt V J J (N ?_));cases fq;exact cuE J
  have fu:=aU V bj;refine dC V J (A J (dC V J (kZ J J J (pf V J J (N ?_)))));cases fu;exact cuE J
 refine X ?_;refine cb J (fun hQ=>?_) (fun hQ=>?_)
 ·have fy:=aJ hQ bm;refine C (I J (bK ?_));cases fy;exact cX J J
 have bn:=bJ hQ bm;refine sk (sq (C (aX 7 eD J Z4 (U G4 J (((P 3 J b).drop 7).take 1) J (nt J J (N ?_))))));refine cb J (fun h8=>?_) (fun h8=>?_)
 ·replace h8:=kX h8
  have f2:=bJ h8 bn;refine sq ?_;obtain ⟨t4,f6,ga⟩:=L f2;refine jn (SJ M W H [m,l,k,g,y,t,H] [] 213 [(6,.bool t4)]) ?_ ?_
  ·refine rg (aX 8 eD J JC (U HN J (((P 3 J b).drop 8).take 1) J (dU CM J J (aX 10 eD J qS (U pE J (((P 3 J b).drop 10).take 1) J (dU jN J J ?_))))));obtain ⟨gh,bo⟩:=aF f6;refine dO J J J gh (fQ J J J (A J ?_));by_cases hE:((d.1.errata.length:Int)+(d.1.cites.length:Int))=0
   ·have gn:=aJ hE bo;refine gt hE J ?_;obtain ⟨ho,gs,gx⟩:=L gn;refine bB C7 J (fun w H f le=>w7 f (hg.mono (le.at 6 J))  gs) (pt hE J J (I J ?_));cases gx;exact cuE J
   have dk:=aU hE bo;refine gf hE J (pf hE J J (I J ?_));cases dk;exact cuE J
  refine X ?_;refine bK ?_;cases ga;exact cX J J
 replace h8:=kY h8
 have dp:=aJ h8 bn;refine sk (C (aX 2 eD J gZ (cP kJ gZ J J (((P 3 J b).drop 2).take 5) J (aX 8 eD J JC (U HN J (((P 3 J b).drop 8).take 1) J ?_)))));obtain ⟨r2,du,dy⟩:=L dp;refine gA C10 J J J J (fun w H f le=>w10 f d.1.volume ⟨_,_,J,(hK.mono (bT.mono) le.x)⟩ (hL.mono (aG.mono _) le.x) du) ?_;rintro v_ q ⟨a0,c0,rfl,hR⟩;have:=hR.len;refine A J (ex J J J (ex J J J (a1 J (I J (C (aX 2 eD J gZ (cP kJ gZ J J (((P 1 J c).drop 2).take 5) J (aX 8 eD J JC (U HN J (((P 1 J c).drop 8).take 1) J ?_)))))))));obtain ⟨r3,d2,d6⟩:=L dy;refine gA C10 J J J J (fun w H f le=>w10 f e.1.volume ⟨_,_,J,(hN.mono (bT.mono) le.u)⟩ (hO.mono (aG.mono _) le.u) d2) ?_;rintro v_ s ⟨a2,c1,rfl,hT⟩;have:=hT.len;refine A J (ex J J J (ex J J J (a1 J (I J (sq (sq ?_))))));obtain ⟨t5,bp,bq⟩:=L d6;refine jn (SJ M W H [s,q,m,l,k,g,y,t,H] [] 213 [(9,.pointer (some q0)),(12,.pointer (some q1)),(15,.slice a0 r2.1.length c0),(17,.slice a2 r3.1.length c1),(132,.bool t5)]) ?_ ?_
 ·refine rg (A J (kZ J J J (A J ?_)));by_cases Y:r2.2≠0
  ·have dB:=aJ Y bp;refine cC 2 J J J (decide_eq_true Y) J (pt Y J J (A J (cC 5 J J J J J (pT J J J J (A J (cC 3 J J J J J (pT J J J J (A J (cC 7 J J J J J (pT J J J J (N ?_)))))))))));cases dB;exact cuE J
  have br:=aU Y bp;refine dC Y J (A J (dC Y J (kZ J J J (pf Y J J (A J ?_)))));by_cases B:r3.2≠0
  ·have ee:=aJ B br;refine cC 5 J J J (decide_eq_true B) J (pt B J J (A J (cC 3 J J J J J (pT J J J J (A J (cC 7 J J J J J (pT J J J J (N ?_))))))));cases ee;exact cuE J
  have bt:=aU B br;refine dC B J (A J (dC B J (dU XN J J (dC B J (A J (dC B J (dU XN J J (dC B J (kZ J J J (pf B J J (A J ?_)))))))))));by_cases K:(r2.1.length:Int)≠(r3.1.length:Int)
  ·have ei:=aJ K bt;refine cC 3 J J J (decide_eq_true K) J (pt K J J (A J (cC 7 J J J J J (pT J J J J (N ?_)))));cases ei;exact cuE J
  have bv:=aU K bt;refine dC K J (aX 7 eD J Z4 (dC K J (U G4 J (((P 2 J c).drop 7).take 1) J (dC K J (nt J J (pf K J J (A J ?_)))))));rcases Bool.eq_false_or_eq_true (e.1.bound) with z | z
  ·have em:=aJ z bv;refine gN J J (congrArg not (z)) (aX 10 eD J qS (gN J J (congrArg not (z)) (U pE J (((P 2 J c).drop 10).take 1) J (gN J J (congrArg not (z)) (dU jN J J (gN J J (congrArg not (z)) (aX 10 eD J qS (gN J J (congrArg not (z)) (U pE J (((P 5 J b).drop 10).take 1) J (gN J J (congrArg not (z)) (dU jN J J ?_)))))))))));refine gN J J (congrArg not (z)) (dY J J J (pF J J (congrArg not (z)) J (N ?_)));cases em;exact cuE J
  have es:=bJ z bv;refine cC 7 J J J (congrArg not (z)) J (pT J J (congrArg not (z)) J (N ?_));cases es;exact cuE J
 refine X ?_;refine cb J (fun hV=>?_) (fun hV=>?_)
 ·have ez:=aJ hV bq;refine C (I J (bK ?_));cases ez;exact cX J J
 have e6:=bJ hV bq;refine sk (sq (C (I J ?_)));obtain ⟨dg,fc,ai⟩:=L e6;refine jn (fun a w=>∃ t0,dg=.inl t0∧SJ M W H [s,q,m,l,k,g,y,t,H] [] 213 [(9,.pointer (some q0)),(12,.pointer (some q1))] a w) ?_ ?_
 ·refine bk ?_;refine lp fc (fun s2=>SJ M W H [s,q,m,l,k,g,y,t,H] [] 213 [(9,.pointer (some q0)),(12,.pointer (some q1)),(15,.slice a0 r2.1.length c0),(17,.slice a2 r3.1.length c1),(19,.int .i64 (s2:Int))]) ?_ ?_
  ·exact cuE J
  rintro j s2 y0 hW hX a w ⟨p,n⟩;refine TG.ap ?_ p n;unfold RU at hW;refine sq (C (A J (A J (dU XN J J (dY J J J (N ?_))))));refine ci J (fun Z=>?_) (fun Z=>?_)
  ·have fh:=aJ Z hW;refine sk (sq (bk (sq ?_)));obtain ⟨x2,aa,fm⟩:=L fh;obtain ⟨p0,rfl⟩:=hR.adr aa;have fr:=hR.atF aa;obtain ⟨x3,ab,aj⟩:=L fm;obtain ⟨p1,rfl⟩:=hT.adr ab;have fv:=hT.atF ab;refine dV 8 mixed (by kernel_rfl) J (E J (A J D) (E J (A J D) (E J (cY XN CJ J J J J (aW aa) D) (E J (cP G51 CJ J J (P 2 J fr) J D) (E J (A J D) (E J (A J D) (E J (cY XN CJ J J J J (aW ab) D) (E J (cP G51 CJ J J (P 1 J fv) J D) (DF.nil fun gz hF=>(neA x2 x3 T12.Q51 J J J (N ?_)))))))))));refine cb J (fun h1=>?_) (fun h1=>?_)
   ·replace h1:=kX h1
    replace h1:=of_decide_eq_false h1
    have fz:=aU h1 aj;refine C (I J (bK ?_));cases fz;obtain rfl:=dJ.out hX;cases ai;exact cX J J
   replace h1:=kY h1
   replace h1:=of_decide_eq_true h1
   have f3:=aJ h1 aj;refine sk (rg (A J (dO J J J (by omega) (I J ?_))));cases f3;intro a w p n;exact ⟨_,hX,p.selH [1,2,3,4,5,6,7,8,9] J,n.cuE J⟩
  have f7:=aU Z hW;refine xt J ?_;cases f7;obtain rfl:=dJ.out hX;intro a w p n;exact ⟨_,J,p,n.cuE J⟩
 rintro a w ⟨t0,rfl,p,n⟩;apply TG.ap ?_ p n;refine sq (C (I J ?_));obtain ⟨dh,gb,ak⟩:=L ai;refine jn (fun a w=>∃ t1,dh=.inl t1∧SJ M W H [s,q,m,l,k,g,y,t,H] [] 213 [] a w) ?_ ?_
 ·refine bk ?_;refine lp gb (fun s1=>SJ M W H [s,q,m,l,k,g,y,t,H] [] 213 [(9,.pointer (some q0)),(12,.pointer (some q1)),(20,.int .i64 (s1:Int))]) ?_ ?_
  ·exact cuE J
  rintro j s1 y1 ac ad a w ⟨p,n⟩;refine TG.ap ?_ p n;unfold RV at ac;refine sq (C (A J (aX 10 eD J qS (U pE J (((P 5 J b).drop 10).take 1) J (dU jN J J (dY J J J (N ?_)))))));refine ci J (fun ae=>?_) (fun ae=>?_)
  ·have gi:=aJ ae ac;refine sk (sq (bk (sq ?_)));obtain ⟨x0,hG,gp⟩:=L gi;obtain ⟨p2,rfl⟩:=hM.adr hG;have am:=hM.atF hG;obtain ⟨r4,gu,gy⟩:=L gp;refine dV 16 mixed (by kernel_rfl) J (E J (aX 2 eD J gZ D) (E J (cP kJ gZ J J (((P 6 J b).drop 2).take 5) J D) (E J (aX 8 eD J JC D) (E J (U HN J (((P 6 J b).drop 8).take 1) J D) (E J (aX 10 eD J qS D) (E J (U pE J (((P 6 J b).drop 10).take 1) J D) (E J (A J D) (E J (cY jN Z9 J J J J (aW hG) D) (E J (U G9 J (P 7 J am) J D) (E J (bB C11 J (fun w H f le=>w11 f (hg.mono (le.at 9 J)) d.1.volume ⟨_,_,J,(hK.mono (bT.mono) (le.at 7 J))⟩ (hL.mono (aG.mono _) (le.at 7 J)) x0 gu) D) (E J (A J D) ?_)))))))))));refine E J (ex J J J D) (E J (ex J J J D) (E J (ex J J J D) (E J (a1 J D) (E J (a1 J D) (DF.nil fun ag hF=>(I J (sq ?_)))))));obtain ⟨x1,hI,dl⟩:=L gy;obtain ⟨p3,rfl⟩:=hP.adr hI;have an:=hP.atF hI;obtain ⟨r5,dq,dv⟩:=L dl;refine dV 16 mixed (by kernel_rfl) J (E J (aX 2 eD J gZ D) (E J (cP kJ gZ J J (((P 4 J c).drop 2).take 5) J D) (E J (aX 8 eD J JC D) (E J (U HN J (((P 4 J c).drop 8).take 1) J D) (E J (aX 10 eD J qS D) (E J (U pE J (((P 4 J c).drop 10).take 1) J D) (E J (A J D) (E J (cY jN Z9 J J J J (aW hI) D) (E J (U G9 J (P 5 J an) J D) (E J (bB C11 J (fun w H f le=>w11 f (hg.mono (le.at 10 J)) e.1.volume ⟨_,_,J,(hN.mono (bT.mono) (le.at 5 J))⟩ (hO.mono (aG.mono _) (le.at 5 J)) x1 dq) D) (E J (A J D) ?_)))))))))));refine E J (ex J J J D) (E J (ex J J J D) (E J (ex J J J D) (E J (a1 J D) (E J (a1 J D) (DF.nil fun ah hF=>(I J (sq ?_)))))));obtain ⟨t6,ao,aq⟩:=L dv;refine jn (SJ M W H [ah,ag,s,q,m,l,k,g,y,t,H] [] 213 [(9,.pointer (some q0)),(12,.pointer (some q1)),(20,.int .i64 (s1:Int)),(211,.bool t6)]) ?_ ?_
   ·refine dV 27 mixed (by kernel_rfl) J (E J (aX 10 eD J qS D) (E J (U pE J (((P 5 J c).drop 10).take 1) J D) (E J (A J D) (E J (cY jN Z9 J J J J (aW hI) D) (E J (U G9 J (P 6 J an) J D) (E J (aX 10 eD J qS D) (E J (U pE J (((P 8 J b).drop 10).take 1) J D) (E J (A J D) (E J (cY jN Z9 J J J J (aW hG) D) (E J (U G9 J (P 9 J am) J D) (E J (tV J J J D) ?_)))))))))));refine E J (A J D) ?_;by_cases hB:x1≠x0
    ·have dz:=aJ hB ao;refine jF 2 J J (decide_eq_true hB) J ⟨J,J,tv⟩ (E J (pt hB J J D) (E J (A J D) (jF 2 J J J J ⟨J,J,tv⟩ (E J (pT J J J J D) (E J (A J D) (jF 3 J J J J ⟨J,J,J,tv⟩ (E J (pT J J J J D) (E J (A J D) (jF 2 J J J J ⟨J,J,tv⟩ (DF.nil fun g1 hF=>(gF J J J J ?_)))))))))));refine pT J J J J (N ?_);cases dz;intro a w p n;exact ⟨p.selH [1,2,3,4,5,6,7,8,9,10,11] J,n.cuE J⟩
    have au:=aU hB ao;refine E J (dC hB J (A J D)) (E J (dC hB J (kZ J J J D)) (E J (pf hB J J D) (E J (A J D) ?_)));by_cases hC:r4.2.2≠0
    ·have d3:=aJ hC au;refine jF 2 J J (decide_eq_true hC) J ⟨J,J,tv⟩ (E J (pt hC J J D) (E J (A J D) (jF 3 J J J J ⟨J,J,J,tv⟩ (E J (pT J J J J D) (E J (A J D) (jF 2 J J J J ⟨J,J,tv⟩ (DF.nil fun g2 hF=>(gF J J J J (pT J J J J (N ?_))))))))));cases d3;intro a w p n;exact ⟨p.selH [1,2,3,4,5,6,7,8,9,10,11] J,n.cuE J⟩
    have ax:=aU hC au;refine E J (dC hC J (A J D)) (E J (dC hC J (kZ J J J D)) (E J (pf hC J J D) (E J (A J D) ?_)));by_cases R:r5.2.2≠0
    ·have d7:=aJ R ax;refine jF 3 J J (decide_eq_true R) J ⟨J,J,J,tv⟩ (E J (pt R J J D) (E J (A J D) (jF 2 J J J J ⟨J,J,tv⟩ (DF.nil fun g3 hF=>(gF J J J J (pT J J J J (N ?_)))))));cases d7;intro a w p n;exact ⟨p.selH [1,2,3,4,5,6,7,8,9,10,11] J,n.cuE J⟩
    have ba:=aU R ax;refine E J (dC R J (A J D)) (E J (dC R J (A J D)) (E J (dC R J (kZ J J J D)) (E J (pf R J J D) (E J (A J D) ?_))));by_cases G:r4.1≠r5.1
    ·have ea:=aJ G ba;refine jF 2 J J (decide_eq_true G) J ⟨J,J,tv⟩ (DF.nil fun g4 hF=>(CU G J (pt G J J (N ?_))));cases ea;intro a w p n;exact ⟨p.selH [1,2,3,4,5,6,7,8,9,10,11] J,n.cuE J⟩
    have ef:=aU G ba;refine E J (dC G J (A J D)) (E J (dC G J (A J D)) (DF.nil fun g5 hF=>(dC G J (kZ J J J (pf G J J (N ?_))))));cases ef;intro a w p n;exact ⟨p.selH [1,2,3,4,5,6,7,8,9,10,11] J,n.cuE J⟩
   refine X ?_;refine cb J (fun af=>?_) (fun af=>?_)
   ·have ej:=aJ af aq;refine C (I J (bK ?_));cases ej;obtain rfl:=dJ.out ad;cases ak;exact cX J J
   have en:=bJ af aq;refine sk (rg (A J (dO J J J (by omega) (I J ?_))));cases en;intro a w p n;exact ⟨_,ad,p.selH [2,3,4,5,6,7,8,9,10] J,n.cuE J⟩
  have et:=aU ae ac;refine xt J ?_;cases et;obtain rfl:=dJ.out ad;intro a w p n;exact ⟨_,J,p,n.cut tv⟩
 rintro a w ⟨t1,rfl,p,n⟩;apply TG.ap ?_ p n;refine C ?_;obtain ⟨hq,e2,e7⟩:=L ak;refine bB C7 J (fun w H f le=>w7 f (hg.mono (le.at 8 J))  e2) (I J (bK ?_));cases e7;exact cX J J

end T12
