/-
  The plain laws: what the models of an index come to.
-/
import Derived.Test.YtejccogankgniaaGreatDoorMade
import Derived.Test.YtejccogankgniaaGreatDoorKitSix
set_option linter.all false
namespace T11
open Go Go.Proofs Pk
def kc (c:UInt8):List UInt8:=if 65≤c.toNat∧c.toNat≤90 then [UInt8.ofNat (c.toNat - 65+97)] else if 97≤c.toNat∧c.toNat≤122∨48≤c.toNat∧c.toNat≤57 then [c] else []
def iE (s:aA):aA:=s.flatMap kc
theorem FX (c:UInt8):(kc c).length≤1:=by unfold kc;split <;> (try split) <;> simp
theorem vL (f:UInt8→List UInt8):∀ (l:List UInt8) (i:Nat) (a:List UInt8),zQ (fun _ x a=>(.inl (a++f x):List UInt8⊕List UInt8)) (fun a=>a) l i a=a++l.flatMap f
 | [],_,a=>by simp [iL]
 | x::l,i,a=>by rw [gG];simp only;rw [vL f l];simp
theorem LD {c:UInt8}:(UInt8.ofNat (((c.toNat:Int) - 65)+97).toNat)=UInt8.ofNat (c.toNat - 65+97)∨c.toNat < 65:=by
 by_cases h:c.toNat < 65
 ·exact .inr h
 left;congr 1;omega
theorem LE {s:aA} (h:s.length≤1073741824):DK s=some (iE s):=by
 unfold DK;rw [bD h]
 have h1:=oA s (σ:=List UInt8) (ε:=List UInt8) (fun _ x a=>.inl (a++kc x)) (fun a=>a) (fun i a=>a.length≤i) (step:=jW s) (fun i x a hi hx hI=>by
  unfold jW;rw [if_pos (show (i:Int) < (s.length:Int) by omega),hx,Option.bind_some];have:=UInt8.toNat_lt x;by_cases hu:65≤x.toNat∧x.toNat≤90
  ·have e:kc x=[UInt8.ofNat (x.toNat - 65+97)]:=by unfold kc;rw [if_pos hu]
   rw [if_pos (by omega)];simp only [Option.bind_some];rw [if_pos (by simp;omega),bD (by omega),bD (by omega),bD (by omega),Option.bind_some,e];rcases LD (c:=x) with h | h
   ·rw [h]
   omega
  ·have e0:((if (65:Int)≤(x.toNat:Int) then some (decide ((x.toNat:Int)≤90)) else some false):Option Bool)=some false:=by
    split
    ·congr 1;simp;omega
    rfl
   rw [e0,Option.bind_some];simp only [Bool.false_eq_true,if_false];by_cases hl:97≤x.toNat∧x.toNat≤122∨48≤x.toNat∧x.toNat≤57
   ·have e:kc x=[x]:=by unfold kc;rw [if_neg hu,if_pos hl]
    have e1:((if (97:Int)≤(x.toNat:Int) then if (x.toNat:Int)≤122 then some true else if (48:Int)≤(x.toNat:Int) then some (decide ((x.toNat:Int)≤57)) else some false else if (48:Int)≤(x.toNat:Int) then some (decide ((x.toNat:Int)≤57)) else some false):Option Bool)=some true:=by
     repeat' split
     all_goals first | rfl | (congr 1;simp;omega) | omega
    rw [e1];simp only [Option.bind_some,if_true];rw [bD (by omega)];simp only [Option.bind_some];rw [e]
   have e:kc x=[]:=by unfold kc;rw [if_neg hu,if_neg hl]
   have e1:((if (97:Int)≤(x.toNat:Int) then if (x.toNat:Int)≤122 then some true else if (48:Int)≤(x.toNat:Int) then some (decide ((x.toNat:Int)≤57)) else some false else if (48:Int)≤(x.toNat:Int) then some (decide ((x.toNat:Int)≤57)) else some false):Option Bool)=some false:=by
    repeat' split
    all_goals first | rfl | (congr 1;simp;omega) | omega
   rw [e1];simp only [Option.bind_some,Bool.false_eq_true,if_false]
   rw [e,List.append_nil])
  (fun i x a a' hi hx hI hg=>by
   have:=FX x;cases hg
   simp only [List.length_append];omega)
  (fun a hI=>by unfold jW;simp) (a0:=([]:List UInt8)) (Nat.le_refl 0)
 rw [h1,vL];rfl
theorem kX:∀ a:aA,Lib.compareBytes a a=0
 | []=>rfl
 | x::a=>by unfold Lib.compareBytes;rw [if_neg (by simp),if_neg (by simp)];exact kX a
theorem mT:∀ {a b:aA},Lib.compareBytes a b=0→a=b
 | [],[],_=>rfl
 | [],_::_,h=>by simp [Lib.compareBytes] at h
 | _::_,[],h=>by simp [Lib.compareBytes] at h
 | x::a,y::b,h=>by
  unfold Lib.compareBytes at h
  split at h
  ·cases h
  split at h
  ·cases h
  rename_i h1 h2
  rw [UInt8.lt_iff_toNat_lt] at h1 h2;have e:x=y:=UInt8.toNat_inj.1 (by omega);rw [e,mT h]
theorem oJ:∀ (a b:aA),Lib.compareBytes b a = - Lib.compareBytes a b
 | [],[]=>rfl
 | [],_::_=>rfl
 | _::_,[]=>rfl
 | x::a,y::b=>by
  unfold Lib.compareBytes;by_cases h1:x < y
  ·have h2:¬y < x:=by rw [UInt8.lt_iff_toNat_lt] at *;omega
   simp only [h1,h2,if_true,if_false];rfl
  by_cases h2:y < x
  ·simp only [h1,h2,if_true,if_false]
  simp only [h1,h2,if_false];exact oJ a b
theorem lV:∀ {a b c:aA},Lib.compareBytes a b < 0→Lib.compareBytes b c < 0→Lib.compareBytes a c < 0
 | [],[],_,h,_=>by simp [Lib.compareBytes] at h
 | [],_::_,[],_,h=>by simp [Lib.compareBytes] at h
 | [],_::_,_::_,_,_=>by simp [Lib.compareBytes]
 | _::_,[],_,h,_=>by simp [Lib.compareBytes] at h
 | _::_,_::_,[],_,h=>by simp [Lib.compareBytes] at h
 | x::a,y::b,z::c,h1,h2=>by
  unfold Lib.compareBytes at h1 h2 ⊢;simp only [UInt8.lt_iff_toNat_lt] at h1 h2 ⊢;by_cases hxy:x.toNat < y.toNat
  ·by_cases hyz:y.toNat < z.toNat
   ·rw [if_pos (by omega)];omega
   rw [if_neg hyz] at h2;by_cases hzy:z.toNat < y.toNat
   ·rw [if_pos hzy] at h2;omega
   rw [if_pos (by omega)];omega
  rw [if_neg hxy] at h1;by_cases hyx:y.toNat < x.toNat
  ·rw [if_pos hyx] at h1;omega
  rw [if_neg hyx] at h1;by_cases hyz:y.toNat < z.toNat
  ·rw [if_pos (by omega)];omega
  rw [if_neg hyz] at h2;by_cases hzy:z.toNat < y.toNat
  ·rw [if_pos hzy] at h2;omega
  rw [if_neg hzy] at h2;rw [if_neg (by omega),if_neg (by omega)];exact lV h1 h2
def kM (a b:aA):Int:=if Lib.compareBytes (iE a) (iE b)≠0 then Lib.compareBytes (iE a) (iE b) else Lib.compareBytes a b
def bT (a b:aA):Bool:=decide (kM a b < 0)
theorem e86 (x y:Int):DL [x,y]=some (if x≠0 then x else y):=by
 have h1:=jQ [x,y] (ε:=Unit⊕Int) (fun _ v=>if v≠0 then some (.inr v) else none) (.inl ()) (step:=jX [x,y]) (fun i v hi hv=>by
  unfold jX;rw [if_pos (by simp at hi ⊢;omega),hv,Option.bind_some]
  by_cases h:v=0 <;> simp [h]) (by unfold jX;simp)
 unfold DL;rw [h1,Option.bind_some];by_cases hx:x=0
 ·by_cases hy:y=0 <;> simp [uQ,hx,hy]
 simp [uQ,hx]
theorem PW {a b:aA} (ha:a.length≤1073741824) (hb:b.length≤1073741824):oV a b=some (kM a b):=by
 unfold oV IR;rw [LE ha,Option.bind_some,LE hb,Option.bind_some,Option.bind_some,Option.bind_some,e86,Option.bind_some];rfl
theorem rP {a b:aA} (ha:a.length≤1073741824) (hb:b.length≤1073741824):sK a b=some (bT a b):=by
 unfold sK;rw [PW ha hb,Option.bind_some];rfl
theorem DR (a:aA):kM a a=0:=by unfold kM;rw [kX,kX];rfl
theorem JD {a b:aA} (h:kM a b=0):a=b:=by
 unfold kM at h
 split at h
 ·exact absurd h ‹_›
 exact mT h
theorem DS (a b:aA):kM b a = - kM a b:=by
 unfold kM;rw [oJ (iE a) (iE b),oJ a b];by_cases h:Lib.compareBytes (iE a) (iE b)=0
 ·rw [if_neg (by omega),if_neg (by omega)]
 rw [if_pos (by omega),if_pos (by omega)]
theorem AD {a b c:aA} (h1:kM a b < 0) (h2:kM b c < 0):kM a c < 0:=by
 unfold kM at *;by_cases e1:Lib.compareBytes (iE a) (iE b)=0
 ·have k1:=mT e1;rw [if_neg (by omega)] at h1;rw [k1];by_cases e2:Lib.compareBytes (iE b) (iE c)=0
  ·rw [if_neg (by omega)] at h2;rw [if_neg (by omega)];exact lV h1 h2
  rw [if_pos e2] at h2;rw [if_pos e2];exact h2
 rw [if_pos e1] at h1;by_cases e2:Lib.compareBytes (iE b) (iE c)=0
 ·have k2:=mT e2;rw [← k2,if_pos e1];exact h1
 rw [if_pos e2] at h2;have:=lV h1 h2;rw [if_pos (by omega)];exact this
theorem rQ (a:aA):bT a a=false:=by unfold bT;rw [DR];rfl
theorem gH {a b c:aA} (h1:bT a b=true) (h2:bT b c=true):bT a c=true:=by
 unfold bT at *;simp only [decide_eq_true_eq] at *;exact AD h1 h2
theorem mU {a b:aA} (h:a≠b):bT b a=!bT a b:=by
 have h0:kM a b≠0:=fun e=>h (JD e);have:=DS a b;unfold bT;by_cases h1:kM a b < 0
 ·rw [decide_eq_true h1,decide_eq_false (by omega)];rfl
 rw [decide_eq_false h1,decide_eq_true (by omega)];rfl
end T11
namespace T11
open Go Go.Proofs Pk
def aY (h:aB):List aA:=h.name::h.aC
theorem cK {h:aB} {s:aA}:s∈aY h↔s=h.name∨s∈h.aC:=by unfold aY;exact List.mem_cons
theorem bG (h:aB):h.name∈aY h:=List.mem_cons_self
def fB (a b:aA):Prop:=bT a b=true
instance (a b:aA):Decidable (fB a b):=by unfold fB;infer_instance
theorem vM (a:aA):¬fB a a:=by unfold fB;rw [rQ];decide
theorem eA {a b c:aA} (h1:fB a b) (h2:fB b c):fB a c:=gH h1 h2
theorem oK {a b:aA} (h1:fB a b) (h2:fB b a):False:=vM a (eA h1 h2)
theorem fH {a b:aA} (h:a≠b):fB a b∨fB b a:=by
 unfold fB;rw [mU h];cases bT a b <;> simp
theorem iM {α:Type} {r:α→α→Prop}:∀ {l m:List α},(∀ a∈l,∀ b∈l,r a b→r b a→False)→l.Pairwise r→m.Pairwise r→(∀ x,x∈l↔x∈m)→l=m
 | [],m,_,_,_,h=>by
  cases m with
  | nil=>rfl
  | cons b m=>exact absurd ((h b).2 List.mem_cons_self) (by simp)
 | a::l,m,asy,hl,hm,h=>by
  cases m with
  | nil=>exact absurd ((h a).1 List.mem_cons_self) (by simp)
  | cons b m =>
   obtain ⟨hl1,hl2⟩:=List.pairwise_cons.1 hl;obtain ⟨hm1,hm2⟩:=List.pairwise_cons.1 hm;have hab:a=b:=by
    rcases List.mem_cons.1 ((h a).1 List.mem_cons_self) with e | e
    ·exact e
    rcases List.mem_cons.1 ((h b).2 List.mem_cons_self) with e' | e'
    ·exact e'.symm
    exact (asy a List.mem_cons_self b (List.mem_cons_of_mem _ e') (hl1 b e') (hm1 a e)).elim
   subst hab;congr 1;refine iM (r:=r) (fun x hx y hy=>asy x (List.mem_cons_of_mem _ hx) y (List.mem_cons_of_mem _ hy)) hl2 hm2 fun x=>⟨fun hx=>?_,fun hx=>?_⟩
   ·rcases List.mem_cons.1 ((h x).1 (List.mem_cons_of_mem _ hx)) with e | e
    ·subst e;exact (asy x List.mem_cons_self x List.mem_cons_self (hl1 x hx) (hl1 x hx)).elim
    exact e
   rcases List.mem_cons.1 ((h x).2 (List.mem_cons_of_mem _ hx)) with e | e
   ·subst e;exact (asy x List.mem_cons_self x List.mem_cons_self (hm1 x hx) (hm1 x hx)).elim
   exact e
theorem BT {l m:List aA} (hl:l.Pairwise fB) (hm:m.Pairwise fB) (h:∀ x,x∈l↔x∈m):l=m:=iM (fun _ _ _ _=>oK) hl hm h
theorem NJ {l:List aA} (h:l.Pairwise fB):l.Nodup:=h.imp fun h e=>by subst e;exact vM _ h
inductive Cn (hs:List aB):aA→aA→Prop
 | refl (a:aA):Cn hs a a
 | step {a b c:aA} {h:aB} (ha:Cn hs a b) (hh:h∈hs) (hb:b∈aY h) (hc:c∈aY h):Cn hs a c
section
variable {hs hs':List aB} {a b c:aA}
theorem Cn.of {h:aB} (hh:h∈hs) (ha:a∈aY h) (hb:b∈aY h):Cn hs a b:=.step (.refl a) hh ha hb
theorem Cn.trans (h1:Cn hs a b) (h2:Cn hs b c):Cn hs a c:=by
 induction h2 with
 | refl=>exact h1
 | step _ hh hb hc ih=>exact .step ih hh hb hc
theorem Cn.symm (h:Cn hs a b):Cn hs b a:=by
 induction h with
 | refl=>exact .refl _
 | step _ hh hb hc ih=>exact (Cn.of hh hc hb).trans ih
theorem Cn.lift (hl:∀ h∈hs,∀ a∈aY h,∀ b∈aY h,Cn hs' a b) (h:Cn hs a b):Cn hs' a b:=by
 induction h with
 | refl=>exact .refl _
 | step _ hh hb hc ih=>exact ih.trans (hl _ hh _ hb _ hc)
theorem Cn.mono (hm:∀ h∈hs,h∈hs') (h:Cn hs a b):Cn hs' a b:=h.lift fun k hk _ ha _ hb=>.of (hm k hk) ha hb
theorem Cn.inv {S:aA→Prop} (hS:∀ h∈hs,∀ a∈aY h,S a→∀ b∈aY h,S b) (h:Cn hs a b) (ha:S a):S b:=by
 induction h with
 | refl=>exact ha
 | step _ hh hb hc ih=>exact hS _ hh _ hb ih _ hc
def Hd (hs:List aB) (a s:aA):Prop:=(∃ h∈hs,h.name=s)∧Cn hs a s∧∀ h∈hs,Cn hs a h.name→h.name=s∨fB s h.name
theorem Hd.uniq {s t:aA} (h1:Hd hs a s) (h2:Hd hs a t):s=t:=by
 obtain ⟨⟨h,hh,rfl⟩,c1,m1⟩:=h1;obtain ⟨⟨k,hk,rfl⟩,c2,m2⟩:=h2;rcases m1 k hk c2 with e | e
 ·exact e.symm
 rcases m2 h hh c1 with e' | e'
 ·exact e'
 exact (oK e e').elim
theorem Hd.at {s:aA} (h:Hd hs a s) (hc:Cn hs b a):Hd hs b s:=⟨h.1,hc.trans h.2.1,fun k hk hb=>h.2.2 k hk (hc.symm.trans hb)⟩
end
def jC (l:List aI) (v c:Int):Prop:=∃ p∈l,p.aJ=v∧p.aW≤c∧c≤p.cL
def eB (p:aI):Prop:=1≤p.aJ∧p.aJ≤999∧1≤p.aW∧p.aW≤p.cL∧p.cL≤9999
def dF (p q:aI):Prop:=p.aJ < q.aJ∨p.aJ=q.aJ∧p.cL+1 < q.aW
instance (p:aI):Decidable (eB p):=by unfold eB;infer_instance
instance (p q:aI):Decidable (dF p q):=by unfold dF;infer_instance
structure eC (l:List aI):Prop where
 ok:∀ p∈l,eB p
 gap:l.Pairwise dF
theorem AE {l m:List aI} {v c:Int}:jC (l++m) v c↔jC l v c∨jC m v c:=by
 unfold jC;constructor
 ·rintro ⟨p,hp,h⟩;rcases List.mem_append.1 hp with hp | hp
  ·exact .inl ⟨p,hp,h⟩
  exact .inr ⟨p,hp,h⟩
 rintro (⟨p,hp,h⟩ | ⟨p,hp,h⟩)
 ·exact ⟨p,List.mem_append_left _ hp,h⟩
 exact ⟨p,List.mem_append_right _ hp,h⟩
theorem kN {α:Type} {r:α→α→Prop}:∀ {l:List α},l.Pairwise r→∀ x∈l,∀ y∈l,x=y∨r x y∨r y x
 | z::l,h,x,hx,y,hy=>by
  obtain ⟨h1,h2⟩:=List.pairwise_cons.1 h;rcases List.mem_cons.1 hx with e | hx'
  ·rcases List.mem_cons.1 hy with e' | hy'
   ·exact .inl (e.trans e'.symm)
   rw [e];exact .inr (.inl (h1 _ hy'))
  rcases List.mem_cons.1 hy with e' | hy'
  ·rw [e'];exact .inr (.inr (h1 _ hx'))
  exact kN h2 x hx' y hy'
theorem xZ {l m:List aI} (hl:eC l) (hm:eC m) (h:∀ v c,jC l v c↔jC m v c) {p:aI} (hp:p∈l):p∈m:=by
 have hpo:=hl.ok p hp;have hst:∀ c,p.aW≤c→c≤p.cL→∃ q∈m,q.aJ=p.aJ∧q.aW≤c∧c≤q.cL:=fun c h1 h2=>(h _ _).1 ⟨p,hp,rfl,h1,h2⟩;have hback:∀ q∈m,q.aJ=p.aJ→∀ c,q.aW≤c→c≤q.cL→∃ p'∈l,p'.aJ=p.aJ∧p'.aW≤c∧c≤p'.cL:=fun q hq e c h1 h2=>(h _ _).2 ⟨q,hq,e,h1,h2⟩;have hal:∀ p'∈l,p'.aJ=p.aJ→p'=p∨p'.cL+1 < p.aW∨p.cL+1 < p'.aW:=fun p' hp' e=>by
  rcases kN hl.gap p' hp' p hp with h | h | h
  ·exact .inl h
  ·unfold dF at h;right;left;omega
  unfold dF at h;right;right;omega
 obtain ⟨q,hq,e1,e2,e3⟩:=hst p.aW (Int.le_refl _) hpo.2.2.2.1;have ham:∀ q'∈m,q'.aJ=p.aJ→q'=q∨q'.cL+1 < q.aW∨q.cL+1 < q'.aW:=fun q' hq' e=>by
  rcases kN hm.gap q' hq' q hq with h | h | h
  ·exact .inl h
  ·unfold dF at h;right;left;omega
  unfold dF at h;right;right;omega
 have hqo:=hm.ok q hq;have hfrom:q.aW=p.aW:=by
  by_cases e:q.aW=p.aW
  ·exact e
  obtain ⟨p',hp',h1,h2,h3⟩:=hback q hq e1 (p.aW - 1) (by omega) (by omega);rcases hal p' hp' h1 with h4 | h4 | h4
  ·subst h4;omega
  ·omega
  unfold eB at hpo;omega
 have hto:q.cL=p.cL:=by
  rcases Int.lt_trichotomy q.cL p.cL with e | e | e
  ·obtain ⟨q',hq',h1,h2,h3⟩:=hst (q.cL+1) (by omega) (by omega);rcases ham q' hq' h1 with h4 | h4 | h4
   ·subst h4;omega
   ·unfold eB at hqo;omega
   omega
  ·exact e
  obtain ⟨p',hp',h1,h2,h3⟩:=hback q hq e1 (p.cL+1) (by unfold eB at hpo;omega) (by omega);rcases hal p' hp' h1 with h4 | h4 | h4
  ·subst h4;omega
  ·unfold eB at hpo;omega
  omega
 have:q=p:=by
  cases q;cases p;simp only at *;subst e1 hfrom hto;rfl
 rw [← this];exact hq
theorem yA {l m:List aI} (hl:eC l) (hm:eC m) (h:∀ v c,jC l v c↔jC m v c):l=m:=by
 refine iM (r:=dF) (fun a ha b hb h1 h2=>?_) hl.gap hm.gap fun p=>⟨xZ hl hm h,xZ hm hl fun v c=>(h v c).symm⟩;have:=hl.ok a ha;have:=hl.ok b hb;unfold dF at h1 h2;unfold eB at *;omega
structure DT (hs:List aB) (g:aB):Prop where
 hd:Hd hs g.name g.name
 vs:g.aC.Pairwise fB
 vm:∀ s,s∈g.aC↔s≠g.name∧∃ h∈hs,s∈aY h∧Cn hs g.name h.name
 asd:g.aM.Pairwise fB
 am:∀ s,s∈g.aM↔s≠g.name∧∃ h∈hs,Cn hs g.name h.name∧∃ t∈h.aM,Hd hs t s
 pn:eC g.aG
 pm:∀ v c,jC g.aG v c↔∃ h∈hs,Cn hs g.name h.name∧jC h.aG v c
abbrev mV (x:List aB):Prop:=x.Pairwise fun a b=>fB a.name b.name
structure dI (hs x:List aB):Prop where
 srt:mV x
 cov:∀ h∈hs,∃ g∈x,Cn hs h.name g.name
 each:∀ g∈x,DT hs g
theorem DT.uniq {hs:List aB} {g k:aB} (hg:DT hs g) (hk:DT hs k) (e:g.name=k.name):g=k:=by
 have e1:g.aC=k.aC:=BT hg.vs hk.vs fun s=>by rw [hg.vm,hk.vm,e]
 have e2:g.aM=k.aM:=BT hg.asd hk.asd fun s=>by rw [hg.am,hk.am,e]
 have e3:g.aG=k.aG:=yA hg.pn hk.pn fun v c=>by rw [hg.pm,hk.pm,e]
 cases g;cases k;simp only at *;subst e e1 e2 e3;rfl
theorem dI.sub {hs x y:List aB} (hx:dI hs x) (hy:dI hs y) {g:aB} (hg:g∈x):g∈y:=by
 have h1:=hx.each g hg;obtain ⟨⟨h,hh,e⟩,_,_⟩:=h1.hd;obtain ⟨k,hk,hc⟩:=hy.cov h hh;have h2:=hy.each k hk;have:g.name=k.name:=Hd.uniq (h1.hd.at (e▸Cn.refl h.name:Cn hs h.name g.name)) (h2.hd.at hc);rw [h1.uniq h2 this];exact hk
theorem dI.uniq {hs x y:List aB} (hx:dI hs x) (hy:dI hs y):x=y:=iM (fun _ _ _ _=>oK) hx.srt hy.srt fun g=>⟨hx.sub hy,hy.sub hx⟩
section
variable {hs hs' x:List aB}
end
section
variable {A B x:List aB}
theorem DT.mem {g:aB} (hg:DT A g) {h:aB} (hh:h∈A) (hc:Cn A g.name h.name) {s:aA} (hs:s∈aY h):s∈aY g:=by
 rw [cK,hg.vm];by_cases e:s=g.name
 ·exact .inl e
 exact .inr ⟨e,h,hh,hs,hc⟩
theorem DT.of {g:aB} (hg:DT A g) {s:aA} (hs:s∈aY g):∃ h∈A,s∈aY h∧Cn A g.name h.name:=by
 rcases cK.1 hs with rfl | hs
 ·obtain ⟨h,hh,e⟩:=hg.hd.1;exact ⟨h,hh,e▸bG h,e▸Cn.refl _⟩
 exact ((hg.vm s).1 hs).2
theorem DT.cn {g:aB} (hg:DT A g) {s t:aA} (hs:s∈aY g) (ht:t∈aY g):Cn A s t:=by
 obtain ⟨h,hh,h1,h2⟩:=hg.of hs;obtain ⟨k,hk,k1,k2⟩:=hg.of ht;exact ((Cn.of hh h1 (bG h)).trans (h2.symm.trans k2)).trans (Cn.of hk (bG k) k1)
theorem dI.cn (hx:dI A x) {a b:aA}:Cn (x++B) a b↔Cn (A++B) a b:=by
 constructor
 ·refine Cn.lift fun h hh a ha b hb=>?_;rcases List.mem_append.1 hh with hh | hh
  ·exact ((hx.each h hh).cn ha hb).mono fun k hk=>List.mem_append_left _ hk
  exact .of (List.mem_append_right _ hh) ha hb
 refine Cn.lift fun h hh a ha b hb=>?_;rcases List.mem_append.1 hh with hh | hh
 ·obtain ⟨g,hg,hc⟩:=hx.cov h hh;exact .of (List.mem_append_left _ hg) ((hx.each g hg).mem hh hc.symm ha) ((hx.each g hg).mem hh hc.symm hb)
 exact .of (List.mem_append_right _ hh) ha hb
theorem Cn.inl {a b:aA} (h:Cn A a b):Cn (A++B) a b:=h.mono fun k hk=>List.mem_append_left _ hk
theorem dI.hd (hx:dI A x) {a s:aA}:Hd (x++B) a s↔Hd (A++B) a s:=by
 constructor
 ·rintro ⟨⟨h,hh,rfl⟩,c,m⟩;refine ⟨?_,hx.cn.1 c,fun k hk hc=>?_⟩
  ·rcases List.mem_append.1 hh with hh | hh
   ·obtain ⟨⟨k,hk,e⟩,_⟩:=(hx.each h hh).hd;exact ⟨k,List.mem_append_left _ hk,e⟩
   exact ⟨h,List.mem_append_right _ hh,rfl⟩
  rcases List.mem_append.1 hk with hk | hk
  ·obtain ⟨g,hg,hgc⟩:=hx.cov k hk;have h1:=m g (List.mem_append_left _ hg) (hx.cn.2 (hc.trans hgc.inl));have h2:=(hx.each g hg).hd.2.2 k hk hgc.symm;rcases h1 with e | e <;> rcases h2 with e' | e'
   ·exact .inl (e'.trans e)
   ·exact .inr (e▸e')
   ·exact .inr (e'.symm▸e)
   exact .inr (eA e e')
  exact m k (List.mem_append_right _ hk) (hx.cn.2 hc)
 rintro ⟨⟨h,hh,rfl⟩,c,m⟩;refine ⟨?_,hx.cn.2 c,fun k hk hc=>?_⟩
 ·rcases List.mem_append.1 hh with hh | hh
  ·obtain ⟨g,hg,hgc⟩:=hx.cov h hh;have h2:=(hx.each g hg).hd;refine ⟨g,List.mem_append_left _ hg,?_⟩;obtain ⟨k,hk,e⟩:=h2.1;rcases m k (List.mem_append_left _ hk) (e▸c.trans hgc.inl) with e' | e'
   ·exact e.symm.trans e'
   rcases h2.2.2 h hh hgc.symm with e'' | e''
   ·exact e''.symm
   rw [e] at e';exact (oK e' e'').elim
  exact ⟨h,List.mem_append_right _ hh,rfl⟩
 rcases List.mem_append.1 hk with hk | hk
 ·obtain ⟨⟨k',hk',e⟩,_⟩:=(hx.each k hk).hd;rw [← e];exact m k' (List.mem_append_left _ hk') (e▸hx.cn.1 hc)
 exact m k (List.mem_append_right _ hk) (hx.cn.1 hc)
def clo (hs:List aB):Prop:=∀ h∈hs,∀ t∈h.aM,∃ k∈hs,k.name=t
end
end T11
namespace T11
open Go Go.Proofs Pk
section
variable {α:Type}
noncomputable def lW (l:List α) (f:α→α→Option Bool) (s:Nat):Option (Nat⊕(Unit⊕Bool)) :=
 if (s:Int) < (l.length:Int) then (((if 0 < (s:Int) then (l[((s:Int) - 1).toNat]?).bind fun x=>(l[s]?).bind fun y=>(f x y).bind fun r=>some (!r) else some false):Option Bool).bind fun t=>if t then some (.inr (.inr false)) else some (.inl (s+1))) else some (.inr (.inl ()))
noncomputable def yB (l:List α) (f:α→α→Option Bool):Option Bool:=(aX (lW l f) 0).bind fun e=>match e with
 | .inr z=>some z
 | .inl _=>some true
def cA (p:α→α→Bool):List α→Bool
 | x::y::l=>p x y&&cA p (y::l)
 | _=>true
theorem lX {l:List α} {f:α→α→Option Bool} (p:α→α→Bool) (h:∀ x∈l,∀ y∈l,f x y=some (p x y)):yB l f=some (cA p l):=by
 have key:∀ k i,l.length - i=k→i≤l.length→0 < i→aX (lW l f) i=some (if cA p (l.drop (i - 1)) then .inl () else .inr false):=by
  intro k
  induction k with
  | zero =>
   intro i hk hi h0;obtain rfl:i=l.length:=by omega
   have e:cA p (l.drop (l.length - 1))=true:=by
    have:(l.drop (l.length - 1)).length=1:=by simp;omega
    cases hd:l.drop (l.length - 1) with
    | nil=>rfl
    | cons x m=>rw [hd] at this;cases m with
     | nil=>rfl
     | cons _ _=>simp at this
   rw [e,if_pos rfl];exact bK (by unfold lW;rw [if_neg (by omega)])
  | succ k ih =>
   intro i hk hi h0;have hlt:i < l.length:=by omega
   have hx:l[i - 1]?=some l[i - 1]:=List.getElem?_eq_getElem (by omega);have hy:l[i]?=some l[i]:=List.getElem?_eq_getElem hlt;have e1:l.drop (i - 1)=l[i - 1]::l[i]::l.drop (i+1):=by
    rw [List.drop_eq_getElem_cons (by omega),show i - 1+1=i by omega,List.drop_eq_getElem_cons hlt]
   have e2:l.drop i=l[i]::l.drop (i+1):=List.drop_eq_getElem_cons hlt;have hs:lW l f i=some (if p l[i - 1] l[i] then .inl (i+1) else .inr (.inr false)):=by
    unfold lW;rw [if_pos (by omega),if_pos (by omega),show ((i:Int) - 1).toNat=i - 1 by omega,hx,Option.bind_some,hy,Option.bind_some,h _ (List.mem_of_getElem? hx) _ (List.mem_of_getElem? hy)];cases p l[i - 1] l[i] <;> rfl
   rw [e1];unfold cA
   cases hp:p l[i - 1] l[i] with
   | true =>
    rw [hp] at hs;rw [bU hs,ih (i+1) (by omega) (by omega) (by omega),show i+1 - 1=i by omega,e2,Bool.true_and]
   | false =>
    rw [hp] at hs;rw [bK hs];rfl
 unfold yB
 cases l with
 | nil=>rw [bK (e:=.inl ()) (by unfold lW;simp)];rfl
 | cons x l =>
  rw [bU (s':=1) (by unfold lW;simp),key _ 1 rfl (by simp) (by omega)];simp only [Nat.sub_self,List.drop_zero];cases cA p (x::l) <;> rfl
theorem mW {p:α→α→Bool}:∀ {l:List α},(∀ x∈l,∀ y∈l,∀ z∈l,p x y=true→p y z=true→p x z=true)→(cA p l=true↔l.Pairwise fun x y=>p x y=true)
 | [],_=>by simp [cA]
 | [x],_=>by simp [cA]
 | x::y::l,tr=>by
  have ih:=mW (l:=y::l) (fun a ha b hb c hc=>tr a (List.mem_cons_of_mem _ ha) b (List.mem_cons_of_mem _ hb) c (List.mem_cons_of_mem _ hc));simp only [cA,Bool.and_eq_true];rw [ih,List.pairwise_cons (a:=x)];constructor
  ·rintro ⟨h1,h2⟩;refine ⟨fun z hz=>?_,h2⟩;rcases List.mem_cons.1 hz with rfl | hz'
   ·exact h1
   exact tr x (by simp) y (by simp) z (by simp [hz']) h1 ((List.pairwise_cons.1 h2).1 z hz')
  rintro ⟨h1,h2⟩;exact ⟨h1 y (by simp),h2⟩
end
def eL (c:UInt8):Bool:=decide (32≤c.toNat∧c.toNat≤126∧c.toNat≠44∧c.toNat≠58∧c.toNat≠59∧c.toNat≠61)
def rR (s:aA):Bool:=cA (fun a b=>!(a==32&&b==32)) s
def dC (s:aA):Bool:=decide (1≤s.length∧s.length≤40)&&s.all eL&&decide (s.head?≠some 32)&&decide (s.getLast?≠some 32)&&rR s
def JE (l:List aA):Prop:=l.length≤8∧(∀ s∈l,dC s=true)∧l.Pairwise fB
def Rt (h:aB):Prop:=dC h.name=true∧JE h.aC∧JE h.aM∧h.aG.length≤30∧eC h.aG
def pK (l:List aB):Prop:=∀ h∈l,∀ s∈h.aM,s≠h.name∧∃ k∈l,k.name=s
structure Ix (l:List aB):Prop where
 len:l.length≤60
 rt:∀ h∈l,Rt h
 nd:(l.flatMap aY).Nodup
 aM:pK l
 srt:mV l
open Classical in
noncomputable def cE (l:List aB):Int:=if 60 < l.length then 3 else if ¬∀ h∈l,Rt h then 1 else if ¬(l.flatMap aY).Nodup then 6 else if ¬(pK l∧mV l) then 1 else 0
theorem gX {l:List aB}:cE l=0↔Ix l:=by
 unfold cE;constructor
 ·intro h
  split at h
  ·cases h
  split at h
  ·cases h
  split at h
  ·cases h
  split at h
  ·cases h
  rename_i h1 h2 h3 h4
  simp only [Classical.not_not] at h2 h3 h4;exact ⟨by omega,h2,h3,h4.1,h4.2⟩
 intro h;rw [if_neg (by have:=h.len;omega),if_neg (by simpa using h.rt),if_neg (by simpa using h.nd),if_neg (by simpa using ⟨h.aM,h.srt⟩)]
theorem mX:∀ {l:List aB},(l.flatMap aY).Nodup→∀ {h k:aB} {s:aA},h∈l→k∈l→s∈aY h→s∈aY k→h=k
 | [],_,_,_,_,hh,_,_,_=>by cases hh
 | x::l,nd,h,k,s,hh,hk,h1,h2=>by
  rw [List.flatMap_cons,List.nodup_append] at nd;have hne:∀ {k:aB},k∈l→s∈aY x→s∈aY k→False:=fun hk h1 h2=>nd.2.2 s h1 s (List.mem_flatMap.2 ⟨_,hk,h2⟩) rfl;rcases List.mem_cons.1 hh with e | hh'
  ·rcases List.mem_cons.1 hk with e' | hk'
   ·rw [e,e']
   subst e;exact (hne hk' h1 h2).elim
  rcases List.mem_cons.1 hk with e' | hk'
  ·subst e';exact (hne hh' h2 h1).elim
  exact mX nd.2.1 hh' hk' h1 h2
section
variable {l hs x:List aB}
theorem Ix.uniq (hl:Ix l) {h k:aB} {s:aA} (hh:h∈l) (hk:k∈l) (h1:s∈aY h) (h2:s∈aY k):h=k:=mX hl.nd hh hk h1 h2
theorem Ix.clo (hl:Ix l):clo l:=fun h hh t ht=>(hl.aM h hh t ht).2
theorem Ix.cn (hl:Ix l) {h:aB} (hh:h∈l) {a b:aA} (ha:a∈aY h) (hc:Cn l a b):b∈aY h :=
 hc.inv (S:=fun b=>b∈aY h) (fun k hk a ha hS b hb=>by rw [hl.uniq hh hk hS ha];exact hb) ha
theorem Ix.eq_of (hl:Ix l) {h k:aB} (hh:h∈l) (hk:k∈l) (hc:Cn l h.name k.name):h=k:=hl.uniq hh hk (hl.cn hh (bG h) hc) (bG k)
theorem Ix.hd (hl:Ix l) {h:aB} (hh:h∈l):Hd l h.name h.name:=⟨⟨h,hh,rfl⟩,.refl _,fun k hk hc=>by rw [hl.eq_of hh hk hc];exact .inl rfl⟩
theorem Ix.hd_iff (hl:Ix l) {h:aB} (hh:h∈l) {s:aA}:Hd l h.name s↔s=h.name:=⟨fun h1=>h1.uniq (hl.hd hh),fun e=>e▸hl.hd hh⟩
theorem Ix.vnd (hl:Ix l) {h:aB} (hh:h∈l):h.name∉h.aC:=by
 have:(aY h).Nodup:=by
  have:=hl.nd;clear hl
  induction l with
  | nil=>cases hh
  | cons x l ih =>
   rw [List.flatMap_cons,List.nodup_append] at this;rcases List.mem_cons.1 hh with e | hh'
   ·rw [e];exact this.1
   exact ih hh' this.2.1
 exact (List.nodup_cons.1 this).1
theorem Ix.join (hl:Ix l):dI l l:=by
 refine ⟨hl.srt,fun h hh=>⟨h,hh,.refl _⟩,fun g hg=>?_⟩;have hr:=hl.rt g hg;refine ⟨hl.hd hg,hr.2.1.2.2,fun s=>?_,hr.2.2.1.2.2,fun s=>?_,hr.2.2.2.2,fun v c=>?_⟩
 ·constructor
  ·intro hs;exact ⟨fun e=>hl.vnd hg (e▸hs),g,hg,cK.2 (.inr hs),.refl _⟩
  rintro ⟨hne,h,hh,hs,hc⟩;rw [← hl.eq_of hg hh hc] at hs;exact (cK.1 hs).resolve_left hne
 ·constructor
  ·intro hs;obtain ⟨h1,k,hk,e⟩:=hl.aM g hg s hs;exact ⟨h1,g,hg,.refl _,s,hs,e▸hl.hd hk⟩
  rintro ⟨hne,h,hh,hc,t,ht,hd⟩;rw [← hl.eq_of hg hh hc] at ht;obtain ⟨_,k,hk,e⟩:=hl.aM g hg t ht;subst e;rw [(hl.hd_iff hk).1 hd];exact ht
 constructor
 ·intro h;exact ⟨g,hg,.refl _,h⟩
 rintro ⟨h,hh,hc,hs⟩;rw [hl.eq_of hg hh hc];exact hs
def vN (x:List aB):Prop:=x.length≤60∧∀ g∈x,g.aC.length≤8∧g.aM.length≤8∧g.aG.length≤30
theorem BU:∀ {x:List aB},(∀ g∈x,(aY g).Nodup)→x.Pairwise (fun a b=>∀ s,s∈aY a→s∈aY b→False)→(x.flatMap aY).Nodup
 | [],_,_=>List.nodup_nil
 | g::x,h,hp=>by
  obtain ⟨h1,h2⟩:=List.pairwise_cons.1 hp;rw [List.flatMap_cons,List.nodup_append];refine ⟨h g List.mem_cons_self,BU (fun k hk=>h k (List.mem_cons_of_mem _ hk)) h2,fun a ha b hb e=>?_⟩;subst e;obtain ⟨k,hk,hb⟩:=List.mem_flatMap.1 hb;exact h1 k hk a ha hb
theorem dI.name_eq (hx:dI hs x) {g k:aB} (hg:g∈x) (hk:k∈x) (hc:Cn hs g.name k.name):g.name=k.name:=(hx.each g hg).hd.uniq ((hx.each k hk).hd.at hc)
theorem dI.ix (hr:∀ h∈hs,Rt h) (hc:clo hs) (hx:dI hs x) (hf:vN x):Ix x:=by
 have hn:∀ h∈hs,∀ s∈aY h,dC s=true:=fun h hh s hs=>by
  rcases cK.1 hs with rfl | hs
  ·exact (hr h hh).1
  exact (hr h hh).2.1.2.1 s hs
 refine ⟨hf.1,fun g hg=>?_,?_,fun g hg s hsg=>?_,hx.srt⟩
 ·have h:=hx.each g hg;obtain ⟨f1,f2,f3⟩:=hf.2 g hg;obtain ⟨k,hk,e⟩:=h.hd.1;refine ⟨e▸(hr k hk).1,⟨f1,fun s hs=>?_,h.vs⟩,⟨f2,fun s hs=>?_,h.asd⟩,f3,h.pn⟩
  ·obtain ⟨_,k,hk,h1,_⟩:=(h.vm s).1 hs;exact hn k hk s h1
  obtain ⟨_,k,hk,_,t,ht,⟨q,hq,e⟩,_⟩:=(h.am s).1 hs;rw [← e];exact (hr q hq).1
 ·refine BU (fun g hg=>?_) (hx.srt.imp_of_mem fun {a b} ha hb h s h1 h2=>?_)
  ·have h:=hx.each g hg;exact List.nodup_cons.2 ⟨fun h1=>((h.vm _).1 h1).1 rfl,NJ h.vs⟩
  obtain ⟨k,hk,k1,k2⟩:=(hx.each a ha).of h1;obtain ⟨q,hq,q1,q2⟩:=(hx.each b hb).of h2;have:a.name=b.name:=hx.name_eq ha hb (k2.trans ((Cn.of hk (bG k) k1).trans ((Cn.of hq q1 (bG q)).trans q2.symm)));rw [this] at h;exact vM _ h
 obtain ⟨h1,k,hk,_,t,ht,hd⟩:=((hx.each g hg).am s).1 hsg;refine ⟨h1,?_⟩;obtain ⟨⟨q,hq,e⟩,hdc,hdm⟩:=hd;obtain ⟨g',hg',hc'⟩:=hx.cov q hq;refine ⟨g',hg',?_⟩;have hd':Hd hs s s:=⟨⟨q,hq,e⟩,.refl _,fun k hk hc=>hdm k hk (hdc.trans hc)⟩;exact (((hx.each g' hg').hd.at (e▸hc')).uniq hd')
theorem Ix.fits (hl:Ix l):vN l:=⟨hl.len,fun g hg=>⟨(hl.rt g hg).2.1.1,(hl.rt g hg).2.2.1.1,(hl.rt g hg).2.2.2.1⟩⟩
end
end T11
namespace T11
open Go Go.Proofs Pk
theorem u8n {c:UInt8} {n:Nat} (h:n < 256):c.toNat=n↔c=UInt8.ofNat n:=by
 rw [← UInt8.toNat_inj];simp;omega
theorem ixb (c:UInt8):(0≤Lib.indexByte [44,58,59,61] c)↔(c.toNat=44∨c.toNat=58∨c.toNat=59∨c.toNat=61):=by
 have a1:c.toNat=44↔(44:UInt8)=c:=by rw [← UInt8.toNat_inj];exact eq_comm
 have a2:c.toNat=58↔(58:UInt8)=c:=by rw [← UInt8.toNat_inj];exact eq_comm
 have a3:c.toNat=59↔(59:UInt8)=c:=by rw [← UInt8.toNat_inj];exact eq_comm
 have a4:c.toNat=61↔(61:UInt8)=c:=by rw [← UInt8.toNat_inj];exact eq_comm
 rw [a1,a2,a3,a4];simp only [Lib.indexByte,beq_iff_eq];by_cases h1:(44:UInt8)=c
 ·simp [h1]
 by_cases h2:(58:UInt8)=c
 ·simp [h1,h2]
 by_cases h3:(59:UInt8)=c
 ·simp [h1,h2,h3]
 by_cases h4:(61:UInt8)=c
 ·simp [h1,h2,h3,h4]
 simp [h1,h2,h3,h4]
theorem PX (n a b:Int):sB n a b=some (decide (a≤n∧n≤b)):=by
 unfold sB;by_cases h:a≤n <;> simp [h]
theorem WI (n a b:Int):KZ n a b=some (decide (a≤n∧n≤b)):=by
 unfold KZ;by_cases h:a≤n <;> simp [h]
theorem aA3 (c:UInt8):lD (c.toNat:Int)=some (eL c):=by
 have hc:=UInt8.toNat_lt c;unfold lD eL;by_cases h1:(32:Int)≤(c.toNat:Int)
 ·by_cases h2:(c.toNat:Int)≤126
  ·rw [if_pos h1,if_pos h2];unfold xB;have e:(c.toNat:Int).toNat.toUInt8=c:=by simp
   rw [bD (by omega),e,Option.bind_some,Option.bind_some];congr 1;rw [Bool.eq_iff_iff,Bool.not_eq_true',decide_eq_false_iff_not,decide_eq_true_eq,ixb];omega
  rw [if_pos h1,if_neg h2,Option.bind_some];congr 1;symm;rw [decide_eq_false_iff_not];omega
 rw [if_neg h1,Option.bind_some];congr 1;symm;rw [decide_eq_false_iff_not];omega
theorem aA4 (l:List UInt8):rH l lD=some (l.all eL):=by
 have h:rH l lD=wY l (fun c=>lD (c.toNat:Int)):=rfl;rw [h];exact gA eL fun c _=>aA3 c
theorem BV {α:Type} {p:α→Bool} {l:List α}:l.dropWhile p=l↔∀ x,l.head?=some x→p x=false:=by
 cases l with
 | nil=>simp
 | cons x l =>
  simp only [List.head?_cons,Option.some.injEq,forall_eq',List.dropWhile_cons]
  cases hp:p x with
  | false=>simp
  | true =>
   simp only [if_true,Bool.true_eq_false,iff_false];intro e;have:=congrArg List.length e;have h2:=(List.dropWhile_sublist p (l:=l)).length_le;simp at this;omega
theorem tR (s:aA) (c:UInt8):Lib.trimB s c=s↔s.head?≠some c∧s.getLast?≠some c:=by
 unfold Lib.trimB Lib.trimLeftB Lib.trimRightB;have hr:((s.reverse.dropWhile (· == c)).reverse=s)↔s.getLast?≠some c:=by
  rw [List.reverse_eq_iff,BV,List.head?_reverse];constructor
  ·intro h e;have:=h c e;simp at this
  intro h x hx;rw [beq_eq_false_iff_ne];rintro rfl;exact h hx
 have hl:(s.dropWhile (· == c)=s)↔s.head?≠some c:=by
  rw [BV];constructor
  ·intro h e;have:=h c e;simp at this
  intro h x hx;rw [beq_eq_false_iff_ne];rintro rfl;exact h hx
 constructor
 ·intro h;have h1:((s.reverse.dropWhile (· == c)).reverse).length≤s.length:=by
   rw [List.length_reverse];have:=(List.dropWhile_sublist (· == c) (l:=s.reverse)).length_le;simpa using this
  have h2:(List.dropWhile (· == c) (s.reverse.dropWhile (· == c)).reverse).length≤((s.reverse.dropWhile (· == c)).reverse).length:=(List.dropWhile_sublist _).length_le;rw [h] at h2;have h3:(s.reverse.dropWhile (· == c)).reverse=s:=by
   have hs:(s.reverse.dropWhile (· == c)).Sublist s.reverse:=List.dropWhile_sublist _;have:=hs.eq_of_length (by rw [List.length_reverse] at h1 h2 ⊢;omega);rw [this,List.reverse_reverse]
  rw [h3] at h;exact ⟨hl.1 h,hr.1 h3⟩
 rintro ⟨h1,h2⟩;rw [hr.2 h2,hl.2 h1]
theorem mY:∀ s:aA,Lib.contains s [32,32]=!rR s
 | []=>rfl
 | [a]=>by
  unfold Lib.contains Lib.index;simp [rR,cA,Lib.index,List.isPrefixOf]
 | a::b::s=>by
  have ih:=mY (b::s);unfold Lib.contains at ih ⊢;unfold Lib.index;unfold rR cA;have hp:List.isPrefixOf [(32:UInt8),32] (a::b::s)=(a==32&&b==32):=by
   simp only [List.isPrefixOf,Bool.and_true];rw [BEq.comm (a:=(32:UInt8)) (b:=a),BEq.comm (a:=(32:UInt8)) (b:=b)]
  rw [hp]
  cases h:(a==32&&b==32) with
  | true=>simp
  | false =>
   simp only [Bool.false_eq_true,if_false,Bool.not_false,Bool.true_and];rw [show cA (fun a b=>!(a==32&&b==32)) (b::s)=rR (b::s) from rfl,← ih];have:=Lib.index_ge (b::s) [32,32];by_cases hm:Lib.index (b::s) [32,32] = -1
   ·rw [hm];rfl
   rw [if_neg (by simpa using hm)];congr 1;simp;omega
theorem TF (s:aA):jB s=some (dC s):=by
 unfold jB;rw [PX,Option.bind_some];unfold dC;by_cases h1:1≤s.length∧s.length≤40
 ·rw [if_pos (by simp;omega),bD (by omega),aA4,Option.bind_some];simp only [h1,and_self,decide_true,Bool.true_and]
  cases h2:s.all eL with
  | false=>simp
  | true =>
   rw [if_pos rfl];have eA1:sJ s [32]=some (Lib.trimB s 32):=by
    unfold sJ;exact bD ⟨by omega,by decide⟩ _
   rw [eA1,Option.bind_some];by_cases h3:Lib.trimB s 32=s
   ·obtain ⟨h4,h5⟩:=(tR s 32).1 h3;unfold xA;rw [if_pos h3,bD (by omega),Option.bind_some,mY,decide_eq_true h4,decide_eq_true h5];cases rR s <;> rfl
   rw [if_neg h3,Option.bind_some];congr 1
   symm
   rw [tR] at h3;simp only [Bool.and_eq_false_iff,decide_eq_false_iff_not,Bool.true_and];by_cases h4:s.head?=some 32
   ·exact .inl (.inl (fun h=>h h4))
   refine .inl (.inr fun h5=>h3 ⟨h4,h5⟩)
 rw [if_neg (by simp;omega)];simp [h1]
theorem TH (s:aA):DO s=some (dC s):=by
 unfold DO;rw [WI,Option.bind_some];by_cases h1:1≤s.length∧s.length≤40
 ·rw [if_pos (by simp;omega)];have h0:s[0]?=some s[0]:=List.getElem?_eq_getElem (by omega);have hL:s[s.length - 1]?=some s[s.length - 1]:=List.getElem?_eq_getElem (by omega);have hh:s.head?=some s[0]:=by rw [List.head?_eq_getElem?];exact h0
  have hl:s.getLast?=some s[s.length - 1]:=by rw [List.getLast?_eq_getElem?];exact hL
  have rP:∀ c:UInt8,(c.toNat:Int)=32↔c=32:=fun c=>by
   have:=u8n (c:=c) (n:=32) (by decide);constructor
   ·intro h;exact this.1 (by omega)
   intro h;have:=this.2 h;omega
  rw [h0,Option.bind_some];unfold dC;rw [hh,hl];by_cases c0:s[0]=32
  ·rw [if_pos ((rP _).2 c0),Option.bind_some,if_pos rfl];simp [c0]
  rw [if_neg (fun h=>c0 ((rP _).1 h)),bD (by omega),bD (by omega),show ((s.length:Int) - 1).toNat=s.length - 1 by omega,hL,Option.bind_some,Option.bind_some];by_cases c1:s[s.length - 1]=32
  ·rw [if_pos (by simpa using (rP _).2 c1)];simp [c1]
  rw [if_neg (by simp only [decide_eq_true_eq];exact fun h=>c1 ((rP _).1 h))];have key:∀ k i,s.length - i=k→i≤s.length→(0 < i→∃ c,s[i - 1]?=some c)→aX (oG s) i=some (if (s.drop i).all eL&&cA (fun a b=>!(a==32&&b==32)) (s.drop (i - 1)) then .inl () else .inr false):=by
   intro k
   induction k with
   | zero =>
    intro i hk hi _;obtain rfl:i=s.length:=by omega
    have e:cA (fun a b:UInt8=>!(a==32&&b==32)) (s.drop (s.length - 1))=true:=by
     cases hd:s.drop (s.length - 1) with
     | nil=>rfl
     | cons x m =>
      have:=congrArg List.length hd
      cases m with
      | nil=>rfl
      | cons _ _=>simp at this;omega
    rw [List.drop_length,e];rw [bK (e:=.inl ()) (by unfold oG;rw [if_neg (by omega)])];rfl
   | succ k ih =>
    intro i hk hi _;have hlt:i < s.length:=by omega
    have hx:s[i]?=some s[i]:=List.getElem?_eq_getElem hlt;have e2:s.drop i=s[i]::s.drop (i+1):=List.drop_eq_getElem_cons hlt;have hch:cA (fun a b:UInt8=>!(a==32&&b==32)) (s.drop (i - 1))=((if h:0 < i then !(s[i - 1]==32&&s[i]==32) else true)&&cA (fun a b:UInt8=>!(a==32&&b==32)) (s.drop i)):=by
     by_cases hi0:0 < i
     ·have e1:s.drop (i - 1)=s[i - 1]::s[i]::s.drop (i+1):=by
       rw [List.drop_eq_getElem_cons (by omega),show i - 1+1=i by omega,e2]
      rw [e1,e2,dif_pos hi0];rfl
     obtain rfl:i=0:=by omega
     simp
    have step:oG s i=some (if eL s[i]&&(if h:0 < i then !(s[i - 1]==32&&s[i]==32) else true) then .inl (i+1) else .inr (.inr false)):=by
     unfold oG;rw [if_pos (by omega),hx,Option.bind_some];by_cases hp:eL s[i]=true
     ·have hp':=hp;simp only [eL,decide_eq_true_eq] at hp';rw [if_neg (by omega),if_neg (by omega),if_neg (by omega),if_neg (by omega),if_neg (by omega),if_neg (by omega)];by_cases c:s[i]=32
      ·have hi0:0 < i:=by
        rcases Nat.eq_zero_or_pos i with h | h
        ·subst h;exact absurd c c0
        exact h
       have hy:s[i - 1]?=some s[i - 1]:=List.getElem?_eq_getElem (by omega);rw [if_pos ((rP _).2 c),bD (by omega),bD (by omega),show ((i:Int) - 1).toNat=i - 1 by omega,hy,Option.bind_some,Option.bind_some,dif_pos hi0];by_cases d:s[i - 1]=32
       ·rw [if_pos (by simpa using (rP _).2 d)];simp [c,d]
       rw [if_neg (by simp only [decide_eq_true_eq];exact fun h=>d ((rP _).1 h)),bD (by omega)];rw [c] at hp;simp [c,d,hp]
      rw [if_neg (fun h=>c ((rP _).1 h)),Option.bind_some,if_neg (by decide),bD (by omega)];simp [c,hp]
     have hp':=hp;simp only [eL,decide_eq_true_eq] at hp';simp only [hp,Bool.false_and,Bool.false_eq_true,if_false];have:∀ x:Option Bool,(if (s[i].toNat:Int) < 32 then some true else if 126 < (s[i].toNat:Int) then some true else if (s[i].toNat:Int)=44 then some true else if (s[i].toNat:Int)=58 then some true else if (s[i].toNat:Int)=59 then some true else if (s[i].toNat:Int)=61 then some true else x)=some true:=fun x=>by
      repeat' split
      all_goals first | rfl | omega
     rw [this];rfl
    rw [hch,e2,List.all_cons];by_cases hs:(eL s[i]&&(if h:0 < i then !(s[i - 1]==32&&s[i]==32) else true))=true
    ·rw [if_pos hs] at step;rw [bU step,ih (i+1) (by omega) (by omega) (fun _=>⟨_,hx⟩),show i+1 - 1=i by omega,e2];rw [Bool.and_eq_true] at hs;rw [hs.1,hs.2,Bool.true_and,Bool.true_and]
    rw [if_neg hs] at step;rw [bK step];have:(eL s[i]&&(s.drop (i+1)).all eL&&((if h:0 < i then !(s[i - 1]==32&&s[i]==32) else true)&&cA (fun a b:UInt8=>!(a==32&&b==32)) (s[i]::s.drop (i+1))))=false:=by
     rw [← Bool.not_eq_true,Bool.and_eq_true,Bool.and_eq_true,Bool.and_eq_true];rintro ⟨⟨a,_⟩,b,_⟩;exact hs (by rw [a,b];rfl)
    rw [this];rfl
  have hk:=key s.length 0 (by omega) (by omega) (fun h=>absurd h (by omega));simp only [List.drop_zero,Nat.zero_sub] at hk;rw [hk];unfold rR;simp only [h1,and_self,decide_true,Bool.true_and];cases s.all eL <;> cases cA (fun a b:UInt8=>!(a==32&&b==32)) s <;> simp [c0,c1]
 rw [if_neg (by simp;omega)];unfold dC;simp [h1]
end T11
namespace T11
open Go Go.Proofs Pk
theorem rS:∀ a b:aA,Op.bytesLess a b=decide (Lib.compareBytes a b < 0)
 | [],[]=>rfl
 | [],_::_=>rfl
 | _::_,[]=>rfl
 | x::a,y::b=>by
  unfold Op.bytesLess Lib.compareBytes;have ih:=rS a b;by_cases h1:x < y
  ·simp [h1]
  by_cases h2:y < x
  ·have hne:(x==y)=false:=by
    rw [beq_eq_false_iff_ne];rintro rfl;exact h1 h2
   simp [h1,h2,hne]
  have he:x=y:=by
   rw [UInt8.lt_iff_toNat_lt] at h1 h2;exact UInt8.toNat_inj.1 (by omega)
  simp [h1,h2,he,ih]
theorem e74 {s:aA} (h:s.length≤1073741824):PL s=some (iE s):=by
 unfold PL
 have h1:=oA s (σ:=List UInt8) (ε:=List UInt8) (fun _ x a=>.inl (a++kc x)) (fun a=>a) (fun i a=>a.length≤i) (step:=xI s) (fun i x a hi hx hI=>by
  unfold xI;rw [if_pos (show (i:Int) < (s.length:Int) by omega),hx,Option.bind_some];have:=UInt8.toNat_lt x;by_cases hu:65≤x.toNat∧x.toNat≤90
  ·have e:kc x=[UInt8.ofNat (x.toNat - 65+97)]:=by unfold kc;rw [if_pos hu]
   rw [if_pos (show (65:Int)≤(x.toNat:Int) by omega)];simp only [Option.bind_some];rw [if_pos (show decide ((x.toNat:Int)≤90)=true by simp;omega),bD (by omega),bD (by omega)];simp only [Option.bind_some];rw [if_pos (by omega)];rw [if_pos (by omega),Option.bind_some,if_pos rfl,bD (by omega),bD (by omega),Option.bind_some,bD (by omega),e];rcases LD (c:=x) with h | h
   ·rw [h]
   omega
  ·have e0:((if (65:Int)≤(x.toNat:Int) then some (decide ((x.toNat:Int)≤90)) else some false):Option Bool)=some false:=by
    split
    ·congr 1;simp;omega
    rfl
   rw [e0,Option.bind_some];simp only [Bool.false_eq_true,if_false,Option.bind_some];by_cases hl:97≤x.toNat∧x.toNat≤122∨48≤x.toNat∧x.toNat≤57
   ·have e:kc x=[x]:=by unfold kc;rw [if_neg hu,if_pos hl]
    have e1:((if (97:Int)≤(x.toNat:Int) then if (x.toNat:Int)≤122 then some true else if (48:Int)≤(x.toNat:Int) then some (decide ((x.toNat:Int)≤57)) else some false else if (48:Int)≤(x.toNat:Int) then some (decide ((x.toNat:Int)≤57)) else some false):Option Bool)=some true:=by
     repeat' split
     all_goals first | rfl | (congr 1;simp;omega) | omega
    rw [e1];simp only [Option.bind_some,if_true];rw [bD (by omega),bD (by omega)];simp only [Option.bind_some];rw [bD (by omega),e];simp
   have e:kc x=[]:=by unfold kc;rw [if_neg hu,if_neg hl]
   have e1:((if (97:Int)≤(x.toNat:Int) then if (x.toNat:Int)≤122 then some true else if (48:Int)≤(x.toNat:Int) then some (decide ((x.toNat:Int)≤57)) else some false else if (48:Int)≤(x.toNat:Int) then some (decide ((x.toNat:Int)≤57)) else some false):Option Bool)=some false:=by
    repeat' split
    all_goals first | rfl | (congr 1;simp;omega) | omega
   rw [e1];simp only [Option.bind_some,Bool.false_eq_true,if_false]
   rw [bD (by omega),e,List.append_nil])
  (fun i x a a' hi hx hI hg=>by
   have:=FX x;cases hg
   simp only [List.length_append];omega)
  (fun a hI=>by unfold xI;simp) (a0:=([]:List UInt8)) (Nat.le_refl 0)
 rw [h1,vL];rfl
theorem JF {a b:aA} (ha:a.length≤1073741824) (hb:b.length≤1073741824):IW a b=some (bT a b):=by
 unfold IW;rw [e74 ha,Option.bind_some,e74 hb,Option.bind_some,rS,rS];unfold bT kM;by_cases h:iE a=iE b
 ·rw [if_neg (by simpa using h),h,kX];simp
 have:Lib.compareBytes (iE a) (iE b)≠0:=fun e=>h (mT e);rw [if_pos h,if_pos this]
theorem FY {s:aA} (h:dC s=true):1≤s.length∧s.length≤40:=by
 unfold dC at h;simp only [Bool.and_eq_true,decide_eq_true_eq] at h;exact h.1.1.1.1
theorem fM {s:aA} (h:dC s=true):s.length≤1073741824:=by have:=FY h;omega
def pU (l:List aA):Bool:=decide (l.length≤8)&&(l.all dC&&cA bT l)
theorem DU {l:List aA}:cA bT l=true↔l.Pairwise fB:=mW fun x _ y _ z _=>gH
theorem FZ {l:List aA}:pU l=true↔JE l:=by
 unfold pU JE;rw [Bool.and_eq_true,Bool.and_eq_true,decide_eq_true_eq,List.all_eq_true,DU]
theorem e80 (l:List aA):BN l jB=some (l.all dC):=by
 have h:BN l jB=wY l jB:=rfl;rw [h];exact gA dC fun s _=>TF s
theorem aA5 {l:List aA} (h:∀ s∈l,dC s=true):rI l sK=some (cA bT l):=by
 have h0:rI l sK=yB l sK:=rfl;rw [h0];exact lX bT fun x hx y hy=>rP (fM (h x hx)) (fM (h y hy))
theorem TI (l:List aA):oE l=some (pU l):=by
 unfold oE pU;by_cases h:l.length≤8
 ·rw [if_pos (by omega),e80,Option.bind_some,decide_eq_true h]
  cases h2:l.all dC with
  | false=>simp
  | true=>rw [if_pos rfl,aA5 (by simpa using h2)];simp
 rw [if_neg (by omega),decide_eq_false h];rfl
theorem TJ (l:List aA):DP l=some (pU l):=by
 unfold DP;have key:∀ k i,l.length - i=k→i≤l.length→(0 < i→∀ s,l[i - 1]?=some s→dC s=true)→aX (oH l) i=some (if (l.drop i).all dC&&cA bT (l.drop (i - 1)) then .inl () else .inr false):=by
  intro k
  induction k with
  | zero =>
   intro i hk hi _;obtain rfl:i=l.length:=by omega
   have e:cA bT (l.drop (l.length - 1))=true:=by
    cases hd:l.drop (l.length - 1) with
    | nil=>rfl
    | cons x m =>
     have:=congrArg List.length hd
     cases m with
     | nil=>rfl
     | cons _ _=>simp at this;omega
   rw [List.drop_length,e];rw [bK (e:=.inl ()) (by unfold oH;rw [if_neg (by omega)])];rfl
  | succ k ih =>
   intro i hk hi hp;have hlt:i < l.length:=by omega
   have hx:l[i]?=some l[i]:=List.getElem?_eq_getElem hlt;have e2:l.drop i=l[i]::l.drop (i+1):=List.drop_eq_getElem_cons hlt;have hch:cA bT (l.drop (i - 1))=((if h:0 < i then bT l[i - 1] l[i] else true)&&cA bT (l.drop i)):=by
    by_cases hi0:0 < i
    ·have e1:l.drop (i - 1)=l[i - 1]::l[i]::l.drop (i+1):=by
      rw [List.drop_eq_getElem_cons (by omega),show i - 1+1=i by omega,e2]
     rw [e1,e2,dif_pos hi0];rfl
    obtain rfl:i=0:=by omega
    simp
   have step:oH l i=some (if dC l[i]&&(if h:0 < i then bT l[i - 1] l[i] else true) then .inl (i+1) else .inr (.inr false)):=by
    unfold oH;rw [if_pos (by omega),hx,Option.bind_some,TH,Option.bind_some]
    cases hn:dC l[i] with
    | false=>simp
    | true =>
     rw [if_pos rfl];by_cases hi0:0 < i
     ·have hy:l[i - 1]?=some l[i - 1]:=List.getElem?_eq_getElem (by omega);rw [if_pos (by omega),show ((i:Int) - 1).toNat=i - 1 by omega,hy,Option.bind_some,JF (fM (hp hi0 _ hy)) (fM hn),dif_pos hi0];cases bT l[i - 1] l[i] <;> rfl
     rw [if_neg (by omega),dif_neg hi0];rfl
   rw [hch,e2,List.all_cons];by_cases hs:(dC l[i]&&(if h:0 < i then bT l[i - 1] l[i] else true))=true
   ·rw [if_pos hs] at step;rw [Bool.and_eq_true] at hs
    rw [bU step,ih (i+1) (by omega) (by omega) (fun _ s he=>by
     rw [show i+1 - 1=i by omega,hx] at he;cases he;exact hs.1),show i+1 - 1=i by omega,e2]
    rw [hs.1,hs.2,Bool.true_and,Bool.true_and]
   rw [if_neg hs] at step;rw [bK step];have:(dC l[i]&&(l.drop (i+1)).all dC&&((if h:0 < i then bT l[i - 1] l[i] else true)&&cA bT (l[i]::l.drop (i+1))))=false:=by
    rw [← Bool.not_eq_true,Bool.and_eq_true,Bool.and_eq_true,Bool.and_eq_true];rintro ⟨⟨a,_⟩,b,_⟩;exact hs (by rw [a,b];rfl)
   rw [this];rfl
 have hk:=key l.length 0 (by omega) (by omega) (fun h=>absurd h (by omega));simp only [List.drop_zero,Nat.zero_sub] at hk;rw [hk];unfold pU;by_cases h:l.length≤8
 ·rw [decide_eq_true h];cases h2:(l.all dC&&cA bT l) <;> simp <;> omega
 rw [decide_eq_false h];cases h2:(l.all dC&&cA bT l) <;> simp <;> omega
def iN (p q:aI):Bool:=decide (dF p q)
def tS (l:List aI):Bool:=l.all (fun p=>decide (eB p))&&cA iN l
theorem iO {p q r:aI} (hq:eB q) (h1:dF p q) (h2:dF q r):dF p r:=by
 unfold dF at *;unfold eB at hq;omega
theorem fR {p q:aI}:iN p q=true↔dF p q:=by unfold iN;exact decide_eq_true_iff
theorem tT {l:List aI} (ho:∀ p∈l,eB p):cA iN l=true↔l.Pairwise dF:=by
 rw [mW (p:=iN) fun x hx y hy z hz a b=>fR.2 (iO (ho y hy) (fR.1 a) (fR.1 b))];exact ⟨fun h=>h.imp fR.1,fun h=>h.imp fR.2⟩
theorem DV {l:List aI}:tS l=true↔eC l:=by
 unfold tS;rw [Bool.and_eq_true,List.all_eq_true];constructor
 ·rintro ⟨h1,h2⟩;have ho:∀ p∈l,eB p:=fun p hp=>of_decide_eq_true (h1 p hp);exact ⟨ho,(tT ho).1 h2⟩
 intro h;exact ⟨fun p hp=>decide_eq_true (h.ok p hp),(tT h.ok).2 h.gap⟩
theorem aA6 (p:aI):lE p=some (decide (eB p)):=by
 unfold lE;rw [PX,Option.bind_some];by_cases h1:1≤p.aJ∧p.aJ≤999
 ·rw [if_pos (by simpa using h1),PX,Option.bind_some];by_cases h2:1≤p.aW∧p.aW≤p.cL
  ·rw [if_pos (by simpa using h2),Option.bind_some];congr 1;rw [Bool.eq_iff_iff,decide_eq_true_eq,decide_eq_true_eq];unfold eB;omega
  rw [if_neg (by simpa using h2),Option.bind_some,decide_eq_false (show ¬eB p by unfold eB;omega)]
 rw [if_neg (by simpa using h1),Option.bind_some,decide_eq_false (show ¬eB p by unfold eB;omega)]
theorem e96 {p:aI} (q:aI) (h:eB p):vY p q=some (iN p q):=by
 unfold vY;unfold eB at h;by_cases h1:p.aJ < q.aJ
 ·rw [if_pos h1,fR.2 (by unfold dF;omega)];rfl
 rw [if_neg h1];by_cases h2:p.aJ=q.aJ
 ·rw [if_pos h2,bD (by omega),Option.bind_some];congr 1;rw [Bool.eq_iff_iff,decide_eq_true_eq,fR];unfold dF;omega
 rw [if_neg h2,Option.bind_some];congr 1;symm;rw [← Bool.not_eq_true,fR];unfold dF;omega
theorem AF {p q:aI} (h:¬dF p q):iN p q=false:=by rw [← Bool.not_eq_true,fR];exact h
theorem aA7 (l:List aI):rK l lE=some (l.all fun p=>decide (eB p)):=by
 have h:rK l lE=wY l lE:=rfl;rw [h];exact gA _ fun p _=>aA6 p
theorem aA8 {l:List aI} (h:∀ p∈l,eB p):rL l vY=some (cA iN l):=by
 have h0:rL l vY=yB l vY:=rfl;rw [h0];exact lX iN fun x hx y hy=>e96 y (h x hx)
theorem aA9 (l:List aI):FS l=some (tS l):=by
 unfold FS;have key:∀ k i,l.length - i=k→i≤l.length→(0 < i→∀ s,l[i - 1]?=some s→eB s)→aX (oI l) i=some (if (l.drop i).all (fun p=>decide (eB p))&&cA iN (l.drop (i - 1)) then .inl () else .inr false):=by
  intro k
  induction k with
  | zero =>
   intro i hk hi _;obtain rfl:i=l.length:=by omega
   have e:cA iN (l.drop (l.length - 1))=true:=by
    cases hd:l.drop (l.length - 1) with
    | nil=>rfl
    | cons x m =>
     have:=congrArg List.length hd
     cases m with
     | nil=>rfl
     | cons _ _=>simp at this;omega
   rw [List.drop_length,e];rw [bK (e:=.inl ()) (by unfold oI;rw [if_neg (by omega)])];rfl
  | succ k ih =>
   intro i hk hi hp;have hlt:i < l.length:=by omega
   have hx:l[i]?=some l[i]:=List.getElem?_eq_getElem hlt;have e2:l.drop i=l[i]::l.drop (i+1):=List.drop_eq_getElem_cons hlt;have hch:cA iN (l.drop (i - 1))=((if h:0 < i then iN l[i - 1] l[i] else true)&&cA iN (l.drop i)):=by
    by_cases hi0:0 < i
    ·have e1:l.drop (i - 1)=l[i - 1]::l[i]::l.drop (i+1):=by
      rw [List.drop_eq_getElem_cons (by omega),show i - 1+1=i by omega,e2]
     rw [e1,e2,dif_pos hi0];rfl
    obtain rfl:i=0:=by omega
    simp
   have step:oI l i=some (if decide (eB l[i])&&(if h:0 < i then iN l[i - 1] l[i] else true) then .inl (i+1) else .inr (.inr false)):=by
    unfold oI;rw [if_pos (by omega),hx,Option.bind_some,WI,Option.bind_some];by_cases ho:eB l[i]
    ·have ho':=ho;unfold eB at ho';rw [if_pos (by simp;omega),WI,Option.bind_some,if_pos (by simp;omega),Option.bind_some,if_neg (by simp;omega),decide_eq_true ho];by_cases hi0:0 < i
     ·have hy:l[i - 1]?=some l[i - 1]:=List.getElem?_eq_getElem (by omega);have hp':=hp hi0 _ hy;unfold eB at hp';rw [if_pos (by omega),show ((i:Int) - 1).toNat=i - 1 by omega,hy,Option.bind_some,dif_pos hi0];by_cases v1:l[i].aJ < l[i - 1].aJ
      ·rw [if_pos v1,Option.bind_some,if_pos rfl,AF (by unfold dF;omega)];rfl
      rw [if_neg v1];by_cases v2:l[i].aJ=l[i - 1].aJ
      ·rw [if_pos v2,bD (by omega),Option.bind_some];by_cases v3:l[i].aW≤l[i - 1].cL+1
       ·rw [if_pos (by simpa using v3),AF (by unfold dF;omega)];rfl
       rw [if_neg (by simpa using v3),fR.2 (by unfold dF;omega)];rfl
      rw [if_neg v2,Option.bind_some,if_neg (by decide),fR.2 (by unfold dF;omega)];rfl
     rw [if_neg (by omega),dif_neg hi0];rfl
    have:((if decide (1≤l[i].aJ∧l[i].aJ≤999) then (KZ l[i].aW 1 l[i].cL).bind fun r0=>if r0 then some (decide (9999 < l[i].cL)) else some true else some true):Option Bool)=some true:=by
     unfold eB at ho;by_cases v1:1≤l[i].aJ∧l[i].aJ≤999
     ·rw [if_pos (by simpa using v1),WI,Option.bind_some];by_cases v2:1≤l[i].aW∧l[i].aW≤l[i].cL
      ·rw [if_pos (by simpa using v2)];congr 1;rw [decide_eq_true_eq];omega
      rw [if_neg (by simpa using v2)]
     rw [if_neg (by simpa using v1)]
    rw [this,decide_eq_false ho];rfl
   rw [hch,e2,List.all_cons];by_cases hs:(decide (eB l[i])&&(if h:0 < i then iN l[i - 1] l[i] else true))=true
   ·rw [if_pos hs] at step;rw [Bool.and_eq_true] at hs
    rw [bU step,ih (i+1) (by omega) (by omega) (fun _ s he=>by
     rw [show i+1 - 1=i by omega,hx] at he;cases he;exact of_decide_eq_true hs.1),show i+1 - 1=i by omega,e2]
    rw [hs.1,hs.2,Bool.true_and,Bool.true_and]
   rw [if_neg hs] at step;rw [bK step];have:(decide (eB l[i])&&(l.drop (i+1)).all (fun p=>decide (eB p))&&((if h:0 < i then iN l[i - 1] l[i] else true)&&cA iN (l[i]::l.drop (i+1))))=false:=by
    rw [← Bool.not_eq_true,Bool.and_eq_true,Bool.and_eq_true,Bool.and_eq_true];rintro ⟨⟨a,_⟩,b,_⟩;exact hs (by rw [a,b];rfl)
   rw [this];rfl
 have hk:=key l.length 0 (by omega) (by omega) (fun h=>absurd h (by omega));simp only [List.drop_zero,Nat.zero_sub] at hk;rw [hk];unfold tS;cases h2:(l.all (fun p=>decide (eB p))&&cA iN l) <;> simp
def BW (h:aB):Bool:=dC h.name&&(pU h.aC&&(pU h.aM&&(decide (h.aG.length≤30)&&tS h.aG)))
theorem qD {h:aB}:BW h=true↔Rt h:=by
 unfold BW Rt;simp only [Bool.and_eq_true,decide_eq_true_eq,FZ,DV]
theorem e78 (h:aB):yW h=some (BW h):=by
 unfold yW BW;rw [TF,Option.bind_some]
 cases dC h.name with
 | false=>rfl
 | true =>
  rw [if_pos rfl,TI,Option.bind_some]
  cases pU h.aC with
  | false=>rfl
  | true =>
   rw [if_pos rfl,TI,Option.bind_some]
   cases pU h.aM with
   | false=>rfl
   | true =>
    rw [if_pos rfl];by_cases hl:h.aG.length≤30
    ·rw [if_pos (by omega),aA7,Option.bind_some,decide_eq_true hl];unfold tS
     cases h2:h.aG.all (fun p=>decide (eB p)) with
     | false=>rfl
     | true =>
      rw [if_pos rfl,aA8 (fun p hp=>by
       have:=List.all_eq_true.1 h2 p hp
       exact of_decide_eq_true this)]
      rfl
    rw [if_neg (by omega),decide_eq_false hl];rfl
theorem e64 (h:aB):RU h=some (BW h):=by
 unfold RU BW;rw [TH,Option.bind_some]
 cases dC h.name with
 | false=>rfl
 | true =>
  rw [if_pos rfl,TJ,Option.bind_some]
  cases pU h.aC with
  | false=>rfl
  | true =>
   rw [if_pos rfl,TJ,Option.bind_some]
   cases pU h.aM with
   | false=>rfl
   | true =>
    rw [if_pos rfl];by_cases hl:h.aG.length≤30
    ·rw [if_pos (by omega),aA9,decide_eq_true hl];rfl
    rw [if_neg (by omega),decide_eq_false hl];rfl
theorem e77 (l:List aB):zY l yW=some (l.all BW):=by
 have h:zY l yW=wY l yW:=rfl;rw [h];exact gA BW fun h _=>e78 h
end T11
namespace T11
open Go Go.Proofs Pk
section
variable {α ε:Type}
theorem mZ {g:Nat→α→Option ε} {out:ε}:∀ {l:List α} {k:Nat},(∀ j x,l[j]?=some x→g (k+j) x=none)→uQ g out l k=out
 | [],_,_=>rfl
 | x::l,k,h=>by
  have h0:=h 0 x rfl;simp only [Nat.add_zero] at h0;simp only [uQ,h0];refine mZ fun j y hy=>?_;have:=h (j+1) y (by simpa using hy)
  rwa [show k+(j+1)=k+1+j by omega] at this
theorem qE {g:Nat→α→Option ε} {out e:ε} (he:∀ j x e',g j x=some e'→e'=e):∀ {l:List α} {k:Nat},(∃ j x,l[j]?=some x∧g (k+j) x≠none)→uQ g out l k=e
 | [],_,⟨j,x,h,_⟩=>by simp at h
 | x::l,k,⟨j,y,hy,hg⟩=>by
  simp only [uQ]
  cases hc:g k x with
  | some e'=>exact he _ _ _ hc
  | none =>
   refine qE he ?_
   cases j with
   | zero=>simp at hy;subst hy;exact absurd hc hg
   | succ j=>exact ⟨j,y,by simpa using hy,by rwa [show k+1+j=k+(j+1) by omega]⟩
theorem rT {p:α→α→Bool}:∀ {l:List α},cA p l=true↔∀ i x y,l[i]?=some x→l[i+1]?=some y→p x y=true
 | []=>by simp [cA]
 | [x]=>by simp [cA]
 | x::y::l=>by
  have ih:=rT (p:=p) (l:=y::l);simp only [cA,Bool.and_eq_true];rw [ih];constructor
  ·rintro ⟨h1,h2⟩ i a b ha hb
   cases i with
   | zero=>simp at ha hb;rw [← ha,← hb];exact h1
   | succ i=>exact h2 i a b (by simpa using ha) (by simpa using hb)
  intro h;exact ⟨h 0 x y rfl rfl,fun i a b ha hb=>h (i+1) a b (by simpa using ha) (by simpa using hb)⟩
end
theorem iP {l:List aB}:mV l↔cA (fun a b=>bT a.name b.name) l=true:=(mW (p:=fun a b:aB=>bT a.name b.name) (l:=l) fun x _ y _ z _ h1 h2=>gH (a:=x.name) (b:=y.name) (c:=z.name) h1 h2).symm
def lF (s:aA) (h:aB):Bool:=decide (s∈aY h)
theorem gI {s:aA} {h:aB}:lF s h=true↔s∈aY h:=by unfold lF;exact decide_eq_true_iff
def nI (l:List aB) (s:aA):Int:=if l.any (lF s) then ((l.findIdx (lF s):Nat):Int) else -1
theorem LF (l:List aA) (s:aA):LB l s=some (decide (s∈l)):=by
 have h1:=jQ l (ε:=Unit⊕Bool) (fun _ x=>if x=s then some (.inr true) else none) (.inl ()) (step:=xJ l s) (fun i x hi hx=>by
  unfold xJ;rw [if_pos (by omega),hx,Option.bind_some];by_cases h:x=s
  ·rw [if_pos h,if_pos h]
  rw [if_neg h,if_neg h]) (by unfold xJ;rw [if_neg (by omega)])
 unfold LB;rw [h1,Option.bind_some];by_cases h:s∈l
 ·obtain ⟨j,hj⟩:=List.getElem?_of_mem h
  rw [qE (e:=.inr true) (fun j x e' h=>by
   split at h
   ·exact (Option.some.inj h).symm
   cases h) ⟨j,s,hj,by simp⟩,decide_eq_true h]
 rw [mZ (fun j x hx=>by
  rw [if_neg];rintro rfl;exact h (List.mem_of_getElem? hx)),decide_eq_false h]
theorem LG {h:aB} (hv:h.aC.length≤1073741823):LA h=some (aY h):=by
 unfold LA;rw [bD (by simp;omega)];rfl
theorem e41 {l:List aB} (hv:∀ h∈l,h.aC.length≤1073741823) (s:aA):PM l s=some (nI l s):=by
 unfold PM
 rw [jQ (ε:=Unit⊕Int) l (fun j x=>if lF s x then some (.inr (j:Int)) else none) (.inl ()) (fun i x hi hx=>by
  unfold BS;rw [if_pos (by omega),hx,Option.bind_some,LG (hv x (List.mem_of_getElem? hx)),Option.bind_some,LF,Option.bind_some];unfold lF
  by_cases h:s∈aY x <;> simp [h]) (by unfold BS;simp),uR]
 unfold nI;by_cases h:l.any (lF s)=true
 ·rw [if_pos h,if_pos h,Option.bind_some];congr 1;simp
 rw [if_neg h,if_neg h];rfl
theorem GB {l:List aB} {s:aA} (h:nI l s < 0):∀ k∈l,s∉aY k:=by
 unfold nI at h
 split at h
 ·omega
 rename_i hn
 intro k hk hs;exact hn (List.any_eq_true.2 ⟨k,hk,gI.2 hs⟩)
theorem iF {l:List aB} {s:aA} (h:0≤nI l s):∃ k,l[(nI l s).toNat]?=some k∧s∈aY k∧nI l s=((nI l s).toNat:Int):=by
 unfold nI at h ⊢
 split
 ·rename_i ha
  have hlt:=List.findIdx_lt_length_of_exists (List.any_eq_true.1 ha);refine ⟨l[l.findIdx (lF s)],?_,gI.1 List.findIdx_getElem,by simp⟩;simp only [Int.toNat_natCast];exact List.getElem?_eq_getElem hlt
 rename_i ha;rw [if_neg ha] at h;omega
theorem BX {l:List aB} {s:aA} {k:aB} (hk:k∈l) (hs:s∈aY k):0≤nI l s:=by
 unfold nI;rw [if_pos (List.any_eq_true.2 ⟨k,hk,gI.2 hs⟩)];omega
theorem iQ {l:List aA} {x:aA} (h:l.Nodup) (hx:x∉l):(l++[x]).Nodup:=by
 rw [List.nodup_append];exact ⟨h,by simp,fun a ha b hb=>by simp at hb;subst hb;rintro rfl;exact hx ha⟩
open Classical in
theorem tU {ε:Type} (out:List aA→ε) (e:ε):∀ (l acc:List aA) (i:Nat),acc.Nodup→zQ (σ:=List aA) (fun _ x a=>if x∈a then .inr e else .inl (a++[x])) out l i acc=if (acc++l).Nodup then out (acc++l) else e
 | [],acc,i,h=>by rw [iL,List.append_nil,if_pos h]
 | x::l,acc,i,h=>by
  rw [gG];by_cases hx:x∈acc
  ·rw [if_pos hx];simp only;rw [if_neg];intro hn;rw [List.nodup_append] at hn;exact hn.2.2 x hx x List.mem_cons_self rfl
  rw [if_neg hx];simp only;rw [tU out e l (acc++[x]) (i+1) (iQ h hx),List.append_assoc];rfl
theorem fK {l:List aB} (h:∀ x∈l,x.aC.length≤8):(l.flatMap aY).length≤9*l.length:=by
 induction l with
 | nil=>simp
 | cons x l ih =>
  have h1:=h x List.mem_cons_self;have h2:=ih fun y hy=>h y (List.mem_cons_of_mem _ hy);simp only [List.flatMap_cons,List.length_append,List.length_cons,aY];omega
open Classical in
theorem GC {l:List aB} (hl:l.length≤60) (hv:∀ x∈l,x.aC.length≤8):aX (rM l) (0,([]:List aA))=some (if (l.flatMap aY).Nodup then .inl (l.flatMap aY) else .inr 6):=by
 have step:∀ i x a,i < l.length→l[i]?=some x→a.Nodup∧a.length≤9*i→rM l (i,a)=some (if (a++aY x).Nodup then .inl (i+1,a++aY x) else .inr (.inr 6)):=by
  rintro i x a hi hx ⟨hn,ha⟩;have hvx:=hv x (List.mem_of_getElem? hx);unfold rM;rw [if_pos (show (i:Int) < (l.length:Int) by omega),hx,Option.bind_some,LG (by omega),Option.bind_some]
  have h3:=oA (aY x) (σ:=List aA) (ε:=(List aA)⊕((Nat×List aA)⊕((List aA)⊕Int))) (fun _ x a=>if x∈a then .inr (.inr (.inr (.inr 6))) else .inl (a++[x])) (fun a=>.inl a) (fun j b=>b.length=a.length+j) (step:=xL (aY x)) (fun j y b hj hy hb=>by
   unfold xL;have:(aY x).length=1+x.aC.length:=by simp [aY];omega
   rw [if_pos (show (j:Int) < ((aY x).length:Int) by omega),hy,Option.bind_some,LF,Option.bind_some];by_cases hm:y∈b
   ·simp [hm]
   ·simp only [hm,decide_false,Bool.false_eq_true,if_false]
    rw [bD (by omega)])
   (fun j y b b' hj hy hb hg=>by
    split at hg
    ·cases hg
    cases hg;simp;omega)
   (fun b hb=>by unfold xL;simp) (a0:=a) (by simp)
  rw [h3,tU _ _ _ _ _ hn];by_cases hnd:(a++aY x).Nodup
  ·rw [if_pos hnd,if_pos hnd];rfl
  rw [if_neg hnd,if_neg hnd];rfl
 have key:∀ k i a,l.length - i=k→i≤l.length→a.Nodup→a.length≤9*i→aX (rM l) (i,a)=some (if (a++(l.drop i).flatMap aY).Nodup then .inl (a++(l.drop i).flatMap aY) else .inr 6):=by
  intro k
  induction k with
  | zero =>
   intro i a hk hi hn ha;obtain rfl:i=l.length:=by omega
   rw [List.drop_length,List.flatMap_nil,List.append_nil,if_pos hn];exact bK (by unfold rM;simp)
  | succ k ih =>
   intro i a hk hi hn ha;have hlt:i < l.length:=by omega
   have hx:l[i]?=some l[i]:=List.getElem?_eq_getElem hlt;have hvx:=hv l[i] (List.getElem_mem hlt);have hs:=step i _ a hlt hx ⟨hn,ha⟩;rw [List.drop_eq_getElem_cons hlt,List.flatMap_cons,← List.append_assoc];by_cases hnd:(a++aY l[i]).Nodup
   ·rw [if_pos hnd] at hs;rw [bU hs,ih (i+1) _ (by omega) (by omega) hnd (by simp [aY];omega)]
   rw [if_neg hnd] at hs;rw [bK hs,if_neg];intro hc;rw [List.nodup_append] at hc;exact hnd hc.1
 have:=key l.length 0 [] (by omega) (by omega) List.nodup_nil (by simp);simpa using this
noncomputable def AG (l:List aB) (i:Nat) (s:aA):Bool:=@decide (0≤nI l s∧nI l s≠(i:Int)∧∃ k,l[(nI l s).toNat]?=some k∧k.name=s) (Classical.propDecidable _)
theorem kY {l:List aB} {i:Nat} {s:aA}:AG l i s=true↔0≤nI l s∧nI l s≠(i:Int)∧∃ k,l[(nI l s).toNat]?=some k∧k.name=s:=by
 unfold AG;exact @decide_eq_true_iff _ (Classical.propDecidable _)
theorem AH {l:List aB} (hv:∀ x∈l,x.aC.length≤8) {i:Nat} {x:aB} (hx:l[i]?=some x):aX (xM l i) 0=some (if x.aM.all (AG l i) then .inl () else .inr (.inr (.inr 1))):=by
 have hv':∀ x∈l,x.aC.length≤1073741823:=fun y hy=>by have:=hv y hy;omega
 refine eY (ε:=Unit⊕(Nat⊕(Unit⊕Int))) x.aM (AG l i) (.inr (.inr (.inr 1))) (.inl ()) (fun j s hj hs=>?_) ?_
 ·unfold xM;rw [hx,Option.bind_some,if_pos (by omega),hs,Option.bind_some,e41 hv',Option.bind_some];by_cases h1:nI l s < 0
  ·have:AG l i s=false:=by rw [← Bool.not_eq_true,kY];omega
   rw [if_pos h1,this];rfl
  rw [if_neg h1];by_cases h2:nI l s=(i:Int)
  ·have:AG l i s=false:=by rw [← Bool.not_eq_true,kY];rintro ⟨_,h,_⟩;exact h h2
   rw [if_pos h2,this];rfl
  obtain ⟨k,hk,_,_⟩:=iF (l:=l) (s:=s) (by omega);rw [if_neg h2,bD (by omega),hk,Option.bind_some,Option.bind_some];by_cases h3:k.name=s
  ·have:AG l i s=true:=kY.2 ⟨by omega,h2,k,hk,h3⟩;rw [this];simp [h3]
  have:AG l i s=false:=by
   rw [← Bool.not_eq_true,kY];rintro ⟨_,_,k',hk',e⟩;rw [hk] at hk';cases hk';exact h3 e
  rw [this];simp [h3]
 unfold xM;rw [hx,Option.bind_some,if_neg (by omega)]
theorem BY {l:List aB} (hn:(l.flatMap aY).Nodup):(∀ (i:Nat) (x:aB),l[i]?=some x→x.aM.all (AG l i)=true)↔pK l:=by
 constructor
 ·intro h x hx s hs;obtain ⟨i,hi⟩:=List.getElem?_of_mem hx;obtain ⟨h1,h2,k,hk,e⟩:=kY.1 (List.all_eq_true.1 (h i x hi) s hs);have hkl:=List.mem_of_getElem? hk;refine ⟨fun e'=>h2 ?_,k,hkl,e⟩;obtain ⟨k',hk',hs',e3⟩:=iF h1;have:k'=x:=mX hn (List.mem_of_getElem? hk') hx hs' (e'▸bG x);rw [hk] at hk';cases hk';subst this;rw [e3];congr 1;have hnn:(l.map fun y=>y.name).Nodup:=by
   clear h hi hk h1 h2 e3 hs hx hkl hs'
   induction l with
   | nil=>simp
   | cons y l ih =>
    rw [List.flatMap_cons,List.nodup_append] at hn;rw [List.map_cons,List.nodup_cons];refine ⟨fun hm=>?_,ih hn.2.1⟩;obtain ⟨z,hz,e⟩:=List.mem_map.1 hm;exact hn.2.2 y.name (bG y) y.name (List.mem_flatMap.2 ⟨z,hz,e▸bG z⟩) rfl
  have hl:=(List.getElem?_eq_some_iff.1 hi).1;have hl2:=(List.getElem?_eq_some_iff.1 hk).1;exact (List.getElem?_inj (by simpa using hl2) hnn).1 (by rw [List.getElem?_map,List.getElem?_map,hk,hi])
 intro h i x hx;rw [List.all_eq_true];intro s hs;obtain ⟨h1,k,hk,e⟩:=h x (List.mem_of_getElem? hx) s hs;have hp:=BX (l:=l) hk (e▸bG k);obtain ⟨k',hk',hs',e3⟩:=iF hp;have:k'=k:=mX hn (List.mem_of_getElem? hk') hk hs' (e▸bG k);subst this;refine kY.2 ⟨hp,fun e4=>?_,k',hk',e⟩;have:(nI l s).toNat=i:=by omega
 rw [this,hx] at hk';cases hk';exact h1 e.symm
open Classical in
noncomputable def gF (l:List aB) (i:Nat) (x:aB):Option (Unit⊕Int):=if (∀ y,0 < i→l[i - 1]?=some y→bT y.name x.name=true)∧x.aM.all (AG l i)=true then none else some (.inr 1)
theorem vO {l:List aB} {i:Nat} {x:aB}:gF l i x=none↔(∀ y,0 < i→l[i - 1]?=some y→bT y.name x.name=true)∧x.aM.all (AG l i)=true:=by
 unfold gF
 split
 ·rename_i h;exact ⟨fun _=>h,fun _=>rfl⟩
 rename_i h;exact ⟨fun e=>(by cases e),fun h'=>absurd h' h⟩
theorem qF {l:List aB} {i:Nat} {x:aB} (h:¬((∀ y,0 < i→l[i - 1]?=some y→bT y.name x.name=true)∧x.aM.all (AG l i)=true)):gF l i x=some (.inr 1):=by
 unfold gF;rw [if_neg h]
open Classical in
theorem e26 (l:List aB):PN l=some (cE l):=by
 unfold PN cE;by_cases h1:60 < l.length
 ·rw [if_pos (by omega),if_pos h1]
 rw [if_neg (by omega),if_neg h1]
 have hall:=eY l BW (.inr 1) (.inl ()) (step:=xK l) (fun i x hi hx=>by
  unfold xK;rw [if_pos (by omega),hx,Option.bind_some,e64,Option.bind_some]
  cases BW x <;> rfl) (by unfold xK;simp)
 rw [hall];by_cases h2:∀ h∈l,Rt h
 ·have hb:l.all BW=true:=List.all_eq_true.2 fun h hh=>qD.2 (h2 h hh);have hv:∀ x∈l,x.aC.length≤8:=fun x hx=>(h2 x hx).2.1.1;rw [hb,if_pos rfl,Option.bind_some,GC (by omega) hv,if_neg (show ¬ ¬∀ h∈l,Rt h from fun h=>h h2)];by_cases h3:(l.flatMap aY).Nodup
  ·rw [if_pos h3,if_neg (show ¬ ¬(l.flatMap aY).Nodup from fun h=>h h3)];simp only [Option.bind_some];have hstep:∀ i x,i < l.length→l[i]?=some x→xN l i=some (match gF l i x with | none=>.inl (i+1) | some e=>.inr e):=by
    intro i x hi hx;have ha:=AH hv hx;unfold xN;rw [if_pos (by omega)];by_cases hi0:0 < i
    ·have hy:l[i - 1]?=some l[i - 1]:=List.getElem?_eq_getElem (by omega);rw [if_pos (by omega),show ((i:Int) - 1).toNat=i - 1 by omega,hy,Option.bind_some,hx,Option.bind_some,JF (fM (h2 _ (List.mem_of_getElem? hy)).1) (fM (h2 x (List.mem_of_getElem? hx)).1),Option.bind_some,Option.bind_some]
     cases hb:bT l[i - 1].name x.name with
     | false =>
      rw [qF (fun h=>by
       have:=h.1 _ hi0 hy
       rw [hb] at this;cases this)]
      rfl
     | true =>
      rw [if_neg (by decide),ha];by_cases hc:x.aM.all (AG l i)=true
      ·rw [if_pos hc,vO.2 ⟨fun y _ h=>by rw [hy] at h;cases h;exact hb,hc⟩];rfl
      rw [if_neg hc,qF (fun h=>hc h.2)];rfl
    rw [if_neg (by omega),Option.bind_some,if_neg (by decide),ha];by_cases hc:x.aM.all (AG l i)=true
    ·rw [if_pos hc,vO.2 ⟨fun y h=>absurd h hi0,hc⟩];rfl
    rw [if_neg hc,qF (fun h=>hc h.2)];rfl
   rw [jQ (ε:=Unit⊕Int) l (gF l) (.inl ()) (fun i x hi hx=>by rw [hstep i x hi hx];cases gF l i x <;> rfl) (by unfold xN;rw [if_neg (by omega)])];by_cases h4:pK l∧mV l
   ·rw [if_neg (show ¬ ¬(pK l∧mV l) from fun h=>h h4),mZ]
    ·rfl
    intro j x hx;rw [Nat.zero_add,vO];refine ⟨fun y hj hy=>?_,(BY h3).2 h4.1 j x hx⟩;exact rT.1 (iP.1 h4.2) (j - 1) y x hy (by rwa [show j - 1+1=j by omega])
   rw [if_pos h4,qE (e:=.inr 1)]
   ·rfl
   ·intro j x e' h;unfold gF at h
    split at h
    ·cases h
    exact (Option.some.inj h).symm
   apply Classical.byContradiction;intro hc;apply h4;have hall:∀ j x,l[j]?=some x→(∀ y,0 < j→l[j - 1]?=some y→bT y.name x.name=true)∧x.aM.all (AG l j)=true:=by
    intro j x hx;apply Classical.byContradiction;intro hn;exact hc ⟨j,x,hx,by rw [Nat.zero_add,qF hn];simp⟩
   refine ⟨(BY h3).1 fun i x hx=>(hall i x hx).2,iP.2 (rT.2 fun i x y hx hy=>?_)⟩;exact (hall (i+1) y hy).1 x (by omega) (by simpa using hx)
  rw [if_neg h3,if_pos h3];rfl
 have hb:l.all BW=false:=by
  rw [← Bool.not_eq_true,List.all_eq_true];intro h;exact h2 fun x hx=>qD.1 (h x hx)
 rw [hb,if_pos h2];rfl
end T11
namespace T11
open Go Go.Proofs Pk
def cY:Nat→List aB→List (aA×Int)
 | _,[]=>[]
 | i,h::l=>(aY h).map (fun s=>(s,(i:Int)))++cY (i+1) l
theorem iT {α:Type}:∀ {m:List (aA×α)} {s:aA},(lkp m s).isSome=true↔s∈m.map Prod.fst
 | [],s=>by simp [lkp]
 | (k,x)::m,s=>by
  simp only [lkp,List.map_cons,List.mem_cons];by_cases h:s=k
  ·simp [h]
  rw [if_neg h,iT];simp [h]
theorem BZ {α:Type} {m:List (aA×α)} {s:aA} (y:α) (h:s∉m.map Prod.fst):put m s y=m++[(s,y)]:=by
 refine fL y ?_
 cases hl:lkp m s with
 | none=>rfl
 | some v=>exact absurd (iT.1 (by rw [hl];rfl)) h
theorem CA {α:Type}:∀ (a b:List (aA×α)) (s:aA),lkp (a++b) s=(lkp a s).or (lkp b s)
 | [],b,s=>by simp [lkp]
 | (k,x)::a,b,s=>by
  simp only [List.cons_append,lkp];by_cases h:s=k
  ·simp [h]
  rw [if_neg h,if_neg h,CA a b s]
theorem tV (i:Int):∀ (l:List aA) (s:aA),lkp (l.map fun t=>(t,i)) s=if s∈l then some i else none
 | [],s=>by simp [lkp]
 | t::l,s=>by
  simp only [List.map_cons,lkp,List.mem_cons];by_cases h:s=t
  ·simp [h]
  rw [if_neg h,tV i l s];simp [h]
theorem yC:∀ (l:List aB) (i:Nat) (s:aA),lkp (cY i l) s=if l.any (lF s) then some (((i+l.findIdx (lF s):Nat):Int)) else none
 | [],i,s=>by simp [cY,lkp]
 | h::l,i,s=>by
  simp only [cY,CA,tV,List.any_cons,List.findIdx_cons];by_cases hs:s∈aY h
  ·rw [if_pos hs,gI.2 hs];simp
  have:lF s h=false:=by rw [← Bool.not_eq_true,gI];exact hs
  rw [if_neg hs,this,yC l (i+1) s];by_cases ha:l.any (lF s)=true
  ·simp [ha];omega
  simp [ha]
theorem CB {l:List aB} {s:aA}:lkp (cY 0 l) s=if 0≤nI l s then some (nI l s) else none:=by
 rw [yC];unfold nI;by_cases ha:l.any (lF s)=true
 ·rw [if_pos ha,if_pos ha,if_pos (by omega)];simp
 rw [if_neg ha,if_neg ha];rfl
open Classical in
theorem CC {ε:Type} (i:Int) (out:List (aA×Int)→ε) (e:List (aA×Int)→ε):∀ (l:List aA) (m:List (aA×Int)) (k:Nat),(m.map Prod.fst).Nodup →
  ∃ m',zQ (σ:=List (aA×Int)) (fun _ x a=>if (lkp a x).isSome then .inr (e a) else .inl (put a x i)) out l k m=if (m.map Prod.fst++l).Nodup then out (m++l.map fun s=>(s,i)) else e m'
 | [],m,k,h=>⟨m,by rw [iL,List.append_nil,if_pos h];simp⟩
 | x::l,m,k,h=>by
  rw [gG];by_cases hx:x∈m.map Prod.fst
  ·refine ⟨m,?_⟩;rw [if_pos (iT.2 hx)];simp only;rw [if_neg];intro hn;rw [List.nodup_append] at hn;exact hn.2.2 x hx x List.mem_cons_self rfl
  rw [if_neg (fun h=>hx (iT.1 h)),BZ i hx];simp only;have h2:((m++[(x,i)]).map Prod.fst).Nodup:=by
   rw [List.map_append];exact iQ h hx
  obtain ⟨m',h3⟩:=CC i out e l (m++[(x,i)]) (k+1) h2;refine ⟨m',?_⟩;rw [h3,List.map_append,List.append_assoc,List.append_assoc];rfl
open Classical in
theorem yD (l:List aB):aX (iC l) (0,([]:List (aA×Int)))=some (if (l.flatMap aY).Nodup then .inl (cY 0 l) else .inr ([],6)):=by
 have step:∀ i x m,i < l.length→l[i]?=some x→(m.map Prod.fst).Nodup→iC l (i,m)=some (if (m.map Prod.fst++aY x).Nodup then .inl (i+1,m++(aY x).map fun s=>(s,(i:Int))) else .inr (.inr ([],6))):=by
  intro i x m hi hx hn;unfold iC;rw [if_pos (show (i:Int) < (l.length:Int) by omega),hx,Option.bind_some];by_cases h0:x.name∈m.map Prod.fst
  ·rw [if_pos (iT.2 h0),if_neg]
   ·rfl
   intro hc;rw [List.nodup_append] at hc;exact hc.2.2 _ h0 _ (bG x) rfl
  rw [if_neg (fun h=>h0 (iT.1 h)),BZ _ h0];have h2:((m++[(x.name,(i:Int))]).map Prod.fst).Nodup:=by
   rw [List.map_append];exact iQ hn h0
  have h3:=oA x.aC (σ:=List (aA×Int)) (ε:=(((List (aA×Int)))⊕((Nat×(List (aA×Int)))⊕((List (aA×Int)))))) (fun _ y a=>if (lkp a y).isSome then .inr (.inr (.inl (6,a))) else .inl (put a y (i:Int))) (fun a=>.inl a) (fun _ _=>True) (step:=kA x (i,m)) (fun j y b hj hy _=>by
   unfold kA;rw [if_pos (show (j:Int) < (x.aC.length:Int) by omega),hy,Option.bind_some];by_cases hm:(lkp b y).isSome=true
   ·rw [if_pos hm,if_pos hm];rfl
   rw [if_neg hm,if_neg hm];rfl) (fun _ _ _ _ _ _ _ _=>trivial) (fun b _=>by unfold kA;simp) (a0:=m++[(x.name,(i:Int))]) trivial
  obtain ⟨m',h4⟩:=CC (ε:=(((List (aA×Int)))⊕((Nat×(List (aA×Int)))⊕((List (aA×Int)))))) (i:Int) (fun a=>.inl a) (fun a=>.inr (.inl (6,a))) x.aC (m++[(x.name,(i:Int))]) 0 h2;have e1:(m++[(x.name,(i:Int))]).map Prod.fst++x.aC=m.map Prod.fst++aY x:=by simp [aY]
  have e2:(m++[(x.name,(i:Int))])++x.aC.map (fun s=>(s,(i:Int)))=m++(aY x).map (fun s=>(s,(i:Int))):=by simp [aY]
  rw [e1,e2] at h4;simp only [Option.bind_some];rw [h3,h4];by_cases hnd:(m.map Prod.fst++aY x).Nodup
  ·rw [if_pos hnd,if_pos hnd];rfl
  rw [if_neg hnd,if_neg hnd];rfl
 have key:∀ k i m,l.length - i=k→i≤l.length→(m.map Prod.fst).Nodup→aX (iC l) (i,m)=some (if (m.map Prod.fst++(l.drop i).flatMap aY).Nodup then .inl (m++cY i (l.drop i)) else .inr ([],6)):=by
  intro k
  induction k with
  | zero =>
   intro i m hk hi hn;obtain rfl:i=l.length:=by omega
   rw [List.drop_length,List.flatMap_nil,List.append_nil,if_pos hn];simp only [cY,List.append_nil];exact bK (by unfold iC;simp)
  | succ k ih =>
   intro i m hk hi hn;have hlt:i < l.length:=by omega
   have hx:l[i]?=some l[i]:=List.getElem?_eq_getElem hlt;have hs:=step i _ m hlt hx hn;rw [List.drop_eq_getElem_cons hlt,List.flatMap_cons,← List.append_assoc];by_cases hnd:(m.map Prod.fst++aY l[i]).Nodup
   ·rw [if_pos hnd] at hs;have e1:(m++(aY l[i]).map fun s=>(s,(i:Int))).map Prod.fst=m.map Prod.fst++aY l[i]:=by simp [Function.comp_def]
    rw [bU hs,ih (i+1) _ (by omega) (by omega) (by rw [e1];exact hnd),e1,List.append_assoc];simp only [cY,List.append_assoc]
   rw [if_neg hnd] at hs;rw [bK hs,if_neg];intro hc;rw [List.nodup_append] at hc;exact hnd hc.1
 have:=key l.length 0 [] (by omega) (by omega) List.nodup_nil;simpa using this
def pL (l:List aB) (h:aB):Bool:=decide (∀ s∈h.aM,s≠h.name∧∃ k∈l,k.name=s)
theorem e79 {l:List aB} (hn:(l.flatMap aY).Nodup) (h:aB):yX h (cY 0 l) l=some (pL l h):=by
 unfold yX;rw [mN];have h0:BN h.aM (fun x0_=>BO x0_ (cY 0 l) l h)=wY h.aM (fun x0_=>BO x0_ (cY 0 l) l h):=rfl
 rw [h0,gA (fun s=>decide (s≠h.name∧∃ k∈l,k.name=s)) (fun s hs=>by
  unfold BO;rw [mN,CB];by_cases hp:0≤nI l s
  ·obtain ⟨k,hk,hs',e⟩:=iF hp;rw [if_pos hp,if_pos (by rfl)];simp only [Option.getD_some];rw [bD hp,hk,Option.bind_some];by_cases hkn:k.name=s
   ·rw [if_pos hkn];congr 1;rw [Bool.eq_iff_iff,decide_eq_true_eq,decide_eq_true_eq];exact ⟨fun h=>⟨h,k,List.mem_of_getElem? hk,hkn⟩,fun h=>h.1⟩
   rw [if_neg hkn];congr 1
   symm
   rw [decide_eq_false_iff_not];rintro ⟨_,k',hk',e'⟩;have:k'=k:=mX hn hk' (List.mem_of_getElem? hk) (e'▸bG k') hs';exact hkn (this▸e')
  rw [if_neg hp,if_neg (by simp)];congr 1
  symm
  rw [decide_eq_false_iff_not];rintro ⟨_,k',hk',e'⟩
  exact GB (by omega) k' hk' (e'▸bG k'))]
 congr 1;unfold pL;rw [Bool.eq_iff_iff,List.all_eq_true,decide_eq_true_eq];exact ⟨fun h s hs=>of_decide_eq_true (h s hs),fun h s hs=>decide_eq_true (h s hs)⟩
theorem e82 {l:List aB} (h:∀ x∈l,dC x.name=true):FO l zZ=some (cA (fun a b=>bT a.name b.name) l):=by
 have h0:FO l zZ=yB l zZ:=rfl;rw [h0];exact lX _ fun x hx y hy=>by unfold zZ;rw [mN];exact rP (fM (h x hx)) (fM (h y hy))
noncomputable def CD (l:List aB):List (aA×Int):=if cE l=0 then cY 0 l else []
theorem TK (l:List aB):oX l=some (CD l,cE l):=by
 have hv:∀ v,cE l=v→oX l=some (if v=0 then cY 0 l else [],v)→oX l=some (CD l,cE l):=by
  rintro v rfl h;rw [h];rfl
 by_cases h1:60 < l.length
 ·refine hv 3 (by unfold cE;rw [if_pos h1]) ?_;unfold oX;rw [if_pos (by omega)];rfl
 by_cases h2:∀ h∈l,Rt h
 ·have hb:l.all BW=true:=List.all_eq_true.2 fun h hh=>qD.2 (h2 h hh);by_cases h3:(l.flatMap aY).Nodup
  ·have e79':zY l (fun x0_=>yX x0_ (cY 0 l) l)=some (l.all (pL l)):=by
    have h0:zY l (fun x0_=>yX x0_ (cY 0 l) l)=wY l (fun x0_=>yX x0_ (cY 0 l) l):=rfl;rw [h0];exact gA (pL l) fun x _=>e79 h3 x
   have hal:l.all (pL l)=true↔pK l:=by
    rw [List.all_eq_true];unfold pL pK;exact ⟨fun h x hx=>of_decide_eq_true (h x hx),fun h x hx=>decide_eq_true (h x hx)⟩
   have base:oX l=((if l.all (pL l) then some (!cA (fun a b:aB=>bT a.name b.name) l) else some true:Option Bool).bind fun t0=>if t0 then some ([],1) else some (cY 0 l,0)):=by
    unfold oX;rw [if_neg (by omega),e77,Option.bind_some,if_pos hb,yD,if_pos h3];simp only [Option.bind_some];rw [e79',Option.bind_some,e82 (fun x hx=>(h2 x hx).1)];rfl
   by_cases h4:pK l∧mV l
   ·refine hv 0 (gX.2 ⟨by omega,h2,h3,h4.1,h4.2⟩) ?_;rw [base,if_pos (hal.2 h4.1),iP.1 h4.2];rfl
   refine hv 1 ?_ ?_
   ·unfold cE;rw [if_neg h1,if_neg (fun h=>h h2),if_neg (fun h=>h h3),if_pos h4]
   rw [base];by_cases ha:l.all (pL l)=true
   ·have hs:cA (fun a b:aB=>bT a.name b.name) l=false:=by
     rw [← Bool.not_eq_true];intro hc;exact h4 ⟨hal.1 ha,iP.2 hc⟩
    rw [if_pos ha,hs];rfl
   rw [if_neg ha];rfl
  refine hv 6 ?_ ?_
  ·unfold cE;rw [if_neg h1,if_neg (fun h=>h h2),if_pos h3]
  unfold oX;rw [if_neg (by omega),e77,Option.bind_some,if_pos hb,yD,if_neg h3];rfl
 have hb:l.all BW=false:=by
  rw [← Bool.not_eq_true,List.all_eq_true];intro h;exact h2 fun x hx=>qD.1 (h x hx)
 refine hv 1 (by unfold cE;rw [if_neg h1,if_pos h2]) ?_;unfold oX;rw [if_neg (by omega),e77,Option.bind_some,hb];rfl
theorem GD {l:List aB} (h:Ix l):CD l=cY 0 l:=by unfold CD;rw [if_pos (gX.2 h)]
end T11
namespace T11
open Go Go.Proofs Pk
section
variable {α σ ε:Type}
theorem NK (l:List α) (g:Nat→α→σ→σ⊕ε) (out:σ→ε) (I:Nat→σ→Prop) {step:σ×Nat→Option ((σ×Nat)⊕ε)}
  (hs:∀ i x a,i < l.length→l[i]?=some x→I i a→step (a,i)=some (match g i x a with | .inl a'=>.inl (a',i+1) | .inr e=>.inr e))
  (hI:∀ i x a a',i < l.length→l[i]?=some x→I i a→g i x a=.inl a'→I (i+1) a')
  (he:∀ a,I l.length a→step (a,l.length)=some (.inr (out a))) {a0:σ} (h0:I 0 a0):aX step (a0,0)=some (zQ g out l 0 a0):=by
 have key:∀ k i a,l.length - i=k→i≤l.length→I i a→aX step (a,i)=some (zQ g out (l.drop i) i a):=by
  intro k
  induction k with
  | zero =>
   intro i a hk hi hIa;obtain rfl:i=l.length:=by omega
   rw [bK (he a hIa),List.drop_length,iL]
  | succ k ih =>
   intro i a hk hi hIa;have hlt:i < l.length:=by omega
   have hx:l[i]?=some l[i]:=List.getElem?_eq_getElem hlt;rw [List.drop_eq_getElem_cons hlt,gG];have h1:=hs i _ a hlt hx hIa
   cases hg:g i l[i] a with
   | inl a' =>
    rw [hg] at h1;rw [bU h1,ih (i+1) a' (by omega) (by omega) (hI i _ a a' hlt hx hIa hg)]
   | inr e =>
    rw [hg] at h1;rw [bK h1]
 have:=key l.length 0 a0 (by omega) (by omega) h0;simpa using this
end
def lY (l:List aA) (n:Nat):Bool:=l.all (fun s=>decide (s.length≤45))&&decide (l.length≤n)
def yE (h:aB):Bool:=decide (h.name.length≤45)&&(lY h.aC 10&&(lY h.aM 10&&decide (h.aG.length≤35)))
def pM (l:List aB) (n:Nat):Bool:=decide (l.length≤n)&&l.all yE
theorem e76 (l:List aA) (n:Nat):PI l (n:Int)=some (lY l n):=by
 unfold PI lY
 rw [eY (ε:=Unit⊕Bool) l (fun s=>decide (s.length≤45)) (.inr false) (.inl ()) (step:=xE l) (fun i x hi hx=>by
  unfold xE;rw [if_pos (by omega),hx,Option.bind_some];by_cases h:x.length≤45
  ·rw [if_neg (by omega),decide_eq_true h];rfl
  rw [if_pos (by omega),decide_eq_false h];rfl) (by unfold xE;rw [if_neg (by omega)])]
 cases l.all fun s=>decide (s.length≤45) with
 | false=>rfl
 | true =>
  simp only [Option.bind_some,if_true,Bool.true_and];congr 1;rw [Bool.eq_iff_iff,decide_eq_true_eq,decide_eq_true_eq];omega
theorem e49 (l:List aB) (n:Nat):PJ l (n:Int)=some (pM l n):=by
 unfold PJ pM;by_cases h:l.length≤n
 ·rw [if_neg (by omega),decide_eq_true h]
  rw [eY (ε:=Unit⊕Bool) l yE (.inr false) (.inl ()) (step:=xF l) (fun i x hi hx=>by
   unfold xF;rw [if_pos (by omega),hx,Option.bind_some];unfold yE;by_cases h1:x.name.length≤45
   ·rw [if_neg (by omega),decide_eq_true h1,show (10:Int)=((10:Nat):Int) from rfl,e76,Option.bind_some]
    cases lY x.aC 10 with
    | false=>rfl
    | true =>
     rw [if_pos rfl,e76,Option.bind_some]
     cases lY x.aM 10 with
     | false=>rfl
     | true =>
      rw [if_pos rfl,Option.bind_some];by_cases h2:x.aG.length≤35
      ·rw [decide_eq_true h2,decide_eq_false (by omega)];rfl
      rw [decide_eq_false h2,decide_eq_true (by omega)];rfl
   rw [if_pos (by omega),decide_eq_false h1];rfl) (by unfold xF;rw [if_neg (by omega)])]
  cases l.all yE <;> rfl
 rw [if_pos (by omega),decide_eq_false h];rfl
def sN (l:List aB):Bool:=pM l 62&&(decide (l.length≤12)||decide (60 < l.length))
theorem e17 (l:List aB):m17 l=some (sN l):=by
 unfold m17 sN;rw [show (62:Int)=((62:Nat):Int) from rfl,e49,Option.bind_some]
 cases pM l 62 with
 | false=>rfl
 | true =>
  rw [if_pos rfl];by_cases h:l.length≤12
  ·rw [if_pos (by omega),decide_eq_true h];rfl
  rw [if_neg (by omega),decide_eq_false h,Option.bind_some];congr 1;simp only [Bool.true_and,Bool.false_or];rw [Bool.eq_iff_iff,decide_eq_true_eq,decide_eq_true_eq];omega
theorem JH {l:List aB} {n:Nat} (h:pM l n=true):l.length≤n∧∀ x∈l,x.aC.length≤10∧x.aM.length≤10∧x.aG.length≤35:=by
 unfold pM at h;rw [Bool.and_eq_true,decide_eq_true_eq,List.all_eq_true] at h;refine ⟨h.1,fun x hx=>?_⟩;have:=h.2 x hx;unfold yE lY at this;simp only [Bool.and_eq_true,decide_eq_true_eq] at this;exact ⟨this.2.1.2,this.2.2.1.2,this.2.2.2⟩
theorem NL {l:List aB} (h:sN l=true):l.length≤62∧∀ x∈l,x.aC.length≤10∧x.aM.length≤10∧x.aG.length≤35:=by
 unfold sN at h;rw [Bool.and_eq_true] at h;exact JH h.1
theorem e62 {l:List aA} (h:l.length≤1073741824):PK l=some l:=by
 unfold PK;rw [bD (by simpa using h)];rfl
theorem e24 {l:List aB} (hl:l.length≤1000000) (hx:∀ x∈l,x.aC.length≤1000000∧x.aM.length≤1000000∧x.aG.length≤1000000):IV l=some l:=by
 unfold IV
 rw [jR l (fun x=>x) (fun a=>a) (step:=xH l) (fun i x a hi hxi ha=>by
  have hb:=hx x (List.mem_of_getElem? hxi);unfold xH;rw [if_pos (show (i:Int) < (l.length:Int) by omega),hxi,Option.bind_some,e62 (by omega),Option.bind_some,e62 (by omega),Option.bind_some]
  rw [jR x.aG (fun p=>p) (fun a=>a) (step:=xG x) (fun j p b hj hp hb'=>by
   unfold xG
   rw [if_pos (show (j:Int) < (x.aG.length:Int) by omega),hp,Option.bind_some,bD (by simp only;omega)]) (fun b=>by unfold xG;rw [if_neg (by simp)])]
  rw [Option.bind_some,bD (by simp only;omega)]
  simp only [List.map_id']) (fun a=>by unfold xH;rw [if_neg (by simp)])]
 simp
theorem JI {l:List aB} (h:sN l=true):IV l=some l:=by
 obtain ⟨h1,h2⟩:=NL h;exact e24 (by omega) fun x hx=>by have:=h2 x hx;omega
def JJ (v c:Int) (h:aB):Bool:=h.aG.any fun p=>decide (p.aJ=v∧p.aW≤c∧c≤p.cL)
theorem CE {v c:Int} {h:aB}:JJ v c h=true↔jC h.aG v c:=by
 unfold JJ jC;rw [List.any_eq_true];simp only [decide_eq_true_eq]
theorem e73 (p:aI) (v c:Int):FR p ⟨v,c⟩=some (decide (p.aJ=v∧p.aW≤c∧c≤p.cL)):=by
 unfold FR;by_cases h:p.aJ=v
 ·rw [if_pos h,PX];simp [h]
 rw [if_neg h];simp [h]
theorem AI {l:List aB} (hl:l.length≤1000000) (v c:Int):aX (jA l v c) (0,([]:List aA))=some ((l.filter (JJ v c)).map (·.name)):=by
 have h1:=oA l (σ:=List aA) (ε:=List aA) (fun _ x a=>.inl (if JJ v c x then a++[x.name] else a)) (fun a=>a) (fun i a=>a.length≤i) (step:=jA l v c) (fun i x a hi hx ha=>by
  unfold jA;rw [if_pos (show (i:Int) < (l.length:Int) by omega),hx,Option.bind_some]
  have h2:=jQ x.aG (ε:=Unit⊕List aA) (fun _ p=>if p.aJ=v∧p.aW≤c∧c≤p.cL then some (.inr (a++[x.name])) else none) (.inl ()) (step:=kJ x v c (i,a)) (fun j p hj hp=>by
   unfold kJ;rw [if_pos (by omega),hp,Option.bind_some,e73,Option.bind_some];by_cases hc:p.aJ=v∧p.aW≤c∧c≤p.cL
   ·rw [if_pos (by simpa using hc),if_pos hc,bD (by simp only;omega)];rfl
   rw [if_neg (by simpa using hc),if_neg hc]) (by unfold kJ;rw [if_neg (by omega)])
  rw [h2]
  cases hs:JJ v c x with
  | true =>
   obtain ⟨p,hp,h3⟩:=CE.1 hs;obtain ⟨j,hj⟩:=List.getElem?_of_mem hp
   rw [qE (e:=.inr (a++[x.name])) (fun j p e' h=>by
    split at h
    ·exact (Option.some.inj h).symm
    cases h) ⟨j,p,hj,by rw [if_pos h3];simp⟩]
   rfl
  | false =>
   rw [mZ (fun j p hp=>by
    rw [if_neg];intro h3;rw [← Bool.not_eq_true,CE] at hs
    exact hs ⟨p,List.mem_of_getElem? hp,h3⟩)]
   rfl)
  (fun i x a a' hi hx ha hg=>by
   cases hg
   split
   ·simp;omega
   omega)
  (fun a ha=>by unfold jA;rw [if_neg (by simp)]) (a0:=[]) (by simp)
 rw [h1];congr 1;have:∀ (l:List aB) (i:Nat) (a:List aA),zQ (σ:=List aA) (ε:=List aA) (fun _ x a=>.inl (if JJ v c x then a++[x.name] else a)) (fun a=>a) l i a=a++(l.filter (JJ v c)).map (·.name):=by
  intro l
  induction l with
  | nil=>intro i a;simp [iL]
  | cons x l ih =>
   intro i a;rw [gG];simp only;rw [ih];by_cases h:JJ v c x=true
   ·simp [h]
   simp [h]
 exact this l 0 []
theorem GY {l:List aB} (v c:Int):ED l v c=some (if cE l≠0 then ([],cE l) else if (1≤v∧v≤999)∧1≤c∧c≤9999 then ((l.filter (JJ v c)).map (·.name),0) else ([],2)):=by
 unfold ED;rw [TK,Option.bind_some];by_cases h:cE l=0
 ·rw [if_neg (by simpa using h),if_neg (by simpa using h),PX,Option.bind_some];by_cases h1:1≤v∧v≤999
  ·rw [if_pos (by simpa using h1),PX,Option.bind_some,Option.bind_some];by_cases h2:1≤c∧c≤9999
   ·rw [if_neg (by simp;omega),AI (by have:=(gX.1 h).len;omega),if_pos ⟨h1,h2⟩];rfl
   rw [if_pos (by simp;omega),if_neg (fun h=>h2 h.2)]
  rw [if_neg (by simpa using h1),Option.bind_some,if_pos rfl,if_neg (fun h=>h1 h.1)]
 rw [if_pos (by simpa using h),if_pos (by simpa using h)]
noncomputable def GE (l:List aB):Bool:=pM l 60&&@decide (Ix l) (Classical.propDecidable _)
theorem PY (l:List aB):m31 l=some (GE l):=by
 unfold m31 GE;rw [show (60:Int)=((60:Nat):Int) from rfl,e49,Option.bind_some]
 cases pM l 60 with
 | false=>rfl
 | true =>
  rw [if_pos rfl,e26,Option.bind_some,Option.bind_some,Bool.true_and];congr 1;rw [Bool.eq_iff_iff,decide_eq_true_eq,gX];exact (@decide_eq_true_iff _ (Classical.propDecidable _)).symm
end T11
namespace T11
open Go Go.Proofs Pk
theorem e44 (a b:List aA):yZ a b=some (decide (a=b)):=by
 have h:yZ a b=BK a b:=rfl;rw [h,zS]
theorem e40 (a b:aB):DN a b=some (decide (a=b)):=by
 unfold DN;have hd:∀ p q r t:Bool,a.name=b.name→(a.aC=b.aC)→(a.aM=b.aM)→decide (a=b)=decide (a.aG=b.aG):=by
  intro _ _ _ _ h1 h2 h3;cases a;cases b;simp only at h1 h2 h3;subst h1 h2 h3;simp
 by_cases h1:a.name=b.name
 ·rw [if_neg (by simpa using h1),e44,Option.bind_some];by_cases h2:a.aC=b.aC
  ·rw [if_pos (by simpa using h2),e44,Option.bind_some];by_cases h3:a.aM=b.aM
   ·rw [if_pos (by simpa using h3),Option.bind_some,hd true true true true h1 h2 h3];by_cases h4:a.aG.length=b.aG.length
    ·rw [decide_eq_false (by omega),if_neg (by decide)]
     have hz:=eY (ε:=Unit⊕Bool) (a.aG.zip b.aG) (fun q=>decide (q.1=q.2)) (.inr false) (.inl ()) (step:=kK a b) (fun i x hi hx=>by
      rw [List.length_zip] at hi;rw [List.getElem?_zip_eq_some] at hx;unfold kK;rw [if_pos (by omega),hx.1,Option.bind_some,hx.2,Option.bind_some];by_cases e:x.1=x.2
      ·rw [if_pos e,decide_eq_true e];rfl
      rw [if_neg e,decide_eq_false e];rfl) (by rw [List.length_zip];unfold kK;rw [if_neg (by omega)])
     rw [hz,← uS (fun x y=>decide (x=y)) _ _ h4,uT];by_cases e:a.aG=b.aG
     ·rw [decide_eq_true e];rfl
     rw [decide_eq_false e];rfl
    rw [decide_eq_true (by omega),if_pos rfl,decide_eq_false (fun e=>h4 (by rw [e]))]
   rw [if_neg (by simpa using h3),Option.bind_some,if_pos rfl,decide_eq_false (fun e=>h3 (by rw [e]))]
  rw [if_neg (by simpa using h2),Option.bind_some,if_pos rfl,decide_eq_false (fun e=>h2 (by rw [e]))]
 rw [if_pos (by simpa using h1),Option.bind_some,if_pos rfl,decide_eq_false (fun e=>h1 (by rw [e]))]
theorem e23 (a b:List aB):EE a b=some (decide (a=b)):=by
 have h:EE a b=FI a b DN:=rfl;rw [h,tI (fun x y=>decide (x=y)) (fun x _ y _=>e40 x y),uT]
def GF:aB:=⟨[],[],[],[]⟩
theorem e75 {x:aB} (h:x.aC.length≤1000000∧x.aM.length≤1000000∧x.aG.length≤1000000):YN x=some x:=by
 unfold YN NC SA;rw [bD (by simp;omega),Option.bind_some,bD (by simp;omega),Option.bind_some,bD (by simp;omega),Option.bind_some];simp
theorem Ix.small {l:List aB} (h:Ix l) {x:aB} (hx:x∈l):x.aC.length≤8∧x.aM.length≤8∧x.aG.length≤30:=h.fits.2 x hx
def LH (l:List aB) (s:aA):aB×Int:=if 0≤nI l s then ((l[(nI l s).toNat]?).getD GF,0) else (GF,7)
theorem WJ (l:List aB) (s:aA):VU l s=some (if cE l≠0 then (GF,cE l) else LH l s):=by
 unfold VU;rw [TK,Option.bind_some];by_cases h:cE l=0
 ·have hI:=gX.1 h;rw [GD hI];simp only [h,ne_eq,not_true_eq_false,if_false,CB];unfold LH;by_cases hp:0≤nI l s
  ·obtain ⟨k,hk,_,_⟩:=iF hp;have hb:=hI.small (List.mem_of_getElem? hk);rw [if_pos hp,if_pos hp,if_pos (show (some (nI l s)).isSome=true from rfl)];simp only [Option.getD_some];rw [bD hp,hk,Option.bind_some,e75 (by omega),Option.bind_some];rfl
  rw [if_neg hp,if_neg hp];rfl
 rw [if_pos (by simpa using h),if_pos (by simpa using h)];rfl
end T11
namespace T11
open Go Go.Proofs Pk
def kO (x:aA) (a:List aA):List aA:=a.filter (fun y=>bT y x)++x::a.filter (fun y=>!bT y x)
theorem yF {x s:aA} {a:List aA}:s∈kO x a↔s=x∨s∈a:=by
 unfold kO;simp only [List.mem_append,List.mem_cons,List.mem_filter,Bool.not_eq_true'];constructor
 ·rintro (⟨h,_⟩ | h | ⟨h,_⟩)
  ·exact .inr h
  ·exact .inl h
  exact .inr h
 rintro (h | h)
 ·exact .inr (.inl h)
 cases hb:bT s x
 ·exact .inr (.inr ⟨h,rfl⟩)
 exact .inl ⟨h,rfl⟩
theorem pN {x:aA} {a:List aA} (ha:a.Pairwise fB) (hx:x∉a):(kO x a).Pairwise fB:=by
 unfold kO;rw [List.pairwise_append];refine ⟨ha.sublist List.filter_sublist,List.pairwise_cons.2 ⟨fun y hy=>?_,ha.sublist List.filter_sublist⟩,fun y hy z hz=>?_⟩
 ·obtain ⟨h1,h2⟩:=List.mem_filter.1 hy;have hne:y≠x:=fun e=>hx (e▸h1);rcases fH hne with h | h
  ·unfold fB at h;rw [h] at h2;cases h2
  exact h
 obtain ⟨h1,h2⟩:=List.mem_filter.1 hy;rcases List.mem_cons.1 hz with rfl | hz
 ·exact h2
 obtain ⟨h3,h4⟩:=List.mem_filter.1 hz;have hne:z≠x:=fun e=>hx (e▸h3);rcases fH hne with h | h
 ·unfold fB at h;rw [h] at h4;cases h4
 exact eA h2 h
theorem yG {x:aA} (hxl:x.length≤1073741824):∀ (n:Nat) (a b:List aA),a.length=n→n≤1000000000→(∀ y∈a,y.length≤1073741824)→a.Pairwise fB→x∉a→aX tN ((n:Int),a++x::b)=some (kO x a++b)
 | 0,a,b,hn,_,_,_,_=>by
  rw [List.length_eq_zero_iff.1 hn];exact bK (by unfold tN;simp [kO])
 | n+1,a,b,hn,hb,hl,hs,hx=>by
  obtain ⟨a',y,rfl⟩:∃ a' y,a=a'++[y]:=⟨a.dropLast,a.getLast (by intro e;subst e;simp at hn),(List.dropLast_concat_getLast _).symm⟩;have hn':a'.length=n:=by simpa using hn
  have hyl:=hl y (by simp);have hne:y≠x:=fun e=>hx (by simp [e]);obtain ⟨hs1,_,hs2⟩:=List.pairwise_append.1 hs;have g1:(a'++[y]++x::b)[n+1]?=some x:=by
   rw [List.getElem?_append_right (by simp;omega)];simp [hn']
  have g0:(a'++[y]++x::b)[n]?=some y:=by
   rw [List.append_assoc,List.getElem?_append_right (by omega)];simp [hn']
  have s1:(a'++[y]++x::b).set (n+1) y=a'++y::y::b:=by
   rw [List.append_assoc,List.set_append_right _ _ (by omega)];simp [hn',show n+1 - n=1 by omega]
  have s2:(a'++y::y::b).set n x=a'++x::y::b:=by
   rw [List.set_append_right _ _ (by omega)];simp [hn']
  have t1:(((n+1:Nat):Int)).toNat=n+1:=by omega
  have t0:(((n+1:Nat):Int) - 1).toNat=n:=by omega
  have cond:tN (((n+1:Nat):Int),a'++[y]++x::b)=some (if bT x y then .inl ((n:Int),a'++x::(y::b)) else .inr (a'++[y]++x::b)):=by
   unfold tN;simp only;rw [if_pos (by omega),t1,t0,g1,Option.bind_some,bD (by omega),g0,Option.bind_some,JF hxl hyl,Option.bind_some,Option.bind_some]
   cases hbf:bT x y with
   | false=>rfl
   | true =>
    rw [if_pos rfl,bD (by omega),bD (by omega),Option.bind_some,bD (by omega),Option.bind_some,s1];have g2:(a'++y::y::b)[n]?=some y:=by rw [List.getElem?_append_right (by omega)];simp [hn']
    rw [g2,Option.bind_some,s2,show (((n+1:Nat):Int) - 1)=(n:Int) by omega];rfl
  cases hbf:bT x y with
  | true =>
   rw [hbf,if_pos rfl] at cond;rw [bU cond,yG hxl n a' (y::b) hn' (by omega) (fun z hz=>hl z (by simp [hz])) hs1 (fun h=>hx (by simp [h]))];have hyx:bT y x=false:=by
    rw [← Bool.not_eq_true];intro h;exact oK (show fB x y from hbf) h
   unfold kO;simp [List.filter_append,hyx]
  | false =>
   rw [hbf,if_neg (by decide)] at cond;rw [bK cond];have hyx:fB y x:=by
    rcases fH hne with h | h
    ·exact h
    unfold fB at h;rw [hbf] at h;cases h
   have hall:∀ z∈a'++[y],bT z x=true:=fun z hz=>by
    rcases List.mem_append.1 hz with h | h
    ·exact eA (hs2 z h y (by simp)) hyx
    simp at h;rw [h];exact hyx
   have e1:(a'++[y]).filter (fun z=>bT z x)=a'++[y]:=List.filter_eq_self.2 hall;have e2:(a'++[y]).filter (fun z=>!bT z x)=[]:=List.filter_eq_nil_iff.2 fun z hz=>by rw [hall z hz];decide
   unfold kO;rw [e1,e2];simp
def lZ (l:List aA):List aA:=l.foldl (fun out x=>if x∈out then out else kO x out) []
theorem nA:∀ (l out:List aA),out.Pairwise fB→(l.foldl (fun out x=>if x∈out then out else kO x out) out).Pairwise fB∧∀ s,s∈l.foldl (fun out x=>if x∈out then out else kO x out) out↔s∈out∨s∈l
 | [],out,h=>⟨h,by simp⟩
 | x::l,out,h=>by
  simp only [List.foldl_cons];by_cases hx:x∈out
  ·rw [if_pos hx];obtain ⟨h1,h2⟩:=nA l out h;refine ⟨h1,fun s=>?_⟩;rw [h2,List.mem_cons];constructor
   ·rintro (h | h)
    ·exact .inl h
    exact .inr (.inr h)
   rintro (h | h | h)
   ·exact .inl h
   ·exact .inl (h▸hx)
   exact .inr h
  rw [if_neg hx];obtain ⟨h1,h2⟩:=nA l _ (pN h hx);refine ⟨h1,fun s=>?_⟩;rw [h2,yF,List.mem_cons];constructor
  ·rintro ((h | h) | h)
   ·exact .inr (.inl h)
   ·exact .inl h
   exact .inr (.inr h)
  rintro (h | h | h)
  ·exact .inl (.inr h)
  ·exact .inl (.inl h)
  exact .inr h
theorem pO (l:List aA):(lZ l).Pairwise fB:=(nA l [] List.Pairwise.nil).1
theorem yH {l:List aA} {s:aA}:s∈lZ l↔s∈l:=by
 have:=(nA l [] List.Pairwise.nil).2 s;unfold lZ;rw [this];simp
theorem yI (x:aA) (a:List aA):(kO x a).length=a.length+1:=by
 unfold kO;rw [List.length_append,List.length_cons];have:∀ a:List aA,(a.filter fun y=>bT y x).length+(a.filter fun y=>!bT y x).length=a.length:=by
  intro a
  induction a with
  | nil=>rfl
  | cons y a ih =>
   cases h:bT y x <;> simp [h] <;> omega
 have:=this a;omega
theorem e38 {l:List aA} (hl:l.length≤1000000) (hb:∀ s∈l,s.length≤1073741824):PO l=some (lZ l):=by
 unfold PO
 have h1:=fC l (σ:=List aA) (ε:=List aA) (fun out x=>if x∈out then out else kO x out) (fun a=>a) (fun i out=>out.length≤i∧out.Pairwise fB∧∀ s∈out,s.length≤1073741824) (step:=xQ l) (fun i x out hi hx hI=>by
  unfold xQ;rw [if_pos (show (i:Int) < (l.length:Int) by omega),hx,Option.bind_some,LF,Option.bind_some];by_cases h:x∈out
  ·rw [if_pos (by simpa using h),if_pos h];rfl
  ·have hn:(((out++[x]).length:Int) - 1)=((out.length:Nat):Int):=by simp
   rw [if_neg (by simpa using h),if_neg h,bD (by simp only;omega)];simp only;rw [hn,yG (hb x (List.mem_of_getElem? hx)) out.length out [] rfl (by omega) hI.2.2 hI.2.1 h]
   simp)
  (fun i x out hi hx hI=>by
   by_cases h:x∈out
   ·rw [if_pos h];exact ⟨by omega,hI.2⟩
   rw [if_neg h];refine ⟨by rw [yI];omega,pN hI.2.1 h,fun s hs=>?_⟩;rcases yF.1 hs with rfl | hs
   ·exact hb _ (List.mem_of_getElem? hx)
   exact hI.2.2 s hs)
  (fun out hI=>by unfold xQ;rw [if_neg (by simp)]) (a0:=[]) ⟨by simp,List.Pairwise.nil,by simp⟩
 rw [h1];rfl
end T11
namespace T11
open Go Go.Proofs Pk
section
variable {α:Type}
theorem CF {f:α→α→Option Int} {l:List α} (h:fT f l):∃ l1,nZ f l l1:=by
 refine ⟨(l.attach.mergeSort fun a b=>!dS f b.1 a.1).map (·.1),?_,?_⟩
 ·have:=(List.mergeSort_perm l.attach fun a b=>!dS f b.1 a.1).map (fun u:{u // u∈l}=>u.1)
  rwa [List.attach_map_subtype_val] at this
 rw [List.pairwise_map];refine (List.pairwise_mergeSort (fun a b c h1 h2=>?_) (fun a b=>?_) _).imp fun h=>by simpa using h
 ·simp only [Bool.not_eq_true'] at *;exact h.nt _ c.2 _ b.2 _ a.2 h2 h1
 simp only [Bool.or_eq_true,Bool.not_eq_true']
 cases h3:dS f b.1 a.1 with
 | false=>exact .inl rfl
 | true =>
  right
  cases h4:dS f a.1 b.1 with
  | false=>rfl
  | true=>have:=h.tr _ a.2 _ b.2 _ a.2 h4 h3;rw [h.irr _ a.2] at this;cases this
theorem yJ {f:α→α→Option Int} {l:List α} (h:fN f l):∃ l1,fS f l=some l1∧l1.Perm l∧l1.Pairwise fun x y=>dS f y x=false:=by
 obtain ⟨l1,h1⟩:=CF h.weak;exact ⟨l1,kW h h1.1 h1.2,h1.1,h1.2⟩
end
theorem rU {a b:aA} (ha:a.length≤1073741824) (hb:b.length≤1073741824):dS oV a b=bT a b:=by
 unfold dS bT;rw [PW ha hb]
theorem TL {l:List aA} (hl:l.length≤1073741824) (hb:∀ s∈l,s.length≤1073741824):fN oV l :=
  ⟨hl,fun x hx y hy=>⟨_,PW (hb x hx) (hb y hy)⟩,fun x hx=>by rw [rU (hb x hx) (hb x hx)];exact rQ x,
   fun x hx y hy z hz h1 h2=>by rw [rU (hb x hx) (hb y hy)] at h1;rw [rU (hb y hy) (hb z hz)] at h2;rw [rU (hb x hx) (hb z hz)];exact gH h1 h2,
   fun x hx y hy h1 h2=>by
    rw [rU (hb x hx) (hb y hy)] at h1;rw [rU (hb y hy) (hb x hx)] at h2;apply Classical.byContradiction;intro e
    rw [mU e,h1] at h2;cases h2⟩
theorem AJ {l:List aA} (h:l.Pairwise fun x y=>¬fB y x):(Lib.compact l).Pairwise fB∧∀ s,s∈Lib.compact l↔s∈l:=by
 have hp:=List.pairwise_iff_getElem.1 h;have key:∀ m,m≤l.length→(Lib.compactUpTo l.toArray m).Pairwise fB∧∀ s,s∈Lib.compactUpTo l.toArray m↔∃ j,∃ (hj:j < l.length),j < m∧l[j]=s:=by
  intro m
  induction m with
  | zero=>intro _;exact ⟨List.Pairwise.nil,fun s=>by simp [Lib.compactUpTo]⟩
  | succ m ih =>
   intro hm;obtain ⟨h1,h2⟩:=ih (by omega);have g:∀ j,(hj:j < l.length)→l.toArray[j]! = l[j]:=fun j hj=>by
    rw [getElem!_pos l.toArray j (by simpa using hj)];simp
   rw [Lib.compactUpTo_succ];by_cases hk:Lib.keeps l.toArray m=true
   ·rw [if_pos hk,g m (by omega)];have hne:m=0∨l[m]≠l[m - 1]:=by
     unfold Lib.keeps at hk;simp only [decide_eq_true_eq] at hk;rcases hk with h | h
     ·exact .inl h
     rw [g m (by omega),g (m - 1) (by omega)] at h;exact .inr h
    refine ⟨?_,fun s=>?_⟩
    ·rw [List.pairwise_append];refine ⟨h1,by simp,fun a ha b hb=>?_⟩;simp at hb;subst hb;obtain ⟨j,hj,hjm,rfl⟩:=(h2 a).1 ha;have hle:=hp j m hj (by omega) hjm;by_cases e:l[j]=l[m]
     ·exfalso;rcases hne with h0 | h0
      ·omega
      have hjn:j≠m - 1:=fun e2=>h0 (by subst e2;exact e.symm);have h3:=hp j (m - 1) hj (by omega) (by omega);have h4:=hp (m - 1) m (by omega) (by omega) (by omega);rcases fH h0 with h5 | h5
      ·exact h4 h5
      rw [← e] at h5;exact h3 h5
     rcases fH e with h5 | h5
     ·exact h5
     exact (hle h5).elim
    rw [List.mem_append,h2];simp only [List.mem_singleton];constructor
    ·rintro (⟨j,hj,hjm,e⟩ | e)
     ·exact ⟨j,hj,by omega,e⟩
     exact ⟨m,by omega,by omega,e.symm⟩
    rintro ⟨j,hj,hjm,e⟩;by_cases hjm2:j < m
    ·exact .inl ⟨j,hj,hjm2,e⟩
    have:j=m:=by omega
    subst this;exact .inr e.symm
   rw [if_neg hk,List.append_nil];refine ⟨h1,fun s=>?_⟩;rw [h2];have hm0:m≠0:=fun e=>hk (by unfold Lib.keeps;simp [e]);have he:l[m]=l[m - 1]:=by
    apply Classical.byContradiction;intro hne;apply hk;unfold Lib.keeps;rw [g m (by omega),g (m - 1) (by omega)];simp [hne]
   constructor
   ·rintro ⟨j,hj,hjm,e⟩;exact ⟨j,hj,by omega,e⟩
   rintro ⟨j,hj,hjm,e⟩;by_cases hjm2:j < m
   ·exact ⟨j,hj,hjm2,e⟩
   have:j=m:=by omega
   subst this;exact ⟨j - 1,by omega,by omega,by rw [← he];exact e⟩
 obtain ⟨h1,h2⟩:=key l.length (Nat.le_refl _);refine ⟨h1,fun s=>?_⟩;show s∈Lib.compactUpTo l.toArray l.length↔s∈l;rw [h2,List.mem_iff_getElem];constructor
 ·rintro ⟨j,hj,_,e⟩;exact ⟨j,hj,e⟩
 rintro ⟨j,hj,e⟩;exact ⟨j,hj,hj,e⟩
theorem e56 {but:aA} {L:List (List aA)} (hl:L.flatten.length≤1000000) (hL:L.length≤1000) (hb:∀ s∈L.flatten,s.length≤1073741824) :
  ∃ r,AA but L=some r∧r.Pairwise fB∧∀ s,s∈r↔s≠but∧s∈L.flatten:=by
 have hpre:∀ i,(L.take i).flatten.length≤L.flatten.length:=fun i=>by
  conv=>rhs;rw [← List.take_append_drop i L,List.flatten_append,List.length_append]
  omega
 have hnext:∀ {i:Nat} {x:List aA},L[i]?=some x→(L.take (i+1)).flatten=(L.take i).flatten++x:=fun {i x} hx=>by
  rw [List.take_add_one,hx];simp
 have h1:=NK L (σ:=Nat) (ε:=Nat) (fun _ x n=>.inl (n+x.length)) (fun n=>n) (fun i n=>n=(L.take i).flatten.length) (step:=kB L) (fun i x n hi hx hn=>by
  unfold kB;have:=hpre (i+1);rw [hnext hx,List.length_append] at this;simp only
  rw [if_pos (by omega),hx,Option.bind_some,bD (by omega),if_neg (by omega)])
  (fun i x n n' hi hx hn hg=>by cases hg;rw [hnext hx,List.length_append,hn])
  (fun n hn=>by unfold kB;simp) (a0:=0) (by simp)
 have g1:∀ (l:List (List aA)) (i n:Nat),zQ (σ:=Nat) (ε:=Nat) (fun _ x n=>.inl (n+x.length)) (fun n=>n) l i n=n+l.flatten.length:=by
  intro l
  induction l with
  | nil=>intro i n;simp [iL]
  | cons x l ih=>intro i n;rw [gG];simp only;rw [ih];simp;omega
 rw [g1] at h1
 have h2:=fC L (σ:=List aA) (ε:=List aA) (fun a x=>a++x) (fun a=>a) (fun i a=>a=(L.take i).flatten) (step:=kC L) (fun i x a hi hx ha=>by
  unfold kC;have:=hpre (i+1);rw [hnext hx,List.length_append] at this;simp only
  rw [if_pos (by omega),hx,Option.bind_some,bD (by rw [ha];omega)])
  (fun i x a hi hx ha=>by rw [hnext hx,ha])
  (fun a ha=>by unfold kC;simp) (a0:=[]) (by simp)
 have g2:∀ (l:List (List aA)) (a:List aA),l.foldl (fun a x=>a++x) a=a++l.flatten:=by
  intro l
  induction l with
  | nil=>intro a;simp
  | cons x l ih=>intro a;rw [List.foldl_cons,ih];simp
 rw [g2,List.nil_append] at h2;obtain ⟨l1,h3,h4,h5⟩:=yJ (TL (l:=L.flatten) (by omega) hb);have h6:l1.Pairwise fun x y=>¬fB y x:=h5.imp_of_mem fun {x y} hx hy h=>by
  rw [rU (hb y (h4.subset hy)) (hb x (h4.subset hx))] at h;unfold fB;rw [h];decide
 obtain ⟨c1,c2⟩:=AJ h6;refine ⟨(Lib.compact l1).filter fun x=>!decide (x=but),?_,c1.sublist List.filter_sublist,fun s=>?_⟩
 ·unfold AA;rw [h1,Option.bind_some,bD (by omega),h2];simp only [Option.bind_some];rw [h3,Option.bind_some]
 rw [List.mem_filter,c2,h4.mem_iff];simp only [Bool.not_eq_true',decide_eq_false_iff_not];exact and_comm
def DW:List aA→aA
 | []=>[]
 | x::l=>l.foldl (fun a y=>if bT y a then y else a) x
theorem kZ:∀ (l:List aA) (a:aA),(l.foldl (fun a y=>if bT y a then y else a) a=a∨l.foldl (fun a y=>if bT y a then y else a) a∈l)∧(a=l.foldl (fun a y=>if bT y a then y else a) a∨fB (l.foldl (fun a y=>if bT y a then y else a) a) a)∧∀ t∈l,t=l.foldl (fun a y=>if bT y a then y else a) a∨fB (l.foldl (fun a y=>if bT y a then y else a) a) t
 | [],a=>⟨.inl rfl,.inl rfl,by simp⟩
 | y::l,a=>by
  simp only [List.foldl_cons];obtain ⟨h1,h2,h3⟩:=kZ l (if bT y a then y else a);generalize hr:l.foldl (fun a y=>if bT y a then y else a) (if bT y a then y else a)=r at *;by_cases hb:bT y a=true
  ·rw [if_pos hb] at h1 h2;refine ⟨.inr ?_,.inr ?_,fun t ht=>?_⟩
   ·rcases h1 with h | h
    ·rw [h];exact List.mem_cons_self
    exact List.mem_cons_of_mem _ h
   ·rcases h2 with h | h
    ·rw [← h];exact hb
    exact eA h hb
   rcases List.mem_cons.1 ht with rfl | ht
   ·exact h2
   exact h3 t ht
  rw [if_neg hb] at h1 h2;refine ⟨h1.imp id (List.mem_cons_of_mem _),h2,fun t ht=>?_⟩;rcases List.mem_cons.1 ht with rfl | ht
  ·by_cases e:t=a
   ·rw [e];exact h2
   have hat:fB a t:=by
    rcases fH e with h | h
    ·exact absurd h hb
    exact h
   rcases h2 with h | h
   ·rw [← h];exact .inr hat
   exact .inr (eA h hat)
  exact h3 t ht
theorem GG {l:List aA} (h:l≠[]):DW l∈l:=by
 cases l with
 | nil=>exact absurd rfl h
 | cons x l =>
  rcases (kZ l x).1 with h | h
  ·show l.foldl _ x∈_;rw [h];exact List.mem_cons_self
  exact List.mem_cons_of_mem _ h
theorem JK {l:List aA} {t:aA} (h:t∈l):t=DW l∨fB (DW l) t:=by
 cases l with
 | nil=>cases h
 | cons x l =>
  rcases List.mem_cons.1 h with rfl | h
  ·exact (kZ l t).2.1
  exact (kZ l x).2.2 t h
theorem NM {l:List aA} (h:l≠[]) (hb:∀ s∈l,s.length≤1073741824):FP l oV=some (DW l):=by
 obtain ⟨x,l,rfl⟩:∃ x l',l=x::l':=by cases l with
  | nil=>exact absurd rfl h
  | cons x l=>exact ⟨x,l,rfl⟩
 unfold FP;rw [if_neg (by simp;omega)];simp only [List.getElem?_cons_zero,Option.bind_some];have key:∀ k i a,(x::l).length - i=k→i≤(x::l).length→1≤i→a.length≤1073741824→aX (iZ (x::l) oV) (i,a)=some (((x::l).drop i).foldl (fun a y=>if bT y a then y else a) a):=by
  intro k
  induction k with
  | zero =>
   intro i a hk hi _ _;obtain rfl:i=(x::l).length:=by omega
   rw [List.drop_length];exact bK (by unfold iZ;simp)
  | succ k ih =>
   intro i a hk hi h1 ha;have hlt:i < (x::l).length:=by omega
   have hy:(x::l)[i]?=some (x::l)[i]:=List.getElem?_eq_getElem hlt;have hyl:=hb _ (List.getElem_mem hlt);have hs:iZ (x::l) oV (i,a)=some (.inl (i+1,if bT (x::l)[i] a then (x::l)[i] else a)):=by
    unfold iZ;simp only;rw [if_pos (by omega),hy,Option.bind_some,PW hyl ha,Option.bind_some];unfold bT;by_cases hc:kM (x::l)[i] a < 0
    ·rw [if_pos hc,if_pos (by simpa using hc)];rfl
    rw [if_neg hc,if_neg (by simpa using hc)];rfl
   rw [bU hs,List.drop_eq_getElem_cons hlt,List.foldl_cons];exact ih (i+1) _ (by omega) (by omega) (by omega) (by split <;> assumption)
 rw [key l.length 1 x (by simp) (by simp) (Nat.le_refl _) (hb x List.mem_cons_self)];rfl
def GZ (a b:aI):Bool:=decide (a.aJ < b.aJ∨a.aJ=b.aJ∧a.aW < b.aW)
theorem e95 {a b:aI} (ha:eB a) (hb:eB b):∃ c,BP a b=some c∧(decide (c < 0))=GZ a b:=by
 unfold eB at ha hb;unfold BP;rw [bD (by omega),bD (by omega),e86,Option.bind_some];refine ⟨_,rfl,?_⟩;unfold GZ;rw [Bool.eq_iff_iff,decide_eq_true_eq,decide_eq_true_eq];by_cases h:a.aJ - b.aJ=0
 ·rw [if_neg (by simpa using h)];omega
 rw [if_pos h];omega
theorem pP {a b:aI} (ha:eB a) (hb:eB b):dS BP a b=GZ a b:=by
 obtain ⟨c,h1,h2⟩:=e95 ha hb;unfold dS;rw [h1];exact h2
theorem CG {a b:aI}:GZ a b=true↔(a.aJ < b.aJ∨a.aJ=b.aJ∧a.aW < b.aW):=by unfold GZ;exact decide_eq_true_iff
theorem yK {a b:aI}:GZ a b=false↔¬(a.aJ < b.aJ∨a.aJ=b.aJ∧a.aW < b.aW):=by rw [← Bool.not_eq_true,CG]
theorem TM {l:List aI} (hl:l.length≤1073741824) (ho:∀ p∈l,eB p):fT BP l :=
  ⟨hl,fun x hx y hy=>let ⟨c,h,_⟩:=e95 (ho x hx) (ho y hy);⟨c,h⟩,fun x hx=>by rw [pP (ho x hx) (ho x hx),yK];omega,
   fun x hx y hy z hz h1 h2=>by rw [pP (ho x hx) (ho y hy),CG] at h1;rw [pP (ho y hy) (ho z hz),CG] at h2;rw [pP (ho x hx) (ho z hz),CG];omega,
   fun x hx y hy z hz h1 h2=>by rw [pP (ho x hx) (ho y hy),yK] at h1;rw [pP (ho y hy) (ho z hz),yK] at h2;rw [pP (ho x hx) (ho z hz),yK];omega⟩
def TN (st:Int×Int×Int×List aI) (p:aI):Int×Int×Int×List aI :=
 if st.2.2.2=[]∨dF ⟨st.1,st.2.1,st.2.2.1⟩ p then (p.aJ,p.aW,p.cL,st.2.2.2++[p]) else (st.1,st.2.1,max st.2.2.1 p.cL,st.2.2.2.dropLast++[⟨st.1,st.2.1,max st.2.2.1 p.cL⟩])
structure JP (l1:List aI) (i:Nat) (st:Int×Int×Int×List aI):Prop where
 nm:eC st.2.2.2
 cs:∀ v c,jC st.2.2.2 v c↔jC (l1.take i) v c
 last:st.2.2.2=[]∧i=0∧(st.1,st.2.1,st.2.2.1)=(0,0,0)∨st.2.2.2.getLast?=some ⟨st.1,st.2.1,st.2.2.1⟩∧∀ p∈l1.drop i,st.1 < p.aJ∨st.1=p.aJ∧st.2.1≤p.aW
 len:st.2.2.2.length≤i
theorem kP {l:List aI} {p:aI} {v c:Int}:jC (l++[p]) v c↔jC l v c∨p.aJ=v∧p.aW≤c∧c≤p.cL:=by
 rw [AE];refine or_congr_right ?_;unfold jC;simp
theorem JP.step {l1:List aI} (ho:∀ p∈l1,eB p) (hs:l1.Pairwise fun x y=>GZ y x=false) {i:Nat} {p:aI} {st:Int×Int×Int×List aI} (hp:l1[i]?=some p) (h:JP l1 i st):JP l1 (i+1) (TN st p):=by
 obtain ⟨lv,lf,lt,out⟩:=st;have hpm:=List.mem_of_getElem? hp;have hop:=ho p hpm;have hlt:=(List.getElem?_eq_some_iff.1 hp).1;have htake:l1.take (i+1)=l1.take i++[p]:=by rw [List.take_add_one,hp];rfl
 have hdrop:l1.drop i=p::l1.drop (i+1):=by
  rw [List.drop_eq_getElem_cons hlt];congr 1;rw [List.getElem?_eq_getElem hlt] at hp;exact Option.some.inj hp
 have hrest:∀ q∈l1.drop (i+1),p.aJ < q.aJ∨p.aJ=q.aJ∧p.aW≤q.aW:=fun q hq=>by
  have h1:(p::l1.drop (i+1)).Pairwise fun x y=>GZ y x=false:=by rw [← hdrop];exact hs.sublist (List.drop_sublist _ _)
  have:=(List.pairwise_cons.1 h1).1 q hq;rw [yK] at this;omega
 have hnm:=h.nm;have hcs:=h.cs;have hlast:=h.last;have hlen:=h.len;simp only at hnm hcs hlast hlen;unfold TN;simp only;by_cases hc:out=[]∨dF ⟨lv,lf,lt⟩ p
 ·rw [if_pos hc];refine ⟨⟨fun q hq=>?_,?_⟩,fun v c=>?_,.inr ⟨by simp,hrest⟩,by simp;omega⟩
  ·rcases List.mem_append.1 hq with hq | hq
   ·exact hnm.ok q hq
   simp at hq;subst hq;exact hop
  ·rw [List.pairwise_append];refine ⟨hnm.gap,by simp,fun a ha b hb=>?_⟩;simp at hb;subst hb;rcases hc with e | hg
   ·rw [e] at ha;cases ha
   rcases hlast with ⟨e,_⟩ | ⟨hl,_⟩
   ·rw [e] at ha;cases ha
   have hlm:=List.mem_of_getLast? hl;rcases kN hnm.gap a ha _ hlm with e | h1 | h1
   ·rw [e];exact hg
   ·exact iO (hnm.ok _ hlm) h1 hg
   exfalso;obtain ⟨ini,e⟩:∃ ini,out=ini++[⟨lv,lf,lt⟩]:=by
    rw [List.getLast?_eq_some_iff] at hl;exact hl
   rw [e] at ha;rcases List.mem_append.1 ha with ha | ha
   ·have h2:=hnm.gap;rw [e,List.pairwise_append] at h2;have h3:=h2.2.2 a ha _ (List.mem_singleton.2 rfl);have:=hnm.ok a (by rw [e];exact List.mem_append_left _ ha);have:=hnm.ok _ hlm;unfold dF at h1 h3;unfold eB at *;omega
   simp at ha;subst ha;have:=hnm.ok _ hlm;unfold dF at h1;unfold eB at this;omega
  rw [kP,hcs,htake,kP]
 rw [if_neg hc];simp only [not_or] at hc;rcases hlast with ⟨e,_⟩ | ⟨hl,hord⟩
 ·exact absurd e hc.1
 obtain ⟨ini,e⟩:∃ ini,out=ini++[⟨lv,lf,lt⟩]:=by
  rw [List.getLast?_eq_some_iff] at hl;exact hl
 have hord':=hord p (by rw [hdrop];exact List.mem_cons_self);have hlm:=List.mem_of_getLast? hl;have hol:=hnm.ok _ hlm;have hng:=hc.2;unfold dF at hng;unfold eB at hol hop;simp only at hng hol;have ed:out.dropLast=ini:=by rw [e,List.dropLast_concat]
 rw [ed];refine ⟨⟨fun q hq=>?_,?_⟩,fun v c=>?_,.inr ⟨by simp,fun q hq=>?_⟩,by rw [e] at hlen;simp at hlen ⊢;omega⟩
 ·rcases List.mem_append.1 hq with hq | hq
  ·exact hnm.ok q (by rw [e];exact List.mem_append_left _ hq)
  simp at hq;subst hq;unfold eB;simp only;omega
 ·have h2:=hnm.gap;rw [e,List.pairwise_append] at h2;rw [List.pairwise_append];refine ⟨h2.1,by simp,fun a ha b hb=>?_⟩;simp at hb;subst hb;have h3:=h2.2.2 a ha _ (List.mem_singleton.2 rfl);unfold dF at h3 ⊢;exact h3
 ·have h4:=hcs v c;rw [e,kP] at h4;rw [kP,htake,kP,← h4];simp only;constructor
  ·rintro (h | h)
   ·exact .inl (.inl h)
   by_cases hcc:c≤lt
   ·exact .inl (.inr (by omega))
   exact .inr (by omega)
  rintro ((h | h) | h)
  ·exact .inl h
  ·exact .inr (by omega)
  exact .inr (by omega)
 have:=hrest q hq;simp only;omega
theorem AK {l0 l1:List aI} (hlen:l1.length=l0.length) (hl:l1.length≤1000000) (ho:∀ p∈l1,eB p) (hs:l1.Pairwise fun x y=>GZ y x=false) :
  ∃ st,aX (fU l0 l1) (0,0,0,0,([]:List aI))=some st∧JP l1 l1.length st:=by
 have h1:=fC l1 (σ:=Int×Int×Int×List aI) (ε:=Int×Int×Int×List aI) TN (fun st=>(st.1,st.2.1,st.2.2.1,st.2.2.2)) (JP l1) (step:=fU l0 l1) (fun i p st hi hp hI=>by
  obtain ⟨lv,lf,lt,out⟩:=st;have hop:=ho p (List.mem_of_getElem? hp);unfold fU;simp only;rw [if_pos (by omega),hp,Option.bind_some];unfold TN;simp only;have hlen2:=hI.len;simp only at hlen2;rcases hI.last with ⟨e1,e2,e3⟩ | ⟨hlast,hord⟩
  ·simp only at e1 e2 e3;cases e3;subst e1;rw [if_pos rfl,Option.bind_some,if_neg (by decide),bD (by simp),Option.bind_some,bD (by simp)];simp
  ·simp only at hlast hord;have hlm:=List.mem_of_getLast? hlast;have hol:=hI.nm.ok _ hlm;have hne:out≠[]:=fun e=>by rw [e] at hlm;cases hlm
   have hpos:0 < out.length:=List.length_pos_iff.2 hne;have hz:¬((⟨lv,lf,lt⟩:aI)=⟨0,0,0⟩):=fun e=>by
    have:=congrArg aI.aJ e;unfold eB at hol;simp only at this hol;omega
   have hgl:out[out.length - 1]?=some ⟨lv,lf,lt⟩:=by rw [← List.getLast?_eq_getElem?];exact hlast
   rw [if_neg hz,e96 _ hol,Option.bind_some,Option.bind_some];by_cases hg:dF ⟨lv,lf,lt⟩ p
   ·rw [fR.2 hg,if_neg (by decide),bD (by omega),Option.bind_some,bD (by simp),if_pos (.inr hg)];simp
   rw [AF hg,if_pos (show (!false)=true from rfl),bD (by omega),show ((out.length:Int) - 1).toNat=out.length - 1 by omega,hgl,Option.bind_some,Option.bind_some,bD (by simp;omega),if_neg (by simp only [not_or];exact ⟨hne,hg⟩)];have e4:(((out.set (out.length - 1) ⟨lv,lf,max lt p.cL⟩).length:Int) - 1).toNat=out.length - 1:=by simp
   rw [e4,List.getElem?_set_self (by omega),Option.bind_some];congr 4;obtain ⟨ini,e⟩:∃ ini,out=ini++[⟨lv,lf,lt⟩]:=by
    rw [List.getLast?_eq_some_iff] at hlast;exact hlast
   rw [e];simp)
  (fun i p st hi hp hI=>hI.step ho hs hp)
  (fun st hI=>by unfold fU;simp only;rw [if_neg (by omega)]) (a0:=(0,0,0,[])) ⟨⟨by simp,List.Pairwise.nil⟩,by simp,.inl ⟨rfl,rfl,rfl⟩,by simp⟩
 refine ⟨_,h1,?_⟩;have inv:∀ k i st,l1.length - i=k→i≤l1.length→JP l1 i st→JP l1 l1.length ((l1.drop i).foldl TN st):=by
  intro k
  induction k with
  | zero =>
   intro i st hk hi hI;obtain rfl:i=l1.length:=by omega
   rw [List.drop_length];exact hI
  | succ k ih =>
   intro i st hk hi hI;have hlt:i < l1.length:=by omega
   rw [List.drop_eq_getElem_cons hlt,List.foldl_cons];exact ih (i+1) _ (by omega) (by omega) (hI.step ho hs (List.getElem?_eq_getElem hlt))
 have:=inv l1.length 0 (0,0,0,[]) (by omega) (by omega) ⟨⟨by simp,List.Pairwise.nil⟩,by simp,.inl ⟨rfl,rfl,rfl⟩,by simp⟩;simpa using this
theorem e57 {l:List aI} (hl:l.length≤1000000) (ho:∀ p∈l,eB p):∃ r,yY l=some r∧eC r∧∀ v c,jC r v c↔jC l v c:=by
 have hok:=TM (l:=l) (by omega) ho;have run:∀ l1,nZ BP l l1→∃ r,((aX (fU l l1) (0,0,0,0,([]:List aI))).bind fun eA1=>some eA1.2.2.2)=some r∧eC r∧∀ v c,jC r v c↔jC l v c:=by
  intro l1 h1;have ho1:∀ p∈l1,eB p:=fun p hp=>ho p (h1.1.subset hp);have hs1:l1.Pairwise fun x y=>GZ y x=false:=h1.2.imp_of_mem fun {x y} hx hy h=>by rwa [pP (ho1 y hy) (ho1 x hx)] at h
  obtain ⟨st,h2,h3⟩:=AK (l0:=l) h1.1.length_eq (by rw [h1.1.length_eq];exact hl) ho1 hs1;refine ⟨st.2.2.2,by rw [h2];rfl,h3.nm,fun v c=>?_⟩;rw [h3.cs,List.take_length];unfold jC;exact ⟨fun ⟨p,hp,h⟩=>⟨p,h1.1.mem_iff.1 hp,h⟩,fun ⟨p,hp,h⟩=>⟨p,h1.1.mem_iff.2 hp,h⟩⟩
 obtain ⟨l1,h1⟩:=CF hok;obtain ⟨r,hr1,hr2,hr3⟩:=run l1 h1;refine ⟨r,?_,hr2,hr3⟩;unfold yY;refine wZ hok fun l2 h2=>?_;obtain ⟨r',q1,q2,q3⟩:=run l2 h2;rw [q1,yA q2 hr2 fun v c=>by rw [q3,hr3]]
def UF (lk:List (aA×aA)) (R:aA→aA) (d:aA→Nat):Prop:=∀ s,(lkp lk s=none→R s=s)∧∀ o,lkp lk s=some o→(o=s→R s=s)∧(o≠s→R s=R o∧d o < d s)
theorem lA {α:Type}:∀ (m:List (aA×α)) (k s:aA) (v:α),lkp (put m k v) s=if s=k then some v else lkp m s
 | [],k,s,v=>by simp [put,lkp]
 | (q,w)::m,k,s,v=>by
  unfold put;by_cases h:k=q
  ·rw [if_pos h];subst h;simp only [lkp];by_cases h2:s=k <;> simp [h2]
  rw [if_neg h];simp only [lkp,lA m k s v];by_cases h2:s=q
  ·have:s≠k:=fun e=>h (e.symm.trans h2);subst h2;simp [this]
  simp [h2]
section
variable {lk:List (aA×aA)} {R:aA→aA} {d:aA→Nat}
theorem UF.run (h:UF lk R d):∀ (n:Nat) (s:aA),d s < n→iD n s lk=some (R s)
 | 0,s,hn=>by omega
 | n+1,s,hn=>by
  unfold iD
  cases hl:lkp lk s with
  | none=>simp [(h s).1 hl]
  | some o =>
   by_cases e:o=s
   ·simp [e,((h s).2 o hl).1 e]
   obtain ⟨h1,h2⟩:=((h s).2 o hl).2 e;simp [e,UF.run h n o (by omega),h1]
theorem UF.only (h:UF lk R d):∀ (n:Nat) (s r:aA),iD n s lk=some r→r=R s
 | 0,s,r,hr=>by cases hr
 | n+1,s,r,hr=>by
  unfold iD at hr
  cases hl:lkp lk s with
  | none=>rw [hl] at hr;simp at hr;rw [(h s).1 hl,hr]
  | some o =>
   rw [hl] at hr;by_cases e:o=s
   ·simp [e] at hr;rw [((h s).2 o hl).1 e,hr]
   obtain ⟨h1,h2⟩:=((h s).2 o hl).2 e;simp only [Option.isSome_some,if_true,Option.getD_some,ne_eq,e,not_false_eq_true,decide_true,Option.bind_some] at hr;rw [mN] at hr;rw [UF.only h n o r hr,h1]
theorem UF.e53 (h:UF lk R d) (s:aA):sL lk s=some (R s):=by
 unfold sL NB;rw [mN];exact AV (d s+1) (h.run (d s+1) s (by omega)) fun m r hr=>h.only m s r hr
theorem UF.idem (h:UF lk R d) (s:aA):R (R s)=R s:=by
 have key:∀ n s,d s≤n→R (R s)=R s:=by
  intro n
  induction n with
  | zero =>
   intro s hs
   cases hl:lkp lk s with
   | none=>rw [(h s).1 hl];exact (h s).1 hl
   | some o =>
    by_cases e:o=s
    ·rw [((h s).2 o hl).1 e];exact ((h s).2 o hl).1 e
    have:=(((h s).2 o hl).2 e).2;omega
  | succ n ih =>
   intro s hs
   cases hl:lkp lk s with
   | none=>rw [(h s).1 hl];exact (h s).1 hl
   | some o =>
    by_cases e:o=s
    ·rw [((h s).2 o hl).1 e];exact ((h s).2 o hl).1 e
    obtain ⟨h1,h2⟩:=((h s).2 o hl).2 e;rw [h1];exact ih o (by omega)
 exact key (d s) s (Nat.le_refl _)
theorem UF.join (h:UF lk R d) (a b:aA):∃ d',UF (put lk (R a) (R b)) (fun x=>if R x=R a then R b else R x) d':=by
 by_cases e:R a=R b
 ·refine ⟨d,fun s=>?_⟩;have hR:∀ x,(if R x=R a then R b else R x)=R x:=fun x=>by
   by_cases hx:R x=R a
   ·rw [if_pos hx,← e,hx]
   rw [if_neg hx]
  simp only [hR,lA];by_cases hs:s=R a
  ·rw [if_pos hs];refine ⟨fun h=>(by cases h),fun o ho=>?_⟩;cases ho;rw [← e];exact ⟨fun _=>by rw [hs];exact h.idem a,fun hne=>absurd hs.symm hne⟩
  rw [if_neg hs];exact h s
 refine ⟨fun x=>if R x=R a then d x+d (R b)+1 else d x,fun s=>?_⟩;simp only [lA];by_cases hs:s=R a
 ·rw [if_pos hs];refine ⟨fun h=>(by cases h),fun o ho=>?_⟩;cases ho;have hra:R s=R a:=by rw [hs];exact h.idem a
  have hrb:R (R b)=R b:=h.idem b;refine ⟨fun e2=>absurd (hs.symm.trans e2.symm) e,fun _=>⟨?_,?_⟩⟩
  ·rw [if_pos hra,hrb,if_neg (fun e2=>e e2.symm)]
  rw [if_pos hra,hrb,if_neg (fun e2=>e e2.symm)];omega
 rw [if_neg hs];refine ⟨fun hn=>?_,fun o ho=>⟨fun e2=>?_,fun e2=>?_⟩⟩
 ·have:=(h s).1 hn;rw [if_neg (by rw [this];exact hs),this]
 ·have:=((h s).2 o ho).1 e2;rw [if_neg (by rw [this];exact hs),this]
 obtain ⟨h1,h2⟩:=((h s).2 o ho).2 e2;rw [h1];refine ⟨rfl,?_⟩;by_cases e3:R o=R a
 ·rw [if_pos e3,if_pos e3];omega
 rw [if_neg e3,if_neg e3];exact h2
end
end T11
namespace T11
open Go Go.Proofs Pk
theorem iU {α S ε:Type} (l:List α) {step:Nat×S→Option ((Nat×S)⊕ε)} (Inv:Nat→S→Prop) (Q:ε→Prop)
  (hstep:∀ i x s,l[i]?=some x→Inv i s→∃ s',step (i,s)=some (.inl (i+1,s'))∧Inv (i+1) s')
  (hout:∀ s,Inv l.length s→∃ e,step (l.length,s)=some (.inr e)∧Q e) {s0:S} (h0:Inv 0 s0):∃ e,aX step (0,s0)=some e∧Q e:=by
 have key:∀ k i s,l.length - i=k→i≤l.length→Inv i s→∃ e,aX step (i,s)=some e∧Q e:=by
  intro k
  induction k with
  | zero =>
   intro i s hk hi hI;obtain rfl:i=l.length:=by omega
   obtain ⟨e,h1,h2⟩:=hout s hI;exact ⟨e,bK h1,h2⟩
  | succ k ih =>
   intro i s hk hi hI;have hlt:i < l.length:=by omega
   obtain ⟨s',h1,h2⟩:=hstep i _ s (List.getElem?_eq_getElem hlt) hI;obtain ⟨e,h3,h4⟩:=ih (i+1) s' (by omega) (by omega) h2;exact ⟨e,by rw [bU h1];exact h3,h4⟩
 exact key _ 0 s0 rfl (by omega) h0
theorem dO {α:Type} {l:List α} {i:Nat} {x:α} (h:l[i]?=some x):l.take (i+1)=l.take i++[x]:=by rw [List.take_add_one,h];rfl
structure LK (hs:List aB) (R:aA→aA):Prop where
 one:∀ h∈hs,∀ s∈aY h,R s=R h.name
 cn:∀ x y,R x=R y→Cn hs x y
theorem LK.iff {hs:List aB} {R:aA→aA} (h:LK hs R) {x y:aA}:Cn hs x y↔R x=R y:=by
 refine ⟨fun hc=>?_,h.cn x y⟩
 induction hc with
 | refl=>rfl
 | step _ hh hb hc ih=>rw [ih,h.one _ hh _ hb,h.one _ hh _ hc]
def vP (hs:List aB) (lk:List (aA×aA)):Prop:=∃ R d,UF lk R d∧LK hs R
theorem vP.start:vP [] []:=⟨fun s=>s,fun _=>0,fun s=>⟨fun _=>rfl,fun o ho=>(by cases ho)⟩,by simp,fun x y e=>by cases (show x=y from e);exact .refl _⟩
theorem vP.join {hs hs':List aB} {lk:List (aA×aA)} (h:vP hs lk) (a b:aA) (hm:∀ x y,Cn hs x y→Cn hs' x y) (hab:Cn hs' a b)
  (hn:∀ h∈hs',∀ s∈aY h,Cn hs s h.name∨s=a∧h.name=b):∃ r q,sL lk a=some r∧sL lk b=some q∧vP hs' (put lk r q):=by
 obtain ⟨R,d,hu,hk⟩:=h;obtain ⟨d',hu'⟩:=hu.join a b;refine ⟨R a,R b,hu.e53 a,hu.e53 b,_,d',hu',fun h hh s hs=>?_,fun x y e=>?_⟩
 ·rcases hn h hh s hs with hc | ⟨rfl,e⟩
  ·have:=hk.iff.1 hc;show (if R s=R a then R b else R s)=if R h.name=R a then R b else R h.name;rw [this]
  subst e;show (if R s=R s then R h.name else R s)=if R h.name=R s then R h.name else R h.name;rw [if_pos rfl];split <;> rfl
 by_cases hx:R x=R a <;> by_cases hy:R y=R a
 ·exact hm _ _ (hk.cn _ _ (hx.trans hy.symm))
 ·simp only [if_pos hx,if_neg hy] at e;exact ((hm _ _ (hk.cn _ _ hx)).trans hab).trans (hm _ _ (hk.cn _ _ e))
 ·simp only [if_neg hx,if_pos hy] at e;exact (hm _ _ (hk.cn _ _ e)).trans (hab.symm.trans (hm _ _ (hk.cn _ _ hy.symm)))
 simp only [if_neg hx,if_neg hy] at e;exact hm _ _ (hk.cn _ _ e)
def DX (h:aB) (i:Nat):aB:=⟨h.name,h.aC.take i,h.aM,h.aG⟩
theorem eP {h:aB} {i:Nat} {s:aA}:s∈aY (DX h i)↔s=h.name∨s∈h.aC.take i:=cK
theorem JL (h:aB):DX h h.aC.length=h:=by unfold DX;rw [List.take_length]
theorem NN {hs:List aB} {h:aB} {lk:List (aA×aA)} (hl:vP (hs++[DX h 0]) lk) (hv:h.aC.length≤1000) :
  ∃ lk',aX (kD h) (0,lk)=some lk'∧vP (hs++[h]) lk':=by
 refine iU h.aC (fun i lk=>vP (hs++[DX h i]) lk) (vP (hs++[h])) (fun i x lk hx hI=>?_) (fun lk hI=>?_) hl
 ·have hlt:=(List.getElem?_eq_some_iff.1 hx).1
  obtain ⟨r,q,h1,h2,h3⟩:=hI.join (hs':=hs++[DX h (i+1)]) x h.name (fun a b hc=>hc.lift fun k hk a ha b hb=>by
    rcases List.mem_append.1 hk with hk | hk
    ·exact .of (List.mem_append_left _ hk) ha hb
    simp at hk;subst hk;have up:∀ {s},s∈aY (DX h i)→s∈aY (DX h (i+1)):=fun hs=>by
     rw [eP] at hs ⊢;rw [dO hx];exact hs.imp id fun h=>List.mem_append_left _ h
    exact .of (List.mem_append_right _ (List.mem_singleton.2 rfl)) (up ha) (up hb))
   (.of (h:=DX h (i+1)) (List.mem_append_right _ (List.mem_singleton.2 rfl)) (eP.2 (.inr (by rw [dO hx];simp))) (eP.2 (.inl rfl)))
   (fun k hk s hsn=>by
    rcases List.mem_append.1 hk with hk | hk
    ·exact .inl (.of (List.mem_append_left _ hk) hsn (bG k))
    simp at hk;subst hk;rw [eP,dO hx] at hsn;have hin:∀ {s},s∈aY (DX h i)→Cn (hs++[DX h i]) s (DX h (i+1)).name:=fun hs=>.of (List.mem_append_right _ (List.mem_singleton.2 rfl)) hs (eP.2 (.inl rfl));rcases hsn with hs | hs
    ·exact .inl (hin (eP.2 (.inl hs)))
    rcases List.mem_append.1 hs with hs | hs
    ·exact .inl (hin (eP.2 (.inr hs)))
    simp at hs;exact .inr ⟨hs,rfl⟩)
  refine ⟨put lk r q,?_,h3⟩;unfold kD;simp only;rw [if_pos (by omega),hx,Option.bind_some,h1,Option.bind_some,h2];rfl
 refine ⟨lk,?_,by rw [JL] at hI;exact hI⟩;unfold kD;simp
theorem GH {l hs:List aB} {lk:List (aA×aA)} (hl:vP hs lk) (hv:∀ h∈l,h.aC.length≤1000) :
  ∃ lk',aX (kE l) (0,lk)=some lk'∧vP (hs++l) lk':=by
 refine iU l (fun i lk=>vP (hs++l.take i) lk) (vP (hs++l)) (fun i x lk hx hI=>?_) (fun lk hI=>?_) (by simpa using hl)
 ·have hlt:=(List.getElem?_eq_some_iff.1 hx).1;obtain ⟨r,q,h1,h2,h3⟩:=hI.join (hs':=hs++l.take i++[DX x 0]) x.name x.name (fun a b hc=>hc.mono fun k hk=>List.mem_append_left _ hk) (.refl _)
   (fun k hk s hs=>by
    rcases List.mem_append.1 hk with hk | hk
    ·exact .inl (.of hk hs (bG k))
    simp at hk;subst hk;rw [eP] at hs;rcases hs with hs | hs
    ·exact .inr ⟨hs,rfl⟩
    simp at hs)
  have e:q=r:=by rw [h1] at h2;exact (Option.some.inj h2).symm
  subst e;obtain ⟨lk',h4,h5⟩:=NN h3 (hv x (List.mem_of_getElem? hx));refine ⟨lk',?_,by rw [dO hx,← List.append_assoc];exact h5⟩;unfold kE;simp only;rw [if_pos (by omega),hx,Option.bind_some,h1];simp only [Option.bind_some];rw [h4];rfl
 refine ⟨lk,?_,by simpa using hI⟩;unfold kE;simp
theorem nB {α:Type} {n:Nat}:∀ {L:List (List α)},(∀ l∈L,l.length≤n)→L.flatten.length≤n*L.length
 | [],_=>by simp
 | x::L,h=>by
  have h1:=h x List.mem_cons_self;have h2:=nB (L:=L) fun l hl=>h l (List.mem_cons_of_mem _ hl);simp only [List.flatten_cons,List.length_append,List.length_cons,Nat.mul_add,Nat.mul_one];omega
theorem NO {inds:List (List aB)} (hi:∀ l∈inds,Ix l) (hn:inds.length≤12) :
  ∃ lk,aX (fV inds) (0,([]:List aB),([]:List (aA×aA)))=some (.inl (inds.flatten,lk))∧vP inds.flatten lk:=by
 refine (fun key=>?_) (iU inds (S:=List aB×List (aA×aA)) (step:=fV inds) (s0:=([],[])) (fun i s=>s.1=(inds.take i).flatten∧vP s.1 s.2)
  (fun e=>∃ lk,e=.inl (inds.flatten,lk)∧vP inds.flatten lk) (fun i x s hx hI=>?_) (fun s hI=>?_) ⟨by simp,vP.start⟩)
 ·obtain ⟨e,h1,lk,h2,h3⟩:=key;exact ⟨lk,by rw [h1,h2],h3⟩
 ·obtain ⟨hs,lk⟩:=s;obtain ⟨e1,hI⟩:=hI;simp only at e1 hI;have hlt:=(List.getElem?_eq_some_iff.1 hx).1;have hix:=hi x (List.mem_of_getElem? hx);obtain ⟨lk',h4,h5⟩:=GH (l:=x) hI fun h hh=>by have:=(hix.rt h hh).2.1.1;omega
  refine ⟨(hs++x,lk'),?_,by rw [dO hx,List.flatten_append,← e1];simp,h5⟩;have h6:hs.length≤60*12:=by
   rw [e1];have:=nB (n:=60) (L:=inds.take i) fun l hl=>(hi l (List.mem_of_mem_take hl)).len;have h7:(inds.take i).length≤12:=by rw [List.length_take];omega
   omega
  have h8:=hix.len;unfold fV;simp only;rw [if_pos (by omega),hx,Option.bind_some,TK,Option.bind_some,gX.2 hix,if_neg (by simp),h4,Option.bind_some,bD (by omega)]
 obtain ⟨hs,lk⟩:=s;obtain ⟨e1,hI⟩:=hI;simp only at e1 hI;rw [List.take_length] at e1;subst e1;exact ⟨.inl (inds.flatten,lk),by unfold fV;simp,lk,rfl,hI⟩
theorem nC {α:Type}:∀ (m:List (aA×α)) (k:aA) (v:α),(put m k v).map Prod.fst=if k∈m.map Prod.fst then m.map Prod.fst else m.map Prod.fst++[k]
 | [],k,v=>by simp [put]
 | (q,w)::m,k,v=>by
  unfold put;by_cases h:k=q
  ·subst h;simp
  rw [if_neg h,List.map_cons,nC m k v];simp only [List.map_cons,List.mem_cons,h,false_or]
  split <;> simp
theorem GI {α:Type} {m:List (aA×α)} {k:aA} {v:α} (h:(m.map Prod.fst).Nodup):((put m k v).map Prod.fst).Nodup:=by
 rw [nC]
 split
 ·exact h
 rename_i hk;exact iQ h hk
theorem JM {α:Type} {m:List (aA×α)} {k:aA} {v:α}:(put m k v).length≤m.length+1:=by
 have:=congrArg List.length (nC m k v);rw [List.length_map] at this
 split at this <;> simp at this <;> omega
theorem GJ {α:Type} {m:List (aA×α)} {k:aA} {v:α} (h:(lkp m k).isSome=true):(put m k v).length=m.length:=by
 have:=congrArg List.length (nC m k v)
 rwa [if_pos (iT.1 h),List.length_map,List.length_map] at this
def gJ (R:aA→aA) (hs:List aB) (k:aA):List aB:=hs.filter fun h=>decide (R h.name=k)
def GK (R:aA→aA) (hs:List aB) (k:aA):bP:=⟨⟨[],(gJ R hs k).flatMap (·.aC),(gJ R hs k).flatMap (·.aM),(gJ R hs k).flatMap (·.aG)⟩,(gJ R hs k).map (·.name)⟩
theorem jO (R:aA→aA) (hs:List aB) (x:aB) (k:aA):gJ R (hs++[x]) k=gJ R hs k++if R x.name=k then [x] else []:=by
 unfold gJ;rw [List.filter_append];by_cases h:R x.name=k <;> simp [h]
structure WK (R:aA→aA) (hs:List aB) (m:List (aA×bP)):Prop where
 nd:(m.map Prod.fst).Nodup
 at_:∀ k,lkp m k=if gJ R hs k=[] then none else some (GK R hs k)
 len:m.length≤hs.length
theorem JN (R:aA→aA) (hs:List aB) (k:aA):(gJ R hs k).length≤hs.length:=List.length_filter_le _ _
theorem vQ {α:Type} {f:aB→List α} {n:Nat}:∀ {l:List aB},(∀ h∈l,(f h).length≤n)→(l.flatMap f).length≤n*l.length
 | [],_=>by simp
 | x::l,h=>by
  have h1:=h x List.mem_cons_self;have h2:=vQ (l:=l) fun y hy=>h y (List.mem_cons_of_mem _ hy);simp only [List.flatMap_cons,List.length_append,List.length_cons,Nat.mul_add,Nat.mul_one];omega
def mA (hs:List aB):Prop:=hs.length≤1000∧∀ h∈hs,Rt h
theorem fI {R:aA→aA} {hs:List aB} {k:aA} {h:aB}:h∈gJ R hs k↔h∈hs∧R h.name=k:=by unfold gJ;rw [List.mem_filter,decide_eq_true_iff]
theorem yL {R:aA→aA} {hs:List aB} (hh:mA hs) (k:aA):((gJ R hs k).flatMap (·.aC)).length≤8000∧((gJ R hs k).flatMap (·.aM)).length≤8000∧((gJ R hs k).flatMap (·.aG)).length≤30000∧((gJ R hs k).map (·.name)).length≤1000:=by
 have h0:=JN R hs k;have h1:=vQ (l:=gJ R hs k) (f:=(·.aC)) (n:=8) fun h hm=>(hh.2 h (fI.1 hm).1).2.1.1;have h2:=vQ (l:=gJ R hs k) (f:=(·.aM)) (n:=8) fun h hm=>(hh.2 h (fI.1 hm).1).2.2.1.1;have h3:=vQ (l:=gJ R hs k) (f:=(·.aG)) (n:=30) fun h hm=>(hh.2 h (fI.1 hm).1).2.2.2.1;have h4:=hh.1;rw [List.length_map];omega
theorem mA.take {hs:List aB} (h:mA hs) (i:Nat):mA (hs.take i):=⟨by have:=h.1;rw [List.length_take];omega,fun x hx=>h.2 x (List.mem_of_mem_take hx)⟩
theorem NP {hs:List aB} {lk:List (aA×aA)} {R:aA→aA} {d:aA→Nat} (hu:UF lk R d) (hh:mA hs) :
  ∃ m,aX (kF (hs,lk)) (0,([]:List (aA×bP)))=some m∧WK R hs m:=by
 refine iU hs (fun i m=>WK R (hs.take i) m) (WK R hs) (fun i x m hx hI=>?_) (fun m hI=>?_) ⟨by simp,fun k=>by simp [gJ,lkp],by simp⟩
 ·have hlt:=(List.getElem?_eq_some_iff.1 hx).1;have hr:=hh.2 x (List.mem_of_getElem? hx);obtain ⟨l1,l2,l3,l4⟩:=yL (R:=R) (hh.take i) (R x.name);obtain ⟨t,ht,htl,htn,hta,hto⟩:∃ t,((if (lkp m (R x.name)).isSome then (some m) else some (put m (R x.name) mP):Option (List (aA×bP))))=some t∧t.length≤m.length+1∧(t.map Prod.fst).Nodup∧lkp t (R x.name)=some (GK R (hs.take i) (R x.name))∧∀ k,k≠R x.name→lkp t k=lkp m k:=by
   have h1:=hI.at_ (R x.name);by_cases he:gJ R (hs.take i) (R x.name)=[]
   ·rw [if_pos he] at h1;refine ⟨put m (R x.name) mP,by rw [h1];rfl,JM,GI hI.nd,?_,fun k hk=>by rw [lA,if_neg hk]⟩;rw [lA,if_pos rfl];unfold GK;rw [he];rfl
   rw [if_neg he] at h1;exact ⟨m,by rw [h1];rfl,by omega,hI.nd,h1,fun _ _=>rfl⟩
  refine ⟨put t (R x.name) (GK R (hs.take i++[x]) (R x.name)),?_,GI htn,fun k=>?_,?_⟩
  ·unfold kF;simp only;rw [if_pos (by omega),hx,Option.bind_some,hu.e53,Option.bind_some,ht,Option.bind_some,hta,Option.bind_some];have v1:=hr.2.1.1;have v2:=hr.2.2.1.1;have v3:=hr.2.2.2.1;unfold GK;simp only;rw [bD (by simp only [List.length_singleton];omega),bD (by omega),bD (by omega),bD (by omega),jO,if_pos rfl];simp
  ·rw [lA,dO hx,jO];by_cases hk:k=R x.name
   ·subst hk;simp
   have hk':¬R x.name=k:=fun e=>hk e.symm;unfold GK;rw [if_neg hk,hto k hk,hI.at_ k,jO,if_neg hk',List.append_nil];rfl
  rw [GJ (by rw [hta];rfl)];have h1:=hI.len;rw [List.length_take] at h1 ⊢;omega
 refine ⟨m,by unfold kF;simp,by rw [List.take_length] at hI;exact hI⟩
section
variable {S ρ:Type}
theorem CH {n:Nat} {step:S→Nat→Option (S⊕ρ)} {Kf:S→Option ρ} {s0:S} {z:ρ} (h:∀ l:List Nat,l.Perm (List.range n)→foldK step Kf l s0=some z):qX n step Kf s0=some z:=by
 have hx:∃ z,∀ l:List Nat,l.Perm (List.range n)→foldK step Kf l s0=some z:=⟨z,h⟩;unfold qX;rw [dif_pos hx,← hx.choose_spec (List.range n) (List.Perm.refl _),h _ (List.Perm.refl _)]
theorem jH {α:Type} {step:List α→Nat→Option (List α⊕ρ)} {Kf:List α→Option ρ} (P:α→Prop) (F:α→α) (hst:∀ s i x,s[i]?=some x→P x→step s i=some (.inl (s.set i (F x)))) (s0:List α) (hP:∀ x∈s0,P x) :
  ∀ (l:List Nat) (s:List α),l.Nodup→(∀ i∈l,i < s0.length)→s.length=s0.length→(∀ i∈l,s[i]?=s0[i]?)→(∀ i,i∉l→s[i]?=(s0.map F)[i]?)→foldK step Kf l s=Kf (s0.map F)
 | [],s,_,_,hlen,_,h=>by
  have:s=s0.map F:=List.ext_getElem? fun i=>h i (by simp);rw [this];rfl
 | i::l,s,hn,hlt,hlen,h1,h2=>by
  obtain ⟨hn1,hn2⟩:=List.nodup_cons.1 hn;have hi:=hlt i List.mem_cons_self;have e:=h1 i List.mem_cons_self;rw [List.getElem?_eq_getElem hi] at e;unfold foldK;rw [hst s i _ e (hP _ (List.getElem_mem hi))];refine jH P F hst s0 hP l _ hn2 (fun j hj=>hlt j (List.mem_cons_of_mem _ hj)) (by simp [hlen]) (fun j hj=>?_) (fun j hj=>?_)
  ·have:i≠j:=fun e=>hn1 (e▸hj);rw [List.getElem?_set_ne this];exact h1 j (List.mem_cons_of_mem _ hj)
  by_cases hij:i=j
  ·subst hij;rw [List.getElem?_set_self (by omega)];simp [hi]
  rw [List.getElem?_set_ne hij];exact h2 j (by simp only [List.mem_cons,not_or];exact ⟨fun e=>hij e.symm,hj⟩)
theorem DY {α:Type} {step:List α→Nat→Option (List α⊕ρ)} {Kf:List α→Option ρ} (P:α→Prop) (F:α→α) (hst:∀ s i x,s[i]?=some x→P x→step s i=some (.inl (s.set i (F x)))) {s0:List α} (hP:∀ x∈s0,P x) {l:List Nat} (hl:l.Perm (List.range s0.length)) :
  foldK step Kf l s0=Kf (s0.map F):=by
 have hm:∀ i,i∈l↔i < s0.length:=fun i=>by rw [hl.mem_iff,List.mem_range]
 refine jH P F hst s0 hP l s0 (hl.nodup_iff.2 List.nodup_range) (fun i hi=>(hm i).1 hi) rfl (fun _ _=>rfl) fun i hi=>?_;have:s0.length≤i:=by rw [hm] at hi;omega
 rw [List.getElem?_eq_none this,List.getElem?_eq_none (by simpa using this)]
theorem yM {α:Type} {step:List α→Nat→Option (List α⊕ρ)} {Kf:List α→Option ρ} (g:Nat→α) (bad:Nat→Bool) (z:ρ) (n:Nat) (hst:∀ s i,i < n→s.length≤n→step s i=some (if bad i then .inr z else .inl (s++[g i]))) :
  ∀ (l:List Nat) (s:List α),(∀ i∈l,i < n)→s.length+l.length≤n→foldK step Kf l s=if l.any bad then some z else Kf (s++l.map g)
 | [],s,_,_=>by simp [foldK]
 | i::l,s,hlt,hlen=>by
  simp only [List.length_cons] at hlen;unfold foldK;rw [hst s i (hlt i List.mem_cons_self) (by omega)]
  cases hb:bad i with
  | true=>simp [hb]
  | false =>
   simp only [Bool.false_eq_true,if_false,List.any_cons,hb,Bool.false_or];rw [yM g bad z n hst l _ (fun j hj=>hlt j (List.mem_cons_of_mem _ hj)) (by simp;omega)];simp
end
end T11
namespace T11
open Go Go.Proofs Pk
theorem mB {h:aB} (hr:Rt h):(∀ s∈aY h,s.length≤40)∧∀ s∈h.aM,s.length≤40:=by
 have nb:∀ {s},dC s=true→s.length≤40:=fun {s} h=>by
  unfold dC at h;simp only [Bool.and_eq_true,decide_eq_true_eq] at h;exact h.1.1.1.1.2
 refine ⟨fun s hs=>?_,fun s hs=>nb (hr.2.2.1.2.1 s hs)⟩;rcases cK.1 hs with rfl | hs
 ·exact nb hr.1
 exact nb (hr.2.1.2.1 s hs)
theorem CI {α β:Type} (f:α→β):∀ (m:List (aA×α)) (k:aA),lkp (m.map fun q=>(q.1,f q.2)) k=(lkp m k).map f
 | [],k=>rfl
 | (q,w)::m,k=>by
  simp only [List.map_cons,lkp]
  split
  ·rfl
  exact CI f m k
theorem vT {α:Type}:∀ {m:List (aA×α)} {k:aA} {y:α},(m.map Prod.fst).Nodup→(k,y)∈m→lkp m k=some y
 | (q,w)::m,k,y,hn,h=>by
  simp only [List.map_cons,List.nodup_cons] at hn;simp only [lkp];rcases List.mem_cons.1 h with e | h
  ·cases e;rw [if_pos rfl]
  rw [if_neg (fun e=>hn.1 (by rw [← e];exact List.mem_map.2 ⟨_,h,rfl⟩))];exact vT hn.2 h
theorem CJ {α:Type}:∀ {m:List (aA×α)} {k:aA} {y:α},lkp m k=some y→(k,y)∈m
 | (q,w)::m,k,y,h=>by
  simp only [lkp] at h
  split at h
  ·rename_i e;cases h;subst e;exact List.mem_cons_self
  exact List.mem_cons_of_mem _ (CJ h)
def lM (g:bP):bP:=⟨⟨DW g.aZ,g.aD.aC,g.aD.aM,g.aD.aG⟩,g.aZ⟩
def AL (R:aA→aA) (hs:List aB) (k:aA):aA:=DW ((gJ R hs k).map (·.name))
structure bN (hs:List aB) (lk:List (aA×aA)) (R:aA→aA) (d:aA→Nat) (m:List (aA×bP)):Prop where
 uf:UF lk R d
 lk_:LK hs R
 sm:mA hs
 cl:clo hs
 ga:WK R hs m
section
variable {hs:List aB} {lk:List (aA×aA)} {R:aA→aA} {d:aA→Nat} {m:List (aA×bP)}
theorem bN.M (E:bN hs lk R d m) {k:aA} (hk:gJ R hs k≠[]):R (AL R hs k)=k∧Hd hs (AL R hs k) (AL R hs k):=by
 obtain ⟨h,hh,e⟩:=List.mem_map.1 (GG (l:=(gJ R hs k).map (·.name)) (by simpa using hk));obtain ⟨h1,h2⟩:=fI.1 hh;have e1:h.name=AL R hs k:=e;have e2:R (AL R hs k)=k:=by rw [← e1];exact h2
 refine ⟨e2,⟨h,h1,e1⟩,.refl _,fun q hq hc=>?_⟩;have:=E.lk_.iff.1 hc;exact JK (List.mem_map.2 ⟨q,fI.2 ⟨hq,by rw [← this,e2]⟩,rfl⟩)
theorem bN.hd (E:bN hs lk R d m) {h:aB} (hh:h∈hs):Hd hs h.name (AL R hs (R h.name)):=by
 have hk:gJ R hs (R h.name)≠[]:=fun e=>by
  have:h∈gJ R hs (R h.name):=fI.2 ⟨hh,rfl⟩;rw [e] at this;cases this
 obtain ⟨h1,h2⟩:=E.M hk;exact h2.at (E.lk_.cn _ _ h1.symm)
def pV (g:aB):Bool:=decide (8 < g.aC.length)||decide (8 < g.aM.length)||decide (30 < g.aG.length)
theorem bN.entry (E:bN hs lk R d m) {i:Nat} {k:aA} {y:bP} (hi:m[i]?=some (k,y)) :
  ∃ g,DT hs g∧R g.name=k∧∀ s,s.length≤1000→kH (m.map fun q=>(q.1,lM q.2)) (hs,lk) s i=some (if pV g then .inr ([],3) else .inl (s++[g])):=by
 have hy:lkp m k=some y:=vT E.ga.nd (List.mem_of_getElem? hi);rw [E.ga.at_] at hy;by_cases hk:gJ R hs k=[]
 ·rw [if_pos hk] at hy;cases hy
 rw [if_neg hk] at hy;cases hy;obtain ⟨hM,hMd⟩:=E.M hk;obtain ⟨l1,l2,l3,l4⟩:=yL (R:=R) E.sm k;have hin:∀ {h},h∈gJ R hs k↔h∈hs∧Cn hs (AL R hs k) h.name:=fun {h}=>by
  rw [fI,E.lk_.iff,hM];exact ⟨fun ⟨a,b⟩=>⟨a,b.symm⟩,fun ⟨a,b⟩=>⟨a,b.symm⟩⟩
 obtain ⟨vs,v1,v2,v3⟩:=e56 (but:=AL R hs k) (L:=[(gJ R hs k).flatMap (·.aC),(gJ R hs k).map (·.name)]) (by simp at l1 l4 ⊢;omega) (by simp) (fun s hs'=>by
  simp only [List.flatten_cons,List.flatten_nil,List.append_nil,List.mem_append,List.mem_flatMap,List.mem_map] at hs';rcases hs' with ⟨h,hh,h1⟩ | ⟨h,hh,rfl⟩
  ·have:=(mB (E.sm.2 h (hin.1 hh).1)).1 s (cK.2 (.inr h1));omega
  have:=(mB (E.sm.2 h (hin.1 hh).1)).1 h.name (bG h);omega)
 obtain ⟨ps,p1,p2,p3⟩:=e57 (l:=(gJ R hs k).flatMap (·.aG)) (by omega) (fun p hp=>by
  obtain ⟨h,hh,hp⟩:=List.mem_flatMap.1 hp
  exact (E.sm.2 h (hin.1 hh).1).2.2.2.2.ok p hp)
 have hal:∀ t∈(gJ R hs k).flatMap (·.aM),∃ q∈hs,q.name=t:=fun t ht=>by
  obtain ⟨h,hh,ht⟩:=List.mem_flatMap.1 ht;exact E.cl h (hin.1 hh).1 t ht
 have h9:aX (kG (k,lM (GK R hs k)) (hs,lk) (m.map fun q=>(q.1,lM q.2))) (0,([]:List aA))=some (((gJ R hs k).flatMap (·.aM)).map fun t=>AL R hs (R t)):=by
  refine jR ((gJ R hs k).flatMap (·.aM)) (fun t=>AL R hs (R t)) (fun a=>a) (fun i x a hi hx ha=>?_) (fun a=>?_)
  ·obtain ⟨q,hq,e⟩:=hal x (List.mem_of_getElem? hx);have hne:gJ R hs (R x)≠[]:=fun e2=>by
    have:q∈gJ R hs (R x):=fI.2 ⟨hq,by rw [e]⟩;rw [e2] at this;cases this
   unfold kG;show (if (i:Int) < (((gJ R hs k).flatMap (·.aM)).length:Int) then _ else _:Option ((Nat×List aA)⊕List aA))=_;rw [if_pos (by omega)];change (((gJ R hs k).flatMap (·.aM))[i]?).bind _=_;rw [hx,Option.bind_some,E.uf.e53,Option.bind_some,CI,E.ga.at_,if_neg hne];simp only [Option.map_some,Option.bind_some];rw [bD (by omega)];rfl
  unfold kG;simp [lM,GK]
 obtain ⟨al,a1,a2,a3⟩:=e56 (but:=AL R hs k) (L:=[((gJ R hs k).flatMap (·.aM)).map fun t=>AL R hs (R t)]) (by simp at l2 ⊢;omega) (by simp) (fun s hs'=>by
  simp only [List.flatten_cons,List.flatten_nil,List.append_nil,List.mem_map] at hs';obtain ⟨t,ht,rfl⟩:=hs';obtain ⟨q,hq,rfl⟩:=hal t ht;obtain ⟨q',hq',e⟩:=(E.hd hq).1;rw [← e]
  have:=(mB (E.sm.2 q' hq')).1 q'.name (bG q');omega)
 refine ⟨⟨AL R hs k,vs,al,ps⟩,⟨hMd,v2,fun s=>?_,a2,fun s=>?_,p2,fun v c=>?_⟩,hM,fun s hs'=>?_⟩
 ·rw [v3];refine and_congr_right fun _=>?_;simp only [List.flatten_cons,List.flatten_nil,List.append_nil,List.mem_append,List.mem_flatMap,List.mem_map];constructor
  ·rintro (⟨h,hh,h1⟩ | ⟨h,hh,rfl⟩)
   ·exact ⟨h,(hin.1 hh).1,cK.2 (.inr h1),(hin.1 hh).2⟩
   exact ⟨h,(hin.1 hh).1,bG h,(hin.1 hh).2⟩
  rintro ⟨h,hh,h1,h2⟩;rcases cK.1 h1 with rfl | h1
  ·exact .inr ⟨h,hin.2 ⟨hh,h2⟩,rfl⟩
  exact .inl ⟨h,hin.2 ⟨hh,h2⟩,h1⟩
 ·rw [a3];refine and_congr_right fun _=>?_;simp only [List.flatten_cons,List.flatten_nil,List.append_nil,List.mem_map,List.mem_flatMap];constructor
  ·rintro ⟨t,⟨h,hh,ht⟩,rfl⟩;obtain ⟨q,hq,rfl⟩:=hal t (List.mem_flatMap.2 ⟨h,hh,ht⟩);exact ⟨h,(hin.1 hh).1,(hin.1 hh).2,q.name,ht,E.hd hq⟩
  rintro ⟨h,hh,hc,t,ht,hd⟩;have hg:=hin.2 ⟨hh,hc⟩;obtain ⟨q,hq,rfl⟩:=hal t (List.mem_flatMap.2 ⟨h,hg,ht⟩);exact ⟨q.name,⟨h,hg,ht⟩,(E.hd hq).uniq hd⟩
 ·rw [p3];unfold jC;simp only [List.mem_flatMap];constructor
  ·rintro ⟨p,⟨h,hh,hp⟩,h1⟩;exact ⟨h,(hin.1 hh).1,(hin.1 hh).2,p,hp,h1⟩
  rintro ⟨h,hh,hc,p,hp,h1⟩;exact ⟨p,⟨h,hin.2 ⟨hh,hc⟩,hp⟩,h1⟩
 have e1:(m.map fun q=>(q.1,lM q.2))[i]?=some (k,lM (GK R hs k)):=by rw [List.getElem?_map,hi];rfl
 unfold kH;rw [e1,Option.bind_some,h9];simp only [lM,GK];change (AA (AL R hs k) _).bind _=_;rw [v1,Option.bind_some,p1,Option.bind_some,Option.bind_some];change (AA (AL R hs k) _).bind _=_;rw [a1,Option.bind_some];unfold pV;simp only;by_cases b1:8 < vs.length
 ·rw [if_pos (by omega)];simp [b1]
 rw [if_neg (by omega)];by_cases b2:8 < al.length
 ·rw [if_pos (by omega)];simp [b2]
 rw [if_neg (by omega)];by_cases b3:30 < ps.length
 ·have b3':30 < (ps.length:Int):=by omega
  simp only [b1,b2,b3,b3',decide_true,decide_false,Bool.or_true,if_true,Option.bind_some]
 have b3':¬30 < (ps.length:Int):=by omega
 simp only [b1,b2,b3,b3',decide_false,Bool.or_self,Bool.false_eq_true,if_false,Option.bind_some];rw [bD (by omega)];rfl
end
end T11
namespace T11
open Go Go.Proofs Pk
theorem rV {a b:aB} (ha:a.name.length≤1073741824) (hb:b.name.length≤1073741824):dS BQ a b=bT a.name b.name:=by
 unfold dS BQ bT;rw [PW ha hb];rfl
theorem TO {l:List aB} (hl:l.length≤1073741824) (hb:∀ x∈l,x.name.length≤1073741824) (hi:∀ x∈l,∀ y∈l,x.name=y.name→x=y):fN BQ l :=
  ⟨hl,fun x hx y hy=>⟨_,by unfold BQ;rw [PW (hb x hx) (hb y hy)];rfl⟩,fun x hx=>by rw [rV (hb x hx) (hb x hx)];exact rQ _,
   fun x hx y hy z hz h1 h2=>by rw [rV (hb x hx) (hb y hy)] at h1;rw [rV (hb y hy) (hb z hz)] at h2;rw [rV (hb x hx) (hb z hz)];exact gH h1 h2,
   fun x hx y hy h1 h2=>by
    rw [rV (hb x hx) (hb y hy)] at h1;rw [rV (hb y hy) (hb x hx)] at h2;refine hi x hx y hy ?_;apply Classical.byContradiction;intro e
    rw [mU e,h1] at h2;cases h2⟩
instance (x:List aB):Decidable (vN x):=by unfold vN;infer_instance
theorem e18 {inds:List (List aB)} (hi:∀ l∈inds,Ix l) (hn:inds.length≤12):∃ x,dI inds.flatten x∧m18 inds=some (if vN x then (x,0) else ([],3)):=by
 obtain ⟨lk,h1,R,d,hu,hk⟩:=NO hi hn;have hsm:mA inds.flatten:=by
  refine ⟨?_,fun h hh=>?_⟩
  ·have:=nB (n:=60) (L:=inds) fun l hl=>(hi l hl).len;omega
  obtain ⟨l,hl,hh⟩:=List.mem_flatten.1 hh;exact (hi l hl).rt h hh
 have hcl:clo inds.flatten:=fun h hh t ht=>by
  obtain ⟨l,hl,hh⟩:=List.mem_flatten.1 hh;obtain ⟨k,hk,e⟩:=(hi l hl).clo h hh t ht;exact ⟨k,List.mem_flatten.2 ⟨l,hl,hk⟩,e⟩
 obtain ⟨m,h2,hg⟩:=NP hu hsm;generalize inds.flatten=hs at *;have E:bN hs lk R d m:=⟨hu,hk,hsm,hcl,hg⟩;have hml:m.length≤1000:=by have:=hg.len;have:=hsm.1;omega
 have hent:∀ i,∃ g,i < m.length→DT hs g∧(∀ q,m[i]?=some q→R g.name=q.1)∧∀ s:List aB,s.length≤1000→kH (m.map fun q=>(q.1,lM q.2)) (hs,lk) s i=some (if pV g then .inr ([],3) else .inl (s++[g])):=fun i=>by
  by_cases hlt:i < m.length
  ·obtain ⟨g,g1,g2,g3⟩:=E.entry (i:=i) (k:=m[i].1) (y:=m[i].2) (List.getElem?_eq_getElem hlt);exact ⟨g,fun _=>⟨g1,fun q hq=>by rw [List.getElem?_eq_getElem hlt] at hq;cases hq;exact g2,g3⟩⟩
  exact ⟨default,fun h=>absurd h hlt⟩
 obtain ⟨gi,hgi⟩:=Classical.axiomOfChoice hent;have hnm:∀ i,i < m.length→(gi i).name.length≤40:=fun i hlt=>by
  obtain ⟨h,hh,e⟩:=(hgi i hlt).1.hd.1;rw [← e];exact (mB (hsm.2 h hh)).1 _ (bG h)
 have hinj:∀ i,i < m.length→∀ j,j < m.length→(gi i).name=(gi j).name→i=j:=fun i hi j hj e=>by
  have e1:=(hgi i hi).2.1 _ (List.getElem?_eq_getElem hi);have e2:=(hgi j hj).2.1 _ (List.getElem?_eq_getElem hj);have e3:(m.map Prod.fst)[i]'(by simpa using hi)=(m.map Prod.fst)[j]'(by simpa using hj):=by
   rw [List.getElem_map,List.getElem_map,← e1,← e2,e]
  have h4:=List.pairwise_iff_getElem.1 hg.nd;rcases Nat.lt_trichotomy i j with h | h | h
  ·exact absurd e3 (h4 i j _ _ h)
  ·exact h
  exact absurd e3.symm (h4 j i _ _ h)
 have hok:∀ l:List Nat,l.Perm (List.range m.length)→fN BQ (l.map gi):=fun l hl=>by
  have hm:∀ x∈l.map gi,∃ i,i < m.length∧gi i=x:=fun x hx=>by
   obtain ⟨i,hi,e⟩:=List.mem_map.1 hx;exact ⟨i,List.mem_range.1 (hl.subset hi),e⟩
  refine TO (by rw [List.length_map,hl.length_eq,List.length_range];omega) (fun x hx=>?_) (fun x hx y hy e=>?_)
  ·obtain ⟨i,hi,rfl⟩:=hm x hx;have:=hnm i hi;omega
  obtain ⟨i,hi,rfl⟩:=hm x hx;obtain ⟨j,hj,rfl⟩:=hm y hy;rw [hinj i hi j hj e]
 have hnd:∀ l:List Nat,l.Perm (List.range m.length)→(l.map gi).Nodup:=fun l hl=>by
  unfold List.Nodup;rw [List.pairwise_map];refine (hl.nodup_iff.2 List.nodup_range).imp_of_mem fun {i j} hi hj hne e=>hne ?_;exact hinj i (List.mem_range.1 (hl.subset hi)) j (List.mem_range.1 (hl.subset hj)) (by rw [e])
 obtain ⟨x,x1,x2,x3⟩:=yJ (hok _ (List.Perm.refl _));have hxm:∀ g,g∈x↔∃ i,i < m.length∧gi i=g:=fun g=>by
  rw [x2.mem_iff,List.mem_map];simp only [List.mem_range]
 have hJ:dI hs x:=by
  refine ⟨?_,fun h hh=>?_,fun g hg'=>?_⟩
  ·refine (x3.and (x2.nodup_iff.2 (hnd _ (List.Perm.refl _)))).imp_of_mem fun {a b} ha hb h=>?_;obtain ⟨i,hi,rfl⟩:=(hxm a).1 ha;obtain ⟨j,hj,rfl⟩:=(hxm b).1 hb;have n1:=hnm i hi;have n2:=hnm j hj;have h3:=h.1;rw [rV (by omega) (by omega)] at h3;have hne:(gi i).name≠(gi j).name:=fun e=>h.2 (by rw [hinj i hi j hj e]);rcases fH hne with h4 | h4
   ·exact h4
   unfold fB at h4;rw [h3] at h4;cases h4
  ·have hne:gJ R hs (R h.name)≠[]:=fun e=>by
    have:h∈gJ R hs (R h.name):=fI.2 ⟨hh,rfl⟩;rw [e] at this;cases this
   have h3:=hg.at_ (R h.name);rw [if_neg hne] at h3;obtain ⟨i,hi,e⟩:=List.mem_iff_getElem.1 (CJ h3);refine ⟨gi i,(hxm _).2 ⟨i,hi,rfl⟩,hk.cn _ _ ?_⟩;rw [(hgi i hi).2.1 _ (List.getElem?_eq_getElem hi),e]
  obtain ⟨i,hi,rfl⟩:=(hxm g).1 hg';exact (hgi i hi).1
 refine ⟨x,hJ,?_⟩;have hxl:x.length=m.length:=by rw [x2.length_eq,List.length_map,List.length_range]
 have h6:lL (hs,lk) (m.map fun q=>(q.1,lM q.2))=some (if vN x then (x,0) else ([],3)):=by
  unfold lL;rw [List.length_map];refine CH fun l hl=>?_;have hmem:∀ i,i∈l↔i < m.length:=fun i=>by rw [hl.mem_iff,List.mem_range]
  rw [yM gi (fun i=>pV (gi i)) ([],3) m.length (fun s i hi hs'=>(hgi i hi).2.2 s (by omega)) l [] (fun i hi=>(hmem i).1 hi) (by rw [hl.length_eq];simp)];rw [List.nil_append];by_cases hb:l.any (fun i=>pV (gi i))=true
  ·rw [if_pos hb,if_neg fun hf=>?_];obtain ⟨i,hi,h3⟩:=List.any_eq_true.1 hb;have:=hf.2 (gi i) ((hxm _).2 ⟨i,(hmem i).1 hi,rfl⟩);unfold pV at h3;simp only [Bool.or_eq_true,decide_eq_true_eq] at h3;omega
  rw [if_neg hb];have hall:∀ g∈x,g.aC.length≤8∧g.aM.length≤8∧g.aG.length≤30:=fun g hg'=>by
   obtain ⟨i,hi,rfl⟩:=(hxm g).1 hg';apply Classical.byContradiction;intro hc;apply hb;refine List.any_eq_true.2 ⟨i,(hmem i).2 hi,?_⟩;unfold pV;simp only [Bool.or_eq_true,decide_eq_true_eq];omega
  unfold mQ;rw [List.length_map,hl.length_eq,List.length_range];by_cases h0:60 < m.length
  ·rw [if_pos (by omega),if_neg fun hf=>?_];have:=hf.1;omega
  rw [if_neg (by omega),if_pos ⟨by omega,hall⟩,bD (hnd l hl),kW (hok l hl) (x2.trans (hl.symm.map gi)) x3];rfl
 unfold m18;rw [if_neg (by omega),h1,Option.bind_some];simp only;rw [h2,Option.bind_some];refine CH fun l hl=>?_;rw [DY (fun q:aA×bP=>q.2.aZ≠[]∧∀ s∈q.2.aZ,s.length≤1073741824) (fun q=>(q.1,lM q.2)) (fun s i q hq hp=>?_) (fun q hq=>?_) hl]
 ·exact h6
 ·unfold mR;rw [hq,Option.bind_some,NM hp.1 hp.2,Option.bind_some];rfl
 have h3:=vT hg.nd (k:=q.1) (y:=q.2) hq;rw [hg.at_] at h3;by_cases he:gJ R hs q.1=[]
 ·rw [if_pos he] at h3;cases h3
 rw [if_neg he] at h3;rw [← Option.some.inj h3];refine ⟨by unfold GK;simpa using he,fun s hs'=>?_⟩;obtain ⟨h,hh,rfl⟩:=List.mem_map.1 hs';have:=(mB (hsm.2 h (fI.1 hh).1)).1 _ (bG h);omega
end T11
namespace T11
open Go Go.Proofs Pk
theorem Ix.e24 {x:List aB} (h:Ix x):IV x=some x:=T11.e24 (by have:=h.len;omega) fun k hk=>by
 have:=h.rt k hk;have:=this.2.1.1;have:=(h.rt k hk).2.2.1.1;have:=(h.rt k hk).2.2.2.1;omega
theorem wC {L:List (List aB)} (h:∀ x∈L,Ix x) (hn:L.length≤1000):m19 L=some L:=by
 unfold m19
 rw [jR L (fun x=>x) (fun a=>a) (step:=pH L) (fun i x a hi hxi ha=>by
  unfold pH
  rw [if_pos (show (i:Int) < (L.length:Int) by omega),hxi,Option.bind_some,(h x (List.mem_of_getElem? hxi)).e24,Option.bind_some,bD (by simp only;omega)]) (fun a=>by unfold pH;rw [if_neg (by simp)])]
 simp
theorem CK {L:List (List aB)} (h:∀ l∈L,Ix l):∀ k∈L.flatten,Rt k:=fun k hk=>by
 obtain ⟨l,hl,hk⟩:=List.mem_flatten.1 hk;exact (h l hl).rt k hk
theorem yN {L:List (List aB)} (h:∀ l∈L,Ix l):clo L.flatten:=fun k hk t ht=>by
 obtain ⟨l,hl,hk⟩:=List.mem_flatten.1 hk;obtain ⟨q,hq,e⟩:=(h l hl).clo k hk t ht;exact ⟨q,List.mem_flatten.2 ⟨l,hl,hq⟩,e⟩
theorem JO {L:List (List aB)} (h:∀ l∈L,Ix l) {x:List aB} (hx:dI L.flatten x) (hf:vN x):Ix x:=hx.ix (CK h) (yN h) hf
end T11
namespace T11
open Go Go.Proofs Pk
def iV (x p:aI):Prop:=x.aJ=p.aJ∧x.aW≤p.cL+1∧p.aW≤x.cL+1
instance (x p:aI):Decidable (iV x p):=by unfold iV;infer_instance
def sP (p x:aI):aI:=⟨p.aJ,min p.aW x.aW,max p.cL x.cL⟩
def sQ (p x:aI):Prop:=p.aJ < x.aJ∨p.aJ=x.aJ∧p.cL < x.aW
instance (x p:aI):Decidable (sQ x p):=by unfold sQ;infer_instance
def sD:List aI→aI→List aI
 | [],p=>[p]
 | x::l,p=>if iV x p then sD l (sP p x) else if sQ p x then p::x::l else x::sD l p
theorem GL {p x:aI} (hp:eB p) (hx:eB x) (h:iV x p):eB (sP p x):=by
 unfold eB iV sP at *;simp only;omega
theorem JQ {q p x:aI} (h1:dF q p) (h2:dF q x) (h:iV x p):dF q (sP p x):=by
 unfold dF iV sP at *;simp only;omega
theorem rW {p x:aI} (hp:eB p) (hx:eB x) (h1:¬iV x p) (h2:sQ p x):dF p x:=by
 unfold eB iV sQ dF at *;omega
theorem AM {p x:aI} (hp:eB p) (hx:eB x) (h1:¬iV x p) (h2:¬sQ p x):dF x p:=by
 unfold eB iV sQ dF at *;omega
theorem AN {q:aI}:∀ {l:List aI} {p:aI},(∀ x∈l,dF q x)→dF q p→∀ y∈sD l p,dF q y
 | [],p,_,h,y,hy=>by simp [sD] at hy;subst hy;exact h
 | x::l,p,hl,h,y,hy=>by
  unfold sD at hy
  split at hy
  ·rename_i ht
   exact AN (fun z hz=>hl z (List.mem_cons_of_mem _ hz)) (JQ h (hl x List.mem_cons_self) ht) y hy
  split at hy
  ·rcases List.mem_cons.1 hy with rfl | hy
   ·exact h
   exact hl y hy
  rcases List.mem_cons.1 hy with rfl | hy
  ·exact hl _ List.mem_cons_self
  exact AN (fun z hz=>hl z (List.mem_cons_of_mem _ hz)) h y hy
theorem eC.tail {x:aI} {l:List aI} (h:eC (x::l)):eC l:=⟨fun p hp=>h.ok p (List.mem_cons_of_mem _ hp),(List.pairwise_cons.1 h.gap).2⟩
theorem nD:∀ {l:List aI} {p:aI},eC l→eB p→eC (sD l p)
 | [],p,_,h=>⟨fun q hq=>by simp [sD] at hq;subst hq;exact h,by simp [sD]⟩
 | x::l,p,hl,h=>by
  have hx:=hl.ok x List.mem_cons_self;have hxl:=(List.pairwise_cons.1 hl.gap).1;unfold sD
  split
  ·rename_i ht
   exact nD hl.tail (GL h hx ht)
  rename_i ht
  split
  ·rename_i hb
   have hg:=rW h hx ht hb;refine ⟨fun q hq=>?_,List.pairwise_cons.2 ⟨fun y hy=>?_,hl.gap⟩⟩
   ·rcases List.mem_cons.1 hq with rfl | hq
    ·exact h
    exact hl.ok q hq
   rcases List.mem_cons.1 hy with rfl | hy
   ·exact hg
   exact iO hx hg (hxl y hy)
  rename_i hb
  have hg:=AM h hx ht hb;have ih:=nD hl.tail h;refine ⟨fun q hq=>?_,List.pairwise_cons.2 ⟨AN hxl hg,ih.gap⟩⟩;rcases List.mem_cons.1 hq with rfl | hq
  ·exact hx
  exact ih.ok q hq
theorem iG {x:aI} {l:List aI} {v c:Int}:jC (x::l) v c↔(x.aJ=v∧x.aW≤c∧c≤x.cL)∨jC l v c:=by
 unfold jC;simp
theorem AO {v c:Int}:∀ {l:List aI} {p:aI},jC (sD l p) v c↔jC l v c∨p.aJ=v∧p.aW≤c∧c≤p.cL
 | [],p=>by unfold sD;rw [iG];exact or_comm
 | x::l,p=>by
  unfold sD
  split
  ·rename_i ht
   rw [AO,iG];have:((sP p x).aJ=v∧(sP p x).aW≤c∧c≤(sP p x).cL)↔(x.aJ=v∧x.aW≤c∧c≤x.cL)∨(p.aJ=v∧p.aW≤c∧c≤p.cL):=by
    unfold iV at ht;unfold sP;simp only;omega
   rw [this];constructor
   ·rintro (h | h | h)
    ·exact .inl (.inr h)
    ·exact .inl (.inl h)
    exact .inr h
   rintro ((h | h) | h)
   ·exact .inr (.inl h)
   ·exact .inl h
   exact .inr (.inr h)
  split
  ·rw [iG];exact or_comm
  rw [iG,AO,iG,or_assoc]
theorem qG:∀ {l:List aI} {p:aI},(sD l p).length≤l.length+1
 | [],p=>by simp [sD]
 | x::l,p=>by
  unfold sD
  split
  ·have:=qG (l:=l) (p:=sP p x);simp only [List.length_cons];omega
  split
  ·simp
  have:=qG (l:=l) (p:=p);simp only [List.length_cons];omega
def vU (l m:List aI):List aI:=m.foldl sD l
theorem yO:∀ {m l:List aI},eC l→(∀ p∈m,eB p)→eC (vU l m)∧(∀ v c,jC (vU l m) v c↔jC l v c∨jC m v c)∧(vU l m).length≤l.length+m.length
 | [],l,h,_=>⟨h,fun v c=>by unfold vU;simp [jC],Nat.le_refl _⟩
 | p::m,l,h,ho=>by
  have hp:=ho p List.mem_cons_self;obtain ⟨h1,h2,h3⟩:=yO (m:=m) (nD h hp) (fun q hq=>ho q (List.mem_cons_of_mem _ hq));refine ⟨h1,fun v c=>?_,?_⟩
  ·show jC (vU (sD l p) m) v c↔_;rw [h2,AO,iG,or_assoc]
  have:=qG (l:=l) (p:=p);show (vU (sD l p) m).length≤_;simp only [List.length_cons];omega
def rX (a b:aB):Bool:=(aY a).any fun s=>decide (s∈aY b)
theorem oL {a b:aB}:rX a b=true↔∃ s∈aY a,s∈aY b:=by
 unfold rX;rw [List.any_eq_true];simp only [decide_eq_true_eq]
def vV (a b:aB):aA:=if bT b.name a.name then b.name else a.name
def AP (a b:aB):aA:=if bT b.name a.name then a.name else b.name
theorem NQ (a b:aB):(vV a b=b.name∧AP a b=a.name)∨(vV a b=a.name∧AP a b=b.name):=by
 unfold vV AP;cases bT b.name a.name
 ·exact .inr ⟨rfl,rfl⟩
 exact .inl ⟨rfl,rfl⟩
theorem TP (a b:aB):a.name=vV a b∨fB (vV a b) a.name:=by
 unfold vV;cases h:bT b.name a.name
 ·exact .inl rfl
 exact .inr h
theorem TQ (a b:aB):b.name=vV a b∨fB (vV a b) b.name:=by
 unfold vV;cases h:bT b.name a.name
 ·by_cases e:a.name=b.name
  ·exact .inl e.symm
  right;show bT a.name b.name=true;have:=mU e;rw [h] at this
  cases h2:bT a.name b.name with
  | true=>rfl
  | false=>rw [h2] at this;cases this
 exact .inl rfl
def fW (a b:aB):aB:=⟨vV a b,(lZ ((a.aC++b.aC)++[AP a b])).filter (fun s=>!decide (s=vV a b)),a.aM++b.aM,vU a.aG b.aG⟩
theorem nE:∀ (l out:List aA),(l.foldl (fun out x=>if x∈out then out else kO x out) out).length≤out.length+l.length
 | [],out=>Nat.le_refl _
 | x::l,out=>by
  simp only [List.foldl_cons,List.length_cons];have h:=nE l (if x∈out then out else kO x out);have:(if x∈out then out else kO x out).length≤out.length+1:=by
   split
   ·omega
   rw [yI];omega
  omega
theorem yP (l:List aA):(lZ l).length≤l.length:=by
 have:=nE l [];unfold lZ;simpa using this
theorem kQ {a b:aB} {s:aA}:s∈aY (fW a b)↔s∈aY a∨s∈aY b:=by
 rw [cK,cK,cK];unfold fW;simp only [List.mem_filter,yH,List.mem_append,List.mem_singleton,Bool.not_eq_true',decide_eq_false_iff_not];rcases NQ a b with ⟨h1,h2⟩ | ⟨h1,h2⟩
 ·rw [h1,h2];constructor
  ·rintro (h | ⟨(h | h) | h,_⟩)
   ·exact .inr (.inl h)
   ·exact .inl (.inr h)
   ·exact .inr (.inr h)
   exact .inl (.inl h)
  intro h;by_cases e:s=b.name
  ·exact .inl e
  refine .inr ⟨?_,e⟩;rcases h with (h | h) | h | h
  ·exact .inr h
  ·exact .inl (.inl h)
  ·exact absurd h e
  exact .inl (.inr h)
 rw [h1,h2];constructor
 ·rintro (h | ⟨(h | h) | h,_⟩)
  ·exact .inl (.inl h)
  ·exact .inl (.inr h)
  ·exact .inr (.inr h)
  exact .inr (.inl h)
 intro h;by_cases e:s=a.name
 ·exact .inl e
 refine .inr ⟨?_,e⟩;rcases h with (h | h) | h | h
 ·exact absurd h e
 ·exact .inl (.inl h)
 ·exact .inr h
 exact .inl (.inr h)
structure JG (cs:List aB) (g:aB):Prop where
 hd:∃ h∈cs,h.name=g.name
 mn:∀ h∈cs,h.name=g.name∨fB g.name h.name
 nm:∀ s,s∈aY g↔∃ h∈cs,s∈aY h
 vs:g.aC.Pairwise fB
 vn:g.name∉g.aC
 cn:∀ a∈aY g,∀ b∈aY g,Cn cs a b
 am:∀ s,s∈g.aM↔∃ h∈cs,s∈h.aM
 al:g.aM.length≤8*cs.length
 vl:g.aC.length+1≤10*cs.length
 pn:eC g.aG
 pm:∀ v c,jC g.aG v c↔∃ h∈cs,jC h.aG v c
 pl:g.aG.length≤30*cs.length
theorem JG.one {h:aB} (hr:Rt h) (hn:h.name∉h.aC):JG [h] h:=by
 obtain ⟨h1,h2,h3,h4,h5⟩:=hr;exact ⟨⟨h,by simp,rfl⟩,fun k hk=>by simp at hk;exact .inl (by rw [hk]),fun s=>by simp,h2.2.2,hn,fun a ha b hb=>Cn.of (List.mem_singleton.2 rfl) ha hb,fun s=>by simp,by simpa using h3.1,by have:=h2.1;simp;omega,h5,fun v c=>by simp,by simpa using h4⟩
theorem JG.join {cs ds:List aB} {a b:aB} (ha:JG cs a) (hb:JG ds b) (hm:∃ s∈aY a,s∈aY b):JG (cs++ds) (fW a b):=by
 obtain ⟨p1,p2,p3⟩:=yO ha.pn hb.pn.ok;have hN:(fW a b).name=vV a b:=rfl;refine ⟨?_,fun h hh=>?_,fun s=>?_,(pO _).sublist List.filter_sublist,fun h=>?_,?_,fun s=>?_,?_,?_,p1,fun v c=>?_,?_⟩
 ·rw [hN];rcases NQ a b with ⟨h1,_⟩ | ⟨h1,_⟩
  ·obtain ⟨h,hh,e⟩:=hb.hd;exact ⟨h,List.mem_append_right _ hh,by rw [e,h1]⟩
  obtain ⟨h,hh,e⟩:=ha.hd;exact ⟨h,List.mem_append_left _ hh,by rw [e,h1]⟩
 ·rw [hN];have two:∀ {x y z:aA},(z=y∨fB y z)→(y=x∨fB x y)→z=x∨fB x z:=fun h1 h2=>by
   rcases h1 with rfl | h1 <;> rcases h2 with rfl | h2
   ·exact .inl rfl
   ·exact .inr h2
   ·exact .inr h1
   exact .inr (eA h2 h1)
  rcases List.mem_append.1 hh with hh | hh
  ·exact two (ha.mn h hh) (TP a b)
  exact two (hb.mn h hh) (TQ a b)
 ·rw [kQ,ha.nm,hb.nm];simp only [List.mem_append];constructor
  ·rintro (⟨h,h1,h2⟩ | ⟨h,h1,h2⟩)
   ·exact ⟨h,.inl h1,h2⟩
   exact ⟨h,.inr h1,h2⟩
  rintro ⟨h,h1 | h1,h2⟩
  ·exact .inl ⟨h,h1,h2⟩
  exact .inr ⟨h,h1,h2⟩
 ·have:=(List.mem_filter.1 h).2;simp [hN] at this
 ·obtain ⟨s,s1,s2⟩:=hm;have one:∀ x∈aY (fW a b),Cn (cs++ds) x s:=fun x hx=>by
   rcases kQ.1 hx with hx | hx
   ·exact (ha.cn x hx s s1).mono fun k hk=>List.mem_append_left _ hk
   exact (hb.cn x hx s s2).mono fun k hk=>List.mem_append_right _ hk
  exact fun x hx y hy=>(one x hx).trans (one y hy).symm
 ·show s∈a.aM++b.aM↔_;rw [List.mem_append,ha.am,hb.am];simp only [List.mem_append];constructor
  ·rintro (⟨h,h1,h2⟩ | ⟨h,h1,h2⟩)
   ·exact ⟨h,.inl h1,h2⟩
   exact ⟨h,.inr h1,h2⟩
  rintro ⟨h,h1 | h1,h2⟩
  ·exact .inl ⟨h,h1,h2⟩
  exact .inr ⟨h,h1,h2⟩
 ·show (a.aM++b.aM).length≤_;have:=ha.al;have:=hb.al;simp only [List.length_append];omega
 ·show ((lZ ((a.aC++b.aC)++[AP a b])).filter (fun s=>!decide (s=vV a b))).length+1≤_;have h1:=List.length_filter_le (fun s=>!decide (s=vV a b)) (lZ ((a.aC++b.aC)++[AP a b]));have h2:=yP ((a.aC++b.aC)++[AP a b]);have:=ha.vl;have:=hb.vl;simp only [List.length_append,List.length_cons,List.length_nil] at h2 ⊢;omega
 ·show jC (vU a.aG b.aG) v c↔_;rw [p2,ha.pm,hb.pm];simp only [List.mem_append];constructor
  ·rintro (⟨h,h1,h2⟩ | ⟨h,h1,h2⟩)
   ·exact ⟨h,.inl h1,h2⟩
   exact ⟨h,.inr h1,h2⟩
  rintro ⟨h,h1 | h1,h2⟩
  ·exact .inl ⟨h,h1,h2⟩
  exact .inr ⟨h,h1,h2⟩
 show (vU a.aG b.aG).length≤_;have:=ha.pl;have:=hb.pl;simp only [List.length_append];omega
def gY:List aB→aB→List aB×aB
 | [],h=>([],h)
 | o::out,h=>if rX o h then gY out (fW o h) else (o::(gY out h).1,(gY out h).2)
abbrev Pr:=List aB×aB
theorem CL {α:Type} {p:α→Prop} {a:α} {l:List α}:(∃ x∈a::l,p x)↔p a∨∃ x∈l,p x:=by simp
def iH:List Pr→Pr→List Pr×Pr
 | [],d=>([],d)
 | o::out,d=>if rX o.2 d.2 then iH out (o.1++d.1,fW o.2 d.2) else (o::(iH out d).1,(iH out d).2)
theorem rY:∀ (ps:List Pr) (d:Pr),(iH ps d).1.map (·.2)=(gY (ps.map (·.2)) d.2).1∧(iH ps d).2.2=(gY (ps.map (·.2)) d.2).2
 | [],d=>⟨rfl,rfl⟩
 | o::out,d=>by
  simp only [iH,gY,List.map_cons]
  split
  ·exact rY out (o.1++d.1,fW o.2 d.2)
  obtain ⟨h1,h2⟩:=rY out d;exact ⟨by simp only [List.map_cons];rw [h1],h2⟩
def PZ (p q:Pr):Prop:=∀ s∈aY p.2,s∉aY q.2
def tot (ps:List Pr):Nat:=(ps.map fun p=>p.1.length).sum
theorem rZ:∀ (ps:List Pr) (d:Pr),(∀ p∈ps,JG p.1 p.2)→JG d.1 d.2→ps.Pairwise PZ →
  (iH ps d).1.Sublist ps∧JG (iH ps d).2.1 (iH ps d).2.2∧(∀ p∈(iH ps d).1,PZ p (iH ps d).2)∧(∀ s∈aY (iH ps d).2.2,s∈aY d.2∨∃ p∈ps,s∈aY p.2)∧(∀ h,(∃ p∈(iH ps d).1,h∈p.1)∨h∈(iH ps d).2.1↔(∃ p∈ps,h∈p.1)∨h∈d.1)∧tot (iH ps d).1+(iH ps d).2.1.length=tot ps+d.1.length
 | [],d,_,hd,_=>⟨List.Sublist.refl _,hd,by simp [iH],fun s hs=>.inl hs,fun h=>Iff.rfl,rfl⟩
 | o::out,d,hp,hd,hw=>by
  obtain ⟨w1,w2⟩:=List.pairwise_cons.1 hw;have hp':∀ p∈out,JG p.1 p.2:=fun p h=>hp p (List.mem_cons_of_mem _ h);simp only [iH]
  split
  ·rename_i hm
   obtain ⟨h1,h2,h3,h4,h5,h6⟩:=rZ out (o.1++d.1,fW o.2 d.2) hp' ((hp o List.mem_cons_self).join hd (oL.1 hm)) w2;refine ⟨h1.trans (List.sublist_cons_self _ _),h2,h3,fun s hs=>?_,fun h=>?_,?_⟩
   ·rcases h4 s hs with h | ⟨p,hp,h⟩
    ·rcases kQ.1 h with h | h
     ·exact .inr ⟨o,List.mem_cons_self,h⟩
     exact .inl h
    exact .inr ⟨p,List.mem_cons_of_mem _ hp,h⟩
   ·rw [h5];simp only [List.mem_append,CL];constructor
    ·rintro (h | h | h)
     ·exact .inl (.inr h)
     ·exact .inl (.inl h)
     exact .inr h
    rintro ((h | h) | h)
    ·exact .inr (.inl h)
    ·exact .inl h
    exact .inr (.inr h)
   rw [h6];unfold tot;simp;omega
  rename_i hm
  obtain ⟨h1,h2,h3,h4,h5,h6⟩:=rZ out d hp' hd w2;refine ⟨h1.cons₂ _,h2,fun p hp=>?_,fun s hs=>?_,fun h=>?_,?_⟩
  ·rcases List.mem_cons.1 hp with rfl | hp
   ·intro s hs hs';rcases h4 s hs' with h | ⟨q,hq,h⟩
    ·exact hm (oL.2 ⟨s,hs,h⟩)
    exact w1 q hq s hs h
   exact h3 p hp
  ·exact (h4 s hs).imp id fun ⟨p,hp,h⟩=>⟨p,List.mem_cons_of_mem _ hp,h⟩
  ·simp only [CL];rw [or_assoc,h5,or_assoc]
  unfold tot at h6 ⊢;simp;omega
structure mD (hs out:List aB) (ps:List Pr):Prop where
 eq:ps.map (·.2)=out
 g:∀ p∈ps,JG p.1 p.2
 dj:ps.Pairwise PZ
 mem:∀ h,h∈hs↔∃ p∈ps,h∈p.1
 tt:tot ps=hs.length
def NR (out:List aB) (h:aB):List aB:=(gY out h).1++[(gY out h).2]
theorem mD.nil:mD [] [] []:=⟨rfl,by simp,List.Pairwise.nil,by simp,rfl⟩
theorem PZ.symm {p q:Pr} (h:PZ p q):PZ q p:=fun s h1 h2=>h s h2 h1
theorem mD.step {hs out:List aB} {ps:List Pr} (h:mD hs out ps) {x:aB} (hx:Rt x) (hn:x.name∉x.aC):∃ qs,mD (hs++[x]) (NR out x) qs:=by
 obtain ⟨h1,h2,h3,h4,h5,h6⟩:=rZ ps ([x],x) h.g (.one hx hn) h.dj;obtain ⟨m1,m2⟩:=rY ps ([x],x);refine ⟨(iH ps ([x],x)).1++[(iH ps ([x],x)).2],?_,fun p hp=>?_,?_,fun k=>?_,?_⟩
 ·rw [List.map_append,m1,h.eq,List.map_cons,List.map_nil,m2,h.eq];rfl
 ·rcases List.mem_append.1 hp with hp | hp
  ·exact h.g p (h1.subset hp)
  simp at hp;subst hp;exact h2
 ·rw [List.pairwise_append];exact ⟨h.dj.sublist h1,by simp,fun a ha b hb=>by simp at hb;subst hb;exact h3 a ha⟩
 ·rw [List.mem_append,h.mem,List.mem_singleton];have:=h5 k;simp only [List.mem_singleton] at this;rw [← this];constructor
  ·rintro (⟨p,hp,hk⟩ | hk)
   ·exact ⟨p,List.mem_append_left _ hp,hk⟩
   exact ⟨_,List.mem_append_right _ (List.mem_singleton.2 rfl),hk⟩
  rintro ⟨p,hp,hk⟩;rcases List.mem_append.1 hp with hp | hp
  ·exact .inl ⟨p,hp,hk⟩
  simp at hp;subst hp;exact .inr hk
 unfold tot at h6 ⊢;have:=h.tt;unfold tot at this;simp only [List.map_append,List.sum_append,List.map_cons,List.map_nil,List.sum_cons,List.sum_nil,List.length_append,List.length_cons,List.length_nil] at h6 ⊢;omega
theorem GM:∀ {ps:List Pr} {p:Pr},p∈ps→p.1.length≤tot ps
 | q::ps,p,h=>by
  unfold tot;simp only [List.map_cons,List.sum_cons];rcases List.mem_cons.1 h with rfl | h
  ·omega
  have:=GM h;unfold tot at this;omega
theorem vW:∀ {ps:List Pr},(∀ p∈ps,JG p.1 p.2)→ps.length≤tot ps
 | [],_=>Nat.zero_le _
 | q::ps,h=>by
  have:=vW fun p hp=>h p (List.mem_cons_of_mem _ hp);obtain ⟨k,hk,_⟩:=(h q List.mem_cons_self).hd;have:=List.length_pos_of_mem hk;unfold tot at *;simp only [List.map_cons,List.sum_cons,List.length_cons];omega
structure aBb (out:List aB) (n:Nat):Prop where
 len:out.length≤n
 each:∀ g∈out,g.aC.length≤10*n∧g.aM.length≤8*n∧g.aG.length≤30*n
theorem mD.lens {hs out:List aB} {ps:List Pr} (h:mD hs out ps):aBb out hs.length:=by
 have h1:=vW h.g;have h2:=h.tt;refine ⟨by rw [← h.eq,List.length_map];omega,fun g hg=>?_⟩;rw [← h.eq] at hg;obtain ⟨p,hp,rfl⟩:=List.mem_map.1 hg;have h3:=GM hp;have h4:=h.g p hp;have:=h4.vl;have:=h4.al;have:=h4.pl;omega
def nmOf (out:List aB) (s:aA):aA:=match out.find? (lF s) with
 | some k=>k.name
 | none=>[]
def jD (out:List aB) (g:aB):aB:=⟨g.name,g.aC,lZ ((g.aM.map (nmOf out)).filter fun n=>!decide (n=g.name)),g.aG⟩
def nF (x:aB) (a:List aB):List aB:=a.filter (fun y=>bT y.name x.name)++x::a.filter (fun y=>!bT y.name x.name)
theorem yQ {x s:aB} {a:List aB}:s∈nF x a↔s=x∨s∈a:=by
 unfold nF;simp only [List.mem_append,List.mem_cons,List.mem_filter,Bool.not_eq_true'];constructor
 ·rintro (⟨h,_⟩ | h | ⟨h,_⟩)
  ·exact .inr h
  ·exact .inl h
  exact .inr h
 rintro (h | h)
 ·exact .inr (.inl h)
 cases hb:bT s.name x.name
 ·exact .inr (.inr ⟨h,rfl⟩)
 exact .inl ⟨h,rfl⟩
theorem GN (x:aB) (a:List aB):(nF x a).length=a.length+1:=by
 unfold nF;rw [List.length_append,List.length_cons];have:∀ a:List aB,(a.filter fun y=>bT y.name x.name).length+(a.filter fun y=>!bT y.name x.name).length=a.length:=by
  intro a
  induction a with
  | nil=>rfl
  | cons y a ih =>
   cases h:bT y.name x.name <;> simp [h] <;> omega
 have:=this a;omega
theorem yR {x:aB} {a:List aB} (ha:mV a) (hx:∀ y∈a,y.name≠x.name):mV (nF x a):=by
 unfold nF mV;rw [List.pairwise_append];refine ⟨ha.sublist List.filter_sublist,List.pairwise_cons.2 ⟨fun y hy=>?_,ha.sublist List.filter_sublist⟩,fun y hy z hz=>?_⟩
 ·obtain ⟨h1,h2⟩:=List.mem_filter.1 hy;rcases fH (hx y h1) with h | h
  ·unfold fB at h;rw [h] at h2;cases h2
  exact h
 obtain ⟨h1,h2⟩:=List.mem_filter.1 hy;rcases List.mem_cons.1 hz with rfl | hz
 ·exact h2
 obtain ⟨h3,h4⟩:=List.mem_filter.1 hz;rcases fH (hx z h3) with h | h
 ·unfold fB at h;rw [h] at h4;cases h4
 exact eA h2 h
def yS (l:List aB):List aB:=l.foldl (fun a x=>nF x a) []
theorem oM:∀ (l a:List aB),mV a→l.Pairwise (fun x y=>x.name≠y.name)→(∀ x∈l,∀ y∈a,y.name≠x.name)→mV (l.foldl (fun a x=>nF x a) a)∧∀ s,s∈l.foldl (fun a x=>nF x a) a↔s∈a∨s∈l
 | [],a,h,_,_=>⟨h,by simp⟩
 | x::l,a,h,hw,hd=>by
  simp only [List.foldl_cons];obtain ⟨w1,w2⟩:=List.pairwise_cons.1 hw
  obtain ⟨h1,h2⟩:=oM l _ (yR h (hd x List.mem_cons_self)) w2 (fun z hz y hy=>by
   rcases yQ.1 hy with rfl | hy
   ·exact w1 z hz
   exact hd z (List.mem_cons_of_mem _ hz) y hy)
  refine ⟨h1,fun s=>?_⟩;rw [h2,yQ,List.mem_cons];constructor
  ·rintro ((h | h) | h)
   ·exact .inr (.inl h)
   ·exact .inl h
   exact .inr (.inr h)
  rintro (h | h | h)
  ·exact .inl (.inr h)
  ·exact .inl (.inl h)
  exact .inr h
def JR (out:List aB):List aB:=yS (out.map (jD out))
section
variable {hs out:List aB} {ps:List Pr}
theorem mD.one (h:mD hs out ps) {p q:Pr} (hp:p∈ps) (hq:q∈ps) {s:aA} (h1:s∈aY p.2) (h2:s∈aY q.2):p=q:=by
 rcases kN h.dj p hp q hq with e | e | e
 ·exact e
 ·exact absurd h2 (e s h1)
 exact absurd h1 (e s h2)
theorem mD.cls (h:mD hs out ps) {p:Pr} (hp:p∈ps) {a:aA} (ha:a∈aY p.2) {k:aB} (hk:k∈hs):Cn hs a k.name↔k∈p.1:=by
 constructor
 ·intro hc
  have hin:k.name∈aY p.2:=Cn.inv (S:=fun s=>s∈aY p.2) (fun x hx b hb hs' c hc=>by
   obtain ⟨q,hq,hxq⟩:=(h.mem x).1 hx;have e:q=p:=h.one hq hp (((h.g q hq).nm b).2 ⟨x,hxq,hb⟩) hs';subst e
   exact ((h.g q hq).nm c).2 ⟨x,hxq,hc⟩) hc ha
  obtain ⟨q,hq,hkq⟩:=(h.mem k).1 hk;have e:q=p:=h.one hq hp (((h.g q hq).nm k.name).2 ⟨k,hkq,bG k⟩) hin;subst e;exact hkq
 intro hkp;exact ((h.g p hp).cn a ha k.name (((h.g p hp).nm k.name).2 ⟨k,hkp,bG k⟩)).mono fun x hx=>(h.mem x).2 ⟨p,hp,hx⟩
theorem mD.hd (h:mD hs out ps) {p:Pr} (hp:p∈ps) {a:aA} (ha:a∈aY p.2):Hd hs a p.2.name:=by
 obtain ⟨k,hk,e⟩:=(h.g p hp).hd;have hkh:k∈hs:=(h.mem k).2 ⟨p,hp,hk⟩;refine ⟨⟨k,hkh,e⟩,e▸(h.cls hp ha hkh).2 hk,fun x hx hc=>?_⟩;exact (h.g p hp).mn x ((h.cls hp ha hx).1 hc)
theorem mD.find (h:mD hs out ps) {p:Pr} (hp:p∈ps) {s:aA} (hs':s∈aY p.2):out.find? (lF s)=some p.2:=by
 have hm:p.2∈out:=h.eq▸List.mem_map_of_mem hp
 cases hf:out.find? (lF s) with
 | none=>exact absurd (gI.2 hs') (List.find?_eq_none.1 hf _ hm)
 | some k =>
  have hk:=List.mem_of_find?_eq_some hf;have hk2:=gI.1 (List.find?_some hf);rw [← h.eq] at hk;obtain ⟨q,hq,rfl⟩:=List.mem_map.1 hk;rw [h.one hq hp hk2 hs']
theorem mD.each (h:mD hs out ps) (hc:clo hs) {p:Pr} (hp:p∈ps):DT hs (jD out p.2):=by
 have hg:=h.g p hp;refine ⟨h.hd hp (bG _),hg.vs,fun s=>?_,pO _,fun s=>?_,hg.pn,fun v c=>?_⟩
 ·show s∈p.2.aC↔s≠p.2.name∧∃ k∈hs,s∈aY k∧Cn hs p.2.name k.name;have e:s∈p.2.aC↔s≠p.2.name∧s∈aY p.2:=by
   rw [cK];constructor
   ·exact fun h=>⟨fun e=>hg.vn (e▸h),.inr h⟩
   rintro ⟨h1,h2 | h2⟩
   ·exact absurd h2 h1
   exact h2
  rw [e,hg.nm];refine and_congr_right fun _=>⟨?_,?_⟩
  ·rintro ⟨k,hk,hk2⟩;have hkh:k∈hs:=(h.mem k).2 ⟨p,hp,hk⟩;exact ⟨k,hkh,hk2,(h.cls hp (bG _) hkh).2 hk⟩
  rintro ⟨k,hk,hk2,hcn⟩;exact ⟨k,(h.cls hp (bG _) hk).1 hcn,hk2⟩
 ·show s∈lZ _↔s≠p.2.name∧∃ k∈hs,Cn hs p.2.name k.name∧∃ t∈k.aM,Hd hs t s;rw [yH,List.mem_filter,List.mem_map];simp only [Bool.not_eq_true',decide_eq_false_iff_not];rw [and_comm];have look:∀ t,(∃ k∈hs,k.name=t)→∃ q∈ps,t∈aY q.2∧nmOf out t=q.2.name:=fun t ⟨k,hk,e⟩=>by
   obtain ⟨q,hq,hkq⟩:=(h.mem k).1 hk;have ht:t∈aY q.2:=((h.g q hq).nm t).2 ⟨k,hkq,e▸bG k⟩;exact ⟨q,hq,ht,by unfold nmOf;rw [h.find hq ht]⟩
  refine and_congr_right fun _=>⟨?_,?_⟩
  ·rintro ⟨t,ht,rfl⟩;obtain ⟨k,hk,hkt⟩:=(hg.am t).1 ht;have hkh:k∈hs:=(h.mem k).2 ⟨p,hp,hk⟩;obtain ⟨q,hq,h1,h2⟩:=look t (hc k hkh t hkt);exact ⟨k,hkh,(h.cls hp (bG _) hkh).2 hk,t,hkt,h2▸h.hd hq h1⟩
  rintro ⟨k,hk,hcn,t,ht,hd⟩;obtain ⟨q,hq,h1,h2⟩:=look t (hc k hk t ht);refine ⟨t,(hg.am t).2 ⟨k,(h.cls hp (bG _) hk).1 hcn,ht⟩,?_⟩;rw [h2];exact Hd.uniq (h.hd hq h1) hd
 show jC p.2.aG v c↔_;rw [hg.pm];constructor
 ·rintro ⟨k,hk,hk2⟩;have hkh:k∈hs:=(h.mem k).2 ⟨p,hp,hk⟩;exact ⟨k,hkh,(h.cls hp (bG _) hkh).2 hk,hk2⟩
 rintro ⟨k,hk,hcn,hk2⟩;exact ⟨k,(h.cls hp (bG _) hk).1 hcn,hk2⟩
theorem mD.join (h:mD hs out ps) (hc:clo hs):dI hs (JR out):=by
 have hw:(out.map (jD out)).Pairwise fun x y=>x.name≠y.name:=by
  rw [← h.eq,List.map_map,List.pairwise_map];exact h.dj.imp fun {a b} hd e=>hd a.2.name (bG _) (by rw [show a.2.name=b.2.name from e];exact bG _)
 obtain ⟨h1,h2⟩:=oM (out.map (jD out)) [] List.Pairwise.nil hw (by simp);have hm:∀ g,g∈JR out↔∃ p∈ps,jD out p.2=g:=fun g=>by
  show g∈yS _↔_;unfold yS;rw [h2];simp only [List.not_mem_nil,false_or]
  conv=>lhs;rw [← h.eq]
  rw [List.map_map,List.mem_map,h.eq];rfl
 refine ⟨h1,fun k hk=>?_,fun g hg=>?_⟩
 ·obtain ⟨p,hp,hkp⟩:=(h.mem k).1 hk;refine ⟨_,(hm _).2 ⟨p,hp,rfl⟩,?_⟩;exact ((h.cls hp (bG _) hk).2 hkp).symm
 obtain ⟨p,hp,rfl⟩:=(hm g).1 hg;exact h.each hc hp
end
end T11
namespace T11
open Go Go.Proofs Pk
theorem TR {l:List aI} {p:aI} {f t:Int} (ht:eB ⟨p.aJ,f,t⟩) (ho:∀ x∈l,eB x) (hl:l.length≤1000000):∀ (k i:Nat) (out:List aI),l.length - i=k→i≤l.length→(∀ x∈l.drop i,¬iV x ⟨p.aJ,f,t⟩)→out.length≤i+1 →
  aX (gQ l p) (i,true,f,t,out)=some (true,f,t,out++l.drop i):=by
 intro k
 induction k with
 | zero =>
  intro i out hk hi _ _;obtain rfl:i=l.length:=by omega
  rw [List.drop_length,List.append_nil];exact bK (by unfold gQ;simp)
 | succ k ih =>
  intro i out hk hi hn hb;have hlt:i < l.length:=by omega
  have hx:l[i]?=some l[i]:=List.getElem?_eq_getElem hlt;have hxo:=ho _ (List.getElem_mem hlt);have e2:l.drop i=l[i]::l.drop (i+1):=List.drop_eq_getElem_cons hlt;have hnt:=hn l[i] (by rw [e2];exact List.mem_cons_self);unfold eB at ht hxo;simp only at ht;have hc:((if l[i].aJ=p.aJ then chk (-9223372036854775808≤(t+1)∧(t+1)≤9223372036854775807) (if l[i].aW≤(t+1) then chk (-9223372036854775808≤(l[i].cL+1)∧(l[i].cL+1)≤9223372036854775807) (some (decide (f≤(l[i].cL+1)))) else some false) else some false):Option Bool)=some false:=by
   unfold iV at hnt;simp only at hnt;by_cases h1:l[i].aJ=p.aJ
   ·rw [if_pos h1,bD (by omega)];by_cases h2:l[i].aW≤t+1
    ·rw [if_pos h2,bD (by omega)];congr 1;rw [decide_eq_false_iff_not];omega
    rw [if_neg h2]
   rw [if_neg h1]
  have hs:gQ l p (i,true,f,t,out)=some (.inl (i+1,true,f,t,out++[l[i]])):=by
   unfold gQ;simp only;rw [if_pos (by omega),hx,Option.bind_some,hc];simp only [Option.bind_some,if_true,Bool.false_eq_true,if_false];rw [bD (by omega)];rfl
  rw [bU hs,ih (i+1) _ (by omega) (by omega) (fun x hx=>hn x (by rw [e2];exact List.mem_cons_of_mem _ hx)) (by simp;omega),e2];simp
theorem TS {l:List aI} {p:aI} (hl:l.length≤1000000) (hn:eC l):∀ (k i:Nat) (f t:Int) (out:List aI),l.length - i=k→i≤l.length→eB ⟨p.aJ,f,t⟩→out.length≤i →
  ∃ e,aX (gQ l p) (i,false,f,t,out)=some e∧(if e.1 then e.2.2.2 else e.2.2.2++[⟨p.aJ,e.2.1,e.2.2.1⟩])=out++sD (l.drop i) ⟨p.aJ,f,t⟩∧e.2.2.2.length≤1000002:=by
 intro k
 induction k with
 | zero =>
  intro i f t out hk hi _ hb;obtain rfl:i=l.length:=by omega
  refine ⟨(false,f,t,out),bK (by unfold gQ;simp),by rw [List.drop_length];rfl,by simp only;omega⟩
 | succ k ih =>
  intro i f t out hk hi ht hb;have hlt:i < l.length:=by omega
  have hx:l[i]?=some l[i]:=List.getElem?_eq_getElem hlt;have hxo:=hn.ok _ (List.getElem_mem hlt);have e2:l.drop i=l[i]::l.drop (i+1):=List.drop_eq_getElem_cons hlt;have ht':=ht;have hxo':=hxo;unfold eB at ht' hxo';simp only at ht';have hc:((if l[i].aJ=p.aJ then chk (-9223372036854775808≤(t+1)∧(t+1)≤9223372036854775807) (if l[i].aW≤(t+1) then chk (-9223372036854775808≤(l[i].cL+1)∧(l[i].cL+1)≤9223372036854775807) (some (decide (f≤(l[i].cL+1)))) else some false) else some false):Option Bool)=some (decide (iV l[i] ⟨p.aJ,f,t⟩)):=by
   have ht3:iV l[i] ⟨p.aJ,f,t⟩↔l[i].aJ=p.aJ∧l[i].aW≤t+1∧f≤l[i].cL+1:=Iff.rfl;by_cases h1:l[i].aJ=p.aJ
   ·rw [if_pos h1,bD (by omega)];by_cases h2:l[i].aW≤t+1
    ·rw [if_pos h2,bD (by omega)];congr 1;rw [decide_eq_decide,ht3];omega
    rw [if_neg h2];congr 1;symm;rw [decide_eq_false_iff_not,ht3];omega
   rw [if_neg h1];congr 1;symm;rw [decide_eq_false_iff_not,ht3];omega
  rw [e2];unfold sD;by_cases htc:iV l[i] ⟨p.aJ,f,t⟩
  ·rw [if_pos htc];have hs:gQ l p (i,false,f,t,out)=some (.inl (i+1,false,min f l[i].aW,max t l[i].cL,out)):=by
    unfold gQ;simp only;rw [if_pos (by omega),hx,Option.bind_some,hc,decide_eq_true htc];rfl
   obtain ⟨e,h1,h2,h3⟩:=ih (i+1) (min f l[i].aW) (max t l[i].cL) out (by omega) (by omega) (GL (p:=⟨p.aJ,f,t⟩) ht hxo htc) (by omega);exact ⟨e,by rw [bU hs];exact h1,h2,h3⟩
  rw [if_neg htc];by_cases hbf:sQ ⟨p.aJ,f,t⟩ l[i]
  ·rw [if_pos hbf];have hs:gQ l p (i,false,f,t,out)=some (.inl (i+1,true,f,t,(out++[⟨p.aJ,f,t⟩])++[l[i]])):=by
    unfold gQ;simp only;rw [if_pos (by omega),hx,Option.bind_some,hc,decide_eq_false htc];have hb2:((if p.aJ < l[i].aJ then some true else if p.aJ=l[i].aJ then some (decide (t < l[i].aW)) else some false):Option Bool)=some true:=by
     unfold sQ at hbf;simp only at hbf;by_cases h1:p.aJ < l[i].aJ
     ·rw [if_pos h1]
     rw [if_neg h1,if_pos (by omega)];congr 1;rw [decide_eq_true_eq];omega
    simp only [Option.bind_some,Bool.false_eq_true,if_false];rw [hb2];simp only [Option.bind_some,if_true];rw [bD (by omega)];simp only [Option.bind_some];rw [bD (by simp;omega)];rfl
   have hg:=rW ht hxo htc hbf;have hpw:=(List.pairwise_cons.1 (show (l[i]::l.drop (i+1)).Pairwise dF from e2▸hn.gap.sublist (List.drop_sublist _ _))).1;have hnt:∀ x∈l.drop (i+1),¬iV x ⟨p.aJ,f,t⟩:=fun x hx hc=>by
    have h1:=iO hxo hg (hpw x hx);unfold dF at h1;unfold iV at hc;simp only at h1 hc;omega
   rw [bU hs,TR ht hn.ok hl _ (i+1) _ rfl (by omega) hnt (by simp;omega)];refine ⟨_,rfl,by simp,?_⟩;simp only [List.length_append,List.length_cons,List.length_nil,List.length_drop];omega
  rw [if_neg hbf];have hs:gQ l p (i,false,f,t,out)=some (.inl (i+1,false,f,t,out++[l[i]])):=by
   unfold gQ;simp only;rw [if_pos (by omega),hx,Option.bind_some,hc,decide_eq_false htc];have hb2:((if p.aJ < l[i].aJ then some true else if p.aJ=l[i].aJ then some (decide (t < l[i].aW)) else some false):Option Bool)=some false:=by
    unfold sQ at hbf;simp only at hbf;rw [if_neg (by omega)];by_cases h1:p.aJ=l[i].aJ
    ·rw [if_pos h1];congr 1;rw [decide_eq_false_iff_not];omega
    rw [if_neg h1]
   simp only [Option.bind_some,Bool.false_eq_true,if_false];rw [hb2];simp only [Option.bind_some,Bool.false_eq_true,if_false];rw [bD (by omega)];rfl
  obtain ⟨e,h1,h2,h3⟩:=ih (i+1) f t (out++[l[i]]) (by omega) (by omega) ht (by simp;omega);exact ⟨e,by rw [bU hs];exact h1,by rw [h2];simp,h3⟩
theorem e99 {l:List aI} {p:aI} (hl:l.length≤1000000) (hn:eC l) (hp:eB p):RW l p=some (sD l p):=by
 obtain ⟨e,h1,h2,h3⟩:=TS (p:=p) hl hn l.length 0 p.aW p.cL [] (by omega) (by omega) hp (Nat.le_refl 0);unfold RW;rw [h1,Option.bind_some];simp only [List.nil_append,List.drop_zero] at h2;by_cases hd:e.1=true
 ·rw [if_pos hd] at h2 ⊢;rw [h2];rfl
 rw [if_neg hd] at h2 ⊢;rw [bD (by omega),h2];rfl
theorem tW {α:Type} (p:α→Bool):∀ (l a:List α),l.foldl (fun a x=>if p x then a++[x] else a) a=a++l.filter p
 | [],a=>by simp
 | x::l,a=>by
  simp only [List.foldl_cons];rw [tW p l];cases h:p x <;> simp [h]
theorem e60 {a b:aB} (ha:a.aC.length≤1073741823) (hb:b.aC.length≤1073741823):RV a b=some (rX a b):=by
 unfold RV
 rw [LG ha,Option.bind_some,eY (ε:=Unit⊕Bool) (aY a) (fun s=>!decide (s∈aY b)) (.inr true) (.inl ()) (step:=xP (aY a) b) (fun i x hi hx=>by
  unfold xP;rw [if_pos (by omega),LG hb,Option.bind_some,hx,Option.bind_some,LF,Option.bind_some]
  by_cases h:x∈aY b <;> simp [h]) (by unfold xP;rw [if_neg (by omega)]),Option.bind_some]
 unfold rX
 cases h:(aY a).all fun s=>!decide (s∈aY b) with
 | true =>
  rw [if_pos rfl];rw [List.all_eq_true] at h;rw [show ((aY a).any fun s=>decide (s∈aY b))=false from List.any_eq_false.2 fun s hs=>by have:=h s hs;simpa using this]
 | false =>
  rw [if_neg (by decide)];have:((aY a).any fun s=>decide (s∈aY b))=true:=by
   rw [← Bool.not_eq_false];intro hf;rw [List.any_eq_false] at hf;rw [← Bool.not_eq_true] at h;exact h (List.all_eq_true.2 fun s hs=>by have:=hf s hs;simpa using this)
  rw [this]
structure Sm (g:aB):Prop where
 nl:∀ s∈aY g,s.length≤1000
 vl:g.aC.length≤100000
 al:g.aM.length≤100000
 pn:eC g.aG
 pl:g.aG.length≤100000
theorem TT {a b:aB} (ha:Sm a) (hb:Sm b):RX a b=some (fW a b):=by
 have h1:=ha.vl;have h2:=hb.vl;have h3:=ha.al;have h4:=hb.al;have h5:=ha.pl;have h6:=hb.pl;have na:=ha.nl _ (bG a);have nb:=hb.nl _ (bG b);unfold RX;rw [bD (by simp;omega),bD (by simp;omega),bD (by simp;omega),bD (by simp;omega),JF (by omega) (by omega),Option.bind_some];have e1:((if bT b.name a.name then some (a.name,b.name) else some (b.name,a.name)):Option (aA×aA))=some (AP a b,vV a b):=by
  unfold AP vV;cases bT b.name a.name <;> rfl
 rw [e1,Option.bind_some,bD (by simp;omega)];have hg:(AP a b).length≤1000:=by
  rcases NQ a b with ⟨_,h⟩ | ⟨_,h⟩ <;> rw [h] <;> assumption
 simp only [List.nil_append]
 rw [e38 (by simp;omega) (fun s hs=>by
  rcases List.mem_append.1 hs with hs | hs
  ·rcases List.mem_append.1 hs with hs | hs
   ·have:=ha.nl s (cK.2 (.inr hs));omega
   have:=hb.nl s (cK.2 (.inr hs));omega
  simp at hs;subst hs;omega),Option.bind_some]
 have hsl:=yP ((a.aC++b.aC)++[AP a b]);have hl:(lZ ((a.aC++b.aC)++[AP a b])).length≤300000:=by
  simp only [List.length_append,List.length_singleton] at hsl;omega
 rw [fC (lZ ((a.aC++b.aC)++[AP a b])) (fun c x=>if !decide (x=vV a b) then c++[x] else c) (fun c=>c) (fun i c=>c.length≤i) (step:=xR (lZ ((a.aC++b.aC)++[AP a b])) (AP a b,vV a b)) (fun i x c hi hx hc=>by
   unfold xR;simp only;rw [if_pos (by omega),hx,Option.bind_some];by_cases h:x=vV a b
   ·rw [if_neg (by simpa using h)];simp [h]
   rw [if_pos h,bD (by simp;omega)];simp [h])
  (fun i x c hi hx hc=>by
   split
   ·simp;omega
   omega)
  (fun c hc=>by unfold xR;simp) (a0:=[]) (Nat.le_refl 0),tW,List.nil_append,Option.bind_some]
 have h7:=fC b.aG (fun c p=>sD c p) (fun c=>c) (fun i c=>eC c∧c.length≤100000+i) (step:=xS b) (fun i x c hi hx hc=>by
   unfold xS;simp only
   rw [if_pos (by omega),hx,Option.bind_some,e99 (by omega) hc.1 (hb.pn.ok x (List.mem_of_getElem? hx))];rfl)
  (fun i x c hi hx hc=>⟨nD hc.1 (hb.pn.ok x (List.mem_of_getElem? hx)),by have:=qG (l:=c) (p:=x);omega⟩)
  (fun c hc=>by unfold xS;simp) (a0:=a.aG) ⟨ha.pn,by omega⟩
 rw [h7,Option.bind_some];rfl
theorem JG.sm {cs:List aB} {g:aB} (h:JG cs g) (hr:∀ x∈cs,Rt x) (hn:cs.length≤1000):Sm g:=by
 have:=h.vl;have:=h.al;have:=h.pl;refine ⟨fun s hs=>?_,by omega,by omega,h.pn,by omega⟩;obtain ⟨x,hx,hsx⟩:=(h.nm s).1 hs;have:=(mB (hr x hx)).1 s hsx;omega
theorem oN {out:List aB} {j:Nat}:∀ (ps:List Pr) (i:Nat) (d:Pr) (rest:List aB),out.drop i=ps.map (·.2)→(∀ p∈ps,JG p.1 p.2∧∀ x∈p.1,Rt x)→JG d.1 d.2→(∀ x∈d.1,Rt x)→tot ps+d.1.length≤1000→rest.length+ps.length≤100000 →
  aX (pI (j,out)) (i,d.2.name,d.2.aC,d.2.aM,d.2.aG,rest)=some ((gY (ps.map (·.2)) d.2).2.name,(gY (ps.map (·.2)) d.2).2.aC,(gY (ps.map (·.2)) d.2).2.aM,(gY (ps.map (·.2)) d.2).2.aG,rest++(gY (ps.map (·.2)) d.2).1)
 | [],i,d,rest,hd,_,_,_,_,_=>by
  have:out.length≤i:=by have:=congrArg List.length hd;simp at this;omega
  refine bK ?_;unfold pI;simp only;rw [if_neg (by omega)];simp [gY]
 | o::ps,i,d,rest,hd,hp,hg,hr,ht,hl=>by
  have hlt:i < out.length:=by
   have:=congrArg List.length hd;simp at this;omega
  have e2:=List.drop_eq_getElem_cons hlt;rw [hd,List.map_cons] at e2;have ho:out[i]?=some o.2:=by rw [List.getElem?_eq_getElem hlt];congr 1;exact (List.cons.inj e2).1.symm
  have hd':out.drop (i+1)=ps.map (·.2):=(List.cons.inj e2).2.symm;obtain ⟨go,ro⟩:=hp o List.mem_cons_self;have hp':∀ p∈ps,JG p.1 p.2∧∀ x∈p.1,Rt x:=fun p h=>hp p (List.mem_cons_of_mem _ h);have ht1:tot (o::ps)=o.1.length+tot ps:=by unfold tot;simp
  have so:=go.sm ro (by omega);have sd:=hg.sm hr (by omega);have e60':=e60 (a:=o.2) (b:=d.2) (by have:=so.vl;omega) (by have:=sd.vl;omega);simp only [List.length_cons] at hl;have ed:(⟨d.2.name,d.2.aC,d.2.aM,d.2.aG⟩:aB)=d.2:=rfl;by_cases hm:rX o.2 d.2=true
  ·have hs:pI (j,out) (i,d.2.name,d.2.aC,d.2.aM,d.2.aG,rest)=some (.inl (i+1,(fW o.2 d.2).name,(fW o.2 d.2).aC,(fW o.2 d.2).aM,(fW o.2 d.2).aG,rest)):=by
    unfold pI;simp only;rw [if_pos (by omega),ho,Option.bind_some,ed,e60',Option.bind_some,if_pos hm,TT so sd];rfl
   have e3:gY ((o::ps).map (·.2)) d.2=gY (ps.map (·.2)) (fW o.2 d.2):=by
    simp only [List.map_cons,gY];rw [if_pos hm]
   rw [bU hs,e3]
   exact oN ps (i+1) (o.1++d.1,fW o.2 d.2) rest hd' hp' (go.join hg (oL.1 hm)) (fun x hx=>by
    rcases List.mem_append.1 hx with hx | hx
    ·exact ro x hx
    exact hr x hx) (by simp only [List.length_append];omega) (by omega)
  have hs:pI (j,out) (i,d.2.name,d.2.aC,d.2.aM,d.2.aG,rest)=some (.inl (i+1,d.2.name,d.2.aC,d.2.aM,d.2.aG,rest++[o.2])):=by
   unfold pI;simp only;rw [if_pos (by omega),ho,Option.bind_some,ed,e60',Option.bind_some,if_neg hm,bD (by omega)];rfl
  have e3:gY ((o::ps).map (·.2)) d.2=(o.2::(gY (ps.map (·.2)) d.2).1,(gY (ps.map (·.2)) d.2).2):=by
   simp only [List.map_cons,gY];rw [if_neg hm]
  rw [bU hs,e3,oN ps (i+1) d (rest++[o.2]) hd' hp' hg hr (by omega) (by simp only [List.length_append,List.length_singleton];omega)];simp
structure WL (hs:List aB):Prop where
 len:hs.length≤900
 rt:∀ h∈hs,Rt h
 vn:∀ h∈hs,h.name∉h.aC
theorem NS {inds:List (List aB)} {q:Nat×List aB} {x hs:List aB} {ps:List Pr} (hx:inds[q.1]?=some x) (hS:WL (hs++x)) (h0:mD hs q.2 ps) :
  ∃ out,aX (tO inds q) (0,q.2)=some out∧∃ ps,mD (hs++x) out ps:=by
 refine iU x (S:=List aB) (step:=tO inds q) (s0:=q.2) (fun i out=>∃ ps,mD (hs++x.take i) out ps) (fun out=>∃ ps,mD (hs++x) out ps) (fun i h out hh hI=>?_) (fun out hI=>?_) ⟨ps,by simpa using h0⟩
 ·obtain ⟨ps,hP⟩:=hI;have hlt:=(List.getElem?_eq_some_iff.1 hh).1;have hlen:=hS.len;rw [List.length_append] at hlen;have hhx:h∈hs++x:=List.mem_append_right _ (List.mem_of_getElem? hh);have hin:∀ k,k∈hs++x.take i→k∈hs++x:=fun k hk=>by
   rcases List.mem_append.1 hk with hk | hk
   ·exact List.mem_append_left _ hk
   exact List.mem_append_right _ (List.mem_of_mem_take hk)
  have htt:=hP.tt;rw [List.length_append,List.length_take] at htt;have hpl:=vW hP.g;have hl:=oN (out:=out) (j:=i) ps 0 ([h],h) [] (by rw [List.drop_zero,hP.eq]) (fun p hp=>⟨hP.g p hp,fun y hy=>hS.rt y (hin y ((hP.mem y).2 ⟨p,hp,hy⟩))⟩) (.one (hS.rt h hhx) (hS.vn h hhx)) (fun y hy=>by simp at hy;subst hy;exact hS.rt _ hhx) (by simp only [List.length_singleton];omega) (by simp only [List.length_nil];omega);rw [hP.eq] at hl;simp only at hl;obtain ⟨qs,hQ⟩:=hP.step (hS.rt h hhx) (hS.vn h hhx);have hQl:=hQ.lens.len;refine ⟨NR out h,?_,qs,by rw [dO hh,← List.append_assoc];exact hQ⟩;unfold tO;simp only;rw [hx,Option.bind_some,if_pos (by omega),hh,Option.bind_some,hl,Option.bind_some];simp only [List.nil_append];unfold NR at hQl ⊢;rw [bD (by simp only [List.length_append,List.length_singleton,List.length_take] at hQl;omega)]
 rw [List.take_length] at hI;refine ⟨out,?_,hI⟩;unfold tO;simp only;rw [hx,Option.bind_some,if_neg (by omega)]
theorem NT {inds:List (List aB)} (hS:WL inds.flatten):∃ out,aX (tP inds) (0,([]:List aB))=some out∧∃ ps,mD inds.flatten out ps:=by
 refine iU inds (S:=List aB) (step:=tP inds) (s0:=[]) (fun i out=>∃ ps,mD (inds.take i).flatten out ps) (fun out=>∃ ps,mD inds.flatten out ps) (fun i x out hx hI=>?_) (fun out hI=>?_) ⟨[],.nil⟩
 ·obtain ⟨ps,hP⟩:=hI;have hlt:=(List.getElem?_eq_some_iff.1 hx).1;have e1:(inds.take (i+1)).flatten=(inds.take i).flatten++x:=by rw [dO hx];simp
  have e2:(inds.take (i+1)).flatten++(inds.drop (i+1)).flatten=inds.flatten:=by rw [← List.flatten_append,List.take_append_drop]
  have hS':WL ((inds.take i).flatten++x):=by
   rw [e1] at e2;have hm:∀ k,k∈(inds.take i).flatten++x→k∈inds.flatten:=fun k hk=>by rw [← e2];exact List.mem_append_left _ hk
   refine ⟨?_,fun k hk=>hS.rt k (hm k hk),fun k hk=>hS.vn k (hm k hk)⟩;have h1:=hS.len;rw [← e2,List.length_append] at h1;omega
  obtain ⟨o,h1,qs,h2⟩:=NS (q:=(i,out)) hx hS' hP;refine ⟨o,?_,qs,by rw [e1];exact h2⟩;unfold tP;simp only;rw [if_pos (by omega),h1];rfl
 rw [List.take_length] at hI;exact ⟨out,by unfold tP;simp,hI⟩
theorem tX {x:aB} (hxl:x.name.length≤1073741824):∀ (n:Nat) (a b:List aB),a.length=n→n≤1000000000→(∀ y∈a,y.name.length≤1073741824)→mV a→(∀ y∈a,y.name≠x.name)→aX rN ((n:Int),a++x::b)=some (nF x a++b)
 | 0,a,b,hn,_,_,_,_=>by
  rw [List.length_eq_zero_iff.1 hn];exact bK (by unfold rN;simp [nF])
 | n+1,a,b,hn,hb,hl,hs,hx=>by
  obtain ⟨a',y,rfl⟩:∃ a' y,a=a'++[y]:=⟨a.dropLast,a.getLast (by intro e;subst e;simp at hn),(List.dropLast_concat_getLast _).symm⟩;have hn':a'.length=n:=by simpa using hn
  have hyl:=hl y (by simp);have hne:=hx y (by simp);obtain ⟨hs1,_,hs2⟩:=List.pairwise_append.1 hs;have g1:(a'++[y]++x::b)[n+1]?=some x:=by
   rw [List.getElem?_append_right (by simp;omega)];simp [hn']
  have g0:(a'++[y]++x::b)[n]?=some y:=by
   rw [List.append_assoc,List.getElem?_append_right (by omega)];simp [hn']
  have s1:(a'++[y]++x::b).set (n+1) y=a'++y::y::b:=by
   rw [List.append_assoc,List.set_append_right _ _ (by omega)];simp [hn',show n+1 - n=1 by omega]
  have s2:(a'++y::y::b).set n x=a'++x::y::b:=by
   rw [List.set_append_right _ _ (by omega)];simp [hn']
  have t1:(((n+1:Nat):Int)).toNat=n+1:=by omega
  have t0:(((n+1:Nat):Int) - 1).toNat=n:=by omega
  have cond:rN (((n+1:Nat):Int),a'++[y]++x::b)=some (if bT x.name y.name then .inl ((n:Int),a'++x::(y::b)) else .inr (a'++[y]++x::b)):=by
   unfold rN;simp only;rw [if_pos (by omega),t1,t0,g1,Option.bind_some,bD (by omega),g0,Option.bind_some,JF hxl hyl,Option.bind_some,Option.bind_some]
   cases hbf:bT x.name y.name with
   | false=>rfl
   | true =>
    rw [if_pos rfl,bD (by omega),bD (by omega),Option.bind_some,bD (by omega),Option.bind_some,s1];have g2:(a'++y::y::b)[n]?=some y:=by rw [List.getElem?_append_right (by omega)];simp [hn']
    rw [g2,Option.bind_some,s2,show (((n+1:Nat):Int) - 1)=(n:Int) by omega];rfl
  cases hbf:bT x.name y.name with
  | true =>
   rw [hbf,if_pos rfl] at cond;rw [bU cond,tX hxl n a' (y::b) hn' (by omega) (fun z hz=>hl z (by simp [hz])) hs1 (fun z hz=>hx z (by simp [hz]))];have hyx:bT y.name x.name=false:=by
    rw [← Bool.not_eq_true];intro h;exact oK (show fB x.name y.name from hbf) h
   unfold nF;simp [List.filter_append,hyx]
  | false =>
   rw [hbf,if_neg (by decide)] at cond;rw [bK cond];have hyx:fB y.name x.name:=by
    rcases fH hne with h | h
    ·exact h
    unfold fB at h;rw [hbf] at h;cases h
   have hall:∀ z∈a'++[y],bT z.name x.name=true:=fun z hz=>by
    rcases List.mem_append.1 hz with h | h
    ·exact eA (hs2 z h y (by simp)) hyx
    simp at h;rw [h];exact hyx
   have e1:(a'++[y]).filter (fun z=>bT z.name x.name)=a'++[y]:=List.filter_eq_self.2 hall;have e2:(a'++[y]).filter (fun z=>!bT z.name x.name)=[]:=List.filter_eq_nil_iff.2 fun z hz=>by rw [hall z hz];decide
   unfold nF;rw [e1,e2];simp
theorem NU {x:aB} {out:List aB} (ha:x.aM.length≤100000) (hv:∀ k∈out,k.aC.length≤1000000) (hin:∀ t∈x.aM,∃ k∈out,t∈aY k) (hun:∀ t,∀ k∈out,t∈aY k→nmOf out t=k.name) :
  aX (tQ x out) (0,([]:List aA))=some ((x.aM.map (nmOf out)).filter fun n=>!decide (n=x.name)):=by
 have h:=fC x.aM (fun c t=>if !decide (nmOf out t=x.name) then c++[nmOf out t] else c) (fun c=>c) (fun i c=>c.length≤i) (step:=tQ x out) (fun i t c hi ht hc=>by
   have htm:=List.mem_of_getElem? ht;obtain ⟨k,hk,hkt⟩:=hin t htm;obtain ⟨q,h1,h2,h3⟩:=iF (BX hk hkt);have hq:=hun t q (List.mem_of_getElem? h1) h2;unfold tQ;simp only;rw [if_pos (by omega),ht,Option.bind_some,e41 (fun y hy=>by have:=hv y hy;omega),Option.bind_some,bD (by omega),h1,Option.bind_some,← hq];by_cases hn:nmOf out t=x.name
   ·rw [if_neg (by simpa using hn)];simp [hn]
   rw [if_pos hn,bD (by omega)];simp [hn])
  (fun i t c hi ht hc=>by
   split
   ·simp;omega
   omega)
  (fun c hc=>by unfold tQ;simp) (a0:=[]) (Nat.le_refl 0)
 rw [h];congr 1;have:∀ (l:List aA) (a:List aA),l.foldl (fun c t=>if !decide (nmOf out t=x.name) then c++[nmOf out t] else c) a=a++(l.map (nmOf out)).filter fun n=>!decide (n=x.name):=by
  intro l
  induction l with
  | nil=>intro a;simp
  | cons t l ih =>
   intro a;rw [List.foldl_cons,ih];by_cases hn:nmOf out t=x.name <;> simp [hn]
 simpa using this x.aM []
theorem mD.names_in {hs out:List aB} {ps:List Pr} (h:mD hs out ps) (hc:clo hs) {g:aB} (hg:g∈out) {t:aA} (ht:t∈g.aM):∃ k∈out,t∈aY k:=by
 rw [← h.eq] at hg;obtain ⟨p,hp,rfl⟩:=List.mem_map.1 hg;obtain ⟨x,hx,hxt⟩:=((h.g p hp).am t).1 ht;obtain ⟨y,hy,e⟩:=hc x ((h.mem x).2 ⟨p,hp,hx⟩) t hxt;obtain ⟨q,hq,hyq⟩:=(h.mem y).1 hy;exact ⟨q.2,h.eq▸List.mem_map_of_mem hq,((h.g q hq).nm t).2 ⟨y,hyq,e▸bG y⟩⟩
theorem mD.nmOf {hs out:List aB} {ps:List Pr} (h:mD hs out ps) (t:aA) {k:aB} (hk:k∈out) (ht:t∈aY k):T11.nmOf out t=k.name:=by
 have hk':=hk;rw [← h.eq] at hk';obtain ⟨q,hq,rfl⟩:=List.mem_map.1 hk';unfold T11.nmOf;rw [h.find hq ht]
theorem e21 {inds:List (List aB)} (hS:WL inds.flatten) (hc:clo inds.flatten):∃ x,RY inds=some x∧dI inds.flatten x:=by
 obtain ⟨out,h1,ps,hP⟩:=NT hS;refine ⟨JR out,?_,hP.join hc⟩;have hL:=hP.lens;have hlen:=hS.len;have hlo:=hL.len;have hv:∀ k∈out,k.aC.length≤1000000:=fun k hk=>by have:=(hL.each k hk).1;omega
 have hnm:∀ k∈out,k.name.length≤40:=fun k hk=>by
  rw [← hP.eq] at hk;obtain ⟨p,hp,rfl⟩:=List.mem_map.1 hk;obtain ⟨y,hy,e⟩:=(hP.g p hp).hd;rw [← e];exact (mB (hS.rt y ((hP.mem y).2 ⟨p,hp,hy⟩))).1 _ (bG y)
 have hw:(out.map (jD out)).Pairwise fun x y=>x.name≠y.name:=by
  rw [← hP.eq,List.map_map,List.pairwise_map];exact hP.dj.imp fun {a b} hd e=>hd a.2.name (bG _) (by rw [show a.2.name=b.2.name from e];exact bG _)
 unfold RY;rw [h1,Option.bind_some]
 refine (fun key=>?_) (iU out (S:=List aB) (step:=xU out) (s0:=[]) (fun i s=>s=yS ((out.take i).map (jD out))∧s.length=i) (fun s=>s=JR out) (fun i g s hg hI=>?_) (fun s hI=>⟨s,by unfold xU;rw [if_neg (by simp)],by
   rw [List.take_length] at hI;exact hI.1⟩) ⟨rfl,rfl⟩)
 ·obtain ⟨x,h2,h3⟩:=key;rw [h2,Option.bind_some,h3]
 obtain ⟨i1,i2⟩:=hI;have hgm:=List.mem_of_getElem? hg;have hlt:=(List.getElem?_eq_some_iff.1 hg).1;have hal:=(hL.each g hgm).2.1;have hw':((out.take i).map (jD out)).Pairwise fun x y=>x.name≠y.name:=hw.sublist ((List.take_sublist i out).map _);obtain ⟨s1,s2⟩:=oM ((out.take i).map (jD out)) [] List.Pairwise.nil hw' (by simp);have e3:(out.take (i+1)).map (jD out)=(out.take i).map (jD out)++[jD out g]:=by rw [dO hg];simp
 have hw2:((out.take i).map (jD out)++[jD out g]).Pairwise fun x y=>x.name≠y.name:=e3▸hw.sublist ((List.take_sublist (i+1) out).map _);have hne:∀ y∈s,y.name≠(jD out g).name:=fun y hy=>by
  rw [i1] at hy;have hy':=(s2 y).1 hy;simp only [List.not_mem_nil,false_or] at hy';exact (List.pairwise_append.1 hw2).2.2 y hy' _ (List.mem_singleton.2 rfl)
 have hsn:∀ y∈s,y.name.length≤1073741824:=fun y hy=>by
  rw [i1] at hy;have hy':=(s2 y).1 hy;simp only [List.not_mem_nil,false_or] at hy';obtain ⟨k,hk,rfl⟩:=List.mem_map.1 hy';have:=hnm k (List.mem_of_mem_take hk);show k.name.length≤_;omega
 have hsr:mV s:=by rw [i1];exact s1
 have hfl:((g.aM.map (nmOf out)).filter fun n=>!decide (n=g.name)).length≤100000:=by
  refine Nat.le_trans (List.length_filter_le _ _) ?_;rw [List.length_map];omega
 refine ⟨nF (jD out g) s,?_,?_,by rw [GN,i2]⟩
 ·unfold xU;simp only
  rw [if_pos (by omega),hg,Option.bind_some,NU (by omega) hv (fun t ht=>hP.names_in hc hgm ht) (fun t k hk ht=>hP.nmOf t hk ht),Option.bind_some,e38 (by omega) (fun t ht=>by
   obtain ⟨ht,_⟩:=List.mem_filter.1 ht;obtain ⟨u,hu,rfl⟩:=List.mem_map.1 ht;obtain ⟨k,hk,hku⟩:=hP.names_in hc hgm hu;rw [hP.nmOf u hk hku]
   have:=hnm k hk;omega),Option.bind_some,bD (by omega)]
  have hn:(((s++[(⟨g.name,g.aC,lZ ((g.aM.map (nmOf out)).filter fun n=>!decide (n=g.name)),g.aG⟩:aB)]).length:Int) - 1)=((s.length:Nat):Int):=by simp
  rw [hn];have hins:=tX (x:=jD out g) (by have:=hnm g hgm;show g.name.length≤_;omega) s.length s [] rfl (by omega) hsn hsr hne;rw [List.append_nil] at hins;show (aX rN ((s.length:Int),s++[jD out g])).bind _=_;rw [hins];rfl
 rw [e3,i1];unfold yS;rw [List.foldl_append];rfl
end T11
namespace T11
open Go Go.Proofs Pk
theorem tY {α:Type} {p:α→Prop} [DecidablePred p]:∀ (l:List α),(∀ x∈l,p x)∨∃ a x b,l=a++x::b∧(∀ y∈a,p y)∧¬p x
 | []=>.inl (by simp)
 | y::l=>by
  by_cases h:p y
  ·rcases tY (p:=p) l with h1 | ⟨a,x,b,rfl,h1,h2⟩
   ·left;intro z hz;rcases List.mem_cons.1 hz with rfl | hz
    ·exact h
    exact h1 z hz
   refine .inr ⟨y::a,x,b,rfl,fun z hz=>?_,h2⟩;rcases List.mem_cons.1 hz with rfl | hz
   ·exact h
   exact h1 z hz
  exact .inr ⟨[],y,l,rfl,by simp,h⟩
theorem GO {α ε:Type} {g:Nat→α→Option ε} {out e:ε}:∀ {a b:List α} {x:α} {k:Nat},(∀ j y,y∈a→g j y=none)→(∀ j,g j x=some e)→uQ g out (a++x::b) k=e
 | [],b,x,k,_,h=>by simp [uQ,h]
 | y::a,b,x,k,ha,h=>by
  simp only [List.cons_append,uQ,ha k y List.mem_cons_self];exact GO (fun j z hz=>ha j z (List.mem_cons_of_mem _ hz)) h
theorem yT (l:List (List aB)):aX (xO l) 0=some (uQ (fun _ x=>if cE x≠0 then some (.inr (cE x)) else none) (.inl ()) l 0):=jQ l _ _ (fun i x hi hx=>by
  unfold xO;rw [if_pos (by omega),hx,Option.bind_some,e26,Option.bind_some]
  by_cases h:cE x=0 <;> simp [h]) (by unfold xO;rw [if_neg (by omega)])
theorem NV {l:List (List aB)} (hn:l.length≤12) (h:∀ x∈l,cE x=0):IX l=some 0:=by
 unfold IX;rw [if_neg (by omega),yT,mZ (fun j x hx=>by rw [if_neg];simpa using h x (List.mem_of_getElem? hx))];rfl
theorem JS {a b:List (List aB)} {x:List aB} (hn:(a++x::b).length≤12) (h:∀ y∈a,cE y=0) (hx:cE x≠0):IX (a++x::b)=some (cE x):=by
 unfold IX;rw [if_neg (by omega),yT,GO (e:=.inr (cE x)) (fun j y hy=>by rw [if_neg];simpa using h y hy) (fun j=>by rw [if_pos hx])];rfl
theorem JT {a b:List (List aB)} {x:List aB} (hn:(a++x::b).length≤12) (h:∀ y∈a,Ix y) (hx:cE x≠0):m18 (a++x::b)=some ([],cE x):=by
 have hla:a.length < (a++x::b).length:=by simp
 have key:∀ k i (hs:List aB) (lk:List (aA×aA)),a.length - i=k→i≤a.length→hs=(a.take i).flatten→vP hs lk→aX (fV (a++x::b)) (i,hs,lk)=some (.inr ([],cE x)):=by
  intro k
  induction k with
  | zero =>
   intro i hs lk hk hi e1 hI;obtain rfl:i=a.length:=by omega
   refine bK ?_;unfold fV;simp only;rw [if_pos (by omega),List.getElem?_append_right (Nat.le_refl _)];simp only [Nat.sub_self,List.getElem?_cons_zero,Option.bind_some];rw [TK,Option.bind_some,if_pos hx]
  | succ k ih =>
   intro i hs lk hk hi e1 hI;have hlt:i < a.length:=by omega
   have hg:(a++x::b)[i]?=some a[i]:=by rw [List.getElem?_append_left hlt];exact List.getElem?_eq_getElem hlt
   have hga:a[i]?=some a[i]:=List.getElem?_eq_getElem hlt;have hix:=h a[i] (List.getElem_mem hlt);obtain ⟨lk',h4,h5⟩:=GH (l:=a[i]) hI fun q hq=>by have:=(hix.rt q hq).2.1.1;omega
   have h6:hs.length≤60*12:=by
    rw [e1];have:=nB (n:=60) (L:=a.take i) fun l hl=>(h l (List.mem_of_mem_take hl)).len;have h7:(a.take i).length≤12:=by rw [List.length_take];omega
    omega
   have h8:=hix.len;have hs':fV (a++x::b) (i,hs,lk)=some (.inl (i+1,hs++a[i],lk')):=by
    unfold fV;simp only;rw [if_pos (by omega),hg,Option.bind_some,TK,Option.bind_some,gX.2 hix,if_neg (by simp),h4,Option.bind_some,bD (by omega)]
   rw [bU hs'];exact ih (i+1) _ _ (by omega) (by omega) (by rw [dO hga,List.flatten_append,← e1];simp) h5
 unfold m18;rw [if_neg (by omega),key a.length 0 [] [] (by omega) (by omega) (by simp) vP.start];rfl
theorem QA (l:List aB):RZ l=some (@decide (vN l) (Classical.propDecidable _)):=by
 have hall:=eY (ε:=Unit⊕Bool) l (fun x=>!pV x) (.inr false) (.inl ()) (step:=xV l) (fun i x hi hx=>by
  unfold xV;rw [if_pos (by omega),hx,Option.bind_some];unfold pV;by_cases h1:8 < x.aC.length
  ·rw [if_pos (by omega)];simp [h1]
  rw [if_neg (by omega)];by_cases h2:8 < x.aM.length
  ·rw [if_pos (by omega)];simp [h2]
  rw [if_neg (by omega)];by_cases h3:30 < x.aG.length
  ·simp [h3];omega
  simp [h1,h2,h3];omega) (by unfold xV;rw [if_neg (by omega)])
 unfold RZ;rw [hall,Option.bind_some];have hb:(l.all fun x=>!pV x)=true↔∀ g∈l,g.aC.length≤8∧g.aM.length≤8∧g.aG.length≤30:=by
  rw [List.all_eq_true];refine forall_congr' fun g=>forall_congr' fun _=>?_;unfold pV;simp only [Bool.not_eq_true',Bool.or_eq_false_iff,decide_eq_false_iff_not];omega
 cases hc:(l.all fun x=>!pV x) with
 | true =>
  rw [if_pos rfl];simp only;congr 1;rw [decide_eq_decide];exact ⟨fun h=>⟨by omega,hb.1 hc⟩,fun h=>by have:=h.1;omega⟩
 | false =>
  rw [if_neg (by decide)];simp only;congr 1
  symm
  rw [decide_eq_false_iff_not];intro hf;rw [hb.2 hf.2] at hc;cases hc
theorem JU {L:List (List aB)} (h:∀ x∈L,sN x=true) (hn:L.length≤1000):m19 L=some L:=by
 unfold m19
 rw [jR L (fun x=>x) (fun a=>a) (step:=pH L) (fun i x a hi hxi ha=>by
  unfold pH
  rw [if_pos (show (i:Int) < (L.length:Int) by omega),hxi,Option.bind_some,JI (h x (List.mem_of_getElem? hxi)),Option.bind_some,bD (by simp only;omega)]) (fun a=>by unfold pH;rw [if_neg (by simp)])]
 simp
theorem aBc (hawk:m16=some true) (l:List (List aB)):m3 l=some true:=by
 unfold m3;rw [hawk];by_cases h0:14 < (l.length:Int)
 ·rw [if_pos h0];rfl
 rw [if_neg h0]
 have hall:=eY (ε:=Unit⊕Bool) l (fun x=>sN x&&!(decide (8 < x.length)&&decide (x.length≤60))) (.inr true) (.inl ()) (step:=FT l) (fun i x hi hx=>by
  unfold FT;rw [if_pos (by omega),hx,Option.bind_some,e17,Option.bind_some,hawk]
  cases sN x with
  | false=>rfl
  | true =>
   rw [if_pos rfl];by_cases h8:8 < x.length
   ·rw [if_pos (by omega)];by_cases h3:x.length≤60
    ·simp [h8,h3];omega
    simp [h8,h3];omega
   rw [if_neg (by omega)];simp [h8]) (by unfold FT;rw [if_neg (by omega)])
 rw [hall,Option.bind_some]
 cases hc:(l.all fun x=>sN x&&!(decide (8 < x.length)&&decide (x.length≤60))) with
 | false=>rfl
 | true =>
  rw [if_pos rfl];simp only;rw [List.all_eq_true] at hc;have hfew:∀ x∈l,sN x=true:=fun x hx=>by
   have:=hc x hx;rw [Bool.and_eq_true] at this;exact this.1
  have hs:∀ x∈l,cE x=0→x.length≤8:=fun x hx hf=>by
   have h1:=hc x hx;have h2:=(gX.1 hf).len;simp only [Bool.and_eq_true,Bool.not_eq_true',Bool.and_eq_false_iff,decide_eq_false_iff_not] at h1;omega
  rw [JU hfew (by omega),Option.bind_some];by_cases h5:12 < l.length
  ·have e1:m18 l=some ([],3):=by unfold m18;rw [if_pos (by omega)]
   have e2:IX l=some 3:=by unfold IX;rw [if_pos (by omega)]
   rw [e1,Option.bind_some,e2];rfl
  rcases tY (p:=fun x=>cE x=0) l with hok | ⟨a,x,b,rfl,ha,hx⟩
  ·have hix:∀ x∈l,Ix x:=fun x hx=>gX.1 (hok x hx);have hlen:=nB (n:=8) (L:=l) fun x hx=>hs x hx (hok x hx);obtain ⟨x,hJ,e1⟩:=e18 hix (by omega);have hcl:clo l.flatten:=yN hix
   obtain ⟨y,e2,hJ2⟩:=e21 (inds:=l) ⟨by omega,CK hix,fun k hk=>by
    obtain ⟨q,hq,hk⟩:=List.mem_flatten.1 hk
    exact (hix q hq).vnd hk⟩ hcl
   have exy:y=x:=hJ2.uniq hJ;subst exy;rw [e1,Option.bind_some,NV (by omega) hok,Option.bind_some,if_neg (by simp),e2,Option.bind_some,QA,Option.bind_some];by_cases hf:vN y
   ·have h4:IV y=some y:=(JO hix hJ hf).e24;rw [if_pos hf,if_pos (by simpa using hf),if_pos rfl,h4,Option.bind_some,e23];simp
   rw [if_neg hf,if_neg (by simpa using hf)];rfl
  rw [JT (by omega) (fun y hy=>gX.1 (ha y hy)) hx,Option.bind_some,JS (by omega) ha hx,Option.bind_some,if_pos hx];simp
end T11
namespace Pk
open Go
def JV:Nat→Nat→List UInt8
 | 0,u=>[UInt8.ofNat (48+u)]
 | f+1,u=>if u < 10 then [UInt8.ofNat (48+u)] else JV f (u/10)++[UInt8.ofNat (48+u%10)]
theorem CM:∀ (f u:Nat),u < 10 ^ f→JV f u=Lib.decDigits u
 | 0,u,h=>by
  have:u=0:=by simpa using h
  subst this;rw [Lib.decDigits,dif_pos (by decide)];rfl
 | f+1,u,h=>by
  rw [Lib.decDigits,JV]
  split
  ·rfl
  rw [CM f (u/10) (by rw [Nat.pow_succ] at h;omega)]
def GP (n:Int):Option aA:=if 0≤n∧n≤999999 then some (JV 6 n.toNat) else none
theorem TU (n:Int):bJ (GP n) (AY n):=fun r hr=>by
  unfold GP at hr
  split at hr
  · rename_i h
    cases hr;unfold AY;rw [bD (by omega)];unfold Lib.itoa
    rw [if_neg (by omega), CM 6 _ (by have:(10:Nat) ^ 6=1000000 := by decide
                                      omega)]
  cases hr
end Pk
namespace T11.E
open Go Go.Proofs Pk
def zU (s:aA):Option (Int×Bool):=cH (s.length≤1073741824) (some (oR s))
theorem TV (s:aA):bJ (T11.E.zU s) (T11.zU s):=bJ.chk (bJ.refl _)
def rD (n:Int):Option aA:=GP n
theorem TW (n:Int):bJ (T11.E.rD n) (T11.rD n):=TU n
def zV (s t:aA):Option (aA×aA×Bool):=cH (s.length≤1073741824) (some (Lib.cut s t))
theorem NW (s t:aA):bJ (T11.E.zV s t) (T11.zV s t):=bJ.chk (bJ.refl _)
def xA (s t:aA):Option Bool:=cH (s.length≤1073741824) (some (Lib.contains s t))
theorem TX (s t:aA):bJ (T11.E.xA s t) (T11.xA s t):=bJ.chk (bJ.refl _)
def DI (s t:aA):Option aA:=some (Lib.trimPrefix s t)
theorem TY (s t:aA):bJ (T11.E.DI s t) (T11.DI s t):=bJ.refl _
def IR (a b:aA):Option Int:=some (Lib.compareBytes a b)
theorem aBd (s t:aA):bJ (T11.E.IR s t) (T11.IR s t):=bJ.refl _
def xB (s:aA) (r:Int):Option Bool:=cH (0≤r∧r < 128) (some (decide (0≤Lib.indexByte s r.toNat.toUInt8)))
theorem TZ (s:aA) (r:Int):bJ (T11.E.xB s r) (T11.xB s r):=bJ.chk (bJ.refl _)
def sJ (s t:aA):Option aA:=match t with
 | [c]=>cH (s.length≤1073741824∧c.toNat < 128) (some (Lib.trimB s c))
 | _=>none
theorem UA (s t:aA):bJ (T11.E.sJ s t) (T11.sJ s t):=by
 intro r h;unfold T11.E.sJ at h
 split at h
 ·exact bJ.chk (bJ.refl _) r h
 cases h
def FL (s t:aA):Option (List aA):=cH (s.length≤1073741824∧1≤t.length) (some ((Lib.splitB (bs t) 0 (Lib.countB (bs s) (bs t)) (bs s)).map (·.data.toList)))
theorem UB (s t:aA):bJ (T11.E.FL s t) (T11.FL s t):=bJ.chk (bJ.refl _)
def uU (l:List aA) (sep:aA):Option aA:=cH (l.length≤1073741824∧(Lib.join l sep).length≤1073741824) (some (Lib.join l sep))
theorem UC (l:List aA) (sep:aA):bJ (T11.E.uU l sep) (T11.uU l sep):=bJ.chk (bJ.refl _)
end T11.E
set_option maxHeartbeats 4000000
namespace T11.E
open Go Go.Proofs Pk
def GW  : Option (List (List aB)) :=
 some ([([(⟨[67,111,114,110,32,76,97,119,115],([]:List aA),([[84,114,97,100,101]]:List aA),([(⟨3,12,14⟩:aI),(⟨4,1,1⟩:aI)]:List aI)⟩:aB),(⟨[76,101,101,32,65,110,110],([[65,32,76,101,101]]:List aA),([]:List aA),([(⟨3,7,7⟩:aI)]:List aI)⟩:aB),(⟨[84,114,97,100,101],([]:List aA),([]:List aA),([(⟨3,13,13⟩:aI)]:List aI)⟩:aB)]:List aB),([(⟨[65,32,76,101,101],([[76,97,100,121,32,76,101,101]]:List aA),([]:List aA),([(⟨9,1,2⟩:aI)]:List aI)⟩:aB),(⟨[67,111,114,110,32,108,97,119,115],([[67,111,114,110,32,76,97,119,115]]:List aA),([]:List aA),([(⟨4,2,2⟩:aI)]:List aI)⟩:aB)]:List aB)]:List (List aB))
theorem aBe  : bJ (GW ) (T11.GW ):=by
 unfold GW T11.GW
 repeat' with_reducible first|exact dA _
def rE (x_0:aB) (f0_:aB→Option Bool):Option (Bool) :=
 (f0_ x_0).bind fun r0 =>
 some (!r0)
theorem UD (x_0:aB) {f0_ f0_':aB→Option Bool} (hf0_:∀ y0,bJ (f0_ y0) (f0_' y0)):bJ (rE x_0 f0_) (T11.rE x_0 f0_'):=by
 unfold rE T11.rE
 repeat' with_reducible first|exact dA _|exact hf0_ _|refine dD ?_ fun _=>?_
def jS (s_0:List aB) (f_1:aB→Option Bool) (s0:Nat):Option ((Nat)⊕((Unit)⊕Int)) :=
 if (s0:Int) < (s_0.length:Int) then (
  (s_0[s0]?).bind fun x0 =>
  (f_1 x0).bind fun r0 =>
  if r0 then (
   some (.inr (.inr (s0:Int))))
  else
  some (.inl (s0+1)))
 else
 some (.inr (.inl ()))
theorem JW (s_0:List aB) {f_1 f_1':aB→Option Bool} (hf_1:∀ y0,bJ (f_1 y0) (f_1' y0)) (s0:Nat):bJ (jS s_0 f_1 s0) (T11.jS s_0 f_1' s0):=by
 unfold jS T11.jS
 repeat' with_reducible first|exact dA _|exact hf_1 _|refine eQ ?_ ?_|refine dD ?_ fun _=>?_
def uX (s_0:List aB) (f_1:aB→Option Bool):Option (Int) :=
 (loopE (jS s_0 f_1) 0).bind fun e29=>match e29 with
 | .inr z=>some z
 | .inl t0 =>
 some (-1)
theorem UE (s_0:List aB) {f_1 f_1':aB→Option Bool} (hf_1:∀ y0,bJ (f_1 y0) (f_1' y0)):bJ (uX s_0 f_1) (T11.uX s_0 f_1'):=by
 unfold uX T11.uX
 repeat' with_reducible first|exact dA _|refine JW _ (fun _=>?_) _|exact hf_1 _|refine nG (fun _=>?_) _|(refine sI ?_ (fun _=>?_) (fun _=>?_)<;>try dsimp only)|refine dD ?_ fun _=>?_
def uY (s_0:List aB) (f_1:aB→Option Bool):Option (Bool) :=
 (uX s_0 f_1).bind fun r1 =>
 some (decide (0≤r1))
theorem UG (s_0:List aB) {f_1 f_1':aB→Option Bool} (hf_1:∀ y0,bJ (f_1 y0) (f_1' y0)):bJ (uY s_0 f_1) (T11.uY s_0 f_1'):=by
 unfold uY T11.uY
 repeat' with_reducible first|exact dA _|refine UE _ (fun _=>?_)|exact hf_1 _|refine dD ?_ fun _=>?_
def zY (l_0:List aB) (right:aB→Option Bool):Option (Bool) :=
 (uY l_0 (fun x0_=>rE x0_ right)).bind fun r5 =>
 some (!r5)
theorem aBf (l_0:List aB) {right right':aB→Option Bool} (hright:∀ y0,bJ (right y0) (right' y0)):bJ (zY l_0 right) (T11.zY l_0 right'):=by
 unfold zY T11.zY
 repeat' with_reducible first|exact dA _|refine UG _ (fun _=>?_)|refine UD _ (fun _=>?_)|exact hright _|refine dD ?_ fun _=>?_
def rF (x_0:aA) (f0_:aA→Option Bool):Option (Bool) :=
 (f0_ x_0).bind fun r1 =>
 some (!r1)
theorem UH (x_0:aA) {f0_ f0_':aA→Option Bool} (hf0_:∀ y0,bJ (f0_ y0) (f0_' y0)):bJ (rF x_0 f0_) (T11.rF x_0 f0_'):=by
 unfold rF T11.rF
 repeat' with_reducible first|exact dA _|exact hf0_ _|refine dD ?_ fun _=>?_
def jT (s_0:List aA) (f_1:aA→Option Bool) (s0:Nat):Option ((Nat)⊕((Unit)⊕Int)) :=
 if (s0:Int) < (s_0.length:Int) then (
  (s_0[s0]?).bind fun x0 =>
  (f_1 x0).bind fun r0 =>
  if r0 then (
   some (.inr (.inr (s0:Int))))
  else
  some (.inl (s0+1)))
 else
 some (.inr (.inl ()))
theorem JX (s_0:List aA) {f_1 f_1':aA→Option Bool} (hf_1:∀ y0,bJ (f_1 y0) (f_1' y0)) (s0:Nat):bJ (jT s_0 f_1 s0) (T11.jT s_0 f_1' s0):=by
 unfold jT T11.jT
 repeat' with_reducible first|exact dA _|exact hf_1 _|refine eQ ?_ ?_|refine dD ?_ fun _=>?_
def uZ (s_0:List aA) (f_1:aA→Option Bool):Option (Int) :=
 (loopE (jT s_0 f_1) 0).bind fun wC=>match wC with
 | .inr z=>some z
 | .inl t0 =>
 some (-1)
theorem UI (s_0:List aA) {f_1 f_1':aA→Option Bool} (hf_1:∀ y0,bJ (f_1 y0) (f_1' y0)):bJ (uZ s_0 f_1) (T11.uZ s_0 f_1'):=by
 unfold uZ T11.uZ
 repeat' with_reducible first|exact dA _|refine JX _ (fun _=>?_) _|exact hf_1 _|refine nG (fun _=>?_) _|(refine sI ?_ (fun _=>?_) (fun _=>?_)<;>try dsimp only)|refine dD ?_ fun _=>?_
def vA (s_0:List aA) (f_1:aA→Option Bool):Option (Bool) :=
 (uZ s_0 f_1).bind fun r1 =>
 some (decide (0≤r1))
theorem UJ (s_0:List aA) {f_1 f_1':aA→Option Bool} (hf_1:∀ y0,bJ (f_1 y0) (f_1' y0)):bJ (vA s_0 f_1) (T11.vA s_0 f_1'):=by
 unfold vA T11.vA
 repeat' with_reducible first|exact dA _|refine UI _ (fun _=>?_)|exact hf_1 _|refine dD ?_ fun _=>?_
def BN (l_0:List aA) (right:aA→Option Bool):Option (Bool) :=
 (vA l_0 (fun x0_=>rF x0_ right)).bind fun r5 =>
 some (!r5)
theorem UK (l_0:List aA) {right right':aA→Option Bool} (hright:∀ y0,bJ (right y0) (right' y0)):bJ (BN l_0 right) (T11.BN l_0 right'):=by
 unfold BN T11.BN
 repeat' with_reducible first|exact dA _|refine UJ _ (fun _=>?_)|refine UH _ (fun _=>?_)|exact hright _|refine dD ?_ fun _=>?_
def lD (b_0:Int):Option (Bool) :=
 ((
  if (32:Int)≤b_0 then (
   if b_0≤126 then (
    (xB [44,58,59,61] b_0).bind fun r0 =>
    some (!r0))
   else
   some false)
  else
  some false
 ):Option (Bool)).bind fun t0 =>
 some t0
theorem UL:∀ b_0,bJ (lD b_0) (T11.lD b_0):=by
 intro _;unfold lD T11.lD
 repeat' with_reducible first|exact dA _|exact TZ _ _|refine eQ ?_ ?_|refine dD ?_ fun _=>?_
def sB (n_0:Int) (low:Int) (high:Int):Option (Bool) :=
 ((
  if low≤n_0 then (
   some (decide (n_0≤high)))
  else
  some false
 ):Option (Bool)).bind fun t4 =>
 some t4
theorem JY:∀ n_0 low high,bJ (sB n_0 low high) (T11.sB n_0 low high):=by
 intro _ _ _;unfold sB T11.sB
 repeat' with_reducible first|exact dA _|refine eQ ?_ ?_|refine dD ?_ fun _=>?_
def rG (x_0:Int) (f0_:Int→Option Bool):Option (Bool) :=
 (f0_ x_0).bind fun r1 =>
 some (!r1)
theorem UM (x_0:Int) {f0_ f0_':Int→Option Bool} (hf0_:∀ y0,bJ (f0_ y0) (f0_' y0)):bJ (rG x_0 f0_) (T11.rG x_0 f0_'):=by
 unfold rG T11.rG
 repeat' with_reducible first|exact dA _|exact hf0_ _|refine dD ?_ fun _=>?_
def jU (s_0:List UInt8) (f_1:Int→Option Bool) (s0:Nat):Option ((Nat)⊕((Unit)⊕Int)) :=
 if (s0:Int) < (s_0.length:Int) then (
  (s_0[s0]?).bind fun x0 =>
  (f_1 (x0.toNat:Int)).bind fun r0 =>
  if r0 then (
   some (.inr (.inr (s0:Int))))
  else
  some (.inl (s0+1)))
 else
 some (.inr (.inl ()))
theorem JZ (s_0:List UInt8) {f_1 f_1':Int→Option Bool} (hf_1:∀ y0,bJ (f_1 y0) (f_1' y0)) (s0:Nat):bJ (jU s_0 f_1 s0) (T11.jU s_0 f_1' s0):=by
 unfold jU T11.jU
 repeat' with_reducible first|exact dA _|exact hf_1 _|refine eQ ?_ ?_|refine dD ?_ fun _=>?_
def vB (s_0:List UInt8) (f_1:Int→Option Bool):Option (Int) :=
 (loopE (jU s_0 f_1) 0).bind fun wC=>match wC with
 | .inr z=>some z
 | .inl t0 =>
 some (-1)
theorem UN (s_0:List UInt8) {f_1 f_1':Int→Option Bool} (hf_1:∀ y0,bJ (f_1 y0) (f_1' y0)):bJ (vB s_0 f_1) (T11.vB s_0 f_1'):=by
 unfold vB T11.vB
 repeat' with_reducible first|exact dA _|refine JZ _ (fun _=>?_) _|exact hf_1 _|refine nG (fun _=>?_) _|(refine sI ?_ (fun _=>?_) (fun _=>?_)<;>try dsimp only)|refine dD ?_ fun _=>?_
def vC (s_0:List UInt8) (f_1:Int→Option Bool):Option (Bool) :=
 (vB s_0 f_1).bind fun r1 =>
 some (decide (0≤r1))
theorem UO (s_0:List UInt8) {f_1 f_1':Int→Option Bool} (hf_1:∀ y0,bJ (f_1 y0) (f_1' y0)):bJ (vC s_0 f_1) (T11.vC s_0 f_1'):=by
 unfold vC T11.vC
 repeat' with_reducible first|exact dA _|refine UN _ (fun _=>?_)|exact hf_1 _|refine dD ?_ fun _=>?_
def rH (l_0:List UInt8) (right:Int→Option Bool):Option (Bool) :=
 (vC l_0 (fun x0_=>rG x0_ right)).bind fun r5 =>
 some (!r5)
theorem UP (l_0:List UInt8) {right right':Int→Option Bool} (hright:∀ y0,bJ (right y0) (right' y0)):bJ (rH l_0 right) (T11.rH l_0 right'):=by
 unfold rH T11.rH
 repeat' with_reducible first|exact dA _|refine UO _ (fun _=>?_)|refine UM _ (fun _=>?_)|exact hright _|refine dD ?_ fun _=>?_
def jB (s_0:aA):Option (Bool) :=
 ((
  (sB (s_0.length:Int) 1 40).bind fun r0 =>
  if r0 then (
   cH (s_0.length≤1073741824) <|
   (rH s_0 (lD)).bind fun r1 =>
   if r1 then (
    (sJ s_0 [32]).bind fun r2 =>
    if r2=s_0 then (
     (xA s_0 [32,32]).bind fun r3 =>
     some (!r3))
    else
    some false)
   else
   some false)
  else
  some false
 ):Option (Bool)).bind fun t0 =>
 some t0
theorem LI:∀ s_0,bJ (jB s_0) (T11.jB s_0):=by
 intro _;unfold jB T11.jB
 repeat' with_reducible first|exact dA _|exact JY _ _ _|refine UP _ (fun _=>?_)|exact UL _|exact UA _ _|exact TX _ _|refine oC ?_|refine eQ ?_ ?_|refine dD ?_ fun _=>?_
def jV (l_0:List aA) (before:aA→aA→Option Bool) (s0:Nat):Option ((Nat)⊕((Unit)⊕Bool)) :=
 if (s0:Int) < (l_0.length:Int) then (
  ((
   if 0 < (s0:Int) then (
    (l_0[((s0:Int) - 1).toNat]?).bind fun x0 =>
    (l_0[s0]?).bind fun x1 =>
    (before x0 x1).bind fun r0 =>
    some (!r0))
   else
   some false
  ):Option (Bool)).bind fun t0 =>
  if t0 then (
   some (.inr (.inr false)))
  else
  some (.inl (s0+1)))
 else
 some (.inr (.inl ()))
theorem KA (l_0:List aA) {before before':aA→aA→Option Bool} (hbefore:∀ y0 y1,bJ (before y0 y1) (before' y0 y1)) (s0:Nat):bJ (jV l_0 before s0) (T11.jV l_0 before' s0):=by
 unfold jV T11.jV
 repeat' with_reducible first|exact dA _|exact hbefore _ _|refine eQ ?_ ?_|refine dD ?_ fun _=>?_
def rI (l_0:List aA) (before:aA→aA→Option Bool):Option (Bool) :=
 (loopE (jV l_0 before) 0).bind fun rP=>match rP with
 | .inr z=>some z
 | .inl t0 =>
 some true
theorem UQ (l_0:List aA) {before before':aA→aA→Option Bool} (hbefore:∀ y0 y1,bJ (before y0 y1) (before' y0 y1)):bJ (rI l_0 before) (T11.rI l_0 before'):=by
 unfold rI T11.rI
 repeat' with_reducible first|exact dA _|refine KA _ (fun _ _=>?_) _|exact hbefore _ _|refine nG (fun _=>?_) _|(refine sI ?_ (fun _=>?_) (fun _=>?_)<;>try dsimp only)|refine dD ?_ fun _=>?_
def jW (s_0:aA) (s0:Nat×List UInt8):Option ((Nat×List UInt8)⊕(List UInt8)) :=
 if (s0.1:Int) < (s_0.length:Int) then (
  (s_0[s0.1]?).bind fun x0 =>
  ((
   if (65:Int)≤(x0.toNat:Int) then (
    some (decide ((x0.toNat:Int)≤90)))
   else
   some false
  ):Option (Bool)).bind fun t0 =>
  ((
   if t0 then (
    cH (0≤((x0.toNat:Int) - 65)∧((x0.toNat:Int) - 65)≤255) <|
    cH (0≤(((x0.toNat:Int) - 65)+97)∧(((x0.toNat:Int) - 65)+97)≤255) <|
    cH (s0.2.length+1≤1073741824) <|
    some (s0.2++[(UInt8.ofNat (((x0.toNat:Int) - 65)+97).toNat)]))
   else
   ((
    if (97:Int)≤(x0.toNat:Int) then (
     if (x0.toNat:Int)≤122 then (
      some true)
     else
     if (48:Int)≤(x0.toNat:Int) then (
      some (decide ((x0.toNat:Int)≤57)))
     else
     some false)
    else
    if (48:Int)≤(x0.toNat:Int) then (
     some (decide ((x0.toNat:Int)≤57)))
    else
    some false
   ):Option (Bool)).bind fun t1 =>
   ((
    if t1 then (
     cH (s0.2.length+1≤1073741824) <|
     some (s0.2++[x0]))
    else
    some s0.2
   ):Option (List UInt8)).bind fun t2 =>
   some t2
  ):Option (List UInt8)).bind fun t3 =>
  some (.inl ((s0.1+1),t3)))
 else
 some (.inr s0.2)
theorem NX:∀ s_0 s0,bJ (jW s_0 s0) (T11.jW s_0 s0):=by
 intro _ _;unfold jW T11.jW
 repeat' with_reducible first|exact dA _|refine oC ?_|refine eQ ?_ ?_|refine dD ?_ fun _=>?_
def DK (s_0:aA):Option (aA) :=
 cH (s_0.length≤1073741824) <|
 (loopE (jW s_0) (0,([]:List UInt8))).bind fun eA1 =>
 some eA1
theorem aBg:∀ s_0,bJ (DK s_0) (T11.DK s_0):=by
 intro _;unfold DK T11.DK
 repeat' with_reducible first|exact dA _|exact NX _ _|refine nG (fun _=>?_) _|refine oC ?_|refine dD ?_ fun _=>?_
def jX (vals:List Int) (s0:Nat):Option ((Nat)⊕((Unit)⊕Int)) :=
 if (s0:Int) < (vals.length:Int) then (
  (vals[s0]?).bind fun x0 =>
  if x0≠0 then (
   some (.inr (.inr x0)))
  else
  some (.inl (s0+1)))
 else
 some (.inr (.inl ()))
theorem NY:∀ vals s0,bJ (jX vals s0) (T11.jX vals s0):=by
 intro _ _;unfold jX T11.jX
 repeat' with_reducible first|exact dA _|refine eQ ?_ ?_|refine dD ?_ fun _=>?_
def DL (vals:List Int):Option (Int) :=
 (loopE (jX vals) 0).bind fun e16=>match e16 with
 | .inr z=>some z
 | .inl t0 =>
 some 0
theorem UR:∀ vals,bJ (DL vals) (T11.DL vals):=by
 intro _;unfold DL T11.DL
 repeat' with_reducible first|exact dA _|exact NY _ _|refine nG (fun _=>?_) _|(refine sI ?_ (fun _=>?_) (fun _=>?_)<;>try dsimp only)|refine dD ?_ fun _=>?_
def oV (a_0:aA) (b_1:aA):Option (Int) :=
 (DK a_0).bind fun r1 =>
 (DK b_1).bind fun r4 =>
 (IR r1 r4).bind fun r7 =>
 (IR a_0 b_1).bind fun r0 =>
 (DL ([r7,r0]:List Int)).bind fun r2 =>
 some r2
theorem GQ:∀ a_0 b_1,bJ (oV a_0 b_1) (T11.oV a_0 b_1):=by
 intro _ _;unfold oV T11.oV
 repeat' with_reducible first|exact dA _|exact aBg _|exact aBd _ _|exact UR _|refine dD ?_ fun _=>?_
def sK (a_0:aA) (b_1:aA):Option (Bool) :=
 (oV a_0 b_1).bind fun r1 =>
 some (decide (r1 < 0))
theorem US:∀ a_0 b_1,bJ (sK a_0 b_1) (T11.sK a_0 b_1):=by
 intro _ _;unfold sK T11.sK
 repeat' with_reducible first|exact dA _|exact GQ _ _|refine dD ?_ fun _=>?_
def oE (l_0:List aA):Option (Bool) :=
 ((
  if (l_0.length:Int)≤8 then (
   (BN l_0 (jB)).bind fun r0 =>
   if r0 then (
    (rI l_0 (sK)).bind fun r1 =>
    some r1)
   else
   some false)
  else
  some false
 ):Option (Bool)).bind fun t0 =>
 some t0
theorem UT:∀ l_0,bJ (oE l_0) (T11.oE l_0):=by
 intro _;unfold oE T11.oE
 repeat' with_reducible first|exact dA _|refine UK _ (fun _=>?_)|exact LI _|refine UQ _ (fun _ _=>?_)|exact US _ _|refine eQ ?_ ?_|refine dD ?_ fun _=>?_
def rJ (x_0:aI) (f0_:aI→Option Bool):Option (Bool) :=
 (f0_ x_0).bind fun r4 =>
 some (!r4)
theorem UU (x_0:aI) {f0_ f0_':aI→Option Bool} (hf0_:∀ y0,bJ (f0_ y0) (f0_' y0)):bJ (rJ x_0 f0_) (T11.rJ x_0 f0_'):=by
 unfold rJ T11.rJ
 repeat' with_reducible first|exact dA _|exact hf0_ _|refine dD ?_ fun _=>?_
def jY (s_0:List aI) (f_1:aI→Option Bool) (s0:Nat):Option ((Nat)⊕((Unit)⊕Int)) :=
 if (s0:Int) < (s_0.length:Int) then (
  (s_0[s0]?).bind fun x0 =>
  (f_1 x0).bind fun r0 =>
  if r0 then (
   some (.inr (.inr (s0:Int))))
  else
  some (.inl (s0+1)))
 else
 some (.inr (.inl ()))
theorem KB (s_0:List aI) {f_1 f_1':aI→Option Bool} (hf_1:∀ y0,bJ (f_1 y0) (f_1' y0)) (s0:Nat):bJ (jY s_0 f_1 s0) (T11.jY s_0 f_1' s0):=by
 unfold jY T11.jY
 repeat' with_reducible first|exact dA _|exact hf_1 _|refine eQ ?_ ?_|refine dD ?_ fun _=>?_
def vD (s_0:List aI) (f_1:aI→Option Bool):Option (Int) :=
 (loopE (jY s_0 f_1) 0).bind fun wC=>match wC with
 | .inr z=>some z
 | .inl t0 =>
 some (-1)
theorem UV (s_0:List aI) {f_1 f_1':aI→Option Bool} (hf_1:∀ y0,bJ (f_1 y0) (f_1' y0)):bJ (vD s_0 f_1) (T11.vD s_0 f_1'):=by
 unfold vD T11.vD
 repeat' with_reducible first|exact dA _|refine KB _ (fun _=>?_) _|exact hf_1 _|refine nG (fun _=>?_) _|(refine sI ?_ (fun _=>?_) (fun _=>?_)<;>try dsimp only)|refine dD ?_ fun _=>?_
def vE (s_0:List aI) (f_1:aI→Option Bool):Option (Bool) :=
 (vD s_0 f_1).bind fun r1 =>
 some (decide (0≤r1))
theorem UW (s_0:List aI) {f_1 f_1':aI→Option Bool} (hf_1:∀ y0,bJ (f_1 y0) (f_1' y0)):bJ (vE s_0 f_1) (T11.vE s_0 f_1'):=by
 unfold vE T11.vE
 repeat' with_reducible first|exact dA _|refine UV _ (fun _=>?_)|exact hf_1 _|refine dD ?_ fun _=>?_
def rK (l_0:List aI) (right:aI→Option Bool):Option (Bool) :=
 (vE l_0 (fun x0_=>rJ x0_ right)).bind fun r5 =>
 some (!r5)
theorem UX (l_0:List aI) {right right':aI→Option Bool} (hright:∀ y0,bJ (right y0) (right' y0)):bJ (rK l_0 right) (T11.rK l_0 right'):=by
 unfold rK T11.rK
 repeat' with_reducible first|exact dA _|refine UW _ (fun _=>?_)|refine UU _ (fun _=>?_)|exact hright _|refine dD ?_ fun _=>?_
def lE (p_0:aI):Option (Bool) :=
 ((
  (sB p_0.aJ 1 999).bind fun r0 =>
  if r0 then (
   (sB p_0.aW 1 p_0.cL).bind fun r1 =>
   if r1 then (
    some (decide (p_0.cL≤9999)))
   else
   some false)
  else
  some false
 ):Option (Bool)).bind fun t0 =>
 some t0
theorem UY:∀ p_0,bJ (lE p_0) (T11.lE p_0):=by
 intro _;unfold lE T11.lE
 repeat' with_reducible first|exact dA _|exact JY _ _ _|refine eQ ?_ ?_|refine dD ?_ fun _=>?_
def jZ (l_0:List aI) (before:aI→aI→Option Bool) (s0:Nat):Option ((Nat)⊕((Unit)⊕Bool)) :=
 if (s0:Int) < (l_0.length:Int) then (
  ((
   if 0 < (s0:Int) then (
    (l_0[((s0:Int) - 1).toNat]?).bind fun x0 =>
    (l_0[s0]?).bind fun x1 =>
    (before x0 x1).bind fun r0 =>
    some (!r0))
   else
   some false
  ):Option (Bool)).bind fun t0 =>
  if t0 then (
   some (.inr (.inr false)))
  else
  some (.inl (s0+1)))
 else
 some (.inr (.inl ()))
theorem KC (l_0:List aI) {before before':aI→aI→Option Bool} (hbefore:∀ y0 y1,bJ (before y0 y1) (before' y0 y1)) (s0:Nat):bJ (jZ l_0 before s0) (T11.jZ l_0 before' s0):=by
 unfold jZ T11.jZ
 repeat' with_reducible first|exact dA _|exact hbefore _ _|refine eQ ?_ ?_|refine dD ?_ fun _=>?_
def rL (l_0:List aI) (before:aI→aI→Option Bool):Option (Bool) :=
 (loopE (jZ l_0 before) 0).bind fun rP=>match rP with
 | .inr z=>some z
 | .inl t0 =>
 some true
theorem UZ (l_0:List aI) {before before':aI→aI→Option Bool} (hbefore:∀ y0 y1,bJ (before y0 y1) (before' y0 y1)):bJ (rL l_0 before) (T11.rL l_0 before'):=by
 unfold rL T11.rL
 repeat' with_reducible first|exact dA _|refine KC _ (fun _ _=>?_) _|exact hbefore _ _|refine nG (fun _=>?_) _|(refine sI ?_ (fun _=>?_) (fun _=>?_)<;>try dsimp only)|refine dD ?_ fun _=>?_
def vY (p_0:aI) (o_1:aI):Option (Bool) :=
 ((
  if p_0.aJ < o_1.aJ then (
   some true)
  else
  if p_0.aJ=o_1.aJ then (
   cH (-9223372036854775808≤(p_0.cL+1)∧(p_0.cL+1)≤9223372036854775807) <|
   some (decide ((p_0.cL+1) < o_1.aW)))
  else
  some false
 ):Option (Bool)).bind fun t0 =>
 some t0
theorem VA:∀ p_0 o_1,bJ (vY p_0 o_1) (T11.vY p_0 o_1):=by
 intro _ _;unfold vY T11.vY
 repeat' with_reducible first|exact dA _|refine oC ?_|refine eQ ?_ ?_|refine dD ?_ fun _=>?_
def yW (h_0:aB):Option (Bool) :=
 ((
  (jB h_0.name).bind fun r0 =>
  if r0 then (
   (oE h_0.aC).bind fun r1 =>
   if r1 then (
    (oE h_0.aM).bind fun r2 =>
    if r2 then (
     if (h_0.aG.length:Int)≤30 then (
      (rK h_0.aG (lE)).bind fun r3 =>
      if r3 then (
       (rL h_0.aG (vY)).bind fun r4 =>
       some r4)
      else
      some false)
     else
     some false)
    else
    some false)
   else
   some false)
  else
  some false
 ):Option (Bool)).bind fun t0 =>
 some t0
theorem aBh:∀ h_0,bJ (yW h_0) (T11.yW h_0):=by
 intro _;unfold yW T11.yW
 repeat' with_reducible first|exact dA _|exact LI _|exact UT _|refine UX _ (fun _=>?_)|exact UY _|refine UZ _ (fun _ _=>?_)|exact VA _ _|refine eQ ?_ ?_|refine dD ?_ fun _=>?_
def BO (s_0:aA) (f0_:List (aA×Int)) (f1_:List aB) (f2_:aB):Option (Bool) :=
 ((
  if (lkp f0_ s_0).isSome then (
   cH (0≤((lkp f0_ s_0).getD (0:Int))) <|
   (f1_[((lkp f0_ s_0).getD (0:Int)).toNat]?).bind fun x0 =>
   if x0.name=s_0 then (
    some (decide (s_0≠f2_.name)))
   else
   some false)
  else
  some false
 ):Option (Bool)).bind fun t0 =>
 some t0
theorem aBi:∀ s_0 f0_ f1_ f2_,bJ (BO s_0 f0_ f1_ f2_) (T11.BO s_0 f0_ f1_ f2_):=by
 intro _ _ _ _;unfold BO T11.BO
 repeat' with_reducible first|exact dA _|refine oC ?_|refine eQ ?_ ?_|refine dD ?_ fun _=>?_
def yX (h_0:aB) (f0_:List (aA×Int)) (f1_:List aB):Option (Bool) :=
 (BN h_0.aM (fun x0_=>BO x0_ f0_ f1_ h_0)).bind fun r0 =>
 some r0
theorem aBj:∀ h_0 f0_ f1_,bJ (yX h_0 f0_ f1_) (T11.yX h_0 f0_ f1_):=by
 intro _ _ _;unfold yX T11.yX
 repeat' with_reducible first|exact dA _|refine UK _ (fun _=>?_)|exact aBi _ _ _ _|refine dD ?_ fun _=>?_
def oW (l_0:List aB) (before:aB→aB→Option Bool) (s0:Nat):Option ((Nat)⊕((Unit)⊕Bool)) :=
 if (s0:Int) < (l_0.length:Int) then (
  ((
   if 0 < (s0:Int) then (
    (l_0[((s0:Int) - 1).toNat]?).bind fun x0 =>
    (l_0[s0]?).bind fun x1 =>
    (before x0 x1).bind fun r0 =>
    some (!r0))
   else
   some false
  ):Option (Bool)).bind fun t0 =>
  if t0 then (
   some (.inr (.inr false)))
  else
  some (.inl (s0+1)))
 else
 some (.inr (.inl ()))
theorem NZ (l_0:List aB) {before before':aB→aB→Option Bool} (hbefore:∀ y0 y1,bJ (before y0 y1) (before' y0 y1)) (s0:Nat):bJ (oW l_0 before s0) (T11.oW l_0 before' s0):=by
 unfold oW T11.oW
 repeat' with_reducible first|exact dA _|exact hbefore _ _|refine eQ ?_ ?_|refine dD ?_ fun _=>?_
def FO (l_0:List aB) (before:aB→aB→Option Bool):Option (Bool) :=
 (loopE (oW l_0 before) 0).bind fun e52=>match e52 with
 | .inr z=>some z
 | .inl t0 =>
 some true
theorem aBk (l_0:List aB) {before before':aB→aB→Option Bool} (hbefore:∀ y0 y1,bJ (before y0 y1) (before' y0 y1)):bJ (FO l_0 before) (T11.FO l_0 before'):=by
 unfold FO T11.FO
 repeat' with_reducible first|exact dA _|refine NZ _ (fun _ _=>?_) _|exact hbefore _ _|refine nG (fun _=>?_) _|(refine sI ?_ (fun _=>?_) (fun _=>?_)<;>try dsimp only)|refine dD ?_ fun _=>?_
def zZ (a_0:aB) (b_1:aB):Option (Bool) :=
 (sK a_0.name b_1.name).bind fun r0 =>
 some r0
theorem aBl:∀ a_0 b_1,bJ (zZ a_0 b_1) (T11.zZ a_0 b_1):=by
 intro _ _;unfold zZ T11.zZ
 repeat' with_reducible first|exact dA _|exact US _ _|refine dD ?_ fun _=>?_
def kA (x0:aB) (s1:Nat×(List (aA×Int))) (s0:Nat×(List (aA×Int))):Option ((Nat×(List (aA×Int)))⊕(((List (aA×Int)))⊕((Nat×(List (aA×Int)))⊕((List (aA×Int)))))) :=
 if (s0.1:Int) < (x0.aC.length:Int) then (
  (x0.aC[s0.1]?).bind fun x1 =>
  ((
   if (lkp s0.2 x1).isSome then (
    some (.inl 6))
   else
   some (.inr (put s0.2 x1 (s1.1:Int)))
  ):Option ((Nat)⊕((List (aA×Int))))).bind fun t0=>match t0 with
  | .inl t1=>(
   some (.inr (.inr (.inl (t1,s0.2)))))
  | .inr t2=>(
   some (.inl ((s0.1+1),t2))))
 else
 some (.inr (.inl s0.2))
theorem OA:∀ x0 s0 s1,bJ (kA x0 s0 s1) (T11.kA x0 s0 s1):=by
 intro _ _ _;unfold kA T11.kA
 repeat' with_reducible first|exact dA _|refine eQ ?_ ?_|(refine sI ?_ (fun _=>?_) (fun _=>?_)<;>try dsimp only)|refine dD ?_ fun _=>?_
def iC (l_0:List aB) (s0:Nat×(List (aA×Int))):Option ((Nat×(List (aA×Int)))⊕(((List (aA×Int)))⊕((List (aA×Int))×Int))) :=
 if (s0.1:Int) < (l_0.length:Int) then (
  (l_0[s0.1]?).bind fun x0 =>
  ((
   ((
    if (lkp s0.2 x0.name).isSome then (
     some (.inl 6))
    else
    some (.inr (put s0.2 x0.name (s0.1:Int)))
   ):Option ((Nat)⊕((List (aA×Int))))).bind fun t0=>match t0 with
   | .inl t1=>(
    some (.inl (t1,s0.2)))
   | .inr t2=>(
    (loopE (kA x0 s0) (0,t2)).bind fun eA1=>match eA1 with
    | .inr z=>some z
    | .inl t3 =>
    some (.inr t3))
  ):Option ((Nat×(List (aA×Int)))⊕((List (aA×Int))))).bind fun t4=>match t4 with
  | .inl t5=>(
   some (.inr (.inr ([],(t5.1:Int)))))
  | .inr t6=>(
   some (.inl ((s0.1+1),t6))))
 else
 some (.inr (.inl s0.2))
theorem OB:∀ l_0 s0,bJ (iC l_0 s0) (T11.iC l_0 s0):=by
 intro _ _;unfold iC T11.iC
 repeat' with_reducible first|exact dA _|exact OA _ _ _|refine nG (fun _=>?_) _|refine eQ ?_ ?_|(refine sI ?_ (fun _=>?_) (fun _=>?_)<;>try dsimp only)|refine dD ?_ fun _=>?_
def oX (l_0:List aB):Option ((List (aA×Int))×Int) :=
 if 60 < (l_0.length:Int) then (
  some ([],3))
 else
 (zY l_0 (yW)).bind fun r0 =>
 if r0 then (
  (loopE (iC l_0) (0,([]:List (aA×Int)))).bind fun eA1=>match eA1 with
  | .inr z=>some z
  | .inl t0 =>
  ((
   (zY l_0 (fun x0_=>yX x0_ t0 l_0)).bind fun r1 =>
   if r1 then (
    (FO l_0 (zZ)).bind fun r2 =>
    some (!r2))
   else
   some true
  ):Option (Bool)).bind fun t1 =>
  if t1 then (
   some ([],1))
  else
  some (t0,0))
 else
 some ([],1)
theorem KD:∀ l_0,bJ (oX l_0) (T11.oX l_0):=by
 intro _;unfold oX T11.oX
 repeat' with_reducible first|exact dA _|refine aBf _ (fun _=>?_)|exact aBh _|exact OB _ _|exact aBj _ _ _|refine aBk _ (fun _ _=>?_)|exact aBl _ _|refine nG (fun _=>?_) _|refine eQ ?_ ?_|(refine sI ?_ (fun _=>?_) (fun _=>?_)<;>try dsimp only)|refine dD ?_ fun _=>?_
def iD:Nat→aA→(List (aA×aA))→Option (aA)
 | 0,_,_=>none
 | n_+1,s_0,f0_ =>
 ((
  if (lkp f0_ s_0).isSome then (
   some (decide (((lkp f0_ s_0).getD ([]:aA))≠s_0)))
  else
  some false
 ):Option (Bool)).bind fun t4 =>
 if t4 then (
  (iD n_ ((lkp f0_ s_0).getD ([]:aA)) f0_).bind fun r0 =>
  some r0)
 else
 some s_0
theorem VB (n_:Nat):∀ x0 x1,bJ (T11.E.iD n_ x0 x1) (T11.iD n_ x0 x1):=by
 induction n_ with
 | zero=>intro x0 x1 r h;cases h
 | succ n_ ih =>
  intro x0 x1;rw [T11.E.iD,T11.iD]
  repeat' with_reducible first|exact dA _|exact ih _ _|refine eQ ?_ ?_|refine dD ?_ fun _=>?_
theorem VC (n_:Nat):∀ x0 x1,bJ (T11.iD n_ x0 x1) (T11.iD (n_+1) x0 x1):=by
 induction n_ with
 | zero=>intro x0 x1 r h;cases h
 | succ n_ ih =>
  intro x0 x1;rw [T11.iD,T11.iD]
  repeat' with_reducible first|exact dA _|exact ih _ _|refine eQ ?_ ?_|refine dD ?_ fun _=>?_
def NB (s_0:aA) (f0_:List (aA×aA)):Option (aA):=iD 100000 s_0 f0_
theorem aBm  (s_0:aA) (f0_:List (aA×aA)):bJ (T11.E.NB s_0 f0_) (T11.NB s_0 f0_):=(VB 100000 s_0 f0_).trans (bJ.recO (fun n=>VC n s_0 f0_) 100000)
def sL (l_0:List (aA×aA)) (s_1:aA):Option (aA) :=
 (NB s_1 l_0).bind fun r6 =>
 some r6
theorem KE:∀ l_0 s_1,bJ (sL l_0 s_1) (T11.sL l_0 s_1):=by
 intro _ _;unfold sL T11.sL
 repeat' with_reducible first|exact dA _|exact aBm _ _|refine dD ?_ fun _=>?_
def iZ (x_0:List aA) (cmp:aA→aA→Option Int) (s0:Nat×aA):Option ((Nat×aA)⊕(aA)) :=
 if (s0.1:Int) < (x_0.length:Int) then (
  (x_0[s0.1]?).bind fun x0 =>
  (cmp x0 s0.2).bind fun r0 =>
  ((
   if r0 < 0 then (
    some x0)
   else
   some s0.2
  ):Option (aA)).bind fun t0 =>
  some (.inl ((s0.1+1),t0)))
 else
 some (.inr s0.2)
theorem OC (x_0:List aA) {cmp cmp':aA→aA→Option Int} (hcmp:∀ y0 y1,bJ (cmp y0 y1) (cmp' y0 y1)) (s0:Nat×aA):bJ (iZ x_0 cmp s0) (T11.iZ x_0 cmp' s0):=by
 unfold iZ T11.iZ
 repeat' with_reducible first|exact dA _|exact hcmp _ _|refine eQ ?_ ?_|refine dD ?_ fun _=>?_
def FP (x_0:List aA) (cmp:aA→aA→Option Int):Option (aA) :=
 if (x_0.length:Int) < 1 then (
  none)
 else
 (x_0[0]?).bind fun x7 =>
 (loopE (iZ x_0 cmp) (1,x7)).bind fun GY =>
 some GY
theorem aBn (x_0:List aA) {cmp cmp':aA→aA→Option Int} (hcmp:∀ y0 y1,bJ (cmp y0 y1) (cmp' y0 y1)):bJ (FP x_0 cmp) (T11.FP x_0 cmp'):=by
 unfold FP T11.FP
 repeat' with_reducible first|exact dA _|refine OC _ (fun _ _=>?_) _|exact hcmp _ _|refine nG (fun _=>?_) _|refine eQ ?_ ?_|refine dD ?_ fun _=>?_
def kB (lists:List (List aA)) (s0:Nat×Nat):Option ((Nat×Nat)⊕(Nat)) :=
 if (s0.2:Int) < (lists.length:Int) then (
  (lists[s0.2]?).bind fun x0 =>
  cH (-9223372036854775808≤((s0.1:Int)+(x0.length:Int))∧((s0.1:Int)+(x0.length:Int))≤9223372036854775807) <|
  if ((s0.1:Int)+(x0.length:Int)) < 0 then (
   none)
  else
  some (.inl ((s0.1+x0.length),(s0.2+1))))
 else
 some (.inr s0.1)
theorem OD:∀ lists s0,bJ (kB lists s0) (T11.kB lists s0):=by
 intro _ _;unfold kB T11.kB
 repeat' with_reducible first|exact dA _|refine oC ?_|refine eQ ?_ ?_|refine dD ?_ fun _=>?_
def kC (lists:List (List aA)) (s0:Nat×List aA):Option ((Nat×List aA)⊕(List aA)) :=
 if (s0.1:Int) < (lists.length:Int) then (
  (lists[s0.1]?).bind fun x0 =>
  cH (s0.2.length+x0.length≤1073741824) <|
  some (.inl ((s0.1+1),(s0.2++x0))))
 else
 some (.inr s0.2)
theorem OE:∀ lists s0,bJ (kC lists s0) (T11.kC lists s0):=by
 intro _ _;unfold kC T11.kC
 repeat' with_reducible first|exact dA _|refine oC ?_|refine eQ ?_ ?_|refine dD ?_ fun _=>?_
def AA (but:aA) (lists:List (List aA)):Option (List aA) :=
 ((
  (loopE (kB lists) (0,0)).bind fun eA1 =>
  cH (eA1≤1073741824) <|
  (loopE (kC lists) (0,([]:List aA))).bind fun eB1 =>
  some eB1
 ):Option (List aA)).bind fun t0 =>
 (sortG (oV) t0).bind fun l0 =>
 some ((Lib.compact l0).filter fun x=>!decide (x=but))
theorem aBo:∀ but lists,bJ (AA but lists) (T11.AA but lists):=by
 intro _ _;unfold AA T11.AA
 repeat' with_reducible first|exact dA _|exact OD _ _|exact OE _ _|exact GQ _ _|refine nG (fun _=>?_) _|refine XU (fun _ _=>?_) _|refine oC ?_|refine dD ?_ fun _=>?_
def BP (a_0:aI) (b_1:aI):Option (Int) :=
 cH (-9223372036854775808≤(a_0.aJ - b_1.aJ)∧(a_0.aJ - b_1.aJ)≤9223372036854775807) <|
 cH (-9223372036854775808≤(a_0.aW - b_1.aW)∧(a_0.aW - b_1.aW)≤9223372036854775807) <|
 (DL ([(a_0.aJ - b_1.aJ),(a_0.aW - b_1.aW)]:List Int)).bind fun r0 =>
 some r0
theorem aBp:∀ a_0 b_1,bJ (BP a_0 b_1) (T11.BP a_0 b_1):=by
 intro _ _;unfold BP T11.BP
 repeat' with_reducible first|exact dA _|exact UR _|refine oC ?_|refine dD ?_ fun _=>?_
def fU (l_0:List aI) (l1:List aI) (s0:Nat×Int×Int×Int×List aI):Option ((Nat×Int×Int×Int×List aI)⊕(Int×Int×Int×List aI)) :=
 if (s0.1:Int) < (l_0.length:Int) then (
  (l1[s0.1]?).bind fun x0 =>
  ((
   if (⟨s0.2.1,s0.2.2.1,s0.2.2.2.1⟩:aI)=(⟨0,0,0⟩:aI) then (
    some false)
   else
   (vY (⟨s0.2.1,s0.2.2.1,s0.2.2.2.1⟩:aI) x0).bind fun r0 =>
   some (!r0)
  ):Option (Bool)).bind fun t1 =>
  ((
   if t1 then (
    cH (0≤((s0.2.2.2.2.length:Int) - 1)) <|
    (s0.2.2.2.2[((s0.2.2.2.2.length:Int) - 1).toNat]?).bind fun x2 =>
    some (s0.2.2.2.2.set (((s0.2.2.2.2.length:Int) - 1).toNat) (⟨x2.aJ,x2.aW,(max s0.2.2.2.1 x0.cL)⟩:aI)))
   else
   cH (s0.2.2.2.2.length+1≤1073741824) <|
   some (s0.2.2.2.2++[x0])
  ):Option (List aI)).bind fun t0 =>
  cH (0≤((t0.length:Int) - 1)) <|
  (t0[((t0.length:Int) - 1).toNat]?).bind fun x1 =>
  some (.inl ((s0.1+1),x1.aJ,x1.aW,x1.cL,t0)))
 else
 some (.inr (s0.2.1,s0.2.2.1,s0.2.2.2.1,s0.2.2.2.2))
theorem OF:∀ l_0 l1 s0,bJ (fU l_0 l1 s0) (T11.fU l_0 l1 s0):=by
 intro _ _ _;unfold fU T11.fU
 repeat' with_reducible first|exact dA _|exact VA _ _|refine oC ?_|refine eQ ?_ ?_|refine dD ?_ fun _=>?_
def yY (l_0:List aI):Option (List aI) :=
 sortV (BP) l_0 fun l1 =>
 (loopE (fU l_0 l1) (0,0,0,0,([]:List aI))).bind fun eA1 =>
 some eA1.2.2.2
theorem aBq:∀ l_0,bJ (yY l_0) (T11.yY l_0):=by
 intro _;unfold yY T11.yY
 repeat' with_reducible first|exact dA _|exact aBp _ _|exact OF _ _ _|refine nG (fun _=>?_) _|refine lq4 (fun _ _=>?_) (fun _=>?_) _|refine dD ?_ fun _=>?_
def BQ (a_0:aB) (b_1:aB):Option (Int) :=
 (oV a_0.name b_1.name).bind fun r0 =>
 some r0
theorem aBr:∀ a_0 b_1,bJ (BQ a_0 b_1) (T11.BQ a_0 b_1):=by
 intro _ _;unfold BQ T11.BQ
 repeat' with_reducible first|exact dA _|exact GQ _ _|refine dD ?_ fun _=>?_
def kD (x0:aB) (s0:Nat×(List (aA×aA))):Option ((Nat×(List (aA×aA)))⊕((List (aA×aA)))) :=
 if (s0.1:Int) < (x0.aC.length:Int) then (
  (x0.aC[s0.1]?).bind fun x1 =>
  ((
   ((
    (sL s0.2 x1).bind fun r0 =>
    (sL s0.2 x0.name).bind fun r1 =>
    some (put s0.2 r0 r1)
   ):Option ((List (aA×aA)))).bind fun t0 =>
   some t0
  ):Option ((List (aA×aA)))).bind fun t1 =>
  some (.inl ((s0.1+1),t1)))
 else
 some (.inr s0.2)
theorem OH:∀ x0 s0,bJ (kD x0 s0) (T11.kD x0 s0):=by
 intro _ _;unfold kD T11.kD
 repeat' with_reducible first|exact dA _|exact KE _ _|refine eQ ?_ ?_|refine dD ?_ fun _=>?_
def kE (x0:List aB) (s0:Nat×(List (aA×aA))):Option ((Nat×(List (aA×aA)))⊕((List (aA×aA)))) :=
 if (s0.1:Int) < (x0.length:Int) then (
  (x0[s0.1]?).bind fun x1 =>
  ((
   ((
    ((
     (sL s0.2 x1.name).bind fun r0 =>
     some (put s0.2 r0 r0)
    ):Option ((List (aA×aA)))).bind fun t0 =>
    some t0
   ):Option ((List (aA×aA)))).bind fun t1 =>
   (loopE (kD x1) (0,t1)).bind fun eA1 =>
   some eA1
  ):Option ((List (aA×aA)))).bind fun t2 =>
  some (.inl ((s0.1+1),t2)))
 else
 some (.inr s0.2)
theorem OI:∀ x0 s0,bJ (kE x0 s0) (T11.kE x0 s0):=by
 intro _ _;unfold kE T11.kE
 repeat' with_reducible first|exact dA _|exact KE _ _|exact OH _ _|refine nG (fun _=>?_) _|refine eQ ?_ ?_|refine dD ?_ fun _=>?_
def fV (indices:List (List aB)) (s0:Nat×List aB×(List (aA×aA))):Option ((Nat×List aB×(List (aA×aA)))⊕((List aB×(List (aA×aA)))⊕(List aB×Int))) :=
 if (s0.1:Int) < (indices.length:Int) then (
  (indices[s0.1]?).bind fun x0 =>
  (oX x0).bind fun r0 =>
  if r0.2≠0 then (
   some (.inr (.inr (([]:List aB),r0.2))))
  else
  (loopE (kE x0) (0,s0.2.2)).bind fun eA1 =>
  cH (s0.2.1.length+x0.length≤1073741824) <|
  some (.inl ((s0.1+1),(s0.2.1++x0),eA1)))
 else
 some (.inr (.inl (s0.2.1,s0.2.2)))
theorem OJ:∀ indices s0,bJ (fV indices s0) (T11.fV indices s0):=by
 intro _ _;unfold fV T11.fV
 repeat' with_reducible first|exact dA _|exact KD _|exact OI _ _|refine nG (fun _=>?_) _|refine oC ?_|refine eQ ?_ ?_|refine dD ?_ fun _=>?_
def kF (t0:List aB×(List (aA×aA))) (s0:Nat×(List (aA×bP))):Option ((Nat×(List (aA×bP)))⊕((List (aA×bP)))) :=
 if (s0.1:Int) < (t0.1.length:Int) then (
  (t0.1[s0.1]?).bind fun x0 =>
  (sL t0.2 x0.name).bind fun r0 =>
  ((
   if (lkp s0.2 r0).isSome then (
    some s0.2)
   else
   some (put s0.2 r0 mP)
  ):Option ((List (aA×bP)))).bind fun t1 =>
  (lkp t1 r0).bind fun y0 =>
  cH (y0.aZ.length+([x0.name]:List aA).length≤1073741824) <|
  cH (y0.aD.aC.length+x0.aC.length≤1073741824) <|
  cH (y0.aD.aM.length+x0.aM.length≤1073741824) <|
  cH (y0.aD.aG.length+x0.aG.length≤1073741824) <|
  some (.inl ((s0.1+1),(put t1 r0 (⟨⟨y0.aD.name,(y0.aD.aC++x0.aC),(y0.aD.aM++x0.aM),(y0.aD.aG++x0.aG)⟩,(y0.aZ++([x0.name]:List aA))⟩:bP)))))
 else
 some (.inr s0.2)
theorem OL:∀ t0 s0,bJ (kF t0 s0) (T11.kF t0 s0):=by
 intro _ _;unfold kF T11.kF
 repeat' with_reducible first|exact dA _|exact KE _ _|refine oC ?_|refine eQ ?_ ?_|refine dD ?_ fun _=>?_
def kG (q0:aA×bP) (t0:List aB×(List (aA×aA))) (s1:(List (aA×bP))) (s0:Nat×List aA):Option ((Nat×List aA)⊕(List aA)) :=
 if (s0.1:Int) < (q0.2.aD.aM.length:Int) then (
  (q0.2.aD.aM[s0.1]?).bind fun x0 =>
  (sL t0.2 x0).bind fun r0 =>
  (lkp s1 r0).bind fun y0 =>
  cH (s0.2.length+1≤1073741824) <|
  some (.inl ((s0.1+1),(s0.2++[y0.aD.name]))))
 else
 some (.inr s0.2)
theorem OM:∀ q0 t0 s0 s1,bJ (kG q0 t0 s0 s1) (T11.kG q0 t0 s0 s1):=by
 intro _ _ _ _;unfold kG T11.kG
 repeat' with_reducible first|exact dA _|exact KE _ _|refine oC ?_|refine eQ ?_ ?_|refine dD ?_ fun _=>?_
def mQ  (s0:List aB):Option (List aB×Int) :=
 if 60 < (s0.length:Int) then (
  some (([]:List aB),3))
 else
 cH (s0.Nodup) <|
 (sortG (BQ) s0).bind fun l0 =>
 some (l0,0)
theorem ON:∀ s0,bJ (mQ s0) (T11.mQ s0):=by
 intro _;unfold mQ T11.mQ
 repeat' with_reducible first|exact dA _|exact aBr _ _|refine XU (fun _ _=>?_) _|refine oC ?_|refine eQ ?_ ?_|refine dD ?_ fun _=>?_
def kH (s0:(List (aA×bP))) (t0:List aB×(List (aA×aA))) (s1:List aB) (i0:Nat):Option ((List aB)⊕(List aB×Int)) :=
 (s0[i0]?).bind fun q0 =>
 (AA q0.2.aD.name ([q0.2.aD.aC,q0.2.aZ]:List (List aA))).bind fun r0 =>
 (yY q0.2.aD.aG).bind fun r1 =>
 (loopE (kG q0 t0 s0) (0,([]:List aA))).bind fun eA1 =>
 (AA q0.2.aD.name ([eA1]:List (List aA))).bind fun r2 =>
 ((
  if 8 < (r0.length:Int) then (
   some true)
  else
  if 8 < (r2.length:Int) then (
   some true)
  else
  some (decide (30 < (r1.length:Int)))
 ):Option (Bool)).bind fun t1 =>
 if t1 then (
  some (.inr (([]:List aB),3)))
 else
 cH (s1.length+1≤1073741824) <|
 some (.inl (s1++[(⟨q0.2.aD.name,r0,r2,r1⟩:aB)]))
theorem OO:∀ s0 t0 s1 i0,bJ (kH s0 t0 s1 i0) (T11.kH s0 t0 s1 i0):=by
 intro _ _ _ _;unfold kH T11.kH
 repeat' with_reducible first|exact dA _|exact aBo _ _|exact aBq _|exact OM _ _ _ _|refine nG (fun _=>?_) _|refine oC ?_|refine eQ ?_ ?_|refine dD ?_ fun _=>?_
def lL (t0:List aB×(List (aA×aA))) (s0:(List (aA×bP))):Option (List aB×Int) :=
 ordE s0.length (kH s0 t0) mQ ([]:List aB)
theorem OP:∀ t0 s0,bJ (lL t0 s0) (T11.lL t0 s0):=by
 intro _ _;unfold lL T11.lL
 repeat' with_reducible first|exact dA _|exact OO _ _ _ _|exact ON _|refine lq3 (fun _ _=>?_) (fun _=>?_) _
def mR  (s0:(List (aA×bP))) (i0:Nat):Option (((List (aA×bP)))⊕(List aB×Int)) :=
 (s0[i0]?).bind fun q0 =>
 (FP q0.2.aZ (oV)).bind fun r0 =>
 some (.inl (s0.set i0 (q0.1,(⟨⟨r0,q0.2.aD.aC,q0.2.aD.aM,q0.2.aD.aG⟩,q0.2.aZ⟩:bP))))
theorem OQ:∀ s0 i0,bJ (mR s0 i0) (T11.mR s0 i0):=by
 intro _ _;unfold mR T11.mR
 repeat' with_reducible first|exact dA _|refine aBn _ (fun _ _=>?_)|exact GQ _ _|refine dD ?_ fun _=>?_
def m18 (indices:List (List aB)):Option (List aB×Int) :=
 if 12 < (indices.length:Int) then (
  some (([]:List aB),3))
 else
 (loopE (fV indices) (0,([]:List aB),([]:List (aA×aA)))).bind fun eB1=>match eB1 with
 | .inr z=>some z
 | .inl t0 =>
 (loopE (kF t0) (0,([]:List (aA×bP)))).bind fun eA1 =>
 ordE eA1.length mR (lL t0) eA1
theorem aBs:∀ indices,bJ (m18 indices) (T11.m18 indices):=by
 intro _;unfold m18 T11.m18
 repeat' with_reducible first|exact dA _|exact OJ _ _|exact OL _ _|exact OQ _ _|exact OP _ _|refine nG (fun _=>?_) _|refine lq3 (fun _ _=>?_) (fun _=>?_) _|refine eQ ?_ ?_|(refine sI ?_ (fun _=>?_) (fun _=>?_)<;>try dsimp only)|refine dD ?_ fun _=>?_
def vF (p_0:aI):Option (aA) :=
 (rD p_0.aJ).bind fun r4 =>
 cH (r4.length+[47].length≤1073741824) <|
 (rD p_0.aW).bind fun r9 =>
 cH ((r4++[47]).length+r9.length≤1073741824) <|
 ((
  if p_0.aW < p_0.cL then (
   (rD p_0.cL).bind fun r0 =>
   cH ([45].length+r0.length≤1073741824) <|
   cH (((r4++[47])++r9).length+([45]++r0).length≤1073741824) <|
   some (((r4++[47])++r9)++([45]++r0)))
  else
  some ((r4++[47])++r9)
 ):Option (aA)).bind fun t0 =>
 some t0
theorem VD:∀ p_0,bJ (vF p_0) (T11.vF p_0):=by
 intro _;unfold vF T11.vF
 repeat' with_reducible first|exact dA _|exact TW _|refine oC ?_|refine eQ ?_ ?_|refine dD ?_ fun _=>?_
def kI (h_0:aB) (s0:Nat×List aA):Option ((Nat×List aA)⊕(List aA)) :=
 if (s0.1:Int) < (h_0.aG.length:Int) then (
  (h_0.aG[s0.1]?).bind fun x0 =>
  (vF x0).bind fun r0 =>
  cH ([32].length+r0.length≤1073741824) <|
  cH (s0.2.length+1≤1073741824) <|
  some (.inl ((s0.1+1),(s0.2++[([32]++r0)]))))
 else
 some (.inr s0.2)
theorem KF:∀ h_0 s0,bJ (kI h_0 s0) (T11.kI h_0 s0):=by
 intro _ _;unfold kI T11.kI
 repeat' with_reducible first|exact dA _|exact VD _|refine oC ?_|refine eQ ?_ ?_|refine dD ?_ fun _=>?_
def vG (h_0:aB):Option (aA) :=
 (loopE (kI h_0) (0,([]:List aA))).bind fun e94 =>
 cH (h_0.name.length+[58].length≤1073741824) <|
 (uU e94 [44]).bind fun r0 =>
 cH ((h_0.name++[58]).length+r0.length≤1073741824) <|
 ((
  if 0 < (h_0.aM.length:Int) then (
   (uU h_0.aM [44,32]).bind fun r1 =>
   cH ([59,32].length+r1.length≤1073741824) <|
   cH (((h_0.name++[58])++r0).length+([59,32]++r1).length≤1073741824) <|
   some (((h_0.name++[58])++r0)++([59,32]++r1)))
  else
  some ((h_0.name++[58])++r0)
 ):Option (aA)).bind fun t0 =>
 some t0
theorem VE:∀ h_0,bJ (vG h_0) (T11.vG h_0):=by
 intro _;unfold vG T11.vG
 repeat' with_reducible first|exact dA _|exact KF _ _|exact UC _ _|refine nG (fun _=>?_) _|refine oC ?_|refine eQ ?_ ?_|refine dD ?_ fun _=>?_
def oY (x1:aB) (s0:Nat×List aA×(List (aA×aA))):Option ((Nat×List aA×(List (aA×aA)))⊕(List aA×(List (aA×aA)))) :=
 if (s0.1:Int) < (x1.aC.length:Int) then (
  (x1.aC[s0.1]?).bind fun x0 =>
  ((
   cH (s0.2.1.length+1≤1073741824) <|
   cH (x0.length+[32,61,32].length≤1073741824) <|
   cH ((x0++[32,61,32]).length+x1.name.length≤1073741824) <|
   some ((s0.2.1++[x0]),(put s0.2.2 x0 ((x0++[32,61,32])++x1.name)))
  ):Option (List aA×(List (aA×aA)))).bind fun t0 =>
  some (.inl ((s0.1+1),t0.1,t0.2)))
 else
 some (.inr (s0.2.1,s0.2.2))
theorem OR:∀ x0 s0,bJ (oY x0 s0) (T11.oY x0 s0):=by
 intro _ _;unfold oY T11.oY
 repeat' with_reducible first|exact dA _|refine oC ?_|refine eQ ?_ ?_|refine dD ?_ fun _=>?_
def oZ (l_0:List aB) (s0:Nat×List aA×(List (aA×aA))):Option ((Nat×List aA×(List (aA×aA)))⊕(List aA×(List (aA×aA)))) :=
 if (s0.1:Int) < (l_0.length:Int) then (
  (l_0[s0.1]?).bind fun x0 =>
  ((
   ((
    cH (s0.2.1.length+1≤1073741824) <|
    cH (x0.name.length+[32,61,32].length≤1073741824) <|
    cH ((x0.name++[32,61,32]).length+x0.name.length≤1073741824) <|
    some ((s0.2.1++[x0.name]),(put s0.2.2 x0.name ((x0.name++[32,61,32])++x0.name)))
   ):Option (List aA×(List (aA×aA)))).bind fun t0 =>
   (loopE (oY x0) (0,t0.1,t0.2)).bind fun eA1 =>
   some (eA1.1,eA1.2)
  ):Option (List aA×(List (aA×aA)))).bind fun t1 =>
  (vG x0).bind fun r0 =>
  some (.inl ((s0.1+1),t1.1,(put t1.2 x0.name r0))))
 else
 some (.inr (s0.2.1,s0.2.2))
theorem OS:∀ l_0 s0,bJ (oZ l_0 s0) (T11.oZ l_0 s0):=by
 intro _ _;unfold oZ T11.oZ
 repeat' with_reducible first|exact dA _|exact OR _ _|exact VE _|refine nG (fun _=>?_) _|refine oC ?_|refine eQ ?_ ?_|refine dD ?_ fun _=>?_
def pA (eA1:List aA×(List (aA×aA))) (l0:List aA) (s0:Nat×Bool×List UInt8):Option ((Nat×Bool×List UInt8)⊕(Bool×List UInt8)) :=
 if (s0.1:Int) < (eA1.1.length:Int) then (
  (l0[s0.1]?).bind fun x0 =>
  cH (((lkp eA1.2 x0).getD ([]:aA)).length+[10].length≤1073741824) <|
  ((
   cH (s0.2.2.length+(((lkp eA1.2 x0).getD ([]:aA))++[10]).length≤1073741824) <|
   some ((((lkp eA1.2 x0).getD ([]:aA))++[10]).length,true,(s0.2.2++(((lkp eA1.2 x0).getD ([]:aA))++[10])))
  ):Option (Nat×Bool×List UInt8)).bind fun t0 =>
  some (.inl ((s0.1+1),t0.2.1,t0.2.2)))
 else
 some (.inr (s0.2.1,s0.2.2))
theorem OT:∀ eA1 l0 s0,bJ (pA eA1 l0 s0) (T11.pA eA1 l0 s0):=by
 intro _ _ _;unfold pA T11.pA
 repeat' with_reducible first|exact dA _|refine oC ?_|refine eQ ?_ ?_|refine dD ?_ fun _=>?_
def FQ (l_0:List aB):Option (aA) :=
 (loopE (oZ l_0) (0,([]:List aA),([]:List (aA×aA)))).bind fun eA1 =>
 (sortG (oV) eA1.1).bind fun l0 =>
 (loopE (pA eA1 l0) (0,false,([]:List UInt8))).bind fun eB1 =>
 some eB1.2
theorem VF:∀ l_0,bJ (FQ l_0) (T11.FQ l_0):=by
 intro _;unfold FQ T11.FQ
 repeat' with_reducible first|exact dA _|exact OS _ _|exact GQ _ _|exact OT _ _ _|refine nG (fun _=>?_) _|refine XU (fun _ _=>?_) _|refine dD ?_ fun _=>?_
def IS (l_0:List aB):Option (List UInt8×Int) :=
 (oX l_0).bind fun r1 =>
 if r1.2≠0 then (
  some (([]:List UInt8),r1.2))
 else
 (FQ l_0).bind fun r0 =>
 cH (r0.length≤1073741824) <|
 some (r0,0)
theorem aBt:∀ l_0,bJ (IS l_0) (T11.IS l_0):=by
 intro _;unfold IS T11.IS
 repeat' with_reducible first|exact dA _|exact KD _|exact VF _|refine oC ?_|refine eQ ?_ ?_|refine dD ?_ fun _=>?_
def IT  : Option (aA) :=
 some [65,32,76,101,101,58,32,51,47,55,44,32,57,47,49,45,50,10,67,111,114,110,32,76,97,119,115,58,32,51,47,49,50,45,49,52,44,32,52,47,49,45,50,59,32,84,114,97,100,101,10,67,111,114,110,32,108,97,119,115,32,61,32,67,111,114,110,32,76,97,119,115,10,76,97,100,121,32,76,101,101,32,61,32,65,32,76,101,101,10,76,101,101,32,65,110,110,32,61,32,65,32,76,101,101,10,84,114,97,100,101,58,32,51,47,49,51,10]
theorem aBu  : bJ (IT ) (T11.IT ):=by
 unfold IT T11.IT
 repeat' with_reducible first|exact dA _
def oF (o_0:yV) (s_1:aA):Option (Int⊕Unit) :=
 (zU s_1).bind fun r4 =>
 if r4.2 then (
  some (.inr ()))
 else
 some (.inl r4.1)
theorem VG:∀ o_0 s_1,bJ (oF o_0 s_1) (T11.oF o_0 s_1):=by
 intro _ _;unfold oF T11.oF
 repeat' with_reducible first|exact dA _|exact TV _|refine eQ ?_ ?_|refine dD ?_ fun _=>?_
def vH (o_0:yV) (s_1:aA):Option (aI⊕Unit) :=
 (zV s_1 [47]).bind fun r5 =>
 (zV r5.2.1 [45]).bind fun r8 =>
 (oF o_0 r5.1).bind fun r0=>match r0 with
 | .inl y1=>(
  (oF o_0 r8.1).bind fun r1=>match r1 with
  | .inl y0=>(
   ((
    if r8.2.2 then (
     (oF o_0 r8.2.1).bind fun r2=>match r2 with
     | .inl y2=>(
      some (.inl y2))
     | .inr _=>(
      some (.inr (.inr ()))))
    else
    some (.inl y0)
   ):Option ((Int)⊕(aI⊕Unit))).bind fun t0=>match t0 with
   | .inr z=>some z
   | .inl t1 =>
   some (.inl (⟨y1,y0,t1⟩:aI)))
  | .inr _=>(
   some (.inr ())))
 | .inr _=>(
  some (.inr ()))
theorem VH:∀ o_0 s_1,bJ (vH o_0 s_1) (T11.vH o_0 s_1):=by
 intro _ _;unfold vH T11.vH
 repeat' with_reducible first|exact dA _|exact NW _ _|exact VG _ _|refine eQ ?_ ?_|(refine sI ?_ (fun _=>?_) (fun _=>?_)<;>try dsimp only)|refine dD ?_ fun _=>?_
def pB (r0:List aA) (o_0:yV) (s0:Nat×List aI):Option ((Nat×List aI)⊕((List aI)⊕((List aI)⊕(aB⊕Unit)))) :=
 if (s0.1:Int) < (r0.length:Int) then (
  (r0[s0.1]?).bind fun x0 =>
  (DI x0 [32]).bind fun r1 =>
  (vH o_0 r1).bind fun r2=>match r2 with
  | .inl y0=>(
   cH (s0.2.length+([y0]:List aI).length≤1073741824) <|
   some (.inl ((s0.1+1),(s0.2++([y0]:List aI)))))
  | .inr _=>(
   some (.inr (.inr (.inr (.inr ()))))))
 else
 some (.inr (.inl s0.2))
theorem OU:∀ r0 o_0 s0,bJ (pB r0 o_0 s0) (T11.pB r0 o_0 s0):=by
 intro _ _ _;unfold pB T11.pB
 repeat' with_reducible first|exact dA _|exact TY _ _|exact VH _ _|refine oC ?_|refine eQ ?_ ?_|(refine sI ?_ (fun _=>?_) (fun _=>?_)<;>try dsimp only)|refine dD ?_ fun _=>?_
def IU (o_0:yV):Option (aB⊕Unit) :=
 (zV o_0.line [58]).bind fun r5 =>
 (zV r5.2.1 [59,32]).bind fun r8 =>
 ((
  if r8.1≠[] then (
   (FL r8.1 [44]).bind fun r0 =>
   (loopE (pB r0 o_0) (0,([]:List aI))).bind fun eA1=>match eA1 with
   | .inr z=>some z
   | .inl t0 =>
   some (.inl t0))
  else
  some (.inl ([]:List aI))
 ):Option ((List aI)⊕(aB⊕Unit))).bind fun t1=>match t1 with
 | .inr z=>some z
 | .inl t2 =>
 ((
  if r8.2.2 then (
   (FL r8.2.1 [44,32]).bind fun r1 =>
   some r1)
  else
  some ([]:List aA)
 ):Option (List aA)).bind fun t3 =>
 some (.inl (⟨r5.1,([]:List aA),t3,t2⟩:aB))
theorem aBv:∀ o_0,bJ (IU o_0) (T11.IU o_0):=by
 intro _;unfold IU T11.IU
 repeat' with_reducible first|exact dA _|exact NW _ _|exact UB _ _|exact OU _ _ _|refine nG (fun _=>?_) _|refine eQ ?_ ?_|(refine sI ?_ (fun _=>?_) (fun _=>?_)<;>try dsimp only)|refine dD ?_ fun _=>?_
def pC (r9:List aA) (s0:Nat×List aB×(List (aA×(List aA)))):Option ((Nat×List aB×(List (aA×(List aA))))⊕((List aB×(List (aA×(List aA))))⊕(List aB×Int))) :=
 if (s0.1:Int) < ((r9.take (((r9.length:Int) - 1).toNat)).length:Int) then (
  ((r9.take (((r9.length:Int) - 1).toNat))[s0.1]?).bind fun x0 =>
  (zV x0 [32,61,32]).bind fun r0 =>
  ((
   if r0.2.2 then (
    cH (((lkp s0.2.2 r0.2.1).getD []).length+1≤1073741824) <|
    some (.inl (s0.2.1,(put s0.2.2 r0.2.1 (((lkp s0.2.2 r0.2.1).getD [])++[r0.1])))))
   else
   (IU (⟨x0⟩:yV)).bind fun r1=>match r1 with
   | .inl y0=>(
    cH (s0.2.1.length+([y0]:List aB).length≤1073741824) <|
    some (.inl ((s0.2.1++([y0]:List aB)),s0.2.2)))
   | .inr _=>(
    some (.inr (.inr (.inr (([]:List aB),4)))))
  ):Option ((List aB×(List (aA×(List aA))))⊕((Nat×List aB×(List (aA×(List aA))))⊕((List aB×(List (aA×(List aA))))⊕(List aB×Int))))).bind fun t1=>match t1 with
  | .inr z=>some z
  | .inl t0 =>
  some (.inl ((s0.1+1),t0.1,t0.2)))
 else
 some (.inr (.inl (s0.2.1,s0.2.2)))
theorem OV:∀ r9 s0,bJ (pC r9 s0) (T11.pC r9 s0):=by
 intro _ _;unfold pC T11.pC
 repeat' with_reducible first|exact dA _|exact NW _ _|exact aBv _|refine oC ?_|refine eQ ?_ ?_|(refine sI ?_ (fun _=>?_) (fun _=>?_)<;>try dsimp only)|refine dD ?_ fun _=>?_
def pD (t0:List aB×(List (aA×(List aA)))) (s0:Nat×(List (aA×(List aA)))×List aB):Option ((Nat×(List (aA×(List aA)))×List aB)⊕(List aB)) :=
 if (s0.1:Int) < (t0.1.length:Int) then (
  (s0.2.2[s0.1]?).bind fun x0 =>
  some (.inl ((s0.1+1),s0.2.1,(s0.2.2.set s0.1 (⟨x0.name,((lkp s0.2.1 x0.name).getD []),x0.aM,x0.aG⟩:aB)))))
 else
 some (.inr s0.2.2)
theorem OW:∀ t0 s0,bJ (pD t0 s0) (T11.pD t0 s0):=by
 intro _ _;unfold pD T11.pD
 repeat' with_reducible first|exact dA _|refine eQ ?_ ?_|refine dD ?_ fun _=>?_
def DM (b_0:List UInt8):Option (List aB×Int) :=
 if 200000 < (b_0.length:Int) then (
  some (([]:List aB),3))
 else
 (FL b_0 [10]).bind fun r9 =>
 cH (0≤((r9.length:Int) - 1)) <|
 cH (((r9.length:Int) - 1).toNat≤r9.length) <|
 (loopE (pC r9) (0,([]:List aB),([]:List (aA×(List aA))))).bind fun eB1=>match eB1 with
 | .inr z=>some z
 | .inl t0 =>
 (loopE (pD t0) (0,t0.2,t0.1)).bind fun eA1 =>
 (oX eA1).bind fun r0 =>
 ((
  if r0.2≠0 then (
   some true)
  else
  (FQ eA1).bind fun r1 =>
  some (decide (r1≠b_0))
 ):Option (Bool)).bind fun t1 =>
 if t1 then (
  some (([]:List aB),4))
 else
 some (eA1,0)
theorem aBw:∀ b_0,bJ (DM b_0) (T11.DM b_0):=by
 intro _;unfold DM T11.DM
 repeat' with_reducible first|exact dA _|exact UB _ _|exact OV _ _|exact OW _ _|exact KD _|exact VF _|refine nG (fun _=>?_) _|refine oC ?_|refine eQ ?_ ?_|(refine sI ?_ (fun _=>?_) (fun _=>?_)<;>try dsimp only)|refine dD ?_ fun _=>?_
def FR (p_0:aI) (c_1:lU):Option (Bool) :=
 ((
  if p_0.aJ=c_1.e0 then (
   (sB c_1.e1 p_0.aW p_0.cL).bind fun r0 =>
   some r0)
  else
  some false
 ):Option (Bool)).bind fun t0 =>
 some t0
theorem aBx:∀ p_0 c_1,bJ (FR p_0 c_1) (T11.FR p_0 c_1):=by
 intro _ _;unfold FR T11.FR
 repeat' with_reducible first|exact dA _|exact JY _ _ _|refine eQ ?_ ?_|refine dD ?_ fun _=>?_
def kJ (x0:aB) (aJ:Int) (number:Int) (s1:Nat×List aA) (s0:Nat):Option ((Nat)⊕((Unit)⊕(List aA))) :=
 if (s0:Int) < (x0.aG.length:Int) then (
  (x0.aG[s0]?).bind fun x1 =>
  (FR x1 (⟨aJ,number⟩:lU)).bind fun r0 =>
  if r0 then (
   cH (s1.2.length+1≤1073741824) <|
   Option.map (fun z=>.inr (.inr z)) (
   some (s1.2++[x0.name])))
  else
  some (.inl (s0+1)))
 else
 some (.inr (.inl ()))
theorem OX:∀ x0 aJ number s0 s1,bJ (kJ x0 aJ number s0 s1) (T11.kJ x0 aJ number s0 s1):=by
 intro _ _ _ _ _;unfold kJ T11.kJ
 repeat' with_reducible first|exact dA _|exact aBx _ _|refine oC ?_|refine eQ ?_ ?_|refine dD ?_ fun _=>?_|refine XV ?_
def jA (l_0:List aB) (aJ:Int) (number:Int) (s0:Nat×List aA):Option ((Nat×List aA)⊕(List aA)) :=
 if (s0.1:Int) < (l_0.length:Int) then (
  ((
   (l_0[s0.1]?).bind fun x0 =>
   (loopE (kJ x0 aJ number s0) 0).bind fun eA1=>match eA1 with
   | .inr z=>some z
   | .inl t1 =>
   some s0.2
  ):Option (List aA)).bind fun t0 =>
  some (.inl ((s0.1+1),t0)))
 else
 some (.inr s0.2)
theorem OY:∀ l_0 aJ number s0,bJ (jA l_0 aJ number s0) (T11.jA l_0 aJ number s0):=by
 intro _ _ _ _;unfold jA T11.jA
 repeat' with_reducible first|exact dA _|exact OX _ _ _ _ _|refine nG (fun _=>?_) _|refine eQ ?_ ?_|(refine sI ?_ (fun _=>?_) (fun _=>?_)<;>try dsimp only)|refine dD ?_ fun _=>?_
def ED (l_0:List aB) (aJ:Int) (number:Int):Option (List aA×Int) :=
 (oX l_0).bind fun r1 =>
 if r1.2≠0 then (
  some (([]:List aA),r1.2))
 else
 ((
  (sB aJ 1 999).bind fun r0 =>
  if r0 then (
   (sB number 1 9999).bind fun r2 =>
   some (!r2))
  else
  some true
 ):Option (Bool)).bind fun t0 =>
 if t0 then (
  some (([]:List aA),2))
 else
 (loopE (jA l_0 aJ number) (0,([]:List aA))).bind fun eA1 =>
 some (eA1,0)
theorem aBy:∀ l_0 aJ number,bJ (ED l_0 aJ number) (T11.ED l_0 aJ number):=by
 intro _ _ _;unfold ED T11.ED
 repeat' with_reducible first|exact dA _|exact KD _|exact JY _ _ _|exact OY _ _ _ _|refine nG (fun _=>?_) _|refine eQ ?_ ?_|refine dD ?_ fun _=>?_
def pE (a_0:List aA) (b_1:List aA) (s0:Nat):Option ((Nat)⊕((Unit)⊕Bool)) :=
 if (s0:Int) < (a_0.length:Int) then (
  (a_0[s0]?).bind fun x0 =>
  (b_1[s0]?).bind fun x1 =>
  if x0≠x1 then (
   some (.inr (.inr false)))
  else
  some (.inl (s0+1)))
 else
 some (.inr (.inl ()))
theorem OZ:∀ a_0 b_1 s0,bJ (pE a_0 b_1 s0) (T11.pE a_0 b_1 s0):=by
 intro _ _ _;unfold pE T11.pE
 repeat' with_reducible first|exact dA _|refine eQ ?_ ?_|refine dD ?_ fun _=>?_
def yZ (a_0:List aA) (b_1:List aA):Option (Bool) :=
 if (a_0.length:Int)≠(b_1.length:Int) then (
  some false)
 else
 (loopE (pE a_0 b_1) 0).bind fun PY=>match PY with
 | .inr z=>some z
 | .inl t0 =>
 some true
theorem VI:∀ a_0 b_1,bJ (yZ a_0 b_1) (T11.yZ a_0 b_1):=by
 intro _ _;unfold yZ T11.yZ
 repeat' with_reducible first|exact dA _|exact OZ _ _ _|refine nG (fun _=>?_) _|refine eQ ?_ ?_|(refine sI ?_ (fun _=>?_) (fun _=>?_)<;>try dsimp only)|refine dD ?_ fun _=>?_
def kK (a_0:aB) (b_1:aB) (s0:Nat):Option ((Nat)⊕((Unit)⊕Bool)) :=
 if (s0:Int) < (a_0.aG.length:Int) then (
  (a_0.aG[s0]?).bind fun x0 =>
  (b_1.aG[s0]?).bind fun x1 =>
  if x0=x1 then (
   some (.inl (s0+1)))
  else
  some (.inr (.inr false)))
 else
 some (.inr (.inl ()))
theorem PA:∀ a_0 b_1 s0,bJ (kK a_0 b_1 s0) (T11.kK a_0 b_1 s0):=by
 intro _ _ _;unfold kK T11.kK
 repeat' with_reducible first|exact dA _|refine eQ ?_ ?_|refine dD ?_ fun _=>?_
def DN (a_0:aB) (b_1:aB):Option (Bool) :=
 ((
  if a_0.name≠b_1.name then (
   some true)
  else
  (yZ a_0.aC b_1.aC).bind fun r0 =>
  if r0 then (
   (yZ a_0.aM b_1.aM).bind fun r1 =>
   if r1 then (
    some (decide ((a_0.aG.length:Int)≠(b_1.aG.length:Int))))
   else
   some true)
  else
  some true
 ):Option (Bool)).bind fun t0 =>
 if t0 then (
  some false)
 else
 (loopE (kK a_0 b_1) 0).bind fun LE=>match LE with
 | .inr z=>some z
 | .inl t1 =>
 some true
theorem aBz:∀ a_0 b_1,bJ (DN a_0 b_1) (T11.DN a_0 b_1):=by
 intro _ _;unfold DN T11.DN
 repeat' with_reducible first|exact dA _|exact VI _ _|exact PA _ _ _|refine nG (fun _=>?_) _|refine eQ ?_ ?_|(refine sI ?_ (fun _=>?_) (fun _=>?_)<;>try dsimp only)|refine dD ?_ fun _=>?_
def pG (a_0:List aB) (b_1:List aB) (s0:Nat):Option ((Nat)⊕((Unit)⊕Bool)) :=
 if (s0:Int) < (a_0.length:Int) then (
  (a_0[s0]?).bind fun x0 =>
  (b_1[s0]?).bind fun x1 =>
  (DN x0 x1).bind fun r0 =>
  if r0 then (
   some (.inl (s0+1)))
  else
  some (.inr (.inr false)))
 else
 some (.inr (.inl ()))
theorem PB:∀ a_0 b_1 s0,bJ (pG a_0 b_1 s0) (T11.pG a_0 b_1 s0):=by
 intro _ _ _;unfold pG T11.pG
 repeat' with_reducible first|exact dA _|exact aBz _ _|refine eQ ?_ ?_|refine dD ?_ fun _=>?_
def EE (a_0:List aB) (b_1:List aB):Option (Bool) :=
 if (a_0.length:Int)≠(b_1.length:Int) then (
  some false)
 else
 (loopE (pG a_0 b_1) 0).bind fun NM=>match NM with
 | .inr z=>some z
 | .inl t0 =>
 some true
theorem aB0:∀ a_0 b_1,bJ (EE a_0 b_1) (T11.EE a_0 b_1):=by
 intro _ _;unfold EE T11.EE
 repeat' with_reducible first|exact dA _|exact PB _ _ _|refine nG (fun _=>?_) _|refine eQ ?_ ?_|(refine sI ?_ (fun _=>?_) (fun _=>?_)<;>try dsimp only)|refine dD ?_ fun _=>?_
def m16  : Option (Bool) :=
 (GW).bind fun r1 =>
 (m18 r1).bind fun r8 =>
 (IS r8.1).bind fun r2 =>
 (IT).bind fun r0 =>
 cH (r0.length≤1073741824) <|
 (DM r0).bind fun r3 =>
 (ED r8.1 3 13).bind fun r4 =>
 ((
  if r8.2=0 then (
   if r2.2=0 then (
    if r2.1=r0 then (
     if r3.2=0 then (
      (EE r8.1 r3.1).bind fun r5 =>
      if r5 then (
       if r4.2=0 then (
        (yZ r4.1 ([[67,111,114,110,32,76,97,119,115],[84,114,97,100,101]]:List aA)).bind fun r6 =>
        some r6)
       else
       some false)
      else
      some false)
     else
     some false)
    else
    some false)
   else
   some false)
  else
  some false
 ):Option (Bool)).bind fun t0 =>
 some t0
theorem aB1  : bJ (m16 ) (T11.m16 ):=by
 unfold m16 T11.m16
 repeat' with_reducible first|exact dA _|exact aBe|exact aBs _|exact aBt _|exact aBu|exact aBw _|exact aBy _ _ _|exact aB0 _ _|exact VI _ _|refine oC ?_|refine eQ ?_ ?_|refine dD ?_ fun _=>?_
end T11.E
namespace T11
open Go Go.Proofs Pk
theorem awk:m16=some true:=E.aB1 _ (show E.m16=some true by kernel_rfl)
end T11
