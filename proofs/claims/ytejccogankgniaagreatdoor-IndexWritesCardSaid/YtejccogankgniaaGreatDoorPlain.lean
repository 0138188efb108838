/-
  The plain laws: what the models of an index come to.
-/
import Derived.Test.YtejccogankgniaaGreatDoorMade
import Derived.Test.YtejccogankgniaaGreatDoorKitSix
import Derived.Lib.IndexMore
set_option linter.all false
namespace T11
open Go Go.Proofs Pk
def kc (c:UInt8):List UInt8:=if 65≤c.toNat∧c.toNat≤90 then [UInt8.ofNat (c.toNat - 65+97)] else if 97≤c.toNat∧c.toNat≤122∨48≤c.toNat∧c.toNat≤57 then [c] else []
def jC (s:aA):aA:=s.flatMap kc
theorem IA (c:UInt8):(kc c).length≤1:=by unfold kc;split <;> (try split) <;> simp
theorem xN (f:UInt8→List UInt8):∀ (l:List UInt8) (i:Nat) (a:List UInt8),BJ (fun _ x a=>(.inl (a++f x):List UInt8⊕List UInt8)) (fun a=>a) l i a=a++l.flatMap f
 | [],_,a=>by simp [jL]
 | x::l,i,a=>by rw [gY];simp only;rw [xN f l];simp
theorem MW {c:UInt8}:(UInt8.ofNat (((c.toNat:Int) - 65)+97).toNat)=UInt8.ofNat (c.toNat - 65+97)∨c.toNat < 65:=by
 by_cases h:c.toNat < 65
 ·exact .inr h
 left;congr 1;omega
theorem tO {s:aA} (h:s.length≤1073741824):FF s=some (jC s):=by
 unfold FF;rw [aQ h]
 have h1:=pB s (σ:=List UInt8) (ε:=List UInt8) (fun _ x a=>.inl (a++kc x)) (fun a=>a) (fun i a=>a.length≤i) (step:=kR s) (fun i x a hi hx hI=>by
  unfold kR;rw [if_pos (show (i:Int) < (s.length:Int) by omega),hx,Option.bind_some];have:=UInt8.toNat_lt x;by_cases hu:65≤x.toNat∧x.toNat≤90
  ·have e:kc x=[UInt8.ofNat (x.toNat - 65+97)]:=by unfold kc;rw [if_pos hu]
   rw [if_pos (by omega)];simp only [Option.bind_some];rw [if_pos (by simp;omega),aQ (by omega),aQ (by omega),aQ (by omega),Option.bind_some,e];rcases MW (c:=x) with h | h
   ·rw [h]
   omega
  ·have e0:((if (65:Int)≤(x.toNat:Int) then some (decide ((x.toNat:Int)≤90)) else some false):Option Bool)=some false:=by
    split
    ·congr 1;simp;omega
    rfl
   rw [e0,Option.bind_some];simp only [Bool.false_eq_true,if_false];by_cases hl:97≤x.toNat∧x.toNat≤122∨48≤x.toNat∧x.toNat≤57
   ·have e:kc x=[x]:=by unfold kc;rw [if_neg hu,if_pos hl]
    have e1:((if (97:Int)≤(x.toNat:Int) then if (x.toNat:Int)≤122 then some true else if (48:Int)≤(x.toNat:Int) then some (decide ((x.toNat:Int)≤57)) else some false else if (48:Int)≤(x.toNat:Int) then some (decide ((x.toNat:Int)≤57)) else some false):Option Bool)=some true:=by
     repeat' split
     all_goals first | rfl | (congr 1;simp;omega) | omega
    rw [e1];simp only [Option.bind_some,if_true];rw [aQ (by omega)];simp only [Option.bind_some];rw [e]
   have e:kc x=[]:=by unfold kc;rw [if_neg hu,if_neg hl]
   have e1:((if (97:Int)≤(x.toNat:Int) then if (x.toNat:Int)≤122 then some true else if (48:Int)≤(x.toNat:Int) then some (decide ((x.toNat:Int)≤57)) else some false else if (48:Int)≤(x.toNat:Int) then some (decide ((x.toNat:Int)≤57)) else some false):Option Bool)=some false:=by
    repeat' split
    all_goals first | rfl | (congr 1;simp;omega) | omega
   rw [e1];simp only [Option.bind_some,Bool.false_eq_true,if_false]
   rw [e,List.append_nil])
  (fun i x a a' hi hx hI hg=>by
   have:=IA x;cases hg
   simp only [List.length_append];omega)
  (fun a hI=>by unfold kR;simp) (a0:=([]:List UInt8)) (Nat.le_refl 0)
 rw [h1,xN];rfl
theorem lU:∀ a:aA,Lib.compareBytes a a=0
 | []=>rfl
 | x::a=>by unfold Lib.compareBytes;rw [if_neg (by simp),if_neg (by simp)];exact lU a
theorem oA:∀ {a b:aA},Lib.compareBytes a b=0→a=b
 | [],[],_=>rfl
 | [],_::_,h=>by simp [Lib.compareBytes] at h
 | _::_,[],h=>by simp [Lib.compareBytes] at h
 | x::a,y::b,h=>by
  unfold Lib.compareBytes at h
  split at h
  ·cases h
  split at h
  ·cases h
  rename_i h1 h2
  rw [UInt8.lt_iff_toNat_lt] at h1 h2;have e:x=y:=UInt8.toNat_inj.1 (by omega);rw [e,oA h]
theorem pP:∀ (a b:aA),Lib.compareBytes b a = - Lib.compareBytes a b
 | [],[]=>rfl
 | [],_::_=>rfl
 | _::_,[]=>rfl
 | x::a,y::b=>by
  unfold Lib.compareBytes;by_cases h1:x < y
  ·have h2:¬y < x:=by rw [UInt8.lt_iff_toNat_lt] at *;omega
   simp only [h1,h2,if_true,if_false];rfl
  by_cases h2:y < x
  ·simp only [h1,h2,if_true,if_false]
  simp only [h1,h2,if_false];exact pP a b
theorem mZ:∀ {a b c:aA},Lib.compareBytes a b < 0→Lib.compareBytes b c < 0→Lib.compareBytes a c < 0
 | [],[],_,h,_=>by simp [Lib.compareBytes] at h
 | [],_::_,[],_,h=>by simp [Lib.compareBytes] at h
 | [],_::_,_::_,_,_=>by simp [Lib.compareBytes]
 | _::_,[],_,h,_=>by simp [Lib.compareBytes] at h
 | _::_,_::_,[],_,h=>by simp [Lib.compareBytes] at h
 | x::a,y::b,z::c,h1,h2=>by
  unfold Lib.compareBytes at h1 h2 ⊢;simp only [UInt8.lt_iff_toNat_lt] at h1 h2 ⊢;by_cases hxy:x.toNat < y.toNat
  ·by_cases hyz:y.toNat < z.toNat
   ·rw [if_pos (by omega)];omega
   rw [if_neg hyz] at h2;by_cases hzy:z.toNat < y.toNat
   ·rw [if_pos hzy] at h2;omega
   rw [if_pos (by omega)];omega
  rw [if_neg hxy] at h1;by_cases hyx:y.toNat < x.toNat
  ·rw [if_pos hyx] at h1;omega
  rw [if_neg hyx] at h1;by_cases hyz:y.toNat < z.toNat
  ·rw [if_pos (by omega)];omega
  rw [if_neg hyz] at h2;by_cases hzy:z.toNat < y.toNat
  ·rw [if_pos hzy] at h2;omega
  rw [if_neg hzy] at h2;rw [if_neg (by omega),if_neg (by omega)];exact mZ h1 h2
def lI (a b:aA):Int:=if Lib.compareBytes (jC a) (jC b)≠0 then Lib.compareBytes (jC a) (jC b) else Lib.compareBytes a b
def cJ (a b:aA):Bool:=decide (lI a b < 0)
theorem e86 (x y:Int):FG [x,y]=some (if x≠0 then x else y):=by
 have h1:=mX [x,y] (ε:=Unit⊕Int) (fun _ v=>if v≠0 then some (.inr v) else none) (.inl ()) (step:=kS [x,y]) (fun i v hi hv=>by
  unfold kS;rw [if_pos (by simp at hi ⊢;omega),hv,Option.bind_some]
  by_cases h:v=0 <;> simp [h]) (by unfold kS;simp)
 unfold FG;rw [h1,Option.bind_some];by_cases hx:x=0
 ·by_cases hy:y=0 <;> simp [BK,hx,hy]
 simp [BK,hx]
theorem XU {a b:aA} (ha:a.length≤1073741824) (hb:b.length≤1073741824):pJ a b=some (lI a b):=by
 unfold pJ KP;rw [tO ha,Option.bind_some,tO hb,Option.bind_some,Option.bind_some,Option.bind_some,e86,Option.bind_some];rfl
theorem tP {a b:aA} (ha:a.length≤1073741824) (hb:b.length≤1073741824):uO a b=some (cJ a b):=by
 unfold uO;rw [XU ha hb,Option.bind_some];rfl
theorem FO (a:aA):lI a a=0:=by unfold lI;rw [lU,lU];rfl
theorem LA {a b:aA} (h:lI a b=0):a=b:=by
 unfold lI at h
 split at h
 ·exact absurd h ‹_›
 exact oA h
theorem FP (a b:aA):lI b a = - lI a b:=by
 unfold lI;rw [pP (jC a) (jC b),pP a b];by_cases h:Lib.compareBytes (jC a) (jC b)=0
 ·rw [if_neg (by omega),if_neg (by omega)]
 rw [if_pos (by omega),if_pos (by omega)]
theorem BX {a b c:aA} (h1:lI a b < 0) (h2:lI b c < 0):lI a c < 0:=by
 unfold lI at *;by_cases e1:Lib.compareBytes (jC a) (jC b)=0
 ·have k1:=oA e1;rw [if_neg (by omega)] at h1;rw [k1];by_cases e2:Lib.compareBytes (jC b) (jC c)=0
  ·rw [if_neg (by omega)] at h2;rw [if_neg (by omega)];exact mZ h1 h2
  rw [if_pos e2] at h2;rw [if_pos e2];exact h2
 rw [if_pos e1] at h1;by_cases e2:Lib.compareBytes (jC b) (jC c)=0
 ·have k2:=oA e2;rw [← k2,if_pos e1];exact h1
 rw [if_pos e2] at h2;have:=mZ h1 h2;rw [if_pos (by omega)];exact this
theorem AB (a:aA):cJ a a=false:=by unfold cJ;rw [FO];rfl
theorem jN {a b c:aA} (h1:cJ a b=true) (h2:cJ b c=true):cJ a c=true:=by
 unfold cJ at *;simp only [decide_eq_true_eq] at *;exact BX h1 h2
theorem AC {a b:aA} (h:a≠b):cJ b a=!cJ a b:=by
 have h0:lI a b≠0:=fun e=>h (LA e);have:=FP a b;unfold cJ;by_cases h1:lI a b < 0
 ·rw [decide_eq_true h1,decide_eq_false (by omega)];rfl
 rw [decide_eq_false h1,decide_eq_true (by omega)];rfl
end T11
namespace T11
open Go Go.Proofs Pk
def aT (h:aB):List aA:=h.name::h.aC
theorem bU {h:aB} {s:aA}:s∈aT h↔s=h.name∨s∈h.aC:=by unfold aT;exact List.mem_cons
theorem bT (h:aB):h.name∈aT h:=List.mem_cons_self
def iE (a b:aA):Prop:=cJ a b=true
instance (a b:aA):Decidable (iE a b):=by unfold iE;infer_instance
theorem DM (a:aA):¬iE a a:=by unfold iE;rw [AB];decide
theorem gO {a b c:aA} (h1:iE a b) (h2:iE b c):iE a c:=jN h1 h2
theorem pQ {a b:aA} (h1:iE a b) (h2:iE b a):False:=DM a (gO h1 h2)
theorem jO {a b:aA} (h:a≠b):iE a b∨iE b a:=by
 unfold iE;rw [AC h];cases cJ a b <;> simp
theorem hU {α:Type} {r:α→α→Prop}:∀ {l m:List α},(∀ a∈l,∀ b∈l,r a b→r b a→False)→l.Pairwise r→m.Pairwise r→(∀ x,x∈l↔x∈m)→l=m
 | [],m,_,_,_,h=>by
  cases m with
  | nil=>rfl
  | cons b m=>exact absurd ((h b).2 List.mem_cons_self) (by simp)
 | a::l,m,asy,hl,hm,h=>by
  cases m with
  | nil=>exact absurd ((h a).1 List.mem_cons_self) (by simp)
  | cons b m =>
   obtain ⟨hl1,hl2⟩:=List.pairwise_cons.1 hl;obtain ⟨hm1,hm2⟩:=List.pairwise_cons.1 hm;have hab:a=b:=by
    rcases List.mem_cons.1 ((h a).1 List.mem_cons_self) with e | e
    ·exact e
    rcases List.mem_cons.1 ((h b).2 List.mem_cons_self) with e' | e'
    ·exact e'.symm
    exact (asy a List.mem_cons_self b (List.mem_cons_of_mem _ e') (hl1 b e') (hm1 a e)).elim
   subst hab;congr 1;refine hU (r:=r) (fun x hx y hy=>asy x (List.mem_cons_of_mem _ hx) y (List.mem_cons_of_mem _ hy)) hl2 hm2 fun x=>⟨fun hx=>?_,fun hx=>?_⟩
   ·rcases List.mem_cons.1 ((h x).1 (List.mem_cons_of_mem _ hx)) with e | e
    ·subst e;exact (asy x List.mem_cons_self x List.mem_cons_self (hl1 x hx) (hl1 x hx)).elim
    exact e
   rcases List.mem_cons.1 ((h x).2 (List.mem_cons_of_mem _ hx)) with e | e
   ·subst e;exact (asy x List.mem_cons_self x List.mem_cons_self (hm1 x hx) (hm1 x hx)).elim
   exact e
theorem rP {l m:List aA} (hl:l.Pairwise iE) (hm:m.Pairwise iE) (h:∀ x,x∈l↔x∈m):l=m:=hU (fun _ _ _ _=>pQ) hl hm h
theorem IB {l:List aA} (h:l.Pairwise iE):l.Nodup:=h.imp fun h e=>by subst e;exact DM _ h
inductive Cn (hs:List aB):aA→aA→Prop
 | refl (a:aA):Cn hs a a
 | step {a b c:aA} {h:aB} (ha:Cn hs a b) (hh:h∈hs) (hb:b∈aT h) (hc:c∈aT h):Cn hs a c
section
variable {hs hs':List aB} {a b c:aA}
theorem Cn.of {h:aB} (hh:h∈hs) (ha:a∈aT h) (hb:b∈aT h):Cn hs a b:=.step (.refl a) hh ha hb
theorem Cn.trans (h1:Cn hs a b) (h2:Cn hs b c):Cn hs a c:=by
 induction h2 with
 | refl=>exact h1
 | step _ hh hb hc ih=>exact .step ih hh hb hc
theorem Cn.symm (h:Cn hs a b):Cn hs b a:=by
 induction h with
 | refl=>exact .refl _
 | step _ hh hb hc ih=>exact (Cn.of hh hc hb).trans ih
theorem Cn.lift (hl:∀ h∈hs,∀ a∈aT h,∀ b∈aT h,Cn hs' a b) (h:Cn hs a b):Cn hs' a b:=by
 induction h with
 | refl=>exact .refl _
 | step _ hh hb hc ih=>exact ih.trans (hl _ hh _ hb _ hc)
theorem Cn.mono (hm:∀ h∈hs,h∈hs') (h:Cn hs a b):Cn hs' a b:=h.lift fun k hk _ ha _ hb=>.of (hm k hk) ha hb
theorem Cn.inv {S:aA→Prop} (hS:∀ h∈hs,∀ a∈aT h,S a→∀ b∈aT h,S b) (h:Cn hs a b) (ha:S a):S b:=by
 induction h with
 | refl=>exact ha
 | step _ hh hb hc ih=>exact hS _ hh _ hb ih _ hc
def Hd (hs:List aB) (a s:aA):Prop:=(∃ h∈hs,h.name=s)∧Cn hs a s∧∀ h∈hs,Cn hs a h.name→h.name=s∨iE s h.name
theorem Hd.uniq {s t:aA} (h1:Hd hs a s) (h2:Hd hs a t):s=t:=by
 obtain ⟨⟨h,hh,rfl⟩,c1,m1⟩:=h1;obtain ⟨⟨k,hk,rfl⟩,c2,m2⟩:=h2;rcases m1 k hk c2 with e | e
 ·exact e.symm
 rcases m2 h hh c1 with e' | e'
 ·exact e'
 exact (pQ e e').elim
theorem Hd.at {s:aA} (h:Hd hs a s) (hc:Cn hs b a):Hd hs b s:=⟨h.1,hc.trans h.2.1,fun k hk hb=>h.2.2 k hk (hc.symm.trans hb)⟩
end
def tQ (l:List aH) (v c:Int):Prop:=∃ p∈l,p.aM=v∧p.aV≤c∧c≤p.cM
def fG (p:aH):Prop:=1≤p.aM∧p.aM≤999∧1≤p.aV∧p.aV≤p.cM∧p.cM≤9999
def eP (p q:aH):Prop:=p.aM < q.aM∨p.aM=q.aM∧p.cM+1 < q.aV
instance (p:aH):Decidable (fG p):=by unfold fG;infer_instance
instance (p q:aH):Decidable (eP p q):=by unfold eP;infer_instance
structure mM (l:List aH):Prop where
 ok:∀ p∈l,fG p
 gap:l.Pairwise eP
theorem BY {l m:List aH} {v c:Int}:tQ (l++m) v c↔tQ l v c∨tQ m v c:=by
 unfold tQ;constructor
 ·rintro ⟨p,hp,h⟩;rcases List.mem_append.1 hp with hp | hp
  ·exact .inl ⟨p,hp,h⟩
  exact .inr ⟨p,hp,h⟩
 rintro (⟨p,hp,h⟩ | ⟨p,hp,h⟩)
 ·exact ⟨p,List.mem_append_left _ hp,h⟩
 exact ⟨p,List.mem_append_right _ hp,h⟩
theorem oB {α:Type} {r:α→α→Prop}:∀ {l:List α},l.Pairwise r→∀ x∈l,∀ y∈l,x=y∨r x y∨r y x
 | z::l,h,x,hx,y,hy=>by
  obtain ⟨h1,h2⟩:=List.pairwise_cons.1 h;rcases List.mem_cons.1 hx with e | hx'
  ·rcases List.mem_cons.1 hy with e' | hy'
   ·exact .inl (e.trans e'.symm)
   rw [e];exact .inr (.inl (h1 _ hy'))
  rcases List.mem_cons.1 hy with e' | hy'
  ·rw [e'];exact .inr (.inr (h1 _ hx'))
  exact oB h2 x hx' y hy'
theorem AD {l m:List aH} (hl:mM l) (hm:mM m) (h:∀ v c,tQ l v c↔tQ m v c) {p:aH} (hp:p∈l):p∈m:=by
 have hpo:=hl.ok p hp;have hst:∀ c,p.aV≤c→c≤p.cM→∃ q∈m,q.aM=p.aM∧q.aV≤c∧c≤q.cM:=fun c h1 h2=>(h _ _).1 ⟨p,hp,rfl,h1,h2⟩;have hback:∀ q∈m,q.aM=p.aM→∀ c,q.aV≤c→c≤q.cM→∃ p'∈l,p'.aM=p.aM∧p'.aV≤c∧c≤p'.cM:=fun q hq e c h1 h2=>(h _ _).2 ⟨q,hq,e,h1,h2⟩;have hal:∀ p'∈l,p'.aM=p.aM→p'=p∨p'.cM+1 < p.aV∨p.cM+1 < p'.aV:=fun p' hp' e=>by
  rcases oB hl.gap p' hp' p hp with h | h | h
  ·exact .inl h
  ·unfold eP at h;right;left;omega
  unfold eP at h;right;right;omega
 obtain ⟨q,hq,e1,e2,e3⟩:=hst p.aV (Int.le_refl _) hpo.2.2.2.1;have ham:∀ q'∈m,q'.aM=p.aM→q'=q∨q'.cM+1 < q.aV∨q.cM+1 < q'.aV:=fun q' hq' e=>by
  rcases oB hm.gap q' hq' q hq with h | h | h
  ·exact .inl h
  ·unfold eP at h;right;left;omega
  unfold eP at h;right;right;omega
 have hqo:=hm.ok q hq;have hfrom:q.aV=p.aV:=by
  by_cases e:q.aV=p.aV
  ·exact e
  obtain ⟨p',hp',h1,h2,h3⟩:=hback q hq e1 (p.aV - 1) (by omega) (by omega);rcases hal p' hp' h1 with h4 | h4 | h4
  ·subst h4;omega
  ·omega
  unfold fG at hpo;omega
 have hto:q.cM=p.cM:=by
  rcases Int.lt_trichotomy q.cM p.cM with e | e | e
  ·obtain ⟨q',hq',h1,h2,h3⟩:=hst (q.cM+1) (by omega) (by omega);rcases ham q' hq' h1 with h4 | h4 | h4
   ·subst h4;omega
   ·unfold fG at hqo;omega
   omega
  ·exact e
  obtain ⟨p',hp',h1,h2,h3⟩:=hback q hq e1 (p.cM+1) (by unfold fG at hpo;omega) (by omega);rcases hal p' hp' h1 with h4 | h4 | h4
  ·subst h4;omega
  ·unfold fG at hpo;omega
  omega
 have:q=p:=by
  cases q;cases p;simp only at *;subst e1 hfrom hto;rfl
 rw [← this];exact hq
theorem AE {l m:List aH} (hl:mM l) (hm:mM m) (h:∀ v c,tQ l v c↔tQ m v c):l=m:=by
 refine hU (r:=eP) (fun a ha b hb h1 h2=>?_) hl.gap hm.gap fun p=>⟨AD hl hm h,AD hm hl fun v c=>(h v c).symm⟩;have:=hl.ok a ha;have:=hl.ok b hb;unfold eP at h1 h2;unfold fG at *;omega
structure IC (hs:List aB) (g:aB):Prop where
 hd:Hd hs g.name g.name
 vs:g.aC.Pairwise iE
 vm:∀ s,s∈g.aC↔s≠g.name∧∃ h∈hs,s∈aT h∧Cn hs g.name h.name
 asd:g.aO.Pairwise iE
 am:∀ s,s∈g.aO↔s≠g.name∧∃ h∈hs,Cn hs g.name h.name∧∃ t∈h.aO,Hd hs t s
 pn:mM g.aG
 pm:∀ v c,tQ g.aG v c↔∃ h∈hs,Cn hs g.name h.name∧tQ h.aG v c
abbrev BZ (x:List aB):Prop:=x.Pairwise fun a b=>iE a.name b.name
structure fN (hs x:List aB):Prop where
 srt:BZ x
 cov:∀ h∈hs,∃ g∈x,Cn hs h.name g.name
 each:∀ g∈x,IC hs g
theorem IC.uniq {hs:List aB} {g k:aB} (hg:IC hs g) (hk:IC hs k) (e:g.name=k.name):g=k:=by
 have e1:g.aC=k.aC:=rP hg.vs hk.vs fun s=>by rw [hg.vm,hk.vm,e]
 have e2:g.aO=k.aO:=rP hg.asd hk.asd fun s=>by rw [hg.am,hk.am,e]
 have e3:g.aG=k.aG:=AE hg.pn hk.pn fun v c=>by rw [hg.pm,hk.pm,e]
 cases g;cases k;simp only at *;subst e e1 e2 e3;rfl
theorem fN.sub {hs x y:List aB} (hx:fN hs x) (hy:fN hs y) {g:aB} (hg:g∈x):g∈y:=by
 have h1:=hx.each g hg;obtain ⟨⟨h,hh,e⟩,_,_⟩:=h1.hd;obtain ⟨k,hk,hc⟩:=hy.cov h hh;have h2:=hy.each k hk;have:g.name=k.name:=Hd.uniq (h1.hd.at (e▸Cn.refl h.name:Cn hs h.name g.name)) (h2.hd.at hc);rw [h1.uniq h2 this];exact hk
theorem fN.uniq {hs x y:List aB} (hx:fN hs x) (hy:fN hs y):x=y:=hU (fun _ _ _ _=>pQ) hx.srt hy.srt fun g=>⟨hx.sub hy,hy.sub hx⟩
section
variable {hs hs' x:List aB}
end
section
variable {A B x:List aB}
theorem IC.mem {g:aB} (hg:IC A g) {h:aB} (hh:h∈A) (hc:Cn A g.name h.name) {s:aA} (hs:s∈aT h):s∈aT g:=by
 rw [bU,hg.vm];by_cases e:s=g.name
 ·exact .inl e
 exact .inr ⟨e,h,hh,hs,hc⟩
theorem IC.of {g:aB} (hg:IC A g) {s:aA} (hs:s∈aT g):∃ h∈A,s∈aT h∧Cn A g.name h.name:=by
 rcases bU.1 hs with rfl | hs
 ·obtain ⟨h,hh,e⟩:=hg.hd.1;exact ⟨h,hh,e▸bT h,e▸Cn.refl _⟩
 exact ((hg.vm s).1 hs).2
theorem IC.cn {g:aB} (hg:IC A g) {s t:aA} (hs:s∈aT g) (ht:t∈aT g):Cn A s t:=by
 obtain ⟨h,hh,h1,h2⟩:=hg.of hs;obtain ⟨k,hk,k1,k2⟩:=hg.of ht;exact ((Cn.of hh h1 (bT h)).trans (h2.symm.trans k2)).trans (Cn.of hk (bT k) k1)
theorem fN.cn (hx:fN A x) {a b:aA}:Cn (x++B) a b↔Cn (A++B) a b:=by
 constructor
 ·refine Cn.lift fun h hh a ha b hb=>?_;rcases List.mem_append.1 hh with hh | hh
  ·exact ((hx.each h hh).cn ha hb).mono fun k hk=>List.mem_append_left _ hk
  exact .of (List.mem_append_right _ hh) ha hb
 refine Cn.lift fun h hh a ha b hb=>?_;rcases List.mem_append.1 hh with hh | hh
 ·obtain ⟨g,hg,hc⟩:=hx.cov h hh;exact .of (List.mem_append_left _ hg) ((hx.each g hg).mem hh hc.symm ha) ((hx.each g hg).mem hh hc.symm hb)
 exact .of (List.mem_append_right _ hh) ha hb
theorem Cn.inl {a b:aA} (h:Cn A a b):Cn (A++B) a b:=h.mono fun k hk=>List.mem_append_left _ hk
theorem fN.hd (hx:fN A x) {a s:aA}:Hd (x++B) a s↔Hd (A++B) a s:=by
 constructor
 ·rintro ⟨⟨h,hh,rfl⟩,c,m⟩;refine ⟨?_,hx.cn.1 c,fun k hk hc=>?_⟩
  ·rcases List.mem_append.1 hh with hh | hh
   ·obtain ⟨⟨k,hk,e⟩,_⟩:=(hx.each h hh).hd;exact ⟨k,List.mem_append_left _ hk,e⟩
   exact ⟨h,List.mem_append_right _ hh,rfl⟩
  rcases List.mem_append.1 hk with hk | hk
  ·obtain ⟨g,hg,hgc⟩:=hx.cov k hk;have h1:=m g (List.mem_append_left _ hg) (hx.cn.2 (hc.trans hgc.inl));have h2:=(hx.each g hg).hd.2.2 k hk hgc.symm;rcases h1 with e | e <;> rcases h2 with e' | e'
   ·exact .inl (e'.trans e)
   ·exact .inr (e▸e')
   ·exact .inr (e'.symm▸e)
   exact .inr (gO e e')
  exact m k (List.mem_append_right _ hk) (hx.cn.2 hc)
 rintro ⟨⟨h,hh,rfl⟩,c,m⟩;refine ⟨?_,hx.cn.2 c,fun k hk hc=>?_⟩
 ·rcases List.mem_append.1 hh with hh | hh
  ·obtain ⟨g,hg,hgc⟩:=hx.cov h hh;have h2:=(hx.each g hg).hd;refine ⟨g,List.mem_append_left _ hg,?_⟩;obtain ⟨k,hk,e⟩:=h2.1;rcases m k (List.mem_append_left _ hk) (e▸c.trans hgc.inl) with e' | e'
   ·exact e.symm.trans e'
   rcases h2.2.2 h hh hgc.symm with e'' | e''
   ·exact e''.symm
   rw [e] at e';exact (pQ e' e'').elim
  exact ⟨h,List.mem_append_right _ hh,rfl⟩
 rcases List.mem_append.1 hk with hk | hk
 ·obtain ⟨⟨k',hk',e⟩,_⟩:=(hx.each k hk).hd;rw [← e];exact m k' (List.mem_append_left _ hk') (e▸hx.cn.1 hc)
 exact m k (List.mem_append_right _ hk) (hx.cn.1 hc)
def clo (hs:List aB):Prop:=∀ h∈hs,∀ t∈h.aO,∃ k∈hs,k.name=t
end
end T11
namespace T11
open Go Go.Proofs Pk
section
variable {α:Type}
noncomputable def nA (l:List α) (f:α→α→Option Bool) (s:Nat):Option (Nat⊕(Unit⊕Bool)) :=
 if (s:Int) < (l.length:Int) then (((if 0 < (s:Int) then (l[((s:Int) - 1).toNat]?).bind fun x=>(l[s]?).bind fun y=>(f x y).bind fun r=>some (!r) else some false):Option Bool).bind fun t=>if t then some (.inr (.inr false)) else some (.inl (s+1))) else some (.inr (.inl ()))
noncomputable def AF (l:List α) (f:α→α→Option Bool):Option Bool:=(aY (nA l f) 0).bind fun e=>match e with
 | .inr z=>some z
 | .inl _=>some true
def cH (p:α→α→Bool):List α→Bool
 | x::y::l=>p x y&&cH p (y::l)
 | _=>true
theorem nB {l:List α} {f:α→α→Option Bool} (p:α→α→Bool) (h:∀ x∈l,∀ y∈l,f x y=some (p x y)):AF l f=some (cH p l):=by
 have key:∀ k i,l.length - i=k→i≤l.length→0 < i→aY (nA l f) i=some (if cH p (l.drop (i - 1)) then .inl () else .inr false):=by
  intro k
  induction k with
  | zero =>
   intro i hk hi h0;obtain rfl:i=l.length:=by omega
   have e:cH p (l.drop (l.length - 1))=true:=by
    have:(l.drop (l.length - 1)).length=1:=by simp;omega
    cases hd:l.drop (l.length - 1) with
    | nil=>rfl
    | cons x m=>rw [hd] at this;cases m with
     | nil=>rfl
     | cons _ _=>simp at this
   rw [e,if_pos rfl];exact bN (by unfold nA;rw [if_neg (by omega)])
  | succ k ih =>
   intro i hk hi h0;have hlt:i < l.length:=by omega
   have hx:l[i - 1]?=some l[i - 1]:=List.getElem?_eq_getElem (by omega);have hy:l[i]?=some l[i]:=List.getElem?_eq_getElem hlt;have e1:l.drop (i - 1)=l[i - 1]::l[i]::l.drop (i+1):=by
    rw [List.drop_eq_getElem_cons (by omega),show i - 1+1=i by omega,List.drop_eq_getElem_cons hlt]
   have e2:l.drop i=l[i]::l.drop (i+1):=List.drop_eq_getElem_cons hlt;have hs:nA l f i=some (if p l[i - 1] l[i] then .inl (i+1) else .inr (.inr false)):=by
    unfold nA;rw [if_pos (by omega),if_pos (by omega),show ((i:Int) - 1).toNat=i - 1 by omega,hx,Option.bind_some,hy,Option.bind_some,h _ (List.mem_of_getElem? hx) _ (List.mem_of_getElem? hy)];cases p l[i - 1] l[i] <;> rfl
   rw [e1];unfold cH
   cases hp:p l[i - 1] l[i] with
   | true =>
    rw [hp] at hs;rw [cC hs,ih (i+1) (by omega) (by omega) (by omega),show i+1 - 1=i by omega,e2,Bool.true_and]
   | false =>
    rw [hp] at hs;rw [bN hs];rfl
 unfold AF
 cases l with
 | nil=>rw [bN (e:=.inl ()) (by unfold nA;simp)];rfl
 | cons x l =>
  rw [cC (s':=1) (by unfold nA;simp),key _ 1 rfl (by simp) (by omega)];simp only [Nat.sub_self,List.drop_zero];cases cH p (x::l) <;> rfl
theorem oC {p:α→α→Bool}:∀ {l:List α},(∀ x∈l,∀ y∈l,∀ z∈l,p x y=true→p y z=true→p x z=true)→(cH p l=true↔l.Pairwise fun x y=>p x y=true)
 | [],_=>by simp [cH]
 | [x],_=>by simp [cH]
 | x::y::l,tr=>by
  have ih:=oC (l:=y::l) (fun a ha b hb c hc=>tr a (List.mem_cons_of_mem _ ha) b (List.mem_cons_of_mem _ hb) c (List.mem_cons_of_mem _ hc));simp only [cH,Bool.and_eq_true];rw [ih,List.pairwise_cons (a:=x)];constructor
  ·rintro ⟨h1,h2⟩;refine ⟨fun z hz=>?_,h2⟩;rcases List.mem_cons.1 hz with rfl | hz'
   ·exact h1
   exact tr x (by simp) y (by simp) z (by simp [hz']) h1 ((List.pairwise_cons.1 h2).1 z hz')
  rintro ⟨h1,h2⟩;exact ⟨h1 y (by simp),h2⟩
end
def eK (c:UInt8):Bool:=decide (32≤c.toNat∧c.toNat≤126∧c.toNat≠44∧c.toNat≠58∧c.toNat≠59∧c.toNat≠61)
def tR (s:aA):Bool:=cH (fun a b=>!(a==32&&b==32)) s
def dE (s:aA):Bool:=decide (1≤s.length∧s.length≤40)&&s.all eK&&decide (s.head?≠some 32)&&decide (s.getLast?≠some 32)&&tR s
def LB (l:List aA):Prop:=l.length≤8∧(∀ s∈l,dE s=true)∧l.Pairwise iE
def Rt (h:aB):Prop:=dE h.name=true∧LB h.aC∧LB h.aO∧h.aG.length≤30∧mM h.aG
def qS (l:List aB):Prop:=∀ h∈l,∀ s∈h.aO,s≠h.name∧∃ k∈l,k.name=s
structure Ix (l:List aB):Prop where
 len:l.length≤60
 rt:∀ h∈l,Rt h
 nd:(l.flatMap aT).Nodup
 aO:qS l
 srt:BZ l
open Classical in
noncomputable def cY (l:List aB):Int:=if 60 < l.length then 3 else if ¬∀ h∈l,Rt h then 1 else if ¬(l.flatMap aT).Nodup then 6 else if ¬(qS l∧BZ l) then 1 else 0
theorem gC {l:List aB}:cY l=0↔Ix l:=by
 unfold cY;constructor
 ·intro h
  split at h
  ·cases h
  split at h
  ·cases h
  split at h
  ·cases h
  split at h
  ·cases h
  rename_i h1 h2 h3 h4
  simp only [Classical.not_not] at h2 h3 h4;exact ⟨by omega,h2,h3,h4.1,h4.2⟩
 intro h;rw [if_neg (by have:=h.len;omega),if_neg (by simpa using h.rt),if_neg (by simpa using h.nd),if_neg (by simpa using ⟨h.aO,h.srt⟩)]
theorem oD:∀ {l:List aB},(l.flatMap aT).Nodup→∀ {h k:aB} {s:aA},h∈l→k∈l→s∈aT h→s∈aT k→h=k
 | [],_,_,_,_,hh,_,_,_=>by cases hh
 | x::l,nd,h,k,s,hh,hk,h1,h2=>by
  rw [List.flatMap_cons,List.nodup_append] at nd;have hne:∀ {k:aB},k∈l→s∈aT x→s∈aT k→False:=fun hk h1 h2=>nd.2.2 s h1 s (List.mem_flatMap.2 ⟨_,hk,h2⟩) rfl;rcases List.mem_cons.1 hh with e | hh'
  ·rcases List.mem_cons.1 hk with e' | hk'
   ·rw [e,e']
   subst e;exact (hne hk' h1 h2).elim
  rcases List.mem_cons.1 hk with e' | hk'
  ·subst e';exact (hne hh' h2 h1).elim
  exact oD nd.2.1 hh' hk' h1 h2
section
variable {l hs x:List aB}
theorem Ix.uniq (hl:Ix l) {h k:aB} {s:aA} (hh:h∈l) (hk:k∈l) (h1:s∈aT h) (h2:s∈aT k):h=k:=oD hl.nd hh hk h1 h2
theorem Ix.cn (hl:Ix l) {h:aB} (hh:h∈l) {a b:aA} (ha:a∈aT h) (hc:Cn l a b):b∈aT h :=
 hc.inv (S:=fun b=>b∈aT h) (fun k hk a ha hS b hb=>by rw [hl.uniq hh hk hS ha];exact hb) ha
theorem Ix.eq_of (hl:Ix l) {h k:aB} (hh:h∈l) (hk:k∈l) (hc:Cn l h.name k.name):h=k:=hl.uniq hh hk (hl.cn hh (bT h) hc) (bT k)
theorem Ix.hd (hl:Ix l) {h:aB} (hh:h∈l):Hd l h.name h.name:=⟨⟨h,hh,rfl⟩,.refl _,fun k hk hc=>by rw [hl.eq_of hh hk hc];exact .inl rfl⟩
theorem Ix.hd_iff (hl:Ix l) {h:aB} (hh:h∈l) {s:aA}:Hd l h.name s↔s=h.name:=⟨fun h1=>h1.uniq (hl.hd hh),fun e=>e▸hl.hd hh⟩
theorem Ix.vnd (hl:Ix l) {h:aB} (hh:h∈l):h.name∉h.aC:=by
 have:(aT h).Nodup:=by
  have:=hl.nd;clear hl
  induction l with
  | nil=>cases hh
  | cons x l ih =>
   rw [List.flatMap_cons,List.nodup_append] at this;rcases List.mem_cons.1 hh with e | hh'
   ·rw [e];exact this.1
   exact ih hh' this.2.1
 exact (List.nodup_cons.1 this).1
theorem Ix.join (hl:Ix l):fN l l:=by
 refine ⟨hl.srt,fun h hh=>⟨h,hh,.refl _⟩,fun g hg=>?_⟩;have hr:=hl.rt g hg;refine ⟨hl.hd hg,hr.2.1.2.2,fun s=>?_,hr.2.2.1.2.2,fun s=>?_,hr.2.2.2.2,fun v c=>?_⟩
 ·constructor
  ·intro hs;exact ⟨fun e=>hl.vnd hg (e▸hs),g,hg,bU.2 (.inr hs),.refl _⟩
  rintro ⟨hne,h,hh,hs,hc⟩;rw [← hl.eq_of hg hh hc] at hs;exact (bU.1 hs).resolve_left hne
 ·constructor
  ·intro hs;obtain ⟨h1,k,hk,e⟩:=hl.aO g hg s hs;exact ⟨h1,g,hg,.refl _,s,hs,e▸hl.hd hk⟩
  rintro ⟨hne,h,hh,hc,t,ht,hd⟩;rw [← hl.eq_of hg hh hc] at ht;obtain ⟨_,k,hk,e⟩:=hl.aO g hg t ht;subst e;rw [(hl.hd_iff hk).1 hd];exact ht
 constructor
 ·intro h;exact ⟨g,hg,.refl _,h⟩
 rintro ⟨h,hh,hc,hs⟩;rw [hl.eq_of hg hh hc];exact hs
def PJ (x:List aB):Prop:=x.length≤60∧∀ g∈x,g.aC.length≤8∧g.aO.length≤8∧g.aG.length≤30
theorem Ix.fits (hl:Ix l):PJ l:=⟨hl.len,fun g hg=>⟨(hl.rt g hg).2.1.1,(hl.rt g hg).2.2.1.1,(hl.rt g hg).2.2.2.1⟩⟩
end
end T11
namespace T11
open Go Go.Proofs Pk
theorem u8n {c:UInt8} {n:Nat} (h:n < 256):c.toNat=n↔c=UInt8.ofNat n:=by
 rw [← UInt8.toNat_inj];simp;omega
theorem ixb (c:UInt8):(0≤Lib.indexByte [44,58,59,61] c)↔(c.toNat=44∨c.toNat=58∨c.toNat=59∨c.toNat=61):=by
 have a1:c.toNat=44↔(44:UInt8)=c:=by rw [← UInt8.toNat_inj];exact eq_comm
 have a2:c.toNat=58↔(58:UInt8)=c:=by rw [← UInt8.toNat_inj];exact eq_comm
 have a3:c.toNat=59↔(59:UInt8)=c:=by rw [← UInt8.toNat_inj];exact eq_comm
 have a4:c.toNat=61↔(61:UInt8)=c:=by rw [← UInt8.toNat_inj];exact eq_comm
 rw [a1,a2,a3,a4];simp only [Lib.indexByte,beq_iff_eq];by_cases h1:(44:UInt8)=c
 ·simp [h1]
 by_cases h2:(58:UInt8)=c
 ·simp [h1,h2]
 by_cases h3:(59:UInt8)=c
 ·simp [h1,h2,h3]
 by_cases h4:(61:UInt8)=c
 ·simp [h1,h2,h3,h4]
 simp [h1,h2,h3,h4]
theorem RU (n a b:Int):uH n a b=some (decide (a≤n∧n≤b)):=by
 unfold uH;by_cases h:a≤n <;> simp [h]
theorem XV (n a b:Int):MT n a b=some (decide (a≤n∧n≤b)):=by
 unfold MT;by_cases h:a≤n <;> simp [h]
theorem aCd (c:UInt8):mE (c.toNat:Int)=some (eK c):=by
 have hc:=UInt8.toNat_lt c;unfold mE eK;by_cases h1:(32:Int)≤(c.toNat:Int)
 ·by_cases h2:(c.toNat:Int)≤126
  ·rw [if_pos h1,if_pos h2];unfold zH;have e:(c.toNat:Int).toNat.toUInt8=c:=by simp
   rw [aQ (by omega),e,Option.bind_some,Option.bind_some];congr 1;rw [Bool.eq_iff_iff,Bool.not_eq_true',decide_eq_false_iff_not,decide_eq_true_eq,ixb];omega
  rw [if_pos h1,if_neg h2,Option.bind_some];congr 1;symm;rw [decide_eq_false_iff_not];omega
 rw [if_neg h1,Option.bind_some];congr 1;symm;rw [decide_eq_false_iff_not];omega
theorem aCe (l:List UInt8):tE l mE=some (l.all eK):=by
 have h:tE l mE=zC l (fun c=>mE (c.toNat:Int)):=rfl;rw [h];exact gL eK fun c _=>aCd c
theorem DN {α:Type} {p:α→Bool} {l:List α}:l.dropWhile p=l↔∀ x,l.head?=some x→p x=false:=by
 cases l with
 | nil=>simp
 | cons x l =>
  simp only [List.head?_cons,Option.some.injEq,forall_eq',List.dropWhile_cons]
  cases hp:p x with
  | false=>simp
  | true =>
   simp only [if_true,Bool.true_eq_false,iff_false];intro e;have:=congrArg List.length e;have h2:=(List.dropWhile_sublist p (l:=l)).length_le;simp at this;omega
theorem vL (s:aA) (c:UInt8):Lib.trimB s c=s↔s.head?≠some c∧s.getLast?≠some c:=by
 unfold Lib.trimB Lib.trimLeftB Lib.trimRightB;have hr:((s.reverse.dropWhile (· == c)).reverse=s)↔s.getLast?≠some c:=by
  rw [List.reverse_eq_iff,DN,List.head?_reverse];constructor
  ·intro h e;have:=h c e;simp at this
  intro h x hx;rw [beq_eq_false_iff_ne];rintro rfl;exact h hx
 have hl:(s.dropWhile (· == c)=s)↔s.head?≠some c:=by
  rw [DN];constructor
  ·intro h e;have:=h c e;simp at this
  intro h x hx;rw [beq_eq_false_iff_ne];rintro rfl;exact h hx
 constructor
 ·intro h;have h1:((s.reverse.dropWhile (· == c)).reverse).length≤s.length:=by
   rw [List.length_reverse];have:=(List.dropWhile_sublist (· == c) (l:=s.reverse)).length_le;simpa using this
  have h2:(List.dropWhile (· == c) (s.reverse.dropWhile (· == c)).reverse).length≤((s.reverse.dropWhile (· == c)).reverse).length:=(List.dropWhile_sublist _).length_le;rw [h] at h2;have h3:(s.reverse.dropWhile (· == c)).reverse=s:=by
   have hs:(s.reverse.dropWhile (· == c)).Sublist s.reverse:=List.dropWhile_sublist _;have:=hs.eq_of_length (by rw [List.length_reverse] at h1 h2 ⊢;omega);rw [this,List.reverse_reverse]
  rw [h3] at h;exact ⟨hl.1 h,hr.1 h3⟩
 rintro ⟨h1,h2⟩;rw [hr.2 h2,hl.2 h1]
theorem oE:∀ s:aA,Lib.contains s [32,32]=!tR s
 | []=>rfl
 | [a]=>by
  unfold Lib.contains Lib.index;simp [tR,cH,Lib.index,List.isPrefixOf]
 | a::b::s=>by
  have ih:=oE (b::s);unfold Lib.contains at ih ⊢;unfold Lib.index;unfold tR cH;have hp:List.isPrefixOf [(32:UInt8),32] (a::b::s)=(a==32&&b==32):=by
   simp only [List.isPrefixOf,Bool.and_true];rw [BEq.comm (a:=(32:UInt8)) (b:=a),BEq.comm (a:=(32:UInt8)) (b:=b)]
  rw [hp]
  cases h:(a==32&&b==32) with
  | true=>simp
  | false =>
   simp only [Bool.false_eq_true,if_false,Bool.not_false,Bool.true_and];rw [show cH (fun a b=>!(a==32&&b==32)) (b::s)=tR (b::s) from rfl,← ih];have:=Lib.index_ge (b::s) [32,32];by_cases hm:Lib.index (b::s) [32,32] = -1
   ·rw [hm];rfl
   rw [if_neg (by simpa using hm)];congr 1;simp;omega
theorem VB (s:aA):kE s=some (dE s):=by
 unfold kE;rw [RU,Option.bind_some];unfold dE;by_cases h1:1≤s.length∧s.length≤40
 ·rw [if_pos (by simp;omega),aQ (by omega),aCe,Option.bind_some];simp only [h1,and_self,decide_true,Bool.true_and]
  cases h2:s.all eK with
  | false=>simp
  | true =>
   rw [if_pos rfl];have eA1:uN s [32]=some (Lib.trimB s 32):=by
    unfold uN;exact aQ ⟨by omega,by decide⟩ _
   rw [eA1,Option.bind_some];by_cases h3:Lib.trimB s 32=s
   ·obtain ⟨h4,h5⟩:=(vL s 32).1 h3;unfold zF;rw [if_pos h3,aQ (by omega),Option.bind_some,oE,decide_eq_true h4,decide_eq_true h5];cases tR s <;> rfl
   rw [if_neg h3,Option.bind_some];congr 1
   symm
   rw [vL] at h3;simp only [Bool.and_eq_false_iff,decide_eq_false_iff_not,Bool.true_and];by_cases h4:s.head?=some 32
   ·exact .inl (.inl (fun h=>h h4))
   refine .inl (.inr fun h5=>h3 ⟨h4,h5⟩)
 rw [if_neg (by simp;omega)];simp [h1]
theorem VC (s:aA):FK s=some (dE s):=by
 unfold FK;rw [XV,Option.bind_some];by_cases h1:1≤s.length∧s.length≤40
 ·rw [if_pos (by simp;omega)];have h0:s[0]?=some s[0]:=List.getElem?_eq_getElem (by omega);have hL:s[s.length - 1]?=some s[s.length - 1]:=List.getElem?_eq_getElem (by omega);have hh:s.head?=some s[0]:=by rw [List.head?_eq_getElem?];exact h0
  have hl:s.getLast?=some s[s.length - 1]:=by rw [List.getLast?_eq_getElem?];exact hL
  have tP:∀ c:UInt8,(c.toNat:Int)=32↔c=32:=fun c=>by
   have:=u8n (c:=c) (n:=32) (by decide);constructor
   ·intro h;exact this.1 (by omega)
   intro h;have:=this.2 h;omega
  rw [h0,Option.bind_some];unfold dE;rw [hh,hl];by_cases c0:s[0]=32
  ·rw [if_pos ((tP _).2 c0),Option.bind_some,if_pos rfl];simp [c0]
  rw [if_neg (fun h=>c0 ((tP _).1 h)),aQ (by omega),aQ (by omega),show ((s.length:Int) - 1).toNat=s.length - 1 by omega,hL,Option.bind_some,Option.bind_some];by_cases c1:s[s.length - 1]=32
  ·rw [if_pos (by simpa using (tP _).2 c1)];simp [c1]
  rw [if_neg (by simp only [decide_eq_true_eq];exact fun h=>c1 ((tP _).1 h))];have key:∀ k i,s.length - i=k→i≤s.length→(0 < i→∃ c,s[i - 1]?=some c)→aY (pM s) i=some (if (s.drop i).all eK&&cH (fun a b=>!(a==32&&b==32)) (s.drop (i - 1)) then .inl () else .inr false):=by
   intro k
   induction k with
   | zero =>
    intro i hk hi _;obtain rfl:i=s.length:=by omega
    have e:cH (fun a b:UInt8=>!(a==32&&b==32)) (s.drop (s.length - 1))=true:=by
     cases hd:s.drop (s.length - 1) with
     | nil=>rfl
     | cons x m =>
      have:=congrArg List.length hd
      cases m with
      | nil=>rfl
      | cons _ _=>simp at this;omega
    rw [List.drop_length,e];rw [bN (e:=.inl ()) (by unfold pM;rw [if_neg (by omega)])];rfl
   | succ k ih =>
    intro i hk hi _;have hlt:i < s.length:=by omega
    have hx:s[i]?=some s[i]:=List.getElem?_eq_getElem hlt;have e2:s.drop i=s[i]::s.drop (i+1):=List.drop_eq_getElem_cons hlt;have hch:cH (fun a b:UInt8=>!(a==32&&b==32)) (s.drop (i - 1))=((if h:0 < i then !(s[i - 1]==32&&s[i]==32) else true)&&cH (fun a b:UInt8=>!(a==32&&b==32)) (s.drop i)):=by
     by_cases hi0:0 < i
     ·have e1:s.drop (i - 1)=s[i - 1]::s[i]::s.drop (i+1):=by
       rw [List.drop_eq_getElem_cons (by omega),show i - 1+1=i by omega,e2]
      rw [e1,e2,dif_pos hi0];rfl
     obtain rfl:i=0:=by omega
     simp
    have step:pM s i=some (if eK s[i]&&(if h:0 < i then !(s[i - 1]==32&&s[i]==32) else true) then .inl (i+1) else .inr (.inr false)):=by
     unfold pM;rw [if_pos (by omega),hx,Option.bind_some];by_cases hp:eK s[i]=true
     ·have hp':=hp;simp only [eK,decide_eq_true_eq] at hp';rw [if_neg (by omega),if_neg (by omega),if_neg (by omega),if_neg (by omega),if_neg (by omega),if_neg (by omega)];by_cases c:s[i]=32
      ·have hi0:0 < i:=by
        rcases Nat.eq_zero_or_pos i with h | h
        ·subst h;exact absurd c c0
        exact h
       have hy:s[i - 1]?=some s[i - 1]:=List.getElem?_eq_getElem (by omega);rw [if_pos ((tP _).2 c),aQ (by omega),aQ (by omega),show ((i:Int) - 1).toNat=i - 1 by omega,hy,Option.bind_some,Option.bind_some,dif_pos hi0];by_cases d:s[i - 1]=32
       ·rw [if_pos (by simpa using (tP _).2 d)];simp [c,d]
       rw [if_neg (by simp only [decide_eq_true_eq];exact fun h=>d ((tP _).1 h)),aQ (by omega)];rw [c] at hp;simp [c,d,hp]
      rw [if_neg (fun h=>c ((tP _).1 h)),Option.bind_some,if_neg (by decide),aQ (by omega)];simp [c,hp]
     have hp':=hp;simp only [eK,decide_eq_true_eq] at hp';simp only [hp,Bool.false_and,Bool.false_eq_true,if_false];have:∀ x:Option Bool,(if (s[i].toNat:Int) < 32 then some true else if 126 < (s[i].toNat:Int) then some true else if (s[i].toNat:Int)=44 then some true else if (s[i].toNat:Int)=58 then some true else if (s[i].toNat:Int)=59 then some true else if (s[i].toNat:Int)=61 then some true else x)=some true:=fun x=>by
      repeat' split
      all_goals first | rfl | omega
     rw [this];rfl
    rw [hch,e2,List.all_cons];by_cases hs:(eK s[i]&&(if h:0 < i then !(s[i - 1]==32&&s[i]==32) else true))=true
    ·rw [if_pos hs] at step;rw [cC step,ih (i+1) (by omega) (by omega) (fun _=>⟨_,hx⟩),show i+1 - 1=i by omega,e2];rw [Bool.and_eq_true] at hs;rw [hs.1,hs.2,Bool.true_and,Bool.true_and]
    rw [if_neg hs] at step;rw [bN step];have:(eK s[i]&&(s.drop (i+1)).all eK&&((if h:0 < i then !(s[i - 1]==32&&s[i]==32) else true)&&cH (fun a b:UInt8=>!(a==32&&b==32)) (s[i]::s.drop (i+1))))=false:=by
     rw [← Bool.not_eq_true,Bool.and_eq_true,Bool.and_eq_true,Bool.and_eq_true];rintro ⟨⟨a,_⟩,b,_⟩;exact hs (by rw [a,b];rfl)
    rw [this];rfl
  have hk:=key s.length 0 (by omega) (by omega) (fun h=>absurd h (by omega));simp only [List.drop_zero,Nat.zero_sub] at hk;rw [hk];unfold tR;simp only [h1,and_self,decide_true,Bool.true_and];cases s.all eK <;> cases cH (fun a b:UInt8=>!(a==32&&b==32)) s <;> simp [c0,c1]
 rw [if_neg (by simp;omega)];unfold dE;simp [h1]
end T11
namespace T11
open Go Go.Proofs Pk
theorem tS:∀ a b:aA,Op.bytesLess a b=decide (Lib.compareBytes a b < 0)
 | [],[]=>rfl
 | [],_::_=>rfl
 | _::_,[]=>rfl
 | x::a,y::b=>by
  unfold Op.bytesLess Lib.compareBytes;have ih:=tS a b;by_cases h1:x < y
  ·simp [h1]
  by_cases h2:y < x
  ·have hne:(x==y)=false:=by
    rw [beq_eq_false_iff_ne];rintro rfl;exact h1 h2
   simp [h1,h2,hne]
  have he:x=y:=by
   rw [UInt8.lt_iff_toNat_lt] at h1 h2;exact UInt8.toNat_inj.1 (by omega)
  simp [h1,h2,he,ih]
theorem e74 {s:aA} (h:s.length≤1073741824):RK s=some (jC s):=by
 unfold RK
 have h1:=pB s (σ:=List UInt8) (ε:=List UInt8) (fun _ x a=>.inl (a++kc x)) (fun a=>a) (fun i a=>a.length≤i) (step:=zO s) (fun i x a hi hx hI=>by
  unfold zO;rw [if_pos (show (i:Int) < (s.length:Int) by omega),hx,Option.bind_some];have:=UInt8.toNat_lt x;by_cases hu:65≤x.toNat∧x.toNat≤90
  ·have e:kc x=[UInt8.ofNat (x.toNat - 65+97)]:=by unfold kc;rw [if_pos hu]
   rw [if_pos (show (65:Int)≤(x.toNat:Int) by omega)];simp only [Option.bind_some];rw [if_pos (show decide ((x.toNat:Int)≤90)=true by simp;omega),aQ (by omega),aQ (by omega)];simp only [Option.bind_some];rw [if_pos (by omega)];rw [if_pos (by omega),Option.bind_some,if_pos rfl,aQ (by omega),aQ (by omega),Option.bind_some,aQ (by omega),e];rcases MW (c:=x) with h | h
   ·rw [h]
   omega
  ·have e0:((if (65:Int)≤(x.toNat:Int) then some (decide ((x.toNat:Int)≤90)) else some false):Option Bool)=some false:=by
    split
    ·congr 1;simp;omega
    rfl
   rw [e0,Option.bind_some];simp only [Bool.false_eq_true,if_false,Option.bind_some];by_cases hl:97≤x.toNat∧x.toNat≤122∨48≤x.toNat∧x.toNat≤57
   ·have e:kc x=[x]:=by unfold kc;rw [if_neg hu,if_pos hl]
    have e1:((if (97:Int)≤(x.toNat:Int) then if (x.toNat:Int)≤122 then some true else if (48:Int)≤(x.toNat:Int) then some (decide ((x.toNat:Int)≤57)) else some false else if (48:Int)≤(x.toNat:Int) then some (decide ((x.toNat:Int)≤57)) else some false):Option Bool)=some true:=by
     repeat' split
     all_goals first | rfl | (congr 1;simp;omega) | omega
    rw [e1];simp only [Option.bind_some,if_true];rw [aQ (by omega),aQ (by omega)];simp only [Option.bind_some];rw [aQ (by omega),e];simp
   have e:kc x=[]:=by unfold kc;rw [if_neg hu,if_neg hl]
   have e1:((if (97:Int)≤(x.toNat:Int) then if (x.toNat:Int)≤122 then some true else if (48:Int)≤(x.toNat:Int) then some (decide ((x.toNat:Int)≤57)) else some false else if (48:Int)≤(x.toNat:Int) then some (decide ((x.toNat:Int)≤57)) else some false):Option Bool)=some false:=by
    repeat' split
    all_goals first | rfl | (congr 1;simp;omega) | omega
   rw [e1];simp only [Option.bind_some,Bool.false_eq_true,if_false]
   rw [aQ (by omega),e,List.append_nil])
  (fun i x a a' hi hx hI hg=>by
   have:=IA x;cases hg
   simp only [List.length_append];omega)
  (fun a hI=>by unfold zO;simp) (a0:=([]:List UInt8)) (Nat.le_refl 0)
 rw [h1,xN];rfl
theorem PK {a b:aA} (ha:a.length≤1073741824) (hb:b.length≤1073741824):OW a b=some (cJ a b):=by
 unfold OW;rw [e74 ha,Option.bind_some,e74 hb,Option.bind_some,tS,tS];unfold cJ lI;by_cases h:jC a=jC b
 ·rw [if_neg (by simpa using h),h,lU];simp
 have:Lib.compareBytes (jC a) (jC b)≠0:=fun e=>h (oA e);rw [if_pos h,if_pos this]
theorem ID {s:aA} (h:dE s=true):1≤s.length∧s.length≤40:=by
 unfold dE at h;simp only [Bool.and_eq_true,decide_eq_true_eq] at h;exact h.1.1.1.1
theorem fW {s:aA} (h:dE s=true):s.length≤1073741824:=by have:=ID h;omega
def rE (l:List aA):Bool:=decide (l.length≤8)&&(l.all dE&&cH cJ l)
theorem FQ {l:List aA}:cH cJ l=true↔l.Pairwise iE:=oC fun x _ y _ z _=>jN
theorem IE {l:List aA}:rE l=true↔LB l:=by
 unfold rE LB;rw [Bool.and_eq_true,Bool.and_eq_true,decide_eq_true_eq,List.all_eq_true,FQ]
theorem e80 (l:List aA):DD l kE=some (l.all dE):=by
 have h:DD l kE=zC l kE:=rfl;rw [h];exact gL dE fun s _=>VB s
theorem aCf {l:List aA} (h:∀ s∈l,dE s=true):tF l uO=some (cH cJ l):=by
 have h0:tF l uO=AF l uO:=rfl;rw [h0];exact nB cJ fun x hx y hy=>tP (fW (h x hx)) (fW (h y hy))
theorem VD (l:List aA):pK l=some (rE l):=by
 unfold pK rE;by_cases h:l.length≤8
 ·rw [if_pos (by omega),e80,Option.bind_some,decide_eq_true h]
  cases h2:l.all dE with
  | false=>simp
  | true=>rw [if_pos rfl,aCf (by simpa using h2)];simp
 rw [if_neg (by omega),decide_eq_false h];rfl
theorem VE (l:List aA):FL l=some (rE l):=by
 unfold FL;have key:∀ k i,l.length - i=k→i≤l.length→(0 < i→∀ s,l[i - 1]?=some s→dE s=true)→aY (pN l) i=some (if (l.drop i).all dE&&cH cJ (l.drop (i - 1)) then .inl () else .inr false):=by
  intro k
  induction k with
  | zero =>
   intro i hk hi _;obtain rfl:i=l.length:=by omega
   have e:cH cJ (l.drop (l.length - 1))=true:=by
    cases hd:l.drop (l.length - 1) with
    | nil=>rfl
    | cons x m =>
     have:=congrArg List.length hd
     cases m with
     | nil=>rfl
     | cons _ _=>simp at this;omega
   rw [List.drop_length,e];rw [bN (e:=.inl ()) (by unfold pN;rw [if_neg (by omega)])];rfl
  | succ k ih =>
   intro i hk hi hp;have hlt:i < l.length:=by omega
   have hx:l[i]?=some l[i]:=List.getElem?_eq_getElem hlt;have e2:l.drop i=l[i]::l.drop (i+1):=List.drop_eq_getElem_cons hlt;have hch:cH cJ (l.drop (i - 1))=((if h:0 < i then cJ l[i - 1] l[i] else true)&&cH cJ (l.drop i)):=by
    by_cases hi0:0 < i
    ·have e1:l.drop (i - 1)=l[i - 1]::l[i]::l.drop (i+1):=by
      rw [List.drop_eq_getElem_cons (by omega),show i - 1+1=i by omega,e2]
     rw [e1,e2,dif_pos hi0];rfl
    obtain rfl:i=0:=by omega
    simp
   have step:pN l i=some (if dE l[i]&&(if h:0 < i then cJ l[i - 1] l[i] else true) then .inl (i+1) else .inr (.inr false)):=by
    unfold pN;rw [if_pos (by omega),hx,Option.bind_some,VC,Option.bind_some]
    cases hn:dE l[i] with
    | false=>simp
    | true =>
     rw [if_pos rfl];by_cases hi0:0 < i
     ·have hy:l[i - 1]?=some l[i - 1]:=List.getElem?_eq_getElem (by omega);rw [if_pos (by omega),show ((i:Int) - 1).toNat=i - 1 by omega,hy,Option.bind_some,PK (fW (hp hi0 _ hy)) (fW hn),dif_pos hi0];cases cJ l[i - 1] l[i] <;> rfl
     rw [if_neg (by omega),dif_neg hi0];rfl
   rw [hch,e2,List.all_cons];by_cases hs:(dE l[i]&&(if h:0 < i then cJ l[i - 1] l[i] else true))=true
   ·rw [if_pos hs] at step;rw [Bool.and_eq_true] at hs
    rw [cC step,ih (i+1) (by omega) (by omega) (fun _ s he=>by
     rw [show i+1 - 1=i by omega,hx] at he;cases he;exact hs.1),show i+1 - 1=i by omega,e2]
    rw [hs.1,hs.2,Bool.true_and,Bool.true_and]
   rw [if_neg hs] at step;rw [bN step];have:(dE l[i]&&(l.drop (i+1)).all dE&&((if h:0 < i then cJ l[i - 1] l[i] else true)&&cH cJ (l[i]::l.drop (i+1))))=false:=by
    rw [← Bool.not_eq_true,Bool.and_eq_true,Bool.and_eq_true,Bool.and_eq_true];rintro ⟨⟨a,_⟩,b,_⟩;exact hs (by rw [a,b];rfl)
   rw [this];rfl
 have hk:=key l.length 0 (by omega) (by omega) (fun h=>absurd h (by omega));simp only [List.drop_zero,Nat.zero_sub] at hk;rw [hk];unfold rE;by_cases h:l.length≤8
 ·rw [decide_eq_true h];cases h2:(l.all dE&&cH cJ l) <;> simp <;> omega
 rw [decide_eq_false h];cases h2:(l.all dE&&cH cJ l) <;> simp <;> omega
def jP (p q:aH):Bool:=decide (eP p q)
def vM (l:List aH):Bool:=l.all (fun p=>decide (fG p))&&cH jP l
theorem tT {p q r:aH} (hq:fG q) (h1:eP p q) (h2:eP q r):eP p r:=by
 unfold eP at *;unfold fG at hq;omega
theorem gD {p q:aH}:jP p q=true↔eP p q:=by unfold jP;exact decide_eq_true_iff
theorem vN {l:List aH} (ho:∀ p∈l,fG p):cH jP l=true↔l.Pairwise eP:=by
 rw [oC (p:=jP) fun x hx y hy z hz a b=>gD.2 (tT (ho y hy) (gD.1 a) (gD.1 b))];exact ⟨fun h=>h.imp gD.1,fun h=>h.imp gD.2⟩
theorem FR {l:List aH}:vM l=true↔mM l:=by
 unfold vM;rw [Bool.and_eq_true,List.all_eq_true];constructor
 ·rintro ⟨h1,h2⟩;have ho:∀ p∈l,fG p:=fun p hp=>of_decide_eq_true (h1 p hp);exact ⟨ho,(vN ho).1 h2⟩
 intro h;exact ⟨fun p hp=>decide_eq_true (h.ok p hp),(vN h.ok).2 h.gap⟩
theorem aCg (p:aH):mF p=some (decide (fG p)):=by
 unfold mF;rw [RU,Option.bind_some];by_cases h1:1≤p.aM∧p.aM≤999
 ·rw [if_pos (by simpa using h1),RU,Option.bind_some];by_cases h2:1≤p.aV∧p.aV≤p.cM
  ·rw [if_pos (by simpa using h2),Option.bind_some];congr 1;rw [Bool.eq_iff_iff,decide_eq_true_eq,decide_eq_true_eq];unfold fG;omega
  rw [if_neg (by simpa using h2),Option.bind_some,decide_eq_false (show ¬fG p by unfold fG;omega)]
 rw [if_neg (by simpa using h1),Option.bind_some,decide_eq_false (show ¬fG p by unfold fG;omega)]
theorem e96 {p:aH} (q:aH) (h:fG p):xY p q=some (jP p q):=by
 unfold xY;unfold fG at h;by_cases h1:p.aM < q.aM
 ·rw [if_pos h1,gD.2 (by unfold eP;omega)];rfl
 rw [if_neg h1];by_cases h2:p.aM=q.aM
 ·rw [if_pos h2,aQ (by omega),Option.bind_some];congr 1;rw [Bool.eq_iff_iff,decide_eq_true_eq,gD];unfold eP;omega
 rw [if_neg h2,Option.bind_some];congr 1;symm;rw [← Bool.not_eq_true,gD];unfold eP;omega
theorem CA {p q:aH} (h:¬eP p q):jP p q=false:=by rw [← Bool.not_eq_true,gD];exact h
theorem aCh (l:List aH):tH l mF=some (l.all fun p=>decide (fG p)):=by
 have h:tH l mF=zC l mF:=rfl;rw [h];exact gL _ fun p _=>aCg p
theorem aCi {l:List aH} (h:∀ p∈l,fG p):tI l xY=some (cH jP l):=by
 have h0:tI l xY=AF l xY:=rfl;rw [h0];exact nB jP fun x hx y hy=>e96 y (h x hx)
theorem aCj (l:List aH):HW l=some (vM l):=by
 unfold HW;have key:∀ k i,l.length - i=k→i≤l.length→(0 < i→∀ s,l[i - 1]?=some s→fG s)→aY (pO l) i=some (if (l.drop i).all (fun p=>decide (fG p))&&cH jP (l.drop (i - 1)) then .inl () else .inr false):=by
  intro k
  induction k with
  | zero =>
   intro i hk hi _;obtain rfl:i=l.length:=by omega
   have e:cH jP (l.drop (l.length - 1))=true:=by
    cases hd:l.drop (l.length - 1) with
    | nil=>rfl
    | cons x m =>
     have:=congrArg List.length hd
     cases m with
     | nil=>rfl
     | cons _ _=>simp at this;omega
   rw [List.drop_length,e];rw [bN (e:=.inl ()) (by unfold pO;rw [if_neg (by omega)])];rfl
  | succ k ih =>
   intro i hk hi hp;have hlt:i < l.length:=by omega
   have hx:l[i]?=some l[i]:=List.getElem?_eq_getElem hlt;have e2:l.drop i=l[i]::l.drop (i+1):=List.drop_eq_getElem_cons hlt;have hch:cH jP (l.drop (i - 1))=((if h:0 < i then jP l[i - 1] l[i] else true)&&cH jP (l.drop i)):=by
    by_cases hi0:0 < i
    ·have e1:l.drop (i - 1)=l[i - 1]::l[i]::l.drop (i+1):=by
      rw [List.drop_eq_getElem_cons (by omega),show i - 1+1=i by omega,e2]
     rw [e1,e2,dif_pos hi0];rfl
    obtain rfl:i=0:=by omega
    simp
   have step:pO l i=some (if decide (fG l[i])&&(if h:0 < i then jP l[i - 1] l[i] else true) then .inl (i+1) else .inr (.inr false)):=by
    unfold pO;rw [if_pos (by omega),hx,Option.bind_some,XV,Option.bind_some];by_cases ho:fG l[i]
    ·have ho':=ho;unfold fG at ho';rw [if_pos (by simp;omega),XV,Option.bind_some,if_pos (by simp;omega),Option.bind_some,if_neg (by simp;omega),decide_eq_true ho];by_cases hi0:0 < i
     ·have hy:l[i - 1]?=some l[i - 1]:=List.getElem?_eq_getElem (by omega);have hp':=hp hi0 _ hy;unfold fG at hp';rw [if_pos (by omega),show ((i:Int) - 1).toNat=i - 1 by omega,hy,Option.bind_some,dif_pos hi0];by_cases v1:l[i].aM < l[i - 1].aM
      ·rw [if_pos v1,Option.bind_some,if_pos rfl,CA (by unfold eP;omega)];rfl
      rw [if_neg v1];by_cases v2:l[i].aM=l[i - 1].aM
      ·rw [if_pos v2,aQ (by omega),Option.bind_some];by_cases v3:l[i].aV≤l[i - 1].cM+1
       ·rw [if_pos (by simpa using v3),CA (by unfold eP;omega)];rfl
       rw [if_neg (by simpa using v3),gD.2 (by unfold eP;omega)];rfl
      rw [if_neg v2,Option.bind_some,if_neg (by decide),gD.2 (by unfold eP;omega)];rfl
     rw [if_neg (by omega),dif_neg hi0];rfl
    have:((if decide (1≤l[i].aM∧l[i].aM≤999) then (MT l[i].aV 1 l[i].cM).bind fun r0=>if r0 then some (decide (9999 < l[i].cM)) else some true else some true):Option Bool)=some true:=by
     unfold fG at ho;by_cases v1:1≤l[i].aM∧l[i].aM≤999
     ·rw [if_pos (by simpa using v1),XV,Option.bind_some];by_cases v2:1≤l[i].aV∧l[i].aV≤l[i].cM
      ·rw [if_pos (by simpa using v2)];congr 1;rw [decide_eq_true_eq];omega
      rw [if_neg (by simpa using v2)]
     rw [if_neg (by simpa using v1)]
    rw [this,decide_eq_false ho];rfl
   rw [hch,e2,List.all_cons];by_cases hs:(decide (fG l[i])&&(if h:0 < i then jP l[i - 1] l[i] else true))=true
   ·rw [if_pos hs] at step;rw [Bool.and_eq_true] at hs
    rw [cC step,ih (i+1) (by omega) (by omega) (fun _ s he=>by
     rw [show i+1 - 1=i by omega,hx] at he;cases he;exact of_decide_eq_true hs.1),show i+1 - 1=i by omega,e2]
    rw [hs.1,hs.2,Bool.true_and,Bool.true_and]
   rw [if_neg hs] at step;rw [bN step];have:(decide (fG l[i])&&(l.drop (i+1)).all (fun p=>decide (fG p))&&((if h:0 < i then jP l[i - 1] l[i] else true)&&cH jP (l[i]::l.drop (i+1))))=false:=by
    rw [← Bool.not_eq_true,Bool.and_eq_true,Bool.and_eq_true,Bool.and_eq_true];rintro ⟨⟨a,_⟩,b,_⟩;exact hs (by rw [a,b];rfl)
   rw [this];rfl
 have hk:=key l.length 0 (by omega) (by omega) (fun h=>absurd h (by omega));simp only [List.drop_zero,Nat.zero_sub] at hk;rw [hk];unfold vM;cases h2:(l.all (fun p=>decide (fG p))&&cH jP l) <;> simp
def DO (h:aB):Bool:=dE h.name&&(rE h.aC&&(rE h.aO&&(decide (h.aG.length≤30)&&vM h.aG)))
theorem rQ {h:aB}:DO h=true↔Rt h:=by
 unfold DO Rt;simp only [Bool.and_eq_true,decide_eq_true_eq,IE,FR]
theorem e78 (h:aB):AT h=some (DO h):=by
 unfold AT DO;rw [VB,Option.bind_some]
 cases dE h.name with
 | false=>rfl
 | true =>
  rw [if_pos rfl,VD,Option.bind_some]
  cases rE h.aC with
  | false=>rfl
  | true =>
   rw [if_pos rfl,VD,Option.bind_some]
   cases rE h.aO with
   | false=>rfl
   | true =>
    rw [if_pos rfl];by_cases hl:h.aG.length≤30
    ·rw [if_pos (by omega),aCh,Option.bind_some,decide_eq_true hl];unfold vM
     cases h2:h.aG.all (fun p=>decide (fG p)) with
     | false=>rfl
     | true =>
      rw [if_pos rfl,aCi (fun p hp=>by
       have:=List.all_eq_true.1 h2 p hp
       exact of_decide_eq_true this)]
      rfl
    rw [if_neg (by omega),decide_eq_false hl];rfl
theorem e64 (h:aB):TW h=some (DO h):=by
 unfold TW DO;rw [VC,Option.bind_some]
 cases dE h.name with
 | false=>rfl
 | true =>
  rw [if_pos rfl,VE,Option.bind_some]
  cases rE h.aC with
  | false=>rfl
  | true =>
   rw [if_pos rfl,VE,Option.bind_some]
   cases rE h.aO with
   | false=>rfl
   | true =>
    rw [if_pos rfl];by_cases hl:h.aG.length≤30
    ·rw [if_pos (by omega),aCj,decide_eq_true hl];rfl
    rw [if_neg (by omega),decide_eq_false hl];rfl
theorem e77 (l:List aB):BQ l AT=some (l.all DO):=by
 have h:BQ l AT=zC l AT:=rfl;rw [h];exact gL DO fun h _=>e78 h
end T11
namespace T11
open Go Go.Proofs Pk
section
variable {α ε:Type}
theorem rR {g:Nat→α→Option ε} {out:ε}:∀ {l:List α} {k:Nat},(∀ j x,l[j]?=some x→g (k+j) x=none)→BK g out l k=out
 | [],_,_=>rfl
 | x::l,k,h=>by
  have h0:=h 0 x rfl;simp only [Nat.add_zero] at h0;simp only [BK,h0];refine rR fun j y hy=>?_;have:=h (j+1) y (by simpa using hy)
  rwa [show k+(j+1)=k+1+j by omega] at this
theorem rS {g:Nat→α→Option ε} {out e:ε} (he:∀ j x e',g j x=some e'→e'=e):∀ {l:List α} {k:Nat},(∃ j x,l[j]?=some x∧g (k+j) x≠none)→BK g out l k=e
 | [],_,⟨j,x,h,_⟩=>by simp at h
 | x::l,k,⟨j,y,hy,hg⟩=>by
  simp only [BK]
  cases hc:g k x with
  | some e'=>exact he _ _ _ hc
  | none =>
   refine rS he ?_
   cases j with
   | zero=>simp at hy;subst hy;exact absurd hc hg
   | succ j=>exact ⟨j,y,by simpa using hy,by rwa [show k+1+j=k+(j+1) by omega]⟩
theorem tU {p:α→α→Bool}:∀ {l:List α},cH p l=true↔∀ i x y,l[i]?=some x→l[i+1]?=some y→p x y=true
 | []=>by simp [cH]
 | [x]=>by simp [cH]
 | x::y::l=>by
  have ih:=tU (p:=p) (l:=y::l);simp only [cH,Bool.and_eq_true];rw [ih];constructor
  ·rintro ⟨h1,h2⟩ i a b ha hb
   cases i with
   | zero=>simp at ha hb;rw [← ha,← hb];exact h1
   | succ i=>exact h2 i a b (by simpa using ha) (by simpa using hb)
  intro h;exact ⟨h 0 x y rfl rfl,fun i a b ha hb=>h (i+1) a b (by simpa using ha) (by simpa using hb)⟩
end
theorem jQ {l:List aB}:BZ l↔cH (fun a b=>cJ a.name b.name) l=true:=(oC (p:=fun a b:aB=>cJ a.name b.name) (l:=l) fun x _ y _ z _ h1 h2=>jN (a:=x.name) (b:=y.name) (c:=z.name) h1 h2).symm
def jR (s:aA) (h:aB):Bool:=decide (s∈aT h)
theorem hZ {s:aA} {h:aB}:jR s h=true↔s∈aT h:=by unfold jR;exact decide_eq_true_iff
def oN (l:List aB) (s:aA):Int:=if l.any (jR s) then ((l.findIdx (jR s):Nat):Int) else -1
theorem PL (l:List aA) (s:aA):OY l s=some (decide (s∈l)):=by
 have h1:=mX l (ε:=Unit⊕Bool) (fun _ x=>if x=s then some (.inr true) else none) (.inl ()) (step:=zP l s) (fun i x hi hx=>by
  unfold zP;rw [if_pos (by omega),hx,Option.bind_some];by_cases h:x=s
  ·rw [if_pos h,if_pos h]
  rw [if_neg h,if_neg h]) (by unfold zP;rw [if_neg (by omega)])
 unfold OY;rw [h1,Option.bind_some];by_cases h:s∈l
 ·obtain ⟨j,hj⟩:=List.getElem?_of_mem h
  rw [rS (e:=.inr true) (fun j x e' h=>by
   split at h
   ·exact (Option.some.inj h).symm
   cases h) ⟨j,s,hj,by simp⟩,decide_eq_true h]
 rw [rR (fun j x hx=>by
  rw [if_neg];rintro rfl;exact h (List.mem_of_getElem? hx)),decide_eq_false h]
theorem PM {h:aB} (hv:h.aC.length≤1073741823):OX h=some (aT h):=by
 unfold OX;rw [aQ (by simp;omega)];rfl
theorem e41 {l:List aB} (hv:∀ h∈l,h.aC.length≤1073741823) (s:aA):RL l s=some (oN l s):=by
 unfold RL
 rw [mX (ε:=Unit⊕Int) l (fun j x=>if jR s x then some (.inr (j:Int)) else none) (.inl ()) (fun i x hi hx=>by
  unfold DJ;rw [if_pos (by omega),hx,Option.bind_some,PM (hv x (List.mem_of_getElem? hx)),Option.bind_some,PL,Option.bind_some];unfold jR
  by_cases h:s∈aT x <;> simp [h]) (by unfold DJ;simp),wV]
 unfold oN;by_cases h:l.any (jR s)=true
 ·rw [if_pos h,if_pos h,Option.bind_some];congr 1;simp
 rw [if_neg h,if_neg h];rfl
theorem IF {l:List aB} {s:aA} (h:oN l s < 0):∀ k∈l,s∉aT k:=by
 unfold oN at h
 split at h
 ·omega
 rename_i hn
 intro k hk hs;exact hn (List.any_eq_true.2 ⟨k,hk,hZ.2 hs⟩)
theorem jD {l:List aB} {s:aA} (h:0≤oN l s):∃ k,l[(oN l s).toNat]?=some k∧s∈aT k∧oN l s=((oN l s).toNat:Int):=by
 unfold oN at h ⊢
 split
 ·rename_i ha
  have hlt:=List.findIdx_lt_length_of_exists (List.any_eq_true.1 ha);refine ⟨l[l.findIdx (jR s)],?_,hZ.1 List.findIdx_getElem,by simp⟩;simp only [Int.toNat_natCast];exact List.getElem?_eq_getElem hlt
 rename_i ha;rw [if_neg ha] at h;omega
theorem DP {l:List aB} {s:aA} {k:aB} (hk:k∈l) (hs:s∈aT k):0≤oN l s:=by
 unfold oN;rw [if_pos (List.any_eq_true.2 ⟨k,hk,hZ.2 hs⟩)];omega
theorem nC {l:List aA} {x:aA} (h:l.Nodup) (hx:x∉l):(l++[x]).Nodup:=by
 rw [List.nodup_append];exact ⟨h,by simp,fun a ha b hb=>by simp at hb;subst hb;rintro rfl;exact hx ha⟩
open Classical in
theorem vO {ε:Type} (out:List aA→ε) (e:ε):∀ (l acc:List aA) (i:Nat),acc.Nodup→BJ (σ:=List aA) (fun _ x a=>if x∈a then .inr e else .inl (a++[x])) out l i acc=if (acc++l).Nodup then out (acc++l) else e
 | [],acc,i,h=>by rw [jL,List.append_nil,if_pos h]
 | x::l,acc,i,h=>by
  rw [gY];by_cases hx:x∈acc
  ·rw [if_pos hx];simp only;rw [if_neg];intro hn;rw [List.nodup_append] at hn;exact hn.2.2 x hx x List.mem_cons_self rfl
  rw [if_neg hx];simp only;rw [vO out e l (acc++[x]) (i+1) (nC h hx),List.append_assoc];rfl
theorem eO {l:List aB} (h:∀ x∈l,x.aC.length≤8):(l.flatMap aT).length≤9*l.length:=by
 induction l with
 | nil=>simp
 | cons x l ih =>
  have h1:=h x List.mem_cons_self;have h2:=ih fun y hy=>h y (List.mem_cons_of_mem _ hy);simp only [List.flatMap_cons,List.length_append,List.length_cons,aT];omega
open Classical in
theorem IG {l:List aB} (hl:l.length≤60) (hv:∀ x∈l,x.aC.length≤8):aY (tL l) (0,([]:List aA))=some (if (l.flatMap aT).Nodup then .inl (l.flatMap aT) else .inr 6):=by
 have step:∀ i x a,i < l.length→l[i]?=some x→a.Nodup∧a.length≤9*i→tL l (i,a)=some (if (a++aT x).Nodup then .inl (i+1,a++aT x) else .inr (.inr 6)):=by
  rintro i x a hi hx ⟨hn,ha⟩;have hvx:=hv x (List.mem_of_getElem? hx);unfold tL;rw [if_pos (show (i:Int) < (l.length:Int) by omega),hx,Option.bind_some,PM (by omega),Option.bind_some]
  have h3:=pB (aT x) (σ:=List aA) (ε:=(List aA)⊕((Nat×List aA)⊕((List aA)⊕Int))) (fun _ x a=>if x∈a then .inr (.inr (.inr (.inr 6))) else .inl (a++[x])) (fun a=>.inl a) (fun j b=>b.length=a.length+j) (step:=zR (aT x)) (fun j y b hj hy hb=>by
   unfold zR;have:(aT x).length=1+x.aC.length:=by simp [aT];omega
   rw [if_pos (show (j:Int) < ((aT x).length:Int) by omega),hy,Option.bind_some,PL,Option.bind_some];by_cases hm:y∈b
   ·simp [hm]
   ·simp only [hm,decide_false,Bool.false_eq_true,if_false]
    rw [aQ (by omega)])
   (fun j y b b' hj hy hb hg=>by
    split at hg
    ·cases hg
    cases hg;simp;omega)
   (fun b hb=>by unfold zR;simp) (a0:=a) (by simp)
  rw [h3,vO _ _ _ _ _ hn];by_cases hnd:(a++aT x).Nodup
  ·rw [if_pos hnd,if_pos hnd];rfl
  rw [if_neg hnd,if_neg hnd];rfl
 have key:∀ k i a,l.length - i=k→i≤l.length→a.Nodup→a.length≤9*i→aY (tL l) (i,a)=some (if (a++(l.drop i).flatMap aT).Nodup then .inl (a++(l.drop i).flatMap aT) else .inr 6):=by
  intro k
  induction k with
  | zero =>
   intro i a hk hi hn ha;obtain rfl:i=l.length:=by omega
   rw [List.drop_length,List.flatMap_nil,List.append_nil,if_pos hn];exact bN (by unfold tL;simp)
  | succ k ih =>
   intro i a hk hi hn ha;have hlt:i < l.length:=by omega
   have hx:l[i]?=some l[i]:=List.getElem?_eq_getElem hlt;have hvx:=hv l[i] (List.getElem_mem hlt);have hs:=step i _ a hlt hx ⟨hn,ha⟩;rw [List.drop_eq_getElem_cons hlt,List.flatMap_cons,← List.append_assoc];by_cases hnd:(a++aT l[i]).Nodup
   ·rw [if_pos hnd] at hs;rw [cC hs,ih (i+1) _ (by omega) (by omega) hnd (by simp [aT];omega)]
   rw [if_neg hnd] at hs;rw [bN hs,if_neg];intro hc;rw [List.nodup_append] at hc;exact hnd hc.1
 have:=key l.length 0 [] (by omega) (by omega) List.nodup_nil (by simp);simpa using this
noncomputable def CB (l:List aB) (i:Nat) (s:aA):Bool:=@decide (0≤oN l s∧oN l s≠(i:Int)∧∃ k,l[(oN l s).toNat]?=some k∧k.name=s) (Classical.propDecidable _)
theorem lV {l:List aB} {i:Nat} {s:aA}:CB l i s=true↔0≤oN l s∧oN l s≠(i:Int)∧∃ k,l[(oN l s).toNat]?=some k∧k.name=s:=by
 unfold CB;exact @decide_eq_true_iff _ (Classical.propDecidable _)
theorem CC {l:List aB} (hv:∀ x∈l,x.aC.length≤8) {i:Nat} {x:aB} (hx:l[i]?=some x):aY (zS l i) 0=some (if x.aO.all (CB l i) then .inl () else .inr (.inr (.inr 1))):=by
 have hv':∀ x∈l,x.aC.length≤1073741823:=fun y hy=>by have:=hv y hy;omega
 refine iZ (ε:=Unit⊕(Nat⊕(Unit⊕Int))) x.aO (CB l i) (.inr (.inr (.inr 1))) (.inl ()) (fun j s hj hs=>?_) ?_
 ·unfold zS;rw [hx,Option.bind_some,if_pos (by omega),hs,Option.bind_some,e41 hv',Option.bind_some];by_cases h1:oN l s < 0
  ·have:CB l i s=false:=by rw [← Bool.not_eq_true,lV];omega
   rw [if_pos h1,this];rfl
  rw [if_neg h1];by_cases h2:oN l s=(i:Int)
  ·have:CB l i s=false:=by rw [← Bool.not_eq_true,lV];rintro ⟨_,h,_⟩;exact h h2
   rw [if_pos h2,this];rfl
  obtain ⟨k,hk,_,_⟩:=jD (l:=l) (s:=s) (by omega);rw [if_neg h2,aQ (by omega),hk,Option.bind_some,Option.bind_some];by_cases h3:k.name=s
  ·have:CB l i s=true:=lV.2 ⟨by omega,h2,k,hk,h3⟩;rw [this];simp [h3]
  have:CB l i s=false:=by
   rw [← Bool.not_eq_true,lV];rintro ⟨_,_,k',hk',e⟩;rw [hk] at hk';cases hk';exact h3 e
  rw [this];simp [h3]
 unfold zS;rw [hx,Option.bind_some,if_neg (by omega)]
theorem DQ {l:List aB} (hn:(l.flatMap aT).Nodup):(∀ (i:Nat) (x:aB),l[i]?=some x→x.aO.all (CB l i)=true)↔qS l:=by
 constructor
 ·intro h x hx s hs;obtain ⟨i,hi⟩:=List.getElem?_of_mem hx;obtain ⟨h1,h2,k,hk,e⟩:=lV.1 (List.all_eq_true.1 (h i x hi) s hs);have hkl:=List.mem_of_getElem? hk;refine ⟨fun e'=>h2 ?_,k,hkl,e⟩;obtain ⟨k',hk',hs',e3⟩:=jD h1;have:k'=x:=oD hn (List.mem_of_getElem? hk') hx hs' (e'▸bT x);rw [hk] at hk';cases hk';subst this;rw [e3];congr 1;have hnn:(l.map fun y=>y.name).Nodup:=by
   clear h hi hk h1 h2 e3 hs hx hkl hs'
   induction l with
   | nil=>simp
   | cons y l ih =>
    rw [List.flatMap_cons,List.nodup_append] at hn;rw [List.map_cons,List.nodup_cons];refine ⟨fun hm=>?_,ih hn.2.1⟩;obtain ⟨z,hz,e⟩:=List.mem_map.1 hm;exact hn.2.2 y.name (bT y) y.name (List.mem_flatMap.2 ⟨z,hz,e▸bT z⟩) rfl
  have hl:=(List.getElem?_eq_some_iff.1 hi).1;have hl2:=(List.getElem?_eq_some_iff.1 hk).1;exact (List.getElem?_inj (by simpa using hl2) hnn).1 (by rw [List.getElem?_map,List.getElem?_map,hk,hi])
 intro h i x hx;rw [List.all_eq_true];intro s hs;obtain ⟨h1,k,hk,e⟩:=h x (List.mem_of_getElem? hx) s hs;have hp:=DP (l:=l) hk (e▸bT k);obtain ⟨k',hk',hs',e3⟩:=jD hp;have:k'=k:=oD hn (List.mem_of_getElem? hk') hk hs' (e▸bT k);subst this;refine lV.2 ⟨hp,fun e4=>?_,k',hk',e⟩;have:(oN l s).toNat=i:=by omega
 rw [this,hx] at hk';cases hk';exact h1 e.symm
open Classical in
noncomputable def gF (l:List aB) (i:Nat) (x:aB):Option (Unit⊕Int):=if (∀ y,0 < i→l[i - 1]?=some y→cJ y.name x.name=true)∧x.aO.all (CB l i)=true then none else some (.inr 1)
theorem xO {l:List aB} {i:Nat} {x:aB}:gF l i x=none↔(∀ y,0 < i→l[i - 1]?=some y→cJ y.name x.name=true)∧x.aO.all (CB l i)=true:=by
 unfold gF
 split
 ·rename_i h;exact ⟨fun _=>h,fun _=>rfl⟩
 rename_i h;exact ⟨fun e=>(by cases e),fun h'=>absurd h' h⟩
theorem rT {l:List aB} {i:Nat} {x:aB} (h:¬((∀ y,0 < i→l[i - 1]?=some y→cJ y.name x.name=true)∧x.aO.all (CB l i)=true)):gF l i x=some (.inr 1):=by
 unfold gF;rw [if_neg h]
open Classical in
theorem XW (l:List aB):OZ l=some (cY l):=by
 unfold OZ cY;by_cases h1:60 < l.length
 ·rw [if_pos (by omega),if_pos h1]
 rw [if_neg (by omega),if_neg h1]
 have hall:=iZ l DO (.inr 1) (.inl ()) (step:=zQ l) (fun i x hi hx=>by
  unfold zQ;rw [if_pos (by omega),hx,Option.bind_some,e64,Option.bind_some]
  cases DO x <;> rfl) (by unfold zQ;simp)
 rw [hall];by_cases h2:∀ h∈l,Rt h
 ·have hb:l.all DO=true:=List.all_eq_true.2 fun h hh=>rQ.2 (h2 h hh);have hv:∀ x∈l,x.aC.length≤8:=fun x hx=>(h2 x hx).2.1.1;rw [hb,if_pos rfl,Option.bind_some,IG (by omega) hv,if_neg (show ¬ ¬∀ h∈l,Rt h from fun h=>h h2)];by_cases h3:(l.flatMap aT).Nodup
  ·rw [if_pos h3,if_neg (show ¬ ¬(l.flatMap aT).Nodup from fun h=>h h3)];simp only [Option.bind_some];have hstep:∀ i x,i < l.length→l[i]?=some x→zT l i=some (match gF l i x with | none=>.inl (i+1) | some e=>.inr e):=by
    intro i x hi hx;have ha:=CC hv hx;unfold zT;rw [if_pos (by omega)];by_cases hi0:0 < i
    ·have hy:l[i - 1]?=some l[i - 1]:=List.getElem?_eq_getElem (by omega);rw [if_pos (by omega),show ((i:Int) - 1).toNat=i - 1 by omega,hy,Option.bind_some,hx,Option.bind_some,PK (fW (h2 _ (List.mem_of_getElem? hy)).1) (fW (h2 x (List.mem_of_getElem? hx)).1),Option.bind_some,Option.bind_some]
     cases hb:cJ l[i - 1].name x.name with
     | false =>
      rw [rT (fun h=>by
       have:=h.1 _ hi0 hy
       rw [hb] at this;cases this)]
      rfl
     | true =>
      rw [if_neg (by decide),ha];by_cases hc:x.aO.all (CB l i)=true
      ·rw [if_pos hc,xO.2 ⟨fun y _ h=>by rw [hy] at h;cases h;exact hb,hc⟩];rfl
      rw [if_neg hc,rT (fun h=>hc h.2)];rfl
    rw [if_neg (by omega),Option.bind_some,if_neg (by decide),ha];by_cases hc:x.aO.all (CB l i)=true
    ·rw [if_pos hc,xO.2 ⟨fun y h=>absurd h hi0,hc⟩];rfl
    rw [if_neg hc,rT (fun h=>hc h.2)];rfl
   rw [mX (ε:=Unit⊕Int) l (gF l) (.inl ()) (fun i x hi hx=>by rw [hstep i x hi hx];cases gF l i x <;> rfl) (by unfold zT;rw [if_neg (by omega)])];by_cases h4:qS l∧BZ l
   ·rw [if_neg (show ¬ ¬(qS l∧BZ l) from fun h=>h h4),rR]
    ·rfl
    intro j x hx;rw [Nat.zero_add,xO];refine ⟨fun y hj hy=>?_,(DQ h3).2 h4.1 j x hx⟩;exact tU.1 (jQ.1 h4.2) (j - 1) y x hy (by rwa [show j - 1+1=j by omega])
   rw [if_pos h4,rS (e:=.inr 1)]
   ·rfl
   ·intro j x e' h;unfold gF at h
    split at h
    ·cases h
    exact (Option.some.inj h).symm
   apply Classical.byContradiction;intro hc;apply h4;have hall:∀ j x,l[j]?=some x→(∀ y,0 < j→l[j - 1]?=some y→cJ y.name x.name=true)∧x.aO.all (CB l j)=true:=by
    intro j x hx;apply Classical.byContradiction;intro hn;exact hc ⟨j,x,hx,by rw [Nat.zero_add,rT hn];simp⟩
   refine ⟨(DQ h3).1 fun i x hx=>(hall i x hx).2,jQ.2 (tU.2 fun i x y hx hy=>?_)⟩;exact (hall (i+1) y hy).1 x (by omega) (by simpa using hx)
  rw [if_neg h3,if_pos h3];rfl
 have hb:l.all DO=false:=by
  rw [← Bool.not_eq_true,List.all_eq_true];intro h;exact h2 fun x hx=>rQ.1 (h x hx)
 rw [hb,if_pos h2];rfl
end T11
namespace T11
open Go Go.Proofs Pk
def dF:Nat→List aB→List (aA×Int)
 | _,[]=>[]
 | i,h::l=>(aT h).map (fun s=>(s,(i:Int)))++dF (i+1) l
theorem lW {α:Type}:∀ {m:List (aA×α)} {s:aA},(lkp m s).isSome=true↔s∈m.map Prod.fst
 | [],s=>by simp [lkp]
 | (k,x)::m,s=>by
  simp only [lkp,List.map_cons,List.mem_cons];by_cases h:s=k
  ·simp [h]
  rw [if_neg h,lW];simp [h]
theorem DR {α:Type} {m:List (aA×α)} {s:aA} (y:α) (h:s∉m.map Prod.fst):put m s y=m++[(s,y)]:=by
 refine fV y ?_
 cases hl:lkp m s with
 | none=>rfl
 | some v=>exact absurd (lW.1 (by rw [hl];rfl)) h
theorem DS {α:Type}:∀ (a b:List (aA×α)) (s:aA),lkp (a++b) s=(lkp a s).or (lkp b s)
 | [],b,s=>by simp [lkp]
 | (k,x)::a,b,s=>by
  simp only [List.cons_append,lkp];by_cases h:s=k
  ·simp [h]
  rw [if_neg h,if_neg h,DS a b s]
theorem vP (i:Int):∀ (l:List aA) (s:aA),lkp (l.map fun t=>(t,i)) s=if s∈l then some i else none
 | [],s=>by simp [lkp]
 | t::l,s=>by
  simp only [List.map_cons,lkp,List.mem_cons];by_cases h:s=t
  ·simp [h]
  rw [if_neg h,vP i l s];simp [h]
theorem AG:∀ (l:List aB) (i:Nat) (s:aA),lkp (dF i l) s=if l.any (jR s) then some (((i+l.findIdx (jR s):Nat):Int)) else none
 | [],i,s=>by simp [dF,lkp]
 | h::l,i,s=>by
  simp only [dF,DS,vP,List.any_cons,List.findIdx_cons];by_cases hs:s∈aT h
  ·rw [if_pos hs,hZ.2 hs];simp
  have:jR s h=false:=by rw [← Bool.not_eq_true,hZ];exact hs
  rw [if_neg hs,this,AG l (i+1) s];by_cases ha:l.any (jR s)=true
  ·simp [ha];omega
  simp [ha]
theorem DT {l:List aB} {s:aA}:lkp (dF 0 l) s=if 0≤oN l s then some (oN l s) else none:=by
 rw [AG];unfold oN;by_cases ha:l.any (jR s)=true
 ·rw [if_pos ha,if_pos ha,if_pos (by omega)];simp
 rw [if_neg ha,if_neg ha];rfl
open Classical in
theorem DU {ε:Type} (i:Int) (out:List (aA×Int)→ε) (e:List (aA×Int)→ε):∀ (l:List aA) (m:List (aA×Int)) (k:Nat),(m.map Prod.fst).Nodup →
  ∃ m',BJ (σ:=List (aA×Int)) (fun _ x a=>if (lkp a x).isSome then .inr (e a) else .inl (put a x i)) out l k m=if (m.map Prod.fst++l).Nodup then out (m++l.map fun s=>(s,i)) else e m'
 | [],m,k,h=>⟨m,by rw [jL,List.append_nil,if_pos h];simp⟩
 | x::l,m,k,h=>by
  rw [gY];by_cases hx:x∈m.map Prod.fst
  ·refine ⟨m,?_⟩;rw [if_pos (lW.2 hx)];simp only;rw [if_neg];intro hn;rw [List.nodup_append] at hn;exact hn.2.2 x hx x List.mem_cons_self rfl
  rw [if_neg (fun h=>hx (lW.1 h)),DR i hx];simp only;have h2:((m++[(x,i)]).map Prod.fst).Nodup:=by
   rw [List.map_append];exact nC h hx
  obtain ⟨m',h3⟩:=DU i out e l (m++[(x,i)]) (k+1) h2;refine ⟨m',?_⟩;rw [h3,List.map_append,List.append_assoc,List.append_assoc];rfl
open Classical in
theorem AH (l:List aB):aY (jA l) (0,([]:List (aA×Int)))=some (if (l.flatMap aT).Nodup then .inl (dF 0 l) else .inr ([],6)):=by
 have step:∀ i x m,i < l.length→l[i]?=some x→(m.map Prod.fst).Nodup→jA l (i,m)=some (if (m.map Prod.fst++aT x).Nodup then .inl (i+1,m++(aT x).map fun s=>(s,(i:Int))) else .inr (.inr ([],6))):=by
  intro i x m hi hx hn;unfold jA;rw [if_pos (show (i:Int) < (l.length:Int) by omega),hx,Option.bind_some];by_cases h0:x.name∈m.map Prod.fst
  ·rw [if_pos (lW.2 h0),if_neg]
   ·rfl
   intro hc;rw [List.nodup_append] at hc;exact hc.2.2 _ h0 _ (bT x) rfl
  rw [if_neg (fun h=>h0 (lW.1 h)),DR _ h0];have h2:((m++[(x.name,(i:Int))]).map Prod.fst).Nodup:=by
   rw [List.map_append];exact nC hn h0
  have h3:=pB x.aC (σ:=List (aA×Int)) (ε:=(((List (aA×Int)))⊕((Nat×(List (aA×Int)))⊕((List (aA×Int)))))) (fun _ y a=>if (lkp a y).isSome then .inr (.inr (.inl (6,a))) else .inl (put a y (i:Int))) (fun a=>.inl a) (fun _ _=>True) (step:=kV x (i,m)) (fun j y b hj hy _=>by
   unfold kV;rw [if_pos (show (j:Int) < (x.aC.length:Int) by omega),hy,Option.bind_some];by_cases hm:(lkp b y).isSome=true
   ·rw [if_pos hm,if_pos hm];rfl
   rw [if_neg hm,if_neg hm];rfl) (fun _ _ _ _ _ _ _ _=>trivial) (fun b _=>by unfold kV;simp) (a0:=m++[(x.name,(i:Int))]) trivial
  obtain ⟨m',h4⟩:=DU (ε:=(((List (aA×Int)))⊕((Nat×(List (aA×Int)))⊕((List (aA×Int)))))) (i:Int) (fun a=>.inl a) (fun a=>.inr (.inl (6,a))) x.aC (m++[(x.name,(i:Int))]) 0 h2;have e1:(m++[(x.name,(i:Int))]).map Prod.fst++x.aC=m.map Prod.fst++aT x:=by simp [aT]
  have e2:(m++[(x.name,(i:Int))])++x.aC.map (fun s=>(s,(i:Int)))=m++(aT x).map (fun s=>(s,(i:Int))):=by simp [aT]
  rw [e1,e2] at h4;simp only [Option.bind_some];rw [h3,h4];by_cases hnd:(m.map Prod.fst++aT x).Nodup
  ·rw [if_pos hnd,if_pos hnd];rfl
  rw [if_neg hnd,if_neg hnd];rfl
 have key:∀ k i m,l.length - i=k→i≤l.length→(m.map Prod.fst).Nodup→aY (jA l) (i,m)=some (if (m.map Prod.fst++(l.drop i).flatMap aT).Nodup then .inl (m++dF i (l.drop i)) else .inr ([],6)):=by
  intro k
  induction k with
  | zero =>
   intro i m hk hi hn;obtain rfl:i=l.length:=by omega
   rw [List.drop_length,List.flatMap_nil,List.append_nil,if_pos hn];simp only [dF,List.append_nil];exact bN (by unfold jA;simp)
  | succ k ih =>
   intro i m hk hi hn;have hlt:i < l.length:=by omega
   have hx:l[i]?=some l[i]:=List.getElem?_eq_getElem hlt;have hs:=step i _ m hlt hx hn;rw [List.drop_eq_getElem_cons hlt,List.flatMap_cons,← List.append_assoc];by_cases hnd:(m.map Prod.fst++aT l[i]).Nodup
   ·rw [if_pos hnd] at hs;have e1:(m++(aT l[i]).map fun s=>(s,(i:Int))).map Prod.fst=m.map Prod.fst++aT l[i]:=by simp [Function.comp_def]
    rw [cC hs,ih (i+1) _ (by omega) (by omega) (by rw [e1];exact hnd),e1,List.append_assoc];simp only [dF,List.append_assoc]
   rw [if_neg hnd] at hs;rw [bN hs,if_neg];intro hc;rw [List.nodup_append] at hc;exact hnd hc.1
 have:=key l.length 0 [] (by omega) (by omega) List.nodup_nil;simpa using this
def qT (l:List aB) (h:aB):Bool:=decide (∀ s∈h.aO,s≠h.name∧∃ k∈l,k.name=s)
theorem e79 {l:List aB} (hn:(l.flatMap aT).Nodup) (h:aB):AU h (dF 0 l) l=some (qT l h):=by
 unfold AU;rw [nX];have h0:DD h.aO (fun x0_=>DE x0_ (dF 0 l) l h)=zC h.aO (fun x0_=>DE x0_ (dF 0 l) l h):=rfl
 rw [h0,gL (fun s=>decide (s≠h.name∧∃ k∈l,k.name=s)) (fun s hs=>by
  unfold DE;rw [nX,DT];by_cases hp:0≤oN l s
  ·obtain ⟨k,hk,hs',e⟩:=jD hp;rw [if_pos hp,if_pos (by rfl)];simp only [Option.getD_some];rw [aQ hp,hk,Option.bind_some];by_cases hkn:k.name=s
   ·rw [if_pos hkn];congr 1;rw [Bool.eq_iff_iff,decide_eq_true_eq,decide_eq_true_eq];exact ⟨fun h=>⟨h,k,List.mem_of_getElem? hk,hkn⟩,fun h=>h.1⟩
   rw [if_neg hkn];congr 1
   symm
   rw [decide_eq_false_iff_not];rintro ⟨_,k',hk',e'⟩;have:k'=k:=oD hn hk' (List.mem_of_getElem? hk) (e'▸bT k') hs';exact hkn (this▸e')
  rw [if_neg hp,if_neg (by simp)];congr 1
  symm
  rw [decide_eq_false_iff_not];rintro ⟨_,k',hk',e'⟩
  exact IF (by omega) k' hk' (e'▸bT k'))]
 congr 1;unfold qT;rw [Bool.eq_iff_iff,List.all_eq_true,decide_eq_true_eq];exact ⟨fun h s hs=>of_decide_eq_true (h s hs),fun h s hs=>decide_eq_true (h s hs)⟩
theorem e82 {l:List aB} (h:∀ x∈l,dE x.name=true):HT l BS=some (cH (fun a b=>cJ a.name b.name) l):=by
 have h0:HT l BS=AF l BS:=rfl;rw [h0];exact nB _ fun x hx y hy=>by unfold BS;rw [nX];exact tP (fW (h x hx)) (fW (h y hy))
noncomputable def DV (l:List aB):List (aA×Int):=if cY l=0 then dF 0 l else []
theorem RV (l:List aB):qC l=some (DV l,cY l):=by
 have hv:∀ v,cY l=v→qC l=some (if v=0 then dF 0 l else [],v)→qC l=some (DV l,cY l):=by
  rintro v rfl h;rw [h];rfl
 by_cases h1:60 < l.length
 ·refine hv 3 (by unfold cY;rw [if_pos h1]) ?_;unfold qC;rw [if_pos (by omega)];rfl
 by_cases h2:∀ h∈l,Rt h
 ·have hb:l.all DO=true:=List.all_eq_true.2 fun h hh=>rQ.2 (h2 h hh);by_cases h3:(l.flatMap aT).Nodup
  ·have e79':BQ l (fun x0_=>AU x0_ (dF 0 l) l)=some (l.all (qT l)):=by
    have h0:BQ l (fun x0_=>AU x0_ (dF 0 l) l)=zC l (fun x0_=>AU x0_ (dF 0 l) l):=rfl;rw [h0];exact gL (qT l) fun x _=>e79 h3 x
   have hal:l.all (qT l)=true↔qS l:=by
    rw [List.all_eq_true];unfold qT qS;exact ⟨fun h x hx=>of_decide_eq_true (h x hx),fun h x hx=>decide_eq_true (h x hx)⟩
   have base:qC l=((if l.all (qT l) then some (!cH (fun a b:aB=>cJ a.name b.name) l) else some true:Option Bool).bind fun t0=>if t0 then some ([],1) else some (dF 0 l,0)):=by
    unfold qC;rw [if_neg (by omega),e77,Option.bind_some,if_pos hb,AH,if_pos h3];simp only [Option.bind_some];rw [e79',Option.bind_some,e82 (fun x hx=>(h2 x hx).1)];rfl
   by_cases h4:qS l∧BZ l
   ·refine hv 0 (gC.2 ⟨by omega,h2,h3,h4.1,h4.2⟩) ?_;rw [base,if_pos (hal.2 h4.1),jQ.1 h4.2];rfl
   refine hv 1 ?_ ?_
   ·unfold cY;rw [if_neg h1,if_neg (fun h=>h h2),if_neg (fun h=>h h3),if_pos h4]
   rw [base];by_cases ha:l.all (qT l)=true
   ·have hs:cH (fun a b:aB=>cJ a.name b.name) l=false:=by
     rw [← Bool.not_eq_true];intro hc;exact h4 ⟨hal.1 ha,jQ.2 hc⟩
    rw [if_pos ha,hs];rfl
   rw [if_neg ha];rfl
  refine hv 6 ?_ ?_
  ·unfold cY;rw [if_neg h1,if_neg (fun h=>h h2),if_pos h3]
  unfold qC;rw [if_neg (by omega),e77,Option.bind_some,if_pos hb,AH,if_neg h3];rfl
 have hb:l.all DO=false:=by
  rw [← Bool.not_eq_true,List.all_eq_true];intro h;exact h2 fun x hx=>rQ.1 (h x hx)
 refine hv 1 (by unfold cY;rw [if_neg h1,if_pos h2]) ?_;unfold qC;rw [if_neg (by omega),e77,Option.bind_some,hb];rfl
theorem IH {l:List aB} (h:Ix l):DV l=dF 0 l:=by unfold DV;rw [if_pos (gC.2 h)]
end T11
namespace T11
open Go Go.Proofs Pk
section
variable {α σ ε:Type}
theorem PN (l:List α) (g:Nat→α→σ→σ⊕ε) (out:σ→ε) (I:Nat→σ→Prop) {step:σ×Nat→Option ((σ×Nat)⊕ε)}
  (hs:∀ i x a,i < l.length→l[i]?=some x→I i a→step (a,i)=some (match g i x a with | .inl a'=>.inl (a',i+1) | .inr e=>.inr e))
  (hI:∀ i x a a',i < l.length→l[i]?=some x→I i a→g i x a=.inl a'→I (i+1) a')
  (he:∀ a,I l.length a→step (a,l.length)=some (.inr (out a))) {a0:σ} (h0:I 0 a0):aY step (a0,0)=some (BJ g out l 0 a0):=by
 have key:∀ k i a,l.length - i=k→i≤l.length→I i a→aY step (a,i)=some (BJ g out (l.drop i) i a):=by
  intro k
  induction k with
  | zero =>
   intro i a hk hi hIa;obtain rfl:i=l.length:=by omega
   rw [bN (he a hIa),List.drop_length,jL]
  | succ k ih =>
   intro i a hk hi hIa;have hlt:i < l.length:=by omega
   have hx:l[i]?=some l[i]:=List.getElem?_eq_getElem hlt;rw [List.drop_eq_getElem_cons hlt,gY];have h1:=hs i _ a hlt hx hIa
   cases hg:g i l[i] a with
   | inl a' =>
    rw [hg] at h1;rw [cC h1,ih (i+1) a' (by omega) (by omega) (hI i _ a a' hlt hx hIa hg)]
   | inr e =>
    rw [hg] at h1;rw [bN h1]
 have:=key l.length 0 a0 (by omega) (by omega) h0;simpa using this
end
def nD (l:List aA) (n:Nat):Bool:=l.all (fun s=>decide (s.length≤45))&&decide (l.length≤n)
def AI (h:aB):Bool:=decide (h.name.length≤45)&&(nD h.aC 10&&(nD h.aO 10&&decide (h.aG.length≤35)))
def qU (l:List aB) (n:Nat):Bool:=decide (l.length≤n)&&l.all AI
theorem e76 (l:List aA) (n:Nat):RH l (n:Int)=some (nD l n):=by
 unfold RH nD
 rw [iZ (ε:=Unit⊕Bool) l (fun s=>decide (s.length≤45)) (.inr false) (.inl ()) (step:=zK l) (fun i x hi hx=>by
  unfold zK;rw [if_pos (by omega),hx,Option.bind_some];by_cases h:x.length≤45
  ·rw [if_neg (by omega),decide_eq_true h];rfl
  rw [if_pos (by omega),decide_eq_false h];rfl) (by unfold zK;rw [if_neg (by omega)])]
 cases l.all fun s=>decide (s.length≤45) with
 | false=>rfl
 | true =>
  simp only [Option.bind_some,if_true,Bool.true_and];congr 1;rw [Bool.eq_iff_iff,decide_eq_true_eq,decide_eq_true_eq];omega
theorem e49 (l:List aB) (n:Nat):RI l (n:Int)=some (qU l n):=by
 unfold RI qU;by_cases h:l.length≤n
 ·rw [if_neg (by omega),decide_eq_true h]
  rw [iZ (ε:=Unit⊕Bool) l AI (.inr false) (.inl ()) (step:=zL l) (fun i x hi hx=>by
   unfold zL;rw [if_pos (by omega),hx,Option.bind_some];unfold AI;by_cases h1:x.name.length≤45
   ·rw [if_neg (by omega),decide_eq_true h1,show (10:Int)=((10:Nat):Int) from rfl,e76,Option.bind_some]
    cases nD x.aC 10 with
    | false=>rfl
    | true =>
     rw [if_pos rfl,e76,Option.bind_some]
     cases nD x.aO 10 with
     | false=>rfl
     | true =>
      rw [if_pos rfl,Option.bind_some];by_cases h2:x.aG.length≤35
      ·rw [decide_eq_true h2,decide_eq_false (by omega)];rfl
      rw [decide_eq_false h2,decide_eq_true (by omega)];rfl
   rw [if_pos (by omega),decide_eq_false h1];rfl) (by unfold zL;rw [if_neg (by omega)])]
  cases l.all AI <;> rfl
 rw [if_pos (by omega),decide_eq_false h];rfl
def FS (l:List aB):Bool:=qU l 62&&(decide (l.length≤12)||decide (60 < l.length))
theorem e17 (l:List aB):m17 l=some (FS l):=by
 unfold m17 FS;rw [show (62:Int)=((62:Nat):Int) from rfl,e49,Option.bind_some]
 cases qU l 62 with
 | false=>rfl
 | true =>
  rw [if_pos rfl];by_cases h:l.length≤12
  ·rw [if_pos (by omega),decide_eq_true h];rfl
  rw [if_neg (by omega),decide_eq_false h,Option.bind_some];congr 1;simp only [Bool.true_and,Bool.false_or];rw [Bool.eq_iff_iff,decide_eq_true_eq,decide_eq_true_eq];omega
theorem LC {l:List aB} {n:Nat} (h:qU l n=true):l.length≤n∧∀ x∈l,x.aC.length≤10∧x.aO.length≤10∧x.aG.length≤35:=by
 unfold qU at h;rw [Bool.and_eq_true,decide_eq_true_eq,List.all_eq_true] at h;refine ⟨h.1,fun x hx=>?_⟩;have:=h.2 x hx;unfold AI nD at this;simp only [Bool.and_eq_true,decide_eq_true_eq] at this;exact ⟨this.2.1.2,this.2.2.1.2,this.2.2.2⟩
theorem PO {l:List aB} (h:FS l=true):l.length≤62∧∀ x∈l,x.aC.length≤10∧x.aO.length≤10∧x.aG.length≤35:=by
 unfold FS at h;rw [Bool.and_eq_true] at h;exact LC h.1
theorem RW {l:List aA} (h:l.length≤1073741824):RJ l=some l:=by
 unfold RJ;rw [aQ (by simpa using h)];rfl
theorem e24 {l:List aB} (hl:l.length≤1000000) (hx:∀ x∈l,x.aC.length≤1000000∧x.aO.length≤1000000∧x.aG.length≤1000000):KS l=some l:=by
 unfold KS
 rw [kM l (fun x=>x) (fun a=>a) (step:=zN l) (fun i x a hi hxi ha=>by
  have hb:=hx x (List.mem_of_getElem? hxi);unfold zN;rw [if_pos (show (i:Int) < (l.length:Int) by omega),hxi,Option.bind_some,RW (by omega),Option.bind_some,RW (by omega),Option.bind_some]
  rw [kM x.aG (fun p=>p) (fun a=>a) (step:=zM x) (fun j p b hj hp hb'=>by
   unfold zM
   rw [if_pos (show (j:Int) < (x.aG.length:Int) by omega),hp,Option.bind_some,aQ (by simp only;omega)]) (fun b=>by unfold zM;rw [if_neg (by simp)])]
  rw [Option.bind_some,aQ (by simp only;omega)]
  simp only [List.map_id']) (fun a=>by unfold zN;rw [if_neg (by simp)])]
 simp
theorem LD {l:List aB} (h:FS l=true):KS l=some l:=by
 obtain ⟨h1,h2⟩:=PO h;exact e24 (by omega) fun x hx=>by have:=h2 x hx;omega
def LE (v c:Int) (h:aB):Bool:=h.aG.any fun p=>decide (p.aM=v∧p.aV≤c∧c≤p.cM)
theorem DW {v c:Int} {h:aB}:LE v c h=true↔tQ h.aG v c:=by
 unfold LE tQ;rw [List.any_eq_true];simp only [decide_eq_true_eq]
theorem e73 (p:aH) (v c:Int):HV p ⟨v,c⟩=some (decide (p.aM=v∧p.aV≤c∧c≤p.cM)):=by
 unfold HV;by_cases h:p.aM=v
 ·rw [if_pos h,RU];simp [h]
 rw [if_neg h];simp [h]
theorem CD {l:List aB} (hl:l.length≤1000000) (v c:Int):aY (jZ l v c) (0,([]:List aA))=some ((l.filter (LE v c)).map (·.name)):=by
 have h1:=pB l (σ:=List aA) (ε:=List aA) (fun _ x a=>.inl (if LE v c x then a++[x.name] else a)) (fun a=>a) (fun i a=>a.length≤i) (step:=jZ l v c) (fun i x a hi hx ha=>by
  unfold jZ;rw [if_pos (show (i:Int) < (l.length:Int) by omega),hx,Option.bind_some]
  have h2:=mX x.aG (ε:=Unit⊕List aA) (fun _ p=>if p.aM=v∧p.aV≤c∧c≤p.cM then some (.inr (a++[x.name])) else none) (.inl ()) (step:=lD x v c (i,a)) (fun j p hj hp=>by
   unfold lD;rw [if_pos (by omega),hp,Option.bind_some,e73,Option.bind_some];by_cases hc:p.aM=v∧p.aV≤c∧c≤p.cM
   ·rw [if_pos (by simpa using hc),if_pos hc,aQ (by simp only;omega)];rfl
   rw [if_neg (by simpa using hc),if_neg hc]) (by unfold lD;rw [if_neg (by omega)])
  rw [h2]
  cases hs:LE v c x with
  | true =>
   obtain ⟨p,hp,h3⟩:=DW.1 hs;obtain ⟨j,hj⟩:=List.getElem?_of_mem hp
   rw [rS (e:=.inr (a++[x.name])) (fun j p e' h=>by
    split at h
    ·exact (Option.some.inj h).symm
    cases h) ⟨j,p,hj,by rw [if_pos h3];simp⟩]
   rfl
  | false =>
   rw [rR (fun j p hp=>by
    rw [if_neg];intro h3;rw [← Bool.not_eq_true,DW] at hs
    exact hs ⟨p,List.mem_of_getElem? hp,h3⟩)]
   rfl)
  (fun i x a a' hi hx ha hg=>by
   cases hg
   split
   ·simp;omega
   omega)
  (fun a ha=>by unfold jZ;rw [if_neg (by simp)]) (a0:=[]) (by simp)
 rw [h1];congr 1;have:∀ (l:List aB) (i:Nat) (a:List aA),BJ (σ:=List aA) (ε:=List aA) (fun _ x a=>.inl (if LE v c x then a++[x.name] else a)) (fun a=>a) l i a=a++(l.filter (LE v c)).map (·.name):=by
  intro l
  induction l with
  | nil=>intro i a;simp [jL]
  | cons x l ih =>
   intro i a;rw [gY];simp only;rw [ih];by_cases h:LE v c x=true
   ·simp [h]
   simp [h]
 exact this l 0 []
theorem RX {l:List aB} (v c:Int):GB l v c=some (if cY l≠0 then ([],cY l) else if (1≤v∧v≤999)∧1≤c∧c≤9999 then ((l.filter (LE v c)).map (·.name),0) else ([],2)):=by
 unfold GB;rw [RV,Option.bind_some];by_cases h:cY l=0
 ·rw [if_neg (by simpa using h),if_neg (by simpa using h),RU,Option.bind_some];by_cases h1:1≤v∧v≤999
  ·rw [if_pos (by simpa using h1),RU,Option.bind_some,Option.bind_some];by_cases h2:1≤c∧c≤9999
   ·rw [if_neg (by simp;omega),CD (by have:=(gC.1 h).len;omega),if_pos ⟨h1,h2⟩];rfl
   rw [if_pos (by simp;omega),if_neg (fun h=>h2 h.2)]
  rw [if_neg (by simpa using h1),Option.bind_some,if_pos rfl,if_neg (fun h=>h1 h.1)]
 rw [if_pos (by simpa using h),if_pos (by simpa using h)]
noncomputable def II (l:List aB):Bool:=qU l 60&&@decide (Ix l) (Classical.propDecidable _)
theorem RY (l:List aB):m31 l=some (II l):=by
 unfold m31 II;rw [show (60:Int)=((60:Nat):Int) from rfl,e49,Option.bind_some]
 cases qU l 60 with
 | false=>rfl
 | true =>
  rw [if_pos rfl,XW,Option.bind_some,Option.bind_some,Bool.true_and];congr 1;rw [Bool.eq_iff_iff,decide_eq_true_eq,gC];exact (@decide_eq_true_iff _ (Classical.propDecidable _)).symm
end T11
namespace T11
open Go Go.Proofs Pk
theorem e44 (a b:List aA):AW a b=some (decide (a=b)):=by
 have h:AW a b=CX a b:=rfl;rw [h,BM]
theorem e40 (a b:aB):FJ a b=some (decide (a=b)):=by
 unfold FJ;have hd:∀ p q r t:Bool,a.name=b.name→(a.aC=b.aC)→(a.aO=b.aO)→decide (a=b)=decide (a.aG=b.aG):=by
  intro _ _ _ _ h1 h2 h3;cases a;cases b;simp only at h1 h2 h3;subst h1 h2 h3;simp
 by_cases h1:a.name=b.name
 ·rw [if_neg (by simpa using h1),e44,Option.bind_some];by_cases h2:a.aC=b.aC
  ·rw [if_pos (by simpa using h2),e44,Option.bind_some];by_cases h3:a.aO=b.aO
   ·rw [if_pos (by simpa using h3),Option.bind_some,hd true true true true h1 h2 h3];by_cases h4:a.aG.length=b.aG.length
    ·rw [decide_eq_false (by omega),if_neg (by decide)]
     have hz:=iZ (ε:=Unit⊕Bool) (a.aG.zip b.aG) (fun q=>decide (q.1=q.2)) (.inr false) (.inl ()) (step:=lE a b) (fun i x hi hx=>by
      rw [List.length_zip] at hi;rw [List.getElem?_zip_eq_some] at hx;unfold lE;rw [if_pos (by omega),hx.1,Option.bind_some,hx.2,Option.bind_some];by_cases e:x.1=x.2
      ·rw [if_pos e,decide_eq_true e];rfl
      rw [if_neg e,decide_eq_false e];rfl) (by rw [List.length_zip];unfold lE;rw [if_neg (by omega)])
     rw [hz,← wW (fun x y=>decide (x=y)) _ _ h4,wX];by_cases e:a.aG=b.aG
     ·rw [decide_eq_true e];rfl
     rw [decide_eq_false e];rfl
    rw [decide_eq_true (by omega),if_pos rfl,decide_eq_false (fun e=>h4 (by rw [e]))]
   rw [if_neg (by simpa using h3),Option.bind_some,if_pos rfl,decide_eq_false (fun e=>h3 (by rw [e]))]
  rw [if_neg (by simpa using h2),Option.bind_some,if_pos rfl,decide_eq_false (fun e=>h2 (by rw [e]))]
 rw [if_pos (by simpa using h1),Option.bind_some,if_pos rfl,decide_eq_false (fun e=>h1 (by rw [e]))]
theorem e23 (a b:List aB):GC a b=some (decide (a=b)):=by
 have h:GC a b=HI a b FJ:=rfl;rw [h,vD (fun x y=>decide (x=y)) (fun x _ y _=>e40 x y),wX]
def IJ:aB:=⟨[],[],[],[]⟩
theorem e75 {x:aB} (h:x.aC.length≤1000000∧x.aO.length≤1000000∧x.aG.length≤1000000):ZZ x=some x:=by
 unfold ZZ PC TZ;rw [aQ (by simp;omega),Option.bind_some,aQ (by simp;omega),Option.bind_some,aQ (by simp;omega),Option.bind_some];simp
theorem Ix.small {l:List aB} (h:Ix l) {x:aB} (hx:x∈l):x.aC.length≤8∧x.aO.length≤8∧x.aG.length≤30:=h.fits.2 x hx
def MX (l:List aB) (s:aA):aB×Int:=if 0≤oN l s then ((l[(oN l s).toNat]?).getD IJ,0) else (IJ,7)
theorem XX (l:List aB) (s:aA):XI l s=some (if cY l≠0 then (IJ,cY l) else MX l s):=by
 unfold XI;rw [RV,Option.bind_some];by_cases h:cY l=0
 ·have hI:=gC.1 h;rw [IH hI];simp only [h,ne_eq,not_true_eq_false,if_false,DT];unfold MX;by_cases hp:0≤oN l s
  ·obtain ⟨k,hk,_,_⟩:=jD hp;have hb:=hI.small (List.mem_of_getElem? hk);rw [if_pos hp,if_pos hp,if_pos (show (some (oN l s)).isSome=true from rfl)];simp only [Option.getD_some];rw [aQ hp,hk,Option.bind_some,e75 (by omega),Option.bind_some];rfl
  rw [if_neg hp,if_neg hp];rfl
 rw [if_pos (by simpa using h),if_pos (by simpa using h)];rfl
end T11
namespace T11
open Go Go.Proofs Pk
def oF (x:aA) (a:List aA):List aA:=a.filter (fun y=>cJ y x)++x::a.filter (fun y=>!cJ y x)
theorem AJ {x s:aA} {a:List aA}:s∈oF x a↔s=x∨s∈a:=by
 unfold oF;simp only [List.mem_append,List.mem_cons,List.mem_filter,Bool.not_eq_true'];constructor
 ·rintro (⟨h,_⟩ | h | ⟨h,_⟩)
  ·exact .inr h
  ·exact .inl h
  exact .inr h
 rintro (h | h)
 ·exact .inr (.inl h)
 cases hb:cJ s x
 ·exact .inr (.inr ⟨h,rfl⟩)
 exact .inl ⟨h,rfl⟩
theorem qV {x:aA} {a:List aA} (ha:a.Pairwise iE) (hx:x∉a):(oF x a).Pairwise iE:=by
 unfold oF;rw [List.pairwise_append];refine ⟨ha.sublist List.filter_sublist,List.pairwise_cons.2 ⟨fun y hy=>?_,ha.sublist List.filter_sublist⟩,fun y hy z hz=>?_⟩
 ·obtain ⟨h1,h2⟩:=List.mem_filter.1 hy;have hne:y≠x:=fun e=>hx (e▸h1);rcases jO hne with h | h
  ·unfold iE at h;rw [h] at h2;cases h2
  exact h
 obtain ⟨h1,h2⟩:=List.mem_filter.1 hy;rcases List.mem_cons.1 hz with rfl | hz
 ·exact h2
 obtain ⟨h3,h4⟩:=List.mem_filter.1 hz;have hne:z≠x:=fun e=>hx (e▸h3);rcases jO hne with h | h
 ·unfold iE at h;rw [h] at h4;cases h4
 exact gO h2 h
theorem AK {x:aA} (hxl:x.length≤1073741824):∀ (n:Nat) (a b:List aA),a.length=n→n≤1000000000→(∀ y∈a,y.length≤1073741824)→a.Pairwise iE→x∉a→aY vK ((n:Int),a++x::b)=some (oF x a++b)
 | 0,a,b,hn,_,_,_,_=>by
  rw [List.length_eq_zero_iff.1 hn];exact bN (by unfold vK;simp [oF])
 | n+1,a,b,hn,hb,hl,hs,hx=>by
  obtain ⟨a',y,rfl⟩:∃ a' y,a=a'++[y]:=⟨a.dropLast,a.getLast (by intro e;subst e;simp at hn),(List.dropLast_concat_getLast _).symm⟩;have hn':a'.length=n:=by simpa using hn
  have hyl:=hl y (by simp);have hne:y≠x:=fun e=>hx (by simp [e]);obtain ⟨hs1,_,hs2⟩:=List.pairwise_append.1 hs;have g1:(a'++[y]++x::b)[n+1]?=some x:=by
   rw [List.getElem?_append_right (by simp;omega)];simp [hn']
  have g0:(a'++[y]++x::b)[n]?=some y:=by
   rw [List.append_assoc,List.getElem?_append_right (by omega)];simp [hn']
  have s1:(a'++[y]++x::b).set (n+1) y=a'++y::y::b:=by
   rw [List.append_assoc,List.set_append_right _ _ (by omega)];simp [hn',show n+1 - n=1 by omega]
  have s2:(a'++y::y::b).set n x=a'++x::y::b:=by
   rw [List.set_append_right _ _ (by omega)];simp [hn']
  have t1:(((n+1:Nat):Int)).toNat=n+1:=by omega
  have t0:(((n+1:Nat):Int) - 1).toNat=n:=by omega
  have cond:vK (((n+1:Nat):Int),a'++[y]++x::b)=some (if cJ x y then .inl ((n:Int),a'++x::(y::b)) else .inr (a'++[y]++x::b)):=by
   unfold vK;simp only;rw [if_pos (by omega),t1,t0,g1,Option.bind_some,aQ (by omega),g0,Option.bind_some,PK hxl hyl,Option.bind_some,Option.bind_some]
   cases hbf:cJ x y with
   | false=>rfl
   | true =>
    rw [if_pos rfl,aQ (by omega),aQ (by omega),Option.bind_some,aQ (by omega),Option.bind_some,s1];have g2:(a'++y::y::b)[n]?=some y:=by rw [List.getElem?_append_right (by omega)];simp [hn']
    rw [g2,Option.bind_some,s2,show (((n+1:Nat):Int) - 1)=(n:Int) by omega];rfl
  cases hbf:cJ x y with
  | true =>
   rw [hbf,if_pos rfl] at cond;rw [cC cond,AK hxl n a' (y::b) hn' (by omega) (fun z hz=>hl z (by simp [hz])) hs1 (fun h=>hx (by simp [h]))];have hyx:cJ y x=false:=by
    rw [← Bool.not_eq_true];intro h;exact pQ (show iE x y from hbf) h
   unfold oF;simp [List.filter_append,hyx]
  | false =>
   rw [hbf,if_neg (by decide)] at cond;rw [bN cond];have hyx:iE y x:=by
    rcases jO hne with h | h
    ·exact h
    unfold iE at h;rw [hbf] at h;cases h
   have hall:∀ z∈a'++[y],cJ z x=true:=fun z hz=>by
    rcases List.mem_append.1 hz with h | h
    ·exact gO (hs2 z h y (by simp)) hyx
    simp at h;rw [h];exact hyx
   have e1:(a'++[y]).filter (fun z=>cJ z x)=a'++[y]:=List.filter_eq_self.2 hall;have e2:(a'++[y]).filter (fun z=>!cJ z x)=[]:=List.filter_eq_nil_iff.2 fun z hz=>by rw [hall z hz];decide
   unfold oF;rw [e1,e2];simp
def cZ (l:List aA):List aA:=l.foldl (fun out x=>if x∈out then out else oF x out) []
theorem oG:∀ (l out:List aA),out.Pairwise iE→(l.foldl (fun out x=>if x∈out then out else oF x out) out).Pairwise iE∧∀ s,s∈l.foldl (fun out x=>if x∈out then out else oF x out) out↔s∈out∨s∈l
 | [],out,h=>⟨h,by simp⟩
 | x::l,out,h=>by
  simp only [List.foldl_cons];by_cases hx:x∈out
  ·rw [if_pos hx];obtain ⟨h1,h2⟩:=oG l out h;refine ⟨h1,fun s=>?_⟩;rw [h2,List.mem_cons];constructor
   ·rintro (h | h)
    ·exact .inl h
    exact .inr (.inr h)
   rintro (h | h | h)
   ·exact .inl h
   ·exact .inl (h▸hx)
   exact .inr h
  rw [if_neg hx];obtain ⟨h1,h2⟩:=oG l _ (qV h hx);refine ⟨h1,fun s=>?_⟩;rw [h2,AJ,List.mem_cons];constructor
  ·rintro ((h | h) | h)
   ·exact .inr (.inl h)
   ·exact .inl h
   exact .inr (.inr h)
  rintro (h | h | h)
  ·exact .inl (.inr h)
  ·exact .inl (.inl h)
  exact .inr h
theorem fX (l:List aA):(cZ l).Pairwise iE:=(oG l [] List.Pairwise.nil).1
theorem eB {l:List aA} {s:aA}:s∈cZ l↔s∈l:=by
 have:=(oG l [] List.Pairwise.nil).2 s;unfold cZ;rw [this];simp
theorem IK (x:aA) (a:List aA):(oF x a).length=a.length+1:=by
 unfold oF;rw [List.length_append,List.length_cons];have:∀ a:List aA,(a.filter fun y=>cJ y x).length+(a.filter fun y=>!cJ y x).length=a.length:=by
  intro a
  induction a with
  | nil=>rfl
  | cons y a ih =>
   cases h:cJ y x <;> simp [h] <;> omega
 have:=this a;omega
theorem e38 {l:List aA} (hl:l.length≤1000000) (hb:∀ s∈l,s.length≤1073741824):TX l=some (cZ l):=by
 unfold TX
 have h1:=fL l (σ:=List aA) (ε:=List aA) (fun out x=>if x∈out then out else oF x out) (fun a=>a) (fun i out=>out.length≤i∧out.Pairwise iE∧∀ s∈out,s.length≤1073741824) (step:=zU l) (fun i x out hi hx hI=>by
  unfold zU;rw [if_pos (show (i:Int) < (l.length:Int) by omega),hx,Option.bind_some,PL,Option.bind_some];by_cases h:x∈out
  ·rw [if_pos (by simpa using h),if_pos h];rfl
  ·have hn:(((out++[x]).length:Int) - 1)=((out.length:Nat):Int):=by simp
   rw [if_neg (by simpa using h),if_neg h,aQ (by simp only;omega)];simp only;rw [hn,AK (hb x (List.mem_of_getElem? hx)) out.length out [] rfl (by omega) hI.2.2 hI.2.1 h]
   simp)
  (fun i x out hi hx hI=>by
   by_cases h:x∈out
   ·rw [if_pos h];exact ⟨by omega,hI.2⟩
   rw [if_neg h];refine ⟨by rw [IK];omega,qV hI.2.1 h,fun s hs=>?_⟩;rcases AJ.1 hs with rfl | hs
   ·exact hb _ (List.mem_of_getElem? hx)
   exact hI.2.2 s hs)
  (fun out hI=>by unfold zU;rw [if_neg (by simp)]) (a0:=[]) ⟨by simp,List.Pairwise.nil,by simp⟩
 rw [h1];rfl
end T11
namespace T11
open Go Go.Proofs Pk
section
variable {α:Type}
theorem DX {f:α→α→Option Int} {l:List α} (h:gE f l):∃ l1,pA f l l1:=by
 refine ⟨(l.attach.mergeSort fun a b=>!dY f b.1 a.1).map (·.1),?_,?_⟩
 ·have:=(List.mergeSort_perm l.attach fun a b=>!dY f b.1 a.1).map (fun u:{u // u∈l}=>u.1)
  rwa [List.attach_map_subtype_val] at this
 rw [List.pairwise_map];refine (List.pairwise_mergeSort (fun a b c h1 h2=>?_) (fun a b=>?_) _).imp fun h=>by simpa using h
 ·simp only [Bool.not_eq_true'] at *;exact h.nt _ c.2 _ b.2 _ a.2 h2 h1
 simp only [Bool.or_eq_true,Bool.not_eq_true']
 cases h3:dY f b.1 a.1 with
 | false=>exact .inl rfl
 | true =>
  right
  cases h4:dY f a.1 b.1 with
  | false=>rfl
  | true=>have:=h.tr _ a.2 _ b.2 _ a.2 h4 h3;rw [h.irr _ a.2] at this;cases this
theorem AL {f:α→α→Option Int} {l:List α} (h:iP f l):∃ l1,fU f l=some l1∧l1.Perm l∧l1.Pairwise fun x y=>dY f y x=false:=by
 obtain ⟨l1,h1⟩:=DX h.weak;exact ⟨l1,pC h h1.1 h1.2,h1.1,h1.2⟩
end
theorem qW {a b:aA} (ha:a.length≤1073741824) (hb:b.length≤1073741824):dY pJ a b=cJ a b:=by
 unfold dY cJ;rw [XU ha hb]
theorem MY {l:List aA} (hl:l.length≤1073741824) (hb:∀ s∈l,s.length≤1073741824):iP pJ l :=
  ⟨hl,fun x hx y hy=>⟨_,XU (hb x hx) (hb y hy)⟩,fun x hx=>by rw [qW (hb x hx) (hb x hx)];exact AB x,
   fun x hx y hy z hz h1 h2=>by rw [qW (hb x hx) (hb y hy)] at h1;rw [qW (hb y hy) (hb z hz)] at h2;rw [qW (hb x hx) (hb z hz)];exact jN h1 h2,
   fun x hx y hy h1 h2=>by
    rw [qW (hb x hx) (hb y hy)] at h1;rw [qW (hb y hy) (hb x hx)] at h2;apply Classical.byContradiction;intro e
    rw [AC e,h1] at h2;cases h2⟩
theorem CE {l:List aA} (h:l.Pairwise fun x y=>¬iE y x):(Lib.compact l).Pairwise iE∧∀ s,s∈Lib.compact l↔s∈l:=by
 have hp:=List.pairwise_iff_getElem.1 h;have key:∀ m,m≤l.length→(Lib.compactUpTo l.toArray m).Pairwise iE∧∀ s,s∈Lib.compactUpTo l.toArray m↔∃ j,∃ (hj:j < l.length),j < m∧l[j]=s:=by
  intro m
  induction m with
  | zero=>intro _;exact ⟨List.Pairwise.nil,fun s=>by simp [Lib.compactUpTo]⟩
  | succ m ih =>
   intro hm;obtain ⟨h1,h2⟩:=ih (by omega);have g:∀ j,(hj:j < l.length)→l.toArray[j]! = l[j]:=fun j hj=>by
    rw [getElem!_pos l.toArray j (by simpa using hj)];simp
   rw [Lib.compactUpTo_succ];by_cases hk:Lib.keeps l.toArray m=true
   ·rw [if_pos hk,g m (by omega)];have hne:m=0∨l[m]≠l[m - 1]:=by
     unfold Lib.keeps at hk;simp only [decide_eq_true_eq] at hk;rcases hk with h | h
     ·exact .inl h
     rw [g m (by omega),g (m - 1) (by omega)] at h;exact .inr h
    refine ⟨?_,fun s=>?_⟩
    ·rw [List.pairwise_append];refine ⟨h1,by simp,fun a ha b hb=>?_⟩;simp at hb;subst hb;obtain ⟨j,hj,hjm,rfl⟩:=(h2 a).1 ha;have hle:=hp j m hj (by omega) hjm;by_cases e:l[j]=l[m]
     ·exfalso;rcases hne with h0 | h0
      ·omega
      have hjn:j≠m - 1:=fun e2=>h0 (by subst e2;exact e.symm);have h3:=hp j (m - 1) hj (by omega) (by omega);have h4:=hp (m - 1) m (by omega) (by omega) (by omega);rcases jO h0 with h5 | h5
      ·exact h4 h5
      rw [← e] at h5;exact h3 h5
     rcases jO e with h5 | h5
     ·exact h5
     exact (hle h5).elim
    rw [List.mem_append,h2];simp only [List.mem_singleton];constructor
    ·rintro (⟨j,hj,hjm,e⟩ | e)
     ·exact ⟨j,hj,by omega,e⟩
     exact ⟨m,by omega,by omega,e.symm⟩
    rintro ⟨j,hj,hjm,e⟩;by_cases hjm2:j < m
    ·exact .inl ⟨j,hj,hjm2,e⟩
    have:j=m:=by omega
    subst this;exact .inr e.symm
   rw [if_neg hk,List.append_nil];refine ⟨h1,fun s=>?_⟩;rw [h2];have hm0:m≠0:=fun e=>hk (by unfold Lib.keeps;simp [e]);have he:l[m]=l[m - 1]:=by
    apply Classical.byContradiction;intro hne;apply hk;unfold Lib.keeps;rw [g m (by omega),g (m - 1) (by omega)];simp [hne]
   constructor
   ·rintro ⟨j,hj,hjm,e⟩;exact ⟨j,hj,by omega,e⟩
   rintro ⟨j,hj,hjm,e⟩;by_cases hjm2:j < m
   ·exact ⟨j,hj,hjm2,e⟩
   have:j=m:=by omega
   subst this;exact ⟨j - 1,by omega,by omega,by rw [← he];exact e⟩
 obtain ⟨h1,h2⟩:=key l.length (Nat.le_refl _);refine ⟨h1,fun s=>?_⟩;show s∈Lib.compactUpTo l.toArray l.length↔s∈l;rw [h2,List.mem_iff_getElem];constructor
 ·rintro ⟨j,hj,_,e⟩;exact ⟨j,hj,e⟩
 rintro ⟨j,hj,e⟩;exact ⟨j,hj,hj,e⟩
theorem e56 {but:aA} {L:List (List aA)} (hl:L.flatten.length≤1000000) (hL:L.length≤1000) (hb:∀ s∈L.flatten,s.length≤1073741824) :
  ∃ r,BT but L=some r∧r.Pairwise iE∧∀ s,s∈r↔s≠but∧s∈L.flatten:=by
 have hpre:∀ i,(L.take i).flatten.length≤L.flatten.length:=fun i=>by
  conv=>rhs;rw [← List.take_append_drop i L,List.flatten_append,List.length_append]
  omega
 have hnext:∀ {i:Nat} {x:List aA},L[i]?=some x→(L.take (i+1)).flatten=(L.take i).flatten++x:=fun {i x} hx=>by
  rw [List.take_add_one,hx];simp
 have h1:=PN L (σ:=Nat) (ε:=Nat) (fun _ x n=>.inl (n+x.length)) (fun n=>n) (fun i n=>n=(L.take i).flatten.length) (step:=kW L) (fun i x n hi hx hn=>by
  unfold kW;have:=hpre (i+1);rw [hnext hx,List.length_append] at this;simp only
  rw [if_pos (by omega),hx,Option.bind_some,aQ (by omega),if_neg (by omega)])
  (fun i x n n' hi hx hn hg=>by cases hg;rw [hnext hx,List.length_append,hn])
  (fun n hn=>by unfold kW;simp) (a0:=0) (by simp)
 have g1:∀ (l:List (List aA)) (i n:Nat),BJ (σ:=Nat) (ε:=Nat) (fun _ x n=>.inl (n+x.length)) (fun n=>n) l i n=n+l.flatten.length:=by
  intro l
  induction l with
  | nil=>intro i n;simp [jL]
  | cons x l ih=>intro i n;rw [gY];simp only;rw [ih];simp;omega
 rw [g1] at h1
 have h2:=fL L (σ:=List aA) (ε:=List aA) (fun a x=>a++x) (fun a=>a) (fun i a=>a=(L.take i).flatten) (step:=kX L) (fun i x a hi hx ha=>by
  unfold kX;have:=hpre (i+1);rw [hnext hx,List.length_append] at this;simp only
  rw [if_pos (by omega),hx,Option.bind_some,aQ (by rw [ha];omega)])
  (fun i x a hi hx ha=>by rw [hnext hx,ha])
  (fun a ha=>by unfold kX;simp) (a0:=[]) (by simp)
 have g2:∀ (l:List (List aA)) (a:List aA),l.foldl (fun a x=>a++x) a=a++l.flatten:=by
  intro l
  induction l with
  | nil=>intro a;simp
  | cons x l ih=>intro a;rw [List.foldl_cons,ih];simp
 rw [g2,List.nil_append] at h2;obtain ⟨l1,h3,h4,h5⟩:=AL (MY (l:=L.flatten) (by omega) hb);have h6:l1.Pairwise fun x y=>¬iE y x:=h5.imp_of_mem fun {x y} hx hy h=>by
  rw [qW (hb y (h4.subset hy)) (hb x (h4.subset hx))] at h;unfold iE;rw [h];decide
 obtain ⟨c1,c2⟩:=CE h6;refine ⟨(Lib.compact l1).filter fun x=>!decide (x=but),?_,c1.sublist List.filter_sublist,fun s=>?_⟩
 ·unfold BT;rw [h1,Option.bind_some,aQ (by omega),h2];simp only [Option.bind_some];rw [h3,Option.bind_some]
 rw [List.mem_filter,c2,h4.mem_iff];simp only [Bool.not_eq_true',decide_eq_false_iff_not];exact and_comm
def FT:List aA→aA
 | []=>[]
 | x::l=>l.foldl (fun a y=>if cJ y a then y else a) x
theorem lX:∀ (l:List aA) (a:aA),(l.foldl (fun a y=>if cJ y a then y else a) a=a∨l.foldl (fun a y=>if cJ y a then y else a) a∈l)∧(a=l.foldl (fun a y=>if cJ y a then y else a) a∨iE (l.foldl (fun a y=>if cJ y a then y else a) a) a)∧∀ t∈l,t=l.foldl (fun a y=>if cJ y a then y else a) a∨iE (l.foldl (fun a y=>if cJ y a then y else a) a) t
 | [],a=>⟨.inl rfl,.inl rfl,by simp⟩
 | y::l,a=>by
  simp only [List.foldl_cons];obtain ⟨h1,h2,h3⟩:=lX l (if cJ y a then y else a);generalize hr:l.foldl (fun a y=>if cJ y a then y else a) (if cJ y a then y else a)=r at *;by_cases hb:cJ y a=true
  ·rw [if_pos hb] at h1 h2;refine ⟨.inr ?_,.inr ?_,fun t ht=>?_⟩
   ·rcases h1 with h | h
    ·rw [h];exact List.mem_cons_self
    exact List.mem_cons_of_mem _ h
   ·rcases h2 with h | h
    ·rw [← h];exact hb
    exact gO h hb
   rcases List.mem_cons.1 ht with rfl | ht
   ·exact h2
   exact h3 t ht
  rw [if_neg hb] at h1 h2;refine ⟨h1.imp id (List.mem_cons_of_mem _),h2,fun t ht=>?_⟩;rcases List.mem_cons.1 ht with rfl | ht
  ·by_cases e:t=a
   ·rw [e];exact h2
   have hat:iE a t:=by
    rcases jO e with h | h
    ·exact absurd h hb
    exact h
   rcases h2 with h | h
   ·rw [← h];exact .inr hat
   exact .inr (gO h hat)
  exact h3 t ht
theorem IL {l:List aA} (h:l≠[]):FT l∈l:=by
 cases l with
 | nil=>exact absurd rfl h
 | cons x l =>
  rcases (lX l x).1 with h | h
  ·show l.foldl _ x∈_;rw [h];exact List.mem_cons_self
  exact List.mem_cons_of_mem _ h
theorem LF {l:List aA} {t:aA} (h:t∈l):t=FT l∨iE (FT l) t:=by
 cases l with
 | nil=>cases h
 | cons x l =>
  rcases List.mem_cons.1 h with rfl | h
  ·exact (lX l t).2.1
  exact (lX l x).2.2 t h
theorem RZ {l:List aA} (h:l≠[]) (hb:∀ s∈l,s.length≤1073741824):HU l pJ=some (FT l):=by
 obtain ⟨x,l,rfl⟩:∃ x l',l=x::l':=by cases l with
  | nil=>exact absurd rfl h
  | cons x l=>exact ⟨x,l,rfl⟩
 unfold HU;rw [if_neg (by simp;omega)];simp only [List.getElem?_cons_zero,Option.bind_some];have key:∀ k i a,(x::l).length - i=k→i≤(x::l).length→1≤i→a.length≤1073741824→aY (jY (x::l) pJ) (i,a)=some (((x::l).drop i).foldl (fun a y=>if cJ y a then y else a) a):=by
  intro k
  induction k with
  | zero =>
   intro i a hk hi _ _;obtain rfl:i=(x::l).length:=by omega
   rw [List.drop_length];exact bN (by unfold jY;simp)
  | succ k ih =>
   intro i a hk hi h1 ha;have hlt:i < (x::l).length:=by omega
   have hy:(x::l)[i]?=some (x::l)[i]:=List.getElem?_eq_getElem hlt;have hyl:=hb _ (List.getElem_mem hlt);have hs:jY (x::l) pJ (i,a)=some (.inl (i+1,if cJ (x::l)[i] a then (x::l)[i] else a)):=by
    unfold jY;simp only;rw [if_pos (by omega),hy,Option.bind_some,XU hyl ha,Option.bind_some];unfold cJ;by_cases hc:lI (x::l)[i] a < 0
    ·rw [if_pos hc,if_pos (by simpa using hc)];rfl
    rw [if_neg hc,if_neg (by simpa using hc)];rfl
   rw [cC hs,List.drop_eq_getElem_cons hlt,List.foldl_cons];exact ih (i+1) _ (by omega) (by omega) (by omega) (by split <;> assumption)
 rw [key l.length 1 x (by simp) (by simp) (Nat.le_refl _) (hb x List.mem_cons_self)];rfl
def JF (a b:aH):Bool:=decide (a.aM < b.aM∨a.aM=b.aM∧a.aV < b.aV)
theorem e95 {a b:aH} (ha:fG a) (hb:fG b):∃ c,DG a b=some c∧(decide (c < 0))=JF a b:=by
 unfold fG at ha hb;unfold DG;rw [aQ (by omega),aQ (by omega),e86,Option.bind_some];refine ⟨_,rfl,?_⟩;unfold JF;rw [Bool.eq_iff_iff,decide_eq_true_eq,decide_eq_true_eq];by_cases h:a.aM - b.aM=0
 ·rw [if_neg (by simpa using h)];omega
 rw [if_pos h];omega
theorem qX {a b:aH} (ha:fG a) (hb:fG b):dY DG a b=JF a b:=by
 obtain ⟨c,h1,h2⟩:=e95 ha hb;unfold dY;rw [h1];exact h2
theorem DY {a b:aH}:JF a b=true↔(a.aM < b.aM∨a.aM=b.aM∧a.aV < b.aV):=by unfold JF;exact decide_eq_true_iff
theorem AM {a b:aH}:JF a b=false↔¬(a.aM < b.aM∨a.aM=b.aM∧a.aV < b.aV):=by rw [← Bool.not_eq_true,DY]
theorem VF {l:List aH} (hl:l.length≤1073741824) (ho:∀ p∈l,fG p):gE DG l :=
  ⟨hl,fun x hx y hy=>let ⟨c,h,_⟩:=e95 (ho x hx) (ho y hy);⟨c,h⟩,fun x hx=>by rw [qX (ho x hx) (ho x hx),AM];omega,
   fun x hx y hy z hz h1 h2=>by rw [qX (ho x hx) (ho y hy),DY] at h1;rw [qX (ho y hy) (ho z hz),DY] at h2;rw [qX (ho x hx) (ho z hz),DY];omega,
   fun x hx y hy z hz h1 h2=>by rw [qX (ho x hx) (ho y hy),AM] at h1;rw [qX (ho y hy) (ho z hz),AM] at h2;rw [qX (ho x hx) (ho z hz),AM];omega⟩
def VG (st:Int×Int×Int×List aH) (p:aH):Int×Int×Int×List aH :=
 if st.2.2.2=[]∨eP ⟨st.1,st.2.1,st.2.2.1⟩ p then (p.aM,p.aV,p.cM,st.2.2.2++[p]) else (st.1,st.2.1,max st.2.2.1 p.cM,st.2.2.2.dropLast++[⟨st.1,st.2.1,max st.2.2.1 p.cM⟩])
structure JP (l1:List aH) (i:Nat) (st:Int×Int×Int×List aH):Prop where
 nm:mM st.2.2.2
 cs:∀ v c,tQ st.2.2.2 v c↔tQ (l1.take i) v c
 last:st.2.2.2=[]∧i=0∧(st.1,st.2.1,st.2.2.1)=(0,0,0)∨st.2.2.2.getLast?=some ⟨st.1,st.2.1,st.2.2.1⟩∧∀ p∈l1.drop i,st.1 < p.aM∨st.1=p.aM∧st.2.1≤p.aV
 len:st.2.2.2.length≤i
theorem lJ {l:List aH} {p:aH} {v c:Int}:tQ (l++[p]) v c↔tQ l v c∨p.aM=v∧p.aV≤c∧c≤p.cM:=by
 rw [BY];refine or_congr_right ?_;unfold tQ;simp
theorem JP.step {l1:List aH} (ho:∀ p∈l1,fG p) (hs:l1.Pairwise fun x y=>JF y x=false) {i:Nat} {p:aH} {st:Int×Int×Int×List aH} (hp:l1[i]?=some p) (h:JP l1 i st):JP l1 (i+1) (VG st p):=by
 obtain ⟨lv,lf,lt,out⟩:=st;have hpm:=List.mem_of_getElem? hp;have hop:=ho p hpm;have hlt:=(List.getElem?_eq_some_iff.1 hp).1;have htake:l1.take (i+1)=l1.take i++[p]:=by rw [List.take_add_one,hp];rfl
 have hdrop:l1.drop i=p::l1.drop (i+1):=by
  rw [List.drop_eq_getElem_cons hlt];congr 1;rw [List.getElem?_eq_getElem hlt] at hp;exact Option.some.inj hp
 have hrest:∀ q∈l1.drop (i+1),p.aM < q.aM∨p.aM=q.aM∧p.aV≤q.aV:=fun q hq=>by
  have h1:(p::l1.drop (i+1)).Pairwise fun x y=>JF y x=false:=by rw [← hdrop];exact hs.sublist (List.drop_sublist _ _)
  have:=(List.pairwise_cons.1 h1).1 q hq;rw [AM] at this;omega
 have hnm:=h.nm;have hcs:=h.cs;have hlast:=h.last;have hlen:=h.len;simp only at hnm hcs hlast hlen;unfold VG;simp only;by_cases hc:out=[]∨eP ⟨lv,lf,lt⟩ p
 ·rw [if_pos hc];refine ⟨⟨fun q hq=>?_,?_⟩,fun v c=>?_,.inr ⟨by simp,hrest⟩,by simp;omega⟩
  ·rcases List.mem_append.1 hq with hq | hq
   ·exact hnm.ok q hq
   simp at hq;subst hq;exact hop
  ·rw [List.pairwise_append];refine ⟨hnm.gap,by simp,fun a ha b hb=>?_⟩;simp at hb;subst hb;rcases hc with e | hg
   ·rw [e] at ha;cases ha
   rcases hlast with ⟨e,_⟩ | ⟨hl,_⟩
   ·rw [e] at ha;cases ha
   have hlm:=List.mem_of_getLast? hl;rcases oB hnm.gap a ha _ hlm with e | h1 | h1
   ·rw [e];exact hg
   ·exact tT (hnm.ok _ hlm) h1 hg
   exfalso;obtain ⟨ini,e⟩:∃ ini,out=ini++[⟨lv,lf,lt⟩]:=by
    rw [List.getLast?_eq_some_iff] at hl;exact hl
   rw [e] at ha;rcases List.mem_append.1 ha with ha | ha
   ·have h2:=hnm.gap;rw [e,List.pairwise_append] at h2;have h3:=h2.2.2 a ha _ (List.mem_singleton.2 rfl);have:=hnm.ok a (by rw [e];exact List.mem_append_left _ ha);have:=hnm.ok _ hlm;unfold eP at h1 h3;unfold fG at *;omega
   simp at ha;subst ha;have:=hnm.ok _ hlm;unfold eP at h1;unfold fG at this;omega
  rw [lJ,hcs,htake,lJ]
 rw [if_neg hc];simp only [not_or] at hc;rcases hlast with ⟨e,_⟩ | ⟨hl,hord⟩
 ·exact absurd e hc.1
 obtain ⟨ini,e⟩:∃ ini,out=ini++[⟨lv,lf,lt⟩]:=by
  rw [List.getLast?_eq_some_iff] at hl;exact hl
 have hord':=hord p (by rw [hdrop];exact List.mem_cons_self);have hlm:=List.mem_of_getLast? hl;have hol:=hnm.ok _ hlm;have hng:=hc.2;unfold eP at hng;unfold fG at hol hop;simp only at hng hol;have ed:out.dropLast=ini:=by rw [e,List.dropLast_concat]
 rw [ed];refine ⟨⟨fun q hq=>?_,?_⟩,fun v c=>?_,.inr ⟨by simp,fun q hq=>?_⟩,by rw [e] at hlen;simp at hlen ⊢;omega⟩
 ·rcases List.mem_append.1 hq with hq | hq
  ·exact hnm.ok q (by rw [e];exact List.mem_append_left _ hq)
  simp at hq;subst hq;unfold fG;simp only;omega
 ·have h2:=hnm.gap;rw [e,List.pairwise_append] at h2;rw [List.pairwise_append];refine ⟨h2.1,by simp,fun a ha b hb=>?_⟩;simp at hb;subst hb;have h3:=h2.2.2 a ha _ (List.mem_singleton.2 rfl);unfold eP at h3 ⊢;exact h3
 ·have h4:=hcs v c;rw [e,lJ] at h4;rw [lJ,htake,lJ,← h4];simp only;constructor
  ·rintro (h | h)
   ·exact .inl (.inl h)
   by_cases hcc:c≤lt
   ·exact .inl (.inr (by omega))
   exact .inr (by omega)
  rintro ((h | h) | h)
  ·exact .inl h
  ·exact .inr (by omega)
  exact .inr (by omega)
 have:=hrest q hq;simp only;omega
theorem CF {l0 l1:List aH} (hlen:l1.length=l0.length) (hl:l1.length≤1000000) (ho:∀ p∈l1,fG p) (hs:l1.Pairwise fun x y=>JF y x=false) :
  ∃ st,aY (gG l0 l1) (0,0,0,0,([]:List aH))=some st∧JP l1 l1.length st:=by
 have h1:=fL l1 (σ:=Int×Int×Int×List aH) (ε:=Int×Int×Int×List aH) VG (fun st=>(st.1,st.2.1,st.2.2.1,st.2.2.2)) (JP l1) (step:=gG l0 l1) (fun i p st hi hp hI=>by
  obtain ⟨lv,lf,lt,out⟩:=st;have hop:=ho p (List.mem_of_getElem? hp);unfold gG;simp only;rw [if_pos (by omega),hp,Option.bind_some];unfold VG;simp only;have hlen2:=hI.len;simp only at hlen2;rcases hI.last with ⟨e1,e2,e3⟩ | ⟨hlast,hord⟩
  ·simp only at e1 e2 e3;cases e3;subst e1;rw [if_pos rfl,Option.bind_some,if_neg (by decide),aQ (by simp),Option.bind_some,aQ (by simp)];simp
  ·simp only at hlast hord;have hlm:=List.mem_of_getLast? hlast;have hol:=hI.nm.ok _ hlm;have hne:out≠[]:=fun e=>by rw [e] at hlm;cases hlm
   have hpos:0 < out.length:=List.length_pos_iff.2 hne;have hz:¬((⟨lv,lf,lt⟩:aH)=⟨0,0,0⟩):=fun e=>by
    have:=congrArg aH.aM e;unfold fG at hol;simp only at this hol;omega
   have hgl:out[out.length - 1]?=some ⟨lv,lf,lt⟩:=by rw [← List.getLast?_eq_getElem?];exact hlast
   rw [if_neg hz,e96 _ hol,Option.bind_some,Option.bind_some];by_cases hg:eP ⟨lv,lf,lt⟩ p
   ·rw [gD.2 hg,if_neg (by decide),aQ (by omega),Option.bind_some,aQ (by simp),if_pos (.inr hg)];simp
   rw [CA hg,if_pos (show (!false)=true from rfl),aQ (by omega),show ((out.length:Int) - 1).toNat=out.length - 1 by omega,hgl,Option.bind_some,Option.bind_some,aQ (by simp;omega),if_neg (by simp only [not_or];exact ⟨hne,hg⟩)];have e4:(((out.set (out.length - 1) ⟨lv,lf,max lt p.cM⟩).length:Int) - 1).toNat=out.length - 1:=by simp
   rw [e4,List.getElem?_set_self (by omega),Option.bind_some];congr 4;obtain ⟨ini,e⟩:∃ ini,out=ini++[⟨lv,lf,lt⟩]:=by
    rw [List.getLast?_eq_some_iff] at hlast;exact hlast
   rw [e];simp)
  (fun i p st hi hp hI=>hI.step ho hs hp)
  (fun st hI=>by unfold gG;simp only;rw [if_neg (by omega)]) (a0:=(0,0,0,[])) ⟨⟨by simp,List.Pairwise.nil⟩,by simp,.inl ⟨rfl,rfl,rfl⟩,by simp⟩
 refine ⟨_,h1,?_⟩;have inv:∀ k i st,l1.length - i=k→i≤l1.length→JP l1 i st→JP l1 l1.length ((l1.drop i).foldl VG st):=by
  intro k
  induction k with
  | zero =>
   intro i st hk hi hI;obtain rfl:i=l1.length:=by omega
   rw [List.drop_length];exact hI
  | succ k ih =>
   intro i st hk hi hI;have hlt:i < l1.length:=by omega
   rw [List.drop_eq_getElem_cons hlt,List.foldl_cons];exact ih (i+1) _ (by omega) (by omega) (hI.step ho hs (List.getElem?_eq_getElem hlt))
 have:=inv l1.length 0 (0,0,0,[]) (by omega) (by omega) ⟨⟨by simp,List.Pairwise.nil⟩,by simp,.inl ⟨rfl,rfl,rfl⟩,by simp⟩;simpa using this
theorem e57 {l:List aH} (hl:l.length≤1000000) (ho:∀ p∈l,fG p):∃ r,AV l=some r∧mM r∧∀ v c,tQ r v c↔tQ l v c:=by
 have hok:=VF (l:=l) (by omega) ho;have run:∀ l1,pA DG l l1→∃ r,((aY (gG l l1) (0,0,0,0,([]:List aH))).bind fun eA1=>some eA1.2.2.2)=some r∧mM r∧∀ v c,tQ r v c↔tQ l v c:=by
  intro l1 h1;have ho1:∀ p∈l1,fG p:=fun p hp=>ho p (h1.1.subset hp);have hs1:l1.Pairwise fun x y=>JF y x=false:=h1.2.imp_of_mem fun {x y} hx hy h=>by rwa [qX (ho1 y hy) (ho1 x hx)] at h
  obtain ⟨st,h2,h3⟩:=CF (l0:=l) h1.1.length_eq (by rw [h1.1.length_eq];exact hl) ho1 hs1;refine ⟨st.2.2.2,by rw [h2];rfl,h3.nm,fun v c=>?_⟩;rw [h3.cs,List.take_length];unfold tQ;exact ⟨fun ⟨p,hp,h⟩=>⟨p,h1.1.mem_iff.1 hp,h⟩,fun ⟨p,hp,h⟩=>⟨p,h1.1.mem_iff.2 hp,h⟩⟩
 obtain ⟨l1,h1⟩:=DX hok;obtain ⟨r,hr1,hr2,hr3⟩:=run l1 h1;refine ⟨r,?_,hr2,hr3⟩;unfold AV;refine zE hok fun l2 h2=>?_;obtain ⟨r',q1,q2,q3⟩:=run l2 h2;rw [q1,AE q2 hr2 fun v c=>by rw [q3,hr3]]
def UF (lk:List (aA×aA)) (R:aA→aA) (d:aA→Nat):Prop:=∀ s,(lkp lk s=none→R s=s)∧∀ o,lkp lk s=some o→(o=s→R s=s)∧(o≠s→R s=R o∧d o < d s)
theorem iK {α:Type}:∀ (m:List (aA×α)) (k s:aA) (v:α),lkp (put m k v) s=if s=k then some v else lkp m s
 | [],k,s,v=>by simp [put,lkp]
 | (q,w)::m,k,s,v=>by
  unfold put;by_cases h:k=q
  ·rw [if_pos h];subst h;simp only [lkp];by_cases h2:s=k <;> simp [h2]
  rw [if_neg h];simp only [lkp,iK m k s v];by_cases h2:s=q
  ·have:s≠k:=fun e=>h (e.symm.trans h2);subst h2;simp [this]
  simp [h2]
section
variable {lk:List (aA×aA)} {R:aA→aA} {d:aA→Nat}
theorem UF.run (h:UF lk R d):∀ (n:Nat) (s:aA),d s < n→jB n s lk=some (R s)
 | 0,s,hn=>by omega
 | n+1,s,hn=>by
  unfold jB
  cases hl:lkp lk s with
  | none=>simp [(h s).1 hl]
  | some o =>
   by_cases e:o=s
   ·simp [e,((h s).2 o hl).1 e]
   obtain ⟨h1,h2⟩:=((h s).2 o hl).2 e;simp [e,UF.run h n o (by omega),h1]
theorem UF.only (h:UF lk R d):∀ (n:Nat) (s r:aA),jB n s lk=some r→r=R s
 | 0,s,r,hr=>by cases hr
 | n+1,s,r,hr=>by
  unfold jB at hr
  cases hl:lkp lk s with
  | none=>rw [hl] at hr;simp at hr;rw [(h s).1 hl,hr]
  | some o =>
   rw [hl] at hr;by_cases e:o=s
   ·simp [e] at hr;rw [((h s).2 o hl).1 e,hr]
   obtain ⟨h1,h2⟩:=((h s).2 o hl).2 e;simp only [Option.isSome_some,if_true,Option.getD_some,ne_eq,e,not_false_eq_true,decide_true,Option.bind_some] at hr;rw [nX] at hr;rw [UF.only h n o r hr,h1]
theorem UF.e53 (h:UF lk R d) (s:aA):uP lk s=some (R s):=by
 unfold uP OV;rw [nX];exact wK (d s+1) (h.run (d s+1) s (by omega)) fun m r hr=>h.only m s r hr
theorem UF.idem (h:UF lk R d) (s:aA):R (R s)=R s:=by
 have key:∀ n s,d s≤n→R (R s)=R s:=by
  intro n
  induction n with
  | zero =>
   intro s hs
   cases hl:lkp lk s with
   | none=>rw [(h s).1 hl];exact (h s).1 hl
   | some o =>
    by_cases e:o=s
    ·rw [((h s).2 o hl).1 e];exact ((h s).2 o hl).1 e
    have:=(((h s).2 o hl).2 e).2;omega
  | succ n ih =>
   intro s hs
   cases hl:lkp lk s with
   | none=>rw [(h s).1 hl];exact (h s).1 hl
   | some o =>
    by_cases e:o=s
    ·rw [((h s).2 o hl).1 e];exact ((h s).2 o hl).1 e
    obtain ⟨h1,h2⟩:=((h s).2 o hl).2 e;rw [h1];exact ih o (by omega)
 exact key (d s) s (Nat.le_refl _)
theorem UF.join (h:UF lk R d) (a b:aA):∃ d',UF (put lk (R a) (R b)) (fun x=>if R x=R a then R b else R x) d':=by
 by_cases e:R a=R b
 ·refine ⟨d,fun s=>?_⟩;have hR:∀ x,(if R x=R a then R b else R x)=R x:=fun x=>by
   by_cases hx:R x=R a
   ·rw [if_pos hx,← e,hx]
   rw [if_neg hx]
  simp only [hR,iK];by_cases hs:s=R a
  ·rw [if_pos hs];refine ⟨fun h=>(by cases h),fun o ho=>?_⟩;cases ho;rw [← e];exact ⟨fun _=>by rw [hs];exact h.idem a,fun hne=>absurd hs.symm hne⟩
  rw [if_neg hs];exact h s
 refine ⟨fun x=>if R x=R a then d x+d (R b)+1 else d x,fun s=>?_⟩;simp only [iK];by_cases hs:s=R a
 ·rw [if_pos hs];refine ⟨fun h=>(by cases h),fun o ho=>?_⟩;cases ho;have hra:R s=R a:=by rw [hs];exact h.idem a
  have hrb:R (R b)=R b:=h.idem b;refine ⟨fun e2=>absurd (hs.symm.trans e2.symm) e,fun _=>⟨?_,?_⟩⟩
  ·rw [if_pos hra,hrb,if_neg (fun e2=>e e2.symm)]
  rw [if_pos hra,hrb,if_neg (fun e2=>e e2.symm)];omega
 rw [if_neg hs];refine ⟨fun hn=>?_,fun o ho=>⟨fun e2=>?_,fun e2=>?_⟩⟩
 ·have:=(h s).1 hn;rw [if_neg (by rw [this];exact hs),this]
 ·have:=((h s).2 o ho).1 e2;rw [if_neg (by rw [this];exact hs),this]
 obtain ⟨h1,h2⟩:=((h s).2 o ho).2 e2;rw [h1];refine ⟨rfl,?_⟩;by_cases e3:R o=R a
 ·rw [if_pos e3,if_pos e3];omega
 rw [if_neg e3,if_neg e3];exact h2
end
end T11
namespace T11
open Go Go.Proofs Pk
theorem eE {α S ε:Type} (l:List α) {step:Nat×S→Option ((Nat×S)⊕ε)} (Inv:Nat→S→Prop) (Q:ε→Prop)
  (hstep:∀ i x s,l[i]?=some x→Inv i s→∃ s',step (i,s)=some (.inl (i+1,s'))∧Inv (i+1) s')
  (hout:∀ s,Inv l.length s→∃ e,step (l.length,s)=some (.inr e)∧Q e) {s0:S} (h0:Inv 0 s0):∃ e,aY step (0,s0)=some e∧Q e:=by
 have key:∀ k i s,l.length - i=k→i≤l.length→Inv i s→∃ e,aY step (i,s)=some e∧Q e:=by
  intro k
  induction k with
  | zero =>
   intro i s hk hi hI;obtain rfl:i=l.length:=by omega
   obtain ⟨e,h1,h2⟩:=hout s hI;exact ⟨e,bN h1,h2⟩
  | succ k ih =>
   intro i s hk hi hI;have hlt:i < l.length:=by omega
   obtain ⟨s',h1,h2⟩:=hstep i _ s (List.getElem?_eq_getElem hlt) hI;obtain ⟨e,h3,h4⟩:=ih (i+1) s' (by omega) (by omega) h2;exact ⟨e,by rw [cC h1];exact h3,h4⟩
 exact key _ 0 s0 rfl (by omega) h0
theorem bY {α:Type} {l:List α} {i:Nat} {x:α} (h:l[i]?=some x):l.take (i+1)=l.take i++[x]:=by rw [List.take_add_one,h];rfl
structure LK (hs:List aB) (R:aA→aA):Prop where
 one:∀ h∈hs,∀ s∈aT h,R s=R h.name
 cn:∀ x y,R x=R y→Cn hs x y
theorem LK.iff {hs:List aB} {R:aA→aA} (h:LK hs R) {x y:aA}:Cn hs x y↔R x=R y:=by
 refine ⟨fun hc=>?_,h.cn x y⟩
 induction hc with
 | refl=>rfl
 | step _ hh hb hc ih=>rw [ih,h.one _ hh _ hb,h.one _ hh _ hc]
def VH (hs:List aB) (lk:List (aA×aA)):Prop:=∃ R d,UF lk R d∧LK hs R
theorem VH.start:VH [] []:=⟨fun s=>s,fun _=>0,fun s=>⟨fun _=>rfl,fun o ho=>(by cases ho)⟩,by simp,fun x y e=>by cases (show x=y from e);exact .refl _⟩
theorem VH.join {hs hs':List aB} {lk:List (aA×aA)} (h:VH hs lk) (a b:aA) (hm:∀ x y,Cn hs x y→Cn hs' x y) (hab:Cn hs' a b)
  (hn:∀ h∈hs',∀ s∈aT h,Cn hs s h.name∨s=a∧h.name=b):∃ r q,uP lk a=some r∧uP lk b=some q∧VH hs' (put lk r q):=by
 obtain ⟨R,d,hu,hk⟩:=h;obtain ⟨d',hu'⟩:=hu.join a b;refine ⟨R a,R b,hu.e53 a,hu.e53 b,_,d',hu',fun h hh s hs=>?_,fun x y e=>?_⟩
 ·rcases hn h hh s hs with hc | ⟨rfl,e⟩
  ·have:=hk.iff.1 hc;show (if R s=R a then R b else R s)=if R h.name=R a then R b else R h.name;rw [this]
  subst e;show (if R s=R s then R h.name else R s)=if R h.name=R s then R h.name else R h.name;rw [if_pos rfl];split <;> rfl
 by_cases hx:R x=R a <;> by_cases hy:R y=R a
 ·exact hm _ _ (hk.cn _ _ (hx.trans hy.symm))
 ·simp only [if_pos hx,if_neg hy] at e;exact ((hm _ _ (hk.cn _ _ hx)).trans hab).trans (hm _ _ (hk.cn _ _ e))
 ·simp only [if_neg hx,if_pos hy] at e;exact (hm _ _ (hk.cn _ _ e)).trans (hab.symm.trans (hm _ _ (hk.cn _ _ hy.symm)))
 simp only [if_neg hx,if_neg hy] at e;exact hm _ _ (hk.cn _ _ e)
theorem DZ {α:Type} {n:Nat}:∀ {L:List (List α)},(∀ l∈L,l.length≤n)→L.flatten.length≤n*L.length
 | [],_=>by simp
 | x::L,h=>by
  have h1:=h x List.mem_cons_self;have h2:=DZ (L:=L) fun l hl=>h l (List.mem_cons_of_mem _ hl);simp only [List.flatten_cons,List.length_append,List.length_cons,Nat.mul_add,Nat.mul_one];omega
def dS (R:aA→aA) (hs:List aB) (k:aA):List aB:=hs.filter fun h=>decide (R h.name=k)
def VI (R:aA→aA) (hs:List aB) (k:aA):bQ:=⟨⟨[],(dS R hs k).flatMap (·.aC),(dS R hs k).flatMap (·.aO),(dS R hs k).flatMap (·.aG)⟩,(dS R hs k).map (·.name)⟩
structure Gat (R:aA→aA) (hs:List aB) (m:List (aA×bQ)):Prop where
 nd:(m.map Prod.fst).Nodup
 at_:∀ k,lkp m k=if dS R hs k=[] then none else some (VI R hs k)
 len:m.length≤hs.length
theorem LG (R:aA→aA) (hs:List aB) (k:aA):(dS R hs k).length≤hs.length:=List.length_filter_le _ _
theorem tV {α:Type} {f:aB→List α} {n:Nat}:∀ {l:List aB},(∀ h∈l,(f h).length≤n)→(l.flatMap f).length≤n*l.length
 | [],_=>by simp
 | x::l,h=>by
  have h1:=h x List.mem_cons_self;have h2:=tV (l:=l) fun y hy=>h y (List.mem_cons_of_mem _ hy);simp only [List.flatMap_cons,List.length_append,List.length_cons,Nat.mul_add,Nat.mul_one];omega
def tW (hs:List aB):Prop:=hs.length≤1000∧∀ h∈hs,Rt h
theorem iL {R:aA→aA} {hs:List aB} {k:aA} {h:aB}:h∈dS R hs k↔h∈hs∧R h.name=k:=by unfold dS;rw [List.mem_filter,decide_eq_true_iff]
theorem IM {R:aA→aA} {hs:List aB} (hh:tW hs) (k:aA):((dS R hs k).flatMap (·.aC)).length≤8000∧((dS R hs k).flatMap (·.aO)).length≤8000∧((dS R hs k).flatMap (·.aG)).length≤30000∧((dS R hs k).map (·.name)).length≤1000:=by
 have h0:=LG R hs k;have h1:=tV (l:=dS R hs k) (f:=(·.aC)) (n:=8) fun h hm=>(hh.2 h (iL.1 hm).1).2.1.1;have h2:=tV (l:=dS R hs k) (f:=(·.aO)) (n:=8) fun h hm=>(hh.2 h (iL.1 hm).1).2.2.1.1;have h3:=tV (l:=dS R hs k) (f:=(·.aG)) (n:=30) fun h hm=>(hh.2 h (iL.1 hm).1).2.2.2.1;have h4:=hh.1;rw [List.length_map];omega
theorem tW.take {hs:List aB} (h:tW hs) (i:Nat):tW (hs.take i):=⟨by have:=h.1;rw [List.length_take];omega,fun x hx=>h.2 x (List.mem_of_mem_take hx)⟩
section
variable {S ρ:Type}
theorem nO {α:Type} {step:List α→Nat→Option (List α⊕ρ)} {Kf:List α→Option ρ} (P:α→Prop) (F:α→α) (hst:∀ s i x,s[i]?=some x→P x→step s i=some (.inl (s.set i (F x)))) (s0:List α) (hP:∀ x∈s0,P x) :
  ∀ (l:List Nat) (s:List α),l.Nodup→(∀ i∈l,i < s0.length)→s.length=s0.length→(∀ i∈l,s[i]?=s0[i]?)→(∀ i,i∉l→s[i]?=(s0.map F)[i]?)→foldK step Kf l s=Kf (s0.map F)
 | [],s,_,_,hlen,_,h=>by
  have:s=s0.map F:=List.ext_getElem? fun i=>h i (by simp);rw [this];rfl
 | i::l,s,hn,hlt,hlen,h1,h2=>by
  obtain ⟨hn1,hn2⟩:=List.nodup_cons.1 hn;have hi:=hlt i List.mem_cons_self;have e:=h1 i List.mem_cons_self;rw [List.getElem?_eq_getElem hi] at e;unfold foldK;rw [hst s i _ e (hP _ (List.getElem_mem hi))];refine nO P F hst s0 hP l _ hn2 (fun j hj=>hlt j (List.mem_cons_of_mem _ hj)) (by simp [hlen]) (fun j hj=>?_) (fun j hj=>?_)
  ·have:i≠j:=fun e=>hn1 (e▸hj);rw [List.getElem?_set_ne this];exact h1 j (List.mem_cons_of_mem _ hj)
  by_cases hij:i=j
  ·subst hij;rw [List.getElem?_set_self (by omega)];simp [hi]
  rw [List.getElem?_set_ne hij];exact h2 j (by simp only [List.mem_cons,not_or];exact ⟨fun e=>hij e.symm,hj⟩)
end
end T11
namespace T11
open Go Go.Proofs Pk
theorem eC {h:aB} (hr:Rt h):(∀ s∈aT h,s.length≤40)∧∀ s∈h.aO,s.length≤40:=by
 have nb:∀ {s},dE s=true→s.length≤40:=fun {s} h=>by
  unfold dE at h;simp only [Bool.and_eq_true,decide_eq_true_eq] at h;exact h.1.1.1.1.2
 refine ⟨fun s hs=>?_,fun s hs=>nb (hr.2.2.1.2.1 s hs)⟩;rcases bU.1 hs with rfl | hs
 ·exact nb hr.1
 exact nb (hr.2.1.2.1 s hs)
theorem EA {α β:Type} (f:α→β):∀ (m:List (aA×α)) (k:aA),lkp (m.map fun q=>(q.1,f q.2)) k=(lkp m k).map f
 | [],k=>rfl
 | (q,w)::m,k=>by
  simp only [List.map_cons,lkp]
  split
  ·rfl
  exact EA f m k
theorem EB {α:Type}:∀ {m:List (aA×α)} {k:aA} {y:α},(m.map Prod.fst).Nodup→(k,y)∈m→lkp m k=some y
 | (q,w)::m,k,y,hn,h=>by
  simp only [List.map_cons,List.nodup_cons] at hn;simp only [lkp];rcases List.mem_cons.1 h with e | h
  ·cases e;rw [if_pos rfl]
  rw [if_neg (fun e=>hn.1 (by rw [← e];exact List.mem_map.2 ⟨_,h,rfl⟩))];exact EB hn.2 h
def tX (g:bQ):bQ:=⟨⟨FT g.aZ,g.aD.aC,g.aD.aO,g.aD.aG⟩,g.aZ⟩
def CG (R:aA→aA) (hs:List aB) (k:aA):aA:=FT ((dS R hs k).map (·.name))
structure bM (hs:List aB) (lk:List (aA×aA)) (R:aA→aA) (d:aA→Nat) (m:List (aA×bQ)):Prop where
 uf:UF lk R d
 lk_:LK hs R
 sm:tW hs
 cl:clo hs
 ga:Gat R hs m
section
variable {hs:List aB} {lk:List (aA×aA)} {R:aA→aA} {d:aA→Nat} {m:List (aA×bQ)}
theorem bM.M (E:bM hs lk R d m) {k:aA} (hk:dS R hs k≠[]):R (CG R hs k)=k∧Hd hs (CG R hs k) (CG R hs k):=by
 obtain ⟨h,hh,e⟩:=List.mem_map.1 (IL (l:=(dS R hs k).map (·.name)) (by simpa using hk));obtain ⟨h1,h2⟩:=iL.1 hh;have e1:h.name=CG R hs k:=e;have e2:R (CG R hs k)=k:=by rw [← e1];exact h2
 refine ⟨e2,⟨h,h1,e1⟩,.refl _,fun q hq hc=>?_⟩;have:=E.lk_.iff.1 hc;exact LF (List.mem_map.2 ⟨q,iL.2 ⟨hq,by rw [← this,e2]⟩,rfl⟩)
theorem bM.hd (E:bM hs lk R d m) {h:aB} (hh:h∈hs):Hd hs h.name (CG R hs (R h.name)):=by
 have hk:dS R hs (R h.name)≠[]:=fun e=>by
  have:h∈dS R hs (R h.name):=iL.2 ⟨hh,rfl⟩;rw [e] at this;cases this
 obtain ⟨h1,h2⟩:=E.M hk;exact h2.at (E.lk_.cn _ _ h1.symm)
def VJ (g:aB):Bool:=decide (8 < g.aC.length)||decide (8 < g.aO.length)||decide (30 < g.aG.length)
theorem bM.entry (E:bM hs lk R d m) {i:Nat} {k:aA} {y:bQ} (hi:m[i]?=some (k,y)) :
  ∃ g,IC hs g∧R g.name=k∧∀ s,s.length≤1000→mL (m.map fun q=>(q.1,tX q.2)) (hs,lk) s i=some (if VJ g then .inr ([],3) else .inl (s++[g])):=by
 have hy:lkp m k=some y:=EB E.ga.nd (List.mem_of_getElem? hi);rw [E.ga.at_] at hy;by_cases hk:dS R hs k=[]
 ·rw [if_pos hk] at hy;cases hy
 rw [if_neg hk] at hy;cases hy;obtain ⟨hM,hMd⟩:=E.M hk;obtain ⟨l1,l2,l3,l4⟩:=IM (R:=R) E.sm k;have hin:∀ {h},h∈dS R hs k↔h∈hs∧Cn hs (CG R hs k) h.name:=fun {h}=>by
  rw [iL,E.lk_.iff,hM];exact ⟨fun ⟨a,b⟩=>⟨a,b.symm⟩,fun ⟨a,b⟩=>⟨a,b.symm⟩⟩
 obtain ⟨vs,v1,v2,v3⟩:=e56 (but:=CG R hs k) (L:=[(dS R hs k).flatMap (·.aC),(dS R hs k).map (·.name)]) (by simp at l1 l4 ⊢;omega) (by simp) (fun s hs'=>by
  simp only [List.flatten_cons,List.flatten_nil,List.append_nil,List.mem_append,List.mem_flatMap,List.mem_map] at hs';rcases hs' with ⟨h,hh,h1⟩ | ⟨h,hh,rfl⟩
  ·have:=(eC (E.sm.2 h (hin.1 hh).1)).1 s (bU.2 (.inr h1));omega
  have:=(eC (E.sm.2 h (hin.1 hh).1)).1 h.name (bT h);omega)
 obtain ⟨ps,p1,p2,p3⟩:=e57 (l:=(dS R hs k).flatMap (·.aG)) (by omega) (fun p hp=>by
  obtain ⟨h,hh,hp⟩:=List.mem_flatMap.1 hp
  exact (E.sm.2 h (hin.1 hh).1).2.2.2.2.ok p hp)
 have hal:∀ t∈(dS R hs k).flatMap (·.aO),∃ q∈hs,q.name=t:=fun t ht=>by
  obtain ⟨h,hh,ht⟩:=List.mem_flatMap.1 ht;exact E.cl h (hin.1 hh).1 t ht
 have h9:aY (kY (k,tX (VI R hs k)) (hs,lk) (m.map fun q=>(q.1,tX q.2))) (0,([]:List aA))=some (((dS R hs k).flatMap (·.aO)).map fun t=>CG R hs (R t)):=by
  refine kM ((dS R hs k).flatMap (·.aO)) (fun t=>CG R hs (R t)) (fun a=>a) (fun i x a hi hx ha=>?_) (fun a=>?_)
  ·obtain ⟨q,hq,e⟩:=hal x (List.mem_of_getElem? hx);have hne:dS R hs (R x)≠[]:=fun e2=>by
    have:q∈dS R hs (R x):=iL.2 ⟨hq,by rw [e]⟩;rw [e2] at this;cases this
   unfold kY;show (if (i:Int) < (((dS R hs k).flatMap (·.aO)).length:Int) then _ else _:Option ((Nat×List aA)⊕List aA))=_;rw [if_pos (by omega)];change (((dS R hs k).flatMap (·.aO))[i]?).bind _=_;rw [hx,Option.bind_some,E.uf.e53,Option.bind_some,EA,E.ga.at_,if_neg hne];simp only [Option.map_some,Option.bind_some];rw [aQ (by omega)];rfl
  unfold kY;simp [tX,VI]
 obtain ⟨al,a1,a2,a3⟩:=e56 (but:=CG R hs k) (L:=[((dS R hs k).flatMap (·.aO)).map fun t=>CG R hs (R t)]) (by simp at l2 ⊢;omega) (by simp) (fun s hs'=>by
  simp only [List.flatten_cons,List.flatten_nil,List.append_nil,List.mem_map] at hs';obtain ⟨t,ht,rfl⟩:=hs';obtain ⟨q,hq,rfl⟩:=hal t ht;obtain ⟨q',hq',e⟩:=(E.hd hq).1;rw [← e]
  have:=(eC (E.sm.2 q' hq')).1 q'.name (bT q');omega)
 refine ⟨⟨CG R hs k,vs,al,ps⟩,⟨hMd,v2,fun s=>?_,a2,fun s=>?_,p2,fun v c=>?_⟩,hM,fun s hs'=>?_⟩
 ·rw [v3];refine and_congr_right fun _=>?_;simp only [List.flatten_cons,List.flatten_nil,List.append_nil,List.mem_append,List.mem_flatMap,List.mem_map];constructor
  ·rintro (⟨h,hh,h1⟩ | ⟨h,hh,rfl⟩)
   ·exact ⟨h,(hin.1 hh).1,bU.2 (.inr h1),(hin.1 hh).2⟩
   exact ⟨h,(hin.1 hh).1,bT h,(hin.1 hh).2⟩
  rintro ⟨h,hh,h1,h2⟩;rcases bU.1 h1 with rfl | h1
  ·exact .inr ⟨h,hin.2 ⟨hh,h2⟩,rfl⟩
  exact .inl ⟨h,hin.2 ⟨hh,h2⟩,h1⟩
 ·rw [a3];refine and_congr_right fun _=>?_;simp only [List.flatten_cons,List.flatten_nil,List.append_nil,List.mem_map,List.mem_flatMap];constructor
  ·rintro ⟨t,⟨h,hh,ht⟩,rfl⟩;obtain ⟨q,hq,rfl⟩:=hal t (List.mem_flatMap.2 ⟨h,hh,ht⟩);exact ⟨h,(hin.1 hh).1,(hin.1 hh).2,q.name,ht,E.hd hq⟩
  rintro ⟨h,hh,hc,t,ht,hd⟩;have hg:=hin.2 ⟨hh,hc⟩;obtain ⟨q,hq,rfl⟩:=hal t (List.mem_flatMap.2 ⟨h,hg,ht⟩);exact ⟨q.name,⟨h,hg,ht⟩,(E.hd hq).uniq hd⟩
 ·rw [p3];unfold tQ;simp only [List.mem_flatMap];constructor
  ·rintro ⟨p,⟨h,hh,hp⟩,h1⟩;exact ⟨h,(hin.1 hh).1,(hin.1 hh).2,p,hp,h1⟩
  rintro ⟨h,hh,hc,p,hp,h1⟩;exact ⟨p,⟨h,hin.2 ⟨hh,hc⟩,hp⟩,h1⟩
 have e1:(m.map fun q=>(q.1,tX q.2))[i]?=some (k,tX (VI R hs k)):=by rw [List.getElem?_map,hi];rfl
 unfold mL;rw [e1,Option.bind_some,h9];simp only [tX,VI];change (BT (CG R hs k) _).bind _=_;rw [v1,Option.bind_some,p1,Option.bind_some,Option.bind_some];change (BT (CG R hs k) _).bind _=_;rw [a1,Option.bind_some];unfold VJ;simp only;by_cases b1:8 < vs.length
 ·rw [if_pos (by omega)];simp [b1]
 rw [if_neg (by omega)];by_cases b2:8 < al.length
 ·rw [if_pos (by omega)];simp [b2]
 rw [if_neg (by omega)];by_cases b3:30 < ps.length
 ·have b3':30 < (ps.length:Int):=by omega
  simp only [b1,b2,b3,b3',decide_true,decide_false,Bool.or_true,if_true,Option.bind_some]
 have b3':¬30 < (ps.length:Int):=by omega
 simp only [b1,b2,b3,b3',decide_false,Bool.or_self,Bool.false_eq_true,if_false,Option.bind_some];rw [aQ (by omega)];rfl
end
end T11
namespace T11
open Go Go.Proofs Pk
instance (x:List aB):Decidable (PJ x):=by unfold PJ;infer_instance
end T11
namespace T11
open Go Go.Proofs Pk
theorem Ix.e24 {x:List aB} (h:Ix x):KS x=some x:=T11.e24 (by have:=h.len;omega) fun k hk=>by
 have:=h.rt k hk;have:=this.2.1.1;have:=(h.rt k hk).2.2.1.1;have:=(h.rt k hk).2.2.2.1;omega
theorem yB {L:List (List aB)} (h:∀ x∈L,Ix x) (hn:L.length≤1000):m19 L=some L:=by
 unfold m19
 rw [kM L (fun x=>x) (fun a=>a) (step:=DI L) (fun i x a hi hxi ha=>by
  unfold DI
  rw [if_pos (show (i:Int) < (L.length:Int) by omega),hxi,Option.bind_some,(h x (List.mem_of_getElem? hxi)).e24,Option.bind_some,aQ (by simp only;omega)]) (fun a=>by unfold DI;rw [if_neg (by simp)])]
 simp
end T11
namespace T11
open Go Go.Proofs Pk
theorem jS {l:List aB} (h:∀ x∈l,Rt x):(l.flatMap aT).length≤9*l.length:=eO fun x hx=>(h x hx).2.1.1
theorem fN.mem_iff {hs x:List aB} (hx:fN hs x) {s:aA}:s∈x.flatMap aT↔s∈hs.flatMap aT:=by
 rw [List.mem_flatMap,List.mem_flatMap];constructor
 ·rintro ⟨g,hg,hs⟩;obtain ⟨h,hh,h1,_⟩:=(hx.each g hg).of hs;exact ⟨h,hh,h1⟩
 rintro ⟨h,hh,hs⟩;obtain ⟨g,hg,hc⟩:=hx.cov h hh;exact ⟨g,hg,(hx.each g hg).mem hh hc.symm hs⟩
end T11
namespace T11
open Go Go.Proofs Pk
theorem pR (l r sub:aA):Lib.occAt (l++r) sub l.length=sub.isPrefixOf r:=by unfold Lib.occAt;rw [List.drop_left]
theorem nE (a r:aA):a.isPrefixOf (a++r)=true:=List.isPrefixOf_iff_prefix.2 (List.prefix_append a r)
theorem AN {l r t:aA} {c:UInt8} (h:c∉l):Lib.index (l++(c::t++r)) (c::t)=l.length:=by
 refine Lib.index_first (by simp) (by rw [pR];exact nE _ _) (fun j hj=>?_)
 cases hb:Lib.occAt (l++(c::t++r)) (c::t) j with
 | false=>rfl
 | true =>
  have:=Lib.occAt_head rfl hb;rw [List.getElem?_append_left hj] at this;exact absurd (List.mem_of_getElem? this) h
theorem IN {l r t:aA} (h:Lib.index (l++(t++r)) t=l.length):Lib.cut (l++(t++r)) t=(l,r,true):=by
 unfold Lib.cut;rw [h,if_pos (by omega)];simp only [Int.toNat_natCast,List.take_left];congr 1;congr 1;rw [← List.append_assoc,List.drop_left' (by simp)]
theorem xP {l r t:aA} {c:UInt8} (h:c∉l):Lib.cut (l++(c::t++r)) (c::t)=(l,r,true):=IN (AN h)
theorem tY {s t:aA} {c:UInt8} (h:c∉s):Lib.index s (c::t) = -1:=by
 refine Lib.index_none (fun j hj=>?_)
 cases hb:Lib.occAt s (c::t) j with
 | false=>rfl
 | true=>exact absurd (List.mem_of_getElem? (Lib.occAt_head rfl hb)) h
theorem CH {s t:aA} (h:Lib.index s t = -1):Lib.cut s t=(s,[],false):=by
 unfold Lib.cut;rw [h,if_neg (by omega)]
theorem xQ {s t:aA} {c e:UInt8} {j:Nat} (hb:Lib.occAt s (c::e::t) j=true):s[j+1]?=some e:=by
 unfold Lib.occAt at hb;obtain ⟨r,hr⟩:=List.isPrefixOf_iff_prefix.1 hb;have h1:(s.drop j)[1]?=some e:=by rw [← hr];rfl
 rw [List.getElem?_drop] at h1;exact h1
theorem pS {s t:aA} {c e:UInt8} (h:e∉s):Lib.index s (c::e::t) = -1:=by
 refine Lib.index_none (fun j hj=>?_)
 cases hb:Lib.occAt s (c::e::t) j with
 | false=>rfl
 | true=>exact absurd (List.mem_of_getElem? (xQ hb)) h
theorem LH {l r t:aA} {c e:UInt8} (hce:c≠e) (h:e∉l):Lib.cut (l++(c::e::t++r)) (c::e::t)=(l,r,true):=by
 refine IN (Lib.index_first (by simp) (by rw [pR];exact nE _ _) (fun j hj=>?_))
 cases hb:Lib.occAt (l++(c::e::t++r)) (c::e::t) j with
 | false=>rfl
 | true =>
  have h1:=xQ hb;by_cases h2:j+1 < l.length
  ·rw [List.getElem?_append_left h2] at h1;exact absurd (List.mem_of_getElem? h1) h
  have h3:j+1=l.length:=by omega
  rw [h3,List.getElem?_append_right (Nat.le_refl _)] at h1;simp at h1;exact absurd h1 hce
theorem fY {s t:aA} {c:UInt8} (h:c∉s):Lib.split s (c::t)=[s]:=by
 unfold Lib.split;rw [Lib.count_miss (tY h)];rfl
theorem jE {l r t:aA} {c:UInt8} (h:c∉l):Lib.split (l++(c::t++r)) (c::t)=l::Lib.split r (c::t):=by
 have e1:=AN (r:=r) (t:=t) h;have e2:(l++(c::t++r)).drop (l.length+(c::t).length)=r:=by rw [← List.append_assoc,List.drop_left' (by simp)]
 unfold Lib.split;rw [Lib.count_hit (by simp) e1,e2,Nat.add_comm 1]
 conv=>lhs;unfold Lib.splitK
 rw [e1,if_neg (by simp)];simp only [Int.toNat_natCast,Nat.add_zero];rw [e2,List.take_left]
theorem fO {t:aA} {c:UInt8}:∀ {xs:List aA},xs≠[]→(∀ x∈xs,c∉x)→Lib.split (Lib.join xs (c::t)) (c::t)=xs
 | [x],_,h=>by rw [Lib.join_one];exact fY (h x (by simp))
 | x::y::xs,_,h=>by
  have e:Lib.join (x::y::xs) (c::t)=x++(c::t++Lib.join (y::xs) (c::t)):=by
   rw [Lib.join_cons,Lib.join_cons];unfold Lib.joinTail;simp
  rw [e,jE (h x (by simp)),fO (by simp) fun z hz=>h z (List.mem_cons_of_mem _ hz)]
theorem oH {n:Nat} {sep:aA}:∀ {xs:List aA},(∀ x∈xs,x.length+sep.length≤n)→(Lib.join xs sep).length≤n*xs.length
 | [],_=>by simp [Lib.join_nil]
 | x::xs,h=>by
  rw [Lib.join_cons];unfold Lib.joinTail
  have h1:=DZ (n:=n) (L:=xs.map (sep ++ ·)) (by
   intro l hl;obtain ⟨y,hy,rfl⟩:=List.mem_map.1 hl;have:=h y (List.mem_cons_of_mem _ hy)
   rw [List.length_append];omega)
  have h2:=h x List.mem_cons_self;rw [List.length_map] at h1;rw [List.length_append];refine Nat.le_trans (Nat.add_le_add (Nat.le_trans (Nat.le_add_right _ _) h2) h1) ?_;rw [List.length_cons,Nat.mul_add,Nat.mul_one];omega
theorem tZ {sep:aA} {c:UInt8}:∀ {xs:List aA},c∈Lib.join xs sep→c∈sep∨∃ x∈xs,c∈x
 | [],h=>by simp [Lib.join_nil] at h
 | x::xs,h=>by
  rw [Lib.join_cons] at h;unfold Lib.joinTail at h;rcases List.mem_append.1 h with h | h
  ·exact .inr ⟨x,by simp,h⟩
  obtain ⟨l,hl,h⟩:=List.mem_flatten.1 h;obtain ⟨y,hy,rfl⟩:=List.mem_map.1 hl;rcases List.mem_append.1 h with h | h
  ·exact .inl h
  exact .inr ⟨y,List.mem_cons_of_mem _ hy,h⟩
theorem SA {s t:aA} (hs:s.length≤1073741824) (ht:1≤t.length):CZ s t=some (Lib.split s t):=by
 unfold CZ;rw [aQ ⟨hs,ht⟩,Lib.splitB_data];rfl
theorem GD {s t:aA} (hs:s.length≤1073741824):xW s t=some (Lib.cut s t):=by unfold xW;rw [aQ hs]
theorem fH {n:Int} (h:0≤n):Lib.itoa n=Lib.decDigits n.toNat:=by unfold Lib.itoa;rw [if_neg (by omega)]
theorem lK {n:Int} (h:0≤n) {c:UInt8} (hc:c∈Lib.itoa n):48≤c.toNat∧c.toNat≤57:=by
 rw [fH h] at hc;have:=List.all_eq_true.1 (wY n.toNat) c hc;simpa [FC] using this
theorem PP {n:Int} (h:0≤n∧n≤9999):pG n=some (Lib.itoa n):=by unfold pG yS;rw [aQ (by omega)]
def bL (p:aH):aA:=(Lib.itoa p.aM++[47])++Lib.itoa p.aV++if p.aV < p.cM then [45]++Lib.itoa p.cM else []
def eF (h:aB):aA:=((h.name++[58])++Lib.join (h.aG.map fun p=>[32]++bL p) [44])++if 0 < h.aO.length then [59,32]++Lib.join h.aO [44,32] else []
theorem pU {p:aH} (h:fG p):(0≤p.aM∧p.aM≤9999)∧(0≤p.aV∧p.aV≤9999)∧0≤p.cM∧p.cM≤9999:=by unfold fG at h;omega
end T11
namespace T11
open Go Go.Proofs Pk
theorem dL {n:Int} (h:0≤n) (h2:n < 1000000):(Lib.itoa n).length≤6:=by
 rw [fH h];exact nY (by omega) (by decide)
theorem jF {p:aH} (h:fG p):(bL p).length≤21:=by
 obtain ⟨h1,h2,h3⟩:=pU h;have l1:=dL h1.1 (by omega);have l2:=dL h2.1 (by omega);have l3:=dL h3.1 (by omega);unfold bL
 split
 ·simp only [List.length_append,List.length_singleton];omega
 simp only [List.length_append,List.length_singleton,List.length_nil];omega
theorem aCl {p:aH} (h:fG p):tJ p=some (bL p):=by
 obtain ⟨h1,h2,h3⟩:=pU h;have l1:=dL h1.1 (by omega);have l2:=dL h2.1 (by omega);have l3:=dL h3.1 (by omega);unfold tJ bL;rw [PP h1,Option.bind_some,aQ (by simp only [List.length_singleton];omega),PP h2,Option.bind_some,aQ (by simp only [List.length_append,List.length_singleton];omega)];by_cases hc:p.aV < p.cM
 ·rw [if_pos hc,if_pos hc,PP h3,Option.bind_some,aQ (by simp only [List.length_singleton];omega),aQ (by simp only [List.length_append,List.length_singleton];omega)];rfl
 rw [if_neg hc,if_neg hc,List.append_nil];rfl
theorem jG {h:aB} (hr:Rt h):h.name.length≤40∧(Lib.join (h.aG.map fun p=>[32]++bL p) [44]).length≤690∧(Lib.join h.aO [44,32]).length≤336:=by
 obtain ⟨l1,l2⟩:=eC hr;refine ⟨l1 _ (bT h),?_,?_⟩
 ·have h1:=oH (n:=23) (sep:=[44]) (xs:=h.aG.map fun p=>[32]++bL p) (fun x hx=>by
   obtain ⟨p,hp,rfl⟩:=List.mem_map.1 hx;have:=jF (hr.2.2.2.2.ok p hp)
   simp only [List.length_append,List.length_singleton];omega)
  have h2:=hr.2.2.2.1;rw [List.length_map] at h1;omega
 have h1:=oH (n:=42) (sep:=[44,32]) (xs:=h.aO) (fun x hx=>by
  have:=l2 x hx
  simp only [List.length_cons,List.length_nil];omega)
 have h2:=hr.2.2.1.1;omega
theorem jH {h:aB} (hr:Rt h):(eF h).length≤1100:=by
 obtain ⟨h1,h2,h3⟩:=jG hr;unfold eF
 split
 ·simp only [List.length_append,List.length_singleton,List.length_cons,List.length_nil];omega
 simp only [List.length_append,List.length_singleton,List.length_nil];omega
theorem aCm {h:aB} (hr:Rt h):tK h=some (eF h):=by
 obtain ⟨h1,h2,h3⟩:=jG hr;have hp:=hr.2.2.2.1;have ha:=hr.2.2.1.1;unfold tK
 rw [kM h.aG (fun p=>[32]++bL p) (fun a=>a) (step:=gZ h) (fun i p a hi hp' ha'=>by
  have ho:=hr.2.2.2.2.ok p (List.mem_of_getElem? hp');have:=jF ho;unfold gZ
  rw [if_pos (show (i:Int) < (h.aG.length:Int) by omega),hp',Option.bind_some,aCl ho,Option.bind_some,aQ (by simp only [List.length_singleton];omega),aQ (by simp only;omega)]) (fun a=>by unfold gZ;rw [if_neg (by simp)]),
  Option.bind_some,aQ (by simp only [List.length_singleton];omega)]
 have e1:pH (h.aG.map fun p=>[32]++bL p) [44]=some (Lib.join (h.aG.map fun p=>[32]++bL p) [44]):=by
  unfold pH;rw [aQ ⟨by rw [List.length_map];omega,by omega⟩]
 rw [e1,Option.bind_some,aQ (by simp only [List.length_append,List.length_singleton];omega)];unfold eF;by_cases hc:0 < h.aO.length
 ·have e2:pH h.aO [44,32]=some (Lib.join h.aO [44,32]):=by unfold pH;rw [aQ ⟨by omega,by omega⟩]
  rw [if_pos (by omega),if_pos hc,e2,Option.bind_some,aQ (by simp only [List.length_cons,List.length_nil];omega),aQ (by simp only [List.length_append,List.length_singleton,List.length_cons,List.length_nil];omega)];rfl
 rw [if_neg (by omega),if_neg hc,List.append_nil];rfl
def oI (v n:aA):aA:=(v++[32,61,32])++n
def cI (l:List aB) (s:aA):aA:=match l.find? (jR s) with
 | some h=>if s=h.name then eF h else oI s h.name
 | none=>[]
theorem lY {l:List aB} (hl:Ix l) {h:aB} (hh:h∈l) {s:aA} (hs:s∈aT h):l.find? (jR s)=some h:=by
 cases hf:l.find? (jR s) with
 | none=>exact absurd (hZ.2 hs) (by have:=List.find?_eq_none.1 hf h hh;simpa using this)
 | some k=>rw [hl.uniq (List.mem_of_find?_eq_some hf) hh (hZ.1 (List.find?_some hf)) hs]
theorem eU {l:List aB} (hl:Ix l) {h:aB} (hh:h∈l):cI l h.name=eF h:=by unfold cI;rw [lY hl hh (bT h)];simp
theorem fZ {l:List aB} (hl:Ix l) {h:aB} (hh:h∈l) {v:aA} (hv:v∈h.aC):cI l v=oI v h.name:=by
 have hne:v≠h.name:=fun e=>hl.vnd hh (e▸hv);unfold cI;rw [lY hl hh (bU.2 (.inr hv))];simp [hne]
theorem iA {l:List aB} (hl:Ix l) {s:aA} (hs:s∈l.flatMap aT):(cI l s).length≤1100:=by
 obtain ⟨h,hh,hs⟩:=List.mem_flatMap.1 hs;rcases bU.1 hs with rfl | hv
 ·rw [eU hl hh];exact jH (hl.rt h hh)
 rw [fZ hl hh hv];have h1:=(eC (hl.rt h hh)).1 s hs;have h2:=(eC (hl.rt h hh)).1 _ (bT h);unfold oI;simp only [List.length_append,List.length_cons,List.length_nil];omega
noncomputable def fI (l:List aB):aA:=(cZ (l.flatMap aT)).flatMap fun s=>cI l s++[10]
theorem vQ {α:Type} {m:List (aA×α)} {k s:aA} {v:α} (h:s≠k):lkp (put m k v) s=lkp m s:=by rw [iK,if_neg h]
theorem LI {x:aB} (hr:Rt x) {o:List aA} {t:List (aA×aA)} (ho:o.length≤100000) :
  ∃ e,aY (kZ x) (0,o,t)=some e∧e.1=o++x.aC∧(∀ v∈x.aC,lkp e.2 v=some (oI v x.name))∧∀ s,s∉x.aC→lkp e.2 s=lkp t s:=by
 have hv:=hr.2.1.1;refine eE x.aC (S:=List aA×List (aA×aA)) (s0:=(o,t)) (fun i e=>e.1=o++x.aC.take i∧(∀ v∈x.aC.take i,lkp e.2 v=some (oI v x.name))∧∀ s,s∉x.aC→lkp e.2 s=lkp t s)
  (fun e:List aA×List (aA×aA)=>e.1=o++x.aC∧(∀ v∈x.aC,lkp e.2 v=some (oI v x.name))∧∀ s,s∉x.aC→lkp e.2 s=lkp t s) (fun i v e hx hI=>?_) (fun e hI=>?_) ⟨by simp,by simp,fun _ _=>rfl⟩
 ·obtain ⟨h1,h2,h3⟩:=hI;have hvm:=List.mem_of_getElem? hx;have l1:=(eC hr).1 v (bU.2 (.inr hvm));have l2:=(eC hr).1 _ (bT x);have hlt:=(List.getElem?_eq_some_iff.1 hx).1;have l3:e.1.length≤100010:=by rw [h1,List.length_append,List.length_take];omega
  refine ⟨(e.1++[v],put e.2 v (oI v x.name)),?_,by rw [bY hx,← List.append_assoc,← h1],fun w hw=>?_,fun s hs=>?_⟩
  ·unfold kZ;simp only;rw [if_pos (by omega),hx,Option.bind_some,aQ (by omega),aQ (by simp only [List.length_cons,List.length_nil];omega),aQ (by simp only [List.length_append,List.length_cons,List.length_nil];omega)];rfl
  ·simp only;rw [iK];by_cases e1:w=v
   ·rw [if_pos e1,e1]
   rw [if_neg e1];rw [bY hx] at hw;rcases List.mem_append.1 hw with hw | hw
   ·exact h2 w hw
   simp at hw;exact absurd hw e1
  simp only;rw [vQ (k:=v) (fun e1=>hs (by rw [e1];exact hvm))];exact h3 s hs
 refine ⟨e,?_,by rw [List.take_length] at hI;exact hI⟩;unfold kZ;simp
theorem LJ {l:List aB} (hl:Ix l):∃ e,aY (lA l) (0,([]:List aA),([]:List (aA×aA)))=some e∧e.1=l.flatMap aT∧∀ s∈l.flatMap aT,lkp e.2 s=some (cI l s):=by
 have hlen:=hl.len;refine eE l (S:=List aA×List (aA×aA)) (s0:=([],[])) (fun i e=>e.1=(l.take i).flatMap aT∧∀ s∈(l.take i).flatMap aT,lkp e.2 s=some (cI l s)) (fun e:List aA×List (aA×aA)=>e.1=l.flatMap aT∧∀ s∈l.flatMap aT,lkp e.2 s=some (cI l s)) (fun i x e hx hI=>?_) (fun e hI=>?_) ⟨by simp,by simp⟩
 ·obtain ⟨h1,h2⟩:=hI;have hxm:=List.mem_of_getElem? hx;have hr:=hl.rt x hxm;have hlt:=(List.getElem?_eq_some_iff.1 hx).1;have l2:=(eC hr).1 _ (bT x);have l3:e.1.length≤540:=by
   have:=jS (l:=l.take i) fun y hy=>hl.rt y (List.mem_of_mem_take hy);rw [List.length_take] at this;rw [h1];omega
  obtain ⟨e',w1,w2,w3,w4⟩:=LI hr (o:=e.1++[x.name]) (t:=put e.2 x.name ((x.name++[32,61,32])++x.name)) (by rw [List.length_append,List.length_singleton];omega);refine ⟨(e'.1,put e'.2 x.name (eF x)),?_,?_,fun s hs=>?_⟩
  ·unfold lA;simp only;rw [if_pos (by omega),hx,Option.bind_some,aQ (by omega),aQ (by simp only [List.length_cons,List.length_nil];omega),aQ (by simp only [List.length_append,List.length_cons,List.length_nil];omega),Option.bind_some,w1,Option.bind_some,Option.bind_some,aCm hr];rfl
  ·rw [bY hx,List.flatMap_append,w2,h1];unfold aT;simp
  simp only;rw [bY hx,List.flatMap_append] at hs;rw [iK];by_cases en:s=x.name
  ·rw [if_pos en,en,eU hl hxm]
  rw [if_neg en];by_cases hv:s∈x.aC
  ·rw [w3 s hv,fZ hl hxm hv]
  rw [w4 s hv,vQ en];rcases List.mem_append.1 hs with hs | hs
  ·exact h2 s hs
  simp only [List.flatMap_cons,List.flatMap_nil,List.append_nil] at hs;rcases bU.1 hs with h | h
  ·exact absurd h en
  exact absurd h hv
 refine ⟨e,?_,by rw [List.take_length] at hI;exact hI⟩;unfold lA;simp
theorem PQ {l:List aA} (hb:∀ s∈l,s.length≤1073741824) (hlen:l.length≤1000000) (hn:l.Nodup):fU pJ l=some (cZ l):=by
 obtain ⟨L,h1,h2,h3⟩:=AL (MY (by omega) hb);rw [h1];refine congrArg some (rP ?_ (fX _) (fun x=>by rw [h2.mem_iff,eB]));refine (h3.and (h2.nodup_iff.2 hn)).imp_of_mem fun {a b} ha hb' h=>?_;have h4:=h.1;rw [qW (hb b (h2.subset hb')) (hb a (h2.subset ha))] at h4;rcases jO h.2 with h5 | h5
 ·exact h5
 unfold iE at h5;rw [h4] at h5;cases h5
theorem rU {l:List aA} (hn:l.Nodup):(cZ l).length=l.length:=List.Perm.length_eq ((List.perm_ext_iff_of_nodup (IB (fX _)) hn).2 fun s=>eB)
theorem xR {f:aA→aA} {n:Nat}:∀ {l:List aA},(∀ h∈l,(f h).length≤n)→(l.flatMap f).length≤n*l.length
 | [],_=>by simp
 | x::l,h=>by
  have h1:=h x List.mem_cons_self;have h2:=xR (l:=l) fun y hy=>h y (List.mem_cons_of_mem _ hy);simp only [List.flatMap_cons,List.length_append,List.length_cons,Nat.mul_add,Nat.mul_one];omega
theorem e63 {l:List aB} (hl:Ix l):FH l=some (fI l):=by
 obtain ⟨e,h1,h2,h3⟩:=LJ hl;have hlen:=hl.len;have hn:=jS hl.rt;have hs:=rU hl.nd;unfold FH
 rw [h1,Option.bind_some,h2,PQ (fun s hs=>by
  obtain ⟨h,hh,hs⟩:=List.mem_flatMap.1 hs
  have:=(eC (hl.rt h hh)).1 s hs;omega) (by omega) hl.nd,Option.bind_some]
 have h4:=eE (cZ (l.flatMap aT)) (S:=Bool×List UInt8) (step:=lB e (cZ (l.flatMap aT))) (s0:=(false,[])) (fun i s=>s.2=((cZ (l.flatMap aT)).take i).flatMap fun s=>cI l s++[10]) (fun s=>s.2=fI l) (fun i x s hx hI=>by
  have hxm:=eB.1 (List.mem_of_getElem? hx);have hlt:=(List.getElem?_eq_some_iff.1 hx).1;have l1:=iA hl hxm;have l2:s.2.length≤1101*540:=by
   have:=xR (l:=(cZ (l.flatMap aT)).take i) (f:=fun s=>cI l s++[10]) (n:=1101) (fun y hy=>by
    have:=iA hl (eB.1 (List.mem_of_mem_take hy))
    simp only [List.length_append,List.length_singleton];omega)
   rw [List.length_take] at this;rw [hI];refine Nat.le_trans this (Nat.mul_le_mul_left _ ?_);omega
  refine ⟨(true,s.2++(cI l x++[10])),?_,by rw [bY hx,List.flatMap_append,hI];simp⟩;unfold lB;simp only;rw [h2,if_pos (by omega),hx,Option.bind_some,h3 x hxm];simp only [Option.getD_some];rw [aQ (by simp only [List.length_singleton];omega),aQ (by simp only [List.length_append,List.length_singleton];omega)]
  rfl) (fun s hI=>⟨s,by unfold lB;simp only;rw [h2,if_neg (by omega)],by rw [List.take_length] at hI;exact hI⟩) (by simp)
 obtain ⟨s,h5,h6⟩:=h4;rw [h5,Option.bind_some,h6]
end T11
namespace T11
open Go Go.Proofs Pk
theorem iB {α S ε:Type} (l:List α) {step:Nat×S→Option ((Nat×S)⊕ε)} (Inv:Nat→S→Prop) (Q:ε→Prop)
  (hstep:∀ i x s,l[i]?=some x→Inv i s→(∃ s',step (i,s)=some (.inl (i+1,s'))∧Inv (i+1) s')∨∃ e,step (i,s)=some (.inr e)∧Q e)
  (hout:∀ s,Inv l.length s→∃ e,step (l.length,s)=some (.inr e)∧Q e) {s0:S} (h0:Inv 0 s0):∃ e,aY step (0,s0)=some e∧Q e:=by
 have key:∀ k i s,l.length - i=k→i≤l.length→Inv i s→∃ e,aY step (i,s)=some e∧Q e:=by
  intro k
  induction k with
  | zero =>
   intro i s hk hi hI;obtain rfl:i=l.length:=by omega
   obtain ⟨e,h1,h2⟩:=hout s hI;exact ⟨e,bN h1,h2⟩
  | succ k ih =>
   intro i s hk hi hI;have hlt:i < l.length:=by omega
   rcases hstep i _ s (List.getElem?_eq_getElem hlt) hI with ⟨s',h1,h2⟩ | ⟨e,h1,h2⟩
   ·obtain ⟨e,h3,h4⟩:=ih (i+1) s' (by omega) (by omega) h2;exact ⟨e,by rw [cC h1];exact h3,h4⟩
   exact ⟨e,bN h1,h2⟩
 exact key _ 0 s0 rfl (by omega) h0
theorem vT {sep:aA}:∀ (k:Nat) (s:aA),(Lib.splitK sep 0 k s).length≤k+1∧∀ x∈Lib.splitK sep 0 k s,x.length≤s.length
 | 0,s=>by unfold Lib.splitK;simp
 | k+1,s=>by
  unfold Lib.splitK
  split
  ·simp
  obtain ⟨h1,h2⟩:=vT (sep:=sep) k (s.drop ((Lib.index s sep).toNat+sep.length));refine ⟨by simp only [List.length_cons];omega,fun x hx=>?_⟩;rcases List.mem_cons.1 hx with rfl | hx
  ·rw [List.length_take];omega
  have:=h2 x hx;rw [List.length_drop] at this;omega
theorem gA {s t:aA}:(Lib.split s t).length≤s.length+2∧∀ x∈Lib.split s t,x.length≤s.length:=by
 obtain ⟨h1,h2⟩:=vT (sep:=t) (Lib.count s t) s;exact ⟨by have:=Lib.count_le s t;unfold Lib.split;omega,h2⟩
theorem oJ {s t:aA}:1≤(Lib.split s t).length:=by
 unfold Lib.split
 cases Lib.count s t with
 | zero=>unfold Lib.splitK;simp
 | succ k=>unfold Lib.splitK;split <;> simp
theorem xS {s t:aA}:(Lib.cut s t).1.length≤s.length∧(Lib.cut s t).2.1.length≤s.length:=by
 unfold Lib.cut
 split
 ·simp only [List.length_take,List.length_drop];omega
 simp
theorem LL {s t:aA}:(Lib.trimPrefix s t).length≤s.length:=by
 unfold Lib.trimPrefix
 split
 ·rw [List.length_drop];omega
 exact Nat.le_refl _
theorem t146 (o:vH) {s:aA} (hs:s.length≤1000000):∃ r,lC o s=some r:=by
 unfold lC wZ CN;rw [aQ (by omega),Option.bind_some]
 split
 ·exact ⟨_,rfl⟩
 exact ⟨_,rfl⟩
theorem aCo (o:vH) {s:aA} (hs:s.length≤1000000):∃ r,pL o s=some r:=by
 obtain ⟨c1,c2⟩:=xS (s:=s) (t:=[47]);obtain ⟨d1,d2⟩:=xS (s:=(Lib.cut s [47]).2.1) (t:=[45]);unfold pL;rw [GD (by omega),Option.bind_some,GD (by omega),Option.bind_some];obtain ⟨r1,h1⟩:=t146 o (s:=(Lib.cut s [47]).1) (by omega);obtain ⟨r2,h2⟩:=t146 o (s:=(Lib.cut (Lib.cut s [47]).2.1 [45]).1) (by omega);obtain ⟨r3,h3⟩:=t146 o (s:=(Lib.cut (Lib.cut s [47]).2.1 [45]).2.1) (by omega);rw [h1,Option.bind_some]
 cases r1 with
 | inr _=>exact ⟨_,rfl⟩
 | inl y1 =>
  simp only;rw [h2,Option.bind_some]
  cases r2 with
  | inr _=>exact ⟨_,rfl⟩
  | inl y2 =>
   simp only;rw [h3];by_cases hb:(Lib.cut (Lib.cut s [47]).2.1 [45]).2.2=true
   ·rw [if_pos hb,Option.bind_some]
    cases r3 with
    | inr _=>exact ⟨_,rfl⟩
    | inl y3=>exact ⟨_,rfl⟩
   rw [if_neg hb];exact ⟨_,rfl⟩
theorem PR {x:aA} (hx:x.length≤200000):∃ r,FI ⟨x⟩=some r:=by
 obtain ⟨c1,c2⟩:=xS (s:=x) (t:=[58]);obtain ⟨d1,d2⟩:=xS (s:=(Lib.cut x [58]).2.1) (t:=[59,32]);obtain ⟨p1,p2⟩:=gA (s:=(Lib.cut (Lib.cut x [58]).2.1 [59,32]).1) (t:=[44]);have h1:∃ e,aY (iH (Lib.split (Lib.cut (Lib.cut x [58]).2.1 [59,32]).1 [44]) ⟨x⟩) (0,([]:List aH))=some e∧True:=by
  refine iB (Lib.split (Lib.cut (Lib.cut x [58]).2.1 [59,32]).1 [44]) (fun i (a:List aH)=>a.length≤i) (fun _=>True) (fun i y a hy hI=>?_) (fun a _=>⟨_,by unfold iH;rw [if_neg (by simp)],trivial⟩) (by simp);have hlt:=(List.getElem?_eq_some_iff.1 hy).1;have hyl:=p2 y (List.mem_of_getElem? hy);have htl:=LL (s:=y) (t:=[32]);obtain ⟨r,hr⟩:=aCo ⟨x⟩ (s:=Lib.trimPrefix y [32]) (by omega);unfold iH zG;simp only;rw [if_pos (by omega),hy,Option.bind_some,Option.bind_some,hr,Option.bind_some]
  cases r with
  | inl y'=>exact .inl ⟨a++[y'],by simp only;rw [aQ (by simp only [List.length_singleton];omega)],by simp;omega⟩
  | inr _=>exact .inr ⟨_,rfl,trivial⟩
 obtain ⟨e,h1,_⟩:=h1;unfold FI;simp only;rw [GD (by omega),Option.bind_some,GD (by omega),Option.bind_some,SA (by omega) (by simp),SA (by omega) (by simp),Option.bind_some,Option.bind_some,h1];have fin:∀ t:List aH,∃ r,((if (Lib.cut (Lib.cut x [58]).2.1 [59,32]).2.2=true then some (Lib.split (Lib.cut (Lib.cut x [58]).2.1 [59,32]).2.1 [44,32]) else some ([]:List aA)).bind fun t0=>some (Sum.inl (⟨(Lib.cut x [58]).1,([]:List aA),t0,t⟩:aB):aB⊕Unit))=some r:=fun t=>by split <;> exact ⟨_,rfl⟩
 by_cases hne:(Lib.cut (Lib.cut x [58]).2.1 [59,32]).1≠[]
 ·rw [if_pos hne,Option.bind_some];rcases e with t | t | z
  ·exact fin t
  ·exact fin t
  exact ⟨z,rfl⟩
 rw [if_neg hne];exact fin []
theorem t28 {b:aA} (hb:b.length≤200000):∃ z,vJ b=some z∧(z=([],4)∨∃ y,z=(y,0)∧Ix y∧fI y=b):=by
 obtain ⟨s1,s2⟩:=gA (s:=b) (t:=[10]);have s3:=oJ (s:=b) (t:=[10]);unfold vJ;rw [if_neg (by omega),SA (by omega) (by simp),Option.bind_some,aQ (by omega),aQ (by omega)];have h1:∃ e,aY (iI (Lib.split b [10])) (0,([]:List aB),([]:List (aA×(List aA))))=some e∧(e=.inr ([],4)∨∃ t,e=.inl t):=by
  refine iB ((Lib.split b [10]).take (((Lib.split b [10]).length:Int) - 1).toNat) (S:=List aB×List (aA×List aA)) (s0:=([],[])) (fun i s=>s.1.length≤i∧∀ k,((lkp s.2 k).getD []).length≤i) (fun e:(List aB×List (aA×List aA))⊕(List aB×Int)=>e=.inr ([],4)∨∃ t,e=.inl t) (fun i x s hx hI=>?_) (fun s hI=>?_) ⟨by simp,fun k=>by simp [lkp]⟩
  ·obtain ⟨i1,i2⟩:=hI;have hlt:=(List.getElem?_eq_some_iff.1 hx).1;have hlt2:=hlt;rw [List.length_take] at hlt2;have hxl:=s2 x (List.mem_of_mem_take (List.mem_of_getElem? hx));unfold iI;simp only;rw [if_pos (by omega),hx,Option.bind_some,GD (by omega),Option.bind_some];by_cases hc:(Lib.cut x [32,61,32]).2.2=true
   ·rw [if_pos hc,aQ (by have:=i2 (Lib.cut x [32,61,32]).2.1;omega)];refine .inl ⟨_,rfl,by simp only;omega,fun k=>?_⟩;simp only;rw [iK]
    split
    ·have:=i2 (Lib.cut x [32,61,32]).2.1;simp only [Option.getD_some,List.length_append,List.length_singleton];omega
    have:=i2 k;omega
   rw [if_neg hc];obtain ⟨r,hr⟩:=PR (x:=x) (by omega);rw [hr,Option.bind_some]
   cases r with
   | inl y =>
    simp only;rw [aQ (by simp only [List.length_singleton];omega)];exact .inl ⟨_,rfl,by simp only [List.length_append,List.length_singleton];omega,fun k=>by have:=i2 k;simp only;omega⟩
   | inr _=>exact .inr ⟨_,rfl,.inl rfl⟩
  refine ⟨.inl (s.1,s.2),by unfold iI;simp,.inr ⟨_,rfl⟩⟩
 obtain ⟨e,h1,h2⟩:=h1;rw [h1,Option.bind_some];rcases h2 with rfl | ⟨t,rfl⟩
 ·exact ⟨_,rfl,.inl rfl⟩
 simp only;have h3:∃ e,aY (iJ t) (0,t.2,t.1)=some e∧True:=by
  refine eE t.1 (S:=List (aA×List aA)×List aB) (s0:=(t.2,t.1)) (fun i s=>s.2.length=t.1.length) (fun _=>True) (fun i x s hx hI=>?_) (fun s hI=>⟨_,by unfold iJ;rw [if_neg (by simp)],trivial⟩) rfl;have hlt:=(List.getElem?_eq_some_iff.1 hx).1;obtain ⟨q,hg⟩:∃ q,s.2[i]?=some q:=⟨_,List.getElem?_eq_getElem (by omega)⟩;exact ⟨(s.1,s.2.set i ⟨q.name,((lkp s.1 q.name).getD []),q.aO,q.aG⟩),by unfold iJ;simp only;rw [if_pos (by omega),hg];rfl,by simp [hI]⟩
 obtain ⟨y,h3,_⟩:=h3;rw [h3,Option.bind_some,RV,Option.bind_some];by_cases hf:cY y=0
 ·have hix:=gC.1 hf;rw [if_neg (by simpa using hf),e63 hix,Option.bind_some,Option.bind_some];by_cases he:fI y=b
  ·exact ⟨(y,0),by simp [he],.inr ⟨y,rfl,hix,he⟩⟩
  exact ⟨([],4),by simp [he],.inl rfl⟩
 exact ⟨([],4),by rw [if_pos (by simpa using hf)];rfl,.inl rfl⟩
end T11
namespace T11
open Go Go.Proofs Pk
theorem jI {s:aA} (h:dE s=true) {c:UInt8} (hc:c∈s):32≤c.toNat∧c.toNat≤126∧c.toNat≠44∧c.toNat≠58∧c.toNat≠59∧c.toNat≠61:=by
 unfold dE at h;simp only [Bool.and_eq_true,decide_eq_true_eq] at h;have:=List.all_eq_true.1 h.1.1.1.2 c hc;unfold eK at this;exact of_decide_eq_true this
theorem jT {h:aB} (hr:Rt h) {s:aA} (hs:s∈aT h∨s∈h.aO):dE s=true:=by
 rcases hs with hs | hs
 ·rcases bU.1 hs with rfl | hs
  ·exact hr.1
  exact hr.2.1.2.1 s hs
 exact hr.2.2.1.2.1 s hs
theorem nF {s:aA} (h:dE s=true) (c:UInt8) (hc:c.toNat < 32∨c.toNat=44∨c.toNat=58∨c.toNat=59∨c.toNat=61):c∉s:=fun hm=>by have:=jI h hm;omega
theorem lZ {p:aH} (h:fG p) {c:UInt8} (hc:c∈bL p):45≤c.toNat∧c.toNat≤57∧c.toNat≠46:=by
 obtain ⟨h1,h2,h3⟩:=pU h;unfold bL at hc;simp only [List.mem_append] at hc;rcases hc with ((hc | hc) | hc) | hc
 ·have:=lK h1.1 hc;omega
 ·simp at hc;subst hc;decide
 ·have:=lK h2.1 hc;omega
 split at hc
 ·rcases List.mem_append.1 hc with hc | hc
  ·simp at hc;subst hc;decide
  have:=lK h3.1 hc;omega
 cases hc
theorem jU {h:aB} (hr:Rt h) {c:UInt8} (hc:c∈Lib.join (h.aG.map fun p=>[32]++bL p) [44]):c.toNat=44∨c.toNat=32∨45≤c.toNat∧c.toNat≤57:=by
 rcases tZ hc with hc | ⟨x,hx,hc⟩
 ·simp at hc;subst hc;exact .inl rfl
 obtain ⟨p,hp,rfl⟩:=List.mem_map.1 hx;rcases List.mem_append.1 hc with hc | hc
 ·simp at hc;subst hc;exact .inr (.inl rfl)
 have:=lZ (hr.2.2.2.2.ok p hp) hc;omega
theorem IP {h:aB} (hr:Rt h) {c:UInt8} (hc:c∈Lib.join h.aO [44,32]):32≤c.toNat∧c.toNat≠61:=by
 rcases tZ hc with hc | ⟨x,hx,hc⟩
 ·simp only [List.mem_cons,List.not_mem_nil,or_false] at hc;rcases hc with rfl | rfl <;> decide
 have:=jI (jT hr (.inr hx)) hc;omega
theorem uA {h:aB} (hr:Rt h) {c:UInt8} (hc:c∈eF h):32≤c.toNat∧c.toNat≠61:=by
 unfold eF at hc;rcases List.mem_append.1 hc with hc | hc
 ·rcases List.mem_append.1 hc with hc | hc
  ·rcases List.mem_append.1 hc with hc | hc
   ·have:=jI hr.1 hc;omega
   simp at hc;subst hc;decide
  have:=jU hr hc;omega
 split at hc
 ·rcases List.mem_append.1 hc with hc | hc
  ·simp only [List.mem_cons,List.not_mem_nil,or_false] at hc;rcases hc with rfl | rfl <;> decide
  exact IP hr hc
 cases hc
theorem IQ (o:vH) {n:Int} (h:0≤n∧n≤9999):lC o (Lib.itoa n)=some (.inl n):=by
 have e:mH (Lib.itoa n)=(n,false):=by
  rw [fH h.1];unfold mH;rw [HN (by omega)];simp only [Int.toNat_of_nonneg h.1]
 have:=dL h.1 (by omega);unfold lC wZ CN;rw [aQ (by omega),e];rfl
theorem jV {n:Int} (h:0≤n) {c:UInt8} (hc:c.toNat < 48):c∉Lib.itoa n:=fun hm=>by have:=lK h hm;omega
theorem aCp (o:vH) {p:aH} (h:fG p):pL o (bL p)=some (.inl p):=by
 obtain ⟨h1,h2,h3⟩:=pU h;have hl:=jF h;have e1:bL p=Lib.itoa p.aM++(47::[]++(Lib.itoa p.aV++if p.aV < p.cM then [45]++Lib.itoa p.cM else [])):=by unfold bL;simp
 have c1:Lib.cut (bL p) [47]=(Lib.itoa p.aM,Lib.itoa p.aV++(if p.aV < p.cM then [45]++Lib.itoa p.cM else []),true):=by rw [e1];exact xP (jV h1.1 (by decide))
 unfold pL;rw [GD (by omega),Option.bind_some,c1];simp only;have l1:=dL h1.1 (by omega);have l2:=dL h2.1 (by omega);have l3:=dL h3.1 (by omega);by_cases hc:p.aV < p.cM
 ·rw [if_pos hc,GD (by simp only [List.length_append,List.length_singleton];omega),Option.bind_some,show Lib.cut (Lib.itoa p.aV++([45]++Lib.itoa p.cM)) [45]=(Lib.itoa p.aV,Lib.itoa p.cM,true) from xP (jV h2.1 (by decide)),IQ o h1,Option.bind_some];simp only;rw [IQ o h2,Option.bind_some];simp only;rw [if_pos trivial,IQ o h3];rfl
 have e2:p.cM=p.aV:=by unfold fG at h;omega
 rw [if_neg hc,List.append_nil,GD (by omega),Option.bind_some,CH (tY (jV h2.1 (by decide))),IQ o h1,Option.bind_some];simp only;rw [IQ o h2,Option.bind_some];simp only [Bool.false_eq_true,if_false,Option.bind_some];congr 2;cases p;simp only at e2;rw [e2]
def nK (h:aB):aB:=⟨h.name,[],h.aO,h.aG⟩
theorem r69 {h:aB} (hr:Rt h):FI ⟨eF h⟩=some (.inl (nK h)):=by
 obtain ⟨h1,h2,h3⟩:=jG hr;have hl:=jH hr;have hp:=hr.2.2.2.1;have e1:eF h=h.name++(58::[]++(Lib.join (h.aG.map fun p=>[32]++bL p) [44]++if 0 < h.aO.length then [59,32]++Lib.join h.aO [44,32] else [])):=by unfold eF;simp
 have c1:=xP (l:=h.name) (r:=Lib.join (h.aG.map fun p=>[32]++bL p) [44]++if 0 < h.aO.length then [59,32]++Lib.join h.aO [44,32] else []) (t:=[]) (c:=58) (nF hr.1 58 (by decide));rw [← e1] at c1;have n0:(59:UInt8)∉Lib.join (h.aG.map fun p=>[32]++bL p) [44]:=fun hm=>by have:=jU hr hm;have e:(59:UInt8).toNat=59:=rfl;omega
 have c2:xW (Lib.join (h.aG.map fun p=>[32]++bL p) [44]++if 0 < h.aO.length then [59,32]++Lib.join h.aO [44,32] else []) [59,32]=some (Lib.join (h.aG.map fun p=>[32]++bL p) [44],if 0 < h.aO.length then (Lib.join h.aO [44,32],true) else ([],false)):=by
  by_cases ha:0 < h.aO.length
  ·rw [if_pos ha,if_pos ha,GD (by simp only [List.length_append,List.length_cons,List.length_nil];omega)];exact congrArg some (xP (t:=[32]) n0)
  rw [if_neg ha,if_neg ha,List.append_nil,GD (by omega),CH (tY n0)]
 unfold FI;simp only;rw [GD (by omega),Option.bind_some,c1];simp only;rw [c2,Option.bind_some];simp only;have fin:(((if (if 0 < h.aO.length then (Lib.join h.aO [44,32],true) else (([]:aA),false)).2=true then (CZ (if 0 < h.aO.length then (Lib.join h.aO [44,32],true) else (([]:aA),false)).1 [44,32]).bind fun r0=>some r0 else some ([]:List aA)):Option (List aA)).bind fun t0=>some (Sum.inl (⟨h.name,([]:List aA),t0,h.aG⟩:aB):aB⊕Unit))=some (.inl (nK h)):=by
  by_cases ha:0 < h.aO.length
  ·rw [if_pos ha,if_pos rfl,SA (by simp only;omega) (by simp),Option.bind_some];simp only;rw [fO (fun e=>by rw [e] at ha;simp at ha) (fun x hx=>nF (jT hr (.inr hx)) 44 (by decide))];rfl
  rw [if_neg ha];have:h.aO=[]:=List.length_eq_zero_iff.1 (by omega);unfold nK;simp [this]
 by_cases hps:h.aG=[]
 ·have e0:Lib.join (h.aG.map fun p=>[32]++bL p) [44]=[]:=by rw [hps];rfl
  rw [e0,if_neg (by simp)];rw [hps] at fin;exact fin
 have hne:Lib.join (h.aG.map fun p=>[32]++bL p) [44]≠[]:=by
  cases hq:h.aG with
  | nil=>exact absurd hq hps
  | cons p ps=>rw [List.map_cons,Lib.join_cons];simp
 rw [if_pos hne,SA (by omega) (by simp),Option.bind_some,fO (by simpa using hps) (fun x hx hm=>by
  obtain ⟨p,hp',rfl⟩:=List.mem_map.1 hx;rcases List.mem_append.1 hm with hm | hm
  ·simp at hm
  have:=lZ (hr.2.2.2.2.ok p hp') hm;have e:(44:UInt8).toNat=44:=rfl;omega)]
 obtain ⟨e,l1,l2⟩:=eE (h.aG.map fun p=>[32]++bL p) (S:=List aH) (step:=iH (h.aG.map fun p=>[32]++bL p) ⟨eF h⟩) (s0:=[]) (fun i a=>a=h.aG.take i) (fun e=>e=.inl h.aG) (fun i x a hx hI=>by
  rw [List.getElem?_map] at hx
  cases hq:h.aG[i]? with
  | none=>rw [hq] at hx;cases hx
  | some p =>
   rw [hq] at hx;cases hx;have hlt:=(List.getElem?_eq_some_iff.1 hq).1;have ho:=hr.2.2.2.2.ok p (List.mem_of_getElem? hq);refine ⟨a++[p],?_,by rw [hI,bY hq]⟩;unfold iH zG;simp only;rw [if_pos (by rw [List.length_map];omega),List.getElem?_map,hq];simp only [Option.map_some,Option.bind_some];have e3:Lib.trimPrefix ([32]++bL p) [32]=bL p:=by unfold Lib.trimPrefix Lib.hasPrefix;simp
   rw [e3,aCp _ ho,Option.bind_some];simp only
   rw [aQ (by rw [hI];simp only [List.length_singleton,List.length_take];omega)]) (fun a hI=>⟨.inl h.aG,by unfold iH;rw [if_neg (by simp),hI,List.length_map,List.take_length],rfl⟩) (by simp)
 subst l2;rw [l1,Option.bind_some];exact fin
end T11
namespace T11
open Go Go.Proofs Pk
theorem lL:∀ {xs:List aA},(∀ x∈xs,(10:UInt8)∉x)→Lib.split (xs.flatMap fun x=>x++[10]) [10]=xs++[[]]
 | [],_=>fY (by simp)
 | x::xs,h=>by
  have e:((x::xs).flatMap fun x=>x++[10])=x++((10:UInt8)::[]++xs.flatMap fun x=>x++[10]):=by simp
  rw [e,jE (h x List.mem_cons_self),lL fun y hy=>h y (List.mem_cons_of_mem _ hy)];rfl
def fP (l:List aB) (s:aA):Option aB:=match l.find? (jR s) with
 | some h=>if s=h.name then some (nK h) else none
 | none=>none
def lM (l:List aB) (k s:aA):Bool:=match l.find? (jR s) with
 | some h=>decide (s≠h.name∧h.name=k)
 | none=>false
section
variable {l:List aB}
theorem gB (hl:Ix l) {h:aB} (hh:h∈l):fP l h.name=some (nK h):=by unfold fP;rw [lY hl hh (bT h)];simp
theorem uB (hl:Ix l) {h:aB} (hh:h∈l) {v:aA} (hv:v∈h.aC):fP l v=none:=by
 have hne:v≠h.name:=fun e=>hl.vnd hh (e▸hv);unfold fP;rw [lY hl hh (bU.2 (.inr hv))];simp [hne]
theorem nG (hl:Ix l) {h:aB} (hh:h∈l) (k:aA):lM l k h.name=false:=by unfold lM;rw [lY hl hh (bT h)];simp
theorem fQ (hl:Ix l) {h:aB} (hh:h∈l) {v:aA} (hv:v∈h.aC) (k:aA):lM l k v=decide (h.name=k):=by
 have hne:v≠h.name:=fun e=>hl.vnd hh (e▸hv);unfold lM;rw [lY hl hh (bU.2 (.inr hv))];simp [hne]
theorem lN (hl:Ix l) {s:aA} {k:aB}:fP l s=some k↔∃ h∈l,h.name=s∧nK h=k:=by
 constructor
 ·intro h;unfold fP at h
  cases hf:l.find? (jR s) with
  | none=>rw [hf] at h;cases h
  | some q =>
   rw [hf] at h;simp only at h
   split at h
   ·rename_i e;cases h;exact ⟨q,List.mem_of_find?_eq_some hf,e.symm,rfl⟩
   cases h
 rintro ⟨h,hh,rfl,rfl⟩;exact gB hl hh
theorem pV (hl:Ix l):(cZ (l.flatMap aT)).filterMap (fP l)=l.map nK:=by
 refine hU (r:=fun a b:aB=>iE a.name b.name) (fun _ _ _ _=>pQ) ?_ (by rw [List.pairwise_map];exact hl.srt) (fun k=>?_)
 ·rw [List.pairwise_filterMap];refine (fX _).imp fun {a b} h x hx y hy=>?_;obtain ⟨p,_,rfl,rfl⟩:=(lN hl).1 hx;obtain ⟨q,_,rfl,rfl⟩:=(lN hl).1 hy;exact h
 rw [List.mem_filterMap,List.mem_map];constructor
 ·rintro ⟨s,_,hs⟩;obtain ⟨h,hh,_,e⟩:=(lN hl).1 hs;exact ⟨h,hh,e⟩
 rintro ⟨h,hh,rfl⟩;exact ⟨h.name,eB.2 (List.mem_flatMap.2 ⟨h,hh,bT h⟩),gB hl hh⟩
theorem uC (hl:Ix l) {h:aB} (hh:h∈l):(cZ (l.flatMap aT)).filter (lM l h.name)=h.aC:=by
 refine rP ((fX _).filter _) (hl.rt h hh).2.1.2.2 fun s=>?_;rw [List.mem_filter,eB,List.mem_flatMap];constructor
 ·rintro ⟨⟨k,hk,hs⟩,hv⟩;rcases bU.1 hs with rfl | hs
  ·rw [nG hl hk] at hv;cases hv
  rw [fQ hl hk hs] at hv;have e:=of_decide_eq_true hv;have:k=h:=hl.uniq hk hh (bT k) (e▸bT h);rw [← this];exact hs
 intro hs;exact ⟨⟨h,hh,bU.2 (.inr hs)⟩,by rw [fQ hl hh hs];simp⟩
theorem EC (hl:Ix l) {s:aA} (hs:s∈l.flatMap aT):(10:UInt8)∉cI l s:=fun hm=>by
 have e:(10:UInt8).toNat=10:=rfl;obtain ⟨h,hh,hs⟩:=List.mem_flatMap.1 hs;have hr:=hl.rt h hh;rcases bU.1 hs with rfl | hv
 ·rw [eU hl hh] at hm;have:=uA hr hm;omega
 rw [fZ hl hh hv] at hm;unfold oI at hm;rcases List.mem_append.1 hm with hm | hm
 ·rcases List.mem_append.1 hm with hm | hm
  ·have:=jI (jT hr (.inl hs)) hm;omega
  simp at hm
 have:=jI hr.1 hm;omega
theorem uD (hl:Ix l):(fI l).length≤110000:=by
 have hp:(cZ (l.flatMap aT)).Perm (l.flatMap aT):=(List.perm_ext_iff_of_nodup (IB (fX _)) hl.nd).2 fun s=>eB;have h1:(fI l).length=((l.flatMap aT).flatMap fun s=>cI l s++[10]).length:=(hp.flatMap_right _).length_eq;have h2:((l.flatMap aT).flatMap fun s=>cI l s++[10])=l.flatMap fun h=>(aT h).flatMap fun s=>cI l s++[10]:=List.flatMap_assoc
 have h3:=tV (l:=l) (f:=fun h=>(aT h).flatMap fun s=>cI l s++[10]) (n:=1800) (fun h hh=>by
  have hr:=hl.rt h hh
  have h4:=xR (l:=h.aC) (f:=fun s=>cI l s++[10]) (n:=84) (fun v hv=>by
   rw [fZ hl hh hv];have a1:=(eC hr).1 v (bU.2 (.inr hv));have a2:=(eC hr).1 _ (bT h);unfold oI
   simp only [List.length_append,List.length_cons,List.length_nil];omega)
  have h5:=jH hr;have h6:=hr.2.1.1;unfold aT;rw [List.flatMap_cons,List.length_append,List.length_append,eU hl hh,List.length_singleton]
  omega)
 have:=hl.len;rw [h1,h2];omega
theorem IR {α:Type} {a b:List α} {x y:α}:(a++x::b).set a.length y=a++y::b:=by
 rw [List.set_append_right _ _ (Nat.le_refl _)];simp
theorem r28 (hl:Ix l):vJ (fI l)=some (l,0):=by
 have hfl:=uD hl;have hlen:=hl.len;have hsl:=rU hl.nd;have hnl:=jS hl.rt;have hmem:∀ s∈cZ (l.flatMap aT),s∈l.flatMap aT:=fun s hs=>eB.1 hs;have e1:fI l=((cZ (l.flatMap aT)).map (cI l)).flatMap fun x=>x++[10]:=by unfold fI;rw [List.flatMap_map]
 have hsp:Lib.split (fI l) [10]=(cZ (l.flatMap aT)).map (cI l)++[[]]:=by
  rw [e1];refine lL fun x hx=>?_;obtain ⟨s,hs,rfl⟩:=List.mem_map.1 hx;exact EC hl (hmem s hs)
 unfold vJ;rw [if_neg (by omega),SA (by omega) (by simp),Option.bind_some,hsp];have htk:((cZ (l.flatMap aT)).map (cI l)++[[]]).take ((((cZ (l.flatMap aT)).map (cI l)++[[]]).length:Int) - 1).toNat=(cZ (l.flatMap aT)).map (cI l):=by
  rw [List.length_append,List.length_singleton,show (((((cZ (l.flatMap aT)).map (cI l)).length+1:Nat):Int) - 1).toNat=((cZ (l.flatMap aT)).map (cI l)).length by omega,List.take_left]
 rw [aQ (by simp only [List.length_append,List.length_singleton];omega),aQ (by simp only [List.length_append,List.length_singleton];omega)];obtain ⟨e,h1,h2⟩:=eE (cZ (l.flatMap aT)) (S:=List aB×List (aA×List aA)) (step:=iI ((cZ (l.flatMap aT)).map (cI l)++[[]])) (s0:=([],[])) (fun i s=>s.1=((cZ (l.flatMap aT)).take i).filterMap (fP l)∧∀ k,((lkp s.2 k).getD [])=((cZ (l.flatMap aT)).take i).filter (lM l k))
  (fun e=>∃ vs,e=.inl (l.map nK,vs)∧∀ h∈l,(lkp vs h.name).getD []=h.aC) (fun i s st hx hI=>by
   obtain ⟨i1,i2⟩:=hI;have hlt:=(List.getElem?_eq_some_iff.1 hx).1;obtain ⟨h,hh,hs⟩:=List.mem_flatMap.1 (hmem s (List.mem_of_getElem? hx));have hr:=hl.rt h hh;have hll:=iA hl (hmem s (List.mem_of_getElem? hx));unfold iI;simp only;rw [htk,if_pos (by rw [List.length_map];omega),List.getElem?_map,hx];simp only [Option.map_some,Option.bind_some];rw [GD (by omega),Option.bind_some];by_cases hv:s∈h.aC
   ·have hne:s≠h.name:=fun e=>hl.vnd hh (e▸hv);have hc:Lib.cut (cI l s) [32,61,32]=(s,h.name,true):=by
     rw [fZ hl hh hv];unfold oI;rw [List.append_assoc];exact LH (by decide) (nF (jT hr (.inl hs)) 61 (by decide))
    rw [hc];simp only [if_true];have i3:=i2 h.name;have i4:((lkp st.2 h.name).getD []).length≤540:=by rw [i3];refine Nat.le_trans (List.length_filter_le _ _) ?_;rw [List.length_take];omega
    rw [aQ (by omega)];refine ⟨(st.1,put st.2 h.name (((lkp st.2 h.name).getD [])++[s])),rfl,?_,fun k=>?_⟩
    ·simp only;rw [i1,bY hx,List.filterMap_append];simp [uB hl hh hv]
    simp only;rw [iK,bY hx,List.filter_append];by_cases e:k=h.name
    ·rw [if_pos e,e,i3];simp [fQ hl hh hv]
    rw [if_neg e,i2 k];have e':¬h.name=k:=fun e2=>e e2.symm;simp [fQ hl hh hv,e']
   have en:s=h.name:=by
    rcases bU.1 hs with e | e
    ·exact e
    exact absurd e hv
   subst en;rw [eU hl hh,CH (pS (fun hm=>by have:=uA hr hm;exact this.2 rfl))];simp only [Bool.false_eq_true,if_false];rw [r69 hr,Option.bind_some];have i4:st.1.length≤540:=by rw [i1];refine Nat.le_trans (List.length_filterMap_le _ _) ?_;rw [List.length_take];omega
   simp only;rw [aQ (by simp only [List.length_singleton];omega)];refine ⟨(st.1++[nK h],st.2),rfl,?_,fun k=>?_⟩
   ·simp only;rw [i1,bY hx,List.filterMap_append];simp [gB hl hh]
   simp only;rw [i2 k,bY hx,List.filter_append]
   simp [nG hl hh])
  (fun st hI=>⟨.inl (st.1,st.2),by unfold iI;simp only;rw [htk,if_neg (by simp)],st.2,by
   rw [List.take_length] at hI;rw [hI.1,pV hl],fun h hh=>by
   rw [List.take_length] at hI
   rw [hI.2,uC hl hh]⟩) ⟨by simp,fun k=>by simp [lkp]⟩
 obtain ⟨vs,rfl,hvs⟩:=h2;rw [h1,Option.bind_some];simp only
 obtain ⟨y,h3,h4⟩:=eE (l.map nK) (S:=List (aA×List aA)×List aB) (step:=iJ (l.map nK,vs)) (s0:=(vs,l.map nK)) (fun i s=>s.1=vs∧s.2=l.take i++(l.map nK).drop i) (fun y=>y=l) (fun i x s hx hI=>by
  obtain ⟨j1,j2⟩:=hI;rw [List.getElem?_map] at hx
  cases hq:l[i]? with
  | none=>rw [hq] at hx;cases hx
  | some h =>
   rw [hq] at hx;cases hx;have hlt:=(List.getElem?_eq_some_iff.1 hq).1;have hh:=List.mem_of_getElem? hq;have ed:(l.map nK).drop i=nK h::(l.map nK).drop (i+1):=by
    rw [List.drop_eq_getElem_cons (by rw [List.length_map];exact hlt)];congr 1;rw [List.getElem_map];rw [List.getElem?_eq_getElem hlt] at hq;rw [Option.some.inj hq]
   have el:(l.take i).length=i:=by rw [List.length_take];omega
   have eg:s.2[i]?=some (nK h):=by
    rw [j2,ed,List.getElem?_append_right (by omega),el];simp
   refine ⟨(vs,s.2.set i h),?_,rfl,?_⟩
   ·unfold iJ;simp only;rw [if_pos (by rw [List.length_map];omega),eg,Option.bind_some,j1];have:(⟨(nK h).name,(lkp vs (nK h).name).getD [],(nK h).aO,(nK h).aG⟩:aB)=h:=by
     show (⟨h.name,(lkp vs h.name).getD [],h.aO,h.aG⟩:aB)=h;rw [hvs h hh]
    rw [this]
   ·simp only;rw [j2,ed,bY hq];have:=IR (a:=l.take i) (b:=(l.map nK).drop (i+1)) (x:=nK h) (y:=h);rw [el] at this
    rw [this];simp) (fun s hI=>⟨s.2,by unfold iJ;rw [if_neg (by simp)],by
   obtain ⟨_,j2⟩:=hI
   rw [j2,List.drop_length,List.length_map,List.take_length,List.append_nil]⟩) ⟨rfl,by simp⟩
 subst h4;rw [h3,Option.bind_some,RV,Option.bind_some,if_neg (by simpa using gC.2 hl),e63 hl];simp
end
theorem e25 {l:List aB} (hl:Ix l):DH l=some (fI l,0):=by
 have:=uD hl;unfold DH;rw [RV,Option.bind_some,if_neg (by simpa using gC.2 hl),e63 hl,Option.bind_some,aQ (by omega)]
end T11
namespace T11
open Go Go.Proofs Pk
theorem vU {s sep:aA} {k:Nat} (hs:sep≠[]) (h:Lib.index s sep=k):Lib.split s sep=s.take k::Lib.split (s.drop (k+sep.length)) sep:=by
 unfold Lib.split;rw [Lib.count_hit hs h,Nat.add_comm 1]
 conv=>lhs;unfold Lib.splitK
 rw [h,if_neg (by simp)];simp only [Int.toNat_natCast,Nat.add_zero]
theorem nH {s sep:aA} (h:Lib.index s sep = -1):Lib.split s sep=[s]:=by
 unfold Lib.split;rw [Lib.count_miss h];rfl
theorem uE (s sep:aA) (i j:Nat):Lib.occAt (s.drop i) sep j=Lib.occAt s sep (i+j):=by unfold Lib.occAt;rw [List.drop_drop]
theorem xU {s sep:aA} {i:Nat}:Lib.occAt s sep i=true↔(s.drop i).take sep.length=sep:=by
 unfold Lib.occAt;rw [List.isPrefixOf_iff_prefix,List.prefix_iff_eq_take];exact eq_comm
theorem vV {s sep:aA} (hs:s.length≤1000000) (hp:sep≠[]) (hl:sep.length≤1000):FN s sep=some (Lib.split s sep):=by
 have hp1:1≤sep.length:=List.length_pos_iff.2 hp;have key:∀ k fr i (out:List aA),s.length - i=k→fr≤i→i≤s.length→out.length≤i→(∀ j,fr≤j→j < i→Lib.occAt s sep j=false) →
   ∃ e,aY (qM sep s) (fr,i,out)=some e∧e.2++[s.drop e.1]=out++Lib.split (s.drop fr) sep∧e.1≤s.length∧e.2.length≤s.length:=by
  intro k
  induction k using Nat.strongRecOn with
  | _ k ih =>
   intro fr i out hk hfr hi ho hno;by_cases hin:i+sep.length≤s.length
   ·by_cases hc:Lib.occAt s sep i=true
    ·have hidx:Lib.index (s.drop fr) sep=((i - fr:Nat):Int):=by
      refine Lib.index_first (by rw [List.length_drop];omega) (by rw [uE,show fr+(i - fr)=i by omega];exact hc) (fun j hj=>?_);rw [uE];exact hno _ (by omega) (by omega)
     have hst:qM sep s (fr,i,out)=some (.inl (i+sep.length,i+sep.length,out++[(s.drop fr).take (i - fr)])):=by
      unfold qM;simp only;rw [aQ (by omega),if_pos (by omega),aQ (by omega),show (((i:Int)+(sep.length:Int)).toNat - i)=sep.length by omega,if_pos (xU.1 hc),aQ (by omega),aQ (by omega)];rfl
     obtain ⟨e,h1,h2,h3,h4⟩:=ih (s.length - (i+sep.length)) (by omega) (i+sep.length) (i+sep.length) (out++[(s.drop fr).take (i - fr)]) rfl (Nat.le_refl _) (by omega) (by simp;omega) (fun j h1 h2=>by omega);refine ⟨e,by rw [cC hst];exact h1,?_,h3,h4⟩;rw [h2,vU hp hidx,List.drop_drop,show fr+(i - fr+sep.length)=i+sep.length by omega];simp
    have hst:qM sep s (fr,i,out)=some (.inl (fr,i+1,out)):=by
     unfold qM;simp only;rw [aQ (by omega),if_pos (by omega),aQ (by omega),show (((i:Int)+(sep.length:Int)).toNat - i)=sep.length by omega,if_neg (fun h=>hc (xU.2 h)),aQ (by omega)];rfl
    obtain ⟨e,h1,h2,h3,h4⟩:=ih (s.length - (i+1)) (by omega) fr (i+1) out rfl (by omega) (by omega) (by omega) (fun j h1 h2=>by
     by_cases e:j=i
     ·subst e;simpa using hc
     exact hno j h1 (by omega))
    exact ⟨e,by rw [cC hst];exact h1,h2,h3,h4⟩
   have hidx:Lib.index (s.drop fr) sep = -1:=Lib.index_none fun j hj=>by
    rw [uE];by_cases hji:fr+j < i
    ·exact hno _ (by omega) hji
    rw [← Bool.not_eq_true,xU];intro h;have:=congrArg List.length h;rw [List.length_take,List.length_drop] at this;omega
   refine ⟨(fr,out),bN ?_,by rw [nH hidx],by simp only;omega,by simp only;omega⟩;unfold qM;simp only;rw [aQ (by omega),if_neg (by omega)]
 obtain ⟨e,h1,h2,h3,h4⟩:=key s.length 0 0 [] (by omega) (Nat.le_refl _) (by omega) (by simp) (fun j _ h=>by omega);unfold FN;rw [h1,Option.bind_some,aQ h3,aQ (by omega),h2];simp
theorem FU {l r t:aA} {c e:UInt8} (hce:c≠e) (h:e∉l):Lib.index (l++(c::e::t++r)) (c::e::t)=l.length:=by
 refine Lib.index_first (by simp) (by rw [pR];exact nE _ _) (fun j hj=>?_)
 cases hb:Lib.occAt (l++(c::e::t++r)) (c::e::t) j with
 | false=>rfl
 | true =>
  have h1:=xQ hb;by_cases h2:j+1 < l.length
  ·rw [List.getElem?_append_left h2] at h1;exact absurd (List.mem_of_getElem? h1) h
  have h3:j+1=l.length:=by omega
  rw [h3,List.getElem?_append_right (Nat.le_refl _)] at h1;simp at h1;exact absurd h1 hce
theorem FV {l r t:aA} {c e:UInt8} (hce:c≠e) (h:e∉l):Lib.split (l++(c::e::t++r)) (c::e::t)=l::Lib.split r (c::e::t):=by
 rw [vU (by simp) (FU hce h),List.take_left,← List.append_assoc,List.drop_left' (by simp)]
theorem e106 {n:Int} (h:0≤n∧n≤9999):FM n=some (Lib.itoa n):=by
 have run:∀ k (u:Nat),u < 10 ^ (k+1)→u≤9999→gH (k+2) (u:Int)=some (Lib.decDigits u):=by
  intro k
  induction k with
  | zero =>
   intro u hu _;unfold gH;rw [if_neg (by omega),if_pos (by omega),aQ (by omega),aQ (by omega),Lib.decDigits_one (by omega)];congr 3
  | succ k ih =>
   intro u hu hb;by_cases h0:u < 10
   ·unfold gH;rw [if_neg (by omega),if_pos (by omega),aQ (by omega),aQ (by omega),Lib.decDigits_one (by omega)];congr 3
   have e1:(u:Int)/10=((u/10:Nat):Int):=by omega
   have e2:(u:Int)%10=((u%10:Nat):Int):=by omega
   have i1:=ih (u/10) (by rw [Nat.pow_succ] at hu;omega) (by omega);have i2:gH (k+2) ((u%10:Nat):Int)=some [UInt8.ofNat (48+u%10)]:=by
    unfold gH;rw [if_neg (by omega),if_pos (by omega),aQ (by omega),aQ (by omega)];congr 3
   have hl:(Lib.decDigits (u/10)).length≤4:=nY (by omega) (by decide);unfold gH;rw [if_neg (by omega),if_neg (by omega),aQ (by omega),e1,i1,Option.bind_some,aQ (by omega),e2,i2,Option.bind_some,aQ (by simp only [List.length_singleton];omega)];congr 1
   conv=>rhs;rw [Lib.decDigits,dif_neg h0]
 have det:∀ m (u:Nat) r,u≤9999→gH m (u:Int)=some r→r=Lib.decDigits u:=by
  intro m
  induction m with
  | zero=>intro u r _ hr;cases hr
  | succ m ih =>
   intro u r hu hr;unfold gH at hr;rw [if_neg (by omega)] at hr;by_cases h0:u < 10
   ·rw [if_pos (by omega),aQ (by omega),aQ (by omega)] at hr;rw [Lib.decDigits_one h0,← Option.some.inj hr];congr 2
   have e1:(u:Int)/10=((u/10:Nat):Int):=by omega
   have e2:(u:Int)%10=((u%10:Nat):Int):=by omega
   rw [if_neg (by omega),aQ (by omega),e1,e2] at hr
   cases h1:gH m ((u/10:Nat):Int) with
   | none=>rw [h1] at hr;cases hr
   | some a =>
    rw [h1,Option.bind_some,aQ (by omega)] at hr
    cases h2:gH m ((u%10:Nat):Int) with
    | none=>rw [h2] at hr;cases hr
    | some b =>
     rw [h2,Option.bind_some] at hr;have ha:=ih (u/10) a (by omega) h1;have hb:=ih (u%10) b (by omega) h2;subst ha hb;have hl:(Lib.decDigits (u/10)).length≤4:=nY (by omega) (by decide);rw [Lib.decDigits_one (show u%10 < 10 by omega)] at hr;rw [aQ (by simp only [List.length_singleton];omega)] at hr;rw [← Option.some.inj hr]
     conv=>rhs;rw [Lib.decDigits,dif_neg h0]
 have hn:n=((n.toNat:Nat):Int):=by omega
 rw [fH h.1];unfold FM;refine wK 5 ?_ (fun m r' hm=>?_)
 ·conv=>lhs;rw [hn]
  exact run 3 n.toNat (by omega) (by omega)
 rw [hn] at hm;exact det m n.toNat r' (by omega) hm
theorem PS (s:aA):∃ r,xK s=some r:=by
 unfold xK;by_cases h1:s.length < 1
 ·rw [if_pos (by omega)];exact ⟨_,rfl⟩
 rw [if_neg (by omega)];by_cases h4:4 < s.length
 ·rw [Option.bind_some,if_pos (by simp;omega)];exact ⟨_,rfl⟩
 rw [Option.bind_some,if_neg (by simp;omega)]
 obtain ⟨e,h2,_⟩:=iB s (S:=Int) (step:=lF s) (s0:=0) (fun i a=>0≤a∧a < 10 ^ i) (fun _=>True) (fun i c a hc hI=>by
  have hlt:=(List.getElem?_eq_some_iff.1 hc).1;unfold lF;simp only;rw [if_pos (by omega),hc];simp only [Option.bind_some];by_cases hd:(c.toNat:Int) < 48
  ·rw [if_pos hd];exact .inr ⟨_,rfl,trivial⟩
  rw [if_neg hd,Option.bind_some];by_cases hd2:57 < (c.toNat:Int)
  ·rw [if_pos (by simpa using hd2)];exact .inr ⟨_,rfl,trivial⟩
  have hp:(10:Int) ^ i≤1000:=by
   have:i=0∨i=1∨i=2∨i=3:=by omega
   rcases this with rfl | rfl | rfl | rfl <;> decide
  rw [if_neg (by simpa using hd2),aQ (by omega),aQ (by omega),aQ (by omega),aQ (by omega)];refine .inl ⟨_,rfl,by omega,?_⟩
  rw [Int.pow_succ];omega) (fun a _=>⟨_,by unfold lF;simp;rfl,trivial⟩) ⟨Int.le_refl 0,by decide⟩
 rw [h2,Option.bind_some];cases e <;> exact ⟨_,rfl⟩
theorem VK:∀ (l:aA) (a:Nat),l.all FC=true→l.foldl (fun (a:Int) c=>10*a+((c.toNat:Int) - 48)) (a:Int)=(rD l a:Int)
 | [],a,_=>rfl
 | c::l,a,h=>by
  rw [List.all_cons,Bool.and_eq_true] at h;have hc:48≤c.toNat∧c.toNat≤57:=by simpa [FC] using h.1
  simp only [List.foldl_cons,rD];have:=VK l (10*a+(c.toNat - 48)) h.2;unfold rD at this;rw [← this];congr 1;omega
theorem AO {n:Int} (h:0≤n∧n≤9999):xK (Lib.itoa n)=some n:=by
 have hl:(Lib.itoa n).length≤4:=by rw [fH h.1];exact nY (by omega) (by decide)
 have hne:1≤(Lib.itoa n).length:=by rw [fH h.1];exact List.length_pos_iff.2 (HM _)
 have hall:(Lib.itoa n).all FC=true:=by rw [fH h.1];exact wY _
 unfold xK;rw [if_neg (by omega),Option.bind_some,if_neg (by simp;omega)];have hdig:∀ c∈Lib.itoa n,48≤c.toNat∧c.toNat≤57:=fun c hc=>lK h.1 hc
 rw [fL (Lib.itoa n) (σ:=Int) (ε:=Int⊕Int) (fun (a:Int) c=>10*a+((c.toNat:Int) - 48)) (fun a=>.inl a) (fun i a=>0≤a∧a < 10 ^ i) (step:=lF (Lib.itoa n)) (fun i c a hi hc hI=>by
   have hd:=hdig c (List.mem_of_getElem? hc);have hp:(10:Int) ^ i≤1000:=by
    have:i=0∨i=1∨i=2∨i=3:=by omega
    rcases this with rfl | rfl | rfl | rfl <;> decide
   unfold lF;simp only;rw [if_pos (by omega),hc];simp only [Option.bind_some]
   rw [if_neg (by omega),Option.bind_some,if_neg (by simp;omega),aQ (by omega),aQ (by omega),aQ (by omega),aQ (by omega)])
  (fun i c a hi hc hI=>by
   have hd:=hdig c (List.mem_of_getElem? hc);refine ⟨by omega,?_⟩
   rw [Int.pow_succ];omega)
  (fun a _=>by unfold lF;simp) (a0:=0) ⟨Int.le_refl 0,by decide⟩,Option.bind_some]
 have:=VK (Lib.itoa n) 0 hall;rw [fH h.1,CY] at this;simp only;rw [fH h.1];congr 1;have e0:((0:Nat):Int)=0:=rfl;rw [e0] at this;rw [this];omega
theorem aCq {s:aA} (hs:s.length≤1000000):∃ r,BU s=some r:=by
 obtain ⟨s1,s2⟩:=gA (s:=s) (t:=[47]);unfold BU;rw [vV hs (by simp) (by simp),Option.bind_some];by_cases h2:(Lib.split s [47]).length=2
 ·rw [if_neg (by omega)];have g1:(Lib.split s [47])[1]?=some ((Lib.split s [47])[1]'(by omega)):=List.getElem?_eq_getElem (by omega);have g0:(Lib.split s [47])[0]?=some ((Lib.split s [47])[0]'(by omega)):=List.getElem?_eq_getElem (by omega);have hl1:=s2 _ (List.mem_of_getElem? g1);rw [g1,Option.bind_some,g0];generalize (Lib.split s [47])[1]'(by omega)=x at *;generalize (Lib.split s [47])[0]'(by omega)=y at *;rw [vV (by omega) (by simp) (by simp),Option.bind_some];have ne:=oJ (s:=x) (t:=[45]);by_cases h3:2 < (Lib.split x [45]).length
  ·rw [if_pos (by omega)];exact ⟨_,rfl⟩
  rw [if_neg (by omega),Option.bind_some];have g2:(Lib.split x [45])[0]?=some ((Lib.split x [45])[0]'(by omega)):=List.getElem?_eq_getElem (by omega);have g3:(Lib.split x [45])[(((Lib.split x [45]).length:Int) - 1).toNat]?=some ((Lib.split x [45])[(((Lib.split x [45]).length:Int) - 1).toNat]'(by omega)):=List.getElem?_eq_getElem (by omega);obtain ⟨a,ha⟩:=PS y;obtain ⟨b,hb⟩:=PS ((Lib.split x [45])[0]'(by omega));obtain ⟨c,hc⟩:=PS ((Lib.split x [45])[(((Lib.split x [45]).length:Int) - 1).toNat]'(by omega));rw [ha,Option.bind_some,g2,Option.bind_some,hb,Option.bind_some,aQ (by omega),g3,Option.bind_some,hc,Option.bind_some]
  split
  ·split <;> exact ⟨_,rfl⟩
  exact ⟨_,rfl⟩
 rw [if_pos (by omega)];exact ⟨_,rfl⟩
theorem CI {p:aH} (h:fG p):BU (bL p)=some (p,true):=by
 obtain ⟨h1,h2,h3⟩:=pU h;have hpl:=jF h;have e1:Lib.split (bL p) [47]=[Lib.itoa p.aM,Lib.itoa p.aV++if p.aV < p.cM then [45]++Lib.itoa p.cM else []]:=by
  unfold bL;rw [List.append_assoc,List.append_assoc];have:=jE (l:=Lib.itoa p.aM) (c:=47) (t:=[]) (r:=Lib.itoa p.aV++if p.aV < p.cM then [45]++Lib.itoa p.cM else []) (jV h1.1 (by decide));simp only [List.cons_append,List.nil_append] at this ⊢;rw [this];congr 1;refine fY fun hm=>?_;rcases List.mem_append.1 hm with hm | hm
  ·exact jV h2.1 (by decide) hm
  split at hm
  ·rcases List.mem_cons.1 hm with hm | hm
   ·exact absurd hm (by decide)
   exact jV h3.1 (by decide) hm
  cases hm
 unfold BU;rw [vV (by omega) (by simp) (by simp),e1,Option.bind_some,if_neg (by simp)];have g1:([Lib.itoa p.aM,Lib.itoa p.aV++if p.aV < p.cM then [45]++Lib.itoa p.cM else []]:List aA)[1]?=some (Lib.itoa p.aV++if p.aV < p.cM then [45]++Lib.itoa p.cM else []):=rfl;have g0:([Lib.itoa p.aM,Lib.itoa p.aV++if p.aV < p.cM then [45]++Lib.itoa p.cM else []]:List aA)[0]?=some (Lib.itoa p.aM):=rfl;have l2:=dL h2.1 (by omega);have l3:=dL h3.1 (by omega);rw [g1,Option.bind_some,g0];by_cases hc:p.aV < p.cM
 ·rw [if_pos hc];have e2:Lib.split (Lib.itoa p.aV++([45]++Lib.itoa p.cM)) [45]=[Lib.itoa p.aV,Lib.itoa p.cM]:=by
   have:=jE (l:=Lib.itoa p.aV) (c:=45) (t:=[]) (r:=Lib.itoa p.cM) (jV h2.1 (by decide));simp only [List.cons_append,List.nil_append] at this ⊢;rw [this,fY (jV h3.1 (by decide))]
  rw [vV (by simp only [List.length_append,List.length_singleton];omega) (by simp) (by simp),e2,Option.bind_some,if_neg (by simp),Option.bind_some,AO h1,Option.bind_some];simp only [List.length_cons,List.length_nil,List.getElem?_cons_zero,Option.bind_some];rw [AO h2,Option.bind_some,aQ (by omega)];have g3:([Lib.itoa p.aV,Lib.itoa p.cM]:List aA)[(((0+1+1:Nat):Int) - 1).toNat]?=some (Lib.itoa p.cM):=rfl;rw [g3,Option.bind_some,AO h3,Option.bind_some,if_pos h1.1,if_pos h2.1,Option.bind_some,decide_eq_true h3.1]
 rw [if_neg hc,List.append_nil];have e2:Lib.split (Lib.itoa p.aV) [45]=[Lib.itoa p.aV]:=fY (jV h2.1 (by decide));have hft:p.cM=p.aV:=by unfold fG at h;omega
 rw [vV (by omega) (by simp) (by simp),e2,Option.bind_some,if_neg (by simp),Option.bind_some,AO h1,Option.bind_some];simp only [List.length_cons,List.length_nil,List.getElem?_cons_zero,Option.bind_some];rw [AO h2,Option.bind_some,aQ (by omega)];have g3:([Lib.itoa p.aV]:List aA)[(((0+1:Nat):Int) - 1).toNat]?=some (Lib.itoa p.aV):=rfl;rw [g3,Option.bind_some,AO h2,Option.bind_some,if_pos h1.1,if_pos h2.1,Option.bind_some,decide_eq_true h2.1];congr 2;cases p;simp only at hft ⊢;rw [hft]
end T11
namespace T11
open Go Go.Proofs Pk
theorem vW {sep:aA}:∀ {xs:List aA} {y:aA},xs≠[]→Lib.join (xs++[y]) sep=Lib.join xs sep++sep++y
 | x::xs,y,_=>by
  rw [List.cons_append,Lib.join_cons,Lib.join_cons];unfold Lib.joinTail;simp
theorem LM:∀ {xs:List aA},xs≠[]→[32]++Lib.join xs [44,32]=Lib.join (xs.map ([32] ++ ·)) [44]
 | x::xs,_=>by
  rw [List.map_cons,Lib.join_cons,Lib.join_cons];unfold Lib.joinTail;rw [List.map_map];simp;rfl
def rV (h:aB) (i:Nat):aA:=Lib.join ((h.aG.take i).map fun p=>[32]++bL p) [44]
def ED (h:aB) (i:Nat):aA:=if i=0 then [] else [59,32]++Lib.join (h.aO.take i) [44,32]
theorem IS {h:aB} {i:Nat} {p:aH} (hp:h.aG[i]?=some p):rV h (i+1)=(rV h i++if 0 < i then [44] else [])++([32]++bL p):=by
 have hlt:=(List.getElem?_eq_some_iff.1 hp).1;unfold rV;rw [bY hp,List.map_append,List.map_cons,List.map_nil];by_cases h0:0 < i
 ·rw [if_pos h0,vW (List.ne_nil_of_length_pos (by rw [List.length_map,List.length_take];omega))]
 obtain rfl:i=0:=by omega
 rw [if_neg h0];simp only [List.take_zero,List.map_nil,List.nil_append];rw [Lib.join_one,Lib.join_nil];rfl
theorem IT {h:aB} {i:Nat} {s:aA} (hs:h.aO[i]?=some s):ED h (i+1)=((ED h i++if i=0 then [59] else [44])++[32])++s:=by
 have hlt:=(List.getElem?_eq_some_iff.1 hs).1;unfold ED;rw [if_neg (by omega),bY hs];by_cases h0:i=0
 ·subst h0;simp only [List.take_zero,List.nil_append,if_true];rw [Lib.join_one];rfl
 rw [if_neg h0,if_neg h0,vW (List.ne_nil_of_length_pos (by rw [List.length_take];omega))];simp
theorem EE {h:aB} (hr:Rt h) (i:Nat):(rV h i).length≤690:=by
 have h1:=oH (n:=23) (sep:=[44]) (xs:=(h.aG.take i).map fun p=>[32]++bL p) (fun x hx=>by
   obtain ⟨p,hp,rfl⟩:=List.mem_map.1 hx;have:=jF (hr.2.2.2.2.ok p (List.mem_of_mem_take hp))
   simp only [List.length_append,List.length_singleton];omega)
 have h2:=hr.2.2.2.1;rw [List.length_map,List.length_take] at h1;unfold rV;omega
theorem LN {h:aB} (hr:Rt h) (i:Nat):(ED h i).length≤340:=by
 unfold ED
 split
 ·simp
 have h1:=oH (n:=42) (sep:=[44,32]) (xs:=h.aO.take i) (fun x hx=>by
  have:=(eC hr).2 x (List.mem_of_mem_take hx)
  simp only [List.length_cons,List.length_nil];omega)
 have h2:=hr.2.2.1.1;rw [List.length_take] at h1;simp only [List.length_append,List.length_cons,List.length_nil];omega
theorem EF {α S ε:Type} (l:List α) {step:Nat×S→Option ((Nat×S)⊕ε)} (s:Nat→S) {e:ε}
  (hs:∀ i x,l[i]?=some x→step (i,s i)=some (.inl (i+1,s (i+1)))) (he:step (l.length,s l.length)=some (.inr e)):aY step (0,s 0)=some e:=by
 obtain ⟨x,h1,h2⟩:=eE l (S:=S) (step:=step) (s0:=s 0) (fun i a=>a=s i) (fun x=>x=e) (fun i x a hx hI=>⟨s (i+1),by rw [hI];exact hs i x hx,rfl⟩) (fun a hI=>⟨e,by rw [hI];exact he,rfl⟩) rfl;rw [h1,h2]
theorem e65 {h:aB} (hr:Rt h):TY h=some (eF h):=by
 obtain ⟨h1,h2,h3⟩:=jG hr;have hp:=hr.2.2.2.1;have ha:=hr.2.2.1.1;have k1:aY (zV h) (0,(h.name++[58])++rV h 0)=some ((h.name++[58])++rV h h.aG.length):=by
  refine EF h.aG (S:=aA) (fun i=>(h.name++[58])++rV h i) (fun i p hpp=>?_) (by unfold zV;rw [if_neg (by simp)]);have ho:=hr.2.2.2.2.ok p (List.mem_of_getElem? hpp);have hlt:=(List.getElem?_eq_some_iff.1 hpp).1;obtain ⟨q1,q2,q3⟩:=pU ho;have l1:=dL q1.1 (by omega);have l2:=dL q2.1 (by omega);have l3:=dL q3.1 (by omega);have hpl:=EE hr i;rw [IS hpp];have hc:((if 0 < (i:Int) then chk (((h.name++[58])++rV h i).length+[44].length≤1073741824) (some (((h.name++[58])++rV h i)++[44])) else some ((h.name++[58])++rV h i)):Option aA)=some (((h.name++[58])++rV h i)++if 0 < i then [44] else []):=by
   by_cases h0:0 < i
   ·rw [if_pos (by omega),if_pos h0,aQ (by simp only [List.length_append,List.length_singleton];omega)]
   rw [if_neg (by omega),if_neg h0,List.append_nil]
  have hcl:(((h.name++[58])++rV h i)++if 0 < i then [(44:UInt8)] else []).length≤740:=by
   split
   ·simp only [List.length_append,List.length_singleton];omega
   simp only [List.length_append,List.length_singleton,List.length_nil];omega
  unfold zV;simp only;rw [if_pos (by omega),hpp,Option.bind_some,hc,Option.bind_some];generalize hC:(((h.name++[58])++rV h i)++if 0 < i then [(44:UInt8)] else [])=C at hcl ⊢;have hC2:(h.name++[58])++((rV h i++if 0 < i then [(44:UInt8)] else [])++([32]++bL p))=C++([32]++bL p):=by rw [← hC];simp
  rw [hC2];rw [aQ (by simp only [List.length_singleton];omega),e106 q1,Option.bind_some,aQ (by simp only [List.length_append,List.length_singleton];omega),aQ (by simp only [List.length_append,List.length_singleton];omega),e106 q2,Option.bind_some,aQ (by simp only [List.length_append,List.length_singleton];omega)];unfold bL;by_cases hc:p.aV < p.cM
  ·rw [if_pos hc,if_pos hc,aQ (by simp only [List.length_append,List.length_singleton];omega),e106 q3,Option.bind_some,aQ (by simp only [List.length_append,List.length_singleton];omega),Option.bind_some];simp
  rw [if_neg hc,if_neg hc,Option.bind_some];simp
 have k2:aY (zW h) (0,((h.name++[58])++rV h h.aG.length)++ED h 0)=some (((h.name++[58])++rV h h.aG.length)++ED h h.aO.length):=by
  refine EF h.aO (S:=aA) (fun i=>((h.name++[58])++rV h h.aG.length)++ED h i) (fun i s hss=>?_) (by unfold zW;rw [if_neg (by simp)]);have hlt:=(List.getElem?_eq_some_iff.1 hss).1;have hal:=LN hr i;have hpl:=EE hr h.aG.length;have hsl:=(eC hr).2 s (List.mem_of_getElem? hss);have hD:(((h.name++[58])++rV h h.aG.length)++ED h i).length≤1100:=by simp only [List.length_append,List.length_singleton];omega
  rw [IT hss];unfold zW;simp only;rw [if_pos (by omega)];have hD2:((h.name++[58])++rV h h.aG.length)++(((ED h i++if i=0 then [59] else [44])++[32])++s)=(((((h.name++[58])++rV h h.aG.length)++ED h i)++if i=0 then [59] else [44])++[32])++s:=by simp
  rw [hD2];generalize ((h.name++[58])++rV h h.aG.length)++ED h i=D at hD ⊢;by_cases h0:i=0
  ·rw [if_pos (by omega),if_pos h0,aQ (by simp only [List.length_singleton];omega),Option.bind_some,aQ (by simp only [List.length_append,List.length_singleton];omega),hss,Option.bind_some,aQ (by simp only [List.length_append,List.length_singleton];omega)]
  rw [if_neg (by omega),if_neg h0,aQ (by simp only [List.length_singleton];omega),Option.bind_some,aQ (by simp only [List.length_append,List.length_singleton];omega),hss,Option.bind_some,aQ (by simp only [List.length_append,List.length_singleton];omega)]
 have e0:rV h 0=[]:=rfl;have e1:ED h 0=[]:=rfl;rw [e0,List.append_nil] at k1;rw [e1,List.append_nil] at k2;unfold TY;rw [aQ (by simp only [List.length_singleton];omega),k1,Option.bind_some,k2,Option.bind_some];unfold eF rV ED;rw [List.take_length,List.take_length];by_cases h0:h.aO.length=0
 ·rw [if_pos h0,if_neg (by omega)]
 rw [if_neg h0,if_pos (by omega)]
theorem e27 {l:List aB} (hl:Ix l):RM l=some (fI l):=by
 have hlen:=hl.len;have hv:∀ x∈l,x.aC.length≤8:=fun x hx=>(hl.rt x hx).2.1.1;have hfl:=eO hv;have hsl:=rU hl.nd
 have h1:=fL l (σ:=List aA) (ε:=List aA) (fun a x=>a++aT x) (fun a=>a) (fun i a=>a.length≤9*i) (step:=zX l) (fun i x a hi hx ha=>by
   have:=hv x (List.mem_of_getElem? hx);unfold zX;simp only
   rw [if_pos (by omega),hx,Option.bind_some,PM (by omega),Option.bind_some,aQ (by simp only [aT,List.length_cons];omega)])
  (fun i x a hi hx ha=>by
   have:=hv x (List.mem_of_getElem? hx)
   simp only [List.length_append,aT,List.length_cons];omega)
  (fun a ha=>by unfold zX;simp) (a0:=[]) (by simp)
 rw [jM,List.nil_append] at h1
 have h2:=fL (cZ (l.flatMap aT)) (σ:=aA) (ε:=aA) (fun a s=>a++(cI l s++[10])) (fun a=>a) (fun i a=>a.length≤1101*i) (step:=zY (cZ (l.flatMap aT)) l) (fun i s a hi hs ha=>by
   have hm:=eB.1 (List.mem_of_getElem? hs);have hll:=iA hl hm;obtain ⟨h,hh,hsn⟩:=List.mem_flatMap.1 hm;obtain ⟨k,g1,g2,g3⟩:=jD (DP hh hsn);have hk:=List.mem_of_getElem? g1;have hrk:=hl.rt k hk;have hnl:=(eC hrk).1 _ (bT k);have hsn2:=(eC hrk).1 _ g2;unfold zY;simp only;rw [if_pos (by omega),hs,Option.bind_some,e41 (fun y hy=>by have:=hv y hy;omega),Option.bind_some,aQ (by omega),g1,Option.bind_some];by_cases hn:k.name=s
   ·have hb:=jH hrk;rw [if_pos hn,e65 hrk,Option.bind_some,aQ (by omega),aQ (by simp only [List.length_append,List.length_singleton];omega),Option.bind_some,← hn,eU hl hk];simp
   have hv2:s∈k.aC:=(bU.1 g2).resolve_left fun e=>hn e.symm;rw [if_neg hn,aQ (by omega),aQ (by simp only [List.length_append,List.length_cons,List.length_nil];omega),aQ (by simp only [List.length_append,List.length_cons,List.length_nil];omega),aQ (by simp only [List.length_append,List.length_cons,List.length_nil];omega),Option.bind_some,fZ hl hk hv2];unfold oI
   simp)
  (fun i s a hi hs ha=>by
   have hll:=iA hl (eB.1 (List.mem_of_getElem? hs))
   simp only [List.length_append,List.length_singleton];omega)
  (fun a ha=>by unfold zY;simp) (a0:=[]) (by simp)
 rw [jM,List.nil_append] at h2;unfold RM
 rw [h1,Option.bind_some,e38 (by omega) (fun s hs=>by
  obtain ⟨h,hh,hs⟩:=List.mem_flatMap.1 hs
  have:=(eC (hl.rt h hh)).1 s hs;omega),Option.bind_some,h2]
 rfl
theorem AP {A B:Type} {P:A→Prop} {Q:B→Prop} {X:Option A} {F:A→Option B} (h1:∃ a,X=some a∧P a) (h2:∀ a,P a→∃ r,F a=some r∧Q r):∃ r,X.bind F=some r∧Q r:=by
 obtain ⟨a,rfl,ha⟩:=h1;exact h2 a ha
theorem oK {A B:Type} {X:Option A} {F:A→Option B} {a:A} {r:Option B} (h1:X=some a) (h2:F a=r):X.bind F=r:=by rw [h1];exact h2
theorem t71 {s:aA} (hs:s.length≤1000000):∃ r,PA s=some r∧r.1.aC=[]:=by
 obtain ⟨s1,s2⟩:=gA (s:=s) (t:=[58]);unfold PA;rw [vV hs (by simp) (by simp),Option.bind_some];by_cases h2:(Lib.split s [58]).length=2
 ·rw [if_neg (by omega)];have g0:(Lib.split s [58])[0]?=some ((Lib.split s [58])[0]'(by omega)):=List.getElem?_eq_getElem (by omega);have g1:(Lib.split s [58])[1]?=some ((Lib.split s [58])[1]'(by omega)):=List.getElem?_eq_getElem (by omega);have hl1:=s2 _ (List.mem_of_getElem? g1);rw [g0,Option.bind_some,g1,Option.bind_some];generalize (Lib.split s [58])[1]'(by omega)=x at *;generalize (Lib.split s [58])[0]'(by omega)=y at *;obtain ⟨x1,x2⟩:=gA (s:=x) (t:=[59]);have xn:=oJ (s:=x) (t:=[59]);rw [vV (by omega) (by simp) (by simp),Option.bind_some];by_cases h3:2 < (Lib.split x [59]).length
  ·rw [if_pos (by omega)];exact ⟨_,rfl,rfl⟩
  rw [if_neg (by omega)];have g2:(Lib.split x [59])[0]?=some ((Lib.split x [59])[0]'(by omega)):=List.getElem?_eq_getElem (by omega);have hl2:=x2 _ (List.mem_of_getElem? g2);rw [g2,Option.bind_some];generalize (Lib.split x [59])[0]'(by omega)=u at *;obtain ⟨u1,u2⟩:=gA (s:=u) (t:=[44]);refine AP (P:=fun e=>∀ z,e=.inr z→z.1.aC=[]) ?_ fun r hr=>?_
  ·split
   ·rw [vV (by omega) (by simp) (by simp),Option.bind_some]
    obtain ⟨e,l1,l2⟩:=iB (Lib.split u [44]) (S:=List aH) (step:=lG (Lib.split u [44])) (s0:=[]) (fun i a=>a.length≤i) (fun e=>∀ z,e=.inr (.inr z)→z.1.aC=[]) (fun i q a hq hI=>by
     have hlt:=(List.getElem?_eq_some_iff.1 hq).1;have hql:=u2 q (List.mem_of_getElem? hq);unfold lG;simp only;rw [if_pos (by omega),hq,Option.bind_some];by_cases h1:(q.length:Int) < 1
     ·rw [if_pos h1];exact .inr ⟨_,rfl,fun z hz=>by cases hz;rfl⟩
     obtain ⟨r,hr⟩:=aCq (s:=q.drop 1) (by rw [List.length_drop];omega);rw [if_neg h1,aQ (by omega),hr,Option.bind_some]
     split
     ·rw [aQ (by omega)];exact .inl ⟨_,rfl,by simp;omega⟩
     exact .inr ⟨_,rfl,fun z hz=>by cases hz;rfl⟩) (fun a _=>⟨_,by unfold lG;rw [if_neg (by simp)],fun z hz=>by cases hz⟩) (by simp)
    rw [l1,Option.bind_some];rcases e with e | e | e
    ·exact ⟨_,rfl,fun z hz=>by cases hz⟩
    ·exact ⟨_,rfl,fun z hz=>by cases hz⟩
    exact ⟨_,rfl,fun z hz=>by cases hz;exact l2 _ rfl⟩
   exact ⟨_,rfl,fun z hz=>by cases hz⟩
  cases r with
  | inr z=>exact ⟨_,rfl,hr z rfl⟩
  | inl pl =>
   simp only;refine AP (P:=fun e=>∀ z,e=.inr z→z.1.aC=[]) ?_ fun r hr=>?_
   ·split
    ·have g3:(Lib.split x [59])[1]?=some ((Lib.split x [59])[1]'(by omega)):=List.getElem?_eq_getElem (by omega);have hl3:=x2 _ (List.mem_of_getElem? g3);rw [g3,Option.bind_some];generalize (Lib.split x [59])[1]'(by omega)=v at *;obtain ⟨v1,v2⟩:=gA (s:=v) (t:=[44]);rw [vV (by omega) (by simp) (by simp),Option.bind_some]
     obtain ⟨e,l1,l2⟩:=iB (Lib.split v [44]) (S:=List aA) (step:=qN (Lib.split v [44])) (s0:=[]) (fun i a=>a.length≤i) (fun e=>∀ z,e=.inr (.inr z)→z.1.aC=[]) (fun i q a hq hI=>by
      have hlt:=(List.getElem?_eq_some_iff.1 hq).1;unfold qN;simp only;rw [if_pos (by omega),hq,Option.bind_some];by_cases h1:(q.length:Int) < 1
      ·rw [if_pos h1];exact .inr ⟨_,rfl,fun z hz=>by cases hz;rfl⟩
      rw [if_neg h1,aQ (by omega),aQ (by simp only [List.length_singleton];omega)]
      exact .inl ⟨_,rfl,by simp;omega⟩) (fun a _=>⟨_,by unfold qN;rw [if_neg (by simp)],fun z hz=>by cases hz⟩) (by simp)
     rw [l1,Option.bind_some];rcases e with e | e | e
     ·exact ⟨_,rfl,fun z hz=>by cases hz⟩
     ·exact ⟨_,rfl,fun z hz=>by cases hz⟩
     exact ⟨_,rfl,fun z hz=>by cases hz;exact l2 _ rfl⟩
    exact ⟨_,rfl,fun z hz=>by cases hz⟩
   cases r with
   | inr z=>exact ⟨_,rfl,hr z rfl⟩
   | inl al=>exact ⟨_,rfl,rfl⟩
 rw [if_pos (by omega)];exact ⟨_,rfl,rfl⟩
theorem r71 {h:aB} (hr:Rt h):PA (eF h)=some (nK h,true):=by
 obtain ⟨h1,h2,h3⟩:=jG hr;have hl:=jH hr;have hp:=hr.2.2.2.1;have ha8:=hr.2.2.1.1;have c0:(59:UInt8).toNat=59:=rfl;have c1:(58:UInt8).toNat=58:=rfl;have c2:(44:UInt8).toNat=44:=rfl;have n0:(59:UInt8)∉Lib.join (h.aG.map fun p=>[32]++bL p) [44]:=fun hm=>by have:=jU hr hm;omega
 have hals:∀ c∈Lib.join h.aO [44,32],32≤c.toNat∧c.toNat≠58∧c.toNat≠59:=fun c hc=>by
  rcases tZ hc with hc | ⟨x,hx,hc⟩
  ·simp at hc;rcases hc with rfl | rfl <;> decide
  have:=jI (jT hr (.inr hx)) hc;omega
 have e1:Lib.split (eF h) [58]=[h.name,Lib.join (h.aG.map fun p=>[32]++bL p) [44]++if 0 < h.aO.length then [59,32]++Lib.join h.aO [44,32] else []]:=by
  have e0:eF h=h.name++(58::[]++(Lib.join (h.aG.map fun p=>[32]++bL p) [44]++if 0 < h.aO.length then [59,32]++Lib.join h.aO [44,32] else [])):=by unfold eF;simp
  rw [e0,jE (nF hr.1 58 (by decide))];congr 1;refine fY fun hm=>?_;rcases List.mem_append.1 hm with hm | hm
  ·have:=jU hr hm;omega
  split at hm
  ·rcases List.mem_append.1 hm with hm | hm
   ·simp at hm
   have:=hals _ hm;omega
  cases hm
 have e2:Lib.split (Lib.join (h.aG.map fun p=>[32]++bL p) [44]++if 0 < h.aO.length then [59,32]++Lib.join h.aO [44,32] else []) [59]=Lib.join (h.aG.map fun p=>[32]++bL p) [44]::if 0 < h.aO.length then [[32]++Lib.join h.aO [44,32]] else []:=by
  by_cases ha:0 < h.aO.length
  ·rw [if_pos ha,if_pos ha];have:=jE (l:=Lib.join (h.aG.map fun p=>[32]++bL p) [44]) (c:=59) (t:=[]) (r:=[32]++Lib.join h.aO [44,32]) n0;simp only [List.cons_append,List.nil_append] at this ⊢;rw [this];congr 1;refine fY fun hm=>?_;rcases List.mem_cons.1 hm with hm | hm
   ·exact absurd hm (by decide)
   have:=hals _ hm;omega
  rw [if_neg ha,if_neg ha,List.append_nil];exact fY n0
 have hrest:(Lib.join (h.aG.map fun p=>[32]++bL p) [44]++if 0 < h.aO.length then [59,32]++Lib.join h.aO [44,32] else []).length≤1100:=by
  unfold eF at hl;simp only [List.length_append,List.length_singleton] at hl ⊢;omega
 unfold PA;rw [vV (by omega) (by simp) (by simp),e1,Option.bind_some,if_neg (by simp)];simp only [List.getElem?_cons_zero,List.getElem?_cons_succ,Option.bind_some];rw [vV (by omega) (by simp) (by simp),e2,Option.bind_some];by_cases ha:0 < h.aO.length
 ·rw [if_pos ha,if_neg (by simp)];simp only [List.getElem?_cons_zero,List.getElem?_cons_succ,Option.bind_some];refine oK (a:=.inl h.aG) ?_ ?_
  ·by_cases hps:h.aG=[]
   ·have e0:Lib.join (h.aG.map fun p=>[32]++bL p) [44]=[]:=by rw [hps];rfl
    rw [e0,if_neg (by simp),hps]
   have hne:Lib.join (h.aG.map fun p=>[32]++bL p) [44]≠[]:=by
    cases hq:h.aG with
    | nil=>exact absurd hq hps
    | cons p ps=>rw [List.map_cons,Lib.join_cons];simp
   rw [if_pos hne,vV (by omega) (by simp) (by simp),Option.bind_some,fO (by simpa using hps) (fun x hx hm=>by
    obtain ⟨p,hp',rfl⟩:=List.mem_map.1 hx;rcases List.mem_append.1 hm with hm | hm
    ·simp at hm
    have:=lZ (hr.2.2.2.2.ok p hp') hm;omega)]
   obtain ⟨e,l1,l2⟩:=eE (h.aG.map fun p=>[32]++bL p) (S:=List aH) (step:=lG (h.aG.map fun p=>[32]++bL p)) (s0:=[]) (fun i a=>a=h.aG.take i) (fun e=>e=.inl h.aG) (fun i x a hx hI=>by
    rw [List.getElem?_map] at hx
    cases hq:h.aG[i]? with
    | none=>rw [hq] at hx;cases hx
    | some p =>
     rw [hq] at hx;cases hx;have hlt:=(List.getElem?_eq_some_iff.1 hq).1;have ho:=hr.2.2.2.2.ok p (List.mem_of_getElem? hq);refine ⟨a++[p],?_,by rw [hI,bY hq]⟩;unfold lG;simp only;rw [if_pos (by rw [List.length_map];omega),List.getElem?_map,hq];simp only [Option.map_some,Option.bind_some]
     rw [if_neg (by simp only [List.length_append,List.length_singleton];omega),aQ (by simp),show ∀ x:aA,([(32:UInt8)]++x).drop 1=x from fun _=>rfl,CI ho,Option.bind_some,if_pos rfl,aQ (by rw [hI];simp only [List.length_take];omega)]) (fun a hI=>⟨.inl h.aG,by unfold lG;rw [if_neg (by simp),hI,List.length_map,List.take_length],rfl⟩) (by simp)
   subst l2;rw [l1];rfl
  simp only;have hne:h.aO≠[]:=fun e=>by rw [e] at ha;simp at ha
  rw [if_pos (by simp),vV (by simp only [List.length_append,List.length_singleton];omega) (by simp) (by simp),Option.bind_some,LM hne,fO (by simpa using hne) (fun x hx hm=>by
   obtain ⟨q,hq,rfl⟩:=List.mem_map.1 hx;rcases List.mem_append.1 hm with hm | hm
   ·simp at hm
   exact nF (jT hr (.inr hq)) 44 (by decide) hm)]
  obtain ⟨e,l1,l2⟩:=eE (h.aO.map ([32] ++ ·)) (S:=List aA) (step:=qN (h.aO.map ([32] ++ ·))) (s0:=[]) (fun i a=>a=h.aO.take i) (fun e=>e=.inl h.aO) (fun i x a hx hI=>by
   rw [List.getElem?_map] at hx
   cases hq:h.aO[i]? with
   | none=>rw [hq] at hx;cases hx
   | some p =>
    rw [hq] at hx;cases hx;have hlt:=(List.getElem?_eq_some_iff.1 hq).1;refine ⟨a++[p],?_,by rw [hI,bY hq]⟩;unfold qN;simp only;rw [if_pos (by rw [List.length_map];omega),List.getElem?_map,hq];simp only [Option.map_some,Option.bind_some]
    rw [if_neg (by simp only [List.length_append,List.length_singleton];omega),aQ (by simp),show ∀ x:aA,([(32:UInt8)]++x).drop 1=x from fun _=>rfl,aQ (by rw [hI];simp only [List.length_take,List.length_singleton];omega)]) (fun a hI=>⟨.inl h.aO,by unfold qN;rw [if_neg (by simp),hI,List.length_map,List.take_length],rfl⟩) (by simp)
  subst l2;rw [l1];rfl
 rw [if_neg ha,if_neg (by simp)];simp only [List.getElem?_cons_zero,Option.bind_some];refine oK (a:=.inl h.aG) ?_ ?_
 ·by_cases hps:h.aG=[]
  ·have e0:Lib.join (h.aG.map fun p=>[32]++bL p) [44]=[]:=by rw [hps];rfl
   rw [e0,if_neg (by simp),hps]
  have hne:Lib.join (h.aG.map fun p=>[32]++bL p) [44]≠[]:=by
   cases hq:h.aG with
   | nil=>exact absurd hq hps
   | cons p ps=>rw [List.map_cons,Lib.join_cons];simp
  rw [if_pos hne,vV (by omega) (by simp) (by simp),Option.bind_some,fO (by simpa using hps) (fun x hx hm=>by
   obtain ⟨p,hp',rfl⟩:=List.mem_map.1 hx;rcases List.mem_append.1 hm with hm | hm
   ·simp at hm
   have:=lZ (hr.2.2.2.2.ok p hp') hm;omega)]
  obtain ⟨e,l1,l2⟩:=eE (h.aG.map fun p=>[32]++bL p) (S:=List aH) (step:=lG (h.aG.map fun p=>[32]++bL p)) (s0:=[]) (fun i a=>a=h.aG.take i) (fun e=>e=.inl h.aG) (fun i x a hx hI=>by
   rw [List.getElem?_map] at hx
   cases hq:h.aG[i]? with
   | none=>rw [hq] at hx;cases hx
   | some p =>
    rw [hq] at hx;cases hx;have hlt:=(List.getElem?_eq_some_iff.1 hq).1;have ho:=hr.2.2.2.2.ok p (List.mem_of_getElem? hq);refine ⟨a++[p],?_,by rw [hI,bY hq]⟩;unfold lG;simp only;rw [if_pos (by rw [List.length_map];omega),List.getElem?_map,hq];simp only [Option.map_some,Option.bind_some]
    rw [if_neg (by simp only [List.length_append,List.length_singleton];omega),aQ (by simp),show ∀ x:aA,([(32:UInt8)]++x).drop 1=x from fun _=>rfl,CI ho,Option.bind_some,if_pos rfl,aQ (by rw [hI];simp only [List.length_take];omega)]) (fun a hI=>⟨.inl h.aG,by unfold lG;rw [if_neg (by simp),hI,List.length_map,List.take_length],rfl⟩) (by simp)
  subst l2;rw [l1];rfl
 simp only;have:h.aO=[]:=List.length_eq_zero_iff.1 (by omega);rw [if_neg (by simp),Option.bind_some];unfold nK;simp [this]
end T11
namespace T11
open Go Go.Proofs Pk
def rF (n:aA) (g:aB):Bool:=decide (g.name=n∧g.aC.length < 8)
def upd (n v:aA) (g:aB):aB:=if rF n g then ⟨g.name,g.aC++[v],g.aO,g.aG⟩ else g
theorem LO (n v:aA) (g:aB) (h:g.aC.length≤8):(upd n v g).aC.length≤8:=by
 unfold upd
 split
 ·rename_i hc
  unfold rF at hc;have:=(of_decide_eq_true hc).2;simp;omega
 exact h
theorem IU {t out:List aB} {r:List aA} {v n:aA} (h0:r[0]?=some v) (h1:r[1]?=some n) (hl:out.length=t.length) (hv:∀ g∈out,g.aC.length≤8) :
  aY (tM t r) (0,false,out)=some (out.any (rF n),out.map (upd n v)):=by
 have key:∀ k i (a b:List aB) (f:Bool),b.length=k→a.length=i→i+k=t.length→(∀ g∈b,g.aC.length≤8)→aY (tM t r) (i,f,a++b)=some (f||b.any (rF n),a++b.map (upd n v)):=by
  intro k
  induction k with
  | zero =>
   intro i a b f hb ha hk _;obtain rfl:=List.length_eq_zero_iff.1 hb;refine bN ?_;unfold tM;simp only;rw [if_neg (by omega)];simp
  | succ k ih =>
   intro i a b f hb ha hk hg
   cases b with
   | nil=>simp at hb
   | cons g b =>
    have hgl:=hg g List.mem_cons_self;have g0:(a++g::b)[i]?=some g:=by rw [List.getElem?_append_right (by omega),ha];simp
    have hs:tM t r (i,f,a++g::b)=some (.inl (i+1,f||rF n g,(a++[upd n v g])++b)):=by
     unfold tM;simp only;rw [if_pos (by simp at hb;omega),g0,Option.bind_some,h1,Option.bind_some];have hc:((if g.name=n then some (decide ((g.aC.length:Int) < 8)) else some false):Option Bool)=some (rF n g):=by
      unfold rF;by_cases e:g.name=n
      ·rw [if_pos e];congr 1;rw [decide_eq_decide];exact ⟨fun h=>⟨e,by omega⟩,fun h=>by have:=h.2;omega⟩
      rw [if_neg e];congr 1;symm;rw [decide_eq_false_iff_not];exact fun h=>e h.1
     rw [hc,Option.bind_some];unfold upd
     cases rF n g with
     | true =>
      simp only [if_true];rw [h0,Option.bind_some,Option.bind_some,aQ (by simp only [List.length_singleton];omega),Option.bind_some];simp only;have:=IR (a:=a) (b:=b) (x:=g) (y:=⟨g.name,g.aC++[v],g.aO,g.aG⟩);rw [ha] at this;rw [this];simp
     | false=>simp
    rw [cC hs,ih (i+1) _ b _ (by simpa using hb) (by simp;omega) (by omega) (fun q hq=>hg q (List.mem_cons_of_mem _ hq))];simp [Bool.or_assoc]
 have:=key out.length 0 [] out false rfl rfl (by omega) hv;simpa using this
theorem PT {b:aA} (hb:b.length≤200000):∃ z,PB b=some z∧(z=([],false)∨∃ y,z=(y,true)∧Ix y∧fI y=b):=by
 obtain ⟨s1,s2⟩:=gA (s:=b) (t:=[10]);have s3:=oJ (s:=b) (t:=[10]);unfold PB;rw [vV (by omega) (by simp) (by simp),Option.bind_some];have hout:∀ r:List aA,r.length≤2→1≤r.length→True:=fun _ _ _=>trivial;have k1:∃ e,aY (qO (Lib.split b [10])) (0,([]:List aB))=some e∧(e=.inr ([],false)∨∃ t,e=.inl t∧t.length≤60∧∀ g∈t,g.aC.length≤8):=by
  refine iB ((Lib.split b [10]).take ((Lib.split b [10]).length - 1)) (S:=List aB) (s0:=[]) (fun i a=>a.length≤60∧∀ g∈a,g.aC.length≤8) (fun e:List aB⊕(List aB×Bool)=>e=.inr ([],false)∨∃ t,e=.inl t∧t.length≤60∧∀ g∈t,g.aC.length≤8) (fun i x a hx hI=>?_) (fun a hI=>?_) ⟨by simp,by simp⟩
  ·have hlt:=(List.getElem?_eq_some_iff.1 hx).1;rw [List.length_take] at hlt;rw [List.getElem?_take_of_lt (by omega)] at hx;have hxl:=s2 x (List.mem_of_getElem? hx);unfold qO;simp only;rw [aQ (by omega),if_pos (by omega),hx,Option.bind_some,vV (by omega) (by simp) (by simp),Option.bind_some];by_cases h2:((Lib.split x [32,61,32]).length:Int)=2
   ·rw [if_pos h2];exact .inl ⟨a,rfl,hI⟩
   obtain ⟨r,hr,hrv⟩:=t71 (s:=x) (by omega);rw [if_neg h2,hr,Option.bind_some];have fin:∀ (q:Bool),(q=false→a.length < 60∧r.1.aC.length≤8)→((∃ s',(if q=true then some (Sum.inr (Sum.inr (Sum.inr (([]:List aB),false)))) else chk (a.length+1≤1073741824) (some (Sum.inl (a++[r.1]))))=some (Sum.inl s':List aB⊕((Nat×List aB)⊕(List aB⊕(List aB×Bool))))∧s'.length≤60∧∀ g∈s',g.aC.length≤8)∨(if q=true then some (Sum.inr (Sum.inr (Sum.inr (([]:List aB),false)))) else chk (a.length+1≤1073741824) (some (Sum.inl (a++[r.1]))))=some (Sum.inr (Sum.inr (Sum.inr (([]:List aB),false))):List aB⊕((Nat×List aB)⊕(List aB⊕(List aB×Bool))))):=fun q hq=>by
    cases q with
    | true=>exact .inr rfl
    | false =>
     obtain ⟨q1,q2⟩:=hq rfl;refine .inl ⟨a++[r.1],by rw [if_neg (by decide),aQ (by omega)],by simp;omega,fun g hg=>?_⟩;rcases List.mem_append.1 hg with hg | hg
     ·exact hI.2 g hg
     simp at hg;rw [hg];exact q2
   have hv:r.1.aC.length≤8:=by rw [hrv];simp
   by_cases hr2:r.2=true
   ·rw [if_pos hr2,Option.bind_some];rcases fin (decide (60≤(a.length:Int))) (fun h=>⟨by have:=of_decide_eq_false h;omega,hv⟩) with ⟨s',f1,f2⟩ | f1
    ·rw [f1];exact .inl ⟨s',rfl,f2⟩
    rw [f1];exact .inr ⟨_,rfl,.inl rfl⟩
   rw [if_neg hr2,Option.bind_some];exact .inr ⟨_,rfl,.inl rfl⟩
  refine ⟨.inl a,?_,.inr ⟨a,rfl,hI⟩⟩;unfold qO;simp only;rw [List.length_take,aQ (by omega),if_neg (by omega)]
 obtain ⟨e,k1,k2⟩:=k1;rw [k1,Option.bind_some];rcases k2 with rfl | ⟨t,rfl,t1,t2⟩
 ·exact ⟨_,rfl,.inl rfl⟩
 simp only;have k3:∃ e,aY (qP (Lib.split b [10]) t) (0,t)=some e∧(e=.inr ([],false)∨∃ y,e=.inl y):=by
  refine iB ((Lib.split b [10]).take ((Lib.split b [10]).length - 1)) (S:=List aB) (s0:=t) (fun i a=>a.length=t.length∧∀ g∈a,g.aC.length≤8) (fun e:List aB⊕(List aB×Bool)=>e=.inr ([],false)∨∃ y,e=.inl y) (fun i x a hx hI=>?_) (fun a hI=>?_) ⟨rfl,t2⟩
  ·have hlt:=(List.getElem?_eq_some_iff.1 hx).1;rw [List.length_take] at hlt;rw [List.getElem?_take_of_lt (by omega)] at hx;have hxl:=s2 x (List.mem_of_getElem? hx);unfold qP;simp only;rw [aQ (by omega),if_pos (by omega),hx,Option.bind_some,vV (by omega) (by simp) (by simp),Option.bind_some];by_cases h2:((Lib.split x [32,61,32]).length:Int)=2
   ·have g0:(Lib.split x [32,61,32])[0]?=some ((Lib.split x [32,61,32])[0]'(by omega)):=List.getElem?_eq_getElem (by omega);have g1:(Lib.split x [32,61,32])[1]?=some ((Lib.split x [32,61,32])[1]'(by omega)):=List.getElem?_eq_getElem (by omega);rw [if_neg (by omega),IU g0 g1 hI.1 hI.2,Option.bind_some];simp only
    split
    ·refine .inl ⟨_,rfl,by simp [hI.1],fun g hg=>?_⟩;obtain ⟨q,hq,rfl⟩:=List.mem_map.1 hg;exact LO _ _ _ (hI.2 q hq)
    exact .inr ⟨_,rfl,.inl rfl⟩
   rw [if_pos h2];exact .inl ⟨a,rfl,hI⟩
  refine ⟨.inl a,?_,.inr ⟨a,rfl⟩⟩;unfold qP;simp only;rw [List.length_take,aQ (by omega),if_neg (by omega)]
 obtain ⟨e,k3,k4⟩:=k3;rw [k3,Option.bind_some];rcases k4 with rfl | ⟨y,rfl⟩
 ·exact ⟨_,rfl,.inl rfl⟩
 simp only;rw [XW,Option.bind_some];by_cases hf:cY y=0
 ·have hix:=gC.1 hf;rw [if_neg (by simpa using hf),e27 hix,Option.bind_some,Option.bind_some];by_cases he:fI y=b
  ·exact ⟨(y,true),by simp [he],.inr ⟨y,rfl,hix,he⟩⟩
  exact ⟨([],false),by simp [he],.inl rfl⟩
 exact ⟨([],false),by rw [if_pos (by simpa using hf)];rfl,.inl rfl⟩
section
variable {l:List aB}
theorem uF {h:aB} (hr:Rt h):Lib.split (eF h) [32,61,32]=[eF h]:=nH (pS fun hm=>by have:=uA hr hm;exact this.2 rfl)
theorem vX (hl:Ix l) {h:aB} (hh:h∈l) {v:aA} (hv:v∈h.aC):Lib.split (oI v h.name) [32,61,32]=[v,h.name]:=by
 have hr:=hl.rt h hh;have h1:=FV (l:=v) (c:=32) (e:=61) (t:=[32]) (r:=h.name) (by decide) (nF (jT hr (.inl (bU.2 (.inr hv)))) 61 (by decide));have e:oI v h.name=v++(32::61::[32]++h.name):=by unfold oI;simp
 rw [e,h1,nH (pS (nF hr.1 61 (by decide)))]
def rG (l:List aB) (ss:List aA) (h:aB):aB:=⟨h.name,ss.filter (lM l h.name),h.aO,h.aG⟩
theorem r29 (hl:Ix l):PB (fI l)=some (l,true):=by
 have hfl:=uD hl;have hlen:=hl.len;have hsl:=rU hl.nd;have hnl:=jS hl.rt;have hmem:∀ s∈cZ (l.flatMap aT),s∈l.flatMap aT:=fun s hs=>eB.1 hs;have e1:fI l=((cZ (l.flatMap aT)).map (cI l)).flatMap fun x=>x++[10]:=by unfold fI;rw [List.flatMap_map]
 have hsp:Lib.split (fI l) [10]=(cZ (l.flatMap aT)).map (cI l)++[[]]:=by
  rw [e1];refine lL fun x hx=>?_;obtain ⟨s,hs,rfl⟩:=List.mem_map.1 hx;exact EC hl (hmem s hs)
 have hget:∀ {i s},(cZ (l.flatMap aT))[i]?=some s→((cZ (l.flatMap aT)).map (cI l)++[[]])[i]?=some (cI l s):=fun {i s} hs=>by
  have hlt:=(List.getElem?_eq_some_iff.1 hs).1;rw [List.getElem?_append_left (by rw [List.length_map];exact hlt),List.getElem?_map,hs];rfl
 have hln:((cZ (l.flatMap aT)).map (cI l)++[[]]).length=(cZ (l.flatMap aT)).length+1:=by simp
 unfold PB;rw [vV (by omega) (by simp) (by simp),Option.bind_some,hsp];have hcl:∀ n,(((cZ (l.flatMap aT)).take n).filterMap (fP l)).length≤l.length:=fun n=>by
  have h1:=pV hl;have h2:(((cZ (l.flatMap aT)).take n).filterMap (fP l)).Sublist ((cZ (l.flatMap aT)).filterMap (fP l)):=(List.take_sublist n _).filterMap _;have:=h2.length_le;rw [h1,List.length_map] at this;exact this
 refine oK (a:=.inl (l.map nK)) ?_ ?_
 ·obtain ⟨e,h1,h2⟩:=eE (cZ (l.flatMap aT)) (S:=List aB) (step:=qO ((cZ (l.flatMap aT)).map (cI l)++[[]])) (s0:=[]) (fun i a=>a=((cZ (l.flatMap aT)).take i).filterMap (fP l)) (fun e=>e=.inl (l.map nK)) (fun i s a hs hI=>by
   have hlt:=(List.getElem?_eq_some_iff.1 hs).1;obtain ⟨h,hh,hsn⟩:=List.mem_flatMap.1 (hmem s (List.mem_of_getElem? hs));have hr:=hl.rt h hh;have hll:=iA hl (hmem s (List.mem_of_getElem? hs));refine ⟨((cZ (l.flatMap aT)).take (i+1)).filterMap (fP l),?_,rfl⟩;unfold qO;simp only;rw [aQ (by omega),if_pos (by omega),hget hs,Option.bind_some,vV (by omega) (by simp) (by simp),Option.bind_some,bY hs,List.filterMap_append,← hI];by_cases hv:s∈h.aC
   ·rw [fZ hl hh hv,vX hl hh hv,if_pos (by simp)];simp [uB hl hh hv]
   obtain rfl:s=h.name:=(bU.1 hsn).resolve_right hv;have hc1:=hcl (i+1);rw [bY hs,List.filterMap_append,← hI] at hc1;simp only [List.filterMap_cons,gB hl hh,List.filterMap_nil,List.length_append,List.length_singleton] at hc1;rw [eU hl hh,uF hr,if_neg (by simp),r71 hr,Option.bind_some];simp only [if_true,Option.bind_some];rw [if_neg (by simp;omega),aQ (by omega)]
   simp [gB hl hh]) (fun a hI=>⟨.inl a,by
    unfold qO;simp only
    rw [aQ (by omega),if_neg (by omega)],by rw [List.take_length,pV hl] at hI;rw [hI]⟩) rfl
  rw [h1,h2]
 simp only;refine oK (a:=.inl l) ?_ ?_
 ·obtain ⟨e,h1,h2⟩:=eE (cZ (l.flatMap aT)) (S:=List aB) (step:=qP ((cZ (l.flatMap aT)).map (cI l)++[[]]) (l.map nK)) (s0:=l.map nK) (fun i a=>a=l.map (rG l ((cZ (l.flatMap aT)).take i))) (fun e=>e=.inl l) (fun i s a hs hI=>by
   have hlt:=(List.getElem?_eq_some_iff.1 hs).1;obtain ⟨h,hh,hsn⟩:=List.mem_flatMap.1 (hmem s (List.mem_of_getElem? hs));have hr:=hl.rt h hh;have hll:=iA hl (hmem s (List.mem_of_getElem? hs));have hfull:∀ g∈l,∀ n,(((cZ (l.flatMap aT)).take n).filter (lM l g.name)).length≤g.aC.length:=fun g hg n=>by
    have h1:=uC hl hg;have h2:(((cZ (l.flatMap aT)).take n).filter (lM l g.name)).Sublist ((cZ (l.flatMap aT)).filter (lM l g.name)):=(List.take_sublist n _).filter _;have:=h2.length_le;rw [h1] at this;exact this
   refine ⟨l.map (rG l ((cZ (l.flatMap aT)).take (i+1))),?_,rfl⟩;unfold qP;simp only;rw [aQ (by omega),if_pos (by omega),hget hs,Option.bind_some,vV (by omega) (by simp) (by simp),Option.bind_some];by_cases hv:s∈h.aC
   ·have hlv:∀ g∈a,g.aC.length≤8:=fun g hg=>by
     rw [hI] at hg;obtain ⟨q,hq,rfl⟩:=List.mem_map.1 hg;have:=hfull q hq i;have:=(hl.rt q hq).2.1.1;show (((cZ (l.flatMap aT)).take i).filter (lM l q.name)).length≤8;omega
    have hnx:=hfull h hh (i+1);rw [bY hs,List.filter_append,List.length_append] at hnx;simp only [List.filter_cons,fQ hl hh hv,decide_true,if_true,List.filter_nil,List.length_singleton] at hnx;have hv8:=hr.2.1.1;have hc:rF h.name (rG l ((cZ (l.flatMap aT)).take i) h)=true:=by
     unfold rF rG;simp only [decide_eq_true_eq];exact ⟨trivial,by omega⟩
    rw [fZ hl hh hv,vX hl hh hv,if_neg (by simp),IU (v:=s) (n:=h.name) rfl rfl (by rw [hI];simp) hlv,Option.bind_some];simp only;have hany:a.any (rF h.name)=true:=List.any_eq_true.2 ⟨_,by rw [hI];exact List.mem_map_of_mem hh,hc⟩;rw [hany,if_pos rfl];have hmap:a.map (upd h.name s)=l.map (rG l ((cZ (l.flatMap aT)).take (i+1))):=by
     rw [hI,List.map_map];refine List.map_congr_left fun g hg=>?_;simp only [Function.comp_apply];by_cases e:g.name=h.name
     ·have eg:g=h:=hl.uniq hg hh (bT g) (e▸bT h);subst eg;unfold upd;rw [if_pos hc];unfold rG;simp only;rw [bY hs,List.filter_append];congr 2;simp [fQ hl hh hv]
     unfold upd;rw [if_neg (by unfold rF rG;simp [e])];unfold rG;congr 1;rw [bY hs,List.filter_append];have e':¬h.name=g.name:=fun q=>e q.symm;simp [fQ hl hh hv,e']
    rw [hmap,Option.bind_some]
   ·obtain rfl:s=h.name:=(bU.1 hsn).resolve_right hv;rw [eU hl hh,uF hr,if_pos (by simp)];have hmap:a=l.map (rG l ((cZ (l.flatMap aT)).take (i+1))):=by
     rw [hI];refine List.map_congr_left fun g hg=>?_;unfold rG;congr 1;rw [bY hs,List.filter_append];simp [nG hl hh]
    rw [← hmap,Option.bind_some]) (fun a hI=>⟨.inl a,by
     unfold qP;simp only;rw [aQ (by omega),if_neg (by omega)],by
     rw [List.take_length] at hI;rw [hI];congr 1
     conv=>rhs;rw [← List.map_id l]
     refine List.map_congr_left fun g hg=>?_;unfold rG
     rw [uC hl hg];rfl⟩) (by
   refine List.map_congr_left fun g hg=>?_;unfold rG nK
   simp)
  rw [h1,h2]
 simp only;rw [XW,Option.bind_some,if_neg (by simpa using gC.2 hl),e27 hl];simp
end
theorem aCs (l:List aB):∃ x,DH l=some x∧(cY l≠0→x=([],cY l))∧(cY l=0→x=(fI l,0)):=by
 by_cases h:cY l=0
 ·exact ⟨_,e25 (gC.1 h),fun h'=>absurd h h',fun _=>rfl⟩
 refine ⟨([],cY l),?_,fun _=>rfl,fun h'=>absurd h' h⟩;unfold DH;rw [RV,Option.bind_some,if_pos (by simpa using h)]
theorem aCt (hawk:m16=some true) (l:List aB) (b:List UInt8):m4 l b=some true:=by
 unfold m4;rw [e17,Option.bind_some,hawk]
 cases hfew:FS l with
 | false=>rfl
 | true =>
  rw [if_pos rfl];have hg:((if 2000 < (b.length:Int) then some (decide ((b.length:Int)≠200001)) else some false):Option Bool)=some (decide (2000 < b.length∧b.length≠200001)):=by
   by_cases h:2000 < b.length
   ·rw [if_pos (by omega)];congr 1;rw [decide_eq_decide];omega
   rw [if_neg (by omega)];congr 1;symm;rw [decide_eq_false_iff_not];omega
  rw [hg,Option.bind_some];by_cases hb:2000 < b.length∧b.length≠200001
  ·rw [if_pos (by simpa using hb)];rfl
  rw [if_neg (by simpa using hb),LD hfew,Option.bind_some];obtain ⟨x,hx,x1,x2⟩:=aCs l;rw [hx,Option.bind_some,XW,Option.bind_some];refine oK (a:=.inl ()) ?_ ?_
  ·by_cases hf:cY l=0
   ·rw [if_neg (by simpa using hf),x2 hf,if_neg (by simp),e27 (gC.1 hf),Option.bind_some];simp
   rw [if_pos hf,x1 hf];simp
  simp only;rw [aQ (by simp only [List.length_nil];omega),List.nil_append];by_cases hbig:200000 < b.length
  ·have e:vJ b=some ([],3):=by unfold vJ;rw [if_pos (by omega)]
   rw [e,Option.bind_some,if_pos (by omega)];rfl
  obtain ⟨z,h1,h2⟩:=t28 (b:=b) (by omega);obtain ⟨y,h3,h4⟩:=PT (b:=b) (by omega);rcases h4 with rfl | ⟨y,rfl,hy,hyf⟩
  ·rcases h2 with rfl | ⟨q,rfl,hq,hqf⟩
   ·rw [h1,Option.bind_some,if_neg (by omega),h3];rfl
   have:=r29 hq;rw [hqf,h3] at this;cases this
  have hr:=r28 hy;rw [hyf] at hr;rw [hr,Option.bind_some,if_neg (by omega),h3,Option.bind_some];simp only [if_true];rw [hy.e24,Option.bind_some,e23];simp
end T11
namespace Pk
open Go
def LP:Nat→Nat→List UInt8
 | 0,u=>[UInt8.ofNat (48+u)]
 | f+1,u=>if u < 10 then [UInt8.ofNat (48+u)] else LP f (u/10)++[UInt8.ofNat (48+u%10)]
theorem EG:∀ (f u:Nat),u < 10 ^ f→LP f u=Lib.decDigits u
 | 0,u,h=>by
  have:u=0:=by simpa using h
  subst this;rw [Lib.decDigits,dif_pos (by decide)];rfl
 | f+1,u,h=>by
  rw [Lib.decDigits,LP]
  split
  ·rfl
  rw [EG f (u/10) (by rw [Nat.pow_succ] at h;omega)]
def IV (n:Int):Option aA:=if 0≤n∧n≤999999 then some (LP 6 n.toNat) else none
theorem VL (n:Int):bH (IV n) (yS n):=fun r hr=>by
  unfold IV at hr
  split at hr
  · rename_i h
    cases hr;unfold yS;rw [aQ (by omega)];unfold Lib.itoa
    rw [if_neg (by omega), EG 6 _ (by have:(10:Nat) ^ 6=1000000 := by decide
                                      omega)]
  cases hr
end Pk
namespace T11.E
open Go Go.Proofs Pk
def wZ (s:aA):Option (Int×Bool):=cO (s.length≤1073741824) (some (mH s))
theorem VM (s:aA):bH (T11.E.wZ s) (T11.wZ s):=bH.chk (bH.refl _)
def pG (n:Int):Option aA:=IV n
theorem VN (n:Int):bH (T11.E.pG n) (T11.pG n):=VL n
def xW (s t:aA):Option (aA×aA×Bool):=cO (s.length≤1073741824) (some (Lib.cut s t))
theorem PU (s t:aA):bH (T11.E.xW s t) (T11.xW s t):=bH.chk (bH.refl _)
def zF (s t:aA):Option Bool:=cO (s.length≤1073741824) (some (Lib.contains s t))
theorem VO (s t:aA):bH (T11.E.zF s t) (T11.zF s t):=bH.chk (bH.refl _)
def zG (s t:aA):Option aA:=some (Lib.trimPrefix s t)
theorem VP (s t:aA):bH (T11.E.zG s t) (T11.zG s t):=bH.refl _
def KP (a b:aA):Option Int:=some (Lib.compareBytes a b)
theorem aCu (s t:aA):bH (T11.E.KP s t) (T11.KP s t):=bH.refl _
def zH (s:aA) (r:Int):Option Bool:=cO (0≤r∧r < 128) (some (decide (0≤Lib.indexByte s r.toNat.toUInt8)))
theorem VQ (s:aA) (r:Int):bH (T11.E.zH s r) (T11.zH s r):=bH.chk (bH.refl _)
def uN (s t:aA):Option aA:=match t with
 | [c]=>cO (s.length≤1073741824∧c.toNat < 128) (some (Lib.trimB s c))
 | _=>none
theorem VR (s t:aA):bH (T11.E.uN s t) (T11.uN s t):=by
 intro r h;unfold T11.E.uN at h
 split at h
 ·exact bH.chk (bH.refl _) r h
 cases h
def CZ (s t:aA):Option (List aA):=cO (s.length≤1073741824∧1≤t.length) (some ((Lib.splitB (bs t) 0 (Lib.countB (bs s) (bs t)) (bs s)).map (·.data.toList)))
theorem VS (s t:aA):bH (T11.E.CZ s t) (T11.CZ s t):=bH.chk (bH.refl _)
def pH (l:List aA) (sep:aA):Option aA:=cO (l.length≤1073741824∧(Lib.join l sep).length≤1073741824) (some (Lib.join l sep))
theorem VT (l:List aA) (sep:aA):bH (T11.E.pH l sep) (T11.pH l sep):=bH.chk (bH.refl _)
end T11.E
set_option maxHeartbeats 4000000
namespace T11.E
open Go Go.Proofs Pk
def JC  : Option (List (List aB)) :=
 some ([([(⟨[67,111,114,110,32,76,97,119,115],([]:List aA),([[84,114,97,100,101]]:List aA),([(⟨3,12,14⟩:aH),(⟨4,1,1⟩:aH)]:List aH)⟩:aB),(⟨[76,101,101,32,65,110,110],([[65,32,76,101,101]]:List aA),([]:List aA),([(⟨3,7,7⟩:aH)]:List aH)⟩:aB),(⟨[84,114,97,100,101],([]:List aA),([]:List aA),([(⟨3,13,13⟩:aH)]:List aH)⟩:aB)]:List aB),([(⟨[65,32,76,101,101],([[76,97,100,121,32,76,101,101]]:List aA),([]:List aA),([(⟨9,1,2⟩:aH)]:List aH)⟩:aB),(⟨[67,111,114,110,32,108,97,119,115],([[67,111,114,110,32,76,97,119,115]]:List aA),([]:List aA),([(⟨4,2,2⟩:aH)]:List aH)⟩:aB)]:List aB)]:List (List aB))
theorem aCv  : bH (JC ) (T11.JC ):=by
 unfold JC T11.JC
 repeat' with_reducible first|exact dK _
def sY (x_0:aB) (f0_:aB→Option Bool):Option (Bool) :=
 (f0_ x_0).bind fun r0 =>
 some (!r0)
theorem VU (x_0:aB) {f0_ f0_':aB→Option Bool} (hf0_:∀ y0,bH (f0_ y0) (f0_' y0)):bH (sY x_0 f0_) (T11.sY x_0 f0_'):=by
 unfold sY T11.sY
 repeat' with_reducible first|exact dK _|exact hf0_ _|refine dM ?_ fun _=>?_
def kN (s_0:List aB) (f_1:aB→Option Bool) (s0:Nat):Option ((Nat)⊕((Unit)⊕Int)) :=
 if (s0:Int) < (s_0.length:Int) then (
  (s_0[s0]?).bind fun x0 =>
  (f_1 x0).bind fun r0 =>
  if r0 then (
   some (.inr (.inr (s0:Int))))
  else
  some (.inl (s0+1)))
 else
 some (.inr (.inl ()))
theorem LQ (s_0:List aB) {f_1 f_1':aB→Option Bool} (hf_1:∀ y0,bH (f_1 y0) (f_1' y0)) (s0:Nat):bH (kN s_0 f_1 s0) (T11.kN s_0 f_1' s0):=by
 unfold kN T11.kN
 repeat' with_reducible first|exact dK _|exact hf_1 _|refine eW ?_ ?_|refine dM ?_ fun _=>?_
def xC (s_0:List aB) (f_1:aB→Option Bool):Option (Int) :=
 (loopE (kN s_0 f_1) 0).bind fun e29=>match e29 with
 | .inr z=>some z
 | .inl t0 =>
 some (-1)
theorem VV (s_0:List aB) {f_1 f_1':aB→Option Bool} (hf_1:∀ y0,bH (f_1 y0) (f_1' y0)):bH (xC s_0 f_1) (T11.xC s_0 f_1'):=by
 unfold xC T11.xC
 repeat' with_reducible first|exact dK _|refine LQ _ (fun _=>?_) _|exact hf_1 _|refine oL (fun _=>?_) _|(refine uM ?_ (fun _=>?_) (fun _=>?_)<;>try dsimp only)|refine dM ?_ fun _=>?_
def xD (s_0:List aB) (f_1:aB→Option Bool):Option (Bool) :=
 (xC s_0 f_1).bind fun r1 =>
 some (decide (0≤r1))
theorem VW (s_0:List aB) {f_1 f_1':aB→Option Bool} (hf_1:∀ y0,bH (f_1 y0) (f_1' y0)):bH (xD s_0 f_1) (T11.xD s_0 f_1'):=by
 unfold xD T11.xD
 repeat' with_reducible first|exact dK _|refine VV _ (fun _=>?_)|exact hf_1 _|refine dM ?_ fun _=>?_
def BQ (l_0:List aB) (right:aB→Option Bool):Option (Bool) :=
 (xD l_0 (fun x0_=>sY x0_ right)).bind fun r5 =>
 some (!r5)
theorem aCw (l_0:List aB) {right right':aB→Option Bool} (hright:∀ y0,bH (right y0) (right' y0)):bH (BQ l_0 right) (T11.BQ l_0 right'):=by
 unfold BQ T11.BQ
 repeat' with_reducible first|exact dK _|refine VW _ (fun _=>?_)|refine VU _ (fun _=>?_)|exact hright _|refine dM ?_ fun _=>?_
def sZ (x_0:aA) (f0_:aA→Option Bool):Option (Bool) :=
 (f0_ x_0).bind fun r1 =>
 some (!r1)
theorem VX (x_0:aA) {f0_ f0_':aA→Option Bool} (hf0_:∀ y0,bH (f0_ y0) (f0_' y0)):bH (sZ x_0 f0_) (T11.sZ x_0 f0_'):=by
 unfold sZ T11.sZ
 repeat' with_reducible first|exact dK _|exact hf0_ _|refine dM ?_ fun _=>?_
def kO (s_0:List aA) (f_1:aA→Option Bool) (s0:Nat):Option ((Nat)⊕((Unit)⊕Int)) :=
 if (s0:Int) < (s_0.length:Int) then (
  (s_0[s0]?).bind fun x0 =>
  (f_1 x0).bind fun r0 =>
  if r0 then (
   some (.inr (.inr (s0:Int))))
  else
  some (.inl (s0+1)))
 else
 some (.inr (.inl ()))
theorem LS (s_0:List aA) {f_1 f_1':aA→Option Bool} (hf_1:∀ y0,bH (f_1 y0) (f_1' y0)) (s0:Nat):bH (kO s_0 f_1 s0) (T11.kO s_0 f_1' s0):=by
 unfold kO T11.kO
 repeat' with_reducible first|exact dK _|exact hf_1 _|refine eW ?_ ?_|refine dM ?_ fun _=>?_
def xE (s_0:List aA) (f_1:aA→Option Bool):Option (Int) :=
 (loopE (kO s_0 f_1) 0).bind fun yB=>match yB with
 | .inr z=>some z
 | .inl t0 =>
 some (-1)
theorem VY (s_0:List aA) {f_1 f_1':aA→Option Bool} (hf_1:∀ y0,bH (f_1 y0) (f_1' y0)):bH (xE s_0 f_1) (T11.xE s_0 f_1'):=by
 unfold xE T11.xE
 repeat' with_reducible first|exact dK _|refine LS _ (fun _=>?_) _|exact hf_1 _|refine oL (fun _=>?_) _|(refine uM ?_ (fun _=>?_) (fun _=>?_)<;>try dsimp only)|refine dM ?_ fun _=>?_
def xF (s_0:List aA) (f_1:aA→Option Bool):Option (Bool) :=
 (xE s_0 f_1).bind fun r1 =>
 some (decide (0≤r1))
theorem VZ (s_0:List aA) {f_1 f_1':aA→Option Bool} (hf_1:∀ y0,bH (f_1 y0) (f_1' y0)):bH (xF s_0 f_1) (T11.xF s_0 f_1'):=by
 unfold xF T11.xF
 repeat' with_reducible first|exact dK _|refine VY _ (fun _=>?_)|exact hf_1 _|refine dM ?_ fun _=>?_
def DD (l_0:List aA) (right:aA→Option Bool):Option (Bool) :=
 (xF l_0 (fun x0_=>sZ x0_ right)).bind fun r5 =>
 some (!r5)
theorem WA (l_0:List aA) {right right':aA→Option Bool} (hright:∀ y0,bH (right y0) (right' y0)):bH (DD l_0 right) (T11.DD l_0 right'):=by
 unfold DD T11.DD
 repeat' with_reducible first|exact dK _|refine VZ _ (fun _=>?_)|refine VX _ (fun _=>?_)|exact hright _|refine dM ?_ fun _=>?_
def mE (b_0:Int):Option (Bool) :=
 ((
  if (32:Int)≤b_0 then (
   if b_0≤126 then (
    (zH [44,58,59,61] b_0).bind fun r0 =>
    some (!r0))
   else
   some false)
  else
  some false
 ):Option (Bool)).bind fun t0 =>
 some t0
theorem WB:∀ b_0,bH (mE b_0) (T11.mE b_0):=by
 intro _;unfold mE T11.mE
 repeat' with_reducible first|exact dK _|exact VQ _ _|refine eW ?_ ?_|refine dM ?_ fun _=>?_
def uH (n_0:Int) (low:Int) (high:Int):Option (Bool) :=
 ((
  if low≤n_0 then (
   some (decide (n_0≤high)))
  else
  some false
 ):Option (Bool)).bind fun t4 =>
 some t4
theorem LT:∀ n_0 low high,bH (uH n_0 low high) (T11.uH n_0 low high):=by
 intro _ _ _;unfold uH T11.uH
 repeat' with_reducible first|exact dK _|refine eW ?_ ?_|refine dM ?_ fun _=>?_
def tC (x_0:Int) (f0_:Int→Option Bool):Option (Bool) :=
 (f0_ x_0).bind fun r1 =>
 some (!r1)
theorem WC (x_0:Int) {f0_ f0_':Int→Option Bool} (hf0_:∀ y0,bH (f0_ y0) (f0_' y0)):bH (tC x_0 f0_) (T11.tC x_0 f0_'):=by
 unfold tC T11.tC
 repeat' with_reducible first|exact dK _|exact hf0_ _|refine dM ?_ fun _=>?_
def kP (s_0:List UInt8) (f_1:Int→Option Bool) (s0:Nat):Option ((Nat)⊕((Unit)⊕Int)) :=
 if (s0:Int) < (s_0.length:Int) then (
  (s_0[s0]?).bind fun x0 =>
  (f_1 (x0.toNat:Int)).bind fun r0 =>
  if r0 then (
   some (.inr (.inr (s0:Int))))
  else
  some (.inl (s0+1)))
 else
 some (.inr (.inl ()))
theorem LU (s_0:List UInt8) {f_1 f_1':Int→Option Bool} (hf_1:∀ y0,bH (f_1 y0) (f_1' y0)) (s0:Nat):bH (kP s_0 f_1 s0) (T11.kP s_0 f_1' s0):=by
 unfold kP T11.kP
 repeat' with_reducible first|exact dK _|exact hf_1 _|refine eW ?_ ?_|refine dM ?_ fun _=>?_
def xG (s_0:List UInt8) (f_1:Int→Option Bool):Option (Int) :=
 (loopE (kP s_0 f_1) 0).bind fun yB=>match yB with
 | .inr z=>some z
 | .inl t0 =>
 some (-1)
theorem WD (s_0:List UInt8) {f_1 f_1':Int→Option Bool} (hf_1:∀ y0,bH (f_1 y0) (f_1' y0)):bH (xG s_0 f_1) (T11.xG s_0 f_1'):=by
 unfold xG T11.xG
 repeat' with_reducible first|exact dK _|refine LU _ (fun _=>?_) _|exact hf_1 _|refine oL (fun _=>?_) _|(refine uM ?_ (fun _=>?_) (fun _=>?_)<;>try dsimp only)|refine dM ?_ fun _=>?_
def xH (s_0:List UInt8) (f_1:Int→Option Bool):Option (Bool) :=
 (xG s_0 f_1).bind fun r1 =>
 some (decide (0≤r1))
theorem WE (s_0:List UInt8) {f_1 f_1':Int→Option Bool} (hf_1:∀ y0,bH (f_1 y0) (f_1' y0)):bH (xH s_0 f_1) (T11.xH s_0 f_1'):=by
 unfold xH T11.xH
 repeat' with_reducible first|exact dK _|refine WD _ (fun _=>?_)|exact hf_1 _|refine dM ?_ fun _=>?_
def tE (l_0:List UInt8) (right:Int→Option Bool):Option (Bool) :=
 (xH l_0 (fun x0_=>tC x0_ right)).bind fun r5 =>
 some (!r5)
theorem WF (l_0:List UInt8) {right right':Int→Option Bool} (hright:∀ y0,bH (right y0) (right' y0)):bH (tE l_0 right) (T11.tE l_0 right'):=by
 unfold tE T11.tE
 repeat' with_reducible first|exact dK _|refine WE _ (fun _=>?_)|refine WC _ (fun _=>?_)|exact hright _|refine dM ?_ fun _=>?_
def kE (s_0:aA):Option (Bool) :=
 ((
  (uH (s_0.length:Int) 1 40).bind fun r0 =>
  if r0 then (
   cO (s_0.length≤1073741824) <|
   (tE s_0 (mE)).bind fun r1 =>
   if r1 then (
    (uN s_0 [32]).bind fun r2 =>
    if r2=s_0 then (
     (zF s_0 [32,32]).bind fun r3 =>
     some (!r3))
    else
    some false)
   else
   some false)
  else
  some false
 ):Option (Bool)).bind fun PT =>
 some PT
theorem MZ:∀ s_0,bH (kE s_0) (T11.kE s_0):=by
 intro _;unfold kE T11.kE
 repeat' with_reducible first|exact dK _|exact LT _ _ _|refine WF _ (fun _=>?_)|exact WB _|exact VR _ _|exact VO _ _|refine pE ?_|refine eW ?_ ?_|refine dM ?_ fun _=>?_
def kQ (l_0:List aA) (before:aA→aA→Option Bool) (s0:Nat):Option ((Nat)⊕((Unit)⊕Bool)) :=
 if (s0:Int) < (l_0.length:Int) then (
  ((
   if 0 < (s0:Int) then (
    (l_0[((s0:Int) - 1).toNat]?).bind fun x0 =>
    (l_0[s0]?).bind fun x1 =>
    (before x0 x1).bind fun r0 =>
    some (!r0))
   else
   some false
  ):Option (Bool)).bind fun t0 =>
  if t0 then (
   some (.inr (.inr false)))
  else
  some (.inl (s0+1)))
 else
 some (.inr (.inl ()))
theorem LV (l_0:List aA) {before before':aA→aA→Option Bool} (hbefore:∀ y0 y1,bH (before y0 y1) (before' y0 y1)) (s0:Nat):bH (kQ l_0 before s0) (T11.kQ l_0 before' s0):=by
 unfold kQ T11.kQ
 repeat' with_reducible first|exact dK _|exact hbefore _ _|refine eW ?_ ?_|refine dM ?_ fun _=>?_
def tF (l_0:List aA) (before:aA→aA→Option Bool):Option (Bool) :=
 (loopE (kQ l_0 before) 0).bind fun tP=>match tP with
 | .inr z=>some z
 | .inl t0 =>
 some true
theorem WG (l_0:List aA) {before before':aA→aA→Option Bool} (hbefore:∀ y0 y1,bH (before y0 y1) (before' y0 y1)):bH (tF l_0 before) (T11.tF l_0 before'):=by
 unfold tF T11.tF
 repeat' with_reducible first|exact dK _|refine LV _ (fun _ _=>?_) _|exact hbefore _ _|refine oL (fun _=>?_) _|(refine uM ?_ (fun _=>?_) (fun _=>?_)<;>try dsimp only)|refine dM ?_ fun _=>?_
def kR (s_0:aA) (s0:Nat×List UInt8):Option ((Nat×List UInt8)⊕(List UInt8)) :=
 if (s0.1:Int) < (s_0.length:Int) then (
  (s_0[s0.1]?).bind fun x0 =>
  ((
   if (65:Int)≤(x0.toNat:Int) then (
    some (decide ((x0.toNat:Int)≤90)))
   else
   some false
  ):Option (Bool)).bind fun t0 =>
  ((
   if t0 then (
    cO (0≤((x0.toNat:Int) - 65)∧((x0.toNat:Int) - 65)≤255) <|
    cO (0≤(((x0.toNat:Int) - 65)+97)∧(((x0.toNat:Int) - 65)+97)≤255) <|
    cO (s0.2.length+1≤1073741824) <|
    some (s0.2++[(UInt8.ofNat (((x0.toNat:Int) - 65)+97).toNat)]))
   else
   ((
    if (97:Int)≤(x0.toNat:Int) then (
     if (x0.toNat:Int)≤122 then (
      some true)
     else
     if (48:Int)≤(x0.toNat:Int) then (
      some (decide ((x0.toNat:Int)≤57)))
     else
     some false)
    else
    if (48:Int)≤(x0.toNat:Int) then (
     some (decide ((x0.toNat:Int)≤57)))
    else
    some false
   ):Option (Bool)).bind fun t1 =>
   ((
    if t1 then (
     cO (s0.2.length+1≤1073741824) <|
     some (s0.2++[x0]))
    else
    some s0.2
   ):Option (List UInt8)).bind fun t2 =>
   some t2
  ):Option (List UInt8)).bind fun t3 =>
  some (.inl ((s0.1+1),t3)))
 else
 some (.inr s0.2)
theorem PV:∀ s_0 s0,bH (kR s_0 s0) (T11.kR s_0 s0):=by
 intro _ _;unfold kR T11.kR
 repeat' with_reducible first|exact dK _|refine pE ?_|refine eW ?_ ?_|refine dM ?_ fun _=>?_
def FF (s_0:aA):Option (aA) :=
 cO (s_0.length≤1073741824) <|
 (loopE (kR s_0) (0,([]:List UInt8))).bind fun eA1 =>
 some eA1
theorem aCx:∀ s_0,bH (FF s_0) (T11.FF s_0):=by
 intro _;unfold FF T11.FF
 repeat' with_reducible first|exact dK _|exact PV _ _|refine oL (fun _=>?_) _|refine pE ?_|refine dM ?_ fun _=>?_
def kS (vals:List Int) (s0:Nat):Option ((Nat)⊕((Unit)⊕Int)) :=
 if (s0:Int) < (vals.length:Int) then (
  (vals[s0]?).bind fun x0 =>
  if x0≠0 then (
   some (.inr (.inr x0)))
  else
  some (.inl (s0+1)))
 else
 some (.inr (.inl ()))
theorem PW:∀ vals s0,bH (kS vals s0) (T11.kS vals s0):=by
 intro _ _;unfold kS T11.kS
 repeat' with_reducible first|exact dK _|refine eW ?_ ?_|refine dM ?_ fun _=>?_
def FG (vals:List Int):Option (Int) :=
 (loopE (kS vals) 0).bind fun e16=>match e16 with
 | .inr z=>some z
 | .inl t0 =>
 some 0
theorem WH:∀ vals,bH (FG vals) (T11.FG vals):=by
 intro _;unfold FG T11.FG
 repeat' with_reducible first|exact dK _|exact PW _ _|refine oL (fun _=>?_) _|(refine uM ?_ (fun _=>?_) (fun _=>?_)<;>try dsimp only)|refine dM ?_ fun _=>?_
def pJ (a_0:aA) (b_1:aA):Option (Int) :=
 (FF a_0).bind fun r1 =>
 (FF b_1).bind fun r4 =>
 (KP r1 r4).bind fun r7 =>
 (KP a_0 b_1).bind fun r0 =>
 (FG ([r7,r0]:List Int)).bind fun r2 =>
 some r2
theorem IW:∀ a_0 b_1,bH (pJ a_0 b_1) (T11.pJ a_0 b_1):=by
 intro _ _;unfold pJ T11.pJ
 repeat' with_reducible first|exact dK _|exact aCx _|exact aCu _ _|exact WH _|refine dM ?_ fun _=>?_
def uO (a_0:aA) (b_1:aA):Option (Bool) :=
 (pJ a_0 b_1).bind fun r1 =>
 some (decide (r1 < 0))
theorem WI:∀ a_0 b_1,bH (uO a_0 b_1) (T11.uO a_0 b_1):=by
 intro _ _;unfold uO T11.uO
 repeat' with_reducible first|exact dK _|exact IW _ _|refine dM ?_ fun _=>?_
def pK (l_0:List aA):Option (Bool) :=
 ((
  if (l_0.length:Int)≤8 then (
   (DD l_0 (kE)).bind fun r0 =>
   if r0 then (
    (tF l_0 (uO)).bind fun r1 =>
    some r1)
   else
   some false)
  else
  some false
 ):Option (Bool)).bind fun t0 =>
 some t0
theorem WJ:∀ l_0,bH (pK l_0) (T11.pK l_0):=by
 intro _;unfold pK T11.pK
 repeat' with_reducible first|exact dK _|refine WA _ (fun _=>?_)|exact MZ _|refine WG _ (fun _ _=>?_)|exact WI _ _|refine eW ?_ ?_|refine dM ?_ fun _=>?_
def tG (x_0:aH) (f0_:aH→Option Bool):Option (Bool) :=
 (f0_ x_0).bind fun r4 =>
 some (!r4)
theorem WK (x_0:aH) {f0_ f0_':aH→Option Bool} (hf0_:∀ y0,bH (f0_ y0) (f0_' y0)):bH (tG x_0 f0_) (T11.tG x_0 f0_'):=by
 unfold tG T11.tG
 repeat' with_reducible first|exact dK _|exact hf0_ _|refine dM ?_ fun _=>?_
def kT (s_0:List aH) (f_1:aH→Option Bool) (s0:Nat):Option ((Nat)⊕((Unit)⊕Int)) :=
 if (s0:Int) < (s_0.length:Int) then (
  (s_0[s0]?).bind fun x0 =>
  (f_1 x0).bind fun r0 =>
  if r0 then (
   some (.inr (.inr (s0:Int))))
  else
  some (.inl (s0+1)))
 else
 some (.inr (.inl ()))
theorem LW (s_0:List aH) {f_1 f_1':aH→Option Bool} (hf_1:∀ y0,bH (f_1 y0) (f_1' y0)) (s0:Nat):bH (kT s_0 f_1 s0) (T11.kT s_0 f_1' s0):=by
 unfold kT T11.kT
 repeat' with_reducible first|exact dK _|exact hf_1 _|refine eW ?_ ?_|refine dM ?_ fun _=>?_
def xI (s_0:List aH) (f_1:aH→Option Bool):Option (Int) :=
 (loopE (kT s_0 f_1) 0).bind fun yB=>match yB with
 | .inr z=>some z
 | .inl t0 =>
 some (-1)
theorem WL (s_0:List aH) {f_1 f_1':aH→Option Bool} (hf_1:∀ y0,bH (f_1 y0) (f_1' y0)):bH (xI s_0 f_1) (T11.xI s_0 f_1'):=by
 unfold xI T11.xI
 repeat' with_reducible first|exact dK _|refine LW _ (fun _=>?_) _|exact hf_1 _|refine oL (fun _=>?_) _|(refine uM ?_ (fun _=>?_) (fun _=>?_)<;>try dsimp only)|refine dM ?_ fun _=>?_
def xJ (s_0:List aH) (f_1:aH→Option Bool):Option (Bool) :=
 (xI s_0 f_1).bind fun r1 =>
 some (decide (0≤r1))
theorem WM (s_0:List aH) {f_1 f_1':aH→Option Bool} (hf_1:∀ y0,bH (f_1 y0) (f_1' y0)):bH (xJ s_0 f_1) (T11.xJ s_0 f_1'):=by
 unfold xJ T11.xJ
 repeat' with_reducible first|exact dK _|refine WL _ (fun _=>?_)|exact hf_1 _|refine dM ?_ fun _=>?_
def tH (l_0:List aH) (right:aH→Option Bool):Option (Bool) :=
 (xJ l_0 (fun x0_=>tG x0_ right)).bind fun r5 =>
 some (!r5)
theorem WN (l_0:List aH) {right right':aH→Option Bool} (hright:∀ y0,bH (right y0) (right' y0)):bH (tH l_0 right) (T11.tH l_0 right'):=by
 unfold tH T11.tH
 repeat' with_reducible first|exact dK _|refine WM _ (fun _=>?_)|refine WK _ (fun _=>?_)|exact hright _|refine dM ?_ fun _=>?_
def mF (p_0:aH):Option (Bool) :=
 ((
  (uH p_0.aM 1 999).bind fun r0 =>
  if r0 then (
   (uH p_0.aV 1 p_0.cM).bind fun r1 =>
   if r1 then (
    some (decide (p_0.cM≤9999)))
   else
   some false)
  else
  some false
 ):Option (Bool)).bind fun t0 =>
 some t0
theorem WO:∀ p_0,bH (mF p_0) (T11.mF p_0):=by
 intro _;unfold mF T11.mF
 repeat' with_reducible first|exact dK _|exact LT _ _ _|refine eW ?_ ?_|refine dM ?_ fun _=>?_
def kU (l_0:List aH) (before:aH→aH→Option Bool) (s0:Nat):Option ((Nat)⊕((Unit)⊕Bool)) :=
 if (s0:Int) < (l_0.length:Int) then (
  ((
   if 0 < (s0:Int) then (
    (l_0[((s0:Int) - 1).toNat]?).bind fun x0 =>
    (l_0[s0]?).bind fun x1 =>
    (before x0 x1).bind fun r0 =>
    some (!r0))
   else
   some false
  ):Option (Bool)).bind fun t0 =>
  if t0 then (
   some (.inr (.inr false)))
  else
  some (.inl (s0+1)))
 else
 some (.inr (.inl ()))
theorem LX (l_0:List aH) {before before':aH→aH→Option Bool} (hbefore:∀ y0 y1,bH (before y0 y1) (before' y0 y1)) (s0:Nat):bH (kU l_0 before s0) (T11.kU l_0 before' s0):=by
 unfold kU T11.kU
 repeat' with_reducible first|exact dK _|exact hbefore _ _|refine eW ?_ ?_|refine dM ?_ fun _=>?_
def tI (l_0:List aH) (before:aH→aH→Option Bool):Option (Bool) :=
 (loopE (kU l_0 before) 0).bind fun tP=>match tP with
 | .inr z=>some z
 | .inl t0 =>
 some true
theorem WP (l_0:List aH) {before before':aH→aH→Option Bool} (hbefore:∀ y0 y1,bH (before y0 y1) (before' y0 y1)):bH (tI l_0 before) (T11.tI l_0 before'):=by
 unfold tI T11.tI
 repeat' with_reducible first|exact dK _|refine LX _ (fun _ _=>?_) _|exact hbefore _ _|refine oL (fun _=>?_) _|(refine uM ?_ (fun _=>?_) (fun _=>?_)<;>try dsimp only)|refine dM ?_ fun _=>?_
def xY (p_0:aH) (o_1:aH):Option (Bool) :=
 ((
  if p_0.aM < o_1.aM then (
   some true)
  else
  if p_0.aM=o_1.aM then (
   cO (-9223372036854775808≤(p_0.cM+1)∧(p_0.cM+1)≤9223372036854775807) <|
   some (decide ((p_0.cM+1) < o_1.aV)))
  else
  some false
 ):Option (Bool)).bind fun t0 =>
 some t0
theorem WQ:∀ p_0 o_1,bH (xY p_0 o_1) (T11.xY p_0 o_1):=by
 intro _ _;unfold xY T11.xY
 repeat' with_reducible first|exact dK _|refine pE ?_|refine eW ?_ ?_|refine dM ?_ fun _=>?_
def AT (h_0:aB):Option (Bool) :=
 ((
  (kE h_0.name).bind fun r0 =>
  if r0 then (
   (pK h_0.aC).bind fun r1 =>
   if r1 then (
    (pK h_0.aO).bind fun r2 =>
    if r2 then (
     if (h_0.aG.length:Int)≤30 then (
      (tH h_0.aG (mF)).bind fun r3 =>
      if r3 then (
       (tI h_0.aG (xY)).bind fun r4 =>
       some r4)
      else
      some false)
     else
     some false)
    else
    some false)
   else
   some false)
  else
  some false
 ):Option (Bool)).bind fun t0 =>
 some t0
theorem aCy:∀ h_0,bH (AT h_0) (T11.AT h_0):=by
 intro _;unfold AT T11.AT
 repeat' with_reducible first|exact dK _|exact MZ _|exact WJ _|refine WN _ (fun _=>?_)|exact WO _|refine WP _ (fun _ _=>?_)|exact WQ _ _|refine eW ?_ ?_|refine dM ?_ fun _=>?_
def DE (s_0:aA) (f0_:List (aA×Int)) (f1_:List aB) (f2_:aB):Option (Bool) :=
 ((
  if (lkp f0_ s_0).isSome then (
   cO (0≤((lkp f0_ s_0).getD (0:Int))) <|
   (f1_[((lkp f0_ s_0).getD (0:Int)).toNat]?).bind fun x0 =>
   if x0.name=s_0 then (
    some (decide (s_0≠f2_.name)))
   else
   some false)
  else
  some false
 ):Option (Bool)).bind fun t0 =>
 some t0
theorem aCz:∀ s_0 f0_ f1_ f2_,bH (DE s_0 f0_ f1_ f2_) (T11.DE s_0 f0_ f1_ f2_):=by
 intro _ _ _ _;unfold DE T11.DE
 repeat' with_reducible first|exact dK _|refine pE ?_|refine eW ?_ ?_|refine dM ?_ fun _=>?_
def AU (h_0:aB) (f0_:List (aA×Int)) (f1_:List aB):Option (Bool) :=
 (DD h_0.aO (fun x0_=>DE x0_ f0_ f1_ h_0)).bind fun r0 =>
 some r0
theorem aC0:∀ h_0 f0_ f1_,bH (AU h_0 f0_ f1_) (T11.AU h_0 f0_ f1_):=by
 intro _ _ _;unfold AU T11.AU
 repeat' with_reducible first|exact dK _|refine WA _ (fun _=>?_)|exact aCz _ _ _ _|refine dM ?_ fun _=>?_
def qB (l_0:List aB) (before:aB→aB→Option Bool) (s0:Nat):Option ((Nat)⊕((Unit)⊕Bool)) :=
 if (s0:Int) < (l_0.length:Int) then (
  ((
   if 0 < (s0:Int) then (
    (l_0[((s0:Int) - 1).toNat]?).bind fun x0 =>
    (l_0[s0]?).bind fun x1 =>
    (before x0 x1).bind fun r0 =>
    some (!r0))
   else
   some false
  ):Option (Bool)).bind fun t0 =>
  if t0 then (
   some (.inr (.inr false)))
  else
  some (.inl (s0+1)))
 else
 some (.inr (.inl ()))
theorem PX (l_0:List aB) {before before':aB→aB→Option Bool} (hbefore:∀ y0 y1,bH (before y0 y1) (before' y0 y1)) (s0:Nat):bH (qB l_0 before s0) (T11.qB l_0 before' s0):=by
 unfold qB T11.qB
 repeat' with_reducible first|exact dK _|exact hbefore _ _|refine eW ?_ ?_|refine dM ?_ fun _=>?_
def HT (l_0:List aB) (before:aB→aB→Option Bool):Option (Bool) :=
 (loopE (qB l_0 before) 0).bind fun e52=>match e52 with
 | .inr z=>some z
 | .inl t0 =>
 some true
theorem aC1 (l_0:List aB) {before before':aB→aB→Option Bool} (hbefore:∀ y0 y1,bH (before y0 y1) (before' y0 y1)):bH (HT l_0 before) (T11.HT l_0 before'):=by
 unfold HT T11.HT
 repeat' with_reducible first|exact dK _|refine PX _ (fun _ _=>?_) _|exact hbefore _ _|refine oL (fun _=>?_) _|(refine uM ?_ (fun _=>?_) (fun _=>?_)<;>try dsimp only)|refine dM ?_ fun _=>?_
def BS (a_0:aB) (b_1:aB):Option (Bool) :=
 (uO a_0.name b_1.name).bind fun r0 =>
 some r0
theorem aC2:∀ a_0 b_1,bH (BS a_0 b_1) (T11.BS a_0 b_1):=by
 intro _ _;unfold BS T11.BS
 repeat' with_reducible first|exact dK _|exact WI _ _|refine dM ?_ fun _=>?_
def kV (x0:aB) (s1:Nat×(List (aA×Int))) (s0:Nat×(List (aA×Int))):Option ((Nat×(List (aA×Int)))⊕(((List (aA×Int)))⊕((Nat×(List (aA×Int)))⊕((List (aA×Int)))))) :=
 if (s0.1:Int) < (x0.aC.length:Int) then (
  (x0.aC[s0.1]?).bind fun x1 =>
  ((
   if (lkp s0.2 x1).isSome then (
    some (.inl 6))
   else
   some (.inr (put s0.2 x1 (s1.1:Int)))
  ):Option ((Nat)⊕((List (aA×Int))))).bind fun t0=>match t0 with
  | .inl t1=>(
   some (.inr (.inr (.inl (t1,s0.2)))))
  | .inr t2=>(
   some (.inl ((s0.1+1),t2))))
 else
 some (.inr (.inl s0.2))
theorem PY:∀ x0 s0 s1,bH (kV x0 s0 s1) (T11.kV x0 s0 s1):=by
 intro _ _ _;unfold kV T11.kV
 repeat' with_reducible first|exact dK _|refine eW ?_ ?_|(refine uM ?_ (fun _=>?_) (fun _=>?_)<;>try dsimp only)|refine dM ?_ fun _=>?_
def jA (l_0:List aB) (s0:Nat×(List (aA×Int))):Option ((Nat×(List (aA×Int)))⊕(((List (aA×Int)))⊕((List (aA×Int))×Int))) :=
 if (s0.1:Int) < (l_0.length:Int) then (
  (l_0[s0.1]?).bind fun x0 =>
  ((
   ((
    if (lkp s0.2 x0.name).isSome then (
     some (.inl 6))
    else
    some (.inr (put s0.2 x0.name (s0.1:Int)))
   ):Option ((Nat)⊕((List (aA×Int))))).bind fun t0=>match t0 with
   | .inl t1=>(
    some (.inl (t1,s0.2)))
   | .inr t2=>(
    (loopE (kV x0 s0) (0,t2)).bind fun eA1=>match eA1 with
    | .inr z=>some z
    | .inl t3 =>
    some (.inr t3))
  ):Option ((Nat×(List (aA×Int)))⊕((List (aA×Int))))).bind fun t4=>match t4 with
  | .inl t5=>(
   some (.inr (.inr ([],(t5.1:Int)))))
  | .inr t6=>(
   some (.inl ((s0.1+1),t6))))
 else
 some (.inr (.inl s0.2))
theorem PZ:∀ l_0 s0,bH (jA l_0 s0) (T11.jA l_0 s0):=by
 intro _ _;unfold jA T11.jA
 repeat' with_reducible first|exact dK _|exact PY _ _ _|refine oL (fun _=>?_) _|refine eW ?_ ?_|(refine uM ?_ (fun _=>?_) (fun _=>?_)<;>try dsimp only)|refine dM ?_ fun _=>?_
def qC (l_0:List aB):Option ((List (aA×Int))×Int) :=
 if 60 < (l_0.length:Int) then (
  some ([],3))
 else
 (BQ l_0 (AT)).bind fun r0 =>
 if r0 then (
  (loopE (jA l_0) (0,([]:List (aA×Int)))).bind fun eA1=>match eA1 with
  | .inr z=>some z
  | .inl t0 =>
  ((
   (BQ l_0 (fun x0_=>AU x0_ t0 l_0)).bind fun r1 =>
   if r1 then (
    (HT l_0 (BS)).bind fun r2 =>
    some (!r2))
   else
   some true
  ):Option (Bool)).bind fun t1 =>
  if t1 then (
   some ([],1))
  else
  some (t0,0))
 else
 some ([],1)
theorem LY:∀ l_0,bH (qC l_0) (T11.qC l_0):=by
 intro _;unfold qC T11.qC
 repeat' with_reducible first|exact dK _|refine aCw _ (fun _=>?_)|exact aCy _|exact PZ _ _|exact aC0 _ _ _|refine aC1 _ (fun _ _=>?_)|exact aC2 _ _|refine oL (fun _=>?_) _|refine eW ?_ ?_|(refine uM ?_ (fun _=>?_) (fun _=>?_)<;>try dsimp only)|refine dM ?_ fun _=>?_
def jB:Nat→aA→(List (aA×aA))→Option (aA)
 | 0,_,_=>none
 | n_+1,s_0,f0_ =>
 ((
  if (lkp f0_ s_0).isSome then (
   some (decide (((lkp f0_ s_0).getD ([]:aA))≠s_0)))
  else
  some false
 ):Option (Bool)).bind fun t4 =>
 if t4 then (
  (jB n_ ((lkp f0_ s_0).getD ([]:aA)) f0_).bind fun r0 =>
  some r0)
 else
 some s_0
theorem WR (n_:Nat):∀ x0 x1,bH (T11.E.jB n_ x0 x1) (T11.jB n_ x0 x1):=by
 induction n_ with
 | zero=>intro x0 x1 r h;cases h
 | succ n_ ih =>
  intro x0 x1;rw [T11.E.jB,T11.jB]
  repeat' with_reducible first|exact dK _|exact ih _ _|refine eW ?_ ?_|refine dM ?_ fun _=>?_
theorem WS (n_:Nat):∀ x0 x1,bH (T11.jB n_ x0 x1) (T11.jB (n_+1) x0 x1):=by
 induction n_ with
 | zero=>intro x0 x1 r h;cases h
 | succ n_ ih =>
  intro x0 x1;rw [T11.jB,T11.jB]
  repeat' with_reducible first|exact dK _|exact ih _ _|refine eW ?_ ?_|refine dM ?_ fun _=>?_
def OV (s_0:aA) (f0_:List (aA×aA)):Option (aA):=jB 100000 s_0 f0_
theorem aC3  (s_0:aA) (f0_:List (aA×aA)):bH (T11.E.OV s_0 f0_) (T11.OV s_0 f0_):=(WR 100000 s_0 f0_).trans (bH.recO (fun n=>WS n s_0 f0_) 100000)
def uP (l_0:List (aA×aA)) (s_1:aA):Option (aA) :=
 (OV s_1 l_0).bind fun r6 =>
 some r6
theorem LZ:∀ l_0 s_1,bH (uP l_0 s_1) (T11.uP l_0 s_1):=by
 intro _ _;unfold uP T11.uP
 repeat' with_reducible first|exact dK _|exact aC3 _ _|refine dM ?_ fun _=>?_
def jY (x_0:List aA) (cmp:aA→aA→Option Int) (s0:Nat×aA):Option ((Nat×aA)⊕(aA)) :=
 if (s0.1:Int) < (x_0.length:Int) then (
  (x_0[s0.1]?).bind fun x0 =>
  (cmp x0 s0.2).bind fun r0 =>
  ((
   if r0 < 0 then (
    some x0)
   else
   some s0.2
  ):Option (aA)).bind fun t0 =>
  some (.inl ((s0.1+1),t0)))
 else
 some (.inr s0.2)
theorem QA (x_0:List aA) {cmp cmp':aA→aA→Option Int} (hcmp:∀ y0 y1,bH (cmp y0 y1) (cmp' y0 y1)) (s0:Nat×aA):bH (jY x_0 cmp s0) (T11.jY x_0 cmp' s0):=by
 unfold jY T11.jY
 repeat' with_reducible first|exact dK _|exact hcmp _ _|refine eW ?_ ?_|refine dM ?_ fun _=>?_
def HU (x_0:List aA) (cmp:aA→aA→Option Int):Option (aA) :=
 if (x_0.length:Int) < 1 then (
  none)
 else
 (x_0[0]?).bind fun x7 =>
 (loopE (jY x_0 cmp) (1,x7)).bind fun RX =>
 some RX
theorem aC4 (x_0:List aA) {cmp cmp':aA→aA→Option Int} (hcmp:∀ y0 y1,bH (cmp y0 y1) (cmp' y0 y1)):bH (HU x_0 cmp) (T11.HU x_0 cmp'):=by
 unfold HU T11.HU
 repeat' with_reducible first|exact dK _|refine QA _ (fun _ _=>?_) _|exact hcmp _ _|refine oL (fun _=>?_) _|refine eW ?_ ?_|refine dM ?_ fun _=>?_
def kW (lists:List (List aA)) (s0:Nat×Nat):Option ((Nat×Nat)⊕(Nat)) :=
 if (s0.2:Int) < (lists.length:Int) then (
  (lists[s0.2]?).bind fun x0 =>
  cO (-9223372036854775808≤((s0.1:Int)+(x0.length:Int))∧((s0.1:Int)+(x0.length:Int))≤9223372036854775807) <|
  if ((s0.1:Int)+(x0.length:Int)) < 0 then (
   none)
  else
  some (.inl ((s0.1+x0.length),(s0.2+1))))
 else
 some (.inr s0.1)
theorem QB:∀ lists s0,bH (kW lists s0) (T11.kW lists s0):=by
 intro _ _;unfold kW T11.kW
 repeat' with_reducible first|exact dK _|refine pE ?_|refine eW ?_ ?_|refine dM ?_ fun _=>?_
def kX (lists:List (List aA)) (s0:Nat×List aA):Option ((Nat×List aA)⊕(List aA)) :=
 if (s0.1:Int) < (lists.length:Int) then (
  (lists[s0.1]?).bind fun x0 =>
  cO (s0.2.length+x0.length≤1073741824) <|
  some (.inl ((s0.1+1),(s0.2++x0))))
 else
 some (.inr s0.2)
theorem QC:∀ lists s0,bH (kX lists s0) (T11.kX lists s0):=by
 intro _ _;unfold kX T11.kX
 repeat' with_reducible first|exact dK _|refine pE ?_|refine eW ?_ ?_|refine dM ?_ fun _=>?_
def BT (but:aA) (lists:List (List aA)):Option (List aA) :=
 ((
  (loopE (kW lists) (0,0)).bind fun eA1 =>
  cO (eA1≤1073741824) <|
  (loopE (kX lists) (0,([]:List aA))).bind fun eB1 =>
  some eB1
 ):Option (List aA)).bind fun t0 =>
 (sortG (pJ) t0).bind fun l0 =>
 some ((Lib.compact l0).filter fun x=>!decide (x=but))
theorem aC5:∀ but lists,bH (BT but lists) (T11.BT but lists):=by
 intro _ _;unfold BT T11.BT
 repeat' with_reducible first|exact dK _|exact QB _ _|exact QC _ _|exact IW _ _|refine oL (fun _=>?_) _|refine ZJ (fun _ _=>?_) _|refine pE ?_|refine dM ?_ fun _=>?_
def DG (a_0:aH) (b_1:aH):Option (Int) :=
 cO (-9223372036854775808≤(a_0.aM - b_1.aM)∧(a_0.aM - b_1.aM)≤9223372036854775807) <|
 cO (-9223372036854775808≤(a_0.aV - b_1.aV)∧(a_0.aV - b_1.aV)≤9223372036854775807) <|
 (FG ([(a_0.aM - b_1.aM),(a_0.aV - b_1.aV)]:List Int)).bind fun r0 =>
 some r0
theorem aC6:∀ a_0 b_1,bH (DG a_0 b_1) (T11.DG a_0 b_1):=by
 intro _ _;unfold DG T11.DG
 repeat' with_reducible first|exact dK _|exact WH _|refine pE ?_|refine dM ?_ fun _=>?_
def gG (l_0:List aH) (l1:List aH) (s0:Nat×Int×Int×Int×List aH):Option ((Nat×Int×Int×Int×List aH)⊕(Int×Int×Int×List aH)) :=
 if (s0.1:Int) < (l_0.length:Int) then (
  (l1[s0.1]?).bind fun x0 =>
  ((
   if (⟨s0.2.1,s0.2.2.1,s0.2.2.2.1⟩:aH)=(⟨0,0,0⟩:aH) then (
    some false)
   else
   (xY (⟨s0.2.1,s0.2.2.1,s0.2.2.2.1⟩:aH) x0).bind fun r0 =>
   some (!r0)
  ):Option (Bool)).bind fun t1 =>
  ((
   if t1 then (
    cO (0≤((s0.2.2.2.2.length:Int) - 1)) <|
    (s0.2.2.2.2[((s0.2.2.2.2.length:Int) - 1).toNat]?).bind fun x2 =>
    some (s0.2.2.2.2.set (((s0.2.2.2.2.length:Int) - 1).toNat) (⟨x2.aM,x2.aV,(max s0.2.2.2.1 x0.cM)⟩:aH)))
   else
   cO (s0.2.2.2.2.length+1≤1073741824) <|
   some (s0.2.2.2.2++[x0])
  ):Option (List aH)).bind fun t0 =>
  cO (0≤((t0.length:Int) - 1)) <|
  (t0[((t0.length:Int) - 1).toNat]?).bind fun x1 =>
  some (.inl ((s0.1+1),x1.aM,x1.aV,x1.cM,t0)))
 else
 some (.inr (s0.2.1,s0.2.2.1,s0.2.2.2.1,s0.2.2.2.2))
theorem QD:∀ l_0 l1 s0,bH (gG l_0 l1 s0) (T11.gG l_0 l1 s0):=by
 intro _ _ _;unfold gG T11.gG
 repeat' with_reducible first|exact dK _|exact WQ _ _|refine pE ?_|refine eW ?_ ?_|refine dM ?_ fun _=>?_
def AV (l_0:List aH):Option (List aH) :=
 sortV (DG) l_0 fun l1 =>
 (loopE (gG l_0 l1) (0,0,0,0,([]:List aH))).bind fun eA1 =>
 some eA1.2.2.2
theorem aC7:∀ l_0,bH (AV l_0) (T11.AV l_0):=by
 intro _;unfold AV T11.AV
 repeat' with_reducible first|exact dK _|exact aC6 _ _|exact QD _ _ _|refine oL (fun _=>?_) _|refine lq4 (fun _ _=>?_) (fun _=>?_) _|refine dM ?_ fun _=>?_
def KQ (a_0:aB) (b_1:aB):Option (Int) :=
 (pJ a_0.name b_1.name).bind fun r0 =>
 some r0
theorem aC8:∀ a_0 b_1,bH (KQ a_0 b_1) (T11.KQ a_0 b_1):=by
 intro _ _;unfold KQ T11.KQ
 repeat' with_reducible first|exact dK _|exact IW _ _|refine dM ?_ fun _=>?_
def qD (x0:aB) (s0:Nat×(List (aA×aA))):Option ((Nat×(List (aA×aA)))⊕((List (aA×aA)))) :=
 if (s0.1:Int) < (x0.aC.length:Int) then (
  (x0.aC[s0.1]?).bind fun x1 =>
  ((
   ((
    (uP s0.2 x1).bind fun r0 =>
    (uP s0.2 x0.name).bind fun r1 =>
    some (put s0.2 r0 r1)
   ):Option ((List (aA×aA)))).bind fun t0 =>
   some t0
  ):Option ((List (aA×aA)))).bind fun t1 =>
  some (.inl ((s0.1+1),t1)))
 else
 some (.inr s0.2)
theorem QE:∀ x0 s0,bH (qD x0 s0) (T11.qD x0 s0):=by
 intro _ _;unfold qD T11.qD
 repeat' with_reducible first|exact dK _|exact LZ _ _|refine eW ?_ ?_|refine dM ?_ fun _=>?_
def qE (x0:List aB) (s0:Nat×(List (aA×aA))):Option ((Nat×(List (aA×aA)))⊕((List (aA×aA)))) :=
 if (s0.1:Int) < (x0.length:Int) then (
  (x0[s0.1]?).bind fun x1 =>
  ((
   ((
    ((
     (uP s0.2 x1.name).bind fun r0 =>
     some (put s0.2 r0 r0)
    ):Option ((List (aA×aA)))).bind fun t0 =>
    some t0
   ):Option ((List (aA×aA)))).bind fun t1 =>
   (loopE (qD x1) (0,t1)).bind fun eA1 =>
   some eA1
  ):Option ((List (aA×aA)))).bind fun t2 =>
  some (.inl ((s0.1+1),t2)))
 else
 some (.inr s0.2)
theorem QF:∀ x0 s0,bH (qE x0 s0) (T11.qE x0 s0):=by
 intro _ _;unfold qE T11.qE
 repeat' with_reducible first|exact dK _|exact LZ _ _|exact QE _ _|refine oL (fun _=>?_) _|refine eW ?_ ?_|refine dM ?_ fun _=>?_
def qF (indices:List (List aB)) (s0:Nat×List aB×(List (aA×aA))):Option ((Nat×List aB×(List (aA×aA)))⊕((List aB×(List (aA×aA)))⊕(List aB×Int))) :=
 if (s0.1:Int) < (indices.length:Int) then (
  (indices[s0.1]?).bind fun x0 =>
  (qC x0).bind fun r0 =>
  if r0.2≠0 then (
   some (.inr (.inr (([]:List aB),r0.2))))
  else
  (loopE (qE x0) (0,s0.2.2)).bind fun eA1 =>
  cO (s0.2.1.length+x0.length≤1073741824) <|
  some (.inl ((s0.1+1),(s0.2.1++x0),eA1)))
 else
 some (.inr (.inl (s0.2.1,s0.2.2)))
theorem QG:∀ indices s0,bH (qF indices s0) (T11.qF indices s0):=by
 intro _ _;unfold qF T11.qF
 repeat' with_reducible first|exact dK _|exact LY _|exact QF _ _|refine oL (fun _=>?_) _|refine pE ?_|refine eW ?_ ?_|refine dM ?_ fun _=>?_
def qG (t0:List aB×(List (aA×aA))) (s0:Nat×(List (aA×bQ))):Option ((Nat×(List (aA×bQ)))⊕((List (aA×bQ)))) :=
 if (s0.1:Int) < (t0.1.length:Int) then (
  (t0.1[s0.1]?).bind fun x0 =>
  (uP t0.2 x0.name).bind fun r0 =>
  ((
   if (lkp s0.2 r0).isSome then (
    some s0.2)
   else
   some (put s0.2 r0 sX)
  ):Option ((List (aA×bQ)))).bind fun t1 =>
  (lkp t1 r0).bind fun y0 =>
  cO (y0.aZ.length+([x0.name]:List aA).length≤1073741824) <|
  cO (y0.aD.aC.length+x0.aC.length≤1073741824) <|
  cO (y0.aD.aO.length+x0.aO.length≤1073741824) <|
  cO (y0.aD.aG.length+x0.aG.length≤1073741824) <|
  some (.inl ((s0.1+1),(put t1 r0 (⟨⟨y0.aD.name,(y0.aD.aC++x0.aC),(y0.aD.aO++x0.aO),(y0.aD.aG++x0.aG)⟩,(y0.aZ++([x0.name]:List aA))⟩:bQ)))))
 else
 some (.inr s0.2)
theorem QH:∀ t0 s0,bH (qG t0 s0) (T11.qG t0 s0):=by
 intro _ _;unfold qG T11.qG
 repeat' with_reducible first|exact dK _|exact LZ _ _|refine pE ?_|refine eW ?_ ?_|refine dM ?_ fun _=>?_
def kY (q0:aA×bQ) (t0:List aB×(List (aA×aA))) (s1:(List (aA×bQ))) (s0:Nat×List aA):Option ((Nat×List aA)⊕(List aA)) :=
 if (s0.1:Int) < (q0.2.aD.aO.length:Int) then (
  (q0.2.aD.aO[s0.1]?).bind fun x0 =>
  (uP t0.2 x0).bind fun r0 =>
  (lkp s1 r0).bind fun y0 =>
  cO (s0.2.length+1≤1073741824) <|
  some (.inl ((s0.1+1),(s0.2++[y0.aD.name]))))
 else
 some (.inr s0.2)
theorem QI:∀ q0 t0 s0 s1,bH (kY q0 t0 s0 s1) (T11.kY q0 t0 s0 s1):=by
 intro _ _ _ _;unfold kY T11.kY
 repeat' with_reducible first|exact dK _|exact LZ _ _|refine pE ?_|refine eW ?_ ?_|refine dM ?_ fun _=>?_
def qH  (s0:List aB):Option (List aB×Int) :=
 if 60 < (s0.length:Int) then (
  some (([]:List aB),3))
 else
 cO (s0.Nodup) <|
 (sortG (KQ) s0).bind fun l0 =>
 some (l0,0)
theorem QJ:∀ s0,bH (qH s0) (T11.qH s0):=by
 intro _;unfold qH T11.qH
 repeat' with_reducible first|exact dK _|exact aC8 _ _|refine ZJ (fun _ _=>?_) _|refine pE ?_|refine eW ?_ ?_|refine dM ?_ fun _=>?_
def mL (s0:(List (aA×bQ))) (t0:List aB×(List (aA×aA))) (s1:List aB) (i0:Nat):Option ((List aB)⊕(List aB×Int)) :=
 (s0[i0]?).bind fun q0 =>
 (BT q0.2.aD.name ([q0.2.aD.aC,q0.2.aZ]:List (List aA))).bind fun r0 =>
 (AV q0.2.aD.aG).bind fun r1 =>
 (loopE (kY q0 t0 s0) (0,([]:List aA))).bind fun eA1 =>
 (BT q0.2.aD.name ([eA1]:List (List aA))).bind fun r2 =>
 ((
  if 8 < (r0.length:Int) then (
   some true)
  else
  if 8 < (r2.length:Int) then (
   some true)
  else
  some (decide (30 < (r1.length:Int)))
 ):Option (Bool)).bind fun t1 =>
 if t1 then (
  some (.inr (([]:List aB),3)))
 else
 cO (s1.length+1≤1073741824) <|
 some (.inl (s1++[(⟨q0.2.aD.name,r0,r2,r1⟩:aB)]))
theorem QK:∀ s0 t0 s1 i0,bH (mL s0 t0 s1 i0) (T11.mL s0 t0 s1 i0):=by
 intro _ _ _ _;unfold mL T11.mL
 repeat' with_reducible first|exact dK _|exact aC5 _ _|exact aC7 _|exact QI _ _ _ _|refine oL (fun _=>?_) _|refine pE ?_|refine eW ?_ ?_|refine dM ?_ fun _=>?_
def qI (t0:List aB×(List (aA×aA))) (s0:(List (aA×bQ))):Option (List aB×Int) :=
 ordE s0.length (mL s0 t0) qH ([]:List aB)
theorem QL:∀ t0 s0,bH (qI t0 s0) (T11.qI t0 s0):=by
 intro _ _;unfold qI T11.qI
 repeat' with_reducible first|exact dK _|exact QK _ _ _ _|exact QJ _|refine lq3 (fun _ _=>?_) (fun _=>?_) _
def qJ  (s0:(List (aA×bQ))) (i0:Nat):Option (((List (aA×bQ)))⊕(List aB×Int)) :=
 (s0[i0]?).bind fun q0 =>
 (HU q0.2.aZ (pJ)).bind fun r0 =>
 some (.inl (s0.set i0 (q0.1,(⟨⟨r0,q0.2.aD.aC,q0.2.aD.aO,q0.2.aD.aG⟩,q0.2.aZ⟩:bQ))))
theorem QM:∀ s0 i0,bH (qJ s0 i0) (T11.qJ s0 i0):=by
 intro _ _;unfold qJ T11.qJ
 repeat' with_reducible first|exact dK _|refine aC4 _ (fun _ _=>?_)|exact IW _ _|refine dM ?_ fun _=>?_
def m18 (indices:List (List aB)):Option (List aB×Int) :=
 if 12 < (indices.length:Int) then (
  some (([]:List aB),3))
 else
 (loopE (qF indices) (0,([]:List aB),([]:List (aA×aA)))).bind fun eB1=>match eB1 with
 | .inr z=>some z
 | .inl t0 =>
 (loopE (qG t0) (0,([]:List (aA×bQ)))).bind fun eA1 =>
 ordE eA1.length qJ (qI t0) eA1
theorem aC9:∀ indices,bH (m18 indices) (T11.m18 indices):=by
 intro _;unfold m18 T11.m18
 repeat' with_reducible first|exact dK _|exact QG _ _|exact QH _ _|exact QM _ _|exact QL _ _|refine oL (fun _=>?_) _|refine lq3 (fun _ _=>?_) (fun _=>?_) _|refine eW ?_ ?_|(refine uM ?_ (fun _=>?_) (fun _=>?_)<;>try dsimp only)|refine dM ?_ fun _=>?_
def tJ (p_0:aH):Option (aA) :=
 (pG p_0.aM).bind fun r4 =>
 cO (r4.length+[47].length≤1073741824) <|
 (pG p_0.aV).bind fun r9 =>
 cO ((r4++[47]).length+r9.length≤1073741824) <|
 ((
  if p_0.aV < p_0.cM then (
   (pG p_0.cM).bind fun r0 =>
   cO ([45].length+r0.length≤1073741824) <|
   cO (((r4++[47])++r9).length+([45]++r0).length≤1073741824) <|
   some (((r4++[47])++r9)++([45]++r0)))
  else
  some ((r4++[47])++r9)
 ):Option (aA)).bind fun t0 =>
 some t0
theorem WT:∀ p_0,bH (tJ p_0) (T11.tJ p_0):=by
 intro _;unfold tJ T11.tJ
 repeat' with_reducible first|exact dK _|exact VN _|refine pE ?_|refine eW ?_ ?_|refine dM ?_ fun _=>?_
def gZ (h_0:aB) (s0:Nat×List aA):Option ((Nat×List aA)⊕(List aA)) :=
 if (s0.1:Int) < (h_0.aG.length:Int) then (
  (h_0.aG[s0.1]?).bind fun x0 =>
  (tJ x0).bind fun r0 =>
  cO ([32].length+r0.length≤1073741824) <|
  cO (s0.2.length+1≤1073741824) <|
  some (.inl ((s0.1+1),(s0.2++[([32]++r0)]))))
 else
 some (.inr s0.2)
theorem MA:∀ h_0 s0,bH (gZ h_0 s0) (T11.gZ h_0 s0):=by
 intro _ _;unfold gZ T11.gZ
 repeat' with_reducible first|exact dK _|exact WT _|refine pE ?_|refine eW ?_ ?_|refine dM ?_ fun _=>?_
def tK (h_0:aB):Option (aA) :=
 (loopE (gZ h_0) (0,([]:List aA))).bind fun e94 =>
 cO (h_0.name.length+[58].length≤1073741824) <|
 (pH e94 [44]).bind fun r0 =>
 cO ((h_0.name++[58]).length+r0.length≤1073741824) <|
 ((
  if 0 < (h_0.aO.length:Int) then (
   (pH h_0.aO [44,32]).bind fun r1 =>
   cO ([59,32].length+r1.length≤1073741824) <|
   cO (((h_0.name++[58])++r0).length+([59,32]++r1).length≤1073741824) <|
   some (((h_0.name++[58])++r0)++([59,32]++r1)))
  else
  some ((h_0.name++[58])++r0)
 ):Option (aA)).bind fun t0 =>
 some t0
theorem WU:∀ h_0,bH (tK h_0) (T11.tK h_0):=by
 intro _;unfold tK T11.tK
 repeat' with_reducible first|exact dK _|exact MA _ _|exact VT _ _|refine oL (fun _=>?_) _|refine pE ?_|refine eW ?_ ?_|refine dM ?_ fun _=>?_
def kZ (x1:aB) (s0:Nat×List aA×(List (aA×aA))):Option ((Nat×List aA×(List (aA×aA)))⊕(List aA×(List (aA×aA)))) :=
 if (s0.1:Int) < (x1.aC.length:Int) then (
  (x1.aC[s0.1]?).bind fun x0 =>
  ((
   cO (s0.2.1.length+1≤1073741824) <|
   cO (x0.length+[32,61,32].length≤1073741824) <|
   cO ((x0++[32,61,32]).length+x1.name.length≤1073741824) <|
   some ((s0.2.1++[x0]),(put s0.2.2 x0 ((x0++[32,61,32])++x1.name)))
  ):Option (List aA×(List (aA×aA)))).bind fun t0 =>
  some (.inl ((s0.1+1),t0.1,t0.2)))
 else
 some (.inr (s0.2.1,s0.2.2))
theorem QN:∀ x0 s0,bH (kZ x0 s0) (T11.kZ x0 s0):=by
 intro _ _;unfold kZ T11.kZ
 repeat' with_reducible first|exact dK _|refine pE ?_|refine eW ?_ ?_|refine dM ?_ fun _=>?_
def lA (l_0:List aB) (s0:Nat×List aA×(List (aA×aA))):Option ((Nat×List aA×(List (aA×aA)))⊕(List aA×(List (aA×aA)))) :=
 if (s0.1:Int) < (l_0.length:Int) then (
  (l_0[s0.1]?).bind fun x0 =>
  ((
   ((
    cO (s0.2.1.length+1≤1073741824) <|
    cO (x0.name.length+[32,61,32].length≤1073741824) <|
    cO ((x0.name++[32,61,32]).length+x0.name.length≤1073741824) <|
    some ((s0.2.1++[x0.name]),(put s0.2.2 x0.name ((x0.name++[32,61,32])++x0.name)))
   ):Option (List aA×(List (aA×aA)))).bind fun t0 =>
   (loopE (kZ x0) (0,t0.1,t0.2)).bind fun eA1 =>
   some (eA1.1,eA1.2)
  ):Option (List aA×(List (aA×aA)))).bind fun t1 =>
  (tK x0).bind fun r0 =>
  some (.inl ((s0.1+1),t1.1,(put t1.2 x0.name r0))))
 else
 some (.inr (s0.2.1,s0.2.2))
theorem QO:∀ l_0 s0,bH (lA l_0 s0) (T11.lA l_0 s0):=by
 intro _ _;unfold lA T11.lA
 repeat' with_reducible first|exact dK _|exact QN _ _|exact WU _|refine oL (fun _=>?_) _|refine pE ?_|refine eW ?_ ?_|refine dM ?_ fun _=>?_
def lB (eA1:List aA×(List (aA×aA))) (l0:List aA) (s0:Nat×Bool×List UInt8):Option ((Nat×Bool×List UInt8)⊕(Bool×List UInt8)) :=
 if (s0.1:Int) < (eA1.1.length:Int) then (
  (l0[s0.1]?).bind fun x0 =>
  cO (((lkp eA1.2 x0).getD ([]:aA)).length+[10].length≤1073741824) <|
  ((
   cO (s0.2.2.length+(((lkp eA1.2 x0).getD ([]:aA))++[10]).length≤1073741824) <|
   some ((((lkp eA1.2 x0).getD ([]:aA))++[10]).length,true,(s0.2.2++(((lkp eA1.2 x0).getD ([]:aA))++[10])))
  ):Option (Nat×Bool×List UInt8)).bind fun t0 =>
  some (.inl ((s0.1+1),t0.2.1,t0.2.2)))
 else
 some (.inr (s0.2.1,s0.2.2))
theorem QP:∀ eA1 l0 s0,bH (lB eA1 l0 s0) (T11.lB eA1 l0 s0):=by
 intro _ _ _;unfold lB T11.lB
 repeat' with_reducible first|exact dK _|refine pE ?_|refine eW ?_ ?_|refine dM ?_ fun _=>?_
def FH (l_0:List aB):Option (aA) :=
 (loopE (lA l_0) (0,([]:List aA),([]:List (aA×aA)))).bind fun eA1 =>
 (sortG (pJ) eA1.1).bind fun l0 =>
 (loopE (lB eA1 l0) (0,false,([]:List UInt8))).bind fun eB1 =>
 some eB1.2
theorem WV:∀ l_0,bH (FH l_0) (T11.FH l_0):=by
 intro _;unfold FH T11.FH
 repeat' with_reducible first|exact dK _|exact QO _ _|exact IW _ _|exact QP _ _ _|refine oL (fun _=>?_) _|refine ZJ (fun _ _=>?_) _|refine dM ?_ fun _=>?_
def DH (l_0:List aB):Option (List UInt8×Int) :=
 (qC l_0).bind fun r1 =>
 if r1.2≠0 then (
  some (([]:List UInt8),r1.2))
 else
 (FH l_0).bind fun r0 =>
 cO (r0.length≤1073741824) <|
 some (r0,0)
theorem aDa:∀ l_0,bH (DH l_0) (T11.DH l_0):=by
 intro _;unfold DH T11.DH
 repeat' with_reducible first|exact dK _|exact LY _|exact WV _|refine pE ?_|refine eW ?_ ?_|refine dM ?_ fun _=>?_
def KR  : Option (aA) :=
 some [65,32,76,101,101,58,32,51,47,55,44,32,57,47,49,45,50,10,67,111,114,110,32,76,97,119,115,58,32,51,47,49,50,45,49,52,44,32,52,47,49,45,50,59,32,84,114,97,100,101,10,67,111,114,110,32,108,97,119,115,32,61,32,67,111,114,110,32,76,97,119,115,10,76,97,100,121,32,76,101,101,32,61,32,65,32,76,101,101,10,76,101,101,32,65,110,110,32,61,32,65,32,76,101,101,10,84,114,97,100,101,58,32,51,47,49,51,10]
theorem aDb  : bH (KR ) (T11.KR ):=by
 unfold KR T11.KR
 repeat' with_reducible first|exact dK _
def lC (o_0:vH) (s_1:aA):Option (Int⊕Unit) :=
 (wZ s_1).bind fun r4 =>
 if r4.2 then (
  some (.inr ()))
 else
 some (.inl r4.1)
theorem WW:∀ o_0 s_1,bH (lC o_0 s_1) (T11.lC o_0 s_1):=by
 intro _ _;unfold lC T11.lC
 repeat' with_reducible first|exact dK _|exact VM _|refine eW ?_ ?_|refine dM ?_ fun _=>?_
def pL (o_0:vH) (s_1:aA):Option (aH⊕Unit) :=
 (xW s_1 [47]).bind fun r5 =>
 (xW r5.2.1 [45]).bind fun r8 =>
 (lC o_0 r5.1).bind fun r0=>match r0 with
 | .inl y1=>(
  (lC o_0 r8.1).bind fun r1=>match r1 with
  | .inl y0=>(
   ((
    if r8.2.2 then (
     (lC o_0 r8.2.1).bind fun r2=>match r2 with
     | .inl y2=>(
      some (.inl y2))
     | .inr _=>(
      some (.inr (.inr ()))))
    else
    some (.inl y0)
   ):Option ((Int)⊕(aH⊕Unit))).bind fun t0=>match t0 with
   | .inr z=>some z
   | .inl t1 =>
   some (.inl (⟨y1,y0,t1⟩:aH)))
  | .inr _=>(
   some (.inr ())))
 | .inr _=>(
  some (.inr ()))
theorem WX:∀ o_0 s_1,bH (pL o_0 s_1) (T11.pL o_0 s_1):=by
 intro _ _;unfold pL T11.pL
 repeat' with_reducible first|exact dK _|exact PU _ _|exact WW _ _|refine eW ?_ ?_|(refine uM ?_ (fun _=>?_) (fun _=>?_)<;>try dsimp only)|refine dM ?_ fun _=>?_
def iH (r0:List aA) (o_0:vH) (s0:Nat×List aH):Option ((Nat×List aH)⊕((List aH)⊕((List aH)⊕(aB⊕Unit)))) :=
 if (s0.1:Int) < (r0.length:Int) then (
  (r0[s0.1]?).bind fun x0 =>
  (zG x0 [32]).bind fun r1 =>
  (pL o_0 r1).bind fun r2=>match r2 with
  | .inl y0=>(
   cO (s0.2.length+([y0]:List aH).length≤1073741824) <|
   some (.inl ((s0.1+1),(s0.2++([y0]:List aH)))))
  | .inr _=>(
   some (.inr (.inr (.inr (.inr ()))))))
 else
 some (.inr (.inl s0.2))
theorem QQ:∀ r0 o_0 s0,bH (iH r0 o_0 s0) (T11.iH r0 o_0 s0):=by
 intro _ _ _;unfold iH T11.iH
 repeat' with_reducible first|exact dK _|exact VP _ _|exact WX _ _|refine pE ?_|refine eW ?_ ?_|(refine uM ?_ (fun _=>?_) (fun _=>?_)<;>try dsimp only)|refine dM ?_ fun _=>?_
def FI (o_0:vH):Option (aB⊕Unit) :=
 (xW o_0.line [58]).bind fun r5 =>
 (xW r5.2.1 [59,32]).bind fun r8 =>
 ((
  if r8.1≠[] then (
   (CZ r8.1 [44]).bind fun r0 =>
   (loopE (iH r0 o_0) (0,([]:List aH))).bind fun eA1=>match eA1 with
   | .inr z=>some z
   | .inl t0 =>
   some (.inl t0))
  else
  some (.inl ([]:List aH))
 ):Option ((List aH)⊕(aB⊕Unit))).bind fun t1=>match t1 with
 | .inr z=>some z
 | .inl t2 =>
 ((
  if r8.2.2 then (
   (CZ r8.2.1 [44,32]).bind fun r1 =>
   some r1)
  else
  some ([]:List aA)
 ):Option (List aA)).bind fun t3 =>
 some (.inl (⟨r5.1,([]:List aA),t3,t2⟩:aB))
theorem aDc:∀ o_0,bH (FI o_0) (T11.FI o_0):=by
 intro _;unfold FI T11.FI
 repeat' with_reducible first|exact dK _|exact PU _ _|exact VS _ _|exact QQ _ _ _|refine oL (fun _=>?_) _|refine eW ?_ ?_|(refine uM ?_ (fun _=>?_) (fun _=>?_)<;>try dsimp only)|refine dM ?_ fun _=>?_
def iI (r9:List aA) (s0:Nat×List aB×(List (aA×(List aA)))):Option ((Nat×List aB×(List (aA×(List aA))))⊕((List aB×(List (aA×(List aA))))⊕(List aB×Int))) :=
 if (s0.1:Int) < ((r9.take (((r9.length:Int) - 1).toNat)).length:Int) then (
  ((r9.take (((r9.length:Int) - 1).toNat))[s0.1]?).bind fun x0 =>
  (xW x0 [32,61,32]).bind fun r0 =>
  ((
   if r0.2.2 then (
    cO (((lkp s0.2.2 r0.2.1).getD []).length+1≤1073741824) <|
    some (.inl (s0.2.1,(put s0.2.2 r0.2.1 (((lkp s0.2.2 r0.2.1).getD [])++[r0.1])))))
   else
   (FI (⟨x0⟩:vH)).bind fun r1=>match r1 with
   | .inl y0=>(
    cO (s0.2.1.length+([y0]:List aB).length≤1073741824) <|
    some (.inl ((s0.2.1++([y0]:List aB)),s0.2.2)))
   | .inr _=>(
    some (.inr (.inr (.inr (([]:List aB),4)))))
  ):Option ((List aB×(List (aA×(List aA))))⊕((Nat×List aB×(List (aA×(List aA))))⊕((List aB×(List (aA×(List aA))))⊕(List aB×Int))))).bind fun t1=>match t1 with
  | .inr z=>some z
  | .inl t0 =>
  some (.inl ((s0.1+1),t0.1,t0.2)))
 else
 some (.inr (.inl (s0.2.1,s0.2.2)))
theorem QR:∀ r9 s0,bH (iI r9 s0) (T11.iI r9 s0):=by
 intro _ _;unfold iI T11.iI
 repeat' with_reducible first|exact dK _|exact PU _ _|exact aDc _|refine pE ?_|refine eW ?_ ?_|(refine uM ?_ (fun _=>?_) (fun _=>?_)<;>try dsimp only)|refine dM ?_ fun _=>?_
def iJ (t0:List aB×(List (aA×(List aA)))) (s0:Nat×(List (aA×(List aA)))×List aB):Option ((Nat×(List (aA×(List aA)))×List aB)⊕(List aB)) :=
 if (s0.1:Int) < (t0.1.length:Int) then (
  (s0.2.2[s0.1]?).bind fun x0 =>
  some (.inl ((s0.1+1),s0.2.1,(s0.2.2.set s0.1 (⟨x0.name,((lkp s0.2.1 x0.name).getD []),x0.aO,x0.aG⟩:aB)))))
 else
 some (.inr s0.2.2)
theorem QS:∀ t0 s0,bH (iJ t0 s0) (T11.iJ t0 s0):=by
 intro _ _;unfold iJ T11.iJ
 repeat' with_reducible first|exact dK _|refine eW ?_ ?_|refine dM ?_ fun _=>?_
def vJ (b_0:List UInt8):Option (List aB×Int) :=
 if 200000 < (b_0.length:Int) then (
  some (([]:List aB),3))
 else
 (CZ b_0 [10]).bind fun r9 =>
 cO (0≤((r9.length:Int) - 1)) <|
 cO (((r9.length:Int) - 1).toNat≤r9.length) <|
 (loopE (iI r9) (0,([]:List aB),([]:List (aA×(List aA))))).bind fun eB1=>match eB1 with
 | .inr z=>some z
 | .inl t0 =>
 (loopE (iJ t0) (0,t0.2,t0.1)).bind fun eA1 =>
 (qC eA1).bind fun r0 =>
 ((
  if r0.2≠0 then (
   some true)
  else
  (FH eA1).bind fun r1 =>
  some (decide (r1≠b_0))
 ):Option (Bool)).bind fun t1 =>
 if t1 then (
  some (([]:List aB),4))
 else
 some (eA1,0)
theorem aDd:∀ b_0,bH (vJ b_0) (T11.vJ b_0):=by
 intro _;unfold vJ T11.vJ
 repeat' with_reducible first|exact dK _|exact VS _ _|exact QR _ _|exact QS _ _|exact LY _|exact WV _|refine oL (fun _=>?_) _|refine pE ?_|refine eW ?_ ?_|(refine uM ?_ (fun _=>?_) (fun _=>?_)<;>try dsimp only)|refine dM ?_ fun _=>?_
def HV (p_0:aH) (c_1:mY):Option (Bool) :=
 ((
  if p_0.aM=c_1.e0 then (
   (uH c_1.e1 p_0.aV p_0.cM).bind fun r0 =>
   some r0)
  else
  some false
 ):Option (Bool)).bind fun t0 =>
 some t0
theorem aDe:∀ p_0 c_1,bH (HV p_0 c_1) (T11.HV p_0 c_1):=by
 intro _ _;unfold HV T11.HV
 repeat' with_reducible first|exact dK _|exact LT _ _ _|refine eW ?_ ?_|refine dM ?_ fun _=>?_
def lD (x0:aB) (aM:Int) (number:Int) (s1:Nat×List aA) (s0:Nat):Option ((Nat)⊕((Unit)⊕(List aA))) :=
 if (s0:Int) < (x0.aG.length:Int) then (
  (x0.aG[s0]?).bind fun x1 =>
  (HV x1 (⟨aM,number⟩:mY)).bind fun r0 =>
  if r0 then (
   cO (s1.2.length+1≤1073741824) <|
   Option.map (fun z=>.inr (.inr z)) (
   some (s1.2++[x0.name])))
  else
  some (.inl (s0+1)))
 else
 some (.inr (.inl ()))
theorem QT:∀ x0 aM number s0 s1,bH (lD x0 aM number s0 s1) (T11.lD x0 aM number s0 s1):=by
 intro _ _ _ _ _;unfold lD T11.lD
 repeat' with_reducible first|exact dK _|exact aDe _ _|refine pE ?_|refine eW ?_ ?_|refine dM ?_ fun _=>?_|refine ZK ?_
def jZ (l_0:List aB) (aM:Int) (number:Int) (s0:Nat×List aA):Option ((Nat×List aA)⊕(List aA)) :=
 if (s0.1:Int) < (l_0.length:Int) then (
  ((
   (l_0[s0.1]?).bind fun x0 =>
   (loopE (lD x0 aM number s0) 0).bind fun eA1=>match eA1 with
   | .inr z=>some z
   | .inl t1 =>
   some s0.2
  ):Option (List aA)).bind fun t0 =>
  some (.inl ((s0.1+1),t0)))
 else
 some (.inr s0.2)
theorem QU:∀ l_0 aM number s0,bH (jZ l_0 aM number s0) (T11.jZ l_0 aM number s0):=by
 intro _ _ _ _;unfold jZ T11.jZ
 repeat' with_reducible first|exact dK _|exact QT _ _ _ _ _|refine oL (fun _=>?_) _|refine eW ?_ ?_|(refine uM ?_ (fun _=>?_) (fun _=>?_)<;>try dsimp only)|refine dM ?_ fun _=>?_
def GB (l_0:List aB) (aM:Int) (number:Int):Option (List aA×Int) :=
 (qC l_0).bind fun r1 =>
 if r1.2≠0 then (
  some (([]:List aA),r1.2))
 else
 ((
  (uH aM 1 999).bind fun r0 =>
  if r0 then (
   (uH number 1 9999).bind fun r2 =>
   some (!r2))
  else
  some true
 ):Option (Bool)).bind fun t0 =>
 if t0 then (
  some (([]:List aA),2))
 else
 (loopE (jZ l_0 aM number) (0,([]:List aA))).bind fun eA1 =>
 some (eA1,0)
theorem aDf:∀ l_0 aM number,bH (GB l_0 aM number) (T11.GB l_0 aM number):=by
 intro _ _ _;unfold GB T11.GB
 repeat' with_reducible first|exact dK _|exact LY _|exact LT _ _ _|exact QU _ _ _ _|refine oL (fun _=>?_) _|refine eW ?_ ?_|refine dM ?_ fun _=>?_
def qK (a_0:List aA) (b_1:List aA) (s0:Nat):Option ((Nat)⊕((Unit)⊕Bool)) :=
 if (s0:Int) < (a_0.length:Int) then (
  (a_0[s0]?).bind fun x0 =>
  (b_1[s0]?).bind fun x1 =>
  if x0≠x1 then (
   some (.inr (.inr false)))
  else
  some (.inl (s0+1)))
 else
 some (.inr (.inl ()))
theorem QV:∀ a_0 b_1 s0,bH (qK a_0 b_1 s0) (T11.qK a_0 b_1 s0):=by
 intro _ _ _;unfold qK T11.qK
 repeat' with_reducible first|exact dK _|refine eW ?_ ?_|refine dM ?_ fun _=>?_
def AW (a_0:List aA) (b_1:List aA):Option (Bool) :=
 if (a_0.length:Int)≠(b_1.length:Int) then (
  some false)
 else
 (loopE (qK a_0 b_1) 0).bind fun RY=>match RY with
 | .inr z=>some z
 | .inl t0 =>
 some true
theorem WY:∀ a_0 b_1,bH (AW a_0 b_1) (T11.AW a_0 b_1):=by
 intro _ _;unfold AW T11.AW
 repeat' with_reducible first|exact dK _|exact QV _ _ _|refine oL (fun _=>?_) _|refine eW ?_ ?_|(refine uM ?_ (fun _=>?_) (fun _=>?_)<;>try dsimp only)|refine dM ?_ fun _=>?_
def lE (a_0:aB) (b_1:aB) (s0:Nat):Option ((Nat)⊕((Unit)⊕Bool)) :=
 if (s0:Int) < (a_0.aG.length:Int) then (
  (a_0.aG[s0]?).bind fun x0 =>
  (b_1.aG[s0]?).bind fun x1 =>
  if x0=x1 then (
   some (.inl (s0+1)))
  else
  some (.inr (.inr false)))
 else
 some (.inr (.inl ()))
theorem QW:∀ a_0 b_1 s0,bH (lE a_0 b_1 s0) (T11.lE a_0 b_1 s0):=by
 intro _ _ _;unfold lE T11.lE
 repeat' with_reducible first|exact dK _|refine eW ?_ ?_|refine dM ?_ fun _=>?_
def FJ (a_0:aB) (b_1:aB):Option (Bool) :=
 ((
  if a_0.name≠b_1.name then (
   some true)
  else
  (AW a_0.aC b_1.aC).bind fun r0 =>
  if r0 then (
   (AW a_0.aO b_1.aO).bind fun r1 =>
   if r1 then (
    some (decide ((a_0.aG.length:Int)≠(b_1.aG.length:Int))))
   else
   some true)
  else
  some true
 ):Option (Bool)).bind fun t0 =>
 if t0 then (
  some false)
 else
 (loopE (lE a_0 b_1) 0).bind fun tO=>match tO with
 | .inr z=>some z
 | .inl t1 =>
 some true
theorem aDg:∀ a_0 b_1,bH (FJ a_0 b_1) (T11.FJ a_0 b_1):=by
 intro _ _;unfold FJ T11.FJ
 repeat' with_reducible first|exact dK _|exact WY _ _|exact QW _ _ _|refine oL (fun _=>?_) _|refine eW ?_ ?_|(refine uM ?_ (fun _=>?_) (fun _=>?_)<;>try dsimp only)|refine dM ?_ fun _=>?_
def qL (a_0:List aB) (b_1:List aB) (s0:Nat):Option ((Nat)⊕((Unit)⊕Bool)) :=
 if (s0:Int) < (a_0.length:Int) then (
  (a_0[s0]?).bind fun x0 =>
  (b_1[s0]?).bind fun x1 =>
  (FJ x0 x1).bind fun r0 =>
  if r0 then (
   some (.inl (s0+1)))
  else
  some (.inr (.inr false)))
 else
 some (.inr (.inl ()))
theorem QX:∀ a_0 b_1 s0,bH (qL a_0 b_1 s0) (T11.qL a_0 b_1 s0):=by
 intro _ _ _;unfold qL T11.qL
 repeat' with_reducible first|exact dK _|exact aDg _ _|refine eW ?_ ?_|refine dM ?_ fun _=>?_
def GC (a_0:List aB) (b_1:List aB):Option (Bool) :=
 if (a_0.length:Int)≠(b_1.length:Int) then (
  some false)
 else
 (loopE (qL a_0 b_1) 0).bind fun RZ=>match RZ with
 | .inr z=>some z
 | .inl t0 =>
 some true
theorem aDh:∀ a_0 b_1,bH (GC a_0 b_1) (T11.GC a_0 b_1):=by
 intro _ _;unfold GC T11.GC
 repeat' with_reducible first|exact dK _|exact QX _ _ _|refine oL (fun _=>?_) _|refine eW ?_ ?_|(refine uM ?_ (fun _=>?_) (fun _=>?_)<;>try dsimp only)|refine dM ?_ fun _=>?_
def m16  : Option (Bool) :=
 (JC).bind fun r1 =>
 (m18 r1).bind fun r8 =>
 (DH r8.1).bind fun r2 =>
 (KR).bind fun r0 =>
 cO (r0.length≤1073741824) <|
 (vJ r0).bind fun r3 =>
 (GB r8.1 3 13).bind fun r4 =>
 ((
  if r8.2=0 then (
   if r2.2=0 then (
    if r2.1=r0 then (
     if r3.2=0 then (
      (GC r8.1 r3.1).bind fun r5 =>
      if r5 then (
       if r4.2=0 then (
        (AW r4.1 ([[67,111,114,110,32,76,97,119,115],[84,114,97,100,101]]:List aA)).bind fun CI =>
        some CI)
       else
       some false)
      else
      some false)
     else
     some false)
    else
    some false)
   else
   some false)
  else
  some false
 ):Option (Bool)).bind fun t0 =>
 some t0
theorem aDi  : bH (m16 ) (T11.m16 ):=by
 unfold m16 T11.m16
 repeat' with_reducible first|exact dK _|exact aCv|exact aC9 _|exact aDa _|exact aDb|exact aDd _|exact aDf _ _ _|exact aDh _ _|exact WY _ _|refine pE ?_|refine eW ?_ ?_|refine dM ?_ fun _=>?_
end T11.E
namespace T11
open Go Go.Proofs Pk
theorem awk:m16=some true:=E.aDi _ (show E.m16=some true by kernel_rfl)
end T11
