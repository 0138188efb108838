/-
  The plain laws: what the models of a session come to.
-/
import Derived.Test.YtehbdldbihhleaaGreatDoorMade
import Derived.Test.YtehbdldbihhleaaGreatDoorKitSix
import Derived.Lib.AtoiAllCases
import Derived.Lib.IndexMore
set_option linter.all false
set_option maxRecDepth 100000
namespace T12
theorem awk:m7=some true:=by kernel_rfl
end T12
set_option maxHeartbeats 4000000
namespace T12
open Go Go.Proofs Pk
def T {α:Type} (o:Option α) (P:α→Prop):Prop:=∃ v,o=some v∧P v
theorem T.mk {α:Type} {v:α} {P:α→Prop} (h:P v):T (some v) P:=⟨v,rfl,h⟩
theorem T.bd {α β:Type} {o:Option α} {f:α→Option β} {Q:α→Prop} {P:β→Prop} (h:T o Q) (k:∀ v,Q v→T (f v) P):T (o.bind f) P:=by
 obtain ⟨v,rfl,hv⟩:=h;exact k v hv
theorem T.mono {α:Type} {o:Option α} {Q P:α→Prop} (h:T o Q) (k:∀ v,Q v→P v):T o P:=by
 obtain ⟨v,h1,hv⟩:=h;exact ⟨v,h1,k v hv⟩
theorem T.ck {α:Type} {c:Prop} [Decidable c] {o:Option α} {P:α→Prop} (hc:c) (h:T o P):T (cB c o) P:=by
 unfold cB;rw [if_pos hc];exact h
theorem T.ie {α:Type} {c:Prop} [Decidable c] {a b:Option α} {P:α→Prop} (h1:c→T a P) (h2:¬c→T b P):T (if c then a else b) P:=by
 by_cases h:c
 ·rw [if_pos h];exact h1 h
 rw [if_neg h];exact h2 h
theorem T.at {α:Type} {l:List α} {i:Nat} (h:i < l.length):T (l[i]?) (fun x=>l[i]?=some x):=⟨l[i],List.getElem?_eq_getElem h,List.getElem?_eq_getElem h⟩
theorem T.mem {α:Type} {l:List α} {i:Nat} (h:i < l.length):T (l[i]?) (fun x=>x∈l):=⟨l[i],List.getElem?_eq_getElem h,List.getElem_mem h⟩
theorem T.lp {σ ε:Type} {step:σ→Option (σ⊕ε)} (I:σ→Prop) (μ:σ→Nat) {Q:ε→Prop} (h:∀ s,I s→T (step s) (fun r=>match r with | .inl s'=>I s'∧μ s' < μ s | .inr e=>Q e)) {s0:σ} (h0:I s0):T (bG step s0) Q:=by
 have:∀ n s,μ s=n→I s→T (bG step s) Q:=by
  intro n
  induction n using Nat.strongRecOn with
  | _ n ih =>
   intro s hn hI;obtain ⟨v,h1,h2⟩:=h s hI
   cases v with
   | inl s'=>rw [gK h1];exact ih (μ s') (by have:=h2.2;omega) s' rfl h2.1
   | inr e=>rw [dX h1];exact ⟨e,rfl,h2⟩
 exact this _ s0 rfl h0
theorem T.ix {σ ε:Type} {step:σ→Option (σ⊕ε)} (n:Nat) (ix:σ→Nat) (I:σ→Prop) {Q:ε→Prop} (h:∀ s,I s→ix s≤n→T (step s) (fun r=>match r with | .inl s'=>I s'∧ix s'=ix s+1∧ix s < n | .inr e=>Q e)) {s0:σ} (h0:I s0) (h1:ix s0≤n):T (bG step s0) Q :=
 T.lp (fun s=>I s∧ix s≤n) (fun s=>n - ix s) (fun s hs=>(h s hs.1 hs.2).mono fun v hv=>by
  cases v with
  | inl s'=>have:=hv.2;exact ⟨⟨hv.1,by omega⟩,by omega⟩
  | inr e=>exact hv) ⟨h0,h1⟩
theorem T.rc {β:Type} {F:Nat→Option β} {P:β→Prop} (h:T (F 100000) P):T (wX F) P:=by
 obtain ⟨v,h1,hv⟩:=h;exact ⟨v,by unfold wX;rw [h1];rfl,hv⟩
theorem T.eq {α:Type} {o:Option α} {v:α} {P:α→Prop} (h:o=some v) (hp:P v):T o P:=⟨v,h,hp⟩
theorem T.ok {α:Type} {o:Option α} {v:α} (h:o=some v):T o (fun r=>r=v):=⟨v,h,rfl⟩
theorem T.get {α:Type} {o:Option α} {P:α→Prop} {d:α} (h:T o P):o=some (o.getD d):=by
 obtain ⟨v,rfl,_⟩:=h;rfl
theorem idx {α:Type} (l:List α) (p:α→Bool) (step:Nat→Option (Nat⊕(Unit⊕Int))) (h:∀ (i:Nat) (x:α),l[i]?=some x→step i=if p x then some (.inr (.inr (i:Int))) else some (.inl (i+1))) (he:step l.length=some (.inr (.inl ()))) :
  T (bG step 0) (fun e=>(∃ z:Nat,e=.inr (z:Int)∧l.any p=true)∨(e=.inl ()∧l.any p=false)):=by
 have:∀ n i,l.length - i=n→i≤l.length→T (bG step i) (fun e=>(∃ z:Nat,e=.inr (z:Int)∧(l.drop i).any p=true)∨(e=.inl ()∧(l.drop i).any p=false)):=by
  intro n
  induction n with
  | zero =>
   intro i h1 h2;obtain rfl:i=l.length:=by omega
   rw [dX he,List.drop_length];exact ⟨_,rfl,.inr ⟨rfl,rfl⟩⟩
  | succ n ih =>
   intro i h1 h2;have hi:i < l.length:=by omega
   rw [List.drop_eq_getElem_cons hi];simp only [List.any_cons];have h3:=h i _ (List.getElem?_eq_getElem hi)
   cases hp:p l[i] with
   | true=>rw [hp,if_pos rfl] at h3;rw [dX h3];exact ⟨_,rfl,.inl ⟨i,rfl,rfl⟩⟩
   | false=>rw [hp] at h3;rw [gK h3];simp only [Bool.false_or];exact ih _ (by omega) (by omega)
 exact this _ 0 rfl (Nat.zero_le _)
theorem rG {α:Type} (l:List α) (f:α→Option Bool) (p:α→Bool) (hf:∀ x∈l,f x=some (p x)) (step:Nat→Option (Nat⊕(Unit⊕Int)))
  (h:∀ i,step i=if (i:Int) < (l.length:Int) then (l[i]?).bind fun x=>(f x).bind fun r=>if r then some (.inr (.inr (i:Int))) else some (.inl (i+1)) else some (.inr (.inl ()))) :
  T (bG step 0) (fun e=>(∃ z:Nat,e=.inr (z:Int)∧l.any p=true)∨(e=.inl ()∧l.any p=false)):=by
 refine idx l p step (fun i x hx=>?_) ?_
 ·have hi:=(List.getElem?_eq_some_iff.1 hx).1;rw [h,if_pos (by omega),hx,Option.bind_some,hf x (List.mem_of_getElem? hx),Option.bind_some]
 rw [h,if_neg (by omega)]
theorem YG (l:List (List Int)) (f:List Int→Option Bool) (p:List Int→Bool) (hf:∀ x∈l,f x=some (p x)):BN l f=some (l.all p):=by
 obtain ⟨r,h1,h2⟩:=rG l (fun x=>vN x f) (fun x=>!p x) (fun x hx=>by unfold vN;rw [hf x hx];rfl) (xN l (fun x=>vN x f)) (fun i=>rfl);unfold BN LC LB;rw [h1,List.all_eq_not_any_not];rcases h2 with ⟨z,rfl,h2⟩ | ⟨rfl,h2⟩ <;> simp [h2]
theorem aH2 (l:List Int) (f:Int→Option Bool) (p:Int→Bool) (hf:∀ x∈l,f x=some (p x)):FT l f=some (l.all p):=by
 obtain ⟨r,h1,h2⟩:=rG l (fun x=>vM x f) (fun x=>!p x) (fun x hx=>by unfold vM;rw [hf x hx];rfl) (xL l (fun x=>vM x f)) (fun i=>rfl);unfold FT LA KZ;rw [h1,List.all_eq_not_any_not];rcases h2 with ⟨z,rfl,h2⟩ | ⟨rfl,h2⟩ <;> simp [h2]
theorem aH3 (l:List dR) (f:dR→Option Bool) (p:dR→Bool) (hf:∀ x∈l,f x=some (p x)):FX l f=some (l.all p):=by
 obtain ⟨r,h1,h2⟩:=rG l (fun x=>vO x f) (fun x=>!p x) (fun x hx=>by unfold vO;rw [hf x hx];rfl) (xO l (fun x=>vO x f)) (fun i=>rfl);unfold FX LE LD;rw [h1,List.all_eq_not_any_not];rcases h2 with ⟨z,rfl,h2⟩ | ⟨rfl,h2⟩ <;> simp [h2]
theorem MR (n a b:Int):vL n a b=some (decide (a≤n∧n≤b)):=by
 unfold vL;by_cases h:a≤n <;> simp [h]
theorem IB (d:aV) (n:Int) (h:1≤d.members∧d.members≤40):qF d n=some (decide (0≤n∧n≤d.members - 1)):=by
 unfold qF cB;rw [if_pos (by omega),MR];rfl
theorem aH4 (l:List Int):T (FU l) fun _=>True:=by
 unfold FU;refine T.bd (Q:=fun _=>True) (T.ix l.length id (fun _=>True) (fun i _ hi=>?_) trivial (Nat.zero_le _)) (fun v _=>?_)
 ·unfold xM;refine T.ie (fun h=>T.bd (Q:=fun _=>True) (T.ie (fun h0=>T.bd (T.at (by simpa using h)) fun x _=>T.bd (T.at (by simp only [id] at *;omega)) fun y _=>.mk trivial) fun _=>.mk trivial) fun t _=>T.ie (fun _=>.mk trivial) fun _=>.mk ⟨trivial,rfl,by simpa using h⟩) fun _=>.mk trivial
 cases v <;> exact .mk trivial
end T12
set_option maxHeartbeats 4000000
namespace T12
open Go Go.Proofs Pk
def In (d:aV) (a b:Int):Prop:=(0≤a∧a < d.members)∧(0≤b∧b < d.members)
structure Vd (d:aV):Prop where
 m:1≤d.members∧d.members≤40
 pl:d.pairs.length≤10
 xl:d.proxies.length≤10
 p:∀ p∈d.pairs,In d p.a p.b
 x:∀ p∈d.proxies,In d p.holder p.for_
 r:0≤d.rule∧d.rule < 3
 n:0≤d.need∧d.need≤40
 q:0≤d.quorum∧d.quorum≤40
theorem tk1 {α:Type} {l:List α} {i:Nat} {x:α} {P:α→Prop} (h:∀ y∈l.take i,P y) (hx:l[i]?=some x) (hp:P x):∀ y∈l.take (i+1),P y:=by
 intro y hy;rw [List.take_add_one,hx] at hy;rcases List.mem_append.1 hy with hy | hy
 ·exact h y hy
 simp at hy;subst hy;exact hp
theorem YH (d:aV) (h:1≤d.members∧d.members≤40):T (bG (sY d) (0,([]:List (Int×Bool)))) (fun e=>match e with | .inl _=>∀ p∈d.pairs,In d p.a p.b | .inr z=>z=false):=by
 refine T.ix d.pairs.length (·.1) (fun s=>∀ p∈d.pairs.take s.1,In d p.a p.b) (fun s hs hi=>?_) (by simp) (Nat.zero_le _);unfold sY;refine T.ie (fun hl=>T.bd (T.at (by omega)) fun x hx=>T.bd (Q:=fun t=>t=false→In d x.a x.b) ?_ fun t ht=>T.ie (fun h=>.mk rfl) fun h=>.mk ⟨tk1 hs hx (ht (by simpa using h)),rfl,by omega⟩) (fun hl=>.mk fun p hp=>hs p (by rw [List.take_of_length_le (by omega)];exact hp));refine T.bd (.ok (IB d _ h)) fun r hr=>T.ie (fun h1=>T.bd (.ok (IB d _ h)) fun r' hr'=>T.ie (fun h2=>?_) fun _=>.mk (by simp)) fun _=>.mk (by simp);subst hr hr';simp only [decide_eq_true_eq] at h1 h2;have:In d x.a x.b:=⟨⟨by omega,by omega⟩,by omega,by omega⟩;exact T.ie (fun _=>.mk fun _=>this) fun _=>T.ie (fun _=>.mk fun _=>this) fun _=>.mk fun _=>this
theorem YI (d:aV) (h:1≤d.members∧d.members≤40):T (bG (sZ d) (0,([]:List (Int×Bool)))) (fun e=>match e with | .inl _=>∀ p∈d.proxies,In d p.holder p.for_ | .inr z=>z=false):=by
 refine T.ix d.proxies.length (·.1) (fun s=>∀ p∈d.proxies.take s.1,In d p.holder p.for_) (fun s hs hi=>?_) (by simp) (Nat.zero_le _);unfold sZ;refine T.ie (fun hl=>T.bd (T.at (by omega)) fun x hx=>T.bd (Q:=fun t=>t=false→In d x.holder x.for_) ?_ fun t ht=>T.ie (fun h=>.mk rfl) fun h=>.mk ⟨tk1 hs hx (ht (by simpa using h)),rfl,by omega⟩) (fun hl=>.mk fun p hp=>hs p (by rw [List.take_of_length_le (by omega)];exact hp));refine T.bd (.ok (IB d _ h)) fun r hr=>T.ie (fun h1=>T.bd (.ok (IB d _ h)) fun r' hr'=>T.ie (fun h2=>?_) fun _=>.mk (by simp)) fun _=>.mk (by simp);subst hr hr';simp only [decide_eq_true_eq] at h1 h2;have:In d x.holder x.for_:=⟨⟨by omega,by omega⟩,by omega,by omega⟩;exact T.ie (fun _=>.mk fun _=>this) fun _=>.mk fun _=>this
theorem aH5 (d:aV) (h:1≤d.members∧d.members≤40):T (FY d) (fun r=>r=true→(∀ p∈d.pairs,In d p.a p.b)∧∀ p∈d.proxies,In d p.holder p.for_):=by
 unfold FY;refine T.bd (YH d h) fun e he=>?_
 cases e with
 | inr z=>exact .mk fun hz=>by simp only at he;simp [he] at hz
 | inl t =>
  refine T.bd (YI d h) fun e he'=>?_
  cases e with
  | inr z=>exact .mk fun hz=>by simp only at he';simp [he'] at hz
  | inl t=>exact T.bd (.ok (aH3 _ _ (fun p=>!((eK t p.holder).getD false)) fun _ _=>rfl)) fun _ _=>.mk fun _=>⟨he,he'⟩
theorem YJ (d:aV) (l:List Int) (h:1≤d.members∧d.members≤40):T (oQ d l) fun _=>True:=by
 unfold oQ;refine T.bd (Q:=fun _=>True) (T.bd (.ok (aH2 _ _ _ fun x _=>IB d x h)) fun r _=>T.ie (fun _=>T.bd (aH4 l) fun _ _=>.mk trivial) fun _=>.mk trivial) fun _ _=>.mk trivial
theorem YK:FZ=some ():=rfl
theorem YM (d:aV) (hr:0≤d.rule∧d.rule≤255):T (BP d) (fun r=>r=true→Vd d):=by
 unfold BP;refine T.bd (Q:=fun r=>r=true→Vd d) (T.bd (.ok (MR _ _ _)) fun r h1=>T.ie (fun h=>?_) fun _=>.mk (by simp)) fun r hr=>?_
 ·subst h1;simp only [decide_eq_true_eq] at h;refine T.bd (.ok (YG _ _ (fun l=>(oQ d l).getD false) fun x _=>(YJ d x h).get)) fun r _=>T.ie (fun _=>?_) fun _=>.mk (by simp);refine T.bd (.ok (YG _ _ (fun l=>(oQ d l).getD false) fun x _=>(YJ d x h).get)) fun r _=>T.ie (fun _=>?_) fun _=>.mk (by simp);refine T.ie (fun hp=>T.ie (fun hx=>T.bd (aH5 d h) fun r ht=>T.ie (fun hb=>T.ck (by omega) (T.bd (.ok YK) fun _ _=>T.ie (fun h3=>T.bd (.ok (MR _ _ _)) fun r h4=>T.ie (fun h5=>T.bd (.ok (MR _ _ _)) fun r h6=>T.ie (fun h7=>?_) fun _=>.mk (by simp)) fun _=>.mk (by simp)) fun _=>.mk (by simp))) fun _=>.mk (by simp)) fun _=>.mk (by simp)) fun _=>.mk (by simp);subst h4 h6;simp only [decide_eq_true_eq] at h5 h7;have:Vd d:=⟨h,by omega,by omega,(ht hb).1,(ht hb).2,⟨hr.1,h3⟩,h5,h7⟩;exact T.ie (fun _=>.mk fun _=>this) fun _=>.mk fun _=>this
 exact .mk hr
end T12
set_option maxHeartbeats 4000000
namespace T12
open Go Go.Proofs Pk
theorem MS (l:List Int) (v:Int):vQ l v=some (l.any fun x=>decide (v=x)):=by
 obtain ⟨r,h1,h2⟩:=idx l (fun x=>decide (v=x)) (qG l v) (fun i x hx=>by
  have hi:=(List.getElem?_eq_some_iff.1 hx).1
  unfold qG;rw [if_pos (by omega),hx,Option.bind_some];simp) (by unfold qG;rw [if_neg (by omega)])
 unfold vQ LH;rw [h1];rcases h2 with ⟨z,rfl,h2⟩ | ⟨rfl,h2⟩ <;> simp [h2]
theorem aH6 (l:List UInt8) (v:Int):GO l v=some (l.any fun x=>decide (v=(x.toNat:Int))):=by
 obtain ⟨r,h1,h2⟩:=idx l (fun x=>decide (v=(x.toNat:Int))) (qH l v) (fun i x hx=>by
  have hi:=(List.getElem?_eq_some_iff.1 hx).1
  unfold qH;rw [if_pos (by omega),hx,Option.bind_some];simp) (by unfold qH;rw [if_neg (by omega)])
 unfold GO LI;rw [h1];rcases h2 with ⟨z,rfl,h2⟩ | ⟨rfl,h2⟩ <;> simp [h2]
theorem YN (l:bL) (v:Int):T (BQ l v) fun _=>True:=by
 unfold BQ;refine T.bd (.ok (MS _ _)) fun r _=>T.bd (Q:=fun t=>t≤1) (T.ie (fun _=>.mk (Nat.le_refl _)) fun _=>.mk (by omega)) fun t ht=>T.bd (.ok (MS _ _)) fun r _=>T.bd (Q:=fun _=>True) (T.ie (fun _=>.ck (by omega) (.mk trivial)) fun _=>.mk trivial) fun _ _=>.mk trivial
theorem aH7 (d:aV) (v:Int):T (GD d v) fun r=>r.length≤3:=by
 unfold GD;refine T.bd (YN _ _) fun a _=>T.bd (YN _ _) fun b _=>T.bd (Q:=fun _=>True) (T.ie (fun _=>.mk trivial) fun _=>.mk trivial) fun _ _=>?_;refine T.bd (Q:=fun l=>l.length≤1) (T.ie (fun _=>.ck (by decide) (.mk (by decide))) fun _=>.mk (by decide)) fun l hl=>T.bd (Q:=fun _=>True) (T.ie (fun _=>.mk trivial) fun _=>.mk trivial) fun _ _=>?_;refine T.bd (Q:=fun l=>l.length≤2) (T.ie (fun _=>.ck (by omega) (.mk (by simp;omega))) fun _=>.mk (by omega)) fun l hl=>T.bd (Q:=fun _=>True) (T.ie (fun _=>.mk trivial) fun _=>.mk trivial) fun _ _=>?_;exact T.bd (Q:=fun l=>l.length≤3) (T.ie (fun _=>.ck (by omega) (.mk (by simp;omega))) fun _=>.mk (by omega)) fun l hl=>.mk hl
structure Lk (x:dE):Prop where
 d:Vd x.division
 l:x.may.length=40
 m:∀ v∈x.may,v.length≤3
theorem yR {α:Type} {l:List α} {i:Nat} {v:α} {P:α→Prop} (h:∀ x∈l,P x) (hv:P v):∀ x∈l.set i v,P x:=fun x hx=>by
 rcases List.mem_or_eq_of_mem_set hx with h1 | rfl
 ·exact h _ h1
 exact hv
theorem aH8 (d:aV) (h:Vd d):T (GE d) fun x=>Lk x∧x.division=d:=by
 unfold GE;refine T.bd (Q:=fun _=>True) (T.ix d.pairs.length (·.1) (fun _=>True) (fun s hs hi=>?_) trivial (Nat.zero_le _)) fun e he=>?_
 ·unfold xQ;refine T.ie (fun hl=>T.bd (T.mem (by omega)) fun x hx=>?_) fun _=>.mk trivial;have:=h.p x hx;unfold In at this;have:=h.m;exact .ck (by omega) (.ck (by omega) (.ck (by omega) (.ck (by omega) (.mk ⟨trivial,rfl,by omega⟩))))
 have hm:=h.m;refine T.bd (Q:=fun l=>l.length=40∧∀ v∈l,v.length≤3) (T.ix d.members.toNat (·.1) (fun s=>s.2.length=40∧∀ v∈s.2,v.length≤3) (fun s hs hi=>?_) ⟨List.length_replicate ..,fun v hv=>by rw [List.eq_of_mem_replicate hv];decide⟩ (Nat.zero_le _)) fun l hl=>.mk ⟨⟨h,hl.1,hl.2⟩,rfl⟩;unfold xR;exact T.ie (fun hl=>T.bd (aH7 d _) fun r hr=>T.bd (T.at (by rw [hs.1];omega)) fun _ _=>.ck (by omega) (.mk ⟨⟨by rw [List.length_set];exact hs.1,yR hs.2 hr⟩,rfl,by omega⟩)) fun _=>.mk hs
theorem aH9 (x:dE) (h:Lk x):T (GF x) fun _=>True:=by
 have hm:=h.d.m;have hl:=h.l;unfold GF;refine T.bd (Q:=fun _=>True) (T.ix x.division.members.toNat (·.2.1) (fun _=>True) (fun s _ hi=>?_) trivial (Nat.zero_le _)) fun e he=>.mk trivial;unfold xS;exact T.ie (fun hl=>T.bd (T.at (by omega)) fun _ _=>T.ie (fun _=>.mk trivial) fun _=>.ck (by omega) (.mk ⟨trivial,rfl,by omega⟩)) fun _=>.mk trivial
theorem aIa (d:aV) (hr:0≤d.rule∧d.rule≤255):T (GG d) fun r=>r.2=0→Lk r.1∧r.1.division=d:=by
 unfold GG;refine T.bd (YM d hr) fun r h=>T.ie (fun h1=>T.bd (aH8 d (h h1)) fun x hx=>T.bd (aH9 x hx.1) fun _ _=>T.ie (fun _=>.mk (by simp)) fun _=>.mk fun _=>hx) fun _=>.mk (by simp)
theorem t142 (x:dE) (h:Lk x):T (GH x) fun l=>l.length≤40:=by
 have hm:=h.d.m;have hl:=h.l;unfold GH;refine T.bd (Q:=fun l=>l.length≤40) (T.ix x.division.members.toNat (·.1) (fun s=>s.2.length≤s.1) (fun s hs hi=>?_) (Nat.zero_le _) (Nat.zero_le _)) fun e he=>.mk he;unfold xU;exact T.ie (fun hl=>T.bd (T.at (by omega)) fun _ _=>T.bd (Q:=fun l=>l.length≤s.1+1) (T.ie (fun _=>.ck (by omega) (.mk (by simp;omega))) fun _=>.mk (by omega)) fun l hl=>.ck (by omega) (.mk ⟨hl,rfl,by omega⟩)) fun _=>.mk (by omega)
theorem t99 (d:aV) (hr:0≤d.rule∧d.rule≤255):T (GI d) fun r=>r.2=0→Lk r.1∧r.1.division=d:=by
 unfold GI;exact T.bd (aIa d hr) fun r h=>T.bd (Q:=fun _=>True) (T.ie (fun h0=>T.bd (t142 _ (h h0).1) fun _ _=>.mk trivial) fun _=>.mk trivial) fun t _=>T.ie (fun _=>.mk (by simp)) fun _=>.mk h
def Nb (n:fN):Prop:=(0≤n.ayes∧n.ayes≤60)∧0≤n.noes∧n.noes≤60
theorem t102 (x:dE) (t:aZ) (h:Lk x):T (GM x t) Nb:=by
 have hm:=h.d.m;have hx:=h.d.xl;unfold GM;refine T.bd (Q:=fun e=>e.1≤40∧e.2≤40) (T.ix x.division.members.toNat (·.1) (fun s=>s.2.1≤s.1∧s.2.2≤s.1) (fun s hs hi=>?_) ⟨Nat.zero_le _,Nat.zero_le _⟩ (Nat.zero_le _)) fun e he=>?_
 ·unfold xV;refine T.ie (fun hl=>.ck (by omega) (T.bd (Q:=fun r=>r.1≤s.1+1∧r.2≤s.1+1) (T.ie (fun _=>.mk ⟨by omega,by omega⟩) fun _=>?_) fun r hr=>.ck (by omega) (.mk ⟨hr,rfl,by omega⟩))) fun _=>.mk ⟨by omega,by omega⟩;exact T.bd (Q:=fun r=>r.1≤s.1+1∧r.2≤s.1+1) (T.bd (Q:=fun r=>r.1≤s.1+1∧r.2≤s.1+1) (T.ie (fun _=>.ck (by omega) (.mk ⟨by dsimp only;omega,by dsimp only;omega⟩)) fun _=>T.bd (Q:=fun r=>r≤s.1+1) (T.ie (fun _=>.ck (by omega) (.mk (by omega))) fun _=>.mk (by omega)) fun r hr=>.mk ⟨by dsimp only;omega,hr⟩) fun r hr=>.mk hr) fun r hr=>.mk hr
 refine T.bd (Q:=fun e=>e.1≤60∧e.2≤60) (T.ix x.division.proxies.length (·.1) (fun s=>s.2.1≤40+s.1∧s.2.2≤40+s.1) (fun s hs hi=>?_) ⟨by dsimp only;omega,by dsimp only;omega⟩ (Nat.zero_le _)) fun e he=>.mk ⟨⟨by dsimp only;omega,by dsimp only;omega⟩,by dsimp only;omega,by dsimp only;omega⟩;unfold xW;refine T.ie (fun hl=>T.bd (T.mem (by omega)) fun y hy=>?_) fun _=>.mk ⟨by dsimp only;omega,by dsimp only;omega⟩;have hI:=h.d.x y hy;unfold In at hI;refine T.bd (Q:=fun _=>True) (.ck (by omega) (.ck (by omega) (T.ie (fun _=>T.ie (fun _=>.mk trivial) fun _=>.ck (by omega) (.ck (by omega) (.mk trivial))) fun _=>.mk trivial))) fun _ _=>?_;refine T.bd (Q:=fun r=>r.1≤40+(s.1+1)∧r.2≤40+(s.1+1)) (T.ie (fun _=>.ck (by omega) (.ck (by omega) ?_)) fun _=>.mk ⟨by dsimp only;omega,by dsimp only;omega⟩) fun r hr=>.mk ⟨hr,rfl,by omega⟩;exact T.bd (Q:=fun r=>r.1≤40+(s.1+1)∧r.2≤40+(s.1+1)) (T.bd (Q:=fun r=>r.1≤40+(s.1+1)∧r.2≤40+(s.1+1)) (T.ie (fun _=>.ck (by omega) (.mk ⟨by dsimp only;omega,by dsimp only;omega⟩)) fun _=>T.bd (Q:=fun r=>r≤40+(s.1+1)) (T.ie (fun _=>.ck (by omega) (.mk (by omega))) fun _=>.mk (by omega)) fun r hr=>.mk ⟨by dsimp only;omega,hr⟩) fun r hr=>.mk hr) fun r hr=>.mk hr
theorem aIb (x:dE) (n:fN) (h:Lk x) (hn:Nb n):T (GN x n) fun r=>0≤r∧r≤2:=by
 have h1:=h.d.r;have h2:=h.d.n;unfold Nb at hn;unfold GN;refine .ck (by omega) (T.ie (fun _=>.mk (by decide)) fun _=>T.bd (.ok YK) fun _ _=>.ck (by omega) (T.ie (fun _=>T.bd (Q:=fun _=>True) ?_ fun _ _=>T.ie (fun _=>.mk (by decide)) fun _=>.mk (by decide)) fun _=>T.ie (fun _=>T.bd (Q:=fun _=>True) ?_ fun _ _=>T.ie (fun _=>.mk (by decide)) fun _=>.mk (by decide)) fun _=>T.ie (fun _=>T.bd (Q:=fun _=>True) ?_ fun _ _=>T.ie (fun _=>.mk (by decide)) fun _=>.mk (by decide)) fun _=>by omega))
 ·exact T.bd (Q:=fun _=>True) (T.ie (fun _=>.mk trivial) fun _=>T.ie (fun _=>T.bd (Q:=fun _=>True) (.mk trivial) fun _ _=>.mk trivial) fun _=>.mk trivial) fun _ _=>.mk trivial
 ·exact T.bd (Q:=fun _=>True) (T.ie (fun _=>.mk trivial) fun _=>.ck (by omega) (T.ie (fun _=>T.bd (Q:=fun _=>True) (.mk trivial) fun _ _=>.mk trivial) fun _=>.mk trivial)) fun _ _=>.mk trivial
 exact T.bd (Q:=fun _=>True) (.ck (by omega) (.ck (by omega) (.ck (by omega) (T.ie (fun _=>.mk trivial) fun _=>.mk trivial)))) fun _ _=>.mk trivial
end T12
set_option maxHeartbeats 4000000
namespace T12
open Go Go.Proofs Pk
def Oc (l:List UInt8):Prop:=l.Nodup∧∀ x∈l,x.toNat≤2
theorem oc3 {l:List UInt8} (h:Oc l):l.length≤3:=by
 have:l ⊆ [0,1,2]:=fun x hx=>by
  have h2:=h.2 x hx;have:∀ n,n≤2→UInt8.ofNat n∈([0,1,2]:List UInt8):=by decide
  have:=this _ h2
  rwa [UInt8.ofNat_toNat] at this
 exact h.1.length_le_of_subset this
theorem aIc (r:dE×Int) (h:Lk r.1):∀ (k:Nat) (s:Nat×aZ×List UInt8),r.1.division.members.toNat - s.1 < k→(s.1:Int)≤r.1.division.members→Oc s.2.2→T (lN r k s) Oc:=by
 have hm:=h.d.m;have hl:=h.l;intro k
 induction k with
 | zero=>intro s h1;omega
 | succ k ih =>
  intro s h1 h2 h3;show T (tB r (lN r k) s) Oc;unfold tB;refine T.ie (fun he=>T.bd (Q:=Oc) (T.bd (t102 _ _ h) fun n hn=>T.bd (aIb _ _ h hn) fun o ho=>T.bd (.ok (aH6 _ _)) fun c hc=>T.bd (Q:=Oc) (T.ie (fun _=>.mk h3) fun hf=>.ck (by have:=oc3 h3;omega) (.ck (by omega) (.mk ?_))) fun _ h=>.mk h) fun _ h=>.mk h) fun he=>T.bd (T.at (by omega)) fun vs _=>T.bd (Q:=fun e=>Oc e.2) (T.ix vs.length (·.1) (fun q=>Oc q.2.2) (fun q hq hi=>?_) h3 (Nat.zero_le _)) fun e he=>.mk he
  ·rw [hc] at hf;have hx:(UInt8.ofNat o.toNat).toNat=o.toNat:=by simp;omega
   refine ⟨List.nodup_append.2 ⟨h3.1,List.nodup_cons.2 ⟨by simp,List.nodup_nil⟩,fun a ha b hb hab=>?_⟩,fun x hx'=>?_⟩
   ·simp at hb;subst hb hab;exact hf (List.any_eq_true.2 ⟨_,ha,by rw [hx];simp;omega⟩)
   rcases List.mem_append.1 hx' with h | h
   ·exact h3.2 _ h
   simp at h;subst h;rw [hx];omega
  unfold xX;exact T.ie (fun hl=>T.bd (T.at (by omega)) fun v _=>.ck (by omega) (.ck (by omega) (T.bd (ih _ (by dsimp only;omega) (by dsimp only;omega) hq) fun o ho=>.mk ⟨ho,rfl,by omega⟩))) fun _=>.mk hq
theorem t212 (a b:Int):T (GQ a b) fun _=>True:=by
 unfold GQ GP;exact T.bd (Q:=fun _=>True) (T.bd (.mk trivial) fun _ (_:True)=>T.ie (fun _=>T.bd (.mk trivial) fun _ (_:True)=>T.ie (fun _=>.mk trivial) fun _=>.mk trivial) fun _=>.mk trivial) fun _ _=>.mk trivial
theorem aId (l:List UInt8) (r:Int) (b c:Bool) (h:l.length≤3) (h2:∀ x∈l,x.toNat≤2):T (bG (qI l) (0,l.length,r,b,c)) fun o=>o.length=l.length∧(l.length≤1→o=l)∧∀ x∈o,x.toNat≤2:=by
 suffices hs:T (qI l (0,l.length,r,b,c)) fun e=>∃ o,e=.inr o∧o.length=l.length∧(l.length≤1→o=l)∧∀ x∈o,x.toNat≤2 by
  obtain ⟨_,h1,o,rfl,h2⟩:=hs
  rename_i h3;rw [dX h1];exact ⟨o,rfl,by assumption⟩
 unfold qI;dsimp only;refine .ck (by omega) (T.ie (fun _=>T.bd (Q:=fun (o:List UInt8)=>o.length=l.length∧(l.length≤1→o=l)∧∀ x∈o,x.toNat≤2) (.ck (by omega) (T.bd (Q:=fun (o:List UInt8)=>o.length=l.length∧(l.length≤1→o=l)∧∀ x∈o,x.toNat≤2) ?_ fun _ h=>.mk h)) fun o ho=>.mk ⟨o,rfl,ho⟩) fun hf=>by omega);by_cases h1:l.length≤1
 ·rw [dX (e:=l) (by unfold tC;dsimp only;rw [if_neg (by omega)])];exact .mk ⟨rfl,fun _=>rfl,h2⟩
 refine T.ix l.length (·.1) (fun s=>s.2.length=l.length∧∀ x∈s.2,x.toNat≤2) (fun s hs hi=>?_) ⟨rfl,h2⟩ (by dsimp only;omega);unfold tC;dsimp only;refine T.ie (fun hl=>T.bd (Q:=fun (o:List UInt8)=>o.length=l.length∧∀ x∈o,x.toNat≤2) (T.lp (fun q=>(q.2.length=l.length∧∀ x∈q.2,x.toNat≤2)∧0≤q.1∧q.1 < (l.length:Int)) (fun q=>q.1.toNat) (fun q hq=>?_) ⟨hs,by dsimp only;omega,by dsimp only;omega⟩) fun o ho=>.ck (by omega) (.mk ⟨ho,rfl,by omega⟩)) fun _=>.mk ⟨hs.1,fun h=>absurd h h1,hs.2⟩;unfold xY;dsimp only;refine T.bd (Q:=fun t=>t=true→0 < q.1) (T.ie (fun h0=>.ck (by omega) (T.bd (T.at (by omega)) fun _ _=>.ck (by omega) (.ck (by omega) (T.bd (T.at (by omega)) fun _ _=>T.bd (t212 _ _) fun _ _=>.mk fun _=>by omega)))) fun _=>.mk (by simp)) fun t ht=>T.ie (fun h=>?_) fun _=>.mk hq.1;have:=ht h;exact .ck (by omega) (.ck (by omega) (T.bd (T.mem (by omega)) fun u hu=>.ck (by omega) (T.bd (T.mem (by omega)) fun w hw=>T.bd (T.at (by rw [List.length_set];omega)) fun _ _=>.mk ⟨⟨⟨by simp [hq.1.1],yR (yR hq.1.2 (hq.1.2 u hu)) (hq.1.2 w hw)⟩,by dsimp only;omega,by dsimp only;omega⟩,by dsimp only;omega⟩)))
theorem aIe (n:Nat) (h:n≤3):T (LJ n) fun _=>True:=by
 rcases (by omega:n=0∨n=1∨n=2∨n=3) with rfl | rfl | rfl | rfl <;> exact ⟨_,rfl,trivial⟩
theorem t66 (d:aV) (hr:0≤d.rule∧d.rule≤255):T (GR d) fun r=>r.1.length≤3∧∀ x∈r.1,x.toNat≤2:=by
 unfold GR;refine T.bd (t99 d hr) fun r h=>T.ie (fun _=>.mk (by simp)) fun h0=>?_;have hL:=(h (by omega)).1;have:=hL.d.m;refine T.bd (Q:=Oc) (T.bd (Q:=Oc) (T.rc (aIc r hL _ _ (by dsimp only;omega) (by dsimp only;omega) ⟨List.nodup_nil,by simp⟩)) fun _ h=>.mk h) fun l hl=>?_;have h3:=oc3 hl;exact T.bd (Q:=fun (o:List UInt8)=>o.length≤3∧∀ x∈o,x.toNat≤2) (T.bd (aIe _ h3) fun b _=>T.bd (Q:=fun (o:List UInt8)=>o.length≤3∧∀ x∈o,x.toNat≤2) (T.bd (aId l b true true h3 hl.2) fun o ho=>.mk ⟨by omega,ho.2.2⟩) fun _ h=>.mk h) fun _ h=>.mk h
end T12
set_option maxHeartbeats 4000000
namespace T12
open Go Go.Proofs Pk
theorem kG {κ α:Type} [DecidableEq κ] (k k':κ) (y:α):∀ t:List (κ×α),eK (put t k y) k'=if k'=k then some y else eK t k'
 | []=>by simp [put,eK]
 | (a,x)::t=>by
  unfold put
  split
  ·rename_i h;subst h;simp only [eK];split <;> rfl
  rename_i h
  simp only [eK,kG k k' y t];by_cases h1:k'=a
  ·subst h1;rw [if_pos rfl,if_neg (Ne.symm h),if_pos rfl]
  rw [if_neg h1,if_neg h1]
theorem tO {κ α:Type} [DecidableEq κ] (k:κ) (y:α):∀ t:List (κ×α),(put t k y).length=t.length+if (eK t k).isNone then 1 else 0
 | []=>rfl
 | (a,x)::t=>by
  unfold put
  split
  ·rename_i h;subst h;simp [eK]
  rename_i h;simp only [eK,if_neg h,List.length_cons,tO k y t];omega
def yS (t:List (Int×aR)):List aR→List (Int×aR)
 | []=>t
 | p::l=>yS (put t p.number p) l
theorem wF (x:aR):∀ (l:List aR) (t:List (Int×aR)),yS t (l++[x])=put (yS t l) x.number x
 | [],_=>rfl
 | p::l,t=>wF x l _
theorem IC:∀ (l:List aR) (t:List (Int×aR)),(yS t l).length≤t.length+l.length
 | [],_=>Nat.le_refl _
 | p::l,t=>by
  have h1:=IC l (put t p.number p);have h2:=tO p.number p t;simp only [yS,List.length_cons];split at h2 <;> omega
theorem ID:∀ (l:List aR) (t:List (Int×aR)),(yS t l).length=t.length+l.length→(∀ p∈l,eK t p.number=none)∧(l.map (·.number)).Nodup
 | [],_,_=>⟨by simp,List.nodup_nil⟩
 | p::l,t,h=>by
  have h1:=IC l (put t p.number p);have h2:=tO p.number p t;simp only [yS,List.length_cons] at h
  cases hk:eK t p.number with
  | some y=>rw [hk] at h2;simp at h2;omega
  | none =>
   rw [hk] at h2;simp at h2;obtain ⟨h3,h4⟩:=ID l _ (by omega:(yS (put t p.number p) l).length=(put t p.number p).length+l.length);have h5:∀ q∈l,q.number≠p.number∧eK t q.number=none:=fun q hq=>by
    have:=h3 q hq;rw [kG] at this
    split at this
    ·cases this
    exact ⟨by assumption,this⟩
   refine ⟨fun q hq=>?_,List.nodup_cons.2 ⟨fun hm=>?_,h4⟩⟩
   ·rcases List.mem_cons.1 hq with rfl | hq
    ·exact hk
    exact (h5 q hq).2
   obtain ⟨q,hq,he⟩:=List.mem_map.1 hm;exact (h5 q hq).1 he
theorem yT:∀ (l:List aR) (t:List (Int×aR)) (k:Int) (p:aR),eK (yS t l) k=some p→(p∈l∧p.number=k)∨eK t k=some p
 | [],_,_,_,h=>.inr h
 | q::l,t,k,p,h=>by
  rcases yT l _ k p h with h1 | h1
  ·exact .inl ⟨List.mem_cons_of_mem _ h1.1,h1.2⟩
  rw [kG] at h1
  split at h1
  ·cases h1;exact .inl ⟨List.mem_cons_self ..,by symm;assumption⟩
  exact .inr h1
theorem AM:∀ (l:List aR) (t:List (Int×aR)) (k:Int),k∉l.map (·.number)→eK (yS t l) k=eK t k
 | [],_,_,_=>rfl
 | q::l,t,k,h=>by
  simp only [List.map_cons,List.mem_cons,not_or] at h;rw [yS,AM l _ k h.2,kG,if_neg h.1]
theorem IE:∀ (l:List aR) (t:List (Int×aR)),(l.map (·.number)).Nodup→∀ p∈l,eK (yS t l) p.number=some p
 | [],_,_,p,h=>absurd h (List.not_mem_nil)
 | q::l,t,hn,p,h=>by
  rw [List.map_cons,List.nodup_cons] at hn;rcases List.mem_cons.1 h with rfl | h
  ·rw [yS,AM l _ _ hn.1,kG,if_pos rfl]
  exact IE l _ hn.2 p h
def MT (m:bP):List (Int×aR):=yS [] m.papers
def IF (m:bP) (n:Int):aR:=(eK (MT m) n).getD ⟨0,0,0,0,[]⟩
theorem CQ (m:bP):rD m=some (MT m):=by
 obtain ⟨v,h1,h2⟩:T (bG (tG m) (0,([]:List (Int×aR)))) fun e=>e=MT m:=by
  refine T.ix m.papers.length (·.1) (fun s=>s.2=yS [] (m.papers.take s.1)) (fun s hs hi=>?_) rfl (Nat.zero_le _);unfold tG;refine T.ie (fun hl=>T.bd (T.at (by omega)) fun x hx=>.mk ⟨?_,rfl,by omega⟩) fun hl=>.mk ?_
  ·dsimp only;rw [List.take_add_one,hx,Option.toList_some,wF,hs]
  dsimp only;rw [hs,List.take_of_length_le (by omega)];rfl
 unfold rD;rw [h1,h2];rfl
theorem IG (l:List aR) (f:aR→Option Bool) (p:aR→Bool) (hf:∀ x∈l,f x=some (p x)):tF l f=some (l.all p):=by
 obtain ⟨r,h1,h2⟩:=rG l (fun x=>vT x f) (fun x=>!p x) (fun x hx=>by unfold vT;rw [hf x hx];rfl) (xZ l (fun x=>vT x f)) (fun i=>rfl);unfold tF LM LL;rw [h1,List.all_eq_not_any_not];rcases h2 with ⟨z,rfl,h2⟩ | ⟨rfl,h2⟩ <;> simp [h2]
theorem YO (l:List aE) (f:aE→Option Bool) (p:aE→Bool) (hf:∀ x∈l,f x=some (p x)):BT l f=some (l.all p):=by
 obtain ⟨r,h1,h2⟩:=rG l (fun x=>vU x f) (fun x=>!p x) (fun x hx=>by unfold vU;rw [hf x hx];rfl) (zZ l (fun x=>vU x f)) (fun i=>rfl);unfold BT QT VU;rw [h1,List.all_eq_not_any_not];rcases h2 with ⟨z,rfl,h2⟩ | ⟨rfl,h2⟩ <;> simp [h2]
theorem aIf (l:List UInt8) (f:Int→Option Bool) (p:Int→Bool) (hf:∀ x∈l,f (x.toNat:Int)=some (p (x.toNat:Int))):GV l f=some (l.all fun x=>p (x.toNat:Int)):=by
 obtain ⟨r,h1,h2⟩:=rG l (fun x=>vV (x.toNat:Int) f) (fun x=>!p (x.toNat:Int)) (fun x hx=>by unfold vV;rw [hf x hx];rfl) (sU l (fun x=>vV x f)) (fun i=>rfl);unfold GV BJ FH;rw [h1,List.all_eq_not_any_not];rcases h2 with ⟨z,rfl,h2⟩ | ⟨rfl,h2⟩ <;> simp [h2]
theorem YP (n a b:Int):BU n a b=some (decide (a≤n∧n≤b)):=by
 unfold BU;by_cases h:a≤n <;> simp [h]
theorem SY (s:aE):T (mX s) fun r=>r=true→s.length≤20:=by
 unfold mX;refine T.bd (Q:=fun r=>r=true→s.length≤20) (T.bd (.ok (YP _ _ _)) fun r h=>T.ie (fun h1=>?_) fun _=>.mk (by simp)) fun _ h=>.mk h;subst h;simp only [decide_eq_true_eq] at h1;refine .ck (by omega) (T.bd (.ok (aIf _ _ (fun c=>(yA c).getD false) fun x _=>?_)) fun _ _=>.mk fun _=>by omega);unfold yA;by_cases h:(33:Int)≤x.toNat <;> simp [h]
def AN (l:List aE):Prop:=∀ s∈l,s.length≤20
theorem OP {l:List aE} (h:(l.all fun s=>(mX s).getD false)=true):AN l:=fun s hs=>by
 obtain ⟨r,h1,h2⟩:=SY s;have:=List.all_eq_true.1 h s hs;rw [h1] at this;exact h2 this
theorem aIg {α:Type} {l:List α} {i:Nat} {x:α} {P:α→Prop} (h:∀ y∈l.take i,P y) (hx:l[i]?=some x) (hp:P x):∀ y∈l.take (i+1),P y:=by
 intro y hy;rw [List.take_add_one,hx] at hy;rcases List.mem_append.1 hy with hy | hy
 ·exact h y hy
 simp at hy;subst hy;exact hp
def up (m:bP):Nat→Int→Int
 | 0,n=>n
 | k+1,n=>(IF m (up m k n)).of
def wd (m:bP) (n:Int):List aE:=if n=0 then m.words else (IF m n).words
structure Vm (m:bP):Prop where
 pl:m.papers.length≤10
 wl:m.words.length≤60
 w:∀ p∈m.papers,p.words.length≤60
 wt:AN m.words
 pt:∀ p∈m.papers,AN p.words
 n:∀ p∈m.papers,1≤p.number∧p.number≤999
 nd:(m.papers.map (·.number)).Nodup
 of:∀ p∈m.papers,p.of=0∨(IF m p.of).number=p.of
 en:∀ p∈m.papers,∃ j,j≤10∧up m j p.of=0
 ft:∀ p∈m.papers,0≤p.from_∧p.from_≤p.to_∧p.to_≤(wd m p.of).length
theorem e112 (m:bP) (n:Int):BY m n=some (wd m n):=by
 unfold BY wd
 split
 ·rfl
 rw [CQ];rfl
theorem t164 (m:bP) (h2:m.papers.length≤10):T (GX m) fun r=>r=true→∀ p∈m.papers,∃ j,j≤10∧up m j p.of=0:=by
 unfold GX;refine T.bd (.ok (CQ m)) fun t ht=>T.bd (Q:=fun r=>r=true→∀ p∈m.papers,∃ j,j≤10∧up m j p.of=0) ?_ fun _ h=>.mk h;subst ht;refine T.ix m.papers.length (·.1) (fun s=>s.2=true∧∀ p∈m.papers.take s.1,∃ j,j≤10∧up m j p.of=0) (fun s hs hi=>?_) ⟨rfl,by simp⟩ (Nat.zero_le _);unfold yC;refine T.ie (fun hl=>T.bd (T.at (by omega)) fun x hx=>T.bd (Q:=fun e=>match e with | .inl r=>r.1=true∧∃ j,j≤10∧up m j x.of=0 | .inr z=>z=.inr false) ?_ fun e he=>?_) fun hl=>.mk fun _ p hp=>hs.2 p (by rw [List.take_of_length_le (by omega)];exact hp)
 ·refine T.ix m.papers.length (·.1) (fun q=>q.2.1=true∧q.2.2.2.1=up m q.1 x.of) (fun q hq hi=>?_) ⟨hs.1,rfl⟩ (Nat.zero_le _);unfold yB;refine T.ie (fun h0=>.ck (by omega) (T.ie (fun _=>⟨_,rfl,rfl⟩) fun h1=>.mk ⟨⟨hq.1,?_⟩,rfl,by omega⟩)) fun h0=>.mk ⟨hq.1,q.1,by omega,by rw [← hq.2];omega⟩;show ((eK (MT m) q.2.2.2.1).getD _).of=_;rw [hq.2];rfl
 cases e with
 | inr z=>simp only at he;subst he;exact .mk (by simp)
 | inl r=>exact .mk ⟨⟨he.1,aIg hs.2 hx he.2⟩,rfl,by omega⟩
end T12
set_option maxHeartbeats 4000000
namespace T12
open Go Go.Proofs Pk
theorem t69 (m:bP):T (yD m) fun r=>r=0→Vm m:=by
 unfold yD;refine T.bd (.ok (rfl:LS=some ())) fun _ _=>?_;have h1:T (GU m) fun r=>r=true→m.papers.length≤10∧m.words.length≤60∧∀ p∈m.papers,p.words.length≤60:=by
  unfold GU;refine T.bd (Q:=fun r=>r=true→m.papers.length≤10∧m.words.length≤60∧∀ p∈m.papers,p.words.length≤60) (T.ie (fun ha=>T.ie (fun hb=>T.bd (.ok (IG _ _ (fun p=>decide ((p.words.length:Int)≤60)) fun _ _=>rfl)) fun r hr=>.mk fun h=>⟨by omega,by omega,fun p hp=>?_⟩) fun _=>.mk (by simp)) fun _=>.mk (by simp)) fun _ h=>.mk h;rw [hr,List.all_eq_true] at h;have:=h p hp;simp only [decide_eq_true_eq] at this;omega
 refine T.bd h1 fun r h1=>T.ie (fun hr=>?_) fun _=>.mk (by simp);obtain ⟨hp,hw,hpw⟩:=h1 hr;have h2:T (GW m) fun r=>r=true→AN m.words∧∀ p∈m.papers,AN p.words:=by
  unfold GW
  exact T.bd (Q:=fun r=>r=true→AN m.words∧∀ p∈m.papers,AN p.words) (T.bd (.ok (YO _ _ (fun s=>(mX s).getD false) fun s _=>(SY s).get)) fun r hr=>T.ie (fun h1=>T.bd (.ok (IG _ _ (fun p=>p.words.all fun s=>(mX s).getD false) fun p _=>by
   unfold BV;rw [YO _ _ (fun s=>(mX s).getD false) fun s _=>(SY s).get];rfl)) fun r2 hr2=>.mk fun h3=>⟨OP (hr.symm.trans h1),fun p hp=>OP (List.all_eq_true.1 (hr2.symm.trans h3) p hp)⟩) fun _=>.mk (by simp)) fun _ h=>.mk h
 refine T.bd h2 fun r h2=>T.ie (fun hr2=>?_) fun _=>.mk (by simp);refine T.bd (T.bd (.ok (IG _ _ (fun p=>decide (1≤p.number∧p.number≤999)) fun p _=>by unfold BW;rw [YP];rfl)) fun r h=>.mk h:T (LN m) _) fun r h3=>T.ie (fun hr3=>?_) fun _=>.mk (by simp);have h3':∀ p∈m.papers,1≤p.number∧p.number≤999:=fun p hp=>by
  have:=List.all_eq_true.1 (h3.symm.trans hr3) p hp;simpa using this
 refine T.bd (T.bd (.ok (CQ m)) fun r h=>.mk (P:=fun r=>r=true→(MT m).length=m.papers.length) fun hd=>by subst h;simp at hd;omega:T (LO m) _) fun r h4=>T.ie (fun hr4=>?_) fun _=>.mk (by simp);have h4':=(ID m.papers [] (by have:=h4 hr4;unfold MT at this;simp;omega)).2
 refine T.bd (T.bd (.ok (CQ m)) fun r h=>T.bd (.ok (IG _ _ (fun p=>decide (p.of=0∨(IF m p.of).number=p.of)) fun p _=>by
  subst h;unfold BX;by_cases hz:p.of=0 <;> simp [hz,IF])) fun r h=>.mk h:T (LP m) _) fun r h5=>T.ie (fun hr5=>?_) fun _=>.mk (by simp)
 have h5':∀ p∈m.papers,p.of=0∨(IF m p.of).number=p.of:=fun p hp=>by
  have:=List.all_eq_true.1 (h5.symm.trans hr5) p hp;simpa using this
 refine T.bd (t164 m hp) fun r h6=>T.ie (fun hr6=>?_) fun _=>.mk (by simp)
 refine T.bd (T.bd (.ok (IG _ _ (fun p=>decide (0≤p.from_∧p.from_≤p.to_∧p.to_≤(wd m p.of).length)) fun p _=>by
  unfold BZ;rw [e112];by_cases ha:0≤p.from_ <;> by_cases hb:p.from_≤p.to_ <;> simp [ha,hb])) fun r h=>.mk h:T (LQ m) _) fun r h7=>T.ie (fun hr7=>.mk fun _=>⟨hp,hw,hpw,(h2 hr2).1,(h2 hr2).2,h3',h4',h5',h6 hr6,fun p hp=>?_⟩) fun _=>.mk (by simp)
 have:=List.all_eq_true.1 (h7.symm.trans hr7) p hp;simpa using this
theorem t222 (a b:aR):T (GZ a b) fun _=>True:=by
 unfold GZ;exact T.bd (Q:=fun _=>True) (T.ie (fun _=>T.ie (fun _=>T.ie (fun _=>.mk trivial) fun _=>.mk trivial) fun _=>.mk trivial) fun _=>.mk trivial) fun _ _=>.mk trivial
end T12
set_option maxHeartbeats 4000000
namespace T12
open Go Go.Proofs Pk
theorem YQ (choice:List Int) (r:List (Int×aR)):T (bG (tH choice r) 0) fun e=>match e with | .inl _=>True | .inr z=>z=2:=by
 refine T.ix choice.length id (fun _=>True) (fun i _ hi=>?_) trivial (Nat.zero_le _);unfold tH;exact T.ie (fun hl=>T.bd (T.at (by simp only [id] at *;omega)) fun x hx=>T.bd (Q:=fun _=>True) (T.ie (fun _=>.mk trivial) fun _=>T.ie (fun _=>.mk trivial) fun _=>T.ie (fun h0=>T.bd (T.at (by simp only [id] at *;omega)) fun _ _=>.mk trivial) fun _=>.mk trivial) fun _ _=>T.ie (fun _=>.mk rfl) fun _=>.mk ⟨trivial,rfl,by simp only [id] at *;omega⟩) fun _=>.mk trivial
theorem t167 (m:bP) (choice:List Int):T (HA m choice) fun _=>True:=by
 unfold HA;refine T.bd (.ok (CQ m)) fun r _=>T.bd (Q:=fun _=>True) (T.ix choice.length id (fun _=>True) (fun i _ hi=>?_) trivial (Nat.zero_le _)) fun e _=>?_
 ·unfold yE;exact T.ie (fun hl=>T.bd (T.at (by simp only [id] at *;omega)) fun x hx=>T.bd (Q:=fun _=>True) (T.ie (fun _=>T.bd (.ok (MS _ _)) fun _ _=>.mk trivial) fun _=>.mk trivial) fun _ _=>T.ie (fun _=>.mk trivial) fun _=>.mk ⟨trivial,rfl,by simp only [id] at *;omega⟩) fun _=>.mk trivial
 cases e with
 | inr z=>exact .mk trivial
 | inl _ =>
  refine T.bd (Q:=fun _=>True) (T.ix choice.length id (fun _=>True) (fun i _ hi=>?_) trivial (Nat.zero_le _)) fun e _=>by cases e <;> exact .mk trivial
  unfold yG;refine T.ie (fun hl=>T.bd (T.at (by simp only [id] at *;omega)) fun x hx=>T.bd (Q:=fun e=>match e with | .inl _=>True | .inr z=>∃ q,z=.inr q) (T.ix choice.length id (fun _=>True) (fun i _ hi=>?_) trivial (Nat.zero_le _)) fun e he=>?_) fun _=>.mk trivial
  ·unfold yF;exact T.ie (fun hl=>T.bd (T.at (by simp only [id] at *;omega)) fun x hx=>T.bd (t222 _ _) fun _ _=>T.ie (fun _=>.mk ⟨_,rfl⟩) fun _=>.mk ⟨trivial,rfl,by simp only [id] at *;omega⟩) fun _=>.mk trivial
  cases e with
  | inl _=>exact .mk ⟨trivial,rfl,by simp only [id] at *;omega⟩
  | inr z=>obtain ⟨q,rfl⟩:=he;exact .mk trivial
theorem aIi (m:bP) (choice:List Int):T (HB m choice) fun r=>r=0→Vm m:=by
 unfold HB;refine T.bd (t69 m) fun r h=>T.ie (fun hr=>.mk fun h0=>absurd h0 hr) fun h0=>T.bd (.ok (CQ m)) fun t _=>T.bd (YQ choice t) fun e _=>?_;have hV:=h (by omega)
 cases e with
 | inr z=>exact .mk fun _=>hV
 | inl _=>exact T.bd (t167 m choice) fun _ _=>.mk fun _=>hV
def yU (a b:aR):Int:=if a.from_ - b.from_≠0 then a.from_ - b.from_ else if a.to_ - b.to_≠0 then a.to_ - b.to_ else a.number - b.number
theorem aIj (x y z:Int):HD [x,y,z]=some (if x≠0 then x else if y≠0 then y else z):=by
 have h:∀ (i:Nat) (v:Int),[x,y,z][i]?=some v→qJ [x,y,z] i=if v≠0 then some (.inr (.inr v)) else some (.inl (i+1)):=fun i v hv=>by
  have:=(List.getElem?_eq_some_iff.1 hv).1;unfold qJ;rw [if_pos (by omega),hv];rfl
 have h0:=h 0 x rfl;have h1:=h 1 y rfl;have h2:=h 2 z rfl;unfold HD;by_cases a:x=0
 ·rw [if_neg (by omega)] at h0;rw [gK h0];by_cases b:y=0
  ·rw [if_neg (by omega)] at h1;rw [gK h1];by_cases c:z=0
   ·rw [if_neg (by omega)] at h2;rw [gK h2,dX (by unfold qJ;rfl)];simp [a,b,c]
   rw [if_pos c] at h2;rw [dX h2];simp [a,b]
  rw [if_pos b] at h1;rw [dX h1];simp [a,b]
 rw [if_pos a] at h0;rw [dX h0];simp [a]
def Pb (p:aR):Prop:=(0≤p.from_∧p.from_≤60)∧(0≤p.to_∧p.to_≤60)∧1≤p.number∧p.number≤999
theorem YR {a b:aR} (ha:Pb a) (hb:Pb b):vW a b=some (yU a b):=by
 unfold Pb at ha hb;unfold vW cB;rw [if_pos (by omega),if_pos (by omega),if_pos (by omega),aIj];rfl
theorem sA {a b:aR} (ha:Pb a) (hb:Pb b):iP vW a b=true↔yU a b < 0:=by
 unfold iP;rw [YR ha hb];simp
theorem MU {l:List aR} (hl:l.length≤10) (h:∀ p∈l,Pb p) (hn:(l.map (·.number)).Nodup):T (iK vW l) fun r=>r.Perm l:=by
 refine ⟨_,pS ⟨by omega,fun x hx y hy=>⟨_,YR (h x hx) (h y hy)⟩,fun x hx=>?_,fun x hx y hy z hz h1 h2=>?_,fun x hx y hy h1 h2=>?_⟩,List.mergeSort_perm ..⟩
 ·rw [Bool.eq_false_iff,Ne,sA (h x hx) (h x hx)];unfold yU;simp
 ·rw [sA (h _ hx) (h _ hy)] at h1;rw [sA (h _ hy) (h _ hz)] at h2;rw [sA (h _ hx) (h _ hz)];unfold yU at *;(repeat' split at h1) <;> (repeat' split at h2) <;> (repeat' split) <;> omega
 refine Classical.byContradiction fun hne=>?_;have h3:¬yU x y < 0:=fun h3=>by rw [(sA (h _ hx) (h _ hy)).2 h3] at h1;cases h1
 have h4:¬yU y x < 0:=fun h3=>by rw [(sA (h _ hy) (h _ hx)).2 h3] at h2;cases h2
 have h5:x.number=y.number:=by
  unfold yU at h3 h4;(repeat' split at h3) <;> (repeat' split at h4) <;> omega
 obtain ⟨i,hi⟩:=List.getElem?_of_mem hx;obtain ⟨j,hj⟩:=List.getElem?_of_mem hy;have hi':=(List.getElem?_eq_some_iff.1 hi).1;have:=(List.getElem?_inj (by rw [List.length_map];exact hi') hn).1 (show (l.map (·.number))[i]?=(l.map (·.number))[j]? by rw [List.getElem?_map,List.getElem?_map,hi,hj];simp [h5]);subst this;rw [hi] at hj;cases hj;exact hne rfl
end T12
set_option maxHeartbeats 4000000
namespace T12
open Go Go.Proofs Pk
theorem OQ (m:bP):∀ (k:Nat) (n:Int),up m (k+1) n=up m k (IF m n).of
 | 0,_=>rfl
 | k+1,n=>by rw [up,OQ m k n];rfl
def rk (m:bP) (n:Int):Nat:=((List.range 12).findIdx? fun j=>decide (up m j n=0)).getD 12
open Classical in
theorem OR {m:bP} {n:Int} {j:Nat} (hj:j < 12) (h:up m j n=0) (hl:∀ i,i < j→up m i n≠0):rk m n=j:=by
 unfold rk;have:(List.range 12).findIdx? (fun j=>decide (up m j n=0))=some j:=by
  rw [List.findIdx?_eq_some_iff_getElem];exact ⟨by simpa using hj,by simpa using h,fun i hi=>by simpa using hl i hi⟩
 rw [this];rfl
theorem yY {P:Nat→Prop}:∀ (n:Nat),P n→∃ j,j≤n∧P j∧∀ i,i < j→¬P i:=by
 intro n
 induction n using Nat.strongRecOn with
 | _ n ih =>
  intro h;by_cases hh:∃ i,i < n∧P i
  ·obtain ⟨i,hi,hP⟩:=hh;obtain ⟨j,h1,h2,h3⟩:=ih i hi hP;exact ⟨j,by omega,h2,h3⟩
  exact ⟨n,Nat.le_refl _,h,fun i hi hP=>hh ⟨i,hi,hP⟩⟩
variable {m:bP}
theorem SZ (hV:Vm m) {p:aR} (hp:p∈m.papers):IF m p.number=p:=by
 unfold IF MT;rw [IE _ _ hV.nd p hp];rfl
theorem YS (hV:Vm m) {p:aR} (hp:p∈m.papers):rk m p.number=rk m p.of+1:=by
 obtain ⟨n,hn,h0⟩:=hV.en p hp;obtain ⟨j,h1,h2,h3⟩:=yY (P:=fun j=>up m j p.of=0) n h0;have hu:∀ i,up m (i+1) p.number=up m i p.of:=fun i=>by rw [OQ,SZ hV hp]
 rw [OR (by omega) h2 h3];refine OR (by omega) (by rw [hu];exact h2) fun i hi=>?_
 cases i with
 | zero=>have:=(hV.n p hp).1;show p.number≠0;omega
 | succ i=>rw [hu];exact h3 i (by omega)
def oG (m:bP) (n:Int):Nat:=(m.papers.filter fun p=>decide (rk m n≤rk m p.of)).length
theorem IH (hV:Vm m) {p:aR} (hp:p∈m.papers) {v:Int} (hv:p.of=v):oG m p.number+(m.papers.filter fun q=>decide (q.of=v)).length≤oG m v:=by
 unfold oG;rw [YS hV hp,hv];have:∀ l:List aR,(l.filter fun q=>decide (rk m v+1≤rk m q.of)).length+(l.filter fun q=>decide (q.of=v)).length≤(l.filter fun q=>decide (rk m v≤rk m q.of)).length:=by
  intro l
  induction l with
  | nil=>exact Nat.le_refl _
  | cons q l ih =>
   simp only [List.filter_cons,decide_eq_true_eq];by_cases h1:q.of=v
   ·rw [h1,if_neg (by omega:¬rk m v+1≤rk m v),if_pos (rfl:v=v),if_pos (Nat.le_refl _)];simp only [List.length_cons];omega
   rw [if_neg h1];by_cases h2:rk m v+1≤rk m q.of
   ·rw [if_pos h2,if_pos (by omega)];simp only [List.length_cons];omega
   rw [if_neg h2];split <;> (try simp only [List.length_cons]) <;> omega
 exact this _
theorem II (hV:Vm m) (v:Int):oG m v≤10:=Nat.le_trans (List.length_filter_le _ _) hV.pl
def oT (n:Nat):Nat:=60*3 ^ n
theorem IJ:∀ n,n≤10→∀ c,c≤n→c*(60+oT (n - c))+60≤oT n:=by decide
theorem TA:∀ n,n≤10→oT n≤3542940:=by decide
theorem IK {a b:Nat} (h:a≤b):oT a≤oT b:=Nat.mul_le_mul_left _ (Nat.pow_le_pow_right (by decide) h)
theorem OS (hV:Vm m) (v:Int):(wd m v).length≤60:=by
 unfold wd;split
 ·exact hV.wl
 unfold IF
 cases h:eK (MT m) v with
 | none=>exact Nat.zero_le _
 | some p =>
  rcases yT _ _ _ _ h with h1 | h1
  ·exact hV.w p h1.1
  cases h1
def LW (c:List Int) (a:List aE) (b:List bH):Prop:=a.length=b.length∧AN a∧∀ o∈b,o.number=0∨o.number∈c
theorem LW.snoc {c:List Int} {a:List aE} {b:List bH} {x:aE} {y:bH} (h:LW c a b) (hx:x.length≤20) (hy:y.number=0∨y.number∈c):LW c (a++[x]) (b++[y]):=⟨by simp [h.1],fun s hs=>by
 rcases List.mem_append.1 hs with h1 | h1
 ·exact h.2.1 s h1
 ·simp at h1;subst h1;exact hx,fun o ho=>by
 rcases List.mem_append.1 ho with h1 | h1
 ·exact h.2.2 o h1
 simp at h1;subst h1;exact hy⟩
theorem YT (hV:Vm m) (v:Int):AN (wd m v):=by
 unfold wd;split
 ·exact hV.wt
 unfold IF
 cases h:eK (MT m) v with
 | none=>exact fun s hs=>absurd hs (List.not_mem_nil)
 | some p =>
  rcases yT _ _ _ _ h with h1 | h1
  ·exact hV.pt p h1.1
  cases h1
theorem IL {choice:List Int} (ws:List aE) (v:Int) (hv:v=0∨v∈choice) (te:Int) (ht:te≤ws.length) (h1:ws.length≤60) (step:Int×List aE×List bH→Option ((Int×List aE×List bH)⊕(Int×List aE×List bH)))
  (hs:∀ s,step s=if s.1 < te then (cB (0≤s.1) <| (ws[s.1.toNat]?).bind fun x=>cB (s.2.1.length+([x]:List aE).length≤1073741824) <| cB (s.2.2.length+([(⟨v,s.1⟩:bH)]:List bH).length≤1073741824) <| cB (-9223372036854775808≤(s.1+1)∧(s.1+1)≤9223372036854775807) <| some (.inl ((s.1+1),(s.2.1++([x]:List aE)),(s.2.2++([(⟨v,s.1⟩:bH)]:List bH))))) else some (.inr (s.1,s.2.1,s.2.2)))
  {at_:Int} {a:List aE} {b:List bH} {L:Nat} (h0:0≤at_∧at_≤ws.length) (hl:LW choice a b∧a.length≤L) (hw:AN ws) (hb:L+60≤1073741824) :
  T (bG step (at_,a,b)) fun e=>(0≤e.1∧e.1≤ws.length)∧LW choice e.2.1 e.2.2∧e.2.1.length≤L+60:=by
 refine T.lp (fun (s:Int×List aE×List bH)=>(0≤s.1∧s.1≤ws.length)∧LW choice s.2.1 s.2.2∧s.2.1.length+((ws.length:Int) - s.1).toNat≤L+60) (fun (s:Int×List aE×List bH)=>((ws.length:Int) - s.1).toNat) (fun s hI=>?_) ⟨h0,hl.1,by dsimp only;omega⟩;rw [hs];have hI1:=hI.2.1.1;refine T.ie (fun h=>.ck (by omega) (T.bd (T.mem (by omega)) fun x hx=>.ck (by simp;omega) (.ck (by simp;omega) (.ck (by omega) (.mk ⟨⟨⟨by dsimp only;omega,by dsimp only;omega⟩,hI.2.1.snoc (hw x hx) hv,by simp;omega⟩,by dsimp only;omega⟩))))) fun h=>.mk ⟨hI.1,hI.2.1,by dsimp only;omega⟩
theorem aIk (hV:Vm m) (choice:List Int):∀ (k:Nat) (v:Int) (a:List aE) (b:List bH),(v=0∨v∈choice)→oG m v < k→LW choice a b→a.length+oT (oG m v)≤1073741824 →
  T (lO m choice k (v,a,b)) fun r=>LW choice r.1 r.2∧r.1.length≤a.length+oT (oG m v):=by
 intro k
 induction k with
 | zero=>intro v a b _ h;omega
 | succ k ih =>
  intro v a b hv h1 h2 h3;show T (tJ m choice (lO m choice k) (v,a,b)) _;have hfl:=II hV v;have h0:=OS hV v;unfold tJ;refine T.bd (.ok (e112 m v)) fun ws hws=>?_;subst hws;have hc:T (bG (tI m (v,a,b)) (0,([]:List aR))) fun e=>e=m.papers.filter fun q=>decide (q.of=v):=by
   refine T.ix m.papers.length (·.1) (fun s=>s.2=(m.papers.take s.1).filter fun q=>decide (q.of=v)) (fun s hs hi=>?_) rfl (Nat.zero_le _);have hlen:s.2.length≤10:=by rw [hs];exact Nat.le_trans (List.length_filter_le _ _) (Nat.le_trans (by rw [List.length_take];omega) hV.pl)
   unfold tI;refine T.ie (fun hl=>T.bd (T.at (by omega)) fun x hx=>T.bd (Q:=fun t=>t=(m.papers.take (s.1+1)).filter fun q=>decide (q.of=v)) (T.ie (fun ho=>.ck (by omega) (.mk ?_)) fun ho=>.mk ?_) fun t ht=>.mk ⟨ht,rfl,by omega⟩) fun hl=>.mk ?_
   ·rw [List.take_add_one,hx,List.filter_append,← hs];simp at ho;simp [ho]
   ·rw [List.take_add_one,hx,List.filter_append,← hs];simp at ho;simp [ho]
   dsimp only;rw [hs,List.take_of_length_le (by omega)]
  refine T.bd (Q:=fun (e:Int×List aE×List bH)=>(0≤e.1∧e.1≤(wd m v).length)∧LW choice e.2.1 e.2.2∧e.2.1.length+60≤a.length+oT (oG m v)) (T.bd hc fun cs hcs=>?_) fun e he=>?_
  ·have hcm:∀ p∈cs,p∈m.papers∧p.of=v:=fun p hp=>by rw [hcs] at hp;simpa using hp
   have hcn:(cs.map (·.number)).Nodup:=by rw [hcs];exact (hV.nd.sublist (List.Sublist.map _ (List.filter_sublist)))
   have hcl:cs.length≤10:=by rw [hcs];exact Nat.le_trans (List.length_filter_le _ _) hV.pl
   refine .ck (List.Pairwise.of_map (f:=(·.number)) (fun _ _ h e=>h (by rw [e])) hcn) (T.bd (MU hcl (fun p hp=>?_) hcn) fun l hl=>?_)
   ·have h5:=hV.ft p (hcm p hp).1;have h6:=OS hV p.of;have h7:=hV.n p (hcm p hp).1;exact ⟨by omega,by omega,h7⟩
   have hll:=hl.length_eq;have hfc:cs.length≤oG m v:=by
    cases hq:cs with
    | nil=>exact Nat.zero_le _
    | cons p t =>
     have hp:p∈cs:=by rw [hq];exact List.mem_cons_self ..
     have:=IH hV (hcm p hp).1 (hcm p hp).2;rw [← hcs,hq] at this;omega
   have hbs:=IJ (oG m v) hfl cs.length hfc;refine T.bd (Q:=fun (e:Int×List aE×List bH)=>(0≤e.1∧e.1≤(wd m v).length)∧LW choice e.2.1 e.2.2∧e.2.1.length+60≤a.length+oT (oG m v)) ?_ fun e he=>.mk he;have hB:∀ i,i < cs.length→i*(60+oT (oG m v - cs.length))+(60+oT (oG m v - cs.length))≤cs.length*(60+oT (oG m v - cs.length)):=fun i hi=>by
    rw [← Nat.succ_mul];exact Nat.mul_le_mul_right _ hi
   refine T.ix cs.length (·.1) (fun (s:Nat×Int×List aE×List bH)=>(0≤s.2.1∧s.2.1≤(wd m v).length)∧LW choice s.2.2.1 s.2.2.2∧s.2.2.1.length≤a.length+s.1*(60+oT (oG m v - cs.length))) (fun s hs hi=>?_) ⟨⟨Int.le_refl 0,by dsimp only;omega⟩,h2,by dsimp only;omega⟩ (Nat.zero_le _);unfold yI;refine T.ie (fun hlt=>T.bd (T.mem (by omega)) fun p hp=>?_) fun hlt=>.mk ⟨hs.1,hs.2.1,?_⟩
   ·have hp':=hcm p (hl.mem_iff.1 hp);have hft:=hV.ft p hp'.1;rw [hp'.2] at hft;have hB':=hB s.1 (by omega);have hst:(s.1+1)*(60+oT (oG m v - cs.length))=s.1*(60+oT (oG m v - cs.length))+(60+oT (oG m v - cs.length)):=Nat.succ_mul _ _;refine T.bd (Q:=fun (e:Int×List aE×List bH)=>(0≤e.1∧e.1≤(wd m v).length)∧LW choice e.2.1 e.2.2∧e.2.1.length≤a.length+(s.1+1)*(60+oT (oG m v - cs.length))) (T.bd (.ok (MS _ _)) fun r hrr=>T.bd (Q:=fun (e:Int×List aE×List bH)=>(0≤e.1∧e.1≤(wd m v).length)∧LW choice e.2.1 e.2.2∧e.2.1.length≤a.length+(s.1+1)*(60+oT (oG m v - cs.length))) (T.ie (fun hrt=>?_) fun _=>.mk ⟨hs.1,hs.2.1,by dsimp only;omega⟩) fun e he=>.mk he) fun e he=>.mk ⟨he,rfl,by omega⟩;have hpc:p.number∈choice:=by
     rw [hrr] at hrt;obtain ⟨x,hx,he⟩:=List.any_eq_true.1 hrt;rw [of_decide_eq_true he];exact hx
    refine T.bd (Q:=fun (e:Int×List aE×List bH)=>(0≤e.1∧e.1≤(wd m v).length)∧LW choice e.2.1 e.2.2∧e.2.1.length≤a.length+s.1*(60+oT (oG m v - cs.length))+60) (T.bd (IL (wd m v) v hv p.from_ (by omega) h0 (yH p (wd m v) (v,a,b)) (fun s=>rfl) hs.1 hs.2 (YT hV v) (by omega)) fun e he=>.mk he) fun e he=>?_;have hf:=IH hV hp'.1 hp'.2;rw [← hcs] at hf;have hbm:oT (oG m p.number)≤oT (oG m v - cs.length):=IK (by omega);exact T.bd (ih p.number e.2.1 e.2.2 (.inr hpc) (by have:0 < cs.length:=(by omega);omega) he.2.1 (by omega)) fun r hr=>.mk ⟨⟨by dsimp only;omega,by dsimp only;omega⟩,hr.1,by dsimp only;omega⟩
   have:s.1*(60+oT (oG m v - cs.length))≤cs.length*(60+oT (oG m v - cs.length)):=Nat.mul_le_mul_right _ hi;dsimp only;omega
  refine T.bd (Q:=fun (e:Int×List aE×List bH)=>LW choice e.2.1 e.2.2∧e.2.1.length≤a.length+oT (oG m v)) (T.bd (IL (wd m v) v hv _ (Int.le_refl _) h0 (yJ (wd m v) (v,a,b)) (fun s=>rfl) (L:=a.length+oT (oG m v) - 60) he.1 ⟨he.2.1,by omega⟩ (YT hV v) (by omega)) fun e h=>.mk ⟨h.2.1,by dsimp only;omega⟩) fun e h=>.mk h
theorem t71 (m:bP) (choice:List Int):T (CA m choice) fun r=>LW choice r.1 r.2.1∧r.1.length≤3542940∧(r.2.2=0→Vm m):=by
 unfold CA;refine T.bd (aIi m choice) fun r h=>T.ie (fun hr=>.mk ⟨⟨rfl,by simp [AN],by simp⟩,by simp,fun h0=>absurd h0 hr⟩) fun h0=>?_;have hV:=h (by omega);have h1:=II hV 0;have h2:=TA _ h1;exact T.bd (T.rc (aIk hV choice 100000 0 [] [] (.inl rfl) (by omega) ⟨rfl,by simp [AN],by simp⟩ (by simp;omega))) fun r hr=>.mk ⟨hr.1,by have:=hr.2;simp at this;dsimp only;omega,fun _=>hV⟩
end T12
set_option maxHeartbeats 4000000
namespace T12
open Go Go.Proofs Pk
theorem rH (n a b:Int):qR n a b=some (decide (a≤n∧n≤b)):=by
 unfold qR;by_cases h:a≤n <;> simp [h]
theorem MV (n:Int):FF n=some (decide (0≤n∧n≤99999)):=by unfold FF;rw [rH];rfl
theorem TB (n:Int):QW n=some (decide (1≤n∧n≤999)):=by unfold QW;rw [rH];rfl
theorem aIl (l:List aI) (f:aI→Option Bool) (p:aI→Bool) (hf:∀ x∈l,f x=some (p x)):FG l f=some (l.all p):=by
 obtain ⟨r,h1,h2⟩:=rG l (fun x=>vF x f) (fun x=>!p x) (fun x hx=>by unfold vF;rw [hf x hx];rfl) (xI l (fun x=>vF x f)) (fun i=>rfl);unfold FG KU KT;rw [h1,List.all_eq_not_any_not];rcases h2 with ⟨z,rfl,h2⟩ | ⟨rfl,h2⟩ <;> simp [h2]
theorem YU (l:List aK) (f:aK→Option Bool) (p:aK→Bool) (hf:∀ x∈l,f x=some (p x)):VX l f=some (l.all p):=by
 obtain ⟨r,h1,h2⟩:=rG l (fun x=>OB x f) (fun x=>!p x) (fun x hx=>by unfold OB;rw [hf x hx];rfl) (xK l (fun x=>OB x f)) (fun i=>rfl);unfold VX m62 KW;rw [h1,List.all_eq_not_any_not];rcases h2 with ⟨z,rfl,h2⟩ | ⟨rfl,h2⟩ <;> simp [h2]
theorem aIm (l:List UInt8) (f:Int→Option Bool) (p:Int→Bool) (hf:∀ x∈l,f (x.toNat:Int)=some (p (x.toNat:Int))):FI l f=some (l.all fun x=>p (x.toNat:Int)):=by
 obtain ⟨r,h1,h2⟩:=rG l (fun x=>vG (x.toNat:Int) f) (fun x=>!p (x.toNat:Int)) (fun x hx=>by unfold vG;rw [hf x hx];rfl) (sU l (fun x=>vG x f)) (fun i=>rfl);unfold FI BJ FH;rw [h1,List.all_eq_not_any_not];rcases h2 with ⟨z,rfl,h2⟩ | ⟨rfl,h2⟩ <;> simp [h2]
theorem TC (s:aE):T (QX s) fun r=>r=true→1≤s.length∧s.length≤200:=by
 unfold QX;refine T.bd (Q:=fun r=>r=true→1≤s.length∧s.length≤200) (T.bd (.ok (rH _ _ _)) fun r h=>T.ie (fun h1=>?_) fun _=>.mk (by simp)) fun _ h=>.mk h;subst h;simp only [decide_eq_true_eq] at h1;refine .ck (by omega) (T.bd (.ok (aIm _ _ (fun c=>(xJ c).getD false) fun x _=>?_)) fun _ _=>.mk fun _=>⟨by omega,by omega⟩);unfold xJ;by_cases h:(32:Int)≤x.toNat <;> simp [h]
theorem YV (p:aI):T (vH p) fun r=>r=true→(1≤p.anchor∧p.anchor≤999)∧1≤p.text.length∧p.text.length≤200:=by
 unfold vH;refine T.bd (Q:=fun r=>r=true→(1≤p.anchor∧p.anchor≤999)∧1≤p.text.length∧p.text.length≤200) (T.bd (.ok (TB _)) fun r h=>T.ie (fun h1=>T.bd (TC _) fun b hb=>.mk fun h2=>?_) fun _=>.mk (by simp)) fun _ h=>.mk h;subst h;simp only [decide_eq_true_eq] at h1;exact ⟨h1,hb h2⟩
def lD (v:bE):List aI:=v.parts.flatMap (·.paragraphs)
def Ps (v:bE):Prop:=v.parts.length≤1000∧∀ p∈v.parts,p.paragraphs.length≤1000
theorem TV (v:bE) (h:Ps v):OA v=some (lD v):=by
 obtain ⟨r,h1,h2⟩:T (bG (AA v) (0,([]:List aI))) fun e=>e=lD v:=by
  refine T.ix v.parts.length (·.1) (fun s=>s.2=(v.parts.take s.1).flatMap (·.paragraphs)∧s.2.length≤1000*s.1) (fun s hs hi=>?_) ⟨rfl,Nat.zero_le _⟩ (Nat.zero_le _);unfold AA;have:=h.1;refine T.ie (fun hl=>T.bd (T.at (by omega)) fun x hx=>?_) fun hl=>.mk (by dsimp only;rw [hs.1,List.take_of_length_le (by omega)];rfl);have hx2:=h.2 x (List.mem_of_getElem? hx);exact .ck (by omega) (.mk ⟨⟨by dsimp only;rw [List.take_add_one,hx,hs.1,List.flatMap_append];simp,by simp;omega⟩,rfl,by omega⟩)
 unfold OA;rw [h1,h2];rfl
structure Vv (v:bE):Prop where
 pl:v.parts.length≤6
 ql:(lD v).length≤30
 h:1≤v.height∧v.height≤60
 w:10≤v.width∧v.width≤80
 n:1≤v.number∧v.number≤99
 b:0≤v.bound∧v.bound≤99999
 p:∀ p∈lD v,(1≤p.anchor∧p.anchor≤999)∧1≤p.text.length∧p.text.length≤200
theorem t82 (v:bE) (h:Ps v):T (VW v) fun r=>r=true→v.parts.length≤6→(lD v).length≤30→Vv v:=by
 unfold VW;refine T.bd (Q:=fun e=>match e with | .inl _=>True | .inr z=>z=false) (T.ix v.parts.length id (fun _=>True) (fun i _ hi=>?_) trivial (Nat.zero_le _)) fun e he=>?_
 ·unfold FJ;exact T.ie (fun hl=>T.bd (T.at (by simp only [id] at *;omega)) fun x hx=>T.bd (Q:=fun _=>True) (T.bd (.ok (MV _)) fun _ _=>T.ie (fun _=>T.ie (fun _=>.mk trivial) fun _=>T.ie (fun h0=>T.bd (T.at (by simp only [id] at *;omega)) fun _ _=>.mk trivial) fun _=>.mk trivial) fun _=>.mk trivial) fun _ _=>T.ie (fun _=>.mk rfl) fun _=>.mk ⟨trivial,rfl,by simp only [id] at *;omega⟩) fun _=>.mk trivial
 cases e with
 | inr z=>simp only at he;subst he;exact .mk (by simp)
 | inl _ =>
  refine T.bd (Q:=fun r=>r=true→v.parts.length≤6→(lD v).length≤30→Vv v) ?_ fun _ h=>.mk h;refine T.bd (.ok (rH _ _ _)) fun r h1=>T.ie (fun g1=>T.bd (.ok (MV _)) fun r h2=>T.ie (fun g2=>T.bd (.ok (rH _ _ _)) fun r h3=>T.ie (fun g3=>T.bd (.ok (rH _ _ _)) fun r h4=>T.ie (fun g4=>T.bd (.ok (TV v h)) fun l hl=>T.bd (.ok (aIl _ _ (fun p=>(vH p).getD false) fun p _=>(YV p).get)) fun r h5=>.mk fun g5 a b=>?_) fun _=>.mk (by simp)) fun _=>.mk (by simp)) fun _=>.mk (by simp)) fun _=>.mk (by simp);subst h1 h2 h3 h4 hl;simp only [decide_eq_true_eq] at g1 g2 g3 g4;rw [h5,List.all_eq_true] at g5;refine ⟨a,b,g3,g4,g1,g2,fun p hp=>?_⟩;obtain ⟨r,h6,h7⟩:=YV p;have:=g5 p hp;rw [h6] at this;exact h7 this
theorem t53 (v:bE) (h:Ps v):T (IZ v) fun r=>r=0→Vv v:=by
 unfold IZ;refine T.bd (.ok (TV v h)) fun l hl=>T.bd (Q:=fun t=>t=false→v.parts.length≤6∧(lD v).length≤30) (T.ie (fun _=>.mk (by simp)) fun h6=>.mk fun h7=>?_) fun t ht=>T.ie (fun _=>.mk (by simp)) fun hf=>T.bd (t82 v h) fun r hr=>T.ie (fun hrt=>T.bd (Q:=fun e=>match e with | .inl _=>True | .inr z=>z=6) (T.ix l.length (·.1) (fun _=>True) (fun s _ hi=>?_) trivial (Nat.zero_le _)) fun e he=>?_) fun _=>.mk (by simp)
 ·subst hl;simp at h7;omega
 ·unfold FK;exact T.ie (fun hl=>T.bd (T.at (by omega)) fun x hx=>T.ie (fun _=>.mk rfl) fun _=>.mk ⟨trivial,rfl,by omega⟩) fun _=>.mk trivial
 have h8:=ht (by simpa using hf)
 cases e with
 | inr z=>exact .mk fun _=>hr hrt h8.1 h8.2
 | inl _=>exact .mk fun _=>hr hrt h8.1 h8.2
theorem YW (x:aK):T (OC x) fun r=>r=true→(0≤x.kind∧x.kind≤2)∧x.text.length≤200∧(x.kind=2→1≤x.new_∧x.new_≤999)∧(x.kind≠1→1≤x.text.length):=by
 unfold OC;refine T.bd (Q:=fun _=>True) (T.bd (.ok (rH _ _ _)) fun _ _=>T.ie (fun _=>T.bd (.ok (MV _)) fun _ _=>T.ie (fun _=>T.bd (.ok (TB _)) fun _ _=>.mk trivial) fun _=>.mk trivial) fun _=>.mk trivial) fun _ _=>T.ie (fun _=>.mk (by simp)) fun _=>T.ie (fun h0=>?_) fun _=>T.ie (fun h1=>?_) fun _=>T.ie (fun h2=>?_) fun _=>.mk (by simp)
 ·exact T.bd (Q:=fun r=>r=true→1≤x.text.length∧x.text.length≤200) (T.bd (TC _) fun r h=>T.ie (fun hr=>.mk fun _=>h hr) fun _=>.mk (by simp)) fun r h=>.mk fun hr=>⟨by omega,(h hr).2,by omega,fun _=>(h hr).1⟩
 ·exact T.bd (Q:=fun r=>r=true→x.text.length≤200) (T.ie (fun h=>.mk fun _=>by rw [h];decide) fun _=>.mk (by simp)) fun r h=>.mk fun hr=>⟨by omega,h hr,by omega,fun h=>absurd h1 h⟩
 exact T.bd (Q:=fun r=>r=true→(1≤x.text.length∧x.text.length≤200)∧1≤x.new_∧x.new_≤999) (T.bd (TC _) fun r h=>T.ie (fun hr=>T.bd (.ok (TB _)) fun b hb=>.mk fun hbt=>by subst hb;simp only [decide_eq_true_eq] at hbt;exact ⟨h hr,hbt⟩) fun _=>.mk (by simp)) fun r h=>.mk fun hr=>⟨by omega,(h hr).1.2,fun _=>(h hr).2,fun _=>(h hr).1.1⟩
end T12
set_option maxHeartbeats 4000000
namespace T12
open Go Go.Proofs Pk
structure Ve (es:List aK):Prop where
 l:es.length≤20
 k:∀ x∈es,(0≤x.kind∧x.kind≤2)∧x.text.length≤200∧(x.kind=2→1≤x.new_∧x.new_≤999)∧(x.kind≠1→1≤x.text.length)
 nd:(es.map (·.number)).Nodup
def CR (a b:Int):Int:=if a < b then -1 else if b < a then 1 else 0
theorem YX (a b:Int):BL a b=some (CR a b):=by
 unfold BL vI CR;simp only [ne_eq,not_true_eq_false,decide_false,Option.bind_some,Bool.false_eq_true,if_false];by_cases h:a < b
 ·rw [if_pos h,if_pos h]
 rw [if_neg h,if_neg h];split <;> rfl
theorem aIn (x y:Int):FL [x,y]=some (if x≠0 then x else y):=by
 have h:∀ (i:Nat) (v:Int),[x,y][i]?=some v→qE [x,y] i=if v≠0 then some (.inr (.inr v)) else some (.inl (i+1)):=fun i v hv=>by
  have:=(List.getElem?_eq_some_iff.1 hv).1;unfold qE;rw [if_pos (by omega),hv];rfl
 have h0:=h 0 x rfl;have h1:=h 1 y rfl;unfold FL;by_cases a:x=0
 ·rw [if_neg (by omega)] at h0;rw [gK h0];by_cases b:y=0
  ·rw [if_neg (by omega)] at h1;rw [gK h1,dX (by unfold qE;rfl)];simp [a,b]
  rw [if_pos b] at h1;rw [dX h1];simp [a]
 rw [if_pos a] at h0;rw [dX h0];simp [a]
def YY (a b:aK):Int:=if CR a.day b.day≠0 then CR a.day b.day else CR a.number b.number
theorem YZ (a b:aK):oC a b=some (YY a b):=by
 unfold oC;rw [YX,YX];simp only [Option.bind_some];rw [aIn];rfl
theorem sB (a b:aK):iP oC a b=true↔a.day < b.day∨(a.day=b.day∧a.number < b.number):=by
 unfold iP;rw [YZ];simp only [decide_eq_true_eq];unfold YY CR;(repeat' split) <;> omega
def OT (a b:aK):Prop:=a.day < b.day∨(a.day=b.day∧a.number≤b.number)
theorem tP {l:List aK} (hl:l.length≤20) (hn:(l.map (·.number)).Nodup):T (iK oC l) fun r=>r.Perm l∧r.Pairwise OT:=by
 have hp:(l.mergeSort fun x y=>!iP oC y x).Pairwise OT:=(List.pairwise_mergeSort (le:=fun x y=>!iP oC y x) (fun a b c h1 h2=>by simp only [Bool.not_eq_true',Bool.eq_false_iff,ne_eq,sB] at *;omega) (fun a b=>by rw [Bool.or_eq_true];simp only [Bool.not_eq_true',Bool.eq_false_iff,ne_eq,sB];omega) l).imp fun {a b} h=>by simp only [Bool.not_eq_true',Bool.eq_false_iff,ne_eq,sB] at h;unfold OT;omega
 refine ⟨_,pS ⟨by omega,fun x hx y hy=>⟨_,YZ x y⟩,fun x hx=>?_,fun x hx y hy z hz h1 h2=>?_,fun x hx y hy h1 h2=>?_⟩,List.mergeSort_perm ..,hp⟩
 ·rw [Bool.eq_false_iff,Ne,sB];omega
 ·rw [sB] at *;omega
 have h3:x.number=y.number:=by
  rw [Bool.eq_false_iff,Ne,sB] at h1 h2;omega
 obtain ⟨i,hi⟩:=List.getElem?_of_mem hx;obtain ⟨j,hj⟩:=List.getElem?_of_mem hy;have hi':=(List.getElem?_eq_some_iff.1 hi).1;have:=(List.getElem?_inj (by rw [List.length_map];exact hi') hn).1 (show (l.map (·.number))[i]?=(l.map (·.number))[j]? by rw [List.getElem?_map,List.getElem?_map,hi,hj];simp [h3]);subst this;rw [hi] at hj;cases hj;rfl
theorem IM {l:List aK} (h:l.length≤20):rA l=some l:=by
 unfold rA cB;rw [if_pos (by simp;omega)];rfl
theorem aIo (v:bE) (es:List aK) (hv:Ps v) (he:Ve es):T (QZ v es) fun _=>True:=by
 unfold QZ;refine T.bd (.ok (TV v hv)) fun ps _=>T.bd (Q:=fun _=>True) (T.ix ps.length (·.1) (fun _=>True) (fun s _ hi=>?_) trivial (Nat.zero_le _)) fun t _=>T.bd (Q:=fun _=>True) (T.bd (.ok (IM he.l)) fun l1 h1=>?_) fun t _=>by cases t <;> exact .mk trivial
 ·unfold AB;exact T.ie (fun hl=>T.bd (T.at (by omega)) fun x hx=>.mk ⟨trivial,rfl,by omega⟩) fun _=>.mk trivial
 subst h1;refine T.bd (tP he.l he.nd) fun l hl=>T.bd (Q:=fun _=>True) (T.ix l1.length (·.1) (fun _=>True) (fun s _ hi=>?_) trivial (Nat.zero_le _)) fun e _=>by cases e <;> exact .mk trivial
 have hll:=hl.1.length_eq;unfold AC;refine T.ie (fun hl=>T.bd (T.at (by omega)) fun x hx=>T.ie (fun _=>.mk trivial) fun _=>T.bd (Q:=fun _=>True) (T.ie (fun _=>T.bd (Q:=fun _=>True) (T.ie (fun _=>.mk trivial) fun _=>.mk trivial) fun _ _=>.mk trivial) fun _=>.mk trivial) fun t _=>?_) fun _=>.mk trivial
 cases t with
 | inl _=>exact .mk trivial
 | inr _=>exact .mk ⟨trivial,rfl,by omega⟩
theorem t85 (v:bE) (es:List aK) (hv:Ps v):T (rB v es) fun r=>r=0→Vv v∧Ve es:=by
 unfold rB;refine T.bd (t53 v hv) fun r h=>T.ie (fun hr=>.mk fun h0=>absurd h0 hr) fun h0=>T.ie (fun _=>.mk (by simp)) fun hl=>T.bd (.ok (YU _ _ (fun x=>(OC x).getD false) fun x _=>(YW x).get)) fun r2 h2=>T.ie (fun hr=>T.bd (.ok (TV v hv)) fun ps _=>T.bd (Q:=fun _=>True) (T.ix ps.length (·.1) (fun _=>True) (fun s _ hi=>?_) trivial (Nat.zero_le _)) fun t _=>T.bd (Q:=fun e=>match e with | .inl _=>(es.map (·.number)).Nodup | .inr z=>z=6) (T.ix es.length (·.1) (fun s=>(∀ k,(eK s.2.1 k).getD false=true↔k∈(es.take s.1).map (·.number))∧((es.take s.1).map (·.number)).Nodup) (fun s hs hi=>?_) ⟨fun k=>by simp [eK],by simp⟩ (Nat.zero_le _)) fun e he=>?_) fun _=>.mk (by simp)
 ·unfold AD;exact T.ie (fun hl=>T.bd (T.at (by omega)) fun x hx=>.mk ⟨trivial,rfl,by omega⟩) fun _=>.mk trivial
 ·unfold AE;refine T.ie (fun hl=>T.bd (T.at (by omega)) fun x hx=>T.bd (Q:=fun t=>t=false→x.number∉(es.take s.1).map (·.number)) (T.ie (fun _=>.mk (by simp)) fun hn=>?_) fun t ht=>T.ie (fun _=>.mk rfl) fun hf=>T.bd (Q:=fun _=>True) (T.ie (fun _=>.mk trivial) fun _=>.mk trivial) fun _ _=>.mk ⟨⟨fun k=>?_,?_⟩,rfl,by omega⟩) fun hl=>.mk (by have:=hs.2;rwa [List.take_of_length_le (by omega)] at this)
  ·have hm:x.number∉(es.take s.1).map (·.number):=fun h=>hn ((hs.1 _).2 h);exact T.ie (fun _=>.mk fun _=>hm) fun _=>.mk fun _=>hm
  ·dsimp only;rw [kG,List.take_add_one,hx,List.map_append,List.mem_append,← hs.1 k];by_cases hk:k=x.number <;> simp [hk]
  have hm:=ht (by simpa using hf);dsimp only;rw [List.take_add_one,hx,List.map_append];exact List.nodup_append.2 ⟨hs.2,by simp,fun a ha b hb hab=>by simp at hb;subst hb hab;exact hm ha⟩
 cases e with
 | inr z=>simp only at he;subst he;exact .mk (by simp)
 | inl _ =>
  have hE:Ve es:=⟨by omega,fun x hx=>by
   obtain ⟨r,h6,h7⟩:=YW x;rw [h2,List.all_eq_true] at hr
   have:=hr x hx;rw [h6] at this;exact h7 this,he⟩
  exact T.bd (aIo v es hv hE) fun _ _=>.mk fun _=>⟨h (by omega),hE⟩
end T12
set_option maxHeartbeats 4000000
namespace T12
open Go Go.Proofs Pk
def Pg (p:aI):Prop:=p.text.length≤200∧(1≤p.anchor∧p.anchor≤999)∧1≤p.text.length
def Gd (n k:Nat) (g:List (List bY)):Prop:=g.length=n∧∀ r∈g,r.length≤k∧∀ e∈r,Pg e.paragraph
theorem Gd.mono {n k k':Nat} {g:List (List bY)} (h:Gd n k g) (hk:k≤k'):Gd n k' g:=⟨h.1,fun r hr=>⟨Nat.le_trans (h.2 r hr).1 hk,(h.2 r hr).2⟩⟩
theorem ZA {α:Type} {l:List α} {i:Nat} {v:α} {P:α→Prop} (h:∀ x∈l,P x) (hv:P v):∀ x∈l.set i v,P x:=yR h hv
theorem Gd.set {n k:Nat} {g:List (List bY)} {i:Nat} {r:List bY} (h:Gd n k g) (hr:r.length≤k∧∀ e∈r,Pg e.paragraph):Gd n k (g.set i r):=⟨by rw [List.length_set];exact h.1,ZA h.2 hr⟩
theorem MW {v:bE} {p:eB} (hp:p∈v.parts):p.paragraphs.length≤(lD v).length:=by
 unfold lD;obtain ⟨i,hi⟩:=List.getElem?_of_mem hp;have:∀ (l:List eB) (p:eB),p∈l→p.paragraphs.length≤(l.flatMap (·.paragraphs)).length:=by
  intro l p
  induction l with
  | nil=>intro h;cases h
  | cons q l ih =>
   intro h;rw [List.flatMap_cons,List.length_append];rcases List.mem_cons.1 h with rfl | h
   ·omega
   have:=ih h;omega
 exact this _ _ hp
theorem aIp (g:List (List bY)) (k:Nat) (x:aK) (hg:Gd 6 k g∨g.length≤6∧∀ r∈g,r.length≤k) (hk:k≤1000) (i:Nat):T (bG (rX (i,g) x) (0,0,0,false)) fun e=>e.2.2=true→∃ r,g[e.1]?=some r∧e.2.1 < r.length:=by
 have hg':g.length≤6∧∀ r∈g,r.length≤k:=by
  rcases hg with h | h
  ·exact ⟨by have:=h.1;omega,fun r hr=>(h.2 r hr).1⟩
  exact h
 refine T.ix g.length (·.2.2.1) (fun s=>s.2.2.2=false) (fun s hs hi=>?_) rfl (Nat.zero_le _);unfold rX;dsimp only;refine T.ie (fun hl=>T.bd (T.at (by omega)) fun r hr=>T.bd (Q:=fun e=>match e with | .inl q=>q.2.2=false | .inr z=>∃ q,z=.inr q∧q.1=s.2.2.1∧q.2.1 < r.length) (T.ix r.length (·.2.2.1) (fun q=>q.2.2.2=false) (fun q hq hj=>?_) hs (Nat.zero_le _)) fun e he=>?_) fun _=>.mk fun h=>by dsimp only at h;rw [hs] at h;cases h
 ·have:=hg'.2 r (List.mem_of_getElem? hr);unfold AG;exact T.ie (fun hl=>T.bd (T.at (by omega)) fun y hy=>T.ie (fun _=>⟨_,rfl,_,rfl,rfl,by dsimp only;omega⟩) fun _=>.ck (by omega) (.mk ⟨hq,rfl,by omega⟩)) fun _=>.mk hq
 cases e with
 | inl q=>exact .ck (by omega) (.mk ⟨he,rfl,by omega⟩)
 | inr z=>obtain ⟨q,rfl,h1,h2⟩:=he;exact .mk fun _=>⟨r,by rw [h1];exact hr,h2⟩
theorem ZB (v:bE) (es:List aK) (to_:Int) (hv:Vv v) (he:Ve es):T (CW v es to_) fun r=>r.volume=v∧Gd v.parts.length 50 r.parts:=by
 have hpl:=hv.pl;have hql:=hv.ql;unfold CW;refine T.bd (Q:=fun g=>Gd v.parts.length 30 g) (T.ix v.parts.length (·.1) (fun s=>Gd s.1 30 s.2) (fun s hs hi=>?_) ⟨rfl,by simp⟩ (Nat.zero_le _)) fun g hg=>?_
 ·unfold vJ;refine T.ie (fun hl=>T.bd (T.at (by omega)) fun p hp=>T.bd (Q:=fun r=>r.length≤30∧∀ e∈r,Pg e.paragraph) (T.ix p.paragraphs.length (·.1) (fun q=>q.2.length=q.1∧∀ e∈q.2,Pg e.paragraph) (fun q hq hj=>?_) ⟨rfl,by simp⟩ (Nat.zero_le _)) fun r hr=>.ck (by have:=hs.1;omega) (.mk ⟨⟨by simp [hs.1],fun r' hr'=>?_⟩,rfl,by omega⟩)) fun hl=>.mk ?_
  ·have hpm:=List.mem_of_getElem? hp;have h0:=MW hpm;unfold AF;refine T.ie (fun hl=>T.bd (T.mem (by omega)) fun y hy=>.ck (by have:=hq.1;omega) (.mk ⟨⟨by simp [hq.1],fun e he'=>?_⟩,rfl,by omega⟩)) fun _=>.mk ⟨by have:=hq.1;omega,hq.2⟩;rcases List.mem_append.1 he' with h | h
   ·exact hq.2 e h
   simp at h;subst h;have h3:=hv.p y (List.mem_flatMap.2 ⟨p,hpm,hy⟩);exact ⟨h3.2.2,h3.1,h3.2.1⟩
  ·rcases List.mem_append.1 hr' with h | h
   ·exact hs.2 r' h
   simp at h;subst h;exact hr
  have:s.1=v.parts.length:=by omega
  rw [this] at hs;exact hs
 refine T.bd (Q:=fun g=>Gd v.parts.length 50 g) (T.bd (.ok (IM he.l)) fun l1 h1=>?_) fun g hg=>.mk ⟨rfl,hg⟩;subst h1;have hEl:=he.l;refine T.bd (tP he.l he.nd) fun l hl=>T.bd (Q:=fun e=>match e with | .inl g=>Gd v.parts.length 50 g | .inr g=>Gd v.parts.length 50 g) (T.ix l1.length (·.1) (fun s=>Gd v.parts.length (30+s.1) s.2) (fun s hs hi=>?_) hg (Nat.zero_le _)) fun e h=>by cases e <;> exact .mk h
 have hll:=hl.1.length_eq;unfold vK;refine T.ie (fun hlt=>T.bd (T.mem (by omega)) fun x hx=>T.bd (Q:=fun r=>Gd v.parts.length (30+(s.1+1)) r.2) (T.ie (fun _=>.mk (hs.mono (by omega))) fun _=>?_) fun r hr=>T.ie (fun _=>.mk (hr.mono (by omega))) fun _=>.mk ⟨hr,rfl,by omega⟩) fun _=>.mk (hs.mono (by omega));have hk:=he.k x (hl.1.mem_iff.1 hx);have hs':=hs.mono (show 30+s.1≤30+(s.1+1) by omega);refine T.bd (Q:=fun g=>Gd v.parts.length (30+(s.1+1)) g) ?_ fun g hg=>.mk hg;refine T.bd (Q:=fun e=>e.2.2=true→∃ r,s.2[e.2.1]?=some r∧e.1 < r.length) (T.bd (aIp s.2 (30+s.1) x (.inr ⟨by have:=hs.1;omega,fun r hr=>(hs.2 r hr).1⟩) (by omega) s.1) fun e he=>.mk he) fun e hf=>?_;refine T.bd (Q:=fun g=>Gd v.parts.length (30+(s.1+1)) g) (T.ie (fun hft=>?_) fun _=>.mk hs') fun g hg=>.mk hg;obtain ⟨r,hr,hc⟩:=hf hft;have hrm:=hs.2 r (List.mem_of_getElem? hr);refine T.bd (.ok (rfl:m67=some ())) fun _ _=>.ck (by omega) (T.ie (fun _=>?_) fun _=>T.ie (fun _=>?_) fun _=>T.ie (fun hk2=>?_) fun _=>by omega)
 ·refine T.bd (Q:=fun g=>Gd v.parts.length (30+(s.1+1)) g) (T.bd (.ok hr) fun r' h'=>?_) fun g hg=>.mk hg;subst h';exact T.bd (T.mem hc) fun y hy=>T.bd (Q:=fun g=>Gd v.parts.length (30+(s.1+1)) g) (T.ie (fun _=>.mk hs') fun _=>.mk (hs'.set ⟨by simp;omega,yR hrm.2 ⟨hk.2.1,(hrm.2 y hy).2.1,hk.2.2.2 (by omega)⟩⟩)) fun g hg=>.mk hg
 ·refine T.bd (Q:=fun g=>Gd v.parts.length (30+(s.1+1)) g) (T.bd (.ok hr) fun r' h'=>?_) fun g hg=>.mk hg;subst h';exact T.bd (T.mem hc) fun y hy=>.mk (hs'.set ⟨by simp;omega,yR hrm.2 (hrm.2 y hy)⟩)
 refine T.bd (Q:=fun g=>Gd v.parts.length (30+(s.1+1)) g) (T.bd (.ok hr) fun r' h'=>?_) fun g hg=>.mk hg;subst h';refine .ck (by omega) (.ck (by omega) (.ck (by omega) (.mk (hs'.set ⟨by simp;omega,fun e he'=>?_⟩))));simp only [List.mem_append,List.mem_singleton] at he';rcases he' with (h | h) | h
 ·exact hrm.2 e (List.mem_of_mem_take h)
 ·subst h;exact ⟨hk.2.1,hk.2.2.1 hk2,hk.2.2.2 (by omega)⟩
 exact hrm.2 e (List.mem_of_mem_drop h)
end T12
set_option maxHeartbeats 4000000
namespace T12
open Go Go.Proofs Pk
theorem MX {n:Int} (h : -1000000000000 < n∧n < 1000000000000):(Lib.itoa n).length≤13:=by
 unfold Lib.itoa;split
 ·rw [List.length_cons];have:=pC (u:=n.natAbs) (k:=12) (by omega) (by decide);omega
 have:=pC (u:=n.toNat) (k:=12) (by omega) (by decide);omega
def Sh (x:Any):Prop:=match x with | .i n=>-1000000000000 < n∧n < 1000000000000 | .s b=>b.length≤13
theorem IN:∀ {l:List Any},(∀ x∈l,Sh x)→(eT l).length≤13*l.length
 | [],_=>by simp [eT]
 | x::l,h=>by
  have h1:=IN fun y hy=>h y (List.mem_cons_of_mem _ hy);have h2:(qC x).length≤13:=by
   have:=h x (List.mem_cons_self ..)
   cases x with
   | i n=>exact MX this
   | s b=>exact this
  have:eT (x::l)=qC x++eT l:=rfl;rw [this,List.length_append,List.length_cons];omega
theorem t87 {l:List Any} (h:∀ x∈l,Sh x) (hl:l.length≤10):T (oA l) fun r=>r.length≤130:=by
 have:=IN h;unfold oA
 exact .ck ⟨fun x hx=>by
  have:=h x hx
  cases x with
  | i n=>unfold Sh at this;exact ⟨by omega,by omega⟩
  | s b=>trivial,by omega⟩ (.mk (by omega))
theorem t84 (v:bE) (es:List aK) (to_:Int) (hv:Ps v):T (TR v es to_) fun r=>r.1.length≤300∧(r.2=0→Vv v∧Ve es):=by
 unfold TR;refine T.bd (t85 v es hv) fun r h=>T.ie (fun hr=>.mk ⟨by simp,fun h0=>absurd h0 hr⟩) fun h0=>T.bd (.ok (MV _)) fun b _=>T.ie (fun _=>?_) fun _=>.mk ⟨by simp,by simp⟩;have hVE:=h (by omega);have hpl:=hVE.1.pl;refine T.bd (ZB v es to_ hVE.1 hVE.2) fun g hg=>T.bd (Q:=fun l=>l.length≤300) (T.ix g.parts.length (·.1) (fun s=>s.2.length≤50*s.1) (fun s hs hi=>?_) (Nat.zero_le _) (Nat.zero_le _)) fun l hl=>.mk ⟨hl,fun _=>hVE⟩;have hgl:=hg.2.1;unfold FO;refine T.ie (fun hl=>T.bd (T.mem (by omega)) fun r hr=>T.bd (Q:=fun l=>l.length≤50*(s.1+1)) (T.ix r.length (·.1) (fun q=>q.2.length≤50*s.1+q.1) (fun q hq hj=>?_) hs (Nat.zero_le _)) fun l hl=>.mk ⟨hl,rfl,by omega⟩) fun _=>.mk (by omega);have hrl:=(hg.2.2 r hr).1;unfold FN;exact T.ie (fun hl=>T.bd (T.at (by omega)) fun y hy=>T.bd (Q:=fun l=>l.length≤50*s.1+(q.1+1)) (T.ie (fun _=>.mk (by omega)) fun _=>.ck (by omega) (.mk (by simp;omega))) fun l hl=>.mk ⟨hl,rfl,by omega⟩) fun _=>.mk (by omega)
theorem aIr (g:gJ) (anchor:Int):T (bG (rY g anchor) (0,0,0,false)) fun e=>e.2.2=true→∃ r,g.parts[e.1]?=some r∧e.2.1 < r.length:=by
 refine T.ix g.parts.length (·.2.2.1) (fun s=>s.2.2.2=false) (fun s hs hi=>?_) rfl (Nat.zero_le _);unfold rY;refine T.ie (fun hl=>T.bd (T.at (by omega)) fun r hr=>T.bd (Q:=fun e=>match e with | .inl q=>q.2.2=false | .inr z=>∃ q,z=.inr q∧q.1=s.2.2.1∧q.2.1 < r.length) (T.ix r.length (·.2.2.1) (fun q=>q.2.2.2=false) (fun q hq hj=>?_) hs (Nat.zero_le _)) fun e he=>?_) fun _=>.mk fun h=>by dsimp only at h;rw [hs] at h;cases h
 ·unfold AH;exact T.ie (fun hl=>T.bd (T.at (by omega)) fun y hy=>T.ie (fun _=>⟨_,rfl,_,rfl,rfl,by dsimp only;omega⟩) fun _=>.mk ⟨hq,rfl,by omega⟩) fun _=>.mk hq
 cases e with
 | inl q=>exact .mk ⟨he,rfl,by omega⟩
 | inr z=>obtain ⟨q,rfl,h1,h2⟩:=he;exact .mk fun _=>⟨r,by rw [h1];exact hr,h2⟩
theorem t58 (v:bE) (es:List aK) (anchor to_:Int) (hv:Ps v):T (KX v es anchor to_) fun r=>r.2.2=0→(0≤to_∧to_≤99999):=by
 unfold KX;refine T.bd (t85 v es hv) fun r h=>T.ie (fun hr=>.mk fun h0=>absurd h0 hr) fun h0=>T.bd (.ok (MV _)) fun b hb=>T.ie (fun hbt=>?_) fun _=>.mk (by simp);have hVE:=h (by omega);subst hb;simp only [decide_eq_true_eq] at hbt;refine T.bd (ZB v es to_ hVE.1 hVE.2) fun g hg=>T.bd (Q:=fun e=>e.2.2=true→∃ r,g.parts[e.2.1]?=some r∧e.1 < r.length) (T.bd (aIr g anchor) fun e he=>.mk he) fun e he=>T.ie (fun h1=>?_) fun _=>.mk (by simp);obtain ⟨r,hr,hc⟩:=he h1;exact T.bd (.ok hr) fun r' h'=>by
  subst h';exact T.bd (T.at hc) fun y hy=>.mk fun _=>hbt
def Pd (v:bE) (x:cK):Prop:=((1≤x.place.anchor∧x.place.anchor≤999)∧1≤x.place.lines∧x.place.lines≤1000)∧(0≤x.place.column∧x.place.column≤999999)∧(1≤x.place.line∧x.place.line≤v.height)∧(0≤x.number∧x.number≤1000)∧∃ p∈v.parts,x.day=p.day
theorem t88 (v:bE) (es:List aK) (hv:Vv v) (he:Ve es):T (CX v es) fun l=>l.length≤300∧∀ x∈l,Pd v x:=by
 have hpl:=hv.pl;have hh:=hv.h;have hw:=hv.w;unfold CX;refine T.bd (ZB v es v.bound hv he) fun g hg=>T.bd (Q:=fun l=>l.length≤300∧∀ x∈l,Pd v x) (T.ix g.parts.length (·.1) (fun (s:Nat×Int×List cK)=>(1≤s.2.1∧s.2.1≤1+20000*(s.1:Int))∧s.2.2.length≤50*s.1∧∀ x∈s.2.2,Pd v x) (fun s hs hi=>?_) ⟨⟨by decide,by decide⟩,Nat.zero_le _,by simp⟩ (Nat.zero_le _)) fun l hl=>.mk hl;have hgl:=hg.2.1;obtain ⟨hs1,hs2,hs3⟩:=hs;unfold FQ;refine T.ie (fun hl=>T.bd (T.mem (by omega)) fun r hr=>T.bd (Q:=fun (e:Int×List cK)=>(0≤e.1∧e.1≤15000)∧e.2.length≤50*(s.1+1)∧∀ x∈e.2,Pd v x) (T.ix r.length (·.2.1) (fun (q:Nat×Nat×Int×List cK)=>q.1≤q.2.1∧(0≤q.2.2.1∧q.2.2.1≤300*(q.2.1:Int))∧q.2.2.2.length≤50*s.1+q.2.1∧∀ x∈q.2.2.2,Pd v x) (fun q hq hj=>?_) ⟨Nat.le_refl _,⟨Int.le_refl 0,Int.le_refl 0⟩,by dsimp only;omega,hs3⟩ (Nat.zero_le _)) fun e he=>?_) fun _=>.mk ⟨by have:=hg.2.1;omega,hs3⟩
 ·have hrl:=hg.2.2 r hr;obtain ⟨hq1,hq2,hq3,hq4⟩:=hq;unfold FP;refine T.ie (fun hl2=>T.bd (Q:=fun (t:Nat×Int×List cK)=>t.1≤q.2.1+1∧(0≤t.2.1∧t.2.1≤300*((q.2.1:Int)+1))∧t.2.2.length≤50*s.1+(q.2.1+1)∧∀ x∈t.2.2,Pd v x) (T.bd (T.mem (by omega)) fun y hy=>T.ie (fun _=>.mk ⟨by dsimp only;omega,⟨hq2.1,by dsimp only;omega⟩,by dsimp only;omega,hq4⟩) fun _=>?_) fun t ht=>.mk ⟨ht,rfl,by omega⟩) fun _=>.mk ⟨⟨by dsimp only;omega,by dsimp only;omega⟩,by dsimp only;omega,hq4⟩;have hty:=(hrl.2 y hy).1;have hya:=(hrl.2 y hy).2.1;have hy1:=(hrl.2 y hy).2.2;have d1:0≤q.2.2.1/v.height:=Int.ediv_nonneg hq2.1 (by omega);have d2:q.2.2.1/v.height≤q.2.2.1:=Int.ediv_le_self _ hq2.1;have d3:0≤q.2.2.1%v.height:=Int.emod_nonneg _ (by omega);have d4:q.2.2.1%v.height < v.height:=Int.emod_lt_of_pos _ (by omega);have d5:1≤((y.paragraph.text.length:Int)+v.width - 1)/v.width:=Int.le_ediv_of_mul_le (by omega) (by omega);have d6:((y.paragraph.text.length:Int)+v.width - 1)/v.width≤(y.paragraph.text.length:Int)+v.width - 1:=Int.ediv_le_self _ (by omega);refine .ck (by omega) (.ck (by omega) (.ck (by omega) (.ck (by omega) (.ck (by omega) (.ck (by omega) (.ck (by omega) (.ck (by omega) (T.bd (T.mem (by omega)) fun z hz=>.ck (by simp;omega) (.ck (by omega) (.mk ⟨by dsimp only;omega,⟨by dsimp only;omega,by dsimp only;omega⟩,by simp;omega,fun x hx=>?_⟩))))))))));rcases List.mem_append.1 hx with h | h
  ·exact hq4 x h
  simp only [List.mem_singleton] at h;subst h;exact ⟨⟨hya,by dsimp only;omega,by dsimp only;omega⟩,⟨by dsimp only;omega,by dsimp only;omega⟩,⟨by dsimp only;omega,by dsimp only;omega⟩,⟨by dsimp only;omega,by dsimp only;omega⟩,z,hz,rfl⟩
 obtain ⟨he1,he2,he3⟩:=he;have d1:0≤(e.1+v.height - 1)/v.height:=Int.ediv_nonneg (by omega) (by omega);have d2:(e.1+v.height - 1)/v.height≤e.1+v.height - 1:=Int.ediv_le_self _ (by omega);exact .ck (by omega) (.ck (by omega) (.ck (by omega) (.ck (by omega) (.mk ⟨⟨⟨by dsimp only;omega,by dsimp only;omega⟩,he2,he3⟩,rfl,by omega⟩))))
end T12
set_option maxHeartbeats 4000000
namespace T12
open Go Go.Proofs Pk
theorem t56 (v:bE) (es:List aK) (anchor style to_:Int) (hv:Ps v) (hd:∀ p∈v.parts,0≤p.day∧p.day≤99999) (ha : -1000000000000 < anchor∧anchor < 1000000000000) (ht : -1000000000000 < to_∧to_ < 1000000000000):T (sX v es anchor style to_) fun r=>r.1.length≤130:=by
 unfold sX;refine T.bd (t85 v es hv) fun r h=>T.ie (fun hr=>.mk (by simp)) fun h0=>T.bd (Q:=fun _=>True) (T.ie (fun _=>.mk trivial) fun _=>T.ie (fun _=>T.bd (.ok (MV _)) fun _ _=>.mk trivial) fun _=>.mk trivial) fun _ _=>T.ie (fun _=>.mk (by simp)) fun _=>T.ie (fun _=>T.bd (t58 v es anchor to_ hv) fun r hr=>T.ie (fun _=>.mk (by simp)) fun _=>T.bd (t87 (fun x hx=>?_) (by simp)) fun r hr=>.mk hr) fun _=>?_
 ·simp only [List.mem_cons,List.not_mem_nil,or_false] at hx;rcases hx with rfl | rfl | rfl
  ·exact ha
  ·show (1:Nat)≤13;decide
  exact ht
 have hVE:=h (by omega);have hn:=hVE.1.n;have hh:=hVE.1.h;refine T.bd (t88 v es hVE.1 hVE.2) fun l hl=>T.bd (Q:=fun e=>match e with | .inl _=>True | .inr z=>z.1.length≤130) (T.ix l.length id (fun _=>True) (fun i _ hi=>?_) trivial (Nat.zero_le _)) fun e he=>?_
 ·unfold sW;refine T.ie (fun hlt=>T.bd (T.mem (by simp only [id] at *;omega)) fun x hx=>?_) fun _=>.mk trivial;obtain ⟨_,h1,h2,h3,p,hp,h4⟩:=hl.2 x hx;have h5:=hd p hp;refine T.ie (fun _=>.mk ⟨trivial,rfl,by simp only [id] at *;omega⟩) fun _=>T.ie (fun _=>T.bd (t87 (fun x hx=>?_) (by simp)) fun r hr=>.mk hr) fun _=>T.bd (t87 (fun x hx=>?_) (by simp)) fun r hr=>.mk hr
  ·simp only [List.mem_cons,List.not_mem_nil,or_false] at hx;rcases hx with rfl | rfl | rfl | rfl | rfl | rfl
   ·show (5:Nat)≤13;decide
   ·exact ⟨by omega,by omega⟩
   ·show (7:Nat)≤13;decide
   ·exact ⟨by omega,by omega⟩
   ·show (5:Nat)≤13;decide
   exact ⟨by omega,by omega⟩
  simp only [List.mem_cons,List.not_mem_nil,or_false] at hx;rcases hx with rfl | rfl | rfl | rfl | rfl | rfl
  ·show (5:Nat)≤13;decide
  ·exact ⟨by omega,by omega⟩
  ·show (2:Nat)≤13;decide
  ·exact ⟨by omega,by omega⟩
  ·show (7:Nat)≤13;decide
  exact ⟨by omega,by omega⟩
 cases e with
 | inl _=>exact .mk (by simp)
 | inr z=>exact .mk he
end T12
set_option maxHeartbeats 4000000
namespace T12
open Go Go.Proofs Pk
theorem jI (c:Bool) (e:Int):T (jS c e) fun r=>match r with | .inl _=>c=true | .inr _=>c=false:=by
 cases c
 ·exact ⟨_,rfl,rfl⟩
 exact ⟨_,rfl,rfl⟩
theorem AO (e:Int):T (mD e) fun r=>match r with | .inl _=>e=0 | .inr _=>e≠0:=by
 unfold mD;refine T.bd (jI _ _) fun r hr=>?_
 cases r with
 | inl _=>exact .mk (by simpa using hr)
 | inr _=>exact .mk (by simpa using hr)
theorem e20 (n a b:Int):xH n a b=some (decide (a≤n∧n≤b)):=by
 unfold xH;by_cases h:a≤n <;> simp [h]
theorem t94 (a b:Int):T (GB a b) fun _=>True:=by
 unfold GB vI;exact T.bd (Q:=fun _=>True) (T.bd (.mk trivial) fun _ (_:True)=>T.ie (fun _=>T.bd (.mk trivial) fun _ (_:True)=>T.ie (fun _=>.mk trivial) fun _=>.mk trivial) fun _=>.mk trivial) fun _ _=>.mk trivial
theorem t62 (l:List Int) (x:Int) (h:l.length≤1000000):T (tA l x) fun r=>0≤r.1∧r.1≤l.length:=by
 unfold tA;refine T.bd (Q:=fun e=>0≤e∧e≤(l.length:Int)) (T.lp (fun (s:Int×Int)=>(0≤s.1∧s.1≤(l.length:Int))∧0≤s.2∧s.2≤(l.length:Int)) (fun (s:Int×Int)=>(s.2 - s.1).toNat) (fun s hs=>?_) ⟨⟨Int.le_refl 0,by dsimp only;omega⟩,by dsimp only;omega,by dsimp only;omega⟩) fun e he=>?_
 ·unfold xP;refine T.ie (fun hl=>.ck (by omega) (.ck (by omega) (.ck (by omega) (.ck (by omega) (T.bd (T.at (by omega)) fun y _=>T.bd (t94 _ _) fun c _=>T.bd (Q:=fun (t:Int×Int)=>((0≤t.1∧t.1≤(l.length:Int))∧0≤t.2∧t.2≤(l.length:Int))∧(t.2 - t.1).toNat < (s.2 - s.1).toNat) (T.ie (fun _=>.ck (by omega) (.mk ⟨⟨⟨by dsimp only;omega,by dsimp only;omega⟩,hs.2⟩,by dsimp only;omega⟩)) fun _=>.mk ⟨⟨hs.1,by dsimp only;omega,by dsimp only;omega⟩,by dsimp only;omega⟩) fun t ht=>.mk ht))))) fun _=>.mk hs.1
 refine T.bd (Q:=fun (t:Int×Bool)=>0≤t.1∧t.1≤(l.length:Int)) (T.ie (fun hl=>.ck he.1 (T.bd (T.at (by omega)) fun y _=>T.ie (fun _=>.mk he) fun _=>T.bd (Q:=fun _=>True) ⟨_,rfl,trivial⟩ fun _ _=>T.ie (fun _=>T.bd (Q:=fun _=>True) ⟨_,rfl,trivial⟩ fun _ _=>.mk he) fun _=>.mk he)) fun _=>.mk he) fun t ht=>.mk ht
structure Si (k:Nat) (b:cV):Prop where
 dy:0≤b.day∧b.day≤99999
 ho:0≤b.house∧b.house≤40
 pl:b.volume.parts.length≤k
 pp:∀ p∈b.volume.parts,p.paragraphs.length≤k∧0≤p.day∧p.day≤99999
 er:b.errata.length≤k
 hi:b.hides.length≤12
 ci:b.cites.length≤k
 pa:b.motion.papers.length≤k
 mw:b.motion.words.length≤60
 ch:b.choice.length≤k
 dm:0≤b.division.members∧b.division.members≤40
 dr:0≤b.division.rule∧b.division.rule≤255
 dp:b.division.pairs.length≤k
 da:b.division.ayes.e0.length≤k∧b.division.ayes.e1.length≤k
 dn:b.division.noes.e0.length≤k∧b.division.noes.e1.length≤k
 rs:b.results.length≤k
 rv:∀ x∈b.results,x.toNat≤2
 cv:∀ c∈b.cites,c.length≤130
 vn:b.bound=true→1≤b.volume.number∧b.volume.number≤99
theorem Si.up {k:Nat} {b:cV} (h:Si k b):Si (k+1) b where
 dy:=h.dy
 ho:=h.ho
 pl:=Nat.le_succ_of_le h.pl
 pp p hp:=⟨Nat.le_succ_of_le (h.pp p hp).1,(h.pp p hp).2⟩
 er:=Nat.le_succ_of_le h.er
 hi:=h.hi
 ci:=Nat.le_succ_of_le h.ci
 pa:=Nat.le_succ_of_le h.pa
 mw:=h.mw
 ch:=Nat.le_succ_of_le h.ch
 dm:=h.dm
 dr:=h.dr
 dp:=Nat.le_succ_of_le h.dp
 da:=⟨Nat.le_succ_of_le h.da.1,Nat.le_succ_of_le h.da.2⟩
 dn:=⟨Nat.le_succ_of_le h.dn.1,Nat.le_succ_of_le h.dn.2⟩
 rs:=Nat.le_succ_of_le h.rs
 rv:=h.rv
 cv:=h.cv
 vn:=h.vn
def Ln (k:Nat) (r:aH⊕Int):Prop:=match r with | .inl b=>Si (k+1) b.state | .inr e=>e≠0
theorem Si.ps {k:Nat} {b:cV} (h:Si k b) (hk:k≤100):Ps b.volume:=⟨by have:=h.pl;omega,fun p hp=>by have:=(h.pp p hp).1;omega⟩
def Nm (n:Nat) (l:List Int):Prop:=l.length=n∧∀ x∈l,-999999999≤x∧x≤999999999
variable {k:Nat} {b:aH} {l:List Int} {text:aE}
theorem t30 (h:Si k b.state) (hl:Nm 1 l):T (QU b l text) (Ln k):=by
 have h1:=hl.1;unfold QU;refine T.bd (T.mem (by omega)) fun x hx=>T.bd (.ok (e20 _ _ _)) fun c hc=>T.bd (jI _ _) fun r hr=>?_
 cases r with
 | inl _ =>
  subst hc;simp only [decide_eq_true_eq] at hr;exact .mk (show Si (k+1) _ from { h.up with dy:=⟨Int.le_trans h.dy.1 hr.1,hr.2⟩ })
 | inr _=>exact .mk (by simp [Ln])
theorem t38 (h:Si k b.state) (hl:Nm 1 l):T (RH b l text) (Ln k):=by
 have h1:=hl.1;unfold RH;refine T.bd (jI _ _) fun r _=>?_
 cases r with
 | inr _=>exact .mk (by simp [Ln])
 | inl _ =>
  refine T.bd (T.mem (by omega)) fun x hx=>T.bd (.ok (e20 _ _ _)) fun c hc=>T.bd (jI _ _) fun r hr=>?_
  cases r with
  | inl _ =>
   subst hc;simp only [decide_eq_true_eq] at hr;exact .mk (show Si (k+1) _ from { h.up with ho:=⟨Int.le_trans (by decide) hr.1,hr.2⟩ })
  | inr _=>exact .mk (by simp [Ln])
theorem t32 (h:Si k b.state) (hk:k≤100) (hl:Nm 3 l):T (QY b l text) (Ln k):=by
 have h1:=hl.1;unfold QY;refine T.bd (jI _ _) fun r _=>?_
 cases r with
 | inr _=>exact .mk (by simp [Ln])
 | inl _ =>
  refine T.bd (T.mem (by omega)) fun x hx=>T.bd (T.mem (by omega)) fun y hy=>T.bd (T.mem (by omega)) fun z hz=>T.bd (t53 _ (h.ps hk)) fun e he=>T.bd (AO _) fun r hr=>?_
  cases r with
  | inl _=>exact .mk (show Si (k+1) _ from { h.up with pl:=h.up.pl,vn:=fun _=>(he hr).n })
  | inr _=>exact .mk hr
theorem t61 (h:Si k b.state) (d:aV) (hd:(0≤d.members∧d.members≤40)∧(0≤d.rule∧d.rule≤255)∧d.pairs.length≤k+1∧(d.ayes.e0.length≤k+1∧d.ayes.e1.length≤k+1)∧d.noes.e0.length≤k+1∧d.noes.e1.length≤k+1):T (vP b d) (Ln k):=by
 unfold vP;have h0:T (GA d) fun _=>True:=by
  unfold GA;exact T.bd (YM d hd.2.1) fun _ _=>T.ie (fun _=>.mk trivial) fun _=>.mk trivial
 refine T.bd h0 fun e _=>T.bd (AO _) fun r hr=>?_
 cases r with
 | inl _=>exact .mk (show Si (k+1) _ from { h.up with dm:=hd.1,dr:=hd.2.1,dp:=hd.2.2.1,da:=hd.2.2.2.1,dn:=hd.2.2.2.2 })
 | inr _=>exact .mk hr
theorem t55 (h:Si k b.state) (hk:k≤100) (x:aK):T (sV b x) (Ln k):=by
 unfold sV;refine T.bd (Q:=fun t=>match t with | .inl _=>True | .inr z=>Ln k z) (T.ie (fun _=>T.bd (jI _ _) fun r _=>?_) fun _=>T.bd (jI _ _) fun r _=>?_) fun t ht=>?_
 ·cases r with
  | inl _=>exact .mk trivial
  | inr _=>exact .mk (by simp [Ln])
 ·cases r with
  | inl _=>exact .mk trivial
  | inr _=>exact .mk (by simp [Ln])
 cases t with
 | inr z=>exact .mk ht
 | inl _ =>
  have he:=h.er;have h0:T (BK b.state.errata { x with day:=b.state.day }) fun r=>r.length≤k+1:=by
   unfold BK rA;exact T.bd (Q:=fun r=>r.length≤k) (.ck (by simp;omega) (.mk (by simpa using he))) fun r hr=>.ck (by simp;omega) (.mk (by simp;omega))
  refine T.bd h0 fun es hes=>T.bd (t84 _ _ _ (h.ps hk)) fun r _=>T.bd (AO _) fun r hr=>?_
  cases r with
  | inl _=>exact .mk (show Si (k+1) _ from { h.up with er:=hes })
  | inr _=>exact .mk hr
theorem t33 (h:Si k b.state) (hk:k≤100) (hl:Nm 2 l):T (RA b l text) (Ln k):=by
 have h1:=hl.1;unfold RA;refine T.bd (T.mem (by omega)) fun x hx=>T.bd (T.mem (by omega)) fun y hy=>T.bd (t55 h hk _) fun r hr=>?_;cases r <;> exact .mk hr
theorem t34 (h:Si k b.state) (hk:k≤100) (hl:Nm 2 l):T (RB b l text) (Ln k):=by
 have h1:=hl.1;unfold RB;refine T.bd (T.mem (by omega)) fun x hx=>T.bd (T.mem (by omega)) fun y hy=>T.bd (t55 h hk _) fun r hr=>?_;cases r <;> exact .mk hr
theorem t35 (h:Si k b.state) (hk:k≤100) (hl:Nm 3 l):T (RD b l text) (Ln k):=by
 have h1:=hl.1;unfold RD;refine T.bd (T.mem (by omega)) fun x hx=>T.bd (T.mem (by omega)) fun y hy=>T.bd (T.mem (by omega)) fun z hz=>T.bd (t55 h hk _) fun r hr=>?_;cases r <;> exact .mk hr
end T12
set_option maxHeartbeats 4000000
namespace T12
open Go Go.Proofs Pk
variable {k:Nat} {b:aH} {l:List Int} {text:aE}
theorem t36 (h:Si k b.state) (hk:k≤100) (hl:Nm 2 l):T (RF b l text) (Ln k):=by
 have h1:=hl.1;unfold RF;refine T.bd (jI _ _) fun r _=>?_
 cases r with
 | inr _=>exact .mk (by simp [Ln])
 | inl _ =>
  refine T.bd (T.mem (by omega)) fun x hx=>T.bd (.ok (e20 _ _ _)) fun c hc=>T.bd (jI _ _) fun r hr=>?_
  cases r with
  | inr _=>exact .mk (by simp [Ln])
  | inl _ =>
   subst hc;simp only [decide_eq_true_eq] at hr;refine T.bd (T.mem (by omega)) fun y hy=>.ck hr ?_;have h2:=hl.2 y hy;have h3:=h.dy;refine T.bd (t56 _ _ _ _ _ (h.ps hk) (fun p hp=>(h.pp p hp).2) (by omega) (by omega)) fun q hq=>T.bd (AO _) fun r hr=>?_
   cases r with
   | inr _=>exact .mk hr
   | inl _ =>
    have h4:=h.ci;have h0:T (BM b.state.cites q.1) fun r=>r.length≤k+1∧∀ c∈r,c.length≤130:=by
     unfold BM FR
     exact T.bd (Q:=fun (r:List aE)=>r.length≤k∧∀ c∈r,c.length≤130) (.ck (by simp;omega) (.mk ⟨by simpa using h4,h.cv⟩)) fun r hr=>.ck (by omega) (.mk ⟨by simp;omega,fun c hc=>by
      rcases List.mem_append.1 hc with h5 | h5
      ·exact hr.2 c h5
      simp only [List.mem_singleton] at h5;subst h5;exact hq⟩)
    exact T.bd h0 fun c hc=>.mk (show Si (k+1) _ from { h.up with ci:=hc.1,cv:=hc.2 })
theorem t37 (h:Si k b.state) (hk:k≤100) (hl:Nm 3 l):T (RG b l text) (Ln k):=by
 have h1:=hl.1;unfold RG;refine T.bd (Q:=fun t=>match t with | .inl _=>True | .inr z=>Ln k z) (T.bd (T.mem (by omega)) fun x hx=>T.bd (.ok (e20 _ _ _)) fun c hc=>T.ie (fun _=>T.bd (T.mem (by omega)) fun y hy=>T.bd (.ok (e20 _ _ _)) fun c hc=>T.bd (jI _ _) fun r _=>?_) fun _=>T.bd (jI _ _) fun r _=>?_) fun t ht=>?_
 ·cases r with
  | inl _=>exact .mk trivial
  | inr _=>exact .mk (by simp [Ln])
 ·cases r with
  | inl _=>exact .mk trivial
  | inr _=>exact .mk (by simp [Ln])
 cases t with
 | inr z=>exact .mk ht
 | inl _ =>
  refine T.bd (jI _ _) fun r hr=>?_
  cases r with
  | inr _=>exact .mk (by simp [Ln])
  | inl _ =>
   simp only [decide_eq_true_eq] at hr;have h0:T (VZ b) fun v=>Ps v:=by
    unfold VZ VV;exact T.ie (fun _=>.mk (h.ps hk)) fun _=>T.bd (.mk (P:=Ps) ⟨(h.ps hk).1,(h.ps hk).2⟩) fun v hv=>.mk hv
   refine T.bd h0 fun v hv=>T.bd (T.mem (by omega)) fun x hx=>T.bd (t58 v _ x _ hv) fun q _=>T.bd (AO _) fun r hr2=>?_
   cases r with
   | inr _=>exact .mk hr2
   | inl _ =>
    have h2:∀ z,T (FS b.state.hides z) fun r=>r.length≤12:=fun z=>by
     unfold FS KY;exact T.bd (Q:=fun r=>r.length=b.state.hides.length) (.ck (by simp;omega) (.mk (by simp))) fun r hr=>.ck (by simp;omega) (.mk (by simp;omega))
    exact T.bd (T.at (by omega)) fun y _=>T.bd (T.at (by omega)) fun z _=>T.bd (h2 _) fun r hr=>.mk (show Si (k+1) _ from { h.up with hi:=hr })
theorem t39 (h:Si k b.state) (hl:Nm 4 l):T (RL b l text) (Ln k):=by
 have h1:=hl.1;unfold RL;refine T.bd (jI _ _) fun r _=>?_
 cases r with
 | inr _=>exact .mk (by simp [Ln])
 | inl _ =>
  refine T.bd (Q:=fun t=>match t with | .inl _=>(∀ x,l[0]?=some x→0≤x∧x≤255)∧∀ x,l[3]?=some x→0≤x∧x≤255 | .inr z=>Ln k z) (T.bd (T.at (by omega)) fun x hx=>T.bd (.ok (e20 _ _ _)) fun c hc=>T.ie (fun hct=>T.bd (T.at (by omega)) fun y hy=>T.bd (.ok (e20 _ _ _)) fun d hd=>T.bd (jI _ _) fun r hr=>?_) fun _=>T.bd (jI _ _) fun r hr=>?_) fun t ht=>?_
  ·cases r with
   | inl _ =>
    subst hc hd;simp only [decide_eq_true_eq] at hct hr;exact .mk ⟨fun z hz=>by rw [hx] at hz;cases hz;exact hct,fun z hz=>by rw [hy] at hz;cases hz;exact hr⟩
   | inr _=>exact .mk (by simp [Ln])
  ·cases r with
   | inl _=>cases hr
   | inr _=>exact .mk (by simp [Ln])
  cases t with
  | inr z=>exact .mk ht
  | inl _ =>
   refine T.bd (T.at (by omega)) fun x hx=>.ck (ht.1 x hx) (T.bd (T.at (by omega)) fun y _=>T.bd (T.at (by omega)) fun z _=>T.bd (T.at (by omega)) fun w hw=>.ck (ht.2 w hw) (T.bd (t61 h _ ⟨h.ho,ht.1 x hx,Nat.zero_le _,⟨Nat.zero_le _,Nat.zero_le _⟩,Nat.zero_le _,Nat.zero_le _⟩) fun r hr=>?_));cases r <;> exact .mk hr
theorem t41 (h:Si k b.state) (hk:k≤100) (hl:Nm 2 l):T (RN b l text) (Ln k):=by
 have h1:=hl.1;unfold RN;refine T.bd (jI _ _) fun r _=>?_
 cases r with
 | inr _=>exact .mk (by simp [Ln])
 | inl _ =>
  have h2:=h.dp;have h0:∀ z,T (GC b.state.division.pairs z) fun r=>r.length≤k+1:=fun z=>by
   unfold GC LG;exact T.bd (Q:=fun r=>r.length≤k) (.ck (by simp;omega) (.mk (by simpa using h2))) fun r hr=>.ck (by simp;omega) (.mk (by simp;omega))
  refine T.bd (T.at (by omega)) fun x _=>T.bd (T.at (by omega)) fun y _=>T.bd (h0 _) fun ps hps=>T.bd (t61 h _ ⟨h.dm,h.dr,hps,h.up.da,h.up.dn⟩) fun r hr=>?_;cases r <;> exact .mk hr
theorem t42 (h:Si k b.state) (hk:k≤100):T (RP b l text) (Ln k):=by
 unfold RP;refine T.bd (jI _ _) fun r _=>?_
 cases r with
 | inr _=>exact .mk (by simp [Ln])
 | inl _ =>
  refine T.bd (t66 _ h.dr) fun o ho=>T.bd (AO _) fun r hr=>?_
  cases r with
  | inr _=>exact .mk hr
  | inl _ =>
   refine T.bd (jI _ _) fun r hr=>?_
   cases r with
   | inr _=>exact .mk (by simp [Ln])
   | inl _ =>
    simp only [decide_eq_true_eq] at hr;have h2:=h.rs;refine T.bd (T.mem (by omega)) fun x hxm=>?_;have hx:=x.toNat_lt;have h0:T (GS b.state.results (x.toNat:Int)) fun r=>r.length≤k+1∧∀ y∈r,y.toNat≤2:=by
     unfold GS LK
     exact T.bd (Q:=fun (r:List UInt8)=>r.length≤k∧∀ y∈r,y.toNat≤2) (.ck (by simp;omega) (.mk ⟨by simpa using h2,h.rv⟩)) fun r hr=>.ck (by omega) (.ck (by omega) (.mk ⟨by simp;omega,fun y hy=>by
      rcases List.mem_append.1 hy with h5 | h5
      ·exact hr.2 y h5
      simp only [List.mem_singleton] at h5;subst h5;have:=ho.2 x hxm;simp;omega⟩))
    exact T.bd h0 fun rs hrs=>.mk (show Si (k+1) _ from { h.up with rs:=hrs.1,rv:=hrs.2,dm:=⟨(by decide:(0:Int)≤0),(by decide:(0:Int)≤40)⟩,dr:=⟨(by decide:(0:Int)≤0),(by decide:(0:Int)≤255)⟩,dp:=Nat.zero_le _,da:=⟨Nat.zero_le _,Nat.zero_le _⟩,dn:=⟨Nat.zero_le _,Nat.zero_le _⟩ })
theorem t68 (hs:text.length≤1073741824):T (BS text) fun _=>True:=by
 unfold BS KQ;exact T.bd (Q:=fun _=>True) (.ck hs (.mk trivial)) fun _ _=>.mk trivial
theorem t43 (h:Si k b.state) (hs:text.length≤1073741824):T (RQ b l text) (Ln k):=by
 unfold RQ;refine T.bd (jI _ _) fun r _=>?_
 cases r with
 | inr _=>exact .mk (by simp [Ln])
 | inl _ =>
  refine T.bd (t68 hs) fun ws _=>T.bd (t69 _) fun e he=>T.bd (AO _) fun r hr=>?_
  cases r with
  | inr _=>exact .mk hr
  | inl _=>exact .mk (show Si (k+1) _ from { h.up with pa:=Nat.zero_le _,mw:=(he hr).wl })
theorem t44 (h:Si k b.state) (hk:k≤100) (hl:Nm 4 l) (hs:text.length≤1073741824):T (RR b l text) (Ln k):=by
 have h1:=hl.1;unfold RR;refine T.bd (jI _ _) fun r _=>?_
 cases r with
 | inr _=>exact .mk (by simp [Ln])
 | inl _ =>
  have h2:=h.pa;have h0:∀ z,T (GY b.state.motion.papers z) fun r=>r.length≤k+1:=fun z=>by
   unfold GY LT;exact T.bd (Q:=fun r=>r.length≤k) (.ck (by simp;omega) (.mk (by simpa using h2))) fun r hr=>.ck (by simp;omega) (.mk (by simp;omega))
  refine T.bd (T.at (by omega)) fun _ _=>T.bd (T.at (by omega)) fun _ _=>T.bd (T.at (by omega)) fun _ _=>T.bd (T.at (by omega)) fun _ _=>T.bd (t68 hs) fun ws _=>T.bd (h0 _) fun ps hps=>T.bd (t69 _) fun e _=>T.bd (AO _) fun r hr=>?_
  cases r with
  | inr _=>exact .mk hr
  | inl _=>exact .mk (show Si (k+1) _ from { h.up with pa:=hps })
theorem t64 {l:List Int} (h:l.length≤1000):T (rC l) fun r=>r=l:=by
 unfold rC;exact .ck (by simp;omega) (.mk (by simp))
theorem AP (l:List Int) (x:Int) (i:Nat) (h:i≤l.length):(l.take i++[x]++l.drop i).length=l.length+1:=by simp;omega
theorem t45 (h:Si k b.state) (hk:k≤100) (hl:Nm 1 l):T (RS b l text) (Ln k):=by
 have h1:=hl.1;unfold RS;refine T.bd (jI _ _) fun r _=>?_
 cases r with
 | inr _=>exact .mk (by simp [Ln])
 | inl _ =>
  have h2:=h.ch;refine T.bd (T.at (by omega)) fun x _=>T.bd (t62 _ x (by omega)) fun q hq=>T.bd (jI _ _) fun r _=>?_
  cases r with
  | inr _=>exact .mk (by simp [Ln])
  | inl _ =>
   refine T.bd (t64 (by omega)) fun c hc=>.ck hq.1 (.ck (by subst hc;omega) (.ck (by subst hc;simp;omega) (T.bd (t71 _ _) fun w _=>T.bd (AO _) fun r hr=>?_)))
   cases r with
   | inr _=>exact .mk hr
   | inl _=>exact .mk (show Si (k+1) _ from { h.up with ch:=by subst hc;show (_:List Int).length≤_;rw [AP _ _ _ (by omega)];omega })
end T12
set_option maxHeartbeats 4000000
namespace T12
open Go Go.Proofs Pk
variable {k:Nat} {b:aH} {l:List Int} {text:aE}
theorem MY {ws:List aE} (h:AN ws):(Lib.join ws [32]).length≤21*ws.length:=by
 have hl:∀ {r:List aE},AN r→Lib.lens r≤20*r.length:=fun {r}=>by
  induction r with
  | nil=>intro _;exact Nat.le_refl _
  | cons x r ih =>
   intro h;have h1:=ih fun y hy=>h y (List.mem_cons_of_mem _ hy);have h2:=h x (List.mem_cons_self ..);simp only [Lib.lens,List.map_cons,List.sum_cons,List.length_cons] at h1 ⊢;omega
 cases ws with
 | nil=>exact Nat.le_refl _
 | cons x r =>
  rw [Lib.join_cons,List.length_append,Lib.joinTail_length];have h1:=hl (r:=r) fun y hy=>h y (List.mem_cons_of_mem _ hy);have h2:=h x (List.mem_cons_self ..);simp only [List.length_cons,List.length_nil] at *;omega
theorem t31 (h:Si k b.state) (hk:k≤100) (hl:1≤l.length):T (KV b l text) (Ln k):=by
 unfold KV;refine T.bd (jI _ _) fun r _=>?_
 cases r with
 | inr _=>exact .mk (by simp [Ln])
 | inl _ =>
  have hpl:=h.pl;have h2:T (FD b.state.volume.parts) fun r=>r=b.state.volume.parts:=by
   unfold FD;exact .ck (by simp;omega) (.mk (by simp))
  refine T.bd (T.at (by omega)) fun x _=>T.bd h2 fun ps hps=>?_;have hps1:ps.length≤k:=by rw [hps];exact hpl
  have hps2:∀ p∈ps,p.paragraphs.length≤k∧0≤p.day∧p.day≤99999:=by rw [hps];exact h.pp
  refine T.bd (Q:=fun t=>t=true→1≤ps.length) (T.ie (fun h0=>T.bd (T.at (by omega)) fun _ _=>.mk fun _=>by omega) fun _=>.mk (by simp)) fun t ht=>T.bd (Q:=fun (qs:List eB)=>qs.length≤k+1∧∀ p∈qs,p.paragraphs.length≤k+1∧0≤p.day∧p.day≤99999) (T.ie (fun htt=>?_) fun _=>.ck (by simp;omega) (.mk ⟨by simp;omega,fun p hp=>?_⟩)) fun qs hqs=>?_
  ·have h1:=ht htt;refine .ck (by omega) (T.bd (T.mem (by omega)) fun y hy=>?_);have hy2:=hps2 y hy;have h3:T (FE y.paragraphs ⟨x,text⟩) fun r=>r.length≤k+1:=by
    unfold FE KS;exact T.bd (Q:=fun r=>r.length≤k) (.ck (by simp;omega) (.mk (by simpa using hy2.1))) fun r hr=>.ck (by simp;omega) (.mk (by simp;omega))
   exact T.bd h3 fun r hr=>.mk ⟨by rw [List.length_set];omega,yR (fun p hp=>⟨Nat.le_succ_of_le (hps2 p hp).1,(hps2 p hp).2⟩) ⟨hr,hy2.2⟩⟩
  ·rcases List.mem_append.1 hp with h1 | h1
   ·exact ⟨Nat.le_succ_of_le (hps2 p h1).1,(hps2 p h1).2⟩
   simp only [List.mem_singleton] at h1;subst h1;exact ⟨by simp,h.dy⟩
  refine T.bd (Q:=fun v=>Ps v) (.mk ⟨by have:=hqs.1;dsimp only;omega,fun p hp=>by have:=(hqs.2 p hp).1;omega⟩) fun v hv=>T.bd (t53 _ hv) fun e _=>T.bd (AO _) fun r hr=>?_
  cases r with
  | inr _=>exact .mk hr
  | inl _=>exact .mk (show Si (k+1) _ from { h.up with pl:=hqs.1,pp:=hqs.2 })
theorem t46 (h:Si k b.state) (hk:k≤100) (hl:Nm 1 l):T (RT b l text) (Ln k):=by
 unfold RT;refine T.bd (Q:=fun t=>match t with | .inl _=>True | .inr z=>Ln k z) (T.ie (fun _=>T.bd (jI _ _) fun r _=>?_) fun _=>T.bd (jI _ _) fun r _=>?_) fun t ht=>?_
 ·cases r with
  | inl _=>exact .mk trivial
  | inr _=>exact .mk (by simp [Ln])
 ·cases r with
  | inl _=>exact .mk trivial
  | inr _=>exact .mk (by simp [Ln])
 cases t with
 | inr z=>exact .mk ht
 | inl _ =>
  refine T.bd (t71 _ _) fun q hq=>T.bd (AO _) fun r hr=>?_
  cases r with
  | inr _=>exact .mk hr
  | inl _ =>
   have h0:T (EV q.1 [32]) fun _=>True:=by
    have h1:=MY hq.1.2.1;have h2:=hq.2.1;unfold EV;exact .ck ⟨by omega,by omega⟩ (.mk trivial)
   refine T.bd h0 fun s _=>T.bd (t31 h hk (by have:=hl.1;omega)) fun r hr=>?_
   cases r with
   | inr _=>exact .mk hr
   | inl y=>exact .mk (show Si (k+1) _ from { (show Si (k+1) y.state from hr) with pa:=Nat.zero_le _,mw:=Nat.zero_le _,ch:=Nat.zero_le _ })
theorem t40 (h:Si k b.state) (hk:k≤100) (hl:Nm 3 l):T (RM b l text) (Ln k):=by
 have h1:=hl.1;have hm:=h.dm;have hda:=h.da;have hdn:=h.dn;unfold RM;refine T.bd (jI _ _) fun r _=>?_
 cases r with
 | inr _=>exact .mk (by simp [Ln])
 | inl _ =>
  refine T.bd (Q:=fun t=>match t with | .inl _=>∀ x,l[1]?=some x→x=0∨x=1 | .inr z=>Ln k z) (T.bd (T.at (by omega)) fun x _=>T.bd (.ok (e20 _ _ _)) fun c _=>T.ie (fun _=>T.bd (T.at (by omega)) fun y hy=>T.bd (.ok (e20 _ _ _)) fun d hd=>T.ie (fun hdt=>T.bd (T.at (by omega)) fun z _=>.ck (by omega) (T.bd (.ok (e20 _ _ _)) fun e _=>T.bd (jI _ _) fun r _=>?_)) fun _=>T.bd (jI _ _) fun r hr=>?_) fun _=>T.bd (jI _ _) fun r hr=>?_) fun t ht=>?_
  ·cases r with
   | inl _ =>
    subst hd;simp only [decide_eq_true_eq] at hdt;exact .mk fun w hw=>by rw [hy] at hw;cases hw;omega
   | inr _=>exact .mk (by simp [Ln])
  ·cases r with
   | inl _=>cases hr
   | inr _=>exact .mk (by simp [Ln])
  ·cases r with
   | inl _=>cases hr
   | inr _=>exact .mk (by simp [Ln])
  cases t with
  | inr z=>exact .mk ht
  | inl _ =>
   have key:∀ (ls:List Int) (x:Int) (f:List Int→aH),ls.length≤k→(∀ q:List Int,q.length≤k+1→Si (k+1) (f q).state)→∀ (q:Int×Bool),0≤q.1∧q.1≤ls.length→T ((rC ls).bind fun r=>cB (0≤q.1) <| cB (q.1.toNat≤r.length) <| cB (r.length+([x]:List Int).length≤1073741824) <| some (.inl (f (r.take q.1.toNat++([x]:List Int)++r.drop q.1.toNat)))) (Ln k):=fun ls x f hls hf q hq=>by
    refine T.bd (t64 (by omega)) fun r hr=>?_;subst hr;exact .ck hq.1 (.ck (by omega) (.ck (by simp;omega) (.mk (hf _ (by rw [AP _ _ _ (by omega)];omega)))))
   refine T.bd (T.at (by omega)) fun y hy=>T.ie (fun _=>T.bd (T.at (by omega)) fun w _=>T.ie (fun _=>T.bd (T.at (by omega)) fun z _=>T.bd (t62 _ _ (by omega)) fun q hq=>T.bd (jI _ _) fun r _=>?_) fun _=>T.bd (T.at (by omega)) fun z _=>T.bd (t62 _ _ (by omega)) fun q hq=>T.bd (jI _ _) fun r _=>?_) fun _=>T.ie (fun _=>T.bd (T.at (by omega)) fun w _=>T.ie (fun _=>T.bd (T.at (by omega)) fun z _=>T.bd (t62 _ _ (by omega)) fun q hq=>T.bd (jI _ _) fun r _=>?_) fun _=>T.bd (T.at (by omega)) fun z _=>T.bd (t62 _ _ (by omega)) fun q hq=>T.bd (jI _ _) fun r _=>?_) fun _=>by have:=ht y hy;omega
   ·cases r with
    | inr _=>exact .mk (by simp [Ln])
    | inl _=>exact key _ z (fun q=>⟨{ b.state with division:={ b.state.division with noes:=⟨q,b.state.division.noes.e1⟩ } }⟩) hdn.1 (fun q hq=>{ h.up with dn:=⟨hq,h.up.dn.2⟩ }) q hq
   ·cases r with
    | inr _=>exact .mk (by simp [Ln])
    | inl _=>exact key _ z (fun q=>⟨{ b.state with division:={ b.state.division with ayes:=⟨q,b.state.division.ayes.e1⟩ } }⟩) hda.1 (fun q hq=>{ h.up with da:=⟨hq,h.up.da.2⟩ }) q hq
   ·cases r with
    | inr _=>exact .mk (by simp [Ln])
    | inl _=>exact key _ z (fun q=>⟨{ b.state with division:={ b.state.division with noes:=⟨b.state.division.noes.e0,q⟩ } }⟩) hdn.2 (fun q hq=>{ h.up with dn:=⟨h.up.dn.1,hq⟩ }) q hq
   cases r with
   | inr _=>exact .mk (by simp [Ln])
   | inl _=>exact key _ z (fun q=>⟨{ b.state with division:={ b.state.division with ayes:=⟨b.state.division.ayes.e0,q⟩ } }⟩) hda.2 (fun q hq=>{ h.up with da:=⟨h.up.da.1,hq⟩ }) q hq
end T12
set_option maxHeartbeats 4000000
namespace T12
open Go Go.Proofs Pk
variable {k:Nat} {b:aH} {l:List Int} {text:aE}
theorem MZ {s:aE} (h:(jM s).2=false) : -9223372036854775808≤(jM s).1∧(jM s).1≤9223372036854775807:=by
 unfold jM at h ⊢
 split at h
 ·rename_i v hv;exact Lib.atoiAll_bounds hv
 ·cases h
 cases h
theorem t28 (s:aE) (hs:s.length≤1073741824):T (WG s) fun r=>match r with | .inl n=>(-999999999≤n∧n≤999999999)∧Lib.itoa n=s | .inr _=>True:=by
 unfold WG zV zJ;refine T.bd (.ck hs (.mk (P:=fun r=>r=jM s) rfl)) fun q hq=>T.bd (Q:=fun t=>match t with | .inl _=>(-999999999≤q.1∧q.1≤999999999)∧Lib.itoa q.1=s | .inr z=>∃ u,z=.inr u) (T.ie (fun _=>T.bd (jI _ _) fun r hr=>?_) fun hf=>?_) fun t ht=>?_
 ·cases r with
  | inl _=>cases hr
  | inr _=>exact .mk ⟨_,rfl⟩
 ·have hb:=MZ (s:=s) (by subst hq;simpa using hf);rw [← hq] at hb;unfold zW zK;refine T.bd (.ck hb (.mk (P:=fun w=>w=Lib.itoa q.1) rfl)) fun w hw=>T.ie (fun hws=>T.bd (.ok (e20 _ _ _)) fun c hc=>T.bd (jI _ _) fun r hr=>?_) fun _=>T.bd (jI _ _) fun r hr=>?_
  ·cases r with
   | inl _=>subst hc;simp only [decide_eq_true_eq] at hr;exact .mk ⟨hr,hw▸hws⟩
   | inr _=>exact .mk ⟨_,rfl⟩
  cases r with
  | inl _=>cases hr
  | inr _=>exact .mk ⟨_,rfl⟩
 cases t with
 | inl _=>exact .mk ht
 | inr z=>obtain ⟨u,rfl⟩:=ht;exact .mk trivial
theorem TD (s t:aE):(Lib.cut s t).2.1.length≤s.length∧(Lib.cut s t).1.length≤s.length:=by
 unfold Lib.cut;split
 ·simp;omega
 simp
theorem t25 (s t:aE) (h:s.length≤1073741824):T (tX s t) fun r=>r.2.1.length≤s.length∧r.1.length≤s.length:=by
 unfold tX;exact .ck h (.mk (TD s t))
def Wok (w:cQ):Prop:=(0≤w.many∧w.many≤4)∧∀ (k:Nat) (b:aH) (l:List Int) (text:aE),Si k b.state→k≤100→Nm w.many.toNat l→text.length≤1000000→T (OF w.do_ b l text) (Ln k)
theorem fP {t:List (aE×cQ)} {s:aE} {w:cQ} (h:∀ k x,eK t k=some x→Wok x) (hw:Wok w):∀ k x,eK (put t s w) k=some x→Wok x:=fun k x hx=>by
 rw [kG] at hx
 split at hx
 ·cases hx;exact hw
 exact h k x hx
theorem t26:T WF fun t=>∀ k x,eK t k=some x→Wok x:=by
 unfold WF;refine .mk ?_;refine fP (fP (fP (fP (fP (fP (fP (fP (fP (fP (fP (fP (fP (fP (fP (fP (fP (fun k x h=>by cases h) ?_) ?_) ?_) ?_) ?_) ?_) ?_) ?_) ?_) ?_) ?_) ?_) ?_) ?_) ?_) ?_) ?_
 all_goals refine ⟨⟨by decide,by decide⟩,fun k b l text h hk hl ht=>?_⟩
 ·exact t30 (text:=text) h hl
 ·exact t31 (text:=text) h hk (by have:=hl.1;simp at this;omega)
 ·exact t32 (text:=text) h hk hl
 ·exact t33 (text:=text) h hk hl
 ·exact t34 (text:=text) h hk hl
 ·exact t35 (text:=text) h hk hl
 ·exact t36 (text:=text) h hk hl
 ·exact t37 (text:=text) h hk hl
 ·exact t38 (text:=text) h hl
 ·exact t39 (text:=text) h hl
 ·exact t40 (text:=text) h hk hl
 ·exact t41 (text:=text) h hk hl
 ·exact t42 (l:=l) (text:=text) h hk
 ·exact t43 (l:=l) (text:=text) h (by omega)
 ·exact t44 (text:=text) h hk hl (by omega)
 ·exact t45 (text:=text) h hk hl
 exact t46 (text:=text) h hk hl
theorem t21 (h:Si k b.state) (hk:k≤100) (ht:text.length≤1000000):T (LU b text) fun r=>Si (k+1) r.1.state∧(r.2≠0→r.1=b):=by
 unfold LU;refine T.bd (t25 text [32] (by omega)) fun q hq=>T.bd t26 fun ws hws=>T.bd (jI _ _) fun r hr=>?_
 cases r with
 | inr _=>exact .mk ⟨h.up,fun _=>rfl⟩
 | inl _ =>
  obtain ⟨x,hx⟩:=Option.isSome_iff_exists.1 hr;have hw:=hws _ x hx;have hwm:=hw.1;have hxd:(eK ws q.1).getD ⟨0,false,none⟩=x:=by rw [hx];rfl
  refine T.bd (Q:=fun e=>match e with | .inl r=>r.1.length≤1000000∧Nm x.many.toNat r.2.2 | .inr z=>z=(b,4)) (T.ix x.many.toNat (·.1) (fun (s:Nat×aE×Bool×List Int)=>s.2.1.length≤1000000∧s.2.2.2.length=s.1∧∀ y∈s.2.2.2,-999999999≤y∧y≤999999999) (fun s hs hi=>?_) ⟨by dsimp only;omega,rfl,by simp⟩ (Nat.zero_le _)) fun e he=>?_
  ·obtain ⟨hs1,hs2,hs3⟩:=hs;unfold AI;rw [hxd];refine T.ie (fun hl=>T.bd (jI _ _) fun r _=>?_) fun hl=>.mk ⟨hs1,by dsimp only;omega,hs3⟩
   cases r with
   | inr _=>exact .mk rfl
   | inl _ =>
    refine T.bd (t25 _ _ (by omega)) fun c hc=>T.bd (t28 c.1 (by omega)) fun r hr=>?_
    cases r with
    | inr _=>exact .mk rfl
    | inl y =>
     refine .ck (by omega) (.ck (by omega) (.mk ⟨⟨by dsimp only;omega,by simp [hs2],fun z hz=>?_⟩,rfl,by omega⟩));rcases List.mem_append.1 hz with h1 | h1
     ·exact hs3 z h1
     simp only [List.mem_singleton] at h1;subst h1;exact hr.1
  cases e with
  | inr z=>simp only at he;subst he;exact .mk ⟨h.up,fun _=>rfl⟩
  | inl r =>
   refine T.bd (jI _ _) fun u _=>?_
   cases u with
   | inr _=>exact .mk ⟨h.up,fun _=>rfl⟩
   | inl _ =>
    rw [hxd];refine T.bd (hw.2 k b r.2.2 r.1 h hk he.2 he.1) fun g hg=>?_
    cases g with
    | inl y=>exact .mk ⟨hg,fun h0=>absurd rfl h0⟩
    | inr e=>exact .mk ⟨h.up,fun _=>rfl⟩
def s0:aH:=⟨⟨0,0,⟨0,0,0,0,[]⟩,false,[],[],[],⟨[],[]⟩,false,[],⟨0,⟨[],[]⟩,⟨[],[]⟩,[],[],0,0,0,0⟩,false,[]⟩⟩
theorem ZC:Si 0 s0.state:=⟨⟨by decide,by decide⟩,⟨by decide,by decide⟩,by decide,(fun p hp=>absurd hp (List.not_mem_nil)),by decide,by decide,by decide,by decide,by decide,by decide,⟨by decide,by decide⟩,⟨by decide,by decide⟩,by decide,⟨by decide,by decide⟩,⟨by decide,by decide⟩,by decide,(fun x hx=>absurd hx (List.not_mem_nil)),(fun x hx=>absurd hx (List.not_mem_nil)),fun h=>by cases h⟩
end T12
set_option maxHeartbeats 4000000
namespace T12
open Go Go.Proofs Pk
noncomputable def stp (r:aH×List Int) (x:aE):aH×List Int:=let q:=(LU r.1 x).getD (r.1,0);(q.1,r.2++[q.2])
noncomputable def iC (ls:List aE):aH×List Int:=ls.foldl stp (s0,[])
theorem sC (ls:List aE) (x:aE):iC (ls++[x])=stp (iC ls) x:=by unfold iC;rw [List.foldl_append];rfl
def AQ (ls:List aE):Prop:=ls.length≤100∧∀ s∈ls,s.length≤1000000
theorem AQ.init {ls:List aE} {x:aE} (h:AQ (ls++[x])):AQ ls∧ls.length≤99∧x.length≤1000000:=by
 have h1:=h.1;simp at h1;exact ⟨⟨by omega,fun s hs=>h.2 s (List.mem_append.2 (.inl hs))⟩,by omega,h.2 x (List.mem_append.2 (.inr (List.mem_singleton.2 rfl)))⟩
theorem AQ.take {ls:List aE} (h:AQ ls) (n:Nat):AQ (ls.take n):=⟨by rw [List.length_take];have:=h.1;omega,fun s hs=>h.2 s (List.mem_of_mem_take hs)⟩
theorem wG {α:Type} {P:List α→Prop} (h0:P []) (h1:∀ l x,P l→P (l++[x])) (l:List α):P l:=by
 rw [← List.reverse_reverse l]
 induction l.reverse with
 | nil=>exact h0
 | cons x r ih=>rw [List.reverse_cons];exact h1 _ _ ih
theorem tQ (ls:List aE):AQ ls→Si ls.length (iC ls).1.state∧(iC ls).2.length=ls.length:=by
 refine wG (P:=fun ls=>AQ ls→Si ls.length (iC ls).1.state∧(iC ls).2.length=ls.length) (fun _=>⟨ZC,rfl⟩) (fun l x ih h=>?_) ls;obtain ⟨h1,h2,h3⟩:=h.init;obtain ⟨h4,h5⟩:=ih h1;obtain ⟨q,h6,h7⟩:=t21 h4 (by omega) h3;rw [sC,List.length_append];unfold stp;rw [h6];exact ⟨h7.1,by simp [h5]⟩
theorem AR {ls:List aE} {x:aE} (h:AQ (ls++[x])):∃ q,LU (iC ls).1 x=some q∧(q.2≠0→q.1=(iC ls).1)∧iC (ls++[x])=(q.1,(iC ls).2++[q.2]):=by
 obtain ⟨h1,h2,h3⟩:=h.init;obtain ⟨q,h6,h7⟩:=t21 (tQ ls h1).1 (by omega) h3;refine ⟨q,h6,h7.2,?_⟩;rw [sC];unfold stp;rw [h6];rfl
theorem e14 {ls:List aE} (h:AQ ls):WH ls=some (iC ls):=by
 obtain ⟨r,h1,h2⟩:T (bG (vX ls) (0,s0,[])) fun e=>e=iC ls:=by
  refine T.ix ls.length (·.1) (fun (s:Nat×aH×List Int)=>s.2=iC (ls.take s.1)) (fun s hs hi=>?_) rfl (Nat.zero_le _);unfold vX;refine T.ie (fun hl=>T.bd (T.at (by omega)) fun x hx=>?_) fun hl=>.mk (by rw [hs,List.take_of_length_le (by omega)]);have he:ls.take (s.1+1)=ls.take s.1++[x]:=by rw [List.take_add_one,hx];rfl
  have h3:=h.take (s.1+1);rw [he] at h3;obtain ⟨q,h4,_,h5⟩:=AR h3;have h6:=(tQ _ (h.take s.1)).2;rw [← hs] at h4 h5 h6;rw [List.length_take] at h6;refine T.bd (.ok h4) fun q' hq'=>?_;subst hq';exact .ck (by have:=h.1;omega) (.mk ⟨by dsimp only;rw [he,h5],rfl,by omega⟩)
 unfold WH;show (bG (vX ls) (0,s0,[])).bind _=_;rw [h1,h2];rfl
end T12
set_option maxHeartbeats 4000000
namespace T12
open Go Go.Proofs Pk
def Rt (ls:List aE):Prop:=ls.length≤60∧∀ s∈ls,s.length≤400
theorem Rt.lin {ls:List aE} (h:Rt ls):AQ ls:=⟨by have:=h.1;omega,fun s hs=>by have:=h.2 s hs;omega⟩
theorem e19 {ls:List aE} (h:Rt ls):TQ ls=some 0:=by
 have h0:QT ls NZ=some false:=by
  obtain ⟨r,h1,h2⟩:=rG ls NZ (fun s=>decide (400 < (s.length:Int))) (fun x hx=>rfl) (zZ ls NZ) (fun i=>rfl);have h3:ls.any (fun s=>decide (400 < (s.length:Int)))=false:=by
   rw [List.any_eq_false];intro s hs;have:=h.2 s hs;simp;omega
  unfold QT VU;rw [h1];rcases h2 with ⟨z,rfl,h2⟩ | ⟨rfl,h2⟩
  ·rw [h3] at h2;cases h2
  rfl
 unfold TQ;rw [if_neg (by have:=h.1;omega),h0];rfl
theorem e18 {ls:List aE} (h:Rt ls):m8 ls=some ((iC ls).1.state,(iC ls).2,0):=by
 unfold m8;rw [e19 h];simp only [Option.bind_some];rw [if_neg (by decide),e14 h.lin];rfl
theorem Rt.take {ls:List aE} (h:Rt ls) (n:Nat):Rt (ls.take n):=⟨by rw [List.length_take];have:=h.1;omega,fun s hs=>h.2 s (List.mem_of_mem_take hs)⟩
theorem T.run {ls:List aE} (h:Rt ls):T (m8 ls) fun r=>r=((iC ls).1.state,(iC ls).2,0):=.ok (e18 h)
end T12
set_option maxHeartbeats 4000000
namespace T12
open Go Go.Proofs Pk
theorem ZD (x:UInt8):((x.toNat:Int)≠32)↔x≠32:=by
 constructor
 ·intro h e;subst e;exact h rfl
 intro h e;exact h (UInt8.toNat_inj.1 (by have:(32:UInt8).toNat=32:=rfl;omega))
theorem r22 (line:aE) (k:Nat) (hk:k≤line.length) (hl:line.length≤9223372036854775807):T (TO line (k:Int)) fun r=>∃ n:Nat,r=(n:Int)∧k≤n∧n≤line.length∧(∀ j,k≤j→j < n→line[j]?≠some 32)∧(n < line.length→line[n]?=some 32):=by
 unfold TO;refine T.bd (T.lp (fun s=>∃ n:Nat,s=(n:Int)∧k≤n∧n≤line.length∧∀ j,k≤j→j < n→line[j]?≠some 32) (fun s=>line.length - s.toNat) (Q:=fun r=>∃ n:Nat,r=(n:Int)∧k≤n∧n≤line.length∧(∀ j,k≤j→j < n→line[j]?≠some 32)∧(n < line.length→line[n]?=some 32)) (fun s hs=>?_) ⟨k,rfl,Nat.le_refl _,hk,fun j h1 h2=>by omega⟩) fun r hr=>.mk hr;obtain ⟨n,rfl,h1,h2,h3⟩:=hs;unfold FB;refine T.bd (Q:=fun t=>(t=true→n < line.length∧line[n]?≠some 32)∧(t=false→n < line.length→line[n]?=some 32)) (T.ie (fun h=>.ck (by omega) (T.bd (T.at (by omega)) fun x hx=>.mk ⟨fun ht=>⟨by omega,?_⟩,fun ht _=>?_⟩)) fun h=>.mk ⟨by simp,fun _ h'=>by omega⟩) fun t ht=>T.ie (fun htt=>.ck (by have:=(ht.1 htt).1;omega) (.mk ⟨⟨n+1,by omega,by omega,by have:=ht.1 htt;omega,fun j h4 h5=>?_⟩,by have:=ht.1 htt;omega⟩)) fun htf=>.mk ⟨n,rfl,h1,h2,h3,ht.2 (by simpa using htf)⟩
 ·rw [Int.toNat_natCast] at hx;rw [hx];intro e;injection e with e;exact (ZD x).1 (by simpa using ht) e
 ·rw [Int.toNat_natCast] at hx;rw [hx];have:¬((x.toNat:Int)≠32):=by simpa using ht
  rw [ZD] at this;simpa using this
 by_cases hj:j=n
 ·subst hj;exact (ht.1 htt).2
 exact h3 j h4 (by omega)
theorem r23 (w:aE):T (TP w) fun r=>r.1≤4:=by
 unfold TP
 repeat' first
  | exact .mk (by decide)
  | exact .mk trivial
  | refine T.ie (fun _=>?_) fun _=>?_
  | refine T.bd (Q:=fun _=>True) ?_ fun _ _=>?_
abbrev NA:aE:=[111,114,100,101,114]
theorem aIt:TP NA=some (1,false):=by decide
theorem OU {i:Nat} (h:i≤9):10 ^ i≤1000000000:=Nat.le_trans (Nat.pow_le_pow_right (by decide) h) (by decide)
theorem aIu (t:aE) (h9:t.length≤9):T (bG (zY t) (0,0)) fun e=>(t.all qZ=true∧e=.inl (lS t 0:Int))∨(t.all qZ=false∧e=.inr (0,false)):=by
 refine T.ix t.length (·.1) (fun s=>(t.take s.1).all qZ=true∧s.2=(lS (t.take s.1) 0:Int)) (fun s hs hi=>?_) ⟨rfl,rfl⟩ (Nat.zero_le _);have hv:=sR (t.take s.1) 0 hs.1;have hp:=OU (i:=(t.take s.1).length) (by rw [List.length_take];omega);unfold zY;refine T.ie (fun hl=>T.bd (Q:=fun c=>∀ x,t[s.1]?=some x→c=!qZ x) (T.bd (T.at (by omega)) fun x hx=>T.ie (fun h=>.mk fun y hy=>?_) fun h=>.mk fun y hy=>?_) fun c hc=>T.ie (fun hct=>.mk (.inr ⟨?_,rfl⟩)) fun hcf=>.ck (by omega) (T.bd (T.at (by omega)) fun x hx=>?_)) fun hl=>.mk (.inl ?_)
 ·rw [hx] at hy;injection hy with hy;subst hy;simp only [qZ,Bool.true_eq,Bool.not_eq_true',decide_eq_false_iff_not];omega
 ·rw [hx] at hy;injection hy with hy;subst hy;unfold qZ;by_cases h0:(57:Int) < (x.toNat:Int)
  ·rw [decide_eq_true h0,decide_eq_false (by omega)];rfl
  rw [decide_eq_false h0,decide_eq_true (by omega)];rfl
 ·have hi':s.1 < t.length:=by omega
  have:=hc _ (List.getElem?_eq_getElem hi');rw [hct] at this;rw [List.all_eq_false];exact ⟨t[s.1],List.getElem_mem hi',by simpa using this.symm⟩
 ·have hd:=hc x hx;have hd':qZ x=true:=by
   cases h:qZ x with
   | true=>rfl
   | false=>rw [h] at hd;exact absurd hd hcf
  have hb:=hd';simp only [qZ,decide_eq_true_eq] at hb;have h2:(t.take (s.1+1))=t.take s.1++[x]:=by rw [List.take_add_one,hx];rfl
  refine .ck (by omega) (.ck (by omega) (.mk ⟨⟨?_,?_⟩,rfl,by omega⟩))
  ·dsimp only;rw [h2,List.all_append,hs.1];simp [hd']
  dsimp only;rw [h2,oK,hs.2];simp only [lS,List.foldl_cons,List.foldl_nil];omega
 have:t.take s.1=t:=List.take_of_length_le (by omega);rw [this] at hs;exact ⟨hs.1,by rw [hs.2]⟩
theorem r24 (s:aE):T (NY s) fun _=>True:=by
 unfold NY;refine T.bd (Q:=fun t=>t=true→1≤s.length) (T.ie (fun h=>T.bd (T.at (by omega)) fun x _=>.mk fun _=>by omega) fun _=>.mk (by simp)) fun t ht=>T.bd (Q:=fun _=>True) (T.ie (fun h=>.ck (ht h) (.mk trivial)) fun _=>.mk trivial) fun u _=>T.bd (Q:=fun c=>c=false→u.length≤9) (T.ie (fun _=>.mk (by simp)) fun h0=>T.ie (fun _=>.mk (by simp)) fun h9=>T.bd (T.at (by omega)) fun x _=>T.ie (fun _=>T.ie (fun _=>.mk (by simp)) fun _=>.mk fun _=>by omega) fun _=>.mk fun _=>by omega) fun c hc=>T.ie (fun _=>.mk trivial) fun hf=>?_;have h9:=hc (by simpa using hf);refine T.bd (aIu u h9) fun e he=>?_;rcases he with ⟨h1,rfl⟩ | ⟨h1,rfl⟩
 ·have hv:=sR u 0 h1;have hp:=OU h9;exact T.bd (Q:=fun _=>True) (T.ie (fun _=>.ck (by omega) (.mk trivial)) fun _=>.mk trivial) fun _ _=>.mk trivial
 exact .mk trivial
end T12
set_option maxHeartbeats 4000000
namespace T12
open Go Go.Proofs Pk
def Ord (line:aE) (n:Int):Prop:=∃ d,line=NA++32::d∧(32:UInt8)∉d∧NY d=some (n,true)
theorem r11 (line:aE) (hl:line.length≤9223372036854775807):T (m16 line) fun r=>r.2.2.2=true→r.1=NA→∃ n,r.2.1=[n]∧Ord line n:=by
 unfold m16;refine T.bd (r22 line 0 (Nat.zero_le _) hl) fun r1 h1=>?_;obtain ⟨n0,rfl,_,h2,h3,h4⟩:=h1;refine .ck (by omega) (.ck (by omega) (T.bd (Q:=fun r=>r.1≤4∧(line.take n0=NA→r=(1,false))) ?_ fun r8 h8=>?_))
 ·obtain ⟨q,h5,h6⟩:=r23 (line.take n0);refine ⟨q,h5,h6,fun hw=>?_⟩;rw [hw,aIt] at h5;injection h5 with h5;exact h5.symm
 refine T.ie (fun _=>.mk (by simp)) fun hr0=>T.bd (Q:=fun e=>match e with | .inl t=>(∃ a:Nat,t.1=(a:Int)∧a≤line.length)∧(r8.1=1→∃ (a:Nat) (v:Int),t=((a:Int),[v])∧n0 < a∧n0 < line.length∧a≤line.length∧(∀ j,n0+1≤j→j < a→line[j]?≠some 32)∧NY ((line.drop (n0+1)).take (a - (n0+1)))=some (v,true)) | .inr z=>z.2.2.2=false) (T.ix r8.1.toNat (·.1) (fun s=>(∃ a:Nat,s.2.1=(a:Int)∧a≤line.length)∧s.2.2.length=s.1∧(s.1=0→s.2.1=(n0:Int)∧s.2.2=[])∧(s.1=1→∃ (a:Nat) (v:Int),s.2=((a:Int),[v])∧n0 < a∧n0 < line.length∧a≤line.length∧(∀ j,n0+1≤j→j < a→line[j]?≠some 32)∧NY ((line.drop (n0+1)).take (a - (n0+1)))=some (v,true))) (fun s hs hi=>?_) ⟨⟨n0,rfl,h2⟩,rfl,fun _=>⟨rfl,rfl⟩,fun h=>by cases h⟩ (Nat.zero_le _)) fun e he=>?_
 ·obtain ⟨⟨a,ha,hal⟩,hll,hz,ho⟩:=hs;unfold FC;refine T.ie (fun hlt=>T.ie (fun _=>.mk rfl) fun hne=>.ck (by omega) ?_) fun hge=>.mk ⟨⟨a,ha,hal⟩,fun h1=>?_⟩
  ·rw [ha,show ((a:Int)+1)=((a+1:Nat):Int) by omega];rw [ha] at hne;refine T.bd (r22 line (a+1) (by omega) hl) fun r2 h5=>?_;obtain ⟨b,rfl,h6,h7,h8',_⟩:=h5;refine .ck (by omega) (.ck (by omega) (.ck (by omega) ?_));obtain ⟨q,h9,_⟩:=r24 ((line.drop ((a+1:Nat):Int).toNat).take ((b:Int).toNat - ((a+1:Nat):Int).toNat));refine T.bd (.ok h9) fun q' hq=>?_;subst hq;refine T.ie (fun hq=>.ck (by omega) (.ck (by omega) (.mk ⟨⟨⟨b,rfl,h7⟩,by simp [hll],fun h=>absurd h (Nat.succ_ne_zero _),fun h=>?_⟩,rfl,by clear ho;omega⟩))) fun _=>.mk rfl;have h0:s.1=0:=by dsimp only at h;omega
   obtain ⟨hC,hB⟩:=hz h0;obtain rfl:a=n0:=by rw [ha] at hC;omega
   refine ⟨b,q'.1,by rw [hB];rfl,by omega,by omega,h7,h8',?_⟩;rw [Int.toNat_natCast,Int.toNat_natCast] at h9;rw [h9,← hq]
  have h0:s.1=1:=by omega
  obtain ⟨a',v,h5,h6⟩:=ho h0;exact ⟨a',v,h5,h6⟩
 cases e with
 | inr z=>simp only at he;exact .mk fun h=>by rw [he] at h;cases h
 | inl t =>
  obtain ⟨⟨a,ha,hal⟩,hone⟩:=he;refine T.ie (fun hq=>T.ie (fun hq2=>?_) fun hq2=>.mk fun _ hw=>?_) fun _=>.mk (by simp)
  ·have h9:decide (t.1 < (line.length:Int))=true:=by rw [hq2] at hq;simpa using hq
   simp only [decide_eq_true_eq] at h9;refine .ck (by omega) (.ck (by omega) (.ck (by omega) (.mk fun _ hw=>?_)));rw [Int.toNat_natCast] at hw;have:=h8.2 hw;rw [this] at hq2;cases hq2
  dsimp only at hw;rw [Int.toNat_natCast] at hw;have h9:=h8.2 hw;obtain ⟨a',v,h5,h6,h7,hC,hB,hE⟩:=hone (by rw [h9]);have hl2:¬(t.1 < (line.length:Int)):=by
   intro h;rw [h9,decide_eq_true h] at hq;simp at hq
  rw [h5] at hl2;have hae:a'=line.length:=by dsimp only at hl2;omega
  refine ⟨v,by rw [h5],line.drop (n0+1),?_,?_,?_⟩
  ·have hA:=h4 (by omega);rw [List.getElem?_eq_getElem h7] at hA;injection hA with hA;have hF:=List.drop_eq_getElem_cons h7;rw [hA] at hF;rw [← hw,← hF,List.take_append_drop]
  ·intro hm;obtain ⟨j,hj⟩:=List.mem_iff_getElem?.1 hm;rw [List.getElem?_drop] at hj;exact hB (n0+1+j) (by omega) (by have:=(List.getElem?_eq_some_iff.1 hj).1;omega) hj
  rw [hae,List.take_of_length_le (by rw [List.length_drop];omega)] at hE;exact hE
theorem r6 (ls:List aE) (h:∀ s∈ls,s.length≤9223372036854775807):T (m5 ls) fun _=>True:=by
 unfold m5;refine T.bd (Q:=fun _=>True) (T.ix ls.length (·.1) (fun _=>True) (fun s _ hi=>?_) trivial (Nat.zero_le _)) fun e _=>T.bd (Q:=fun _=>True) ?_ fun _ _=>.mk trivial
 ·unfold QR;refine T.ie (fun hl=>T.bd (T.mem (by omega)) fun x hx=>T.bd (r11 x (h x hx)) fun r _=>T.bd (Q:=fun _=>True) (T.ie (fun _=>.mk trivial) fun _=>.mk trivial) fun _ _=>T.bd (Q:=fun _=>True) (T.ie (fun _=>.mk trivial) fun _=>.mk trivial) fun _ _=>.mk ⟨trivial,rfl,by omega⟩) fun _=>.mk trivial
 repeat' first
  | exact .mk trivial
  | refine T.ie (fun _=>?_) fun _=>?_
theorem r7 (ls:List aE):T (m6 ls) fun r=>r=true→Rt ls:=by
 unfold m6;refine T.bd (Q:=fun e=>match e with | .inl _=>∀ s∈ls,s.length≤400 | .inr z=>z=false) (T.ix ls.length id (fun i=>∀ s∈ls.take i,s.length≤400) (fun i hI hi=>?_) (by simp) (Nat.zero_le _)) fun e he=>?_
 ·unfold QS;refine T.ie (fun hl=>T.bd (T.at (by omega)) fun x hx=>T.ie (fun _=>.mk rfl) fun h4=>.mk ⟨fun s hs=>?_,rfl,by simpa using hl⟩) fun hl=>.mk (by simp only [id] at hi;rw [List.take_of_length_le (by omega)] at hI;exact hI);rw [List.take_add_one,hx] at hs;rcases List.mem_append.1 hs with h | h
  ·exact hI s h
  simp at h;subst h;omega
 cases e with
 | inr z=>simp only at he;subst he;exact .mk (by simp)
 | inl _=>exact .mk fun h=>⟨by have:=of_decide_eq_true h;omega,he⟩
theorem r10 {ls:List aE} (h:ls.length≤1000):m9 ls=some ls:=by
 unfold m9;rw [mU (by simp;omega)];rfl
end T12
set_option maxHeartbeats 4000000
namespace T12
open Go Go.Proofs Pk
def Wk {α:Type} (o:Option α) (P:α→Prop):Prop:=∀ v,o=some v→P v
theorem Wk.so {α:Type} {v:α} {P:α→Prop} (h:P v):Wk (some v) P:=fun _ e=>by cases e;exact h
theorem Wk.bd {α β:Type} {o:Option α} {f:α→Option β} {Q:α→Prop} {P:β→Prop} (h:Wk o Q) (k:∀ v,Q v→Wk (f v) P):Wk (o.bind f) P:=fun r e=>by
 obtain ⟨v,h1,h2⟩:=aA e;exact k v (h v h1) r h2
theorem Wk.bt {α β:Type} {o:Option α} {f:α→Option β} {P:β→Prop} (k:∀ v,Wk (f v) P):Wk (o.bind f) P:=fun r e=>by
 obtain ⟨v,h1,h2⟩:=aA e;exact k v r h2
theorem Wk.ck {α:Type} {c:Prop} [Decidable c] {o:Option α} {P:α→Prop} (h:Wk o P):Wk (cB c o) P:=fun r e=>h r (aF e).2
theorem Wk.ie {α:Type} {c:Prop} [Decidable c] {a b:Option α} {P:α→Prop} (h1:c→Wk a P) (h2:¬c→Wk b P):Wk (if c then a else b) P:=by
 by_cases h:c
 ·rw [if_pos h];exact h1 h
 rw [if_neg h];exact h2 h
theorem Wk.id {α:Type} {o:Option α}:Wk o (fun v=>o=some v):=fun _ h=>h
theorem Wk.and {α:Type} {o:Option α} {P Q:α→Prop} (h:Wk o P) (k:Wk o Q):Wk o (fun v=>P v∧Q v):=fun v e=>⟨h v e,k v e⟩
theorem Wk.eq {α:Type} {o:Option α} {w:α} (h:o=some w):Wk o (fun v=>v=w):=fun v e=>by rw [h] at e;cases e;rfl
theorem Wk.no {α:Type} {P:α→Prop}:Wk none P:=fun _ e=>by cases e
theorem T.wk {α:Type} {o:Option α} {P:α→Prop} (h:T o P):Wk o P:=fun v e=>by
 obtain ⟨w,h1,h2⟩:=h;rw [h1] at e;cases e;exact h2
theorem Wk.lp {σ ε:Type} {step:σ→Option (σ⊕ε)} (I:σ→Prop) {Q:ε→Prop} (h:∀ s,I s→Wk (step s) (fun r=>match r with | .inl s'=>I s' | .inr e=>Q e)) {s0:σ} (h0:I s0):Wk (bG step s0) Q:=fun e he=>by
 obtain ⟨n,hn⟩:=zF he;clear he
 induction hn with
 | out h1=>exact h _ h0 _ h1
 | next h1 _ ih=>exact ih (h _ h0 _ h1)
inductive Nx (s t:cV):Prop
 | same (h1:t.bound=s.bound) (h2:t.volume=s.volume) (h3:t.errata=s.errata) (h4:t.cites=s.cites)
 | say (h1:s.bound=false) (h2:t.bound=false) (h3:t.errata=s.errata) (h4:t.cites=s.cites)
 | bind (h1:s.bound=false) (h2:t.bound=true) (h3:t.errata=s.errata) (h4:t.cites=s.cites) (h5:t.volume.parts=s.volume.parts) (h6:IZ t.volume=some 0)
 | erratum (h1:s.bound=true) (h2:t.bound=true) (h3:t.volume=s.volume) (h4:t.cites=s.cites) (x:aK) (h5:t.errata=s.errata++[x]) (h6:s.volume.bound < x.day) (h7:rB s.volume t.errata=some 0)
 | cite (h1:s.bound=true) (h2:t.bound=true) (h3:t.volume=s.volume) (h4:t.errata=s.errata) (c:aE) (h5:t.cites=s.cites++[c]) (a st:Int) (h6:sX s.volume s.errata a st s.day=some (c,0)) (h7:0≤st)
def Nr (b:aH) (r:aH⊕Int):Prop:=match r with | .inl c=>Nx b.state c.state | .inr _=>True
theorem Nx.refl (s:cV):Nx s s:=.same rfl rfl rfl rfl
variable {b:aH} {l:List Int} {text:aE}
theorem Wk.bq {α:Type} {o:Option (α⊕(aH⊕Int))} {f:α⊕(aH⊕Int)→Option (aH⊕Int)} (h:Wk o fun t=>match t with | .inl _=>True | .inr z=>Nr b z) (k:∀ v,Wk (f (.inl v)) (Nr b)) (hi:∀ z,Nr b z→Wk (f (.inr z)) (Nr b)):Wk (o.bind f) (Nr b):=.bd h fun t ht=>by
 cases t with
 | inl v=>exact k v
 | inr z=>exact hi z ht
theorem aIv (d:aV):Wk (vP b d) (Nr b):=by
 unfold vP;refine .bt fun _=>.bt fun r=>?_;cases r
 ·exact .so (.same rfl rfl rfl rfl)
 exact .so trivial
theorem zs:Wk (QU b l text) (Nr b)∧Wk (RG b l text) (Nr b)∧Wk (RH b l text) (Nr b)∧Wk (RL b l text) (Nr b)∧Wk (RM b l text) (Nr b)∧Wk (RN b l text) (Nr b)∧Wk (RP b l text) (Nr b)∧Wk (RQ b l text) (Nr b)∧Wk (RR b l text) (Nr b)∧Wk (RS b l text) (Nr b):=by
 refine ⟨?_,?_,?_,?_,?_,?_,?_,?_,?_,?_⟩ <;> (first | unfold QU | unfold RG | unfold RH | unfold RL | unfold RM | unfold RN | unfold RP | unfold RQ | unfold RR | unfold RS) <;> repeat' (first | exact .so trivial | exact .so (.same rfl rfl rfl rfl) | exact .bd (aIv _) fun r hr=>by cases r <;> exact .so hr | refine .bq ?_ (fun _=>?_) fun _ h=>.so h | refine .bt fun _=>?_ | refine .ck ?_ | refine .ie (fun _=>?_) fun _=>?_ | split | exact .no)
def Ny (b:aH) (r:aH⊕Int):Prop:=match r with | .inl c=>b.state.bound=false∧c.state.bound=false∧c.state.errata=b.state.errata∧c.state.cites=b.state.cites | .inr _=>True
theorem y83:Wk (KV b l text) (Ny b):=by
 unfold KV;refine .bd (T.wk (jI _ _)) fun r hr=>?_
 cases r with
 | inr _=>exact .so trivial
 | inl _ =>
  have hb:b.state.bound=false:=by simpa using hr
  refine .bt fun _=>.bt fun _=>.bt fun _=>.bt fun _=>.bt fun _=>.bt fun _=>.bt fun r=>?_
  cases r with
  | inr _=>exact .so trivial
  | inl _=>exact .so ⟨hb,hb,rfl,rfl⟩
theorem z83:Wk (KV b l text) (Nr b):=fun r h=>by
 have:=y83 r h
 cases r with
 | inr _=>trivial
 | inl c=>exact .say this.1 this.2.1 this.2.2.1 this.2.2.2
theorem z98:Wk (RT b l text) (Nr b):=by
 unfold RT;refine .bq (.ie (fun _=>?_) fun _=>?_) (fun _=>?_) fun _ h=>.so h
 ·exact .bt fun r=>by cases r <;> exact .so trivial
 ·exact .bt fun r=>by cases r <;> exact .so trivial
 refine .bt fun _=>.bt fun r=>?_
 cases r with
 | inr _=>exact .so trivial
 | inl _ =>
  refine .bt fun _=>.bd y83 fun r hr=>?_
  cases r with
  | inr _=>exact .so trivial
  | inl c=>exact .so (.say hr.1 hr.2.1 hr.2.2.1 hr.2.2.2)
theorem z84:Wk (QY b l text) (Nr b):=by
 unfold QY;refine .bd (T.wk (jI _ _)) fun r hr=>?_
 cases r with
 | inr _=>exact .so trivial
 | inl _ =>
  have hb:b.state.bound=false:=by simpa using hr
  refine .bt fun x=>.bt fun y=>.bt fun z=>.bd (Q:=fun e=>IZ (⟨x,b.state.day,y,z,b.state.volume.parts⟩:bE)=some e) (fun _ h=>h) fun e he=>.bd (T.wk (AO _)) fun r hr=>?_
  cases r with
  | inr _=>exact .so trivial
  | inl _ =>
   have h0:e=0:=hr;subst h0;exact .so (.bind hb rfl rfl rfl rfl he)
theorem TE (x:aK):Wk (sV b x) (Nr b):=by
 unfold sV;refine .bd (Q:=fun t=>match t with | .inl _=>b.state.bound=true∧b.state.volume.bound < b.state.day | .inr z=>Nr b z) (.ie (fun hb=>.bd (T.wk (jI _ _)) fun r hr=>?_) fun _=>.bd (T.wk (jI _ _)) fun r hr=>?_) fun t ht=>?_
 ·cases r with
  | inr _=>exact .so trivial
  | inl _=>exact .so ⟨hb,by simpa using hr⟩
 ·cases r with
  | inr _=>exact .so trivial
  | inl _=>cases hr
 cases t with
 | inr z=>exact .so ht
 | inl _ =>
  refine .bd (Q:=fun r=>r=b.state.errata++[{ x with day:=b.state.day }]) ?_ fun es hes=>.bd (Q:=fun r=>r.2=0→rB b.state.volume es=some 0) ?_ fun r hr=>.bd (T.wk (AO _)) fun r2 hr2=>?_
  ·unfold BK rA;exact .bd (Q:=fun r=>r=b.state.errata) (.ck (.so (List.nil_append _))) fun r hr=>.ck (.so (by rw [hr]))
  ·unfold TR;exact .bd (Q:=fun e=>rB b.state.volume es=some e) (fun _ h=>h) fun e he=>.ie (fun h0=>.so fun h=>absurd h h0) fun h0=>.bt fun _=>by
    have:e=0:=by omega
    subst this;exact .ie (fun _=>.bt fun _=>.bt fun _=>.so fun _=>he) fun _=>.so fun _=>he
  cases r2 with
  | inr _=>exact .so trivial
  | inl _=>exact .so (.erratum ht.1 ht.1 rfl rfl _ hes ht.2 (hr hr2))
theorem z85:Wk (RA b l text) (Nr b):=by
 unfold RA;exact .bt fun _=>.bt fun _=>.bd (TE _) fun r hr=>by cases r <;> exact .so hr
theorem z86:Wk (RB b l text) (Nr b):=by
 unfold RB;exact .bt fun _=>.bt fun _=>.bd (TE _) fun r hr=>by cases r <;> exact .so hr
theorem z87:Wk (RD b l text) (Nr b):=by
 unfold RD;exact .bt fun _=>.bt fun _=>.bt fun _=>.bd (TE _) fun r hr=>by cases r <;> exact .so hr
theorem z88:Wk (RF b l text) (Nr b):=by
 unfold RF;refine .bd (T.wk (jI _ _)) fun r hr=>?_
 cases r with
 | inr _=>exact .so trivial
 | inl _ =>
  refine .bt fun x=>.bd (T.wk (.ok (e20 _ _ _))) fun c hc=>.bd (T.wk (jI _ _)) fun r hr2=>?_
  cases r with
  | inr _=>exact .so trivial
  | inl _ =>
   have hx:0≤x∧x≤255:=by rw [hc] at hr2;simpa using hr2
   refine .bt fun y=>.ck (.bd (Q:=fun e=>sX b.state.volume b.state.errata y x b.state.day=some e) (fun _ h=>h) fun e he=>.bd (T.wk (AO _)) fun r hr3=>?_)
   cases r with
   | inr _=>exact .so trivial
   | inl _ =>
    have h0:e.2=0:=hr3;refine .bd (Q:=fun r=>r=b.state.cites++[e.1]) ?_ fun cs hcs=>.so (.cite hr hr rfl rfl _ hcs y x (by rw [he,← h0]) hx.1);unfold BM FR;exact .bd (Q:=fun r=>r=b.state.cites) (.ck (.so (List.nil_append _))) fun r hr=>.ck (.so (by rw [hr]))
theorem zDo (q:Option Nat):Wk (OF q b l text) (Nr b):=by
 unfold OF;exact .ie (fun _=>zs.1) fun _=>.ie (fun _=>z83) fun _=>.ie (fun _=>z84) fun _=>.ie (fun _=>z85) fun _=>.ie (fun _=>z86) fun _=>.ie (fun _=>z87) fun _=>.ie (fun _=>z88) fun _=>.ie (fun _=>zs.2.1) fun _=>.ie (fun _=>zs.2.2.1) fun _=>.ie (fun _=>zs.2.2.2.1) fun _=>.ie (fun _=>zs.2.2.2.2.1) fun _=>.ie (fun _=>zs.2.2.2.2.2.1) fun _=>.ie (fun _=>zs.2.2.2.2.2.2.1) fun _=>.ie (fun _=>zs.2.2.2.2.2.2.2.1) fun _=>.ie (fun _=>zs.2.2.2.2.2.2.2.2.1) fun _=>.ie (fun _=>zs.2.2.2.2.2.2.2.2.2) fun _=>.ie (fun _=>z98) fun _=>.no
theorem z38:Wk (LU b text) fun r=>Nx b.state r.1.state:=by
 unfold LU;refine .bt fun r4=>.bt fun r7=>.bt fun r=>?_
 cases r with
 | inr _=>exact .so (.refl _)
 | inl _ =>
  refine .bd (Q:=fun e=>match e with | .inl _=>True | .inr z=>z.1=b) (.lp (fun _=>True) (fun s _=>?_) trivial) fun e he=>?_
  ·unfold AI;refine .ie (fun _=>.bt fun r=>?_) fun _=>.so trivial
   cases r with
   | inr _=>exact .so rfl
   | inl _ =>
    refine .bt fun _=>.bt fun r=>?_
    cases r with
    | inr _=>exact .so rfl
    | inl _=>exact .ck (.ck (.so trivial))
  cases e with
  | inr z=>exact .so (by rw [he];exact .refl _)
  | inl t =>
   refine .bt fun r=>?_
   cases r with
   | inr _=>exact .so (.refl _)
   | inl _ =>
    refine .bd (zDo _) fun r hr=>?_
    cases r with
    | inr _=>exact .so (.refl _)
    | inl c=>exact .so hr
end T12
set_option maxHeartbeats 4000000
namespace T12
open Go Go.Proofs Pk
theorem sD (l r sub:aE):Lib.occAt (l++r) sub l.length=sub.isPrefixOf r:=by unfold Lib.occAt;rw [List.drop_left]
theorem mF (a r:aE):a.isPrefixOf (a++r)=true:=List.isPrefixOf_iff_prefix.2 (List.prefix_append a r)
theorem IP {l r t:aE} {c:UInt8} (h:c∉l):Lib.index (l++(c::t++r)) (c::t)=l.length:=by
 refine Lib.index_first (by simp) (by rw [sD];exact mF _ _) (fun j hj=>?_)
 cases hb:Lib.occAt (l++(c::t++r)) (c::t) j with
 | false=>rfl
 | true =>
  have:=Lib.occAt_head rfl hb;rw [List.getElem?_append_left hj] at this;exact absurd (List.mem_of_getElem? this) h
theorem ZE {l r t:aE} {c:UInt8} (h:c∉l):Lib.cut (l++(c::t++r)) (c::t)=(l,r,true):=by
 unfold Lib.cut;rw [IP h,if_pos (by omega)];simp only [Int.toNat_natCast,List.take_left];congr 1;congr 1;rw [← List.append_assoc,List.drop_left' (by simp)]
theorem IQ {s t:aE} {c:UInt8} (h:c∉s):Lib.index s (c::t) = -1:=by
 refine Lib.index_none (fun j hj=>?_)
 cases hb:Lib.occAt s (c::t) j with
 | false=>rfl
 | true=>exact absurd (List.mem_of_getElem? (Lib.occAt_head rfl hb)) h
theorem wH {s t:aE} {c:UInt8} (h:c∉s):Lib.contains s (c::t)=false:=by unfold Lib.contains;rw [IQ h];rfl
theorem tT (l r t:aE):Lib.contains (l++(t++r)) t=true:=by
 unfold Lib.contains;rcases Lib.index_spec (l++(t++r)) t with ⟨_,h2⟩ | ⟨i,h1,_⟩
 ·have:=h2 l.length (by simp);rw [sD,mF] at this;cases this
 rw [h1];simp
theorem qN {n:Int} (h:0≤n):Lib.itoa n=Lib.decDigits n.toNat:=by unfold Lib.itoa;rw [if_neg (by omega)]
theorem wI {n:Int} (h:0≤n) {c:UInt8} (hc:c∈Lib.itoa n):48≤c.toNat∧c.toNat≤57:=by
 rw [qN h] at hc;have:=List.all_eq_true.1 (zU n.toNat) c hc;simpa [qZ] using this
theorem tU {n:Int} (h:0≤n) {c:UInt8} (hc:c.toNat < 48∨57 < c.toNat):c∉Lib.itoa n:=fun hm=>by have:=wI h hm;omega
theorem NB (n:Int):Lib.itoa n≠[]:=by unfold Lib.itoa;split <;> simp [ET]
theorem dS {n:Int} (h:0≤n) (h2:n < 1000000):(Lib.itoa n).length≤6:=by
 rw [qN h];exact pC (by omega) (by decide)
theorem CS {n:Int} (h:0≤n) (h2:n < 1000000000000000000):jM (Lib.itoa n)=(n,false):=by
 rw [qN h];unfold jM;rw [EU (by omega)];simp only [Int.toNat_of_nonneg h]
abbrev qO:aE:=[118,111,108,46,32]
abbrev CT:aE:=[44,32,99,111,108,46,32]
abbrev sL:aE:=[44,32,108,46,32]
abbrev TW:aE:=[44,32]
abbrev wJ:aE:=[44,32,112,97,114,46,32]
abbrev sAt:aE:=[64]
def lW (v c l:Int):aE:=qO++(Lib.itoa v++(CT++(Lib.itoa c++(sL++Lib.itoa l))))
def nF (v d n:Int):aE:=qO++(Lib.itoa v++(TW++(Lib.itoa d++(wJ++Lib.itoa n))))
def lE (a d:Int):aE:=Lib.itoa a++(sAt++Lib.itoa d)
theorem ZF {v c l:Int} (hv:0≤v∧v≤999999) (hc:0≤c∧c≤999999) (hl:0≤l∧l≤999999):oA [.s qO,.i v,.s CT,.i c,.s sL,.i l]=some (lW v c l):=by
 have e1:eT [.s qO,.i v,.s CT,.i c,.s sL,.i l]=lW v c l:=by simp [eT,qC,lW]
 have:=dS hv.1 (by omega);have:=dS hc.1 (by omega);have:=dS hl.1 (by omega);unfold oA;rw [e1,mU];refine ⟨?_,by unfold lW;simp only [List.length_append,List.length_cons,List.length_nil];omega⟩;simp [vD];omega
theorem ZG {v c l:Int} (hv:0≤v∧v≤999999) (hc:0≤c∧c≤999999) (hl:0≤l∧l≤999999):oA [.s qO,.i v,.s TW,.i c,.s wJ,.i l]=some (nF v c l):=by
 have e1:eT [.s qO,.i v,.s TW,.i c,.s wJ,.i l]=nF v c l:=by simp [eT,qC,nF]
 have:=dS hv.1 (by omega);have:=dS hc.1 (by omega);have:=dS hl.1 (by omega);unfold oA;rw [e1,mU];refine ⟨?_,by unfold nF;simp only [List.length_append,List.length_cons,List.length_nil];omega⟩;simp [vD];omega
theorem ZH {v c:Int} (hv:0≤v∧v≤999999) (hc:0≤c∧c≤999999):oA [.i v,.s sAt,.i c]=some (lE v c):=by
 have e1:eT [.i v,.s sAt,.i c]=lE v c:=by simp [eT,qC,lE]
 have:=dS hv.1 (by omega);have:=dS hc.1 (by omega);unfold oA;rw [e1,mU];refine ⟨?_,by unfold lE;simp only [List.length_append,List.length_cons,List.length_nil];omega⟩;simp [vD];omega
abbrev sCo:aE:=[99,111,108,46,32]
theorem wK {n:Int} (h:0≤n∧n≤999999):zV (Lib.itoa n)=some (n,false):=by
 have:=dS h.1 (by omega);unfold zV zJ;rw [mU (by omega),CS h.1 (by omega)]
theorem wL {n:Int} (h:0≤n∧n≤999999):zW n=some (Lib.itoa n):=by unfold zW zK;rw [mU (by omega)]
theorem wM {n:Int} (h:0≤n∧n≤999999):qR n 0 999999=some true:=by rw [rH,decide_eq_true h]
theorem IR {l r t:aE} {c:UInt8} (h:c∉l) (hb:l.length+t.length+r.length≤1000000):tX (l++(c::t++r)) (c::t)=some (l,r,true):=by
 unfold tX;rw [mU (by simp;omega),ZE h]
theorem ZI (p r:aE):NW (p++r) p=some (r,true):=by
 unfold NW Lib.trimPrefix Lib.hasPrefix;rw [mF];simp
theorem c44 {n:Int} (h:0≤n):(44:UInt8)∉Lib.itoa n:=tU h (by decide)
theorem c64 {n:Int} (h:0≤n):(64:UInt8)∉Lib.itoa n:=tU h (by decide)
theorem c99 {n:Int} (h:0≤n):(99:UInt8)∉Lib.itoa n:=tU h (by decide)
theorem ZJ {v c l:Int} (hv:0≤v∧v≤999999) (hc:0≤c∧c≤999999) (hl:0≤l∧l≤999999):JA (lW v c l)=some (.inl ⟨0,⟨v,c,l⟩⟩):=by
 have l1:=dS hv.1 (by omega);have l2:=dS hc.1 (by omega);have l3:=dS hl.1 (by omega);have h0:QH (lW v c l) sCo=some true:=by
  unfold QH;rw [mU (by unfold lW;simp only [List.length_append,List.length_cons,List.length_nil];omega)];have:lW v c l=(qO++(Lib.itoa v++[44,32]))++(sCo++(Lib.itoa c++(sL++Lib.itoa l))):=by unfold lW;simp
  rw [this,tT]
 have h3:NW (lW v c l) qO=some (Lib.itoa v++(CT++(Lib.itoa c++(sL++Lib.itoa l))),true):=ZI _ _;have h1:tX (Lib.itoa v++(CT++(Lib.itoa c++(sL++Lib.itoa l)))) CT=some (Lib.itoa v,Lib.itoa c++(sL++Lib.itoa l),true):=IR (c44 hv.1) (by simp only [List.length_append,List.length_cons,List.length_nil];omega);have h2:tX (Lib.itoa c++(sL++Lib.itoa l)) sL=some (Lib.itoa c,Lib.itoa l,true):=IR (c44 hc.1) (by simp only [List.length_append,List.length_cons,List.length_nil];omega);unfold JA;rw [h3];simp only [Option.bind_some,if_true,h0,h1,h2,wK hv,wK hc,wK hl,wL hv,wL hc,wL hl,wM hv,wM hc,wM hl,ne_eq,not_true_eq_false,if_false,Bool.false_eq_true,Bool.not_true]
theorem ZK {v d n:Int} (hv:0≤v∧v≤999999) (hd:0≤d∧d≤99999) (hn:0≤n∧n≤999999):JA (nF v d n)=some (.inl ⟨1,⟨v,d,n⟩⟩):=by
 have l1:=dS hv.1 (by omega);have l2:=dS hd.1 (by omega);have l3:=dS hn.1 (by omega);have hd':0≤d∧d≤999999:=by omega
 have h0:QH (nF v d n) sCo=some false:=by
  unfold QH;rw [mU (by unfold nF;simp only [List.length_append,List.length_cons,List.length_nil];omega),wH];unfold nF;simp only [List.mem_append,not_or];exact ⟨by decide,c99 hv.1,by decide,c99 hd.1,by decide,c99 hn.1⟩
 have h3:NW (nF v d n) qO=some (Lib.itoa v++(TW++(Lib.itoa d++(wJ++Lib.itoa n))),true):=ZI _ _;have h1:tX (Lib.itoa v++(TW++(Lib.itoa d++(wJ++Lib.itoa n)))) TW=some (Lib.itoa v,Lib.itoa d++(wJ++Lib.itoa n),true):=IR (c44 hv.1) (by simp only [List.length_append,List.length_cons,List.length_nil];omega);have h2:tX (Lib.itoa d++(wJ++Lib.itoa n)) wJ=some (Lib.itoa d,Lib.itoa n,true):=IR (c44 hd.1) (by simp only [List.length_append,List.length_cons,List.length_nil];omega);unfold JA;rw [h3];simp only [Option.bind_some,if_true,h0,h1,h2,wK hv,wK hd',wK hn,wL hv,wL hd',wL hn,wM hv,wM hd',wM hn,ne_eq,not_true_eq_false,if_false,Bool.false_eq_true,Bool.not_true,MV,decide_eq_true hd];rfl
theorem ZL {a d:Int} (ha:0≤a∧a≤999999) (hd:0≤d∧d≤99999):JA (lE a d)=some (.inl ⟨2,⟨a,d,0⟩⟩):=by
 have l1:=dS ha.1 (by omega);have l2:=dS hd.1 (by omega);have hd':0≤d∧d≤999999:=by omega
 have h0:NW (lE a d) qO=some (lE a d,false):=by
  have hp:Lib.hasPrefix (lE a d) qO=false:=by
   unfold Lib.hasPrefix lE
   cases hi:Lib.itoa a with
   | nil=>exact absurd hi (NB a)
   | cons c r =>
    have:=wI ha.1 (c:=c) (by rw [hi];exact List.mem_cons_self);show ((118:UInt8)==c&&_)=false;have:((118:UInt8)==c)=false:=by
     rw [beq_eq_false_iff_ne];rintro rfl;have:(118:UInt8).toNat=118:=rfl;omega
    rw [this];rfl
  unfold NW Lib.trimPrefix;rw [hp];rfl
 have h1:tX (lE a d) sAt=some (Lib.itoa a,Lib.itoa d,true):=IR (c64 ha.1) (by simp only [List.length_cons,List.length_nil];omega);unfold JA;rw [h0];simp only [Option.bind_some,if_true,h1,wK ha,wK hd',wL ha,wL hd',wM ha,wM hd',ne_eq,not_true_eq_false,if_false,Bool.false_eq_true,Bool.not_true,MV,decide_eq_true hd];rfl
end T12
set_option maxHeartbeats 4000000
namespace T12
open Go Go.Proofs Pk
noncomputable def oU (es:List aK):List aK:=(iK oC es).getD []
theorem oH {es:List aK} (h:Ve es):iK oC es=some (oU es)∧(oU es).Perm es∧(oU es).Pairwise OT:=by
 obtain ⟨r,h1,h2⟩:=tP h.l h.nd;have e:oU es=r:=by unfold oU;rw [h1];rfl
 rw [e];exact ⟨h1,h2⟩
theorem yV {α:Type} {R:α→α→Prop} (asy:∀ a b,R a b→¬R b a):∀ {l' l:List α},l.Pairwise R→l'.Pairwise R→(∀ x∈l,x∈l')→l.Sublist l'
 | [],l,_,_,h=>by
  cases l with
  | nil=>exact List.Sublist.refl _
  | cons x l=>cases h x (List.mem_cons_self ..)
 | y::l',[],_,_,_=>List.nil_sublist _
 | y::l',x::l,h1,h2,h=>by
  obtain ⟨h3,h4⟩:=List.pairwise_cons.1 h1;obtain ⟨h5,h6⟩:=List.pairwise_cons.1 h2;rcases List.mem_cons.1 (h x (List.mem_cons_self ..)) with rfl | hx
  ·refine (yV asy h4 h6 fun z hz=>?_).cons_cons _;rcases List.mem_cons.1 (h z (List.mem_cons_of_mem _ hz)) with rfl | h7
   ·exact absurd (h3 _ hz) fun q=>asy _ _ q q
   exact h7
  refine (yV asy h1 h6 fun z hz=>?_).cons _;rcases List.mem_cons.1 (h z hz) with rfl | h7
  ·rcases List.mem_cons.1 hz with rfl | hz'
   ·exact hx
   exact absurd (h5 _ hx) (asy _ _ (h3 _ hz'))
  exact h7
def LtE (a b:aK):Prop:=a.day < b.day∨(a.day=b.day∧a.number < b.number)
theorem IS {es:List aK} (h:Ve es):(oU es).Pairwise LtE:=by
 obtain ⟨_,h1,h2⟩:=oH h;have h3:((oU es).map (·.number)).Nodup:=(h1.map _).nodup_iff.2 h.nd;rw [List.nodup_iff_pairwise_ne,List.pairwise_map] at h3;exact (h2.and h3).imp fun {a b} q=>by unfold OT at q;unfold LtE;omega
theorem NC {es more:List aK} (h:Ve es) (h':Ve (es++more)):(oU es).Sublist (oU (es++more)) :=
 yV (R:=LtE) (fun a b p q=>by unfold LtE at p q;omega) (IS h) (IS h') fun x hx=>(oH h').2.1.mem_iff.2 (List.mem_append.2 (.inl ((oH h).2.1.mem_iff.1 hx)))
def OV (S:List Int) (x:aK):List Int:=if x.kind=2∧x.anchor∈S then x.new_::S else S
def fA (S:List Int) (l:List aK):List Int:=l.foldl OV S
theorem TF {S S':List Int} (h:∀ a∈S,a∈S') (x:aK):∀ a∈OV S x,a∈OV S' x:=fun a ha=>by
 unfold OV at *;by_cases h1:x.kind=2∧x.anchor∈S
 ·rw [if_pos h1] at ha;rw [if_pos ⟨h1.1,h _ h1.2⟩];rcases List.mem_cons.1 ha with rfl | h2
  ·exact List.mem_cons_self ..
  exact List.mem_cons_of_mem _ (h a h2)
 rw [if_neg h1] at ha;by_cases h3:x.kind=2∧x.anchor∈S'
 ·rw [if_pos h3];exact List.mem_cons_of_mem _ (h a ha)
 rw [if_neg h3];exact h a ha
theorem TH (S:List Int) (x:aK):∀ a∈S,a∈OV S x:=fun a ha=>by
 unfold OV
 split
 ·exact List.mem_cons_of_mem _ ha
 exact ha
theorem ZM {l l':List aK} (h:l.Sublist l'):∀ {S S':List Int},(∀ a∈S,a∈S')→∀ a∈fA S l,a∈fA S' l':=by
 induction h with
 | slnil=>intro S S' h;exact h
 | cons x _ ih=>intro S S' h;exact ih fun a ha=>TH _ _ a (h a ha)
 | cons_cons x _ ih=>intro S S' h;exact ih (TF h x)
def nG (g:List (List bY)):List Int:=g.flatten.map (·.paragraph.anchor)
def A0 (v:bE):List Int:=(lD v).map (·.anchor)
theorem IT {α:Type} {g:List (List α)} {i:Nat} {r:List α} (h:g[i]?=some r) (r':List α):g.flatten=(g.take i).flatten++(r++(g.drop (i+1)).flatten)∧(g.set i r').flatten=(g.take i).flatten++(r'++(g.drop (i+1)).flatten):=by
 obtain ⟨h1,h2⟩:=List.getElem?_eq_some_iff.1 h;constructor
 ·conv=>lhs;rw [← List.take_append_drop i g,List.drop_eq_getElem_cons h1,h2]
  simp
 rw [List.set_eq_take_append_cons_drop,if_pos h1];simp
theorem AS {g:List (List bY)} {i k:Nat} {r:List bY} {y:bY} (h:g[i]?=some r) (hk:r[k]?=some y) {z:bY} (hz:z.paragraph.anchor=y.paragraph.anchor):nG (g.set i (r.set k z))=nG g:=by
 obtain ⟨h1,h2⟩:=IT h (r.set k z);unfold nG;rw [h1,h2];simp only [List.map_append];congr 2;obtain ⟨h3,h4⟩:=List.getElem?_eq_some_iff.1 hk;rw [List.map_set];have:z.paragraph.anchor=(r.map (·.paragraph.anchor))[k]'(by rw [List.length_map];exact h3):=by rw [List.getElem_map,h4,hz]
 rw [this,List.set_getElem_self]
theorem ND {g:List (List bY)} {i k:Nat} {r:List bY} (h:g[i]?=some r) (z:bY):(nG (g.set i (r.take k++[z]++r.drop k))).Perm (z.paragraph.anchor::nG g):=by
 obtain ⟨h1,h2⟩:=IT h (r.take k++[z]++r.drop k);unfold nG;rw [h1,h2];rw [← List.map_cons (f:=fun e:bY=>e.paragraph.anchor)];refine List.Perm.map _ ?_;have e:(g.take i).flatten++(r++(g.drop (i+1)).flatten)=(g.take i).flatten++(r.take k++(r.drop k++(g.drop (i+1)).flatten)):=by rw [← List.append_assoc (r.take k),List.take_append_drop]
 rw [e];refine List.Perm.trans ?_ List.perm_middle;refine List.Perm.append_left _ ?_;rw [List.append_assoc,List.append_assoc];exact List.Perm.append_left _ (List.Perm.refl _) |>.trans List.perm_middle
def JE (g:List (List bY)) (a:Int) (e:Nat×Nat×Bool):Prop:=if e.2.2 then ∃ r y,g[e.1]?=some r∧r[e.2.1]?=some y∧y.paragraph.anchor=a else a∉nG g
theorem wN {g:List (List bY)} {a:Int} {n:Nat} {r:List bY} (h:a∉nG (g.take n)) (hr:g[n]?=some r) (h2:a∉r.map (·.paragraph.anchor)):a∉nG (g.take (n+1)):=by
 unfold nG at *;rw [List.take_add_one,hr];simp only [Option.toList,List.flatten_append,List.flatten_cons,List.flatten_nil,List.append_nil,List.map_append,List.mem_append,not_or];exact ⟨h,h2⟩
theorem AT {r:List bY} {a:Int} {n:Nat} {y:bY} (h:a∉(r.take n).map (·.paragraph.anchor)) (hy:r[n]?=some y) (h2:y.paragraph.anchor≠a):a∉(r.take (n+1)).map (·.paragraph.anchor):=by
 rw [List.take_add_one,hy];simp only [Option.toList,List.map_append,List.map_cons,List.map_nil,List.mem_append,List.mem_singleton,not_or];exact ⟨h,fun e=>h2 e.symm⟩
theorem f44 (g:List (List bY)) (x:aK) (i:Nat):Wk (bG (rX (i,g) x) (0,0,0,false)) (JE g x.anchor):=by
 refine .lp (fun s=>s.2.2.2=false∧x.anchor∉nG (g.take s.2.2.1)) (fun s hs=>?_) ⟨rfl,by simp [nG]⟩;unfold rX;dsimp only;refine .ie (fun hl=>.bd .id fun r hr=>.bd (Q:=fun e=>match e with | .inl q=>q.2.2=false∧x.anchor∉r.map (·.paragraph.anchor) | .inr z=>∃ q y,z=.inr q∧q.2.2=true∧q.1=s.2.2.1∧r[q.2.1]?=some y∧y.paragraph.anchor=x.anchor) (.lp (fun q=>q.2.2.2=false∧x.anchor∉(r.take q.2.2.1).map (·.paragraph.anchor)) (fun q hq=>?_) ⟨hs.1,by simp⟩) fun e he=>?_) fun hl=>.so ?_
 ·unfold AG;exact .ie (fun hl=>.bd .id fun y hy=>.ie (fun ha=>.so ⟨_,y,rfl,rfl,rfl,hy,ha⟩) fun ha=>.ck (.so ⟨hq.1,AT hq.2 hy ha⟩)) fun hl=>.so ⟨hq.1,by have:=hq.2;rwa [List.take_of_length_le (by omega)] at this⟩
 ·cases e with
  | inl q=>exact .ck (.so ⟨he.1,wN hs.2 hr he.2⟩)
  | inr z=>obtain ⟨q,y,rfl,h1,h2,h3,h4⟩:=he;exact .so (by unfold JE;dsimp only;rw [if_pos h1];exact ⟨r,y,by rw [h2];exact hr,h3,h4⟩)
 have:=hs.2;rw [List.take_of_length_le (by omega)] at this;unfold JE;dsimp only;rw [if_neg (by rw [hs.1];decide)];exact this
theorem f25 (g:gJ) (a:Int):Wk (bG (rY g a) (0,0,0,false)) (JE g.parts a):=by
 refine .lp (fun s=>s.2.2.2=false∧a∉nG (g.parts.take s.2.2.1)) (fun s hs=>?_) ⟨rfl,by simp [nG]⟩;unfold rY;refine .ie (fun hl=>.bd .id fun r hr=>.bd (Q:=fun e=>match e with | .inl q=>q.2.2=false∧a∉r.map (·.paragraph.anchor) | .inr z=>∃ q y,z=.inr q∧q.2.2=true∧q.1=s.2.2.1∧r[q.2.1]?=some y∧y.paragraph.anchor=a) (.lp (fun q=>q.2.2.2=false∧a∉(r.take q.2.2.1).map (·.paragraph.anchor)) (fun q hq=>?_) ⟨hs.1,by simp⟩) fun e he=>?_) fun hl=>.so ?_
 ·unfold AH;exact .ie (fun hl=>.bd .id fun y hy=>.ie (fun ha=>.so ⟨_,y,rfl,rfl,rfl,hy,ha⟩) fun ha=>.so ⟨hq.1,AT hq.2 hy ha⟩) fun hl=>.so ⟨hq.1,by have:=hq.2;rwa [List.take_of_length_le (by omega)] at this⟩
 ·cases e with
  | inl q=>exact .so ⟨he.1,wN hs.2 hr he.2⟩
  | inr z=>obtain ⟨q,y,rfl,h1,h2,h3,h4⟩:=he;exact .so (by unfold JE;dsimp only;rw [if_pos h1];exact ⟨r,y,by rw [h2];exact hr,h3,h4⟩)
 have:=hs.2;rw [List.take_of_length_le (by omega)] at this;unfold JE;dsimp only;rw [if_neg (by rw [hs.1];decide)];exact this
end T12
set_option maxHeartbeats 4000000
namespace T12
open Go Go.Proofs Pk
def g0 (v:bE):List (List bY):=v.parts.map fun p=>p.paragraphs.map fun y=>⟨y,false⟩
theorem aIy (v:bE):nG (g0 v)=A0 v:=by
 unfold nG g0 A0 lD
 induction v.parts with
 | nil=>rfl
 | cons p l ih=>simp only [List.map_cons,List.flatten_cons,List.map_append,List.flatMap_cons,ih,List.map_map];rfl
theorem g44 (v:bE):Wk (bG (vJ v) (0,([]:List (List bY)))) fun g=>g=g0 v:=by
 refine .lp (fun s=>s.2=(v.parts.take s.1).map fun p=>p.paragraphs.map fun y=>⟨y,false⟩) (fun s hs=>?_) rfl;unfold vJ;refine .ie (fun hl=>.bd .id fun p hp=>.bd (Q:=fun r=>r=p.paragraphs.map fun y=>⟨y,false⟩) (.lp (fun q=>q.2=(p.paragraphs.take q.1).map fun y=>⟨y,false⟩) (fun q hq=>?_) rfl) fun r hr=>.ck (.so ?_)) fun hl=>.so (by rw [hs,List.take_of_length_le (by omega)];rfl)
 ·unfold AF;exact .ie (fun hl=>.bd .id fun y hy=>.ck (.so (by dsimp only;rw [List.take_add_one,hy,hq];simp))) fun hl=>.so (by rw [hq,List.take_of_length_le (by omega)])
 dsimp only;rw [List.take_add_one,hp,hs,hr];simp
theorem IU {l:List aK} (h:l.Pairwise OT) {i:Nat} {to_:Int} (h1:∀ x∈l.take i,x.day≤to_) (h2:∀ x,l[i]?=some x→to_ < x.day):l.filter (fun x=>decide (x.day≤to_))=l.take i:=by
 conv=>lhs;rw [← List.take_append_drop i l]
 rw [List.filter_append,List.filter_eq_self.2 fun x hx=>decide_eq_true (h1 x hx)];have:(l.drop i).filter (fun x=>decide (x.day≤to_))=[]:=by
  rw [List.filter_eq_nil_iff];intro y hy
  cases hd:l.drop i with
  | nil=>rw [hd] at hy;cases hy
  | cons x r =>
   have hx:l[i]?=some x:=by rw [← Nat.add_zero i,← List.getElem?_drop,hd];rfl
   have h3:=h2 x hx;have h4:(x::r).Pairwise OT:=hd▸h.sublist (List.drop_sublist i l);rw [hd] at hy;rcases List.mem_cons.1 hy with rfl | h5
   ·simp;omega
   have:=(List.pairwise_cons.1 h4).1 y h5;unfold OT at this;simp;omega
 rw [this,List.append_nil]
noncomputable def JF (es:List aK) (to_:Int):List aK:=(oU es).filter fun x=>decide (x.day≤to_)
theorem a44 (v:bE) (es:List aK) (to_:Int) (he:Ve es):Wk (CW v es to_) fun r=>(nG r.parts).Perm (fA (A0 v) (JF es to_)):=by
 obtain ⟨hs1,hp1,hpw⟩:=oH he;unfold CW;refine .bd (g44 v) fun g hg=>.bd (Q:=fun g=>(nG g).Perm (fA (A0 v) (JF es to_))) (.bd (.eq (IM he.l)) fun l1 h1=>?_) fun g hg=>.so hg;subst h1;refine .bd (.eq hs1) fun l hl=>?_;subst hl;refine .bd (Q:=fun e=>match e with | .inl g=>(nG g).Perm (fA (A0 v) (JF l1 to_)) | .inr g=>(nG g).Perm (fA (A0 v) (JF l1 to_))) (.lp (fun s=>(nG s.2).Perm (fA (A0 v) ((oU l1).take s.1))∧∀ x∈(oU l1).take s.1,x.day≤to_) (fun s hs=>?_) ⟨by rw [hg,aIy];exact List.Perm.refl _,by simp⟩) fun e h=>by cases e <;> exact .so h
 have hst:∀ x,(oU l1)[s.1]?=some x→fA (A0 v) ((oU l1).take (s.1+1))=OV (fA (A0 v) ((oU l1).take s.1)) x:=fun x hx=>by
  unfold fA;rw [List.take_add_one,hx,List.foldl_append];rfl
 unfold vK;refine .ie (fun hlt=>.bd .id fun x hx=>.bd (Q:=fun r=>(r.1=true→to_ < x.day∧r.2=s.2)∧(r.1=false→x.day≤to_∧(nG r.2).Perm (fA (A0 v) ((oU l1).take (s.1+1))))) (.ie (fun hd=>.so ⟨fun _=>⟨hd,rfl⟩,fun h=>by cases h⟩) fun hd=>.bd (Q:=fun g=>(nG g).Perm (fA (A0 v) ((oU l1).take (s.1+1)))) ?_ fun g hg=>.so ⟨(fun h=>by cases h),fun _=>⟨by omega,hg⟩⟩) fun r hr=>.ie (fun h1=>.so ?_) fun h1=>.so ⟨(hr.2 (by simpa using h1)).2,fun y hy=>?_⟩) fun hge=>.so ?_
 ·have hmem:x.anchor∈fA (A0 v) ((oU l1).take s.1)↔x.anchor∈nG s.2:=hs.1.mem_iff.symm;refine .bd (Q:=fun t=>JE s.2 x.anchor (t.2.1,t.1,t.2.2)) (.bd (f44 s.2 x s.1) fun e he=>.so he) fun t ht=>?_;rw [hst x hx];unfold OV JE at *;dsimp only at ht;refine .bd (Q:=fun g=>(nG g).Perm (if x.kind=2∧x.anchor∈fA (A0 v) ((oU l1).take s.1) then x.new_::fA (A0 v) ((oU l1).take s.1) else fA (A0 v) ((oU l1).take s.1))) (.ie (fun hf=>?_) fun hf=>.so ?_) fun g hg=>.so hg
  ·rw [if_pos hf] at ht;obtain ⟨r,y,h1,h2,h3⟩:=ht;refine .bt fun _=>.ck (.ie (fun hk=>?_) fun _=>.ie (fun hk=>?_) fun _=>.ie (fun hk=>?_) fun _=>.no)
   ·rw [if_neg (by omega)];refine .bd (Q:=fun g=>(nG g).Perm (fA (A0 v) ((oU l1).take s.1))) (.bd (.eq h1) fun r' e1=>.bd .id fun y' hy'=>.bd (Q:=fun g=>(nG g).Perm (fA (A0 v) ((oU l1).take s.1))) (.ie (fun _=>.so hs.1) fun _=>.so ?_) fun g hg=>.so hg) fun g hg=>.so hg;subst e1;rw [AS h1 hy' (z:=⟨⟨y'.paragraph.anchor,x.text⟩,y'.removed⟩) rfl];exact hs.1
   ·rw [if_neg (by omega)];refine .bd (Q:=fun g=>(nG g).Perm (fA (A0 v) ((oU l1).take s.1))) (.bd (.eq h1) fun r' e1=>.bd .id fun y' hy'=>.so ?_) fun g hg=>.so hg;subst e1;rw [AS h1 hy' (z:=⟨y'.paragraph,true⟩) rfl];exact hs.1
   rw [if_pos ⟨hk,hmem.2 (by
    rw [← h3]
    exact List.mem_map.2 ⟨y,List.mem_flatten.2 ⟨r,List.mem_of_getElem? h1,List.mem_of_getElem? h2⟩,rfl⟩)⟩]
   refine .bd (Q:=fun g=>(nG g).Perm (x.new_::fA (A0 v) ((oU l1).take s.1))) (.bd (.eq h1) fun r' e1=>.ck (.ck (.ck (.so ?_)))) fun g hg=>.so hg;subst e1;exact (ND h1 _).trans (hs.1.cons _)
  rw [if_neg hf] at ht;rw [if_neg fun h=>ht (hmem.1 h.2)];exact hs.1
 ·obtain ⟨h2,h3⟩:=hr.1 h1;rw [h3];unfold JF;rw [IU hpw hs.2 fun z hz=>by rw [hx] at hz;cases hz;exact h2];exact hs.1
 ·dsimp only at hy;rw [List.take_add_one,hx] at hy;rcases List.mem_append.1 hy with h | h
  ·exact hs.2 y h
  simp only [Option.toList,List.mem_singleton] at h;subst h;exact (hr.2 (by simpa using h1)).1
 have hll:=hp1.length_eq;unfold JF;rw [IU hpw hs.2 fun z hz=>by have:=(List.getElem?_eq_some_iff.1 hz).1;omega];exact hs.1
theorem p44 {v:bE} {es:List aK} (hv:Vv v) (he:Ve es) (hd:∀ x∈es,v.bound < x.day):CW v es v.bound=some ⟨v,g0 v⟩:=by
 obtain ⟨hs1,hp1,_⟩:=oH he;obtain ⟨r,h1,h2,_⟩:=ZB v es v.bound hv he;have h3:Wk (CW v es v.bound) fun r=>r.parts=g0 v:=by
  unfold CW;refine .bd (g44 v) fun g hg=>.bd (Q:=fun g=>g=g0 v) (.bd (.eq (IM he.l)) fun l1 h1=>?_) fun g hg=>.so hg;subst h1;refine .bd (.eq hs1) fun l hl=>.bd (Q:=fun e=>match e with | .inl g=>g=g0 v | .inr g=>g=g0 v) (.lp (fun s=>s.1=0∧s.2=g0 v) (fun s hs=>?_) ⟨rfl,hg⟩) fun e h=>by cases e <;> exact .so h
  subst hl;unfold vK;refine .ie (fun hlt=>.bd .id fun x hx=>?_) fun hge=>.so hs.2;have hx2:=hd x (hp1.mem_iff.1 (List.mem_of_getElem? hx));exact .bd (Q:=fun r=>r=(true,g0 v)) (.ie (fun _=>.so (by rw [hs.2])) fun h=>absurd hx2 h) fun r hr=>.ie (fun _=>.so (by rw [hr])) fun h=>by rw [hr] at h;exact absurd rfl h
 rw [h1];have h4:=h3 r h1;cases r;simp only at h2 h4;rw [h2,h4]
theorem ve0:Ve []:=⟨by simp,by simp,by simp⟩
theorem p23 {v:bE} {es:List aK} (hv:Vv v) (he:Ve es) (hd:∀ x∈es,v.bound < x.day):CX v es=CX v []:=by
 unfold CX;rw [p44 hv he hd,p44 hv ve0 (by simp)]
theorem q25 {v:bE} {es:List aK} (h:rB v es=some 0) (hv:Vv v) (he:Ve es) (a to_:Int):Wk (KX v es a to_) fun r=>(r.2.2=0→(0≤to_∧to_≤99999)∧(1≤a∧a≤999)∧a∈fA (A0 v) (JF es to_))∧(0≤to_→to_≤99999→a∈fA (A0 v) (JF es to_)→r.2.2=0):=by
 unfold KX;refine .bd (.eq h) fun r0 h0=>.ie (fun h1=>absurd h0 h1) fun _=>.bd (.eq (MV _)) fun b hb=>.ie (fun hbt=>?_) fun hbf=>.so ⟨by simp,fun h1 h2=>?_⟩
 ·subst hb;simp only [decide_eq_true_eq] at hbt;refine .bd ((ZB v es to_ hv he).wk.and (a44 v es to_ he)) fun g hg=>.bd (Q:=fun t=>JE g.parts a (t.2.1,t.1,t.2.2)) (.bd (f25 g a) fun e he=>.so he) fun t ht=>?_;unfold JE at ht;dsimp only at ht;refine .ie (fun h1=>?_) fun h1=>.so ⟨by simp,fun _ _ h2=>?_⟩
  ·rw [if_pos h1] at ht;obtain ⟨r,y,h2,h3,h4⟩:=ht;refine .bt fun _=>.bt fun _=>.so ⟨fun _=>⟨hbt,?_,?_⟩,fun _ _ _=>rfl⟩
   ·rw [← h4];exact ((hg.1.2.2 r (List.mem_of_getElem? h2)).2 y (List.mem_of_getElem? h3)).2.1
   rw [← hg.2.mem_iff,← h4];exact List.mem_map.2 ⟨y,List.mem_flatten.2 ⟨r,List.mem_of_getElem? h2,List.mem_of_getElem? h3⟩,rfl⟩
  rw [if_neg h1] at ht;exact absurd (hg.2.mem_iff.2 h2) ht
 subst hb;simp at hbf;omega
def yW (v:bE) (es:List aK):Prop:=∀ x∈es,v.bound < x.day
def Rc (v:bE) (es:List aK) (c:aE):Prop:=∃ a d,∀ more,yW v more→rB v (es++more)=some 0→LV v (es++more) c=some (a,d,0)
theorem Rc.app {v:bE} {es m:List aK} {c:aE} (h:Rc v es c) (hm:yW v m):Rc v (es++m) c:=by
 obtain ⟨a,d,h⟩:=h;refine ⟨a,d,fun more h1 h2=>?_⟩;rw [List.append_assoc] at h2 ⊢;exact h _ (fun x hx=>by rcases List.mem_append.1 hx with q | q;exact hm x q;exact h1 x q) h2
theorem TI {a b:Int} (ha : -1000000≤a∧a≤1000000) (hb:0≤b∧b≤60) : -60000000≤a*b∧a*b≤60000000:=by
 have h1:a*b≤1000000*b:=Int.mul_le_mul_of_nonneg_right ha.2 hb.1;have h2 : -1000000*b≤a*b:=Int.mul_le_mul_of_nonneg_right ha.1 hb.1;omega
def Cp (v:bE) (p:cK) (c:gE):Prop:=c.numbers.e0=v.number∧((c.style=0∧c.numbers.e1=p.place.column∧c.numbers.e2=p.place.line)∨(c.style=1∧c.numbers.e1=p.day∧c.numbers.e2=p.number))
theorem ZN {v:bE} {L:List cK} {p:cK} {c:gE} (hv:Vv v) (hL:∀ x∈L,Pd v x) (hp:p∈L) (hc:Cp v p c) (h1:0≤c.numbers.e1∧c.numbers.e1≤999999) (h2:0≤c.numbers.e2∧c.numbers.e2≤999999):T (bG (AK L (c,true) v) 0) fun e=>∃ a,e=.inr (a,v.bound,0):=by
 obtain ⟨k,hk⟩:=List.getElem?_of_mem hp;have hkl:=(List.getElem?_eq_some_iff.1 hk).1;have hh:=hv.h;refine T.ix L.length id (fun i=>i≤k) (fun i hi hl=>?_) (Nat.zero_le _) (Nat.zero_le _);simp only [id] at hi hl;unfold AK;refine T.ie (fun hlt=>T.bd (T.at (by omega)) fun x hx=>?_) fun h=>by omega
 obtain ⟨⟨_,hb1⟩,hb2,hb3,_⟩:=hL x (List.mem_of_getElem? hx);have hpb:=(hL p hp);have hm:=TI (a:=c.numbers.e1 - x.place.column) (b:=v.height) ⟨by omega,by omega⟩ ⟨by omega,by omega⟩;have hxp:i=k→x=p:=fun e=>by subst e;rw [hk] at hx;cases hx;rfl
 dsimp only;refine .ck (by omega) (.ck (by omega) (.ck (by omega) (.ck (by omega) ?_)));refine T.bd (Q:=fun t=>i=k→c.style=1→t=true) (T.ie (fun h=>.mk fun e hs=>?_) fun h=>.mk fun e hs=>?_) fun t ht=>T.bd (Q:=fun t=>i=k→t=true) (T.ie (fun hs=>T.bd (Q:=fun t=>i=k→t=true) ?_ fun t ht=>.mk ht) fun hs=>.mk fun e=>ht e (by rcases hc.2 with q | q;exact absurd q.1 hs;exact q.1)) fun t ht=>T.bd (Q:=fun t=>i=k→t=true) (T.ie (fun h=>.mk fun e=>decide_eq_true hc.1) fun h=>.mk fun e=>absurd (ht e) h) fun t ht=>T.ie (fun h=>.mk ⟨_,rfl⟩) fun h=>.mk ⟨?_,rfl,by simpa using (by omega:i < L.length)⟩
 ·have:=hxp e;subst this;rcases hc.2 with q | q
  ·omega
  exact decide_eq_true q.2.2.symm
 ·have:=hxp e;subst this;rcases hc.2 with q | q
  ·omega
  exact absurd q.2.1.symm h
 ·refine T.bd (.ok (rH _ _ _)) fun b hb=>T.ie (fun _=>.ck (by omega) (T.bd (.ok (rH _ _ _)) fun b2 hb2=>.mk fun e=>?_)) fun h=>.mk fun e=>?_
  ·have:=hxp e;subst this;rcases hc.2 with q | q
   ·rw [hb2];refine decide_eq_true ?_;rw [q.2.1,q.2.2,Int.sub_self,Int.zero_mul];omega
   omega
  have:=hxp e;subst this;rcases hc.2 with q | q
  ·subst hb;simp at h;omega
  omega
 have:i≠k:=fun e=>h (ht e);show i+1≤k;omega
theorem ZO {v:bE} {es:List aK} {L:List cK} {p:cK} {c:gE} {s:aE} (hps:Ps v) (h7:CX v es=some L) (hb:yW v es) (hv:Vv v) (he:Ve es) (hL:∀ x∈L,Pd v x) (hp:p∈L) (hc:Cp v p c) (h1:0≤c.numbers.e1∧c.numbers.e1≤999999) (h2:0≤c.numbers.e2∧c.numbers.e2≤999999) (h8:JA s=some (.inl c)):Rc v es s:=by
 obtain ⟨e,h3,a,rfl⟩:=ZN hv hL hp hc h1 h2;refine ⟨a,v.bound,fun more hm h0=>?_⟩;obtain ⟨_,h4,h5⟩:=t85 v (es++more) hps;rw [h0] at h4;cases h4;have hE:=(h5 rfl).2;have h6:CX v (es++more)=some L:=by
  rw [p23 hv hE fun x hx=>by rcases List.mem_append.1 hx with q | q;exact hb x q;exact hm x q,← p23 hv he hb,h7]
 unfold LV m24;rw [h0,h8];simp only [Option.bind_some,ne_eq,not_true_eq_false,if_false,Option.map_some,if_true];rw [if_neg (by rcases hc.2 with q | q <;> omega),h6];simp only [Option.bind_some];rw [h3];rfl
theorem aIz {v:bE} {es:List aK} {a to_:Int} (hps:Ps v) (he:Ve es) (ht:0≤to_∧to_≤99999) (ha:1≤a∧a≤999) (hf:a∈fA (A0 v) (JF es to_)):Rc v es (lE a to_):=by
 refine ⟨a,to_,fun more hm h0=>?_⟩;obtain ⟨_,h4,h5⟩:=t85 v (es++more) hps;rw [h0] at h4;cases h4;obtain ⟨hv,hE⟩:=h5 rfl;have h6:a∈fA (A0 v) (JF (es++more) to_):=ZM ((NC he hE).filter _) (fun _ h=>h) a hf;obtain ⟨r,h7,_⟩:=t58 v (es++more) a to_ hps;have h8:=(q25 h0 hv hE a to_ r h7).2 ht.1 ht.2 h6;unfold LV m24;rw [h0,ZL (by omega) ht];simp only [Option.bind_some,ne_eq,not_true_eq_false,if_false,Option.map_some,if_true];rw [h7];simp only [Option.bind_some,h8,ne_eq,not_true_eq_false,if_false]
theorem rc {v:bE} {es:List aK} (hps:Ps v) (hdy:∀ p∈v.parts,0≤p.day∧p.day≤99999) (h3:rB v es=some 0) (hb:yW v es) (a st to_:Int) (hst:0≤st):Wk (sX v es a st to_) fun r=>r.2=0→Rc v es r.1:=by
 obtain ⟨_,h4,h5⟩:=t85 v es hps;rw [h3] at h4;cases h4;obtain ⟨hv,he⟩:=h5 rfl;have hn:=hv.n;have hh:=hv.h;unfold sX;refine .bd (.eq h3) fun r0 h0=>.ie (fun h1=>absurd h0 h1) fun _=>.bd (Q:=fun t=>t=false→st≤2) (.ie (fun _=>.so (by simp)) fun h=>.ie (fun _=>.bt fun _=>.so fun _=>by omega) fun _=>.so fun _=>by omega) fun t ht=>.ie (fun _=>.so (by simp)) fun hf=>.ie (fun h2=>.bd (q25 h3 hv he a to_) fun r hr=>.ie (fun h=>.so fun h0=>absurd h0 h) fun h=>?_) fun h2=>?_
 ·obtain ⟨h6,h7,h8⟩:=hr.1 (by omega);refine .bd (.eq (ZH (by omega) (by omega))) fun q hq=>.so fun _=>?_;rw [hq];exact aIz hps he h6 h7 h8
 have hst2:=ht (by simpa using hf);refine .bd (Wk.and .id (t88 v es hv he).wk) fun L hL=>.bd (Q:=fun e=>match e with | .inl _=>True | .inr z=>Rc v es z.1) (.lp (fun _=>True) (fun i _=>?_) trivial) fun e he=>?_
 ·unfold sW;refine .ie (fun hlt=>.bd .id fun x hx=>.ie (fun _=>.so trivial) fun _=>?_) fun _=>.so trivial;have hxm:=List.mem_of_getElem? hx;obtain ⟨_,b1,b2,b3,p,hp,hpd⟩:=hL.2.2 x hxm;have hd:=hdy p hp;refine .ie (fun h=>.bd (.eq (ZF (by omega) (by omega) (by omega))) fun q hq=>.so ?_) fun h=>.bd (.eq (ZG (by omega) (by omega) (by omega))) fun q hq=>.so ?_
  ·rw [hq];exact ZO (c:=⟨0,⟨v.number,x.place.column,x.place.line⟩⟩) hps hL.1 hb hv he hL.2.2 hxm ⟨rfl,.inl ⟨rfl,rfl,rfl⟩⟩ ⟨by dsimp only;omega,by dsimp only;omega⟩ ⟨by dsimp only;omega,by dsimp only;omega⟩ (ZJ (by omega) (by omega) (by omega))
  rw [hq];exact ZO (c:=⟨1,⟨v.number,x.day,x.number⟩⟩) hps hL.1 hb hv he hL.2.2 hxm ⟨rfl,.inr ⟨rfl,rfl,rfl⟩⟩ ⟨by dsimp only;omega,by dsimp only;omega⟩ ⟨by dsimp only;omega,by dsimp only;omega⟩ (ZK (by omega) (by omega) (by omega))
 cases e with
 | inl _=>exact .so (by simp)
 | inr z=>exact .so fun _=>he
end T12
set_option maxHeartbeats 4000000
namespace T12
open Go Go.Proofs Pk
structure Bi (b:cV):Prop where
 ub:b.bound=false→b.errata=[]∧b.cites=[]
 ck:b.bound=true→rB b.volume b.errata=some 0
 bd:b.bound=true→yW b.volume b.errata
 ct:b.bound=true→∀ c∈b.cites,Rc b.volume b.errata c
def Ex (s t:cV):Prop:=s.bound=true→t.bound=true∧t.volume=s.volume∧(∃ m,t.errata=s.errata++m∧yW s.volume m)∧∃ mc,t.cites=s.cites++mc
theorem Ex.refl (s:cV):Ex s s:=fun h=>⟨h,rfl,⟨[],by simp,by simp [yW]⟩,[],by simp⟩
theorem Ex.trans {s t u:cV} (h:Ex s t) (k:Ex t u):Ex s u:=fun hs=>by
 obtain ⟨h1,h2,⟨m,h3,h4⟩,mc,h5⟩:=h hs;obtain ⟨k1,k2,⟨n,k3,k4⟩,nc,k5⟩:=k h1;refine ⟨k1,k2.trans h2,⟨m++n,by rw [k3,h3,List.append_assoc],fun x hx=>?_⟩,mc++nc,by rw [k5,h5,List.append_assoc]⟩;rcases List.mem_append.1 hx with q | q
 ·exact h4 x q
 rw [← h2];exact k4 x q
theorem c43 (v:bE) (h:Ps v):T (QZ v []) fun r=>r=0:=by
 unfold QZ;refine T.bd (.ok (TV v h)) fun ps _=>T.bd (Q:=fun _=>True) (T.ix ps.length (·.1) (fun _=>True) (fun s _ hi=>?_) trivial (Nat.zero_le _)) fun t _=>T.bd (Q:=fun t=>∃ x,t=.inl x) (T.bd (.ok (IM (by simp))) fun l1 h1=>?_) fun t ht=>?_
 ·unfold AB;exact T.ie (fun hl=>T.bd (T.at (by omega)) fun x hx=>.mk ⟨trivial,rfl,by omega⟩) fun _=>.mk trivial
 ·subst h1;exact T.bd (.ok (oH ve0).1) fun l _=>T.bd (.ok (dX (e:=.inl t) (by unfold AC;rw [if_neg (by simp)]))) fun e he=>by subst he;exact .mk ⟨t,rfl⟩
 obtain ⟨x,rfl⟩:=ht;exact .mk rfl
theorem c22 {v:bE} (h:Ps v) (h0:IZ v=some 0):rB v []=some 0:=by
 suffices hh:T (rB v []) (fun r=>r=0) by obtain ⟨_,h,rfl⟩:=hh;exact h
 unfold rB;refine T.bd (.ok h0) fun r hr=>T.ie (fun h=>absurd hr h) fun _=>T.ie (fun h=>by simp at h) fun _=>T.bd (.ok (YU [] _ (fun _=>true) (by simp))) fun b hb=>T.ie (fun _=>T.bd (.ok (TV v h)) fun ps _=>T.bd (Q:=fun _=>True) (T.ix ps.length (·.1) (fun _=>True) (fun s _ hi=>?_) trivial (Nat.zero_le _)) fun t _=>T.bd (.ok (dX (e:=.inl ([],t)) (by unfold AE;rw [if_neg (by simp)]))) fun e he=>?_) fun h=>absurd hb h
 ·unfold AD;exact T.ie (fun hl=>T.bd (T.at (by omega)) fun x hx=>.mk ⟨trivial,rfl,by omega⟩) fun _=>.mk trivial
 subst he;exact T.bd (c43 v h) fun r hr=>.mk hr
theorem ZP {k:Nat} {s t:cV} (hs:Si k s) (hk:k≤100) (h:Bi s) (hn:Nx s t):Bi t∧Ex s t:=by
 cases hn with
 | same h1 h2 h3 h4 =>
  refine ⟨⟨fun hb=>?_,fun hb=>?_,fun hb=>?_,fun hb=>?_⟩,fun hb=>⟨by rw [h1,hb],h2,⟨[],by simp [h3],by simp [yW]⟩,[],by simp [h4]⟩⟩
  ·rw [h3,h4];exact h.ub (by rw [← h1,hb])
  ·rw [h2,h3];exact h.ck (by rw [← h1,hb])
  ·rw [h2,h3];exact h.bd (by rw [← h1,hb])
  rw [h2,h3,h4];exact h.ct (by rw [← h1,hb])
 | say h1 h2 h3 h4 =>
  have hf:∀ {P:Prop},t.bound=true→P:=fun hb=>by rw [h2] at hb;cases hb
  exact ⟨⟨fun _=>by rw [h3,h4];exact h.ub h1,hf,hf,hf⟩,fun hb=>by rw [h1] at hb;cases hb⟩
 | bind h1 h2 h3 h4 h5 h6 =>
  obtain ⟨e1,e2⟩:=h.ub h1;rw [e1] at h3;rw [e2] at h4;refine ⟨⟨(fun hb=>by rw [h2] at hb;cases hb),fun _=>?_,fun _=>by rw [h3];simp [yW],fun _=>by rw [h4];simp⟩,fun hb=>by rw [h1] at hb;cases hb⟩;have hp:=hs.ps hk;rw [h3];exact c22 (by unfold Ps at *;rw [h5];exact hp) h6
 | erratum h1 h2 h3 h4 x h5 h6 h7 =>
  have hx:yW s.volume [x]:=fun y hy=>by rw [List.mem_singleton.1 hy];exact h6
  refine ⟨⟨(fun hb=>by rw [h2] at hb;cases hb),fun _=>by rw [h3];exact h7,fun _=>?_,fun _=>?_⟩,fun _=>⟨h2,h3,⟨[x],h5,hx⟩,[],by simp [h4]⟩⟩
  ·rw [h3,h5];intro y hy;rcases List.mem_append.1 hy with q | q
   ·exact h.bd h1 y q
   exact hx y q
  rw [h3,h4,h5];exact fun c hc=>(h.ct h1 c hc).app hx
 | cite h1 h2 h3 h4 c h5 a st h6 h7 =>
  refine ⟨⟨(fun hb=>by rw [h2] at hb;cases hb),fun _=>by rw [h3,h4];exact h.ck h1,fun _=>by rw [h3,h4];exact h.bd h1,fun _=>?_⟩,fun _=>⟨h2,h3,⟨[],by simp [h4],by simp [yW]⟩,[c],h5⟩⟩;rw [h3,h4,h5];intro d hd;rcases List.mem_append.1 hd with q | q
  ·exact h.ct h1 d q
  rw [List.mem_singleton.1 q];exact rc (hs.ps hk) (fun p hp=>(hs.pp p hp).2) (h.ck h1) (h.bd h1) a st s.day h7 _ h6 rfl
theorem bi0:Bi s0.state:=⟨fun _=>⟨rfl,rfl⟩,(fun h=>by cases h),(fun h=>by cases h),(fun h=>by cases h)⟩
theorem yX (ls:List aE):AQ ls→Bi (iC ls).1.state∧∀ i,Ex (iC (ls.take i)).1.state (iC ls).1.state:=by
 refine wG (P:=fun ls=>AQ ls→Bi (iC ls).1.state∧∀ i,Ex (iC (ls.take i)).1.state (iC ls).1.state) (fun _=>⟨bi0,fun i=>by rw [List.take_nil];exact Ex.refl _⟩) (fun l x ih h=>?_) ls;obtain ⟨q,h1,_,h3⟩:=AR h;obtain ⟨h4,h5⟩:=ih h.init.1;have h6:=ZP (tQ l h.init.1).1 (by have:=h.init.2.1;omega) h4 (z38 q h1);have h7:(iC (l++[x])).1=q.1:=by rw [h3]
 refine ⟨by rw [h7];exact h6.1,fun i=>?_⟩;by_cases hi:i≤l.length
 ·rw [List.take_append_of_le_length hi,h7];exact (h5 i).trans h6.2
 rw [List.take_of_length_le (by simp;omega)];exact Ex.refl _
theorem NE {ls:List aE} (h:AQ ls) {i k:Nat} (hik:i≤k):Ex (iC (ls.take i)).1.state (iC (ls.take k)).1.state:=by
 have:=(yX _ (h.take k)).2 i
 rwa [List.take_take,Nat.min_eq_left hik] at this
theorem aI0 {v:bE} {es:List aK} (hps:Ps v) (h1:rB v es=some 0) (hb:yW v es):∃ pl,∀ more,yW v more→rB v (es++more)=some 0→OM v (es++more)=some (pl,0):=by
 obtain ⟨_,h4,h5⟩:=t85 v es hps;rw [h1] at h4;cases h4;obtain ⟨hv,he⟩:=h5 rfl;obtain ⟨L,h6,h7,_⟩:=t88 v es hv he;obtain ⟨pl,h8,_⟩:T (bG (AJ L) (0,([]:List iA))) fun _=>True:=by
  refine T.ix L.length (·.1) (fun s=>s.2.length=s.1) (fun s hs hi=>?_) rfl (Nat.zero_le _);unfold AJ;exact T.ie (fun hl=>T.bd (T.at (by omega)) fun x hx=>.ck (by omega) (.mk ⟨by simp [hs],rfl,by omega⟩)) fun _=>.mk trivial
 refine ⟨pl,fun more hm h0=>?_⟩;obtain ⟨_,k4,k5⟩:=t85 v (es++more) hps;rw [h0] at k4;cases k4;have hE:=(k5 rfl).2;unfold OM;rw [h0,p23 hv hE fun x hx=>by rcases List.mem_append.1 hx with q | q;exact hb x q;exact hm x q,← p23 hv he hb,h6];simp only [Option.bind_some,ne_eq,not_true_eq_false,if_false];rw [h8];rfl
theorem ZQ (awk:m7=some true) (ls:List aE) (one two:Int) (ho:0≤one∧one≤255) (ht:0≤two∧two≤255) (hls:∀ s∈ls,s.length≤9223372036854775807):m3 ls one two=some true:=by
 suffices h:T (m3 ls one two) (fun r=>r=true) by obtain ⟨_,h,rfl⟩:=h;exact h
 have hw:T m7 (fun r=>r=true):=⟨true,awk,rfl⟩;unfold m3;refine T.bd (Q:=fun t=>t=false→Rt ls) (T.bd (r6 ls hls) fun r _=>T.ie (fun _=>T.bd (r7 ls) fun r h=>.mk fun h2=>h (by simpa using h2)) fun _=>.mk (by simp)) fun t ht=>T.ie (fun _=>T.bd hw fun r hr=>.mk hr) fun hf=>?_;have hR:=ht (by simpa using hf);have hL:=hR.lin;have h0:=hR.1;obtain ⟨i,hi,hil⟩:∃ i:Nat,one%((ls.length:Int)+1)=(i:Int)∧i≤ls.length:=⟨(one%((ls.length:Int)+1)).toNat,by have:=Int.emod_nonneg one (b:=(ls.length:Int)+1) (by omega);omega,by have:=Int.emod_lt_of_pos one (b:=(ls.length:Int)+1) (by omega);omega⟩;rw [hi];obtain ⟨d,hd,hdl⟩:∃ d:Nat,two%((ls.length:Int) - (i:Int)+1)=(d:Int)∧i+d≤ls.length:=⟨(two%((ls.length:Int) - (i:Int)+1)).toNat,by have:=Int.emod_nonneg two (b:=(ls.length:Int) - (i:Int)+1) (by omega);omega,by have:=Int.emod_lt_of_pos two (b:=(ls.length:Int) - (i:Int)+1) (by omega);omega⟩;rw [hd,show ((i:Int)+(d:Int)).toNat=i+d by omega,Int.toNat_natCast];have hRi:=hR.take i;have hRk:=hR.take (i+d);refine .ck (by omega) (.ck (by omega) (.ck (by omega) (.ck (by omega) (.ck (by omega) (.ck (by omega) (.ck (by omega) (.ck hil (T.bd (.ok (r10 (ls:=ls.take i) (by rw [List.length_take];omega))) fun a1 h1=>?_))))))));subst h1;refine T.bd (T.run hRi) fun a2 h2=>.ck hdl (T.bd (.ok (r10 (ls:=ls.take (i+d)) (by rw [List.length_take];omega))) fun b1 hb1=>?_);subst hb1;refine T.bd (T.run hRk) fun b2 hb2=>?_;have hbi:=(yX _ hRi.lin).1;have hbk:=(yX _ hRk.lin).1;have hex:=NE hL (Nat.le_add_right i d);have hsi:=(tQ _ hRi.lin).1;have hps:=hsi.ps (by have:=hRi.1;omega);subst h2 hb2;dsimp only;generalize (iC (ls.take i)).1.state=s at *;generalize (iC (ls.take (i+d))).1.state=t at *;refine T.bd (Q:=fun t=>t=false) (T.ie (fun h=>absurd rfl h) fun _=>.mk rfl) fun b hb=>T.ie (fun h=>by rw [hb] at h;cases h) fun _=>T.ie (fun hsb=>?_) fun hsb=>?_
 ·obtain ⟨e1,e2,⟨m,e3,e4⟩,mc,e5⟩:=hex hsb;obtain ⟨pl,hpl⟩:=aI0 hps (hbi.ck hsb) (hbi.bd hsb);have hck:=hbk.ck e1;rw [e2,e3] at hck;have p1:OM s.volume s.errata=some (pl,0):=by have:=hpl [] (by simp [yW]) (by rw [List.append_nil];exact hbi.ck hsb);rwa [List.append_nil] at this
  have p2:OM t.volume t.errata=some (pl,0):=by rw [e2,e3];exact hpl m e4 hck
  refine T.bd (.ok p1) fun q1 w1=>T.bd (.ok p2) fun q2 w2=>?_;subst w1 w2;refine T.bd (Q:=fun t=>t=false) (T.ie (fun h=>absurd rfl h) fun _=>T.ie (fun h=>absurd rfl h) fun _=>T.ie (fun h=>absurd rfl h) fun _=>T.ie (fun _=>.mk (decide_eq_false (by rw [e5];simp;omega))) fun h=>absurd e1 h) fun b hb=>T.ie (fun h=>by rw [hb] at h;cases h) fun _=>?_;refine T.bd (Q:=fun e=>e=.inl ()) (T.ix pl.length id (fun _=>True) (fun j _ hj=>?_) trivial (Nat.zero_le _)) fun e he=>?_
  ·simp only [id] at hj;unfold RU;dsimp only;refine T.ie (fun hl=>?_) fun _=>.mk rfl;have hjl:j < pl.length:=by omega
   exact T.bd (T.at hjl) fun x hx=>T.bd (.ok hx) fun y hy=>T.ie (fun _=>.mk ⟨trivial,rfl,by simpa using hjl⟩) fun h=>absurd hy.symm h
  subst he;refine T.bd (Q:=fun e=>e=.inl ()) (T.ix s.cites.length id (fun _=>True) (fun j _ hj=>?_) trivial (Nat.zero_le _)) fun e he=>by subst he;exact T.bd hw fun r hr=>.mk hr
  simp only [id] at hj;unfold RV;dsimp only;refine T.ie (fun hl=>?_) fun _=>.mk rfl;have hjl:j < s.cites.length:=by omega
  refine T.bd (T.at hjl) fun c hc=>?_;obtain ⟨a,dd,hr⟩:=hbi.ct hsb c (List.mem_of_getElem? hc);have r1:LV s.volume s.errata c=some (a,dd,0):=by have:=hr [] (by simp [yW]) (by rw [List.append_nil];exact hbi.ck hsb);rwa [List.append_nil] at this
  have r2:LV t.volume t.errata c=some (a,dd,0):=by rw [e2,e3];exact hr m e4 hck
  refine T.bd (.ok r1) fun q1 w1=>T.bd (.ok (show t.cites[j]?=some c by rw [e5,List.getElem?_append_left hjl,hc])) fun c2 hc2=>?_;subst hc2;refine T.bd (.ok r2) fun q2 w2=>?_;subst w1 w2;exact T.bd (Q:=fun t=>t=false) (T.ie (fun h=>absurd rfl h) fun _=>T.ie (fun h=>absurd rfl h) fun _=>T.ie (fun h=>absurd rfl h) fun _=>T.ie (fun h=>absurd rfl h) fun _=>.mk (decide_eq_false fun h=>h rfl)) fun b hb=>T.ie (fun h=>by rw [hb] at h;cases h) fun _=>.mk ⟨trivial,rfl,by simpa using hjl⟩
 have hu:=hbi.ub (by simpa using hsb);refine T.bd (Q:=fun r=>r=true) ?_ fun r hr=>.mk hr;rw [hu.1,hu.2];exact .ck (by simp) (T.ie (fun _=>T.bd hw fun r hr=>.mk hr) fun h=>absurd rfl h)
end T12
