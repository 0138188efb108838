/-
  The plain laws: what the models of a session come to.
-/
import Derived.Test.YtaandmcgkjciiaaGreatDoorMade
import Derived.Test.YtaandmcgkjciiaaGreatDoorKitSix
import Derived.Lib.AtoiAllCases
import Derived.Lib.IndexMore
set_option linter.all false
set_option maxRecDepth 100000
namespace T12
theorem awk:m8=some true:=by kernel_rfl
end T12
set_option maxHeartbeats 4000000
namespace T12
open Go Go.Proofs Pk
def T {α:Type} (o:Option α) (P:α→Prop):Prop:=∃ v,o=some v∧P v
theorem T.mk {α:Type} {v:α} {P:α→Prop} (h:P v):T (some v) P:=⟨v,rfl,h⟩
theorem T.bd {α β:Type} {o:Option α} {f:α→Option β} {Q:α→Prop} {P:β→Prop} (h:T o Q) (k:∀ v,Q v→T (f v) P):T (o.bind f) P:=by
 obtain ⟨v,rfl,hv⟩:=h;exact k v hv
theorem T.mono {α:Type} {o:Option α} {Q P:α→Prop} (h:T o Q) (k:∀ v,Q v→P v):T o P:=by
 obtain ⟨v,h1,hv⟩:=h;exact ⟨v,h1,k v hv⟩
theorem T.ck {α:Type} {c:Prop} [Decidable c] {o:Option α} {P:α→Prop} (hc:c) (h:T o P):T (bW c o) P:=by
 unfold bW;rw [if_pos hc];exact h
theorem T.ie {α:Type} {c:Prop} [Decidable c] {a b:Option α} {P:α→Prop} (h1:c→T a P) (h2:¬c→T b P):T (if c then a else b) P:=by
 by_cases h:c
 ·rw [if_pos h];exact h1 h
 rw [if_neg h];exact h2 h
theorem T.at {α:Type} {l:List α} {i:Nat} (h:i < l.length):T (l[i]?) (fun x=>l[i]?=some x):=⟨l[i],List.getElem?_eq_getElem h,List.getElem?_eq_getElem h⟩
theorem T.mem {α:Type} {l:List α} {i:Nat} (h:i < l.length):T (l[i]?) (fun x=>x∈l):=⟨l[i],List.getElem?_eq_getElem h,List.getElem_mem h⟩
theorem T.lp {σ ε:Type} {step:σ→Option (σ⊕ε)} (I:σ→Prop) (μ:σ→Nat) {Q:ε→Prop} (h:∀ s,I s→T (step s) (fun r=>match r with | .inl s'=>I s'∧μ s' < μ s | .inr e=>Q e)) {s0:σ} (h0:I s0):T (bC step s0) Q:=by
 have:∀ n s,μ s=n→I s→T (bC step s) Q:=by
  intro n
  induction n using Nat.strongRecOn with
  | _ n ih =>
   intro s hn hI;obtain ⟨v,h1,h2⟩:=h s hI
   cases v with
   | inl s'=>rw [eO h1];exact ih (μ s') (by have:=h2.2;omega) s' rfl h2.1
   | inr e=>rw [dS h1];exact ⟨e,rfl,h2⟩
 exact this _ s0 rfl h0
theorem T.ix {σ ε:Type} {step:σ→Option (σ⊕ε)} (n:Nat) (ix:σ→Nat) (I:σ→Prop) {Q:ε→Prop} (h:∀ s,I s→ix s≤n→T (step s) (fun r=>match r with | .inl s'=>I s'∧ix s'=ix s+1∧ix s < n | .inr e=>Q e)) {s0:σ} (h0:I s0) (h1:ix s0≤n):T (bC step s0) Q :=
 T.lp (fun s=>I s∧ix s≤n) (fun s=>n - ix s) (fun s hs=>(h s hs.1 hs.2).mono fun v hv=>by
  cases v with
  | inl s'=>have:=hv.2;exact ⟨⟨hv.1,by omega⟩,by omega⟩
  | inr e=>exact hv) ⟨h0,h1⟩
theorem T.rc {β:Type} {F:Nat→Option β} {P:β→Prop} (h:T (F 100000) P):T (vO F) P:=by
 obtain ⟨v,h1,hv⟩:=h;exact ⟨v,by unfold vO;rw [h1];rfl,hv⟩
theorem T.eq {α:Type} {o:Option α} {v:α} {P:α→Prop} (h:o=some v) (hp:P v):T o P:=⟨v,h,hp⟩
theorem T.ok {α:Type} {o:Option α} {v:α} (h:o=some v):T o (fun r=>r=v):=⟨v,h,rfl⟩
theorem T.get {α:Type} {o:Option α} {P:α→Prop} {d:α} (h:T o P):o=some (o.getD d):=by
 obtain ⟨v,rfl,_⟩:=h;rfl
theorem idx {α:Type} (l:List α) (p:α→Bool) (step:Nat→Option (Nat⊕(Unit⊕Int))) (h:∀ (i:Nat) (x:α),l[i]?=some x→step i=if p x then some (.inr (.inr (i:Int))) else some (.inl (i+1))) (he:step l.length=some (.inr (.inl ()))) :
  T (bC step 0) (fun e=>(∃ z:Nat,e=.inr (z:Int)∧l.any p=true)∨(e=.inl ()∧l.any p=false)):=by
 have:∀ n i,l.length - i=n→i≤l.length→T (bC step i) (fun e=>(∃ z:Nat,e=.inr (z:Int)∧(l.drop i).any p=true)∨(e=.inl ()∧(l.drop i).any p=false)):=by
  intro n
  induction n with
  | zero =>
   intro i h1 h2;obtain rfl:i=l.length:=by omega
   rw [dS he,List.drop_length];exact ⟨_,rfl,.inr ⟨rfl,rfl⟩⟩
  | succ n ih =>
   intro i h1 h2;have hi:i < l.length:=by omega
   rw [List.drop_eq_getElem_cons hi];simp only [List.any_cons];have h3:=h i _ (List.getElem?_eq_getElem hi)
   cases hp:p l[i] with
   | true=>rw [hp,if_pos rfl] at h3;rw [dS h3];exact ⟨_,rfl,.inl ⟨i,rfl,rfl⟩⟩
   | false=>rw [hp] at h3;rw [eO h3];simp only [Bool.false_or];exact ih _ (by omega) (by omega)
 exact this _ 0 rfl (Nat.zero_le _)
theorem pS {α:Type} (l:List α) (f:α→Option Bool) (p:α→Bool) (hf:∀ x∈l,f x=some (p x)) (step:Nat→Option (Nat⊕(Unit⊕Int)))
  (h:∀ i,step i=if (i:Int) < (l.length:Int) then (l[i]?).bind fun x=>(f x).bind fun r=>if r then some (.inr (.inr (i:Int))) else some (.inl (i+1)) else some (.inr (.inl ()))) :
  T (bC step 0) (fun e=>(∃ z:Nat,e=.inr (z:Int)∧l.any p=true)∨(e=.inl ()∧l.any p=false)):=by
 refine idx l p step (fun i x hx=>?_) ?_
 ·have hi:=(List.getElem?_eq_some_iff.1 hx).1;rw [h,if_pos (by omega),hx,Option.bind_some,hf x (List.mem_of_getElem? hx),Option.bind_some]
 rw [h,if_neg (by omega)]
theorem UW (l:List (List Int)) (f:List Int→Option Bool) (p:List Int→Bool) (hf:∀ x∈l,f x=some (p x)):QN l f=some (l.all p):=by
 obtain ⟨r,h1,h2⟩:=pS l (fun x=>uD x f) (fun x=>!p x) (fun x hx=>by unfold uD;rw [hf x hx];rfl) (xC l (fun x=>uD x f)) (fun i=>rfl);unfold QN WO IZ;rw [h1,List.all_eq_not_any_not];rcases h2 with ⟨z,rfl,h2⟩ | ⟨rfl,h2⟩ <;> simp [h2]
theorem aFh (l:List Int) (f:Int→Option Bool) (p:Int→Bool) (hf:∀ x∈l,f x=some (p x)):DZ l f=some (l.all p):=by
 obtain ⟨r,h1,h2⟩:=pS l (fun x=>uB x f) (fun x=>!p x) (fun x hx=>by unfold uB;rw [hf x hx];rfl) (xA l (fun x=>uB x f)) (fun i=>rfl);unfold DZ IY IX;rw [h1,List.all_eq_not_any_not];rcases h2 with ⟨z,rfl,h2⟩ | ⟨rfl,h2⟩ <;> simp [h2]
theorem aFi (l:List dN) (f:dN→Option Bool) (p:dN→Bool) (hf:∀ x∈l,f x=some (p x)):EC l f=some (l.all p):=by
 obtain ⟨r,h1,h2⟩:=pS l (fun x=>uE x f) (fun x=>!p x) (fun x hx=>by unfold uE;rw [hf x hx];rfl) (xD l (fun x=>uE x f)) (fun i=>rfl);unfold EC JB JA;rw [h1,List.all_eq_not_any_not];rcases h2 with ⟨z,rfl,h2⟩ | ⟨rfl,h2⟩ <;> simp [h2]
theorem JX (n a b:Int):LF n a b=some (decide (a≤n∧n≤b)):=by
 unfold LF;by_cases h:a≤n <;> simp [h]
theorem GB (d:aO) (n:Int) (h:1≤d.members∧d.members≤40):pD d n=some (decide (0≤n∧n≤d.members - 1)):=by
 unfold pD bW;rw [if_pos (by omega),JX];rfl
theorem aFj (l:List Int):T (EA l) fun _=>True:=by
 unfold EA;refine T.bd (Q:=fun _=>True) (T.ix l.length id (fun _=>True) (fun i _ hi=>?_) trivial (Nat.zero_le _)) (fun v _=>?_)
 ·unfold xB;refine T.ie (fun h=>T.bd (Q:=fun _=>True) (T.ie (fun h0=>T.bd (T.at (by simpa using h)) fun x _=>T.bd (T.at (by simp only [id] at *;omega)) fun y _=>.mk trivial) fun _=>.mk trivial) fun t _=>T.ie (fun _=>.mk trivial) fun _=>.mk ⟨trivial,rfl,by simpa using h⟩) fun _=>.mk trivial
 cases v <;> exact .mk trivial
end T12
set_option maxHeartbeats 4000000
namespace T12
open Go Go.Proofs Pk
def In (d:aO) (a b:Int):Prop:=(0≤a∧a < d.members)∧(0≤b∧b < d.members)
structure Vd (d:aO):Prop where
 m:1≤d.members∧d.members≤40
 pl:d.pairs.length≤10
 xl:d.proxies.length≤10
 p:∀ p∈d.pairs,In d p.a p.b
 x:∀ p∈d.proxies,In d p.holder p.for_
 r:0≤d.rule∧d.rule < 3
 n:0≤d.need∧d.need≤40
 q:0≤d.quorum∧d.quorum≤40
theorem tk1 {α:Type} {l:List α} {i:Nat} {x:α} {P:α→Prop} (h:∀ y∈l.take i,P y) (hx:l[i]?=some x) (hp:P x):∀ y∈l.take (i+1),P y:=by
 intro y hy;rw [List.take_add_one,hx] at hy;rcases List.mem_append.1 hy with hy | hy
 ·exact h y hy
 simp at hy;subst hy;exact hp
theorem UX (d:aO) (h:1≤d.members∧d.members≤40):T (bC (yR d) (0,([]:List (Int×Bool)))) (fun e=>match e with | .inl _=>∀ p∈d.pairs,In d p.a p.b | .inr z=>z=false):=by
 refine T.ix d.pairs.length (·.1) (fun s=>∀ p∈d.pairs.take s.1,In d p.a p.b) (fun s hs hi=>?_) (by simp) (Nat.zero_le _);unfold yR;refine T.ie (fun hl=>T.bd (T.at (by omega)) fun x hx=>T.bd (Q:=fun t=>t=false→In d x.a x.b) ?_ fun t ht=>T.ie (fun h=>.mk rfl) fun h=>.mk ⟨tk1 hs hx (ht (by simpa using h)),rfl,by omega⟩) (fun hl=>.mk fun p hp=>hs p (by rw [List.take_of_length_le (by omega)];exact hp));refine T.bd (.ok (GB d _ h)) fun r hr=>T.ie (fun h1=>T.bd (.ok (GB d _ h)) fun r' hr'=>T.ie (fun h2=>?_) fun _=>.mk (by simp)) fun _=>.mk (by simp);subst hr hr';simp only [decide_eq_true_eq] at h1 h2;have:In d x.a x.b:=⟨⟨by omega,by omega⟩,by omega,by omega⟩;exact T.ie (fun _=>.mk fun _=>this) fun _=>T.ie (fun _=>.mk fun _=>this) fun _=>.mk fun _=>this
theorem UY (d:aO) (h:1≤d.members∧d.members≤40):T (bC (yS d) (0,([]:List (Int×Bool)))) (fun e=>match e with | .inl _=>∀ p∈d.proxies,In d p.holder p.for_ | .inr z=>z=false):=by
 refine T.ix d.proxies.length (·.1) (fun s=>∀ p∈d.proxies.take s.1,In d p.holder p.for_) (fun s hs hi=>?_) (by simp) (Nat.zero_le _);unfold yS;refine T.ie (fun hl=>T.bd (T.at (by omega)) fun x hx=>T.bd (Q:=fun t=>t=false→In d x.holder x.for_) ?_ fun t ht=>T.ie (fun h=>.mk rfl) fun h=>.mk ⟨tk1 hs hx (ht (by simpa using h)),rfl,by omega⟩) (fun hl=>.mk fun p hp=>hs p (by rw [List.take_of_length_le (by omega)];exact hp));refine T.bd (.ok (GB d _ h)) fun r hr=>T.ie (fun h1=>T.bd (.ok (GB d _ h)) fun r' hr'=>T.ie (fun h2=>?_) fun _=>.mk (by simp)) fun _=>.mk (by simp);subst hr hr';simp only [decide_eq_true_eq] at h1 h2;have:In d x.holder x.for_:=⟨⟨by omega,by omega⟩,by omega,by omega⟩;exact T.ie (fun _=>.mk fun _=>this) fun _=>.mk fun _=>this
theorem aFk (d:aO) (h:1≤d.members∧d.members≤40):T (TA d) (fun r=>r=true→(∀ p∈d.pairs,In d p.a p.b)∧∀ p∈d.proxies,In d p.holder p.for_):=by
 unfold TA;refine T.bd (UX d h) fun e he=>?_
 cases e with
 | inr z=>exact .mk fun hz=>by simp only at he;simp [he] at hz
 | inl t =>
  refine T.bd (UY d h) fun e he'=>?_
  cases e with
  | inr z=>exact .mk fun hz=>by simp only at he';simp [he'] at hz
  | inl t=>exact T.bd (.ok (aFi _ _ (fun p=>!((eD t p.holder).getD false)) fun _ _=>rfl)) fun _ _=>.mk fun _=>⟨he,he'⟩
theorem UZ (d:aO) (l:List Int) (h:1≤d.members∧d.members≤40):T (AZ d l) fun _=>True:=by
 unfold AZ;refine T.bd (Q:=fun _=>True) (T.bd (.ok (aFh _ _ _ fun x _=>GB d x h)) fun r _=>T.ie (fun _=>T.bd (aFj l) fun _ _=>.mk trivial) fun _=>.mk trivial) fun _ _=>.mk trivial
theorem VA:TB=some ():=rfl
theorem PY (d:aO) (hr:0≤d.rule∧d.rule≤255):T (ED d) (fun r=>r=true→Vd d):=by
 unfold ED;refine T.bd (Q:=fun r=>r=true→Vd d) (T.bd (.ok (JX _ _ _)) fun r h1=>T.ie (fun h=>?_) fun _=>.mk (by simp)) fun r hr=>?_
 ·subst h1;simp only [decide_eq_true_eq] at h;refine T.bd (.ok (UW _ _ (fun l=>(AZ d l).getD false) fun x _=>(UZ d x h).get)) fun r _=>T.ie (fun _=>?_) fun _=>.mk (by simp);refine T.bd (.ok (UW _ _ (fun l=>(AZ d l).getD false) fun x _=>(UZ d x h).get)) fun r _=>T.ie (fun _=>?_) fun _=>.mk (by simp);refine T.ie (fun hp=>T.ie (fun hx=>T.bd (aFk d h) fun r ht=>T.ie (fun hb=>T.ck (by omega) (T.bd (.ok VA) fun _ _=>T.ie (fun h3=>T.bd (.ok (JX _ _ _)) fun r h4=>T.ie (fun h5=>T.bd (.ok (JX _ _ _)) fun r h6=>T.ie (fun h7=>?_) fun _=>.mk (by simp)) fun _=>.mk (by simp)) fun _=>.mk (by simp))) fun _=>.mk (by simp)) fun _=>.mk (by simp)) fun _=>.mk (by simp);subst h4 h6;simp only [decide_eq_true_eq] at h5 h7;have:Vd d:=⟨h,by omega,by omega,(ht hb).1,(ht hb).2,⟨hr.1,h3⟩,h5,h7⟩;exact T.ie (fun _=>.mk fun _=>this) fun _=>.mk fun _=>this
 exact .mk hr
end T12
set_option maxHeartbeats 4000000
namespace T12
open Go Go.Proofs Pk
theorem AU (l:List Int) (v:Int):LG l v=some (l.any fun x=>decide (v=x)):=by
 obtain ⟨r,h1,h2⟩:=idx l (fun x=>decide (v=x)) (uG l v) (fun i x hx=>by
  have hi:=(List.getElem?_eq_some_iff.1 hx).1
  unfold uG;rw [if_pos (by omega),hx,Option.bind_some];simp) (by unfold uG;rw [if_neg (by omega)])
 unfold LG WP;rw [h1];rcases h2 with ⟨z,rfl,h2⟩ | ⟨rfl,h2⟩ <;> simp [h2]
theorem PZ (l:List UInt8) (v:Int):QP l v=some (l.any fun x=>decide (v=(x.toNat:Int))):=by
 obtain ⟨r,h1,h2⟩:=idx l (fun x=>decide (v=(x.toNat:Int))) (uJ l v) (fun i x hx=>by
  have hi:=(List.getElem?_eq_some_iff.1 hx).1
  unfold uJ;rw [if_pos (by omega),hx,Option.bind_some];simp) (by unfold uJ;rw [if_neg (by omega)])
 unfold QP WQ;rw [h1];rcases h2 with ⟨z,rfl,h2⟩ | ⟨rfl,h2⟩ <;> simp [h2]
theorem VB (l:bE) (v:Int):T (uH l v) fun _=>True:=by
 unfold uH;refine T.bd (.ok (AU _ _)) fun r _=>T.bd (Q:=fun t=>t≤1) (T.ie (fun _=>.mk (Nat.le_refl _)) fun _=>.mk (by omega)) fun t ht=>T.bd (.ok (AU _ _)) fun r _=>T.bd (Q:=fun _=>True) (T.ie (fun _=>.ck (by omega) (.mk trivial)) fun _=>.mk trivial) fun _ _=>.mk trivial
theorem aFl (d:aO) (v:Int):T (xF d v) fun r=>r.length≤3:=by
 unfold xF;refine T.bd (VB _ _) fun a _=>T.bd (VB _ _) fun b _=>T.bd (Q:=fun _=>True) (T.ie (fun _=>.mk trivial) fun _=>.mk trivial) fun _ _=>?_;refine T.bd (Q:=fun l=>l.length≤1) (T.ie (fun _=>.ck (by decide) (.mk (by decide))) fun _=>.mk (by decide)) fun l hl=>T.bd (Q:=fun _=>True) (T.ie (fun _=>.mk trivial) fun _=>.mk trivial) fun _ _=>?_;refine T.bd (Q:=fun l=>l.length≤2) (T.ie (fun _=>.ck (by omega) (.mk (by simp;omega))) fun _=>.mk (by omega)) fun l hl=>T.bd (Q:=fun _=>True) (T.ie (fun _=>.mk trivial) fun _=>.mk trivial) fun _ _=>?_;exact T.bd (Q:=fun l=>l.length≤3) (T.ie (fun _=>.ck (by omega) (.mk (by simp;omega))) fun _=>.mk (by omega)) fun l hl=>.mk hl
structure Lk (x:cJ):Prop where
 d:Vd x.division
 l:x.may.length=40
 m:∀ v∈x.may,v.length≤3
theorem xV {α:Type} {l:List α} {i:Nat} {v:α} {P:α→Prop} (h:∀ x∈l,P x) (hv:P v):∀ x∈l.set i v,P x:=fun x hx=>by
 rcases List.mem_or_eq_of_mem_set hx with h1 | rfl
 ·exact h _ h1
 exact hv
theorem t200 (d:aO) (h:Vd d):T (LH d) fun x=>Lk x∧x.division=d:=by
 unfold LH;refine T.bd (Q:=fun _=>True) (T.ix d.pairs.length (·.1) (fun _=>True) (fun s hs hi=>?_) trivial (Nat.zero_le _)) fun e he=>?_
 ·unfold uI;refine T.ie (fun hl=>T.bd (T.mem (by omega)) fun x hx=>?_) fun _=>.mk trivial;have:=h.p x hx;unfold In at this;have:=h.m;exact .ck (by omega) (.ck (by omega) (.ck (by omega) (.ck (by omega) (.mk ⟨trivial,rfl,by omega⟩))))
 have hm:=h.m;refine T.bd (Q:=fun l=>l.length=40∧∀ v∈l,v.length≤3) (T.ix d.members.toNat (·.1) (fun s=>s.2.length=40∧∀ v∈s.2,v.length≤3) (fun s hs hi=>?_) ⟨List.length_replicate ..,fun v hv=>by rw [List.eq_of_mem_replicate hv];decide⟩ (Nat.zero_le _)) fun l hl=>.mk ⟨⟨h,hl.1,hl.2⟩,rfl⟩;unfold yT;exact T.ie (fun hl=>T.bd (aFl d _) fun r hr=>T.bd (T.at (by rw [hs.1];omega)) fun _ _=>.ck (by omega) (.mk ⟨⟨by rw [List.length_set];exact hs.1,xV hs.2 hr⟩,rfl,by omega⟩)) fun _=>.mk hs
theorem aFm (x:cJ) (h:Lk x):T (OD x) fun _=>True:=by
 have hm:=h.d.m;have hl:=h.l;unfold OD;refine T.bd (Q:=fun _=>True) (T.ix x.division.members.toNat (·.2.1) (fun _=>True) (fun s _ hi=>?_) trivial (Nat.zero_le _)) fun e he=>.mk trivial;unfold yU;exact T.ie (fun hl=>T.bd (T.at (by omega)) fun _ _=>T.ie (fun _=>.mk trivial) fun _=>.ck (by omega) (.mk ⟨trivial,rfl,by omega⟩)) fun _=>.mk trivial
theorem aFn (d:aO) (hr:0≤d.rule∧d.rule≤255):T (EK d) fun r=>r.2=0→Lk r.1∧r.1.division=d:=by
 unfold EK;refine T.bd (PY d hr) fun r h=>T.ie (fun h1=>T.bd (t200 d (h h1)) fun x hx=>T.bd (aFm x hx.1) fun _ _=>T.ie (fun _=>.mk (by simp)) fun _=>.mk fun _=>hx) fun _=>.mk (by simp)
theorem t142 (x:cJ) (h:Lk x):T (TC x) fun l=>l.length≤40:=by
 have hm:=h.d.m;have hl:=h.l;unfold TC;refine T.bd (Q:=fun l=>l.length≤40) (T.ix x.division.members.toNat (·.1) (fun s=>s.2.length≤s.1) (fun s hs hi=>?_) (Nat.zero_le _) (Nat.zero_le _)) fun e he=>.mk he;unfold EM;exact T.ie (fun hl=>T.bd (T.at (by omega)) fun _ _=>T.bd (Q:=fun l=>l.length≤s.1+1) (T.ie (fun _=>.ck (by omega) (.mk (by simp;omega))) fun _=>.mk (by omega)) fun l hl=>.ck (by omega) (.mk ⟨hl,rfl,by omega⟩)) fun _=>.mk (by omega)
theorem t99 (d:aO) (hr:0≤d.rule∧d.rule≤255):T (OE d) fun r=>r.2=0→Lk r.1∧r.1.division=d:=by
 unfold OE;exact T.bd (aFn d hr) fun r h=>T.bd (Q:=fun _=>True) (T.ie (fun h0=>T.bd (t142 _ (h h0).1) fun _ _=>.mk trivial) fun _=>.mk trivial) fun t _=>T.ie (fun _=>.mk (by simp)) fun _=>.mk h
def Nb (n:dO):Prop:=(0≤n.ayes∧n.ayes≤60)∧0≤n.noes∧n.noes≤60
theorem t102 (x:cJ) (t:aP) (h:Lk x):T (LL x t) Nb:=by
 have hm:=h.d.m;have hx:=h.d.xl;unfold LL;refine T.bd (Q:=fun e=>e.1≤40∧e.2≤40) (T.ix x.division.members.toNat (·.1) (fun s=>s.2.1≤s.1∧s.2.2≤s.1) (fun s hs hi=>?_) ⟨Nat.zero_le _,Nat.zero_le _⟩ (Nat.zero_le _)) fun e he=>?_
 ·unfold EN;refine T.ie (fun hl=>.ck (by omega) (T.bd (Q:=fun r=>r.1≤s.1+1∧r.2≤s.1+1) (T.ie (fun _=>.mk ⟨by omega,by omega⟩) fun _=>?_) fun r hr=>.ck (by omega) (.mk ⟨hr,rfl,by omega⟩))) fun _=>.mk ⟨by omega,by omega⟩;exact T.bd (Q:=fun r=>r.1≤s.1+1∧r.2≤s.1+1) (T.bd (Q:=fun r=>r.1≤s.1+1∧r.2≤s.1+1) (T.ie (fun _=>.ck (by omega) (.mk ⟨by dsimp only;omega,by dsimp only;omega⟩)) fun _=>T.bd (Q:=fun r=>r≤s.1+1) (T.ie (fun _=>.ck (by omega) (.mk (by omega))) fun _=>.mk (by omega)) fun r hr=>.mk ⟨by dsimp only;omega,hr⟩) fun r hr=>.mk hr) fun r hr=>.mk hr
 refine T.bd (Q:=fun e=>e.1≤60∧e.2≤60) (T.ix x.division.proxies.length (·.1) (fun s=>s.2.1≤40+s.1∧s.2.2≤40+s.1) (fun s hs hi=>?_) ⟨by dsimp only;omega,by dsimp only;omega⟩ (Nat.zero_le _)) fun e he=>.mk ⟨⟨by dsimp only;omega,by dsimp only;omega⟩,by dsimp only;omega,by dsimp only;omega⟩;unfold EO;refine T.ie (fun hl=>T.bd (T.mem (by omega)) fun y hy=>?_) fun _=>.mk ⟨by dsimp only;omega,by dsimp only;omega⟩;have hI:=h.d.x y hy;unfold In at hI;refine T.bd (Q:=fun _=>True) (.ck (by omega) (.ck (by omega) (T.ie (fun _=>T.ie (fun _=>.mk trivial) fun _=>.ck (by omega) (.ck (by omega) (.mk trivial))) fun _=>.mk trivial))) fun _ _=>?_;refine T.bd (Q:=fun r=>r.1≤40+(s.1+1)∧r.2≤40+(s.1+1)) (T.ie (fun _=>.ck (by omega) (.ck (by omega) ?_)) fun _=>.mk ⟨by dsimp only;omega,by dsimp only;omega⟩) fun r hr=>.mk ⟨hr,rfl,by omega⟩;exact T.bd (Q:=fun r=>r.1≤40+(s.1+1)∧r.2≤40+(s.1+1)) (T.bd (Q:=fun r=>r.1≤40+(s.1+1)∧r.2≤40+(s.1+1)) (T.ie (fun _=>.ck (by omega) (.mk ⟨by dsimp only;omega,by dsimp only;omega⟩)) fun _=>T.bd (Q:=fun r=>r≤40+(s.1+1)) (T.ie (fun _=>.ck (by omega) (.mk (by omega))) fun _=>.mk (by omega)) fun r hr=>.mk ⟨by dsimp only;omega,hr⟩) fun r hr=>.mk hr) fun r hr=>.mk hr
theorem QA (x:cJ) (n:dO) (h:Lk x) (hn:Nb n):T (LM x n) fun r=>0≤r∧r≤2:=by
 have h1:=h.d.r;have h2:=h.d.n;unfold Nb at hn;unfold LM;refine .ck (by omega) (T.ie (fun _=>.mk (by decide)) fun _=>T.bd (.ok VA) fun _ _=>.ck (by omega) (T.ie (fun _=>T.bd (Q:=fun _=>True) ?_ fun _ _=>T.ie (fun _=>.mk (by decide)) fun _=>.mk (by decide)) fun _=>T.ie (fun _=>T.bd (Q:=fun _=>True) ?_ fun _ _=>T.ie (fun _=>.mk (by decide)) fun _=>.mk (by decide)) fun _=>T.ie (fun _=>T.bd (Q:=fun _=>True) ?_ fun _ _=>T.ie (fun _=>.mk (by decide)) fun _=>.mk (by decide)) fun _=>by omega))
 ·exact T.bd (Q:=fun _=>True) (T.ie (fun _=>.mk trivial) fun _=>T.ie (fun _=>T.bd (Q:=fun _=>True) (.mk trivial) fun _ _=>.mk trivial) fun _=>.mk trivial) fun _ _=>.mk trivial
 ·exact T.bd (Q:=fun _=>True) (T.ie (fun _=>.mk trivial) fun _=>.ck (by omega) (T.ie (fun _=>T.bd (Q:=fun _=>True) (.mk trivial) fun _ _=>.mk trivial) fun _=>.mk trivial)) fun _ _=>.mk trivial
 exact T.bd (Q:=fun _=>True) (.ck (by omega) (.ck (by omega) (.ck (by omega) (T.ie (fun _=>.mk trivial) fun _=>.mk trivial)))) fun _ _=>.mk trivial
end T12
set_option maxHeartbeats 4000000
namespace T12
open Go Go.Proofs Pk
def Oc (l:List UInt8):Prop:=l.Nodup∧∀ x∈l,x.toNat≤2
theorem XJ {l:List UInt8} (h:Oc l):l.length≤3:=by
 have:l ⊆ [0,1,2]:=fun x hx=>by
  have h2:=h.2 x hx;have:∀ n,n≤2→UInt8.ofNat n∈([0,1,2]:List UInt8):=by decide
  have:=this _ h2
  rwa [UInt8.ofNat_toNat] at this
 exact h.1.length_le_of_subset this
theorem aFo (r:cJ×Int) (h:Lk r.1):∀ (k:Nat) (s:Nat×aP×List UInt8),r.1.division.members.toNat - s.1 < k→(s.1:Int)≤r.1.division.members→Oc s.2.2→T (kN r k s) Oc:=by
 have hm:=h.d.m;have hl:=h.l;intro k
 induction k with
 | zero=>intro s h1;omega
 | succ k ih =>
  intro s h1 h2 h3;show T (qJ r (kN r k) s) Oc;unfold qJ;refine T.ie (fun he=>T.bd (Q:=Oc) (T.bd (t102 _ _ h) fun n hn=>T.bd (QA _ _ h hn) fun o ho=>T.bd (.ok (PZ _ _)) fun c hc=>T.bd (Q:=Oc) (T.ie (fun _=>.mk h3) fun hf=>.ck (by have:=XJ h3;omega) (.ck (by omega) (.mk ?_))) fun _ h=>.mk h) fun _ h=>.mk h) fun he=>T.bd (T.at (by omega)) fun vs _=>T.bd (Q:=fun e=>Oc e.2) (T.ix vs.length (·.1) (fun q=>Oc q.2.2) (fun q hq hi=>?_) h3 (Nat.zero_le _)) fun e he=>.mk he
  ·rw [hc] at hf;have hx:(UInt8.ofNat o.toNat).toNat=o.toNat:=by simp;omega
   refine ⟨List.nodup_append.2 ⟨h3.1,List.nodup_cons.2 ⟨by simp,List.nodup_nil⟩,fun a ha b hb hab=>?_⟩,fun x hx'=>?_⟩
   ·simp at hb;subst hb hab;exact hf (List.any_eq_true.2 ⟨_,ha,by rw [hx];simp;omega⟩)
   rcases List.mem_append.1 hx' with h | h
   ·exact h3.2 _ h
   simp at h;subst h;rw [hx];omega
  unfold yV;exact T.ie (fun hl=>T.bd (T.at (by omega)) fun v _=>.ck (by omega) (.ck (by omega) (T.bd (ih _ (by dsimp only;omega) (by dsimp only;omega) hq) fun o ho=>.mk ⟨ho,rfl,by omega⟩))) fun _=>.mk hq
theorem t212 (a b:Int):T (TD a b) fun _=>True:=by
 unfold TD EP;exact T.bd (Q:=fun _=>True) (T.bd (.mk trivial) fun _ (_:True)=>T.ie (fun _=>T.bd (.mk trivial) fun _ (_:True)=>T.ie (fun _=>.mk trivial) fun _=>.mk trivial) fun _=>.mk trivial) fun _ _=>.mk trivial
theorem VC (l:List UInt8) (r:Int) (b c:Bool) (h:l.length≤3) (h2:∀ x∈l,x.toNat≤2):T (bC (uK l) (0,l.length,r,b,c)) fun o=>o.length=l.length∧(l.length≤1→o=l)∧∀ x∈o,x.toNat≤2:=by
 suffices hs:T (uK l (0,l.length,r,b,c)) fun e=>∃ o,e=.inr o∧o.length=l.length∧(l.length≤1→o=l)∧∀ x∈o,x.toNat≤2 by
  obtain ⟨_,h1,o,rfl,h2⟩:=hs
  rename_i h3;rw [dS h1];exact ⟨o,rfl,by assumption⟩
 unfold uK;dsimp only;refine .ck (by omega) (T.ie (fun _=>T.bd (Q:=fun (o:List UInt8)=>o.length=l.length∧(l.length≤1→o=l)∧∀ x∈o,x.toNat≤2) (.ck (by omega) (T.bd (Q:=fun (o:List UInt8)=>o.length=l.length∧(l.length≤1→o=l)∧∀ x∈o,x.toNat≤2) ?_ fun _ h=>.mk h)) fun o ho=>.mk ⟨o,rfl,ho⟩) fun hf=>by omega);by_cases h1:l.length≤1
 ·rw [dS (e:=l) (by unfold yW;dsimp only;rw [if_neg (by omega)])];exact .mk ⟨rfl,fun _=>rfl,h2⟩
 refine T.ix l.length (·.1) (fun s=>s.2.length=l.length∧∀ x∈s.2,x.toNat≤2) (fun s hs hi=>?_) ⟨rfl,h2⟩ (by dsimp only;omega);unfold yW;dsimp only;refine T.ie (fun hl=>T.bd (Q:=fun (o:List UInt8)=>o.length=l.length∧∀ x∈o,x.toNat≤2) (T.lp (fun q=>(q.2.length=l.length∧∀ x∈q.2,x.toNat≤2)∧0≤q.1∧q.1 < (l.length:Int)) (fun q=>q.1.toNat) (fun q hq=>?_) ⟨hs,by dsimp only;omega,by dsimp only;omega⟩) fun o ho=>.ck (by omega) (.mk ⟨ho,rfl,by omega⟩)) fun _=>.mk ⟨hs.1,fun h=>absurd h h1,hs.2⟩;unfold EQ;dsimp only;refine T.bd (Q:=fun t=>t=true→0 < q.1) (T.ie (fun h0=>.ck (by omega) (T.bd (T.at (by omega)) fun _ _=>.ck (by omega) (.ck (by omega) (T.bd (T.at (by omega)) fun _ _=>T.bd (t212 _ _) fun _ _=>.mk fun _=>by omega)))) fun _=>.mk (by simp)) fun t ht=>T.ie (fun h=>?_) fun _=>.mk hq.1;have:=ht h;exact .ck (by omega) (.ck (by omega) (T.bd (T.mem (by omega)) fun u hu=>.ck (by omega) (T.bd (T.mem (by omega)) fun w hw=>T.bd (T.at (by rw [List.length_set];omega)) fun _ _=>.mk ⟨⟨⟨by simp [hq.1.1],xV (xV hq.1.2 (hq.1.2 u hu)) (hq.1.2 w hw)⟩,by dsimp only;omega,by dsimp only;omega⟩,by dsimp only;omega⟩)))
theorem VD (n:Nat) (h:n≤3):T (WR n) fun _=>True:=by
 rcases (by omega:n=0∨n=1∨n=2∨n=3) with rfl | rfl | rfl | rfl <;> exact ⟨_,rfl,trivial⟩
theorem t66 (d:aO) (hr:0≤d.rule∧d.rule≤255):T (JE d) fun r=>r.1.length≤3∧∀ x∈r.1,x.toNat≤2:=by
 unfold JE;refine T.bd (t99 d hr) fun r h=>T.ie (fun _=>.mk (by simp)) fun h0=>?_;have hL:=(h (by omega)).1;have:=hL.d.m;refine T.bd (Q:=Oc) (T.bd (Q:=Oc) (T.rc (aFo r hL _ _ (by dsimp only;omega) (by dsimp only;omega) ⟨List.nodup_nil,by simp⟩)) fun _ h=>.mk h) fun l hl=>?_;have h3:=XJ hl;exact T.bd (Q:=fun (o:List UInt8)=>o.length≤3∧∀ x∈o,x.toNat≤2) (T.bd (VD _ h3) fun b _=>T.bd (Q:=fun (o:List UInt8)=>o.length≤3∧∀ x∈o,x.toNat≤2) (T.bd (VC l b true true h3 hl.2) fun o ho=>.mk ⟨by omega,ho.2.2⟩) fun _ h=>.mk h) fun _ h=>.mk h
end T12
set_option maxHeartbeats 4000000
namespace T12
open Go Go.Proofs Pk
theorem jR {κ α:Type} [DecidableEq κ] (k k':κ) (y:α):∀ t:List (κ×α),eD (put t k y) k'=if k'=k then some y else eD t k'
 | []=>by simp [put,eD]
 | (a,x)::t=>by
  unfold put
  split
  ·rename_i h;subst h;simp only [eD];split <;> rfl
  rename_i h
  simp only [eD,jR k k' y t];by_cases h1:k'=a
  ·subst h1;rw [if_pos rfl,if_neg (Ne.symm h),if_pos rfl]
  rw [if_neg h1,if_neg h1]
theorem rU {κ α:Type} [DecidableEq κ] (k:κ) (y:α):∀ t:List (κ×α),(put t k y).length=t.length+if (eD t k).isNone then 1 else 0
 | []=>rfl
 | (a,x)::t=>by
  unfold put
  split
  ·rename_i h;subst h;simp [eD]
  rename_i h;simp only [eD,if_neg h,List.length_cons,rU k y t];omega
def xW (t:List (Int×aS)):List aS→List (Int×aS)
 | []=>t
 | p::l=>xW (put t p.number p) l
theorem uZ (x:aS):∀ (l:List aS) (t:List (Int×aS)),xW t (l++[x])=put (xW t l) x.number x
 | [],_=>rfl
 | p::l,t=>uZ x l _
theorem GC:∀ (l:List aS) (t:List (Int×aS)),(xW t l).length≤t.length+l.length
 | [],_=>Nat.le_refl _
 | p::l,t=>by
  have h1:=GC l (put t p.number p);have h2:=rU p.number p t;simp only [xW,List.length_cons];split at h2 <;> omega
theorem GD:∀ (l:List aS) (t:List (Int×aS)),(xW t l).length=t.length+l.length→(∀ p∈l,eD t p.number=none)∧(l.map (·.number)).Nodup
 | [],_,_=>⟨by simp,List.nodup_nil⟩
 | p::l,t,h=>by
  have h1:=GC l (put t p.number p);have h2:=rU p.number p t;simp only [xW,List.length_cons] at h
  cases hk:eD t p.number with
  | some y=>rw [hk] at h2;simp at h2;omega
  | none =>
   rw [hk] at h2;simp at h2;obtain ⟨h3,h4⟩:=GD l _ (by omega:(xW (put t p.number p) l).length=(put t p.number p).length+l.length);have h5:∀ q∈l,q.number≠p.number∧eD t q.number=none:=fun q hq=>by
    have:=h3 q hq;rw [jR] at this
    split at this
    ·cases this
    exact ⟨by assumption,this⟩
   refine ⟨fun q hq=>?_,List.nodup_cons.2 ⟨fun hm=>?_,h4⟩⟩
   ·rcases List.mem_cons.1 hq with rfl | hq
    ·exact hk
    exact (h5 q hq).2
   obtain ⟨q,hq,he⟩:=List.mem_map.1 hm;exact (h5 q hq).1 he
theorem xX:∀ (l:List aS) (t:List (Int×aS)) (k:Int) (p:aS),eD (xW t l) k=some p→(p∈l∧p.number=k)∨eD t k=some p
 | [],_,_,_,h=>.inr h
 | q::l,t,k,p,h=>by
  rcases xX l _ k p h with h1 | h1
  ·exact .inl ⟨List.mem_cons_of_mem _ h1.1,h1.2⟩
  rw [jR] at h1
  split at h1
  ·cases h1;exact .inl ⟨List.mem_cons_self ..,by symm;assumption⟩
  exact .inr h1
theorem zG:∀ (l:List aS) (t:List (Int×aS)) (k:Int),k∉l.map (·.number)→eD (xW t l) k=eD t k
 | [],_,_,_=>rfl
 | q::l,t,k,h=>by
  simp only [List.map_cons,List.mem_cons,not_or] at h;rw [xW,zG l _ k h.2,jR,if_neg h.1]
theorem GE:∀ (l:List aS) (t:List (Int×aS)),(l.map (·.number)).Nodup→∀ p∈l,eD (xW t l) p.number=some p
 | [],_,_,p,h=>absurd h (List.not_mem_nil)
 | q::l,t,hn,p,h=>by
  rw [List.map_cons,List.nodup_cons] at hn;rcases List.mem_cons.1 h with rfl | h
  ·rw [xW,zG l _ _ hn.1,jR,if_pos rfl]
  exact GE l _ hn.2 p h
def JY (m:bL):List (Int×aS):=xW [] m.papers
def GF (m:bL) (n:Int):aS:=(eD (JY m) n).getD ⟨0,0,0,0,[]⟩
theorem AV (m:bL):GV m=some (JY m):=by
 obtain ⟨v,h1,h2⟩:T (bC (yX m) (0,([]:List (Int×aS)))) fun e=>e=JY m:=by
  refine T.ix m.papers.length (·.1) (fun s=>s.2=xW [] (m.papers.take s.1)) (fun s hs hi=>?_) rfl (Nat.zero_le _);unfold yX;refine T.ie (fun hl=>T.bd (T.at (by omega)) fun x hx=>.mk ⟨?_,rfl,by omega⟩) fun hl=>.mk ?_
  ·dsimp only;rw [List.take_add_one,hx,Option.toList_some,uZ,hs]
  dsimp only;rw [hs,List.take_of_length_le (by omega)];rfl
 unfold GV;rw [h1,h2];rfl
theorem GG (l:List aS) (f:aS→Option Bool) (p:aS→Bool) (hf:∀ x∈l,f x=some (p x)):rP l f=some (l.all p):=by
 obtain ⟨r,h1,h2⟩:=pS l (fun x=>uM x f) (fun x=>!p x) (fun x hx=>by unfold uM;rw [hf x hx];rfl) (xH l (fun x=>uM x f)) (fun i=>rfl);unfold rP JG JF;rw [h1,List.all_eq_not_any_not];rcases h2 with ⟨z,rfl,h2⟩ | ⟨rfl,h2⟩ <;> simp [h2]
theorem VE (l:List aF) (f:aF→Option Bool) (p:aF→Bool) (hf:∀ x∈l,f x=some (p x)):AE l f=some (l.all p):=by
 obtain ⟨r,h1,h2⟩:=pS l (fun x=>uN x f) (fun x=>!p x) (fun x hx=>by unfold uN;rw [hf x hx];rfl) (yQ l (fun x=>uN x f)) (fun i=>rfl);unfold AE OA SX;rw [h1,List.all_eq_not_any_not];rcases h2 with ⟨z,rfl,h2⟩ | ⟨rfl,h2⟩ <;> simp [h2]
theorem aFp (l:List UInt8) (f:Int→Option Bool) (p:Int→Bool) (hf:∀ x∈l,f (x.toNat:Int)=some (p (x.toNat:Int))):EU l f=some (l.all fun x=>p (x.toNat:Int)):=by
 obtain ⟨r,h1,h2⟩:=pS l (fun x=>uO (x.toNat:Int) f) (fun x=>!p (x.toNat:Int)) (fun x hx=>by unfold uO;rw [hf x hx];rfl) (pB l (fun x=>uO x f)) (fun i=>rfl);unfold EU LD wC;rw [h1,List.all_eq_not_any_not];rcases h2 with ⟨z,rfl,h2⟩ | ⟨rfl,h2⟩ <;> simp [h2]
theorem VF (n a b:Int):AF n a b=some (decide (a≤n∧n≤b)):=by
 unfold AF;by_cases h:a≤n <;> simp [h]
theorem t155 (s:aF):T (mC s) fun r=>r=true→s.length≤20:=by
 unfold mC;refine T.bd (Q:=fun r=>r=true→s.length≤20) (T.bd (.ok (VF _ _ _)) fun r h=>T.ie (fun h1=>?_) fun _=>.mk (by simp)) fun _ h=>.mk h;subst h;simp only [decide_eq_true_eq] at h1;refine .ck (by omega) (T.bd (.ok (aFp _ _ (fun c=>(xI c).getD false) fun x _=>?_)) fun _ _=>.mk fun _=>by omega);unfold xI;by_cases h:(33:Int)≤x.toNat <;> simp [h]
def zH (l:List aF):Prop:=∀ s∈l,s.length≤20
theorem LY {l:List aF} (h:(l.all fun s=>(mC s).getD false)=true):zH l:=fun s hs=>by
 obtain ⟨r,h1,h2⟩:=t155 s;have:=List.all_eq_true.1 h s hs;rw [h1] at this;exact h2 this
theorem aFq {α:Type} {l:List α} {i:Nat} {x:α} {P:α→Prop} (h:∀ y∈l.take i,P y) (hx:l[i]?=some x) (hp:P x):∀ y∈l.take (i+1),P y:=by
 intro y hy;rw [List.take_add_one,hx] at hy;rcases List.mem_append.1 hy with hy | hy
 ·exact h y hy
 simp at hy;subst hy;exact hp
def up (m:bL):Nat→Int→Int
 | 0,n=>n
 | k+1,n=>(GF m (up m k n)).of
def wd (m:bL) (n:Int):List aF:=if n=0 then m.words else (GF m n).words
structure Vm (m:bL):Prop where
 pl:m.papers.length≤10
 wl:m.words.length≤60
 w:∀ p∈m.papers,p.words.length≤60
 wt:zH m.words
 pt:∀ p∈m.papers,zH p.words
 n:∀ p∈m.papers,1≤p.number∧p.number≤999
 nd:(m.papers.map (·.number)).Nodup
 of:∀ p∈m.papers,p.of=0∨(GF m p.of).number=p.of
 en:∀ p∈m.papers,∃ j,j≤10∧up m j p.of=0
 ft:∀ p∈m.papers,0≤p.from_∧p.from_≤p.to_∧p.to_≤(wd m p.of).length
theorem VG (m:bL) (n:Int):QQ m n=some (wd m n):=by
 unfold QQ wd
 split
 ·rfl
 rw [AV];rfl
theorem t164 (m:bL) (h2:m.papers.length≤10):T (EW m) fun r=>r=true→∀ p∈m.papers,∃ j,j≤10∧up m j p.of=0:=by
 unfold EW;refine T.bd (.ok (AV m)) fun t ht=>T.bd (Q:=fun r=>r=true→∀ p∈m.papers,∃ j,j≤10∧up m j p.of=0) ?_ fun _ h=>.mk h;subst ht;refine T.ix m.papers.length (·.1) (fun s=>s.2=true∧∀ p∈m.papers.take s.1,∃ j,j≤10∧up m j p.of=0) (fun s hs hi=>?_) ⟨rfl,by simp⟩ (Nat.zero_le _);unfold xK;refine T.ie (fun hl=>T.bd (T.at (by omega)) fun x hx=>T.bd (Q:=fun e=>match e with | .inl r=>r.1=true∧∃ j,j≤10∧up m j x.of=0 | .inr z=>z=.inr false) ?_ fun e he=>?_) fun hl=>.mk fun _ p hp=>hs.2 p (by rw [List.take_of_length_le (by omega)];exact hp)
 ·refine T.ix m.papers.length (·.1) (fun q=>q.2.1=true∧q.2.2.2.1=up m q.1 x.of) (fun q hq hi=>?_) ⟨hs.1,rfl⟩ (Nat.zero_le _);unfold xJ;refine T.ie (fun h0=>.ck (by omega) (T.ie (fun _=>⟨_,rfl,rfl⟩) fun h1=>.mk ⟨⟨hq.1,?_⟩,rfl,by omega⟩)) fun h0=>.mk ⟨hq.1,q.1,by omega,by rw [← hq.2];omega⟩;show ((eD (JY m) q.2.2.2.1).getD _).of=_;rw [hq.2];rfl
 cases e with
 | inr z=>simp only at he;subst he;exact .mk (by simp)
 | inl r=>exact .mk ⟨⟨he.1,aFq hs.2 hx he.2⟩,rfl,by omega⟩
end T12
set_option maxHeartbeats 4000000
namespace T12
open Go Go.Proofs Pk
theorem t69 (m:bL):T (OF m) fun r=>r=0→Vm m:=by
 unfold OF;refine T.bd (.ok (rfl:WS=some ())) fun _ _=>?_;have h1:T (ET m) fun r=>r=true→m.papers.length≤10∧m.words.length≤60∧∀ p∈m.papers,p.words.length≤60:=by
  unfold ET;refine T.bd (Q:=fun r=>r=true→m.papers.length≤10∧m.words.length≤60∧∀ p∈m.papers,p.words.length≤60) (T.ie (fun ha=>T.ie (fun hb=>T.bd (.ok (GG _ _ (fun p=>decide ((p.words.length:Int)≤60)) fun _ _=>rfl)) fun r hr=>.mk fun h=>⟨by omega,by omega,fun p hp=>?_⟩) fun _=>.mk (by simp)) fun _=>.mk (by simp)) fun _ h=>.mk h;rw [hr,List.all_eq_true] at h;have:=h p hp;simp only [decide_eq_true_eq] at this;omega
 refine T.bd h1 fun r h1=>T.ie (fun hr=>?_) fun _=>.mk (by simp);obtain ⟨hp,hw,hpw⟩:=h1 hr;have h2:T (EV m) fun r=>r=true→zH m.words∧∀ p∈m.papers,zH p.words:=by
  unfold EV
  exact T.bd (Q:=fun r=>r=true→zH m.words∧∀ p∈m.papers,zH p.words) (T.bd (.ok (VE _ _ (fun s=>(mC s).getD false) fun s _=>(t155 s).get)) fun r hr=>T.ie (fun h1=>T.bd (.ok (GG _ _ (fun p=>p.words.all fun s=>(mC s).getD false) fun p _=>by
   unfold AG;rw [VE _ _ (fun s=>(mC s).getD false) fun s _=>(t155 s).get];rfl)) fun r2 hr2=>.mk fun h3=>⟨LY (hr.symm.trans h1),fun p hp=>LY (List.all_eq_true.1 (hr2.symm.trans h3) p hp)⟩) fun _=>.mk (by simp)) fun _ h=>.mk h
 refine T.bd h2 fun r h2=>T.ie (fun hr2=>?_) fun _=>.mk (by simp);refine T.bd (T.bd (.ok (GG _ _ (fun p=>decide (1≤p.number∧p.number≤999)) fun p _=>by unfold AH;rw [VF];rfl)) fun r h=>.mk h:T (JH m) _) fun r h3=>T.ie (fun hr3=>?_) fun _=>.mk (by simp);have h3':∀ p∈m.papers,1≤p.number∧p.number≤999:=fun p hp=>by
  have:=List.all_eq_true.1 (h3.symm.trans hr3) p hp;simpa using this
 refine T.bd (T.bd (.ok (AV m)) fun r h=>.mk (P:=fun r=>r=true→(JY m).length=m.papers.length) fun hd=>by subst h;simp at hd;omega:T (JI m) _) fun r h4=>T.ie (fun hr4=>?_) fun _=>.mk (by simp);have h4':=(GD m.papers [] (by have:=h4 hr4;unfold JY at this;simp;omega)).2
 refine T.bd (T.bd (.ok (AV m)) fun r h=>T.bd (.ok (GG _ _ (fun p=>decide (p.of=0∨(GF m p.of).number=p.of)) fun p _=>by
  subst h;unfold AI;by_cases hz:p.of=0 <;> simp [hz,GF])) fun r h=>.mk h:T (JJ m) _) fun r h5=>T.ie (fun hr5=>?_) fun _=>.mk (by simp)
 have h5':∀ p∈m.papers,p.of=0∨(GF m p.of).number=p.of:=fun p hp=>by
  have:=List.all_eq_true.1 (h5.symm.trans hr5) p hp;simpa using this
 refine T.bd (t164 m hp) fun r h6=>T.ie (fun hr6=>?_) fun _=>.mk (by simp)
 refine T.bd (T.bd (.ok (GG _ _ (fun p=>decide (0≤p.from_∧p.from_≤p.to_∧p.to_≤(wd m p.of).length)) fun p _=>by
  unfold AJ;rw [VG];by_cases ha:0≤p.from_ <;> by_cases hb:p.from_≤p.to_ <;> simp [ha,hb])) fun r h=>.mk h:T (JK m) _) fun r h7=>T.ie (fun hr7=>.mk fun _=>⟨hp,hw,hpw,(h2 hr2).1,(h2 hr2).2,h3',h4',h5',h6 hr6,fun p hp=>?_⟩) fun _=>.mk (by simp)
 have:=List.all_eq_true.1 (h7.symm.trans hr7) p hp;simpa using this
theorem t222 (a b:aS):T (TF a b) fun _=>True:=by
 unfold TF;exact T.bd (Q:=fun _=>True) (T.ie (fun _=>T.ie (fun _=>T.ie (fun _=>.mk trivial) fun _=>.mk trivial) fun _=>.mk trivial) fun _=>.mk trivial) fun _ _=>.mk trivial
end T12
set_option maxHeartbeats 4000000
namespace T12
open Go Go.Proofs Pk
theorem VH (choice:List Int) (r:List (Int×aS)):T (bC (yY choice r) 0) fun e=>match e with | .inl _=>True | .inr z=>z=2:=by
 refine T.ix choice.length id (fun _=>True) (fun i _ hi=>?_) trivial (Nat.zero_le _);unfold yY;exact T.ie (fun hl=>T.bd (T.at (by simp only [id] at *;omega)) fun x hx=>T.bd (Q:=fun _=>True) (T.ie (fun _=>.mk trivial) fun _=>T.ie (fun _=>.mk trivial) fun _=>T.ie (fun h0=>T.bd (T.at (by simp only [id] at *;omega)) fun _ _=>.mk trivial) fun _=>.mk trivial) fun _ _=>T.ie (fun _=>.mk rfl) fun _=>.mk ⟨trivial,rfl,by simp only [id] at *;omega⟩) fun _=>.mk trivial
theorem t167 (m:bL) (choice:List Int):T (TH m choice) fun _=>True:=by
 unfold TH;refine T.bd (.ok (AV m)) fun r _=>T.bd (Q:=fun _=>True) (T.ix choice.length id (fun _=>True) (fun i _ hi=>?_) trivial (Nat.zero_le _)) fun e _=>?_
 ·unfold FA;exact T.ie (fun hl=>T.bd (T.at (by simp only [id] at *;omega)) fun x hx=>T.bd (Q:=fun _=>True) (T.ie (fun _=>T.bd (.ok (AU _ _)) fun _ _=>.mk trivial) fun _=>.mk trivial) fun _ _=>T.ie (fun _=>.mk trivial) fun _=>.mk ⟨trivial,rfl,by simp only [id] at *;omega⟩) fun _=>.mk trivial
 cases e with
 | inr z=>exact .mk trivial
 | inl _ =>
  refine T.bd (Q:=fun _=>True) (T.ix choice.length id (fun _=>True) (fun i _ hi=>?_) trivial (Nat.zero_le _)) fun e _=>by cases e <;> exact .mk trivial
  unfold FC;refine T.ie (fun hl=>T.bd (T.at (by simp only [id] at *;omega)) fun x hx=>T.bd (Q:=fun e=>match e with | .inl _=>True | .inr z=>∃ q,z=.inr q) (T.ix choice.length id (fun _=>True) (fun i _ hi=>?_) trivial (Nat.zero_le _)) fun e he=>?_) fun _=>.mk trivial
  ·unfold FB;exact T.ie (fun hl=>T.bd (T.at (by simp only [id] at *;omega)) fun x hx=>T.bd (t222 _ _) fun _ _=>T.ie (fun _=>.mk ⟨_,rfl⟩) fun _=>.mk ⟨trivial,rfl,by simp only [id] at *;omega⟩) fun _=>.mk trivial
  cases e with
  | inl _=>exact .mk ⟨trivial,rfl,by simp only [id] at *;omega⟩
  | inr z=>obtain ⟨q,rfl⟩:=he;exact .mk trivial
theorem aFs (m:bL) (choice:List Int):T (TI m choice) fun r=>r=0→Vm m:=by
 unfold TI;refine T.bd (t69 m) fun r h=>T.ie (fun hr=>.mk fun h0=>absurd h0 hr) fun h0=>T.bd (.ok (AV m)) fun t _=>T.bd (VH choice t) fun e _=>?_;have hV:=h (by omega)
 cases e with
 | inr z=>exact .mk fun _=>hV
 | inl _=>exact T.bd (t167 m choice) fun _ _=>.mk fun _=>hV
def xY (a b:aS):Int:=if a.from_ - b.from_≠0 then a.from_ - b.from_ else if a.to_ - b.to_≠0 then a.to_ - b.to_ else a.number - b.number
theorem aFt (x y z:Int):TJ [x,y,z]=some (if x≠0 then x else if y≠0 then y else z):=by
 have h:∀ (i:Nat) (v:Int),[x,y,z][i]?=some v→uP [x,y,z] i=if v≠0 then some (.inr (.inr v)) else some (.inl (i+1)):=fun i v hv=>by
  have:=(List.getElem?_eq_some_iff.1 hv).1;unfold uP;rw [if_pos (by omega),hv];rfl
 have h0:=h 0 x rfl;have h1:=h 1 y rfl;have h2:=h 2 z rfl;unfold TJ;by_cases a:x=0
 ·rw [if_neg (by omega)] at h0;rw [eO h0];by_cases b:y=0
  ·rw [if_neg (by omega)] at h1;rw [eO h1];by_cases c:z=0
   ·rw [if_neg (by omega)] at h2;rw [eO h2,dS (by unfold uP;rfl)];simp [a,b,c]
   rw [if_pos c] at h2;rw [dS h2];simp [a,b]
  rw [if_pos b] at h1;rw [dS h1];simp [a,b]
 rw [if_pos a] at h0;rw [dS h0];simp [a]
def Pb (p:aS):Prop:=(0≤p.from_∧p.from_≤60)∧(0≤p.to_∧p.to_≤60)∧1≤p.number∧p.number≤999
theorem VI {a b:aS} (ha:Pb a) (hb:Pb b):LN a b=some (xY a b):=by
 unfold Pb at ha hb;unfold LN bW;rw [if_pos (by omega),if_pos (by omega),if_pos (by omega),aFt];rfl
theorem qN {a b:aS} (ha:Pb a) (hb:Pb b):iL LN a b=true↔xY a b < 0:=by
 unfold iL;rw [VI ha hb];simp
theorem JZ {l:List aS} (hl:l.length≤10) (h:∀ p∈l,Pb p) (hn:(l.map (·.number)).Nodup):T (iU LN l) fun r=>r.Perm l:=by
 refine ⟨_,oQ ⟨by omega,fun x hx y hy=>⟨_,VI (h x hx) (h y hy)⟩,fun x hx=>?_,fun x hx y hy z hz h1 h2=>?_,fun x hx y hy h1 h2=>?_⟩,List.mergeSort_perm ..⟩
 ·rw [Bool.eq_false_iff,Ne,qN (h x hx) (h x hx)];unfold xY;simp
 ·rw [qN (h _ hx) (h _ hy)] at h1;rw [qN (h _ hy) (h _ hz)] at h2;rw [qN (h _ hx) (h _ hz)];unfold xY at *;(repeat' split at h1) <;> (repeat' split at h2) <;> (repeat' split) <;> omega
 refine Classical.byContradiction fun hne=>?_;have h3:¬xY x y < 0:=fun h3=>by rw [(qN (h _ hx) (h _ hy)).2 h3] at h1;cases h1
 have h4:¬xY y x < 0:=fun h3=>by rw [(qN (h _ hy) (h _ hx)).2 h3] at h2;cases h2
 have h5:x.number=y.number:=by
  unfold xY at h3 h4;(repeat' split at h3) <;> (repeat' split at h4) <;> omega
 obtain ⟨i,hi⟩:=List.getElem?_of_mem hx;obtain ⟨j,hj⟩:=List.getElem?_of_mem hy;have hi':=(List.getElem?_eq_some_iff.1 hi).1;have:=(List.getElem?_inj (by rw [List.length_map];exact hi') hn).1 (show (l.map (·.number))[i]?=(l.map (·.number))[j]? by rw [List.getElem?_map,List.getElem?_map,hi,hj];simp [h5]);subst this;rw [hi] at hj;cases hj;exact hne rfl
end T12
set_option maxHeartbeats 4000000
namespace T12
open Go Go.Proofs Pk
theorem LZ (m:bL):∀ (k:Nat) (n:Int),up m (k+1) n=up m k (GF m n).of
 | 0,_=>rfl
 | k+1,n=>by rw [up,LZ m k n];rfl
def rk (m:bL) (n:Int):Nat:=((List.range 12).findIdx? fun j=>decide (up m j n=0)).getD 12
open Classical in
theorem MA {m:bL} {n:Int} {j:Nat} (hj:j < 12) (h:up m j n=0) (hl:∀ i,i < j→up m i n≠0):rk m n=j:=by
 unfold rk;have:(List.range 12).findIdx? (fun j=>decide (up m j n=0))=some j:=by
  rw [List.findIdx?_eq_some_iff_getElem];exact ⟨by simpa using hj,by simpa using h,fun i hi=>by simpa using hl i hi⟩
 rw [this];rfl
theorem yA {P:Nat→Prop}:∀ (n:Nat),P n→∃ j,j≤n∧P j∧∀ i,i < j→¬P i:=by
 intro n
 induction n using Nat.strongRecOn with
 | _ n ih =>
  intro h;by_cases hh:∃ i,i < n∧P i
  ·obtain ⟨i,hi,hP⟩:=hh;obtain ⟨j,h1,h2,h3⟩:=ih i hi hP;exact ⟨j,by omega,h2,h3⟩
  exact ⟨n,Nat.le_refl _,h,fun i hi hP=>hh ⟨i,hi,hP⟩⟩
variable {m:bL}
theorem QB (hV:Vm m) {p:aS} (hp:p∈m.papers):GF m p.number=p:=by
 unfold GF JY;rw [GE _ _ hV.nd p hp];rfl
theorem VJ (hV:Vm m) {p:aS} (hp:p∈m.papers):rk m p.number=rk m p.of+1:=by
 obtain ⟨n,hn,h0⟩:=hV.en p hp;obtain ⟨j,h1,h2,h3⟩:=yA (P:=fun j=>up m j p.of=0) n h0;have hu:∀ i,up m (i+1) p.number=up m i p.of:=fun i=>by rw [LZ,QB hV hp]
 rw [MA (by omega) h2 h3];refine MA (by omega) (by rw [hu];exact h2) fun i hi=>?_
 cases i with
 | zero=>have:=(hV.n p hp).1;show p.number≠0;omega
 | succ i=>rw [hu];exact h3 i (by omega)
def nJ (m:bL) (n:Int):Nat:=(m.papers.filter fun p=>decide (rk m n≤rk m p.of)).length
theorem GH (hV:Vm m) {p:aS} (hp:p∈m.papers) {v:Int} (hv:p.of=v):nJ m p.number+(m.papers.filter fun q=>decide (q.of=v)).length≤nJ m v:=by
 unfold nJ;rw [VJ hV hp,hv];have:∀ l:List aS,(l.filter fun q=>decide (rk m v+1≤rk m q.of)).length+(l.filter fun q=>decide (q.of=v)).length≤(l.filter fun q=>decide (rk m v≤rk m q.of)).length:=by
  intro l
  induction l with
  | nil=>exact Nat.le_refl _
  | cons q l ih =>
   simp only [List.filter_cons,decide_eq_true_eq];by_cases h1:q.of=v
   ·rw [h1,if_neg (by omega:¬rk m v+1≤rk m v),if_pos (rfl:v=v),if_pos (Nat.le_refl _)];simp only [List.length_cons];omega
   rw [if_neg h1];by_cases h2:rk m v+1≤rk m q.of
   ·rw [if_pos h2,if_pos (by omega)];simp only [List.length_cons];omega
   rw [if_neg h2];split <;> (try simp only [List.length_cons]) <;> omega
 exact this _
theorem GI (hV:Vm m) (v:Int):nJ m v≤10:=Nat.le_trans (List.length_filter_le _ _) hV.pl
def nX (n:Nat):Nat:=60*3 ^ n
theorem GJ:∀ n,n≤10→∀ c,c≤n→c*(60+nX (n - c))+60≤nX n:=by decide
theorem QC:∀ n,n≤10→nX n≤3542940:=by decide
theorem GK {a b:Nat} (h:a≤b):nX a≤nX b:=Nat.mul_le_mul_left _ (Nat.pow_le_pow_right (by decide) h)
theorem MB (hV:Vm m) (v:Int):(wd m v).length≤60:=by
 unfold wd;split
 ·exact hV.wl
 unfold GF
 cases h:eD (JY m) v with
 | none=>exact Nat.zero_le _
 | some p =>
  rcases xX _ _ _ _ h with h1 | h1
  ·exact hV.w p h1.1
  cases h1
def LW (c:List Int) (a:List aF) (b:List bD):Prop:=a.length=b.length∧zH a∧∀ o∈b,o.number=0∨o.number∈c
theorem LW.snoc {c:List Int} {a:List aF} {b:List bD} {x:aF} {y:bD} (h:LW c a b) (hx:x.length≤20) (hy:y.number=0∨y.number∈c):LW c (a++[x]) (b++[y]):=⟨by simp [h.1],fun s hs=>by
 rcases List.mem_append.1 hs with h1 | h1
 ·exact h.2.1 s h1
 ·simp at h1;subst h1;exact hx,fun o ho=>by
 rcases List.mem_append.1 ho with h1 | h1
 ·exact h.2.2 o h1
 simp at h1;subst h1;exact hy⟩
theorem VK (hV:Vm m) (v:Int):zH (wd m v):=by
 unfold wd;split
 ·exact hV.wt
 unfold GF
 cases h:eD (JY m) v with
 | none=>exact fun s hs=>absurd hs (List.not_mem_nil)
 | some p =>
  rcases xX _ _ _ _ h with h1 | h1
  ·exact hV.pt p h1.1
  cases h1
theorem GL {choice:List Int} (ws:List aF) (v:Int) (hv:v=0∨v∈choice) (te:Int) (ht:te≤ws.length) (h1:ws.length≤60) (step:Int×List aF×List bD→Option ((Int×List aF×List bD)⊕(Int×List aF×List bD)))
  (hs:∀ s,step s=if s.1 < te then (bW (0≤s.1) <| (ws[s.1.toNat]?).bind fun x=>bW (s.2.1.length+([x]:List aF).length≤1073741824) <| bW (s.2.2.length+([(⟨v,s.1⟩:bD)]:List bD).length≤1073741824) <| bW (-9223372036854775808≤(s.1+1)∧(s.1+1)≤9223372036854775807) <| some (.inl ((s.1+1),(s.2.1++([x]:List aF)),(s.2.2++([(⟨v,s.1⟩:bD)]:List bD))))) else some (.inr (s.1,s.2.1,s.2.2)))
  {at_:Int} {a:List aF} {b:List bD} {L:Nat} (h0:0≤at_∧at_≤ws.length) (hl:LW choice a b∧a.length≤L) (hw:zH ws) (hb:L+60≤1073741824) :
  T (bC step (at_,a,b)) fun e=>(0≤e.1∧e.1≤ws.length)∧LW choice e.2.1 e.2.2∧e.2.1.length≤L+60:=by
 refine T.lp (fun (s:Int×List aF×List bD)=>(0≤s.1∧s.1≤ws.length)∧LW choice s.2.1 s.2.2∧s.2.1.length+((ws.length:Int) - s.1).toNat≤L+60) (fun (s:Int×List aF×List bD)=>((ws.length:Int) - s.1).toNat) (fun s hI=>?_) ⟨h0,hl.1,by dsimp only;omega⟩;rw [hs];have hI1:=hI.2.1.1;refine T.ie (fun h=>.ck (by omega) (T.bd (T.mem (by omega)) fun x hx=>.ck (by simp;omega) (.ck (by simp;omega) (.ck (by omega) (.mk ⟨⟨⟨by dsimp only;omega,by dsimp only;omega⟩,hI.2.1.snoc (hw x hx) hv,by simp;omega⟩,by dsimp only;omega⟩))))) fun h=>.mk ⟨hI.1,hI.2.1,by dsimp only;omega⟩
theorem aFu (hV:Vm m) (choice:List Int):∀ (k:Nat) (v:Int) (a:List aF) (b:List bD),(v=0∨v∈choice)→nJ m v < k→LW choice a b→a.length+nX (nJ m v)≤1073741824 →
  T (nE m choice k (v,a,b)) fun r=>LW choice r.1 r.2∧r.1.length≤a.length+nX (nJ m v):=by
 intro k
 induction k with
 | zero=>intro v a b _ h;omega
 | succ k ih =>
  intro v a b hv h1 h2 h3;show T (zA m choice (nE m choice k) (v,a,b)) _;have hfl:=GI hV v;have h0:=MB hV v;unfold zA;refine T.bd (.ok (VG m v)) fun ws hws=>?_;subst hws;have hc:T (bC (yZ m (v,a,b)) (0,([]:List aS))) fun e=>e=m.papers.filter fun q=>decide (q.of=v):=by
   refine T.ix m.papers.length (·.1) (fun s=>s.2=(m.papers.take s.1).filter fun q=>decide (q.of=v)) (fun s hs hi=>?_) rfl (Nat.zero_le _);have hlen:s.2.length≤10:=by rw [hs];exact Nat.le_trans (List.length_filter_le _ _) (Nat.le_trans (by rw [List.length_take];omega) hV.pl)
   unfold yZ;refine T.ie (fun hl=>T.bd (T.at (by omega)) fun x hx=>T.bd (Q:=fun t=>t=(m.papers.take (s.1+1)).filter fun q=>decide (q.of=v)) (T.ie (fun ho=>.ck (by omega) (.mk ?_)) fun ho=>.mk ?_) fun t ht=>.mk ⟨ht,rfl,by omega⟩) fun hl=>.mk ?_
   ·rw [List.take_add_one,hx,List.filter_append,← hs];simp at ho;simp [ho]
   ·rw [List.take_add_one,hx,List.filter_append,← hs];simp at ho;simp [ho]
   dsimp only;rw [hs,List.take_of_length_le (by omega)]
  refine T.bd (Q:=fun (e:Int×List aF×List bD)=>(0≤e.1∧e.1≤(wd m v).length)∧LW choice e.2.1 e.2.2∧e.2.1.length+60≤a.length+nX (nJ m v)) (T.bd hc fun cs hcs=>?_) fun e he=>?_
  ·have hcm:∀ p∈cs,p∈m.papers∧p.of=v:=fun p hp=>by rw [hcs] at hp;simpa using hp
   have hcn:(cs.map (·.number)).Nodup:=by rw [hcs];exact (hV.nd.sublist (List.Sublist.map _ (List.filter_sublist)))
   have hcl:cs.length≤10:=by rw [hcs];exact Nat.le_trans (List.length_filter_le _ _) hV.pl
   refine .ck (List.Pairwise.of_map (f:=(·.number)) (fun _ _ h e=>h (by rw [e])) hcn) (T.bd (JZ hcl (fun p hp=>?_) hcn) fun l hl=>?_)
   ·have h5:=hV.ft p (hcm p hp).1;have h6:=MB hV p.of;have h7:=hV.n p (hcm p hp).1;exact ⟨by omega,by omega,h7⟩
   have hll:=hl.length_eq;have hfc:cs.length≤nJ m v:=by
    cases hq:cs with
    | nil=>exact Nat.zero_le _
    | cons p t =>
     have hp:p∈cs:=by rw [hq];exact List.mem_cons_self ..
     have:=GH hV (hcm p hp).1 (hcm p hp).2;rw [← hcs,hq] at this;omega
   have hbs:=GJ (nJ m v) hfl cs.length hfc;refine T.bd (Q:=fun (e:Int×List aF×List bD)=>(0≤e.1∧e.1≤(wd m v).length)∧LW choice e.2.1 e.2.2∧e.2.1.length+60≤a.length+nX (nJ m v)) ?_ fun e he=>.mk he;have hB:∀ i,i < cs.length→i*(60+nX (nJ m v - cs.length))+(60+nX (nJ m v - cs.length))≤cs.length*(60+nX (nJ m v - cs.length)):=fun i hi=>by
    rw [← Nat.succ_mul];exact Nat.mul_le_mul_right _ hi
   refine T.ix cs.length (·.1) (fun (s:Nat×Int×List aF×List bD)=>(0≤s.2.1∧s.2.1≤(wd m v).length)∧LW choice s.2.2.1 s.2.2.2∧s.2.2.1.length≤a.length+s.1*(60+nX (nJ m v - cs.length))) (fun s hs hi=>?_) ⟨⟨Int.le_refl 0,by dsimp only;omega⟩,h2,by dsimp only;omega⟩ (Nat.zero_le _);unfold FE;refine T.ie (fun hlt=>T.bd (T.mem (by omega)) fun p hp=>?_) fun hlt=>.mk ⟨hs.1,hs.2.1,?_⟩
   ·have hp':=hcm p (hl.mem_iff.1 hp);have hft:=hV.ft p hp'.1;rw [hp'.2] at hft;have hB':=hB s.1 (by omega);have hst:(s.1+1)*(60+nX (nJ m v - cs.length))=s.1*(60+nX (nJ m v - cs.length))+(60+nX (nJ m v - cs.length)):=Nat.succ_mul _ _;refine T.bd (Q:=fun (e:Int×List aF×List bD)=>(0≤e.1∧e.1≤(wd m v).length)∧LW choice e.2.1 e.2.2∧e.2.1.length≤a.length+(s.1+1)*(60+nX (nJ m v - cs.length))) (T.bd (.ok (AU _ _)) fun r hrr=>T.bd (Q:=fun (e:Int×List aF×List bD)=>(0≤e.1∧e.1≤(wd m v).length)∧LW choice e.2.1 e.2.2∧e.2.1.length≤a.length+(s.1+1)*(60+nX (nJ m v - cs.length))) (T.ie (fun hrt=>?_) fun _=>.mk ⟨hs.1,hs.2.1,by dsimp only;omega⟩) fun e he=>.mk he) fun e he=>.mk ⟨he,rfl,by omega⟩;have hpc:p.number∈choice:=by
     rw [hrr] at hrt;obtain ⟨x,hx,he⟩:=List.any_eq_true.1 hrt;rw [of_decide_eq_true he];exact hx
    refine T.bd (Q:=fun (e:Int×List aF×List bD)=>(0≤e.1∧e.1≤(wd m v).length)∧LW choice e.2.1 e.2.2∧e.2.1.length≤a.length+s.1*(60+nX (nJ m v - cs.length))+60) (T.bd (GL (wd m v) v hv p.from_ (by omega) h0 (FD p (wd m v) (v,a,b)) (fun s=>rfl) hs.1 hs.2 (VK hV v) (by omega)) fun e he=>.mk he) fun e he=>?_;have hf:=GH hV hp'.1 hp'.2;rw [← hcs] at hf;have hbm:nX (nJ m p.number)≤nX (nJ m v - cs.length):=GK (by omega);exact T.bd (ih p.number e.2.1 e.2.2 (.inr hpc) (by have:0 < cs.length:=(by omega);omega) he.2.1 (by omega)) fun r hr=>.mk ⟨⟨by dsimp only;omega,by dsimp only;omega⟩,hr.1,by dsimp only;omega⟩
   have:s.1*(60+nX (nJ m v - cs.length))≤cs.length*(60+nX (nJ m v - cs.length)):=Nat.mul_le_mul_right _ hi;dsimp only;omega
  refine T.bd (Q:=fun (e:Int×List aF×List bD)=>LW choice e.2.1 e.2.2∧e.2.1.length≤a.length+nX (nJ m v)) (T.bd (GL (wd m v) v hv _ (Int.le_refl _) h0 (FF (wd m v) (v,a,b)) (fun s=>rfl) (L:=a.length+nX (nJ m v) - 60) he.1 ⟨he.2.1,by omega⟩ (VK hV v) (by omega)) fun e h=>.mk ⟨h.2.1,by dsimp only;omega⟩) fun e h=>.mk h
theorem t71 (m:bL) (choice:List Int):T (QR m choice) fun r=>LW choice r.1 r.2.1∧r.1.length≤3542940∧(r.2.2=0→Vm m):=by
 unfold QR;refine T.bd (aFs m choice) fun r h=>T.ie (fun hr=>.mk ⟨⟨rfl,by simp [zH],by simp⟩,by simp,fun h0=>absurd h0 hr⟩) fun h0=>?_;have hV:=h (by omega);have h1:=GI hV 0;have h2:=QC _ h1;exact T.bd (T.rc (aFu hV choice 100000 0 [] [] (.inl rfl) (by omega) ⟨rfl,by simp [zH],by simp⟩ (by simp;omega))) fun r hr=>.mk ⟨hr.1,by have:=hr.2;simp at this;dsimp only;omega,fun _=>hV⟩
end T12
set_option maxHeartbeats 4000000
namespace T12
open Go Go.Proofs Pk
theorem xZ (n a b:Int):pA n a b=some (decide (a≤n∧n≤b)):=by
 unfold pA;by_cases h:a≤n <;> simp [h]
theorem QY (n:Int):pP n=some (decide (0≤n∧n≤99999)):=by unfold pP;rw [xZ];rfl
theorem QD (n:Int):wB n=some (decide (1≤n∧n≤999)):=by unfold wB;rw [xZ];rfl
theorem aFv (l:List aH) (f:aH→Option Bool) (p:aH→Bool) (hf:∀ x∈l,f x=some (p x)):DA l f=some (l.all p):=by
 obtain ⟨r,h1,h2⟩:=pS l (fun x=>tV x f) (fun x=>!p x) (fun x hx=>by unfold tV;rw [hf x hx];rfl) (wA l (fun x=>tV x f)) (fun i=>rfl);unfold DA IS IR;rw [h1,List.all_eq_not_any_not];rcases h2 with ⟨z,rfl,h2⟩ | ⟨rfl,h2⟩ <;> simp [h2]
theorem aFw (l:List aQ) (f:aQ→Option Bool) (p:aQ→Bool) (hf:∀ x∈l,f x=some (p x)):DH l f=some (l.all p):=by
 obtain ⟨r,h1,h2⟩:=pS l (fun x=>tY x f) (fun x=>!p x) (fun x hx=>by unfold tY;rw [hf x hx];rfl) (wI l (fun x=>tY x f)) (fun i=>rfl);unfold DH IU IT;rw [h1,List.all_eq_not_any_not];rcases h2 with ⟨z,rfl,h2⟩ | ⟨rfl,h2⟩ <;> simp [h2]
theorem aFx (l:List UInt8) (f:Int→Option Bool) (p:Int→Bool) (hf:∀ x∈l,f (x.toNat:Int)=some (p (x.toNat:Int))):DB l f=some (l.all fun x=>p (x.toNat:Int)):=by
 obtain ⟨r,h1,h2⟩:=pS l (fun x=>tW (x.toNat:Int) f) (fun x=>!p (x.toNat:Int)) (fun x hx=>by unfold tW;rw [hf x hx];rfl) (pB l (fun x=>tW x f)) (fun i=>rfl);unfold DB LD wC;rw [h1,List.all_eq_not_any_not];rcases h2 with ⟨z,rfl,h2⟩ | ⟨rfl,h2⟩ <;> simp [h2]
theorem QE (s:aF):T (wE s) fun r=>r=true→1≤s.length∧s.length≤200:=by
 unfold wE;refine T.bd (Q:=fun r=>r=true→1≤s.length∧s.length≤200) (T.bd (.ok (xZ _ _ _)) fun r h=>T.ie (fun h1=>?_) fun _=>.mk (by simp)) fun _ h=>.mk h;subst h;simp only [decide_eq_true_eq] at h1;refine .ck (by omega) (T.bd (.ok (aFx _ _ (fun c=>(wD c).getD false) fun x _=>?_)) fun _ _=>.mk fun _=>⟨by omega,by omega⟩);unfold wD;by_cases h:(32:Int)≤x.toNat <;> simp [h]
theorem VL (p:aH):T (tX p) fun r=>r=true→(1≤p.anchor∧p.anchor≤999)∧1≤p.text.length∧p.text.length≤200:=by
 unfold tX;refine T.bd (Q:=fun r=>r=true→(1≤p.anchor∧p.anchor≤999)∧1≤p.text.length∧p.text.length≤200) (T.bd (.ok (QD _)) fun r h=>T.ie (fun h1=>T.bd (QE _) fun b hb=>.mk fun h2=>?_) fun _=>.mk (by simp)) fun _ h=>.mk h;subst h;simp only [decide_eq_true_eq] at h1;exact ⟨h1,hb h2⟩
def mH (v:bT):List aH:=v.parts.flatMap (·.paragraphs)
def Ps (v:bT):Prop:=v.parts.length≤1000∧∀ p∈v.parts,p.paragraphs.length≤1000
theorem XK (v:bT) (h:Ps v):tU v=some (mH v):=by
 obtain ⟨r,h1,h2⟩:T (bC (rI v) (0,([]:List aH))) fun e=>e=mH v:=by
  refine T.ix v.parts.length (·.1) (fun s=>s.2=(v.parts.take s.1).flatMap (·.paragraphs)∧s.2.length≤1000*s.1) (fun s hs hi=>?_) ⟨rfl,Nat.zero_le _⟩ (Nat.zero_le _);unfold rI;have:=h.1;refine T.ie (fun hl=>T.bd (T.at (by omega)) fun x hx=>?_) fun hl=>.mk (by dsimp only;rw [hs.1,List.take_of_length_le (by omega)];rfl);have hx2:=h.2 x (List.mem_of_getElem? hx);exact .ck (by omega) (.mk ⟨⟨by dsimp only;rw [List.take_add_one,hx,hs.1,List.flatMap_append];simp,by simp;omega⟩,rfl,by omega⟩)
 unfold tU;rw [h1,h2];rfl
structure Vv (v:bT):Prop where
 pl:v.parts.length≤6
 ql:(mH v).length≤30
 h:1≤v.height∧v.height≤60
 w:10≤v.width∧v.width≤80
 n:1≤v.number∧v.number≤99
 b:0≤v.bound∧v.bound≤99999
 p:∀ p∈mH v,(1≤p.anchor∧p.anchor≤999)∧1≤p.text.length∧p.text.length≤200
theorem t82 (v:bT) (h:Ps v):T (DD v) fun r=>r=true→v.parts.length≤6→(mH v).length≤30→Vv v:=by
 unfold DD;refine T.bd (Q:=fun e=>match e with | .inl _=>True | .inr z=>z=false) (T.ix v.parts.length id (fun _=>True) (fun i _ hi=>?_) trivial (Nat.zero_le _)) fun e he=>?_
 ·unfold wF;exact T.ie (fun hl=>T.bd (T.at (by simp only [id] at *;omega)) fun x hx=>T.bd (Q:=fun _=>True) (T.bd (.ok (QY _)) fun _ _=>T.ie (fun _=>T.ie (fun _=>.mk trivial) fun _=>T.ie (fun h0=>T.bd (T.at (by simp only [id] at *;omega)) fun _ _=>.mk trivial) fun _=>.mk trivial) fun _=>.mk trivial) fun _ _=>T.ie (fun _=>.mk rfl) fun _=>.mk ⟨trivial,rfl,by simp only [id] at *;omega⟩) fun _=>.mk trivial
 cases e with
 | inr z=>simp only at he;subst he;exact .mk (by simp)
 | inl _ =>
  refine T.bd (Q:=fun r=>r=true→v.parts.length≤6→(mH v).length≤30→Vv v) ?_ fun _ h=>.mk h;refine T.bd (.ok (xZ _ _ _)) fun r h1=>T.ie (fun g1=>T.bd (.ok (QY _)) fun r h2=>T.ie (fun g2=>T.bd (.ok (xZ _ _ _)) fun r h3=>T.ie (fun g3=>T.bd (.ok (xZ _ _ _)) fun r h4=>T.ie (fun g4=>T.bd (.ok (XK v h)) fun l hl=>T.bd (.ok (aFv _ _ (fun p=>(tX p).getD false) fun p _=>(VL p).get)) fun r h5=>.mk fun g5 a b=>?_) fun _=>.mk (by simp)) fun _=>.mk (by simp)) fun _=>.mk (by simp)) fun _=>.mk (by simp);subst h1 h2 h3 h4 hl;simp only [decide_eq_true_eq] at g1 g2 g3 g4;rw [h5,List.all_eq_true] at g5;refine ⟨a,b,g3,g4,g1,g2,fun p hp=>?_⟩;obtain ⟨r,h6,h7⟩:=VL p;have:=g5 p hp;rw [h6] at this;exact h7 this
theorem t53 (v:bT) (h:Ps v):T (wH v) fun r=>r=0→Vv v:=by
 unfold wH;refine T.bd (.ok (XK v h)) fun l hl=>T.bd (Q:=fun t=>t=false→v.parts.length≤6∧(mH v).length≤30) (T.ie (fun _=>.mk (by simp)) fun h6=>.mk fun h7=>?_) fun t ht=>T.ie (fun _=>.mk (by simp)) fun hf=>T.bd (t82 v h) fun r hr=>T.ie (fun hrt=>T.bd (Q:=fun e=>match e with | .inl _=>True | .inr z=>z=6) (T.ix l.length (·.1) (fun _=>True) (fun s _ hi=>?_) trivial (Nat.zero_le _)) fun e he=>?_) fun _=>.mk (by simp)
 ·subst hl;simp at h7;omega
 ·unfold wG;exact T.ie (fun hl=>T.bd (T.at (by omega)) fun x hx=>T.ie (fun _=>.mk rfl) fun _=>.mk ⟨trivial,rfl,by omega⟩) fun _=>.mk trivial
 have h8:=ht (by simpa using hf)
 cases e with
 | inr z=>exact .mk fun _=>hr hrt h8.1 h8.2
 | inl _=>exact .mk fun _=>hr hrt h8.1 h8.2
theorem VM (x:aQ):T (tZ x) fun r=>r=true→(0≤x.kind∧x.kind≤2)∧x.text.length≤200:=by
 unfold tZ;refine T.bd (Q:=fun _=>True) (T.bd (.ok (xZ _ _ _)) fun _ _=>T.ie (fun _=>T.bd (.ok (QY _)) fun _ _=>T.ie (fun _=>T.bd (.ok (QD _)) fun _ _=>.mk trivial) fun _=>.mk trivial) fun _=>.mk trivial) fun _ _=>T.ie (fun _=>.mk (by simp)) fun _=>T.ie (fun h0=>?_) fun _=>T.ie (fun h1=>?_) fun _=>T.ie (fun h2=>?_) fun _=>.mk (by simp)
 ·exact T.bd (Q:=fun r=>r=true→x.text.length≤200) (T.bd (QE _) fun r h=>T.ie (fun hr=>.mk fun _=>(h hr).2) fun _=>.mk (by simp)) fun r h=>.mk fun hr=>⟨by omega,h hr⟩
 ·exact T.bd (Q:=fun r=>r=true→x.text.length≤200) (T.ie (fun h=>.mk fun _=>by rw [h];decide) fun _=>.mk (by simp)) fun r h=>.mk fun hr=>⟨by omega,h hr⟩
 exact T.bd (Q:=fun r=>r=true→x.text.length≤200) (T.bd (QE _) fun r h=>T.ie (fun hr=>T.bd (.ok (QD _)) fun _ _=>.mk fun _=>(h hr).2) fun _=>.mk (by simp)) fun r h=>.mk fun hr=>⟨by omega,h hr⟩
end T12
set_option maxHeartbeats 4000000
namespace T12
open Go Go.Proofs Pk
structure Ve (es:List aQ):Prop where
 l:es.length≤20
 k:∀ x∈es,(0≤x.kind∧x.kind≤2)∧x.text.length≤200
 nd:(es.map (·.number)).Nodup
def AW (a b:Int):Int:=if a < b then -1 else if b < a then 1 else 0
theorem VN (a b:Int):AA a b=some (AW a b):=by
 unfold AA uA AW;simp only [ne_eq,not_true_eq_false,decide_false,Option.bind_some,Bool.false_eq_true,if_false];by_cases h:a < b
 ·rw [if_pos h,if_pos h]
 rw [if_neg h,if_neg h];split <;> rfl
theorem aFy (x y:Int):DI [x,y]=some (if x≠0 then x else y):=by
 have h:∀ (i:Nat) (v:Int),[x,y][i]?=some v→pC [x,y] i=if v≠0 then some (.inr (.inr v)) else some (.inl (i+1)):=fun i v hv=>by
  have:=(List.getElem?_eq_some_iff.1 hv).1;unfold pC;rw [if_pos (by omega),hv];rfl
 have h0:=h 0 x rfl;have h1:=h 1 y rfl;unfold DI;by_cases a:x=0
 ·rw [if_neg (by omega)] at h0;rw [eO h0];by_cases b:y=0
  ·rw [if_neg (by omega)] at h1;rw [eO h1,dS (by unfold pC;rfl)];simp [a,b]
  rw [if_pos b] at h1;rw [dS h1];simp [a]
 rw [if_pos a] at h0;rw [dS h0];simp [a]
def VO (a b:aQ):Int:=if AW a.day b.day≠0 then AW a.day b.day else AW a.number b.number
theorem VP (a b:aQ):rK a b=some (VO a b):=by
 unfold rK;rw [VN,VN];simp only [Option.bind_some];rw [aFy];rfl
theorem GM (a b:aQ):iL rK a b=true↔a.day < b.day∨(a.day=b.day∧a.number < b.number):=by
 unfold iL;rw [VP];simp only [decide_eq_true_eq];unfold VO AW;(repeat' split) <;> omega
theorem zI {l:List aQ} (hl:l.length≤20) (hn:(l.map (·.number)).Nodup):T (iU rK l) fun r=>r.Perm l:=by
 refine ⟨_,oQ ⟨by omega,fun x hx y hy=>⟨_,VP x y⟩,fun x hx=>?_,fun x hx y hy z hz h1 h2=>?_,fun x hx y hy h1 h2=>?_⟩,List.mergeSort_perm ..⟩
 ·rw [Bool.eq_false_iff,Ne,GM];omega
 ·rw [GM] at *;omega
 have h3:x.number=y.number:=by
  rw [Bool.eq_false_iff,Ne,GM] at h1 h2;omega
 obtain ⟨i,hi⟩:=List.getElem?_of_mem hx;obtain ⟨j,hj⟩:=List.getElem?_of_mem hy;have hi':=(List.getElem?_eq_some_iff.1 hi).1;have:=(List.getElem?_inj (by rw [List.length_map];exact hi') hn).1 (show (l.map (·.number))[i]?=(l.map (·.number))[j]? by rw [List.getElem?_map,List.getElem?_map,hi,hj];simp [h3]);subst this;rw [hi] at hj;cases hj;rfl
theorem VQ {l:List aQ} (h:l.length≤20):rJ l=some l:=by
 unfold rJ bW;rw [if_pos (by simp;omega)];rfl
theorem aFz (v:bT) (es:List aQ) (hv:Ps v) (he:Ve es):T (DK v es) fun _=>True:=by
 unfold DK;refine T.bd (.ok (XK v hv)) fun ps _=>T.bd (Q:=fun _=>True) (T.ix ps.length (·.1) (fun _=>True) (fun s _ hi=>?_) trivial (Nat.zero_le _)) fun t _=>T.bd (Q:=fun _=>True) (T.bd (.ok (VQ he.l)) fun l1 h1=>?_) fun t _=>by cases t <;> exact .mk trivial
 ·unfold wJ;exact T.ie (fun hl=>T.bd (T.at (by omega)) fun x hx=>.mk ⟨trivial,rfl,by omega⟩) fun _=>.mk trivial
 subst h1;refine T.bd (zI he.l he.nd) fun l hl=>T.bd (Q:=fun _=>True) (T.ix l1.length (·.1) (fun _=>True) (fun s _ hi=>?_) trivial (Nat.zero_le _)) fun e _=>by cases e <;> exact .mk trivial
 have hll:=hl.length_eq;unfold wK;refine T.ie (fun hl=>T.bd (T.at (by omega)) fun x hx=>T.ie (fun _=>.mk trivial) fun _=>T.bd (Q:=fun _=>True) (T.ie (fun _=>T.bd (Q:=fun _=>True) (T.ie (fun _=>.mk trivial) fun _=>.mk trivial) fun _ _=>.mk trivial) fun _=>.mk trivial) fun t _=>?_) fun _=>.mk trivial
 cases t with
 | inl _=>exact .mk trivial
 | inr _=>exact .mk ⟨trivial,rfl,by omega⟩
theorem t85 (v:bT) (es:List aQ) (hv:Ps v):T (wN v es) fun r=>r=0→Vv v∧Ve es:=by
 unfold wN;refine T.bd (t53 v hv) fun r h=>T.ie (fun hr=>.mk fun h0=>absurd h0 hr) fun h0=>T.ie (fun _=>.mk (by simp)) fun hl=>T.bd (.ok (aFw _ _ (fun x=>(tZ x).getD false) fun x _=>(VM x).get)) fun r2 h2=>T.ie (fun hr=>T.bd (.ok (XK v hv)) fun ps _=>T.bd (Q:=fun _=>True) (T.ix ps.length (·.1) (fun _=>True) (fun s _ hi=>?_) trivial (Nat.zero_le _)) fun t _=>T.bd (Q:=fun e=>match e with | .inl _=>(es.map (·.number)).Nodup | .inr z=>z=6) (T.ix es.length (·.1) (fun s=>(∀ k,(eD s.2.1 k).getD false=true↔k∈(es.take s.1).map (·.number))∧((es.take s.1).map (·.number)).Nodup) (fun s hs hi=>?_) ⟨fun k=>by simp [eD],by simp⟩ (Nat.zero_le _)) fun e he=>?_) fun _=>.mk (by simp)
 ·unfold wL;exact T.ie (fun hl=>T.bd (T.at (by omega)) fun x hx=>.mk ⟨trivial,rfl,by omega⟩) fun _=>.mk trivial
 ·unfold wM;refine T.ie (fun hl=>T.bd (T.at (by omega)) fun x hx=>T.bd (Q:=fun t=>t=false→x.number∉(es.take s.1).map (·.number)) (T.ie (fun _=>.mk (by simp)) fun hn=>?_) fun t ht=>T.ie (fun _=>.mk rfl) fun hf=>T.bd (Q:=fun _=>True) (T.ie (fun _=>.mk trivial) fun _=>.mk trivial) fun _ _=>.mk ⟨⟨fun k=>?_,?_⟩,rfl,by omega⟩) fun hl=>.mk (by have:=hs.2;rwa [List.take_of_length_le (by omega)] at this)
  ·have hm:x.number∉(es.take s.1).map (·.number):=fun h=>hn ((hs.1 _).2 h);exact T.ie (fun _=>.mk fun _=>hm) fun _=>.mk fun _=>hm
  ·dsimp only;rw [jR,List.take_add_one,hx,List.map_append,List.mem_append,← hs.1 k];by_cases hk:k=x.number <;> simp [hk]
  have hm:=ht (by simpa using hf);dsimp only;rw [List.take_add_one,hx,List.map_append];exact List.nodup_append.2 ⟨hs.2,by simp,fun a ha b hb hab=>by simp at hb;subst hb hab;exact hm ha⟩
 cases e with
 | inr z=>simp only at he;subst he;exact .mk (by simp)
 | inl _ =>
  have hE:Ve es:=⟨by omega,fun x hx=>by
   obtain ⟨r,h6,h7⟩:=VM x;rw [h2,List.all_eq_true] at hr
   have:=hr x hx;rw [h6] at this;exact h7 this,he⟩
  exact T.bd (aFz v es hv hE) fun _ _=>.mk fun _=>⟨h (by omega),hE⟩
end T12
set_option maxHeartbeats 4000000
namespace T12
open Go Go.Proofs Pk
def Gd (n k:Nat) (g:List (List cN)):Prop:=g.length=n∧∀ r∈g,r.length≤k∧∀ e∈r,e.paragraph.text.length≤200
theorem Gd.mono {n k k':Nat} {g:List (List cN)} (h:Gd n k g) (hk:k≤k'):Gd n k' g:=⟨h.1,fun r hr=>⟨Nat.le_trans (h.2 r hr).1 hk,(h.2 r hr).2⟩⟩
theorem VR {α:Type} {l:List α} {i:Nat} {v:α} {P:α→Prop} (h:∀ x∈l,P x) (hv:P v):∀ x∈l.set i v,P x:=xV h hv
theorem Gd.set {n k:Nat} {g:List (List cN)} {i:Nat} {r:List cN} (h:Gd n k g) (hr:r.length≤k∧∀ e∈r,e.paragraph.text.length≤200):Gd n k (g.set i r):=⟨by rw [List.length_set];exact h.1,VR h.2 hr⟩
theorem KA {v:bT} {p:dW} (hp:p∈v.parts):p.paragraphs.length≤(mH v).length:=by
 unfold mH;obtain ⟨i,hi⟩:=List.getElem?_of_mem hp;have:∀ (l:List dW) (p:dW),p∈l→p.paragraphs.length≤(l.flatMap (·.paragraphs)).length:=by
  intro l p
  induction l with
  | nil=>intro h;cases h
  | cons q l ih =>
   intro h;rw [List.flatMap_cons,List.length_append];rcases List.mem_cons.1 h with rfl | h
   ·omega
   have:=ih h;omega
 exact this _ _ hp
theorem aF0 (g:List (List cN)) (k:Nat) (x:aQ) (hg:Gd 6 k g∨g.length≤6∧∀ r∈g,r.length≤k) (hk:k≤1000) (i:Nat):T (bC (rL (i,g) x) (0,0,0,false)) fun e=>e.2.2=true→∃ r,g[e.1]?=some r∧e.2.1 < r.length:=by
 have hg':g.length≤6∧∀ r∈g,r.length≤k:=by
  rcases hg with h | h
  ·exact ⟨by have:=h.1;omega,fun r hr=>(h.2 r hr).1⟩
  exact h
 refine T.ix g.length (·.2.2.1) (fun s=>s.2.2.2=false) (fun s hs hi=>?_) rfl (Nat.zero_le _);unfold rL;dsimp only;refine T.ie (fun hl=>T.bd (T.at (by omega)) fun r hr=>T.bd (Q:=fun e=>match e with | .inl q=>q.2.2=false | .inr z=>∃ q,z=.inr q∧q.1=s.2.2.1∧q.2.1 < r.length) (T.ix r.length (·.2.2.1) (fun q=>q.2.2.2=false) (fun q hq hj=>?_) hs (Nat.zero_le _)) fun e he=>?_) fun _=>.mk fun h=>by dsimp only at h;rw [hs] at h;cases h
 ·have:=hg'.2 r (List.mem_of_getElem? hr);unfold wQ;exact T.ie (fun hl=>T.bd (T.at (by omega)) fun y hy=>T.ie (fun _=>⟨_,rfl,_,rfl,rfl,by dsimp only;omega⟩) fun _=>.ck (by omega) (.mk ⟨hq,rfl,by omega⟩)) fun _=>.mk hq
 cases e with
 | inl q=>exact .ck (by omega) (.mk ⟨he,rfl,by omega⟩)
 | inr z=>obtain ⟨q,rfl,h1,h2⟩:=he;exact .mk fun _=>⟨r,by rw [h1];exact hr,h2⟩
theorem t90 (v:bT) (es:List aQ) (to_:Int) (hv:Vv v) (he:Ve es):T (wS v es to_) fun r=>r.volume=v∧Gd v.parts.length 50 r.parts:=by
 have hpl:=hv.pl;have hql:=hv.ql;unfold wS;refine T.bd (Q:=fun g=>Gd v.parts.length 30 g) (T.ix v.parts.length (·.1) (fun s=>Gd s.1 30 s.2) (fun s hs hi=>?_) ⟨rfl,by simp⟩ (Nat.zero_le _)) fun g hg=>?_
 ·unfold wP;refine T.ie (fun hl=>T.bd (T.at (by omega)) fun p hp=>T.bd (Q:=fun r=>r.length≤30∧∀ e∈r,e.paragraph.text.length≤200) (T.ix p.paragraphs.length (·.1) (fun q=>q.2.length=q.1∧∀ e∈q.2,e.paragraph.text.length≤200) (fun q hq hj=>?_) ⟨rfl,by simp⟩ (Nat.zero_le _)) fun r hr=>.ck (by have:=hs.1;omega) (.mk ⟨⟨by simp [hs.1],fun r' hr'=>?_⟩,rfl,by omega⟩)) fun hl=>.mk ?_
  ·have hpm:=List.mem_of_getElem? hp;have h0:=KA hpm;unfold wO;refine T.ie (fun hl=>T.bd (T.mem (by omega)) fun y hy=>.ck (by have:=hq.1;omega) (.mk ⟨⟨by simp [hq.1],fun e he'=>?_⟩,rfl,by omega⟩)) fun _=>.mk ⟨by have:=hq.1;omega,hq.2⟩;rcases List.mem_append.1 he' with h | h
   ·exact hq.2 e h
   simp at h;subst h;exact (hv.p y (List.mem_flatMap.2 ⟨p,hpm,hy⟩)).2.2
  ·rcases List.mem_append.1 hr' with h | h
   ·exact hs.2 r' h
   simp at h;subst h;exact hr
  have:s.1=v.parts.length:=by omega
  rw [this] at hs;exact hs
 refine T.bd (Q:=fun g=>Gd v.parts.length 50 g) (T.bd (.ok (VQ he.l)) fun l1 h1=>?_) fun g hg=>.mk ⟨rfl,hg⟩;subst h1;have hEl:=he.l;refine T.bd (zI he.l he.nd) fun l hl=>T.bd (Q:=fun e=>match e with | .inl g=>Gd v.parts.length 50 g | .inr g=>Gd v.parts.length 50 g) (T.ix l1.length (·.1) (fun s=>Gd v.parts.length (30+s.1) s.2) (fun s hs hi=>?_) hg (Nat.zero_le _)) fun e h=>by cases e <;> exact .mk h
 have hll:=hl.length_eq;unfold wR;refine T.ie (fun hlt=>T.bd (T.mem (by omega)) fun x hx=>T.bd (Q:=fun r=>Gd v.parts.length (30+(s.1+1)) r.2) (T.ie (fun _=>.mk (hs.mono (by omega))) fun _=>?_) fun r hr=>T.ie (fun _=>.mk (hr.mono (by omega))) fun _=>.mk ⟨hr,rfl,by omega⟩) fun _=>.mk (hs.mono (by omega));have hk:=he.k x (hl.mem_iff.1 hx);have hs':=hs.mono (show 30+s.1≤30+(s.1+1) by omega);refine T.bd (Q:=fun g=>Gd v.parts.length (30+(s.1+1)) g) ?_ fun g hg=>.mk hg;refine T.bd (Q:=fun e=>e.2.2=true→∃ r,s.2[e.2.1]?=some r∧e.1 < r.length) (T.bd (aF0 s.2 (30+s.1) x (.inr ⟨by have:=hs.1;omega,fun r hr=>(hs.2 r hr).1⟩) (by omega) s.1) fun e he=>.mk he) fun e hf=>?_;refine T.bd (Q:=fun g=>Gd v.parts.length (30+(s.1+1)) g) (T.ie (fun hft=>?_) fun _=>.mk hs') fun g hg=>.mk hg;obtain ⟨r,hr,hc⟩:=hf hft;have hrm:=hs.2 r (List.mem_of_getElem? hr);refine T.bd (.ok (rfl:IV=some ())) fun _ _=>.ck (by omega) (T.ie (fun _=>?_) fun _=>T.ie (fun _=>?_) fun _=>T.ie (fun _=>?_) fun _=>by omega)
 ·refine T.bd (Q:=fun g=>Gd v.parts.length (30+(s.1+1)) g) (T.bd (.ok hr) fun r' h'=>?_) fun g hg=>.mk hg;subst h';exact T.bd (T.at hc) fun y hy=>T.bd (Q:=fun g=>Gd v.parts.length (30+(s.1+1)) g) (T.ie (fun _=>.mk hs') fun _=>.mk (hs'.set ⟨by simp;omega,xV hrm.2 hk.2⟩)) fun g hg=>.mk hg
 ·refine T.bd (Q:=fun g=>Gd v.parts.length (30+(s.1+1)) g) (T.bd (.ok hr) fun r' h'=>?_) fun g hg=>.mk hg;subst h';exact T.bd (T.mem hc) fun y hy=>.mk (hs'.set ⟨by simp;omega,xV hrm.2 (hrm.2 y hy)⟩)
 refine T.bd (Q:=fun g=>Gd v.parts.length (30+(s.1+1)) g) (T.bd (.ok hr) fun r' h'=>?_) fun g hg=>.mk hg;subst h';refine .ck (by omega) (.ck (by omega) (.ck (by omega) (.mk (hs'.set ⟨by simp;omega,fun e he'=>?_⟩))));simp only [List.mem_append,List.mem_singleton] at he';rcases he' with (h | h) | h
 ·exact hrm.2 e (List.mem_of_mem_take h)
 ·subst h;exact hk.2
 exact hrm.2 e (List.mem_of_mem_drop h)
end T12
set_option maxHeartbeats 4000000
namespace T12
open Go Go.Proofs Pk
theorem KB {n:Int} (h : -1000000000000 < n∧n < 1000000000000):(Lib.itoa n).length≤13:=by
 unfold Lib.itoa;split
 ·rw [List.length_cons];have:=yO (u:=n.natAbs) (k:=12) (by omega) (by decide);omega
 have:=yO (u:=n.toNat) (k:=12) (by omega) (by decide);omega
def Sh (x:Any):Prop:=match x with | .i n=>-1000000000000 < n∧n < 1000000000000 | .s b=>b.length≤13
theorem GN:∀ {l:List Any},(∀ x∈l,Sh x)→(fY l).length≤13*l.length
 | [],_=>by simp [fY]
 | x::l,h=>by
  have h1:=GN fun y hy=>h y (List.mem_cons_of_mem _ hy);have h2:(tP x).length≤13:=by
   have:=h x (List.mem_cons_self ..)
   cases x with
   | i n=>exact KB this
   | s b=>exact this
  have:fY (x::l)=tP x++fY l:=rfl;rw [this,List.length_append,List.length_cons];omega
theorem t87 {l:List Any} (h:∀ x∈l,Sh x) (hl:l.length≤10):T (vX l) fun r=>r.length≤130:=by
 have:=GN h;unfold vX
 exact .ck ⟨fun x hx=>by
  have:=h x hx
  cases x with
  | i n=>unfold Sh at this;exact ⟨by omega,by omega⟩
  | s b=>trivial,by omega⟩ (.mk (by omega))
theorem t84 (v:bT) (es:List aQ) (to_:Int) (hv:Ps v):T (DN v es to_) fun r=>r.2=0→(Vv v∧Ve es)∧r.1.length≤300:=by
 unfold DN;refine T.bd (t85 v es hv) fun r h=>T.ie (fun hr=>.mk fun h0=>absurd h0 hr) fun h0=>T.bd (.ok (QY _)) fun b _=>T.ie (fun _=>?_) fun _=>.mk (by simp);have hVE:=h (by omega);have hpl:=hVE.1.pl;refine T.bd (t90 v es to_ hVE.1 hVE.2) fun g hg=>T.bd (Q:=fun l=>l.length≤300) (T.ix g.parts.length (·.1) (fun s=>s.2.length≤50*s.1) (fun s hs hi=>?_) (Nat.zero_le _) (Nat.zero_le _)) fun l hl=>.mk fun _=>⟨hVE,hl⟩;have hgl:=hg.2.1;unfold wU;refine T.ie (fun hl=>T.bd (T.mem (by omega)) fun r hr=>T.bd (Q:=fun l=>l.length≤50*(s.1+1)) (T.ix r.length (·.1) (fun q=>q.2.length≤50*s.1+q.1) (fun q hq hj=>?_) hs (Nat.zero_le _)) fun l hl=>.mk ⟨hl,rfl,by omega⟩) fun _=>.mk (by omega);have hrl:=(hg.2.2 r hr).1;unfold wT;exact T.ie (fun hl=>T.bd (T.at (by omega)) fun y hy=>T.bd (Q:=fun l=>l.length≤50*s.1+(q.1+1)) (T.ie (fun _=>.mk (by omega)) fun _=>.ck (by omega) (.mk (by simp;omega))) fun l hl=>.mk ⟨hl,rfl,by omega⟩) fun _=>.mk (by omega)
theorem aF3 (g:gX) (anchor:Int):T (bC (rM g anchor) (0,0,0,false)) fun e=>e.2.2=true→∃ r,g.parts[e.1]?=some r∧e.2.1 < r.length:=by
 refine T.ix g.parts.length (·.2.2.1) (fun s=>s.2.2.2=false) (fun s hs hi=>?_) rfl (Nat.zero_le _);unfold rM;refine T.ie (fun hl=>T.bd (T.at (by omega)) fun r hr=>T.bd (Q:=fun e=>match e with | .inl q=>q.2.2=false | .inr z=>∃ q,z=.inr q∧q.1=s.2.2.1∧q.2.1 < r.length) (T.ix r.length (·.2.2.1) (fun q=>q.2.2.2=false) (fun q hq hj=>?_) hs (Nat.zero_le _)) fun e he=>?_) fun _=>.mk fun h=>by dsimp only at h;rw [hs] at h;cases h
 ·unfold wW;exact T.ie (fun hl=>T.bd (T.at (by omega)) fun y hy=>T.ie (fun _=>⟨_,rfl,_,rfl,rfl,by dsimp only;omega⟩) fun _=>.mk ⟨hq,rfl,by omega⟩) fun _=>.mk hq
 cases e with
 | inl q=>exact .mk ⟨he,rfl,by omega⟩
 | inr z=>obtain ⟨q,rfl,h1,h2⟩:=he;exact .mk fun _=>⟨r,by rw [h1];exact hr,h2⟩
theorem t58 (v:bT) (es:List aQ) (anchor to_:Int) (hv:Ps v):T (AB v es anchor to_) fun r=>r.2.2=0→(0≤to_∧to_≤99999):=by
 unfold AB;refine T.bd (t85 v es hv) fun r h=>T.ie (fun hr=>.mk fun h0=>absurd h0 hr) fun h0=>T.bd (.ok (QY _)) fun b hb=>T.ie (fun hbt=>?_) fun _=>.mk (by simp);have hVE:=h (by omega);subst hb;simp only [decide_eq_true_eq] at hbt;refine T.bd (t90 v es to_ hVE.1 hVE.2) fun g hg=>T.bd (Q:=fun e=>e.2.2=true→∃ r,g.parts[e.2.1]?=some r∧e.1 < r.length) (T.bd (aF3 g anchor) fun e he=>.mk he) fun e he=>T.ie (fun h1=>?_) fun _=>.mk (by simp);obtain ⟨r,hr,hc⟩:=he h1;exact T.bd (.ok hr) fun r' h'=>by
  subst h';exact T.bd (T.at hc) fun y hy=>.mk fun _=>hbt
theorem t88 (v:bT) (es:List aQ) (hv:Vv v) (he:Ve es):T (DR v es) fun l=>∀ x∈l,(0≤x.place.column∧x.place.column≤1000000)∧(0≤x.place.line∧x.place.line≤1000)∧(0≤x.number∧x.number≤1000)∧∃ p∈v.parts,x.day=p.day:=by
 have hpl:=hv.pl;have hh:=hv.h;have hw:=hv.w;unfold DR;refine T.bd (t90 v es v.bound hv he) fun g hg=>T.bd (Q:=fun l=>∀ x∈l,(0≤x.place.column∧x.place.column≤1000000)∧(0≤x.place.line∧x.place.line≤1000)∧(0≤x.number∧x.number≤1000)∧∃ p∈v.parts,x.day=p.day) (T.ix g.parts.length (·.1) (fun (s:Nat×Int×List cY)=>(1≤s.2.1∧s.2.1≤1+20000*(s.1:Int))∧s.2.2.length≤50*s.1∧∀ x∈s.2.2,(0≤x.place.column∧x.place.column≤1000000)∧(0≤x.place.line∧x.place.line≤1000)∧(0≤x.number∧x.number≤1000)∧∃ p∈v.parts,x.day=p.day) (fun s hs hi=>?_) ⟨⟨by decide,by decide⟩,Nat.zero_le _,by simp⟩ (Nat.zero_le _)) fun l hl=>.mk hl;have hgl:=hg.2.1;obtain ⟨hs1,hs2,hs3⟩:=hs;unfold wY;refine T.ie (fun hl=>T.bd (T.mem (by omega)) fun r hr=>T.bd (Q:=fun (e:Int×List cY)=>(0≤e.1∧e.1≤15000)∧e.2.length≤50*(s.1+1)∧∀ x∈e.2,(0≤x.place.column∧x.place.column≤1000000)∧(0≤x.place.line∧x.place.line≤1000)∧(0≤x.number∧x.number≤1000)∧∃ p∈v.parts,x.day=p.day) (T.ix r.length (·.2.1) (fun (q:Nat×Nat×Int×List cY)=>q.1≤q.2.1∧(0≤q.2.2.1∧q.2.2.1≤300*(q.2.1:Int))∧q.2.2.2.length≤50*s.1+q.2.1∧∀ x∈q.2.2.2,(0≤x.place.column∧x.place.column≤1000000)∧(0≤x.place.line∧x.place.line≤1000)∧(0≤x.number∧x.number≤1000)∧∃ p∈v.parts,x.day=p.day) (fun q hq hj=>?_) ⟨Nat.le_refl _,⟨Int.le_refl 0,Int.le_refl 0⟩,by dsimp only;omega,hs3⟩ (Nat.zero_le _)) fun e he=>?_) fun _=>.mk hs3
 ·have hrl:=hg.2.2 r hr;obtain ⟨hq1,hq2,hq3,hq4⟩:=hq;unfold wX;refine T.ie (fun hl2=>T.bd (Q:=fun (t:Nat×Int×List cY)=>t.1≤q.2.1+1∧(0≤t.2.1∧t.2.1≤300*((q.2.1:Int)+1))∧t.2.2.length≤50*s.1+(q.2.1+1)∧∀ x∈t.2.2,(0≤x.place.column∧x.place.column≤1000000)∧(0≤x.place.line∧x.place.line≤1000)∧(0≤x.number∧x.number≤1000)∧∃ p∈v.parts,x.day=p.day) (T.bd (T.mem (by omega)) fun y hy=>T.ie (fun _=>.mk ⟨by dsimp only;omega,⟨hq2.1,by dsimp only;omega⟩,by dsimp only;omega,hq4⟩) fun _=>?_) fun t ht=>.mk ⟨ht,rfl,by omega⟩) fun _=>.mk ⟨⟨by dsimp only;omega,by dsimp only;omega⟩,by dsimp only;omega,hq4⟩;have hty:=hrl.2 y hy;have d1:0≤q.2.2.1/v.height:=Int.ediv_nonneg hq2.1 (by omega);have d2:q.2.2.1/v.height≤q.2.2.1:=Int.ediv_le_self _ hq2.1;have d3:0≤q.2.2.1%v.height:=Int.emod_nonneg _ (by omega);have d4:q.2.2.1%v.height < v.height:=Int.emod_lt_of_pos _ (by omega);have d5:0≤((y.paragraph.text.length:Int)+v.width - 1)/v.width:=Int.ediv_nonneg (by omega) (by omega);have d6:((y.paragraph.text.length:Int)+v.width - 1)/v.width≤(y.paragraph.text.length:Int)+v.width - 1:=Int.ediv_le_self _ (by omega);refine .ck (by omega) (.ck (by omega) (.ck (by omega) (.ck (by omega) (.ck (by omega) (.ck (by omega) (.ck (by omega) (.ck (by omega) (T.bd (T.mem (by omega)) fun z hz=>.ck (by simp;omega) (.ck (by omega) (.mk ⟨by dsimp only;omega,⟨by dsimp only;omega,by dsimp only;omega⟩,by simp;omega,fun x hx=>?_⟩))))))))));rcases List.mem_append.1 hx with h | h
  ·exact hq4 x h
  simp only [List.mem_singleton] at h;subst h;exact ⟨⟨by dsimp only;omega,by dsimp only;omega⟩,⟨by dsimp only;omega,by dsimp only;omega⟩,⟨by dsimp only;omega,by dsimp only;omega⟩,z,hz,rfl⟩
 obtain ⟨he1,he2,he3⟩:=he;have d1:0≤(e.1+v.height - 1)/v.height:=Int.ediv_nonneg (by omega) (by omega);have d2:(e.1+v.height - 1)/v.height≤e.1+v.height - 1:=Int.ediv_le_self _ (by omega);exact .ck (by omega) (.ck (by omega) (.ck (by omega) (.ck (by omega) (.mk ⟨⟨⟨by dsimp only;omega,by dsimp only;omega⟩,he2,he3⟩,rfl,by omega⟩))))
end T12
set_option maxHeartbeats 4000000
namespace T12
open Go Go.Proofs Pk
theorem t56 (v:bT) (es:List aQ) (anchor style to_:Int) (hv:Ps v) (hd:∀ p∈v.parts,0≤p.day∧p.day≤99999) (ha : -1000000000000 < anchor∧anchor < 1000000000000) (ht : -1000000000000 < to_∧to_ < 1000000000000):T (DS v es anchor style to_) fun r=>r.1.length≤130:=by
 unfold DS;refine T.bd (t85 v es hv) fun r h=>T.ie (fun hr=>.mk (by simp)) fun h0=>T.bd (Q:=fun _=>True) (T.ie (fun _=>.mk trivial) fun _=>T.ie (fun _=>T.bd (.ok (QY _)) fun _ _=>.mk trivial) fun _=>.mk trivial) fun _ _=>T.ie (fun _=>.mk (by simp)) fun _=>T.ie (fun _=>T.bd (t58 v es anchor to_ hv) fun r hr=>T.ie (fun _=>.mk (by simp)) fun _=>T.bd (t87 (fun x hx=>?_) (by simp)) fun r hr=>.mk hr) fun _=>?_
 ·simp only [List.mem_cons,List.not_mem_nil,or_false] at hx;rcases hx with rfl | rfl | rfl
  ·exact ha
  ·show (1:Nat)≤13;decide
  exact ht
 have hVE:=h (by omega);have hn:=hVE.1.n;refine T.bd (t88 v es hVE.1 hVE.2) fun l hl=>T.bd (Q:=fun e=>match e with | .inl _=>True | .inr z=>z.1.length≤130) (T.ix l.length id (fun _=>True) (fun i _ hi=>?_) trivial (Nat.zero_le _)) fun e he=>?_
 ·unfold wZ;refine T.ie (fun hlt=>T.bd (T.mem (by simp only [id] at *;omega)) fun x hx=>?_) fun _=>.mk trivial;obtain ⟨h1,h2,h3,p,hp,h4⟩:=hl x hx;have h5:=hd p hp;refine T.ie (fun _=>.mk ⟨trivial,rfl,by simp only [id] at *;omega⟩) fun _=>T.ie (fun _=>T.bd (t87 (fun x hx=>?_) (by simp)) fun r hr=>.mk hr) fun _=>T.bd (t87 (fun x hx=>?_) (by simp)) fun r hr=>.mk hr
  ·simp only [List.mem_cons,List.not_mem_nil,or_false] at hx;rcases hx with rfl | rfl | rfl | rfl | rfl | rfl
   ·show (5:Nat)≤13;decide
   ·exact ⟨by omega,by omega⟩
   ·show (7:Nat)≤13;decide
   ·exact ⟨by omega,by omega⟩
   ·show (5:Nat)≤13;decide
   exact ⟨by omega,by omega⟩
  simp only [List.mem_cons,List.not_mem_nil,or_false] at hx;rcases hx with rfl | rfl | rfl | rfl | rfl | rfl
  ·show (5:Nat)≤13;decide
  ·exact ⟨by omega,by omega⟩
  ·show (2:Nat)≤13;decide
  ·exact ⟨by omega,by omega⟩
  ·show (7:Nat)≤13;decide
  exact ⟨by omega,by omega⟩
 cases e with
 | inl _=>exact .mk (by simp)
 | inr z=>exact .mk he
end T12
set_option maxHeartbeats 4000000
namespace T12
open Go Go.Proofs Pk
theorem jE (c:Bool) (e:Int):T (jF c e) fun r=>match r with | .inl _=>c=true | .inr _=>c=false:=by
 cases c
 ·exact ⟨_,rfl,rfl⟩
 exact ⟨_,rfl,rfl⟩
theorem BF (e:Int):T (lI e) fun r=>match r with | .inl _=>e=0 | .inr _=>e≠0:=by
 unfold lI;refine T.bd (jE _ _) fun r hr=>?_
 cases r with
 | inl _=>exact .mk (by simpa using hr)
 | inr _=>exact .mk (by simpa using hr)
theorem e20 (n a b:Int):tT n a b=some (decide (a≤n∧n≤b)):=by
 unfold tT;by_cases h:a≤n <;> simp [h]
theorem t94 (a b:Int):T (EG a b) fun _=>True:=by
 unfold EG uA;exact T.bd (Q:=fun _=>True) (T.bd (.mk trivial) fun _ (_:True)=>T.ie (fun _=>T.bd (.mk trivial) fun _ (_:True)=>T.ie (fun _=>.mk trivial) fun _=>.mk trivial) fun _=>.mk trivial) fun _ _=>.mk trivial
theorem t62 (l:List Int) (x:Int) (h:l.length≤1000000):T (rN l x) fun r=>0≤r.1∧r.1≤l.length:=by
 unfold rN;refine T.bd (Q:=fun e=>0≤e∧e≤(l.length:Int)) (T.lp (fun (s:Int×Int)=>(0≤s.1∧s.1≤(l.length:Int))∧0≤s.2∧s.2≤(l.length:Int)) (fun (s:Int×Int)=>(s.2 - s.1).toNat) (fun s hs=>?_) ⟨⟨Int.le_refl 0,by dsimp only;omega⟩,by dsimp only;omega,by dsimp only;omega⟩) fun e he=>?_
 ·unfold xE;refine T.ie (fun hl=>.ck (by omega) (.ck (by omega) (.ck (by omega) (.ck (by omega) (T.bd (T.at (by omega)) fun y _=>T.bd (t94 _ _) fun c _=>T.bd (Q:=fun (t:Int×Int)=>((0≤t.1∧t.1≤(l.length:Int))∧0≤t.2∧t.2≤(l.length:Int))∧(t.2 - t.1).toNat < (s.2 - s.1).toNat) (T.ie (fun _=>.ck (by omega) (.mk ⟨⟨⟨by dsimp only;omega,by dsimp only;omega⟩,hs.2⟩,by dsimp only;omega⟩)) fun _=>.mk ⟨⟨hs.1,by dsimp only;omega,by dsimp only;omega⟩,by dsimp only;omega⟩) fun t ht=>.mk ht))))) fun _=>.mk hs.1
 refine T.bd (Q:=fun (t:Int×Bool)=>0≤t.1∧t.1≤(l.length:Int)) (T.ie (fun hl=>.ck he.1 (T.bd (T.at (by omega)) fun y _=>T.ie (fun _=>.mk he) fun _=>T.bd (Q:=fun _=>True) ⟨_,rfl,trivial⟩ fun _ _=>T.ie (fun _=>T.bd (Q:=fun _=>True) ⟨_,rfl,trivial⟩ fun _ _=>.mk he) fun _=>.mk he)) fun _=>.mk he) fun t ht=>.mk ht
structure Si (k:Nat) (b:cZ):Prop where
 dy:0≤b.day∧b.day≤99999
 ho:0≤b.house∧b.house≤40
 pl:b.volume.parts.length≤k
 pp:∀ p∈b.volume.parts,p.paragraphs.length≤k∧0≤p.day∧p.day≤99999
 er:b.errata.length≤k
 hi:b.hides.length≤12
 ci:b.cites.length≤k
 pa:b.motion.papers.length≤k
 ch:b.choice.length≤k
 dm:0≤b.division.members∧b.division.members≤40
 dr:0≤b.division.rule∧b.division.rule≤255
 dp:b.division.pairs.length≤k
 da:b.division.ayes.e0.length≤k∧b.division.ayes.e1.length≤k
 dn:b.division.noes.e0.length≤k∧b.division.noes.e1.length≤k
 rs:b.results.length≤k
 rv:∀ x∈b.results,x.toNat≤2
 cv:∀ c∈b.cites,c.length≤130
 vn:b.bound=true→1≤b.volume.number∧b.volume.number≤99
theorem Si.up {k:Nat} {b:cZ} (h:Si k b):Si (k+1) b where
 dy:=h.dy
 ho:=h.ho
 pl:=Nat.le_succ_of_le h.pl
 pp p hp:=⟨Nat.le_succ_of_le (h.pp p hp).1,(h.pp p hp).2⟩
 er:=Nat.le_succ_of_le h.er
 hi:=h.hi
 ci:=Nat.le_succ_of_le h.ci
 pa:=Nat.le_succ_of_le h.pa
 ch:=Nat.le_succ_of_le h.ch
 dm:=h.dm
 dr:=h.dr
 dp:=Nat.le_succ_of_le h.dp
 da:=⟨Nat.le_succ_of_le h.da.1,Nat.le_succ_of_le h.da.2⟩
 dn:=⟨Nat.le_succ_of_le h.dn.1,Nat.le_succ_of_le h.dn.2⟩
 rs:=Nat.le_succ_of_le h.rs
 rv:=h.rv
 cv:=h.cv
 vn:=h.vn
def Ln (k:Nat) (r:aI⊕Int):Prop:=match r with | .inl b=>Si (k+1) b.state | .inr e=>e≠0
theorem Si.ps {k:Nat} {b:cZ} (h:Si k b) (hk:k≤100):Ps b.volume:=⟨by have:=h.pl;omega,fun p hp=>by have:=(h.pp p hp).1;omega⟩
def Nm (n:Nat) (l:List Int):Prop:=l.length=n∧∀ x∈l,-999999999≤x∧x≤999999999
variable {k:Nat} {b:aI} {l:List Int} {text:aF}
theorem t30 (h:Si k b.state) (hl:Nm 1 l):T (CV b l text) (Ln k):=by
 have h1:=hl.1;unfold CV;refine T.bd (T.mem (by omega)) fun x hx=>T.bd (.ok (e20 _ _ _)) fun c hc=>T.bd (jE _ _) fun r hr=>?_
 cases r with
 | inl _ =>
  subst hc;simp only [decide_eq_true_eq] at hr;exact .mk (show Si (k+1) _ from { h.up with dy:=⟨Int.le_trans h.dy.1 hr.1,hr.2⟩ })
 | inr _=>exact .mk (by simp [Ln])
theorem t38 (h:Si k b.state) (hl:Nm 1 l):T (DY b l text) (Ln k):=by
 have h1:=hl.1;unfold DY;refine T.bd (jE _ _) fun r _=>?_
 cases r with
 | inr _=>exact .mk (by simp [Ln])
 | inl _ =>
  refine T.bd (T.mem (by omega)) fun x hx=>T.bd (.ok (e20 _ _ _)) fun c hc=>T.bd (jE _ _) fun r hr=>?_
  cases r with
  | inl _ =>
   subst hc;simp only [decide_eq_true_eq] at hr;exact .mk (show Si (k+1) _ from { h.up with ho:=⟨Int.le_trans (by decide) hr.1,hr.2⟩ })
  | inr _=>exact .mk (by simp [Ln])
theorem t32 (h:Si k b.state) (hk:k≤100) (hl:Nm 3 l):T (DE b l text) (Ln k):=by
 have h1:=hl.1;unfold DE;refine T.bd (jE _ _) fun r _=>?_
 cases r with
 | inr _=>exact .mk (by simp [Ln])
 | inl _ =>
  refine T.bd (T.mem (by omega)) fun x hx=>T.bd (T.mem (by omega)) fun y hy=>T.bd (T.mem (by omega)) fun z hz=>T.bd (t53 _ (h.ps hk)) fun e he=>T.bd (BF _) fun r hr=>?_
  cases r with
  | inl _=>exact .mk (show Si (k+1) _ from { h.up with pl:=h.up.pl,vn:=fun _=>(he hr).n })
  | inr _=>exact .mk hr
theorem t61 (h:Si k b.state) (d:aO) (hd:(0≤d.members∧d.members≤40)∧(0≤d.rule∧d.rule≤255)∧d.pairs.length≤k+1∧(d.ayes.e0.length≤k+1∧d.ayes.e1.length≤k+1)∧d.noes.e0.length≤k+1∧d.noes.e1.length≤k+1):T (AC b d) (Ln k):=by
 unfold AC;have h0:T (EE d) fun _=>True:=by
  unfold EE;exact T.bd (PY d hd.2.1) fun _ _=>T.ie (fun _=>.mk trivial) fun _=>.mk trivial
 refine T.bd h0 fun e _=>T.bd (BF _) fun r hr=>?_
 cases r with
 | inl _=>exact .mk (show Si (k+1) _ from { h.up with dm:=hd.1,dr:=hd.2.1,dp:=hd.2.2.1,da:=hd.2.2.2.1,dn:=hd.2.2.2.2 })
 | inr _=>exact .mk hr
theorem t55 (h:Si k b.state) (hk:k≤100) (x:aQ):T (wV b x) (Ln k):=by
 unfold wV;refine T.bd (Q:=fun t=>match t with | .inl _=>True | .inr z=>Ln k z) (T.ie (fun _=>T.bd (jE _ _) fun r _=>?_) fun _=>T.bd (jE _ _) fun r _=>?_) fun t ht=>?_
 ·cases r with
  | inl _=>exact .mk trivial
  | inr _=>exact .mk (by simp [Ln])
 ·cases r with
  | inl _=>exact .mk trivial
  | inr _=>exact .mk (by simp [Ln])
 cases t with
 | inr z=>exact .mk ht
 | inl _ =>
  have he:=h.er;have h0:T (DG b.state.errata { x with day:=b.state.day }) fun r=>r.length≤k+1:=by
   unfold DG rJ;exact T.bd (Q:=fun r=>r.length≤k) (.ck (by simp;omega) (.mk (by simpa using he))) fun r hr=>.ck (by simp;omega) (.mk (by simp;omega))
  refine T.bd h0 fun es hes=>T.bd (t84 _ _ _ (h.ps hk)) fun r _=>T.bd (BF _) fun r hr=>?_
  cases r with
  | inl _=>exact .mk (show Si (k+1) _ from { h.up with er:=hes })
  | inr _=>exact .mk hr
theorem t33 (h:Si k b.state) (hk:k≤100) (hl:Nm 2 l):T (DO b l text) (Ln k):=by
 have h1:=hl.1;unfold DO;refine T.bd (T.mem (by omega)) fun x hx=>T.bd (T.mem (by omega)) fun y hy=>T.bd (t55 h hk _) fun r hr=>?_;cases r <;> exact .mk hr
theorem t34 (h:Si k b.state) (hk:k≤100) (hl:Nm 2 l):T (DP b l text) (Ln k):=by
 have h1:=hl.1;unfold DP;refine T.bd (T.mem (by omega)) fun x hx=>T.bd (T.mem (by omega)) fun y hy=>T.bd (t55 h hk _) fun r hr=>?_;cases r <;> exact .mk hr
theorem t35 (h:Si k b.state) (hk:k≤100) (hl:Nm 3 l):T (DQ b l text) (Ln k):=by
 have h1:=hl.1;unfold DQ;refine T.bd (T.mem (by omega)) fun x hx=>T.bd (T.mem (by omega)) fun y hy=>T.bd (T.mem (by omega)) fun z hz=>T.bd (t55 h hk _) fun r hr=>?_;cases r <;> exact .mk hr
end T12
set_option maxHeartbeats 4000000
namespace T12
open Go Go.Proofs Pk
variable {k:Nat} {b:aI} {l:List Int} {text:aF}
theorem t36 (h:Si k b.state) (hk:k≤100) (hl:Nm 2 l):T (DU b l text) (Ln k):=by
 have h1:=hl.1;unfold DU;refine T.bd (jE _ _) fun r _=>?_
 cases r with
 | inr _=>exact .mk (by simp [Ln])
 | inl _ =>
  refine T.bd (T.mem (by omega)) fun x hx=>T.bd (.ok (e20 _ _ _)) fun c hc=>T.bd (jE _ _) fun r hr=>?_
  cases r with
  | inr _=>exact .mk (by simp [Ln])
  | inl _ =>
   subst hc;simp only [decide_eq_true_eq] at hr;refine T.bd (T.mem (by omega)) fun y hy=>.ck hr ?_;have h2:=hl.2 y hy;have h3:=h.dy;refine T.bd (t56 _ _ _ _ _ (h.ps hk) (fun p hp=>(h.pp p hp).2) (by omega) (by omega)) fun q hq=>T.bd (BF _) fun r hr=>?_
   cases r with
   | inr _=>exact .mk hr
   | inl _ =>
    have h4:=h.ci;have h0:T (DT b.state.cites q.1) fun r=>r.length≤k+1∧∀ c∈r,c.length≤130:=by
     unfold DT OC
     exact T.bd (Q:=fun (r:List aF)=>r.length≤k∧∀ c∈r,c.length≤130) (.ck (by simp;omega) (.mk ⟨by simpa using h4,h.cv⟩)) fun r hr=>.ck (by omega) (.mk ⟨by simp;omega,fun c hc=>by
      rcases List.mem_append.1 hc with h5 | h5
      ·exact hr.2 c h5
      simp only [List.mem_singleton] at h5;subst h5;exact hq⟩)
    exact T.bd h0 fun c hc=>.mk (show Si (k+1) _ from { h.up with ci:=hc.1,cv:=hc.2 })
theorem t37 (h:Si k b.state) (hk:k≤100) (hl:Nm 3 l):T (DX b l text) (Ln k):=by
 have h1:=hl.1;unfold DX;refine T.bd (Q:=fun t=>match t with | .inl _=>True | .inr z=>Ln k z) (T.bd (T.mem (by omega)) fun x hx=>T.bd (.ok (e20 _ _ _)) fun c hc=>T.ie (fun _=>T.bd (T.mem (by omega)) fun y hy=>T.bd (.ok (e20 _ _ _)) fun c hc=>T.bd (jE _ _) fun r _=>?_) fun _=>T.bd (jE _ _) fun r _=>?_) fun t ht=>?_
 ·cases r with
  | inl _=>exact .mk trivial
  | inr _=>exact .mk (by simp [Ln])
 ·cases r with
  | inl _=>exact .mk trivial
  | inr _=>exact .mk (by simp [Ln])
 cases t with
 | inr z=>exact .mk ht
 | inl _ =>
  refine T.bd (jE _ _) fun r hr=>?_
  cases r with
  | inr _=>exact .mk (by simp [Ln])
  | inl _ =>
   simp only [decide_eq_true_eq] at hr;have h0:T (DV b) fun v=>Ps v:=by
    unfold DV CY;exact T.ie (fun _=>.mk (h.ps hk)) fun _=>T.bd (.mk (P:=Ps) ⟨(h.ps hk).1,(h.ps hk).2⟩) fun v hv=>.mk hv
   refine T.bd h0 fun v hv=>T.bd (T.mem (by omega)) fun x hx=>T.bd (t58 v _ x _ hv) fun q _=>T.bd (BF _) fun r hr2=>?_
   cases r with
   | inr _=>exact .mk hr2
   | inl _ =>
    have h2:∀ z,T (DW b.state.hides z) fun r=>r.length≤12:=fun z=>by
     unfold DW IW;exact T.bd (Q:=fun r=>r.length=b.state.hides.length) (.ck (by simp;omega) (.mk (by simp))) fun r hr=>.ck (by simp;omega) (.mk (by simp;omega))
    exact T.bd (T.at (by omega)) fun y _=>T.bd (T.at (by omega)) fun z _=>T.bd (h2 _) fun r hr=>.mk (show Si (k+1) _ from { h.up with hi:=hr })
theorem t39 (h:Si k b.state) (hl:Nm 4 l):T (EF b l text) (Ln k):=by
 have h1:=hl.1;unfold EF;refine T.bd (jE _ _) fun r _=>?_
 cases r with
 | inr _=>exact .mk (by simp [Ln])
 | inl _ =>
  refine T.bd (Q:=fun t=>match t with | .inl _=>(∀ x,l[0]?=some x→0≤x∧x≤255)∧∀ x,l[3]?=some x→0≤x∧x≤255 | .inr z=>Ln k z) (T.bd (T.at (by omega)) fun x hx=>T.bd (.ok (e20 _ _ _)) fun c hc=>T.ie (fun hct=>T.bd (T.at (by omega)) fun y hy=>T.bd (.ok (e20 _ _ _)) fun d hd=>T.bd (jE _ _) fun r hr=>?_) fun _=>T.bd (jE _ _) fun r hr=>?_) fun t ht=>?_
  ·cases r with
   | inl _ =>
    subst hc hd;simp only [decide_eq_true_eq] at hct hr;exact .mk ⟨fun z hz=>by rw [hx] at hz;cases hz;exact hct,fun z hz=>by rw [hy] at hz;cases hz;exact hr⟩
   | inr _=>exact .mk (by simp [Ln])
  ·cases r with
   | inl _=>cases hr
   | inr _=>exact .mk (by simp [Ln])
  cases t with
  | inr z=>exact .mk ht
  | inl _ =>
   refine T.bd (T.at (by omega)) fun x hx=>.ck (ht.1 x hx) (T.bd (T.at (by omega)) fun y _=>T.bd (T.at (by omega)) fun z _=>T.bd (T.at (by omega)) fun w hw=>.ck (ht.2 w hw) (T.bd (t61 h _ ⟨h.ho,ht.1 x hx,Nat.zero_le _,⟨Nat.zero_le _,Nat.zero_le _⟩,Nat.zero_le _,Nat.zero_le _⟩) fun r hr=>?_));cases r <;> exact .mk hr
theorem t41 (h:Si k b.state) (hk:k≤100) (hl:Nm 2 l):T (EJ b l text) (Ln k):=by
 have h1:=hl.1;unfold EJ;refine T.bd (jE _ _) fun r _=>?_
 cases r with
 | inr _=>exact .mk (by simp [Ln])
 | inl _ =>
  have h2:=h.dp;have h0:∀ z,T (EI b.state.division.pairs z) fun r=>r.length≤k+1:=fun z=>by
   unfold EI JD;exact T.bd (Q:=fun r=>r.length≤k) (.ck (by simp;omega) (.mk (by simpa using h2))) fun r hr=>.ck (by simp;omega) (.mk (by simp;omega))
  refine T.bd (T.at (by omega)) fun x _=>T.bd (T.at (by omega)) fun y _=>T.bd (h0 _) fun ps hps=>T.bd (t61 h _ ⟨h.dm,h.dr,hps,h.up.da,h.up.dn⟩) fun r hr=>?_;cases r <;> exact .mk hr
theorem t42 (h:Si k b.state) (hk:k≤100):T (uL b l text) (Ln k):=by
 unfold uL;refine T.bd (jE _ _) fun r _=>?_
 cases r with
 | inr _=>exact .mk (by simp [Ln])
 | inl _ =>
  refine T.bd (t66 _ h.dr) fun o ho=>T.bd (BF _) fun r hr=>?_
  cases r with
  | inr _=>exact .mk hr
  | inl _ =>
   refine T.bd (jE _ _) fun r hr=>?_
   cases r with
   | inr _=>exact .mk (by simp [Ln])
   | inl _ =>
    simp only [decide_eq_true_eq] at hr;have h2:=h.rs;refine T.bd (T.mem (by omega)) fun x hxm=>?_;have hx:=x.toNat_lt;have h0:T (xG b.state.results (x.toNat:Int)) fun r=>r.length≤k+1∧∀ y∈r,y.toNat≤2:=by
     unfold xG ER
     exact T.bd (Q:=fun (r:List UInt8)=>r.length≤k∧∀ y∈r,y.toNat≤2) (.ck (by simp;omega) (.mk ⟨by simpa using h2,h.rv⟩)) fun r hr=>.ck (by omega) (.ck (by omega) (.mk ⟨by simp;omega,fun y hy=>by
      rcases List.mem_append.1 hy with h5 | h5
      ·exact hr.2 y h5
      simp only [List.mem_singleton] at h5;subst h5;have:=ho.2 x hxm;simp;omega⟩))
    exact T.bd h0 fun rs hrs=>.mk (show Si (k+1) _ from { h.up with rs:=hrs.1,rv:=hrs.2,dm:=⟨(by decide:(0:Int)≤0),(by decide:(0:Int)≤40)⟩,dr:=⟨(by decide:(0:Int)≤0),(by decide:(0:Int)≤255)⟩,dp:=Nat.zero_le _,da:=⟨Nat.zero_le _,Nat.zero_le _⟩,dn:=⟨Nat.zero_le _,Nat.zero_le _⟩ })
theorem t68 (hs:text.length≤1073741824):T (AD text) fun _=>True:=by
 unfold AD IP;exact T.bd (Q:=fun _=>True) (.ck hs (.mk trivial)) fun _ _=>.mk trivial
theorem t43 (h:Si k b.state) (hs:text.length≤1073741824):T (EX b l text) (Ln k):=by
 unfold EX;refine T.bd (jE _ _) fun r _=>?_
 cases r with
 | inr _=>exact .mk (by simp [Ln])
 | inl _ =>
  refine T.bd (t68 hs) fun ws _=>T.bd (t69 _) fun e _=>T.bd (BF _) fun r hr=>?_
  cases r with
  | inr _=>exact .mk hr
  | inl _=>exact .mk (show Si (k+1) _ from { h.up with pa:=Nat.zero_le _ })
theorem t44 (h:Si k b.state) (hk:k≤100) (hl:Nm 4 l) (hs:text.length≤1073741824):T (EZ b l text) (Ln k):=by
 have h1:=hl.1;unfold EZ;refine T.bd (jE _ _) fun r _=>?_
 cases r with
 | inr _=>exact .mk (by simp [Ln])
 | inl _ =>
  have h2:=h.pa;have h0:∀ z,T (EY b.state.motion.papers z) fun r=>r.length≤k+1:=fun z=>by
   unfold EY JL;exact T.bd (Q:=fun r=>r.length≤k) (.ck (by simp;omega) (.mk (by simpa using h2))) fun r hr=>.ck (by simp;omega) (.mk (by simp;omega))
  refine T.bd (T.at (by omega)) fun _ _=>T.bd (T.at (by omega)) fun _ _=>T.bd (T.at (by omega)) fun _ _=>T.bd (T.at (by omega)) fun _ _=>T.bd (t68 hs) fun ws _=>T.bd (h0 _) fun ps hps=>T.bd (t69 _) fun e _=>T.bd (BF _) fun r hr=>?_
  cases r with
  | inr _=>exact .mk hr
  | inl _=>exact .mk (show Si (k+1) _ from { h.up with pa:=hps })
theorem t64 {l:List Int} (h:l.length≤1000):T (pQ l) fun r=>r=l:=by
 unfold pQ;exact .ck (by simp;omega) (.mk (by simp))
theorem zJ (l:List Int) (x:Int) (i:Nat) (h:i≤l.length):(l.take i++[x]++l.drop i).length=l.length+1:=by simp;omega
theorem t45 (h:Si k b.state) (hk:k≤100) (hl:Nm 1 l):T (FG b l text) (Ln k):=by
 have h1:=hl.1;unfold FG;refine T.bd (jE _ _) fun r _=>?_
 cases r with
 | inr _=>exact .mk (by simp [Ln])
 | inl _ =>
  have h2:=h.ch;refine T.bd (T.at (by omega)) fun x _=>T.bd (t62 _ x (by omega)) fun q hq=>T.bd (jE _ _) fun r _=>?_
  cases r with
  | inr _=>exact .mk (by simp [Ln])
  | inl _ =>
   refine T.bd (t64 (by omega)) fun c hc=>.ck hq.1 (.ck (by subst hc;omega) (.ck (by subst hc;simp;omega) (T.bd (t71 _ _) fun w _=>T.bd (BF _) fun r hr=>?_)))
   cases r with
   | inr _=>exact .mk hr
   | inl _=>exact .mk (show Si (k+1) _ from { h.up with ch:=by subst hc;show (_:List Int).length≤_;rw [zJ _ _ _ (by omega)];omega })
end T12
set_option maxHeartbeats 4000000
namespace T12
open Go Go.Proofs Pk
variable {k:Nat} {b:aI} {l:List Int} {text:aF}
theorem KC {ws:List aF} (h:zH ws):(Lib.join ws [32]).length≤21*ws.length:=by
 have hl:∀ {r:List aF},zH r→Lib.lens r≤20*r.length:=fun {r}=>by
  induction r with
  | nil=>intro _;exact Nat.le_refl _
  | cons x r ih =>
   intro h;have h1:=ih fun y hy=>h y (List.mem_cons_of_mem _ hy);have h2:=h x (List.mem_cons_self ..);simp only [Lib.lens,List.map_cons,List.sum_cons,List.length_cons] at h1 ⊢;omega
 cases ws with
 | nil=>exact Nat.le_refl _
 | cons x r =>
  rw [Lib.join_cons,List.length_append,Lib.joinTail_length];have h1:=hl (r:=r) fun y hy=>h y (List.mem_cons_of_mem _ hy);have h2:=h x (List.mem_cons_self ..);simp only [List.length_cons,List.length_nil] at *;omega
theorem t31 (h:Si k b.state) (hk:k≤100) (hl:1≤l.length):T (zZ b l text) (Ln k):=by
 unfold zZ;refine T.bd (jE _ _) fun r _=>?_
 cases r with
 | inr _=>exact .mk (by simp [Ln])
 | inl _ =>
  have hpl:=h.pl;have h2:T (CW b.state.volume.parts) fun r=>r=b.state.volume.parts:=by
   unfold CW;exact .ck (by simp;omega) (.mk (by simp))
  refine T.bd (T.at (by omega)) fun x _=>T.bd h2 fun ps hps=>?_;have hps1:ps.length≤k:=by rw [hps];exact hpl
  have hps2:∀ p∈ps,p.paragraphs.length≤k∧0≤p.day∧p.day≤99999:=by rw [hps];exact h.pp
  refine T.bd (Q:=fun t=>t=true→1≤ps.length) (T.ie (fun h0=>T.bd (T.at (by omega)) fun _ _=>.mk fun _=>by omega) fun _=>.mk (by simp)) fun t ht=>T.bd (Q:=fun (qs:List dW)=>qs.length≤k+1∧∀ p∈qs,p.paragraphs.length≤k+1∧0≤p.day∧p.day≤99999) (T.ie (fun htt=>?_) fun _=>.ck (by simp;omega) (.mk ⟨by simp;omega,fun p hp=>?_⟩)) fun qs hqs=>?_
  ·have h1:=ht htt;refine .ck (by omega) (T.bd (T.mem (by omega)) fun y hy=>?_);have hy2:=hps2 y hy;have h3:T (CX y.paragraphs ⟨x,text⟩) fun r=>r.length≤k+1:=by
    unfold CX IQ;exact T.bd (Q:=fun r=>r.length≤k) (.ck (by simp;omega) (.mk (by simpa using hy2.1))) fun r hr=>.ck (by simp;omega) (.mk (by simp;omega))
   exact T.bd h3 fun r hr=>.mk ⟨by rw [List.length_set];omega,xV (fun p hp=>⟨Nat.le_succ_of_le (hps2 p hp).1,(hps2 p hp).2⟩) ⟨hr,hy2.2⟩⟩
  ·rcases List.mem_append.1 hp with h1 | h1
   ·exact ⟨Nat.le_succ_of_le (hps2 p h1).1,(hps2 p h1).2⟩
   simp only [List.mem_singleton] at h1;subst h1;exact ⟨by simp,h.dy⟩
  refine T.bd (Q:=fun v=>Ps v) (.mk ⟨by have:=hqs.1;dsimp only;omega,fun p hp=>by have:=(hqs.2 p hp).1;omega⟩) fun v hv=>T.bd (t53 _ hv) fun e _=>T.bd (BF _) fun r hr=>?_
  cases r with
  | inr _=>exact .mk hr
  | inl _=>exact .mk (show Si (k+1) _ from { h.up with pl:=hqs.1,pp:=hqs.2 })
theorem t46 (h:Si k b.state) (hk:k≤100) (hl:Nm 1 l):T (FH b l text) (Ln k):=by
 unfold FH;refine T.bd (Q:=fun t=>match t with | .inl _=>True | .inr z=>Ln k z) (T.ie (fun _=>T.bd (jE _ _) fun r _=>?_) fun _=>T.bd (jE _ _) fun r _=>?_) fun t ht=>?_
 ·cases r with
  | inl _=>exact .mk trivial
  | inr _=>exact .mk (by simp [Ln])
 ·cases r with
  | inl _=>exact .mk trivial
  | inr _=>exact .mk (by simp [Ln])
 cases t with
 | inr z=>exact .mk ht
 | inl _ =>
  refine T.bd (t71 _ _) fun q hq=>T.bd (BF _) fun r hr=>?_
  cases r with
  | inr _=>exact .mk hr
  | inl _ =>
   have h0:T (CP q.1 [32]) fun _=>True:=by
    have h1:=KC hq.1.2.1;have h2:=hq.2.1;unfold CP;exact .ck ⟨by omega,by omega⟩ (.mk trivial)
   refine T.bd h0 fun s _=>T.bd (t31 h hk (by have:=hl.1;omega)) fun r hr=>?_
   cases r with
   | inr _=>exact .mk hr
   | inl y=>exact .mk (show Si (k+1) _ from { (show Si (k+1) y.state from hr) with pa:=Nat.zero_le _,ch:=Nat.zero_le _ })
theorem t40 (h:Si k b.state) (hk:k≤100) (hl:Nm 3 l):T (EH b l text) (Ln k):=by
 have h1:=hl.1;have hm:=h.dm;have hda:=h.da;have hdn:=h.dn;unfold EH;refine T.bd (jE _ _) fun r _=>?_
 cases r with
 | inr _=>exact .mk (by simp [Ln])
 | inl _ =>
  refine T.bd (Q:=fun t=>match t with | .inl _=>∀ x,l[1]?=some x→x=0∨x=1 | .inr z=>Ln k z) (T.bd (T.at (by omega)) fun x _=>T.bd (.ok (e20 _ _ _)) fun c _=>T.ie (fun _=>T.bd (T.at (by omega)) fun y hy=>T.bd (.ok (e20 _ _ _)) fun d hd=>T.ie (fun hdt=>T.bd (T.at (by omega)) fun z _=>.ck (by omega) (T.bd (.ok (e20 _ _ _)) fun e _=>T.bd (jE _ _) fun r _=>?_)) fun _=>T.bd (jE _ _) fun r hr=>?_) fun _=>T.bd (jE _ _) fun r hr=>?_) fun t ht=>?_
  ·cases r with
   | inl _ =>
    subst hd;simp only [decide_eq_true_eq] at hdt;exact .mk fun w hw=>by rw [hy] at hw;cases hw;omega
   | inr _=>exact .mk (by simp [Ln])
  ·cases r with
   | inl _=>cases hr
   | inr _=>exact .mk (by simp [Ln])
  ·cases r with
   | inl _=>cases hr
   | inr _=>exact .mk (by simp [Ln])
  cases t with
  | inr z=>exact .mk ht
  | inl _ =>
   have key:∀ (ls:List Int) (x:Int) (f:List Int→aI),ls.length≤k→(∀ q:List Int,q.length≤k+1→Si (k+1) (f q).state)→∀ (q:Int×Bool),0≤q.1∧q.1≤ls.length→T ((pQ ls).bind fun r=>bW (0≤q.1) <| bW (q.1.toNat≤r.length) <| bW (r.length+([x]:List Int).length≤1073741824) <| some (.inl (f (r.take q.1.toNat++([x]:List Int)++r.drop q.1.toNat)))) (Ln k):=fun ls x f hls hf q hq=>by
    refine T.bd (t64 (by omega)) fun r hr=>?_;subst hr;exact .ck hq.1 (.ck (by omega) (.ck (by simp;omega) (.mk (hf _ (by rw [zJ _ _ _ (by omega)];omega)))))
   refine T.bd (T.at (by omega)) fun y hy=>T.ie (fun _=>T.bd (T.at (by omega)) fun w _=>T.ie (fun _=>T.bd (T.at (by omega)) fun z _=>T.bd (t62 _ _ (by omega)) fun q hq=>T.bd (jE _ _) fun r _=>?_) fun _=>T.bd (T.at (by omega)) fun z _=>T.bd (t62 _ _ (by omega)) fun q hq=>T.bd (jE _ _) fun r _=>?_) fun _=>T.ie (fun _=>T.bd (T.at (by omega)) fun w _=>T.ie (fun _=>T.bd (T.at (by omega)) fun z _=>T.bd (t62 _ _ (by omega)) fun q hq=>T.bd (jE _ _) fun r _=>?_) fun _=>T.bd (T.at (by omega)) fun z _=>T.bd (t62 _ _ (by omega)) fun q hq=>T.bd (jE _ _) fun r _=>?_) fun _=>by have:=ht y hy;omega
   ·cases r with
    | inr _=>exact .mk (by simp [Ln])
    | inl _=>exact key _ z (fun q=>⟨{ b.state with division:={ b.state.division with noes:=⟨q,b.state.division.noes.e1⟩ } }⟩) hdn.1 (fun q hq=>{ h.up with dn:=⟨hq,h.up.dn.2⟩ }) q hq
   ·cases r with
    | inr _=>exact .mk (by simp [Ln])
    | inl _=>exact key _ z (fun q=>⟨{ b.state with division:={ b.state.division with ayes:=⟨q,b.state.division.ayes.e1⟩ } }⟩) hda.1 (fun q hq=>{ h.up with da:=⟨hq,h.up.da.2⟩ }) q hq
   ·cases r with
    | inr _=>exact .mk (by simp [Ln])
    | inl _=>exact key _ z (fun q=>⟨{ b.state with division:={ b.state.division with noes:=⟨b.state.division.noes.e0,q⟩ } }⟩) hdn.2 (fun q hq=>{ h.up with dn:=⟨h.up.dn.1,hq⟩ }) q hq
   cases r with
   | inr _=>exact .mk (by simp [Ln])
   | inl _=>exact key _ z (fun q=>⟨{ b.state with division:={ b.state.division with ayes:=⟨b.state.division.ayes.e0,q⟩ } }⟩) hda.2 (fun q hq=>{ h.up with da:=⟨h.up.da.1,hq⟩ }) q hq
end T12
set_option maxHeartbeats 4000000
namespace T12
open Go Go.Proofs Pk
variable {k:Nat} {b:aI} {l:List Int} {text:aF}
theorem KD {s:aF} (h:(jT s).2=false) : -9223372036854775808≤(jT s).1∧(jT s).1≤9223372036854775807:=by
 unfold jT at h ⊢
 split at h
 ·rename_i v hv;exact Lib.atoiAll_bounds hv
 ·cases h
 cases h
theorem t28 (s:aF) (hs:s.length≤1073741824):T (TK s) fun r=>match r with | .inl n=>(-999999999≤n∧n≤999999999)∧Lib.itoa n=s | .inr _=>True:=by
 unfold TK IM BY;refine T.bd (.ck hs (.mk (P:=fun r=>r=jT s) rfl)) fun q hq=>T.bd (Q:=fun t=>match t with | .inl _=>(-999999999≤q.1∧q.1≤999999999)∧Lib.itoa q.1=s | .inr z=>∃ u,z=.inr u) (T.ie (fun _=>T.bd (jE _ _) fun r hr=>?_) fun hf=>?_) fun t ht=>?_
 ·cases r with
  | inl _=>cases hr
  | inr _=>exact .mk ⟨_,rfl⟩
 ·have hb:=KD (s:=s) (by subst hq;simpa using hf);rw [← hq] at hb;unfold IN BZ;refine T.bd (.ck hb (.mk (P:=fun w=>w=Lib.itoa q.1) rfl)) fun w hw=>T.ie (fun hws=>T.bd (.ok (e20 _ _ _)) fun c hc=>T.bd (jE _ _) fun r hr=>?_) fun _=>T.bd (jE _ _) fun r hr=>?_
  ·cases r with
   | inl _=>subst hc;simp only [decide_eq_true_eq] at hr;exact .mk ⟨hr,hw▸hws⟩
   | inr _=>exact .mk ⟨_,rfl⟩
  cases r with
  | inl _=>cases hr
  | inr _=>exact .mk ⟨_,rfl⟩
 cases t with
 | inl _=>exact .mk ht
 | inr z=>obtain ⟨u,rfl⟩:=ht;exact .mk trivial
theorem QF (s t:aF):(Lib.cut s t).2.1.length≤s.length∧(Lib.cut s t).1.length≤s.length:=by
 unfold Lib.cut;split
 ·simp;omega
 simp
theorem t25 (s t:aF) (h:s.length≤1073741824):T (KX s t) fun r=>r.2.1.length≤s.length∧r.1.length≤s.length:=by
 unfold KX;exact .ck h (.mk (QF s t))
def XL (w:bU):Prop:=(0≤w.many∧w.many≤4)∧∀ (k:Nat) (b:aI) (l:List Int) (text:aF),Si k b.state→k≤100→Nm w.many.toNat l→text.length≤1000000→T (LQ w.do_ b l text) (Ln k)
theorem fG {t:List (aF×bU)} {s:aF} {w:bU} (h:∀ k x,eD t k=some x→XL x) (hw:XL w):∀ k x,eD (put t s w) k=some x→XL x:=fun k x hx=>by
 rw [jR] at hx
 split at hx
 ·cases hx;exact hw
 exact h k x hx
theorem t26:T OH fun t=>∀ k x,eD t k=some x→XL x:=by
 unfold OH;refine .mk ?_;refine fG (fG (fG (fG (fG (fG (fG (fG (fG (fG (fG (fG (fG (fG (fG (fG (fG (fun k x h=>by cases h) ?_) ?_) ?_) ?_) ?_) ?_) ?_) ?_) ?_) ?_) ?_) ?_) ?_) ?_) ?_) ?_) ?_
 all_goals refine ⟨⟨by decide,by decide⟩,fun k b l text h hk hl ht=>?_⟩
 ·exact t30 (text:=text) h hl
 ·exact t31 (text:=text) h hk (by have:=hl.1;simp at this;omega)
 ·exact t32 (text:=text) h hk hl
 ·exact t33 (text:=text) h hk hl
 ·exact t34 (text:=text) h hk hl
 ·exact t35 (text:=text) h hk hl
 ·exact t36 (text:=text) h hk hl
 ·exact t37 (text:=text) h hk hl
 ·exact t38 (text:=text) h hl
 ·exact t39 (text:=text) h hl
 ·exact t40 (text:=text) h hk hl
 ·exact t41 (text:=text) h hk hl
 ·exact t42 (l:=l) (text:=text) h hk
 ·exact t43 (l:=l) (text:=text) h (by omega)
 ·exact t44 (text:=text) h hk hl (by omega)
 ·exact t45 (text:=text) h hk hl
 exact t46 (text:=text) h hk hl
theorem t21 (h:Si k b.state) (hk:k≤100) (ht:text.length≤1000000):T (JM b text) fun r=>Si (k+1) r.1.state∧(r.2≠0→r.1=b):=by
 unfold JM;refine T.bd (t25 text [32] (by omega)) fun q hq=>T.bd t26 fun ws hws=>T.bd (jE _ _) fun r hr=>?_
 cases r with
 | inr _=>exact .mk ⟨h.up,fun _=>rfl⟩
 | inl _ =>
  obtain ⟨x,hx⟩:=Option.isSome_iff_exists.1 hr;have hw:=hws _ x hx;have hwm:=hw.1;have hxd:(eD ws q.1).getD ⟨0,false,none⟩=x:=by rw [hx];rfl
  refine T.bd (Q:=fun e=>match e with | .inl r=>r.1.length≤1000000∧Nm x.many.toNat r.2.2 | .inr z=>z=(b,4)) (T.ix x.many.toNat (·.1) (fun (s:Nat×aF×Bool×List Int)=>s.2.1.length≤1000000∧s.2.2.2.length=s.1∧∀ y∈s.2.2.2,-999999999≤y∧y≤999999999) (fun s hs hi=>?_) ⟨by dsimp only;omega,rfl,by simp⟩ (Nat.zero_le _)) fun e he=>?_
  ·obtain ⟨hs1,hs2,hs3⟩:=hs;unfold uQ;rw [hxd];refine T.ie (fun hl=>T.bd (jE _ _) fun r _=>?_) fun hl=>.mk ⟨hs1,by dsimp only;omega,hs3⟩
   cases r with
   | inr _=>exact .mk rfl
   | inl _ =>
    refine T.bd (t25 _ _ (by omega)) fun c hc=>T.bd (t28 c.1 (by omega)) fun r hr=>?_
    cases r with
    | inr _=>exact .mk rfl
    | inl y =>
     refine .ck (by omega) (.ck (by omega) (.mk ⟨⟨by dsimp only;omega,by simp [hs2],fun z hz=>?_⟩,rfl,by omega⟩));rcases List.mem_append.1 hz with h1 | h1
     ·exact hs3 z h1
     simp only [List.mem_singleton] at h1;subst h1;exact hr.1
  cases e with
  | inr z=>simp only at he;subst he;exact .mk ⟨h.up,fun _=>rfl⟩
  | inl r =>
   refine T.bd (jE _ _) fun u _=>?_
   cases u with
   | inr _=>exact .mk ⟨h.up,fun _=>rfl⟩
   | inl _ =>
    rw [hxd];refine T.bd (hw.2 k b r.2.2 r.1 h hk he.2 he.1) fun g hg=>?_
    cases g with
    | inl y=>exact .mk ⟨hg,fun h0=>absurd rfl h0⟩
    | inr e=>exact .mk ⟨h.up,fun _=>rfl⟩
def s0:aI:=⟨⟨0,0,⟨0,0,0,0,[]⟩,false,[],[],[],⟨[],[]⟩,false,[],⟨0,⟨[],[]⟩,⟨[],[]⟩,[],[],0,0,0,0⟩,false,[]⟩⟩
theorem VS:Si 0 s0.state:=⟨⟨by decide,by decide⟩,⟨by decide,by decide⟩,by decide,(fun p hp=>absurd hp (List.not_mem_nil)),by decide,by decide,by decide,by decide,by decide,⟨by decide,by decide⟩,⟨by decide,by decide⟩,by decide,⟨by decide,by decide⟩,⟨by decide,by decide⟩,by decide,(fun x hx=>absurd hx (List.not_mem_nil)),(fun x hx=>absurd hx (List.not_mem_nil)),fun h=>by cases h⟩
end T12
set_option maxHeartbeats 4000000
namespace T12
open Go Go.Proofs Pk
noncomputable def XM (r:aI×List Int) (x:aF):aI×List Int:=let q:=(JM r.1 x).getD (r.1,0);(q.1,r.2++[q.2])
noncomputable def fD (ls:List aF):aI×List Int:=ls.foldl XM (s0,[])
theorem qO (ls:List aF) (x:aF):fD (ls++[x])=XM (fD ls) x:=by unfold fD;rw [List.foldl_append];rfl
def rV (ls:List aF):Prop:=ls.length≤100∧∀ s∈ls,s.length≤1000000
theorem rV.init {ls:List aF} {x:aF} (h:rV (ls++[x])):rV ls∧ls.length≤99∧x.length≤1000000:=by
 have h1:=h.1;simp at h1;exact ⟨⟨by omega,fun s hs=>h.2 s (List.mem_append.2 (.inl hs))⟩,by omega,h.2 x (List.mem_append.2 (.inr (List.mem_singleton.2 rfl)))⟩
theorem rV.take {ls:List aF} (h:rV ls) (n:Nat):rV (ls.take n):=⟨by rw [List.length_take];have:=h.1;omega,fun s hs=>h.2 s (List.mem_of_mem_take hs)⟩
theorem vA {α:Type} {P:List α→Prop} (h0:P []) (h1:∀ l x,P l→P (l++[x])) (l:List α):P l:=by
 rw [← List.reverse_reverse l]
 induction l.reverse with
 | nil=>exact h0
 | cons x r ih=>rw [List.reverse_cons];exact h1 _ _ ih
theorem rW (ls:List aF):rV ls→Si ls.length (fD ls).1.state∧(fD ls).2.length=ls.length:=by
 refine vA (P:=fun ls=>rV ls→Si ls.length (fD ls).1.state∧(fD ls).2.length=ls.length) (fun _=>⟨VS,rfl⟩) (fun l x ih h=>?_) ls;obtain ⟨h1,h2,h3⟩:=h.init;obtain ⟨h4,h5⟩:=ih h1;obtain ⟨q,h6,h7⟩:=t21 h4 (by omega) h3;rw [qO,List.length_append];unfold XM;rw [h6];exact ⟨h7.1,by simp [h5]⟩
theorem rX {ls:List aF} {x:aF} (h:rV (ls++[x])):∃ q,JM (fD ls).1 x=some q∧(q.2≠0→q.1=(fD ls).1)∧fD (ls++[x])=(q.1,(fD ls).2++[q.2]):=by
 obtain ⟨h1,h2,h3⟩:=h.init;obtain ⟨q,h6,h7⟩:=t21 (rW ls h1).1 (by omega) h3;refine ⟨q,h6,h7.2,?_⟩;rw [qO];unfold XM;rw [h6];rfl
theorem e14 {ls:List aF} (h:rV ls):OI ls=some (fD ls):=by
 obtain ⟨r,h1,h2⟩:T (bC (uR ls) (0,s0,[])) fun e=>e=fD ls:=by
  refine T.ix ls.length (·.1) (fun (s:Nat×aI×List Int)=>s.2=fD (ls.take s.1)) (fun s hs hi=>?_) rfl (Nat.zero_le _);unfold uR;refine T.ie (fun hl=>T.bd (T.at (by omega)) fun x hx=>?_) fun hl=>.mk (by rw [hs,List.take_of_length_le (by omega)]);have he:ls.take (s.1+1)=ls.take s.1++[x]:=by rw [List.take_add_one,hx];rfl
  have h3:=h.take (s.1+1);rw [he] at h3;obtain ⟨q,h4,_,h5⟩:=rX h3;have h6:=(rW _ (h.take s.1)).2;rw [← hs] at h4 h5 h6;rw [List.length_take] at h6;refine T.bd (.ok h4) fun q' hq'=>?_;subst hq';exact .ck (by have:=h.1;omega) (.mk ⟨by dsimp only;rw [he,h5],rfl,by omega⟩)
 unfold OI;show (bC (uR ls) (0,s0,[])).bind _=_;rw [h1,h2];rfl
theorem mI {ls:List aF} (h:rV ls):(fD ls).2.length=ls.length:=(rW ls h).2
theorem GO (ls:List aF):rV ls→∀ n,(fD (ls.take n)).2=(fD ls).2.take n:=by
 refine vA (P:=fun ls=>rV ls→∀ n,(fD (ls.take n)).2=(fD ls).2.take n) (fun _ n=>by simp [fD]) (fun l x ih h n=>?_) ls;obtain ⟨q,h1,h2,h3⟩:=rX h;have hl:=mI h.init.1;by_cases hn:n≤l.length
 ·rw [List.take_append_of_le_length hn,ih h.init.1 n,h3];dsimp only;rw [List.take_append_of_le_length (by omega)]
 rw [List.take_of_length_le (by simp;omega),List.take_of_length_le (by rw [mI h];simp;omega)]
end T12
set_option maxHeartbeats 4000000
namespace T12
open Go Go.Proofs Pk
def Rt (ls:List aF):Prop:=ls.length≤60∧∀ s∈ls,s.length≤400
theorem Rt.lin {ls:List aF} (h:Rt ls):rV ls:=⟨by have:=h.1;omega,fun s hs=>by have:=h.2 s hs;omega⟩
theorem e19 {ls:List aF} (h:Rt ls):OB ls=some 0:=by
 have h0:OA ls LC=some false:=by
  obtain ⟨r,h1,h2⟩:=pS ls LC (fun s=>decide (400 < (s.length:Int))) (fun x hx=>rfl) (yQ ls LC) (fun i=>rfl);have h3:ls.any (fun s=>decide (400 < (s.length:Int)))=false:=by
   rw [List.any_eq_false];intro s hs;have:=h.2 s hs;simp;omega
  unfold OA SX;rw [h1];rcases h2 with ⟨z,rfl,h2⟩ | ⟨rfl,h2⟩
  ·rw [h3] at h2;cases h2
  rfl
 unfold OB;rw [if_neg (by have:=h.1;omega),h0];rfl
theorem e18 {ls:List aF} (h:Rt ls):m9 ls=some ((fD ls).1.state,(fD ls).2,0):=by
 unfold m9;rw [e19 h];simp only [Option.bind_some];rw [if_neg (by decide),e14 h.lin];rfl
noncomputable def er (ls:List aF) (k:Nat):Int:=((fD ls).2[k]?).getD 0
def del (ls:List aF) (k:Nat):List aF:=ls.take k++ls.drop (k+1)
theorem VT {ls:List aF} (h:rV ls) {k:Nat} (hk:k < ls.length):(fD ls).2[k]?=some (er ls k):=by
 unfold er;rw [List.getElem?_eq_getElem (by rw [mI h];exact hk)];rfl
theorem rY {ls:List aF} (h:rV ls) {n k:Nat} (hk:k < n) (hn:k < ls.length):(fD (ls.take n)).2[k]?=some (er ls k):=by
 rw [GO ls h,List.getElem?_take_of_lt hk,VT h hn]
theorem GP (ls:List aF) {n k:Nat} (hk:k≤n) (hn:n < ls.length):(ls.take (n+1)).take k++(ls.take (n+1)).drop (k+1)=(del ls k).take n:=by
 unfold del;rw [List.take_take,Nat.min_eq_left (by omega),List.take_append,List.take_take,Nat.min_eq_right (by omega),List.length_take,Nat.min_eq_left (by omega:k≤ls.length),List.drop_take,show n+1 - (k+1)=n - k by omega]
theorem KE {ls:List aF} {k:Nat} (hk:k < ls.length):(del ls k).length=ls.length - 1:=by unfold del;simp;omega
theorem zK {ls:List aF} (h:rV ls) (k:Nat):rV (del ls k):=⟨by have:=h.1;unfold del;simp;omega,fun s hs=>by
 rcases List.mem_append.1 hs with h1 | h1
 ·exact h.2 s (List.mem_of_mem_take h1)
 exact h.2 s (List.mem_of_mem_drop h1)⟩
noncomputable def MC (ls:List aF) (n k:Nat):Bool:=decide (er ls n≠0)&&(decide (er ls k=0)&&decide (er (del ls k) (n - 1)=0))
theorem e25 {ls:List aF} (h:rV ls) {n k:Nat} (hk:k < n) (hn:n < ls.length):ZC (k:Int) ls (n:Int)=some (decide (er (del ls k) (n - 1)=0)):=by
 have hl:=h.1;have h0:OC (ls.take (n+1))=some (ls.take (n+1)):=by
  unfold OC bW;rw [if_pos (by simp;omega)];rfl
 unfold ZC;rw [jV (by omega),jV (by omega),jV (by omega),show ((n:Int)+1).toNat=n+1 by omega,h0,Option.bind_some,jV (by omega),jV (by rw [List.length_take];omega),show ((k:Int)+1).toNat=k+1 by omega,Int.toNat_natCast,GP ls (by omega) hn,e14 ((zK h k).take n),Option.bind_some,jV (by omega),jV (by omega),show ((n:Int) - 1).toNat=n - 1 by omega,rY (zK h k) (by omega) (by rw [KE (by omega)];omega)];rfl
theorem e13 {ls:List aF} (h:Rt ls) {n:Nat} (hn:n < ls.length):m16 ls (n:Int)=some (((List.range n).filter (MC ls n)).map (fun (i:Nat)=>(i:Int)),0):=by
  have hl:=h.1;have hL:=h.lin;obtain ⟨r,h1,h2⟩:T (bC (FL (n:Int) (fD (ls.take (n+1))) ls) (0,([]:List Int))) fun e=>e=((List.range n).filter (MC ls n)).map (fun (i:Nat)=>(i:Int)):=by
    refine T.ix n (·.1) (fun s=>s.2=((List.range s.1).filter (MC ls n)).map (fun (i:Nat)=>(i:Int))) (fun s hs hi=>?_) rfl (Nat.zero_le _);have hsl:s.2.length≤60:=by
      rw [hs,List.length_map];exact Nat.le_trans (List.length_filter_le _ _) (by rw [List.length_range];omega)
    unfold FL
    refine T.ie (fun hlt => ?_) fun hlt => .mk (by have:s.1=n := by omega
                                                   rw [hs,this])
    refine T.bd (Q:=fun t=>t=MC ls n s.1) (.ck (by omega) (T.bd (.ok (rY hL (by omega) hn)) fun x hx=>?_)) fun t ht=>T.bd (Q:=fun t=>t=((List.range (s.1+1)).filter (MC ls n)).map (fun (i:Nat)=>(i:Int))) (T.ie (fun h=>.ck (by omega) (.mk ?_)) fun h=>.mk ?_) fun t ht=>.ck (by omega) (.mk ⟨ht,rfl,by omega⟩)
    · refine T.ie (fun h0=>T.bd (.ok (rY hL (by omega) (by omega))) fun y hy=>T.ie (fun hy0=>T.bd (.ok (e25 hL (by omega) hn)) fun z hz=>.mk ?_) fun hy0=>.mk ?_) fun h0=>.mk ?_
      · subst hx hy hz;simp at h0;simp [MC,h0,hy0]
      · subst hx hy;simp [MC,hy0]
      subst hx;simp at h0;simp [MC,h0]
    · rw [List.range_succ,List.filter_append,List.map_append,← hs];rw [ht] at h;simp [h]
    rw [List.range_succ,List.filter_append,List.map_append,← hs];rw [ht] at h;simp at h;simp [h]
  have h3:tT (n:Int) 0 ((ls.length:Int) - 1)=some true:=by
    rw [e20];congr 1;rw [decide_eq_true_eq];omega
  unfold m16;rw [e19 h,Option.bind_some,if_neg (by decide),h3,Option.bind_some,if_pos rfl,jV (by omega),jV (by omega),jV (by omega),show ((n:Int)+1).toNat=n+1 by omega,e14 (hL.take _),Option.bind_some,h1,h2];rfl
end T12
set_option maxHeartbeats 4000000
namespace T12
open Go Go.Proofs Pk
theorem VU (x:UInt8):((x.toNat:Int)≠32)↔x≠32:=by
 constructor
 ·intro h e;subst e;exact h rfl
 intro h e;exact h (UInt8.toNat_inj.1 (by have:(32:UInt8).toNat=32:=rfl;omega))
theorem r22 (line:aF) (k:Nat) (hk:k≤line.length) (hl:line.length≤9223372036854775807):T (QL line (k:Int)) fun r=>∃ n:Nat,r=(n:Int)∧k≤n∧n≤line.length∧(∀ j,k≤j→j < n→line[j]?≠some 32)∧(n < line.length→line[n]?=some 32):=by
 unfold QL;refine T.bd (T.lp (fun s=>∃ n:Nat,s=(n:Int)∧k≤n∧n≤line.length∧∀ j,k≤j→j < n→line[j]?≠some 32) (fun s=>line.length - s.toNat) (Q:=fun r=>∃ n:Nat,r=(n:Int)∧k≤n∧n≤line.length∧(∀ j,k≤j→j < n→line[j]?≠some 32)∧(n < line.length→line[n]?=some 32)) (fun s hs=>?_) ⟨k,rfl,Nat.le_refl _,hk,fun j h1 h2=>by omega⟩) fun r hr=>.mk hr;obtain ⟨n,rfl,h1,h2,h3⟩:=hs;unfold CT;refine T.bd (Q:=fun t=>(t=true→n < line.length∧line[n]?≠some 32)∧(t=false→n < line.length→line[n]?=some 32)) (T.ie (fun h=>.ck (by omega) (T.bd (T.at (by omega)) fun x hx=>.mk ⟨fun ht=>⟨by omega,?_⟩,fun ht _=>?_⟩)) fun h=>.mk ⟨by simp,fun _ h'=>by omega⟩) fun t ht=>T.ie (fun htt=>.ck (by have:=(ht.1 htt).1;omega) (.mk ⟨⟨n+1,by omega,by omega,by have:=ht.1 htt;omega,fun j h4 h5=>?_⟩,by have:=ht.1 htt;omega⟩)) fun htf=>.mk ⟨n,rfl,h1,h2,h3,ht.2 (by simpa using htf)⟩
 ·rw [Int.toNat_natCast] at hx;rw [hx];intro e;injection e with e;exact (VU x).1 (by simpa using ht) e
 ·rw [Int.toNat_natCast] at hx;rw [hx];have:¬((x.toNat:Int)≠32):=by simpa using ht
  rw [VU] at this;simpa using this
 by_cases hj:j=n
 ·subst hj;exact (ht.1 htt).2
 exact h3 j h4 (by omega)
theorem r23 (w:aF):T (QM w) fun r=>r.1≤4:=by
 unfold QM
 repeat' first
  | exact .mk (by decide)
  | exact .mk trivial
  | refine T.ie (fun _=>?_) fun _=>?_
  | refine T.bd (Q:=fun _=>True) ?_ fun _ _=>?_
abbrev KF:aF:=[111,114,100,101,114]
theorem aF4:QM KF=some (1,false):=by decide
theorem MD {i:Nat} (h:i≤9):10 ^ i≤1000000000:=Nat.le_trans (Nat.pow_le_pow_right (by decide) h) (by decide)
theorem aF5 (t:aF) (h9:t.length≤9):T (bC (yP t) (0,0)) fun e=>(t.all CO=true∧e=.inl (oX t 0:Int))∨(t.all CO=false∧e=.inr (0,false)):=by
 refine T.ix t.length (·.1) (fun s=>(t.take s.1).all CO=true∧s.2=(oX (t.take s.1) 0:Int)) (fun s hs hi=>?_) ⟨rfl,rfl⟩ (Nat.zero_le _);have hv:=rG (t.take s.1) 0 hs.1;have hp:=MD (i:=(t.take s.1).length) (by rw [List.length_take];omega);unfold yP;refine T.ie (fun hl=>T.bd (Q:=fun c=>∀ x,t[s.1]?=some x→c=!CO x) (T.bd (T.at (by omega)) fun x hx=>T.ie (fun h=>.mk fun y hy=>?_) fun h=>.mk fun y hy=>?_) fun c hc=>T.ie (fun hct=>.mk (.inr ⟨?_,rfl⟩)) fun hcf=>.ck (by omega) (T.bd (T.at (by omega)) fun x hx=>?_)) fun hl=>.mk (.inl ?_)
 ·rw [hx] at hy;injection hy with hy;subst hy;simp only [CO,Bool.true_eq,Bool.not_eq_true',decide_eq_false_iff_not];omega
 ·rw [hx] at hy;injection hy with hy;subst hy;unfold CO;by_cases h0:(57:Int) < (x.toNat:Int)
  ·rw [decide_eq_true h0,decide_eq_false (by omega)];rfl
  rw [decide_eq_false h0,decide_eq_true (by omega)];rfl
 ·have hi':s.1 < t.length:=by omega
  have:=hc _ (List.getElem?_eq_getElem hi');rw [hct] at this;rw [List.all_eq_false];exact ⟨t[s.1],List.getElem_mem hi',by simpa using this.symm⟩
 ·have hd:=hc x hx;have hd':CO x=true:=by
   cases h:CO x with
   | true=>rfl
   | false=>rw [h] at hd;exact absurd hd hcf
  have hb:=hd';simp only [CO,decide_eq_true_eq] at hb;have h2:(t.take (s.1+1))=t.take s.1++[x]:=by rw [List.take_add_one,hx];rfl
  refine .ck (by omega) (.ck (by omega) (.mk ⟨⟨?_,?_⟩,rfl,by omega⟩))
  ·dsimp only;rw [h2,List.all_append,hs.1];simp [hd']
  dsimp only;rw [h2,tN,hs.2];simp only [oX,List.foldl_cons,List.foldl_nil];omega
 have:t.take s.1=t:=List.take_of_length_le (by omega);rw [this] at hs;exact ⟨hs.1,by rw [hs.2]⟩
theorem r24 (s:aF):T (LB s) fun _=>True:=by
 unfold LB;refine T.bd (Q:=fun t=>t=true→1≤s.length) (T.ie (fun h=>T.bd (T.at (by omega)) fun x _=>.mk fun _=>by omega) fun _=>.mk (by simp)) fun t ht=>T.bd (Q:=fun _=>True) (T.ie (fun h=>.ck (ht h) (.mk trivial)) fun _=>.mk trivial) fun u _=>T.bd (Q:=fun c=>c=false→u.length≤9) (T.ie (fun _=>.mk (by simp)) fun h0=>T.ie (fun _=>.mk (by simp)) fun h9=>T.bd (T.at (by omega)) fun x _=>T.ie (fun _=>T.ie (fun _=>.mk (by simp)) fun _=>.mk fun _=>by omega) fun _=>.mk fun _=>by omega) fun c hc=>T.ie (fun _=>.mk trivial) fun hf=>?_;have h9:=hc (by simpa using hf);refine T.bd (aF5 u h9) fun e he=>?_;rcases he with ⟨h1,rfl⟩ | ⟨h1,rfl⟩
 ·have hv:=rG u 0 h1;have hp:=MD h9;exact T.bd (Q:=fun _=>True) (T.ie (fun _=>.ck (by omega) (.mk trivial)) fun _=>.mk trivial) fun _ _=>.mk trivial
 exact .mk trivial
end T12
set_option maxHeartbeats 4000000
namespace T12
open Go Go.Proofs Pk
def Ord (line:aF) (n:Int):Prop:=∃ d,line=KF++32::d∧(32:UInt8)∉d∧LB d=some (n,true)
theorem r11 (line:aF) (hl:line.length≤9223372036854775807):T (SW line) fun r=>r.2.2.2=true→r.1=KF→∃ n,r.2.1=[n]∧Ord line n:=by
 unfold SW;refine T.bd (r22 line 0 (Nat.zero_le _) hl) fun r1 h1=>?_;obtain ⟨n0,rfl,_,h2,h3,h4⟩:=h1;refine .ck (by omega) (.ck (by omega) (T.bd (Q:=fun r=>r.1≤4∧(line.take n0=KF→r=(1,false))) ?_ fun r8 h8=>?_))
 ·obtain ⟨q,h5,h6⟩:=r23 (line.take n0);refine ⟨q,h5,h6,fun hw=>?_⟩;rw [hw,aF4] at h5;injection h5 with h5;exact h5.symm
 refine T.ie (fun _=>.mk (by simp)) fun hr0=>T.bd (Q:=fun e=>match e with | .inl t=>(∃ a:Nat,t.1=(a:Int)∧a≤line.length)∧(r8.1=1→∃ (a:Nat) (v:Int),t=((a:Int),[v])∧n0 < a∧n0 < line.length∧a≤line.length∧(∀ j,n0+1≤j→j < a→line[j]?≠some 32)∧LB ((line.drop (n0+1)).take (a - (n0+1)))=some (v,true)) | .inr z=>z.2.2.2=false) (T.ix r8.1.toNat (·.1) (fun s=>(∃ a:Nat,s.2.1=(a:Int)∧a≤line.length)∧s.2.2.length=s.1∧(s.1=0→s.2.1=(n0:Int)∧s.2.2=[])∧(s.1=1→∃ (a:Nat) (v:Int),s.2=((a:Int),[v])∧n0 < a∧n0 < line.length∧a≤line.length∧(∀ j,n0+1≤j→j < a→line[j]?≠some 32)∧LB ((line.drop (n0+1)).take (a - (n0+1)))=some (v,true))) (fun s hs hi=>?_) ⟨⟨n0,rfl,h2⟩,rfl,fun _=>⟨rfl,rfl⟩,fun h=>by cases h⟩ (Nat.zero_le _)) fun e he=>?_
 ·obtain ⟨⟨a,ha,hal⟩,hll,hz,ho⟩:=hs;unfold CU;refine T.ie (fun hlt=>T.ie (fun _=>.mk rfl) fun hne=>.ck (by omega) ?_) fun hge=>.mk ⟨⟨a,ha,hal⟩,fun h1=>?_⟩
  ·rw [ha,show ((a:Int)+1)=((a+1:Nat):Int) by omega];rw [ha] at hne;refine T.bd (r22 line (a+1) (by omega) hl) fun r2 h5=>?_;obtain ⟨b,rfl,h6,h7,h8',_⟩:=h5;refine .ck (by omega) (.ck (by omega) (.ck (by omega) ?_));obtain ⟨q,h9,_⟩:=r24 ((line.drop ((a+1:Nat):Int).toNat).take ((b:Int).toNat - ((a+1:Nat):Int).toNat));refine T.bd (.ok h9) fun q' hq=>?_;subst hq;refine T.ie (fun hq=>.ck (by omega) (.ck (by omega) (.mk ⟨⟨⟨b,rfl,h7⟩,by simp [hll],fun h=>absurd h (Nat.succ_ne_zero _),fun h=>?_⟩,rfl,by clear ho;omega⟩))) fun _=>.mk rfl;have h0:s.1=0:=by dsimp only at h;omega
   obtain ⟨hC,hB⟩:=hz h0;obtain rfl:a=n0:=by rw [ha] at hC;omega
   refine ⟨b,q'.1,by rw [hB];rfl,by omega,by omega,h7,h8',?_⟩;rw [Int.toNat_natCast,Int.toNat_natCast] at h9;rw [h9,← hq]
  have h0:s.1=1:=by omega
  obtain ⟨a',v,h5,h6⟩:=ho h0;exact ⟨a',v,h5,h6⟩
 cases e with
 | inr z=>simp only at he;exact .mk fun h=>by rw [he] at h;cases h
 | inl t =>
  obtain ⟨⟨a,ha,hal⟩,hone⟩:=he;refine T.ie (fun hq=>T.ie (fun hq2=>?_) fun hq2=>.mk fun _ hw=>?_) fun _=>.mk (by simp)
  ·have h9:decide (t.1 < (line.length:Int))=true:=by rw [hq2] at hq;simpa using hq
   simp only [decide_eq_true_eq] at h9;refine .ck (by omega) (.ck (by omega) (.ck (by omega) (.mk fun _ hw=>?_)));rw [Int.toNat_natCast] at hw;have:=h8.2 hw;rw [this] at hq2;cases hq2
  dsimp only at hw;rw [Int.toNat_natCast] at hw;have h9:=h8.2 hw;obtain ⟨a',v,h5,h6,h7,hC,hB,hE⟩:=hone (by rw [h9]);have hl2:¬(t.1 < (line.length:Int)):=by
   intro h;rw [h9,decide_eq_true h] at hq;simp at hq
  rw [h5] at hl2;have hae:a'=line.length:=by dsimp only at hl2;omega
  refine ⟨v,by rw [h5],line.drop (n0+1),?_,?_,?_⟩
  ·have hA:=h4 (by omega);rw [List.getElem?_eq_getElem h7] at hA;injection hA with hA;have hF:=List.drop_eq_getElem_cons h7;rw [hA] at hF;rw [← hw,← hF,List.take_append_drop]
  ·intro hm;obtain ⟨j,hj⟩:=List.mem_iff_getElem?.1 hm;rw [List.getElem?_drop] at hj;exact hB (n0+1+j) (by omega) (by have:=(List.getElem?_eq_some_iff.1 hj).1;omega) hj
  rw [hae,List.take_of_length_le (by rw [List.length_drop];omega)] at hE;exact hE
theorem r6 (ls:List aF) (h:∀ s∈ls,s.length≤9223372036854775807):T (m6 ls) fun _=>True:=by
 unfold m6;refine T.bd (Q:=fun _=>True) (T.ix ls.length (·.1) (fun _=>True) (fun s _ hi=>?_) trivial (Nat.zero_le _)) fun e _=>T.bd (Q:=fun _=>True) ?_ fun _ _=>.mk trivial
 ·unfold NY;refine T.ie (fun hl=>T.bd (T.mem (by omega)) fun x hx=>T.bd (r11 x (h x hx)) fun r _=>T.bd (Q:=fun _=>True) (T.ie (fun _=>.mk trivial) fun _=>.mk trivial) fun _ _=>T.bd (Q:=fun _=>True) (T.ie (fun _=>.mk trivial) fun _=>.mk trivial) fun _ _=>.mk ⟨trivial,rfl,by omega⟩) fun _=>.mk trivial
 repeat' first
  | exact .mk trivial
  | refine T.ie (fun _=>?_) fun _=>?_
theorem r7 (ls:List aF):T (m7 ls) fun r=>r=true→Rt ls:=by
 unfold m7;refine T.bd (Q:=fun e=>match e with | .inl _=>∀ s∈ls,s.length≤400 | .inr z=>z=false) (T.ix ls.length id (fun i=>∀ s∈ls.take i,s.length≤400) (fun i hI hi=>?_) (by simp) (Nat.zero_le _)) fun e he=>?_
 ·unfold NZ;refine T.ie (fun hl=>T.bd (T.at (by omega)) fun x hx=>T.ie (fun _=>.mk rfl) fun h4=>.mk ⟨fun s hs=>?_,rfl,by simpa using hl⟩) fun hl=>.mk (by simp only [id] at hi;rw [List.take_of_length_le (by omega)] at hI;exact hI);rw [List.take_add_one,hx] at hs;rcases List.mem_append.1 hs with h | h
  ·exact hI s h
  simp at h;subst h;omega
 cases e with
 | inr z=>simp only at he;subst he;exact .mk (by simp)
 | inl _=>exact .mk fun h=>⟨by have:=of_decide_eq_true h;omega,he⟩
theorem r10 {ls:List aF} (h:ls.length≤1000):QS ls=some ls:=by
 unfold QS;rw [jV (by simp;omega)];rfl
end T12
set_option maxHeartbeats 4000000
namespace T12
open Go Go.Proofs Pk
def AX (l:List Int) (m:Int):Nat:=if l.any (fun x=>decide (m=x)) then 1 else 0
theorem rZ (l:List Int) (m:Int):AX l m≤1:=by unfold AX;split <;> omega
def kB (L:bE) (m:Int):Nat:=AX L.e0 m+AX L.e1 m
theorem nK (L:bE) (m:Int):kB L m≤2:=by have:=rZ L.e0 m;have:=rZ L.e1 m;unfold kB;omega
def sA (a n:Nat):List UInt8:=(if a < 2∧n < 2 then [0] else [])++(if 0 < a∧n < 2 then [1] else [])++(if 0 < n∧a < 2 then [2] else [])
theorem VV (L:bE) (m:Int):uH L m=some (kB L m:Int):=by
 unfold uH;rw [AU,Option.bind_some,AU];unfold kB AX;cases L.e0.any (fun x=>decide (m=x)) <;> cases L.e1.any (fun x=>decide (m=x)) <;> rfl
theorem vt2:∀ a n:Nat,a≤2→n≤2→∀ v∈sA a n,v.toNat≤2:=by
 intro a n ha hn;rcases (by omega:a=0∨a=1∨a=2) with rfl | rfl | rfl <;> rcases (by omega:n=0∨n=1∨n=2) with rfl | rfl | rfl <;> decide
theorem aF6 (d:aO) (m:Int):xF d m=some (sA (kB d.ayes m) (kB d.noes m)):=by
 have ha:=nK d.ayes m;have hn:=nK d.noes m;unfold xF;rw [VV,Option.bind_some,VV,Option.bind_some];generalize kB d.ayes m=a at *;generalize kB d.noes m=n at *;rcases (by omega:a=0∨a=1∨a=2) with rfl | rfl | rfl <;> rcases (by omega:n=0∨n=1∨n=2) with rfl | rfl | rfl <;> decide
theorem e37 (l:List Int) (n:Int):LV l n=some (l.any fun x=>decide (n=x)):=by
 have h:T (bC (zB l n) 0) fun e=>match e with | .inl _=>l.any (fun x=>decide (n=x))=false | .inr z=>z=true∧l.any (fun x=>decide (n=x))=true:=by
  refine T.ix l.length id (fun i=>(l.take i).any (fun x=>decide (n=x))=false) (fun i hI hi=>?_) rfl (Nat.zero_le _);unfold zB;refine T.ie (fun hl=>T.bd (T.at (by omega)) fun x hx=>T.ie (fun h=>.mk ⟨rfl,List.any_eq_true.2 ⟨x,List.mem_of_getElem? hx,by simp [h]⟩⟩) fun h=>.mk ⟨?_,rfl,by simpa using hl⟩) fun hl=>.mk (by simp only [id] at hi;rw [List.take_of_length_le (by omega)] at hI;exact hI);rw [List.take_add_one,hx,List.any_append,hI];simp;exact fun e=>h e.symm
 obtain ⟨e,h1,h2⟩:=h;unfold LV;rw [h1]
 cases e with
 | inl _=>simp only at h2;rw [h2];rfl
 | inr z=>obtain ⟨rfl,h2⟩:=h2;rw [h2];rfl
theorem aF7 (d:aO) (m:Int):bC (nL d m) (0,0,0)=some (kB d.ayes m,kB d.noes m):=by
 have h0:nL d m (0,0,0)=some (.inl (AX d.ayes.e0 m,AX d.noes.e0 m,1)):=by
  unfold nL AX;dsimp only;rw [if_pos (by decide),if_pos (by decide),e37,Option.bind_some,e37];cases d.ayes.e0.any (fun x=>decide (m=x)) <;> cases d.noes.e0.any (fun x=>decide (m=x)) <;> rfl
 have h1:nL d m (AX d.ayes.e0 m,AX d.noes.e0 m,1)=some (.inl (kB d.ayes m,kB d.noes m,2)):=by
  have q1:=rZ d.ayes.e0 m;have q2:=rZ d.noes.e0 m;unfold kB;generalize AX d.ayes.e0 m=a at *;generalize AX d.noes.e0 m=n at *;unfold nL AX;dsimp only;rw [if_pos (by decide),if_neg (by decide),if_pos (by decide),e37,Option.bind_some,e37];rcases (by omega:a=0∨a=1) with rfl | rfl <;> rcases (by omega:n=0∨n=1) with rfl | rfl <;> cases d.ayes.e1.any (fun x=>decide (m=x)) <;> cases d.noes.e1.any (fun x=>decide (m=x)) <;> rfl
 rw [eO h0,eO h1,dS];unfold nL;dsimp only;rw [if_neg (by decide)]
theorem s14 (d:aO) (m w:Int) (hw:0≤w∧w≤4294967295):T (TL d m w) fun v=>∃ u:UInt8,v=(u.toNat:Int)∧(sA (kB d.ayes m) (kB d.noes m)≠[]→u∈sA (kB d.ayes m) (kB d.noes m)):=by
 have ha:=nK d.ayes m;have hn:=nK d.noes m;unfold TL;rw [aF7,Option.bind_some];dsimp only;generalize kB d.ayes m=a at *;generalize kB d.noes m=n at *;have p1:∀ a n:Nat,a≤2→n≤2→(a=2∨(n < 2∧a=1))→sA a n≠[]→(1:UInt8)∈sA a n:=by
  intro a n ha hn;rcases (by omega:a=0∨a=1∨a=2) with rfl | rfl | rfl <;> rcases (by omega:n=0∨n=1∨n=2) with rfl | rfl | rfl <;> decide
 have p2:∀ a n:Nat,a≤2→n≤2→a≠2→(n=2∨n=1)→sA a n≠[]→(2:UInt8)∈sA a n:=by
  intro a n ha hn;rcases (by omega:a=0∨a=1∨a=2) with rfl | rfl | rfl <;> rcases (by omega:n=0∨n=1∨n=2) with rfl | rfl | rfl <;> decide
 have p0:∀ a n:Nat,a≤2→n≤2→a≠2→n≠2→sA a n≠[]→(0:UInt8)∈sA a n:=by
  intro a n ha hn;rcases (by omega:a=0∨a=1∨a=2) with rfl | rfl | rfl <;> rcases (by omega:n=0∨n=1∨n=2) with rfl | rfl | rfl <;> decide
 refine T.bd (Q:=fun t=>(t=true→a=2∨(n < 2∧a=1))∧(t=false→a≠2)) (T.ie (fun h=>.mk ⟨fun _=>.inl (by omega),by simp⟩) fun h=>T.ie (fun h2=>T.ie (fun h3=>.ck (by omega) (T.ie (fun _=>T.ie (fun _=>.mk ⟨fun _=>.inr ⟨by omega,by omega⟩,by simp⟩) fun _=>.ck (by omega) (.mk ⟨fun _=>.inr ⟨by omega,by omega⟩,fun _=>by omega⟩)) fun _=>.mk ⟨by simp,fun _=>by omega⟩)) fun h3=>.mk ⟨by simp,fun _=>by omega⟩) fun _=>.mk ⟨by simp,fun _=>by omega⟩) fun t ht=>T.ie (fun h=>.mk ⟨1,rfl,p1 a n ha hn (ht.1 h)⟩) fun h=>?_;have h2:=ht.2 (by simpa using h);refine T.bd (Q:=fun t=>(t=true→n=2∨n=1)∧(t=false→n≠2)) (T.ie (fun h=>.mk ⟨fun _=>.inl (by omega),by simp⟩) fun h=>T.ie (fun h3=>.ck (by omega) (.mk ⟨fun _=>.inr (by omega),fun _=>by omega⟩)) fun _=>.mk ⟨by simp,fun _=>by omega⟩) fun t ht=>T.ie (fun h=>.mk ⟨2,rfl,p2 a n ha hn h2 (ht.1 h)⟩) fun h=>.mk ⟨0,rfl,p0 a n ha hn h2 (ht.2 (by simpa using h))⟩
structure Ly (x:cJ) (d:aO):Prop where
 l:Lk x
 dv:x.division=d
 m:∀ m:Nat,(m:Int) < d.members→x.may[m]?=some (sA (kB d.ayes m) (kB d.noes m))
 n:∀ m:Nat,(m:Int) < d.members→sA (kB d.ayes m) (kB d.noes m)≠[]
theorem s72 (d:aO) (h:Vd d):T (LH d) fun x=>(Lk x∧x.division=d)∧∀ m:Nat,(m:Int) < d.members→x.may[m]?=some (sA (kB d.ayes m) (kB d.noes m)):=by
 have hm:=h.m;obtain ⟨x,h1,h2⟩:=t200 d h;refine ⟨x,h1,h2,?_⟩;have h3:T (LH d) fun x=>∀ m:Nat,(m:Int) < d.members→x.may[m]?=some (sA (kB d.ayes m) (kB d.noes m)):=by
  unfold LH at h1 ⊢;obtain ⟨e,he⟩:∃ e,bC (uI d) (0,bB.zero)=some e:=by
   cases hx:bC (uI d) (0,bB.zero) with
   | none=>rw [hx] at h1;cases h1
   | some e=>exact ⟨e,rfl⟩
  refine T.bd (.ok he) fun _ _=>T.bd (Q:=fun (l:List (List UInt8))=>∀ m:Nat,(m:Int) < d.members→l[m]?=some (sA (kB d.ayes m) (kB d.noes m))) (T.ix d.members.toNat (·.1) (fun (s:Nat×List (List UInt8))=>s.2.length=40∧∀ m:Nat,m < s.1→s.2[m]?=some (sA (kB d.ayes m) (kB d.noes m))) (fun s hs hi=>?_) ⟨List.length_replicate ..,fun m hm=>by omega⟩ (Nat.zero_le _)) fun l hl=>.mk hl;unfold yT;refine T.ie (fun hl=>T.bd (.ok (aF6 d _)) fun r hr=>T.bd (T.at (by rw [hs.1];omega)) fun _ _=>.ck (by omega) (.mk ⟨⟨by rw [List.length_set];exact hs.1,fun m hm=>?_⟩,rfl,by omega⟩)) fun _=>.mk fun m hm=>hs.2 m (by omega);dsimp only at hm ⊢;by_cases he:m=s.1
  ·subst he;rw [List.getElem?_set_self (by rw [hs.1];omega),hr]
  rw [List.getElem?_set_ne (fun h=>he h.symm)];exact hs.2 m (by omega)
 obtain ⟨y,h4,h5⟩:=h3;rw [h1] at h4;injection h4 with h4;subst h4;exact h5
theorem s73 (x:cJ) (h:Lk x):T (OD x) fun r=>r.2=false→∀ m:Nat,(m:Int) < x.division.members→x.may[m]?≠some []:=by
 have hm:=h.d.m;have hl:=h.l;unfold OD;refine T.bd (Q:=fun e=>e.2=false→∀ m:Nat,(m:Int) < x.division.members→x.may[m]?≠some []) (T.ix x.division.members.toNat (·.2.1) (fun s=>∀ m,m < s.2.1→x.may[m]?≠some []) (fun s hs hi=>?_) (fun m hm=>by simp at hm) (Nat.zero_le _)) fun e he=>.mk he;unfold yU;refine T.ie (fun hlt=>T.bd (T.at (by omega)) fun y hy=>T.ie (fun _=>.mk (by simp)) fun hne=>.ck (by omega) (.mk ⟨fun m hm=>?_,rfl,by omega⟩)) fun _=>.mk fun _ m hm=>hs m (by omega);dsimp only at hm;by_cases he:m=s.2.1
 ·subst he;rw [hy];intro e;injection e with e;subst e;simp at hne
 exact hs m (by omega)
theorem s41 (d:aO) (hr:0≤d.rule∧d.rule≤255):T (EK d) fun r=>r.2=0→ED d=some true∧Ly r.1 d:=by
 unfold EK;obtain ⟨v,hv,hV⟩:=PY d hr;refine T.bd (.ok hv) fun v' hv'=>?_;subst hv';refine T.ie (fun h1=>T.bd (s72 d (hV h1)) fun x hx=>T.bd (s73 x hx.1.1) fun c hc=>T.ie (fun _=>.mk (by simp)) fun hf=>.mk fun _=>⟨by rw [hv,h1],hx.1.1,hx.1.2,hx.2,fun m hm e=>?_⟩) fun _=>.mk (by simp);have:=hc (by simpa using hf) m (by rw [hx.1.2];exact hm);rw [hx.2 m hm,e] at this;exact this rfl
theorem s31 (d:aO) (hr:0≤d.rule∧d.rule≤255):T (OE d) fun r=>r.2=0→EK d=some r∧ED d=some true∧Ly r.1 d:=by
 unfold OE;obtain ⟨q,hq,hQ⟩:=s41 d hr;refine T.bd (.ok hq) fun q' hq'=>?_;subst hq';refine T.bd (Q:=fun _=>True) (T.ie (fun h0=>T.bd (t142 _ (hQ h0).2.l) fun _ _=>.mk trivial) fun _=>.mk trivial) fun t _=>T.ie (fun _=>.mk (by simp)) fun _=>.mk fun h0=>⟨hq,hQ h0⟩
end T12
set_option maxHeartbeats 4000000
namespace T12
open Go Go.Proofs Pk
theorem aF8 {x y:aP} (h:x.vals=y.vals):x=y:=by
 cases x;cases y;simp only [aP.vals,List.cons.injEq,and_true] at h;simp only [aP.mk.injEq];exact h
def Ft (x:cJ) (i:Nat) (u:aP):Prop:=∀ m:Nat,i≤m→(m:Int) < x.division.members→∃ l v,x.may[m]?=some l∧v∈l∧u.vals[m]?=some (v.toNat:Int)
def Sm (x:cJ) (i:Nat) (u t:aP):Prop:=u.vals.take i=t.vals.take i∧u.vals.drop x.division.members.toNat=t.vals.drop x.division.members.toNat
def Fd (x:cJ) (u:aP) (l:List UInt8):Prop:=∃ n o,LL x u=some n∧LM x n=some o∧(0≤o∧o≤2)∧UInt8.ofNat o.toNat∈l
theorem Fd.mono {x:cJ} {u:aP} {l l':List UInt8} (h:Fd x u l) (hs:∀ o∈l,o∈l'):Fd x u l':=by
 obtain ⟨n,o,h1,h2,h3,h4⟩:=h;exact ⟨n,o,h1,h2,h3,hs _ h4⟩
theorem aF9 (r:cJ×Int) (h:Lk r.1):∀ (k:Nat) (s:Nat×aP×List UInt8),r.1.division.members.toNat - s.1 < k→(s.1:Int)≤r.1.division.members→Oc s.2.2→T (kN r k s) fun l=>Oc l∧(∀ o∈s.2.2,o∈l)∧∀ u,Sm r.1 s.1 u s.2.1→Ft r.1 s.1 u→Fd r.1 u l:=by
 have hm:=h.d.m;have hl:=h.l;intro k
 induction k with
 | zero=>intro s h1;omega
 | succ k ih =>
  intro s h1 h2 h3;show T (qJ r (kN r k) s) _;unfold qJ;refine T.ie (fun he=>?_) fun he=>T.bd (T.at (by omega)) fun vs hvs=>T.bd (Q:=fun e=>Oc e.2∧(∀ o∈s.2.2,o∈e.2)∧∀ u,Sm r.1 s.1 u s.2.1→Ft r.1 s.1 u→Fd r.1 u e.2) (T.ix vs.length (·.1) (fun q=>Oc q.2.2∧(∀ o∈s.2.2,o∈q.2.2)∧(q.2.1.vals.take s.1=s.2.1.vals.take s.1∧q.2.1.vals.drop r.1.division.members.toNat=s.2.1.vals.drop r.1.division.members.toNat)∧∀ u,Sm r.1 s.1 u s.2.1→Ft r.1 s.1 u→(∃ j v,j < q.1∧vs[j]?=some v∧u.vals[s.1]?=some (v.toNat:Int))→Fd r.1 u q.2.2) (fun q hq hi=>?_) ⟨h3,fun o ho=>ho,⟨rfl,rfl⟩,fun u _ _ ⟨j,_,hj,_⟩=>by simp at hj⟩ (Nat.zero_le _)) fun e he=>.mk he
  ·obtain ⟨n,hn1,hn⟩:=t102 r.1 s.2.1 h;obtain ⟨o,ho1,ho⟩:=QA r.1 n h hn;refine T.bd (Q:=fun l=>Oc l∧(∀ o∈s.2.2,o∈l)∧∀ u,Sm r.1 s.1 u s.2.1→Ft r.1 s.1 u→Fd r.1 u l) (T.bd (.ok hn1) fun n' hn'=>?_) fun _ h=>.mk h;subst hn';refine T.bd (.ok ho1) fun o' ho'=>?_;subst ho';have hx:(UInt8.ofNat o'.toNat).toNat=o'.toNat:=by simp;omega
   have hu:∀ u,Sm r.1 s.1 u s.2.1→u=s.2.1:=fun u hu=>aF8 (by
    have e:r.1.division.members.toNat=s.1:=by omega
    have:=hu.2;rw [e] at this
    rw [← List.take_append_drop s.1 u.vals,hu.1,this,List.take_append_drop])
   refine T.bd (.ok (PZ _ _)) fun c hc=>T.bd (Q:=fun l=>Oc l∧(∀ o∈s.2.2,o∈l)∧UInt8.ofNat o'.toNat∈l) (T.ie (fun hct=>.mk ⟨h3,fun _ h=>h,?_⟩) fun hf=>.ck (by have:=XJ h3;omega) (.ck (by omega) (.mk ⟨?_,fun _ h=>List.mem_append.2 (.inl h),List.mem_append.2 (.inr (List.mem_singleton.2 rfl))⟩))) fun l h=>.mk ⟨h.1,h.2.1,fun u hs _=>by rw [hu u hs];exact ⟨n',o',hn1,ho1,ho,h.2.2⟩⟩
   ·rw [hc] at hct;obtain ⟨y,hy,he⟩:=List.any_eq_true.1 hct;have he:=of_decide_eq_true he;have:y=UInt8.ofNat o'.toNat:=UInt8.toNat_inj.1 (by rw [hx];omega);rw [← this];exact hy
   rw [hc] at hf;refine ⟨List.nodup_append.2 ⟨h3.1,List.nodup_cons.2 ⟨by simp,List.nodup_nil⟩,fun a ha b hb hab=>?_⟩,fun x hx'=>?_⟩
   ·simp at hb;subst hb hab;exact hf (List.any_eq_true.2 ⟨_,ha,by rw [hx];simp;omega⟩)
   rcases List.mem_append.1 hx' with h | h
   ·exact h3.2 _ h
   simp at h;subst h;rw [hx];omega
  obtain ⟨q1,q2,q3,q4⟩:=hq;unfold yV;refine T.ie (fun hlt=>T.bd (T.at (by omega)) fun v hv=>.ck (by omega) (.ck (by omega) (T.bd (ih (s.1+1,aP.set q.2.1 s.1 (v.toNat:Int),q.2.2) (by dsimp only;omega) (by dsimp only;omega) q1) fun o ho=>.mk ⟨⟨ho.1,fun y hy=>ho.2.1 y (q2 y hy),?_,fun u hu hf hj=>?_⟩,rfl,by omega⟩))) fun hge=>.mk ⟨q1,q2,fun u hu hf=>?_⟩
  ·dsimp only;rw [aP.vset _ _ _ (by omega),List.take_set_of_le (Nat.le_refl _),List.drop_set_of_lt (by omega)];exact q3
  ·obtain ⟨j,w,hj1,hj2,hj3⟩:=hj;dsimp only at hj1 ⊢;by_cases hjq:j < q.1
   ·exact (q4 u hu hf ⟨j,w,hjq,hj2,hj3⟩).mono ho.2.1
   obtain rfl:j=q.1:=by omega
   rw [hv] at hj2;injection hj2 with hj2;subst hj2;refine ho.2.2 u ⟨?_,?_⟩ (fun m h4 h5=>hf m (by omega) h5)
   ·dsimp only;rw [aP.vset _ _ _ (by omega),List.take_add_one,hj3,hu.1,List.take_add_one,List.getElem?_set_self (by show s.1 < 40;omega),List.take_set_of_le (Nat.le_refl _),q3.1]
   dsimp only;rw [aP.vset _ _ _ (by omega),List.drop_set_of_lt (by omega),hu.2,q3.2]
  obtain ⟨l,v,h4,h5,h6⟩:=hf s.1 (Nat.le_refl _) (by omega);rw [hvs] at h4;injection h4 with h4;subst h4;obtain ⟨j,hj⟩:=List.mem_iff_getElem?.1 h5;exact q4 u hu hf ⟨j,v,by have:=(List.getElem?_eq_some_iff.1 hj).1;omega,hj,h6⟩
def Fa (x:cJ) (u:aP):Prop:=Ft x 0 u∧u.vals.drop x.division.members.toNat=aP.zero.vals.drop x.division.members.toNat
theorem s66 (d:aO) (hr:0≤d.rule∧d.rule≤255):T (JE d) fun r=>r.2=0→r.1.length=1→∃ x,EK d=some (x,0)∧ED d=some true∧Ly x d∧∀ u,Fa x u→Fd x u r.1:=by
 unfold JE;refine T.bd (s31 d hr) fun r h=>T.ie (fun hne=>.mk fun h0=>absurd h0 hne) fun h0=>?_;obtain ⟨h2,h4,hY⟩:=h (by omega);have hL:=hY.l;have hmm:=hL.d.m;refine T.bd (Q:=fun l=>Oc l∧∀ u,Fa r.1 u→Fd r.1 u l) (T.bd (Q:=fun l=>Oc l∧∀ u,Fa r.1 u→Fd r.1 u l) (T.rc ((aF9 r hL _ (0,aP.zero,[]) (by dsimp only;omega) (by dsimp only;omega) ⟨List.nodup_nil,by simp⟩).mono fun l hl=>⟨hl.1,fun u hu=>hl.2.2 u ⟨rfl,hu.2⟩ hu.1⟩)) fun _ h=>.mk h) fun l hl=>?_;have h3:=XJ hl.1;refine T.bd (Q:=fun (o:List UInt8)=>o.length=l.length∧(l.length≤1→o=l)) (T.bd (VD _ h3) fun b _=>T.bd (Q:=fun (o:List UInt8)=>o.length=l.length∧(l.length≤1→o=l)) (T.bd (VC l b true true h3 hl.1.2) fun o ho=>.mk ⟨ho.1,ho.2.1⟩) fun _ h=>.mk h) fun o ho=>.mk fun _ h1=>⟨r.1,?_,h4,hY,fun u hu=>?_⟩
 ·rw [h2];congr 1;exact Prod.ext rfl (by dsimp only;omega)
 dsimp only at h1 ⊢;rw [ho.2 (by omega)];exact hl.2 u hu
theorem s39 (vs:List UInt8) (h:∀ v∈vs,v.toNat≤2):TM vs (LX)=some true:=by
 have h1:T (wC vs (fun x=>OJ x (LX))) fun r=>r = -1:=by
  unfold wC;refine T.bd (Q:=fun e=>e=.inl ()) (T.ix vs.length id (fun _=>True) (fun i _ hi=>?_) trivial (Nat.zero_le _)) fun e he=>by subst he;exact .mk rfl
  unfold pB;refine T.ie (fun hl=>T.bd (T.mem (by omega)) fun x hx=>T.bd (Q:=fun t=>t=false) ?_ fun t ht=>T.ie (fun h=>by rw [ht] at h;cases h) fun _=>.mk ⟨trivial,rfl,by simpa using hl⟩) fun _=>.mk rfl;have:=h x hx;unfold OJ LX;exact ⟨false,by dsimp only;rw [Option.bind_some,decide_eq_true (by omega)];rfl,rfl⟩
 obtain ⟨r,h2,rfl⟩:=h1;unfold TM LD;rw [h2];rfl
theorem s15 {d:aO} {x:cJ} (h0:EK d=some (x,0)) (h1:ED d=some true) (hY:Ly x d) {vs:List UInt8} (hl:(vs.length:Int)=d.members) (hv:∀ (m:Nat) v,vs[m]?=some v→v∈sA (kB d.ayes m) (kB d.noes m)):T (m15 d vs) fun r=>r.2.2=0∧∃ u n,Fa x u∧LL x u=some n∧LM x n=some r.2.1:=by
 have hd:=hY.dv;have hm:=hY.l.d.m;rw [hd] at hm;unfold m15
 rw [h1,Option.bind_some,if_pos rfl,if_neg (by omega),s39 vs (fun v hv'=>by
  obtain ⟨m,hm⟩:=List.mem_iff_getElem?.1 hv'
  exact vt2 _ _ (nK _ _) (nK _ _) v (hv m v hm)),Option.bind_some,Option.bind_some,if_neg (by decide),h0,Option.bind_some]
 dsimp only;rw [if_neg (by decide)];refine T.bd (Q:=fun e=>∃ u,e=.inl u∧Fa x u) ?_ fun e he=>?_
 ·refine T.ix vs.length (·.1) (fun s=>s.2.vals.take s.1=(vs.take s.1).map (fun v=>(v.toNat:Int))∧s.2.vals.drop x.division.members.toNat=aP.zero.vals.drop x.division.members.toNat) (fun s hs hi=>?_) ⟨rfl,rfl⟩ (Nat.zero_le _);unfold FK;dsimp only;refine T.ie (fun hlt=>T.bd (T.at (by omega)) fun v hvv=>?_) fun hge=>.mk ⟨s.2,rfl,?_,hs.2⟩
  ·have hvm:=hv _ _ hvv;rw [hY.m s.1 (by omega),Option.bind_some,PZ,Option.bind_some];rw [if_pos (List.any_eq_true.2 ⟨v,hvm,by simp⟩)];refine .ck (by omega) (.mk ⟨⟨?_,?_⟩,rfl,by omega⟩)
   ·dsimp only;rw [aP.vset _ _ _ (by omega),List.take_add_one,List.take_set_of_le (Nat.le_refl _),hs.1,List.getElem?_set_self (by show s.1 < 40;omega),List.take_add_one,hvv];simp
   dsimp only;rw [aP.vset _ _ _ (by omega),List.drop_set_of_lt (by rw [hd];omega),hs.2]
  intro m _ hmm;rw [hd] at hmm;have hml:m < vs.length:=by omega
  refine ⟨_,vs[m],hY.m m hmm,hv m _ (List.getElem?_eq_getElem hml),?_⟩;have h5:(s.2.vals.take s.1)[m]?=((vs.take s.1).map (fun v=>(v.toNat:Int)))[m]?:=by rw [hs.1]
  rw [List.getElem?_take_of_lt (by omega),List.getElem?_map,List.getElem?_take_of_lt (by omega),List.getElem?_eq_getElem hml] at h5;exact h5
 obtain ⟨u,rfl,hu⟩:=he;dsimp only;obtain ⟨n,hn,hn2⟩:=t102 x u hY.l;obtain ⟨o,ho,_⟩:=QA x n hY.l hn2;refine T.bd (.ok hn) fun n' hn'=>?_;subst hn';refine T.bd (.ok ho) fun o' ho'=>?_;subst ho';exact .mk ⟨rfl,u,n',hu,hn,ho⟩
end T12
set_option maxHeartbeats 4000000
namespace T12
open Go Go.Proofs Pk
theorem QG {s:aF} {c:UInt8} (h:c∉s):Lib.cut s [c]=(s,[],false):=by
 have:Lib.index s [c] = -1:=by
  refine Lib.index_none (fun j hj=>?_)
  cases hb:Lib.occAt s [c] j with
  | false=>rfl
  | true=>exact absurd (List.mem_of_getElem? (Lib.occAt_head rfl hb)) h
 unfold Lib.cut;rw [this];rfl
end T12
set_option maxHeartbeats 4000000
namespace T12
open Go Go.Proofs Pk
theorem Rt.take {ls:List aF} (h:Rt ls) (n:Nat):Rt (ls.take n):=⟨by rw [List.length_take];have:=h.1;omega,fun s hs=>h.2 s (List.mem_of_mem_take hs)⟩
theorem T.run {ls:List aF} (h:Rt ls):T (m9 ls) fun r=>r=((fD ls).1.state,(fD ls).2,0):=.ok (e18 h)
end T12
set_option maxHeartbeats 4000000
namespace T12
open Go Go.Proofs Pk
abbrev vB:aF:=[114,101,115,117,108,116]
def VW (b b':cZ):Prop:=b.open_=true∧b'.open_=false∧∃ o,JE b.division=some ([o],0)∧b'.results=b.results++[o]
theorem s122 {k:Nat} {b:aI} (h:Si k b.state) (hk:k≤100) (l:List Int) (text:aF):T (uL b l text) fun r=>match r with | .inl b'=>VW b.state b'.state | .inr e=>e≠0:=by
 unfold uL;refine T.bd (jE _ _) fun r hr=>?_
 cases r with
 | inr _=>exact .mk (show (8:Int)≠0 by decide)
 | inl _ =>
  obtain ⟨q,hq,hQ⟩:=t66 b.state.division h.dr;refine T.bd (.ok hq) fun q' hq'=>?_;subst hq';refine T.bd (BF _) fun r hr2=>?_
  cases r with
  | inr _=>exact .mk hr2
  | inl _ =>
   refine T.bd (jE _ _) fun r hr3=>?_
   cases r with
   | inr _=>exact .mk (show (10:Int)≠0 by decide)
   | inl _ =>
    simp only [decide_eq_true_eq] at hr3;have h2:=h.rs;obtain ⟨o,ho⟩:∃ o,q'.1=[o]:=List.length_eq_one_iff.1 (by omega);have hb:=o.toNat_lt;rw [ho,List.getElem?_cons_zero,Option.bind_some];have h0:T (xG b.state.results (o.toNat:Int)) fun r=>r=b.state.results++[o]:=by
     unfold xG ER;refine T.bd (Q:=fun (r:List UInt8)=>r=b.state.results) (.ck (by simp;omega) (.mk (by simp))) fun r hr=>.ck (by rw [hr];omega) (.ck (by omega) (.mk ?_));rw [hr,Int.toNat_natCast,UInt8.ofNat_toNat]
    refine T.bd h0 fun rs hrs=>.mk ⟨hr,rfl,o,?_,hrs⟩;rw [hq];congr 1;exact Prod.ext ho hr2
theorem aGa:∀ t,OH=some t→eD t vB=some ⟨0,false,some 122⟩:=by
 intro t ht;unfold OH at ht;injection ht with ht;subst ht;rfl
theorem s49 {k:Nat} {b:aI} (h:Si k b.state) (hk:k≤100):T (JM b vB) fun r=>r.2=0→VW b.state r.1.state:=by
 have hc1:KX vB [32]=some (vB,[],false):=by
  unfold KX;rw [jV (by decide),QG (by decide)]
 obtain ⟨t,ht,_⟩:=t26;have hk1:=aGa t ht;unfold JM;rw [hc1,Option.bind_some,ht,Option.bind_some];dsimp only;rw [hk1];refine T.bd (jE _ _) fun r hr=>?_
 cases r with
 | inr _=>cases hr
 | inl _ =>
  have hs0:bC (uQ t (vB,[],false) b) (0,[],false,[])=some (.inl ([],false,[])):=by
   refine dS ?_;unfold uQ;dsimp only;rw [hk1];show (if ((0:Nat):Int) < 0 then _ else _)=_;rw [if_neg (by decide)]
  refine T.bd (.ok hs0) fun e he=>?_;subst he;dsimp only;refine T.bd (jE _ _) fun u hu=>?_
  cases u with
  | inr _=>cases hu
  | inl _ =>
   have hm:LQ (((some ({ many:=0,text:=false,do_:=some 122 }:bU)).getD ⟨0,false,none⟩).do_) b [] []=uL b [] []:=by
    unfold LQ;rfl
   rw [hm];refine T.bd (s122 h hk [] []) fun g hg=>?_
   cases g with
   | inl y=>exact .mk fun _=>hg
   | inr e=>exact .mk fun h0=>absurd h0 hg
theorem KG {α:Type} (l:List α) (x:α):(l++[x])[l.length]?=some x:=by simp
theorem aGb (awk:m8=some true) (ls:List aF) (at_ w:Int) (ha:0≤at_∧at_≤255) (hwd:0≤w∧w≤4294967295) (hls:∀ s∈ls,s.length≤9223372036854775807):m4 ls at_ w=some true:=by
 suffices h:T (m4 ls at_ w) (fun r=>r=true) by obtain ⟨_,h,rfl⟩:=h;exact h
 have hw:T m8 (fun r=>r=true):=⟨true,awk,rfl⟩;unfold m4;refine T.bd (Q:=fun t=>t=false→Rt ls∧0 < ls.length) (T.bd (r6 ls hls) fun r _=>T.ie (fun _=>T.bd (r7 ls) fun r h=>T.ie (fun h1=>.mk fun h2=>⟨h h1,by simp at h2;exact List.length_pos_iff.2 (by simpa using h2)⟩) fun _=>.mk (by simp)) fun _=>.mk (by simp)) fun t ht=>T.ie (fun _=>T.bd hw fun r hr=>.mk hr) fun hf=>?_;obtain ⟨hR,hpos⟩:=ht (by simpa using hf);have hL:=hR.lin;have h8:=hR.1;obtain ⟨k,hk,hkl⟩:∃ k:Nat,at_%(ls.length:Int)=(k:Int)∧k < ls.length:=⟨(at_%(ls.length:Int)).toNat,by have:=Int.emod_nonneg at_ (b:=(ls.length:Int)) (by omega);omega,by have:=Int.emod_lt_of_pos at_ (b:=(ls.length:Int)) (by omega);omega⟩;rw [hk,show ((k:Int)+1)=((k+1:Nat):Int) by omega,Int.toNat_natCast,Int.toNat_natCast];refine .ck (by omega) (.ck (by omega) (.ck (by omega) (T.bd (.ok (r10 (by rw [List.length_take];omega))) fun a1 h1=>?_)));subst h1;refine T.bd (T.run (hR.take k)) fun a2 h2=>.ck (by omega) (T.bd (.ok (r10 (by rw [List.length_take];omega))) fun a3 h3=>?_);subst h2 h3;refine T.bd (T.run (hR.take (k+1))) fun a4 h4=>?_;subst h4;dsimp only;have hlen:(fD (ls.take (k+1))).2.length=k+1:=by rw [mI (hL.take _),List.length_take];omega
 refine T.bd (Q:=fun t=>t=false) (T.ie (fun h=>absurd rfl h) fun _=>T.ie (fun h=>absurd rfl h) fun _=>.mk (by rw [hlen];simp)) fun t ht=>T.ie (fun h=>by rw [ht] at h;cases h) fun _=>T.bd (Q:=fun t=>t=false→ls[k]?=some vB∧(fD (ls.take (k+1))).2[k]?=some 0) (T.bd (T.at hkl) fun x hx=>T.ie (fun _=>.mk (by simp)) fun hxw=>T.bd (T.at (by omega)) fun y hy=>.mk fun h0=>⟨?_,?_⟩) fun t ht=>T.ie (fun _=>T.bd hw fun r hr=>.mk hr) fun hf=>?_
 ·rw [hx];congr 1;simpa using hxw
 ·rw [hy];simpa using h0
 obtain ⟨hx,h0⟩:=ht (by simpa using hf);have htk:ls.take (k+1)=ls.take k++[vB]:=by rw [List.take_add_one,hx];rfl
 have hsi:=(rW _ (hL.take k)).1;have hk1:(ls.take k).length=k:=by rw [List.length_take];omega
 rw [hk1] at hsi;obtain ⟨q,hq1,_,hq3⟩:=rX (ls:=ls.take k) (x:=vB) (by rw [← htk];exact hL.take _);have hq0:q.2=0:=by
  rw [htk,hq3] at h0;have hl2:(fD (ls.take k)).2.length=k:=by rw [mI (hL.take _),hk1]
  dsimp only at h0;rw [List.getElem?_append_right (by omega),hl2] at h0;simpa using h0
 obtain ⟨q',hq1',hO⟩:=s49 hsi (by omega);rw [hq1] at hq1';injection hq1' with hq1';subst hq1';obtain ⟨ho1,ho2,o,h5,hrs⟩:=hO hq0;rw [htk,hq3];dsimp only;obtain ⟨q0,h13',hQ13⟩:=s66 (fD (ls.take k)).1.state.division hsi.dr;rw [h5] at h13';injection h13' with h13';subst h13';obtain ⟨x,h6,h7,hY,hall⟩:=hQ13 rfl rfl;have hm:=hY.l.d.m;rw [hY.dv] at hm;have hrl:=hsi.rs;refine T.bd (Q:=fun t=>t=false) (T.ie (fun _=>T.ie (fun h=>by rw [ho2] at h;cases h) fun _=>.ck (by omega) (T.ie (fun h=>by rw [hrs] at h;simp at h) fun _=>T.ie (fun h=>by omega) fun _=>.mk (decide_eq_false (by omega)))) fun h=>absurd ho1 h) fun t ht=>T.ie (fun h=>by rw [ht] at h;cases h) fun _=>?_;rw [hrs,KG,Option.bind_some,h5,Option.bind_some];refine T.bd (Q:=fun t=>t=false) (T.ie (fun h=>absurd rfl h) fun _=>T.ie (fun h=>absurd rfl h) fun _=>⟨false,by simp,rfl⟩) fun t ht=>T.ie (fun h=>by rw [ht] at h;cases h) fun _=>?_;refine T.bd (Q:=fun (l:List UInt8)=>(l.length:Int)=(fD (ls.take k)).1.state.division.members∧∀ (m:Nat) v,l[m]?=some v→v∈sA (kB (fD (ls.take k)).1.state.division.ayes m) (kB (fD (ls.take k)).1.state.division.noes m)) ?_ fun vs hvs=>?_
 ·clear hall h5 hQ13 h6 h7;obtain ⟨d,hd⟩:∃ d,d=(fD (ls.take k)).1.state.division:=⟨_,rfl⟩;rw [← hd] at hY hm ⊢;refine T.ix d.members.toNat (·.1) (fun (s:Nat×List UInt8)=>s.2.length=s.1∧∀ (m:Nat) v,s.2[m]?=some v→v∈sA (kB d.ayes m) (kB d.noes m)) (fun s hs hi=>?_) ⟨rfl,fun m v h=>by cases h⟩ (Nat.zero_le _);unfold OL;dsimp only;rw [← hd];refine T.ie (fun hlt=>.ck ⟨hwd.1,by omega,by omega⟩ ?_) fun hge=>.mk ⟨by omega,hs.2⟩;have hdv:0≤w/2 ^ ((s.1:Int)%16).toNat∧w/2 ^ ((s.1:Int)%16).toNat≤4294967295:=by
   have h1:0≤w/2 ^ ((s.1:Int)%16).toNat:=Int.ediv_nonneg hwd.1 (Int.le_of_lt (Int.pow_pos (by decide)));have h2:=Int.ediv_le_self (2 ^ ((s.1:Int)%16).toNat) hwd.1;exact ⟨h1,by omega⟩
  refine T.bd (s14 d s.1 _ hdv) fun v hv=>?_;obtain ⟨u,rfl,hu⟩:=hv;have hub:=u.toNat_lt;refine .ck (by omega) (.ck (by omega) (.ck (by omega) (.mk ⟨⟨by simp [hs.1],fun m v hm=>?_⟩,rfl,by omega⟩)));dsimp only at hm;rw [Int.toNat_natCast,UInt8.ofNat_toNat] at hm;by_cases hml:m < s.1
  ·rw [List.getElem?_append_left (by omega)] at hm;exact hs.2 m v hm
  rw [List.getElem?_append_right (by omega)] at hm;have hm0:m=s.1:=by
   have:=(List.getElem?_eq_some_iff.1 hm).1;simp at this;omega
  subst hm0;rw [hs.1,Nat.sub_self] at hm;simp at hm;subst hm;exact hu (hY.n s.1 hlt)
 refine T.bd (s15 h6 h7 hY hvs.1 hvs.2) fun r hr=>?_;obtain ⟨hr0,u,n,hu,hn,ho⟩:=hr;obtain ⟨n',o',hn',ho',hb,hmem⟩:=hall u hu;rw [hn] at hn';injection hn' with hn';subst hn';rw [ho] at ho';injection ho' with ho';subst ho';simp only [List.mem_singleton] at hmem;refine T.bd (Q:=fun t=>t=true) (T.ie (fun _=>T.ie (fun _=>T.bd hw fun r hr=>.mk hr) fun h=>absurd ?_ h) fun h=>absurd hr0 h) fun t ht=>.mk ht;rw [← hmem];have:(UInt8.ofNat r.2.1.toNat).toNat=r.2.1.toNat:=by simp;omega
 rw [this];omega
end T12
