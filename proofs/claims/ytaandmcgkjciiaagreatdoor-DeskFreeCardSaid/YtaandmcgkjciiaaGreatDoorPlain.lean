/-
  The plain laws: what the models of a session come to.
-/
import Derived.Test.YtaandmcgkjciiaaGreatDoorMade
import Derived.Test.YtaandmcgkjciiaaGreatDoorKitSix
import Derived.Lib.AtoiAllCases
set_option linter.all false
set_option maxRecDepth 100000
namespace T12
theorem awk:m8=some true:=by kernel_rfl
end T12
set_option maxHeartbeats 4000000
namespace T12
open Go Go.Proofs Pk
def T {α:Type} (o:Option α) (P:α→Prop):Prop:=∃ v,o=some v∧P v
theorem T.mk {α:Type} {v:α} {P:α→Prop} (h:P v):T (some v) P:=⟨v,rfl,h⟩
theorem T.bd {α β:Type} {o:Option α} {f:α→Option β} {Q:α→Prop} {P:β→Prop} (h:T o Q) (k:∀ v,Q v→T (f v) P):T (o.bind f) P:=by
 obtain ⟨v,rfl,hv⟩:=h;exact k v hv
theorem T.mono {α:Type} {o:Option α} {Q P:α→Prop} (h:T o Q) (k:∀ v,Q v→P v):T o P:=by
 obtain ⟨v,h1,hv⟩:=h;exact ⟨v,h1,k v hv⟩
theorem T.ck {α:Type} {c:Prop} [Decidable c] {o:Option α} {P:α→Prop} (hc:c) (h:T o P):T (bY c o) P:=by
 unfold bY;rw [if_pos hc];exact h
theorem T.ie {α:Type} {c:Prop} [Decidable c] {a b:Option α} {P:α→Prop} (h1:c→T a P) (h2:¬c→T b P):T (if c then a else b) P:=by
 by_cases h:c
 ·rw [if_pos h];exact h1 h
 rw [if_neg h];exact h2 h
theorem T.at {α:Type} {l:List α} {i:Nat} (h:i < l.length):T (l[i]?) (fun x=>l[i]?=some x):=⟨l[i],List.getElem?_eq_getElem h,List.getElem?_eq_getElem h⟩
theorem T.mem {α:Type} {l:List α} {i:Nat} (h:i < l.length):T (l[i]?) (fun x=>x∈l):=⟨l[i],List.getElem?_eq_getElem h,List.getElem_mem h⟩
theorem T.lp {σ ε:Type} {step:σ→Option (σ⊕ε)} (I:σ→Prop) (μ:σ→Nat) {Q:ε→Prop} (h:∀ s,I s→T (step s) (fun r=>match r with | .inl s'=>I s'∧μ s' < μ s | .inr e=>Q e)) {s0:σ} (h0:I s0):T (bG step s0) Q:=by
 have:∀ n s,μ s=n→I s→T (bG step s) Q:=by
  intro n
  induction n using Nat.strongRecOn with
  | _ n ih =>
   intro s hn hI;obtain ⟨v,h1,h2⟩:=h s hI
   cases v with
   | inl s'=>rw [gB h1];exact ih (μ s') (by have:=h2.2;omega) s' rfl h2.1
   | inr e=>rw [eG h1];exact ⟨e,rfl,h2⟩
 exact this _ s0 rfl h0
theorem T.ix {σ ε:Type} {step:σ→Option (σ⊕ε)} (n:Nat) (ix:σ→Nat) (I:σ→Prop) {Q:ε→Prop} (h:∀ s,I s→ix s≤n→T (step s) (fun r=>match r with | .inl s'=>I s'∧ix s'=ix s+1∧ix s < n | .inr e=>Q e)) {s0:σ} (h0:I s0) (h1:ix s0≤n):T (bG step s0) Q :=
 T.lp (fun s=>I s∧ix s≤n) (fun s=>n - ix s) (fun s hs=>(h s hs.1 hs.2).mono fun v hv=>by
  cases v with
  | inl s'=>have:=hv.2;exact ⟨⟨hv.1,by omega⟩,by omega⟩
  | inr e=>exact hv) ⟨h0,h1⟩
theorem T.rc {β:Type} {F:Nat→Option β} {P:β→Prop} (h:T (F 100000) P):T (uX F) P:=by
 obtain ⟨v,h1,hv⟩:=h;exact ⟨v,by unfold uX;rw [h1];rfl,hv⟩
theorem T.eq {α:Type} {o:Option α} {v:α} {P:α→Prop} (h:o=some v) (hp:P v):T o P:=⟨v,h,hp⟩
theorem T.ok {α:Type} {o:Option α} {v:α} (h:o=some v):T o (fun r=>r=v):=⟨v,h,rfl⟩
theorem T.get {α:Type} {o:Option α} {P:α→Prop} {d:α} (h:T o P):o=some (o.getD d):=by
 obtain ⟨v,rfl,_⟩:=h;rfl
theorem idx {α:Type} (l:List α) (p:α→Bool) (step:Nat→Option (Nat⊕(Unit⊕Int))) (h:∀ (i:Nat) (x:α),l[i]?=some x→step i=if p x then some (.inr (.inr (i:Int))) else some (.inl (i+1))) (he:step l.length=some (.inr (.inl ()))) :
  T (bG step 0) (fun e=>(∃ z:Nat,e=.inr (z:Int)∧l.any p=true)∨(e=.inl ()∧l.any p=false)):=by
 have:∀ n i,l.length - i=n→i≤l.length→T (bG step i) (fun e=>(∃ z:Nat,e=.inr (z:Int)∧(l.drop i).any p=true)∨(e=.inl ()∧(l.drop i).any p=false)):=by
  intro n
  induction n with
  | zero =>
   intro i h1 h2;obtain rfl:i=l.length:=by omega
   rw [eG he,List.drop_length];exact ⟨_,rfl,.inr ⟨rfl,rfl⟩⟩
  | succ n ih =>
   intro i h1 h2;have hi:i < l.length:=by omega
   rw [List.drop_eq_getElem_cons hi];simp only [List.any_cons];have h3:=h i _ (List.getElem?_eq_getElem hi)
   cases hp:p l[i] with
   | true=>rw [hp,if_pos rfl] at h3;rw [eG h3];exact ⟨_,rfl,.inl ⟨i,rfl,rfl⟩⟩
   | false=>rw [hp] at h3;rw [gB h3];simp only [Bool.false_or];exact ih _ (by omega) (by omega)
 exact this _ 0 rfl (Nat.zero_le _)
theorem pY {α:Type} (l:List α) (f:α→Option Bool) (p:α→Bool) (hf:∀ x∈l,f x=some (p x)) (step:Nat→Option (Nat⊕(Unit⊕Int)))
  (h:∀ i,step i=if (i:Int) < (l.length:Int) then (l[i]?).bind fun x=>(f x).bind fun r=>if r then some (.inr (.inr (i:Int))) else some (.inl (i+1)) else some (.inr (.inl ()))) :
  T (bG step 0) (fun e=>(∃ z:Nat,e=.inr (z:Int)∧l.any p=true)∨(e=.inl ()∧l.any p=false)):=by
 refine idx l p step (fun i x hx=>?_) ?_
 ·have hi:=(List.getElem?_eq_some_iff.1 hx).1;rw [h,if_pos (by omega),hx,Option.bind_some,hf x (List.mem_of_getElem? hx),Option.bind_some]
 rw [h,if_neg (by omega)]
theorem UX (l:List (List Int)) (f:List Int→Option Bool) (p:List Int→Bool) (hf:∀ x∈l,f x=some (p x)):PX l f=some (l.all p):=by
 obtain ⟨r,h1,h2⟩:=pY l (fun x=>tT x f) (fun x=>!p x) (fun x hx=>by unfold tT;rw [hf x hx];rfl) (wM l (fun x=>tT x f)) (fun i=>rfl);unfold PX WO IX;rw [h1,List.all_eq_not_any_not];rcases h2 with ⟨z,rfl,h2⟩ | ⟨rfl,h2⟩ <;> simp [h2]
theorem aFj (l:List Int) (f:Int→Option Bool) (p:Int→Bool) (hf:∀ x∈l,f x=some (p x)):DU l f=some (l.all p):=by
 obtain ⟨r,h1,h2⟩:=pY l (fun x=>tQ x f) (fun x=>!p x) (fun x hx=>by unfold tQ;rw [hf x hx];rfl) (wK l (fun x=>tQ x f)) (fun i=>rfl);unfold DU IW IV;rw [h1,List.all_eq_not_any_not];rcases h2 with ⟨z,rfl,h2⟩ | ⟨rfl,h2⟩ <;> simp [h2]
theorem aFk (l:List dP) (f:dP→Option Bool) (p:dP→Bool) (hf:∀ x∈l,f x=some (p x)):DX l f=some (l.all p):=by
 obtain ⟨r,h1,h2⟩:=pY l (fun x=>tU x f) (fun x=>!p x) (fun x hx=>by unfold tU;rw [hf x hx];rfl) (wN l (fun x=>tU x f)) (fun i=>rfl);unfold DX IZ IY;rw [h1,List.all_eq_not_any_not];rcases h2 with ⟨z,rfl,h2⟩ | ⟨rfl,h2⟩ <;> simp [h2]
theorem JW (n a b:Int):LB n a b=some (decide (a≤n∧n≤b)):=by
 unfold LB;by_cases h:a≤n <;> simp [h]
theorem FX (d:aW) (n:Int) (h:1≤d.members∧d.members≤40):pD d n=some (decide (0≤n∧n≤d.members - 1)):=by
 unfold pD bY;rw [if_pos (by omega),JW];rfl
theorem aFl (l:List Int):T (DV l) fun _=>True:=by
 unfold DV;refine T.bd (Q:=fun _=>True) (T.ix l.length id (fun _=>True) (fun i _ hi=>?_) trivial (Nat.zero_le _)) (fun v _=>?_)
 ·unfold wL;refine T.ie (fun h=>T.bd (Q:=fun _=>True) (T.ie (fun h0=>T.bd (T.at (by simpa using h)) fun x _=>T.bd (T.at (by simp only [id] at *;omega)) fun y _=>.mk trivial) fun _=>.mk trivial) fun t _=>T.ie (fun _=>.mk trivial) fun _=>.mk ⟨trivial,rfl,by simpa using h⟩) fun _=>.mk trivial
 cases v <;> exact .mk trivial
end T12
set_option maxHeartbeats 4000000
namespace T12
open Go Go.Proofs Pk
def In (d:aW) (a b:Int):Prop:=(0≤a∧a < d.members)∧(0≤b∧b < d.members)
structure Vd (d:aW):Prop where
 m:1≤d.members∧d.members≤40
 pl:d.pairs.length≤10
 xl:d.proxies.length≤10
 p:∀ p∈d.pairs,In d p.a p.b
 x:∀ p∈d.proxies,In d p.holder p.for_
 r:0≤d.rule∧d.rule < 3
 n:0≤d.need∧d.need≤40
 q:0≤d.quorum∧d.quorum≤40
theorem tk1 {α:Type} {l:List α} {i:Nat} {x:α} {P:α→Prop} (h:∀ y∈l.take i,P y) (hx:l[i]?=some x) (hp:P x):∀ y∈l.take (i+1),P y:=by
 intro y hy;rw [List.take_add_one,hx] at hy;rcases List.mem_append.1 hy with hy | hy
 ·exact h y hy
 simp at hy;subst hy;exact hp
theorem UY (d:aW) (h:1≤d.members∧d.members≤40):T (bG (yE d) (0,([]:List (Int×Bool)))) (fun e=>match e with | .inl _=>∀ p∈d.pairs,In d p.a p.b | .inr z=>z=false):=by
 refine T.ix d.pairs.length (·.1) (fun s=>∀ p∈d.pairs.take s.1,In d p.a p.b) (fun s hs hi=>?_) (by simp) (Nat.zero_le _);unfold yE;refine T.ie (fun hl=>T.bd (T.at (by omega)) fun x hx=>T.bd (Q:=fun t=>t=false→In d x.a x.b) ?_ fun t ht=>T.ie (fun h=>.mk rfl) fun h=>.mk ⟨tk1 hs hx (ht (by simpa using h)),rfl,by omega⟩) (fun hl=>.mk fun p hp=>hs p (by rw [List.take_of_length_le (by omega)];exact hp));refine T.bd (.ok (FX d _ h)) fun r hr=>T.ie (fun h1=>T.bd (.ok (FX d _ h)) fun r' hr'=>T.ie (fun h2=>?_) fun _=>.mk (by simp)) fun _=>.mk (by simp);subst hr hr';simp only [decide_eq_true_eq] at h1 h2;have:In d x.a x.b:=⟨⟨by omega,by omega⟩,by omega,by omega⟩;exact T.ie (fun _=>.mk fun _=>this) fun _=>T.ie (fun _=>.mk fun _=>this) fun _=>.mk fun _=>this
theorem UZ (d:aW) (h:1≤d.members∧d.members≤40):T (bG (yF d) (0,([]:List (Int×Bool)))) (fun e=>match e with | .inl _=>∀ p∈d.proxies,In d p.holder p.for_ | .inr z=>z=false):=by
 refine T.ix d.proxies.length (·.1) (fun s=>∀ p∈d.proxies.take s.1,In d p.holder p.for_) (fun s hs hi=>?_) (by simp) (Nat.zero_le _);unfold yF;refine T.ie (fun hl=>T.bd (T.at (by omega)) fun x hx=>T.bd (Q:=fun t=>t=false→In d x.holder x.for_) ?_ fun t ht=>T.ie (fun h=>.mk rfl) fun h=>.mk ⟨tk1 hs hx (ht (by simpa using h)),rfl,by omega⟩) (fun hl=>.mk fun p hp=>hs p (by rw [List.take_of_length_le (by omega)];exact hp));refine T.bd (.ok (FX d _ h)) fun r hr=>T.ie (fun h1=>T.bd (.ok (FX d _ h)) fun r' hr'=>T.ie (fun h2=>?_) fun _=>.mk (by simp)) fun _=>.mk (by simp);subst hr hr';simp only [decide_eq_true_eq] at h1 h2;have:In d x.holder x.for_:=⟨⟨by omega,by omega⟩,by omega,by omega⟩;exact T.ie (fun _=>.mk fun _=>this) fun _=>.mk fun _=>this
theorem aFm (d:aW) (h:1≤d.members∧d.members≤40):T (SR d) (fun r=>r=true→(∀ p∈d.pairs,In d p.a p.b)∧∀ p∈d.proxies,In d p.holder p.for_):=by
 unfold SR;refine T.bd (UY d h) fun e he=>?_
 cases e with
 | inr z=>exact .mk fun hz=>by simp only at he;simp [he] at hz
 | inl t =>
  refine T.bd (UZ d h) fun e he'=>?_
  cases e with
  | inr z=>exact .mk fun hz=>by simp only at he';simp [he'] at hz
  | inl t=>exact T.bd (.ok (aFk _ _ (fun p=>!((eE t p.holder).getD false)) fun _ _=>rfl)) fun _ _=>.mk fun _=>⟨he,he'⟩
theorem VA (d:aW) (l:List Int) (h:1≤d.members∧d.members≤40):T (AQ d l) fun _=>True:=by
 unfold AQ;refine T.bd (Q:=fun _=>True) (T.bd (.ok (aFj _ _ _ fun x _=>FX d x h)) fun r _=>T.ie (fun _=>T.bd (aFl l) fun _ _=>.mk trivial) fun _=>.mk trivial) fun _ _=>.mk trivial
theorem VB:SS=some ():=rfl
theorem VC (d:aW) (hr:0≤d.rule∧d.rule≤255):T (PZ d) (fun r=>r=true→Vd d):=by
 unfold PZ;refine T.bd (Q:=fun r=>r=true→Vd d) (T.bd (.ok (JW _ _ _)) fun r h1=>T.ie (fun h=>?_) fun _=>.mk (by simp)) fun r hr=>?_
 ·subst h1;simp only [decide_eq_true_eq] at h;refine T.bd (.ok (UX _ _ (fun l=>(AQ d l).getD false) fun x _=>(VA d x h).get)) fun r _=>T.ie (fun _=>?_) fun _=>.mk (by simp);refine T.bd (.ok (UX _ _ (fun l=>(AQ d l).getD false) fun x _=>(VA d x h).get)) fun r _=>T.ie (fun _=>?_) fun _=>.mk (by simp);refine T.ie (fun hp=>T.ie (fun hx=>T.bd (aFm d h) fun r ht=>T.ie (fun hb=>T.ck (by omega) (T.bd (.ok VB) fun _ _=>T.ie (fun h3=>T.bd (.ok (JW _ _ _)) fun r h4=>T.ie (fun h5=>T.bd (.ok (JW _ _ _)) fun r h6=>T.ie (fun h7=>?_) fun _=>.mk (by simp)) fun _=>.mk (by simp)) fun _=>.mk (by simp))) fun _=>.mk (by simp)) fun _=>.mk (by simp)) fun _=>.mk (by simp);subst h4 h6;simp only [decide_eq_true_eq] at h5 h7;have:Vd d:=⟨h,by omega,by omega,(ht hb).1,(ht hb).2,⟨hr.1,h3⟩,h5,h7⟩;exact T.ie (fun _=>.mk fun _=>this) fun _=>.mk fun _=>this
 exact .mk hr
end T12
set_option maxHeartbeats 4000000
namespace T12
open Go Go.Proofs Pk
theorem JX (l:List Int) (v:Int):LC l v=some (l.any fun x=>decide (v=x)):=by
 obtain ⟨r,h1,h2⟩:=idx l (fun x=>decide (v=x)) (tV l v) (fun i x hx=>by
  have hi:=(List.getElem?_eq_some_iff.1 hx).1
  unfold tV;rw [if_pos (by omega),hx,Option.bind_some];simp) (by unfold tV;rw [if_neg (by omega)])
 unfold LC WP;rw [h1];rcases h2 with ⟨z,rfl,h2⟩ | ⟨rfl,h2⟩ <;> simp [h2]
theorem aFn (l:List UInt8) (v:Int):TB l v=some (l.any fun x=>decide (v=(x.toNat:Int))):=by
 obtain ⟨r,h1,h2⟩:=idx l (fun x=>decide (v=(x.toNat:Int))) (tW l v) (fun i x hx=>by
  have hi:=(List.getElem?_eq_some_iff.1 hx).1
  unfold tW;rw [if_pos (by omega),hx,Option.bind_some];simp) (by unfold tW;rw [if_neg (by omega)])
 unfold TB WQ;rw [h1];rcases h2 with ⟨z,rfl,h2⟩ | ⟨rfl,h2⟩ <;> simp [h2]
theorem VD (l:bJ) (v:Int):T (zS l v) fun _=>True:=by
 unfold zS;refine T.bd (.ok (JX _ _)) fun r _=>T.bd (Q:=fun t=>t≤1) (T.ie (fun _=>.mk (Nat.le_refl _)) fun _=>.mk (by omega)) fun t ht=>T.bd (.ok (JX _ _)) fun r _=>T.bd (Q:=fun _=>True) (T.ie (fun _=>.ck (by omega) (.mk trivial)) fun _=>.mk trivial) fun _ _=>.mk trivial
theorem aFo (d:aW) (v:Int):T (EE d v) fun r=>r.length≤3:=by
 unfold EE;refine T.bd (VD _ _) fun a _=>T.bd (VD _ _) fun b _=>T.bd (Q:=fun _=>True) (T.ie (fun _=>.mk trivial) fun _=>.mk trivial) fun _ _=>?_;refine T.bd (Q:=fun l=>l.length≤1) (T.ie (fun _=>.ck (by decide) (.mk (by decide))) fun _=>.mk (by decide)) fun l hl=>T.bd (Q:=fun _=>True) (T.ie (fun _=>.mk trivial) fun _=>.mk trivial) fun _ _=>?_;refine T.bd (Q:=fun l=>l.length≤2) (T.ie (fun _=>.ck (by omega) (.mk (by simp;omega))) fun _=>.mk (by omega)) fun l hl=>T.bd (Q:=fun _=>True) (T.ie (fun _=>.mk trivial) fun _=>.mk trivial) fun _ _=>?_;exact T.bd (Q:=fun l=>l.length≤3) (T.ie (fun _=>.ck (by omega) (.mk (by simp;omega))) fun _=>.mk (by omega)) fun l hl=>.mk hl
structure Lk (x:cZ):Prop where
 d:Vd x.division
 l:x.may.length=40
 m:∀ v∈x.may,v.length≤3
theorem xC {α:Type} {l:List α} {i:Nat} {v:α} {P:α→Prop} (h:∀ x∈l,P x) (hv:P v):∀ x∈l.set i v,P x:=fun x hx=>by
 rcases List.mem_or_eq_of_mem_set hx with h1 | rfl
 ·exact h _ h1
 exact hv
theorem aFp (d:aW) (h:Vd d):T (SU d) fun x=>Lk x∧x.division=d:=by
 unfold SU;refine T.bd (Q:=fun _=>True) (T.ix d.pairs.length (·.1) (fun _=>True) (fun s hs hi=>?_) trivial (Nat.zero_le _)) fun e he=>?_
 ·unfold EF;refine T.ie (fun hl=>T.bd (T.mem (by omega)) fun x hx=>?_) fun _=>.mk trivial;have:=h.p x hx;unfold In at this;have:=h.m;exact .ck (by omega) (.ck (by omega) (.ck (by omega) (.ck (by omega) (.mk ⟨trivial,rfl,by omega⟩))))
 have hm:=h.m;refine T.bd (Q:=fun l=>l.length=40∧∀ v∈l,v.length≤3) (T.ix d.members.toNat (·.1) (fun s=>s.2.length=40∧∀ v∈s.2,v.length≤3) (fun s hs hi=>?_) ⟨List.length_replicate ..,fun v hv=>by rw [List.eq_of_mem_replicate hv];decide⟩ (Nat.zero_le _)) fun l hl=>.mk ⟨⟨h,hl.1,hl.2⟩,rfl⟩;unfold EG;exact T.ie (fun hl=>T.bd (aFo d _) fun r hr=>T.bd (T.at (by rw [hs.1];omega)) fun _ _=>.ck (by omega) (.mk ⟨⟨by rw [List.length_set];exact hs.1,xC hs.2 hr⟩,rfl,by omega⟩)) fun _=>.mk hs
theorem aFq (x:cZ) (h:Lk x):T (SV x) fun _=>True:=by
 have hm:=h.d.m;have hl:=h.l;unfold SV;refine T.bd (Q:=fun _=>True) (T.ix x.division.members.toNat (·.2.1) (fun _=>True) (fun s _ hi=>?_) trivial (Nat.zero_le _)) fun e he=>.mk trivial;unfold EH;exact T.ie (fun hl=>T.bd (T.at (by omega)) fun _ _=>T.ie (fun _=>.mk trivial) fun _=>.ck (by omega) (.mk ⟨trivial,rfl,by omega⟩)) fun _=>.mk trivial
theorem aFr (d:aW) (hr:0≤d.rule∧d.rule≤255):T (SW d) fun r=>r.2=0→Lk r.1∧r.1.division=d:=by
 unfold SW;refine T.bd (VC d hr) fun r h=>T.ie (fun h1=>T.bd (aFp d (h h1)) fun x hx=>T.bd (aFq x hx.1) fun _ _=>T.ie (fun _=>.mk (by simp)) fun _=>.mk fun _=>hx) fun _=>.mk (by simp)
theorem t142 (x:cZ) (h:Lk x):T (SX x) fun l=>l.length≤40:=by
 have hm:=h.d.m;have hl:=h.l;unfold SX;refine T.bd (Q:=fun l=>l.length≤40) (T.ix x.division.members.toNat (·.1) (fun s=>s.2.length≤s.1) (fun s hs hi=>?_) (Nat.zero_le _) (Nat.zero_le _)) fun e he=>.mk he;unfold EI;exact T.ie (fun hl=>T.bd (T.at (by omega)) fun _ _=>T.bd (Q:=fun l=>l.length≤s.1+1) (T.ie (fun _=>.ck (by omega) (.mk (by simp;omega))) fun _=>.mk (by omega)) fun l hl=>.ck (by omega) (.mk ⟨hl,rfl,by omega⟩)) fun _=>.mk (by omega)
theorem t99 (d:aW) (hr:0≤d.rule∧d.rule≤255):T (SY d) fun r=>r.2=0→Lk r.1∧r.1.division=d:=by
 unfold SY;exact T.bd (aFr d hr) fun r h=>T.bd (Q:=fun _=>True) (T.ie (fun h0=>T.bd (t142 _ (h h0).1) fun _ _=>.mk trivial) fun _=>.mk trivial) fun t _=>T.ie (fun _=>.mk (by simp)) fun _=>.mk h
def Nb (n:fD):Prop:=(0≤n.ayes∧n.ayes≤60)∧0≤n.noes∧n.noes≤60
theorem t102 (x:cZ) (t:bA) (h:Lk x):T (SZ x t) Nb:=by
 have hm:=h.d.m;have hx:=h.d.xl;unfold SZ;refine T.bd (Q:=fun e=>e.1≤40∧e.2≤40) (T.ix x.division.members.toNat (·.1) (fun s=>s.2.1≤s.1∧s.2.2≤s.1) (fun s hs hi=>?_) ⟨Nat.zero_le _,Nat.zero_le _⟩ (Nat.zero_le _)) fun e he=>?_
 ·unfold EJ;refine T.ie (fun hl=>.ck (by omega) (T.bd (Q:=fun r=>r.1≤s.1+1∧r.2≤s.1+1) (T.ie (fun _=>.mk ⟨by omega,by omega⟩) fun _=>?_) fun r hr=>.ck (by omega) (.mk ⟨hr,rfl,by omega⟩))) fun _=>.mk ⟨by omega,by omega⟩;exact T.bd (Q:=fun r=>r.1≤s.1+1∧r.2≤s.1+1) (T.bd (Q:=fun r=>r.1≤s.1+1∧r.2≤s.1+1) (T.ie (fun _=>.ck (by omega) (.mk ⟨by dsimp only;omega,by dsimp only;omega⟩)) fun _=>T.bd (Q:=fun r=>r≤s.1+1) (T.ie (fun _=>.ck (by omega) (.mk (by omega))) fun _=>.mk (by omega)) fun r hr=>.mk ⟨by dsimp only;omega,hr⟩) fun r hr=>.mk hr) fun r hr=>.mk hr
 refine T.bd (Q:=fun e=>e.1≤60∧e.2≤60) (T.ix x.division.proxies.length (·.1) (fun s=>s.2.1≤40+s.1∧s.2.2≤40+s.1) (fun s hs hi=>?_) ⟨by dsimp only;omega,by dsimp only;omega⟩ (Nat.zero_le _)) fun e he=>.mk ⟨⟨by dsimp only;omega,by dsimp only;omega⟩,by dsimp only;omega,by dsimp only;omega⟩;unfold EK;refine T.ie (fun hl=>T.bd (T.mem (by omega)) fun y hy=>?_) fun _=>.mk ⟨by dsimp only;omega,by dsimp only;omega⟩;have hI:=h.d.x y hy;unfold In at hI;refine T.bd (Q:=fun _=>True) (.ck (by omega) (.ck (by omega) (T.ie (fun _=>T.ie (fun _=>.mk trivial) fun _=>.ck (by omega) (.ck (by omega) (.mk trivial))) fun _=>.mk trivial))) fun _ _=>?_;refine T.bd (Q:=fun r=>r.1≤40+(s.1+1)∧r.2≤40+(s.1+1)) (T.ie (fun _=>.ck (by omega) (.ck (by omega) ?_)) fun _=>.mk ⟨by dsimp only;omega,by dsimp only;omega⟩) fun r hr=>.mk ⟨hr,rfl,by omega⟩;exact T.bd (Q:=fun r=>r.1≤40+(s.1+1)∧r.2≤40+(s.1+1)) (T.bd (Q:=fun r=>r.1≤40+(s.1+1)∧r.2≤40+(s.1+1)) (T.ie (fun _=>.ck (by omega) (.mk ⟨by dsimp only;omega,by dsimp only;omega⟩)) fun _=>T.bd (Q:=fun r=>r≤40+(s.1+1)) (T.ie (fun _=>.ck (by omega) (.mk (by omega))) fun _=>.mk (by omega)) fun r hr=>.mk ⟨by dsimp only;omega,hr⟩) fun r hr=>.mk hr) fun r hr=>.mk hr
theorem aFs (x:cZ) (n:fD) (h:Lk x) (hn:Nb n):T (TA x n) fun r=>0≤r∧r≤2:=by
 have h1:=h.d.r;have h2:=h.d.n;unfold Nb at hn;unfold TA;refine .ck (by omega) (T.ie (fun _=>.mk (by decide)) fun _=>T.bd (.ok VB) fun _ _=>.ck (by omega) (T.ie (fun _=>T.bd (Q:=fun _=>True) ?_ fun _ _=>T.ie (fun _=>.mk (by decide)) fun _=>.mk (by decide)) fun _=>T.ie (fun _=>T.bd (Q:=fun _=>True) ?_ fun _ _=>T.ie (fun _=>.mk (by decide)) fun _=>.mk (by decide)) fun _=>T.ie (fun _=>T.bd (Q:=fun _=>True) ?_ fun _ _=>T.ie (fun _=>.mk (by decide)) fun _=>.mk (by decide)) fun _=>by omega))
 ·exact T.bd (Q:=fun _=>True) (T.ie (fun _=>.mk trivial) fun _=>T.ie (fun _=>T.bd (Q:=fun _=>True) (.mk trivial) fun _ _=>.mk trivial) fun _=>.mk trivial) fun _ _=>.mk trivial
 ·exact T.bd (Q:=fun _=>True) (T.ie (fun _=>.mk trivial) fun _=>.ck (by omega) (T.ie (fun _=>T.bd (Q:=fun _=>True) (.mk trivial) fun _ _=>.mk trivial) fun _=>.mk trivial)) fun _ _=>.mk trivial
 exact T.bd (Q:=fun _=>True) (.ck (by omega) (.ck (by omega) (.ck (by omega) (T.ie (fun _=>.mk trivial) fun _=>.mk trivial)))) fun _ _=>.mk trivial
end T12
set_option maxHeartbeats 4000000
namespace T12
open Go Go.Proofs Pk
def Oc (l:List UInt8):Prop:=l.Nodup∧∀ x∈l,x.toNat≤2
theorem oc3 {l:List UInt8} (h:Oc l):l.length≤3:=by
 have:l ⊆ [0,1,2]:=fun x hx=>by
  have h2:=h.2 x hx;have:∀ n,n≤2→UInt8.ofNat n∈([0,1,2]:List UInt8):=by decide
  have:=this _ h2
  rwa [UInt8.ofNat_toNat] at this
 exact h.1.length_le_of_subset this
theorem aFt (r:cZ×Int) (h:Lk r.1):∀ (k:Nat) (s:Nat×bA×List UInt8),r.1.division.members.toNat - s.1 < k→(s.1:Int)≤r.1.division.members→Oc s.2.2→T (nD r k s) Oc:=by
 have hm:=h.d.m;have hl:=h.l;intro k
 induction k with
 | zero=>intro s h1;omega
 | succ k ih =>
  intro s h1 h2 h3;show T (yG r (nD r k) s) Oc;unfold yG;refine T.ie (fun he=>T.bd (Q:=Oc) (T.bd (t102 _ _ h) fun n hn=>T.bd (aFs _ _ h hn) fun o ho=>T.bd (.ok (aFn _ _)) fun c hc=>T.bd (Q:=Oc) (T.ie (fun _=>.mk h3) fun hf=>.ck (by have:=oc3 h3;omega) (.ck (by omega) (.mk ?_))) fun _ h=>.mk h) fun _ h=>.mk h) fun he=>T.bd (T.at (by omega)) fun vs _=>T.bd (Q:=fun e=>Oc e.2) (T.ix vs.length (·.1) (fun q=>Oc q.2.2) (fun q hq hi=>?_) h3 (Nat.zero_le _)) fun e he=>.mk he
  ·rw [hc] at hf;have hx:(UInt8.ofNat o.toNat).toNat=o.toNat:=by simp;omega
   refine ⟨List.nodup_append.2 ⟨h3.1,List.nodup_cons.2 ⟨by simp,List.nodup_nil⟩,fun a ha b hb hab=>?_⟩,fun x hx'=>?_⟩
   ·simp at hb;subst hb hab;exact hf (List.any_eq_true.2 ⟨_,ha,by rw [hx];simp;omega⟩)
   rcases List.mem_append.1 hx' with h | h
   ·exact h3.2 _ h
   simp at h;subst h;rw [hx];omega
  unfold EN;exact T.ie (fun hl=>T.bd (T.at (by omega)) fun v _=>.ck (by omega) (.ck (by omega) (T.bd (ih _ (by dsimp only;omega) (by dsimp only;omega) hq) fun o ho=>.mk ⟨ho,rfl,by omega⟩))) fun _=>.mk hq
theorem t212 (a b:Int):T (TC a b) fun _=>True:=by
 unfold TC EM;exact T.bd (Q:=fun _=>True) (T.bd (.mk trivial) fun _ (_:True)=>T.ie (fun _=>T.bd (.mk trivial) fun _ (_:True)=>T.ie (fun _=>.mk trivial) fun _=>.mk trivial) fun _=>.mk trivial) fun _ _=>.mk trivial
theorem aFu (l:List UInt8) (r:Int) (b c:Bool) (h:l.length≤3) (h2:∀ x∈l,x.toNat≤2):T (bG (tX l) (0,l.length,r,b,c)) fun o=>o.length=l.length∧(l.length≤1→o=l)∧∀ x∈o,x.toNat≤2:=by
 suffices hs:T (tX l (0,l.length,r,b,c)) fun e=>∃ o,e=.inr o∧o.length=l.length∧(l.length≤1→o=l)∧∀ x∈o,x.toNat≤2 by
  obtain ⟨_,h1,o,rfl,h2⟩:=hs
  rename_i h3;rw [eG h1];exact ⟨o,rfl,by assumption⟩
 unfold tX;dsimp only;refine .ck (by omega) (T.ie (fun _=>T.bd (Q:=fun (o:List UInt8)=>o.length=l.length∧(l.length≤1→o=l)∧∀ x∈o,x.toNat≤2) (.ck (by omega) (T.bd (Q:=fun (o:List UInt8)=>o.length=l.length∧(l.length≤1→o=l)∧∀ x∈o,x.toNat≤2) ?_ fun _ h=>.mk h)) fun o ho=>.mk ⟨o,rfl,ho⟩) fun hf=>by omega);by_cases h1:l.length≤1
 ·rw [eG (e:=l) (by unfold yH;dsimp only;rw [if_neg (by omega)])];exact .mk ⟨rfl,fun _=>rfl,h2⟩
 refine T.ix l.length (·.1) (fun s=>s.2.length=l.length∧∀ x∈s.2,x.toNat≤2) (fun s hs hi=>?_) ⟨rfl,h2⟩ (by dsimp only;omega);unfold yH;dsimp only;refine T.ie (fun hl=>T.bd (Q:=fun (o:List UInt8)=>o.length=l.length∧∀ x∈o,x.toNat≤2) (T.lp (fun q=>(q.2.length=l.length∧∀ x∈q.2,x.toNat≤2)∧0≤q.1∧q.1 < (l.length:Int)) (fun q=>q.1.toNat) (fun q hq=>?_) ⟨hs,by dsimp only;omega,by dsimp only;omega⟩) fun o ho=>.ck (by omega) (.mk ⟨ho,rfl,by omega⟩)) fun _=>.mk ⟨hs.1,fun h=>absurd h h1,hs.2⟩;unfold EO;dsimp only;refine T.bd (Q:=fun t=>t=true→0 < q.1) (T.ie (fun h0=>.ck (by omega) (T.bd (T.at (by omega)) fun _ _=>.ck (by omega) (.ck (by omega) (T.bd (T.at (by omega)) fun _ _=>T.bd (t212 _ _) fun _ _=>.mk fun _=>by omega)))) fun _=>.mk (by simp)) fun t ht=>T.ie (fun h=>?_) fun _=>.mk hq.1;have:=ht h;exact .ck (by omega) (.ck (by omega) (T.bd (T.mem (by omega)) fun u hu=>.ck (by omega) (T.bd (T.mem (by omega)) fun w hw=>T.bd (T.at (by rw [List.length_set];omega)) fun _ _=>.mk ⟨⟨⟨by simp [hq.1.1],xC (xC hq.1.2 (hq.1.2 u hu)) (hq.1.2 w hw)⟩,by dsimp only;omega,by dsimp only;omega⟩,by dsimp only;omega⟩)))
theorem aFv (n:Nat) (h:n≤3):T (WR n) fun _=>True:=by
 rcases (by omega:n=0∨n=1∨n=2∨n=3) with rfl | rfl | rfl | rfl <;> exact ⟨_,rfl,trivial⟩
theorem t66 (d:aW) (hr:0≤d.rule∧d.rule≤255):T (TD d) fun r=>r.1.length≤3∧∀ x∈r.1,x.toNat≤2:=by
 unfold TD;refine T.bd (t99 d hr) fun r h=>T.ie (fun _=>.mk (by simp)) fun h0=>?_;have hL:=(h (by omega)).1;have:=hL.d.m;refine T.bd (Q:=Oc) (T.bd (Q:=Oc) (T.rc (aFt r hL _ _ (by dsimp only;omega) (by dsimp only;omega) ⟨List.nodup_nil,by simp⟩)) fun _ h=>.mk h) fun l hl=>?_;have h3:=oc3 hl;exact T.bd (Q:=fun (o:List UInt8)=>o.length≤3∧∀ x∈o,x.toNat≤2) (T.bd (aFv _ h3) fun b _=>T.bd (Q:=fun (o:List UInt8)=>o.length≤3∧∀ x∈o,x.toNat≤2) (T.bd (aFu l b true true h3 hl.2) fun o ho=>.mk ⟨by omega,ho.2.2⟩) fun _ h=>.mk h) fun _ h=>.mk h
end T12
set_option maxHeartbeats 4000000
namespace T12
open Go Go.Proofs Pk
theorem jQ {κ α:Type} [DecidableEq κ] (k k':κ) (y:α):∀ t:List (κ×α),eE (put t k y) k'=if k'=k then some y else eE t k'
 | []=>by simp [put,eE]
 | (a,x)::t=>by
  unfold put
  split
  ·rename_i h;subst h;simp only [eE];split <;> rfl
  rename_i h
  simp only [eE,jQ k k' y t];by_cases h1:k'=a
  ·subst h1;rw [if_pos rfl,if_neg (Ne.symm h),if_pos rfl]
  rw [if_neg h1,if_neg h1]
theorem rV {κ α:Type} [DecidableEq κ] (k:κ) (y:α):∀ t:List (κ×α),(put t k y).length=t.length+if (eE t k).isNone then 1 else 0
 | []=>rfl
 | (a,x)::t=>by
  unfold put
  split
  ·rename_i h;subst h;simp [eE]
  rename_i h;simp only [eE,if_neg h,List.length_cons,rV k y t];omega
def xD (t:List (Int×aQ)):List aQ→List (Int×aQ)
 | []=>t
 | p::l=>xD (put t p.number p) l
theorem uJ (x:aQ):∀ (l:List aQ) (t:List (Int×aQ)),xD t (l++[x])=put (xD t l) x.number x
 | [],_=>rfl
 | p::l,t=>uJ x l _
theorem FY:∀ (l:List aQ) (t:List (Int×aQ)),(xD t l).length≤t.length+l.length
 | [],_=>Nat.le_refl _
 | p::l,t=>by
  have h1:=FY l (put t p.number p);have h2:=rV p.number p t;simp only [xD,List.length_cons];split at h2 <;> omega
theorem FZ:∀ (l:List aQ) (t:List (Int×aQ)),(xD t l).length=t.length+l.length→(∀ p∈l,eE t p.number=none)∧(l.map (·.number)).Nodup
 | [],_,_=>⟨by simp,List.nodup_nil⟩
 | p::l,t,h=>by
  have h1:=FY l (put t p.number p);have h2:=rV p.number p t;simp only [xD,List.length_cons] at h
  cases hk:eE t p.number with
  | some y=>rw [hk] at h2;simp at h2;omega
  | none =>
   rw [hk] at h2;simp at h2;obtain ⟨h3,h4⟩:=FZ l _ (by omega:(xD (put t p.number p) l).length=(put t p.number p).length+l.length);have h5:∀ q∈l,q.number≠p.number∧eE t q.number=none:=fun q hq=>by
    have:=h3 q hq;rw [jQ] at this
    split at this
    ·cases this
    exact ⟨by assumption,this⟩
   refine ⟨fun q hq=>?_,List.nodup_cons.2 ⟨fun hm=>?_,h4⟩⟩
   ·rcases List.mem_cons.1 hq with rfl | hq
    ·exact hk
    exact (h5 q hq).2
   obtain ⟨q,hq,he⟩:=List.mem_map.1 hm;exact (h5 q hq).1 he
theorem xE:∀ (l:List aQ) (t:List (Int×aQ)) (k:Int) (p:aQ),eE (xD t l) k=some p→(p∈l∧p.number=k)∨eE t k=some p
 | [],_,_,_,h=>.inr h
 | q::l,t,k,p,h=>by
  rcases xE l _ k p h with h1 | h1
  ·exact .inl ⟨List.mem_cons_of_mem _ h1.1,h1.2⟩
  rw [jQ] at h1
  split at h1
  ·cases h1;exact .inl ⟨List.mem_cons_self ..,by symm;assumption⟩
  exact .inr h1
theorem yS:∀ (l:List aQ) (t:List (Int×aQ)) (k:Int),k∉l.map (·.number)→eE (xD t l) k=eE t k
 | [],_,_,_=>rfl
 | q::l,t,k,h=>by
  simp only [List.map_cons,List.mem_cons,not_or] at h;rw [xD,yS l _ k h.2,jQ,if_neg h.1]
theorem GA:∀ (l:List aQ) (t:List (Int×aQ)),(l.map (·.number)).Nodup→∀ p∈l,eE (xD t l) p.number=some p
 | [],_,_,p,h=>absurd h (List.not_mem_nil)
 | q::l,t,hn,p,h=>by
  rw [List.map_cons,List.nodup_cons] at hn;rcases List.mem_cons.1 h with rfl | h
  ·rw [xD,yS l _ _ hn.1,jQ,if_pos rfl]
  exact GA l _ hn.2 p h
def JY (m:bL):List (Int×aQ):=xD [] m.papers
def GB (m:bL) (n:Int):aQ:=(eE (JY m) n).getD ⟨0,0,0,0,[]⟩
theorem AL (m:bL):GV m=some (JY m):=by
 obtain ⟨v,h1,h2⟩:T (bG (yI m) (0,([]:List (Int×aQ)))) fun e=>e=JY m:=by
  refine T.ix m.papers.length (·.1) (fun s=>s.2=xD [] (m.papers.take s.1)) (fun s hs hi=>?_) rfl (Nat.zero_le _);unfold yI;refine T.ie (fun hl=>T.bd (T.at (by omega)) fun x hx=>.mk ⟨?_,rfl,by omega⟩) fun hl=>.mk ?_
  ·dsimp only;rw [List.take_add_one,hx,Option.toList_some,uJ,hs]
  dsimp only;rw [hs,List.take_of_length_le (by omega)];rfl
 unfold GV;rw [h1,h2];rfl
theorem GC (l:List aQ) (f:aQ→Option Bool) (p:aQ→Bool) (hf:∀ x∈l,f x=some (p x)):rR l f=some (l.all p):=by
 obtain ⟨r,h1,h2⟩:=pY l (fun x=>tY x f) (fun x=>!p x) (fun x hx=>by unfold tY;rw [hf x hx];rfl) (wP l (fun x=>tY x f)) (fun i=>rfl);unfold rR JE JD;rw [h1,List.all_eq_not_any_not];rcases h2 with ⟨z,rfl,h2⟩ | ⟨rfl,h2⟩ <;> simp [h2]
theorem VE (l:List aF) (f:aF→Option Bool) (p:aF→Bool) (hf:∀ x∈l,f x=some (p x)):zU l f=some (l.all p):=by
 obtain ⟨r,h1,h2⟩:=pY l (fun x=>tZ x f) (fun x=>!p x) (fun x hx=>by unfold tZ;rw [hf x hx];rfl) (yD l (fun x=>tZ x f)) (fun i=>rfl);unfold zU NO SO;rw [h1,List.all_eq_not_any_not];rcases h2 with ⟨z,rfl,h2⟩ | ⟨rfl,h2⟩ <;> simp [h2]
theorem aFw (l:List UInt8) (f:Int→Option Bool) (p:Int→Bool) (hf:∀ x∈l,f (x.toNat:Int)=some (p (x.toNat:Int))):ET l f=some (l.all fun x=>p (x.toNat:Int)):=by
 obtain ⟨r,h1,h2⟩:=pY l (fun x=>uA (x.toNat:Int) f) (fun x=>!p (x.toNat:Int)) (fun x hx=>by unfold uA;rw [hf x hx];rfl) (rK l (fun x=>uA x f)) (fun i=>rfl);unfold ET PW CV;rw [h1,List.all_eq_not_any_not];rcases h2 with ⟨z,rfl,h2⟩ | ⟨rfl,h2⟩ <;> simp [h2]
theorem VF (n a b:Int):zV n a b=some (decide (a≤n∧n≤b)):=by
 unfold zV;by_cases h:a≤n <;> simp [h]
theorem PF (s:aF):T (mB s) fun r=>r=true→s.length≤20:=by
 unfold mB;refine T.bd (Q:=fun r=>r=true→s.length≤20) (T.bd (.ok (VF _ _ _)) fun r h=>T.ie (fun h1=>?_) fun _=>.mk (by simp)) fun _ h=>.mk h;subst h;simp only [decide_eq_true_eq] at h1;refine .ck (by omega) (T.bd (.ok (aFw _ _ (fun c=>(wQ c).getD false) fun x _=>?_)) fun _ _=>.mk fun _=>by omega);unfold wQ;by_cases h:(33:Int)≤x.toNat <;> simp [h]
def yT (l:List aF):Prop:=∀ s∈l,s.length≤20
theorem LN {l:List aF} (h:(l.all fun s=>(mB s).getD false)=true):yT l:=fun s hs=>by
 obtain ⟨r,h1,h2⟩:=PF s;have:=List.all_eq_true.1 h s hs;rw [h1] at this;exact h2 this
theorem aFx {α:Type} {l:List α} {i:Nat} {x:α} {P:α→Prop} (h:∀ y∈l.take i,P y) (hx:l[i]?=some x) (hp:P x):∀ y∈l.take (i+1),P y:=by
 intro y hy;rw [List.take_add_one,hx] at hy;rcases List.mem_append.1 hy with hy | hy
 ·exact h y hy
 simp at hy;subst hy;exact hp
def up (m:bL):Nat→Int→Int
 | 0,n=>n
 | k+1,n=>(GB m (up m k n)).of
def wd (m:bL) (n:Int):List aF:=if n=0 then m.words else (GB m n).words
structure Vm (m:bL):Prop where
 pl:m.papers.length≤10
 wl:m.words.length≤60
 w:∀ p∈m.papers,p.words.length≤60
 wt:yT m.words
 pt:∀ p∈m.papers,yT p.words
 n:∀ p∈m.papers,1≤p.number∧p.number≤999
 nd:(m.papers.map (·.number)).Nodup
 of:∀ p∈m.papers,p.of=0∨(GB m p.of).number=p.of
 en:∀ p∈m.papers,∃ j,j≤10∧up m j p.of=0
 ft:∀ p∈m.papers,0≤p.from_∧p.from_≤p.to_∧p.to_≤(wd m p.of).length
theorem VG (m:bL) (n:Int):QA m n=some (wd m n):=by
 unfold QA wd
 split
 ·rfl
 rw [AL];rfl
theorem t164 (m:bL) (h2:m.papers.length≤10):T (EV m) fun r=>r=true→∀ p∈m.papers,∃ j,j≤10∧up m j p.of=0:=by
 unfold EV;refine T.bd (.ok (AL m)) fun t ht=>T.bd (Q:=fun r=>r=true→∀ p∈m.papers,∃ j,j≤10∧up m j p.of=0) ?_ fun _ h=>.mk h;subst ht;refine T.ix m.papers.length (·.1) (fun s=>s.2=true∧∀ p∈m.papers.take s.1,∃ j,j≤10∧up m j p.of=0) (fun s hs hi=>?_) ⟨rfl,by simp⟩ (Nat.zero_le _);unfold wS;refine T.ie (fun hl=>T.bd (T.at (by omega)) fun x hx=>T.bd (Q:=fun e=>match e with | .inl r=>r.1=true∧∃ j,j≤10∧up m j x.of=0 | .inr z=>z=.inr false) ?_ fun e he=>?_) fun hl=>.mk fun _ p hp=>hs.2 p (by rw [List.take_of_length_le (by omega)];exact hp)
 ·refine T.ix m.papers.length (·.1) (fun q=>q.2.1=true∧q.2.2.2.1=up m q.1 x.of) (fun q hq hi=>?_) ⟨hs.1,rfl⟩ (Nat.zero_le _);unfold wR;refine T.ie (fun h0=>.ck (by omega) (T.ie (fun _=>⟨_,rfl,rfl⟩) fun h1=>.mk ⟨⟨hq.1,?_⟩,rfl,by omega⟩)) fun h0=>.mk ⟨hq.1,q.1,by omega,by rw [← hq.2];omega⟩;show ((eE (JY m) q.2.2.2.1).getD _).of=_;rw [hq.2];rfl
 cases e with
 | inr z=>simp only at he;subst he;exact .mk (by simp)
 | inl r=>exact .mk ⟨⟨he.1,aFx hs.2 hx he.2⟩,rfl,by omega⟩
end T12
set_option maxHeartbeats 4000000
namespace T12
open Go Go.Proofs Pk
theorem t69 (m:bL):T (NR m) fun r=>r=0→Vm m:=by
 unfold NR;refine T.bd (.ok (rfl:WS=some ())) fun _ _=>?_;have h1:T (ES m) fun r=>r=true→m.papers.length≤10∧m.words.length≤60∧∀ p∈m.papers,p.words.length≤60:=by
  unfold ES;refine T.bd (Q:=fun r=>r=true→m.papers.length≤10∧m.words.length≤60∧∀ p∈m.papers,p.words.length≤60) (T.ie (fun ha=>T.ie (fun hb=>T.bd (.ok (GC _ _ (fun p=>decide ((p.words.length:Int)≤60)) fun _ _=>rfl)) fun r hr=>.mk fun h=>⟨by omega,by omega,fun p hp=>?_⟩) fun _=>.mk (by simp)) fun _=>.mk (by simp)) fun _ h=>.mk h;rw [hr,List.all_eq_true] at h;have:=h p hp;simp only [decide_eq_true_eq] at this;omega
 refine T.bd h1 fun r h1=>T.ie (fun hr=>?_) fun _=>.mk (by simp);obtain ⟨hp,hw,hpw⟩:=h1 hr;have h2:T (EU m) fun r=>r=true→yT m.words∧∀ p∈m.papers,yT p.words:=by
  unfold EU
  exact T.bd (Q:=fun r=>r=true→yT m.words∧∀ p∈m.papers,yT p.words) (T.bd (.ok (VE _ _ (fun s=>(mB s).getD false) fun s _=>(PF s).get)) fun r hr=>T.ie (fun h1=>T.bd (.ok (GC _ _ (fun p=>p.words.all fun s=>(mB s).getD false) fun p _=>by
   unfold zW;rw [VE _ _ (fun s=>(mB s).getD false) fun s _=>(PF s).get];rfl)) fun r2 hr2=>.mk fun h3=>⟨LN (hr.symm.trans h1),fun p hp=>LN (List.all_eq_true.1 (hr2.symm.trans h3) p hp)⟩) fun _=>.mk (by simp)) fun _ h=>.mk h
 refine T.bd h2 fun r h2=>T.ie (fun hr2=>?_) fun _=>.mk (by simp);refine T.bd (T.bd (.ok (GC _ _ (fun p=>decide (1≤p.number∧p.number≤999)) fun p _=>by unfold zX;rw [VF];rfl)) fun r h=>.mk h:T (JF m) _) fun r h3=>T.ie (fun hr3=>?_) fun _=>.mk (by simp);have h3':∀ p∈m.papers,1≤p.number∧p.number≤999:=fun p hp=>by
  have:=List.all_eq_true.1 (h3.symm.trans hr3) p hp;simpa using this
 refine T.bd (T.bd (.ok (AL m)) fun r h=>.mk (P:=fun r=>r=true→(JY m).length=m.papers.length) fun hd=>by subst h;simp at hd;omega:T (JG m) _) fun r h4=>T.ie (fun hr4=>?_) fun _=>.mk (by simp);have h4':=(FZ m.papers [] (by have:=h4 hr4;unfold JY at this;simp;omega)).2
 refine T.bd (T.bd (.ok (AL m)) fun r h=>T.bd (.ok (GC _ _ (fun p=>decide (p.of=0∨(GB m p.of).number=p.of)) fun p _=>by
  subst h;unfold zY;by_cases hz:p.of=0 <;> simp [hz,GB])) fun r h=>.mk h:T (JH m) _) fun r h5=>T.ie (fun hr5=>?_) fun _=>.mk (by simp)
 have h5':∀ p∈m.papers,p.of=0∨(GB m p.of).number=p.of:=fun p hp=>by
  have:=List.all_eq_true.1 (h5.symm.trans hr5) p hp;simpa using this
 refine T.bd (t164 m hp) fun r h6=>T.ie (fun hr6=>?_) fun _=>.mk (by simp)
 refine T.bd (T.bd (.ok (GC _ _ (fun p=>decide (0≤p.from_∧p.from_≤p.to_∧p.to_≤(wd m p.of).length)) fun p _=>by
  unfold zZ;rw [VG];by_cases ha:0≤p.from_ <;> by_cases hb:p.from_≤p.to_ <;> simp [ha,hb])) fun r h=>.mk h:T (JI m) _) fun r h7=>T.ie (fun hr7=>.mk fun _=>⟨hp,hw,hpw,(h2 hr2).1,(h2 hr2).2,h3',h4',h5',h6 hr6,fun p hp=>?_⟩) fun _=>.mk (by simp)
 have:=List.all_eq_true.1 (h7.symm.trans hr7) p hp;simpa using this
theorem t222 (a b:aQ):T (TF a b) fun _=>True:=by
 unfold TF;exact T.bd (Q:=fun _=>True) (T.ie (fun _=>T.ie (fun _=>T.ie (fun _=>.mk trivial) fun _=>.mk trivial) fun _=>.mk trivial) fun _=>.mk trivial) fun _ _=>.mk trivial
end T12
set_option maxHeartbeats 4000000
namespace T12
open Go Go.Proofs Pk
theorem VH (choice:List Int) (r:List (Int×aQ)):T (bG (yJ choice r) 0) fun e=>match e with | .inl _=>True | .inr z=>z=2:=by
 refine T.ix choice.length id (fun _=>True) (fun i _ hi=>?_) trivial (Nat.zero_le _);unfold yJ;exact T.ie (fun hl=>T.bd (T.at (by simp only [id] at *;omega)) fun x hx=>T.bd (Q:=fun _=>True) (T.ie (fun _=>.mk trivial) fun _=>T.ie (fun _=>.mk trivial) fun _=>T.ie (fun h0=>T.bd (T.at (by simp only [id] at *;omega)) fun _ _=>.mk trivial) fun _=>.mk trivial) fun _ _=>T.ie (fun _=>.mk rfl) fun _=>.mk ⟨trivial,rfl,by simp only [id] at *;omega⟩) fun _=>.mk trivial
theorem t167 (m:bL) (choice:List Int):T (TH m choice) fun _=>True:=by
 unfold TH;refine T.bd (.ok (AL m)) fun r _=>T.bd (Q:=fun _=>True) (T.ix choice.length id (fun _=>True) (fun i _ hi=>?_) trivial (Nat.zero_le _)) fun e _=>?_
 ·unfold EZ;exact T.ie (fun hl=>T.bd (T.at (by simp only [id] at *;omega)) fun x hx=>T.bd (Q:=fun _=>True) (T.ie (fun _=>T.bd (.ok (JX _ _)) fun _ _=>.mk trivial) fun _=>.mk trivial) fun _ _=>T.ie (fun _=>.mk trivial) fun _=>.mk ⟨trivial,rfl,by simp only [id] at *;omega⟩) fun _=>.mk trivial
 cases e with
 | inr z=>exact .mk trivial
 | inl _ =>
  refine T.bd (Q:=fun _=>True) (T.ix choice.length id (fun _=>True) (fun i _ hi=>?_) trivial (Nat.zero_le _)) fun e _=>by cases e <;> exact .mk trivial
  unfold FB;refine T.ie (fun hl=>T.bd (T.at (by simp only [id] at *;omega)) fun x hx=>T.bd (Q:=fun e=>match e with | .inl _=>True | .inr z=>∃ q,z=.inr q) (T.ix choice.length id (fun _=>True) (fun i _ hi=>?_) trivial (Nat.zero_le _)) fun e he=>?_) fun _=>.mk trivial
  ·unfold FA;exact T.ie (fun hl=>T.bd (T.at (by simp only [id] at *;omega)) fun x hx=>T.bd (t222 _ _) fun _ _=>T.ie (fun _=>.mk ⟨_,rfl⟩) fun _=>.mk ⟨trivial,rfl,by simp only [id] at *;omega⟩) fun _=>.mk trivial
  cases e with
  | inl _=>exact .mk ⟨trivial,rfl,by simp only [id] at *;omega⟩
  | inr z=>obtain ⟨q,rfl⟩:=he;exact .mk trivial
theorem aFz (m:bL) (choice:List Int):T (TI m choice) fun r=>r=0→Vm m:=by
 unfold TI;refine T.bd (t69 m) fun r h=>T.ie (fun hr=>.mk fun h0=>absurd h0 hr) fun h0=>T.bd (.ok (AL m)) fun t _=>T.bd (VH choice t) fun e _=>?_;have hV:=h (by omega)
 cases e with
 | inr z=>exact .mk fun _=>hV
 | inl _=>exact T.bd (t167 m choice) fun _ _=>.mk fun _=>hV
def xF (a b:aQ):Int:=if a.from_ - b.from_≠0 then a.from_ - b.from_ else if a.to_ - b.to_≠0 then a.to_ - b.to_ else a.number - b.number
theorem aF0 (x y z:Int):TJ [x,y,z]=some (if x≠0 then x else if y≠0 then y else z):=by
 have h:∀ (i:Nat) (v:Int),[x,y,z][i]?=some v→uB [x,y,z] i=if v≠0 then some (.inr (.inr v)) else some (.inl (i+1)):=fun i v hv=>by
  have:=(List.getElem?_eq_some_iff.1 hv).1;unfold uB;rw [if_pos (by omega),hv];rfl
 have h0:=h 0 x rfl;have h1:=h 1 y rfl;have h2:=h 2 z rfl;unfold TJ;by_cases a:x=0
 ·rw [if_neg (by omega)] at h0;rw [gB h0];by_cases b:y=0
  ·rw [if_neg (by omega)] at h1;rw [gB h1];by_cases c:z=0
   ·rw [if_neg (by omega)] at h2;rw [gB h2,eG (by unfold uB;rfl)];simp [a,b,c]
   rw [if_pos c] at h2;rw [eG h2];simp [a,b]
  rw [if_pos b] at h1;rw [eG h1];simp [a,b]
 rw [if_pos a] at h0;rw [eG h0];simp [a]
def Pb (p:aQ):Prop:=(0≤p.from_∧p.from_≤60)∧(0≤p.to_∧p.to_≤60)∧1≤p.number∧p.number≤999
theorem VI {a b:aQ} (ha:Pb a) (hb:Pb b):LG a b=some (xF a b):=by
 unfold Pb at ha hb;unfold LG bY;rw [if_pos (by omega),if_pos (by omega),if_pos (by omega),aF0];rfl
theorem qS {a b:aQ} (ha:Pb a) (hb:Pb b):iI LG a b=true↔xF a b < 0:=by
 unfold iI;rw [VI ha hb];simp
theorem JZ {l:List aQ} (hl:l.length≤10) (h:∀ p∈l,Pb p) (hn:(l.map (·.number)).Nodup):T (iO LG l) fun r=>r.Perm l:=by
 refine ⟨_,oR ⟨by omega,fun x hx y hy=>⟨_,VI (h x hx) (h y hy)⟩,fun x hx=>?_,fun x hx y hy z hz h1 h2=>?_,fun x hx y hy h1 h2=>?_⟩,List.mergeSort_perm ..⟩
 ·rw [Bool.eq_false_iff,Ne,qS (h x hx) (h x hx)];unfold xF;simp
 ·rw [qS (h _ hx) (h _ hy)] at h1;rw [qS (h _ hy) (h _ hz)] at h2;rw [qS (h _ hx) (h _ hz)];unfold xF at *;(repeat' split at h1) <;> (repeat' split at h2) <;> (repeat' split) <;> omega
 refine Classical.byContradiction fun hne=>?_;have h3:¬xF x y < 0:=fun h3=>by rw [(qS (h _ hx) (h _ hy)).2 h3] at h1;cases h1
 have h4:¬xF y x < 0:=fun h3=>by rw [(qS (h _ hy) (h _ hx)).2 h3] at h2;cases h2
 have h5:x.number=y.number:=by
  unfold xF at h3 h4;(repeat' split at h3) <;> (repeat' split at h4) <;> omega
 obtain ⟨i,hi⟩:=List.getElem?_of_mem hx;obtain ⟨j,hj⟩:=List.getElem?_of_mem hy;have hi':=(List.getElem?_eq_some_iff.1 hi).1;have:=(List.getElem?_inj (by rw [List.length_map];exact hi') hn).1 (show (l.map (·.number))[i]?=(l.map (·.number))[j]? by rw [List.getElem?_map,List.getElem?_map,hi,hj];simp [h5]);subst this;rw [hi] at hj;cases hj;exact hne rfl
end T12
set_option maxHeartbeats 4000000
namespace T12
open Go Go.Proofs Pk
theorem LO (m:bL):∀ (k:Nat) (n:Int),up m (k+1) n=up m k (GB m n).of
 | 0,_=>rfl
 | k+1,n=>by rw [up,LO m k n];rfl
def rk (m:bL) (n:Int):Nat:=((List.range 12).findIdx? fun j=>decide (up m j n=0)).getD 12
open Classical in
theorem LP {m:bL} {n:Int} {j:Nat} (hj:j < 12) (h:up m j n=0) (hl:∀ i,i < j→up m i n≠0):rk m n=j:=by
 unfold rk;have:(List.range 12).findIdx? (fun j=>decide (up m j n=0))=some j:=by
  rw [List.findIdx?_eq_some_iff_getElem];exact ⟨by simpa using hj,by simpa using h,fun i hi=>by simpa using hl i hi⟩
 rw [this];rfl
theorem xI {P:Nat→Prop}:∀ (n:Nat),P n→∃ j,j≤n∧P j∧∀ i,i < j→¬P i:=by
 intro n
 induction n using Nat.strongRecOn with
 | _ n ih =>
  intro h;by_cases hh:∃ i,i < n∧P i
  ·obtain ⟨i,hi,hP⟩:=hh;obtain ⟨j,h1,h2,h3⟩:=ih i hi hP;exact ⟨j,by omega,h2,h3⟩
  exact ⟨n,Nat.le_refl _,h,fun i hi hP=>hh ⟨i,hi,hP⟩⟩
variable {m:bL}
theorem PG (hV:Vm m) {p:aQ} (hp:p∈m.papers):GB m p.number=p:=by
 unfold GB JY;rw [GA _ _ hV.nd p hp];rfl
theorem VJ (hV:Vm m) {p:aQ} (hp:p∈m.papers):rk m p.number=rk m p.of+1:=by
 obtain ⟨n,hn,h0⟩:=hV.en p hp;obtain ⟨j,h1,h2,h3⟩:=xI (P:=fun j=>up m j p.of=0) n h0;have hu:∀ i,up m (i+1) p.number=up m i p.of:=fun i=>by rw [LO,PG hV hp]
 rw [LP (by omega) h2 h3];refine LP (by omega) (by rw [hu];exact h2) fun i hi=>?_
 cases i with
 | zero=>have:=(hV.n p hp).1;show p.number≠0;omega
 | succ i=>rw [hu];exact h3 i (by omega)
def nI (m:bL) (n:Int):Nat:=(m.papers.filter fun p=>decide (rk m n≤rk m p.of)).length
theorem GD (hV:Vm m) {p:aQ} (hp:p∈m.papers) {v:Int} (hv:p.of=v):nI m p.number+(m.papers.filter fun q=>decide (q.of=v)).length≤nI m v:=by
 unfold nI;rw [VJ hV hp,hv];have:∀ l:List aQ,(l.filter fun q=>decide (rk m v+1≤rk m q.of)).length+(l.filter fun q=>decide (q.of=v)).length≤(l.filter fun q=>decide (rk m v≤rk m q.of)).length:=by
  intro l
  induction l with
  | nil=>exact Nat.le_refl _
  | cons q l ih =>
   simp only [List.filter_cons,decide_eq_true_eq];by_cases h1:q.of=v
   ·rw [h1,if_neg (by omega:¬rk m v+1≤rk m v),if_pos (rfl:v=v),if_pos (Nat.le_refl _)];simp only [List.length_cons];omega
   rw [if_neg h1];by_cases h2:rk m v+1≤rk m q.of
   ·rw [if_pos h2,if_pos (by omega)];simp only [List.length_cons];omega
   rw [if_neg h2];split <;> (try simp only [List.length_cons]) <;> omega
 exact this _
theorem GE (hV:Vm m) (v:Int):nI m v≤10:=Nat.le_trans (List.length_filter_le _ _) hV.pl
def nY (n:Nat):Nat:=60*3 ^ n
theorem GF:∀ n,n≤10→∀ c,c≤n→c*(60+nY (n - c))+60≤nY n:=by decide
theorem PH:∀ n,n≤10→nY n≤3542940:=by decide
theorem GG {a b:Nat} (h:a≤b):nY a≤nY b:=Nat.mul_le_mul_left _ (Nat.pow_le_pow_right (by decide) h)
theorem LQ (hV:Vm m) (v:Int):(wd m v).length≤60:=by
 unfold wd;split
 ·exact hV.wl
 unfold GB
 cases h:eE (JY m) v with
 | none=>exact Nat.zero_le _
 | some p =>
  rcases xE _ _ _ _ h with h1 | h1
  ·exact hV.w p h1.1
  cases h1
def LW (c:List Int) (a:List aF) (b:List bF):Prop:=a.length=b.length∧yT a∧∀ o∈b,o.number=0∨o.number∈c
theorem LW.snoc {c:List Int} {a:List aF} {b:List bF} {x:aF} {y:bF} (h:LW c a b) (hx:x.length≤20) (hy:y.number=0∨y.number∈c):LW c (a++[x]) (b++[y]):=⟨by simp [h.1],fun s hs=>by
 rcases List.mem_append.1 hs with h1 | h1
 ·exact h.2.1 s h1
 ·simp at h1;subst h1;exact hx,fun o ho=>by
 rcases List.mem_append.1 ho with h1 | h1
 ·exact h.2.2 o h1
 simp at h1;subst h1;exact hy⟩
theorem VK (hV:Vm m) (v:Int):yT (wd m v):=by
 unfold wd;split
 ·exact hV.wt
 unfold GB
 cases h:eE (JY m) v with
 | none=>exact fun s hs=>absurd hs (List.not_mem_nil)
 | some p =>
  rcases xE _ _ _ _ h with h1 | h1
  ·exact hV.pt p h1.1
  cases h1
theorem GH {choice:List Int} (ws:List aF) (v:Int) (hv:v=0∨v∈choice) (te:Int) (ht:te≤ws.length) (h1:ws.length≤60) (step:Int×List aF×List bF→Option ((Int×List aF×List bF)⊕(Int×List aF×List bF)))
  (hs:∀ s,step s=if s.1 < te then (bY (0≤s.1) <| (ws[s.1.toNat]?).bind fun x=>bY (s.2.1.length+([x]:List aF).length≤1073741824) <| bY (s.2.2.length+([(⟨v,s.1⟩:bF)]:List bF).length≤1073741824) <| bY (-9223372036854775808≤(s.1+1)∧(s.1+1)≤9223372036854775807) <| some (.inl ((s.1+1),(s.2.1++([x]:List aF)),(s.2.2++([(⟨v,s.1⟩:bF)]:List bF))))) else some (.inr (s.1,s.2.1,s.2.2)))
  {at_:Int} {a:List aF} {b:List bF} {L:Nat} (h0:0≤at_∧at_≤ws.length) (hl:LW choice a b∧a.length≤L) (hw:yT ws) (hb:L+60≤1073741824) :
  T (bG step (at_,a,b)) fun e=>(0≤e.1∧e.1≤ws.length)∧LW choice e.2.1 e.2.2∧e.2.1.length≤L+60:=by
 refine T.lp (fun (s:Int×List aF×List bF)=>(0≤s.1∧s.1≤ws.length)∧LW choice s.2.1 s.2.2∧s.2.1.length+((ws.length:Int) - s.1).toNat≤L+60) (fun (s:Int×List aF×List bF)=>((ws.length:Int) - s.1).toNat) (fun s hI=>?_) ⟨h0,hl.1,by dsimp only;omega⟩;rw [hs];have hI1:=hI.2.1.1;refine T.ie (fun h=>.ck (by omega) (T.bd (T.mem (by omega)) fun x hx=>.ck (by simp;omega) (.ck (by simp;omega) (.ck (by omega) (.mk ⟨⟨⟨by dsimp only;omega,by dsimp only;omega⟩,hI.2.1.snoc (hw x hx) hv,by simp;omega⟩,by dsimp only;omega⟩))))) fun h=>.mk ⟨hI.1,hI.2.1,by dsimp only;omega⟩
theorem aF1 (hV:Vm m) (choice:List Int):∀ (k:Nat) (v:Int) (a:List aF) (b:List bF),(v=0∨v∈choice)→nI m v < k→LW choice a b→a.length+nY (nI m v)≤1073741824 →
  T (nE m choice k (v,a,b)) fun r=>LW choice r.1 r.2∧r.1.length≤a.length+nY (nI m v):=by
 intro k
 induction k with
 | zero=>intro v a b _ h;omega
 | succ k ih =>
  intro v a b hv h1 h2 h3;show T (yL m choice (nE m choice k) (v,a,b)) _;have hfl:=GE hV v;have h0:=LQ hV v;unfold yL;refine T.bd (.ok (VG m v)) fun ws hws=>?_;subst hws;have hc:T (bG (yK m (v,a,b)) (0,([]:List aQ))) fun e=>e=m.papers.filter fun q=>decide (q.of=v):=by
   refine T.ix m.papers.length (·.1) (fun s=>s.2=(m.papers.take s.1).filter fun q=>decide (q.of=v)) (fun s hs hi=>?_) rfl (Nat.zero_le _);have hlen:s.2.length≤10:=by rw [hs];exact Nat.le_trans (List.length_filter_le _ _) (Nat.le_trans (by rw [List.length_take];omega) hV.pl)
   unfold yK;refine T.ie (fun hl=>T.bd (T.at (by omega)) fun x hx=>T.bd (Q:=fun t=>t=(m.papers.take (s.1+1)).filter fun q=>decide (q.of=v)) (T.ie (fun ho=>.ck (by omega) (.mk ?_)) fun ho=>.mk ?_) fun t ht=>.mk ⟨ht,rfl,by omega⟩) fun hl=>.mk ?_
   ·rw [List.take_add_one,hx,List.filter_append,← hs];simp at ho;simp [ho]
   ·rw [List.take_add_one,hx,List.filter_append,← hs];simp at ho;simp [ho]
   dsimp only;rw [hs,List.take_of_length_le (by omega)]
  refine T.bd (Q:=fun (e:Int×List aF×List bF)=>(0≤e.1∧e.1≤(wd m v).length)∧LW choice e.2.1 e.2.2∧e.2.1.length+60≤a.length+nY (nI m v)) (T.bd hc fun cs hcs=>?_) fun e he=>?_
  ·have hcm:∀ p∈cs,p∈m.papers∧p.of=v:=fun p hp=>by rw [hcs] at hp;simpa using hp
   have hcn:(cs.map (·.number)).Nodup:=by rw [hcs];exact (hV.nd.sublist (List.Sublist.map _ (List.filter_sublist)))
   have hcl:cs.length≤10:=by rw [hcs];exact Nat.le_trans (List.length_filter_le _ _) hV.pl
   refine .ck (List.Pairwise.of_map (f:=(·.number)) (fun _ _ h e=>h (by rw [e])) hcn) (T.bd (JZ hcl (fun p hp=>?_) hcn) fun l hl=>?_)
   ·have h5:=hV.ft p (hcm p hp).1;have h6:=LQ hV p.of;have h7:=hV.n p (hcm p hp).1;exact ⟨by omega,by omega,h7⟩
   have hll:=hl.length_eq;have hfc:cs.length≤nI m v:=by
    cases hq:cs with
    | nil=>exact Nat.zero_le _
    | cons p t =>
     have hp:p∈cs:=by rw [hq];exact List.mem_cons_self ..
     have:=GD hV (hcm p hp).1 (hcm p hp).2;rw [← hcs,hq] at this;omega
   have hbs:=GF (nI m v) hfl cs.length hfc;refine T.bd (Q:=fun (e:Int×List aF×List bF)=>(0≤e.1∧e.1≤(wd m v).length)∧LW choice e.2.1 e.2.2∧e.2.1.length+60≤a.length+nY (nI m v)) ?_ fun e he=>.mk he;have hB:∀ i,i < cs.length→i*(60+nY (nI m v - cs.length))+(60+nY (nI m v - cs.length))≤cs.length*(60+nY (nI m v - cs.length)):=fun i hi=>by
    rw [← Nat.succ_mul];exact Nat.mul_le_mul_right _ hi
   refine T.ix cs.length (·.1) (fun (s:Nat×Int×List aF×List bF)=>(0≤s.2.1∧s.2.1≤(wd m v).length)∧LW choice s.2.2.1 s.2.2.2∧s.2.2.1.length≤a.length+s.1*(60+nY (nI m v - cs.length))) (fun s hs hi=>?_) ⟨⟨Int.le_refl 0,by dsimp only;omega⟩,h2,by dsimp only;omega⟩ (Nat.zero_le _);unfold FD;refine T.ie (fun hlt=>T.bd (T.mem (by omega)) fun p hp=>?_) fun hlt=>.mk ⟨hs.1,hs.2.1,?_⟩
   ·have hp':=hcm p (hl.mem_iff.1 hp);have hft:=hV.ft p hp'.1;rw [hp'.2] at hft;have hB':=hB s.1 (by omega);have hst:(s.1+1)*(60+nY (nI m v - cs.length))=s.1*(60+nY (nI m v - cs.length))+(60+nY (nI m v - cs.length)):=Nat.succ_mul _ _;refine T.bd (Q:=fun (e:Int×List aF×List bF)=>(0≤e.1∧e.1≤(wd m v).length)∧LW choice e.2.1 e.2.2∧e.2.1.length≤a.length+(s.1+1)*(60+nY (nI m v - cs.length))) (T.bd (.ok (JX _ _)) fun r hrr=>T.bd (Q:=fun (e:Int×List aF×List bF)=>(0≤e.1∧e.1≤(wd m v).length)∧LW choice e.2.1 e.2.2∧e.2.1.length≤a.length+(s.1+1)*(60+nY (nI m v - cs.length))) (T.ie (fun hrt=>?_) fun _=>.mk ⟨hs.1,hs.2.1,by dsimp only;omega⟩) fun e he=>.mk he) fun e he=>.mk ⟨he,rfl,by omega⟩;have hpc:p.number∈choice:=by
     rw [hrr] at hrt;obtain ⟨x,hx,he⟩:=List.any_eq_true.1 hrt;rw [of_decide_eq_true he];exact hx
    refine T.bd (Q:=fun (e:Int×List aF×List bF)=>(0≤e.1∧e.1≤(wd m v).length)∧LW choice e.2.1 e.2.2∧e.2.1.length≤a.length+s.1*(60+nY (nI m v - cs.length))+60) (T.bd (GH (wd m v) v hv p.from_ (by omega) h0 (FC p (wd m v) (v,a,b)) (fun s=>rfl) hs.1 hs.2 (VK hV v) (by omega)) fun e he=>.mk he) fun e he=>?_;have hf:=GD hV hp'.1 hp'.2;rw [← hcs] at hf;have hbm:nY (nI m p.number)≤nY (nI m v - cs.length):=GG (by omega);exact T.bd (ih p.number e.2.1 e.2.2 (.inr hpc) (by have:0 < cs.length:=(by omega);omega) he.2.1 (by omega)) fun r hr=>.mk ⟨⟨by dsimp only;omega,by dsimp only;omega⟩,hr.1,by dsimp only;omega⟩
   have:s.1*(60+nY (nI m v - cs.length))≤cs.length*(60+nY (nI m v - cs.length)):=Nat.mul_le_mul_right _ hi;dsimp only;omega
  refine T.bd (Q:=fun (e:Int×List aF×List bF)=>LW choice e.2.1 e.2.2∧e.2.1.length≤a.length+nY (nI m v)) (T.bd (GH (wd m v) v hv _ (Int.le_refl _) h0 (FE (wd m v) (v,a,b)) (fun s=>rfl) (L:=a.length+nY (nI m v) - 60) he.1 ⟨he.2.1,by omega⟩ (VK hV v) (by omega)) fun e h=>.mk ⟨h.2.1,by dsimp only;omega⟩) fun e h=>.mk h
theorem t71 (m:bL) (choice:List Int):T (QB m choice) fun r=>LW choice r.1 r.2.1∧r.1.length≤3542940∧(r.2.2=0→Vm m):=by
 unfold QB;refine T.bd (aFz m choice) fun r h=>T.ie (fun hr=>.mk ⟨⟨rfl,by simp [yT],by simp⟩,by simp,fun h0=>absurd h0 hr⟩) fun h0=>?_;have hV:=h (by omega);have h1:=GE hV 0;have h2:=PH _ h1;exact T.bd (T.rc (aF1 hV choice 100000 0 [] [] (.inl rfl) (by omega) ⟨rfl,by simp [yT],by simp⟩ (by simp;omega))) fun r hr=>.mk ⟨hr.1,by have:=hr.2;simp at this;dsimp only;omega,fun _=>hV⟩
end T12
set_option maxHeartbeats 4000000
namespace T12
open Go Go.Proofs Pk
theorem xG (n a b:Int):pB n a b=some (decide (a≤n∧n≤b)):=by
 unfold pB;by_cases h:a≤n <;> simp [h]
theorem QM (n:Int):pV n=some (decide (0≤n∧n≤99999)):=by unfold pV;rw [xG];rfl
theorem PI (n:Int):vK n=some (decide (1≤n∧n≤999)):=by unfold vK;rw [xG];rfl
theorem aF2 (l:List aH) (f:aH→Option Bool) (p:aH→Bool) (hf:∀ x∈l,f x=some (p x)):CU l f=some (l.all p):=by
 obtain ⟨r,h1,h2⟩:=pY l (fun x=>tK x f) (fun x=>!p x) (fun x hx=>by unfold tK;rw [hf x hx];rfl) (vJ l (fun x=>tK x f)) (fun i=>rfl);unfold CU IQ IP;rw [h1,List.all_eq_not_any_not];rcases h2 with ⟨z,rfl,h2⟩ | ⟨rfl,h2⟩ <;> simp [h2]
theorem aF3 (l:List aO) (f:aO→Option Bool) (p:aO→Bool) (hf:∀ x∈l,f x=some (p x)):DA l f=some (l.all p):=by
 obtain ⟨r,h1,h2⟩:=pY l (fun x=>tN x f) (fun x=>!p x) (fun x hx=>by unfold tN;rw [hf x hx];rfl) (vQ l (fun x=>tN x f)) (fun i=>rfl);unfold DA IS IR;rw [h1,List.all_eq_not_any_not];rcases h2 with ⟨z,rfl,h2⟩ | ⟨rfl,h2⟩ <;> simp [h2]
theorem aF4 (l:List UInt8) (f:Int→Option Bool) (p:Int→Bool) (hf:∀ x∈l,f (x.toNat:Int)=some (p (x.toNat:Int))):CW l f=some (l.all fun x=>p (x.toNat:Int)):=by
 obtain ⟨r,h1,h2⟩:=pY l (fun x=>tL (x.toNat:Int) f) (fun x=>!p (x.toNat:Int)) (fun x hx=>by unfold tL;rw [hf x hx];rfl) (rK l (fun x=>tL x f)) (fun i=>rfl);unfold CW PW CV;rw [h1,List.all_eq_not_any_not];rcases h2 with ⟨z,rfl,h2⟩ | ⟨rfl,h2⟩ <;> simp [h2]
theorem PJ (s:aF):T (vM s) fun r=>r=true→1≤s.length∧s.length≤200:=by
 unfold vM;refine T.bd (Q:=fun r=>r=true→1≤s.length∧s.length≤200) (T.bd (.ok (xG _ _ _)) fun r h=>T.ie (fun h1=>?_) fun _=>.mk (by simp)) fun _ h=>.mk h;subst h;simp only [decide_eq_true_eq] at h1;refine .ck (by omega) (T.bd (.ok (aF4 _ _ (fun c=>(vL c).getD false) fun x _=>?_)) fun _ _=>.mk fun _=>⟨by omega,by omega⟩);unfold vL;by_cases h:(32:Int)≤x.toNat <;> simp [h]
theorem VL (p:aH):T (tM p) fun r=>r=true→(1≤p.anchor∧p.anchor≤999)∧1≤p.text.length∧p.text.length≤200:=by
 unfold tM;refine T.bd (Q:=fun r=>r=true→(1≤p.anchor∧p.anchor≤999)∧1≤p.text.length∧p.text.length≤200) (T.bd (.ok (PI _)) fun r h=>T.ie (fun h1=>T.bd (PJ _) fun b hb=>.mk fun h2=>?_) fun _=>.mk (by simp)) fun _ h=>.mk h;subst h;simp only [decide_eq_true_eq] at h1;exact ⟨h1,hb h2⟩
def mG (v:bU):List aH:=v.parts.flatMap (·.paragraphs)
def Ps (v:bU):Prop:=v.parts.length≤1000∧∀ p∈v.parts,p.paragraphs.length≤1000
theorem XI (v:bU) (h:Ps v):tJ v=some (mG v):=by
 obtain ⟨r,h1,h2⟩:T (bG (rJ v) (0,([]:List aH))) fun e=>e=mG v:=by
  refine T.ix v.parts.length (·.1) (fun s=>s.2=(v.parts.take s.1).flatMap (·.paragraphs)∧s.2.length≤1000*s.1) (fun s hs hi=>?_) ⟨rfl,Nat.zero_le _⟩ (Nat.zero_le _);unfold rJ;have:=h.1;refine T.ie (fun hl=>T.bd (T.at (by omega)) fun x hx=>?_) fun hl=>.mk (by dsimp only;rw [hs.1,List.take_of_length_le (by omega)];rfl);have hx2:=h.2 x (List.mem_of_getElem? hx);exact .ck (by omega) (.mk ⟨⟨by dsimp only;rw [List.take_add_one,hx,hs.1,List.flatMap_append];simp,by simp;omega⟩,rfl,by omega⟩)
 unfold tJ;rw [h1,h2];rfl
structure Vv (v:bU):Prop where
 pl:v.parts.length≤6
 ql:(mG v).length≤30
 h:1≤v.height∧v.height≤60
 w:10≤v.width∧v.width≤80
 n:1≤v.number∧v.number≤99
 b:0≤v.bound∧v.bound≤99999
 p:∀ p∈mG v,(1≤p.anchor∧p.anchor≤999)∧1≤p.text.length∧p.text.length≤200
theorem t82 (v:bU) (h:Ps v):T (CX v) fun r=>r=true→v.parts.length≤6→(mG v).length≤30→Vv v:=by
 unfold CX;refine T.bd (Q:=fun e=>match e with | .inl _=>True | .inr z=>z=false) (T.ix v.parts.length id (fun _=>True) (fun i _ hi=>?_) trivial (Nat.zero_le _)) fun e he=>?_
 ·unfold vN;exact T.ie (fun hl=>T.bd (T.at (by simp only [id] at *;omega)) fun x hx=>T.bd (Q:=fun _=>True) (T.bd (.ok (QM _)) fun _ _=>T.ie (fun _=>T.ie (fun _=>.mk trivial) fun _=>T.ie (fun h0=>T.bd (T.at (by simp only [id] at *;omega)) fun _ _=>.mk trivial) fun _=>.mk trivial) fun _=>.mk trivial) fun _ _=>T.ie (fun _=>.mk rfl) fun _=>.mk ⟨trivial,rfl,by simp only [id] at *;omega⟩) fun _=>.mk trivial
 cases e with
 | inr z=>simp only at he;subst he;exact .mk (by simp)
 | inl _ =>
  refine T.bd (Q:=fun r=>r=true→v.parts.length≤6→(mG v).length≤30→Vv v) ?_ fun _ h=>.mk h;refine T.bd (.ok (xG _ _ _)) fun r h1=>T.ie (fun g1=>T.bd (.ok (QM _)) fun r h2=>T.ie (fun g2=>T.bd (.ok (xG _ _ _)) fun r h3=>T.ie (fun g3=>T.bd (.ok (xG _ _ _)) fun r h4=>T.ie (fun g4=>T.bd (.ok (XI v h)) fun l hl=>T.bd (.ok (aF2 _ _ (fun p=>(tM p).getD false) fun p _=>(VL p).get)) fun r h5=>.mk fun g5 a b=>?_) fun _=>.mk (by simp)) fun _=>.mk (by simp)) fun _=>.mk (by simp)) fun _=>.mk (by simp);subst h1 h2 h3 h4 hl;simp only [decide_eq_true_eq] at g1 g2 g3 g4;rw [h5,List.all_eq_true] at g5;refine ⟨a,b,g3,g4,g1,g2,fun p hp=>?_⟩;obtain ⟨r,h6,h7⟩:=VL p;have:=g5 p hp;rw [h6] at this;exact h7 this
theorem t53 (v:bU) (h:Ps v):T (vP v) fun r=>r=0→Vv v:=by
 unfold vP;refine T.bd (.ok (XI v h)) fun l hl=>T.bd (Q:=fun t=>t=false→v.parts.length≤6∧(mG v).length≤30) (T.ie (fun _=>.mk (by simp)) fun h6=>.mk fun h7=>?_) fun t ht=>T.ie (fun _=>.mk (by simp)) fun hf=>T.bd (t82 v h) fun r hr=>T.ie (fun hrt=>T.bd (Q:=fun e=>match e with | .inl _=>True | .inr z=>z=6) (T.ix l.length (·.1) (fun _=>True) (fun s _ hi=>?_) trivial (Nat.zero_le _)) fun e he=>?_) fun _=>.mk (by simp)
 ·subst hl;simp at h7;omega
 ·unfold vO;exact T.ie (fun hl=>T.bd (T.at (by omega)) fun x hx=>T.ie (fun _=>.mk rfl) fun _=>.mk ⟨trivial,rfl,by omega⟩) fun _=>.mk trivial
 have h8:=ht (by simpa using hf)
 cases e with
 | inr z=>exact .mk fun _=>hr hrt h8.1 h8.2
 | inl _=>exact .mk fun _=>hr hrt h8.1 h8.2
theorem VM (x:aO):T (tO x) fun r=>r=true→(0≤x.kind∧x.kind≤2)∧x.text.length≤200∧(x.kind=2→1≤x.new_∧x.new_≤999):=by
 unfold tO;refine T.bd (Q:=fun _=>True) (T.bd (.ok (xG _ _ _)) fun _ _=>T.ie (fun _=>T.bd (.ok (QM _)) fun _ _=>T.ie (fun _=>T.bd (.ok (PI _)) fun _ _=>.mk trivial) fun _=>.mk trivial) fun _=>.mk trivial) fun _ _=>T.ie (fun _=>.mk (by simp)) fun _=>T.ie (fun h0=>?_) fun _=>T.ie (fun h1=>?_) fun _=>T.ie (fun h2=>?_) fun _=>.mk (by simp)
 ·exact T.bd (Q:=fun r=>r=true→x.text.length≤200) (T.bd (PJ _) fun r h=>T.ie (fun hr=>.mk fun _=>(h hr).2) fun _=>.mk (by simp)) fun r h=>.mk fun hr=>⟨by omega,h hr,by omega⟩
 ·exact T.bd (Q:=fun r=>r=true→x.text.length≤200) (T.ie (fun h=>.mk fun _=>by rw [h];decide) fun _=>.mk (by simp)) fun r h=>.mk fun hr=>⟨by omega,h hr,by omega⟩
 exact T.bd (Q:=fun r=>r=true→x.text.length≤200∧1≤x.new_∧x.new_≤999) (T.bd (PJ _) fun r h=>T.ie (fun hr=>T.bd (.ok (PI _)) fun b hb=>.mk fun hbt=>by subst hb;simp only [decide_eq_true_eq] at hbt;exact ⟨(h hr).2,hbt⟩) fun _=>.mk (by simp)) fun r h=>.mk fun hr=>⟨by omega,(h hr).1,fun _=>(h hr).2⟩
end T12
set_option maxHeartbeats 4000000
namespace T12
open Go Go.Proofs Pk
structure Ve (es:List aO):Prop where
 l:es.length≤20
 k:∀ x∈es,(0≤x.kind∧x.kind≤2)∧x.text.length≤200∧(x.kind=2→1≤x.new_∧x.new_≤999)
 nd:(es.map (·.number)).Nodup
def AM (a b:Int):Int:=if a < b then -1 else if b < a then 1 else 0
theorem VN (a b:Int):zP a b=some (AM a b):=by
 unfold zP tP AM;simp only [ne_eq,not_true_eq_false,decide_false,Option.bind_some,Bool.false_eq_true,if_false];by_cases h:a < b
 ·rw [if_pos h,if_pos h]
 rw [if_neg h,if_neg h];split <;> rfl
theorem aF5 (x y:Int):DB [x,y]=some (if x≠0 then x else y):=by
 have h:∀ (i:Nat) (v:Int),[x,y][i]?=some v→pC [x,y] i=if v≠0 then some (.inr (.inr v)) else some (.inl (i+1)):=fun i v hv=>by
  have:=(List.getElem?_eq_some_iff.1 hv).1;unfold pC;rw [if_pos (by omega),hv];rfl
 have h0:=h 0 x rfl;have h1:=h 1 y rfl;unfold DB;by_cases a:x=0
 ·rw [if_neg (by omega)] at h0;rw [gB h0];by_cases b:y=0
  ·rw [if_neg (by omega)] at h1;rw [gB h1,eG (by unfold pC;rfl)];simp [a,b]
  rw [if_pos b] at h1;rw [eG h1];simp [a]
 rw [if_pos a] at h0;rw [eG h0];simp [a]
def VO (a b:aO):Int:=if AM a.day b.day≠0 then AM a.day b.day else AM a.number b.number
theorem VP (a b:aO):rM a b=some (VO a b):=by
 unfold rM;rw [VN,VN];simp only [Option.bind_some];rw [aF5];rfl
theorem GI (a b:aO):iI rM a b=true↔a.day < b.day∨(a.day=b.day∧a.number < b.number):=by
 unfold iI;rw [VP];simp only [decide_eq_true_eq];unfold VO AM;(repeat' split) <;> omega
theorem yU {l:List aO} (hl:l.length≤20) (hn:(l.map (·.number)).Nodup):T (iO rM l) fun r=>r.Perm l:=by
 refine ⟨_,oR ⟨by omega,fun x hx y hy=>⟨_,VP x y⟩,fun x hx=>?_,fun x hx y hy z hz h1 h2=>?_,fun x hx y hy h1 h2=>?_⟩,List.mergeSort_perm ..⟩
 ·rw [Bool.eq_false_iff,Ne,GI];omega
 ·rw [GI] at *;omega
 have h3:x.number=y.number:=by
  rw [Bool.eq_false_iff,Ne,GI] at h1 h2;omega
 obtain ⟨i,hi⟩:=List.getElem?_of_mem hx;obtain ⟨j,hj⟩:=List.getElem?_of_mem hy;have hi':=(List.getElem?_eq_some_iff.1 hi).1;have:=(List.getElem?_inj (by rw [List.length_map];exact hi') hn).1 (show (l.map (·.number))[i]?=(l.map (·.number))[j]? by rw [List.getElem?_map,List.getElem?_map,hi,hj];simp [h3]);subst this;rw [hi] at hj;cases hj;rfl
theorem VQ {l:List aO} (h:l.length≤20):rL l=some l:=by
 unfold rL bY;rw [if_pos (by simp;omega)];rfl
theorem aF6 (v:bU) (es:List aO) (hv:Ps v) (he:Ve es):T (DE v es) fun _=>True:=by
 unfold DE;refine T.bd (.ok (XI v hv)) fun ps _=>T.bd (Q:=fun _=>True) (T.ix ps.length (·.1) (fun _=>True) (fun s _ hi=>?_) trivial (Nat.zero_le _)) fun t _=>T.bd (Q:=fun _=>True) (T.bd (.ok (VQ he.l)) fun l1 h1=>?_) fun t _=>by cases t <;> exact .mk trivial
 ·unfold vT;exact T.ie (fun hl=>T.bd (T.at (by omega)) fun x hx=>.mk ⟨trivial,rfl,by omega⟩) fun _=>.mk trivial
 subst h1;refine T.bd (yU he.l he.nd) fun l hl=>T.bd (Q:=fun _=>True) (T.ix l1.length (·.1) (fun _=>True) (fun s _ hi=>?_) trivial (Nat.zero_le _)) fun e _=>by cases e <;> exact .mk trivial
 have hll:=hl.length_eq;unfold vU;refine T.ie (fun hl=>T.bd (T.at (by omega)) fun x hx=>T.ie (fun _=>.mk trivial) fun _=>T.bd (Q:=fun _=>True) (T.ie (fun _=>T.bd (Q:=fun _=>True) (T.ie (fun _=>.mk trivial) fun _=>.mk trivial) fun _ _=>.mk trivial) fun _=>.mk trivial) fun t _=>?_) fun _=>.mk trivial
 cases t with
 | inl _=>exact .mk trivial
 | inr _=>exact .mk ⟨trivial,rfl,by omega⟩
theorem t85 (v:bU) (es:List aO) (hv:Ps v):T (vX v es) fun r=>r=0→Vv v∧Ve es:=by
 unfold vX;refine T.bd (t53 v hv) fun r h=>T.ie (fun hr=>.mk fun h0=>absurd h0 hr) fun h0=>T.ie (fun _=>.mk (by simp)) fun hl=>T.bd (.ok (aF3 _ _ (fun x=>(tO x).getD false) fun x _=>(VM x).get)) fun r2 h2=>T.ie (fun hr=>T.bd (.ok (XI v hv)) fun ps _=>T.bd (Q:=fun _=>True) (T.ix ps.length (·.1) (fun _=>True) (fun s _ hi=>?_) trivial (Nat.zero_le _)) fun t _=>T.bd (Q:=fun e=>match e with | .inl _=>(es.map (·.number)).Nodup | .inr z=>z=6) (T.ix es.length (·.1) (fun s=>(∀ k,(eE s.2.1 k).getD false=true↔k∈(es.take s.1).map (·.number))∧((es.take s.1).map (·.number)).Nodup) (fun s hs hi=>?_) ⟨fun k=>by simp [eE],by simp⟩ (Nat.zero_le _)) fun e he=>?_) fun _=>.mk (by simp)
 ·unfold vV;exact T.ie (fun hl=>T.bd (T.at (by omega)) fun x hx=>.mk ⟨trivial,rfl,by omega⟩) fun _=>.mk trivial
 ·unfold vW;refine T.ie (fun hl=>T.bd (T.at (by omega)) fun x hx=>T.bd (Q:=fun t=>t=false→x.number∉(es.take s.1).map (·.number)) (T.ie (fun _=>.mk (by simp)) fun hn=>?_) fun t ht=>T.ie (fun _=>.mk rfl) fun hf=>T.bd (Q:=fun _=>True) (T.ie (fun _=>.mk trivial) fun _=>.mk trivial) fun _ _=>.mk ⟨⟨fun k=>?_,?_⟩,rfl,by omega⟩) fun hl=>.mk (by have:=hs.2;rwa [List.take_of_length_le (by omega)] at this)
  ·have hm:x.number∉(es.take s.1).map (·.number):=fun h=>hn ((hs.1 _).2 h);exact T.ie (fun _=>.mk fun _=>hm) fun _=>.mk fun _=>hm
  ·dsimp only;rw [jQ,List.take_add_one,hx,List.map_append,List.mem_append,← hs.1 k];by_cases hk:k=x.number <;> simp [hk]
  have hm:=ht (by simpa using hf);dsimp only;rw [List.take_add_one,hx,List.map_append];exact List.nodup_append.2 ⟨hs.2,by simp,fun a ha b hb hab=>by simp at hb;subst hb hab;exact hm ha⟩
 cases e with
 | inr z=>simp only at he;subst he;exact .mk (by simp)
 | inl _ =>
  have hE:Ve es:=⟨by omega,fun x hx=>by
   obtain ⟨r,h6,h7⟩:=VM x;rw [h2,List.all_eq_true] at hr
   have:=hr x hx;rw [h6] at this;exact h7 this,he⟩
  exact T.bd (aF6 v es hv hE) fun _ _=>.mk fun _=>⟨h (by omega),hE⟩
end T12
set_option maxHeartbeats 4000000
namespace T12
open Go Go.Proofs Pk
def Pg (p:aH):Prop:=p.text.length≤200∧1≤p.anchor∧p.anchor≤999
def Gd (n k:Nat) (g:List (List cL)):Prop:=g.length=n∧∀ r∈g,r.length≤k∧∀ e∈r,Pg e.paragraph
theorem Gd.mono {n k k':Nat} {g:List (List cL)} (h:Gd n k g) (hk:k≤k'):Gd n k' g:=⟨h.1,fun r hr=>⟨Nat.le_trans (h.2 r hr).1 hk,(h.2 r hr).2⟩⟩
theorem VR {α:Type} {l:List α} {i:Nat} {v:α} {P:α→Prop} (h:∀ x∈l,P x) (hv:P v):∀ x∈l.set i v,P x:=xC h hv
theorem Gd.set {n k:Nat} {g:List (List cL)} {i:Nat} {r:List cL} (h:Gd n k g) (hr:r.length≤k∧∀ e∈r,Pg e.paragraph):Gd n k (g.set i r):=⟨by rw [List.length_set];exact h.1,VR h.2 hr⟩
theorem KA {v:bU} {p:dX} (hp:p∈v.parts):p.paragraphs.length≤(mG v).length:=by
 unfold mG;obtain ⟨i,hi⟩:=List.getElem?_of_mem hp;have:∀ (l:List dX) (p:dX),p∈l→p.paragraphs.length≤(l.flatMap (·.paragraphs)).length:=by
  intro l p
  induction l with
  | nil=>intro h;cases h
  | cons q l ih =>
   intro h;rw [List.flatMap_cons,List.length_append];rcases List.mem_cons.1 h with rfl | h
   ·omega
   have:=ih h;omega
 exact this _ _ hp
theorem aF7 (g:List (List cL)) (k:Nat) (x:aO) (hg:Gd 6 k g∨g.length≤6∧∀ r∈g,r.length≤k) (hk:k≤1000) (i:Nat):T (bG (rN (i,g) x) (0,0,0,false)) fun e=>e.2.2=true→∃ r,g[e.1]?=some r∧e.2.1 < r.length:=by
 have hg':g.length≤6∧∀ r∈g,r.length≤k:=by
  rcases hg with h | h
  ·exact ⟨by have:=h.1;omega,fun r hr=>(h.2 r hr).1⟩
  exact h
 refine T.ix g.length (·.2.2.1) (fun s=>s.2.2.2=false) (fun s hs hi=>?_) rfl (Nat.zero_le _);unfold rN;dsimp only;refine T.ie (fun hl=>T.bd (T.at (by omega)) fun r hr=>T.bd (Q:=fun e=>match e with | .inl q=>q.2.2=false | .inr z=>∃ q,z=.inr q∧q.1=s.2.2.1∧q.2.1 < r.length) (T.ix r.length (·.2.2.1) (fun q=>q.2.2.2=false) (fun q hq hj=>?_) hs (Nat.zero_le _)) fun e he=>?_) fun _=>.mk fun h=>by dsimp only at h;rw [hs] at h;cases h
 ·have:=hg'.2 r (List.mem_of_getElem? hr);unfold wA;exact T.ie (fun hl=>T.bd (T.at (by omega)) fun y hy=>T.ie (fun _=>⟨_,rfl,_,rfl,rfl,by dsimp only;omega⟩) fun _=>.ck (by omega) (.mk ⟨hq,rfl,by omega⟩)) fun _=>.mk hq
 cases e with
 | inl q=>exact .ck (by omega) (.mk ⟨he,rfl,by omega⟩)
 | inr z=>obtain ⟨q,rfl,h1,h2⟩:=he;exact .mk fun _=>⟨r,by rw [h1];exact hr,h2⟩
theorem t90 (v:bU) (es:List aO) (to_:Int) (hv:Vv v) (he:Ve es):T (wC v es to_) fun r=>r.volume=v∧Gd v.parts.length 50 r.parts:=by
 have hpl:=hv.pl;have hql:=hv.ql;unfold wC;refine T.bd (Q:=fun g=>Gd v.parts.length 30 g) (T.ix v.parts.length (·.1) (fun s=>Gd s.1 30 s.2) (fun s hs hi=>?_) ⟨rfl,by simp⟩ (Nat.zero_le _)) fun g hg=>?_
 ·unfold vZ;refine T.ie (fun hl=>T.bd (T.at (by omega)) fun p hp=>T.bd (Q:=fun r=>r.length≤30∧∀ e∈r,Pg e.paragraph) (T.ix p.paragraphs.length (·.1) (fun q=>q.2.length=q.1∧∀ e∈q.2,Pg e.paragraph) (fun q hq hj=>?_) ⟨rfl,by simp⟩ (Nat.zero_le _)) fun r hr=>.ck (by have:=hs.1;omega) (.mk ⟨⟨by simp [hs.1],fun r' hr'=>?_⟩,rfl,by omega⟩)) fun hl=>.mk ?_
  ·have hpm:=List.mem_of_getElem? hp;have h0:=KA hpm;unfold vY;refine T.ie (fun hl=>T.bd (T.mem (by omega)) fun y hy=>.ck (by have:=hq.1;omega) (.mk ⟨⟨by simp [hq.1],fun e he'=>?_⟩,rfl,by omega⟩)) fun _=>.mk ⟨by have:=hq.1;omega,hq.2⟩;rcases List.mem_append.1 he' with h | h
   ·exact hq.2 e h
   simp at h;subst h;have h3:=hv.p y (List.mem_flatMap.2 ⟨p,hpm,hy⟩);exact ⟨h3.2.2,h3.1⟩
  ·rcases List.mem_append.1 hr' with h | h
   ·exact hs.2 r' h
   simp at h;subst h;exact hr
  have:s.1=v.parts.length:=by omega
  rw [this] at hs;exact hs
 refine T.bd (Q:=fun g=>Gd v.parts.length 50 g) (T.bd (.ok (VQ he.l)) fun l1 h1=>?_) fun g hg=>.mk ⟨rfl,hg⟩;subst h1;have hEl:=he.l;refine T.bd (yU he.l he.nd) fun l hl=>T.bd (Q:=fun e=>match e with | .inl g=>Gd v.parts.length 50 g | .inr g=>Gd v.parts.length 50 g) (T.ix l1.length (·.1) (fun s=>Gd v.parts.length (30+s.1) s.2) (fun s hs hi=>?_) hg (Nat.zero_le _)) fun e h=>by cases e <;> exact .mk h
 have hll:=hl.length_eq;unfold wB;refine T.ie (fun hlt=>T.bd (T.mem (by omega)) fun x hx=>T.bd (Q:=fun r=>Gd v.parts.length (30+(s.1+1)) r.2) (T.ie (fun _=>.mk (hs.mono (by omega))) fun _=>?_) fun r hr=>T.ie (fun _=>.mk (hr.mono (by omega))) fun _=>.mk ⟨hr,rfl,by omega⟩) fun _=>.mk (hs.mono (by omega));have hk:=he.k x (hl.mem_iff.1 hx);have hs':=hs.mono (show 30+s.1≤30+(s.1+1) by omega);refine T.bd (Q:=fun g=>Gd v.parts.length (30+(s.1+1)) g) ?_ fun g hg=>.mk hg;refine T.bd (Q:=fun e=>e.2.2=true→∃ r,s.2[e.2.1]?=some r∧e.1 < r.length) (T.bd (aF7 s.2 (30+s.1) x (.inr ⟨by have:=hs.1;omega,fun r hr=>(hs.2 r hr).1⟩) (by omega) s.1) fun e he=>.mk he) fun e hf=>?_;refine T.bd (Q:=fun g=>Gd v.parts.length (30+(s.1+1)) g) (T.ie (fun hft=>?_) fun _=>.mk hs') fun g hg=>.mk hg;obtain ⟨r,hr,hc⟩:=hf hft;have hrm:=hs.2 r (List.mem_of_getElem? hr);refine T.bd (.ok (rfl:IT=some ())) fun _ _=>.ck (by omega) (T.ie (fun _=>?_) fun _=>T.ie (fun _=>?_) fun _=>T.ie (fun hk2=>?_) fun _=>by omega)
 ·refine T.bd (Q:=fun g=>Gd v.parts.length (30+(s.1+1)) g) (T.bd (.ok hr) fun r' h'=>?_) fun g hg=>.mk hg;subst h';exact T.bd (T.mem hc) fun y hy=>T.bd (Q:=fun g=>Gd v.parts.length (30+(s.1+1)) g) (T.ie (fun _=>.mk hs') fun _=>.mk (hs'.set ⟨by simp;omega,xC hrm.2 ⟨hk.2.1,(hrm.2 y hy).2⟩⟩)) fun g hg=>.mk hg
 ·refine T.bd (Q:=fun g=>Gd v.parts.length (30+(s.1+1)) g) (T.bd (.ok hr) fun r' h'=>?_) fun g hg=>.mk hg;subst h';exact T.bd (T.mem hc) fun y hy=>.mk (hs'.set ⟨by simp;omega,xC hrm.2 (hrm.2 y hy)⟩)
 refine T.bd (Q:=fun g=>Gd v.parts.length (30+(s.1+1)) g) (T.bd (.ok hr) fun r' h'=>?_) fun g hg=>.mk hg;subst h';refine .ck (by omega) (.ck (by omega) (.ck (by omega) (.mk (hs'.set ⟨by simp;omega,fun e he'=>?_⟩))));simp only [List.mem_append,List.mem_singleton] at he';rcases he' with (h | h) | h
 ·exact hrm.2 e (List.mem_of_mem_take h)
 ·subst h;exact ⟨hk.2.1,hk.2.2 hk2⟩
 exact hrm.2 e (List.mem_of_mem_drop h)
end T12
set_option maxHeartbeats 4000000
namespace T12
open Go Go.Proofs Pk
theorem KB {n:Int} (h : -1000000000000 < n∧n < 1000000000000):(Lib.itoa n).length≤13:=by
 unfold Lib.itoa;split
 ·rw [List.length_cons];have:=yB (u:=n.natAbs) (k:=12) (by omega) (by decide);omega
 have:=yB (u:=n.toNat) (k:=12) (by omega) (by decide);omega
def Sh (x:Any):Prop:=match x with | .i n=>-1000000000000 < n∧n < 1000000000000 | .s b=>b.length≤13
theorem GJ:∀ {l:List Any},(∀ x∈l,Sh x)→(fV l).length≤13*l.length
 | [],_=>by simp [fV]
 | x::l,h=>by
  have h1:=GJ fun y hy=>h y (List.mem_cons_of_mem _ hy);have h2:(tG x).length≤13:=by
   have:=h x (List.mem_cons_self ..)
   cases x with
   | i n=>exact KB this
   | s b=>exact this
  have:fV (x::l)=tG x++fV l:=rfl;rw [this,List.length_append,List.length_cons];omega
theorem t87 {l:List Any} (h:∀ x∈l,Sh x) (hl:l.length≤10):T (vG l) fun r=>r.length≤130:=by
 have:=GJ h;unfold vG
 exact .ck ⟨fun x hx=>by
  have:=h x hx
  cases x with
  | i n=>unfold Sh at this;exact ⟨by omega,by omega⟩
  | s b=>trivial,by omega⟩ (.mk (by omega))
theorem t84 (v:bU) (es:List aO) (to_:Int) (hv:Ps v):T (DI v es to_) fun r=>r.1.length≤300∧(r.2=0→Vv v∧Ve es):=by
 unfold DI;refine T.bd (t85 v es hv) fun r h=>T.ie (fun hr=>.mk ⟨by simp,fun h0=>absurd h0 hr⟩) fun h0=>T.bd (.ok (QM _)) fun b _=>T.ie (fun _=>?_) fun _=>.mk ⟨by simp,by simp⟩;have hVE:=h (by omega);have hpl:=hVE.1.pl;refine T.bd (t90 v es to_ hVE.1 hVE.2) fun g hg=>T.bd (Q:=fun l=>l.length≤300) (T.ix g.parts.length (·.1) (fun s=>s.2.length≤50*s.1) (fun s hs hi=>?_) (Nat.zero_le _) (Nat.zero_le _)) fun l hl=>.mk ⟨hl,fun _=>hVE⟩;have hgl:=hg.2.1;unfold wE;refine T.ie (fun hl=>T.bd (T.mem (by omega)) fun r hr=>T.bd (Q:=fun l=>l.length≤50*(s.1+1)) (T.ix r.length (·.1) (fun q=>q.2.length≤50*s.1+q.1) (fun q hq hj=>?_) hs (Nat.zero_le _)) fun l hl=>.mk ⟨hl,rfl,by omega⟩) fun _=>.mk (by omega);have hrl:=(hg.2.2 r hr).1;unfold wD;exact T.ie (fun hl=>T.bd (T.at (by omega)) fun y hy=>T.bd (Q:=fun l=>l.length≤50*s.1+(q.1+1)) (T.ie (fun _=>.mk (by omega)) fun _=>.ck (by omega) (.mk (by simp;omega))) fun l hl=>.mk ⟨hl,rfl,by omega⟩) fun _=>.mk (by omega)
theorem aGa (g:gX) (anchor:Int):T (bG (rO g anchor) (0,0,0,false)) fun e=>e.2.2=true→∃ r,g.parts[e.1]?=some r∧e.2.1 < r.length:=by
 refine T.ix g.parts.length (·.2.2.1) (fun s=>s.2.2.2=false) (fun s hs hi=>?_) rfl (Nat.zero_le _);unfold rO;refine T.ie (fun hl=>T.bd (T.at (by omega)) fun r hr=>T.bd (Q:=fun e=>match e with | .inl q=>q.2.2=false | .inr z=>∃ q,z=.inr q∧q.1=s.2.2.1∧q.2.1 < r.length) (T.ix r.length (·.2.2.1) (fun q=>q.2.2.2=false) (fun q hq hj=>?_) hs (Nat.zero_le _)) fun e he=>?_) fun _=>.mk fun h=>by dsimp only at h;rw [hs] at h;cases h
 ·unfold wG;exact T.ie (fun hl=>T.bd (T.at (by omega)) fun y hy=>T.ie (fun _=>⟨_,rfl,_,rfl,rfl,by dsimp only;omega⟩) fun _=>.mk ⟨hq,rfl,by omega⟩) fun _=>.mk hq
 cases e with
 | inl q=>exact .mk ⟨he,rfl,by omega⟩
 | inr z=>obtain ⟨q,rfl,h1,h2⟩:=he;exact .mk fun _=>⟨r,by rw [h1];exact hr,h2⟩
theorem t58 (v:bU) (es:List aO) (anchor to_:Int) (hv:Ps v):T (zQ v es anchor to_) fun r=>r.2.2=0→(0≤to_∧to_≤99999):=by
 unfold zQ;refine T.bd (t85 v es hv) fun r h=>T.ie (fun hr=>.mk fun h0=>absurd h0 hr) fun h0=>T.bd (.ok (QM _)) fun b hb=>T.ie (fun hbt=>?_) fun _=>.mk (by simp);have hVE:=h (by omega);subst hb;simp only [decide_eq_true_eq] at hbt;refine T.bd (t90 v es to_ hVE.1 hVE.2) fun g hg=>T.bd (Q:=fun e=>e.2.2=true→∃ r,g.parts[e.2.1]?=some r∧e.1 < r.length) (T.bd (aGa g anchor) fun e he=>.mk he) fun e he=>T.ie (fun h1=>?_) fun _=>.mk (by simp);obtain ⟨r,hr,hc⟩:=he h1;exact T.bd (.ok hr) fun r' h'=>by
  subst h';exact T.bd (T.at hc) fun y hy=>.mk fun _=>hbt
def Pd (v:bU) (x:cV):Prop:=((1≤x.place.anchor∧x.place.anchor≤999)∧0≤x.place.lines∧x.place.lines≤1000)∧(0≤x.place.column∧x.place.column≤1000000)∧(0≤x.place.line∧x.place.line≤1000)∧(0≤x.number∧x.number≤1000)∧∃ p∈v.parts,x.day=p.day
theorem t88 (v:bU) (es:List aO) (hv:Vv v) (he:Ve es):T (DM v es) fun l=>l.length≤300∧∀ x∈l,Pd v x:=by
 have hpl:=hv.pl;have hh:=hv.h;have hw:=hv.w;unfold DM;refine T.bd (t90 v es v.bound hv he) fun g hg=>T.bd (Q:=fun l=>l.length≤300∧∀ x∈l,Pd v x) (T.ix g.parts.length (·.1) (fun (s:Nat×Int×List cV)=>(1≤s.2.1∧s.2.1≤1+20000*(s.1:Int))∧s.2.2.length≤50*s.1∧∀ x∈s.2.2,Pd v x) (fun s hs hi=>?_) ⟨⟨by decide,by decide⟩,Nat.zero_le _,by simp⟩ (Nat.zero_le _)) fun l hl=>.mk hl;have hgl:=hg.2.1;obtain ⟨hs1,hs2,hs3⟩:=hs;unfold wI;refine T.ie (fun hl=>T.bd (T.mem (by omega)) fun r hr=>T.bd (Q:=fun (e:Int×List cV)=>(0≤e.1∧e.1≤15000)∧e.2.length≤50*(s.1+1)∧∀ x∈e.2,Pd v x) (T.ix r.length (·.2.1) (fun (q:Nat×Nat×Int×List cV)=>q.1≤q.2.1∧(0≤q.2.2.1∧q.2.2.1≤300*(q.2.1:Int))∧q.2.2.2.length≤50*s.1+q.2.1∧∀ x∈q.2.2.2,Pd v x) (fun q hq hj=>?_) ⟨Nat.le_refl _,⟨Int.le_refl 0,Int.le_refl 0⟩,by dsimp only;omega,hs3⟩ (Nat.zero_le _)) fun e he=>?_) fun _=>.mk ⟨by have:=hg.2.1;omega,hs3⟩
 ·have hrl:=hg.2.2 r hr;obtain ⟨hq1,hq2,hq3,hq4⟩:=hq;unfold wH;refine T.ie (fun hl2=>T.bd (Q:=fun (t:Nat×Int×List cV)=>t.1≤q.2.1+1∧(0≤t.2.1∧t.2.1≤300*((q.2.1:Int)+1))∧t.2.2.length≤50*s.1+(q.2.1+1)∧∀ x∈t.2.2,Pd v x) (T.bd (T.mem (by omega)) fun y hy=>T.ie (fun _=>.mk ⟨by dsimp only;omega,⟨hq2.1,by dsimp only;omega⟩,by dsimp only;omega,hq4⟩) fun _=>?_) fun t ht=>.mk ⟨ht,rfl,by omega⟩) fun _=>.mk ⟨⟨by dsimp only;omega,by dsimp only;omega⟩,by dsimp only;omega,hq4⟩;have hty:=(hrl.2 y hy).1;have hya:=(hrl.2 y hy).2;have d1:0≤q.2.2.1/v.height:=Int.ediv_nonneg hq2.1 (by omega);have d2:q.2.2.1/v.height≤q.2.2.1:=Int.ediv_le_self _ hq2.1;have d3:0≤q.2.2.1%v.height:=Int.emod_nonneg _ (by omega);have d4:q.2.2.1%v.height < v.height:=Int.emod_lt_of_pos _ (by omega);have d5:0≤((y.paragraph.text.length:Int)+v.width - 1)/v.width:=Int.ediv_nonneg (by omega) (by omega);have d6:((y.paragraph.text.length:Int)+v.width - 1)/v.width≤(y.paragraph.text.length:Int)+v.width - 1:=Int.ediv_le_self _ (by omega);refine .ck (by omega) (.ck (by omega) (.ck (by omega) (.ck (by omega) (.ck (by omega) (.ck (by omega) (.ck (by omega) (.ck (by omega) (T.bd (T.mem (by omega)) fun z hz=>.ck (by simp;omega) (.ck (by omega) (.mk ⟨by dsimp only;omega,⟨by dsimp only;omega,by dsimp only;omega⟩,by simp;omega,fun x hx=>?_⟩))))))))));rcases List.mem_append.1 hx with h | h
  ·exact hq4 x h
  simp only [List.mem_singleton] at h;subst h;exact ⟨⟨hya,by dsimp only;omega,by dsimp only;omega⟩,⟨by dsimp only;omega,by dsimp only;omega⟩,⟨by dsimp only;omega,by dsimp only;omega⟩,⟨by dsimp only;omega,by dsimp only;omega⟩,z,hz,rfl⟩
 obtain ⟨he1,he2,he3⟩:=he;have d1:0≤(e.1+v.height - 1)/v.height:=Int.ediv_nonneg (by omega) (by omega);have d2:(e.1+v.height - 1)/v.height≤e.1+v.height - 1:=Int.ediv_le_self _ (by omega);exact .ck (by omega) (.ck (by omega) (.ck (by omega) (.ck (by omega) (.mk ⟨⟨⟨by dsimp only;omega,by dsimp only;omega⟩,he2,he3⟩,rfl,by omega⟩))))
end T12
set_option maxHeartbeats 4000000
namespace T12
open Go Go.Proofs Pk
theorem t56 (v:bU) (es:List aO) (anchor style to_:Int) (hv:Ps v) (hd:∀ p∈v.parts,0≤p.day∧p.day≤99999) (ha : -1000000000000 < anchor∧anchor < 1000000000000) (ht : -1000000000000 < to_∧to_ < 1000000000000):T (DN v es anchor style to_) fun r=>r.1.length≤130:=by
 unfold DN;refine T.bd (t85 v es hv) fun r h=>T.ie (fun hr=>.mk (by simp)) fun h0=>T.bd (Q:=fun _=>True) (T.ie (fun _=>.mk trivial) fun _=>T.ie (fun _=>T.bd (.ok (QM _)) fun _ _=>.mk trivial) fun _=>.mk trivial) fun _ _=>T.ie (fun _=>.mk (by simp)) fun _=>T.ie (fun _=>T.bd (t58 v es anchor to_ hv) fun r hr=>T.ie (fun _=>.mk (by simp)) fun _=>T.bd (t87 (fun x hx=>?_) (by simp)) fun r hr=>.mk hr) fun _=>?_
 ·simp only [List.mem_cons,List.not_mem_nil,or_false] at hx;rcases hx with rfl | rfl | rfl
  ·exact ha
  ·show (1:Nat)≤13;decide
  exact ht
 have hVE:=h (by omega);have hn:=hVE.1.n;refine T.bd (t88 v es hVE.1 hVE.2) fun l hl=>T.bd (Q:=fun e=>match e with | .inl _=>True | .inr z=>z.1.length≤130) (T.ix l.length id (fun _=>True) (fun i _ hi=>?_) trivial (Nat.zero_le _)) fun e he=>?_
 ·unfold wJ;refine T.ie (fun hlt=>T.bd (T.mem (by simp only [id] at *;omega)) fun x hx=>?_) fun _=>.mk trivial;obtain ⟨_,h1,h2,h3,p,hp,h4⟩:=hl.2 x hx;have h5:=hd p hp;refine T.ie (fun _=>.mk ⟨trivial,rfl,by simp only [id] at *;omega⟩) fun _=>T.ie (fun _=>T.bd (t87 (fun x hx=>?_) (by simp)) fun r hr=>.mk hr) fun _=>T.bd (t87 (fun x hx=>?_) (by simp)) fun r hr=>.mk hr
  ·simp only [List.mem_cons,List.not_mem_nil,or_false] at hx;rcases hx with rfl | rfl | rfl | rfl | rfl | rfl
   ·show (5:Nat)≤13;decide
   ·exact ⟨by omega,by omega⟩
   ·show (7:Nat)≤13;decide
   ·exact ⟨by omega,by omega⟩
   ·show (5:Nat)≤13;decide
   exact ⟨by omega,by omega⟩
  simp only [List.mem_cons,List.not_mem_nil,or_false] at hx;rcases hx with rfl | rfl | rfl | rfl | rfl | rfl
  ·show (5:Nat)≤13;decide
  ·exact ⟨by omega,by omega⟩
  ·show (2:Nat)≤13;decide
  ·exact ⟨by omega,by omega⟩
  ·show (7:Nat)≤13;decide
  exact ⟨by omega,by omega⟩
 cases e with
 | inl _=>exact .mk (by simp)
 | inr z=>exact .mk he
end T12
set_option maxHeartbeats 4000000
namespace T12
open Go Go.Proofs Pk
theorem jR (c:Bool) (e:Int):T (jD c e) fun r=>match r with | .inl _=>c=true | .inr _=>c=false:=by
 cases c
 ·exact ⟨_,rfl,rfl⟩
 exact ⟨_,rfl,rfl⟩
theorem GK (e:Int):T (lH e) fun r=>match r with | .inl _=>e=0 | .inr _=>e≠0:=by
 unfold lH;refine T.bd (jR _ _) fun r hr=>?_
 cases r with
 | inl _=>exact .mk (by simpa using hr)
 | inr _=>exact .mk (by simpa using hr)
theorem e20 (n a b:Int):tI n a b=some (decide (a≤n∧n≤b)):=by
 unfold tI;by_cases h:a≤n <;> simp [h]
theorem t94 (a b:Int):T (EA a b) fun _=>True:=by
 unfold EA tP;exact T.bd (Q:=fun _=>True) (T.bd (.mk trivial) fun _ (_:True)=>T.ie (fun _=>T.bd (.mk trivial) fun _ (_:True)=>T.ie (fun _=>.mk trivial) fun _=>.mk trivial) fun _=>.mk trivial) fun _ _=>.mk trivial
theorem t62 (l:List Int) (x:Int) (h:l.length≤1000000):T (rP l x) fun r=>0≤r.1∧r.1≤l.length:=by
 unfold rP;refine T.bd (Q:=fun e=>0≤e∧e≤(l.length:Int)) (T.lp (fun (s:Int×Int)=>(0≤s.1∧s.1≤(l.length:Int))∧0≤s.2∧s.2≤(l.length:Int)) (fun (s:Int×Int)=>(s.2 - s.1).toNat) (fun s hs=>?_) ⟨⟨Int.le_refl 0,by dsimp only;omega⟩,by dsimp only;omega,by dsimp only;omega⟩) fun e he=>?_
 ·unfold wO;refine T.ie (fun hl=>.ck (by omega) (.ck (by omega) (.ck (by omega) (.ck (by omega) (T.bd (T.at (by omega)) fun y _=>T.bd (t94 _ _) fun c _=>T.bd (Q:=fun (t:Int×Int)=>((0≤t.1∧t.1≤(l.length:Int))∧0≤t.2∧t.2≤(l.length:Int))∧(t.2 - t.1).toNat < (s.2 - s.1).toNat) (T.ie (fun _=>.ck (by omega) (.mk ⟨⟨⟨by dsimp only;omega,by dsimp only;omega⟩,hs.2⟩,by dsimp only;omega⟩)) fun _=>.mk ⟨⟨hs.1,by dsimp only;omega,by dsimp only;omega⟩,by dsimp only;omega⟩) fun t ht=>.mk ht))))) fun _=>.mk hs.1
 refine T.bd (Q:=fun (t:Int×Bool)=>0≤t.1∧t.1≤(l.length:Int)) (T.ie (fun hl=>.ck he.1 (T.bd (T.at (by omega)) fun y _=>T.ie (fun _=>.mk he) fun _=>T.bd (Q:=fun _=>True) ⟨_,rfl,trivial⟩ fun _ _=>T.ie (fun _=>T.bd (Q:=fun _=>True) ⟨_,rfl,trivial⟩ fun _ _=>.mk he) fun _=>.mk he)) fun _=>.mk he) fun t ht=>.mk ht
structure Si (k:Nat) (b:cY):Prop where
 dy:0≤b.day∧b.day≤99999
 ho:0≤b.house∧b.house≤40
 pl:b.volume.parts.length≤k
 pp:∀ p∈b.volume.parts,p.paragraphs.length≤k∧0≤p.day∧p.day≤99999
 er:b.errata.length≤k
 hi:b.hides.length≤12
 ci:b.cites.length≤k
 pa:b.motion.papers.length≤k
 mw:b.motion.words.length≤60
 ch:b.choice.length≤k
 dm:0≤b.division.members∧b.division.members≤40
 dr:0≤b.division.rule∧b.division.rule≤255
 dp:b.division.pairs.length≤k
 da:b.division.ayes.e0.length≤k∧b.division.ayes.e1.length≤k
 dn:b.division.noes.e0.length≤k∧b.division.noes.e1.length≤k
 rs:b.results.length≤k
 rv:∀ x∈b.results,x.toNat≤2
 cv:∀ c∈b.cites,c.length≤130
 vn:b.bound=true→1≤b.volume.number∧b.volume.number≤99
theorem Si.up {k:Nat} {b:cY} (h:Si k b):Si (k+1) b where
 dy:=h.dy
 ho:=h.ho
 pl:=Nat.le_succ_of_le h.pl
 pp p hp:=⟨Nat.le_succ_of_le (h.pp p hp).1,(h.pp p hp).2⟩
 er:=Nat.le_succ_of_le h.er
 hi:=h.hi
 ci:=Nat.le_succ_of_le h.ci
 pa:=Nat.le_succ_of_le h.pa
 mw:=h.mw
 ch:=Nat.le_succ_of_le h.ch
 dm:=h.dm
 dr:=h.dr
 dp:=Nat.le_succ_of_le h.dp
 da:=⟨Nat.le_succ_of_le h.da.1,Nat.le_succ_of_le h.da.2⟩
 dn:=⟨Nat.le_succ_of_le h.dn.1,Nat.le_succ_of_le h.dn.2⟩
 rs:=Nat.le_succ_of_le h.rs
 rv:=h.rv
 cv:=h.cv
 vn:=h.vn
def Ln (k:Nat) (r:aI⊕Int):Prop:=match r with | .inl b=>Si (k+1) b.state | .inr e=>e≠0
theorem Si.ps {k:Nat} {b:cY} (h:Si k b) (hk:k≤100):Ps b.volume:=⟨by have:=h.pl;omega,fun p hp=>by have:=(h.pp p hp).1;omega⟩
def Nm (n:Nat) (l:List Int):Prop:=l.length=n∧∀ x∈l,-999999999≤x∧x≤999999999
variable {k:Nat} {b:aI} {l:List Int} {text:aF}
theorem t30 (h:Si k b.state) (hl:Nm 1 l):T (CP b l text) (Ln k):=by
 have h1:=hl.1;unfold CP;refine T.bd (T.mem (by omega)) fun x hx=>T.bd (.ok (e20 _ _ _)) fun c hc=>T.bd (jR _ _) fun r hr=>?_
 cases r with
 | inl _ =>
  subst hc;simp only [decide_eq_true_eq] at hr;exact .mk (show Si (k+1) _ from { h.up with dy:=⟨Int.le_trans h.dy.1 hr.1,hr.2⟩ })
 | inr _=>exact .mk (by simp [Ln])
theorem t38 (h:Si k b.state) (hl:Nm 1 l):T (DT b l text) (Ln k):=by
 have h1:=hl.1;unfold DT;refine T.bd (jR _ _) fun r _=>?_
 cases r with
 | inr _=>exact .mk (by simp [Ln])
 | inl _ =>
  refine T.bd (T.mem (by omega)) fun x hx=>T.bd (.ok (e20 _ _ _)) fun c hc=>T.bd (jR _ _) fun r hr=>?_
  cases r with
  | inl _ =>
   subst hc;simp only [decide_eq_true_eq] at hr;exact .mk (show Si (k+1) _ from { h.up with ho:=⟨Int.le_trans (by decide) hr.1,hr.2⟩ })
  | inr _=>exact .mk (by simp [Ln])
theorem t32 (h:Si k b.state) (hk:k≤100) (hl:Nm 3 l):T (CY b l text) (Ln k):=by
 have h1:=hl.1;unfold CY;refine T.bd (jR _ _) fun r _=>?_
 cases r with
 | inr _=>exact .mk (by simp [Ln])
 | inl _ =>
  refine T.bd (T.mem (by omega)) fun x hx=>T.bd (T.mem (by omega)) fun y hy=>T.bd (T.mem (by omega)) fun z hz=>T.bd (t53 _ (h.ps hk)) fun e he=>T.bd (GK _) fun r hr=>?_
  cases r with
  | inl _=>exact .mk (show Si (k+1) _ from { h.up with pl:=h.up.pl,vn:=fun _=>(he hr).n })
  | inr _=>exact .mk hr
theorem t61 (h:Si k b.state) (d:aW) (hd:(0≤d.members∧d.members≤40)∧(0≤d.rule∧d.rule≤255)∧d.pairs.length≤k+1∧(d.ayes.e0.length≤k+1∧d.ayes.e1.length≤k+1)∧d.noes.e0.length≤k+1∧d.noes.e1.length≤k+1):T (zR b d) (Ln k):=by
 unfold zR;have h0:T (DY d) fun _=>True:=by
  unfold DY;exact T.bd (VC d hd.2.1) fun _ _=>T.ie (fun _=>.mk trivial) fun _=>.mk trivial
 refine T.bd h0 fun e _=>T.bd (GK _) fun r hr=>?_
 cases r with
 | inl _=>exact .mk (show Si (k+1) _ from { h.up with dm:=hd.1,dr:=hd.2.1,dp:=hd.2.2.1,da:=hd.2.2.2.1,dn:=hd.2.2.2.2 })
 | inr _=>exact .mk hr
theorem t55 (h:Si k b.state) (hk:k≤100) (x:aO):T (wF b x) (Ln k):=by
 unfold wF;refine T.bd (Q:=fun t=>match t with | .inl _=>True | .inr z=>Ln k z) (T.ie (fun _=>T.bd (jR _ _) fun r _=>?_) fun _=>T.bd (jR _ _) fun r _=>?_) fun t ht=>?_
 ·cases r with
  | inl _=>exact .mk trivial
  | inr _=>exact .mk (by simp [Ln])
 ·cases r with
  | inl _=>exact .mk trivial
  | inr _=>exact .mk (by simp [Ln])
 cases t with
 | inr z=>exact .mk ht
 | inl _ =>
  have he:=h.er;have h0:T (CZ b.state.errata { x with day:=b.state.day }) fun r=>r.length≤k+1:=by
   unfold CZ rL;exact T.bd (Q:=fun r=>r.length≤k) (.ck (by simp;omega) (.mk (by simpa using he))) fun r hr=>.ck (by simp;omega) (.mk (by simp;omega))
  refine T.bd h0 fun es hes=>T.bd (t84 _ _ _ (h.ps hk)) fun r _=>T.bd (GK _) fun r hr=>?_
  cases r with
  | inl _=>exact .mk (show Si (k+1) _ from { h.up with er:=hes })
  | inr _=>exact .mk hr
theorem t33 (h:Si k b.state) (hk:k≤100) (hl:Nm 2 l):T (DJ b l text) (Ln k):=by
 have h1:=hl.1;unfold DJ;refine T.bd (T.mem (by omega)) fun x hx=>T.bd (T.mem (by omega)) fun y hy=>T.bd (t55 h hk _) fun r hr=>?_;cases r <;> exact .mk hr
theorem t34 (h:Si k b.state) (hk:k≤100) (hl:Nm 2 l):T (DK b l text) (Ln k):=by
 have h1:=hl.1;unfold DK;refine T.bd (T.mem (by omega)) fun x hx=>T.bd (T.mem (by omega)) fun y hy=>T.bd (t55 h hk _) fun r hr=>?_;cases r <;> exact .mk hr
theorem t35 (h:Si k b.state) (hk:k≤100) (hl:Nm 3 l):T (DL b l text) (Ln k):=by
 have h1:=hl.1;unfold DL;refine T.bd (T.mem (by omega)) fun x hx=>T.bd (T.mem (by omega)) fun y hy=>T.bd (T.mem (by omega)) fun z hz=>T.bd (t55 h hk _) fun r hr=>?_;cases r <;> exact .mk hr
end T12
set_option maxHeartbeats 4000000
namespace T12
open Go Go.Proofs Pk
variable {k:Nat} {b:aI} {l:List Int} {text:aF}
theorem t36 (h:Si k b.state) (hk:k≤100) (hl:Nm 2 l):T (DP b l text) (Ln k):=by
 have h1:=hl.1;unfold DP;refine T.bd (jR _ _) fun r _=>?_
 cases r with
 | inr _=>exact .mk (by simp [Ln])
 | inl _ =>
  refine T.bd (T.mem (by omega)) fun x hx=>T.bd (.ok (e20 _ _ _)) fun c hc=>T.bd (jR _ _) fun r hr=>?_
  cases r with
  | inr _=>exact .mk (by simp [Ln])
  | inl _ =>
   subst hc;simp only [decide_eq_true_eq] at hr;refine T.bd (T.mem (by omega)) fun y hy=>.ck hr ?_;have h2:=hl.2 y hy;have h3:=h.dy;refine T.bd (t56 _ _ _ _ _ (h.ps hk) (fun p hp=>(h.pp p hp).2) (by omega) (by omega)) fun q hq=>T.bd (GK _) fun r hr=>?_
   cases r with
   | inr _=>exact .mk hr
   | inl _ =>
    have h4:=h.ci;have h0:T (DO b.state.cites q.1) fun r=>r.length≤k+1∧∀ c∈r,c.length≤130:=by
     unfold DO NQ
     exact T.bd (Q:=fun (r:List aF)=>r.length≤k∧∀ c∈r,c.length≤130) (.ck (by simp;omega) (.mk ⟨by simpa using h4,h.cv⟩)) fun r hr=>.ck (by omega) (.mk ⟨by simp;omega,fun c hc=>by
      rcases List.mem_append.1 hc with h5 | h5
      ·exact hr.2 c h5
      simp only [List.mem_singleton] at h5;subst h5;exact hq⟩)
    exact T.bd h0 fun c hc=>.mk (show Si (k+1) _ from { h.up with ci:=hc.1,cv:=hc.2 })
theorem t37 (h:Si k b.state) (hk:k≤100) (hl:Nm 3 l):T (DS b l text) (Ln k):=by
 have h1:=hl.1;unfold DS;refine T.bd (Q:=fun t=>match t with | .inl _=>True | .inr z=>Ln k z) (T.bd (T.mem (by omega)) fun x hx=>T.bd (.ok (e20 _ _ _)) fun c hc=>T.ie (fun _=>T.bd (T.mem (by omega)) fun y hy=>T.bd (.ok (e20 _ _ _)) fun c hc=>T.bd (jR _ _) fun r _=>?_) fun _=>T.bd (jR _ _) fun r _=>?_) fun t ht=>?_
 ·cases r with
  | inl _=>exact .mk trivial
  | inr _=>exact .mk (by simp [Ln])
 ·cases r with
  | inl _=>exact .mk trivial
  | inr _=>exact .mk (by simp [Ln])
 cases t with
 | inr z=>exact .mk ht
 | inl _ =>
  refine T.bd (jR _ _) fun r hr=>?_
  cases r with
  | inr _=>exact .mk (by simp [Ln])
  | inl _ =>
   simp only [decide_eq_true_eq] at hr;have h0:T (DQ b) fun v=>Ps v:=by
    unfold DQ CS;exact T.ie (fun _=>.mk (h.ps hk)) fun _=>T.bd (.mk (P:=Ps) ⟨(h.ps hk).1,(h.ps hk).2⟩) fun v hv=>.mk hv
   refine T.bd h0 fun v hv=>T.bd (T.mem (by omega)) fun x hx=>T.bd (t58 v _ x _ hv) fun q _=>T.bd (GK _) fun r hr2=>?_
   cases r with
   | inr _=>exact .mk hr2
   | inl _ =>
    have h2:∀ z,T (DR b.state.hides z) fun r=>r.length≤12:=fun z=>by
     unfold DR IU;exact T.bd (Q:=fun r=>r.length=b.state.hides.length) (.ck (by simp;omega) (.mk (by simp))) fun r hr=>.ck (by simp;omega) (.mk (by simp;omega))
    exact T.bd (T.at (by omega)) fun y _=>T.bd (T.at (by omega)) fun z _=>T.bd (h2 _) fun r hr=>.mk (show Si (k+1) _ from { h.up with hi:=hr })
theorem t39 (h:Si k b.state) (hl:Nm 4 l):T (DZ b l text) (Ln k):=by
 have h1:=hl.1;unfold DZ;refine T.bd (jR _ _) fun r _=>?_
 cases r with
 | inr _=>exact .mk (by simp [Ln])
 | inl _ =>
  refine T.bd (Q:=fun t=>match t with | .inl _=>(∀ x,l[0]?=some x→0≤x∧x≤255)∧∀ x,l[3]?=some x→0≤x∧x≤255 | .inr z=>Ln k z) (T.bd (T.at (by omega)) fun x hx=>T.bd (.ok (e20 _ _ _)) fun c hc=>T.ie (fun hct=>T.bd (T.at (by omega)) fun y hy=>T.bd (.ok (e20 _ _ _)) fun d hd=>T.bd (jR _ _) fun r hr=>?_) fun _=>T.bd (jR _ _) fun r hr=>?_) fun t ht=>?_
  ·cases r with
   | inl _ =>
    subst hc hd;simp only [decide_eq_true_eq] at hct hr;exact .mk ⟨fun z hz=>by rw [hx] at hz;cases hz;exact hct,fun z hz=>by rw [hy] at hz;cases hz;exact hr⟩
   | inr _=>exact .mk (by simp [Ln])
  ·cases r with
   | inl _=>cases hr
   | inr _=>exact .mk (by simp [Ln])
  cases t with
  | inr z=>exact .mk ht
  | inl _ =>
   refine T.bd (T.at (by omega)) fun x hx=>.ck (ht.1 x hx) (T.bd (T.at (by omega)) fun y _=>T.bd (T.at (by omega)) fun z _=>T.bd (T.at (by omega)) fun w hw=>.ck (ht.2 w hw) (T.bd (t61 h _ ⟨h.ho,ht.1 x hx,Nat.zero_le _,⟨Nat.zero_le _,Nat.zero_le _⟩,Nat.zero_le _,Nat.zero_le _⟩) fun r hr=>?_));cases r <;> exact .mk hr
theorem t41 (h:Si k b.state) (hk:k≤100) (hl:Nm 2 l):T (ED b l text) (Ln k):=by
 have h1:=hl.1;unfold ED;refine T.bd (jR _ _) fun r _=>?_
 cases r with
 | inr _=>exact .mk (by simp [Ln])
 | inl _ =>
  have h2:=h.dp;have h0:∀ z,T (EC b.state.division.pairs z) fun r=>r.length≤k+1:=fun z=>by
   unfold EC JB;exact T.bd (Q:=fun r=>r.length≤k) (.ck (by simp;omega) (.mk (by simpa using h2))) fun r hr=>.ck (by simp;omega) (.mk (by simp;omega))
  refine T.bd (T.at (by omega)) fun x _=>T.bd (T.at (by omega)) fun y _=>T.bd (h0 _) fun ps hps=>T.bd (t61 h _ ⟨h.dm,h.dr,hps,h.up.da,h.up.dn⟩) fun r hr=>?_;cases r <;> exact .mk hr
theorem t42 (h:Si k b.state) (hk:k≤100):T (EQ b l text) (Ln k):=by
 unfold EQ;refine T.bd (jR _ _) fun r _=>?_
 cases r with
 | inr _=>exact .mk (by simp [Ln])
 | inl _ =>
  refine T.bd (t66 _ h.dr) fun o ho=>T.bd (GK _) fun r hr=>?_
  cases r with
  | inr _=>exact .mk hr
  | inl _ =>
   refine T.bd (jR _ _) fun r hr=>?_
   cases r with
   | inr _=>exact .mk (by simp [Ln])
   | inl _ =>
    simp only [decide_eq_true_eq] at hr;have h2:=h.rs;refine T.bd (T.mem (by omega)) fun x hxm=>?_;have hx:=x.toNat_lt;have h0:T (EP b.state.results (x.toNat:Int)) fun r=>r.length≤k+1∧∀ y∈r,y.toNat≤2:=by
     unfold EP JC
     exact T.bd (Q:=fun (r:List UInt8)=>r.length≤k∧∀ y∈r,y.toNat≤2) (.ck (by simp;omega) (.mk ⟨by simpa using h2,h.rv⟩)) fun r hr=>.ck (by omega) (.ck (by omega) (.mk ⟨by simp;omega,fun y hy=>by
      rcases List.mem_append.1 hy with h5 | h5
      ·exact hr.2 y h5
      simp only [List.mem_singleton] at h5;subst h5;have:=ho.2 x hxm;simp;omega⟩))
    exact T.bd h0 fun rs hrs=>.mk (show Si (k+1) _ from { h.up with rs:=hrs.1,rv:=hrs.2,dm:=⟨(by decide:(0:Int)≤0),(by decide:(0:Int)≤40)⟩,dr:=⟨(by decide:(0:Int)≤0),(by decide:(0:Int)≤255)⟩,dp:=Nat.zero_le _,da:=⟨Nat.zero_le _,Nat.zero_le _⟩,dn:=⟨Nat.zero_le _,Nat.zero_le _⟩ })
theorem t68 (hs:text.length≤1073741824):T (zT text) fun _=>True:=by
 unfold zT IL;exact T.bd (Q:=fun _=>True) (.ck hs (.mk trivial)) fun _ _=>.mk trivial
theorem t43 (h:Si k b.state) (hs:text.length≤1073741824):T (EW b l text) (Ln k):=by
 unfold EW;refine T.bd (jR _ _) fun r _=>?_
 cases r with
 | inr _=>exact .mk (by simp [Ln])
 | inl _ =>
  refine T.bd (t68 hs) fun ws _=>T.bd (t69 _) fun e he=>T.bd (GK _) fun r hr=>?_
  cases r with
  | inr _=>exact .mk hr
  | inl _=>exact .mk (show Si (k+1) _ from { h.up with pa:=Nat.zero_le _,mw:=(he hr).wl })
theorem t44 (h:Si k b.state) (hk:k≤100) (hl:Nm 4 l) (hs:text.length≤1073741824):T (EY b l text) (Ln k):=by
 have h1:=hl.1;unfold EY;refine T.bd (jR _ _) fun r _=>?_
 cases r with
 | inr _=>exact .mk (by simp [Ln])
 | inl _ =>
  have h2:=h.pa;have h0:∀ z,T (EX b.state.motion.papers z) fun r=>r.length≤k+1:=fun z=>by
   unfold EX JJ;exact T.bd (Q:=fun r=>r.length≤k) (.ck (by simp;omega) (.mk (by simpa using h2))) fun r hr=>.ck (by simp;omega) (.mk (by simp;omega))
  refine T.bd (T.at (by omega)) fun _ _=>T.bd (T.at (by omega)) fun _ _=>T.bd (T.at (by omega)) fun _ _=>T.bd (T.at (by omega)) fun _ _=>T.bd (t68 hs) fun ws _=>T.bd (h0 _) fun ps hps=>T.bd (t69 _) fun e _=>T.bd (GK _) fun r hr=>?_
  cases r with
  | inr _=>exact .mk hr
  | inl _=>exact .mk (show Si (k+1) _ from { h.up with pa:=hps })
theorem t64 {l:List Int} (h:l.length≤1000):T (pW l) fun r=>r=l:=by
 unfold pW;exact .ck (by simp;omega) (.mk (by simp))
theorem yV (l:List Int) (x:Int) (i:Nat) (h:i≤l.length):(l.take i++[x]++l.drop i).length=l.length+1:=by simp;omega
theorem t45 (h:Si k b.state) (hk:k≤100) (hl:Nm 1 l):T (FF b l text) (Ln k):=by
 have h1:=hl.1;unfold FF;refine T.bd (jR _ _) fun r _=>?_
 cases r with
 | inr _=>exact .mk (by simp [Ln])
 | inl _ =>
  have h2:=h.ch;refine T.bd (T.at (by omega)) fun x _=>T.bd (t62 _ x (by omega)) fun q hq=>T.bd (jR _ _) fun r _=>?_
  cases r with
  | inr _=>exact .mk (by simp [Ln])
  | inl _ =>
   refine T.bd (t64 (by omega)) fun c hc=>.ck hq.1 (.ck (by subst hc;omega) (.ck (by subst hc;simp;omega) (T.bd (t71 _ _) fun w _=>T.bd (GK _) fun r hr=>?_)))
   cases r with
   | inr _=>exact .mk hr
   | inl _=>exact .mk (show Si (k+1) _ from { h.up with ch:=by subst hc;show (_:List Int).length≤_;rw [yV _ _ _ (by omega)];omega })
end T12
set_option maxHeartbeats 4000000
namespace T12
open Go Go.Proofs Pk
variable {k:Nat} {b:aI} {l:List Int} {text:aF}
theorem KC {ws:List aF} (h:yT ws):(Lib.join ws [32]).length≤21*ws.length:=by
 have hl:∀ {r:List aF},yT r→Lib.lens r≤20*r.length:=fun {r}=>by
  induction r with
  | nil=>intro _;exact Nat.le_refl _
  | cons x r ih =>
   intro h;have h1:=ih fun y hy=>h y (List.mem_cons_of_mem _ hy);have h2:=h x (List.mem_cons_self ..);simp only [Lib.lens,List.map_cons,List.sum_cons,List.length_cons] at h1 ⊢;omega
 cases ws with
 | nil=>exact Nat.le_refl _
 | cons x r =>
  rw [Lib.join_cons,List.length_append,Lib.joinTail_length];have h1:=hl (r:=r) fun y hy=>h y (List.mem_cons_of_mem _ hy);have h2:=h x (List.mem_cons_self ..);simp only [List.length_cons,List.length_nil] at *;omega
theorem t31 (h:Si k b.state) (hk:k≤100) (hl:1≤l.length):T (zO b l text) (Ln k):=by
 unfold zO;refine T.bd (jR _ _) fun r _=>?_
 cases r with
 | inr _=>exact .mk (by simp [Ln])
 | inl _ =>
  have hpl:=h.pl;have h2:T (CQ b.state.volume.parts) fun r=>r=b.state.volume.parts:=by
   unfold CQ;exact .ck (by simp;omega) (.mk (by simp))
  refine T.bd (T.at (by omega)) fun x _=>T.bd h2 fun ps hps=>?_;have hps1:ps.length≤k:=by rw [hps];exact hpl
  have hps2:∀ p∈ps,p.paragraphs.length≤k∧0≤p.day∧p.day≤99999:=by rw [hps];exact h.pp
  refine T.bd (Q:=fun t=>t=true→1≤ps.length) (T.ie (fun h0=>T.bd (T.at (by omega)) fun _ _=>.mk fun _=>by omega) fun _=>.mk (by simp)) fun t ht=>T.bd (Q:=fun (qs:List dX)=>qs.length≤k+1∧∀ p∈qs,p.paragraphs.length≤k+1∧0≤p.day∧p.day≤99999) (T.ie (fun htt=>?_) fun _=>.ck (by simp;omega) (.mk ⟨by simp;omega,fun p hp=>?_⟩)) fun qs hqs=>?_
  ·have h1:=ht htt;refine .ck (by omega) (T.bd (T.mem (by omega)) fun y hy=>?_);have hy2:=hps2 y hy;have h3:T (CR y.paragraphs ⟨x,text⟩) fun r=>r.length≤k+1:=by
    unfold CR IN;exact T.bd (Q:=fun r=>r.length≤k) (.ck (by simp;omega) (.mk (by simpa using hy2.1))) fun r hr=>.ck (by simp;omega) (.mk (by simp;omega))
   exact T.bd h3 fun r hr=>.mk ⟨by rw [List.length_set];omega,xC (fun p hp=>⟨Nat.le_succ_of_le (hps2 p hp).1,(hps2 p hp).2⟩) ⟨hr,hy2.2⟩⟩
  ·rcases List.mem_append.1 hp with h1 | h1
   ·exact ⟨Nat.le_succ_of_le (hps2 p h1).1,(hps2 p h1).2⟩
   simp only [List.mem_singleton] at h1;subst h1;exact ⟨by simp,h.dy⟩
  refine T.bd (Q:=fun v=>Ps v) (.mk ⟨by have:=hqs.1;dsimp only;omega,fun p hp=>by have:=(hqs.2 p hp).1;omega⟩) fun v hv=>T.bd (t53 _ hv) fun e _=>T.bd (GK _) fun r hr=>?_
  cases r with
  | inr _=>exact .mk hr
  | inl _=>exact .mk (show Si (k+1) _ from { h.up with pl:=hqs.1,pp:=hqs.2 })
theorem t46 (h:Si k b.state) (hk:k≤100) (hl:Nm 1 l):T (FG b l text) (Ln k):=by
 unfold FG;refine T.bd (Q:=fun t=>match t with | .inl _=>True | .inr z=>Ln k z) (T.ie (fun _=>T.bd (jR _ _) fun r _=>?_) fun _=>T.bd (jR _ _) fun r _=>?_) fun t ht=>?_
 ·cases r with
  | inl _=>exact .mk trivial
  | inr _=>exact .mk (by simp [Ln])
 ·cases r with
  | inl _=>exact .mk trivial
  | inr _=>exact .mk (by simp [Ln])
 cases t with
 | inr z=>exact .mk ht
 | inl _ =>
  refine T.bd (t71 _ _) fun q hq=>T.bd (GK _) fun r hr=>?_
  cases r with
  | inr _=>exact .mk hr
  | inl _ =>
   have h0:T (CJ q.1 [32]) fun _=>True:=by
    have h1:=KC hq.1.2.1;have h2:=hq.2.1;unfold CJ;exact .ck ⟨by omega,by omega⟩ (.mk trivial)
   refine T.bd h0 fun s _=>T.bd (t31 h hk (by have:=hl.1;omega)) fun r hr=>?_
   cases r with
   | inr _=>exact .mk hr
   | inl y=>exact .mk (show Si (k+1) _ from { (show Si (k+1) y.state from hr) with pa:=Nat.zero_le _,mw:=Nat.zero_le _,ch:=Nat.zero_le _ })
theorem t40 (h:Si k b.state) (hk:k≤100) (hl:Nm 3 l):T (EB b l text) (Ln k):=by
 have h1:=hl.1;have hm:=h.dm;have hda:=h.da;have hdn:=h.dn;unfold EB;refine T.bd (jR _ _) fun r _=>?_
 cases r with
 | inr _=>exact .mk (by simp [Ln])
 | inl _ =>
  refine T.bd (Q:=fun t=>match t with | .inl _=>∀ x,l[1]?=some x→x=0∨x=1 | .inr z=>Ln k z) (T.bd (T.at (by omega)) fun x _=>T.bd (.ok (e20 _ _ _)) fun c _=>T.ie (fun _=>T.bd (T.at (by omega)) fun y hy=>T.bd (.ok (e20 _ _ _)) fun d hd=>T.ie (fun hdt=>T.bd (T.at (by omega)) fun z _=>.ck (by omega) (T.bd (.ok (e20 _ _ _)) fun e _=>T.bd (jR _ _) fun r _=>?_)) fun _=>T.bd (jR _ _) fun r hr=>?_) fun _=>T.bd (jR _ _) fun r hr=>?_) fun t ht=>?_
  ·cases r with
   | inl _ =>
    subst hd;simp only [decide_eq_true_eq] at hdt;exact .mk fun w hw=>by rw [hy] at hw;cases hw;omega
   | inr _=>exact .mk (by simp [Ln])
  ·cases r with
   | inl _=>cases hr
   | inr _=>exact .mk (by simp [Ln])
  ·cases r with
   | inl _=>cases hr
   | inr _=>exact .mk (by simp [Ln])
  cases t with
  | inr z=>exact .mk ht
  | inl _ =>
   have key:∀ (ls:List Int) (x:Int) (f:List Int→aI),ls.length≤k→(∀ q:List Int,q.length≤k+1→Si (k+1) (f q).state)→∀ (q:Int×Bool),0≤q.1∧q.1≤ls.length→T ((pW ls).bind fun r=>bY (0≤q.1) <| bY (q.1.toNat≤r.length) <| bY (r.length+([x]:List Int).length≤1073741824) <| some (.inl (f (r.take q.1.toNat++([x]:List Int)++r.drop q.1.toNat)))) (Ln k):=fun ls x f hls hf q hq=>by
    refine T.bd (t64 (by omega)) fun r hr=>?_;subst hr;exact .ck hq.1 (.ck (by omega) (.ck (by simp;omega) (.mk (hf _ (by rw [yV _ _ _ (by omega)];omega)))))
   refine T.bd (T.at (by omega)) fun y hy=>T.ie (fun _=>T.bd (T.at (by omega)) fun w _=>T.ie (fun _=>T.bd (T.at (by omega)) fun z _=>T.bd (t62 _ _ (by omega)) fun q hq=>T.bd (jR _ _) fun r _=>?_) fun _=>T.bd (T.at (by omega)) fun z _=>T.bd (t62 _ _ (by omega)) fun q hq=>T.bd (jR _ _) fun r _=>?_) fun _=>T.ie (fun _=>T.bd (T.at (by omega)) fun w _=>T.ie (fun _=>T.bd (T.at (by omega)) fun z _=>T.bd (t62 _ _ (by omega)) fun q hq=>T.bd (jR _ _) fun r _=>?_) fun _=>T.bd (T.at (by omega)) fun z _=>T.bd (t62 _ _ (by omega)) fun q hq=>T.bd (jR _ _) fun r _=>?_) fun _=>by have:=ht y hy;omega
   ·cases r with
    | inr _=>exact .mk (by simp [Ln])
    | inl _=>exact key _ z (fun q=>⟨{ b.state with division:={ b.state.division with noes:=⟨q,b.state.division.noes.e1⟩ } }⟩) hdn.1 (fun q hq=>{ h.up with dn:=⟨hq,h.up.dn.2⟩ }) q hq
   ·cases r with
    | inr _=>exact .mk (by simp [Ln])
    | inl _=>exact key _ z (fun q=>⟨{ b.state with division:={ b.state.division with ayes:=⟨q,b.state.division.ayes.e1⟩ } }⟩) hda.1 (fun q hq=>{ h.up with da:=⟨hq,h.up.da.2⟩ }) q hq
   ·cases r with
    | inr _=>exact .mk (by simp [Ln])
    | inl _=>exact key _ z (fun q=>⟨{ b.state with division:={ b.state.division with noes:=⟨b.state.division.noes.e0,q⟩ } }⟩) hdn.2 (fun q hq=>{ h.up with dn:=⟨h.up.dn.1,hq⟩ }) q hq
   cases r with
   | inr _=>exact .mk (by simp [Ln])
   | inl _=>exact key _ z (fun q=>⟨{ b.state with division:={ b.state.division with ayes:=⟨b.state.division.ayes.e0,q⟩ } }⟩) hda.2 (fun q hq=>{ h.up with da:=⟨h.up.da.1,hq⟩ }) q hq
end T12
set_option maxHeartbeats 4000000
namespace T12
open Go Go.Proofs Pk
variable {k:Nat} {b:aI} {l:List Int} {text:aF}
theorem KD {s:aF} (h:(jS s).2=false) : -9223372036854775808≤(jS s).1∧(jS s).1≤9223372036854775807:=by
 unfold jS at h ⊢
 split at h
 ·rename_i v hv;exact Lib.atoiAll_bounds hv
 ·cases h
 cases h
theorem t28 (s:aF) (hs:s.length≤1073741824):T (TL s) fun r=>match r with | .inl n=>(-999999999≤n∧n≤999999999)∧Lib.itoa n=s | .inr _=>True:=by
 unfold TL IJ BS;refine T.bd (.ck hs (.mk (P:=fun r=>r=jS s) rfl)) fun q hq=>T.bd (Q:=fun t=>match t with | .inl _=>(-999999999≤q.1∧q.1≤999999999)∧Lib.itoa q.1=s | .inr z=>∃ u,z=.inr u) (T.ie (fun _=>T.bd (jR _ _) fun r hr=>?_) fun hf=>?_) fun t ht=>?_
 ·cases r with
  | inl _=>cases hr
  | inr _=>exact .mk ⟨_,rfl⟩
 ·have hb:=KD (s:=s) (by subst hq;simpa using hf);rw [← hq] at hb;unfold IK BT;refine T.bd (.ck hb (.mk (P:=fun w=>w=Lib.itoa q.1) rfl)) fun w hw=>T.ie (fun hws=>T.bd (.ok (e20 _ _ _)) fun c hc=>T.bd (jR _ _) fun r hr=>?_) fun _=>T.bd (jR _ _) fun r hr=>?_
  ·cases r with
   | inl _=>subst hc;simp only [decide_eq_true_eq] at hr;exact .mk ⟨hr,hw▸hws⟩
   | inr _=>exact .mk ⟨_,rfl⟩
  cases r with
  | inl _=>cases hr
  | inr _=>exact .mk ⟨_,rfl⟩
 cases t with
 | inl _=>exact .mk ht
 | inr z=>obtain ⟨u,rfl⟩:=ht;exact .mk trivial
theorem PK (s t:aF):(Lib.cut s t).2.1.length≤s.length∧(Lib.cut s t).1.length≤s.length:=by
 unfold Lib.cut;split
 ·simp;omega
 simp
theorem t25 (s t:aF) (h:s.length≤1073741824):T (PT s t) fun r=>r.2.1.length≤s.length∧r.1.length≤s.length:=by
 unfold PT;exact .ck h (.mk (PK s t))
def XJ (w:cN):Prop:=(0≤w.many∧w.many≤4)∧∀ (k:Nat) (b:aI) (l:List Int) (text:aF),Si k b.state→k≤100→Nm w.many.toNat l→text.length≤1000000→T (QC w.do_ b l text) (Ln k)
theorem fI {t:List (aF×cN)} {s:aF} {w:cN} (h:∀ k x,eE t k=some x→XJ x) (hw:XJ w):∀ k x,eE (put t s w) k=some x→XJ x:=fun k x hx=>by
 rw [jQ] at hx
 split at hx
 ·cases hx;exact hw
 exact h k x hx
theorem t26:T TK fun t=>∀ k x,eE t k=some x→XJ x:=by
 unfold TK;refine .mk ?_;refine fI (fI (fI (fI (fI (fI (fI (fI (fI (fI (fI (fI (fI (fI (fI (fI (fI (fun k x h=>by cases h) ?_) ?_) ?_) ?_) ?_) ?_) ?_) ?_) ?_) ?_) ?_) ?_) ?_) ?_) ?_) ?_) ?_
 all_goals refine ⟨⟨by decide,by decide⟩,fun k b l text h hk hl ht=>?_⟩
 ·exact t30 (text:=text) h hl
 ·exact t31 (text:=text) h hk (by have:=hl.1;simp at this;omega)
 ·exact t32 (text:=text) h hk hl
 ·exact t33 (text:=text) h hk hl
 ·exact t34 (text:=text) h hk hl
 ·exact t35 (text:=text) h hk hl
 ·exact t36 (text:=text) h hk hl
 ·exact t37 (text:=text) h hk hl
 ·exact t38 (text:=text) h hl
 ·exact t39 (text:=text) h hl
 ·exact t40 (text:=text) h hk hl
 ·exact t41 (text:=text) h hk hl
 ·exact t42 (l:=l) (text:=text) h hk
 ·exact t43 (l:=l) (text:=text) h (by omega)
 ·exact t44 (text:=text) h hk hl (by omega)
 ·exact t45 (text:=text) h hk hl
 exact t46 (text:=text) h hk hl
theorem t21 (h:Si k b.state) (hk:k≤100) (ht:text.length≤1000000):T (NS b text) fun r=>Si (k+1) r.1.state∧(r.2≠0→r.1=b):=by
 unfold NS;refine T.bd (t25 text [32] (by omega)) fun q hq=>T.bd t26 fun ws hws=>T.bd (jR _ _) fun r hr=>?_
 cases r with
 | inr _=>exact .mk ⟨h.up,fun _=>rfl⟩
 | inl _ =>
  obtain ⟨x,hx⟩:=Option.isSome_iff_exists.1 hr;have hw:=hws _ x hx;have hwm:=hw.1;have hxd:(eE ws q.1).getD ⟨0,false,none⟩=x:=by rw [hx];rfl
  refine T.bd (Q:=fun e=>match e with | .inl r=>r.1.length≤1000000∧Nm x.many.toNat r.2.2 | .inr z=>z=(b,4)) (T.ix x.many.toNat (·.1) (fun (s:Nat×aF×Bool×List Int)=>s.2.1.length≤1000000∧s.2.2.2.length=s.1∧∀ y∈s.2.2.2,-999999999≤y∧y≤999999999) (fun s hs hi=>?_) ⟨by dsimp only;omega,rfl,by simp⟩ (Nat.zero_le _)) fun e he=>?_
  ·obtain ⟨hs1,hs2,hs3⟩:=hs;unfold FH;rw [hxd];refine T.ie (fun hl=>T.bd (jR _ _) fun r _=>?_) fun hl=>.mk ⟨hs1,by dsimp only;omega,hs3⟩
   cases r with
   | inr _=>exact .mk rfl
   | inl _ =>
    refine T.bd (t25 _ _ (by omega)) fun c hc=>T.bd (t28 c.1 (by omega)) fun r hr=>?_
    cases r with
    | inr _=>exact .mk rfl
    | inl y =>
     refine .ck (by omega) (.ck (by omega) (.mk ⟨⟨by dsimp only;omega,by simp [hs2],fun z hz=>?_⟩,rfl,by omega⟩));rcases List.mem_append.1 hz with h1 | h1
     ·exact hs3 z h1
     simp only [List.mem_singleton] at h1;subst h1;exact hr.1
  cases e with
  | inr z=>simp only at he;subst he;exact .mk ⟨h.up,fun _=>rfl⟩
  | inl r =>
   refine T.bd (jR _ _) fun u _=>?_
   cases u with
   | inr _=>exact .mk ⟨h.up,fun _=>rfl⟩
   | inl _ =>
    rw [hxd];refine T.bd (hw.2 k b r.2.2 r.1 h hk he.2 he.1) fun g hg=>?_
    cases g with
    | inl y=>exact .mk ⟨hg,fun h0=>absurd rfl h0⟩
    | inr e=>exact .mk ⟨h.up,fun _=>rfl⟩
def s0:aI:=⟨⟨0,0,⟨0,0,0,0,[]⟩,false,[],[],[],⟨[],[]⟩,false,[],⟨0,⟨[],[]⟩,⟨[],[]⟩,[],[],0,0,0,0⟩,false,[]⟩⟩
theorem VS:Si 0 s0.state:=⟨⟨by decide,by decide⟩,⟨by decide,by decide⟩,by decide,(fun p hp=>absurd hp (List.not_mem_nil)),by decide,by decide,by decide,by decide,by decide,by decide,⟨by decide,by decide⟩,⟨by decide,by decide⟩,by decide,⟨by decide,by decide⟩,⟨by decide,by decide⟩,by decide,(fun x hx=>absurd hx (List.not_mem_nil)),(fun x hx=>absurd hx (List.not_mem_nil)),fun h=>by cases h⟩
end T12
set_option maxHeartbeats 4000000
namespace T12
open Go Go.Proofs Pk
noncomputable def XK (r:aI×List Int) (x:aF):aI×List Int:=let q:=(NS r.1 x).getD (r.1,0);(q.1,r.2++[q.2])
noncomputable def gD (ls:List aF):aI×List Int:=ls.foldl XK (s0,[])
theorem qT (ls:List aF) (x:aF):gD (ls++[x])=XK (gD ls) x:=by unfold gD;rw [List.foldl_append];rfl
def rW (ls:List aF):Prop:=ls.length≤100∧∀ s∈ls,s.length≤1000000
theorem rW.init {ls:List aF} {x:aF} (h:rW (ls++[x])):rW ls∧ls.length≤99∧x.length≤1000000:=by
 have h1:=h.1;simp at h1;exact ⟨⟨by omega,fun s hs=>h.2 s (List.mem_append.2 (.inl hs))⟩,by omega,h.2 x (List.mem_append.2 (.inr (List.mem_singleton.2 rfl)))⟩
theorem rW.take {ls:List aF} (h:rW ls) (n:Nat):rW (ls.take n):=⟨by rw [List.length_take];have:=h.1;omega,fun s hs=>h.2 s (List.mem_of_mem_take hs)⟩
theorem uK {α:Type} {P:List α→Prop} (h0:P []) (h1:∀ l x,P l→P (l++[x])) (l:List α):P l:=by
 rw [← List.reverse_reverse l]
 induction l.reverse with
 | nil=>exact h0
 | cons x r ih=>rw [List.reverse_cons];exact h1 _ _ ih
theorem xH (ls:List aF):rW ls→Si ls.length (gD ls).1.state∧(gD ls).2.length=ls.length:=by
 refine uK (P:=fun ls=>rW ls→Si ls.length (gD ls).1.state∧(gD ls).2.length=ls.length) (fun _=>⟨VS,rfl⟩) (fun l x ih h=>?_) ls;obtain ⟨h1,h2,h3⟩:=h.init;obtain ⟨h4,h5⟩:=ih h1;obtain ⟨q,h6,h7⟩:=t21 h4 (by omega) h3;rw [qT,List.length_append];unfold XK;rw [h6];exact ⟨h7.1,by simp [h5]⟩
theorem yW {ls:List aF} {x:aF} (h:rW (ls++[x])):∃ q,NS (gD ls).1 x=some q∧(q.2≠0→q.1=(gD ls).1)∧gD (ls++[x])=(q.1,(gD ls).2++[q.2]):=by
 obtain ⟨h1,h2,h3⟩:=h.init;obtain ⟨q,h6,h7⟩:=t21 (xH ls h1).1 (by omega) h3;refine ⟨q,h6,h7.2,?_⟩;rw [qT];unfold XK;rw [h6];rfl
theorem e14 {ls:List aF} (h:rW ls):NT ls=some (gD ls):=by
 obtain ⟨r,h1,h2⟩:T (bG (uD ls) (0,s0,[])) fun e=>e=gD ls:=by
  refine T.ix ls.length (·.1) (fun (s:Nat×aI×List Int)=>s.2=gD (ls.take s.1)) (fun s hs hi=>?_) rfl (Nat.zero_le _);unfold uD;refine T.ie (fun hl=>T.bd (T.at (by omega)) fun x hx=>?_) fun hl=>.mk (by rw [hs,List.take_of_length_le (by omega)]);have he:ls.take (s.1+1)=ls.take s.1++[x]:=by rw [List.take_add_one,hx];rfl
  have h3:=h.take (s.1+1);rw [he] at h3;obtain ⟨q,h4,_,h5⟩:=yW h3;have h6:=(xH _ (h.take s.1)).2;rw [← hs] at h4 h5 h6;rw [List.length_take] at h6;refine T.bd (.ok h4) fun q' hq'=>?_;subst hq';exact .ck (by have:=h.1;omega) (.mk ⟨by dsimp only;rw [he,h5],rfl,by omega⟩)
 unfold NT;show (bG (uD ls) (0,s0,[])).bind _=_;rw [h1,h2];rfl
theorem mH {ls:List aF} (h:rW ls):(gD ls).2.length=ls.length:=(xH ls h).2
theorem GL (ls:List aF):rW ls→∀ n,(gD (ls.take n)).2=(gD ls).2.take n:=by
 refine uK (P:=fun ls=>rW ls→∀ n,(gD (ls.take n)).2=(gD ls).2.take n) (fun _ n=>by simp [gD]) (fun l x ih h n=>?_) ls;obtain ⟨q,h1,h2,h3⟩:=yW h;have hl:=mH h.init.1;by_cases hn:n≤l.length
 ·rw [List.take_append_of_le_length hn,ih h.init.1 n,h3];dsimp only;rw [List.take_append_of_le_length (by omega)]
 rw [List.take_of_length_le (by simp;omega),List.take_of_length_le (by rw [mH h];simp;omega)]
end T12
set_option maxHeartbeats 4000000
namespace T12
open Go Go.Proofs Pk
def Rt (ls:List aF):Prop:=ls.length≤60∧∀ s∈ls,s.length≤400
theorem Rt.lin {ls:List aF} (h:Rt ls):rW ls:=⟨by have:=h.1;omega,fun s hs=>by have:=h.2 s hs;omega⟩
theorem e19 {ls:List aF} (h:Rt ls):NP ls=some 0:=by
 have h0:NO ls KZ=some false:=by
  obtain ⟨r,h1,h2⟩:=pY ls KZ (fun s=>decide (400 < (s.length:Int))) (fun x hx=>rfl) (yD ls KZ) (fun i=>rfl);have h3:ls.any (fun s=>decide (400 < (s.length:Int)))=false:=by
   rw [List.any_eq_false];intro s hs;have:=h.2 s hs;simp;omega
  unfold NO SO;rw [h1];rcases h2 with ⟨z,rfl,h2⟩ | ⟨rfl,h2⟩
  ·rw [h3] at h2;cases h2
  rfl
 unfold NP;rw [if_neg (by have:=h.1;omega),h0];rfl
theorem e18 {ls:List aF} (h:Rt ls):m9 ls=some ((gD ls).1.state,(gD ls).2,0):=by
 unfold m9;rw [e19 h];simp only [Option.bind_some];rw [if_neg (by decide),e14 h.lin];rfl
theorem Rt.take {ls:List aF} (h:Rt ls) (n:Nat):Rt (ls.take n):=⟨by rw [List.length_take];have:=h.1;omega,fun s hs=>h.2 s (List.mem_of_mem_take hs)⟩
theorem T.run {ls:List aF} (h:Rt ls):T (m9 ls) fun r=>r=((gD ls).1.state,(gD ls).2,0):=.ok (e18 h)
end T12
set_option maxHeartbeats 4000000
namespace T12
open Go Go.Proofs Pk
theorem VT (x:UInt8):((x.toNat:Int)≠32)↔x≠32:=by
 constructor
 ·intro h e;subst e;exact h rfl
 intro h e;exact h (UInt8.toNat_inj.1 (by have:(32:UInt8).toNat=32:=rfl;omega))
theorem r22 (line:aF) (k:Nat) (hk:k≤line.length) (hl:line.length≤9223372036854775807):T (PU line (k:Int)) fun r=>∃ n:Nat,r=(n:Int)∧k≤n∧n≤line.length∧(∀ j,k≤j→j < n→line[j]?≠some 32)∧(n < line.length→line[n]?=some 32):=by
 unfold PU;refine T.bd (T.lp (fun s=>∃ n:Nat,s=(n:Int)∧k≤n∧n≤line.length∧∀ j,k≤j→j < n→line[j]?≠some 32) (fun s=>line.length - s.toNat) (Q:=fun r=>∃ n:Nat,r=(n:Int)∧k≤n∧n≤line.length∧(∀ j,k≤j→j < n→line[j]?≠some 32)∧(n < line.length→line[n]?=some 32)) (fun s hs=>?_) ⟨k,rfl,Nat.le_refl _,hk,fun j h1 h2=>by omega⟩) fun r hr=>.mk hr;obtain ⟨n,rfl,h1,h2,h3⟩:=hs;unfold CN;refine T.bd (Q:=fun t=>(t=true→n < line.length∧line[n]?≠some 32)∧(t=false→n < line.length→line[n]?=some 32)) (T.ie (fun h=>.ck (by omega) (T.bd (T.at (by omega)) fun x hx=>.mk ⟨fun ht=>⟨by omega,?_⟩,fun ht _=>?_⟩)) fun h=>.mk ⟨by simp,fun _ h'=>by omega⟩) fun t ht=>T.ie (fun htt=>.ck (by have:=(ht.1 htt).1;omega) (.mk ⟨⟨n+1,by omega,by omega,by have:=ht.1 htt;omega,fun j h4 h5=>?_⟩,by have:=ht.1 htt;omega⟩)) fun htf=>.mk ⟨n,rfl,h1,h2,h3,ht.2 (by simpa using htf)⟩
 ·rw [Int.toNat_natCast] at hx;rw [hx];intro e;injection e with e;exact (VT x).1 (by simpa using ht) e
 ·rw [Int.toNat_natCast] at hx;rw [hx];have:¬((x.toNat:Int)≠32):=by simpa using ht
  rw [VT] at this;simpa using this
 by_cases hj:j=n
 ·subst hj;exact (ht.1 htt).2
 exact h3 j h4 (by omega)
theorem r23 (w:aF):T (PV w) fun r=>r.1≤4:=by
 unfold PV
 repeat' first
  | exact .mk (by decide)
  | exact .mk trivial
  | refine T.ie (fun _=>?_) fun _=>?_
  | refine T.bd (Q:=fun _=>True) ?_ fun _ _=>?_
abbrev KE:aF:=[111,114,100,101,114]
theorem aGb:PV KE=some (1,false):=by decide
theorem LS {i:Nat} (h:i≤9):10 ^ i≤1000000000:=Nat.le_trans (Nat.pow_le_pow_right (by decide) h) (by decide)
theorem aGc (t:aF) (h9:t.length≤9):T (bG (yC t) (0,0)) fun e=>(t.all CI=true∧e=.inl (oY t 0:Int))∨(t.all CI=false∧e=.inr (0,false)):=by
 refine T.ix t.length (·.1) (fun s=>(t.take s.1).all CI=true∧s.2=(oY (t.take s.1) 0:Int)) (fun s hs hi=>?_) ⟨rfl,rfl⟩ (Nat.zero_le _);have hv:=rH (t.take s.1) 0 hs.1;have hp:=LS (i:=(t.take s.1).length) (by rw [List.length_take];omega);unfold yC;refine T.ie (fun hl=>T.bd (Q:=fun c=>∀ x,t[s.1]?=some x→c=!CI x) (T.bd (T.at (by omega)) fun x hx=>T.ie (fun h=>.mk fun y hy=>?_) fun h=>.mk fun y hy=>?_) fun c hc=>T.ie (fun hct=>.mk (.inr ⟨?_,rfl⟩)) fun hcf=>.ck (by omega) (T.bd (T.at (by omega)) fun x hx=>?_)) fun hl=>.mk (.inl ?_)
 ·rw [hx] at hy;injection hy with hy;subst hy;simp only [CI,Bool.true_eq,Bool.not_eq_true',decide_eq_false_iff_not];omega
 ·rw [hx] at hy;injection hy with hy;subst hy;unfold CI;by_cases h0:(57:Int) < (x.toNat:Int)
  ·rw [decide_eq_true h0,decide_eq_false (by omega)];rfl
  rw [decide_eq_false h0,decide_eq_true (by omega)];rfl
 ·have hi':s.1 < t.length:=by omega
  have:=hc _ (List.getElem?_eq_getElem hi');rw [hct] at this;rw [List.all_eq_false];exact ⟨t[s.1],List.getElem_mem hi',by simpa using this.symm⟩
 ·have hd:=hc x hx;have hd':CI x=true:=by
   cases h:CI x with
   | true=>rfl
   | false=>rw [h] at hd;exact absurd hd hcf
  have hb:=hd';simp only [CI,decide_eq_true_eq] at hb;have h2:(t.take (s.1+1))=t.take s.1++[x]:=by rw [List.take_add_one,hx];rfl
  refine .ck (by omega) (.ck (by omega) (.mk ⟨⟨?_,?_⟩,rfl,by omega⟩))
  ·dsimp only;rw [h2,List.all_append,hs.1];simp [hd']
  dsimp only;rw [h2,tC,hs.2];simp only [oY,List.foldl_cons,List.foldl_nil];omega
 have:t.take s.1=t:=List.take_of_length_le (by omega);rw [this] at hs;exact ⟨hs.1,by rw [hs.2]⟩
theorem r24 (s:aF):T (KY s) fun _=>True:=by
 unfold KY;refine T.bd (Q:=fun t=>t=true→1≤s.length) (T.ie (fun h=>T.bd (T.at (by omega)) fun x _=>.mk fun _=>by omega) fun _=>.mk (by simp)) fun t ht=>T.bd (Q:=fun _=>True) (T.ie (fun h=>.ck (ht h) (.mk trivial)) fun _=>.mk trivial) fun u _=>T.bd (Q:=fun c=>c=false→u.length≤9) (T.ie (fun _=>.mk (by simp)) fun h0=>T.ie (fun _=>.mk (by simp)) fun h9=>T.bd (T.at (by omega)) fun x _=>T.ie (fun _=>T.ie (fun _=>.mk (by simp)) fun _=>.mk fun _=>by omega) fun _=>.mk fun _=>by omega) fun c hc=>T.ie (fun _=>.mk trivial) fun hf=>?_;have h9:=hc (by simpa using hf);refine T.bd (aGc u h9) fun e he=>?_;rcases he with ⟨h1,rfl⟩ | ⟨h1,rfl⟩
 ·have hv:=rH u 0 h1;have hp:=LS h9;exact T.bd (Q:=fun _=>True) (T.ie (fun _=>.ck (by omega) (.mk trivial)) fun _=>.mk trivial) fun _ _=>.mk trivial
 exact .mk trivial
end T12
set_option maxHeartbeats 4000000
namespace T12
open Go Go.Proofs Pk
def Ord (line:aF) (n:Int):Prop:=∃ d,line=KE++32::d∧(32:UInt8)∉d∧KY d=some (n,true)
theorem r11 (line:aF) (hl:line.length≤9223372036854775807):T (SN line) fun r=>r.2.2.2=true→r.1=KE→∃ n,r.2.1=[n]∧Ord line n:=by
 unfold SN;refine T.bd (r22 line 0 (Nat.zero_le _) hl) fun r1 h1=>?_;obtain ⟨n0,rfl,_,h2,h3,h4⟩:=h1;refine .ck (by omega) (.ck (by omega) (T.bd (Q:=fun r=>r.1≤4∧(line.take n0=KE→r=(1,false))) ?_ fun r8 h8=>?_))
 ·obtain ⟨q,h5,h6⟩:=r23 (line.take n0);refine ⟨q,h5,h6,fun hw=>?_⟩;rw [hw,aGb] at h5;injection h5 with h5;exact h5.symm
 refine T.ie (fun _=>.mk (by simp)) fun hr0=>T.bd (Q:=fun e=>match e with | .inl t=>(∃ a:Nat,t.1=(a:Int)∧a≤line.length)∧(r8.1=1→∃ (a:Nat) (v:Int),t=((a:Int),[v])∧n0 < a∧n0 < line.length∧a≤line.length∧(∀ j,n0+1≤j→j < a→line[j]?≠some 32)∧KY ((line.drop (n0+1)).take (a - (n0+1)))=some (v,true)) | .inr z=>z.2.2.2=false) (T.ix r8.1.toNat (·.1) (fun s=>(∃ a:Nat,s.2.1=(a:Int)∧a≤line.length)∧s.2.2.length=s.1∧(s.1=0→s.2.1=(n0:Int)∧s.2.2=[])∧(s.1=1→∃ (a:Nat) (v:Int),s.2=((a:Int),[v])∧n0 < a∧n0 < line.length∧a≤line.length∧(∀ j,n0+1≤j→j < a→line[j]?≠some 32)∧KY ((line.drop (n0+1)).take (a - (n0+1)))=some (v,true))) (fun s hs hi=>?_) ⟨⟨n0,rfl,h2⟩,rfl,fun _=>⟨rfl,rfl⟩,fun h=>by cases h⟩ (Nat.zero_le _)) fun e he=>?_
 ·obtain ⟨⟨a,ha,hal⟩,hll,hz,ho⟩:=hs;unfold CO;refine T.ie (fun hlt=>T.ie (fun _=>.mk rfl) fun hne=>.ck (by omega) ?_) fun hge=>.mk ⟨⟨a,ha,hal⟩,fun h1=>?_⟩
  ·rw [ha,show ((a:Int)+1)=((a+1:Nat):Int) by omega];rw [ha] at hne;refine T.bd (r22 line (a+1) (by omega) hl) fun r2 h5=>?_;obtain ⟨b,rfl,h6,h7,h8',_⟩:=h5;refine .ck (by omega) (.ck (by omega) (.ck (by omega) ?_));obtain ⟨q,h9,_⟩:=r24 ((line.drop ((a+1:Nat):Int).toNat).take ((b:Int).toNat - ((a+1:Nat):Int).toNat));refine T.bd (.ok h9) fun q' hq=>?_;subst hq;refine T.ie (fun hq=>.ck (by omega) (.ck (by omega) (.mk ⟨⟨⟨b,rfl,h7⟩,by simp [hll],fun h=>absurd h (Nat.succ_ne_zero _),fun h=>?_⟩,rfl,by clear ho;omega⟩))) fun _=>.mk rfl;have h0:s.1=0:=by dsimp only at h;omega
   obtain ⟨hC,hB⟩:=hz h0;obtain rfl:a=n0:=by rw [ha] at hC;omega
   refine ⟨b,q'.1,by rw [hB];rfl,by omega,by omega,h7,h8',?_⟩;rw [Int.toNat_natCast,Int.toNat_natCast] at h9;rw [h9,← hq]
  have h0:s.1=1:=by omega
  obtain ⟨a',v,h5,h6⟩:=ho h0;exact ⟨a',v,h5,h6⟩
 cases e with
 | inr z=>simp only at he;exact .mk fun h=>by rw [he] at h;cases h
 | inl t =>
  obtain ⟨⟨a,ha,hal⟩,hone⟩:=he;refine T.ie (fun hq=>T.ie (fun hq2=>?_) fun hq2=>.mk fun _ hw=>?_) fun _=>.mk (by simp)
  ·have h9:decide (t.1 < (line.length:Int))=true:=by rw [hq2] at hq;simpa using hq
   simp only [decide_eq_true_eq] at h9;refine .ck (by omega) (.ck (by omega) (.ck (by omega) (.mk fun _ hw=>?_)));rw [Int.toNat_natCast] at hw;have:=h8.2 hw;rw [this] at hq2;cases hq2
  dsimp only at hw;rw [Int.toNat_natCast] at hw;have h9:=h8.2 hw;obtain ⟨a',v,h5,h6,h7,hC,hB,hE⟩:=hone (by rw [h9]);have hl2:¬(t.1 < (line.length:Int)):=by
   intro h;rw [h9,decide_eq_true h] at hq;simp at hq
  rw [h5] at hl2;have hae:a'=line.length:=by dsimp only at hl2;omega
  refine ⟨v,by rw [h5],line.drop (n0+1),?_,?_,?_⟩
  ·have hA:=h4 (by omega);rw [List.getElem?_eq_getElem h7] at hA;injection hA with hA;have hF:=List.drop_eq_getElem_cons h7;rw [hA] at hF;rw [← hw,← hF,List.take_append_drop]
  ·intro hm;obtain ⟨j,hj⟩:=List.mem_iff_getElem?.1 hm;rw [List.getElem?_drop] at hj;exact hB (n0+1+j) (by omega) (by have:=(List.getElem?_eq_some_iff.1 hj).1;omega) hj
  rw [hae,List.take_of_length_le (by rw [List.length_drop];omega)] at hE;exact hE
theorem r6 (ls:List aF) (h:∀ s∈ls,s.length≤9223372036854775807):T (m6 ls) fun _=>True:=by
 unfold m6;refine T.bd (Q:=fun _=>True) (T.ix ls.length (·.1) (fun _=>True) (fun s _ hi=>?_) trivial (Nat.zero_le _)) fun e _=>T.bd (Q:=fun _=>True) ?_ fun _ _=>.mk trivial
 ·unfold NM;refine T.ie (fun hl=>T.bd (T.mem (by omega)) fun x hx=>T.bd (r11 x (h x hx)) fun r _=>T.bd (Q:=fun _=>True) (T.ie (fun _=>.mk trivial) fun _=>.mk trivial) fun _ _=>T.bd (Q:=fun _=>True) (T.ie (fun _=>.mk trivial) fun _=>.mk trivial) fun _ _=>.mk ⟨trivial,rfl,by omega⟩) fun _=>.mk trivial
 repeat' first
  | exact .mk trivial
  | refine T.ie (fun _=>?_) fun _=>?_
theorem r7 (ls:List aF):T (m7 ls) fun r=>r=true→Rt ls:=by
 unfold m7;refine T.bd (Q:=fun e=>match e with | .inl _=>∀ s∈ls,s.length≤400 | .inr z=>z=false) (T.ix ls.length id (fun i=>∀ s∈ls.take i,s.length≤400) (fun i hI hi=>?_) (by simp) (Nat.zero_le _)) fun e he=>?_
 ·unfold NN;refine T.ie (fun hl=>T.bd (T.at (by omega)) fun x hx=>T.ie (fun _=>.mk rfl) fun h4=>.mk ⟨fun s hs=>?_,rfl,by simpa using hl⟩) fun hl=>.mk (by simp only [id] at hi;rw [List.take_of_length_le (by omega)] at hI;exact hI);rw [List.take_add_one,hx] at hs;rcases List.mem_append.1 hs with h | h
  ·exact hI s h
  simp at h;subst h;omega
 cases e with
 | inr z=>simp only at he;subst he;exact .mk (by simp)
 | inl _=>exact .mk fun h=>⟨by have:=of_decide_eq_true h;omega,he⟩
theorem r10 {ls:List aF} (h:ls.length≤1000):QD ls=some ls:=by
 unfold QD;rw [kM (by simp;omega)];rfl
end T12
set_option maxHeartbeats 4000000
namespace T12
open Go Go.Proofs Pk
noncomputable def er (ls:List aF) (k:Nat):Int:=((gD ls).2[k]?).getD 0
def del (ls:List aF) (k:Nat):List aF:=ls.take k++ls.drop (k+1)
theorem qU {ls:List aF} (h:rW ls) {k:Nat} (hk:k < ls.length):(gD ls).2[k]?=some (er ls k):=by
 unfold er;rw [List.getElem?_eq_getElem (by rw [mH h];exact hk)];rfl
theorem rX {ls:List aF} (h:rW ls) {n k:Nat} (hk:k < n) (hn:k < ls.length):(gD (ls.take n)).2[k]?=some (er ls k):=by
 rw [GL ls h,List.getElem?_take_of_lt hk,qU h hn]
theorem GM (ls:List aF) {n k:Nat} (hk:k≤n) (hn:n < ls.length):(ls.take (n+1)).take k++(ls.take (n+1)).drop (k+1)=(del ls k).take n:=by
 unfold del;rw [List.take_take,Nat.min_eq_left (by omega),List.take_append,List.take_take,Nat.min_eq_right (by omega),List.length_take,Nat.min_eq_left (by omega:k≤ls.length),List.drop_take,show n+1 - (k+1)=n - k by omega]
theorem yX {ls:List aF} {k:Nat} (hk:k < ls.length):(del ls k).length=ls.length - 1:=by unfold del;simp;omega
theorem yY {ls:List aF} (h:rW ls) (k:Nat):rW (del ls k):=⟨by have:=h.1;unfold del;simp;omega,fun s hs=>by
 rcases List.mem_append.1 hs with h1 | h1
 ·exact h.2 s (List.mem_of_mem_take h1)
 exact h.2 s (List.mem_of_mem_drop h1)⟩
noncomputable def yZ (ls:List aF) (n k:Nat):Bool:=decide (er ls n≠0)&&(decide (er ls k=0)&&decide (er (del ls k) (n - 1)=0))
theorem e25 {ls:List aF} (h:rW ls) {n k:Nat} (hk:k < n) (hn:n < ls.length):TM (k:Int) ls (n:Int)=some (decide (er (del ls k) (n - 1)=0)):=by
 have hl:=h.1;have h0:NQ (ls.take (n+1))=some (ls.take (n+1)):=by
  unfold NQ bY;rw [if_pos (by simp;omega)];rfl
 unfold TM;rw [kM (by omega),kM (by omega),kM (by omega),show ((n:Int)+1).toNat=n+1 by omega,h0,Option.bind_some,kM (by omega),kM (by rw [List.length_take];omega),show ((k:Int)+1).toNat=k+1 by omega,Int.toNat_natCast,GM ls (by omega) hn,e14 ((yY h k).take n),Option.bind_some,kM (by omega),kM (by omega),show ((n:Int) - 1).toNat=n - 1 by omega,rX (yY h k) (by omega) (by rw [yX (by omega)];omega)];rfl
theorem e13 {ls:List aF} (h:Rt ls) {n:Nat} (hn:n < ls.length):m16 ls (n:Int)=some (((List.range n).filter (yZ ls n)).map (fun (i:Nat)=>(i:Int)),0):=by
  have hl:=h.1;have hL:=h.lin;obtain ⟨r,h1,h2⟩:T (bG (yM (n:Int) (gD (ls.take (n+1))) ls) (0,([]:List Int))) fun e=>e=((List.range n).filter (yZ ls n)).map (fun (i:Nat)=>(i:Int)):=by
    refine T.ix n (·.1) (fun s=>s.2=((List.range s.1).filter (yZ ls n)).map (fun (i:Nat)=>(i:Int))) (fun s hs hi=>?_) rfl (Nat.zero_le _);have hsl:s.2.length≤60:=by
      rw [hs,List.length_map];exact Nat.le_trans (List.length_filter_le _ _) (by rw [List.length_range];omega)
    unfold yM
    refine T.ie (fun hlt => ?_) fun hlt => .mk (by have:s.1=n := by omega
                                                   rw [hs,this])
    refine T.bd (Q:=fun t=>t=yZ ls n s.1) (.ck (by omega) (T.bd (.ok (rX hL (by omega) hn)) fun x hx=>?_)) fun t ht=>T.bd (Q:=fun t=>t=((List.range (s.1+1)).filter (yZ ls n)).map (fun (i:Nat)=>(i:Int))) (T.ie (fun h=>.ck (by omega) (.mk ?_)) fun h=>.mk ?_) fun t ht=>.ck (by omega) (.mk ⟨ht,rfl,by omega⟩)
    · refine T.ie (fun h0=>T.bd (.ok (rX hL (by omega) (by omega))) fun y hy=>T.ie (fun hy0=>T.bd (.ok (e25 hL (by omega) hn)) fun z hz=>.mk ?_) fun hy0=>.mk ?_) fun h0=>.mk ?_
      · subst hx hy hz;simp at h0;simp [yZ,h0,hy0]
      · subst hx hy;simp [yZ,hy0]
      subst hx;simp at h0;simp [yZ,h0]
    · rw [List.range_succ,List.filter_append,List.map_append,← hs];rw [ht] at h;simp [h]
    rw [List.range_succ,List.filter_append,List.map_append,← hs];rw [ht] at h;simp at h;simp [h]
  have h3:tI (n:Int) 0 ((ls.length:Int) - 1)=some true:=by
    rw [e20];congr 1;rw [decide_eq_true_eq];omega
  unfold m16;rw [e19 h,Option.bind_some,if_neg (by decide),h3,Option.bind_some,if_pos rfl,kM (by omega),kM (by omega),kM (by omega),show ((n:Int)+1).toNat=n+1 by omega,e14 (hL.take _),Option.bind_some,h1,h2];rfl
noncomputable def mI (ls:List aF) (n:Nat):List Int:=((List.range n).filter (yZ ls n)).map (fun (i:Nat)=>(i:Int))
theorem GN {ls:List aF} {n:Nat} (h:er ls n=0):mI ls n=[]:=by
 unfold mI;rw [List.map_eq_nil_iff,List.filter_eq_nil_iff];intro k _;simp [yZ,h]
theorem pI {ls:List aF} {n:Nat} {x:Int}:x∈mI ls n↔∃ k:Nat,x=(k:Int)∧k < n∧yZ ls n k=true:=by
 unfold mI;simp only [List.mem_map,List.mem_filter,List.mem_range];constructor
 ·rintro ⟨k,⟨h1,h2⟩,rfl⟩;exact ⟨k,rfl,h1,h2⟩
 rintro ⟨k,rfl,h1,h2⟩;exact ⟨k,⟨h1,h2⟩,rfl⟩
theorem GO (ls:List aF) (n:Nat):(mI ls n).Pairwise (· < ·):=by
 unfold mI;exact List.pairwise_map.2 (((List.pairwise_lt_range (n:=n)).filter _).imp fun h=>by omega)
theorem AO {ls:List aF} {n i:Nat} {x y:Int} (hx:(mI ls n)[i]?=some x) (hy:(mI ls n)[i+1]?=some y):x < y:=by
 obtain ⟨h1,rfl⟩:=List.getElem?_eq_some_iff.1 hx;obtain ⟨h2,rfl⟩:=List.getElem?_eq_some_iff.1 hy;exact List.pairwise_iff_getElem.1 (GO ls n) i (i+1) h1 h2 (by omega)
theorem GP {ls:List aF} {n m:Nat} (hm:m < n) (hn:er ls n≠0):(mI ls n).any (fun x=>decide (x=(m:Int)))=(decide (er ls m=0)&&decide (er (del ls m) (n - 1)=0)):=by
 rw [Bool.eq_iff_iff,List.any_eq_true];constructor
 ·rintro ⟨x,hx,h⟩;obtain ⟨k,rfl,h1,h2⟩:=pI.1 hx;simp only [decide_eq_true_eq] at h;obtain rfl:k=m:=by omega
  simp [yZ] at h2;simp [h2.2]
 intro h;exact ⟨_,pI.2 ⟨m,rfl,hm,by simp [yZ,hn];simpa using h⟩,by simp⟩
theorem aGd {ls:List aF} (h:Rt ls) {n:Nat} (hn:n < ls.length):m16 ls (n:Int)=some (mI ls n,0):=e13 h hn
theorem PL {ls:List aF} (h:Rt ls) (k:Nat):Rt (del ls k):=⟨by have:=h.1;unfold del;simp;omega,fun s hs=>by
 rcases List.mem_append.1 hs with h1 | h1
 ·exact h.2 s (List.mem_of_mem_take h1)
 exact h.2 s (List.mem_of_mem_drop h1)⟩
end T12
set_option maxHeartbeats 4000000
namespace T12
open Go Go.Proofs Pk
theorem PM {ls:List aF} (hR:Rt ls) {k:Nat} (hk:k < ls.length) (r0:List Int×Int) (h1:r0.1=mI ls k) (r1:cY×List Int×Int) (h2:r1.2.1=(gD ls).2) (at_:Int) (hat:at_%(ls.length:Int)=(k:Int)):T (bG (JK r0 at_ ls r1) 0) fun e=>e=.inl ():=by
 have hL:=hR.lin;refine T.ix (mI ls k).length id (fun _=>True) (fun s _ hi=>?_) trivial (Nat.zero_le _);unfold JK;rw [h1,h2,hat];refine T.ie (fun hl=>?_) fun _=>.mk rfl;have hl':s < (mI ls k).length:=by omega
 refine T.bd (Q:=fun t=>t=false) (T.bd (T.at hl') fun x hx=>?_) fun t ht=>T.ie (fun h=>by rw [ht] at h;cases h) fun _=>.mk ⟨trivial,rfl,by simpa using hl'⟩;obtain ⟨i,rfl,hik,hb⟩:=pI.1 (List.mem_of_getElem? hx);refine T.ie (fun h=>by omega) fun _=>T.ie (fun h=>by omega) fun _=>.ck (by omega) (T.bd (.ok (show (gD ls).2[((i:Int)).toNat]?=some (er ls i) from qU hL (by omega))) fun y hy=>?_);subst hy;have h0:er ls i=0:=by simp [yZ] at hb;exact hb.2.1
 refine T.ie (fun h=>absurd h0 h) fun _=>T.ie (fun hs=>?_) fun _=>.mk rfl;have hs1:((s:Int) - 1).toNat=s - 1:=by omega
 rw [hs1];refine T.bd (T.at (by omega)) fun z hz=>.mk ?_;have:=AO (i:=s - 1) hz (by rw [show s - 1+1=s by omega];exact hx);exact decide_eq_false (by omega)
theorem PN (r0:List Int×Int) (other at_:Int) (ls:List aF) (j:Nat) (hj:other%(at_%(ls.length:Int))=(j:Int)):T (bG (JL r0 other at_ ls) (0,false)) fun e=>e=r0.1.any (fun x=>decide (x=(j:Int))):=by
 refine T.ix r0.1.length (·.1) (fun s=>s.2=(r0.1.take s.1).any (fun x=>decide (x=(j:Int)))) (fun s hs hi=>?_) (by simp) (Nat.zero_le _);unfold JL;rw [hj];refine T.ie (fun hl=>?_) fun hl=>.mk (by rw [hs,List.take_of_length_le (by omega)]);have hl':s.1 < r0.1.length:=by omega
 refine T.bd (Q:=fun t=>t=(r0.1.take (s.1+1)).any (fun x=>decide (x=(j:Int)))) (T.ie (fun h=>.mk ?_) fun h=>T.bd (T.at hl') fun x hx=>.mk ?_) fun t ht=>.mk ⟨ht,rfl,by simpa using hl'⟩
 ·rw [List.take_add_one,List.any_append,← hs,h];rfl
 rw [List.take_add_one,List.any_append,← hs,hx];simp only [Bool.not_eq_true] at h;rw [h];simp
theorem aGe (awk:m8=some true) (ls:List aF) (at_ other:Int) (ha:0≤at_∧at_≤255) (hb:0≤other∧other≤255) (hls:∀ s∈ls,s.length≤9223372036854775807):m5 ls at_ other=some true:=by
 suffices h:T (m5 ls at_ other) (fun r=>r=true) by obtain ⟨_,h,rfl⟩:=h;exact h
 have hw:T m8 (fun r=>r=true):=⟨true,awk,rfl⟩;unfold m5;refine T.bd (Q:=fun t=>t=false→Rt ls∧0 < ls.length) (T.bd (r6 ls hls) fun r _=>T.ie (fun _=>T.bd (r7 ls) fun r h=>T.ie (fun h1=>.mk fun h2=>⟨h h1,by simp at h2;exact List.length_pos_iff.2 (by simpa using h2)⟩) fun _=>.mk (by simp)) fun _=>.mk (by simp)) fun t ht=>T.ie (fun _=>T.bd hw fun r hr=>.mk hr) fun hf=>?_;obtain ⟨hR,hpos⟩:=ht (by simpa using hf);have hL:=hR.lin;have h4:=hR.1;obtain ⟨k,hk,hkl⟩:∃ k:Nat,at_%(ls.length:Int)=(k:Int)∧k < ls.length:=⟨(at_%(ls.length:Int)).toNat,by have:=Int.emod_nonneg at_ (b:=(ls.length:Int)) (by omega);omega,by have:=Int.emod_lt_of_pos at_ (b:=(ls.length:Int)) (by omega);omega⟩;refine .ck (by omega) (.ck (by omega) (T.bd (.ok (r10 (by omega))) fun a1 h1=>?_));subst h1;refine T.bd (T.run hR) fun a2 h2=>T.bd (.ok (show m16 a1 (at_%(a1.length:Int))=some (mI a1 k,0) by rw [hk];exact aGd hR hkl)) fun a3 h3=>?_;have hlen:=mH hL;refine T.bd (Q:=fun t=>t=false) ?_ fun t ht=>T.ie (fun h=>by rw [ht] at h;cases h) fun _=>?_
 ·subst h2 h3;rw [hk,Int.toNat_natCast];refine T.ie (fun h=>absurd rfl h) fun _=>T.ie (fun h=>absurd rfl h) fun _=>T.ie (fun h=>absurd (by rw [hlen]) h) fun _=>T.bd (.ok (qU hL hkl)) fun y hy=>?_;subst hy;exact T.ie (fun h=>.mk (by rw [GN h];rfl)) fun _=>.mk rfl
 refine T.bd (PM hR hkl a3 (by rw [h3]) a2 (by rw [h2]) at_ hk) fun e he=>?_;subst he;subst h2 h3;dsimp only;rw [hk,Int.toNat_natCast];refine T.bd (Q:=fun t=>t=false→0 < k∧er a1 k≠0) (T.ie (fun _=>.mk (by simp)) fun h=>T.bd (.ok (qU hL hkl)) fun y hy=>.mk (fun h2=>⟨by omega,by rw [← hy];exact of_decide_eq_false h2⟩)) fun t ht=>T.ie (fun _=>T.bd hw fun r hr=>.mk hr) fun hf=>?_;obtain ⟨hk0,hek⟩:=ht (by simpa using hf);obtain ⟨j,hj,hjk⟩:∃ j:Nat,other%(k:Int)=(j:Int)∧j < k:=⟨(other%(k:Int)).toNat,by have:=Int.emod_nonneg other (b:=(k:Int)) (by omega);omega,by have:=Int.emod_lt_of_pos other (b:=(k:Int)) (by omega);omega⟩;refine .ck (by omega) (.ck (by omega) ?_);rw [hj,show ((j:Int)+1).toNat=j+1 by omega,Int.toNat_natCast];have hdR:=PL hR j;have hdl:(del a1 j).length=a1.length - 1:=yX (by omega);have hdn:=mH hdR.lin;refine T.bd (Q:=fun t=>t=((gD (del a1 j)).2,(0:Int))) (.ck (by omega) (.ck (by omega) (T.bd (.ok (r10 (by rw [List.length_take];omega))) fun b1 hb1=>?_))) fun t ht=>?_
 ·subst hb1;refine .ck (by rw [List.length_take,List.length_drop];omega) (T.bd (T.run hdR) fun b2 hb2=>.mk ?_);rw [hb2];rfl
 subst ht;refine T.bd (Q:=fun t=>t=false) (T.ie (fun h=>absurd rfl h) fun _=>.mk (decide_eq_false (by dsimp only;omega))) fun t ht=>T.ie (fun h=>by rw [ht] at h;cases h) fun _=>?_;refine T.bd (PN _ other at_ a1 j (by rw [hk];exact hj)) fun e he=>?_;dsimp only at he;refine T.bd (Q:=fun t=>t=true) (T.bd (.ok (qU hL (k:=j) (by omega))) fun y hy=>?_) fun t ht=>.mk ht;subst hy;have hany:e=(decide (er a1 j=0)&&decide (er (del a1 j) (k - 1)=0)):=by rw [he];exact GP hjk hek
 refine T.ie (fun h0=>.ck (by omega) ?_) fun h0=>T.ie (fun _=>T.bd hw fun r hr=>.mk hr) fun h=>absurd (by rw [hany,decide_eq_false h0];rfl) h;rw [show ((k:Int) - 1).toNat=k - 1 by omega];refine T.bd (.ok (qU hdR.lin (k:=k - 1) (by omega))) fun z hz=>?_;subst hz;exact T.ie (fun _=>T.bd hw fun r hr=>.mk hr) fun h=>absurd (by rw [hany,decide_eq_true h0];simp) h
end T12
