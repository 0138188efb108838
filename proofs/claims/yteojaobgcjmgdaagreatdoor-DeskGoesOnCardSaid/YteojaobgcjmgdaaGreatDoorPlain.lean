/-
  The plain laws: what the models of a session come to.
-/
import Derived.Test.YteojaobgcjmgdaaGreatDoorMade
import Derived.Test.YteojaobgcjmgdaaGreatDoorKitSix
import Derived.Lib.AtoiAllCases
set_option linter.all false
set_option maxRecDepth 100000
namespace T12
theorem YQ:m7=some true:=by kernel_rfl
end T12
set_option maxHeartbeats 4000000
namespace T12
open Go Go.Proofs Pk
def T {α:Type} (o:Option α) (P:α→Prop):Prop:=∃ v,o=some v∧P v
theorem T.mk {α:Type} {v:α} {P:α→Prop} (h:P v):T (some v) P:=⟨v,rfl,h⟩
theorem T.bd {α β:Type} {o:Option α} {f:α→Option β} {Q:α→Prop} {P:β→Prop} (h:T o Q) (k:∀ v,Q v→T (f v) P):T (o.bind f) P:=by
 obtain ⟨v,rfl,hv⟩:=h;exact k v hv
theorem T.mono {α:Type} {o:Option α} {Q P:α→Prop} (h:T o Q) (k:∀ v,Q v→P v):T o P:=by
 obtain ⟨v,h1,hv⟩:=h;exact ⟨v,h1,k v hv⟩
theorem T.ck {α:Type} {c:Prop} [Decidable c] {o:Option α} {P:α→Prop} (hc:c) (h:T o P):T (bN c o) P:=by
 unfold bN;rw [if_pos hc];exact h
theorem T.ie {α:Type} {c:Prop} [Decidable c] {a b:Option α} {P:α→Prop} (h1:c→T a P) (h2:¬c→T b P):T (if c then a else b) P:=by
 by_cases h:c
 ·rw [if_pos h];exact h1 h
 rw [if_neg h];exact h2 h
theorem T.at {α:Type} {l:List α} {i:Nat} (h:i < l.length):T (l[i]?) (fun x=>l[i]?=some x):=⟨l[i],List.getElem?_eq_getElem h,List.getElem?_eq_getElem h⟩
theorem T.mem {α:Type} {l:List α} {i:Nat} (h:i < l.length):T (l[i]?) (fun x=>x∈l):=⟨l[i],List.getElem?_eq_getElem h,List.getElem_mem h⟩
theorem T.lp {σ ε:Type} {step:σ→Option (σ⊕ε)} (I:σ→Prop) (μ:σ→Nat) {Q:ε→Prop} (h:∀ s,I s→T (step s) (fun r=>match r with | .inl s'=>I s'∧μ s' < μ s | .inr e=>Q e)) {s0:σ} (h0:I s0):T (bF step s0) Q:=by
 have:∀ n s,μ s=n→I s→T (bF step s) Q:=by
  intro n
  induction n using Nat.strongRecOn with
  | _ n ih =>
   intro s hn hI;obtain ⟨v,h1,h2⟩:=h s hI
   cases v with
   | inl s'=>rw [cG h1];exact ih (μ s') (by have:=h2.2;omega) s' rfl h2.1
   | inr e=>rw [dF h1];exact ⟨e,rfl,h2⟩
 exact this _ s0 rfl h0
theorem T.ix {σ ε:Type} {step:σ→Option (σ⊕ε)} (n:Nat) (ix:σ→Nat) (I:σ→Prop) {Q:ε→Prop} (h:∀ s,I s→ix s≤n→T (step s) (fun r=>match r with | .inl s'=>I s'∧ix s'=ix s+1∧ix s < n | .inr e=>Q e)) {s0:σ} (h0:I s0) (h1:ix s0≤n):T (bF step s0) Q :=
 T.lp (fun s=>I s∧ix s≤n) (fun s=>n - ix s) (fun s hs=>(h s hs.1 hs.2).mono fun v hv=>by
  cases v with
  | inl s'=>have:=hv.2;exact ⟨⟨hv.1,by omega⟩,by omega⟩
  | inr e=>exact hv) ⟨h0,h1⟩
theorem T.rc {β:Type} {F:Nat→Option β} {P:β→Prop} (h:T (F 100000) P):T (vU F) P:=by
 obtain ⟨v,h1,hv⟩:=h;exact ⟨v,by unfold vU;rw [h1];rfl,hv⟩
theorem T.eq {α:Type} {o:Option α} {v:α} {P:α→Prop} (h:o=some v) (hp:P v):T o P:=⟨v,h,hp⟩
theorem T.ok {α:Type} {o:Option α} {v:α} (h:o=some v):T o (fun r=>r=v):=⟨v,h,rfl⟩
theorem T.get {α:Type} {o:Option α} {P:α→Prop} {d:α} (h:T o P):o=some (o.getD d):=by
 obtain ⟨v,rfl,_⟩:=h;rfl
theorem idx {α:Type} (l:List α) (p:α→Bool) (step:Nat→Option (Nat⊕(Unit⊕Int))) (h:∀ (i:Nat) (x:α),l[i]?=some x→step i=if p x then some (.inr (.inr (i:Int))) else some (.inl (i+1))) (he:step l.length=some (.inr (.inl ()))) :
  T (bF step 0) (fun e=>(∃ z:Nat,e=.inr (z:Int)∧l.any p=true)∨(e=.inl ()∧l.any p=false)):=by
 have:∀ n i,l.length - i=n→i≤l.length→T (bF step i) (fun e=>(∃ z:Nat,e=.inr (z:Int)∧(l.drop i).any p=true)∨(e=.inl ()∧(l.drop i).any p=false)):=by
  intro n
  induction n with
  | zero =>
   intro i h1 h2;obtain rfl:i=l.length:=by omega
   rw [dF he,List.drop_length];exact ⟨_,rfl,.inr ⟨rfl,rfl⟩⟩
  | succ n ih =>
   intro i h1 h2;have hi:i < l.length:=by omega
   rw [List.drop_eq_getElem_cons hi];simp only [List.any_cons];have h3:=h i _ (List.getElem?_eq_getElem hi)
   cases hp:p l[i] with
   | true=>rw [hp,if_pos rfl] at h3;rw [dF h3];exact ⟨_,rfl,.inl ⟨i,rfl,rfl⟩⟩
   | false=>rw [hp] at h3;rw [cG h3];simp only [Bool.false_or];exact ih _ (by omega) (by omega)
 exact this _ 0 rfl (Nat.zero_le _)
theorem qV {α:Type} (l:List α) (f:α→Option Bool) (p:α→Bool) (hf:∀ x∈l,f x=some (p x)) (step:Nat→Option (Nat⊕(Unit⊕Int)))
  (h:∀ i,step i=if (i:Int) < (l.length:Int) then (l[i]?).bind fun x=>(f x).bind fun r=>if r then some (.inr (.inr (i:Int))) else some (.inl (i+1)) else some (.inr (.inl ()))) :
  T (bF step 0) (fun e=>(∃ z:Nat,e=.inr (z:Int)∧l.any p=true)∨(e=.inl ()∧l.any p=false)):=by
 refine idx l p step (fun i x hx=>?_) ?_
 ·have hi:=(List.getElem?_eq_some_iff.1 hx).1;rw [h,if_pos (by omega),hx,Option.bind_some,hf x (List.mem_of_getElem? hx),Option.bind_some]
 rw [h,if_neg (by omega)]
theorem WJ (l:List (List Int)) (f:List Int→Option Bool) (p:List Int→Bool) (hf:∀ x∈l,f x=some (p x)):zX l f=some (l.all p):=by
 obtain ⟨r,h1,h2⟩:=qV l (fun x=>uV x f) (fun x=>!p x) (fun x hx=>by unfold uV;rw [hf x hx];rfl) (wO l (fun x=>uV x f)) (fun i=>rfl);unfold zX JN JM;rw [h1,List.all_eq_not_any_not];rcases h2 with ⟨z,rfl,h2⟩ | ⟨rfl,h2⟩ <;> simp [h2]
theorem aGf (l:List Int) (f:Int→Option Bool) (p:Int→Bool) (hf:∀ x∈l,f x=some (p x)):EG l f=some (l.all p):=by
 obtain ⟨r,h1,h2⟩:=qV l (fun x=>uU x f) (fun x=>!p x) (fun x hx=>by unfold uU;rw [hf x hx];rfl) (wM l (fun x=>uU x f)) (fun i=>rfl);unfold EG JL JK;rw [h1,List.all_eq_not_any_not];rcases h2 with ⟨z,rfl,h2⟩ | ⟨rfl,h2⟩ <;> simp [h2]
theorem aGg (l:List dU) (f:dU→Option Bool) (p:dU→Bool) (hf:∀ x∈l,f x=some (p x)):EJ l f=some (l.all p):=by
 obtain ⟨r,h1,h2⟩:=qV l (fun x=>uW x f) (fun x=>!p x) (fun x hx=>by unfold uW;rw [hf x hx];rfl) (wP l (fun x=>uW x f)) (fun i=>rfl);unfold EJ JP JO;rw [h1,List.all_eq_not_any_not];rcases h2 with ⟨z,rfl,h2⟩ | ⟨rfl,h2⟩ <;> simp [h2]
theorem KW (n a b:Int):uR n a b=some (decide (a≤n∧n≤b)):=by
 unfold uR;by_cases h:a≤n <;> simp [h]
theorem GJ (d:aV) (n:Int) (h:1≤d.members∧d.members≤40):pW d n=some (decide (0≤n∧n≤d.members - 1)):=by
 unfold pW bN;rw [if_pos (by omega),KW];rfl
theorem aGh (l:List Int):T (EH l) fun _=>True:=by
 unfold EH;refine T.bd (Q:=fun _=>True) (T.ix l.length id (fun _=>True) (fun i _ hi=>?_) trivial (Nat.zero_le _)) (fun v _=>?_)
 ·unfold wN;refine T.ie (fun h=>T.bd (Q:=fun _=>True) (T.ie (fun h0=>T.bd (T.at (by simpa using h)) fun x _=>T.bd (T.at (by simp only [id] at *;omega)) fun y _=>.mk trivial) fun _=>.mk trivial) fun t _=>T.ie (fun _=>.mk trivial) fun _=>.mk ⟨trivial,rfl,by simpa using h⟩) fun _=>.mk trivial
 cases v <;> exact .mk trivial
end T12
set_option maxHeartbeats 4000000
namespace T12
open Go Go.Proofs Pk
def In (d:aV) (a b:Int):Prop:=(0≤a∧a < d.members)∧(0≤b∧b < d.members)
structure Vd (d:aV):Prop where
 m:1≤d.members∧d.members≤40
 pl:d.pairs.length≤10
 xl:d.proxies.length≤10
 p:∀ p∈d.pairs,In d p.a p.b
 x:∀ p∈d.proxies,In d p.holder p.for_
 r:0≤d.rule∧d.rule < 3
 n:0≤d.need∧d.need≤40
 q:0≤d.quorum∧d.quorum≤40
theorem tk1 {α:Type} {l:List α} {i:Nat} {x:α} {P:α→Prop} (h:∀ y∈l.take i,P y) (hx:l[i]?=some x) (hp:P x):∀ y∈l.take (i+1),P y:=by
 intro y hy;rw [List.take_add_one,hx] at hy;rcases List.mem_append.1 hy with hy | hy
 ·exact h y hy
 simp at hy;subst hy;exact hp
theorem WK (d:aV) (h:1≤d.members∧d.members≤40):T (bF (sH d) (0,([]:List (Int×Bool)))) (fun e=>match e with | .inl _=>∀ p∈d.pairs,In d p.a p.b | .inr z=>z=false):=by
 refine T.ix d.pairs.length (·.1) (fun s=>∀ p∈d.pairs.take s.1,In d p.a p.b) (fun s hs hi=>?_) (by simp) (Nat.zero_le _);unfold sH;refine T.ie (fun hl=>T.bd (T.at (by omega)) fun x hx=>T.bd (Q:=fun t=>t=false→In d x.a x.b) ?_ fun t ht=>T.ie (fun h=>.mk rfl) fun h=>.mk ⟨tk1 hs hx (ht (by simpa using h)),rfl,by omega⟩) (fun hl=>.mk fun p hp=>hs p (by rw [List.take_of_length_le (by omega)];exact hp));refine T.bd (.ok (GJ d _ h)) fun r hr=>T.ie (fun h1=>T.bd (.ok (GJ d _ h)) fun r' hr'=>T.ie (fun h2=>?_) fun _=>.mk (by simp)) fun _=>.mk (by simp);subst hr hr';simp only [decide_eq_true_eq] at h1 h2;have:In d x.a x.b:=⟨⟨by omega,by omega⟩,by omega,by omega⟩;exact T.ie (fun _=>.mk fun _=>this) fun _=>T.ie (fun _=>.mk fun _=>this) fun _=>.mk fun _=>this
theorem WL (d:aV) (h:1≤d.members∧d.members≤40):T (bF (sI d) (0,([]:List (Int×Bool)))) (fun e=>match e with | .inl _=>∀ p∈d.proxies,In d p.holder p.for_ | .inr z=>z=false):=by
 refine T.ix d.proxies.length (·.1) (fun s=>∀ p∈d.proxies.take s.1,In d p.holder p.for_) (fun s hs hi=>?_) (by simp) (Nat.zero_le _);unfold sI;refine T.ie (fun hl=>T.bd (T.at (by omega)) fun x hx=>T.bd (Q:=fun t=>t=false→In d x.holder x.for_) ?_ fun t ht=>T.ie (fun h=>.mk rfl) fun h=>.mk ⟨tk1 hs hx (ht (by simpa using h)),rfl,by omega⟩) (fun hl=>.mk fun p hp=>hs p (by rw [List.take_of_length_le (by omega)];exact hp));refine T.bd (.ok (GJ d _ h)) fun r hr=>T.ie (fun h1=>T.bd (.ok (GJ d _ h)) fun r' hr'=>T.ie (fun h2=>?_) fun _=>.mk (by simp)) fun _=>.mk (by simp);subst hr hr';simp only [decide_eq_true_eq] at h1 h2;have:In d x.holder x.for_:=⟨⟨by omega,by omega⟩,by omega,by omega⟩;exact T.ie (fun _=>.mk fun _=>this) fun _=>.mk fun _=>this
theorem aGi (d:aV) (h:1≤d.members∧d.members≤40):T (EK d) (fun r=>r=true→(∀ p∈d.pairs,In d p.a p.b)∧∀ p∈d.proxies,In d p.holder p.for_):=by
 unfold EK;refine T.bd (WK d h) fun e he=>?_
 cases e with
 | inr z=>exact .mk fun hz=>by simp only at he;simp [he] at hz
 | inl t =>
  refine T.bd (WL d h) fun e he'=>?_
  cases e with
  | inr z=>exact .mk fun hz=>by simp only at he';simp [he'] at hz
  | inl t=>exact T.bd (.ok (aGg _ _ (fun p=>!((eJ t p.holder).getD false)) fun _ _=>rfl)) fun _ _=>.mk fun _=>⟨he,he'⟩
theorem WM (d:aV) (l:List Int) (h:1≤d.members∧d.members≤40):T (oK d l) fun _=>True:=by
 unfold oK;refine T.bd (Q:=fun _=>True) (T.bd (.ok (aGf _ _ _ fun x _=>GJ d x h)) fun r _=>T.ie (fun _=>T.bd (aGh l) fun _ _=>.mk trivial) fun _=>.mk trivial) fun _ _=>.mk trivial
theorem WN:EM=some ():=rfl
theorem WO (d:aV) (hr:0≤d.rule∧d.rule≤255):T (zZ d) (fun r=>r=true→Vd d):=by
 unfold zZ;refine T.bd (Q:=fun r=>r=true→Vd d) (T.bd (.ok (KW _ _ _)) fun r h1=>T.ie (fun h=>?_) fun _=>.mk (by simp)) fun r hr=>?_
 ·subst h1;simp only [decide_eq_true_eq] at h;refine T.bd (.ok (WJ _ _ (fun l=>(oK d l).getD false) fun x _=>(WM d x h).get)) fun r _=>T.ie (fun _=>?_) fun _=>.mk (by simp);refine T.bd (.ok (WJ _ _ (fun l=>(oK d l).getD false) fun x _=>(WM d x h).get)) fun r _=>T.ie (fun _=>?_) fun _=>.mk (by simp);refine T.ie (fun hp=>T.ie (fun hx=>T.bd (aGi d h) fun r ht=>T.ie (fun hb=>T.ck (by omega) (T.bd (.ok WN) fun _ _=>T.ie (fun h3=>T.bd (.ok (KW _ _ _)) fun r h4=>T.ie (fun h5=>T.bd (.ok (KW _ _ _)) fun r h6=>T.ie (fun h7=>?_) fun _=>.mk (by simp)) fun _=>.mk (by simp)) fun _=>.mk (by simp))) fun _=>.mk (by simp)) fun _=>.mk (by simp)) fun _=>.mk (by simp);subst h4 h6;simp only [decide_eq_true_eq] at h5 h7;have:Vd d:=⟨h,by omega,by omega,(ht hb).1,(ht hb).2,⟨hr.1,h3⟩,h5,h7⟩;exact T.ie (fun _=>.mk fun _=>this) fun _=>.mk fun _=>this
 exact .mk hr
end T12
set_option maxHeartbeats 4000000
namespace T12
open Go Go.Proofs Pk
theorem KX (l:List Int) (v:Int):uX l v=some (l.any fun x=>decide (v=x)):=by
 obtain ⟨r,h1,h2⟩:=idx l (fun x=>decide (v=x)) (pX l v) (fun i x hx=>by
  have hi:=(List.getElem?_eq_some_iff.1 hx).1
  unfold pX;rw [if_pos (by omega),hx,Option.bind_some];simp) (by unfold pX;rw [if_neg (by omega)])
 unfold uX JS;rw [h1];rcases h2 with ⟨z,rfl,h2⟩ | ⟨rfl,h2⟩ <;> simp [h2]
theorem aGj (l:List UInt8) (v:Int):FB l v=some (l.any fun x=>decide (v=(x.toNat:Int))):=by
 obtain ⟨r,h1,h2⟩:=idx l (fun x=>decide (v=(x.toNat:Int))) (pY l v) (fun i x hx=>by
  have hi:=(List.getElem?_eq_some_iff.1 hx).1
  unfold pY;rw [if_pos (by omega),hx,Option.bind_some];simp) (by unfold pY;rw [if_neg (by omega)])
 unfold FB JT;rw [h1];rcases h2 with ⟨z,rfl,h2⟩ | ⟨rfl,h2⟩ <;> simp [h2]
theorem WP (l:bJ) (v:Int):T (AB l v) fun _=>True:=by
 unfold AB;refine T.bd (.ok (KX _ _)) fun r _=>T.bd (Q:=fun t=>t≤1) (T.ie (fun _=>.mk (Nat.le_refl _)) fun _=>.mk (by omega)) fun t ht=>T.bd (.ok (KX _ _)) fun r _=>T.bd (Q:=fun _=>True) (T.ie (fun _=>.ck (by omega) (.mk trivial)) fun _=>.mk trivial) fun _ _=>.mk trivial
theorem aGk (d:aV) (v:Int):T (EQ d v) fun r=>r.length≤3:=by
 unfold EQ;refine T.bd (WP _ _) fun a _=>T.bd (WP _ _) fun b _=>T.bd (Q:=fun _=>True) (T.ie (fun _=>.mk trivial) fun _=>.mk trivial) fun _ _=>?_;refine T.bd (Q:=fun l=>l.length≤1) (T.ie (fun _=>.ck (by decide) (.mk (by decide))) fun _=>.mk (by decide)) fun l hl=>T.bd (Q:=fun _=>True) (T.ie (fun _=>.mk trivial) fun _=>.mk trivial) fun _ _=>?_;refine T.bd (Q:=fun l=>l.length≤2) (T.ie (fun _=>.ck (by omega) (.mk (by simp;omega))) fun _=>.mk (by omega)) fun l hl=>T.bd (Q:=fun _=>True) (T.ie (fun _=>.mk trivial) fun _=>.mk trivial) fun _ _=>?_;exact T.bd (Q:=fun l=>l.length≤3) (T.ie (fun _=>.ck (by omega) (.mk (by simp;omega))) fun _=>.mk (by omega)) fun l hl=>.mk hl
structure Lk (x:dC):Prop where
 d:Vd x.division
 l:x.may.length=40
 m:∀ v∈x.may,v.length≤3
theorem xR {α:Type} {l:List α} {i:Nat} {v:α} {P:α→Prop} (h:∀ x∈l,P x) (hv:P v):∀ x∈l.set i v,P x:=fun x hx=>by
 rcases List.mem_or_eq_of_mem_set hx with h1 | rfl
 ·exact h _ h1
 exact hv
theorem aGl (d:aV) (h:Vd d):T (ER d) fun x=>Lk x∧x.division=d:=by
 unfold ER;refine T.bd (Q:=fun _=>True) (T.ix d.pairs.length (·.1) (fun _=>True) (fun s hs hi=>?_) trivial (Nat.zero_le _)) fun e he=>?_
 ·unfold wR;refine T.ie (fun hl=>T.bd (T.mem (by omega)) fun x hx=>?_) fun _=>.mk trivial;have:=h.p x hx;unfold In at this;have:=h.m;exact .ck (by omega) (.ck (by omega) (.ck (by omega) (.ck (by omega) (.mk ⟨trivial,rfl,by omega⟩))))
 have hm:=h.m;refine T.bd (Q:=fun l=>l.length=40∧∀ v∈l,v.length≤3) (T.ix d.members.toNat (·.1) (fun s=>s.2.length=40∧∀ v∈s.2,v.length≤3) (fun s hs hi=>?_) ⟨List.length_replicate ..,fun v hv=>by rw [List.eq_of_mem_replicate hv];decide⟩ (Nat.zero_le _)) fun l hl=>.mk ⟨⟨h,hl.1,hl.2⟩,rfl⟩;unfold wS;exact T.ie (fun hl=>T.bd (aGk d _) fun r hr=>T.bd (T.at (by rw [hs.1];omega)) fun _ _=>.ck (by omega) (.mk ⟨⟨by rw [List.length_set];exact hs.1,xR hs.2 hr⟩,rfl,by omega⟩)) fun _=>.mk hs
theorem aGm (x:dC) (h:Lk x):T (ES x) fun _=>True:=by
 have hm:=h.d.m;have hl:=h.l;unfold ES;refine T.bd (Q:=fun _=>True) (T.ix x.division.members.toNat (·.2.1) (fun _=>True) (fun s _ hi=>?_) trivial (Nat.zero_le _)) fun e he=>.mk trivial;unfold wT;exact T.ie (fun hl=>T.bd (T.at (by omega)) fun _ _=>T.ie (fun _=>.mk trivial) fun _=>.ck (by omega) (.mk ⟨trivial,rfl,by omega⟩)) fun _=>.mk trivial
theorem aGn (d:aV) (hr:0≤d.rule∧d.rule≤255):T (ET d) fun r=>r.2=0→Lk r.1∧r.1.division=d:=by
 unfold ET;refine T.bd (WO d hr) fun r h=>T.ie (fun h1=>T.bd (aGl d (h h1)) fun x hx=>T.bd (aGm x hx.1) fun _ _=>T.ie (fun _=>.mk (by simp)) fun _=>.mk fun _=>hx) fun _=>.mk (by simp)
theorem t142 (x:dC) (h:Lk x):T (EU x) fun l=>l.length≤40:=by
 have hm:=h.d.m;have hl:=h.l;unfold EU;refine T.bd (Q:=fun l=>l.length≤40) (T.ix x.division.members.toNat (·.1) (fun s=>s.2.length≤s.1) (fun s hs hi=>?_) (Nat.zero_le _) (Nat.zero_le _)) fun e he=>.mk he;unfold wU;exact T.ie (fun hl=>T.bd (T.at (by omega)) fun _ _=>T.bd (Q:=fun l=>l.length≤s.1+1) (T.ie (fun _=>.ck (by omega) (.mk (by simp;omega))) fun _=>.mk (by omega)) fun l hl=>.ck (by omega) (.mk ⟨hl,rfl,by omega⟩)) fun _=>.mk (by omega)
theorem t99 (d:aV) (hr:0≤d.rule∧d.rule≤255):T (EV d) fun r=>r.2=0→Lk r.1∧r.1.division=d:=by
 unfold EV;exact T.bd (aGn d hr) fun r h=>T.bd (Q:=fun _=>True) (T.ie (fun h0=>T.bd (t142 _ (h h0).1) fun _ _=>.mk trivial) fun _=>.mk trivial) fun t _=>T.ie (fun _=>.mk (by simp)) fun _=>.mk h
def Nb (n:fI):Prop:=(0≤n.ayes∧n.ayes≤60)∧0≤n.noes∧n.noes≤60
theorem t102 (x:dC) (t:bA) (h:Lk x):T (EZ x t) Nb:=by
 have hm:=h.d.m;have hx:=h.d.xl;unfold EZ;refine T.bd (Q:=fun e=>e.1≤40∧e.2≤40) (T.ix x.division.members.toNat (·.1) (fun s=>s.2.1≤s.1∧s.2.2≤s.1) (fun s hs hi=>?_) ⟨Nat.zero_le _,Nat.zero_le _⟩ (Nat.zero_le _)) fun e he=>?_
 ·unfold wV;refine T.ie (fun hl=>.ck (by omega) (T.bd (Q:=fun r=>r.1≤s.1+1∧r.2≤s.1+1) (T.ie (fun _=>.mk ⟨by omega,by omega⟩) fun _=>?_) fun r hr=>.ck (by omega) (.mk ⟨hr,rfl,by omega⟩))) fun _=>.mk ⟨by omega,by omega⟩;exact T.bd (Q:=fun r=>r.1≤s.1+1∧r.2≤s.1+1) (T.bd (Q:=fun r=>r.1≤s.1+1∧r.2≤s.1+1) (T.ie (fun _=>.ck (by omega) (.mk ⟨by dsimp only;omega,by dsimp only;omega⟩)) fun _=>T.bd (Q:=fun r=>r≤s.1+1) (T.ie (fun _=>.ck (by omega) (.mk (by omega))) fun _=>.mk (by omega)) fun r hr=>.mk ⟨by dsimp only;omega,hr⟩) fun r hr=>.mk hr) fun r hr=>.mk hr
 refine T.bd (Q:=fun e=>e.1≤60∧e.2≤60) (T.ix x.division.proxies.length (·.1) (fun s=>s.2.1≤40+s.1∧s.2.2≤40+s.1) (fun s hs hi=>?_) ⟨by dsimp only;omega,by dsimp only;omega⟩ (Nat.zero_le _)) fun e he=>.mk ⟨⟨by dsimp only;omega,by dsimp only;omega⟩,by dsimp only;omega,by dsimp only;omega⟩;unfold wW;refine T.ie (fun hl=>T.bd (T.mem (by omega)) fun y hy=>?_) fun _=>.mk ⟨by dsimp only;omega,by dsimp only;omega⟩;have hI:=h.d.x y hy;unfold In at hI;refine T.bd (Q:=fun _=>True) (.ck (by omega) (.ck (by omega) (T.ie (fun _=>T.ie (fun _=>.mk trivial) fun _=>.ck (by omega) (.ck (by omega) (.mk trivial))) fun _=>.mk trivial))) fun _ _=>?_;refine T.bd (Q:=fun r=>r.1≤40+(s.1+1)∧r.2≤40+(s.1+1)) (T.ie (fun _=>.ck (by omega) (.ck (by omega) ?_)) fun _=>.mk ⟨by dsimp only;omega,by dsimp only;omega⟩) fun r hr=>.mk ⟨hr,rfl,by omega⟩;exact T.bd (Q:=fun r=>r.1≤40+(s.1+1)∧r.2≤40+(s.1+1)) (T.bd (Q:=fun r=>r.1≤40+(s.1+1)∧r.2≤40+(s.1+1)) (T.ie (fun _=>.ck (by omega) (.mk ⟨by dsimp only;omega,by dsimp only;omega⟩)) fun _=>T.bd (Q:=fun r=>r≤40+(s.1+1)) (T.ie (fun _=>.ck (by omega) (.mk (by omega))) fun _=>.mk (by omega)) fun r hr=>.mk ⟨by dsimp only;omega,hr⟩) fun r hr=>.mk hr) fun r hr=>.mk hr
theorem aGo (x:dC) (n:fI) (h:Lk x) (hn:Nb n):T (FA x n) fun r=>0≤r∧r≤2:=by
 have h1:=h.d.r;have h2:=h.d.n;unfold Nb at hn;unfold FA;refine .ck (by omega) (T.ie (fun _=>.mk (by decide)) fun _=>T.bd (.ok WN) fun _ _=>.ck (by omega) (T.ie (fun _=>T.bd (Q:=fun _=>True) ?_ fun _ _=>T.ie (fun _=>.mk (by decide)) fun _=>.mk (by decide)) fun _=>T.ie (fun _=>T.bd (Q:=fun _=>True) ?_ fun _ _=>T.ie (fun _=>.mk (by decide)) fun _=>.mk (by decide)) fun _=>T.ie (fun _=>T.bd (Q:=fun _=>True) ?_ fun _ _=>T.ie (fun _=>.mk (by decide)) fun _=>.mk (by decide)) fun _=>by omega))
 ·exact T.bd (Q:=fun _=>True) (T.ie (fun _=>.mk trivial) fun _=>T.ie (fun _=>T.bd (Q:=fun _=>True) (.mk trivial) fun _ _=>.mk trivial) fun _=>.mk trivial) fun _ _=>.mk trivial
 ·exact T.bd (Q:=fun _=>True) (T.ie (fun _=>.mk trivial) fun _=>.ck (by omega) (T.ie (fun _=>T.bd (Q:=fun _=>True) (.mk trivial) fun _ _=>.mk trivial) fun _=>.mk trivial)) fun _ _=>.mk trivial
 exact T.bd (Q:=fun _=>True) (.ck (by omega) (.ck (by omega) (.ck (by omega) (T.ie (fun _=>.mk trivial) fun _=>.mk trivial)))) fun _ _=>.mk trivial
end T12
set_option maxHeartbeats 4000000
namespace T12
open Go Go.Proofs Pk
def Oc (l:List UInt8):Prop:=l.Nodup∧∀ x∈l,x.toNat≤2
theorem oc3 {l:List UInt8} (h:Oc l):l.length≤3:=by
 have:l ⊆ [0,1,2]:=fun x hx=>by
  have h2:=h.2 x hx;have:∀ n,n≤2→UInt8.ofNat n∈([0,1,2]:List UInt8):=by decide
  have:=this _ h2
  rwa [UInt8.ofNat_toNat] at this
 exact h.1.length_le_of_subset this
theorem aGp (r:dC×Int) (h:Lk r.1):∀ (k:Nat) (s:Nat×bA×List UInt8),r.1.division.members.toNat - s.1 < k→(s.1:Int)≤r.1.division.members→Oc s.2.2→T (lD r k s) Oc:=by
 have hm:=h.d.m;have hl:=h.l;intro k
 induction k with
 | zero=>intro s h1;omega
 | succ k ih =>
  intro s h1 h2 h3;show T (sK r (lD r k) s) Oc;unfold sK;refine T.ie (fun he=>T.bd (Q:=Oc) (T.bd (t102 _ _ h) fun n hn=>T.bd (aGo _ _ h hn) fun o ho=>T.bd (.ok (aGj _ _)) fun c hc=>T.bd (Q:=Oc) (T.ie (fun _=>.mk h3) fun hf=>.ck (by have:=oc3 h3;omega) (.ck (by omega) (.mk ?_))) fun _ h=>.mk h) fun _ h=>.mk h) fun he=>T.bd (T.at (by omega)) fun vs _=>T.bd (Q:=fun e=>Oc e.2) (T.ix vs.length (·.1) (fun q=>Oc q.2.2) (fun q hq hi=>?_) h3 (Nat.zero_le _)) fun e he=>.mk he
  ·rw [hc] at hf;have hx:(UInt8.ofNat o.toNat).toNat=o.toNat:=by simp;omega
   refine ⟨List.nodup_append.2 ⟨h3.1,List.nodup_cons.2 ⟨by simp,List.nodup_nil⟩,fun a ha b hb hab=>?_⟩,fun x hx'=>?_⟩
   ·simp at hb;subst hb hab;exact hf (List.any_eq_true.2 ⟨_,ha,by rw [hx];simp;omega⟩)
   rcases List.mem_append.1 hx' with h | h
   ·exact h3.2 _ h
   simp at h;subst h;rw [hx];omega
  unfold wX;exact T.ie (fun hl=>T.bd (T.at (by omega)) fun v _=>.ck (by omega) (.ck (by omega) (T.bd (ih _ (by dsimp only;omega) (by dsimp only;omega) hq) fun o ho=>.mk ⟨ho,rfl,by omega⟩))) fun _=>.mk hq
theorem t212 (a b:Int):T (FD a b) fun _=>True:=by
 unfold FD FC;exact T.bd (Q:=fun _=>True) (T.bd (.mk trivial) fun _ (_:True)=>T.ie (fun _=>T.bd (.mk trivial) fun _ (_:True)=>T.ie (fun _=>.mk trivial) fun _=>.mk trivial) fun _=>.mk trivial) fun _ _=>.mk trivial
theorem aGq (l:List UInt8) (r:Int) (b c:Bool) (h:l.length≤3) (h2:∀ x∈l,x.toNat≤2):T (bF (pZ l) (0,l.length,r,b,c)) fun o=>o.length=l.length∧(l.length≤1→o=l)∧∀ x∈o,x.toNat≤2:=by
 suffices hs:T (pZ l (0,l.length,r,b,c)) fun e=>∃ o,e=.inr o∧o.length=l.length∧(l.length≤1→o=l)∧∀ x∈o,x.toNat≤2 by
  obtain ⟨_,h1,o,rfl,h2⟩:=hs
  rename_i h3;rw [dF h1];exact ⟨o,rfl,by assumption⟩
 unfold pZ;dsimp only;refine .ck (by omega) (T.ie (fun _=>T.bd (Q:=fun (o:List UInt8)=>o.length=l.length∧(l.length≤1→o=l)∧∀ x∈o,x.toNat≤2) (.ck (by omega) (T.bd (Q:=fun (o:List UInt8)=>o.length=l.length∧(l.length≤1→o=l)∧∀ x∈o,x.toNat≤2) ?_ fun _ h=>.mk h)) fun o ho=>.mk ⟨o,rfl,ho⟩) fun hf=>by omega);by_cases h1:l.length≤1
 ·rw [dF (e:=l) (by unfold sL;dsimp only;rw [if_neg (by omega)])];exact .mk ⟨rfl,fun _=>rfl,h2⟩
 refine T.ix l.length (·.1) (fun s=>s.2.length=l.length∧∀ x∈s.2,x.toNat≤2) (fun s hs hi=>?_) ⟨rfl,h2⟩ (by dsimp only;omega);unfold sL;dsimp only;refine T.ie (fun hl=>T.bd (Q:=fun (o:List UInt8)=>o.length=l.length∧∀ x∈o,x.toNat≤2) (T.lp (fun q=>(q.2.length=l.length∧∀ x∈q.2,x.toNat≤2)∧0≤q.1∧q.1 < (l.length:Int)) (fun q=>q.1.toNat) (fun q hq=>?_) ⟨hs,by dsimp only;omega,by dsimp only;omega⟩) fun o ho=>.ck (by omega) (.mk ⟨ho,rfl,by omega⟩)) fun _=>.mk ⟨hs.1,fun h=>absurd h h1,hs.2⟩;unfold wY;dsimp only;refine T.bd (Q:=fun t=>t=true→0 < q.1) (T.ie (fun h0=>.ck (by omega) (T.bd (T.at (by omega)) fun _ _=>.ck (by omega) (.ck (by omega) (T.bd (T.at (by omega)) fun _ _=>T.bd (t212 _ _) fun _ _=>.mk fun _=>by omega)))) fun _=>.mk (by simp)) fun t ht=>T.ie (fun h=>?_) fun _=>.mk hq.1;have:=ht h;exact .ck (by omega) (.ck (by omega) (T.bd (T.mem (by omega)) fun u hu=>.ck (by omega) (T.bd (T.mem (by omega)) fun w hw=>T.bd (T.at (by rw [List.length_set];omega)) fun _ _=>.mk ⟨⟨⟨by simp [hq.1.1],xR (xR hq.1.2 (hq.1.2 u hu)) (hq.1.2 w hw)⟩,by dsimp only;omega,by dsimp only;omega⟩,by dsimp only;omega⟩)))
theorem aGr (n:Nat) (h:n≤3):T (JU n) fun _=>True:=by
 rcases (by omega:n=0∨n=1∨n=2∨n=3) with rfl | rfl | rfl | rfl <;> exact ⟨_,rfl,trivial⟩
theorem t66 (d:aV) (hr:0≤d.rule∧d.rule≤255):T (FE d) fun r=>r.1.length≤3∧∀ x∈r.1,x.toNat≤2:=by
 unfold FE;refine T.bd (t99 d hr) fun r h=>T.ie (fun _=>.mk (by simp)) fun h0=>?_;have hL:=(h (by omega)).1;have:=hL.d.m;refine T.bd (Q:=Oc) (T.bd (Q:=Oc) (T.rc (aGp r hL _ _ (by dsimp only;omega) (by dsimp only;omega) ⟨List.nodup_nil,by simp⟩)) fun _ h=>.mk h) fun l hl=>?_;have h3:=oc3 hl;exact T.bd (Q:=fun (o:List UInt8)=>o.length≤3∧∀ x∈o,x.toNat≤2) (T.bd (aGr _ h3) fun b _=>T.bd (Q:=fun (o:List UInt8)=>o.length≤3∧∀ x∈o,x.toNat≤2) (T.bd (aGq l b true true h3 hl.2) fun o ho=>.mk ⟨by omega,ho.2.2⟩) fun _ h=>.mk h) fun _ h=>.mk h
end T12
set_option maxHeartbeats 4000000
namespace T12
open Go Go.Proofs Pk
theorem jW {κ α:Type} [DecidableEq κ] (k k':κ) (y:α):∀ t:List (κ×α),eJ (put t k y) k'=if k'=k then some y else eJ t k'
 | []=>by simp [put,eJ]
 | (a,x)::t=>by
  unfold put
  split
  ·rename_i h;subst h;simp only [eJ];split <;> rfl
  rename_i h
  simp only [eJ,jW k k' y t];by_cases h1:k'=a
  ·subst h1;rw [if_pos rfl,if_neg (Ne.symm h),if_pos rfl]
  rw [if_neg h1,if_neg h1]
theorem sW {κ α:Type} [DecidableEq κ] (k:κ) (y:α):∀ t:List (κ×α),(put t k y).length=t.length+if (eJ t k).isNone then 1 else 0
 | []=>rfl
 | (a,x)::t=>by
  unfold put
  split
  ·rename_i h;subst h;simp [eJ]
  rename_i h;simp only [eJ,if_neg h,List.length_cons,sW k y t];omega
def xS (t:List (Int×aR)):List aR→List (Int×aR)
 | []=>t
 | p::l=>xS (put t p.number p) l
theorem vH (x:aR):∀ (l:List aR) (t:List (Int×aR)),xS t (l++[x])=put (xS t l) x.number x
 | [],_=>rfl
 | p::l,t=>vH x l _
theorem GK:∀ (l:List aR) (t:List (Int×aR)),(xS t l).length≤t.length+l.length
 | [],_=>Nat.le_refl _
 | p::l,t=>by
  have h1:=GK l (put t p.number p);have h2:=sW p.number p t;simp only [xS,List.length_cons];split at h2 <;> omega
theorem GL:∀ (l:List aR) (t:List (Int×aR)),(xS t l).length=t.length+l.length→(∀ p∈l,eJ t p.number=none)∧(l.map (·.number)).Nodup
 | [],_,_=>⟨by simp,List.nodup_nil⟩
 | p::l,t,h=>by
  have h1:=GK l (put t p.number p);have h2:=sW p.number p t;simp only [xS,List.length_cons] at h
  cases hk:eJ t p.number with
  | some y=>rw [hk] at h2;simp at h2;omega
  | none =>
   rw [hk] at h2;simp at h2;obtain ⟨h3,h4⟩:=GL l _ (by omega:(xS (put t p.number p) l).length=(put t p.number p).length+l.length);have h5:∀ q∈l,q.number≠p.number∧eJ t q.number=none:=fun q hq=>by
    have:=h3 q hq;rw [jW] at this
    split at this
    ·cases this
    exact ⟨by assumption,this⟩
   refine ⟨fun q hq=>?_,List.nodup_cons.2 ⟨fun hm=>?_,h4⟩⟩
   ·rcases List.mem_cons.1 hq with rfl | hq
    ·exact hk
    exact (h5 q hq).2
   obtain ⟨q,hq,he⟩:=List.mem_map.1 hm;exact (h5 q hq).1 he
theorem xU:∀ (l:List aR) (t:List (Int×aR)) (k:Int) (p:aR),eJ (xS t l) k=some p→(p∈l∧p.number=k)∨eJ t k=some p
 | [],_,_,_,h=>.inr h
 | q::l,t,k,p,h=>by
  rcases xU l _ k p h with h1 | h1
  ·exact .inl ⟨List.mem_cons_of_mem _ h1.1,h1.2⟩
  rw [jW] at h1
  split at h1
  ·cases h1;exact .inl ⟨List.mem_cons_self ..,by symm;assumption⟩
  exact .inr h1
theorem zB:∀ (l:List aR) (t:List (Int×aR)) (k:Int),k∉l.map (·.number)→eJ (xS t l) k=eJ t k
 | [],_,_,_=>rfl
 | q::l,t,k,h=>by
  simp only [List.map_cons,List.mem_cons,not_or] at h;rw [xS,zB l _ k h.2,jW,if_neg h.1]
theorem GM:∀ (l:List aR) (t:List (Int×aR)),(l.map (·.number)).Nodup→∀ p∈l,eJ (xS t l) p.number=some p
 | [],_,_,p,h=>absurd h (List.not_mem_nil)
 | q::l,t,hn,p,h=>by
  rw [List.map_cons,List.nodup_cons] at hn;rcases List.mem_cons.1 h with rfl | h
  ·rw [xS,zB l _ _ hn.1,jW,if_pos rfl]
  exact GM l _ hn.2 p h
def KY (m:bL):List (Int×aR):=xS [] m.papers
def GN (m:bL) (n:Int):aR:=(eJ (KY m) n).getD ⟨0,0,0,0,[]⟩
theorem AY (m:bL):qS m=some (KY m):=by
 obtain ⟨v,h1,h2⟩:T (bF (sN m) (0,([]:List (Int×aR)))) fun e=>e=KY m:=by
  refine T.ix m.papers.length (·.1) (fun s=>s.2=xS [] (m.papers.take s.1)) (fun s hs hi=>?_) rfl (Nat.zero_le _);unfold sN;refine T.ie (fun hl=>T.bd (T.at (by omega)) fun x hx=>.mk ⟨?_,rfl,by omega⟩) fun hl=>.mk ?_
  ·dsimp only;rw [List.take_add_one,hx,Option.toList_some,vH,hs]
  dsimp only;rw [hs,List.take_of_length_le (by omega)];rfl
 unfold qS;rw [h1,h2];rfl
theorem GO (l:List aR) (f:aR→Option Bool) (p:aR→Bool) (hf:∀ x∈l,f x=some (p x)):sM l f=some (l.all p):=by
 obtain ⟨r,h1,h2⟩:=qV l (fun x=>uY x f) (fun x=>!p x) (fun x hx=>by unfold uY;rw [hf x hx];rfl) (wZ l (fun x=>uY x f)) (fun i=>rfl);unfold sM JX JW;rw [h1,List.all_eq_not_any_not];rcases h2 with ⟨z,rfl,h2⟩ | ⟨rfl,h2⟩ <;> simp [h2]
theorem WQ (l:List aD) (f:aD→Option Bool) (p:aD→Bool) (hf:∀ x∈l,f x=some (p x)):AD l f=some (l.all p):=by
 obtain ⟨r,h1,h2⟩:=qV l (fun x=>uZ x f) (fun x=>!p x) (fun x hx=>by unfold uZ;rw [hf x hx];rfl) (oA l (fun x=>uZ x f)) (fun i=>rfl);unfold AD MD QV;rw [h1,List.all_eq_not_any_not];rcases h2 with ⟨z,rfl,h2⟩ | ⟨rfl,h2⟩ <;> simp [h2]
theorem aGs (l:List UInt8) (f:Int→Option Bool) (p:Int→Bool) (hf:∀ x∈l,f (x.toNat:Int)=some (p (x.toNat:Int))):FI l f=some (l.all fun x=>p (x.toNat:Int)):=by
 obtain ⟨r,h1,h2⟩:=qV l (fun x=>vA (x.toNat:Int) f) (fun x=>!p (x.toNat:Int)) (fun x hx=>by unfold vA;rw [hf x hx];rfl) (sC l (fun x=>vA x f)) (fun i=>rfl);unfold FI zU DI;rw [h1,List.all_eq_not_any_not];rcases h2 with ⟨z,rfl,h2⟩ | ⟨rfl,h2⟩ <;> simp [h2]
theorem WR (n a b:Int):AE n a b=some (decide (a≤n∧n≤b)):=by
 unfold AE;by_cases h:a≤n <;> simp [h]
theorem PY (s:aD):T (mI s) fun r=>r=true→s.length≤20:=by
 unfold mI;refine T.bd (Q:=fun r=>r=true→s.length≤20) (T.bd (.ok (WR _ _ _)) fun r h=>T.ie (fun h1=>?_) fun _=>.mk (by simp)) fun _ h=>.mk h;subst h;simp only [decide_eq_true_eq] at h1;refine .ck (by omega) (T.bd (.ok (aGs _ _ (fun c=>(xA c).getD false) fun x _=>?_)) fun _ _=>.mk fun _=>by omega);unfold xA;by_cases h:(33:Int)≤x.toNat <;> simp [h]
def zC (l:List aD):Prop:=∀ s∈l,s.length≤20
theorem MO {l:List aD} (h:(l.all fun s=>(mI s).getD false)=true):zC l:=fun s hs=>by
 obtain ⟨r,h1,h2⟩:=PY s;have:=List.all_eq_true.1 h s hs;rw [h1] at this;exact h2 this
theorem aGt {α:Type} {l:List α} {i:Nat} {x:α} {P:α→Prop} (h:∀ y∈l.take i,P y) (hx:l[i]?=some x) (hp:P x):∀ y∈l.take (i+1),P y:=by
 intro y hy;rw [List.take_add_one,hx] at hy;rcases List.mem_append.1 hy with hy | hy
 ·exact h y hy
 simp at hy;subst hy;exact hp
def up (m:bL):Nat→Int→Int
 | 0,n=>n
 | k+1,n=>(GN m (up m k n)).of
def wd (m:bL) (n:Int):List aD:=if n=0 then m.words else (GN m n).words
structure Vm (m:bL):Prop where
 pl:m.papers.length≤10
 wl:m.words.length≤60
 w:∀ p∈m.papers,p.words.length≤60
 wt:zC m.words
 pt:∀ p∈m.papers,zC p.words
 n:∀ p∈m.papers,1≤p.number∧p.number≤999
 nd:(m.papers.map (·.number)).Nodup
 of:∀ p∈m.papers,p.of=0∨(GN m p.of).number=p.of
 en:∀ p∈m.papers,∃ j,j≤10∧up m j p.of=0
 ft:∀ p∈m.papers,0≤p.from_∧p.from_≤p.to_∧p.to_≤(wd m p.of).length
theorem WS (m:bL) (n:Int):AI m n=some (wd m n):=by
 unfold AI wd
 split
 ·rfl
 rw [AY];rfl
theorem t164 (m:bL) (h2:m.papers.length≤10):T (FK m) fun r=>r=true→∀ p∈m.papers,∃ j,j≤10∧up m j p.of=0:=by
 unfold FK;refine T.bd (.ok (AY m)) fun t ht=>T.bd (Q:=fun r=>r=true→∀ p∈m.papers,∃ j,j≤10∧up m j p.of=0) ?_ fun _ h=>.mk h;subst ht;refine T.ix m.papers.length (·.1) (fun s=>s.2=true∧∀ p∈m.papers.take s.1,∃ j,j≤10∧up m j p.of=0) (fun s hs hi=>?_) ⟨rfl,by simp⟩ (Nat.zero_le _);unfold xC;refine T.ie (fun hl=>T.bd (T.at (by omega)) fun x hx=>T.bd (Q:=fun e=>match e with | .inl r=>r.1=true∧∃ j,j≤10∧up m j x.of=0 | .inr z=>z=.inr false) ?_ fun e he=>?_) fun hl=>.mk fun _ p hp=>hs.2 p (by rw [List.take_of_length_le (by omega)];exact hp)
 ·refine T.ix m.papers.length (·.1) (fun q=>q.2.1=true∧q.2.2.2.1=up m q.1 x.of) (fun q hq hi=>?_) ⟨hs.1,rfl⟩ (Nat.zero_le _);unfold xB;refine T.ie (fun h0=>.ck (by omega) (T.ie (fun _=>⟨_,rfl,rfl⟩) fun h1=>.mk ⟨⟨hq.1,?_⟩,rfl,by omega⟩)) fun h0=>.mk ⟨hq.1,q.1,by omega,by rw [← hq.2];omega⟩;show ((eJ (KY m) q.2.2.2.1).getD _).of=_;rw [hq.2];rfl
 cases e with
 | inr z=>simp only at he;subst he;exact .mk (by simp)
 | inl r=>exact .mk ⟨⟨he.1,aGt hs.2 hx he.2⟩,rfl,by omega⟩
end T12
set_option maxHeartbeats 4000000
namespace T12
open Go Go.Proofs Pk
theorem t69 (m:bL):T (xD m) fun r=>r=0→Vm m:=by
 unfold xD;refine T.bd (.ok (rfl:KC=some ())) fun _ _=>?_;have h1:T (FH m) fun r=>r=true→m.papers.length≤10∧m.words.length≤60∧∀ p∈m.papers,p.words.length≤60:=by
  unfold FH;refine T.bd (Q:=fun r=>r=true→m.papers.length≤10∧m.words.length≤60∧∀ p∈m.papers,p.words.length≤60) (T.ie (fun ha=>T.ie (fun hb=>T.bd (.ok (GO _ _ (fun p=>decide ((p.words.length:Int)≤60)) fun _ _=>rfl)) fun r hr=>.mk fun h=>⟨by omega,by omega,fun p hp=>?_⟩) fun _=>.mk (by simp)) fun _=>.mk (by simp)) fun _ h=>.mk h;rw [hr,List.all_eq_true] at h;have:=h p hp;simp only [decide_eq_true_eq] at this;omega
 refine T.bd h1 fun r h1=>T.ie (fun hr=>?_) fun _=>.mk (by simp);obtain ⟨hp,hw,hpw⟩:=h1 hr;have h2:T (FJ m) fun r=>r=true→zC m.words∧∀ p∈m.papers,zC p.words:=by
  unfold FJ
  exact T.bd (Q:=fun r=>r=true→zC m.words∧∀ p∈m.papers,zC p.words) (T.bd (.ok (WQ _ _ (fun s=>(mI s).getD false) fun s _=>(PY s).get)) fun r hr=>T.ie (fun h1=>T.bd (.ok (GO _ _ (fun p=>p.words.all fun s=>(mI s).getD false) fun p _=>by
   unfold AF;rw [WQ _ _ (fun s=>(mI s).getD false) fun s _=>(PY s).get];rfl)) fun r2 hr2=>.mk fun h3=>⟨MO (hr.symm.trans h1),fun p hp=>MO (List.all_eq_true.1 (hr2.symm.trans h3) p hp)⟩) fun _=>.mk (by simp)) fun _ h=>.mk h
 refine T.bd h2 fun r h2=>T.ie (fun hr2=>?_) fun _=>.mk (by simp);refine T.bd (T.bd (.ok (GO _ _ (fun p=>decide (1≤p.number∧p.number≤999)) fun p _=>by unfold AG;rw [WR];rfl)) fun r h=>.mk h:T (JY m) _) fun r h3=>T.ie (fun hr3=>?_) fun _=>.mk (by simp);have h3':∀ p∈m.papers,1≤p.number∧p.number≤999:=fun p hp=>by
  have:=List.all_eq_true.1 (h3.symm.trans hr3) p hp;simpa using this
 refine T.bd (T.bd (.ok (AY m)) fun r h=>.mk (P:=fun r=>r=true→(KY m).length=m.papers.length) fun hd=>by subst h;simp at hd;omega:T (JZ m) _) fun r h4=>T.ie (fun hr4=>?_) fun _=>.mk (by simp);have h4':=(GL m.papers [] (by have:=h4 hr4;unfold KY at this;simp;omega)).2
 refine T.bd (T.bd (.ok (AY m)) fun r h=>T.bd (.ok (GO _ _ (fun p=>decide (p.of=0∨(GN m p.of).number=p.of)) fun p _=>by
  subst h;unfold AH;by_cases hz:p.of=0 <;> simp [hz,GN])) fun r h=>.mk h:T (KA m) _) fun r h5=>T.ie (fun hr5=>?_) fun _=>.mk (by simp)
 have h5':∀ p∈m.papers,p.of=0∨(GN m p.of).number=p.of:=fun p hp=>by
  have:=List.all_eq_true.1 (h5.symm.trans hr5) p hp;simpa using this
 refine T.bd (t164 m hp) fun r h6=>T.ie (fun hr6=>?_) fun _=>.mk (by simp)
 refine T.bd (T.bd (.ok (GO _ _ (fun p=>decide (0≤p.from_∧p.from_≤p.to_∧p.to_≤(wd m p.of).length)) fun p _=>by
  unfold AJ;rw [WS];by_cases ha:0≤p.from_ <;> by_cases hb:p.from_≤p.to_ <;> simp [ha,hb])) fun r h=>.mk h:T (KB m) _) fun r h7=>T.ie (fun hr7=>.mk fun _=>⟨hp,hw,hpw,(h2 hr2).1,(h2 hr2).2,h3',h4',h5',h6 hr6,fun p hp=>?_⟩) fun _=>.mk (by simp)
 have:=List.all_eq_true.1 (h7.symm.trans hr7) p hp;simpa using this
theorem t222 (a b:aR):T (FM a b) fun _=>True:=by
 unfold FM;exact T.bd (Q:=fun _=>True) (T.ie (fun _=>T.ie (fun _=>T.ie (fun _=>.mk trivial) fun _=>.mk trivial) fun _=>.mk trivial) fun _=>.mk trivial) fun _ _=>.mk trivial
end T12
set_option maxHeartbeats 4000000
namespace T12
open Go Go.Proofs Pk
theorem WT (choice:List Int) (r:List (Int×aR)):T (bF (sP choice r) 0) fun e=>match e with | .inl _=>True | .inr z=>z=2:=by
 refine T.ix choice.length id (fun _=>True) (fun i _ hi=>?_) trivial (Nat.zero_le _);unfold sP;exact T.ie (fun hl=>T.bd (T.at (by simp only [id] at *;omega)) fun x hx=>T.bd (Q:=fun _=>True) (T.ie (fun _=>.mk trivial) fun _=>T.ie (fun _=>.mk trivial) fun _=>T.ie (fun h0=>T.bd (T.at (by simp only [id] at *;omega)) fun _ _=>.mk trivial) fun _=>.mk trivial) fun _ _=>T.ie (fun _=>.mk rfl) fun _=>.mk ⟨trivial,rfl,by simp only [id] at *;omega⟩) fun _=>.mk trivial
theorem t167 (m:bL) (choice:List Int):T (FN m choice) fun _=>True:=by
 unfold FN;refine T.bd (.ok (AY m)) fun r _=>T.bd (Q:=fun _=>True) (T.ix choice.length id (fun _=>True) (fun i _ hi=>?_) trivial (Nat.zero_le _)) fun e _=>?_
 ·unfold xE;exact T.ie (fun hl=>T.bd (T.at (by simp only [id] at *;omega)) fun x hx=>T.bd (Q:=fun _=>True) (T.ie (fun _=>T.bd (.ok (KX _ _)) fun _ _=>.mk trivial) fun _=>.mk trivial) fun _ _=>T.ie (fun _=>.mk trivial) fun _=>.mk ⟨trivial,rfl,by simp only [id] at *;omega⟩) fun _=>.mk trivial
 cases e with
 | inr z=>exact .mk trivial
 | inl _ =>
  refine T.bd (Q:=fun _=>True) (T.ix choice.length id (fun _=>True) (fun i _ hi=>?_) trivial (Nat.zero_le _)) fun e _=>by cases e <;> exact .mk trivial
  unfold xG;refine T.ie (fun hl=>T.bd (T.at (by simp only [id] at *;omega)) fun x hx=>T.bd (Q:=fun e=>match e with | .inl _=>True | .inr z=>∃ q,z=.inr q) (T.ix choice.length id (fun _=>True) (fun i _ hi=>?_) trivial (Nat.zero_le _)) fun e he=>?_) fun _=>.mk trivial
  ·unfold xF;exact T.ie (fun hl=>T.bd (T.at (by simp only [id] at *;omega)) fun x hx=>T.bd (t222 _ _) fun _ _=>T.ie (fun _=>.mk ⟨_,rfl⟩) fun _=>.mk ⟨trivial,rfl,by simp only [id] at *;omega⟩) fun _=>.mk trivial
  cases e with
  | inl _=>exact .mk ⟨trivial,rfl,by simp only [id] at *;omega⟩
  | inr z=>obtain ⟨q,rfl⟩:=he;exact .mk trivial
theorem aGv (m:bL) (choice:List Int):T (FO m choice) fun r=>r=0→Vm m:=by
 unfold FO;refine T.bd (t69 m) fun r h=>T.ie (fun hr=>.mk fun h0=>absurd h0 hr) fun h0=>T.bd (.ok (AY m)) fun t _=>T.bd (WT choice t) fun e _=>?_;have hV:=h (by omega)
 cases e with
 | inr z=>exact .mk fun _=>hV
 | inl _=>exact T.bd (t167 m choice) fun _ _=>.mk fun _=>hV
def xV (a b:aR):Int:=if a.from_ - b.from_≠0 then a.from_ - b.from_ else if a.to_ - b.to_≠0 then a.to_ - b.to_ else a.number - b.number
theorem aGw (x y z:Int):FP [x,y,z]=some (if x≠0 then x else if y≠0 then y else z):=by
 have h:∀ (i:Nat) (v:Int),[x,y,z][i]?=some v→qA [x,y,z] i=if v≠0 then some (.inr (.inr v)) else some (.inl (i+1)):=fun i v hv=>by
  have:=(List.getElem?_eq_some_iff.1 hv).1;unfold qA;rw [if_pos (by omega),hv];rfl
 have h0:=h 0 x rfl;have h1:=h 1 y rfl;have h2:=h 2 z rfl;unfold FP;by_cases a:x=0
 ·rw [if_neg (by omega)] at h0;rw [cG h0];by_cases b:y=0
  ·rw [if_neg (by omega)] at h1;rw [cG h1];by_cases c:z=0
   ·rw [if_neg (by omega)] at h2;rw [cG h2,dF (by unfold qA;rfl)];simp [a,b,c]
   rw [if_pos c] at h2;rw [dF h2];simp [a,b]
  rw [if_pos b] at h1;rw [dF h1];simp [a,b]
 rw [if_pos a] at h0;rw [dF h0];simp [a]
def Pb (p:aR):Prop:=(0≤p.from_∧p.from_≤60)∧(0≤p.to_∧p.to_≤60)∧1≤p.number∧p.number≤999
theorem WU {a b:aR} (ha:Pb a) (hb:Pb b):vB a b=some (xV a b):=by
 unfold Pb at ha hb;unfold vB bN;rw [if_pos (by omega),if_pos (by omega),if_pos (by omega),aGw];rfl
theorem rQ {a b:aR} (ha:Pb a) (hb:Pb b):iM vB a b=true↔xV a b < 0:=by
 unfold iM;rw [WU ha hb];simp
theorem KZ {l:List aR} (hl:l.length≤10) (h:∀ p∈l,Pb p) (hn:(l.map (·.number)).Nodup):T (iW vB l) fun r=>r.Perm l:=by
 refine ⟨_,pL ⟨by omega,fun x hx y hy=>⟨_,WU (h x hx) (h y hy)⟩,fun x hx=>?_,fun x hx y hy z hz h1 h2=>?_,fun x hx y hy h1 h2=>?_⟩,List.mergeSort_perm ..⟩
 ·rw [Bool.eq_false_iff,Ne,rQ (h x hx) (h x hx)];unfold xV;simp
 ·rw [rQ (h _ hx) (h _ hy)] at h1;rw [rQ (h _ hy) (h _ hz)] at h2;rw [rQ (h _ hx) (h _ hz)];unfold xV at *;(repeat' split at h1) <;> (repeat' split at h2) <;> (repeat' split) <;> omega
 refine Classical.byContradiction fun hne=>?_;have h3:¬xV x y < 0:=fun h3=>by rw [(rQ (h _ hx) (h _ hy)).2 h3] at h1;cases h1
 have h4:¬xV y x < 0:=fun h3=>by rw [(rQ (h _ hy) (h _ hx)).2 h3] at h2;cases h2
 have h5:x.number=y.number:=by
  unfold xV at h3 h4;(repeat' split at h3) <;> (repeat' split at h4) <;> omega
 obtain ⟨i,hi⟩:=List.getElem?_of_mem hx;obtain ⟨j,hj⟩:=List.getElem?_of_mem hy;have hi':=(List.getElem?_eq_some_iff.1 hi).1;have:=(List.getElem?_inj (by rw [List.length_map];exact hi') hn).1 (show (l.map (·.number))[i]?=(l.map (·.number))[j]? by rw [List.getElem?_map,List.getElem?_map,hi,hj];simp [h5]);subst this;rw [hi] at hj;cases hj;exact hne rfl
end T12
set_option maxHeartbeats 4000000
namespace T12
open Go Go.Proofs Pk
theorem MP (m:bL):∀ (k:Nat) (n:Int),up m (k+1) n=up m k (GN m n).of
 | 0,_=>rfl
 | k+1,n=>by rw [up,MP m k n];rfl
def rk (m:bL) (n:Int):Nat:=((List.range 12).findIdx? fun j=>decide (up m j n=0)).getD 12
open Classical in
theorem MQ {m:bL} {n:Int} {j:Nat} (hj:j < 12) (h:up m j n=0) (hl:∀ i,i < j→up m i n≠0):rk m n=j:=by
 unfold rk;have:(List.range 12).findIdx? (fun j=>decide (up m j n=0))=some j:=by
  rw [List.findIdx?_eq_some_iff_getElem];exact ⟨by simpa using hj,by simpa using h,fun i hi=>by simpa using hl i hi⟩
 rw [this];rfl
theorem xZ {P:Nat→Prop}:∀ (n:Nat),P n→∃ j,j≤n∧P j∧∀ i,i < j→¬P i:=by
 intro n
 induction n using Nat.strongRecOn with
 | _ n ih =>
  intro h;by_cases hh:∃ i,i < n∧P i
  ·obtain ⟨i,hi,hP⟩:=hh;obtain ⟨j,h1,h2,h3⟩:=ih i hi hP;exact ⟨j,by omega,h2,h3⟩
  exact ⟨n,Nat.le_refl _,h,fun i hi hP=>hh ⟨i,hi,hP⟩⟩
variable {m:bL}
theorem PZ (hV:Vm m) {p:aR} (hp:p∈m.papers):GN m p.number=p:=by
 unfold GN KY;rw [GM _ _ hV.nd p hp];rfl
theorem WV (hV:Vm m) {p:aR} (hp:p∈m.papers):rk m p.number=rk m p.of+1:=by
 obtain ⟨n,hn,h0⟩:=hV.en p hp;obtain ⟨j,h1,h2,h3⟩:=xZ (P:=fun j=>up m j p.of=0) n h0;have hu:∀ i,up m (i+1) p.number=up m i p.of:=fun i=>by rw [MP,PZ hV hp]
 rw [MQ (by omega) h2 h3];refine MQ (by omega) (by rw [hu];exact h2) fun i hi=>?_
 cases i with
 | zero=>have:=(hV.n p hp).1;show p.number≠0;omega
 | succ i=>rw [hu];exact h3 i (by omega)
def nQ (m:bL) (n:Int):Nat:=(m.papers.filter fun p=>decide (rk m n≤rk m p.of)).length
theorem GP (hV:Vm m) {p:aR} (hp:p∈m.papers) {v:Int} (hv:p.of=v):nQ m p.number+(m.papers.filter fun q=>decide (q.of=v)).length≤nQ m v:=by
 unfold nQ;rw [WV hV hp,hv];have:∀ l:List aR,(l.filter fun q=>decide (rk m v+1≤rk m q.of)).length+(l.filter fun q=>decide (q.of=v)).length≤(l.filter fun q=>decide (rk m v≤rk m q.of)).length:=by
  intro l
  induction l with
  | nil=>exact Nat.le_refl _
  | cons q l ih =>
   simp only [List.filter_cons,decide_eq_true_eq];by_cases h1:q.of=v
   ·rw [h1,if_neg (by omega:¬rk m v+1≤rk m v),if_pos (rfl:v=v),if_pos (Nat.le_refl _)];simp only [List.length_cons];omega
   rw [if_neg h1];by_cases h2:rk m v+1≤rk m q.of
   ·rw [if_pos h2,if_pos (by omega)];simp only [List.length_cons];omega
   rw [if_neg h2];split <;> (try simp only [List.length_cons]) <;> omega
 exact this _
theorem GQ (hV:Vm m) (v:Int):nQ m v≤10:=Nat.le_trans (List.length_filter_le _ _) hV.pl
def oO (n:Nat):Nat:=60*3 ^ n
theorem GR:∀ n,n≤10→∀ c,c≤n→c*(60+oO (n - c))+60≤oO n:=by decide
theorem QA:∀ n,n≤10→oO n≤3542940:=by decide
theorem GS {a b:Nat} (h:a≤b):oO a≤oO b:=Nat.mul_le_mul_left _ (Nat.pow_le_pow_right (by decide) h)
theorem MR (hV:Vm m) (v:Int):(wd m v).length≤60:=by
 unfold wd;split
 ·exact hV.wl
 unfold GN
 cases h:eJ (KY m) v with
 | none=>exact Nat.zero_le _
 | some p =>
  rcases xU _ _ _ _ h with h1 | h1
  ·exact hV.w p h1.1
  cases h1
def LW (c:List Int) (a:List aD) (b:List bG):Prop:=a.length=b.length∧zC a∧∀ o∈b,o.number=0∨o.number∈c
theorem LW.snoc {c:List Int} {a:List aD} {b:List bG} {x:aD} {y:bG} (h:LW c a b) (hx:x.length≤20) (hy:y.number=0∨y.number∈c):LW c (a++[x]) (b++[y]):=⟨by simp [h.1],fun s hs=>by
 rcases List.mem_append.1 hs with h1 | h1
 ·exact h.2.1 s h1
 ·simp at h1;subst h1;exact hx,fun o ho=>by
 rcases List.mem_append.1 ho with h1 | h1
 ·exact h.2.2 o h1
 simp at h1;subst h1;exact hy⟩
theorem WW (hV:Vm m) (v:Int):zC (wd m v):=by
 unfold wd;split
 ·exact hV.wt
 unfold GN
 cases h:eJ (KY m) v with
 | none=>exact fun s hs=>absurd hs (List.not_mem_nil)
 | some p =>
  rcases xU _ _ _ _ h with h1 | h1
  ·exact hV.pt p h1.1
  cases h1
theorem GT {choice:List Int} (ws:List aD) (v:Int) (hv:v=0∨v∈choice) (te:Int) (ht:te≤ws.length) (h1:ws.length≤60) (step:Int×List aD×List bG→Option ((Int×List aD×List bG)⊕(Int×List aD×List bG)))
  (hs:∀ s,step s=if s.1 < te then (bN (0≤s.1) <| (ws[s.1.toNat]?).bind fun x=>bN (s.2.1.length+([x]:List aD).length≤1073741824) <| bN (s.2.2.length+([(⟨v,s.1⟩:bG)]:List bG).length≤1073741824) <| bN (-9223372036854775808≤(s.1+1)∧(s.1+1)≤9223372036854775807) <| some (.inl ((s.1+1),(s.2.1++([x]:List aD)),(s.2.2++([(⟨v,s.1⟩:bG)]:List bG))))) else some (.inr (s.1,s.2.1,s.2.2)))
  {at_:Int} {a:List aD} {b:List bG} {L:Nat} (h0:0≤at_∧at_≤ws.length) (hl:LW choice a b∧a.length≤L) (hw:zC ws) (hb:L+60≤1073741824) :
  T (bF step (at_,a,b)) fun e=>(0≤e.1∧e.1≤ws.length)∧LW choice e.2.1 e.2.2∧e.2.1.length≤L+60:=by
 refine T.lp (fun (s:Int×List aD×List bG)=>(0≤s.1∧s.1≤ws.length)∧LW choice s.2.1 s.2.2∧s.2.1.length+((ws.length:Int) - s.1).toNat≤L+60) (fun (s:Int×List aD×List bG)=>((ws.length:Int) - s.1).toNat) (fun s hI=>?_) ⟨h0,hl.1,by dsimp only;omega⟩;rw [hs];have hI1:=hI.2.1.1;refine T.ie (fun h=>.ck (by omega) (T.bd (T.mem (by omega)) fun x hx=>.ck (by simp;omega) (.ck (by simp;omega) (.ck (by omega) (.mk ⟨⟨⟨by dsimp only;omega,by dsimp only;omega⟩,hI.2.1.snoc (hw x hx) hv,by simp;omega⟩,by dsimp only;omega⟩))))) fun h=>.mk ⟨hI.1,hI.2.1,by dsimp only;omega⟩
theorem aGx (hV:Vm m) (choice:List Int):∀ (k:Nat) (v:Int) (a:List aD) (b:List bG),(v=0∨v∈choice)→nQ m v < k→LW choice a b→a.length+oO (nQ m v)≤1073741824 →
  T (lE m choice k (v,a,b)) fun r=>LW choice r.1 r.2∧r.1.length≤a.length+oO (nQ m v):=by
 intro k
 induction k with
 | zero=>intro v a b _ h;omega
 | succ k ih =>
  intro v a b hv h1 h2 h3;show T (sR m choice (lE m choice k) (v,a,b)) _;have hfl:=GQ hV v;have h0:=MR hV v;unfold sR;refine T.bd (.ok (WS m v)) fun ws hws=>?_;subst hws;have hc:T (bF (sQ m (v,a,b)) (0,([]:List aR))) fun e=>e=m.papers.filter fun q=>decide (q.of=v):=by
   refine T.ix m.papers.length (·.1) (fun s=>s.2=(m.papers.take s.1).filter fun q=>decide (q.of=v)) (fun s hs hi=>?_) rfl (Nat.zero_le _);have hlen:s.2.length≤10:=by rw [hs];exact Nat.le_trans (List.length_filter_le _ _) (Nat.le_trans (by rw [List.length_take];omega) hV.pl)
   unfold sQ;refine T.ie (fun hl=>T.bd (T.at (by omega)) fun x hx=>T.bd (Q:=fun t=>t=(m.papers.take (s.1+1)).filter fun q=>decide (q.of=v)) (T.ie (fun ho=>.ck (by omega) (.mk ?_)) fun ho=>.mk ?_) fun t ht=>.mk ⟨ht,rfl,by omega⟩) fun hl=>.mk ?_
   ·rw [List.take_add_one,hx,List.filter_append,← hs];simp at ho;simp [ho]
   ·rw [List.take_add_one,hx,List.filter_append,← hs];simp at ho;simp [ho]
   dsimp only;rw [hs,List.take_of_length_le (by omega)]
  refine T.bd (Q:=fun (e:Int×List aD×List bG)=>(0≤e.1∧e.1≤(wd m v).length)∧LW choice e.2.1 e.2.2∧e.2.1.length+60≤a.length+oO (nQ m v)) (T.bd hc fun cs hcs=>?_) fun e he=>?_
  ·have hcm:∀ p∈cs,p∈m.papers∧p.of=v:=fun p hp=>by rw [hcs] at hp;simpa using hp
   have hcn:(cs.map (·.number)).Nodup:=by rw [hcs];exact (hV.nd.sublist (List.Sublist.map _ (List.filter_sublist)))
   have hcl:cs.length≤10:=by rw [hcs];exact Nat.le_trans (List.length_filter_le _ _) hV.pl
   refine .ck (List.Pairwise.of_map (f:=(·.number)) (fun _ _ h e=>h (by rw [e])) hcn) (T.bd (KZ hcl (fun p hp=>?_) hcn) fun l hl=>?_)
   ·have h5:=hV.ft p (hcm p hp).1;have h6:=MR hV p.of;have h7:=hV.n p (hcm p hp).1;exact ⟨by omega,by omega,h7⟩
   have hll:=hl.length_eq;have hfc:cs.length≤nQ m v:=by
    cases hq:cs with
    | nil=>exact Nat.zero_le _
    | cons p t =>
     have hp:p∈cs:=by rw [hq];exact List.mem_cons_self ..
     have:=GP hV (hcm p hp).1 (hcm p hp).2;rw [← hcs,hq] at this;omega
   have hbs:=GR (nQ m v) hfl cs.length hfc;refine T.bd (Q:=fun (e:Int×List aD×List bG)=>(0≤e.1∧e.1≤(wd m v).length)∧LW choice e.2.1 e.2.2∧e.2.1.length+60≤a.length+oO (nQ m v)) ?_ fun e he=>.mk he;have hB:∀ i,i < cs.length→i*(60+oO (nQ m v - cs.length))+(60+oO (nQ m v - cs.length))≤cs.length*(60+oO (nQ m v - cs.length)):=fun i hi=>by
    rw [← Nat.succ_mul];exact Nat.mul_le_mul_right _ hi
   refine T.ix cs.length (·.1) (fun (s:Nat×Int×List aD×List bG)=>(0≤s.2.1∧s.2.1≤(wd m v).length)∧LW choice s.2.2.1 s.2.2.2∧s.2.2.1.length≤a.length+s.1*(60+oO (nQ m v - cs.length))) (fun s hs hi=>?_) ⟨⟨Int.le_refl 0,by dsimp only;omega⟩,h2,by dsimp only;omega⟩ (Nat.zero_le _);unfold xI;refine T.ie (fun hlt=>T.bd (T.mem (by omega)) fun p hp=>?_) fun hlt=>.mk ⟨hs.1,hs.2.1,?_⟩
   ·have hp':=hcm p (hl.mem_iff.1 hp);have hft:=hV.ft p hp'.1;rw [hp'.2] at hft;have hB':=hB s.1 (by omega);have hst:(s.1+1)*(60+oO (nQ m v - cs.length))=s.1*(60+oO (nQ m v - cs.length))+(60+oO (nQ m v - cs.length)):=Nat.succ_mul _ _;refine T.bd (Q:=fun (e:Int×List aD×List bG)=>(0≤e.1∧e.1≤(wd m v).length)∧LW choice e.2.1 e.2.2∧e.2.1.length≤a.length+(s.1+1)*(60+oO (nQ m v - cs.length))) (T.bd (.ok (KX _ _)) fun r hrr=>T.bd (Q:=fun (e:Int×List aD×List bG)=>(0≤e.1∧e.1≤(wd m v).length)∧LW choice e.2.1 e.2.2∧e.2.1.length≤a.length+(s.1+1)*(60+oO (nQ m v - cs.length))) (T.ie (fun hrt=>?_) fun _=>.mk ⟨hs.1,hs.2.1,by dsimp only;omega⟩) fun e he=>.mk he) fun e he=>.mk ⟨he,rfl,by omega⟩;have hpc:p.number∈choice:=by
     rw [hrr] at hrt;obtain ⟨x,hx,he⟩:=List.any_eq_true.1 hrt;rw [of_decide_eq_true he];exact hx
    refine T.bd (Q:=fun (e:Int×List aD×List bG)=>(0≤e.1∧e.1≤(wd m v).length)∧LW choice e.2.1 e.2.2∧e.2.1.length≤a.length+s.1*(60+oO (nQ m v - cs.length))+60) (T.bd (GT (wd m v) v hv p.from_ (by omega) h0 (xH p (wd m v) (v,a,b)) (fun s=>rfl) hs.1 hs.2 (WW hV v) (by omega)) fun e he=>.mk he) fun e he=>?_;have hf:=GP hV hp'.1 hp'.2;rw [← hcs] at hf;have hbm:oO (nQ m p.number)≤oO (nQ m v - cs.length):=GS (by omega);exact T.bd (ih p.number e.2.1 e.2.2 (.inr hpc) (by have:0 < cs.length:=(by omega);omega) he.2.1 (by omega)) fun r hr=>.mk ⟨⟨by dsimp only;omega,by dsimp only;omega⟩,hr.1,by dsimp only;omega⟩
   have:s.1*(60+oO (nQ m v - cs.length))≤cs.length*(60+oO (nQ m v - cs.length)):=Nat.mul_le_mul_right _ hi;dsimp only;omega
  refine T.bd (Q:=fun (e:Int×List aD×List bG)=>LW choice e.2.1 e.2.2∧e.2.1.length≤a.length+oO (nQ m v)) (T.bd (GT (wd m v) v hv _ (Int.le_refl _) h0 (xJ (wd m v) (v,a,b)) (fun s=>rfl) (L:=a.length+oO (nQ m v) - 60) he.1 ⟨he.2.1,by omega⟩ (WW hV v) (by omega)) fun e h=>.mk ⟨h.2.1,by dsimp only;omega⟩) fun e h=>.mk h
theorem t71 (m:bL) (choice:List Int):T (AK m choice) fun r=>LW choice r.1 r.2.1∧r.1.length≤3542940∧(r.2.2=0→Vm m):=by
 unfold AK;refine T.bd (aGv m choice) fun r h=>T.ie (fun hr=>.mk ⟨⟨rfl,by simp [zC],by simp⟩,by simp,fun h0=>absurd h0 hr⟩) fun h0=>?_;have hV:=h (by omega);have h1:=GQ hV 0;have h2:=QA _ h1;exact T.bd (T.rc (aGx hV choice 100000 0 [] [] (.inl rfl) (by omega) ⟨rfl,by simp [zC],by simp⟩ (by simp;omega))) fun r hr=>.mk ⟨hr.1,by have:=hr.2;simp at this;dsimp only;omega,fun _=>hV⟩
end T12
set_option maxHeartbeats 4000000
namespace T12
open Go Go.Proofs Pk
theorem xW (n a b:Int):DG n a b=some (decide (a≤n∧n≤b)):=by
 unfold DG;by_cases h:a≤n <;> simp [h]
theorem RH (n:Int):HJ n=some (decide (0≤n∧n≤99999)):=by unfold HJ;rw [xW];rfl
theorem QB (n:Int):OQ n=some (decide (1≤n∧n≤999)):=by unfold OQ;rw [xW];rfl
theorem aGy (l:List aH) (f:aH→Option Bool) (p:aH→Bool) (hf:∀ x∈l,f x=some (p x)):DH l f=some (l.all p):=by
 obtain ⟨r,h1,h2⟩:=qV l (fun x=>uN x f) (fun x=>!p x) (fun x hx=>by unfold uN;rw [hf x hx];rfl) (wG l (fun x=>uN x f)) (fun i=>rfl);unfold DH JF JE;rw [h1,List.all_eq_not_any_not];rcases h2 with ⟨z,rfl,h2⟩ | ⟨rfl,h2⟩ <;> simp [h2]
theorem aGz (l:List aP) (f:aP→Option Bool) (p:aP→Bool) (hf:∀ x∈l,f x=some (p x)):TH l f=some (l.all p):=by
 obtain ⟨r,h1,h2⟩:=qV l (fun x=>MF x f) (fun x=>!p x) (fun x hx=>by unfold MF;rw [hf x hx];rfl) (wI l (fun x=>MF x f)) (fun i=>rfl);unfold TH YG JG;rw [h1,List.all_eq_not_any_not];rcases h2 with ⟨z,rfl,h2⟩ | ⟨rfl,h2⟩ <;> simp [h2]
theorem aG0 (l:List UInt8) (f:Int→Option Bool) (p:Int→Bool) (hf:∀ x∈l,f (x.toNat:Int)=some (p (x.toNat:Int))):DJ l f=some (l.all fun x=>p (x.toNat:Int)):=by
 obtain ⟨r,h1,h2⟩:=qV l (fun x=>uO (x.toNat:Int) f) (fun x=>!p (x.toNat:Int)) (fun x hx=>by unfold uO;rw [hf x hx];rfl) (sC l (fun x=>uO x f)) (fun i=>rfl);unfold DJ zU DI;rw [h1,List.all_eq_not_any_not];rcases h2 with ⟨z,rfl,h2⟩ | ⟨rfl,h2⟩ <;> simp [h2]
theorem QC (s:aD):T (OR s) fun r=>r=true→1≤s.length∧s.length≤200:=by
 unfold OR;refine T.bd (Q:=fun r=>r=true→1≤s.length∧s.length≤200) (T.bd (.ok (xW _ _ _)) fun r h=>T.ie (fun h1=>?_) fun _=>.mk (by simp)) fun _ h=>.mk h;subst h;simp only [decide_eq_true_eq] at h1;refine .ck (by omega) (T.bd (.ok (aG0 _ _ (fun c=>(wH c).getD false) fun x _=>?_)) fun _ _=>.mk fun _=>⟨by omega,by omega⟩);unfold wH;by_cases h:(32:Int)≤x.toNat <;> simp [h]
theorem WX (p:aH):T (uP p) fun r=>r=true→(1≤p.anchor∧p.anchor≤999)∧1≤p.text.length∧p.text.length≤200:=by
 unfold uP;refine T.bd (Q:=fun r=>r=true→(1≤p.anchor∧p.anchor≤999)∧1≤p.text.length∧p.text.length≤200) (T.bd (.ok (QB _)) fun r h=>T.ie (fun h1=>T.bd (QC _) fun b hb=>.mk fun h2=>?_) fun _=>.mk (by simp)) fun _ h=>.mk h;subst h;simp only [decide_eq_true_eq] at h1;exact ⟨h1,hb h2⟩
def mN (v:bX):List aH:=v.parts.flatMap (·.paragraphs)
def Ps (v:bX):Prop:=v.parts.length≤1000∧∀ p∈v.parts,p.paragraphs.length≤1000
theorem YR (v:bX) (h:Ps v):ME v=some (mN v):=by
 obtain ⟨r,h1,h2⟩:T (bF (yT v) (0,([]:List aH))) fun e=>e=mN v:=by
  refine T.ix v.parts.length (·.1) (fun s=>s.2=(v.parts.take s.1).flatMap (·.paragraphs)∧s.2.length≤1000*s.1) (fun s hs hi=>?_) ⟨rfl,Nat.zero_le _⟩ (Nat.zero_le _);unfold yT;have:=h.1;refine T.ie (fun hl=>T.bd (T.at (by omega)) fun x hx=>?_) fun hl=>.mk (by dsimp only;rw [hs.1,List.take_of_length_le (by omega)];rfl);have hx2:=h.2 x (List.mem_of_getElem? hx);exact .ck (by omega) (.mk ⟨⟨by dsimp only;rw [List.take_add_one,hx,hs.1,List.flatMap_append];simp,by simp;omega⟩,rfl,by omega⟩)
 unfold ME;rw [h1,h2];rfl
structure Vv (v:bX):Prop where
 pl:v.parts.length≤6
 ql:(mN v).length≤30
 h:1≤v.height∧v.height≤60
 w:10≤v.width∧v.width≤80
 n:1≤v.number∧v.number≤99
 b:0≤v.bound∧v.bound≤99999
 p:∀ p∈mN v,(1≤p.anchor∧p.anchor≤999)∧1≤p.text.length∧p.text.length≤200
theorem t82 (v:bX) (h:Ps v):T (TE v) fun r=>r=true→v.parts.length≤6→(mN v).length≤30→Vv v:=by
 unfold TE;refine T.bd (Q:=fun e=>match e with | .inl _=>True | .inr z=>z=false) (T.ix v.parts.length id (fun _=>True) (fun i _ hi=>?_) trivial (Nat.zero_le _)) fun e he=>?_
 ·unfold DK;exact T.ie (fun hl=>T.bd (T.at (by simp only [id] at *;omega)) fun x hx=>T.bd (Q:=fun _=>True) (T.bd (.ok (RH _)) fun _ _=>T.ie (fun _=>T.ie (fun _=>.mk trivial) fun _=>T.ie (fun h0=>T.bd (T.at (by simp only [id] at *;omega)) fun _ _=>.mk trivial) fun _=>.mk trivial) fun _=>.mk trivial) fun _ _=>T.ie (fun _=>.mk rfl) fun _=>.mk ⟨trivial,rfl,by simp only [id] at *;omega⟩) fun _=>.mk trivial
 cases e with
 | inr z=>simp only at he;subst he;exact .mk (by simp)
 | inl _ =>
  refine T.bd (Q:=fun r=>r=true→v.parts.length≤6→(mN v).length≤30→Vv v) ?_ fun _ h=>.mk h;refine T.bd (.ok (xW _ _ _)) fun r h1=>T.ie (fun g1=>T.bd (.ok (RH _)) fun r h2=>T.ie (fun g2=>T.bd (.ok (xW _ _ _)) fun r h3=>T.ie (fun g3=>T.bd (.ok (xW _ _ _)) fun r h4=>T.ie (fun g4=>T.bd (.ok (YR v h)) fun l hl=>T.bd (.ok (aGy _ _ (fun p=>(uP p).getD false) fun p _=>(WX p).get)) fun r h5=>.mk fun g5 a b=>?_) fun _=>.mk (by simp)) fun _=>.mk (by simp)) fun _=>.mk (by simp)) fun _=>.mk (by simp);subst h1 h2 h3 h4 hl;simp only [decide_eq_true_eq] at g1 g2 g3 g4;rw [h5,List.all_eq_true] at g5;refine ⟨a,b,g3,g4,g1,g2,fun p hp=>?_⟩;obtain ⟨r,h6,h7⟩:=WX p;have:=g5 p hp;rw [h6] at this;exact h7 this
theorem t53 (v:bX) (h:Ps v):T (OS v) fun r=>r=0→Vv v:=by
 unfold OS;refine T.bd (.ok (YR v h)) fun l hl=>T.bd (Q:=fun t=>t=false→v.parts.length≤6∧(mN v).length≤30) (T.ie (fun _=>.mk (by simp)) fun h6=>.mk fun h7=>?_) fun t ht=>T.ie (fun _=>.mk (by simp)) fun hf=>T.bd (t82 v h) fun r hr=>T.ie (fun hrt=>T.bd (Q:=fun e=>match e with | .inl _=>True | .inr z=>z=6) (T.ix l.length (·.1) (fun _=>True) (fun s _ hi=>?_) trivial (Nat.zero_le _)) fun e he=>?_) fun _=>.mk (by simp)
 ·subst hl;simp at h7;omega
 ·unfold DL;exact T.ie (fun hl=>T.bd (T.at (by omega)) fun x hx=>T.ie (fun _=>.mk rfl) fun _=>.mk ⟨trivial,rfl,by omega⟩) fun _=>.mk trivial
 have h8:=ht (by simpa using hf)
 cases e with
 | inr z=>exact .mk fun _=>hr hrt h8.1 h8.2
 | inl _=>exact .mk fun _=>hr hrt h8.1 h8.2
theorem WY (x:aP):T (MG x) fun r=>r=true→(0≤x.kind∧x.kind≤2)∧x.text.length≤200∧(x.kind=2→1≤x.new_∧x.new_≤999):=by
 unfold MG;refine T.bd (Q:=fun _=>True) (T.bd (.ok (xW _ _ _)) fun _ _=>T.ie (fun _=>T.bd (.ok (RH _)) fun _ _=>T.ie (fun _=>T.bd (.ok (QB _)) fun _ _=>.mk trivial) fun _=>.mk trivial) fun _=>.mk trivial) fun _ _=>T.ie (fun _=>.mk (by simp)) fun _=>T.ie (fun h0=>?_) fun _=>T.ie (fun h1=>?_) fun _=>T.ie (fun h2=>?_) fun _=>.mk (by simp)
 ·exact T.bd (Q:=fun r=>r=true→x.text.length≤200) (T.bd (QC _) fun r h=>T.ie (fun hr=>.mk fun _=>(h hr).2) fun _=>.mk (by simp)) fun r h=>.mk fun hr=>⟨by omega,h hr,by omega⟩
 ·exact T.bd (Q:=fun r=>r=true→x.text.length≤200) (T.ie (fun h=>.mk fun _=>by rw [h];decide) fun _=>.mk (by simp)) fun r h=>.mk fun hr=>⟨by omega,h hr,by omega⟩
 exact T.bd (Q:=fun r=>r=true→x.text.length≤200∧1≤x.new_∧x.new_≤999) (T.bd (QC _) fun r h=>T.ie (fun hr=>T.bd (.ok (QB _)) fun b hb=>.mk fun hbt=>by subst hb;simp only [decide_eq_true_eq] at hbt;exact ⟨(h hr).2,hbt⟩) fun _=>.mk (by simp)) fun r h=>.mk fun hr=>⟨by omega,(h hr).1,fun _=>(h hr).2⟩
end T12
set_option maxHeartbeats 4000000
namespace T12
open Go Go.Proofs Pk
structure Ve (es:List aP):Prop where
 l:es.length≤20
 k:∀ x∈es,(0≤x.kind∧x.kind≤2)∧x.text.length≤200∧(x.kind=2→1≤x.new_∧x.new_≤999)
 nd:(es.map (·.number)).Nodup
def AZ (a b:Int):Int:=if a < b then -1 else if b < a then 1 else 0
theorem WZ (a b:Int):zV a b=some (AZ a b):=by
 unfold zV uQ AZ;simp only [ne_eq,not_true_eq_false,decide_false,Option.bind_some,Bool.false_eq_true,if_false];by_cases h:a < b
 ·rw [if_pos h,if_pos h]
 rw [if_neg h,if_neg h];split <;> rfl
theorem aG1 (x y:Int):DN [x,y]=some (if x≠0 then x else y):=by
 have h:∀ (i:Nat) (v:Int),[x,y][i]?=some v→pV [x,y] i=if v≠0 then some (.inr (.inr v)) else some (.inl (i+1)):=fun i v hv=>by
  have:=(List.getElem?_eq_some_iff.1 hv).1;unfold pV;rw [if_pos (by omega),hv];rfl
 have h0:=h 0 x rfl;have h1:=h 1 y rfl;unfold DN;by_cases a:x=0
 ·rw [if_neg (by omega)] at h0;rw [cG h0];by_cases b:y=0
  ·rw [if_neg (by omega)] at h1;rw [cG h1,dF (by unfold pV;rfl)];simp [a,b]
  rw [if_pos b] at h1;rw [dF h1];simp [a]
 rw [if_pos a] at h0;rw [dF h0];simp [a]
def XA (a b:aP):Int:=if AZ a.day b.day≠0 then AZ a.day b.day else AZ a.number b.number
theorem XB (a b:aP):sF a b=some (XA a b):=by
 unfold sF;rw [WZ,WZ];simp only [Option.bind_some];rw [aG1];rfl
theorem GU (a b:aP):iM sF a b=true↔a.day < b.day∨(a.day=b.day∧a.number < b.number):=by
 unfold iM;rw [XB];simp only [decide_eq_true_eq];unfold XA AZ;(repeat' split) <;> omega
theorem zD {l:List aP} (hl:l.length≤20) (hn:(l.map (·.number)).Nodup):T (iW sF l) fun r=>r.Perm l:=by
 refine ⟨_,pL ⟨by omega,fun x hx y hy=>⟨_,XB x y⟩,fun x hx=>?_,fun x hx y hy z hz h1 h2=>?_,fun x hx y hy h1 h2=>?_⟩,List.mergeSort_perm ..⟩
 ·rw [Bool.eq_false_iff,Ne,GU];omega
 ·rw [GU] at *;omega
 have h3:x.number=y.number:=by
  rw [Bool.eq_false_iff,Ne,GU] at h1 h2;omega
 obtain ⟨i,hi⟩:=List.getElem?_of_mem hx;obtain ⟨j,hj⟩:=List.getElem?_of_mem hy;have hi':=(List.getElem?_eq_some_iff.1 hi).1;have:=(List.getElem?_inj (by rw [List.length_map];exact hi') hn).1 (show (l.map (·.number))[i]?=(l.map (·.number))[j]? by rw [List.getElem?_map,List.getElem?_map,hi,hj];simp [h3]);subst this;rw [hi] at hj;cases hj;rfl
theorem XC {l:List aP} (h:l.length≤20):sD l=some l:=by
 unfold sD bN;rw [if_pos (by simp;omega)];rfl
theorem aG2 (v:bX) (es:List aP) (hv:Ps v) (he:Ve es):T (TJ v es) fun _=>True:=by
 unfold TJ;refine T.bd (.ok (YR v hv)) fun ps _=>T.bd (Q:=fun _=>True) (T.ix ps.length (·.1) (fun _=>True) (fun s _ hi=>?_) trivial (Nat.zero_le _)) fun t _=>T.bd (Q:=fun _=>True) (T.bd (.ok (XC he.l)) fun l1 h1=>?_) fun t _=>by cases t <;> exact .mk trivial
 ·unfold DP;exact T.ie (fun hl=>T.bd (T.at (by omega)) fun x hx=>.mk ⟨trivial,rfl,by omega⟩) fun _=>.mk trivial
 subst h1;refine T.bd (zD he.l he.nd) fun l hl=>T.bd (Q:=fun _=>True) (T.ix l1.length (·.1) (fun _=>True) (fun s _ hi=>?_) trivial (Nat.zero_le _)) fun e _=>by cases e <;> exact .mk trivial
 have hll:=hl.length_eq;unfold DQ;refine T.ie (fun hl=>T.bd (T.at (by omega)) fun x hx=>T.ie (fun _=>.mk trivial) fun _=>T.bd (Q:=fun _=>True) (T.ie (fun _=>T.bd (Q:=fun _=>True) (T.ie (fun _=>.mk trivial) fun _=>.mk trivial) fun _ _=>.mk trivial) fun _=>.mk trivial) fun t _=>?_) fun _=>.mk trivial
 cases t with
 | inl _=>exact .mk trivial
 | inr _=>exact .mk ⟨trivial,rfl,by omega⟩
theorem t85 (v:bX) (es:List aP) (hv:Ps v):T (OT v es) fun r=>r=0→Vv v∧Ve es:=by
 unfold OT;refine T.bd (t53 v hv) fun r h=>T.ie (fun hr=>.mk fun h0=>absurd h0 hr) fun h0=>T.ie (fun _=>.mk (by simp)) fun hl=>T.bd (.ok (aGz _ _ (fun x=>(MG x).getD false) fun x _=>(WY x).get)) fun r2 h2=>T.ie (fun hr=>T.bd (.ok (YR v hv)) fun ps _=>T.bd (Q:=fun _=>True) (T.ix ps.length (·.1) (fun _=>True) (fun s _ hi=>?_) trivial (Nat.zero_le _)) fun t _=>T.bd (Q:=fun e=>match e with | .inl _=>(es.map (·.number)).Nodup | .inr z=>z=6) (T.ix es.length (·.1) (fun s=>(∀ k,(eJ s.2.1 k).getD false=true↔k∈(es.take s.1).map (·.number))∧((es.take s.1).map (·.number)).Nodup) (fun s hs hi=>?_) ⟨fun k=>by simp [eJ],by simp⟩ (Nat.zero_le _)) fun e he=>?_) fun _=>.mk (by simp)
 ·unfold DR;exact T.ie (fun hl=>T.bd (T.at (by omega)) fun x hx=>.mk ⟨trivial,rfl,by omega⟩) fun _=>.mk trivial
 ·unfold DS;refine T.ie (fun hl=>T.bd (T.at (by omega)) fun x hx=>T.bd (Q:=fun t=>t=false→x.number∉(es.take s.1).map (·.number)) (T.ie (fun _=>.mk (by simp)) fun hn=>?_) fun t ht=>T.ie (fun _=>.mk rfl) fun hf=>T.bd (Q:=fun _=>True) (T.ie (fun _=>.mk trivial) fun _=>.mk trivial) fun _ _=>.mk ⟨⟨fun k=>?_,?_⟩,rfl,by omega⟩) fun hl=>.mk (by have:=hs.2;rwa [List.take_of_length_le (by omega)] at this)
  ·have hm:x.number∉(es.take s.1).map (·.number):=fun h=>hn ((hs.1 _).2 h);exact T.ie (fun _=>.mk fun _=>hm) fun _=>.mk fun _=>hm
  ·dsimp only;rw [jW,List.take_add_one,hx,List.map_append,List.mem_append,← hs.1 k];by_cases hk:k=x.number <;> simp [hk]
  have hm:=ht (by simpa using hf);dsimp only;rw [List.take_add_one,hx,List.map_append];exact List.nodup_append.2 ⟨hs.2,by simp,fun a ha b hb hab=>by simp at hb;subst hb hab;exact hm ha⟩
 cases e with
 | inr z=>simp only at he;subst he;exact .mk (by simp)
 | inl _ =>
  have hE:Ve es:=⟨by omega,fun x hx=>by
   obtain ⟨r,h6,h7⟩:=WY x;rw [h2,List.all_eq_true] at hr
   have:=hr x hx;rw [h6] at this;exact h7 this,he⟩
  exact T.bd (aG2 v es hv hE) fun _ _=>.mk fun _=>⟨h (by omega),hE⟩
end T12
set_option maxHeartbeats 4000000
namespace T12
open Go Go.Proofs Pk
def Pg (p:aH):Prop:=p.text.length≤200∧1≤p.anchor∧p.anchor≤999
def Gd (n k:Nat) (g:List (List cN)):Prop:=g.length=n∧∀ r∈g,r.length≤k∧∀ e∈r,Pg e.paragraph
theorem Gd.mono {n k k':Nat} {g:List (List cN)} (h:Gd n k g) (hk:k≤k'):Gd n k' g:=⟨h.1,fun r hr=>⟨Nat.le_trans (h.2 r hr).1 hk,(h.2 r hr).2⟩⟩
theorem XD {α:Type} {l:List α} {i:Nat} {v:α} {P:α→Prop} (h:∀ x∈l,P x) (hv:P v):∀ x∈l.set i v,P x:=xR h hv
theorem Gd.set {n k:Nat} {g:List (List cN)} {i:Nat} {r:List cN} (h:Gd n k g) (hr:r.length≤k∧∀ e∈r,Pg e.paragraph):Gd n k (g.set i r):=⟨by rw [List.length_set];exact h.1,XD h.2 hr⟩
theorem LA {v:bX} {p:eB} (hp:p∈v.parts):p.paragraphs.length≤(mN v).length:=by
 unfold mN;obtain ⟨i,hi⟩:=List.getElem?_of_mem hp;have:∀ (l:List eB) (p:eB),p∈l→p.paragraphs.length≤(l.flatMap (·.paragraphs)).length:=by
  intro l p
  induction l with
  | nil=>intro h;cases h
  | cons q l ih =>
   intro h;rw [List.flatMap_cons,List.length_append];rcases List.mem_cons.1 h with rfl | h
   ·omega
   have:=ih h;omega
 exact this _ _ hp
theorem aG3 (g:List (List cN)) (k:Nat) (x:aP) (hg:Gd 6 k g∨g.length≤6∧∀ r∈g,r.length≤k) (hk:k≤1000) (i:Nat):T (bF (yU (i,g) x) (0,0,0,false)) fun e=>e.2.2=true→∃ r,g[e.1]?=some r∧e.2.1 < r.length:=by
 have hg':g.length≤6∧∀ r∈g,r.length≤k:=by
  rcases hg with h | h
  ·exact ⟨by have:=h.1;omega,fun r hr=>(h.2 r hr).1⟩
  exact h
 refine T.ix g.length (·.2.2.1) (fun s=>s.2.2.2=false) (fun s hs hi=>?_) rfl (Nat.zero_le _);unfold yU;dsimp only;refine T.ie (fun hl=>T.bd (T.at (by omega)) fun r hr=>T.bd (Q:=fun e=>match e with | .inl q=>q.2.2=false | .inr z=>∃ q,z=.inr q∧q.1=s.2.2.1∧q.2.1 < r.length) (T.ix r.length (·.2.2.1) (fun q=>q.2.2.2=false) (fun q hq hj=>?_) hs (Nat.zero_le _)) fun e he=>?_) fun _=>.mk fun h=>by dsimp only at h;rw [hs] at h;cases h
 ·have:=hg'.2 r (List.mem_of_getElem? hr);unfold DX;exact T.ie (fun hl=>T.bd (T.at (by omega)) fun y hy=>T.ie (fun _=>⟨_,rfl,_,rfl,rfl,by dsimp only;omega⟩) fun _=>.ck (by omega) (.mk ⟨hq,rfl,by omega⟩)) fun _=>.mk hq
 cases e with
 | inl q=>exact .ck (by omega) (.mk ⟨he,rfl,by omega⟩)
 | inr z=>obtain ⟨q,rfl,h1,h2⟩:=he;exact .mk fun _=>⟨r,by rw [h1];exact hr,h2⟩
theorem t90 (v:bX) (es:List aP) (to_:Int) (hv:Vv v) (he:Ve es):T (OU v es to_) fun r=>r.volume=v∧Gd v.parts.length 50 r.parts:=by
 have hpl:=hv.pl;have hql:=hv.ql;unfold OU;refine T.bd (Q:=fun g=>Gd v.parts.length 30 g) (T.ix v.parts.length (·.1) (fun s=>Gd s.1 30 s.2) (fun s hs hi=>?_) ⟨rfl,by simp⟩ (Nat.zero_le _)) fun g hg=>?_
 ·unfold DW;refine T.ie (fun hl=>T.bd (T.at (by omega)) fun p hp=>T.bd (Q:=fun r=>r.length≤30∧∀ e∈r,Pg e.paragraph) (T.ix p.paragraphs.length (·.1) (fun q=>q.2.length=q.1∧∀ e∈q.2,Pg e.paragraph) (fun q hq hj=>?_) ⟨rfl,by simp⟩ (Nat.zero_le _)) fun r hr=>.ck (by have:=hs.1;omega) (.mk ⟨⟨by simp [hs.1],fun r' hr'=>?_⟩,rfl,by omega⟩)) fun hl=>.mk ?_
  ·have hpm:=List.mem_of_getElem? hp;have h0:=LA hpm;unfold DV;refine T.ie (fun hl=>T.bd (T.mem (by omega)) fun y hy=>.ck (by have:=hq.1;omega) (.mk ⟨⟨by simp [hq.1],fun e he'=>?_⟩,rfl,by omega⟩)) fun _=>.mk ⟨by have:=hq.1;omega,hq.2⟩;rcases List.mem_append.1 he' with h | h
   ·exact hq.2 e h
   simp at h;subst h;have h3:=hv.p y (List.mem_flatMap.2 ⟨p,hpm,hy⟩);exact ⟨h3.2.2,h3.1⟩
  ·rcases List.mem_append.1 hr' with h | h
   ·exact hs.2 r' h
   simp at h;subst h;exact hr
  have:s.1=v.parts.length:=by omega
  rw [this] at hs;exact hs
 refine T.bd (Q:=fun g=>Gd v.parts.length 50 g) (T.bd (.ok (XC he.l)) fun l1 h1=>?_) fun g hg=>.mk ⟨rfl,hg⟩;subst h1;have hEl:=he.l;refine T.bd (zD he.l he.nd) fun l hl=>T.bd (Q:=fun e=>match e with | .inl g=>Gd v.parts.length 50 g | .inr g=>Gd v.parts.length 50 g) (T.ix l1.length (·.1) (fun s=>Gd v.parts.length (30+s.1) s.2) (fun s hs hi=>?_) hg (Nat.zero_le _)) fun e h=>by cases e <;> exact .mk h
 have hll:=hl.length_eq;unfold DY;refine T.ie (fun hlt=>T.bd (T.mem (by omega)) fun x hx=>T.bd (Q:=fun r=>Gd v.parts.length (30+(s.1+1)) r.2) (T.ie (fun _=>.mk (hs.mono (by omega))) fun _=>?_) fun r hr=>T.ie (fun _=>.mk (hr.mono (by omega))) fun _=>.mk ⟨hr,rfl,by omega⟩) fun _=>.mk (hs.mono (by omega));have hk:=he.k x (hl.mem_iff.1 hx);have hs':=hs.mono (show 30+s.1≤30+(s.1+1) by omega);refine T.bd (Q:=fun g=>Gd v.parts.length (30+(s.1+1)) g) ?_ fun g hg=>.mk hg;refine T.bd (Q:=fun e=>e.2.2=true→∃ r,s.2[e.2.1]?=some r∧e.1 < r.length) (T.bd (aG3 s.2 (30+s.1) x (.inr ⟨by have:=hs.1;omega,fun r hr=>(hs.2 r hr).1⟩) (by omega) s.1) fun e he=>.mk he) fun e hf=>?_;refine T.bd (Q:=fun g=>Gd v.parts.length (30+(s.1+1)) g) (T.ie (fun hft=>?_) fun _=>.mk hs') fun g hg=>.mk hg;obtain ⟨r,hr,hc⟩:=hf hft;have hrm:=hs.2 r (List.mem_of_getElem? hr);refine T.bd (.ok (rfl:JH=some ())) fun _ _=>.ck (by omega) (T.ie (fun _=>?_) fun _=>T.ie (fun _=>?_) fun _=>T.ie (fun hk2=>?_) fun _=>by omega)
 ·refine T.bd (Q:=fun g=>Gd v.parts.length (30+(s.1+1)) g) (T.bd (.ok hr) fun r' h'=>?_) fun g hg=>.mk hg;subst h';exact T.bd (T.mem hc) fun y hy=>T.bd (Q:=fun g=>Gd v.parts.length (30+(s.1+1)) g) (T.ie (fun _=>.mk hs') fun _=>.mk (hs'.set ⟨by simp;omega,xR hrm.2 ⟨hk.2.1,(hrm.2 y hy).2⟩⟩)) fun g hg=>.mk hg
 ·refine T.bd (Q:=fun g=>Gd v.parts.length (30+(s.1+1)) g) (T.bd (.ok hr) fun r' h'=>?_) fun g hg=>.mk hg;subst h';exact T.bd (T.mem hc) fun y hy=>.mk (hs'.set ⟨by simp;omega,xR hrm.2 (hrm.2 y hy)⟩)
 refine T.bd (Q:=fun g=>Gd v.parts.length (30+(s.1+1)) g) (T.bd (.ok hr) fun r' h'=>?_) fun g hg=>.mk hg;subst h';refine .ck (by omega) (.ck (by omega) (.ck (by omega) (.mk (hs'.set ⟨by simp;omega,fun e he'=>?_⟩))));simp only [List.mem_append,List.mem_singleton] at he';rcases he' with (h | h) | h
 ·exact hrm.2 e (List.mem_of_mem_take h)
 ·subst h;exact ⟨hk.2.1,hk.2.2 hk2⟩
 exact hrm.2 e (List.mem_of_mem_drop h)
end T12
set_option maxHeartbeats 4000000
namespace T12
open Go Go.Proofs Pk
theorem LB {n:Int} (h : -1000000000000 < n∧n < 1000000000000):(Lib.itoa n).length≤13:=by
 unfold Lib.itoa;split
 ·rw [List.length_cons];have:=yR (u:=n.natAbs) (k:=12) (by omega) (by decide);omega
 have:=yR (u:=n.toNat) (k:=12) (by omega) (by decide);omega
def Sh (x:Any):Prop:=match x with | .i n=>-1000000000000 < n∧n < 1000000000000 | .s b=>b.length≤13
theorem GV:∀ {l:List Any},(∀ x∈l,Sh x)→(gA l).length≤13*l.length
 | [],_=>by simp [gA]
 | x::l,h=>by
  have h1:=GV fun y hy=>h y (List.mem_cons_of_mem _ hy);have h2:(uL x).length≤13:=by
   have:=h x (List.mem_cons_self ..)
   cases x with
   | i n=>exact LB this
   | s b=>exact this
  have:gA (x::l)=uL x++gA l:=rfl;rw [this,List.length_append,List.length_cons];omega
theorem t87 {l:List Any} (h:∀ x∈l,Sh x) (hl:l.length≤10):T (wD l) fun r=>r.length≤130:=by
 have:=GV h;unfold wD
 exact .ck ⟨fun x hx=>by
  have:=h x hx
  cases x with
  | i n=>unfold Sh at this;exact ⟨by omega,by omega⟩
  | s b=>trivial,by omega⟩ (.mk (by omega))
theorem t84 (v:bX) (es:List aP) (to_:Int) (hv:Ps v):T (TL v es to_) fun r=>r.1.length≤300∧(r.2=0→Vv v∧Ve es):=by
 unfold TL;refine T.bd (t85 v es hv) fun r h=>T.ie (fun hr=>.mk ⟨by simp,fun h0=>absurd h0 hr⟩) fun h0=>T.bd (.ok (RH _)) fun b _=>T.ie (fun _=>?_) fun _=>.mk ⟨by simp,by simp⟩;have hVE:=h (by omega);have hpl:=hVE.1.pl;refine T.bd (t90 v es to_ hVE.1 hVE.2) fun g hg=>T.bd (Q:=fun l=>l.length≤300) (T.ix g.parts.length (·.1) (fun s=>s.2.length≤50*s.1) (fun s hs hi=>?_) (Nat.zero_le _) (Nat.zero_le _)) fun l hl=>.mk ⟨hl,fun _=>hVE⟩;have hgl:=hg.2.1;unfold EA;refine T.ie (fun hl=>T.bd (T.mem (by omega)) fun r hr=>T.bd (Q:=fun l=>l.length≤50*(s.1+1)) (T.ix r.length (·.1) (fun q=>q.2.length≤50*s.1+q.1) (fun q hq hj=>?_) hs (Nat.zero_le _)) fun l hl=>.mk ⟨hl,rfl,by omega⟩) fun _=>.mk (by omega);have hrl:=(hg.2.2 r hr).1;unfold DZ;exact T.ie (fun hl=>T.bd (T.at (by omega)) fun y hy=>T.bd (Q:=fun l=>l.length≤50*s.1+(q.1+1)) (T.ie (fun _=>.mk (by omega)) fun _=>.ck (by omega) (.mk (by simp;omega))) fun l hl=>.mk ⟨hl,rfl,by omega⟩) fun _=>.mk (by omega)
theorem aG5 (g:hQ) (anchor:Int):T (bF (sG g anchor) (0,0,0,false)) fun e=>e.2.2=true→∃ r,g.parts[e.1]?=some r∧e.2.1 < r.length:=by
 refine T.ix g.parts.length (·.2.2.1) (fun s=>s.2.2.2=false) (fun s hs hi=>?_) rfl (Nat.zero_le _);unfold sG;refine T.ie (fun hl=>T.bd (T.at (by omega)) fun r hr=>T.bd (Q:=fun e=>match e with | .inl q=>q.2.2=false | .inr z=>∃ q,z=.inr q∧q.1=s.2.2.1∧q.2.1 < r.length) (T.ix r.length (·.2.2.1) (fun q=>q.2.2.2=false) (fun q hq hj=>?_) hs (Nat.zero_le _)) fun e he=>?_) fun _=>.mk fun h=>by dsimp only at h;rw [hs] at h;cases h
 ·unfold wK;exact T.ie (fun hl=>T.bd (T.at (by omega)) fun y hy=>T.ie (fun _=>⟨_,rfl,_,rfl,rfl,by dsimp only;omega⟩) fun _=>.mk ⟨hq,rfl,by omega⟩) fun _=>.mk hq
 cases e with
 | inl q=>exact .mk ⟨he,rfl,by omega⟩
 | inr z=>obtain ⟨q,rfl,h1,h2⟩:=he;exact .mk fun _=>⟨r,by rw [h1];exact hr,h2⟩
theorem t58 (v:bX) (es:List aP) (anchor to_:Int) (hv:Ps v):T (zW v es anchor to_) fun r=>r.2.2=0→(0≤to_∧to_≤99999):=by
 unfold zW;refine T.bd (t85 v es hv) fun r h=>T.ie (fun hr=>.mk fun h0=>absurd h0 hr) fun h0=>T.bd (.ok (RH _)) fun b hb=>T.ie (fun hbt=>?_) fun _=>.mk (by simp);have hVE:=h (by omega);subst hb;simp only [decide_eq_true_eq] at hbt;refine T.bd (t90 v es to_ hVE.1 hVE.2) fun g hg=>T.bd (Q:=fun e=>e.2.2=true→∃ r,g.parts[e.2.1]?=some r∧e.1 < r.length) (T.bd (aG5 g anchor) fun e he=>.mk he) fun e he=>T.ie (fun h1=>?_) fun _=>.mk (by simp);obtain ⟨r,hr,hc⟩:=he h1;exact T.bd (.ok hr) fun r' h'=>by
  subst h';exact T.bd (T.at hc) fun y hy=>.mk fun _=>hbt
def Pd (v:bX) (x:cZ):Prop:=((1≤x.place.anchor∧x.place.anchor≤999)∧0≤x.place.lines∧x.place.lines≤1000)∧(0≤x.place.column∧x.place.column≤1000000)∧(0≤x.place.line∧x.place.line≤1000)∧(0≤x.number∧x.number≤1000)∧∃ p∈v.parts,x.day=p.day
theorem t88 (v:bX) (es:List aP) (hv:Vv v) (he:Ve es):T (TP v es) fun l=>l.length≤300∧∀ x∈l,Pd v x:=by
 have hpl:=hv.pl;have hh:=hv.h;have hw:=hv.w;unfold TP;refine T.bd (t90 v es v.bound hv he) fun g hg=>T.bd (Q:=fun l=>l.length≤300∧∀ x∈l,Pd v x) (T.ix g.parts.length (·.1) (fun (s:Nat×Int×List cZ)=>(1≤s.2.1∧s.2.1≤1+20000*(s.1:Int))∧s.2.2.length≤50*s.1∧∀ x∈s.2.2,Pd v x) (fun s hs hi=>?_) ⟨⟨by decide,by decide⟩,Nat.zero_le _,by simp⟩ (Nat.zero_le _)) fun l hl=>.mk hl;have hgl:=hg.2.1;obtain ⟨hs1,hs2,hs3⟩:=hs;unfold EC;refine T.ie (fun hl=>T.bd (T.mem (by omega)) fun r hr=>T.bd (Q:=fun (e:Int×List cZ)=>(0≤e.1∧e.1≤15000)∧e.2.length≤50*(s.1+1)∧∀ x∈e.2,Pd v x) (T.ix r.length (·.2.1) (fun (q:Nat×Nat×Int×List cZ)=>q.1≤q.2.1∧(0≤q.2.2.1∧q.2.2.1≤300*(q.2.1:Int))∧q.2.2.2.length≤50*s.1+q.2.1∧∀ x∈q.2.2.2,Pd v x) (fun q hq hj=>?_) ⟨Nat.le_refl _,⟨Int.le_refl 0,Int.le_refl 0⟩,by dsimp only;omega,hs3⟩ (Nat.zero_le _)) fun e he=>?_) fun _=>.mk ⟨by have:=hg.2.1;omega,hs3⟩
 ·have hrl:=hg.2.2 r hr;obtain ⟨hq1,hq2,hq3,hq4⟩:=hq;unfold EB;refine T.ie (fun hl2=>T.bd (Q:=fun (t:Nat×Int×List cZ)=>t.1≤q.2.1+1∧(0≤t.2.1∧t.2.1≤300*((q.2.1:Int)+1))∧t.2.2.length≤50*s.1+(q.2.1+1)∧∀ x∈t.2.2,Pd v x) (T.bd (T.mem (by omega)) fun y hy=>T.ie (fun _=>.mk ⟨by dsimp only;omega,⟨hq2.1,by dsimp only;omega⟩,by dsimp only;omega,hq4⟩) fun _=>?_) fun t ht=>.mk ⟨ht,rfl,by omega⟩) fun _=>.mk ⟨⟨by dsimp only;omega,by dsimp only;omega⟩,by dsimp only;omega,hq4⟩;have hty:=(hrl.2 y hy).1;have hya:=(hrl.2 y hy).2;have d1:0≤q.2.2.1/v.height:=Int.ediv_nonneg hq2.1 (by omega);have d2:q.2.2.1/v.height≤q.2.2.1:=Int.ediv_le_self _ hq2.1;have d3:0≤q.2.2.1%v.height:=Int.emod_nonneg _ (by omega);have d4:q.2.2.1%v.height < v.height:=Int.emod_lt_of_pos _ (by omega);have d5:0≤((y.paragraph.text.length:Int)+v.width - 1)/v.width:=Int.ediv_nonneg (by omega) (by omega);have d6:((y.paragraph.text.length:Int)+v.width - 1)/v.width≤(y.paragraph.text.length:Int)+v.width - 1:=Int.ediv_le_self _ (by omega);refine .ck (by omega) (.ck (by omega) (.ck (by omega) (.ck (by omega) (.ck (by omega) (.ck (by omega) (.ck (by omega) (.ck (by omega) (T.bd (T.mem (by omega)) fun z hz=>.ck (by simp;omega) (.ck (by omega) (.mk ⟨by dsimp only;omega,⟨by dsimp only;omega,by dsimp only;omega⟩,by simp;omega,fun x hx=>?_⟩))))))))));rcases List.mem_append.1 hx with h | h
  ·exact hq4 x h
  simp only [List.mem_singleton] at h;subst h;exact ⟨⟨hya,by dsimp only;omega,by dsimp only;omega⟩,⟨by dsimp only;omega,by dsimp only;omega⟩,⟨by dsimp only;omega,by dsimp only;omega⟩,⟨by dsimp only;omega,by dsimp only;omega⟩,z,hz,rfl⟩
 obtain ⟨he1,he2,he3⟩:=he;have d1:0≤(e.1+v.height - 1)/v.height:=Int.ediv_nonneg (by omega) (by omega);have d2:(e.1+v.height - 1)/v.height≤e.1+v.height - 1:=Int.ediv_le_self _ (by omega);exact .ck (by omega) (.ck (by omega) (.ck (by omega) (.ck (by omega) (.mk ⟨⟨⟨by dsimp only;omega,by dsimp only;omega⟩,he2,he3⟩,rfl,by omega⟩))))
end T12
set_option maxHeartbeats 4000000
namespace T12
open Go Go.Proofs Pk
theorem t56 (v:bX) (es:List aP) (anchor style to_:Int) (hv:Ps v) (hd:∀ p∈v.parts,0≤p.day∧p.day≤99999) (ha : -1000000000000 < anchor∧anchor < 1000000000000) (ht : -1000000000000 < to_∧to_ < 1000000000000):T (ED v es anchor style to_) fun r=>r.1.length≤130:=by
 unfold ED;refine T.bd (t85 v es hv) fun r h=>T.ie (fun hr=>.mk (by simp)) fun h0=>T.bd (Q:=fun _=>True) (T.ie (fun _=>.mk trivial) fun _=>T.ie (fun _=>T.bd (.ok (RH _)) fun _ _=>.mk trivial) fun _=>.mk trivial) fun _ _=>T.ie (fun _=>.mk (by simp)) fun _=>T.ie (fun _=>T.bd (t58 v es anchor to_ hv) fun r hr=>T.ie (fun _=>.mk (by simp)) fun _=>T.bd (t87 (fun x hx=>?_) (by simp)) fun r hr=>.mk hr) fun _=>?_
 ·simp only [List.mem_cons,List.not_mem_nil,or_false] at hx;rcases hx with rfl | rfl | rfl
  ·exact ha
  ·show (1:Nat)≤13;decide
  exact ht
 have hVE:=h (by omega);have hn:=hVE.1.n;refine T.bd (t88 v es hVE.1 hVE.2) fun l hl=>T.bd (Q:=fun e=>match e with | .inl _=>True | .inr z=>z.1.length≤130) (T.ix l.length id (fun _=>True) (fun i _ hi=>?_) trivial (Nat.zero_le _)) fun e he=>?_
 ·unfold wL;refine T.ie (fun hlt=>T.bd (T.mem (by simp only [id] at *;omega)) fun x hx=>?_) fun _=>.mk trivial;obtain ⟨_,h1,h2,h3,p,hp,h4⟩:=hl.2 x hx;have h5:=hd p hp;refine T.ie (fun _=>.mk ⟨trivial,rfl,by simp only [id] at *;omega⟩) fun _=>T.ie (fun _=>T.bd (t87 (fun x hx=>?_) (by simp)) fun r hr=>.mk hr) fun _=>T.bd (t87 (fun x hx=>?_) (by simp)) fun r hr=>.mk hr
  ·simp only [List.mem_cons,List.not_mem_nil,or_false] at hx;rcases hx with rfl | rfl | rfl | rfl | rfl | rfl
   ·show (5:Nat)≤13;decide
   ·exact ⟨by omega,by omega⟩
   ·show (7:Nat)≤13;decide
   ·exact ⟨by omega,by omega⟩
   ·show (5:Nat)≤13;decide
   exact ⟨by omega,by omega⟩
  simp only [List.mem_cons,List.not_mem_nil,or_false] at hx;rcases hx with rfl | rfl | rfl | rfl | rfl | rfl
  ·show (5:Nat)≤13;decide
  ·exact ⟨by omega,by omega⟩
  ·show (2:Nat)≤13;decide
  ·exact ⟨by omega,by omega⟩
  ·show (7:Nat)≤13;decide
  exact ⟨by omega,by omega⟩
 cases e with
 | inl _=>exact .mk (by simp)
 | inr z=>exact .mk he
end T12
set_option maxHeartbeats 4000000
namespace T12
open Go Go.Proofs Pk
theorem jX (c:Bool) (e:Int):T (jJ c e) fun r=>match r with | .inl _=>c=true | .inr _=>c=false:=by
 cases c
 ·exact ⟨_,rfl,rfl⟩
 exact ⟨_,rfl,rfl⟩
theorem GW (e:Int):T (lQ e) fun r=>match r with | .inl _=>e=0 | .inr _=>e≠0:=by
 unfold lQ;refine T.bd (jX _ _) fun r hr=>?_
 cases r with
 | inl _=>exact .mk (by simpa using hr)
 | inr _=>exact .mk (by simpa using hr)
theorem e20 (n a b:Int):oW n a b=some (decide (a≤n∧n≤b)):=by
 unfold oW;by_cases h:a≤n <;> simp [h]
theorem t94 (a b:Int):T (EO a b) fun _=>True:=by
 unfold EO uQ;exact T.bd (Q:=fun _=>True) (T.bd (.mk trivial) fun _ (_:True)=>T.ie (fun _=>T.bd (.mk trivial) fun _ (_:True)=>T.ie (fun _=>.mk trivial) fun _=>.mk trivial) fun _=>.mk trivial) fun _ _=>.mk trivial
theorem t62 (l:List Int) (x:Int) (h:l.length≤1000000):T (sJ l x) fun r=>0≤r.1∧r.1≤l.length:=by
 unfold sJ;refine T.bd (Q:=fun e=>0≤e∧e≤(l.length:Int)) (T.lp (fun (s:Int×Int)=>(0≤s.1∧s.1≤(l.length:Int))∧0≤s.2∧s.2≤(l.length:Int)) (fun (s:Int×Int)=>(s.2 - s.1).toNat) (fun s hs=>?_) ⟨⟨Int.le_refl 0,by dsimp only;omega⟩,by dsimp only;omega,by dsimp only;omega⟩) fun e he=>?_
 ·unfold wQ;refine T.ie (fun hl=>.ck (by omega) (.ck (by omega) (.ck (by omega) (.ck (by omega) (T.bd (T.at (by omega)) fun y _=>T.bd (t94 _ _) fun c _=>T.bd (Q:=fun (t:Int×Int)=>((0≤t.1∧t.1≤(l.length:Int))∧0≤t.2∧t.2≤(l.length:Int))∧(t.2 - t.1).toNat < (s.2 - s.1).toNat) (T.ie (fun _=>.ck (by omega) (.mk ⟨⟨⟨by dsimp only;omega,by dsimp only;omega⟩,hs.2⟩,by dsimp only;omega⟩)) fun _=>.mk ⟨⟨hs.1,by dsimp only;omega,by dsimp only;omega⟩,by dsimp only;omega⟩) fun t ht=>.mk ht))))) fun _=>.mk hs.1
 refine T.bd (Q:=fun (t:Int×Bool)=>0≤t.1∧t.1≤(l.length:Int)) (T.ie (fun hl=>.ck he.1 (T.bd (T.at (by omega)) fun y _=>T.ie (fun _=>.mk he) fun _=>T.bd (Q:=fun _=>True) ⟨_,rfl,trivial⟩ fun _ _=>T.ie (fun _=>T.bd (Q:=fun _=>True) ⟨_,rfl,trivial⟩ fun _ _=>.mk he) fun _=>.mk he)) fun _=>.mk he) fun t ht=>.mk ht
structure Si (k:Nat) (b:dE):Prop where
 dy:0≤b.day∧b.day≤99999
 ho:0≤b.house∧b.house≤40
 pl:b.volume.parts.length≤k
 pp:∀ p∈b.volume.parts,p.paragraphs.length≤k∧0≤p.day∧p.day≤99999
 er:b.errata.length≤k
 hi:b.hides.length≤12
 ci:b.cites.length≤k
 pa:b.motion.papers.length≤k
 mw:b.motion.words.length≤60
 ch:b.choice.length≤k
 dm:0≤b.division.members∧b.division.members≤40
 dr:0≤b.division.rule∧b.division.rule≤255
 dp:b.division.pairs.length≤k
 da:b.division.ayes.e0.length≤k∧b.division.ayes.e1.length≤k
 dn:b.division.noes.e0.length≤k∧b.division.noes.e1.length≤k
 rs:b.results.length≤k
 rv:∀ x∈b.results,x.toNat≤2
 cv:∀ c∈b.cites,c.length≤130
 vn:b.bound=true→1≤b.volume.number∧b.volume.number≤99
theorem Si.up {k:Nat} {b:dE} (h:Si k b):Si (k+1) b where
 dy:=h.dy
 ho:=h.ho
 pl:=Nat.le_succ_of_le h.pl
 pp p hp:=⟨Nat.le_succ_of_le (h.pp p hp).1,(h.pp p hp).2⟩
 er:=Nat.le_succ_of_le h.er
 hi:=h.hi
 ci:=Nat.le_succ_of_le h.ci
 pa:=Nat.le_succ_of_le h.pa
 mw:=h.mw
 ch:=Nat.le_succ_of_le h.ch
 dm:=h.dm
 dr:=h.dr
 dp:=Nat.le_succ_of_le h.dp
 da:=⟨Nat.le_succ_of_le h.da.1,Nat.le_succ_of_le h.da.2⟩
 dn:=⟨Nat.le_succ_of_le h.dn.1,Nat.le_succ_of_le h.dn.2⟩
 rs:=Nat.le_succ_of_le h.rs
 rv:=h.rv
 cv:=h.cv
 vn:=h.vn
def Ln (k:Nat) (r:aI⊕Int):Prop:=match r with | .inl b=>Si (k+1) b.state | .inr e=>e≠0
theorem Si.ps {k:Nat} {b:dE} (h:Si k b) (hk:k≤100):Ps b.volume:=⟨by have:=h.pl;omega,fun p hp=>by have:=(h.pp p hp).1;omega⟩
def Nm (n:Nat) (l:List Int):Prop:=l.length=n∧∀ x∈l,-999999999≤x∧x≤999999999
variable {k:Nat} {b:aI} {l:List Int} {text:aD}
theorem t30 (h:Si k b.state) (hl:Nm 1 l):T (TC b l text) (Ln k):=by
 have h1:=hl.1;unfold TC;refine T.bd (T.mem (by omega)) fun x hx=>T.bd (.ok (e20 _ _ _)) fun c hc=>T.bd (jX _ _) fun r hr=>?_
 cases r with
 | inl _ =>
  subst hc;simp only [decide_eq_true_eq] at hr;exact .mk (show Si (k+1) _ from { h.up with dy:=⟨Int.le_trans h.dy.1 hr.1,hr.2⟩ })
 | inr _=>exact .mk (by simp [Ln])
theorem t38 (h:Si k b.state) (hl:Nm 1 l):T (TU b l text) (Ln k):=by
 have h1:=hl.1;unfold TU;refine T.bd (jX _ _) fun r _=>?_
 cases r with
 | inr _=>exact .mk (by simp [Ln])
 | inl _ =>
  refine T.bd (T.mem (by omega)) fun x hx=>T.bd (.ok (e20 _ _ _)) fun c hc=>T.bd (jX _ _) fun r hr=>?_
  cases r with
  | inl _ =>
   subst hc;simp only [decide_eq_true_eq] at hr;exact .mk (show Si (k+1) _ from { h.up with ho:=⟨Int.le_trans (by decide) hr.1,hr.2⟩ })
  | inr _=>exact .mk (by simp [Ln])
theorem t32 (h:Si k b.state) (hk:k≤100) (hl:Nm 3 l):T (TF b l text) (Ln k):=by
 have h1:=hl.1;unfold TF;refine T.bd (jX _ _) fun r _=>?_
 cases r with
 | inr _=>exact .mk (by simp [Ln])
 | inl _ =>
  refine T.bd (T.mem (by omega)) fun x hx=>T.bd (T.mem (by omega)) fun y hy=>T.bd (T.mem (by omega)) fun z hz=>T.bd (t53 _ (h.ps hk)) fun e he=>T.bd (GW _) fun r hr=>?_
  cases r with
  | inl _=>exact .mk (show Si (k+1) _ from { h.up with pl:=h.up.pl,vn:=fun _=>(he hr).n })
  | inr _=>exact .mk hr
theorem t61 (h:Si k b.state) (d:aV) (hd:(0≤d.members∧d.members≤40)∧(0≤d.rule∧d.rule≤255)∧d.pairs.length≤k+1∧(d.ayes.e0.length≤k+1∧d.ayes.e1.length≤k+1)∧d.noes.e0.length≤k+1∧d.noes.e1.length≤k+1):T (AA b d) (Ln k):=by
 unfold AA;have h0:T (EN d) fun _=>True:=by
  unfold EN;exact T.bd (WO d hd.2.1) fun _ _=>T.ie (fun _=>.mk trivial) fun _=>.mk trivial
 refine T.bd h0 fun e _=>T.bd (GW _) fun r hr=>?_
 cases r with
 | inl _=>exact .mk (show Si (k+1) _ from { h.up with dm:=hd.1,dr:=hd.2.1,dp:=hd.2.2.1,da:=hd.2.2.2.1,dn:=hd.2.2.2.2 })
 | inr _=>exact .mk hr
theorem t55 (h:Si k b.state) (hk:k≤100) (x:aP):T (wJ b x) (Ln k):=by
 unfold wJ;refine T.bd (Q:=fun t=>match t with | .inl _=>True | .inr z=>Ln k z) (T.ie (fun _=>T.bd (jX _ _) fun r _=>?_) fun _=>T.bd (jX _ _) fun r _=>?_) fun t ht=>?_
 ·cases r with
  | inl _=>exact .mk trivial
  | inr _=>exact .mk (by simp [Ln])
 ·cases r with
  | inl _=>exact .mk trivial
  | inr _=>exact .mk (by simp [Ln])
 cases t with
 | inr z=>exact .mk ht
 | inl _ =>
  have he:=h.er;have h0:T (DM b.state.errata { x with day:=b.state.day }) fun r=>r.length≤k+1:=by
   unfold DM sD;exact T.bd (Q:=fun r=>r.length≤k) (.ck (by simp;omega) (.mk (by simpa using he))) fun r hr=>.ck (by simp;omega) (.mk (by simp;omega))
  refine T.bd h0 fun es hes=>T.bd (t84 _ _ _ (h.ps hk)) fun r _=>T.bd (GW _) fun r hr=>?_
  cases r with
  | inl _=>exact .mk (show Si (k+1) _ from { h.up with er:=hes })
  | inr _=>exact .mk hr
theorem t33 (h:Si k b.state) (hk:k≤100) (hl:Nm 2 l):T (TM b l text) (Ln k):=by
 have h1:=hl.1;unfold TM;refine T.bd (T.mem (by omega)) fun x hx=>T.bd (T.mem (by omega)) fun y hy=>T.bd (t55 h hk _) fun r hr=>?_;cases r <;> exact .mk hr
theorem t34 (h:Si k b.state) (hk:k≤100) (hl:Nm 2 l):T (TN b l text) (Ln k):=by
 have h1:=hl.1;unfold TN;refine T.bd (T.mem (by omega)) fun x hx=>T.bd (T.mem (by omega)) fun y hy=>T.bd (t55 h hk _) fun r hr=>?_;cases r <;> exact .mk hr
theorem t35 (h:Si k b.state) (hk:k≤100) (hl:Nm 3 l):T (TO b l text) (Ln k):=by
 have h1:=hl.1;unfold TO;refine T.bd (T.mem (by omega)) fun x hx=>T.bd (T.mem (by omega)) fun y hy=>T.bd (T.mem (by omega)) fun z hz=>T.bd (t55 h hk _) fun r hr=>?_;cases r <;> exact .mk hr
end T12
set_option maxHeartbeats 4000000
namespace T12
open Go Go.Proofs Pk
variable {k:Nat} {b:aI} {l:List Int} {text:aD}
theorem t36 (h:Si k b.state) (hk:k≤100) (hl:Nm 2 l):T (TQ b l text) (Ln k):=by
 have h1:=hl.1;unfold TQ;refine T.bd (jX _ _) fun r _=>?_
 cases r with
 | inr _=>exact .mk (by simp [Ln])
 | inl _ =>
  refine T.bd (T.mem (by omega)) fun x hx=>T.bd (.ok (e20 _ _ _)) fun c hc=>T.bd (jX _ _) fun r hr=>?_
  cases r with
  | inr _=>exact .mk (by simp [Ln])
  | inl _ =>
   subst hc;simp only [decide_eq_true_eq] at hr;refine T.bd (T.mem (by omega)) fun y hy=>.ck hr ?_;have h2:=hl.2 y hy;have h3:=h.dy;refine T.bd (t56 _ _ _ _ _ (h.ps hk) (fun p hp=>(h.pp p hp).2) (by omega) (by omega)) fun q hq=>T.bd (GW _) fun r hr=>?_
   cases r with
   | inr _=>exact .mk hr
   | inl _ =>
    have h4:=h.ci;have h0:T (EE b.state.cites q.1) fun r=>r.length≤k+1∧∀ c∈r,c.length≤130:=by
     unfold EE JI
     exact T.bd (Q:=fun (r:List aD)=>r.length≤k∧∀ c∈r,c.length≤130) (.ck (by simp;omega) (.mk ⟨by simpa using h4,h.cv⟩)) fun r hr=>.ck (by omega) (.mk ⟨by simp;omega,fun c hc=>by
      rcases List.mem_append.1 hc with h5 | h5
      ·exact hr.2 c h5
      simp only [List.mem_singleton] at h5;subst h5;exact hq⟩)
    exact T.bd h0 fun c hc=>.mk (show Si (k+1) _ from { h.up with ci:=hc.1,cv:=hc.2 })
theorem t37 (h:Si k b.state) (hk:k≤100) (hl:Nm 3 l):T (TT b l text) (Ln k):=by
 have h1:=hl.1;unfold TT;refine T.bd (Q:=fun t=>match t with | .inl _=>True | .inr z=>Ln k z) (T.bd (T.mem (by omega)) fun x hx=>T.bd (.ok (e20 _ _ _)) fun c hc=>T.ie (fun _=>T.bd (T.mem (by omega)) fun y hy=>T.bd (.ok (e20 _ _ _)) fun c hc=>T.bd (jX _ _) fun r _=>?_) fun _=>T.bd (jX _ _) fun r _=>?_) fun t ht=>?_
 ·cases r with
  | inl _=>exact .mk trivial
  | inr _=>exact .mk (by simp [Ln])
 ·cases r with
  | inl _=>exact .mk trivial
  | inr _=>exact .mk (by simp [Ln])
 cases t with
 | inr z=>exact .mk ht
 | inl _ =>
  refine T.bd (jX _ _) fun r hr=>?_
  cases r with
  | inr _=>exact .mk (by simp [Ln])
  | inl _ =>
   simp only [decide_eq_true_eq] at hr;have h0:T (TR b) fun v=>Ps v:=by
    unfold TR TD;exact T.ie (fun _=>.mk (h.ps hk)) fun _=>T.bd (.mk (P:=Ps) ⟨(h.ps hk).1,(h.ps hk).2⟩) fun v hv=>.mk hv
   refine T.bd h0 fun v hv=>T.bd (T.mem (by omega)) fun x hx=>T.bd (t58 v _ x _ hv) fun q _=>T.bd (GW _) fun r hr2=>?_
   cases r with
   | inr _=>exact .mk hr2
   | inl _ =>
    have h2:∀ z,T (EF b.state.hides z) fun r=>r.length≤12:=fun z=>by
     unfold EF JJ;exact T.bd (Q:=fun r=>r.length=b.state.hides.length) (.ck (by simp;omega) (.mk (by simp))) fun r hr=>.ck (by simp;omega) (.mk (by simp;omega))
    exact T.bd (T.at (by omega)) fun y _=>T.bd (T.at (by omega)) fun z _=>T.bd (h2 _) fun r hr=>.mk (show Si (k+1) _ from { h.up with hi:=hr })
theorem t39 (h:Si k b.state) (hl:Nm 4 l):T (TV b l text) (Ln k):=by
 have h1:=hl.1;unfold TV;refine T.bd (jX _ _) fun r _=>?_
 cases r with
 | inr _=>exact .mk (by simp [Ln])
 | inl _ =>
  refine T.bd (Q:=fun t=>match t with | .inl _=>(∀ x,l[0]?=some x→0≤x∧x≤255)∧∀ x,l[3]?=some x→0≤x∧x≤255 | .inr z=>Ln k z) (T.bd (T.at (by omega)) fun x hx=>T.bd (.ok (e20 _ _ _)) fun c hc=>T.ie (fun hct=>T.bd (T.at (by omega)) fun y hy=>T.bd (.ok (e20 _ _ _)) fun d hd=>T.bd (jX _ _) fun r hr=>?_) fun _=>T.bd (jX _ _) fun r hr=>?_) fun t ht=>?_
  ·cases r with
   | inl _ =>
    subst hc hd;simp only [decide_eq_true_eq] at hct hr;exact .mk ⟨fun z hz=>by rw [hx] at hz;cases hz;exact hct,fun z hz=>by rw [hy] at hz;cases hz;exact hr⟩
   | inr _=>exact .mk (by simp [Ln])
  ·cases r with
   | inl _=>cases hr
   | inr _=>exact .mk (by simp [Ln])
  cases t with
  | inr z=>exact .mk ht
  | inl _ =>
   refine T.bd (T.at (by omega)) fun x hx=>.ck (ht.1 x hx) (T.bd (T.at (by omega)) fun y _=>T.bd (T.at (by omega)) fun z _=>T.bd (T.at (by omega)) fun w hw=>.ck (ht.2 w hw) (T.bd (t61 h _ ⟨h.ho,ht.1 x hx,Nat.zero_le _,⟨Nat.zero_le _,Nat.zero_le _⟩,Nat.zero_le _,Nat.zero_le _⟩) fun r hr=>?_));cases r <;> exact .mk hr
theorem t41 (h:Si k b.state) (hk:k≤100) (hl:Nm 2 l):T (TX b l text) (Ln k):=by
 have h1:=hl.1;unfold TX;refine T.bd (jX _ _) fun r _=>?_
 cases r with
 | inr _=>exact .mk (by simp [Ln])
 | inl _ =>
  have h2:=h.dp;have h0:∀ z,T (EP b.state.division.pairs z) fun r=>r.length≤k+1:=fun z=>by
   unfold EP JR;exact T.bd (Q:=fun r=>r.length≤k) (.ck (by simp;omega) (.mk (by simpa using h2))) fun r hr=>.ck (by simp;omega) (.mk (by simp;omega))
  refine T.bd (T.at (by omega)) fun x _=>T.bd (T.at (by omega)) fun y _=>T.bd (h0 _) fun ps hps=>T.bd (t61 h _ ⟨h.dm,h.dr,hps,h.up.da,h.up.dn⟩) fun r hr=>?_;cases r <;> exact .mk hr
theorem t42 (h:Si k b.state) (hk:k≤100):T (UA b l text) (Ln k):=by
 unfold UA;refine T.bd (jX _ _) fun r _=>?_
 cases r with
 | inr _=>exact .mk (by simp [Ln])
 | inl _ =>
  refine T.bd (t66 _ h.dr) fun o ho=>T.bd (GW _) fun r hr=>?_
  cases r with
  | inr _=>exact .mk hr
  | inl _ =>
   refine T.bd (jX _ _) fun r hr=>?_
   cases r with
   | inr _=>exact .mk (by simp [Ln])
   | inl _ =>
    simp only [decide_eq_true_eq] at hr;have h2:=h.rs;refine T.bd (T.mem (by omega)) fun x hxm=>?_;have hx:=x.toNat_lt;have h0:T (FF b.state.results (x.toNat:Int)) fun r=>r.length≤k+1∧∀ y∈r,y.toNat≤2:=by
     unfold FF JV
     exact T.bd (Q:=fun (r:List UInt8)=>r.length≤k∧∀ y∈r,y.toNat≤2) (.ck (by simp;omega) (.mk ⟨by simpa using h2,h.rv⟩)) fun r hr=>.ck (by omega) (.ck (by omega) (.mk ⟨by simp;omega,fun y hy=>by
      rcases List.mem_append.1 hy with h5 | h5
      ·exact hr.2 y h5
      simp only [List.mem_singleton] at h5;subst h5;have:=ho.2 x hxm;simp;omega⟩))
    exact T.bd h0 fun rs hrs=>.mk (show Si (k+1) _ from { h.up with rs:=hrs.1,rv:=hrs.2,dm:=⟨(by decide:(0:Int)≤0),(by decide:(0:Int)≤40)⟩,dr:=⟨(by decide:(0:Int)≤0),(by decide:(0:Int)≤255)⟩,dp:=Nat.zero_le _,da:=⟨Nat.zero_le _,Nat.zero_le _⟩,dn:=⟨Nat.zero_le _,Nat.zero_le _⟩ })
theorem t68 (hs:text.length≤1073741824):T (AC text) fun _=>True:=by
 unfold AC JC;exact T.bd (Q:=fun _=>True) (.ck hs (.mk trivial)) fun _ _=>.mk trivial
theorem t43 (h:Si k b.state) (hs:text.length≤1073741824):T (UC b l text) (Ln k):=by
 unfold UC;refine T.bd (jX _ _) fun r _=>?_
 cases r with
 | inr _=>exact .mk (by simp [Ln])
 | inl _ =>
  refine T.bd (t68 hs) fun ws _=>T.bd (t69 _) fun e he=>T.bd (GW _) fun r hr=>?_
  cases r with
  | inr _=>exact .mk hr
  | inl _=>exact .mk (show Si (k+1) _ from { h.up with pa:=Nat.zero_le _,mw:=(he hr).wl })
theorem t44 (h:Si k b.state) (hk:k≤100) (hl:Nm 4 l) (hs:text.length≤1073741824):T (UD b l text) (Ln k):=by
 have h1:=hl.1;unfold UD;refine T.bd (jX _ _) fun r _=>?_
 cases r with
 | inr _=>exact .mk (by simp [Ln])
 | inl _ =>
  have h2:=h.pa;have h0:∀ z,T (FL b.state.motion.papers z) fun r=>r.length≤k+1:=fun z=>by
   unfold FL KD;exact T.bd (Q:=fun r=>r.length≤k) (.ck (by simp;omega) (.mk (by simpa using h2))) fun r hr=>.ck (by simp;omega) (.mk (by simp;omega))
  refine T.bd (T.at (by omega)) fun _ _=>T.bd (T.at (by omega)) fun _ _=>T.bd (T.at (by omega)) fun _ _=>T.bd (T.at (by omega)) fun _ _=>T.bd (t68 hs) fun ws _=>T.bd (h0 _) fun ps hps=>T.bd (t69 _) fun e _=>T.bd (GW _) fun r hr=>?_
  cases r with
  | inr _=>exact .mk hr
  | inl _=>exact .mk (show Si (k+1) _ from { h.up with pa:=hps })
theorem t64 {l:List Int} (h:l.length≤1000):T (qR l) fun r=>r=l:=by
 unfold qR;exact .ck (by simp;omega) (.mk (by simp))
theorem zE (l:List Int) (x:Int) (i:Nat) (h:i≤l.length):(l.take i++[x]++l.drop i).length=l.length+1:=by simp;omega
theorem t45 (h:Si k b.state) (hk:k≤100) (hl:Nm 1 l):T (UF b l text) (Ln k):=by
 have h1:=hl.1;unfold UF;refine T.bd (jX _ _) fun r _=>?_
 cases r with
 | inr _=>exact .mk (by simp [Ln])
 | inl _ =>
  have h2:=h.ch;refine T.bd (T.at (by omega)) fun x _=>T.bd (t62 _ x (by omega)) fun q hq=>T.bd (jX _ _) fun r _=>?_
  cases r with
  | inr _=>exact .mk (by simp [Ln])
  | inl _ =>
   refine T.bd (t64 (by omega)) fun c hc=>.ck hq.1 (.ck (by subst hc;omega) (.ck (by subst hc;simp;omega) (T.bd (t71 _ _) fun w _=>T.bd (GW _) fun r hr=>?_)))
   cases r with
   | inr _=>exact .mk hr
   | inl _=>exact .mk (show Si (k+1) _ from { h.up with ch:=by subst hc;show (_:List Int).length≤_;rw [zE _ _ _ (by omega)];omega })
end T12
set_option maxHeartbeats 4000000
namespace T12
open Go Go.Proofs Pk
variable {k:Nat} {b:aI} {l:List Int} {text:aD}
theorem LC {ws:List aD} (h:zC ws):(Lib.join ws [32]).length≤21*ws.length:=by
 have hl:∀ {r:List aD},zC r→Lib.lens r≤20*r.length:=fun {r}=>by
  induction r with
  | nil=>intro _;exact Nat.le_refl _
  | cons x r ih =>
   intro h;have h1:=ih fun y hy=>h y (List.mem_cons_of_mem _ hy);have h2:=h x (List.mem_cons_self ..);simp only [Lib.lens,List.map_cons,List.sum_cons,List.length_cons] at h1 ⊢;omega
 cases ws with
 | nil=>exact Nat.le_refl _
 | cons x r =>
  rw [Lib.join_cons,List.length_append,Lib.joinTail_length];have h1:=hl (r:=r) fun y hy=>h y (List.mem_cons_of_mem _ hy);have h2:=h x (List.mem_cons_self ..);simp only [List.length_cons,List.length_nil] at *;omega
theorem t31 (h:Si k b.state) (hk:k≤100) (hl:1≤l.length):T (QW b l text) (Ln k):=by
 unfold QW;refine T.bd (jX _ _) fun r _=>?_
 cases r with
 | inr _=>exact .mk (by simp [Ln])
 | inl _ =>
  have hpl:=h.pl;have h2:T (DD b.state.volume.parts) fun r=>r=b.state.volume.parts:=by
   unfold DD;exact .ck (by simp;omega) (.mk (by simp))
  refine T.bd (T.at (by omega)) fun x _=>T.bd h2 fun ps hps=>?_;have hps1:ps.length≤k:=by rw [hps];exact hpl
  have hps2:∀ p∈ps,p.paragraphs.length≤k∧0≤p.day∧p.day≤99999:=by rw [hps];exact h.pp
  refine T.bd (Q:=fun t=>t=true→1≤ps.length) (T.ie (fun h0=>T.bd (T.at (by omega)) fun _ _=>.mk fun _=>by omega) fun _=>.mk (by simp)) fun t ht=>T.bd (Q:=fun (qs:List eB)=>qs.length≤k+1∧∀ p∈qs,p.paragraphs.length≤k+1∧0≤p.day∧p.day≤99999) (T.ie (fun htt=>?_) fun _=>.ck (by simp;omega) (.mk ⟨by simp;omega,fun p hp=>?_⟩)) fun qs hqs=>?_
  ·have h1:=ht htt;refine .ck (by omega) (T.bd (T.mem (by omega)) fun y hy=>?_);have hy2:=hps2 y hy;have h3:T (DE y.paragraphs ⟨x,text⟩) fun r=>r.length≤k+1:=by
    unfold DE JD;exact T.bd (Q:=fun r=>r.length≤k) (.ck (by simp;omega) (.mk (by simpa using hy2.1))) fun r hr=>.ck (by simp;omega) (.mk (by simp;omega))
   exact T.bd h3 fun r hr=>.mk ⟨by rw [List.length_set];omega,xR (fun p hp=>⟨Nat.le_succ_of_le (hps2 p hp).1,(hps2 p hp).2⟩) ⟨hr,hy2.2⟩⟩
  ·rcases List.mem_append.1 hp with h1 | h1
   ·exact ⟨Nat.le_succ_of_le (hps2 p h1).1,(hps2 p h1).2⟩
   simp only [List.mem_singleton] at h1;subst h1;exact ⟨by simp,h.dy⟩
  refine T.bd (Q:=fun v=>Ps v) (.mk ⟨by have:=hqs.1;dsimp only;omega,fun p hp=>by have:=(hqs.2 p hp).1;omega⟩) fun v hv=>T.bd (t53 _ hv) fun e _=>T.bd (GW _) fun r hr=>?_
  cases r with
  | inr _=>exact .mk hr
  | inl _=>exact .mk (show Si (k+1) _ from { h.up with pl:=hqs.1,pp:=hqs.2 })
theorem t46 (h:Si k b.state) (hk:k≤100) (hl:Nm 1 l):T (UG b l text) (Ln k):=by
 unfold UG;refine T.bd (Q:=fun t=>match t with | .inl _=>True | .inr z=>Ln k z) (T.ie (fun _=>T.bd (jX _ _) fun r _=>?_) fun _=>T.bd (jX _ _) fun r _=>?_) fun t ht=>?_
 ·cases r with
  | inl _=>exact .mk trivial
  | inr _=>exact .mk (by simp [Ln])
 ·cases r with
  | inl _=>exact .mk trivial
  | inr _=>exact .mk (by simp [Ln])
 cases t with
 | inr z=>exact .mk ht
 | inl _ =>
  refine T.bd (t71 _ _) fun q hq=>T.bd (GW _) fun r hr=>?_
  cases r with
  | inr _=>exact .mk hr
  | inl _ =>
   have h0:T (SZ q.1 [32]) fun _=>True:=by
    have h1:=LC hq.1.2.1;have h2:=hq.2.1;unfold SZ;exact .ck ⟨by omega,by omega⟩ (.mk trivial)
   refine T.bd h0 fun s _=>T.bd (t31 h hk (by have:=hl.1;omega)) fun r hr=>?_
   cases r with
   | inr _=>exact .mk hr
   | inl y=>exact .mk (show Si (k+1) _ from { (show Si (k+1) y.state from hr) with pa:=Nat.zero_le _,mw:=Nat.zero_le _,ch:=Nat.zero_le _ })
theorem t40 (h:Si k b.state) (hk:k≤100) (hl:Nm 3 l):T (TW b l text) (Ln k):=by
 have h1:=hl.1;have hm:=h.dm;have hda:=h.da;have hdn:=h.dn;unfold TW;refine T.bd (jX _ _) fun r _=>?_
 cases r with
 | inr _=>exact .mk (by simp [Ln])
 | inl _ =>
  refine T.bd (Q:=fun t=>match t with | .inl _=>∀ x,l[1]?=some x→x=0∨x=1 | .inr z=>Ln k z) (T.bd (T.at (by omega)) fun x _=>T.bd (.ok (e20 _ _ _)) fun c _=>T.ie (fun _=>T.bd (T.at (by omega)) fun y hy=>T.bd (.ok (e20 _ _ _)) fun d hd=>T.ie (fun hdt=>T.bd (T.at (by omega)) fun z _=>.ck (by omega) (T.bd (.ok (e20 _ _ _)) fun e _=>T.bd (jX _ _) fun r _=>?_)) fun _=>T.bd (jX _ _) fun r hr=>?_) fun _=>T.bd (jX _ _) fun r hr=>?_) fun t ht=>?_
  ·cases r with
   | inl _ =>
    subst hd;simp only [decide_eq_true_eq] at hdt;exact .mk fun w hw=>by rw [hy] at hw;cases hw;omega
   | inr _=>exact .mk (by simp [Ln])
  ·cases r with
   | inl _=>cases hr
   | inr _=>exact .mk (by simp [Ln])
  ·cases r with
   | inl _=>cases hr
   | inr _=>exact .mk (by simp [Ln])
  cases t with
  | inr z=>exact .mk ht
  | inl _ =>
   have key:∀ (ls:List Int) (x:Int) (f:List Int→aI),ls.length≤k→(∀ q:List Int,q.length≤k+1→Si (k+1) (f q).state)→∀ (q:Int×Bool),0≤q.1∧q.1≤ls.length→T ((qR ls).bind fun r=>bN (0≤q.1) <| bN (q.1.toNat≤r.length) <| bN (r.length+([x]:List Int).length≤1073741824) <| some (.inl (f (r.take q.1.toNat++([x]:List Int)++r.drop q.1.toNat)))) (Ln k):=fun ls x f hls hf q hq=>by
    refine T.bd (t64 (by omega)) fun r hr=>?_;subst hr;exact .ck hq.1 (.ck (by omega) (.ck (by simp;omega) (.mk (hf _ (by rw [zE _ _ _ (by omega)];omega)))))
   refine T.bd (T.at (by omega)) fun y hy=>T.ie (fun _=>T.bd (T.at (by omega)) fun w _=>T.ie (fun _=>T.bd (T.at (by omega)) fun z _=>T.bd (t62 _ _ (by omega)) fun q hq=>T.bd (jX _ _) fun r _=>?_) fun _=>T.bd (T.at (by omega)) fun z _=>T.bd (t62 _ _ (by omega)) fun q hq=>T.bd (jX _ _) fun r _=>?_) fun _=>T.ie (fun _=>T.bd (T.at (by omega)) fun w _=>T.ie (fun _=>T.bd (T.at (by omega)) fun z _=>T.bd (t62 _ _ (by omega)) fun q hq=>T.bd (jX _ _) fun r _=>?_) fun _=>T.bd (T.at (by omega)) fun z _=>T.bd (t62 _ _ (by omega)) fun q hq=>T.bd (jX _ _) fun r _=>?_) fun _=>by have:=ht y hy;omega
   ·cases r with
    | inr _=>exact .mk (by simp [Ln])
    | inl _=>exact key _ z (fun q=>⟨{ b.state with division:={ b.state.division with noes:=⟨q,b.state.division.noes.e1⟩ } }⟩) hdn.1 (fun q hq=>{ h.up with dn:=⟨hq,h.up.dn.2⟩ }) q hq
   ·cases r with
    | inr _=>exact .mk (by simp [Ln])
    | inl _=>exact key _ z (fun q=>⟨{ b.state with division:={ b.state.division with ayes:=⟨q,b.state.division.ayes.e1⟩ } }⟩) hda.1 (fun q hq=>{ h.up with da:=⟨hq,h.up.da.2⟩ }) q hq
   ·cases r with
    | inr _=>exact .mk (by simp [Ln])
    | inl _=>exact key _ z (fun q=>⟨{ b.state with division:={ b.state.division with noes:=⟨b.state.division.noes.e0,q⟩ } }⟩) hdn.2 (fun q hq=>{ h.up with dn:=⟨h.up.dn.1,hq⟩ }) q hq
   cases r with
   | inr _=>exact .mk (by simp [Ln])
   | inl _=>exact key _ z (fun q=>⟨{ b.state with division:={ b.state.division with ayes:=⟨b.state.division.ayes.e0,q⟩ } }⟩) hda.2 (fun q hq=>{ h.up with da:=⟨h.up.da.1,hq⟩ }) q hq
end T12
set_option maxHeartbeats 4000000
namespace T12
open Go Go.Proofs Pk
variable {k:Nat} {b:aI} {l:List Int} {text:aD}
theorem LD {s:aD} (h:(kA s).2=false) : -9223372036854775808≤(kA s).1∧(kA s).1≤9223372036854775807:=by
 unfold kA at h ⊢
 split at h
 ·rename_i v hv;exact Lib.atoiAll_bounds hv
 ·cases h
 cases h
theorem t28 (s:aD) (hs:s.length≤1073741824):T (UI s) fun r=>match r with | .inl n=>(-999999999≤n∧n≤999999999)∧Lib.itoa n=s | .inr _=>True:=by
 unfold UI YC CD;refine T.bd (.ck hs (.mk (P:=fun r=>r=kA s) rfl)) fun q hq=>T.bd (Q:=fun t=>match t with | .inl _=>(-999999999≤q.1∧q.1≤999999999)∧Lib.itoa q.1=s | .inr z=>∃ u,z=.inr u) (T.ie (fun _=>T.bd (jX _ _) fun r hr=>?_) fun hf=>?_) fun t ht=>?_
 ·cases r with
  | inl _=>cases hr
  | inr _=>exact .mk ⟨_,rfl⟩
 ·have hb:=LD (s:=s) (by subst hq;simpa using hf);rw [← hq] at hb;unfold YD CE;refine T.bd (.ck hb (.mk (P:=fun w=>w=Lib.itoa q.1) rfl)) fun w hw=>T.ie (fun hws=>T.bd (.ok (e20 _ _ _)) fun c hc=>T.bd (jX _ _) fun r hr=>?_) fun _=>T.bd (jX _ _) fun r hr=>?_
  ·cases r with
   | inl _=>subst hc;simp only [decide_eq_true_eq] at hr;exact .mk ⟨hr,hw▸hws⟩
   | inr _=>exact .mk ⟨_,rfl⟩
  cases r with
  | inl _=>cases hr
  | inr _=>exact .mk ⟨_,rfl⟩
 cases t with
 | inl _=>exact .mk ht
 | inr z=>obtain ⟨u,rfl⟩:=ht;exact .mk trivial
theorem QD (s t:aD):(Lib.cut s t).2.1.length≤s.length∧(Lib.cut s t).1.length≤s.length:=by
 unfold Lib.cut;split
 ·simp;omega
 simp
theorem t25 (s t:aD) (h:s.length≤1073741824):T (QS s t) fun r=>r.2.1.length≤s.length∧r.1.length≤s.length:=by
 unfold QS;exact .ck h (.mk (QD s t))
def YS (w:cQ):Prop:=(0≤w.many∧w.many≤4)∧∀ (k:Nat) (b:aI) (l:List Int) (text:aD),Si k b.state→k≤100→Nm w.many.toNat l→text.length≤1000000→T (QX w.do_ b l text) (Ln k)
theorem fN {t:List (aD×cQ)} {s:aD} {w:cQ} (h:∀ k x,eJ t k=some x→YS x) (hw:YS w):∀ k x,eJ (put t s w) k=some x→YS x:=fun k x hx=>by
 rw [jW] at hx
 split at hx
 ·cases hx;exact hw
 exact h k x hx
theorem t26:T UH fun t=>∀ k x,eJ t k=some x→YS x:=by
 unfold UH;refine .mk ?_;refine fN (fN (fN (fN (fN (fN (fN (fN (fN (fN (fN (fN (fN (fN (fN (fN (fN (fun k x h=>by cases h) ?_) ?_) ?_) ?_) ?_) ?_) ?_) ?_) ?_) ?_) ?_) ?_) ?_) ?_) ?_) ?_) ?_
 all_goals refine ⟨⟨by decide,by decide⟩,fun k b l text h hk hl ht=>?_⟩
 ·exact t30 (text:=text) h hl
 ·exact t31 (text:=text) h hk (by have:=hl.1;simp at this;omega)
 ·exact t32 (text:=text) h hk hl
 ·exact t33 (text:=text) h hk hl
 ·exact t34 (text:=text) h hk hl
 ·exact t35 (text:=text) h hk hl
 ·exact t36 (text:=text) h hk hl
 ·exact t37 (text:=text) h hk hl
 ·exact t38 (text:=text) h hl
 ·exact t39 (text:=text) h hl
 ·exact t40 (text:=text) h hk hl
 ·exact t41 (text:=text) h hk hl
 ·exact t42 (l:=l) (text:=text) h hk
 ·exact t43 (l:=l) (text:=text) h (by omega)
 ·exact t44 (text:=text) h hk hl (by omega)
 ·exact t45 (text:=text) h hk hl
 exact t46 (text:=text) h hk hl
theorem t21 (h:Si k b.state) (hk:k≤100) (ht:text.length≤1000000):T (MH b text) fun r=>Si (k+1) r.1.state∧(r.2≠0→r.1=b):=by
 unfold MH;refine T.bd (t25 text [32] (by omega)) fun q hq=>T.bd t26 fun ws hws=>T.bd (jX _ _) fun r hr=>?_
 cases r with
 | inr _=>exact .mk ⟨h.up,fun _=>rfl⟩
 | inl _ =>
  obtain ⟨x,hx⟩:=Option.isSome_iff_exists.1 hr;have hw:=hws _ x hx;have hwm:=hw.1;have hxd:(eJ ws q.1).getD ⟨0,false,none⟩=x:=by rw [hx];rfl
  refine T.bd (Q:=fun e=>match e with | .inl r=>r.1.length≤1000000∧Nm x.many.toNat r.2.2 | .inr z=>z=(b,4)) (T.ix x.many.toNat (·.1) (fun (s:Nat×aD×Bool×List Int)=>s.2.1.length≤1000000∧s.2.2.2.length=s.1∧∀ y∈s.2.2.2,-999999999≤y∧y≤999999999) (fun s hs hi=>?_) ⟨by dsimp only;omega,rfl,by simp⟩ (Nat.zero_le _)) fun e he=>?_
  ·obtain ⟨hs1,hs2,hs3⟩:=hs;unfold FS;rw [hxd];refine T.ie (fun hl=>T.bd (jX _ _) fun r _=>?_) fun hl=>.mk ⟨hs1,by dsimp only;omega,hs3⟩
   cases r with
   | inr _=>exact .mk rfl
   | inl _ =>
    refine T.bd (t25 _ _ (by omega)) fun c hc=>T.bd (t28 c.1 (by omega)) fun r hr=>?_
    cases r with
    | inr _=>exact .mk rfl
    | inl y =>
     refine .ck (by omega) (.ck (by omega) (.mk ⟨⟨by dsimp only;omega,by simp [hs2],fun z hz=>?_⟩,rfl,by omega⟩));rcases List.mem_append.1 hz with h1 | h1
     ·exact hs3 z h1
     simp only [List.mem_singleton] at h1;subst h1;exact hr.1
  cases e with
  | inr z=>simp only at he;subst he;exact .mk ⟨h.up,fun _=>rfl⟩
  | inl r =>
   refine T.bd (jX _ _) fun u _=>?_
   cases u with
   | inr _=>exact .mk ⟨h.up,fun _=>rfl⟩
   | inl _ =>
    rw [hxd];refine T.bd (hw.2 k b r.2.2 r.1 h hk he.2 he.1) fun g hg=>?_
    cases g with
    | inl y=>exact .mk ⟨hg,fun h0=>absurd rfl h0⟩
    | inr e=>exact .mk ⟨h.up,fun _=>rfl⟩
def s0:aI:=⟨⟨0,0,⟨0,0,0,0,[]⟩,false,[],[],[],⟨[],[]⟩,false,[],⟨0,⟨[],[]⟩,⟨[],[]⟩,[],[],0,0,0,0⟩,false,[]⟩⟩
theorem XE:Si 0 s0.state:=⟨⟨by decide,by decide⟩,⟨by decide,by decide⟩,by decide,(fun p hp=>absurd hp (List.not_mem_nil)),by decide,by decide,by decide,by decide,by decide,by decide,⟨by decide,by decide⟩,⟨by decide,by decide⟩,by decide,⟨by decide,by decide⟩,⟨by decide,by decide⟩,by decide,(fun x hx=>absurd hx (List.not_mem_nil)),(fun x hx=>absurd hx (List.not_mem_nil)),fun h=>by cases h⟩
end T12
set_option maxHeartbeats 4000000
namespace T12
open Go Go.Proofs Pk
noncomputable def XF (r:aI×List Int) (x:aD):aI×List Int:=let q:=(MH r.1 x).getD (r.1,0);(q.1,r.2++[q.2])
noncomputable def eK (ls:List aD):aI×List Int:=ls.foldl XF (s0,[])
theorem nU (ls:List aD) (x:aD):eK (ls++[x])=XF (eK ls) x:=by unfold eK;rw [List.foldl_append];rfl
def sX (ls:List aD):Prop:=ls.length≤100∧∀ s∈ls,s.length≤1000000
theorem sX.init {ls:List aD} {x:aD} (h:sX (ls++[x])):sX ls∧ls.length≤99∧x.length≤1000000:=by
 have h1:=h.1;simp at h1;exact ⟨⟨by omega,fun s hs=>h.2 s (List.mem_append.2 (.inl hs))⟩,by omega,h.2 x (List.mem_append.2 (.inr (List.mem_singleton.2 rfl)))⟩
theorem sX.take {ls:List aD} (h:sX ls) (n:Nat):sX (ls.take n):=⟨by rw [List.length_take];have:=h.1;omega,fun s hs=>h.2 s (List.mem_of_mem_take hs)⟩
theorem vI {α:Type} {P:List α→Prop} (h0:P []) (h1:∀ l x,P l→P (l++[x])) (l:List α):P l:=by
 rw [← List.reverse_reverse l]
 induction l.reverse with
 | nil=>exact h0
 | cons x r ih=>rw [List.reverse_cons];exact h1 _ _ ih
theorem xX (ls:List aD):sX ls→Si ls.length (eK ls).1.state∧(eK ls).2.length=ls.length:=by
 refine vI (P:=fun ls=>sX ls→Si ls.length (eK ls).1.state∧(eK ls).2.length=ls.length) (fun _=>⟨XE,rfl⟩) (fun l x ih h=>?_) ls;obtain ⟨h1,h2,h3⟩:=h.init;obtain ⟨h4,h5⟩:=ih h1;obtain ⟨q,h6,h7⟩:=t21 h4 (by omega) h3;rw [nU,List.length_append];unfold XF;rw [h6];exact ⟨h7.1,by simp [h5]⟩
theorem sY {ls:List aD} {x:aD} (h:sX (ls++[x])):∃ q,MH (eK ls).1 x=some q∧(q.2≠0→q.1=(eK ls).1)∧eK (ls++[x])=(q.1,(eK ls).2++[q.2]):=by
 obtain ⟨h1,h2,h3⟩:=h.init;obtain ⟨q,h6,h7⟩:=t21 (xX ls h1).1 (by omega) h3;refine ⟨q,h6,h7.2,?_⟩;rw [nU];unfold XF;rw [h6];rfl
theorem e14 {ls:List aD} (h:sX ls):OZ ls=some (eK ls):=by
 obtain ⟨r,h1,h2⟩:T (bF (rJ ls) (0,s0,[])) fun e=>e=eK ls:=by
  refine T.ix ls.length (·.1) (fun (s:Nat×aI×List Int)=>s.2=eK (ls.take s.1)) (fun s hs hi=>?_) rfl (Nat.zero_le _);unfold rJ;refine T.ie (fun hl=>T.bd (T.at (by omega)) fun x hx=>?_) fun hl=>.mk (by rw [hs,List.take_of_length_le (by omega)]);have he:ls.take (s.1+1)=ls.take s.1++[x]:=by rw [List.take_add_one,hx];rfl
  have h3:=h.take (s.1+1);rw [he] at h3;obtain ⟨q,h4,_,h5⟩:=sY h3;have h6:=(xX _ (h.take s.1)).2;rw [← hs] at h4 h5 h6;rw [List.length_take] at h6;refine T.bd (.ok h4) fun q' hq'=>?_;subst hq';exact .ck (by have:=h.1;omega) (.mk ⟨by dsimp only;rw [he,h5],rfl,by omega⟩)
 unfold OZ;show (bF (rJ ls) (0,s0,[])).bind _=_;rw [h1,h2];rfl
theorem oY {ls:List aD} (h:sX ls):(eK ls).2.length=ls.length:=(xX ls h).2
def oP (ls:List aD) (es:List Int):List aD:=((ls.zip es).filter fun p=>decide (p.2=0)).map (·.1)
theorem mP {ls:List aD} {es:List Int} (h:es.length=ls.length) (x:aD) (e:Int):oP (ls++[x]) (es++[e])=oP ls es++if e=0 then [x] else []:=by
 unfold oP;rw [List.zip_append h.symm,List.filter_append,List.map_append];by_cases he:e=0 <;> simp [he]
theorem oZ {ls:List aD} {es:List Int}:(oP ls es).length≤ls.length∧∀ s∈oP ls es,s∈ls:=by
 constructor
 ·unfold oP;rw [List.length_map];exact Nat.le_trans (List.length_filter_le _ _) (by rw [List.length_zip];omega)
 intro s hs;obtain ⟨p,hp,rfl⟩:=List.mem_map.1 hs;exact (List.of_mem_zip ((List.mem_filter.1 hp).1)).1
theorem BA (ls:List aD):sX ls→(eK (oP ls (eK ls).2)).1=(eK ls).1∧∀ e∈(eK (oP ls (eK ls).2)).2,e=0:=by
 refine vI (P:=fun ls=>sX ls→(eK (oP ls (eK ls).2)).1=(eK ls).1∧∀ e∈(eK (oP ls (eK ls).2)).2,e=0) (fun _=>⟨rfl,fun e he=>by cases he⟩) (fun l x ih h=>?_) ls;obtain ⟨q,h1,h2,h3⟩:=sY h;obtain ⟨h4,h5⟩:=ih h.init.1;have hl:=oY h.init.1;rw [h3];dsimp only;rw [mP hl];by_cases hq:q.2=0
 ·rw [if_pos hq,nU];unfold XF;rw [h4,h1];refine ⟨rfl,fun e he=>?_⟩;rcases List.mem_append.1 he with h6 | h6
  ·exact h5 e h6
  simp only [List.mem_singleton] at h6;subst h6;exact hq
 rw [if_neg hq,List.append_nil,h4,h2 hq];exact ⟨rfl,h5⟩
end T12
set_option maxHeartbeats 4000000
namespace T12
open Go Go.Proofs Pk
def Rt (ls:List aD):Prop:=ls.length≤60∧∀ s∈ls,s.length≤400
theorem Rt.lin {ls:List aD} (h:Rt ls):sX ls:=⟨by have:=h.1;omega,fun s hs=>by have:=h.2 s hs;omega⟩
theorem e19 {ls:List aD} (h:Rt ls):m19 ls=some 0:=by
 have h0:MD ls DB=some false:=by
  obtain ⟨r,h1,h2⟩:=qV ls DB (fun s=>decide (400 < (s.length:Int))) (fun x hx=>rfl) (oA ls DB) (fun i=>rfl);have h3:ls.any (fun s=>decide (400 < (s.length:Int)))=false:=by
   rw [List.any_eq_false];intro s hs;have:=h.2 s hs;simp;omega
  unfold MD QV;rw [h1];rcases h2 with ⟨z,rfl,h2⟩ | ⟨rfl,h2⟩
  ·rw [h3] at h2;cases h2
  rfl
 unfold m19;rw [if_neg (by have:=h.1;omega),h0];rfl
theorem e18 {ls:List aD} (h:Rt ls):m8 ls=some ((eK ls).1.state,(eK ls).2,0):=by
 unfold m8;rw [e19 h];simp only [Option.bind_some];rw [if_neg (by decide),e14 h.lin];rfl
theorem Rt.take {ls:List aD} (h:Rt ls) (n:Nat):Rt (ls.take n):=⟨by rw [List.length_take];have:=h.1;omega,fun s hs=>h.2 s (List.mem_of_mem_take hs)⟩
theorem T.run {ls:List aD} (h:Rt ls):T (m8 ls) fun r=>r=((eK ls).1.state,(eK ls).2,0):=.ok (e18 h)
theorem QE {ls:List aD} {es:List Int} (h:Rt ls):Rt (oP ls es):=⟨Nat.le_trans oZ.1 h.1,fun s hs=>h.2 s (oZ.2 s hs)⟩
end T12
set_option maxHeartbeats 4000000
namespace T12
open Go Go.Proofs Pk
theorem XG (x:UInt8):((x.toNat:Int)≠32)↔x≠32:=by
 constructor
 ·intro h e;subst e;exact h rfl
 intro h e;exact h (UInt8.toNat_inj.1 (by have:(32:UInt8).toNat=32:=rfl;omega))
theorem r22 (line:aD) (k:Nat) (hk:k≤line.length) (hl:line.length≤9223372036854775807):T (QT line (k:Int)) fun r=>∃ n:Nat,r=(n:Int)∧k≤n∧n≤line.length∧(∀ j,k≤j→j < n→line[j]?≠some 32)∧(n < line.length→line[n]?=some 32):=by
 unfold QT;refine T.bd (T.lp (fun s=>∃ n:Nat,s=(n:Int)∧k≤n∧n≤line.length∧∀ j,k≤j→j < n→line[j]?≠some 32) (fun s=>line.length - s.toNat) (Q:=fun r=>∃ n:Nat,r=(n:Int)∧k≤n∧n≤line.length∧(∀ j,k≤j→j < n→line[j]?≠some 32)∧(n < line.length→line[n]?=some 32)) (fun s hs=>?_) ⟨k,rfl,Nat.le_refl _,hk,fun j h1 h2=>by omega⟩) fun r hr=>.mk hr;obtain ⟨n,rfl,h1,h2,h3⟩:=hs;unfold CZ;refine T.bd (Q:=fun t=>(t=true→n < line.length∧line[n]?≠some 32)∧(t=false→n < line.length→line[n]?=some 32)) (T.ie (fun h=>.ck (by omega) (T.bd (T.at (by omega)) fun x hx=>.mk ⟨fun ht=>⟨by omega,?_⟩,fun ht _=>?_⟩)) fun h=>.mk ⟨by simp,fun _ h'=>by omega⟩) fun t ht=>T.ie (fun htt=>.ck (by have:=(ht.1 htt).1;omega) (.mk ⟨⟨n+1,by omega,by omega,by have:=ht.1 htt;omega,fun j h4 h5=>?_⟩,by have:=ht.1 htt;omega⟩)) fun htf=>.mk ⟨n,rfl,h1,h2,h3,ht.2 (by simpa using htf)⟩
 ·rw [Int.toNat_natCast] at hx;rw [hx];intro e;injection e with e;exact (XG x).1 (by simpa using ht) e
 ·rw [Int.toNat_natCast] at hx;rw [hx];have:¬((x.toNat:Int)≠32):=by simpa using ht
  rw [XG] at this;simpa using this
 by_cases hj:j=n
 ·subst hj;exact (ht.1 htt).2
 exact h3 j h4 (by omega)
theorem r23 (w:aD):T (QU w) fun r=>r.1≤4:=by
 unfold QU
 repeat' first
  | exact .mk (by decide)
  | exact .mk trivial
  | refine T.ie (fun _=>?_) fun _=>?_
  | refine T.bd (Q:=fun _=>True) ?_ fun _ _=>?_
abbrev LE:aD:=[111,114,100,101,114]
theorem aG6:QU LE=some (1,false):=by decide
theorem MS {i:Nat} (h:i≤9):10 ^ i≤1000000000:=Nat.le_trans (Nat.pow_le_pow_right (by decide) h) (by decide)
theorem aG7 (t:aD) (h9:t.length≤9):T (bF (yS t) (0,0)) fun e=>(t.all CV=true∧e=.inl (pR t 0:Int))∨(t.all CV=false∧e=.inr (0,false)):=by
 refine T.ix t.length (·.1) (fun s=>(t.take s.1).all CV=true∧s.2=(pR (t.take s.1) 0:Int)) (fun s hs hi=>?_) ⟨rfl,rfl⟩ (Nat.zero_le _);have hv:=sA (t.take s.1) 0 hs.1;have hp:=MS (i:=(t.take s.1).length) (by rw [List.length_take];omega);unfold yS;refine T.ie (fun hl=>T.bd (Q:=fun c=>∀ x,t[s.1]?=some x→c=!CV x) (T.bd (T.at (by omega)) fun x hx=>T.ie (fun h=>.mk fun y hy=>?_) fun h=>.mk fun y hy=>?_) fun c hc=>T.ie (fun hct=>.mk (.inr ⟨?_,rfl⟩)) fun hcf=>.ck (by omega) (T.bd (T.at (by omega)) fun x hx=>?_)) fun hl=>.mk (.inl ?_)
 ·rw [hx] at hy;injection hy with hy;subst hy;simp only [CV,Bool.true_eq,Bool.not_eq_true',decide_eq_false_iff_not];omega
 ·rw [hx] at hy;injection hy with hy;subst hy;unfold CV;by_cases h0:(57:Int) < (x.toNat:Int)
  ·rw [decide_eq_true h0,decide_eq_false (by omega)];rfl
  rw [decide_eq_false h0,decide_eq_true (by omega)];rfl
 ·have hi':s.1 < t.length:=by omega
  have:=hc _ (List.getElem?_eq_getElem hi');rw [hct] at this;rw [List.all_eq_false];exact ⟨t[s.1],List.getElem_mem hi',by simpa using this.symm⟩
 ·have hd:=hc x hx;have hd':CV x=true:=by
   cases h:CV x with
   | true=>rfl
   | false=>rw [h] at hd;exact absurd hd hcf
  have hb:=hd';simp only [CV,decide_eq_true_eq] at hb;have h2:(t.take (s.1+1))=t.take s.1++[x]:=by rw [List.take_add_one,hx];rfl
  refine .ck (by omega) (.ck (by omega) (.mk ⟨⟨?_,?_⟩,rfl,by omega⟩))
  ·dsimp only;rw [h2,List.all_append,hs.1];simp [hd']
  dsimp only;rw [h2,uJ,hs.2];simp only [pR,List.foldl_cons,List.foldl_nil];omega
 have:t.take s.1=t:=List.take_of_length_le (by omega);rw [this] at hs;exact ⟨hs.1,by rw [hs.2]⟩
theorem r24 (s:aD):T (MC s) fun _=>True:=by
 unfold MC;refine T.bd (Q:=fun t=>t=true→1≤s.length) (T.ie (fun h=>T.bd (T.at (by omega)) fun x _=>.mk fun _=>by omega) fun _=>.mk (by simp)) fun t ht=>T.bd (Q:=fun _=>True) (T.ie (fun h=>.ck (ht h) (.mk trivial)) fun _=>.mk trivial) fun u _=>T.bd (Q:=fun c=>c=false→u.length≤9) (T.ie (fun _=>.mk (by simp)) fun h0=>T.ie (fun _=>.mk (by simp)) fun h9=>T.bd (T.at (by omega)) fun x _=>T.ie (fun _=>T.ie (fun _=>.mk (by simp)) fun _=>.mk fun _=>by omega) fun _=>.mk fun _=>by omega) fun c hc=>T.ie (fun _=>.mk trivial) fun hf=>?_;have h9:=hc (by simpa using hf);refine T.bd (aG7 u h9) fun e he=>?_;rcases he with ⟨h1,rfl⟩ | ⟨h1,rfl⟩
 ·have hv:=sA u 0 h1;have hp:=MS h9;exact T.bd (Q:=fun _=>True) (T.ie (fun _=>.ck (by omega) (.mk trivial)) fun _=>.mk trivial) fun _ _=>.mk trivial
 exact .mk trivial
end T12
set_option maxHeartbeats 4000000
namespace T12
open Go Go.Proofs Pk
def Ord (line:aD) (n:Int):Prop:=∃ d,line=LE++32::d∧(32:UInt8)∉d∧MC d=some (n,true)
theorem r11 (line:aD) (hl:line.length≤9223372036854775807):T (m16 line) fun r=>r.2.2.2=true→r.1=LE→∃ n,r.2.1=[n]∧Ord line n:=by
 unfold m16;refine T.bd (r22 line 0 (Nat.zero_le _) hl) fun r1 h1=>?_;obtain ⟨n0,rfl,_,h2,h3,h4⟩:=h1;refine .ck (by omega) (.ck (by omega) (T.bd (Q:=fun r=>r.1≤4∧(line.take n0=LE→r=(1,false))) ?_ fun r8 h8=>?_))
 ·obtain ⟨q,h5,h6⟩:=r23 (line.take n0);refine ⟨q,h5,h6,fun hw=>?_⟩;rw [hw,aG6] at h5;injection h5 with h5;exact h5.symm
 refine T.ie (fun _=>.mk (by simp)) fun hr0=>T.bd (Q:=fun e=>match e with | .inl t=>(∃ a:Nat,t.1=(a:Int)∧a≤line.length)∧(r8.1=1→∃ (a:Nat) (v:Int),t=((a:Int),[v])∧n0 < a∧n0 < line.length∧a≤line.length∧(∀ j,n0+1≤j→j < a→line[j]?≠some 32)∧MC ((line.drop (n0+1)).take (a - (n0+1)))=some (v,true)) | .inr z=>z.2.2.2=false) (T.ix r8.1.toNat (·.1) (fun s=>(∃ a:Nat,s.2.1=(a:Int)∧a≤line.length)∧s.2.2.length=s.1∧(s.1=0→s.2.1=(n0:Int)∧s.2.2=[])∧(s.1=1→∃ (a:Nat) (v:Int),s.2=((a:Int),[v])∧n0 < a∧n0 < line.length∧a≤line.length∧(∀ j,n0+1≤j→j < a→line[j]?≠some 32)∧MC ((line.drop (n0+1)).take (a - (n0+1)))=some (v,true))) (fun s hs hi=>?_) ⟨⟨n0,rfl,h2⟩,rfl,fun _=>⟨rfl,rfl⟩,fun h=>by cases h⟩ (Nat.zero_le _)) fun e he=>?_
 ·obtain ⟨⟨a,ha,hal⟩,hll,hz,ho⟩:=hs;unfold DA;refine T.ie (fun hlt=>T.ie (fun _=>.mk rfl) fun hne=>.ck (by omega) ?_) fun hge=>.mk ⟨⟨a,ha,hal⟩,fun h1=>?_⟩
  ·rw [ha,show ((a:Int)+1)=((a+1:Nat):Int) by omega];rw [ha] at hne;refine T.bd (r22 line (a+1) (by omega) hl) fun r2 h5=>?_;obtain ⟨b,rfl,h6,h7,h8',_⟩:=h5;refine .ck (by omega) (.ck (by omega) (.ck (by omega) ?_));obtain ⟨q,h9,_⟩:=r24 ((line.drop ((a+1:Nat):Int).toNat).take ((b:Int).toNat - ((a+1:Nat):Int).toNat));refine T.bd (.ok h9) fun q' hq=>?_;subst hq;refine T.ie (fun hq=>.ck (by omega) (.ck (by omega) (.mk ⟨⟨⟨b,rfl,h7⟩,by simp [hll],fun h=>absurd h (Nat.succ_ne_zero _),fun h=>?_⟩,rfl,by clear ho;omega⟩))) fun _=>.mk rfl;have h0:s.1=0:=by dsimp only at h;omega
   obtain ⟨hC,hB⟩:=hz h0;obtain rfl:a=n0:=by rw [ha] at hC;omega
   refine ⟨b,q'.1,by rw [hB];rfl,by omega,by omega,h7,h8',?_⟩;rw [Int.toNat_natCast,Int.toNat_natCast] at h9;rw [h9,← hq]
  have h0:s.1=1:=by omega
  obtain ⟨a',v,h5,h6⟩:=ho h0;exact ⟨a',v,h5,h6⟩
 cases e with
 | inr z=>simp only at he;exact .mk fun h=>by rw [he] at h;cases h
 | inl t =>
  obtain ⟨⟨a,ha,hal⟩,hone⟩:=he;refine T.ie (fun hq=>T.ie (fun hq2=>?_) fun hq2=>.mk fun _ hw=>?_) fun _=>.mk (by simp)
  ·have h9:decide (t.1 < (line.length:Int))=true:=by rw [hq2] at hq;simpa using hq
   simp only [decide_eq_true_eq] at h9;refine .ck (by omega) (.ck (by omega) (.ck (by omega) (.mk fun _ hw=>?_)));rw [Int.toNat_natCast] at hw;have:=h8.2 hw;rw [this] at hq2;cases hq2
  dsimp only at hw;rw [Int.toNat_natCast] at hw;have h9:=h8.2 hw;obtain ⟨a',v,h5,h6,h7,hC,hB,hE⟩:=hone (by rw [h9]);have hl2:¬(t.1 < (line.length:Int)):=by
   intro h;rw [h9,decide_eq_true h] at hq;simp at hq
  rw [h5] at hl2;have hae:a'=line.length:=by dsimp only at hl2;omega
  refine ⟨v,by rw [h5],line.drop (n0+1),?_,?_,?_⟩
  ·have hA:=h4 (by omega);rw [List.getElem?_eq_getElem h7] at hA;injection hA with hA;have hF:=List.drop_eq_getElem_cons h7;rw [hA] at hF;rw [← hw,← hF,List.take_append_drop]
  ·intro hm;obtain ⟨j,hj⟩:=List.mem_iff_getElem?.1 hm;rw [List.getElem?_drop] at hj;exact hB (n0+1+j) (by omega) (by have:=(List.getElem?_eq_some_iff.1 hj).1;omega) hj
  rw [hae,List.take_of_length_le (by rw [List.length_drop];omega)] at hE;exact hE
theorem r6 (ls:List aD) (h:∀ s∈ls,s.length≤9223372036854775807):T (m5 ls) fun _=>True:=by
 unfold m5;refine T.bd (Q:=fun _=>True) (T.ix ls.length (·.1) (fun _=>True) (fun s _ hi=>?_) trivial (Nat.zero_le _)) fun e _=>T.bd (Q:=fun _=>True) ?_ fun _ _=>.mk trivial
 ·unfold ON;refine T.ie (fun hl=>T.bd (T.mem (by omega)) fun x hx=>T.bd (r11 x (h x hx)) fun r _=>T.bd (Q:=fun _=>True) (T.ie (fun _=>.mk trivial) fun _=>.mk trivial) fun _ _=>T.bd (Q:=fun _=>True) (T.ie (fun _=>.mk trivial) fun _=>.mk trivial) fun _ _=>.mk ⟨trivial,rfl,by omega⟩) fun _=>.mk trivial
 repeat' first
  | exact .mk trivial
  | refine T.ie (fun _=>?_) fun _=>?_
theorem r7 (ls:List aD):T (m6 ls) fun r=>r=true→Rt ls:=by
 unfold m6;refine T.bd (Q:=fun e=>match e with | .inl _=>∀ s∈ls,s.length≤400 | .inr z=>z=false) (T.ix ls.length id (fun i=>∀ s∈ls.take i,s.length≤400) (fun i hI hi=>?_) (by simp) (Nat.zero_le _)) fun e he=>?_
 ·unfold OO;refine T.ie (fun hl=>T.bd (T.at (by omega)) fun x hx=>T.ie (fun _=>.mk rfl) fun h4=>.mk ⟨fun s hs=>?_,rfl,by simpa using hl⟩) fun hl=>.mk (by simp only [id] at hi;rw [List.take_of_length_le (by omega)] at hI;exact hI);rw [List.take_add_one,hx] at hs;rcases List.mem_append.1 hs with h | h
  ·exact hI s h
  simp at h;subst h;omega
 cases e with
 | inr z=>simp only at he;subst he;exact .mk (by simp)
 | inl _=>exact .mk fun h=>⟨by have:=of_decide_eq_true h;omega,he⟩
theorem r10 {ls:List aD} (h:ls.length≤1000):m9 ls=some ls:=by
 unfold m9;rw [cK (by simp;omega)];rfl
end T12
set_option maxHeartbeats 4000000
namespace T12
open Go Go.Proofs Pk
theorem a10 {ls:List aD} {es:List Int} (h:es.length=ls.length) (h2:ls.length≤100):UJ ls es=some (oP ls es):=by
 obtain ⟨e,h1,rfl⟩:T (bF (yV es ls) (0,([]:List aD))) fun e=>e=oP ls es:=by
  refine T.ix ls.length (·.1) (fun s=>s.2=oP (ls.take s.1) (es.take s.1)) (fun s hs hi=>?_) rfl (Nat.zero_le _);have hlen:s.2.length≤s.1:=by
   rw [hs];have:=(oZ (ls:=ls.take s.1) (es:=es.take s.1)).1;rw [List.length_take] at this;omega
  unfold yV;refine T.bd (Q:=fun t=>t=decide (s.1 < ls.length)) (T.ie (fun h1=>.mk ?_) fun h1=>.mk ?_) fun t ht=>T.ie (fun htt=>?_) fun hf=>.mk ?_
  ·rw [decide_eq_decide];omega
  ·rw [eq_comm,decide_eq_false_iff_not];omega
  ·rw [htt] at ht;have hlt:s.1 < ls.length:=of_decide_eq_true ht.symm;refine T.bd (T.at (by omega)) fun e he=>T.bd (Q:=fun t=>t=oP (ls.take (s.1+1)) (es.take (s.1+1))) (T.ie (fun h0=>T.bd (T.at hlt) fun x hx=>.ck (by omega) (.mk ?_)) fun h0=>.mk ?_) fun t ht=>.ck (by omega) (.mk ⟨ht,rfl,hlt⟩)
   ·rw [List.take_add_one,hx,List.take_add_one,he];rw [show (some x).toList=[x] from rfl,show (some e).toList=[e] from rfl,mP (by rw [List.length_take,List.length_take];omega),if_pos h0,hs]
   rw [List.take_add_one,List.getElem?_eq_getElem hlt,List.take_add_one,he];rw [show (some ls[s.1]).toList=[ls[s.1]] from rfl,show (some e).toList=[e] from rfl,mP (by rw [List.length_take,List.length_take];omega),if_neg h0,List.append_nil,hs]
  have:¬s.1 < ls.length:=fun h=>by rw [decide_eq_true h] at ht;exact hf ht
  rw [hs,List.take_of_length_le (by omega),List.take_of_length_le (by omega)]
 unfold UJ;rw [h1];rfl
end T12
set_option maxHeartbeats 1000000
namespace T12
open Go Go.Proofs Pk
def dI (t:Bool) (d:Nat):Int:=if t then 7 - (d:Int) else (d:Int)
def D (t:Bool) (d:Nat):UInt8:=CS (48+dI t d)
def mQ (k:Nat) (t:Bool):aD:=[D t (k/8/8/8%8),D t (k/8/8%8),D t (k/8%8),D t (k%8)]
def LF (k:Nat) (t:Bool):aD:=[D t (k/8/8/8/8/8%8),D t (k/8/8/8/8%8),D t (k/8/8/8%8),D t (k/8/8%8),D t (k/8%8),D t (k%8)]
theorem lJ (t:Bool) (k i:Nat) (a:dD) (hk:k≤9000000) (hi:i≤5):rK t ((k:Int),(i:Int),a)=some (.inl (((k/8:Nat):Int),(i:Int) - 1,dD.set a i (48+dI t (k%8)))):=by
 unfold rK;dsimp only;have h8:((k:Int)%8)=((k%8:Nat):Int):=by omega
 have h9:k%8 < 8:=Nat.mod_lt _ (by decide);rw [if_pos (by omega),cK (by omega),h8];have hd:((if t=true then some (7 - ((k%8:Nat):Int)) else some ((k%8:Nat):Int)):Option Int)=some (dI t (k%8)):=by
  unfold dI;cases t <;> rfl
 rw [hd,Option.bind_some];have hb:0≤dI t (k%8)∧dI t (k%8)≤7:=by unfold dI;split <;> omega
 rw [cK (by omega),cK (by omega),cK (by omega),cK (by omega),cK (by omega)];rfl
theorem GX (t:Bool) (k:Int) (a:dD):rK t (k,-1,a)=some (.inr a):=by
 unfold rK;dsimp only;rw [if_neg (by decide)]
theorem XH (t:Bool) (d:Nat) (h:d < 8):0≤48+dI t d∧48+dI t d≤255:=by unfold dI;split <;> omega
theorem g4 (k:Nat) (t:Bool) (hk:k≤9000000):KE (k:Int) 4 t=some (mQ k t):=by
 unfold KE;have m8:∀ n:Nat,n%8 < 8:=fun n=>Nat.mod_lt _ (by decide)
 rw [cK (by decide),show ((4:Int) - 1)=((3:Nat):Int) from rfl,cG (lJ t k 3 _ (by omega) (by omega)),
  show (((3:Nat):Int) - 1)=((2:Nat):Int) from rfl,cG (lJ t _ 2 _ (by omega) (by omega)),
  show (((2:Nat):Int) - 1)=((1:Nat):Int) from rfl,cG (lJ t _ 1 _ (by omega) (by omega)),
  show (((1:Nat):Int) - 1)=((0:Nat):Int) from rfl,cG (lJ t _ 0 _ (by omega) (by omega)),
  show (((0:Nat):Int) - 1) = -1 from rfl,dF (GX t _ _),Option.bind_some,cK,cK (by decide),cK (by decide)]
 ·rfl
 show ∀ v∈[48+dI t (k/8/8/8%8),48+dI t (k/8/8%8),48+dI t (k/8%8),48+dI t (k%8),0,0],0≤v∧v≤255;intro v hv;simp only [List.mem_cons,List.not_mem_nil,or_false] at hv;rcases hv with rfl | rfl | rfl | rfl | rfl | rfl <;> first | exact XH _ _ (m8 _) | decide
theorem g6 (k:Nat) (t:Bool) (hk:k≤9000000):KE (k:Int) 6 t=some (LF k t):=by
 unfold KE;have m8:∀ n:Nat,n%8 < 8:=fun n=>Nat.mod_lt _ (by decide)
 rw [cK (by decide),show ((6:Int) - 1)=((5:Nat):Int) from rfl,cG (lJ t k 5 _ (by omega) (by omega)),
  show (((5:Nat):Int) - 1)=((4:Nat):Int) from rfl,cG (lJ t _ 4 _ (by omega) (by omega)),
  show (((4:Nat):Int) - 1)=((3:Nat):Int) from rfl,cG (lJ t _ 3 _ (by omega) (by omega)),
  show (((3:Nat):Int) - 1)=((2:Nat):Int) from rfl,cG (lJ t _ 2 _ (by omega) (by omega)),
  show (((2:Nat):Int) - 1)=((1:Nat):Int) from rfl,cG (lJ t _ 1 _ (by omega) (by omega)),
  show (((1:Nat):Int) - 1)=((0:Nat):Int) from rfl,cG (lJ t _ 0 _ (by omega) (by omega)),
  show (((0:Nat):Int) - 1) = -1 from rfl,dF (GX t _ _),Option.bind_some,cK,cK (by decide),cK (by decide)]
 ·rfl
 show ∀ v∈[48+dI t (k/8/8/8/8/8%8),48+dI t (k/8/8/8/8%8),48+dI t (k/8/8/8%8),48+dI t (k/8/8%8),48+dI t (k/8%8),48+dI t (k%8)],0≤v∧v≤255;intro v hv;simp only [List.mem_cons,List.not_mem_nil,or_false] at hv;rcases hv with rfl | rfl | rfl | rfl | rfl | rfl <;> exact XH _ _ (m8 _)
def ck (h:Nat) (c:UInt8):Nat:=(29*h+c.toNat+3)%262139
def YT (s:aD):Nat:=s.foldl ck 11
theorem MT (h:Nat) (c:UInt8):ck h c < 262139:=Nat.mod_lt _ (by decide)
theorem BB (s:aD):∀ h,h < 262139→s.foldl ck h < 262139:=by
 induction s with
 | nil=>intro h hh;exact hh
 | cons c s ih=>intro h hh;exact ih _ (MT _ _)
theorem QF (s:aD):YT s < 262139:=BB s 11 (by decide)
def jY (s:aD):aD:=(((((([91]++mQ s.length false)++mQ s.length true)++LF (YT s) false)++[93])++s)++[10])
theorem iO (s:aD):(jY s).length=17+s.length:=by simp [jY,mQ,LF];omega
theorem QG (s:aD):∀ (n i h:Nat),s.length - i=n→i≤s.length→h < 262139→bF (rL s) (i,(h:Int))=some ((((s.drop i).foldl ck h:Nat):Int)):=by
 intro n
 induction n with
 | zero =>
  intro i h hn hi hh;have:i=s.length:=by omega
  subst this;rw [List.drop_length];refine dF ?_;unfold rL;dsimp only;rw [if_neg (by omega)];rfl
 | succ n ih =>
  intro i h hn hi hh;have hlt:i < s.length:=by omega
  have hx:s[i]?=some s[i]:=List.getElem?_eq_getElem hlt;have hb:=(s[i]).toNat_lt;have hst:rL s (i,(h:Int))=some (.inl (i+1,((ck h s[i]:Nat):Int))):=by
   unfold rL;dsimp only;rw [if_pos (by omega),hx,Option.bind_some,cK (by omega),cK (by omega),cK (by omega),cK (by omega)];congr 3
  rw [cG hst,ih (i+1) _ (by omega) (by omega) (MT _ _)];congr 2;rw [List.drop_eq_getElem_cons hlt,List.foldl_cons]
theorem QH (s:aD) (hs:s.length≤400):MI s=some (jY s):=by
 unfold MI;have:=QF s;have h4:∀ k t,(mQ k t).length=4:=fun _ _=>rfl;have h6:∀ k t,(LF k t).length=6:=fun _ _=>rfl;rw [cK (by omega),show ((0:Nat),(11:Int))=(0,((11:Nat):Int)) from rfl,QG s s.length 0 11 (by omega) (by omega) (by decide),Option.bind_some,g4 s.length false (by omega),Option.bind_some,cK (by rw [h4];decide),g4 s.length true (by omega),Option.bind_some,cK (by simp [h4])];rw [List.drop_zero,show s.foldl ck 11=YT s from rfl,g6 (YT s) false (by omega),Option.bind_some,cK (by simp [h4,h6]),cK (by simp [h4,h6]),cK (by simp [h4,h6];omega),cK (by simp [h4,h6];omega)];rfl
end T12
set_option maxHeartbeats 1000000
namespace T12
open Go Go.Proofs Pk
def eE (l:List aD):aD:=l.flatMap jY
theorem GY (l:List aD) (h:∀ x∈l,x.length≤400):(eE l).length≤417*l.length:=by
 induction l with
 | nil=>simp [eE]
 | cons a l ih =>
  have h1:=ih fun x hx=>h x (List.mem_cons_of_mem _ hx);have h2:=h a (List.mem_cons_self ..);have h3:=iO a;simp only [eE,List.flatMap_cons,List.length_append,List.length_cons] at *;omega
theorem XI (l:List aD) (hl:l.length≤60) (h:∀ x∈l,x.length≤400):∀ (n i:Nat) (o:aD),l.length - i=n→i≤l.length→o.length≤417*i→bF (rM l) (i,o)=some (o++eE (l.drop i)):=by
 intro n
 induction n with
 | zero =>
  intro i o hn hi ho;have:i=l.length:=by omega
  subst this;rw [List.drop_length];refine dF ?_;unfold rM;dsimp only;rw [if_neg (by omega)];simp [eE]
 | succ n ih =>
  intro i o hn hi ho;have hlt:i < l.length:=by omega
  have hx:l[i]?=some l[i]:=List.getElem?_eq_getElem hlt;have hb:=h l[i] (List.getElem_mem hlt);have h3:=iO l[i];have hst:rM l (i,o)=some (.inl (i+1,o++jY l[i])):=by
   unfold rM;dsimp only;rw [if_pos (by omega),hx,Option.bind_some,QH _ hb,Option.bind_some,cK (by omega)]
  rw [cG hst,ih (i+1) _ (by omega) (by omega) (by rw [List.length_append];omega),show l.drop i=l[i]::l.drop (i+1) from List.drop_eq_getElem_cons hlt];unfold eE;rw [List.flatMap_cons,List.append_assoc]
theorem g75 (l:List aD) (hl:l.length≤60) (h:∀ x∈l,x.length≤400):QY l=some (eE l):=by
 unfold QY;rw [XI l hl h l.length 0 [] (by omega) (by omega) (by simp)];rfl
theorem QI (l:List aD) (h:∀ x∈l,x.length≤400):∀ (n i:Nat),l.length - i=n→i≤l.length→bF (oA l DB) i=some (.inl ()):=by
 intro n
 induction n with
 | zero =>
  intro i hn hi;refine dF ?_;unfold oA;rw [if_neg (by omega)]
 | succ n ih =>
  intro i hn hi;have hlt:i < l.length:=by omega
  have hx:l[i]?=some l[i]:=List.getElem?_eq_getElem hlt;have hb:=h l[i] (List.getElem_mem hlt);have hst:oA l DB i=some (.inl (i+1)):=by
   unfold oA DB;rw [if_pos (by omega),hx,Option.bind_some,Option.bind_some,if_neg (by simp;omega)]
  rw [cG hst,ih (i+1) (by omega) (by omega)]
theorem g50 (l:List aD) (hl:l.length≤60) (h:∀ x∈l,x.length≤400):m19 l=some 0:=by
 unfold m19 MD QV;rw [if_neg (by omega),QI l h l.length 0 (by omega) (by omega)];rfl
theorem g30 (l:List aD) (hl:l.length≤60) (h:∀ x∈l,x.length≤400):QZ l=some (eE l,0):=by
 unfold QZ;rw [g50 l hl h,Option.bind_some,if_neg (by simp),g75 l hl h];rfl
theorem zF (l:aD) (i:Nat) (x:UInt8) (acc:Int) (hx:l[i]?=some x) (h0:0≤acc) (h1:acc≤9000000):rN l (i,acc)=some (if x.toNat < 48∨55 < x.toNat then .inr (.inr (-1)) else .inl (i+1,8*acc+((x.toNat:Int) - 48))):=by
 have hb:=x.toNat_lt;have hi:i < l.length:=(List.getElem?_eq_some_iff.1 hx).1;unfold rN;dsimp only;rw [if_pos (by omega),hx,Option.bind_some];by_cases h2:x.toNat < 48
 ·rw [if_pos (by omega),Option.bind_some,if_pos rfl,if_pos (.inl h2)]
 rw [if_neg (by omega),Option.bind_some];by_cases h3:55 < x.toNat
 ·rw [if_pos (by simp;omega),if_pos (.inr h3)]
 rw [if_neg (by simp;omega),cK (by omega),cK (by omega),if_neg (by omega)];congr 3;omega
theorem QJ (l:aD) (acc:Int):rN l (l.length,acc)=some (.inr (.inl acc)):=by
 unfold rN;dsimp only;rw [if_neg (by omega)]
theorem zG (d:Nat) (hd:d < 8):(D false d).toNat=48+d:=by
 have:∀ d,d < 8→(D false d).toNat=48+d:=by decide
 exact this d hd
theorem XJ (k:Nat) (hk:k < 4096):MK (mQ k false)=some (k:Int):=by
 have m8:∀ n:Nat,n%8 < 8:=fun n=>Nat.mod_lt _ (by decide);have v1:=zG _ (m8 (k/8/8/8));have v2:=zG _ (m8 (k/8/8));have v3:=zG _ (m8 (k/8));have v4:=zG _ (m8 k);have s0:=zF (mQ k false) 0 _ 0 rfl (by omega) (by omega);rw [if_neg (by omega)] at s0;have s1:=zF (mQ k false) 1 _ (8*0+(((D false (k/8/8/8%8)).toNat:Int) - 48)) rfl (by omega) (by omega);rw [if_neg (by omega)] at s1;have s2:=zF (mQ k false) 2 _ (8*(8*0+(((D false (k/8/8/8%8)).toNat:Int) - 48))+(((D false (k/8/8%8)).toNat:Int) - 48)) rfl (by omega) (by omega);rw [if_neg (by omega)] at s2;have s3:=zF (mQ k false) 3 _ (8*(8*(8*0+(((D false (k/8/8/8%8)).toNat:Int) - 48))+(((D false (k/8/8%8)).toNat:Int) - 48))+(((D false (k/8%8)).toNat:Int) - 48)) rfl (by omega) (by omega);rw [if_neg (by omega)] at s3;unfold MK;rw [cG s0,cG s1,cG s2,cG s3,show (3+1:Nat)=(mQ k false).length from rfl,dF (QJ _ _),Option.bind_some];dsimp only;congr 1;rw [v1,v2,v3,v4];omega
end T12
set_option maxHeartbeats 1000000
namespace T12
open Go Go.Proofs Pk
theorem BC (s r:aD):(((jY s++r).drop 1).take 4)=mQ s.length false:=rfl
theorem xY (s r:aD):(jY s++r).drop 16=(s++[10])++r:=rfl
theorem GZ (s r:aD):((jY s++r).drop 16).take s.length=s:=by rw [xY,List.append_assoc,List.take_left]
def QK (r:aD):Prop:=r.length < 17∨∃ v:Int,MK ((r.drop 1).take 4)=some v∧(v < 0∨400 < v∨(r.length:Int) < 17+v∨jY ((r.drop 16).take v.toNat)≠r.take (17+v.toNat))
theorem kV (b:aD) (i j:Nat):(b.drop i).drop j=b.drop (i+j):=by rw [List.drop_drop]
theorem aG8 (b:aD) (i:Nat) (rd:Int) (ls:List aD) (x rest:aD) (hb:b.drop i=jY x++rest) (hx:x.length≤400) (hbl:b.length≤1000000) (hl:ls.length < 60) :
  kR b ((i:Int),rd,ls)=some (.inl (((i+(17+x.length):Nat):Int),((i+(17+x.length):Nat):Int),ls++[x])):=by
 have hlen:b.length - i=17+x.length+rest.length:=by
  have:=congrArg List.length hb;rw [List.length_drop,List.length_append,iO] at this;exact this
 have t1:((i:Int)+1).toNat=i+1:=by omega
 have t2:((i:Int)+1+4).toNat=i+1+4:=by omega
 have t3:((i:Int)+16).toNat=i+16:=by omega
 have t4:((i:Int)+17+(x.length:Int) - 1).toNat=i+16+x.length:=by omega
 have t5:((i:Int)+17+(x.length:Int)).toNat=i+(17+x.length):=by omega
 have t6:(i:Int).toNat=i:=by omega
 have t7:i+1+4 - (i+1)=4:=by omega
 have t8:i+16+x.length - (i+16)=x.length:=by omega
 have t9:i+(17+x.length) - i=17+x.length:=by omega
 have b1:(b.drop (i+1)).take 4=mQ x.length false:=by rw [← kV,hb,BC]
 have b2:(b.drop (i+16)).take x.length=x:=by rw [← kV,hb,GZ]
 have b3:(b.drop i).take (17+x.length)=jY x:=by rw [hb,← iO,List.take_left]
 unfold kR;dsimp only;rw [cK (by omega),if_pos (by omega),cK (by omega),cK (by omega),cK (by omega),cK (by omega),t1,t2,cK (by omega),t7,b1,XJ _ (by omega),Option.bind_some];have h0:oW (x.length:Int) 0 400=some true:=by
  unfold oW;rw [if_pos (by omega)];simp;omega
 rw [h0,Option.bind_some,if_pos rfl,cK (by omega),Option.bind_some,if_neg (by simp;omega),cK (by omega),cK (by omega),cK (by omega),cK (by omega),cK (by omega),cK (by omega),t3,t4,cK (by omega),t8,b2,QH x hx,Option.bind_some,cK (by omega),cK (by omega),t5,t6,cK (by omega),t9,b3,if_neg (by simp),if_neg (by omega),cK (by omega),Option.bind_some];dsimp only;congr 4 <;> omega
theorem XK (b:aD) (i:Nat) (rd:Int) (ls:List aD) (hi:i≤b.length) (hB:QK (b.drop i)) (hbl:b.length≤1000000) :
  kR b ((i:Int),rd,ls)=some (.inr (.inl (rd,ls)))∨kR b ((i:Int),rd,ls)=some (.inr (.inr (.inl (rd,ls)))):=by
 have t1:((i:Int)+1).toNat=i+1:=by omega
 have t2:((i:Int)+1+4).toNat=i+1+4:=by omega
 have t3:((i:Int)+16).toNat=i+16:=by omega
 have t6:(i:Int).toNat=i:=by omega
 have t7:i+1+4 - (i+1)=4:=by omega
 unfold QK at hB;rw [List.length_drop] at hB;unfold kR;dsimp only;rw [cK (by omega)];by_cases h2:17≤((b.length:Int) - (i:Int))
 ·right;rcases hB with h | ⟨v,hv,hB⟩
  ·omega
  rw [kV] at hv;rw [if_pos h2,cK (by omega),cK (by omega),cK (by omega),cK (by omega),t1,t2,cK (by omega),t7,hv,Option.bind_some];by_cases hn:0≤v∧v≤400
  ·have h1:oW v 0 400=some true:=by
    unfold oW;rw [if_pos hn.1];simp;omega
   rw [h1,Option.bind_some,if_pos rfl,cK (by omega),Option.bind_some];by_cases hs:(b.length:Int) - (i:Int) < 17+v
   ·rw [if_pos (by simp;omega)]
   have t4:((i:Int)+17+v - 1).toNat=i+16+v.toNat:=by omega
   have t5:((i:Int)+17+v).toNat=i+(17+v.toNat):=by omega
   have t8:i+16+v.toNat - (i+16)=v.toNat:=by omega
   have t9:i+(17+v.toNat) - i=17+v.toNat:=by omega
   have hr:jY ((b.drop (i+16)).take v.toNat)≠(b.drop i).take (17+v.toNat):=by
    rw [kV] at hB;rcases hB with h | h | h | h
    ·omega
    ·omega
    ·omega
    exact h
   rw [if_neg (by simp;omega),cK (by omega),cK (by omega),cK (by omega),cK (by omega),cK (by omega),cK (by omega),t3,t4,cK (by omega),t8,QH _ (by rw [List.length_take];omega),Option.bind_some,cK (by omega),cK (by omega),t5,t6,cK (by omega),t9,if_pos hr]
  have h1:oW v 0 400=some false:=by
   unfold oW;by_cases h0:0≤v
   ·rw [if_pos h0];simp;omega
   rw [if_neg h0];rfl
  rw [h1,Option.bind_some,if_neg (by simp),Option.bind_some,if_pos rfl]
 left;rw [if_neg h2]
theorem XL (b:aD) (hbl:b.length≤1000000) (tl:aD) (hB:QK tl):∀ (l:List aD) (i:Nat) (rd:Int) (ls:List aD),(∀ x∈l,x.length≤400)→i≤b.length→b.drop i=eE l++tl→ls.length+l.length≤60→(rd=i∨l≠[]∨rd=(i:Int)) →
  bF (kR b) ((i:Int),rd,ls)=some (.inl (if l=[] then rd else ((i+(eE l).length:Nat):Int),ls++l))∨bF (kR b) ((i:Int),rd,ls)=some (.inr (.inl (if l=[] then rd else ((i+(eE l).length:Nat):Int),ls++l))):=by
 intro l
 induction l with
 | nil =>
  intro i rd ls _ hi hb _ _;rw [if_pos rfl,List.append_nil];have hb':b.drop i=tl:=by rw [hb];rfl
  rcases XK b i rd ls hi (by rw [hb'];exact hB) hbl with h | h
  ·exact .inl (dF h)
  exact .inr (dF h)
 | cons x l ih =>
  intro i rd ls hx hi hb hl _;have hb':b.drop i=jY x++(eE l++tl):=by rw [hb];unfold eE;rw [List.flatMap_cons,List.append_assoc]
  have hlen:b.length - i=17+x.length+(eE l++tl).length:=by
   have:=congrArg List.length hb';rw [List.length_drop,List.length_append,iO] at this;exact this
  rw [cG (aG8 b i rd ls x _ hb' (hx x (List.mem_cons_self ..)) hbl (by simp at hl;omega))];have hb2:b.drop (i+(17+x.length))=eE l++tl:=by rw [← kV,hb',← iO,List.drop_left]
  have h:=ih (i+(17+x.length)) ((i+(17+x.length):Nat):Int) (ls++[x]) (fun y hy=>hx y (List.mem_cons_of_mem _ hy)) (by omega) hb2 (by simp at hl ⊢;omega) (.inl rfl);rw [if_neg (by simp)];have g1:(if l=[] then ((i+(17+x.length):Nat):Int) else ((i+(17+x.length)+(eE l).length:Nat):Int))=((i+(eE (x::l)).length:Nat):Int):=by
   have h3:(eE (x::l)).length=17+x.length+(eE l).length:=by unfold eE;rw [List.flatMap_cons,List.length_append,iO]
   split
   ·rename_i h0;subst h0;rw [h3];simp [eE]
   rw [h3];congr 1;omega
  rw [g1] at h;simpa [List.append_assoc] using h
theorem g31 (l:List aD) (tl:aD) (hl:l.length≤60) (hx:∀ x∈l,x.length≤400) (hB:QK tl) (hbl:(eE l++tl).length≤1000000):m15 (eE l++tl)=some (l,((eE l).length:Int)):=by
 have h:=XL (eE l++tl) hbl tl hB l 0 0 [] hx (Nat.zero_le _) rfl (by simpa using hl) (.inl rfl);have g1:(if l=[] then (0:Int) else ((0+(eE l).length:Nat):Int))=((eE l).length:Int):=by
  split
  ·rename_i h0;subst h0;rfl
  rw [Nat.zero_add]
 rw [g1,List.nil_append] at h;unfold m15;rcases h with h | h
 ·rw [show ((0:Int),(0:Int),([]:List aD))=(((0:Nat):Int),(0:Int),([]:List aD)) from rfl,h];rfl
 rw [show ((0:Int),(0:Int),([]:List aD))=(((0:Nat):Int),(0:Int),([]:List aD)) from rfl,h];rfl
end T12
set_option maxHeartbeats 1000000
namespace T12
open Go Go.Proofs Pk
theorem zH:QK []:=.inl (by simp)
theorem LG (x:aD) (hx:x.length≤400) (k:Nat) (hk:k < 17+x.length):QK ((jY x).take k):=by
 by_cases h0:k < 17
 ·left;rw [List.length_take];omega
 right;have hr:=iO x;have g1:(((jY x).take k).drop 1).take 4=mQ x.length false:=by
  rw [List.drop_take,List.take_take,Nat.min_eq_left (by omega)];rfl
 refine ⟨(x.length:Int),by rw [g1,XJ _ (by omega)],?_⟩;right;right;left;rw [List.length_take];omega
theorem XM:∀ (l:List aD) (c:Nat),(∀ x∈l,x.length≤400)→∃ n tl,n≤l.length∧(eE l).take c=eE (l.take n)++tl∧QK tl
 | [],c,_=>⟨0,[],Nat.le_refl _,by simp [eE],zH⟩
 | x::l,c,h=>by
  have hr:eE (x::l)=jY x++eE l:=by unfold eE;rw [List.flatMap_cons]
  have hl:=iO x;by_cases hc:c < 17+x.length
  ·refine ⟨0,(jY x).take c,Nat.zero_le _,?_,LG x (h x (List.mem_cons_self ..)) c hc⟩;rw [hr,List.take_append_of_le_length (by omega)];rfl
  obtain ⟨n,tl,h1,h2,h3⟩:=XM l (c - (jY x).length) fun y hy=>h y (List.mem_cons_of_mem _ hy);refine ⟨n+1,tl,by simp;omega,?_,h3⟩;rw [hr,List.take_append,List.take_of_length_le (by omega),h2,List.take_succ_cons];show _=eE (x::l.take n)++tl;rw [show eE (x::l.take n)=jY x++eE (l.take n) by unfold eE;rw [List.flatMap_cons],List.append_assoc]
end T12
set_option maxHeartbeats 4000000
namespace T12
open Go Go.Proofs Pk
theorem LH {ls:List aD} {es:List Int} (h:es.length=ls.length) (h0:∀ e∈es,e=0):oP ls es=ls:=by
 unfold oP;rw [List.filter_eq_self.2 (fun p hp=>decide_eq_true (h0 p.2 (List.of_mem_zip hp).2))];exact List.map_fst_zip (by omega)
theorem rcv {b:aD} {L:List aD} {k:Int} (h:m15 b=some (L,k)):((((((bF (yW b) (0,0,([]:List aD))).bind fun e=>match e with
      | .inr z=>some z
      | .inl t=>some (.inl (t.1,t.2))):Option ((Int×List aD)⊕(Int×List aD))).bind fun t=>match t with
    | .inl t=>(some (t.1,t.2))
    | .inr t=>(some (t.1,t.2))):Option (Int×List aD)))=some (k,L):=by
  have hq:bF (yW b) (0,0,([]:List aD))=bF (kR b) (0,0,([]:List aD)):=rfl;unfold m15 at h;rw [hq];generalize bF (kR b) (0,0,([]:List aD))=o at *
  cases o with
  | none=>cases h
  | some e =>
    rw [Option.bind_some] at h ⊢;rcases e with t | (t | t) <;> (simp only [Option.bind_some,Option.some.injEq,Prod.mk.injEq] at h ⊢;exact ⟨h.2,h.1⟩)
theorem aG9 {L more:List aD} (h:sX (L++more)):bF (vC more) (0,(eK L).1,L)=some ((eK (L++more)).1,L++oP more ((eK (L++more)).2.drop L.length)):=by
 obtain ⟨e,h1,rfl⟩:T (bF (vC more) (0,(eK L).1,L)) fun e=>e=((eK (L++more)).1,L++oP more ((eK (L++more)).2.drop L.length)):=by
  refine T.ix more.length (·.1) (fun (s:Nat×aI×List aD)=>s.2=((eK (L++more.take s.1)).1,L++oP (more.take s.1) ((eK (L++more.take s.1)).2.drop L.length))) (fun s hs hi=>?_) (by simp [oP]) (Nat.zero_le _);have hlen:=h.1;rw [List.length_append] at hlen;unfold vC;refine T.ie (fun hl=>T.bd (T.at (by omega)) fun x hx=>?_) fun hl=>.mk (by rw [hs,List.take_of_length_le (by omega)])
  have hLi:sX (L++more.take s.1):=⟨by rw [List.length_append,List.length_take];omega,fun y hy=>by
   rcases List.mem_append.1 hy with h2 | h2
   ·exact h.2 y (List.mem_append.2 (.inl h2))
   exact h.2 y (List.mem_append.2 (.inr (List.mem_of_mem_take h2)))⟩
  have hLs:sX ((L++more.take s.1)++[x]):=⟨by rw [List.length_append,List.length_append,List.length_take];simp;omega,fun y hy=>by
   rcases List.mem_append.1 hy with h2 | h2
   ·exact hLi.2 y h2
   simp only [List.mem_singleton] at h2;subst h2;exact h.2 y (List.mem_append.2 (.inr (List.mem_of_getElem? hx)))⟩
  obtain ⟨q,hq1,_,hq3⟩:=sY hLs;have hrl:=oY hLi;rw [List.length_append,List.length_take] at hrl;have ht:more.take (s.1+1)=more.take s.1++[x]:=by rw [List.take_add_one,hx];rfl
  have hs1:s.2.1=(eK (L++more.take s.1)).1:=by rw [hs]
  have hs2:s.2.2=L++oP (more.take s.1) ((eK (L++more.take s.1)).2.drop L.length):=by rw [hs]
  have htl:=(oZ (ls:=more.take s.1) (es:=(eK (L++more.take s.1)).2.drop L.length)).1;rw [List.length_take] at htl;rw [hs1];refine T.bd (.ok hq1) fun r hr=>T.bd (Q:=fun t=>t=L++oP (more.take (s.1+1)) ((eK (L++more.take (s.1+1))).2.drop L.length)) ?_ fun t ht2=>.mk ⟨?_,rfl,by omega⟩
  ·subst hr;have hd:(eK (L++more.take (s.1+1))).2.drop L.length=(eK (L++more.take s.1)).2.drop L.length++[r.2]:=by
    rw [ht,← List.append_assoc,hq3];dsimp only;rw [List.drop_append_of_le_length (by omega)]
   rw [hd,ht,mP (by rw [List.length_drop,List.length_take];omega)];refine T.ie (fun h0=>.ck (by rw [hs2,List.length_append];omega) (.mk ?_)) fun h0=>.mk ?_
   ·rw [if_pos h0,hs2,List.append_assoc]
   rw [if_neg h0,List.append_nil,hs2]
  subst hr;dsimp only;rw [ht2,ht,← List.append_assoc,hq3]
 rw [h1]
theorem res {b:aD} {L more l:List aD} {k:Int} (hb:m15 b=some (L,k)) (hm:Rt more) (h:sX (L++more)) (hl:L++oP more ((eK (L++more)).2.drop L.length)=l) (hR:Rt l):MM b more=some (eE l,0):=by
 have hL:sX L:=⟨by have:=h.1;rw [List.length_append] at this;omega,fun y hy=>h.2 y (List.mem_append.2 (.inl hy))⟩;have h0:=hR.1;unfold MM;rw [e19 hm,Option.bind_some,if_neg (by decide)];refine Eq.trans (congrArg (fun o=>Option.bind o _) (rcv hb)) ?_;rw [Option.bind_some];dsimp only;rw [e14 hL,Option.bind_some,aG9 h,Option.bind_some];dsimp only;rw [hl,if_neg (by omega),g75 l hR.1 hR.2];rfl
theorem XN (YQ:m7=some true) (ls:List aD) (at_:Int) (ha:0≤at_∧at_≤65535) (hls:∀ s∈ls,s.length≤9223372036854775807):m4 ls at_=some true:=by
 suffices h:T (m4 ls at_) (fun r=>r=true) by obtain ⟨_,h,rfl⟩:=h;exact h
 have hw:T m7 (fun r=>r=true):=⟨true,YQ,rfl⟩;unfold m4;refine T.bd (Q:=fun t=>t=false→Rt ls) (T.bd (r6 ls hls) fun r _=>T.ie (fun _=>T.bd (r7 ls) fun r h=>.mk fun h1=>h (by simpa using h1)) fun _=>.mk (by simp)) fun t ht=>T.ie (fun _=>T.bd hw fun r hr=>.mk hr) fun hf=>?_;have hR:=ht (by simpa using hf);have hL:=hR.lin;have h2:=hR.1;have hln:=oY hL;obtain ⟨l,hl⟩:∃ l,l=oP ls (eK ls).2:=⟨_,rfl⟩;have hRl:Rt l:=by rw [hl];exact QE hR
 have h3:=hRl.1;obtain ⟨_,hz⟩:=BA ls hL;rw [← hl] at hz;have hlen:=GY l hRl.2;have h0:m15 []=some ([],0):=g31 [] [] (by decide) (by simp) zH (by decide);have hres1:MM [] ls=some (eE l,0):=res h0 hR (by simpa using hL) (by rw [hl];rfl) hRl;rw [r10 (by omega),Option.bind_some,e18 hR,Option.bind_some];dsimp only;rw [a10 hln (by omega),Option.bind_some,← hl,r10 (by omega),Option.bind_some,g30 l hRl.1 hRl.2,Option.bind_some,hres1,Option.bind_some];dsimp only;rw [if_neg (by decide),if_neg (by decide),if_neg (by decide),Option.bind_some,if_neg (by simp)];obtain ⟨c,hc,hcl⟩:∃ c:Nat,at_%((eE l).length+1:Int)=(c:Int)∧c≤(eE l).length:=⟨(at_%((eE l).length+1:Int)).toNat,by have:=Int.emod_nonneg at_ (b:=((eE l).length+1:Int)) (by omega);omega,by have:=Int.emod_lt_of_pos at_ (b:=((eE l).length+1:Int)) (by omega);omega⟩;rw [hc,Int.toNat_natCast,List.nil_append];obtain ⟨n,tl,hn,hcut,hbad⟩:=XM l c hRl.2;have hx:∀ x∈l.take n,x.length≤400:=fun x hx=>hRl.2 x (List.mem_of_mem_take hx);have hcl2:((eE l).take c).length≤25020:=by rw [List.length_take];omega
 have hrd:m15 ((eE l).take c)=some (l.take n,((eE (l.take n)).length:Int)):=by
  rw [hcut];rw [hcut] at hcl2;exact g31 (l.take n) tl (by rw [List.length_take];omega) hx hbad (by omega)
 have htn:(l.take n).length=n:=by rw [List.length_take];omega
 have hdr:Rt (l.drop n):=⟨by rw [List.length_drop];omega,fun s hs=>hRl.2 s (List.mem_of_mem_drop hs)⟩;have hres2:MM ((eE l).take c) (l.drop n)=some (eE l,0):=by
  refine res hrd hdr (by rw [List.take_append_drop];exact hRl.lin) ?_ hRl;rw [List.take_append_drop,htn,LH (by rw [List.length_drop,List.length_drop,oY hRl.lin]) (fun e he=>hz e (List.mem_of_mem_drop he)),List.take_append_drop]
 refine .ck (by omega) (.ck (by omega) (.ck (by omega) (.ck hcl (.ck (by simp;omega) ?_))));rw [hrd,Option.bind_some];dsimp only;rw [htn,if_neg (by omega)];refine .ck hn ?_;rw [r10 (by rw [List.length_drop];omega),Option.bind_some,hres2,Option.bind_some];dsimp only;rw [if_pos rfl,if_pos rfl,YQ];exact ⟨true,rfl,rfl⟩
end T12
