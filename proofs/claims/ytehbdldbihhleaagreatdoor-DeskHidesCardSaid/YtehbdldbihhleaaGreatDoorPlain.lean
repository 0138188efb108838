/-
  The plain laws: what the models of a session come to.
-/
import Derived.Test.YtehbdldbihhleaaGreatDoorMade
import Derived.Test.YtehbdldbihhleaaGreatDoorKitSix
import Derived.Lib.AtoiAllCases
import Derived.Lib.IndexMore
set_option linter.all false
set_option maxRecDepth 100000
namespace T12
theorem awk:m7=some true:=by kernel_rfl
end T12
set_option maxHeartbeats 4000000
namespace T12
open Go Go.Proofs Pk
def T {α:Type} (o:Option α) (P:α→Prop):Prop:=∃ v,o=some v∧P v
theorem T.mk {α:Type} {v:α} {P:α→Prop} (h:P v):T (some v) P:=⟨v,rfl,h⟩
theorem T.bd {α β:Type} {o:Option α} {f:α→Option β} {Q:α→Prop} {P:β→Prop} (h:T o Q) (k:∀ v,Q v→T (f v) P):T (o.bind f) P:=by
 obtain ⟨v,rfl,hv⟩:=h;exact k v hv
theorem T.mono {α:Type} {o:Option α} {Q P:α→Prop} (h:T o Q) (k:∀ v,Q v→P v):T o P:=by
 obtain ⟨v,h1,hv⟩:=h;exact ⟨v,h1,k v hv⟩
theorem T.ck {α:Type} {c:Prop} [Decidable c] {o:Option α} {P:α→Prop} (hc:c) (h:T o P):T (cA c o) P:=by
 unfold cA;rw [if_pos hc];exact h
theorem T.ie {α:Type} {c:Prop} [Decidable c] {a b:Option α} {P:α→Prop} (h1:c→T a P) (h2:¬c→T b P):T (if c then a else b) P:=by
 by_cases h:c
 ·rw [if_pos h];exact h1 h
 rw [if_neg h];exact h2 h
theorem T.at {α:Type} {l:List α} {i:Nat} (h:i<l.length):T (l[i]?) (fun x=>l[i]?=some x):=⟨l[i],List.getElem?_eq_getElem h,List.getElem?_eq_getElem h⟩
theorem T.mem {α:Type} {l:List α} {i:Nat} (h:i<l.length):T (l[i]?) (fun x=>x∈l):=⟨l[i],List.getElem?_eq_getElem h,List.getElem_mem h⟩
theorem T.lp {σ ε:Type} {step:σ→Option (σ⊕ε)} (I:σ→Prop) (μ:σ→Nat) {Q:ε→Prop} (h:∀ s,I s→T (step s) (fun r=>match r with | .inl s'=>I s'∧μ s' < μ s | .inr e=>Q e)) {s0:σ} (h0:I s0):T (bC step s0) Q:=by
 have:∀ n s,μ s=n→I s→T (bC step s) Q:=by
  intro n
  induction n using Nat.strongRecOn with
  | _ n ih =>
   intro s hn hI;obtain ⟨v,h1,h2⟩:=h s hI
   cases v with
   | inl s'=>rw [fQ h1];exact ih (μ s') (by have:=h2.2;omega) s' rfl h2.1
   | inr e=>rw [dX h1];exact ⟨e,rfl,h2⟩
 exact this _ s0 rfl h0
theorem T.ix {σ ε:Type} {step:σ→Option (σ⊕ε)} (n:Nat) (ix:σ→Nat) (I:σ→Prop) {Q:ε→Prop} (h:∀ s,I s→ix s≤n→T (step s) (fun r=>match r with | .inl s'=>I s'∧ix s'=ix s+1∧ix s<n | .inr e=>Q e)) {s0:σ} (h0:I s0) (h1:ix s0≤n):T (bC step s0) Q :=
 T.lp (fun s=>I s∧ix s≤n) (fun s=>n-ix s) (fun s hs=>(h s hs.1 hs.2).mono fun v hv=>by
  cases v with
  | inl s'=>have:=hv.2;exact ⟨⟨hv.1,by omega⟩,by omega⟩
  | inr e=>exact hv) ⟨h0,h1⟩
theorem T.rc {β:Type} {F:Nat→Option β} {P:β→Prop} (h:T (F 100000) P):T (sP F) P:=by
 obtain ⟨v,h1,hv⟩:=h;exact ⟨v,by unfold sP;rw [h1];rfl,hv⟩
theorem T.eq {α:Type} {o:Option α} {v:α} {P:α→Prop} (h:o=some v) (hp:P v):T o P:=⟨v,h,hp⟩
theorem T.ok {α:Type} {o:Option α} {v:α} (h:o=some v):T o (fun r=>r=v):=⟨v,h,rfl⟩
theorem T.get {α:Type} {o:Option α} {P:α→Prop} {d:α} (h:T o P):o=some (o.getD d):=by
 obtain ⟨v,rfl,_⟩:=h;rfl
theorem idx {α:Type} (l:List α) (p:α→Bool) (step:Nat→Option (Nat⊕(Unit⊕Int))) (h:∀ (i:Nat) (x:α),l[i]?=some x→step i=if p x then some (.inr (.inr (i:Int))) else some (.inl (i+1))) (he:step l.length=some (.inr (.inl ()))) :
  T (bC step 0) (fun e=>(∃ z:Nat,e=.inr (z:Int)∧l.any p=true)∨(e=.inl ()∧l.any p=false)):=by
 have:∀ n i,l.length-i=n→i≤l.length→T (bC step i) (fun e=>(∃ z:Nat,e=.inr (z:Int)∧(l.drop i).any p=true)∨(e=.inl ()∧(l.drop i).any p=false)):=by
  intro n
  induction n with
  | zero =>
   intro i h1 h2;obtain rfl:i=l.length:=by omega
   rw [dX he,List.drop_length];exact ⟨_,rfl,.inr ⟨rfl,rfl⟩⟩
  | succ n ih =>
   intro i h1 h2;have hi:i<l.length:=by omega
   rw [List.drop_eq_getElem_cons hi];simp only [List.any_cons];have h3:=h i _ (List.getElem?_eq_getElem hi)
   cases hp:p l[i] with
   | true=>rw [hp,if_pos rfl] at h3;rw [dX h3];exact ⟨_,rfl,.inl ⟨i,rfl,rfl⟩⟩
   | false=>rw [hp] at h3;rw [fQ h3];simp only [Bool.false_or];exact ih _ (by omega) (by omega)
 exact this _ 0 rfl (Nat.zero_le _)
theorem pA {α:Type} (l:List α) (f:α→Option Bool) (p:α→Bool) (hf:∀ x∈l,f x=some (p x)) (step:Nat→Option (Nat⊕(Unit⊕Int)))
  (h:∀ i,step i=if (i:Int)<(l.length:Int) then (l[i]?).bind fun x=>(f x).bind fun r=>if r then some (.inr (.inr (i:Int))) else some (.inl (i+1)) else some (.inr (.inl ()))) :
  T (bC step 0) (fun e=>(∃ z:Nat,e=.inr (z:Int)∧l.any p=true)∨(e=.inl ()∧l.any p=false)):=by
 refine idx l p step (fun i x hx=>?_) ?_
 ·have hi:=(List.getElem?_eq_some_iff.1 hx).1;rw [h,if_pos (by omega),hx,Option.bind_some,hf x (List.mem_of_getElem? hx),Option.bind_some]
 rw [h,if_neg (by omega)]
theorem ZS (l:List (List Int)) (f:List Int→Option Bool) (p:List Int→Bool) (hf:∀ x∈l,f x=some (p x)):EU l f=some (l.all p):=by
 obtain ⟨r,h1,h2⟩:=pA l (fun x=>xM x f) (fun x=>!p x) (fun x hx=>by unfold xM;rw [hf x hx];rfl) (ET l (fun x=>xM x f)) (fun i=>rfl);unfold EU RT RS;rw [h1,List.all_eq_not_any_not];rcases h2 with ⟨z,rfl,h2⟩|⟨rfl,h2⟩ <;> simp [h2]
theorem aKb (l:List Int) (f:Int→Option Bool) (p:Int→Bool) (hf:∀ x∈l,f x=some (p x)):KT l f=some (l.all p):=by
 obtain ⟨r,h1,h2⟩:=pA l (fun x=>xL x f) (fun x=>!p x) (fun x hx=>by unfold xL;rw [hf x hx];rfl) (ER l (fun x=>xL x f)) (fun i=>rfl);unfold KT RR RQ;rw [h1,List.all_eq_not_any_not];rcases h2 with ⟨z,rfl,h2⟩|⟨rfl,h2⟩ <;> simp [h2]
theorem aKc (l:List dY) (f:dY→Option Bool) (p:dY→Bool) (hf:∀ x∈l,f x=some (p x)):KW l f=some (l.all p):=by
 obtain ⟨r,h1,h2⟩:=pA l (fun x=>xN x f) (fun x=>!p x) (fun x hx=>by unfold xN;rw [hf x hx];rfl) (EV l (fun x=>xN x f)) (fun i=>rfl);unfold KW RV RU;rw [h1,List.all_eq_not_any_not];rcases h2 with ⟨z,rfl,h2⟩|⟨rfl,h2⟩ <;> simp [h2]
theorem NJ (n a b:Int):xK n a b=some (decide (a≤n∧n≤b)):=by
 unfold xK;by_cases h:a≤n <;> simp [h]
theorem HH (d:aY) (n:Int) (h:1≤d.members∧d.members≤40):rK d n=some (decide (0≤n∧n≤d.members-1)):=by
 unfold rK cA;rw [if_pos (by omega),NJ];rfl
theorem aKd (l:List Int):T (KU l) fun _=>True:=by
 unfold KU;refine T.bd (Q:=fun _=>True) (T.ix l.length id (fun _=>True) (fun i _ hi=>?_) trivial (Nat.zero_le _)) (fun v _=>?_)
 ·unfold ES;refine T.ie (fun h=>T.bd (Q:=fun _=>True) (T.ie (fun h0=>T.bd (T.at (by simpa using h)) fun x _=>T.bd (T.at (by simp only [id] at *;omega)) fun y _=>.mk trivial) fun _=>.mk trivial) fun t _=>T.ie (fun _=>.mk trivial) fun _=>.mk ⟨trivial,rfl,by simpa using h⟩) fun _=>.mk trivial
 cases v <;> exact .mk trivial
def In (d:aY) (a b:Int):Prop:=(0≤a∧a<d.members)∧(0≤b∧b<d.members)
structure Vd (d:aY):Prop where
 m:1≤d.members∧d.members≤40
 pl:d.pairs.length≤10
 xl:d.proxies.length≤10
 p:∀ p∈d.pairs,In d p.a p.b
 x:∀ p∈d.proxies,In d p.holder p.for_
 r:0≤d.rule∧d.rule<3
 n:0≤d.need∧d.need≤40
 q:0≤d.quorum∧d.quorum≤40
theorem tk1 {α:Type} {l:List α} {i:Nat} {x:α} {P:α→Prop} (h:∀ y∈l.take i,P y) (hx:l[i]?=some x) (hp:P x):∀ y∈l.take (i+1),P y:=by
 intro y hy;rw [List.take_add_one,hx] at hy;rcases List.mem_append.1 hy with hy|hy
 ·exact h y hy
 simp at hy;subst hy;exact hp
theorem ZT (d:aY) (h:1≤d.members∧d.members≤40):T (bC (xO d) (0,([]:List (Int×Bool)))) (fun e=>match e with | .inl _=>∀ p∈d.pairs,In d p.a p.b | .inr z=>z=false):=by
 refine T.ix d.pairs.length (·.1) (fun s=>∀ p∈d.pairs.take s.1,In d p.a p.b) (fun s hs hi=>?_) (by simp) (Nat.zero_le _);unfold xO;refine T.ie (fun hl=>T.bd (T.at (by omega)) fun x hx=>T.bd (Q:=fun t=>t=false→In d x.a x.b) ?_ fun t ht=>T.ie (fun h=>.mk rfl) fun h=>.mk ⟨tk1 hs hx (ht (by simpa using h)),rfl,by omega⟩) (fun hl=>.mk fun p hp=>hs p (by rw [List.take_of_length_le (by omega)];exact hp));refine T.bd (.ok (HH d _ h)) fun r hr=>T.ie (fun h1=>T.bd (.ok (HH d _ h)) fun r' hr'=>T.ie (fun h2=>?_) fun _=>.mk (by simp)) fun _=>.mk (by simp);subst hr hr';simp only [decide_eq_true_eq] at h1 h2;have:In d x.a x.b:=⟨⟨by omega,by omega⟩,by omega,by omega⟩;exact T.ie (fun _=>.mk fun _=>this) fun _=>T.ie (fun _=>.mk fun _=>this) fun _=>.mk fun _=>this
theorem ZU (d:aY) (h:1≤d.members∧d.members≤40):T (bC (xP d) (0,([]:List (Int×Bool)))) (fun e=>match e with | .inl _=>∀ p∈d.proxies,In d p.holder p.for_ | .inr z=>z=false):=by
 refine T.ix d.proxies.length (·.1) (fun s=>∀ p∈d.proxies.take s.1,In d p.holder p.for_) (fun s hs hi=>?_) (by simp) (Nat.zero_le _);unfold xP;refine T.ie (fun hl=>T.bd (T.at (by omega)) fun x hx=>T.bd (Q:=fun t=>t=false→In d x.holder x.for_) ?_ fun t ht=>T.ie (fun h=>.mk rfl) fun h=>.mk ⟨tk1 hs hx (ht (by simpa using h)),rfl,by omega⟩) (fun hl=>.mk fun p hp=>hs p (by rw [List.take_of_length_le (by omega)];exact hp));refine T.bd (.ok (HH d _ h)) fun r hr=>T.ie (fun h1=>T.bd (.ok (HH d _ h)) fun r' hr'=>T.ie (fun h2=>?_) fun _=>.mk (by simp)) fun _=>.mk (by simp);subst hr hr';simp only [decide_eq_true_eq] at h1 h2;have:In d x.holder x.for_:=⟨⟨by omega,by omega⟩,by omega,by omega⟩;exact T.ie (fun _=>.mk fun _=>this) fun _=>.mk fun _=>this
theorem aKe (d:aY) (h:1≤d.members∧d.members≤40):T (KX d) (fun r=>r=true→(∀ p∈d.pairs,In d p.a p.b)∧∀ p∈d.proxies,In d p.holder p.for_):=by
 unfold KX;refine T.bd (ZT d h) fun e he=>?_
 cases e with
 | inr z=>exact .mk fun hz=>by simp only at he;simp [he] at hz
 | inl t =>
  refine T.bd (ZU d h) fun e he'=>?_
  cases e with
  | inr z=>exact .mk fun hz=>by simp only at he';simp [he'] at hz
  | inl t=>exact T.bd (.ok (aKc _ _ (fun p=>!((eN t p.holder).getD false)) fun _ _=>rfl)) fun _ _=>.mk fun _=>⟨he,he'⟩
theorem ZV (d:aY) (l:List Int) (h:1≤d.members∧d.members≤40):T (qU d l) fun _=>True:=by
 unfold qU;refine T.bd (Q:=fun _=>True) (T.bd (.ok (aKb _ _ _ fun x _=>HH d x h)) fun r _=>T.ie (fun _=>T.bd (aKd l) fun _ _=>.mk trivial) fun _=>.mk trivial) fun _ _=>.mk trivial
theorem ZW:KY=some ():=rfl
theorem ZX (d:aY) (hr:0≤d.rule∧d.rule≤255):T (EX d) (fun r=>r=true→Vd d):=by
 unfold EX;refine T.bd (Q:=fun r=>r=true→Vd d) (T.bd (.ok (NJ _ _ _)) fun r h1=>T.ie (fun h=>?_) fun _=>.mk (by simp)) fun r hr=>?_
 ·subst h1;simp only [decide_eq_true_eq] at h;refine T.bd (.ok (ZS _ _ (fun l=>(qU d l).getD false) fun x _=>(ZV d x h).get)) fun r _=>T.ie (fun _=>?_) fun _=>.mk (by simp);refine T.bd (.ok (ZS _ _ (fun l=>(qU d l).getD false) fun x _=>(ZV d x h).get)) fun r _=>T.ie (fun _=>?_) fun _=>.mk (by simp);refine T.ie (fun hp=>T.ie (fun hx=>T.bd (aKe d h) fun r ht=>T.ie (fun hb=>T.ck (by omega) (T.bd (.ok ZW) fun _ _=>T.ie (fun h3=>T.bd (.ok (NJ _ _ _)) fun r h4=>T.ie (fun h5=>T.bd (.ok (NJ _ _ _)) fun r h6=>T.ie (fun h7=>?_) fun _=>.mk (by simp)) fun _=>.mk (by simp)) fun _=>.mk (by simp))) fun _=>.mk (by simp)) fun _=>.mk (by simp)) fun _=>.mk (by simp);subst h4 h6;simp only [decide_eq_true_eq] at h5 h7;have:Vd d:=⟨h,by omega,by omega,(ht hb).1,(ht hb).2,⟨hr.1,h3⟩,h5,h7⟩;exact T.ie (fun _=>.mk fun _=>this) fun _=>.mk fun _=>this
 exact .mk hr
theorem NK (l:List Int) (v:Int):rM l v=some (l.any fun x=>decide (v=x)):=by
 obtain ⟨r,h1,h2⟩:=idx l (fun x=>decide (v=x)) (qV l v) (fun i x hx=>by
  have hi:=(List.getElem?_eq_some_iff.1 hx).1
  unfold qV;rw [if_pos (by omega),hx,Option.bind_some];simp) (by unfold qV;rw [if_neg (by omega)])
 unfold rM LF;rw [h1];rcases h2 with ⟨z,rfl,h2⟩|⟨rfl,h2⟩ <;> simp [h2]
theorem aKf (l:List UInt8) (v:Int):LO l v=some (l.any fun x=>decide (v=(x.toNat:Int))):=by
 obtain ⟨r,h1,h2⟩:=idx l (fun x=>decide (v=(x.toNat:Int))) (tF l v) (fun i x hx=>by
  have hi:=(List.getElem?_eq_some_iff.1 hx).1
  unfold tF;rw [if_pos (by omega),hx,Option.bind_some];simp) (by unfold tF;rw [if_neg (by omega)])
 unfold LO SA;rw [h1];rcases h2 with ⟨z,rfl,h2⟩|⟨rfl,h2⟩ <;> simp [h2]
theorem ZY (l:bN) (v:Int):T (EZ l v) fun _=>True:=by
 unfold EZ;refine T.bd (.ok (NK _ _)) fun r _=>T.bd (Q:=fun t=>t≤1) (T.ie (fun _=>.mk (Nat.le_refl _)) fun _=>.mk (by omega)) fun t ht=>T.bd (.ok (NK _ _)) fun r _=>T.bd (Q:=fun _=>True) (T.ie (fun _=>.ck (by omega) (.mk trivial)) fun _=>.mk trivial) fun _ _=>.mk trivial
theorem aKg (d:aY) (v:Int):T (LG d v) fun r=>r.length≤3:=by
 unfold LG;refine T.bd (ZY _ _) fun a _=>T.bd (ZY _ _) fun b _=>T.bd (Q:=fun _=>True) (T.ie (fun _=>.mk trivial) fun _=>.mk trivial) fun _ _=>?_;refine T.bd (Q:=fun l=>l.length≤1) (T.ie (fun _=>.ck (by decide) (.mk (by decide))) fun _=>.mk (by decide)) fun l hl=>T.bd (Q:=fun _=>True) (T.ie (fun _=>.mk trivial) fun _=>.mk trivial) fun _ _=>?_;refine T.bd (Q:=fun l=>l.length≤2) (T.ie (fun _=>.ck (by omega) (.mk (by simp;omega))) fun _=>.mk (by omega)) fun l hl=>T.bd (Q:=fun _=>True) (T.ie (fun _=>.mk trivial) fun _=>.mk trivial) fun _ _=>?_;exact T.bd (Q:=fun l=>l.length≤3) (T.ie (fun _=>.ck (by omega) (.mk (by simp;omega))) fun _=>.mk (by omega)) fun l hl=>.mk hl
structure Lk (x:dG):Prop where
 d:Vd x.division
 l:x.may.length=40
 m:∀ v∈x.may,v.length≤3
theorem yL {α:Type} {l:List α} {i:Nat} {v:α} {P:α→Prop} (h:∀ x∈l,P x) (hv:P v):∀ x∈l.set i v,P x:=fun x hx=>by
 rcases List.mem_or_eq_of_mem_set hx with h1|rfl
 ·exact h _ h1
 exact hv
theorem aKh (d:aY) (h:Vd d):T (LH d) fun x=>Lk x∧x.division=d:=by
 unfold LH;refine T.bd (Q:=fun _=>True) (T.ix d.pairs.length (·.1) (fun _=>True) (fun s hs hi=>?_) trivial (Nat.zero_le _)) fun e he=>?_
 ·unfold FA;refine T.ie (fun hl=>T.bd (T.mem (by omega)) fun x hx=>?_) fun _=>.mk trivial;have:=h.p x hx;unfold In at this;have:=h.m;exact .ck (by omega) (.ck (by omega) (.ck (by omega) (.ck (by omega) (.mk ⟨trivial,rfl,by omega⟩))))
 have hm:=h.m;refine T.bd (Q:=fun l=>l.length=40∧∀ v∈l,v.length≤3) (T.ix d.members.toNat (·.1) (fun s=>s.2.length=40∧∀ v∈s.2,v.length≤3) (fun s hs hi=>?_) ⟨List.length_replicate ..,fun v hv=>by rw [List.eq_of_mem_replicate hv];decide⟩ (Nat.zero_le _)) fun l hl=>.mk ⟨⟨h,hl.1,hl.2⟩,rfl⟩;unfold FB;exact T.ie (fun hl=>T.bd (aKg d _) fun r hr=>T.bd (T.at (by rw [hs.1];omega)) fun _ _=>.ck (by omega) (.mk ⟨⟨by rw [List.length_set];exact hs.1,yL hs.2 hr⟩,rfl,by omega⟩)) fun _=>.mk hs
theorem aKi (x:dG) (h:Lk x):T (LI x) fun _=>True:=by
 have hm:=h.d.m;have hl:=h.l;unfold LI;refine T.bd (Q:=fun _=>True) (T.ix x.division.members.toNat (·.2.1) (fun _=>True) (fun s _ hi=>?_) trivial (Nat.zero_le _)) fun e he=>.mk trivial;unfold FC;exact T.ie (fun hl=>T.bd (T.at (by omega)) fun _ _=>T.ie (fun _=>.mk trivial) fun _=>.ck (by omega) (.mk ⟨trivial,rfl,by omega⟩)) fun _=>.mk trivial
theorem aKj (d:aY) (hr:0≤d.rule∧d.rule≤255):T (LJ d) fun r=>r.2=0→Lk r.1∧r.1.division=d:=by
 unfold LJ;refine T.bd (ZX d hr) fun r h=>T.ie (fun h1=>T.bd (aKh d (h h1)) fun x hx=>T.bd (aKi x hx.1) fun _ _=>T.ie (fun _=>.mk (by simp)) fun _=>.mk fun _=>hx) fun _=>.mk (by simp)
theorem t142 (x:dG) (h:Lk x):T (LK x) fun l=>l.length≤40:=by
 have hm:=h.d.m;have hl:=h.l;unfold LK;refine T.bd (Q:=fun l=>l.length≤40) (T.ix x.division.members.toNat (·.1) (fun s=>s.2.length≤s.1) (fun s hs hi=>?_) (Nat.zero_le _) (Nat.zero_le _)) fun e he=>.mk he;unfold FD;exact T.ie (fun hl=>T.bd (T.at (by omega)) fun _ _=>T.bd (Q:=fun l=>l.length≤s.1+1) (T.ie (fun _=>.ck (by omega) (.mk (by simp;omega))) fun _=>.mk (by omega)) fun l hl=>.ck (by omega) (.mk ⟨hl,rfl,by omega⟩)) fun _=>.mk (by omega)
theorem t99 (d:aY) (hr:0≤d.rule∧d.rule≤255):T (LL d) fun r=>r.2=0→Lk r.1∧r.1.division=d:=by
 unfold LL;exact T.bd (aKj d hr) fun r h=>T.bd (Q:=fun _=>True) (T.ie (fun h0=>T.bd (t142 _ (h h0).1) fun _ _=>.mk trivial) fun _=>.mk trivial) fun t _=>T.ie (fun _=>.mk (by simp)) fun _=>.mk h
def Nb (n:fL):Prop:=(0≤n.ayes∧n.ayes≤60)∧0≤n.noes∧n.noes≤60
theorem t102 (x:dG) (t:bA) (h:Lk x):T (LM x t) Nb:=by
 have hm:=h.d.m;have hx:=h.d.xl;unfold LM;refine T.bd (Q:=fun e=>e.1≤40∧e.2≤40) (T.ix x.division.members.toNat (·.1) (fun s=>s.2.1≤s.1∧s.2.2≤s.1) (fun s hs hi=>?_) ⟨Nat.zero_le _,Nat.zero_le _⟩ (Nat.zero_le _)) fun e he=>?_
 ·unfold FF;refine T.ie (fun hl=>.ck (by omega) (T.bd (Q:=fun r=>r.1≤s.1+1∧r.2≤s.1+1) (T.ie (fun _=>.mk ⟨by omega,by omega⟩) fun _=>?_) fun r hr=>.ck (by omega) (.mk ⟨hr,rfl,by omega⟩))) fun _=>.mk ⟨by omega,by omega⟩;exact T.bd (Q:=fun r=>r.1≤s.1+1∧r.2≤s.1+1) (T.bd (Q:=fun r=>r.1≤s.1+1∧r.2≤s.1+1) (T.ie (fun _=>.ck (by omega) (.mk ⟨by dsimp only;omega,by dsimp only;omega⟩)) fun _=>T.bd (Q:=fun r=>r≤s.1+1) (T.ie (fun _=>.ck (by omega) (.mk (by omega))) fun _=>.mk (by omega)) fun r hr=>.mk ⟨by dsimp only;omega,hr⟩) fun r hr=>.mk hr) fun r hr=>.mk hr
 refine T.bd (Q:=fun e=>e.1≤60∧e.2≤60) (T.ix x.division.proxies.length (·.1) (fun s=>s.2.1≤40+s.1∧s.2.2≤40+s.1) (fun s hs hi=>?_) ⟨by dsimp only;omega,by dsimp only;omega⟩ (Nat.zero_le _)) fun e he=>.mk ⟨⟨by dsimp only;omega,by dsimp only;omega⟩,by dsimp only;omega,by dsimp only;omega⟩;unfold FG;refine T.ie (fun hl=>T.bd (T.mem (by omega)) fun y hy=>?_) fun _=>.mk ⟨by dsimp only;omega,by dsimp only;omega⟩;have hI:=h.d.x y hy;unfold In at hI;refine T.bd (Q:=fun _=>True) (.ck (by omega) (.ck (by omega) (T.ie (fun _=>T.ie (fun _=>.mk trivial) fun _=>.ck (by omega) (.ck (by omega) (.mk trivial))) fun _=>.mk trivial))) fun _ _=>?_;refine T.bd (Q:=fun r=>r.1≤40+(s.1+1)∧r.2≤40+(s.1+1)) (T.ie (fun _=>.ck (by omega) (.ck (by omega) ?_)) fun _=>.mk ⟨by dsimp only;omega,by dsimp only;omega⟩) fun r hr=>.mk ⟨hr,rfl,by omega⟩;exact T.bd (Q:=fun r=>r.1≤40+(s.1+1)∧r.2≤40+(s.1+1)) (T.bd (Q:=fun r=>r.1≤40+(s.1+1)∧r.2≤40+(s.1+1)) (T.ie (fun _=>.ck (by omega) (.mk ⟨by dsimp only;omega,by dsimp only;omega⟩)) fun _=>T.bd (Q:=fun r=>r≤40+(s.1+1)) (T.ie (fun _=>.ck (by omega) (.mk (by omega))) fun _=>.mk (by omega)) fun r hr=>.mk ⟨by dsimp only;omega,hr⟩) fun r hr=>.mk hr) fun r hr=>.mk hr
theorem aKk (x:dG) (n:fL) (h:Lk x) (hn:Nb n):T (LN x n) fun r=>0≤r∧r≤2:=by
 have h1:=h.d.r;have h2:=h.d.n;unfold Nb at hn;unfold LN;refine .ck (by omega) (T.ie (fun _=>.mk (by decide)) fun _=>T.bd (.ok ZW) fun _ _=>.ck (by omega) (T.ie (fun _=>T.bd (Q:=fun _=>True) ?_ fun _ _=>T.ie (fun _=>.mk (by decide)) fun _=>.mk (by decide)) fun _=>T.ie (fun _=>T.bd (Q:=fun _=>True) ?_ fun _ _=>T.ie (fun _=>.mk (by decide)) fun _=>.mk (by decide)) fun _=>T.ie (fun _=>T.bd (Q:=fun _=>True) ?_ fun _ _=>T.ie (fun _=>.mk (by decide)) fun _=>.mk (by decide)) fun _=>by omega))
 ·exact T.bd (Q:=fun _=>True) (T.ie (fun _=>.mk trivial) fun _=>T.ie (fun _=>T.bd (Q:=fun _=>True) (.mk trivial) fun _ _=>.mk trivial) fun _=>.mk trivial) fun _ _=>.mk trivial
 ·exact T.bd (Q:=fun _=>True) (T.ie (fun _=>.mk trivial) fun _=>.ck (by omega) (T.ie (fun _=>T.bd (Q:=fun _=>True) (.mk trivial) fun _ _=>.mk trivial) fun _=>.mk trivial)) fun _ _=>.mk trivial
 exact T.bd (Q:=fun _=>True) (.ck (by omega) (.ck (by omega) (.ck (by omega) (T.ie (fun _=>.mk trivial) fun _=>.mk trivial)))) fun _ _=>.mk trivial
def Oc (l:List UInt8):Prop:=l.Nodup∧∀ x∈l,x.toNat≤2
theorem oc3 {l:List UInt8} (h:Oc l):l.length≤3:=by
 have:l ⊆ [0,1,2]:=fun x hx=>by
  have h2:=h.2 x hx;have:∀ n,n≤2→UInt8.ofNat n∈([0,1,2]:List UInt8):=by decide
  have:=this _ h2
  rwa [UInt8.ofNat_toNat] at this
 exact h.1.length_le_of_subset this
theorem aKl (r:dG×Int) (h:Lk r.1):∀ (k:Nat) (s:Nat×bA×List UInt8),r.1.division.members.toNat-s.1<k→(s.1:Int)≤r.1.division.members→Oc s.2.2→T (lZ r k s) Oc:=by
 have hm:=h.d.m;have hl:=h.l;intro k
 induction k with
 | zero=>intro s h1;omega
 | succ k ih =>
  intro s h1 h2 h3;show T (tG r (lZ r k) s) Oc;unfold tG;refine T.ie (fun he=>T.bd (Q:=Oc) (T.bd (t102 _ _ h) fun n hn=>T.bd (aKk _ _ h hn) fun o ho=>T.bd (.ok (aKf _ _)) fun c hc=>T.bd (Q:=Oc) (T.ie (fun _=>.mk h3) fun hf=>.ck (by have:=oc3 h3;omega) (.ck (by omega) (.mk ?_))) fun _ h=>.mk h) fun _ h=>.mk h) fun he=>T.bd (T.at (by omega)) fun vs _=>T.bd (Q:=fun e=>Oc e.2) (T.ix vs.length (·.1) (fun q=>Oc q.2.2) (fun q hq hi=>?_) h3 (Nat.zero_le _)) fun e he=>.mk he
  ·rw [hc] at hf;have hx:(UInt8.ofNat o.toNat).toNat=o.toNat:=by simp;omega
   refine ⟨List.nodup_append.2 ⟨h3.1,List.nodup_cons.2 ⟨by simp,List.nodup_nil⟩,fun a ha b hb hab=>?_⟩,fun x hx'=>?_⟩
   ·simp at hb;subst hb hab;exact hf (List.any_eq_true.2 ⟨_,ha,by rw [hx];simp;omega⟩)
   rcases List.mem_append.1 hx' with h|h
   ·exact h3.2 _ h
   simp at h;subst h;rw [hx];omega
  unfold FH;exact T.ie (fun hl=>T.bd (T.at (by omega)) fun v _=>.ck (by omega) (.ck (by omega) (T.bd (ih _ (by dsimp only;omega) (by dsimp only;omega) hq) fun o ho=>.mk ⟨ho,rfl,by omega⟩))) fun _=>.mk hq
theorem t212 (a b:Int):T (LQ a b) fun _=>True:=by
 unfold LQ LP;exact T.bd (Q:=fun _=>True) (T.bd (.mk trivial) fun _ (_:True)=>T.ie (fun _=>T.bd (.mk trivial) fun _ (_:True)=>T.ie (fun _=>.mk trivial) fun _=>.mk trivial) fun _=>.mk trivial) fun _ _=>.mk trivial
theorem aKm (l:List UInt8) (r:Int) (b c:Bool) (h:l.length≤3) (h2:∀ x∈l,x.toNat≤2):T (bC (tH l) (0,l.length,r,b,c)) fun o=>o.length=l.length∧(l.length≤1→o=l)∧∀ x∈o,x.toNat≤2:=by
 suffices hs:T (tH l (0,l.length,r,b,c)) fun e=>∃ o,e=.inr o∧o.length=l.length∧(l.length≤1→o=l)∧∀ x∈o,x.toNat≤2 by
  obtain ⟨_,h1,o,rfl,h2⟩:=hs
  rename_i h3;rw [dX h1];exact ⟨o,rfl,by assumption⟩
 unfold tH;dsimp only;refine .ck (by omega) (T.ie (fun _=>T.bd (Q:=fun (o:List UInt8)=>o.length=l.length∧(l.length≤1→o=l)∧∀ x∈o,x.toNat≤2) (.ck (by omega) (T.bd (Q:=fun (o:List UInt8)=>o.length=l.length∧(l.length≤1→o=l)∧∀ x∈o,x.toNat≤2) ?_ fun _ h=>.mk h)) fun o ho=>.mk ⟨o,rfl,ho⟩) fun hf=>by omega);by_cases h1:l.length≤1
 ·rw [dX (e:=l) (by unfold xQ;dsimp only;rw [if_neg (by omega)])];exact .mk ⟨rfl,fun _=>rfl,h2⟩
 refine T.ix l.length (·.1) (fun s=>s.2.length=l.length∧∀ x∈s.2,x.toNat≤2) (fun s hs hi=>?_) ⟨rfl,h2⟩ (by dsimp only;omega);unfold xQ;dsimp only;refine T.ie (fun hl=>T.bd (Q:=fun (o:List UInt8)=>o.length=l.length∧∀ x∈o,x.toNat≤2) (T.lp (fun q=>(q.2.length=l.length∧∀ x∈q.2,x.toNat≤2)∧0≤q.1∧q.1<(l.length:Int)) (fun q=>q.1.toNat) (fun q hq=>?_) ⟨hs,by dsimp only;omega,by dsimp only;omega⟩) fun o ho=>.ck (by omega) (.mk ⟨ho,rfl,by omega⟩)) fun _=>.mk ⟨hs.1,fun h=>absurd h h1,hs.2⟩;unfold FI;dsimp only;refine T.bd (Q:=fun t=>t=true→0<q.1) (T.ie (fun h0=>.ck (by omega) (T.bd (T.at (by omega)) fun _ _=>.ck (by omega) (.ck (by omega) (T.bd (T.at (by omega)) fun _ _=>T.bd (t212 _ _) fun _ _=>.mk fun _=>by omega)))) fun _=>.mk (by simp)) fun t ht=>T.ie (fun h=>?_) fun _=>.mk hq.1;have:=ht h;exact .ck (by omega) (.ck (by omega) (T.bd (T.mem (by omega)) fun u hu=>.ck (by omega) (T.bd (T.mem (by omega)) fun w hw=>T.bd (T.at (by rw [List.length_set];omega)) fun _ _=>.mk ⟨⟨⟨by simp [hq.1.1],yL (yL hq.1.2 (hq.1.2 u hu)) (hq.1.2 w hw)⟩,by dsimp only;omega,by dsimp only;omega⟩,by dsimp only;omega⟩)))
theorem aKn (n:Nat) (h:n≤3):T (SB n) fun _=>True:=by
 rcases (by omega:n=0∨n=1∨n=2∨n=3) with rfl|rfl|rfl|rfl <;> exact ⟨_,rfl,trivial⟩
theorem t66 (d:aY) (hr:0≤d.rule∧d.rule≤255):T (LS d) fun r=>r.1.length≤3∧∀ x∈r.1,x.toNat≤2:=by
 unfold LS;refine T.bd (t99 d hr) fun r h=>T.ie (fun _=>.mk (by simp)) fun h0=>?_;have hL:=(h (by omega)).1;have:=hL.d.m;refine T.bd (Q:=Oc) (T.bd (Q:=Oc) (T.rc (aKl r hL _ _ (by dsimp only;omega) (by dsimp only;omega) ⟨List.nodup_nil,by simp⟩)) fun _ h=>.mk h) fun l hl=>?_;have h3:=oc3 hl;exact T.bd (Q:=fun (o:List UInt8)=>o.length≤3∧∀ x∈o,x.toNat≤2) (T.bd (aKn _ h3) fun b _=>T.bd (Q:=fun (o:List UInt8)=>o.length≤3∧∀ x∈o,x.toNat≤2) (T.bd (aKm l b true true h3 hl.2) fun o ho=>.mk ⟨by omega,ho.2.2⟩) fun _ h=>.mk h) fun _ h=>.mk h
theorem iO {κ α:Type} [DecidableEq κ] (k k':κ) (y:α):∀ t:List (κ×α),eN (put t k y) k'=if k'=k then some y else eN t k'
 | []=>by simp [put,eN]
 | (a,x)::t=>by
  unfold put
  split
  ·rename_i h;subst h;simp only [eN];split <;> rfl
  rename_i h
  simp only [eN,iO k k' y t];by_cases h1:k'=a
  ·subst h1;rw [if_pos rfl,if_neg (Ne.symm h),if_pos rfl]
  rw [if_neg h1,if_neg h1]
theorem tU {κ α:Type} [DecidableEq κ] (k:κ) (y:α):∀ t:List (κ×α),(put t k y).length=t.length+if (eN t k).isNone then 1 else 0
 | []=>rfl
 | (a,x)::t=>by
  unfold put
  split
  ·rename_i h;subst h;simp [eN]
  rename_i h;simp only [eN,if_neg h,List.length_cons,tU k y t];omega
def yM (t:List (Int×aW)):List aW→List (Int×aW)
 | []=>t
 | p::l=>yM (put t p.number p) l
theorem vY (x:aW):∀ (l:List aW) (t:List (Int×aW)),yM t (l++[x])=put (yM t l) x.number x
 | [],_=>rfl
 | p::l,t=>vY x l _
theorem HI:∀ (l:List aW) (t:List (Int×aW)),(yM t l).length≤t.length+l.length
 | [],_=>Nat.le_refl _
 | p::l,t=>by
  have h1:=HI l (put t p.number p);have h2:=tU p.number p t;simp only [yM,List.length_cons];split at h2 <;> omega
theorem HJ:∀ (l:List aW) (t:List (Int×aW)),(yM t l).length=t.length+l.length→(∀ p∈l,eN t p.number=none)∧(l.map (·.number)).Nodup
 | [],_,_=>⟨by simp,List.nodup_nil⟩
 | p::l,t,h=>by
  have h1:=HI l (put t p.number p);have h2:=tU p.number p t;simp only [yM,List.length_cons] at h
  cases hk:eN t p.number with
  | some y=>rw [hk] at h2;simp at h2;omega
  | none =>
   rw [hk] at h2;simp at h2;obtain ⟨h3,h4⟩:=HJ l _ (by omega:(yM (put t p.number p) l).length=(put t p.number p).length+l.length);have h5:∀ q∈l,q.number≠p.number∧eN t q.number=none:=fun q hq=>by
    have:=h3 q hq;rw [iO] at this
    split at this
    ·cases this
    exact ⟨by assumption,this⟩
   refine ⟨fun q hq=>?_,List.nodup_cons.2 ⟨fun hm=>?_,h4⟩⟩
   ·rcases List.mem_cons.1 hq with rfl|hq
    ·exact hk
    exact (h5 q hq).2
   obtain ⟨q,hq,he⟩:=List.mem_map.1 hm;exact (h5 q hq).1 he
theorem yN:∀ (l:List aW) (t:List (Int×aW)) (k:Int) (p:aW),eN (yM t l) k=some p→(p∈l∧p.number=k)∨eN t k=some p
 | [],_,_,_,h=>.inr h
 | q::l,t,k,p,h=>by
  rcases yN l _ k p h with h1|h1
  ·exact .inl ⟨List.mem_cons_of_mem _ h1.1,h1.2⟩
  rw [iO] at h1
  split at h1
  ·cases h1;exact .inl ⟨List.mem_cons_self ..,by symm;assumption⟩
  exact .inr h1
theorem AC:∀ (l:List aW) (t:List (Int×aW)) (k:Int),k∉l.map (·.number)→eN (yM t l) k=eN t k
 | [],_,_,_=>rfl
 | q::l,t,k,h=>by
  simp only [List.map_cons,List.mem_cons,not_or] at h;rw [yM,AC l _ k h.2,iO,if_neg h.1]
theorem HK:∀ (l:List aW) (t:List (Int×aW)),(l.map (·.number)).Nodup→∀ p∈l,eN (yM t l) p.number=some p
 | [],_,_,p,h=>absurd h (List.not_mem_nil)
 | q::l,t,hn,p,h=>by
  rw [List.map_cons,List.nodup_cons] at hn;rcases List.mem_cons.1 h with rfl|h
  ·rw [yM,AC l _ _ hn.1,iO,if_pos rfl]
  exact HK l _ hn.2 p h
def NL (m:bT):List (Int×aW):=yM [] m.papers
def HL (m:bT) (n:Int):aW:=(eN (NL m) n).getD ⟨0,0,0,0,[]⟩
theorem BT (m:bT):tI m=some (NL m):=by
 obtain ⟨v,h1,h2⟩:T (bC (xV m) (0,([]:List (Int×aW)))) fun e=>e=NL m:=by
  refine T.ix m.papers.length (·.1) (fun s=>s.2=yM [] (m.papers.take s.1)) (fun s hs hi=>?_) rfl (Nat.zero_le _);unfold xV;refine T.ie (fun hl=>T.bd (T.at (by omega)) fun x hx=>.mk ⟨?_,rfl,by omega⟩) fun hl=>.mk ?_
  ·dsimp only;rw [List.take_add_one,hx,Option.toList_some,vY,hs]
  dsimp only;rw [hs,List.take_of_length_le (by omega)];rfl
 unfold tI;rw [h1,h2];rfl
theorem HM (l:List aW) (f:aW→Option Bool) (p:aW→Bool) (hf:∀ x∈l,f x=some (p x)):vM l f=some (l.all p):=by
 obtain ⟨r,h1,h2⟩:=pA l (fun x=>xR x f) (fun x=>!p x) (fun x hx=>by unfold xR;rw [hf x hx];rfl) (FK l (fun x=>xR x f)) (fun i=>rfl);unfold vM SE SD;rw [h1,List.all_eq_not_any_not];rcases h2 with ⟨z,rfl,h2⟩|⟨rfl,h2⟩ <;> simp [h2]
theorem ZZ (l:List aE) (f:aE→Option Bool) (p:aE→Bool) (hf:∀ x∈l,f x=some (p x)):FL l f=some (l.all p):=by
 obtain ⟨r,h1,h2⟩:=pA l (fun x=>xS x f) (fun x=>!p x) (fun x hx=>by unfold xS;rw [hf x hx];rfl) (EB l (fun x=>xS x f)) (fun i=>rfl);unfold FL UU m55;rw [h1,List.all_eq_not_any_not];rcases h2 with ⟨z,rfl,h2⟩|⟨rfl,h2⟩ <;> simp [h2]
theorem aKo (l:List UInt8) (f:Int→Option Bool) (p:Int→Bool) (hf:∀ x∈l,f (x.toNat:Int)=some (p (x.toNat:Int))):LY l f=some (l.all fun x=>p (x.toNat:Int)):=by
 obtain ⟨r,h1,h2⟩:=pA l (fun x=>xU (x.toNat:Int) f) (fun x=>!p (x.toNat:Int)) (fun x hx=>by unfold xU;rw [hf x hx];rfl) (tA l (fun x=>xU x f)) (fun i=>rfl);unfold LY xF EE;rw [h1,List.all_eq_not_any_not];rcases h2 with ⟨z,rfl,h2⟩|⟨rfl,h2⟩ <;> simp [h2]
theorem aAa (n a b:Int):FM n a b=some (decide (a≤n∧n≤b)):=by
 unfold FM;by_cases h:a≤n <;> simp [h]
theorem t155 (s:aE):T (oW s) fun r=>r=true→s.length≤20:=by
 unfold oW;refine T.bd (Q:=fun r=>r=true→s.length≤20) (T.bd (.ok (aAa _ _ _)) fun r h=>T.ie (fun h1=>?_) fun _=>.mk (by simp)) fun _ h=>.mk h;subst h;simp only [decide_eq_true_eq] at h1;refine .ck (by omega) (T.bd (.ok (aKo _ _ (fun c=>(AX c).getD false) fun x _=>?_)) fun _ _=>.mk fun _=>by omega);unfold AX;by_cases h:(33:Int)≤x.toNat <;> simp [h]
def AD (l:List aE):Prop:=∀ s∈l,s.length≤20
theorem PF {l:List aE} (h:(l.all fun s=>(oW s).getD false)=true):AD l:=fun s hs=>by
 obtain ⟨r,h1,h2⟩:=t155 s;have:=List.all_eq_true.1 h s hs;rw [h1] at this;exact h2 this
theorem aKp {α:Type} {l:List α} {i:Nat} {x:α} {P:α→Prop} (h:∀ y∈l.take i,P y) (hx:l[i]?=some x) (hp:P x):∀ y∈l.take (i+1),P y:=by
 intro y hy;rw [List.take_add_one,hx] at hy;rcases List.mem_append.1 hy with hy|hy
 ·exact h y hy
 simp at hy;subst hy;exact hp
def up (m:bT):Nat→Int→Int
 | 0,n=>n
 | k+1,n=>(HL m (up m k n)).of
def wd (m:bT) (n:Int):List aE:=if n=0 then m.words else (HL m n).words
structure Vm (m:bT):Prop where
 pl:m.papers.length≤10
 wl:m.words.length≤60
 w:∀ p∈m.papers,p.words.length≤60
 wt:AD m.words
 pt:∀ p∈m.papers,AD p.words
 n:∀ p∈m.papers,1≤p.number∧p.number≤999
 nd:(m.papers.map (·.number)).Nodup
 of:∀ p∈m.papers,p.of=0∨(HL m p.of).number=p.of
 en:∀ p∈m.papers,∃ j,j≤10∧up m j p.of=0
 ft:∀ p∈m.papers,0≤p.from_∧p.from_≤p.to_∧p.to_≤(wd m p.of).length
theorem aAb (m:bT) (n:Int):FS m n=some (wd m n):=by
 unfold FS wd
 split
 ·rfl
 rw [BT];rfl
theorem t164 (m:bT) (h2:m.papers.length≤10):T (MA m) fun r=>r=true→∀ p∈m.papers,∃ j,j≤10∧up m j p.of=0:=by
 unfold MA;refine T.bd (.ok (BT m)) fun t ht=>T.bd (Q:=fun r=>r=true→∀ p∈m.papers,∃ j,j≤10∧up m j p.of=0) ?_ fun _ h=>.mk h;subst ht;refine T.ix m.papers.length (·.1) (fun s=>s.2=true∧∀ p∈m.papers.take s.1,∃ j,j≤10∧up m j p.of=0) (fun s hs hi=>?_) ⟨rfl,by simp⟩ (Nat.zero_le _);unfold FR;refine T.ie (fun hl=>T.bd (T.at (by omega)) fun x hx=>T.bd (Q:=fun e=>match e with | .inl r=>r.1=true∧∃ j,j≤10∧up m j x.of=0 | .inr z=>z=.inr false) ?_ fun e he=>?_) fun hl=>.mk fun _ p hp=>hs.2 p (by rw [List.take_of_length_le (by omega)];exact hp)
 ·refine T.ix m.papers.length (·.1) (fun q=>q.2.1=true∧q.2.2.2.1=up m q.1 x.of) (fun q hq hi=>?_) ⟨hs.1,rfl⟩ (Nat.zero_le _);unfold FQ;refine T.ie (fun h0=>.ck (by omega) (T.ie (fun _=>⟨_,rfl,rfl⟩) fun h1=>.mk ⟨⟨hq.1,?_⟩,rfl,by omega⟩)) fun h0=>.mk ⟨hq.1,q.1,by omega,by rw [← hq.2];omega⟩;show ((eN (NL m) q.2.2.2.1).getD _).of=_;rw [hq.2];rfl
 cases e with
 | inr z=>simp only at he;subst he;exact .mk (by simp)
 | inl r=>exact .mk ⟨⟨he.1,aKp hs.2 hx he.2⟩,rfl,by omega⟩
theorem t69 (m:bT):T (AY m) fun r=>r=0→Vm m:=by
 unfold AY;refine T.bd (.ok (rfl:SK=some ())) fun _ _=>?_;have h1:T (LX m) fun r=>r=true→m.papers.length≤10∧m.words.length≤60∧∀ p∈m.papers,p.words.length≤60:=by
  unfold LX;refine T.bd (Q:=fun r=>r=true→m.papers.length≤10∧m.words.length≤60∧∀ p∈m.papers,p.words.length≤60) (T.ie (fun ha=>T.ie (fun hb=>T.bd (.ok (HM _ _ (fun p=>decide ((p.words.length:Int)≤60)) fun _ _=>rfl)) fun r hr=>.mk fun h=>⟨by omega,by omega,fun p hp=>?_⟩) fun _=>.mk (by simp)) fun _=>.mk (by simp)) fun _ h=>.mk h;rw [hr,List.all_eq_true] at h;have:=h p hp;simp only [decide_eq_true_eq] at this;omega
 refine T.bd h1 fun r h1=>T.ie (fun hr=>?_) fun _=>.mk (by simp);obtain ⟨hp,hw,hpw⟩:=h1 hr;have h2:T (LZ m) fun r=>r=true→AD m.words∧∀ p∈m.papers,AD p.words:=by
  unfold LZ
  exact T.bd (Q:=fun r=>r=true→AD m.words∧∀ p∈m.papers,AD p.words) (T.bd (.ok (ZZ _ _ (fun s=>(oW s).getD false) fun s _=>(t155 s).get)) fun r hr=>T.ie (fun h1=>T.bd (.ok (HM _ _ (fun p=>p.words.all fun s=>(oW s).getD false) fun p _=>by
   unfold FN;rw [ZZ _ _ (fun s=>(oW s).getD false) fun s _=>(t155 s).get];rfl)) fun r2 hr2=>.mk fun h3=>⟨PF (hr.symm.trans h1),fun p hp=>PF (List.all_eq_true.1 (hr2.symm.trans h3) p hp)⟩) fun _=>.mk (by simp)) fun _ h=>.mk h
 refine T.bd h2 fun r h2=>T.ie (fun hr2=>?_) fun _=>.mk (by simp);refine T.bd (T.bd (.ok (HM _ _ (fun p=>decide (1≤p.number∧p.number≤999)) fun p _=>by unfold FO;rw [aAa];rfl)) fun r h=>.mk h:T (SF m) _) fun r h3=>T.ie (fun hr3=>?_) fun _=>.mk (by simp);have h3':∀ p∈m.papers,1≤p.number∧p.number≤999:=fun p hp=>by
  have:=List.all_eq_true.1 (h3.symm.trans hr3) p hp;simpa using this
 refine T.bd (T.bd (.ok (BT m)) fun r h=>.mk (P:=fun r=>r=true→(NL m).length=m.papers.length) fun hd=>by subst h;simp at hd;omega:T (SG m) _) fun r h4=>T.ie (fun hr4=>?_) fun _=>.mk (by simp);have h4':=(HJ m.papers [] (by have:=h4 hr4;unfold NL at this;simp;omega)).2
 refine T.bd (T.bd (.ok (BT m)) fun r h=>T.bd (.ok (HM _ _ (fun p=>decide (p.of=0∨(HL m p.of).number=p.of)) fun p _=>by
  subst h;unfold FP;by_cases hz:p.of=0 <;> simp [hz,HL])) fun r h=>.mk h:T (SH m) _) fun r h5=>T.ie (fun hr5=>?_) fun _=>.mk (by simp)
 have h5':∀ p∈m.papers,p.of=0∨(HL m p.of).number=p.of:=fun p hp=>by
  have:=List.all_eq_true.1 (h5.symm.trans hr5) p hp;simpa using this
 refine T.bd (t164 m hp) fun r h6=>T.ie (fun hr6=>?_) fun _=>.mk (by simp)
 refine T.bd (T.bd (.ok (HM _ _ (fun p=>decide (0≤p.from_∧p.from_≤p.to_∧p.to_≤(wd m p.of).length)) fun p _=>by
  unfold FT;rw [aAb];by_cases ha:0≤p.from_ <;> by_cases hb:p.from_≤p.to_ <;> simp [ha,hb])) fun r h=>.mk h:T (SI m) _) fun r h7=>T.ie (fun hr7=>.mk fun _=>⟨hp,hw,hpw,(h2 hr2).1,(h2 hr2).2,h3',h4',h5',h6 hr6,fun p hp=>?_⟩) fun _=>.mk (by simp)
 have:=List.all_eq_true.1 (h7.symm.trans hr7) p hp;simpa using this
theorem t222 (a b:aW):T (ME a b) fun _=>True:=by
 unfold ME;exact T.bd (Q:=fun _=>True) (T.ie (fun _=>T.ie (fun _=>T.ie (fun _=>.mk trivial) fun _=>.mk trivial) fun _=>.mk trivial) fun _=>.mk trivial) fun _ _=>.mk trivial
theorem aAc (choice:List Int) (r:List (Int×aW)):T (bC (xW choice r) 0) fun e=>match e with | .inl _=>True | .inr z=>z=2:=by
 refine T.ix choice.length id (fun _=>True) (fun i _ hi=>?_) trivial (Nat.zero_le _);unfold xW;exact T.ie (fun hl=>T.bd (T.at (by simp only [id] at *;omega)) fun x hx=>T.bd (Q:=fun _=>True) (T.ie (fun _=>.mk trivial) fun _=>T.ie (fun _=>.mk trivial) fun _=>T.ie (fun h0=>T.bd (T.at (by simp only [id] at *;omega)) fun _ _=>.mk trivial) fun _=>.mk trivial) fun _ _=>T.ie (fun _=>.mk rfl) fun _=>.mk ⟨trivial,rfl,by simp only [id] at *;omega⟩) fun _=>.mk trivial
theorem t167 (m:bT) (choice:List Int):T (MF m choice) fun _=>True:=by
 unfold MF;refine T.bd (.ok (BT m)) fun r _=>T.bd (Q:=fun _=>True) (T.ix choice.length id (fun _=>True) (fun i _ hi=>?_) trivial (Nat.zero_le _)) fun e _=>?_
 ·unfold FU;exact T.ie (fun hl=>T.bd (T.at (by simp only [id] at *;omega)) fun x hx=>T.bd (Q:=fun _=>True) (T.ie (fun _=>T.bd (.ok (NK _ _)) fun _ _=>.mk trivial) fun _=>.mk trivial) fun _ _=>T.ie (fun _=>.mk trivial) fun _=>.mk ⟨trivial,rfl,by simp only [id] at *;omega⟩) fun _=>.mk trivial
 cases e with
 | inr z=>exact .mk trivial
 | inl _ =>
  refine T.bd (Q:=fun _=>True) (T.ix choice.length id (fun _=>True) (fun i _ hi=>?_) trivial (Nat.zero_le _)) fun e _=>by cases e <;> exact .mk trivial
  unfold FX;refine T.ie (fun hl=>T.bd (T.at (by simp only [id] at *;omega)) fun x hx=>T.bd (Q:=fun e=>match e with | .inl _=>True | .inr z=>∃ q,z=.inr q) (T.ix choice.length id (fun _=>True) (fun i _ hi=>?_) trivial (Nat.zero_le _)) fun e he=>?_) fun _=>.mk trivial
  ·unfold FV;exact T.ie (fun hl=>T.bd (T.at (by simp only [id] at *;omega)) fun x hx=>T.bd (t222 _ _) fun _ _=>T.ie (fun _=>.mk ⟨_,rfl⟩) fun _=>.mk ⟨trivial,rfl,by simp only [id] at *;omega⟩) fun _=>.mk trivial
  cases e with
  | inl _=>exact .mk ⟨trivial,rfl,by simp only [id] at *;omega⟩
  | inr z=>obtain ⟨q,rfl⟩:=he;exact .mk trivial
theorem aKr (m:bT) (choice:List Int):T (MG m choice) fun r=>r=0→Vm m:=by
 unfold MG;refine T.bd (t69 m) fun r h=>T.ie (fun hr=>.mk fun h0=>absurd h0 hr) fun h0=>T.bd (.ok (BT m)) fun t _=>T.bd (aAc choice t) fun e _=>?_;have hV:=h (by omega)
 cases e with
 | inr z=>exact .mk fun _=>hV
 | inl _=>exact T.bd (t167 m choice) fun _ _=>.mk fun _=>hV
def yO (a b:aW):Int:=if a.from_-b.from_≠0 then a.from_-b.from_ else if a.to_-b.to_≠0 then a.to_-b.to_ else a.number-b.number
theorem aKs (x y z:Int):MH [x,y,z]=some (if x≠0 then x else if y≠0 then y else z):=by
 have h:∀ (i:Nat) (v:Int),[x,y,z][i]?=some v→tJ [x,y,z] i=if v≠0 then some (.inr (.inr v)) else some (.inl (i+1)):=fun i v hv=>by
  have:=(List.getElem?_eq_some_iff.1 hv).1;unfold tJ;rw [if_pos (by omega),hv];rfl
 have h0:=h 0 x rfl;have h1:=h 1 y rfl;have h2:=h 2 z rfl;unfold MH;by_cases a:x=0
 ·rw [if_neg (by omega)] at h0;rw [fQ h0];by_cases b:y=0
  ·rw [if_neg (by omega)] at h1;rw [fQ h1];by_cases c:z=0
   ·rw [if_neg (by omega)] at h2;rw [fQ h2,dX (by unfold tJ;rfl)];simp [a,b,c]
   rw [if_pos c] at h2;rw [dX h2];simp [a,b]
  rw [if_pos b] at h1;rw [dX h1];simp [a,b]
 rw [if_pos a] at h0;rw [dX h0];simp [a]
def Pb (p:aW):Prop:=(0≤p.from_∧p.from_≤60)∧(0≤p.to_∧p.to_≤60)∧1≤p.number∧p.number≤999
theorem aAd {a b:aW} (ha:Pb a) (hb:Pb b):xX a b=some (yO a b):=by
 unfold Pb at ha hb;unfold xX cA;rw [if_pos (by omega),if_pos (by omega),if_pos (by omega),aKs];rfl
theorem sH {a b:aW} (ha:Pb a) (hb:Pb b):iW xX a b=true↔yO a b<0:=by
 unfold iW;rw [aAd ha hb];simp
theorem NM {l:List aW} (hl:l.length≤10) (h:∀ p∈l,Pb p) (hn:(l.map (·.number)).Nodup):T (iT xX l) fun r=>r.Perm l:=by
 refine ⟨_,qL ⟨by omega,fun x hx y hy=>⟨_,aAd (h x hx) (h y hy)⟩,fun x hx=>?_,fun x hx y hy z hz h1 h2=>?_,fun x hx y hy h1 h2=>?_⟩,List.mergeSort_perm ..⟩
 ·rw [Bool.eq_false_iff,Ne,sH (h x hx) (h x hx)];unfold yO;simp
 ·rw [sH (h _ hx) (h _ hy)] at h1;rw [sH (h _ hy) (h _ hz)] at h2;rw [sH (h _ hx) (h _ hz)];unfold yO at *;(repeat' split at h1) <;> (repeat' split at h2) <;> (repeat' split) <;> omega
 refine Classical.byContradiction fun hne=>?_;have h3:¬yO x y<0:=fun h3=>by rw [(sH (h _ hx) (h _ hy)).2 h3] at h1;cases h1
 have h4:¬yO y x<0:=fun h3=>by rw [(sH (h _ hy) (h _ hx)).2 h3] at h2;cases h2
 have h5:x.number=y.number:=by
  unfold yO at h3 h4;(repeat' split at h3) <;> (repeat' split at h4) <;> omega
 obtain ⟨i,hi⟩:=List.getElem?_of_mem hx;obtain ⟨j,hj⟩:=List.getElem?_of_mem hy;have hi':=(List.getElem?_eq_some_iff.1 hi).1;have:=(List.getElem?_inj (by rw [List.length_map];exact hi') hn).1 (show (l.map (·.number))[i]?=(l.map (·.number))[j]? by rw [List.getElem?_map,List.getElem?_map,hi,hj];simp [h5]);subst this;rw [hi] at hj;cases hj;exact hne rfl
theorem PG (m:bT):∀ (k:Nat) (n:Int),up m (k+1) n=up m k (HL m n).of
 | 0,_=>rfl
 | k+1,n=>by rw [up,PG m k n];rfl
def rk (m:bT) (n:Int):Nat:=((List.range 12).findIdx? fun j=>decide (up m j n=0)).getD 12
open Classical in
theorem PH {m:bT} {n:Int} {j:Nat} (hj:j<12) (h:up m j n=0) (hl:∀ i,i<j→up m i n≠0):rk m n=j:=by
 unfold rk;have:(List.range 12).findIdx? (fun j=>decide (up m j n=0))=some j:=by
  rw [List.findIdx?_eq_some_iff_getElem];exact ⟨by simpa using hj,by simpa using h,fun i hi=>by simpa using hl i hi⟩
 rw [this];rfl
theorem yT {P:Nat→Prop}:∀ (n:Nat),P n→∃ j,j≤n∧P j∧∀ i,i<j→¬P i:=by
 intro n
 induction n using Nat.strongRecOn with
 | _ n ih =>
  intro h;by_cases hh:∃ i,i<n∧P i
  ·obtain ⟨i,hi,hP⟩:=hh;obtain ⟨j,h1,h2,h3⟩:=ih i hi hP;exact ⟨j,by omega,h2,h3⟩
  exact ⟨n,Nat.le_refl _,h,fun i hi hP=>hh ⟨i,hi,hP⟩⟩
variable {m:bT}
theorem UD (hV:Vm m) {p:aW} (hp:p∈m.papers):HL m p.number=p:=by
 unfold HL NL;rw [HK _ _ hV.nd p hp];rfl
theorem aAe (hV:Vm m) {p:aW} (hp:p∈m.papers):rk m p.number=rk m p.of+1:=by
 obtain ⟨n,hn,h0⟩:=hV.en p hp;obtain ⟨j,h1,h2,h3⟩:=yT (P:=fun j=>up m j p.of=0) n h0;have hu:∀ i,up m (i+1) p.number=up m i p.of:=fun i=>by rw [PG,UD hV hp]
 rw [PH (by omega) h2 h3];refine PH (by omega) (by rw [hu];exact h2) fun i hi=>?_
 cases i with
 | zero=>have:=(hV.n p hp).1;show p.number≠0;omega
 | succ i=>rw [hu];exact h3 i (by omega)
def pB (m:bT) (n:Int):Nat:=(m.papers.filter fun p=>decide (rk m n≤rk m p.of)).length
theorem HN (hV:Vm m) {p:aW} (hp:p∈m.papers) {v:Int} (hv:p.of=v):pB m p.number+(m.papers.filter fun q=>decide (q.of=v)).length≤pB m v:=by
 unfold pB;rw [aAe hV hp,hv];have:∀ l:List aW,(l.filter fun q=>decide (rk m v+1≤rk m q.of)).length+(l.filter fun q=>decide (q.of=v)).length≤(l.filter fun q=>decide (rk m v≤rk m q.of)).length:=by
  intro l
  induction l with
  | nil=>exact Nat.le_refl _
  | cons q l ih =>
   simp only [List.filter_cons,decide_eq_true_eq];by_cases h1:q.of=v
   ·rw [h1,if_neg (by omega:¬rk m v+1≤rk m v),if_pos (rfl:v=v),if_pos (Nat.le_refl _)];simp only [List.length_cons];omega
   rw [if_neg h1];by_cases h2:rk m v+1≤rk m q.of
   ·rw [if_pos h2,if_pos (by omega)];simp only [List.length_cons];omega
   rw [if_neg h2];split <;> (try simp only [List.length_cons]) <;> omega
 exact this _
theorem HO (hV:Vm m) (v:Int):pB m v≤10:=Nat.le_trans (List.length_filter_le _ _) hV.pl
def pS (n:Nat):Nat:=60*3 ^ n
theorem HQ:∀ n,n≤10→∀ c,c≤n→c*(60+pS (n-c))+60≤pS n:=by decide
theorem UE:∀ n,n≤10→pS n≤3542940:=by decide
theorem HR {a b:Nat} (h:a≤b):pS a≤pS b:=Nat.mul_le_mul_left _ (Nat.pow_le_pow_right (by decide) h)
theorem PI (hV:Vm m) (v:Int):(wd m v).length≤60:=by
 unfold wd;split
 ·exact hV.wl
 unfold HL
 cases h:eN (NL m) v with
 | none=>exact Nat.zero_le _
 | some p =>
  rcases yN _ _ _ _ h with h1|h1
  ·exact hV.w p h1.1
  cases h1
def LW (c:List Int) (a:List aE) (b:List bL):Prop:=a.length=b.length∧AD a∧∀ o∈b,o.number=0∨o.number∈c
theorem LW.snoc {c:List Int} {a:List aE} {b:List bL} {x:aE} {y:bL} (h:LW c a b) (hx:x.length≤20) (hy:y.number=0∨y.number∈c):LW c (a++[x]) (b++[y]):=⟨by simp [h.1],fun s hs=>by
 rcases List.mem_append.1 hs with h1|h1
 ·exact h.2.1 s h1
 ·simp at h1;subst h1;exact hx,fun o ho=>by
 rcases List.mem_append.1 ho with h1|h1
 ·exact h.2.2 o h1
 simp at h1;subst h1;exact hy⟩
theorem aAf (hV:Vm m) (v:Int):AD (wd m v):=by
 unfold wd;split
 ·exact hV.wt
 unfold HL
 cases h:eN (NL m) v with
 | none=>exact fun s hs=>absurd hs (List.not_mem_nil)
 | some p =>
  rcases yN _ _ _ _ h with h1|h1
  ·exact hV.pt p h1.1
  cases h1
theorem HT {choice:List Int} (ws:List aE) (v:Int) (hv:v=0∨v∈choice) (te:Int) (ht:te≤ws.length) (h1:ws.length≤60) (step:Int×List aE×List bL→Option ((Int×List aE×List bL)⊕(Int×List aE×List bL)))
  (hs:∀ s,step s=if s.1<te then (cA (0≤s.1) <| (ws[s.1.toNat]?).bind fun x=>cA (s.2.1.length+([x]:List aE).length≤1073741824) <| cA (s.2.2.length+([(⟨v,s.1⟩:bL)]:List bL).length≤1073741824) <| cA (-9223372036854775808≤(s.1+1)∧(s.1+1)≤9223372036854775807) <| some (.inl ((s.1+1),(s.2.1++([x]:List aE)),(s.2.2++([(⟨v,s.1⟩:bL)]:List bL))))) else some (.inr (s.1,s.2.1,s.2.2)))
  {at_:Int} {a:List aE} {b:List bL} {L:Nat} (h0:0≤at_∧at_≤ws.length) (hl:LW choice a b∧a.length≤L) (hw:AD ws) (hb:L+60≤1073741824) :
  T (bC step (at_,a,b)) fun e=>(0≤e.1∧e.1≤ws.length)∧LW choice e.2.1 e.2.2∧e.2.1.length≤L+60:=by
 refine T.lp (fun (s:Int×List aE×List bL)=>(0≤s.1∧s.1≤ws.length)∧LW choice s.2.1 s.2.2∧s.2.1.length+((ws.length:Int)-s.1).toNat≤L+60) (fun (s:Int×List aE×List bL)=>((ws.length:Int)-s.1).toNat) (fun s hI=>?_) ⟨h0,hl.1,by dsimp only;omega⟩;rw [hs];have hI1:=hI.2.1.1;refine T.ie (fun h=>.ck (by omega) (T.bd (T.mem (by omega)) fun x hx=>.ck (by simp;omega) (.ck (by simp;omega) (.ck (by omega) (.mk ⟨⟨⟨by dsimp only;omega,by dsimp only;omega⟩,hI.2.1.snoc (hw x hx) hv,by simp;omega⟩,by dsimp only;omega⟩))))) fun h=>.mk ⟨hI.1,hI.2.1,by dsimp only;omega⟩
theorem aKt (hV:Vm m) (choice:List Int):∀ (k:Nat) (v:Int) (a:List aE) (b:List bL),(v=0∨v∈choice)→pB m v<k→LW choice a b→a.length+pS (pB m v)≤1073741824 →
  T (mA m choice k (v,a,b)) fun r=>LW choice r.1 r.2∧r.1.length≤a.length+pS (pB m v):=by
 intro k
 induction k with
 | zero=>intro v a b _ h;omega
 | succ k ih =>
  intro v a b hv h1 h2 h3;show T (tK m choice (mA m choice k) (v,a,b)) _;have hfl:=HO hV v;have h0:=PI hV v;unfold tK;refine T.bd (.ok (aAb m v)) fun ws hws=>?_;subst hws;have hc:T (bC (xY m (v,a,b)) (0,([]:List aW))) fun e=>e=m.papers.filter fun q=>decide (q.of=v):=by
   refine T.ix m.papers.length (·.1) (fun s=>s.2=(m.papers.take s.1).filter fun q=>decide (q.of=v)) (fun s hs hi=>?_) rfl (Nat.zero_le _);have hlen:s.2.length≤10:=by rw [hs];exact Nat.le_trans (List.length_filter_le _ _) (Nat.le_trans (by rw [List.length_take];omega) hV.pl)
   unfold xY;refine T.ie (fun hl=>T.bd (T.at (by omega)) fun x hx=>T.bd (Q:=fun t=>t=(m.papers.take (s.1+1)).filter fun q=>decide (q.of=v)) (T.ie (fun ho=>.ck (by omega) (.mk ?_)) fun ho=>.mk ?_) fun t ht=>.mk ⟨ht,rfl,by omega⟩) fun hl=>.mk ?_
   ·rw [List.take_add_one,hx,List.filter_append,← hs];simp at ho;simp [ho]
   ·rw [List.take_add_one,hx,List.filter_append,← hs];simp at ho;simp [ho]
   dsimp only;rw [hs,List.take_of_length_le (by omega)]
  refine T.bd (Q:=fun (e:Int×List aE×List bL)=>(0≤e.1∧e.1≤(wd m v).length)∧LW choice e.2.1 e.2.2∧e.2.1.length+60≤a.length+pS (pB m v)) (T.bd hc fun cs hcs=>?_) fun e he=>?_
  ·have hcm:∀ p∈cs,p∈m.papers∧p.of=v:=fun p hp=>by rw [hcs] at hp;simpa using hp
   have hcn:(cs.map (·.number)).Nodup:=by rw [hcs];exact (hV.nd.sublist (List.Sublist.map _ (List.filter_sublist)))
   have hcl:cs.length≤10:=by rw [hcs];exact Nat.le_trans (List.length_filter_le _ _) hV.pl
   refine .ck (List.Pairwise.of_map (f:=(·.number)) (fun _ _ h e=>h (by rw [e])) hcn) (T.bd (NM hcl (fun p hp=>?_) hcn) fun l hl=>?_)
   ·have h5:=hV.ft p (hcm p hp).1;have h6:=PI hV p.of;have h7:=hV.n p (hcm p hp).1;exact ⟨by omega,by omega,h7⟩
   have hll:=hl.length_eq;have hfc:cs.length≤pB m v:=by
    cases hq:cs with
    | nil=>exact Nat.zero_le _
    | cons p t =>
     have hp:p∈cs:=by rw [hq];exact List.mem_cons_self ..
     have:=HN hV (hcm p hp).1 (hcm p hp).2;rw [← hcs,hq] at this;omega
   have hbs:=HQ (pB m v) hfl cs.length hfc;refine T.bd (Q:=fun (e:Int×List aE×List bL)=>(0≤e.1∧e.1≤(wd m v).length)∧LW choice e.2.1 e.2.2∧e.2.1.length+60≤a.length+pS (pB m v)) ?_ fun e he=>.mk he;have hB:∀ i,i<cs.length→i*(60+pS (pB m v-cs.length))+(60+pS (pB m v-cs.length))≤cs.length*(60+pS (pB m v-cs.length)):=fun i hi=>by
    rw [← Nat.succ_mul];exact Nat.mul_le_mul_right _ hi
   refine T.ix cs.length (·.1) (fun (s:Nat×Int×List aE×List bL)=>(0≤s.2.1∧s.2.1≤(wd m v).length)∧LW choice s.2.2.1 s.2.2.2∧s.2.2.1.length≤a.length+s.1*(60+pS (pB m v-cs.length))) (fun s hs hi=>?_) ⟨⟨Int.le_refl 0,by dsimp only;omega⟩,h2,by dsimp only;omega⟩ (Nat.zero_le _);unfold FZ;refine T.ie (fun hlt=>T.bd (T.mem (by omega)) fun p hp=>?_) fun hlt=>.mk ⟨hs.1,hs.2.1,?_⟩
   ·have hp':=hcm p (hl.mem_iff.1 hp);have hft:=hV.ft p hp'.1;rw [hp'.2] at hft;have hB':=hB s.1 (by omega);have hst:(s.1+1)*(60+pS (pB m v-cs.length))=s.1*(60+pS (pB m v-cs.length))+(60+pS (pB m v-cs.length)):=Nat.succ_mul _ _;refine T.bd (Q:=fun (e:Int×List aE×List bL)=>(0≤e.1∧e.1≤(wd m v).length)∧LW choice e.2.1 e.2.2∧e.2.1.length≤a.length+(s.1+1)*(60+pS (pB m v-cs.length))) (T.bd (.ok (NK _ _)) fun r hrr=>T.bd (Q:=fun (e:Int×List aE×List bL)=>(0≤e.1∧e.1≤(wd m v).length)∧LW choice e.2.1 e.2.2∧e.2.1.length≤a.length+(s.1+1)*(60+pS (pB m v-cs.length))) (T.ie (fun hrt=>?_) fun _=>.mk ⟨hs.1,hs.2.1,by dsimp only;omega⟩) fun e he=>.mk he) fun e he=>.mk ⟨he,rfl,by omega⟩;have hpc:p.number∈choice:=by
     rw [hrr] at hrt;obtain ⟨x,hx,he⟩:=List.any_eq_true.1 hrt;rw [of_decide_eq_true he];exact hx
    refine T.bd (Q:=fun (e:Int×List aE×List bL)=>(0≤e.1∧e.1≤(wd m v).length)∧LW choice e.2.1 e.2.2∧e.2.1.length≤a.length+s.1*(60+pS (pB m v-cs.length))+60) (T.bd (HT (wd m v) v hv p.from_ (by omega) h0 (FY p (wd m v) (v,a,b)) (fun s=>rfl) hs.1 hs.2 (aAf hV v) (by omega)) fun e he=>.mk he) fun e he=>?_;have hf:=HN hV hp'.1 hp'.2;rw [← hcs] at hf;have hbm:pS (pB m p.number)≤pS (pB m v-cs.length):=HR (by omega);exact T.bd (ih p.number e.2.1 e.2.2 (.inr hpc) (by have:0<cs.length:=(by omega);omega) he.2.1 (by omega)) fun r hr=>.mk ⟨⟨by dsimp only;omega,by dsimp only;omega⟩,hr.1,by dsimp only;omega⟩
   have:s.1*(60+pS (pB m v-cs.length))≤cs.length*(60+pS (pB m v-cs.length)):=Nat.mul_le_mul_right _ hi;dsimp only;omega
  refine T.bd (Q:=fun (e:Int×List aE×List bL)=>LW choice e.2.1 e.2.2∧e.2.1.length≤a.length+pS (pB m v)) (T.bd (HT (wd m v) v hv _ (Int.le_refl _) h0 (GA (wd m v) (v,a,b)) (fun s=>rfl) (L:=a.length+pS (pB m v)-60) he.1 ⟨he.2.1,by omega⟩ (aAf hV v) (by omega)) fun e h=>.mk ⟨h.2.1,by dsimp only;omega⟩) fun e h=>.mk h
theorem t71 (m:bT) (choice:List Int):T (GB m choice) fun r=>LW choice r.1 r.2.1∧r.1.length≤3542940∧(r.2.2=0→Vm m):=by
 unfold GB;refine T.bd (aKr m choice) fun r h=>T.ie (fun hr=>.mk ⟨⟨rfl,by simp [AD],by simp⟩,by simp,fun h0=>absurd h0 hr⟩) fun h0=>?_;have hV:=h (by omega);have h1:=HO hV 0;have h2:=UE _ h1;exact T.bd (T.rc (aKt hV choice 100000 0 [] [] (.inl rfl) (by omega) ⟨rfl,by simp [AD],by simp⟩ (by simp;omega))) fun r hr=>.mk ⟨hr.1,by have:=hr.2;simp at this;dsimp only;omega,fun _=>hV⟩
end T12
set_option maxHeartbeats 4000000
namespace T12
open Go Go.Proofs Pk
theorem yP (n a b:Int):IP n a b=some (decide (a≤n∧n≤b)):=by
 unfold IP;by_cases h:a≤n <;> simp [h]
theorem UF (n:Int):KI n=some (decide (0≤n∧n≤99999)):=by unfold KI;rw [yP];rfl
theorem UG (n:Int):UW n=some (decide (1≤n∧n≤999)):=by unfold UW;rw [yP];rfl
theorem UH (l:List aH) (f:aH→Option Bool) (p:aH→Bool) (hf:∀ x∈l,f x=some (p x)):AU l f=some (l.all p):=by
 obtain ⟨r,h1,h2⟩:=pA l (fun x=>xD x f) (fun x=>!p x) (fun x hx=>by unfold xD;rw [hf x hx];rfl) (ED l (fun x=>xD x f)) (fun i=>rfl);unfold AU RF RD;rw [h1,List.all_eq_not_any_not];rcases h2 with ⟨z,rfl,h2⟩|⟨rfl,h2⟩ <;> simp [h2]
theorem aKu (l:List aL) (f:aL→Option Bool) (p:aL→Bool) (hf:∀ x∈l,f x=some (p x)):m40 l f=some (l.all p):=by
 obtain ⟨r,h1,h2⟩:=pA l (fun x=>RG x f) (fun x=>!p x) (fun x hx=>by unfold RG;rw [hf x hx];rfl) (EF l (fun x=>RG x f)) (fun i=>rfl);unfold m40 m62 RH;rw [h1,List.all_eq_not_any_not];rcases h2 with ⟨z,rfl,h2⟩|⟨rfl,h2⟩ <;> simp [h2]
theorem aKv (l:List UInt8) (f:Int→Option Bool) (p:Int→Bool) (hf:∀ x∈l,f (x.toNat:Int)=some (p (x.toNat:Int))):KJ l f=some (l.all fun x=>p (x.toNat:Int)):=by
 obtain ⟨r,h1,h2⟩:=pA l (fun x=>xE (x.toNat:Int) f) (fun x=>!p (x.toNat:Int)) (fun x hx=>by unfold xE;rw [hf x hx];rfl) (tA l (fun x=>xE x f)) (fun i=>rfl);unfold KJ xF EE;rw [h1,List.all_eq_not_any_not];rcases h2 with ⟨z,rfl,h2⟩|⟨rfl,h2⟩ <;> simp [h2]
theorem UI (s:aE):T (wE s) fun r=>r=true→1≤s.length∧s.length≤200:=by
 unfold wE;refine T.bd (Q:=fun r=>r=true→1≤s.length∧s.length≤200) (T.bd (.ok (yP _ _ _)) fun r h=>T.ie (fun h1=>?_) fun _=>.mk (by simp)) fun _ h=>.mk h;subst h;simp only [decide_eq_true_eq] at h1;refine .ck (by omega) (T.bd (.ok (aKv _ _ (fun c=>(AV c).getD false) fun x _=>?_)) fun _ _=>.mk fun _=>⟨by omega,by omega⟩);unfold AV;by_cases h:(32:Int)≤x.toNat <;> simp [h]
theorem HU (p:aH):T (jP p) fun r=>r=true→(1≤p.anchor∧p.anchor≤999)∧1≤p.text.length∧p.text.length≤200:=by
 unfold jP;refine T.bd (Q:=fun r=>r=true→(1≤p.anchor∧p.anchor≤999)∧1≤p.text.length∧p.text.length≤200) (T.bd (.ok (UG _)) fun r h=>T.ie (fun h1=>T.bd (UI _) fun b hb=>.mk fun h2=>?_) fun _=>.mk (by simp)) fun _ h=>.mk h;subst h;simp only [decide_eq_true_eq] at h1;exact ⟨h1,hb h2⟩
def iH (v:bD):List aH:=v.parts.flatMap (·.paragraphs)
def Ps (v:bD):Prop:=v.parts.length≤1000∧∀ p∈v.parts,p.paragraphs.length≤1000
theorem e81 (v:bD) (h:Ps v):CA v=some (iH v):=by
 obtain ⟨r,h1,h2⟩:T (bC (vJ v) (0,([]:List aH))) fun e=>e=iH v:=by
  refine T.ix v.parts.length (·.1) (fun s=>s.2=(v.parts.take s.1).flatMap (·.paragraphs)∧s.2.length≤1000*s.1) (fun s hs hi=>?_) ⟨rfl,Nat.zero_le _⟩ (Nat.zero_le _);unfold vJ;have:=h.1;refine T.ie (fun hl=>T.bd (T.at (by omega)) fun x hx=>?_) fun hl=>.mk (by dsimp only;rw [hs.1,List.take_of_length_le (by omega)];rfl);have hx2:=h.2 x (List.mem_of_getElem? hx);exact .ck (by omega) (.mk ⟨⟨by dsimp only;rw [List.take_add_one,hx,hs.1,List.flatMap_append];simp,by simp;omega⟩,rfl,by omega⟩)
 unfold CA;rw [h1,h2];rfl
structure Vv (v:bD):Prop where
 pl:v.parts.length≤6
 ql:(iH v).length≤30
 h:1≤v.height∧v.height≤60
 w:10≤v.width∧v.width≤80
 n:1≤v.number∧v.number≤99
 b:0≤v.bound∧v.bound≤99999
 p:∀ p∈iH v,(1≤p.anchor∧p.anchor≤999)∧1≤p.text.length∧p.text.length≤200
theorem t82 (v:bD) (h:Ps v):T (KK v) fun r=>r=true→v.parts.length≤6→(iH v).length≤30→Vv v:=by
 unfold KK;refine T.bd (Q:=fun e=>match e with | .inl _=>True | .inr z=>z=false) (T.ix v.parts.length id (fun _=>True) (fun i _ hi=>?_) trivial (Nat.zero_le _)) fun e he=>?_
 ·unfold zO;exact T.ie (fun hl=>T.bd (T.at (by simp only [id] at *;omega)) fun x hx=>T.bd (Q:=fun _=>True) (T.bd (.ok (UF _)) fun _ _=>T.ie (fun _=>T.ie (fun _=>.mk trivial) fun _=>T.ie (fun h0=>T.bd (T.at (by simp only [id] at *;omega)) fun _ _=>.mk trivial) fun _=>.mk trivial) fun _=>.mk trivial) fun _ _=>T.ie (fun _=>.mk rfl) fun _=>.mk ⟨trivial,rfl,by simp only [id] at *;omega⟩) fun _=>.mk trivial
 cases e with
 | inr z=>simp only at he;subst he;exact .mk (by simp)
 | inl _ =>
  refine T.bd (Q:=fun r=>r=true→v.parts.length≤6→(iH v).length≤30→Vv v) ?_ fun _ h=>.mk h;refine T.bd (.ok (yP _ _ _)) fun r h1=>T.ie (fun g1=>T.bd (.ok (UF _)) fun r h2=>T.ie (fun g2=>T.bd (.ok (yP _ _ _)) fun r h3=>T.ie (fun g3=>T.bd (.ok (yP _ _ _)) fun r h4=>T.ie (fun g4=>T.bd (.ok (e81 v h)) fun l hl=>T.bd (.ok (UH _ _ (fun p=>(jP p).getD false) fun p _=>(HU p).get)) fun r h5=>.mk fun g5 a b=>?_) fun _=>.mk (by simp)) fun _=>.mk (by simp)) fun _=>.mk (by simp)) fun _=>.mk (by simp);subst h1 h2 h3 h4 hl;simp only [decide_eq_true_eq] at g1 g2 g3 g4;rw [h5,List.all_eq_true] at g5;refine ⟨a,b,g3,g4,g1,g2,fun p hp=>?_⟩;obtain ⟨r,h6,h7⟩:=HU p;have:=g5 p hp;rw [h6] at this;exact h7 this
theorem t53 (v:bD) (h:Ps v):T (AW v) fun r=>r=0→Vv v:=by
 unfold AW;refine T.bd (.ok (e81 v h)) fun l hl=>T.bd (Q:=fun t=>t=false→v.parts.length≤6∧(iH v).length≤30) (T.ie (fun _=>.mk (by simp)) fun h6=>.mk fun h7=>?_) fun t ht=>T.ie (fun _=>.mk (by simp)) fun hf=>T.bd (t82 v h) fun r hr=>T.ie (fun hrt=>T.bd (Q:=fun e=>match e with | .inl _=>True | .inr z=>z=6) (T.ix l.length (·.1) (fun _=>True) (fun s _ hi=>?_) trivial (Nat.zero_le _)) fun e he=>?_) fun _=>.mk (by simp)
 ·subst hl;simp at h7;omega
 ·unfold zP;exact T.ie (fun hl=>T.bd (T.at (by omega)) fun x hx=>T.ie (fun _=>.mk rfl) fun _=>.mk ⟨trivial,rfl,by omega⟩) fun _=>.mk trivial
 have h8:=ht (by simpa using hf)
 cases e with
 | inr z=>exact .mk fun _=>hr hrt h8.1 h8.2
 | inl _=>exact .mk fun _=>hr hrt h8.1 h8.2
theorem aAg (x:aL):T (RI x) fun r=>r=true→(0≤x.kind∧x.kind≤2)∧x.text.length≤200∧(x.kind=2→1≤x.new_∧x.new_≤999)∧(x.kind≠1→1≤x.text.length):=by
 unfold RI;refine T.bd (Q:=fun _=>True) (T.bd (.ok (yP _ _ _)) fun _ _=>T.ie (fun _=>T.bd (.ok (UF _)) fun _ _=>T.ie (fun _=>T.bd (.ok (UG _)) fun _ _=>.mk trivial) fun _=>.mk trivial) fun _=>.mk trivial) fun _ _=>T.ie (fun _=>.mk (by simp)) fun _=>T.ie (fun h0=>?_) fun _=>T.ie (fun h1=>?_) fun _=>T.ie (fun h2=>?_) fun _=>.mk (by simp)
 ·exact T.bd (Q:=fun r=>r=true→1≤x.text.length∧x.text.length≤200) (T.bd (UI _) fun r h=>T.ie (fun hr=>.mk fun _=>h hr) fun _=>.mk (by simp)) fun r h=>.mk fun hr=>⟨by omega,(h hr).2,by omega,fun _=>(h hr).1⟩
 ·exact T.bd (Q:=fun r=>r=true→x.text.length≤200) (T.ie (fun h=>.mk fun _=>by rw [h];decide) fun _=>.mk (by simp)) fun r h=>.mk fun hr=>⟨by omega,h hr,by omega,fun h=>absurd h1 h⟩
 exact T.bd (Q:=fun r=>r=true→(1≤x.text.length∧x.text.length≤200)∧1≤x.new_∧x.new_≤999) (T.bd (UI _) fun r h=>T.ie (fun hr=>T.bd (.ok (UG _)) fun b hb=>.mk fun hbt=>by subst hb;simp only [decide_eq_true_eq] at hbt;exact ⟨h hr,hbt⟩) fun _=>.mk (by simp)) fun r h=>.mk fun hr=>⟨by omega,(h hr).1.2,fun _=>(h hr).2,fun _=>(h hr).1.1⟩
structure Ve (es:List aL):Prop where
 l:es.length≤20
 k:∀ x∈es,(0≤x.kind∧x.kind≤2)∧x.text.length≤200∧(x.kind=2→1≤x.new_∧x.new_≤999)∧(x.kind≠1→1≤x.text.length)
 nd:(es.map (·.number)).Nodup
def BU (a b:Int):Int:=if a<b then -1 else if b<a then 1 else 0
theorem aAh (a b:Int):EG a b=some (BU a b):=by
 unfold EG xH BU;simp only [ne_eq,not_true_eq_false,decide_false,Option.bind_some,Bool.false_eq_true,if_false];by_cases h:a<b
 ·rw [if_pos h,if_pos h]
 rw [if_neg h,if_neg h];split <;> rfl
theorem aKw (x y:Int):KN [x,y]=some (if x≠0 then x else y):=by
 have h:∀ (i:Nat) (v:Int),[x,y][i]?=some v→tB [x,y] i=if v≠0 then some (.inr (.inr v)) else some (.inl (i+1)):=fun i v hv=>by
  have:=(List.getElem?_eq_some_iff.1 hv).1;unfold tB;rw [if_pos (by omega),hv];rfl
 have h0:=h 0 x rfl;have h1:=h 1 y rfl;unfold KN;by_cases a:x=0
 ·rw [if_neg (by omega)] at h0;rw [fQ h0];by_cases b:y=0
  ·rw [if_neg (by omega)] at h1;rw [fQ h1,dX (by unfold tB;rfl)];simp [a,b]
  rw [if_pos b] at h1;rw [dX h1];simp [a]
 rw [if_pos a] at h0;rw [dX h0];simp [a]
def aAi (a b:aL):Int:=if BU a.day b.day≠0 then BU a.day b.day else BU a.number b.number
theorem aAj (a b:aL):pN a b=some (aAi a b):=by
 unfold pN;rw [aAh,aAh];simp only [Option.bind_some];rw [aKw];rfl
theorem sI (a b:aL):iW pN a b=true↔a.day<b.day∨(a.day=b.day∧a.number<b.number):=by
 unfold iW;rw [aAj];simp only [decide_eq_true_eq];unfold aAi BU;(repeat' split) <;> omega
def UJ (a b:aL):Prop:=a.day<b.day∨(a.day=b.day∧a.number≤b.number)
theorem tV {l:List aL} (hl:l.length≤20) (hn:(l.map (·.number)).Nodup):T (iT pN l) fun r=>r.Perm l∧r.Pairwise UJ:=by
 have hp:(l.mergeSort fun x y=>!iW pN y x).Pairwise UJ:=(List.pairwise_mergeSort (le:=fun x y=>!iW pN y x) (fun a b c h1 h2=>by simp only [Bool.not_eq_true',Bool.eq_false_iff,ne_eq,sI] at *;omega) (fun a b=>by rw [Bool.or_eq_true];simp only [Bool.not_eq_true',Bool.eq_false_iff,ne_eq,sI];omega) l).imp fun {a b} h=>by simp only [Bool.not_eq_true',Bool.eq_false_iff,ne_eq,sI] at h;unfold UJ;omega
 refine ⟨_,qL ⟨by omega,fun x hx y hy=>⟨_,aAj x y⟩,fun x hx=>?_,fun x hx y hy z hz h1 h2=>?_,fun x hx y hy h1 h2=>?_⟩,List.mergeSort_perm ..,hp⟩
 ·rw [Bool.eq_false_iff,Ne,sI];omega
 ·rw [sI] at *;omega
 have h3:x.number=y.number:=by
  rw [Bool.eq_false_iff,Ne,sI] at h1 h2;omega
 obtain ⟨i,hi⟩:=List.getElem?_of_mem hx;obtain ⟨j,hj⟩:=List.getElem?_of_mem hy;have hi':=(List.getElem?_eq_some_iff.1 hi).1;have:=(List.getElem?_inj (by rw [List.length_map];exact hi') hn).1 (show (l.map (·.number))[i]?=(l.map (·.number))[j]? by rw [List.getElem?_map,List.getElem?_map,hi,hj];simp [h3]);subst this;rw [hi] at hj;cases hj;rfl
theorem UK {l:List aL} (h:l.length≤20):vK l=some l:=by
 unfold vK cA;rw [if_pos (by simp;omega)];rfl
theorem aKx (v:bD) (es:List aL) (hv:Ps v) (he:Ve es):T (RK v es) fun _=>True:=by
 unfold RK;refine T.bd (.ok (e81 v hv)) fun ps _=>T.bd (Q:=fun _=>True) (T.ix ps.length (·.1) (fun _=>True) (fun s _ hi=>?_) trivial (Nat.zero_le _)) fun t _=>T.bd (Q:=fun _=>True) (T.bd (.ok (UK he.l)) fun l1 h1=>?_) fun t _=>by cases t <;> exact .mk trivial
 ·unfold EH;exact T.ie (fun hl=>T.bd (T.at (by omega)) fun x hx=>.mk ⟨trivial,rfl,by omega⟩) fun _=>.mk trivial
 subst h1;refine T.bd (tV he.l he.nd) fun l hl=>T.bd (Q:=fun _=>True) (T.ix l1.length (·.1) (fun _=>True) (fun s _ hi=>?_) trivial (Nat.zero_le _)) fun e _=>by cases e <;> exact .mk trivial
 have hll:=hl.1.length_eq;unfold OV;refine T.ie (fun hl=>T.bd (T.at (by omega)) fun x hx=>T.ie (fun _=>.mk trivial) fun _=>T.bd (Q:=fun _=>True) (T.ie (fun _=>T.bd (Q:=fun _=>True) (T.ie (fun _=>.mk trivial) fun _=>.mk trivial) fun _ _=>.mk trivial) fun _=>.mk trivial) fun t _=>?_) fun _=>.mk trivial
 cases t with
 | inl _=>exact .mk trivial
 | inr _=>exact .mk ⟨trivial,rfl,by omega⟩
theorem t85 (v:bD) (es:List aL) (hv:Ps v):T (CB v es) fun r=>r=0→Vv v∧Ve es:=by
 unfold CB;refine T.bd (t53 v hv) fun r h=>T.ie (fun hr=>.mk fun h0=>absurd h0 hr) fun h0=>T.ie (fun _=>.mk (by simp)) fun hl=>T.bd (.ok (aKu _ _ (fun x=>(RI x).getD false) fun x _=>(aAg x).get)) fun r2 h2=>T.ie (fun hr=>T.bd (.ok (e81 v hv)) fun ps _=>T.bd (Q:=fun _=>True) (T.ix ps.length (·.1) (fun _=>True) (fun s _ hi=>?_) trivial (Nat.zero_le _)) fun t _=>T.bd (Q:=fun e=>match e with | .inl _=>(es.map (·.number)).Nodup | .inr z=>z=6) (T.ix es.length (·.1) (fun s=>(∀ k,(eN s.2.1 k).getD false=true↔k∈(es.take s.1).map (·.number))∧((es.take s.1).map (·.number)).Nodup) (fun s hs hi=>?_) ⟨fun k=>by simp [eN],by simp⟩ (Nat.zero_le _)) fun e he=>?_) fun _=>.mk (by simp)
 ·unfold zQ;exact T.ie (fun hl=>T.bd (T.at (by omega)) fun x hx=>.mk ⟨trivial,rfl,by omega⟩) fun _=>.mk trivial
 ·unfold EI;refine T.ie (fun hl=>T.bd (T.at (by omega)) fun x hx=>T.bd (Q:=fun t=>t=false→x.number∉(es.take s.1).map (·.number)) (T.ie (fun _=>.mk (by simp)) fun hn=>?_) fun t ht=>T.ie (fun _=>.mk rfl) fun hf=>T.bd (Q:=fun _=>True) (T.ie (fun _=>.mk trivial) fun _=>.mk trivial) fun _ _=>.mk ⟨⟨fun k=>?_,?_⟩,rfl,by omega⟩) fun hl=>.mk (by have:=hs.2;rwa [List.take_of_length_le (by omega)] at this)
  ·have hm:x.number∉(es.take s.1).map (·.number):=fun h=>hn ((hs.1 _).2 h);exact T.ie (fun _=>.mk fun _=>hm) fun _=>.mk fun _=>hm
  ·dsimp only;rw [iO,List.take_add_one,hx,List.map_append,List.mem_append,← hs.1 k];by_cases hk:k=x.number <;> simp [hk]
  have hm:=ht (by simpa using hf);dsimp only;rw [List.take_add_one,hx,List.map_append];exact List.nodup_append.2 ⟨hs.2,by simp,fun a ha b hb hab=>by simp at hb;subst hb hab;exact hm ha⟩
 cases e with
 | inr z=>simp only at he;subst he;exact .mk (by simp)
 | inl _ =>
  have hE:Ve es:=⟨by omega,fun x hx=>by
   obtain ⟨r,h6,h7⟩:=aAg x;rw [h2,List.all_eq_true] at hr
   have:=hr x hx;rw [h6] at this;exact h7 this,he⟩
  exact T.bd (aKx v es hv hE) fun _ _=>.mk fun _=>⟨h (by omega),hE⟩
def Pg (p:aH):Prop:=p.text.length≤200∧(1≤p.anchor∧p.anchor≤999)∧1≤p.text.length
def Gd (n k:Nat) (g:List (List bZ)):Prop:=g.length=n∧∀ r∈g,r.length≤k∧∀ e∈r,Pg e.paragraph
theorem Gd.mono {n k k':Nat} {g:List (List bZ)} (h:Gd n k g) (hk:k≤k'):Gd n k' g:=⟨h.1,fun r hr=>⟨Nat.le_trans (h.2 r hr).1 hk,(h.2 r hr).2⟩⟩
theorem aAk {α:Type} {l:List α} {i:Nat} {v:α} {P:α→Prop} (h:∀ x∈l,P x) (hv:P v):∀ x∈l.set i v,P x:=yL h hv
theorem Gd.set {n k:Nat} {g:List (List bZ)} {i:Nat} {r:List bZ} (h:Gd n k g) (hr:r.length≤k∧∀ e∈r,Pg e.paragraph):Gd n k (g.set i r):=⟨by rw [List.length_set];exact h.1,aAk h.2 hr⟩
theorem NN {v:bD} {p:eI} (hp:p∈v.parts):p.paragraphs.length≤(iH v).length:=by
 unfold iH;obtain ⟨i,hi⟩:=List.getElem?_of_mem hp;have:∀ (l:List eI) (p:eI),p∈l→p.paragraphs.length≤(l.flatMap (·.paragraphs)).length:=by
  intro l p
  induction l with
  | nil=>intro h;cases h
  | cons q l ih =>
   intro h;rw [List.flatMap_cons,List.length_append];rcases List.mem_cons.1 h with rfl|h
   ·omega
   have:=ih h;omega
 exact this _ _ hp
theorem aKy (g:List (List bZ)) (k:Nat) (x:aL) (hg:Gd 6 k g∨g.length≤6∧∀ r∈g,r.length≤k) (hk:k≤1000) (i:Nat):T (bC (pH (i,g) x) (0,0,0,false)) fun e=>e.2.2=true→∃ r,g[e.1]?=some r∧e.2.1<r.length:=by
 have hg':g.length≤6∧∀ r∈g,r.length≤k:=by
  rcases hg with h|h
  ·exact ⟨by have:=h.1;omega,fun r hr=>(h.2 r hr).1⟩
  exact h
 refine T.ix g.length (·.2.2.1) (fun s=>s.2.2.2=false) (fun s hs hi=>?_) rfl (Nat.zero_le _);unfold pH;dsimp only;refine T.ie (fun hl=>T.bd (T.at (by omega)) fun r hr=>T.bd (Q:=fun e=>match e with | .inl q=>q.2.2=false | .inr z=>∃ q,z=.inr q∧q.1=s.2.2.1∧q.2.1<r.length) (T.ix r.length (·.2.2.1) (fun q=>q.2.2.2=false) (fun q hq hj=>?_) hs (Nat.zero_le _)) fun e he=>?_) fun _=>.mk fun h=>by dsimp only at h;rw [hs] at h;cases h
 ·have:=hg'.2 r (List.mem_of_getElem? hr);unfold zS;exact T.ie (fun hl=>T.bd (T.at (by omega)) fun y hy=>T.ie (fun _=>⟨_,rfl,_,rfl,rfl,by dsimp only;omega⟩) fun _=>.ck (by omega) (.mk ⟨hq,rfl,by omega⟩)) fun _=>.mk hq
 cases e with
 | inl q=>exact .ck (by omega) (.mk ⟨he,rfl,by omega⟩)
 | inr z=>obtain ⟨q,rfl,h1,h2⟩:=he;exact .mk fun _=>⟨r,by rw [h1];exact hr,h2⟩
theorem t90 (v:bD) (es:List aL) (to_:Int) (hv:Vv v) (he:Ve es):T (EK v es to_) fun r=>r.volume=v∧Gd v.parts.length 50 r.parts:=by
 have hpl:=hv.pl;have hql:=hv.ql;unfold EK;refine T.bd (Q:=fun g=>Gd v.parts.length 30 g) (T.ix v.parts.length (·.1) (fun s=>Gd s.1 30 s.2) (fun s hs hi=>?_) ⟨rfl,by simp⟩ (Nat.zero_le _)) fun g hg=>?_
 ·unfold zR;refine T.ie (fun hl=>T.bd (T.at (by omega)) fun p hp=>T.bd (Q:=fun r=>r.length≤30∧∀ e∈r,Pg e.paragraph) (T.ix p.paragraphs.length (·.1) (fun q=>q.2.length=q.1∧∀ e∈q.2,Pg e.paragraph) (fun q hq hj=>?_) ⟨rfl,by simp⟩ (Nat.zero_le _)) fun r hr=>.ck (by have:=hs.1;omega) (.mk ⟨⟨by simp [hs.1],fun r' hr'=>?_⟩,rfl,by omega⟩)) fun hl=>.mk ?_
  ·have hpm:=List.mem_of_getElem? hp;have h0:=NN hpm;unfold EJ;refine T.ie (fun hl=>T.bd (T.mem (by omega)) fun y hy=>.ck (by have:=hq.1;omega) (.mk ⟨⟨by simp [hq.1],fun e he'=>?_⟩,rfl,by omega⟩)) fun _=>.mk ⟨by have:=hq.1;omega,hq.2⟩;rcases List.mem_append.1 he' with h|h
   ·exact hq.2 e h
   simp at h;subst h;have h3:=hv.p y (List.mem_flatMap.2 ⟨p,hpm,hy⟩);exact ⟨h3.2.2,h3.1,h3.2.1⟩
  ·rcases List.mem_append.1 hr' with h|h
   ·exact hs.2 r' h
   simp at h;subst h;exact hr
  have:s.1=v.parts.length:=by omega
  rw [this] at hs;exact hs
 refine T.bd (Q:=fun g=>Gd v.parts.length 50 g) (T.bd (.ok (UK he.l)) fun l1 h1=>?_) fun g hg=>.mk ⟨rfl,hg⟩;subst h1;have hEl:=he.l;refine T.bd (tV he.l he.nd) fun l hl=>T.bd (Q:=fun e=>match e with | .inl g=>Gd v.parts.length 50 g | .inr g=>Gd v.parts.length 50 g) (T.ix l1.length (·.1) (fun s=>Gd v.parts.length (30+s.1) s.2) (fun s hs hi=>?_) hg (Nat.zero_le _)) fun e h=>by cases e <;> exact .mk h
 have hll:=hl.1.length_eq;unfold zT;refine T.ie (fun hlt=>T.bd (T.mem (by omega)) fun x hx=>T.bd (Q:=fun r=>Gd v.parts.length (30+(s.1+1)) r.2) (T.ie (fun _=>.mk (hs.mono (by omega))) fun _=>?_) fun r hr=>T.ie (fun _=>.mk (hr.mono (by omega))) fun _=>.mk ⟨hr,rfl,by omega⟩) fun _=>.mk (hs.mono (by omega));have hk:=he.k x (hl.1.mem_iff.1 hx);have hs':=hs.mono (show 30+s.1≤30+(s.1+1) by omega);refine T.bd (Q:=fun g=>Gd v.parts.length (30+(s.1+1)) g) ?_ fun g hg=>.mk hg;refine T.bd (Q:=fun e=>e.2.2=true→∃ r,s.2[e.2.1]?=some r∧e.1<r.length) (T.bd (aKy s.2 (30+s.1) x (.inr ⟨by have:=hs.1;omega,fun r hr=>(hs.2 r hr).1⟩) (by omega) s.1) fun e he=>.mk he) fun e hf=>?_;refine T.bd (Q:=fun g=>Gd v.parts.length (30+(s.1+1)) g) (T.ie (fun hft=>?_) fun _=>.mk hs') fun g hg=>.mk hg;obtain ⟨r,hr,hc⟩:=hf hft;have hrm:=hs.2 r (List.mem_of_getElem? hr);refine T.bd (.ok (rfl:m67=some ())) fun _ _=>.ck (by omega) (T.ie (fun _=>?_) fun _=>T.ie (fun _=>?_) fun _=>T.ie (fun hk2=>?_) fun _=>by omega)
 ·refine T.bd (Q:=fun g=>Gd v.parts.length (30+(s.1+1)) g) (T.bd (.ok hr) fun r' h'=>?_) fun g hg=>.mk hg;subst h';exact T.bd (T.mem hc) fun y hy=>T.bd (Q:=fun g=>Gd v.parts.length (30+(s.1+1)) g) (T.ie (fun _=>.mk hs') fun _=>.mk (hs'.set ⟨by simp;omega,yL hrm.2 ⟨hk.2.1,(hrm.2 y hy).2.1,hk.2.2.2 (by omega)⟩⟩)) fun g hg=>.mk hg
 ·refine T.bd (Q:=fun g=>Gd v.parts.length (30+(s.1+1)) g) (T.bd (.ok hr) fun r' h'=>?_) fun g hg=>.mk hg;subst h';exact T.bd (T.mem hc) fun y hy=>.mk (hs'.set ⟨by simp;omega,yL hrm.2 (hrm.2 y hy)⟩)
 refine T.bd (Q:=fun g=>Gd v.parts.length (30+(s.1+1)) g) (T.bd (.ok hr) fun r' h'=>?_) fun g hg=>.mk hg;subst h';refine .ck (by omega) (.ck (by omega) (.ck (by omega) (.mk (hs'.set ⟨by simp;omega,fun e he'=>?_⟩))));simp only [List.mem_append,List.mem_singleton] at he';rcases he' with (h|h)|h
 ·exact hrm.2 e (List.mem_of_mem_take h)
 ·subst h;exact ⟨hk.2.1,hk.2.2.1 hk2,hk.2.2.2 (by omega)⟩
 exact hrm.2 e (List.mem_of_mem_drop h)
theorem nY {n:Int} (h : -1000000000000<n∧n<1000000000000):(Lib.itoa n).length≤13:=by
 unfold Lib.itoa;split
 ·rw [List.length_cons];have:=lX (u:=n.natAbs) (k:=12) (by omega) (by decide);omega
 have:=lX (u:=n.toNat) (k:=12) (by omega) (by decide);omega
def Sh (x:Any):Prop:=match x with | .i n=>-1000000000000<n∧n<1000000000000 | .s b=>b.length≤13
theorem HV:∀ {l:List Any},(∀ x∈l,Sh x)→(gL l).length≤13*l.length
 | [],_=>by simp [gL]
 | x::l,h=>by
  have h1:=HV fun y hy=>h y (List.mem_cons_of_mem _ hy);have h2:(vH x).length≤13:=by
   have:=h x (List.mem_cons_self ..)
   cases x with
   | i n=>exact nY this
   | s b=>exact this
  have:gL (x::l)=vH x++gL l:=rfl;rw [this,List.length_append,List.length_cons];omega
theorem t87 {l:List Any} (h:∀ x∈l,Sh x) (hl:l.length≤10):T (xA l) fun r=>r.length≤130:=by
 have:=HV h;unfold xA
 exact .ck ⟨fun x hx=>by
  have:=h x hx
  cases x with
  | i n=>unfold Sh at this;exact ⟨by omega,by omega⟩
  | s b=>trivial,by omega⟩ (.mk (by omega))
theorem t84 (v:bD) (es:List aL) (to_:Int) (hv:Ps v):T (EM v es to_) fun r=>r.1.length≤300∧(r.2=0→Vv v∧Ve es):=by
 unfold EM;refine T.bd (t85 v es hv) fun r h=>T.ie (fun hr=>.mk ⟨by simp,fun h0=>absurd h0 hr⟩) fun h0=>T.bd (.ok (UF _)) fun b _=>T.ie (fun _=>?_) fun _=>.mk ⟨by simp,by simp⟩;have hVE:=h (by omega);have hpl:=hVE.1.pl;refine T.bd (t90 v es to_ hVE.1 hVE.2) fun g hg=>T.bd (Q:=fun l=>l.length≤300) (T.ix g.parts.length (·.1) (fun s=>s.2.length≤50*s.1) (fun s hs hi=>?_) (Nat.zero_le _) (Nat.zero_le _)) fun l hl=>.mk ⟨hl,fun _=>hVE⟩;have hgl:=hg.2.1;unfold zV;refine T.ie (fun hl=>T.bd (T.mem (by omega)) fun r hr=>T.bd (Q:=fun l=>l.length≤50*(s.1+1)) (T.ix r.length (·.1) (fun q=>q.2.length≤50*s.1+q.1) (fun q hq hj=>?_) hs (Nat.zero_le _)) fun l hl=>.mk ⟨hl,rfl,by omega⟩) fun _=>.mk (by omega);have hrl:=(hg.2.2 r hr).1;unfold zU;exact T.ie (fun hl=>T.bd (T.at (by omega)) fun y hy=>T.bd (Q:=fun l=>l.length≤50*s.1+(q.1+1)) (T.ie (fun _=>.mk (by omega)) fun _=>.ck (by omega) (.mk (by simp;omega))) fun l hl=>.mk ⟨hl,rfl,by omega⟩) fun _=>.mk (by omega)
theorem aK0 (g:fY) (anchor:Int):T (bC (pI g anchor) (0,0,0,false)) fun e=>e.2.2=true→∃ r,g.parts[e.1]?=some r∧e.2.1<r.length:=by
 refine T.ix g.parts.length (·.2.2.1) (fun s=>s.2.2.2=false) (fun s hs hi=>?_) rfl (Nat.zero_le _);unfold pI;refine T.ie (fun hl=>T.bd (T.at (by omega)) fun r hr=>T.bd (Q:=fun e=>match e with | .inl q=>q.2.2=false | .inr z=>∃ q,z=.inr q∧q.1=s.2.2.1∧q.2.1<r.length) (T.ix r.length (·.2.2.1) (fun q=>q.2.2.2=false) (fun q hq hj=>?_) hs (Nat.zero_le _)) fun e he=>?_) fun _=>.mk fun h=>by dsimp only at h;rw [hs] at h;cases h
 ·unfold zW;exact T.ie (fun hl=>T.bd (T.at (by omega)) fun y hy=>T.ie (fun _=>⟨_,rfl,_,rfl,rfl,by dsimp only;omega⟩) fun _=>.mk ⟨hq,rfl,by omega⟩) fun _=>.mk hq
 cases e with
 | inl q=>exact .mk ⟨he,rfl,by omega⟩
 | inr z=>obtain ⟨q,rfl,h1,h2⟩:=he;exact .mk fun _=>⟨r,by rw [h1];exact hr,h2⟩
theorem t58 (v:bD) (es:List aL) (anchor to_:Int) (hv:Ps v):T (CC v es anchor to_) fun r=>r.2.2=0→(0≤to_∧to_≤99999):=by
 unfold CC;refine T.bd (t85 v es hv) fun r h=>T.ie (fun hr=>.mk fun h0=>absurd h0 hr) fun h0=>T.bd (.ok (UF _)) fun b hb=>T.ie (fun hbt=>?_) fun _=>.mk (by simp);have hVE:=h (by omega);subst hb;simp only [decide_eq_true_eq] at hbt;refine T.bd (t90 v es to_ hVE.1 hVE.2) fun g hg=>T.bd (Q:=fun e=>e.2.2=true→∃ r,g.parts[e.2.1]?=some r∧e.1<r.length) (T.bd (aK0 g anchor) fun e he=>.mk he) fun e he=>T.ie (fun h1=>?_) fun _=>.mk (by simp);obtain ⟨r,hr,hc⟩:=he h1;exact T.bd (.ok hr) fun r' h'=>by
  subst h';exact T.bd (T.at hc) fun y hy=>.mk fun _=>hbt
def Pd (v:bD) (x:dH):Prop:=((1≤x.place.anchor∧x.place.anchor≤999)∧1≤x.place.lines∧x.place.lines≤1000)∧(0≤x.place.column∧x.place.column≤999999)∧(1≤x.place.line∧x.place.line≤v.height)∧(0≤x.number∧x.number≤1000)∧∃ p∈v.parts,x.day=p.day
theorem t88 (v:bD) (es:List aL) (hv:Vv v) (he:Ve es):T (RO v es) fun l=>l.length≤300∧∀ x∈l,Pd v x:=by
 have hpl:=hv.pl;have hh:=hv.h;have hw:=hv.w;unfold RO;refine T.bd (t90 v es v.bound hv he) fun g hg=>T.bd (Q:=fun l=>l.length≤300∧∀ x∈l,Pd v x) (T.ix g.parts.length (·.1) (fun (s:Nat×Int×List dH)=>(1≤s.2.1∧s.2.1≤1+20000*(s.1:Int))∧s.2.2.length≤50*s.1∧∀ x∈s.2.2,Pd v x) (fun s hs hi=>?_) ⟨⟨by decide,by decide⟩,Nat.zero_le _,by simp⟩ (Nat.zero_le _)) fun l hl=>.mk hl;have hgl:=hg.2.1;obtain ⟨hs1,hs2,hs3⟩:=hs;unfold EO;refine T.ie (fun hl=>T.bd (T.mem (by omega)) fun r hr=>T.bd (Q:=fun (e:Int×List dH)=>(0≤e.1∧e.1≤15000)∧e.2.length≤50*(s.1+1)∧∀ x∈e.2,Pd v x) (T.ix r.length (·.2.1) (fun (q:Nat×Nat×Int×List dH)=>q.1≤q.2.1∧(0≤q.2.2.1∧q.2.2.1≤300*(q.2.1:Int))∧q.2.2.2.length≤50*s.1+q.2.1∧∀ x∈q.2.2.2,Pd v x) (fun q hq hj=>?_) ⟨Nat.le_refl _,⟨Int.le_refl 0,Int.le_refl 0⟩,by dsimp only;omega,hs3⟩ (Nat.zero_le _)) fun e he=>?_) fun _=>.mk ⟨by have:=hg.2.1;omega,hs3⟩
 ·have hrl:=hg.2.2 r hr;obtain ⟨hq1,hq2,hq3,hq4⟩:=hq;unfold EN;refine T.ie (fun hl2=>T.bd (Q:=fun (t:Nat×Int×List dH)=>t.1≤q.2.1+1∧(0≤t.2.1∧t.2.1≤300*((q.2.1:Int)+1))∧t.2.2.length≤50*s.1+(q.2.1+1)∧∀ x∈t.2.2,Pd v x) (T.bd (T.mem (by omega)) fun y hy=>T.ie (fun _=>.mk ⟨by dsimp only;omega,⟨hq2.1,by dsimp only;omega⟩,by dsimp only;omega,hq4⟩) fun _=>?_) fun t ht=>.mk ⟨ht,rfl,by omega⟩) fun _=>.mk ⟨⟨by dsimp only;omega,by dsimp only;omega⟩,by dsimp only;omega,hq4⟩;have hty:=(hrl.2 y hy).1;have hya:=(hrl.2 y hy).2.1;have hy1:=(hrl.2 y hy).2.2;have d1:0≤q.2.2.1/v.height:=Int.ediv_nonneg hq2.1 (by omega);have d2:q.2.2.1/v.height≤q.2.2.1:=Int.ediv_le_self _ hq2.1;have d3:0≤q.2.2.1%v.height:=Int.emod_nonneg _ (by omega);have d4:q.2.2.1%v.height<v.height:=Int.emod_lt_of_pos _ (by omega);have d5:1≤((y.paragraph.text.length:Int)+v.width-1)/v.width:=Int.le_ediv_of_mul_le (by omega) (by omega);have d6:((y.paragraph.text.length:Int)+v.width-1)/v.width≤(y.paragraph.text.length:Int)+v.width-1:=Int.ediv_le_self _ (by omega);refine .ck (by omega) (.ck (by omega) (.ck (by omega) (.ck (by omega) (.ck (by omega) (.ck (by omega) (.ck (by omega) (.ck (by omega) (T.bd (T.mem (by omega)) fun z hz=>.ck (by simp;omega) (.ck (by omega) (.mk ⟨by dsimp only;omega,⟨by dsimp only;omega,by dsimp only;omega⟩,by simp;omega,fun x hx=>?_⟩))))))))));rcases List.mem_append.1 hx with h|h
  ·exact hq4 x h
  simp only [List.mem_singleton] at h;subst h;exact ⟨⟨hya,by dsimp only;omega,by dsimp only;omega⟩,⟨by dsimp only;omega,by dsimp only;omega⟩,⟨by dsimp only;omega,by dsimp only;omega⟩,⟨by dsimp only;omega,by dsimp only;omega⟩,z,hz,rfl⟩
 obtain ⟨he1,he2,he3⟩:=he;have d1:0≤(e.1+v.height-1)/v.height:=Int.ediv_nonneg (by omega) (by omega);have d2:(e.1+v.height-1)/v.height≤e.1+v.height-1:=Int.ediv_le_self _ (by omega);exact .ck (by omega) (.ck (by omega) (.ck (by omega) (.ck (by omega) (.mk ⟨⟨⟨by dsimp only;omega,by dsimp only;omega⟩,he2,he3⟩,rfl,by omega⟩))))
theorem t56 (v:bD) (es:List aL) (anchor style to_:Int) (hv:Ps v) (hd:∀ p∈v.parts,0≤p.day∧p.day≤99999) (ha : -1000000000000<anchor∧anchor<1000000000000) (ht : -1000000000000<to_∧to_<1000000000000):T (xJ v es anchor style to_) fun r=>r.1.length≤130:=by
 unfold xJ;refine T.bd (t85 v es hv) fun r h=>T.ie (fun hr=>.mk (by simp)) fun h0=>T.bd (Q:=fun _=>True) (T.ie (fun _=>.mk trivial) fun _=>T.ie (fun _=>T.bd (.ok (UF _)) fun _ _=>.mk trivial) fun _=>.mk trivial) fun _ _=>T.ie (fun _=>.mk (by simp)) fun _=>T.ie (fun _=>T.bd (t58 v es anchor to_ hv) fun r hr=>T.ie (fun _=>.mk (by simp)) fun _=>T.bd (t87 (fun x hx=>?_) (by simp)) fun r hr=>.mk hr) fun _=>?_
 ·simp only [List.mem_cons,List.not_mem_nil,or_false] at hx;rcases hx with rfl|rfl|rfl
  ·exact ha
  ·show (1:Nat)≤13;decide
  exact ht
 have hVE:=h (by omega);have hn:=hVE.1.n;have hh:=hVE.1.h;refine T.bd (t88 v es hVE.1 hVE.2) fun l hl=>T.bd (Q:=fun e=>match e with | .inl _=>True | .inr z=>z.1.length≤130) (T.ix l.length id (fun _=>True) (fun i _ hi=>?_) trivial (Nat.zero_le _)) fun e he=>?_
 ·unfold xI;refine T.ie (fun hlt=>T.bd (T.mem (by simp only [id] at *;omega)) fun x hx=>?_) fun _=>.mk trivial;obtain ⟨_,h1,h2,h3,p,hp,h4⟩:=hl.2 x hx;have h5:=hd p hp;refine T.ie (fun _=>.mk ⟨trivial,rfl,by simp only [id] at *;omega⟩) fun _=>T.ie (fun _=>T.bd (t87 (fun x hx=>?_) (by simp)) fun r hr=>.mk hr) fun _=>T.bd (t87 (fun x hx=>?_) (by simp)) fun r hr=>.mk hr
  ·simp only [List.mem_cons,List.not_mem_nil,or_false] at hx;rcases hx with rfl|rfl|rfl|rfl|rfl|rfl
   ·show (5:Nat)≤13;decide
   ·exact ⟨by omega,by omega⟩
   ·show (7:Nat)≤13;decide
   ·exact ⟨by omega,by omega⟩
   ·show (5:Nat)≤13;decide
   exact ⟨by omega,by omega⟩
  simp only [List.mem_cons,List.not_mem_nil,or_false] at hx;rcases hx with rfl|rfl|rfl|rfl|rfl|rfl
  ·show (5:Nat)≤13;decide
  ·exact ⟨by omega,by omega⟩
  ·show (2:Nat)≤13;decide
  ·exact ⟨by omega,by omega⟩
  ·show (7:Nat)≤13;decide
  exact ⟨by omega,by omega⟩
 cases e with
 | inl _=>exact .mk (by simp)
 | inr z=>exact .mk he
theorem kK (c:Bool) (e:Int):T (jL c e) fun r=>match r with | .inl _=>c=true | .inr _=>c=false:=by
 cases c
 ·exact ⟨_,rfl,rfl⟩
 exact ⟨_,rfl,rfl⟩
theorem BV (e:Int):T (nP e) fun r=>match r with | .inl _=>e=0 | .inr _=>e≠0:=by
 unfold nP;refine T.bd (kK _ _) fun r hr=>?_
 cases r with
 | inl _=>exact .mk (by simpa using hr)
 | inr _=>exact .mk (by simpa using hr)
theorem e20 (n a b:Int):zN n a b=some (decide (a≤n∧n≤b)):=by
 unfold zN;by_cases h:a≤n <;> simp [h]
theorem t94 (a b:Int):T (LB a b) fun _=>True:=by
 unfold LB xH;exact T.bd (Q:=fun _=>True) (T.bd (.mk trivial) fun _ (_:True)=>T.ie (fun _=>T.bd (.mk trivial) fun _ (_:True)=>T.ie (fun _=>.mk trivial) fun _=>.mk trivial) fun _=>.mk trivial) fun _ _=>.mk trivial
theorem t62 (l:List Int) (x:Int) (h:l.length≤1000000):T (vL l x) fun r=>0≤r.1∧r.1≤l.length:=by
 unfold vL;refine T.bd (Q:=fun e=>0≤e∧e≤(l.length:Int)) (T.lp (fun (s:Int×Int)=>(0≤s.1∧s.1≤(l.length:Int))∧0≤s.2∧s.2≤(l.length:Int)) (fun (s:Int×Int)=>(s.2-s.1).toNat) (fun s hs=>?_) ⟨⟨Int.le_refl 0,by dsimp only;omega⟩,by dsimp only;omega,by dsimp only;omega⟩) fun e he=>?_
 ·unfold EY;refine T.ie (fun hl=>.ck (by omega) (.ck (by omega) (.ck (by omega) (.ck (by omega) (T.bd (T.at (by omega)) fun y _=>T.bd (t94 _ _) fun c _=>T.bd (Q:=fun (t:Int×Int)=>((0≤t.1∧t.1≤(l.length:Int))∧0≤t.2∧t.2≤(l.length:Int))∧(t.2-t.1).toNat<(s.2-s.1).toNat) (T.ie (fun _=>.ck (by omega) (.mk ⟨⟨⟨by dsimp only;omega,by dsimp only;omega⟩,hs.2⟩,by dsimp only;omega⟩)) fun _=>.mk ⟨⟨hs.1,by dsimp only;omega,by dsimp only;omega⟩,by dsimp only;omega⟩) fun t ht=>.mk ht))))) fun _=>.mk hs.1
 refine T.bd (Q:=fun (t:Int×Bool)=>0≤t.1∧t.1≤(l.length:Int)) (T.ie (fun hl=>.ck he.1 (T.bd (T.at (by omega)) fun y _=>T.ie (fun _=>.mk he) fun _=>T.bd (Q:=fun _=>True) ⟨_,rfl,trivial⟩ fun _ _=>T.ie (fun _=>T.bd (Q:=fun _=>True) ⟨_,rfl,trivial⟩ fun _ _=>.mk he) fun _=>.mk he)) fun _=>.mk he) fun t ht=>.mk ht
structure Si (k:Nat) (b:dE):Prop where
 dy:0≤b.day∧b.day≤99999
 ho:0≤b.house∧b.house≤40
 pl:b.volume.parts.length≤k
 pp:∀ p∈b.volume.parts,p.paragraphs.length≤k∧0≤p.day∧p.day≤99999
 er:b.errata.length≤k
 hi:b.hides.length≤12
 ci:b.cites.length≤k
 pa:b.motion.papers.length≤k
 mw:b.motion.words.length≤60
 ch:b.choice.length≤k
 dm:0≤b.division.members∧b.division.members≤40
 dr:0≤b.division.rule∧b.division.rule≤255
 dp:b.division.pairs.length≤k
 da:b.division.ayes.e0.length≤k∧b.division.ayes.e1.length≤k
 dn:b.division.noes.e0.length≤k∧b.division.noes.e1.length≤k
 rs:b.results.length≤k
 rv:∀ x∈b.results,x.toNat≤2
 cv:∀ c∈b.cites,c.length≤130
 vn:b.bound=true→1≤b.volume.number∧b.volume.number≤99
theorem Si.up {k:Nat} {b:dE} (h:Si k b):Si (k+1) b where
 dy:=h.dy
 ho:=h.ho
 pl:=Nat.le_succ_of_le h.pl
 pp p hp:=⟨Nat.le_succ_of_le (h.pp p hp).1,(h.pp p hp).2⟩
 er:=Nat.le_succ_of_le h.er
 hi:=h.hi
 ci:=Nat.le_succ_of_le h.ci
 pa:=Nat.le_succ_of_le h.pa
 mw:=h.mw
 ch:=Nat.le_succ_of_le h.ch
 dm:=h.dm
 dr:=h.dr
 dp:=Nat.le_succ_of_le h.dp
 da:=⟨Nat.le_succ_of_le h.da.1,Nat.le_succ_of_le h.da.2⟩
 dn:=⟨Nat.le_succ_of_le h.dn.1,Nat.le_succ_of_le h.dn.2⟩
 rs:=Nat.le_succ_of_le h.rs
 rv:=h.rv
 cv:=h.cv
 vn:=h.vn
def Ln (k:Nat) (r:aI⊕Int):Prop:=match r with | .inl b=>Si (k+1) b.state | .inr e=>e≠0
theorem Si.ps {k:Nat} {b:dE} (h:Si k b) (hk:k≤100):Ps b.volume:=⟨by have:=h.pl;omega,fun p hp=>by have:=(h.pp p hp).1;omega⟩
def Nm (n:Nat) (l:List Int):Prop:=l.length=n∧∀ x∈l,-999999999≤x∧x≤999999999
variable {k:Nat} {b:aI} {l:List Int} {text:aE}
theorem t30 (h:Si k b.state) (hl:Nm 1 l):T (KF b l text) (Ln k):=by
 have h1:=hl.1;unfold KF;refine T.bd (T.mem (by omega)) fun x hx=>T.bd (.ok (e20 _ _ _)) fun c hc=>T.bd (kK _ _) fun r hr=>?_
 cases r with
 | inl _ =>
  subst hc;simp only [decide_eq_true_eq] at hr;exact .mk (show Si (k+1) _ from { h.up with dy:=⟨Int.le_trans h.dy.1 hr.1,hr.2⟩ })
 | inr _=>exact .mk (by simp [Ln])
theorem t38 (h:Si k b.state) (hl:Nm 1 l):T (KS b l text) (Ln k):=by
 have h1:=hl.1;unfold KS;refine T.bd (kK _ _) fun r _=>?_
 cases r with
 | inr _=>exact .mk (by simp [Ln])
 | inl _ =>
  refine T.bd (T.mem (by omega)) fun x hx=>T.bd (.ok (e20 _ _ _)) fun c hc=>T.bd (kK _ _) fun r hr=>?_
  cases r with
  | inl _ =>
   subst hc;simp only [decide_eq_true_eq] at hr;exact .mk (show Si (k+1) _ from { h.up with ho:=⟨Int.le_trans (by decide) hr.1,hr.2⟩ })
  | inr _=>exact .mk (by simp [Ln])
theorem t32 (h:Si k b.state) (hk:k≤100) (hl:Nm 3 l):T (KL b l text) (Ln k):=by
 have h1:=hl.1;unfold KL;refine T.bd (kK _ _) fun r _=>?_
 cases r with
 | inr _=>exact .mk (by simp [Ln])
 | inl _ =>
  refine T.bd (T.mem (by omega)) fun x hx=>T.bd (T.mem (by omega)) fun y hy=>T.bd (T.mem (by omega)) fun z hz=>T.bd (t53 _ (h.ps hk)) fun e he=>T.bd (BV _) fun r hr=>?_
  cases r with
  | inl _=>exact .mk (show Si (k+1) _ from { h.up with pl:=h.up.pl,vn:=fun _=>(he hr).n })
  | inr _=>exact .mk hr
theorem t61 (h:Si k b.state) (d:aY) (hd:(0≤d.members∧d.members≤40)∧(0≤d.rule∧d.rule≤255)∧d.pairs.length≤k+1∧(d.ayes.e0.length≤k+1∧d.ayes.e1.length≤k+1)∧d.noes.e0.length≤k+1∧d.noes.e1.length≤k+1):T (rL b d) (Ln k):=by
 unfold rL;have h0:T (KZ d) fun _=>True:=by
  unfold KZ;exact T.bd (ZX d hd.2.1) fun _ _=>T.ie (fun _=>.mk trivial) fun _=>.mk trivial
 refine T.bd h0 fun e _=>T.bd (BV _) fun r hr=>?_
 cases r with
 | inl _=>exact .mk (show Si (k+1) _ from { h.up with dm:=hd.1,dr:=hd.2.1,dp:=hd.2.2.1,da:=hd.2.2.2.1,dn:=hd.2.2.2.2 })
 | inr _=>exact .mk hr
theorem t55 (h:Si k b.state) (hk:k≤100) (x:aL):T (oV b x) (Ln k):=by
 unfold oV;refine T.bd (Q:=fun t=>match t with | .inl _=>True | .inr z=>Ln k z) (T.ie (fun _=>T.bd (kK _ _) fun r _=>?_) fun _=>T.bd (kK _ _) fun r _=>?_) fun t ht=>?_
 ·cases r with
  | inl _=>exact .mk trivial
  | inr _=>exact .mk (by simp [Ln])
 ·cases r with
  | inl _=>exact .mk trivial
  | inr _=>exact .mk (by simp [Ln])
 cases t with
 | inr z=>exact .mk ht
 | inl _ =>
  have he:=h.er;have UO:T (KM b.state.errata { x with day:=b.state.day }) fun r=>r.length≤k+1:=by
   unfold KM vK;exact T.bd (Q:=fun r=>r.length≤k) (.ck (by simp;omega) (.mk (by simpa using he))) fun r hr=>.ck (by simp;omega) (.mk (by simp;omega))
  refine T.bd UO fun es hes=>T.bd (t84 _ _ _ (h.ps hk)) fun r _=>T.bd (BV _) fun r hr=>?_
  cases r with
  | inl _=>exact .mk (show Si (k+1) _ from { h.up with er:=hes })
  | inr _=>exact .mk hr
theorem t33 (h:Si k b.state) (hk:k≤100) (hl:Nm 2 l):T (RL b l text) (Ln k):=by
 have h1:=hl.1;unfold RL;refine T.bd (T.mem (by omega)) fun x hx=>T.bd (T.mem (by omega)) fun y hy=>T.bd (t55 h hk _) fun r hr=>?_;cases r <;> exact .mk hr
theorem t34 (h:Si k b.state) (hk:k≤100) (hl:Nm 2 l):T (RM b l text) (Ln k):=by
 have h1:=hl.1;unfold RM;refine T.bd (T.mem (by omega)) fun x hx=>T.bd (T.mem (by omega)) fun y hy=>T.bd (t55 h hk _) fun r hr=>?_;cases r <;> exact .mk hr
theorem t35 (h:Si k b.state) (hk:k≤100) (hl:Nm 3 l):T (RN b l text) (Ln k):=by
 have h1:=hl.1;unfold RN;refine T.bd (T.mem (by omega)) fun x hx=>T.bd (T.mem (by omega)) fun y hy=>T.bd (T.mem (by omega)) fun z hz=>T.bd (t55 h hk _) fun r hr=>?_;cases r <;> exact .mk hr
end T12
set_option maxHeartbeats 4000000
namespace T12
open Go Go.Proofs Pk
variable {k:Nat} {b:aI} {l:List Int} {text:aE}
theorem t36 (h:Si k b.state) (hk:k≤100) (hl:Nm 2 l):T (KP b l text) (Ln k):=by
 have h1:=hl.1;unfold KP;refine T.bd (kK _ _) fun r _=>?_
 cases r with
 | inr _=>exact .mk (by simp [Ln])
 | inl _ =>
  refine T.bd (T.mem (by omega)) fun x hx=>T.bd (.ok (e20 _ _ _)) fun c hc=>T.bd (kK _ _) fun r hr=>?_
  cases r with
  | inr _=>exact .mk (by simp [Ln])
  | inl _ =>
   subst hc;simp only [decide_eq_true_eq] at hr;refine T.bd (T.mem (by omega)) fun y hy=>.ck hr ?_;have h2:=hl.2 y hy;have h3:=h.dy;refine T.bd (t56 _ _ _ _ _ (h.ps hk) (fun p hp=>(h.pp p hp).2) (by omega) (by omega)) fun q hq=>T.bd (BV _) fun r hr=>?_
   cases r with
   | inr _=>exact .mk hr
   | inl _ =>
    have h4:=h.ci;have h0:T (KO b.state.cites q.1) fun r=>r.length≤k+1∧∀ c∈r,c.length≤130:=by
     unfold KO RP
     exact T.bd (Q:=fun (r:List aE)=>r.length≤k∧∀ c∈r,c.length≤130) (.ck (by simp;omega) (.mk ⟨by simpa using h4,h.cv⟩)) fun r hr=>.ck (by omega) (.mk ⟨by simp;omega,fun c hc=>by
      rcases List.mem_append.1 hc with h5|h5
      ·exact hr.2 c h5
      simp only [List.mem_singleton] at h5;subst h5;exact hq⟩)
    exact T.bd h0 fun c hc=>.mk (show Si (k+1) _ from { h.up with ci:=hc.1,cv:=hc.2 })
theorem t37 (h:Si k b.state) (hk:k≤100) (hl:Nm 3 l):T (KR b l text) (Ln k):=by
 have h1:=hl.1;unfold KR;refine T.bd (Q:=fun t=>match t with | .inl _=>True | .inr z=>Ln k z) (T.bd (T.mem (by omega)) fun x hx=>T.bd (.ok (e20 _ _ _)) fun c hc=>T.ie (fun _=>T.bd (T.mem (by omega)) fun y hy=>T.bd (.ok (e20 _ _ _)) fun c hc=>T.bd (kK _ _) fun r _=>?_) fun _=>T.bd (kK _ _) fun r _=>?_) fun t ht=>?_
 ·cases r with
  | inl _=>exact .mk trivial
  | inr _=>exact .mk (by simp [Ln])
 ·cases r with
  | inl _=>exact .mk trivial
  | inr _=>exact .mk (by simp [Ln])
 cases t with
 | inr z=>exact .mk ht
 | inl _ =>
  refine T.bd (kK _ _) fun r hr=>?_
  cases r with
  | inr _=>exact .mk (by simp [Ln])
  | inl _ =>
   simp only [decide_eq_true_eq] at hr;have h0:T (OW b) fun v=>Ps v:=by
    unfold OW OU;exact T.ie (fun _=>.mk (h.ps hk)) fun _=>T.bd (.mk (P:=Ps) ⟨(h.ps hk).1,(h.ps hk).2⟩) fun v hv=>.mk hv
   refine T.bd h0 fun v hv=>T.bd (T.mem (by omega)) fun x hx=>T.bd (t58 v _ x _ hv) fun q _=>T.bd (BV _) fun r hr2=>?_
   cases r with
   | inr _=>exact .mk hr2
   | inl _ =>
    have h2:∀ z,T (EQ b.state.hides z) fun r=>r.length≤12:=fun z=>by
     unfold EQ KQ;exact T.bd (Q:=fun r=>r.length=b.state.hides.length) (.ck (by simp;omega) (.mk (by simp))) fun r hr=>.ck (by simp;omega) (.mk (by simp;omega))
    exact T.bd (T.at (by omega)) fun y _=>T.bd (T.at (by omega)) fun z _=>T.bd (h2 _) fun r hr=>.mk (show Si (k+1) _ from { h.up with hi:=hr })
theorem t39 (h:Si k b.state) (hl:Nm 4 l):T (LA b l text) (Ln k):=by
 have h1:=hl.1;unfold LA;refine T.bd (kK _ _) fun r _=>?_
 cases r with
 | inr _=>exact .mk (by simp [Ln])
 | inl _ =>
  refine T.bd (Q:=fun t=>match t with | .inl _=>(∀ x,l[0]?=some x→0≤x∧x≤255)∧∀ x,l[3]?=some x→0≤x∧x≤255 | .inr z=>Ln k z) (T.bd (T.at (by omega)) fun x hx=>T.bd (.ok (e20 _ _ _)) fun c hc=>T.ie (fun hct=>T.bd (T.at (by omega)) fun y hy=>T.bd (.ok (e20 _ _ _)) fun d hd=>T.bd (kK _ _) fun r hr=>?_) fun _=>T.bd (kK _ _) fun r hr=>?_) fun t ht=>?_
  ·cases r with
   | inl _ =>
    subst hc hd;simp only [decide_eq_true_eq] at hct hr;exact .mk ⟨fun z hz=>by rw [hx] at hz;cases hz;exact hct,fun z hz=>by rw [hy] at hz;cases hz;exact hr⟩
   | inr _=>exact .mk (by simp [Ln])
  ·cases r with
   | inl _=>cases hr
   | inr _=>exact .mk (by simp [Ln])
  cases t with
  | inr z=>exact .mk ht
  | inl _ =>
   refine T.bd (T.at (by omega)) fun x hx=>.ck (ht.1 x hx) (T.bd (T.at (by omega)) fun y _=>T.bd (T.at (by omega)) fun z _=>T.bd (T.at (by omega)) fun w hw=>.ck (ht.2 w hw) (T.bd (t61 h _ ⟨h.ho,ht.1 x hx,Nat.zero_le _,⟨Nat.zero_le _,Nat.zero_le _⟩,Nat.zero_le _,Nat.zero_le _⟩) fun r hr=>?_));cases r <;> exact .mk hr
theorem t41 (h:Si k b.state) (hk:k≤100) (hl:Nm 2 l):T (LE b l text) (Ln k):=by
 have h1:=hl.1;unfold LE;refine T.bd (kK _ _) fun r _=>?_
 cases r with
 | inr _=>exact .mk (by simp [Ln])
 | inl _ =>
  have h2:=h.dp;have h0:∀ z,T (LD b.state.division.pairs z) fun r=>r.length≤k+1:=fun z=>by
   unfold LD RX;exact T.bd (Q:=fun r=>r.length≤k) (.ck (by simp;omega) (.mk (by simpa using h2))) fun r hr=>.ck (by simp;omega) (.mk (by simp;omega))
  refine T.bd (T.at (by omega)) fun x _=>T.bd (T.at (by omega)) fun y _=>T.bd (h0 _) fun ps hps=>T.bd (t61 h _ ⟨h.dm,h.dr,hps,h.up.da,h.up.dn⟩) fun r hr=>?_;cases r <;> exact .mk hr
theorem t42 (h:Si k b.state) (hk:k≤100):T (LU b l text) (Ln k):=by
 unfold LU;refine T.bd (kK _ _) fun r _=>?_
 cases r with
 | inr _=>exact .mk (by simp [Ln])
 | inl _ =>
  refine T.bd (t66 _ h.dr) fun o ho=>T.bd (BV _) fun r hr=>?_
  cases r with
  | inr _=>exact .mk hr
  | inl _ =>
   refine T.bd (kK _ _) fun r hr=>?_
   cases r with
   | inr _=>exact .mk (by simp [Ln])
   | inl _ =>
    simp only [decide_eq_true_eq] at hr;have h2:=h.rs;refine T.bd (T.mem (by omega)) fun x hxm=>?_;have hx:=x.toNat_lt;have h0:T (LT b.state.results (x.toNat:Int)) fun r=>r.length≤k+1∧∀ y∈r,y.toNat≤2:=by
     unfold LT SC
     exact T.bd (Q:=fun (r:List UInt8)=>r.length≤k∧∀ y∈r,y.toNat≤2) (.ck (by simp;omega) (.mk ⟨by simpa using h2,h.rv⟩)) fun r hr=>.ck (by omega) (.ck (by omega) (.mk ⟨by simp;omega,fun y hy=>by
      rcases List.mem_append.1 hy with h5|h5
      ·exact hr.2 y h5
      simp only [List.mem_singleton] at h5;subst h5;have:=ho.2 x hxm;simp;omega⟩))
    exact T.bd h0 fun rs hrs=>.mk (show Si (k+1) _ from { h.up with rs:=hrs.1,rv:=hrs.2,dm:=⟨(by decide:(0:Int)≤0),(by decide:(0:Int)≤40)⟩,dr:=⟨(by decide:(0:Int)≤0),(by decide:(0:Int)≤255)⟩,dp:=Nat.zero_le _,da:=⟨Nat.zero_le _,Nat.zero_le _⟩,dn:=⟨Nat.zero_le _,Nat.zero_le _⟩ })
theorem t68 (hs:text.length≤1073741824):T (FJ text) fun _=>True:=by
 unfold FJ KE;exact T.bd (Q:=fun _=>True) (.ck hs (.mk trivial)) fun _ _=>.mk trivial
theorem t43 (h:Si k b.state) (hs:text.length≤1073741824):T (MB b l text) (Ln k):=by
 unfold MB;refine T.bd (kK _ _) fun r _=>?_
 cases r with
 | inr _=>exact .mk (by simp [Ln])
 | inl _ =>
  refine T.bd (t68 hs) fun ws _=>T.bd (t69 _) fun e he=>T.bd (BV _) fun r hr=>?_
  cases r with
  | inr _=>exact .mk hr
  | inl _=>exact .mk (show Si (k+1) _ from { h.up with pa:=Nat.zero_le _,mw:=(he hr).wl })
theorem t44 (h:Si k b.state) (hk:k≤100) (hl:Nm 4 l) (hs:text.length≤1073741824):T (MD b l text) (Ln k):=by
 have h1:=hl.1;unfold MD;refine T.bd (kK _ _) fun r _=>?_
 cases r with
 | inr _=>exact .mk (by simp [Ln])
 | inl _ =>
  have h2:=h.pa;have h0:∀ z,T (MC b.state.motion.papers z) fun r=>r.length≤k+1:=fun z=>by
   unfold MC SL;exact T.bd (Q:=fun r=>r.length≤k) (.ck (by simp;omega) (.mk (by simpa using h2))) fun r hr=>.ck (by simp;omega) (.mk (by simp;omega))
  refine T.bd (T.at (by omega)) fun _ _=>T.bd (T.at (by omega)) fun _ _=>T.bd (T.at (by omega)) fun _ _=>T.bd (T.at (by omega)) fun _ _=>T.bd (t68 hs) fun ws _=>T.bd (h0 _) fun ps hps=>T.bd (t69 _) fun e _=>T.bd (BV _) fun r hr=>?_
  cases r with
  | inr _=>exact .mk hr
  | inl _=>exact .mk (show Si (k+1) _ from { h.up with pa:=hps })
theorem t64 {l:List Int} (h:l.length≤1000):T (tC l) fun r=>r=l:=by
 unfold tC;exact .ck (by simp;omega) (.mk (by simp))
theorem AE (l:List Int) (x:Int) (i:Nat) (h:i≤l.length):(l.take i++[x]++l.drop i).length=l.length+1:=by simp;omega
theorem t45 (h:Si k b.state) (hk:k≤100) (hl:Nm 1 l):T (MI b l text) (Ln k):=by
 have h1:=hl.1;unfold MI;refine T.bd (kK _ _) fun r _=>?_
 cases r with
 | inr _=>exact .mk (by simp [Ln])
 | inl _ =>
  have h2:=h.ch;refine T.bd (T.at (by omega)) fun x _=>T.bd (t62 _ x (by omega)) fun q hq=>T.bd (kK _ _) fun r _=>?_
  cases r with
  | inr _=>exact .mk (by simp [Ln])
  | inl _ =>
   refine T.bd (t64 (by omega)) fun c hc=>.ck hq.1 (.ck (by subst hc;omega) (.ck (by subst hc;simp;omega) (T.bd (t71 _ _) fun w _=>T.bd (BV _) fun r hr=>?_)))
   cases r with
   | inr _=>exact .mk hr
   | inl _=>exact .mk (show Si (k+1) _ from { h.up with ch:=by subst hc;show (_:List Int).length≤_;rw [AE _ _ _ (by omega)];omega })
end T12
set_option maxHeartbeats 4000000
namespace T12
open Go Go.Proofs Pk
variable {k:Nat} {b:aI} {l:List Int} {text:aE}
theorem NO {ws:List aE} (h:AD ws):(Lib.join ws [32]).length≤21*ws.length:=by
 have hl:∀ {r:List aE},AD r→Lib.lens r≤20*r.length:=fun {r}=>by
  induction r with
  | nil=>intro _;exact Nat.le_refl _
  | cons x r ih =>
   intro h;have h1:=ih fun y hy=>h y (List.mem_cons_of_mem _ hy);have h2:=h x (List.mem_cons_self ..);simp only [Lib.lens,List.map_cons,List.sum_cons,List.length_cons] at h1 ⊢;omega
 cases ws with
 | nil=>exact Nat.le_refl _
 | cons x r =>
  rw [Lib.join_cons,List.length_append,Lib.joinTail_length];have h1:=hl (r:=r) fun y hy=>h y (List.mem_cons_of_mem _ hy);have h2:=h x (List.mem_cons_self ..);simp only [List.length_cons,List.length_nil] at *;omega
theorem t31 (h:Si k b.state) (hk:k≤100) (hl:1≤l.length):T (xG b l text) (Ln k):=by
 unfold xG;refine T.bd (kK _ _) fun r _=>?_
 cases r with
 | inr _=>exact .mk (by simp [Ln])
 | inl _ =>
  have hpl:=h.pl;have h2:T (EC b.state.volume.parts) fun r=>r=b.state.volume.parts:=by
   unfold EC;exact .ck (by simp;omega) (.mk (by simp))
  refine T.bd (T.at (by omega)) fun x _=>T.bd h2 fun ps hps=>?_;have hps1:ps.length≤k:=by rw [hps];exact hpl
  have hps2:∀ p∈ps,p.paragraphs.length≤k∧0≤p.day∧p.day≤99999:=by rw [hps];exact h.pp
  refine T.bd (Q:=fun t=>t=true→1≤ps.length) (T.ie (fun h0=>T.bd (T.at (by omega)) fun _ _=>.mk fun _=>by omega) fun _=>.mk (by simp)) fun t ht=>T.bd (Q:=fun (qs:List eI)=>qs.length≤k+1∧∀ p∈qs,p.paragraphs.length≤k+1∧0≤p.day∧p.day≤99999) (T.ie (fun htt=>?_) fun _=>.ck (by simp;omega) (.mk ⟨by simp;omega,fun p hp=>?_⟩)) fun qs hqs=>?_
  ·have h1:=ht htt;refine .ck (by omega) (T.bd (T.mem (by omega)) fun y hy=>?_);have hy2:=hps2 y hy;have h3:T (AT y.paragraphs ⟨x,text⟩) fun r=>r.length≤k+1:=by
    unfold AT KG;exact T.bd (Q:=fun r=>r.length≤k) (.ck (by simp;omega) (.mk (by simpa using hy2.1))) fun r hr=>.ck (by simp;omega) (.mk (by simp;omega))
   exact T.bd h3 fun r hr=>.mk ⟨by rw [List.length_set];omega,yL (fun p hp=>⟨Nat.le_succ_of_le (hps2 p hp).1,(hps2 p hp).2⟩) ⟨hr,hy2.2⟩⟩
  ·rcases List.mem_append.1 hp with h1|h1
   ·exact ⟨Nat.le_succ_of_le (hps2 p h1).1,(hps2 p h1).2⟩
   simp only [List.mem_singleton] at h1;subst h1;exact ⟨by simp,h.dy⟩
  refine T.bd (Q:=fun v=>Ps v) (.mk ⟨by have:=hqs.1;dsimp only;omega,fun p hp=>by have:=(hqs.2 p hp).1;omega⟩) fun v hv=>T.bd (t53 _ hv) fun e _=>T.bd (BV _) fun r hr=>?_
  cases r with
  | inr _=>exact .mk hr
  | inl _=>exact .mk (show Si (k+1) _ from { h.up with pl:=hqs.1,pp:=hqs.2 })
theorem t46 (h:Si k b.state) (hk:k≤100) (hl:Nm 1 l):T (MJ b l text) (Ln k):=by
 unfold MJ;refine T.bd (Q:=fun t=>match t with | .inl _=>True | .inr z=>Ln k z) (T.ie (fun _=>T.bd (kK _ _) fun r _=>?_) fun _=>T.bd (kK _ _) fun r _=>?_) fun t ht=>?_
 ·cases r with
  | inl _=>exact .mk trivial
  | inr _=>exact .mk (by simp [Ln])
 ·cases r with
  | inl _=>exact .mk trivial
  | inr _=>exact .mk (by simp [Ln])
 cases t with
 | inr z=>exact .mk ht
 | inl _ =>
  refine T.bd (t71 _ _) fun q hq=>T.bd (BV _) fun r hr=>?_
  cases r with
  | inr _=>exact .mk hr
  | inl _ =>
   have h0:T (DV q.1 [32]) fun _=>True:=by
    have h1:=NO hq.1.2.1;have h2:=hq.2.1;unfold DV;exact .ck ⟨by omega,by omega⟩ (.mk trivial)
   refine T.bd h0 fun s _=>T.bd (t31 h hk (by have:=hl.1;omega)) fun r hr=>?_
   cases r with
   | inr _=>exact .mk hr
   | inl y=>exact .mk (show Si (k+1) _ from { (show Si (k+1) y.state from hr) with pa:=Nat.zero_le _,mw:=Nat.zero_le _,ch:=Nat.zero_le _ })
theorem t40 (h:Si k b.state) (hk:k≤100) (hl:Nm 3 l):T (LC b l text) (Ln k):=by
 have h1:=hl.1;have hm:=h.dm;have hda:=h.da;have hdn:=h.dn;unfold LC;refine T.bd (kK _ _) fun r _=>?_
 cases r with
 | inr _=>exact .mk (by simp [Ln])
 | inl _ =>
  refine T.bd (Q:=fun t=>match t with | .inl _=>∀ x,l[1]?=some x→x=0∨x=1 | .inr z=>Ln k z) (T.bd (T.at (by omega)) fun x _=>T.bd (.ok (e20 _ _ _)) fun c _=>T.ie (fun _=>T.bd (T.at (by omega)) fun y hy=>T.bd (.ok (e20 _ _ _)) fun d hd=>T.ie (fun hdt=>T.bd (T.at (by omega)) fun z _=>.ck (by omega) (T.bd (.ok (e20 _ _ _)) fun e _=>T.bd (kK _ _) fun r _=>?_)) fun _=>T.bd (kK _ _) fun r hr=>?_) fun _=>T.bd (kK _ _) fun r hr=>?_) fun t ht=>?_
  ·cases r with
   | inl _ =>
    subst hd;simp only [decide_eq_true_eq] at hdt;exact .mk fun w hw=>by rw [hy] at hw;cases hw;omega
   | inr _=>exact .mk (by simp [Ln])
  ·cases r with
   | inl _=>cases hr
   | inr _=>exact .mk (by simp [Ln])
  ·cases r with
   | inl _=>cases hr
   | inr _=>exact .mk (by simp [Ln])
  cases t with
  | inr z=>exact .mk ht
  | inl _ =>
   have key:∀ (ls:List Int) (x:Int) (f:List Int→aI),ls.length≤k→(∀ q:List Int,q.length≤k+1→Si (k+1) (f q).state)→∀ (q:Int×Bool),0≤q.1∧q.1≤ls.length→T ((tC ls).bind fun r=>cA (0≤q.1) <| cA (q.1.toNat≤r.length) <| cA (r.length+([x]:List Int).length≤1073741824) <| some (.inl (f (r.take q.1.toNat++([x]:List Int)++r.drop q.1.toNat)))) (Ln k):=fun ls x f hls hf q hq=>by
    refine T.bd (t64 (by omega)) fun r hr=>?_;subst hr;exact .ck hq.1 (.ck (by omega) (.ck (by simp;omega) (.mk (hf _ (by rw [AE _ _ _ (by omega)];omega)))))
   refine T.bd (T.at (by omega)) fun y hy=>T.ie (fun _=>T.bd (T.at (by omega)) fun w _=>T.ie (fun _=>T.bd (T.at (by omega)) fun z _=>T.bd (t62 _ _ (by omega)) fun q hq=>T.bd (kK _ _) fun r _=>?_) fun _=>T.bd (T.at (by omega)) fun z _=>T.bd (t62 _ _ (by omega)) fun q hq=>T.bd (kK _ _) fun r _=>?_) fun _=>T.ie (fun _=>T.bd (T.at (by omega)) fun w _=>T.ie (fun _=>T.bd (T.at (by omega)) fun z _=>T.bd (t62 _ _ (by omega)) fun q hq=>T.bd (kK _ _) fun r _=>?_) fun _=>T.bd (T.at (by omega)) fun z _=>T.bd (t62 _ _ (by omega)) fun q hq=>T.bd (kK _ _) fun r _=>?_) fun _=>by have:=ht y hy;omega
   ·cases r with
    | inr _=>exact .mk (by simp [Ln])
    | inl _=>exact key _ z (fun q=>⟨{ b.state with division:={ b.state.division with noes:=⟨q,b.state.division.noes.e1⟩ } }⟩) hdn.1 (fun q hq=>{ h.up with dn:=⟨hq,h.up.dn.2⟩ }) q hq
   ·cases r with
    | inr _=>exact .mk (by simp [Ln])
    | inl _=>exact key _ z (fun q=>⟨{ b.state with division:={ b.state.division with ayes:=⟨q,b.state.division.ayes.e1⟩ } }⟩) hda.1 (fun q hq=>{ h.up with da:=⟨hq,h.up.da.2⟩ }) q hq
   ·cases r with
    | inr _=>exact .mk (by simp [Ln])
    | inl _=>exact key _ z (fun q=>⟨{ b.state with division:={ b.state.division with noes:=⟨b.state.division.noes.e0,q⟩ } }⟩) hdn.2 (fun q hq=>{ h.up with dn:=⟨h.up.dn.1,hq⟩ }) q hq
   cases r with
   | inr _=>exact .mk (by simp [Ln])
   | inl _=>exact key _ z (fun q=>⟨{ b.state with division:={ b.state.division with ayes:=⟨b.state.division.ayes.e0,q⟩ } }⟩) hda.2 (fun q hq=>{ h.up with da:=⟨h.up.da.1,hq⟩ }) q hq
end T12
set_option maxHeartbeats 4000000
namespace T12
open Go Go.Proofs Pk
variable {k:Nat} {b:aI} {l:List Int} {text:aE}
theorem NP {s:aE} (h:(kW s).2=false) : -9223372036854775808≤(kW s).1∧(kW s).1≤9223372036854775807:=by
 unfold kW at h ⊢
 split at h
 ·rename_i v hv;exact Lib.atoiAll_bounds hv
 ·cases h
 cases h
theorem t28 (s:aE) (hs:s.length≤1073741824):T (SO s) fun r=>match r with | .inl n=>(-999999999≤n∧n≤999999999)∧Lib.itoa n=s | .inr _=>True:=by
 unfold SO m69 DE;refine T.bd (.ck hs (.mk (P:=fun r=>r=kW s) rfl)) fun q hq=>T.bd (Q:=fun t=>match t with | .inl _=>(-999999999≤q.1∧q.1≤999999999)∧Lib.itoa q.1=s | .inr z=>∃ u,z=.inr u) (T.ie (fun _=>T.bd (kK _ _) fun r hr=>?_) fun hf=>?_) fun t ht=>?_
 ·cases r with
  | inl _=>cases hr
  | inr _=>exact .mk ⟨_,rfl⟩
 ·have hb:=NP (s:=s) (by subst hq;simpa using hf);rw [← hq] at hb;unfold UT zB;refine T.bd (.ck hb (.mk (P:=fun w=>w=Lib.itoa q.1) rfl)) fun w hw=>T.ie (fun hws=>T.bd (.ok (e20 _ _ _)) fun c hc=>T.bd (kK _ _) fun r hr=>?_) fun _=>T.bd (kK _ _) fun r hr=>?_
  ·cases r with
   | inl _=>subst hc;simp only [decide_eq_true_eq] at hr;exact .mk ⟨hr,hw▸hws⟩
   | inr _=>exact .mk ⟨_,rfl⟩
  cases r with
  | inl _=>cases hr
  | inr _=>exact .mk ⟨_,rfl⟩
 cases t with
 | inl _=>exact .mk ht
 | inr z=>obtain ⟨u,rfl⟩:=ht;exact .mk trivial
theorem UL (s t:aE):(Lib.cut s t).2.1.length≤s.length∧(Lib.cut s t).1.length≤s.length:=by
 unfold Lib.cut;split
 ·simp;omega
 simp
theorem t25 (s t:aE) (h:s.length≤1073741824):T (IM s t) fun r=>r.2.1.length≤s.length∧r.1.length≤s.length:=by
 unfold IM;exact .ck h (.mk (UL s t))
def Wok (w:cX):Prop:=(0≤w.many∧w.many≤4)∧∀ (k:Nat) (b:aI) (l:List Int) (text:aE),Si k b.state→k≤100→Nm w.many.toNat l→text.length≤1000000→T (AZ w.do_ b l text) (Ln k)
theorem fU {t:List (aE×cX)} {s:aE} {w:cX} (h:∀ k x,eN t k=some x→Wok x) (hw:Wok w):∀ k x,eN (put t s w) k=some x→Wok x:=fun k x hx=>by
 rw [iO] at hx
 split at hx
 ·cases hx;exact hw
 exact h k x hx
theorem t26:T UX fun t=>∀ k x,eN t k=some x→Wok x:=by
 unfold UX;refine .mk ?_;refine fU (fU (fU (fU (fU (fU (fU (fU (fU (fU (fU (fU (fU (fU (fU (fU (fU (fun k x h=>by cases h) ?_) ?_) ?_) ?_) ?_) ?_) ?_) ?_) ?_) ?_) ?_) ?_) ?_) ?_) ?_) ?_) ?_
 all_goals refine ⟨⟨by decide,by decide⟩,fun k b l text h hk hl ht=>?_⟩
 ·exact t30 (text:=text) h hl
 ·exact t31 (text:=text) h hk (by have:=hl.1;simp at this;omega)
 ·exact t32 (text:=text) h hk hl
 ·exact t33 (text:=text) h hk hl
 ·exact t34 (text:=text) h hk hl
 ·exact t35 (text:=text) h hk hl
 ·exact t36 (text:=text) h hk hl
 ·exact t37 (text:=text) h hk hl
 ·exact t38 (text:=text) h hl
 ·exact t39 (text:=text) h hl
 ·exact t40 (text:=text) h hk hl
 ·exact t41 (text:=text) h hk hl
 ·exact t42 (l:=l) (text:=text) h hk
 ·exact t43 (l:=l) (text:=text) h (by omega)
 ·exact t44 (text:=text) h hk hl (by omega)
 ·exact t45 (text:=text) h hk hl
 exact t46 (text:=text) h hk hl
theorem t21 (h:Si k b.state) (hk:k≤100) (ht:text.length≤1000000):T (vN b text) fun r=>Si (k+1) r.1.state∧(r.2≠0→r.1=b):=by
 unfold vN;refine T.bd (t25 text [32] (by omega)) fun q hq=>T.bd t26 fun ws hws=>T.bd (kK _ _) fun r hr=>?_
 cases r with
 | inr _=>exact .mk ⟨h.up,fun _=>rfl⟩
 | inl _ =>
  obtain ⟨x,hx⟩:=Option.isSome_iff_exists.1 hr;have hw:=hws _ x hx;have hwm:=hw.1;have hxd:(eN ws q.1).getD ⟨0,false,none⟩=x:=by rw [hx];rfl
  refine T.bd (Q:=fun e=>match e with | .inl r=>r.1.length≤1000000∧Nm x.many.toNat r.2.2 | .inr z=>z=(b,4)) (T.ix x.many.toNat (·.1) (fun (s:Nat×aE×Bool×List Int)=>s.2.1.length≤1000000∧s.2.2.2.length=s.1∧∀ y∈s.2.2.2,-999999999≤y∧y≤999999999) (fun s hs hi=>?_) ⟨by dsimp only;omega,rfl,by simp⟩ (Nat.zero_le _)) fun e he=>?_
  ·obtain ⟨hs1,hs2,hs3⟩:=hs;unfold lN;rw [hxd];refine T.ie (fun hl=>T.bd (kK _ _) fun r _=>?_) fun hl=>.mk ⟨hs1,by dsimp only;omega,hs3⟩
   cases r with
   | inr _=>exact .mk rfl
   | inl _ =>
    refine T.bd (t25 _ _ (by omega)) fun c hc=>T.bd (t28 c.1 (by omega)) fun r hr=>?_
    cases r with
    | inr _=>exact .mk rfl
    | inl y =>
     refine .ck (by omega) (.ck (by omega) (.mk ⟨⟨by dsimp only;omega,by simp [hs2],fun z hz=>?_⟩,rfl,by omega⟩));rcases List.mem_append.1 hz with h1|h1
     ·exact hs3 z h1
     simp only [List.mem_singleton] at h1;subst h1;exact hr.1
  cases e with
  | inr z=>simp only at he;subst he;exact .mk ⟨h.up,fun _=>rfl⟩
  | inl r =>
   refine T.bd (kK _ _) fun u _=>?_
   cases u with
   | inr _=>exact .mk ⟨h.up,fun _=>rfl⟩
   | inl _ =>
    rw [hxd];refine T.bd (hw.2 k b r.2.2 r.1 h hk he.2 he.1) fun g hg=>?_
    cases g with
    | inl y=>exact .mk ⟨hg,fun h0=>absurd rfl h0⟩
    | inr e=>exact .mk ⟨h.up,fun _=>rfl⟩
def s0:aI:=⟨⟨0,0,⟨0,0,0,0,[]⟩,false,[],[],[],⟨[],[]⟩,false,[],⟨0,⟨[],[]⟩,⟨[],[]⟩,[],[],0,0,0,0⟩,false,[]⟩⟩
theorem aAl:Si 0 s0.state:=⟨⟨by decide,by decide⟩,⟨by decide,by decide⟩,by decide,(fun p hp=>absurd hp (List.not_mem_nil)),by decide,by decide,by decide,by decide,by decide,by decide,⟨by decide,by decide⟩,⟨by decide,by decide⟩,by decide,⟨by decide,by decide⟩,⟨by decide,by decide⟩,by decide,(fun x hx=>absurd hx (List.not_mem_nil)),(fun x hx=>absurd hx (List.not_mem_nil)),fun h=>by cases h⟩
end T12
set_option maxHeartbeats 4000000
namespace T12
open Go Go.Proofs Pk
noncomputable def stp (r:aI×List Int) (x:aE):aI×List Int:=let q:=(vN r.1 x).getD (r.1,0);(q.1,r.2++[q.2])
noncomputable def eB (ls:List aE):aI×List Int:=ls.foldl stp (s0,[])
theorem sJ (ls:List aE) (x:aE):eB (ls++[x])=stp (eB ls) x:=by unfold eB;rw [List.foldl_append];rfl
def tW (ls:List aE):Prop:=ls.length≤100∧∀ s∈ls,s.length≤1000000
theorem tW.init {ls:List aE} {x:aE} (h:tW (ls++[x])):tW ls∧ls.length≤99∧x.length≤1000000:=by
 have h1:=h.1;simp at h1;exact ⟨⟨by omega,fun s hs=>h.2 s (List.mem_append.2 (.inl hs))⟩,by omega,h.2 x (List.mem_append.2 (.inr (List.mem_singleton.2 rfl)))⟩
theorem tW.take {ls:List aE} (h:tW ls) (n:Nat):tW (ls.take n):=⟨by rw [List.length_take];have:=h.1;omega,fun s hs=>h.2 s (List.mem_of_mem_take hs)⟩
theorem nZ {α:Type} {P:List α→Prop} (h0:P []) (h1:∀ l x,P l→P (l++[x])) (l:List α):P l:=by
 rw [← List.reverse_reverse l]
 induction l.reverse with
 | nil=>exact h0
 | cons x r ih=>rw [List.reverse_cons];exact h1 _ _ ih
theorem kT (ls:List aE):tW ls→Si ls.length (eB ls).1.state∧(eB ls).2.length=ls.length:=by
 refine nZ (P:=fun ls=>tW ls→Si ls.length (eB ls).1.state∧(eB ls).2.length=ls.length) (fun _=>⟨aAl,rfl⟩) (fun l x ih h=>?_) ls;obtain ⟨h1,h2,h3⟩:=h.init;obtain ⟨h4,h5⟩:=ih h1;obtain ⟨q,h6,h7⟩:=t21 h4 (by omega) h3;rw [sJ,List.length_append];unfold stp;rw [h6];exact ⟨h7.1,by simp [h5]⟩
theorem mC {ls:List aE} {x:aE} (h:tW (ls++[x])):∃ q,vN (eB ls).1 x=some q∧(q.2≠0→q.1=(eB ls).1)∧eB (ls++[x])=(q.1,(eB ls).2++[q.2]):=by
 obtain ⟨h1,h2,h3⟩:=h.init;obtain ⟨q,h6,h7⟩:=t21 (kT ls h1).1 (by omega) h3;refine ⟨q,h6,h7.2,?_⟩;rw [sJ];unfold stp;rw [h6];rfl
theorem e14 {ls:List aE} (h:tW ls):XL ls=some (eB ls):=by
 obtain ⟨r,h1,h2⟩:T (bC (zX ls) (0,s0,[])) fun e=>e=eB ls:=by
  refine T.ix ls.length (·.1) (fun (s:Nat×aI×List Int)=>s.2=eB (ls.take s.1)) (fun s hs hi=>?_) rfl (Nat.zero_le _);unfold zX;refine T.ie (fun hl=>T.bd (T.at (by omega)) fun x hx=>?_) fun hl=>.mk (by rw [hs,List.take_of_length_le (by omega)]);have he:ls.take (s.1+1)=ls.take s.1++[x]:=by rw [List.take_add_one,hx];rfl
  have h3:=h.take (s.1+1);rw [he] at h3;obtain ⟨q,h4,_,h5⟩:=mC h3;have h6:=(kT _ (h.take s.1)).2;rw [← hs] at h4 h5 h6;rw [List.length_take] at h6;refine T.bd (.ok h4) fun q' hq'=>?_;subst hq';exact .ck (by have:=h.1;omega) (.mk ⟨by dsimp only;rw [he,h5],rfl,by omega⟩)
 unfold XL;show (bC (zX ls) (0,s0,[])).bind _=_;rw [h1,h2];rfl
theorem oA {ls:List aE} (h:tW ls):(eB ls).2.length=ls.length:=(kT ls h).2
theorem vZ (ls:List aE):tW ls→∀ n,(eB (ls.take n)).2=(eB ls).2.take n:=by
 refine nZ (P:=fun ls=>tW ls→∀ n,(eB (ls.take n)).2=(eB ls).2.take n) (fun _ n=>by simp [eB]) (fun l x ih h n=>?_) ls;obtain ⟨q,h1,h2,h3⟩:=mC h;have hl:=oA h.init.1;by_cases hn:n≤l.length
 ·rw [List.take_append_of_le_length hn,ih h.init.1 n,h3];dsimp only;rw [List.take_append_of_le_length (by omega)]
 rw [List.take_of_length_le (by simp;omega),List.take_of_length_le (by rw [oA h];simp;omega)]
def Rt (ls:List aE):Prop:=ls.length≤60∧∀ s∈ls,s.length≤400
theorem Rt.lin {ls:List aE} (h:Rt ls):tW ls:=⟨by have:=h.1;omega,fun s hs=>by have:=h.2 s hs;omega⟩
theorem e19 {ls:List aE} (h:Rt ls):UV ls=some 0:=by
 have h0:UU ls RB=some false:=by
  obtain ⟨r,h1,h2⟩:=pA ls RB (fun s=>decide (400<(s.length:Int))) (fun x hx=>rfl) (EB ls RB) (fun i=>rfl);have h3:ls.any (fun s=>decide (400<(s.length:Int)))=false:=by
   rw [List.any_eq_false];intro s hs;have:=h.2 s hs;simp;omega
  unfold UU m55;rw [h1];rcases h2 with ⟨z,rfl,h2⟩|⟨rfl,h2⟩
  ·rw [h3] at h2;cases h2
  rfl
 unfold UV;rw [if_neg (by have:=h.1;omega),h0];rfl
theorem e18 {ls:List aE} (h:Rt ls):m8 ls=some ((eB ls).1.state,(eB ls).2,0):=by
 unfold m8;rw [e19 h];simp only [Option.bind_some];rw [if_neg (by decide),e14 h.lin];rfl
theorem Rt.take {ls:List aE} (h:Rt ls) (n:Nat):Rt (ls.take n):=⟨by rw [List.length_take];have:=h.1;omega,fun s hs=>h.2 s (List.mem_of_mem_take hs)⟩
theorem T.run {ls:List aE} (h:Rt ls):T (m8 ls) fun r=>r=((eB ls).1.state,(eB ls).2,0):=.ok (e18 h)
theorem aAm (x:UInt8):((x.toNat:Int)≠32)↔x≠32:=by
 constructor
 ·intro h e;subst e;exact h rfl
 intro h e;exact h (UInt8.toNat_inj.1 (by have:(32:UInt8).toNat=32:=rfl;omega))
theorem r22 (line:aE) (k:Nat) (hk:k≤line.length) (hl:line.length≤9223372036854775807):T (XA line (k:Int)) fun r=>∃ n:Nat,r=(n:Int)∧k≤n∧n≤line.length∧(∀ j,k≤j→j<n→line[j]?≠some 32)∧(n<line.length→line[n]?=some 32):=by
 unfold XA;refine T.bd (T.lp (fun s=>∃ n:Nat,s=(n:Int)∧k≤n∧n≤line.length∧∀ j,k≤j→j<n→line[j]?≠some 32) (fun s=>line.length-s.toNat) (Q:=fun r=>∃ n:Nat,r=(n:Int)∧k≤n∧n≤line.length∧(∀ j,k≤j→j<n→line[j]?≠some 32)∧(n<line.length→line[n]?=some 32)) (fun s hs=>?_) ⟨k,rfl,Nat.le_refl _,hk,fun j h1 h2=>by omega⟩) fun r hr=>.mk hr;obtain ⟨n,rfl,h1,h2,h3⟩:=hs;unfold OS;refine T.bd (Q:=fun t=>(t=true→n<line.length∧line[n]?≠some 32)∧(t=false→n<line.length→line[n]?=some 32)) (T.ie (fun h=>.ck (by omega) (T.bd (T.at (by omega)) fun x hx=>.mk ⟨fun ht=>⟨by omega,?_⟩,fun ht _=>?_⟩)) fun h=>.mk ⟨by simp,fun _ h'=>by omega⟩) fun t ht=>T.ie (fun htt=>.ck (by have:=(ht.1 htt).1;omega) (.mk ⟨⟨n+1,by omega,by omega,by have:=ht.1 htt;omega,fun j h4 h5=>?_⟩,by have:=ht.1 htt;omega⟩)) fun htf=>.mk ⟨n,rfl,h1,h2,h3,ht.2 (by simpa using htf)⟩
 ·rw [Int.toNat_natCast] at hx;rw [hx];intro e;injection e with e;exact (aAm x).1 (by simpa using ht) e
 ·rw [Int.toNat_natCast] at hx;rw [hx];have:¬((x.toNat:Int)≠32):=by simpa using ht
  rw [aAm] at this;simpa using this
 by_cases hj:j=n
 ·subst hj;exact (ht.1 htt).2
 exact h3 j h4 (by omega)
theorem r23 (w:aE):T (XB w) fun r=>r.1≤4:=by
 unfold XB
 repeat' first
  | exact .mk (by decide)
  | exact .mk trivial
  | refine T.ie (fun _=>?_) fun _=>?_
  | refine T.bd (Q:=fun _=>True) ?_ fun _ _=>?_
theorem PJ {i:Nat} (h:i≤9):10 ^ i≤1000000000:=Nat.le_trans (Nat.pow_le_pow_right (by decide) h) (by decide)
theorem aAn (t:aE) (h9:t.length≤9):T (bC (zM t) (0,0)) fun e=>(t.all vE=true∧e=.inl (mP t 0:Int))∨(t.all vE=false∧e=.inr (0,false)):=by
 refine T.ix t.length (·.1) (fun s=>(t.take s.1).all vE=true∧s.2=(mP (t.take s.1) 0:Int)) (fun s hs hi=>?_) ⟨rfl,rfl⟩ (Nat.zero_le _);have hv:=sY (t.take s.1) 0 hs.1;have hp:=PJ (i:=(t.take s.1).length) (by rw [List.length_take];omega);unfold zM;refine T.ie (fun hl=>T.bd (Q:=fun c=>∀ x,t[s.1]?=some x→c=!vE x) (T.bd (T.at (by omega)) fun x hx=>T.ie (fun h=>.mk fun y hy=>?_) fun h=>.mk fun y hy=>?_) fun c hc=>T.ie (fun hct=>.mk (.inr ⟨?_,rfl⟩)) fun hcf=>.ck (by omega) (T.bd (T.at (by omega)) fun x hx=>?_)) fun hl=>.mk (.inl ?_)
 ·rw [hx] at hy;injection hy with hy;subst hy;simp only [vE,Bool.true_eq,Bool.not_eq_true',decide_eq_false_iff_not];omega
 ·rw [hx] at hy;injection hy with hy;subst hy;unfold vE;by_cases h0:(57:Int)<(x.toNat:Int)
  ·rw [decide_eq_true h0,decide_eq_false (by omega)];rfl
  rw [decide_eq_false h0,decide_eq_true (by omega)];rfl
 ·have hi':s.1<t.length:=by omega
  have:=hc _ (List.getElem?_eq_getElem hi');rw [hct] at this;rw [List.all_eq_false];exact ⟨t[s.1],List.getElem_mem hi',by simpa using this.symm⟩
 ·have hd:=hc x hx;have hd':vE x=true:=by
   cases h:vE x with
   | true=>rfl
   | false=>rw [h] at hd;exact absurd hd hcf
  have hb:=hd';simp only [vE,decide_eq_true_eq] at hb;have h2:(t.take (s.1+1))=t.take s.1++[x]:=by rw [List.take_add_one,hx];rfl
  refine .ck (by omega) (.ck (by omega) (.mk ⟨⟨?_,?_⟩,rfl,by omega⟩))
  ·dsimp only;rw [h2,List.all_append,hs.1];simp [hd']
  dsimp only;rw [h2,pG,hs.2];simp only [mP,List.foldl_cons,List.foldl_nil];omega
 have:t.take s.1=t:=List.take_of_length_le (by omega);rw [this] at hs;exact ⟨hs.1,by rw [hs.2]⟩
theorem r24 (s:aE):T (IN s) fun _=>True:=by
 unfold IN;refine T.bd (Q:=fun t=>t=true→1≤s.length) (T.ie (fun h=>T.bd (T.at (by omega)) fun x _=>.mk fun _=>by omega) fun _=>.mk (by simp)) fun t ht=>T.bd (Q:=fun _=>True) (T.ie (fun h=>.ck (ht h) (.mk trivial)) fun _=>.mk trivial) fun u _=>T.bd (Q:=fun c=>c=false→u.length≤9) (T.ie (fun _=>.mk (by simp)) fun h0=>T.ie (fun _=>.mk (by simp)) fun h9=>T.bd (T.at (by omega)) fun x _=>T.ie (fun _=>T.ie (fun _=>.mk (by simp)) fun _=>.mk fun _=>by omega) fun _=>.mk fun _=>by omega) fun c hc=>T.ie (fun _=>.mk trivial) fun hf=>?_;have h9:=hc (by simpa using hf);refine T.bd (aAn u h9) fun e he=>?_;rcases he with ⟨h1,rfl⟩|⟨h1,rfl⟩
 ·have hv:=sY u 0 h1;have hp:=PJ h9;exact T.bd (Q:=fun _=>True) (T.ie (fun _=>.ck (by omega) (.mk trivial)) fun _=>.mk trivial) fun _ _=>.mk trivial
 exact .mk trivial
theorem aK1 {n:Int} (h : -999999999≤n∧n≤999999999):IN (Lib.itoa n)=some (n,true):=by
 have key:∀ u:Nat,u≤999999999→bC (zM (Lib.decDigits u)) (0,0)=some (.inl (u:Int)):=fun u hu=>by
  obtain ⟨e,h1,h2⟩:=aAn (Lib.decDigits u) (lX (by omega) (by decide));rcases h2 with ⟨_,rfl⟩|⟨h2,_⟩
  ·rw [h1,zL]
  rw [sW] at h2;cases h2
 have hlen:∀ u:Nat,u≤999999999→0<(Lib.decDigits u).length∧(Lib.decDigits u).length≤9:=fun u hu=>⟨List.length_pos_iff.2 (sX u),lX (by omega) (by decide)⟩;have hd0:∀ u:Nat,∃ c r,Lib.decDigits u=c::r∧vE c=true:=fun u=>by
  have h1:=sW u
  cases h2:Lib.decDigits u with
  | nil=>exact absurd h2 (sX u)
  | cons c r=>rw [h2] at h1;simp at h1;exact ⟨c,r,rfl,h1.1⟩
 unfold Lib.itoa;by_cases hn:n<0
 ·rw [if_pos hn];have hl:=hlen n.natAbs (by omega);obtain ⟨c,r,hcr,hc⟩:=hd0 n.natAbs;have hh:=vF (u:=n.natAbs) (by omega);unfold IN;simp only [List.length_cons,List.getElem?_cons_zero,Option.bind_some,List.drop_succ_cons,List.drop_zero];rw [if_pos (by omega),Option.bind_some,if_pos (by decide),kD (by omega),Option.bind_some,if_neg (by omega),if_neg (by omega),hcr];rw [hcr] at hh;simp only [List.getElem?_cons_zero,Option.bind_some]
  rw [if_neg (by
   intro e;apply hh;simp only [List.head?_cons,Option.some.injEq];exact UInt8.toNat_inj.1 (by have:(48:UInt8).toNat=48:=rfl;omega))]
  rw [← hcr,Option.bind_some,if_neg (by decide),key _ (by omega),Option.bind_some];dsimp only;rw [if_pos (by decide),kD (by omega),Option.bind_some];congr 2;omega
 rw [if_neg hn];have hl:=hlen n.toNat (by omega);obtain ⟨c,r,hcr,hc⟩:=hd0 n.toNat;have hc':=hc;simp only [vE,decide_eq_true_eq] at hc';have hz:(c.toNat:Int)=48→¬(1:Int)<((c::r).length:Int):=fun e=>by
  have e':c=48:=UInt8.toNat_inj.1 (by have:(48:UInt8).toNat=48:=rfl;omega);have:n.toNat=0:=by
   rcases Nat.eq_zero_or_pos n.toNat with h|h
   ·exact h
   have:=vF h;rw [hcr,e'] at this;exact absurd rfl this
  rw [← hcr,this,Lib.decDigits_one (by decide)];simp
 unfold IN;rw [if_pos (by omega)];have h0:(Lib.decDigits n.toNat)[0]?=some c:=by rw [hcr];rfl
 rw [h0,Option.bind_some,Option.bind_some,decide_eq_false (by omega),if_neg (by decide),Option.bind_some,if_neg (by omega),if_neg (by omega),h0,Option.bind_some];have:(if (c.toNat:Int)=48 then (if 1<((Lib.decDigits n.toNat).length:Int) then some true else some false) else some false)=some false:=by
  split
  ·rename_i h1
   rw [if_neg (by rw [hcr];exact hz h1)]
  rfl
 rw [this,Option.bind_some,if_neg (by decide),key _ (by omega),Option.bind_some];dsimp only;rw [if_neg (by decide),Option.bind_some,Int.toNat_of_nonneg (by omega)]
abbrev oB:aE:=[115,97,121]
theorem aK2:XB oB=some (1,true):=by decide
def Say (line:aE) (n:Int):Prop:=∃ d t,line=oB++32::(d++32::t)∧(32:UInt8)∉d∧IN d=some (n,true)
theorem r11 (line:aE) (hl:line.length≤9223372036854775807):T (m16 line) fun r=>r.2.2.2=true→r.1=oB→∃ n,r.2.1=[n]∧Say line n:=by
 unfold m16;refine T.bd (r22 line 0 (Nat.zero_le _) hl) fun r1 h1=>?_;obtain ⟨n0,rfl,_,h2,h3,h4⟩:=h1;refine .ck (by omega) (.ck (by omega) (T.bd (Q:=fun r=>r.1≤4∧(line.take n0=oB→r=(1,true))) ?_ fun r8 h8=>?_))
 ·obtain ⟨q,h5,h6⟩:=r23 (line.take n0);refine ⟨q,h5,h6,fun hw=>?_⟩;rw [hw,aK2] at h5;injection h5 with h5;exact h5.symm
 refine T.ie (fun _=>.mk (by simp)) fun hr0=>T.bd (Q:=fun e=>match e with | .inl t=>(∃ a:Nat,t.1=(a:Int)∧a≤line.length)∧(r8.1=1→∃ (a:Nat) (v:Int),t=((a:Int),[v])∧n0<a∧n0<line.length∧a≤line.length∧(∀ j,n0+1≤j→j<a→line[j]?≠some 32)∧IN ((line.drop (n0+1)).take (a-(n0+1)))=some (v,true)∧(a<line.length→line[a]?=some 32)) | .inr z=>z.2.2.2=false) (T.ix r8.1.toNat (·.1) (fun s=>(∃ a:Nat,s.2.1=(a:Int)∧a≤line.length)∧s.2.2.length=s.1∧(s.1=0→s.2.1=(n0:Int)∧s.2.2=[])∧(s.1=1→∃ (a:Nat) (v:Int),s.2=((a:Int),[v])∧n0<a∧n0<line.length∧a≤line.length∧(∀ j,n0+1≤j→j<a→line[j]?≠some 32)∧IN ((line.drop (n0+1)).take (a-(n0+1)))=some (v,true)∧(a<line.length→line[a]?=some 32))) (fun s hs hi=>?_) ⟨⟨n0,rfl,h2⟩,rfl,fun _=>⟨rfl,rfl⟩,fun h=>by cases h⟩ (Nat.zero_le _)) fun e he=>?_
 ·obtain ⟨⟨a,ha,hal⟩,hll,hz,ho⟩:=hs;unfold OT;refine T.ie (fun hlt=>T.ie (fun _=>.mk rfl) fun hne=>.ck (by omega) ?_) fun hge=>.mk ⟨⟨a,ha,hal⟩,fun h1=>?_⟩
  ·rw [ha,show ((a:Int)+1)=((a+1:Nat):Int) by omega];rw [ha] at hne;refine T.bd (r22 line (a+1) (by omega) hl) fun r2 h5=>?_;obtain ⟨b,rfl,h6,h7,h8',hC⟩:=h5;refine .ck (by omega) (.ck (by omega) (.ck (by omega) ?_));obtain ⟨q,h9,_⟩:=r24 ((line.drop ((a+1:Nat):Int).toNat).take ((b:Int).toNat-((a+1:Nat):Int).toNat));refine T.bd (.ok h9) fun q' hq=>?_;subst hq;refine T.ie (fun hq=>.ck (by omega) (.ck (by omega) (.mk ⟨⟨⟨b,rfl,h7⟩,by simp [hll],fun h=>absurd h (Nat.succ_ne_zero _),fun h=>?_⟩,rfl,by clear ho;omega⟩))) fun _=>.mk rfl;have h0:s.1=0:=by dsimp only at h;omega
   obtain ⟨hF,hE⟩:=hz h0;obtain rfl:a=n0:=by rw [ha] at hF;omega
   refine ⟨b,q'.1,by rw [hE];rfl,by omega,by omega,h7,h8',?_,hC⟩;rw [Int.toNat_natCast,Int.toNat_natCast] at h9;rw [h9,← hq]
  have h0:s.1=1:=by omega
  obtain ⟨a',v,h5,h6⟩:=ho h0;exact ⟨a',v,h5,h6⟩
 cases e with
 | inr z=>simp only at he;exact .mk fun h=>by rw [he] at h;cases h
 | inl t =>
  obtain ⟨⟨a,ha,hal⟩,hone⟩:=he;refine T.ie (fun hq=>T.ie (fun hq2=>?_) fun hq2=>.mk fun _ hw=>?_) fun _=>.mk (by simp)
  ·have h9:decide (t.1<(line.length:Int))=true:=by rw [hq2] at hq;simpa using hq
   simp only [decide_eq_true_eq] at h9;refine .ck (by omega) (.ck (by omega) (.ck (by omega) (.mk fun _ hw=>?_)));dsimp only at hw ⊢;rw [Int.toNat_natCast] at hw;obtain ⟨a',v,h5,h6,h7,hF,hE,hI,hC⟩:=hone (by rw [h8.2 hw]);rw [h5] at h9;dsimp only at h9;have hal':a'<line.length:=by omega
   have hA:=hC hal';refine ⟨v,by rw [h5],(line.drop (n0+1)).take (a'-(n0+1)),line.drop (a'+1),?_,?_,hI⟩
   ·have hB:=h4 (by omega);rw [List.getElem?_eq_getElem h7] at hB;injection hB with hB;have hG:=List.drop_eq_getElem_cons h7;rw [hB] at hG;rw [List.getElem?_eq_getElem hal'] at hA;injection hA with hA;have hH:=List.drop_eq_getElem_cons hal';rw [hA] at hH;rw [← hw,← hH]
    conv=>lhs;rw [← List.take_append_drop n0 line,hG,← List.take_append_drop (a'-(n0+1)) (line.drop (n0+1))]
    rw [List.drop_drop,show n0+1+(a'-(n0+1))=a' by omega]
   intro hm;obtain ⟨j,hj⟩:=List.mem_iff_getElem?.1 hm;rw [List.getElem?_take] at hj
   split at hj
   ·rw [List.getElem?_drop] at hj;exact hE (n0+1+j) (by omega) (by omega) hj
   cases hj
  dsimp only at hw;rw [Int.toNat_natCast] at hw;rw [h8.2 hw] at hq2;exact absurd rfl hq2
theorem r6 (ls:List aE) (h:∀ s∈ls,s.length≤9223372036854775807):T (m5 ls) fun _=>True:=by
 unfold m5;refine T.bd (Q:=fun _=>True) (T.ix ls.length (·.1) (fun _=>True) (fun s _ hi=>?_) trivial (Nat.zero_le _)) fun e _=>T.bd (Q:=fun _=>True) ?_ fun _ _=>.mk trivial
 ·unfold XC;refine T.ie (fun hl=>T.bd (T.mem (by omega)) fun x hx=>T.bd (r11 x (h x hx)) fun r _=>T.bd (Q:=fun _=>True) (T.ie (fun _=>.mk trivial) fun _=>.mk trivial) fun _ _=>T.bd (Q:=fun _=>True) (T.ie (fun _=>.mk trivial) fun _=>.mk trivial) fun _ _=>.mk ⟨trivial,rfl,by omega⟩) fun _=>.mk trivial
 repeat' first
  | exact .mk trivial
  | refine T.ie (fun _=>?_) fun _=>?_
theorem r7 (ls:List aE):T (m6 ls) fun r=>r=true→Rt ls:=by
 unfold m6;refine T.bd (Q:=fun e=>match e with | .inl _=>∀ s∈ls,s.length≤400 | .inr z=>z=false) (T.ix ls.length id (fun i=>∀ s∈ls.take i,s.length≤400) (fun i hI hi=>?_) (by simp) (Nat.zero_le _)) fun e he=>?_
 ·unfold XD;refine T.ie (fun hl=>T.bd (T.at (by omega)) fun x hx=>T.ie (fun _=>.mk rfl) fun h4=>.mk ⟨fun s hs=>?_,rfl,by simpa using hl⟩) fun hl=>.mk (by simp only [id] at hi;rw [List.take_of_length_le (by omega)] at hI;exact hI);rw [List.take_add_one,hx] at hs;rcases List.mem_append.1 hs with h|h
  ·exact hI s h
  simp at h;subst h;omega
 cases e with
 | inr z=>simp only at he;subst he;exact .mk (by simp)
 | inl _=>exact .mk fun h=>⟨by have:=of_decide_eq_true h;omega,he⟩
theorem r10 {ls:List aE} (h:ls.length≤1000):m9 ls=some ls:=by
 unfold m9;rw [kD (by simp;omega)];rfl
def Wk {α:Type} (o:Option α) (P:α→Prop):Prop:=∀ v,o=some v→P v
theorem Wk.so {α:Type} {v:α} {P:α→Prop} (h:P v):Wk (some v) P:=fun _ e=>by cases e;exact h
theorem Wk.bd {α β:Type} {o:Option α} {f:α→Option β} {Q:α→Prop} {P:β→Prop} (h:Wk o Q) (k:∀ v,Q v→Wk (f v) P):Wk (o.bind f) P:=fun r e=>by
 obtain ⟨v,h1,h2⟩:=aA e;exact k v (h v h1) r h2
theorem Wk.bt {α β:Type} {o:Option α} {f:α→Option β} {P:β→Prop} (k:∀ v,Wk (f v) P):Wk (o.bind f) P:=fun r e=>by
 obtain ⟨v,h1,h2⟩:=aA e;exact k v r h2
theorem Wk.ck {α:Type} {c:Prop} [Decidable c] {o:Option α} {P:α→Prop} (h:Wk o P):Wk (cA c o) P:=fun r e=>h r (aF e).2
theorem Wk.ie {α:Type} {c:Prop} [Decidable c] {a b:Option α} {P:α→Prop} (h1:c→Wk a P) (h2:¬c→Wk b P):Wk (if c then a else b) P:=by
 by_cases h:c
 ·rw [if_pos h];exact h1 h
 rw [if_neg h];exact h2 h
theorem Wk.id {α:Type} {o:Option α}:Wk o (fun v=>o=some v):=fun _ h=>h
theorem Wk.and {α:Type} {o:Option α} {P Q:α→Prop} (h:Wk o P) (k:Wk o Q):Wk o (fun v=>P v∧Q v):=fun v e=>⟨h v e,k v e⟩
theorem Wk.eq {α:Type} {o:Option α} {w:α} (h:o=some w):Wk o (fun v=>v=w):=fun v e=>by rw [h] at e;cases e;rfl
theorem Wk.no {α:Type} {P:α→Prop}:Wk none P:=fun _ e=>by cases e
theorem T.wk {α:Type} {o:Option α} {P:α→Prop} (h:T o P):Wk o P:=fun v e=>by
 obtain ⟨w,h1,h2⟩:=h;rw [h1] at e;cases e;exact h2
theorem Wk.lp {σ ε:Type} {step:σ→Option (σ⊕ε)} (I:σ→Prop) {Q:ε→Prop} (h:∀ s,I s→Wk (step s) (fun r=>match r with | .inl s'=>I s' | .inr e=>Q e)) {s0:σ} (h0:I s0):Wk (bC step s0) Q:=fun e he=>by
 obtain ⟨n,hn⟩:=nH he;clear he
 induction hn with
 | out h1=>exact h _ h0 _ h1
 | next h1 _ ih=>exact ih (h _ h0 _ h1)
noncomputable def rA (es:List aL):List aL:=(iT pN es).getD []
theorem HW {es:List aL} (h:Ve es):iT pN es=some (rA es)∧(rA es).Perm es∧(rA es).Pairwise UJ:=by
 obtain ⟨r,h1,h2⟩:=tV h.l h.nd;have e:rA es=r:=by unfold rA;rw [h1];rfl
 rw [e];exact ⟨h1,h2⟩
def stA (S:List Int) (x:aL):List Int:=if x.kind=2∧x.anchor∈S then x.new_::S else S
def fA (S:List Int) (l:List aL):List Int:=l.foldl stA S
def mR (g:List (List bZ)):List Int:=g.flatten.map (·.paragraph.anchor)
def A0 (v:bD):List Int:=(iH v).map (·.anchor)
theorem HX {α:Type} {g:List (List α)} {i:Nat} {r:List α} (h:g[i]?=some r) (r':List α):g.flatten=(g.take i).flatten++(r++(g.drop (i+1)).flatten)∧(g.set i r').flatten=(g.take i).flatten++(r'++(g.drop (i+1)).flatten):=by
 obtain ⟨h1,h2⟩:=List.getElem?_eq_some_iff.1 h;constructor
 ·conv=>lhs;rw [← List.take_append_drop i g,List.drop_eq_getElem_cons h1,h2]
  simp
 rw [List.set_eq_take_append_cons_drop,if_pos h1];simp
theorem AF {g:List (List bZ)} {i k:Nat} {r:List bZ} {y:bZ} (h:g[i]?=some r) (hk:r[k]?=some y) {z:bZ} (hz:z.paragraph.anchor=y.paragraph.anchor):mR (g.set i (r.set k z))=mR g:=by
 obtain ⟨h1,h2⟩:=HX h (r.set k z);unfold mR;rw [h1,h2];simp only [List.map_append];congr 2;obtain ⟨h3,h4⟩:=List.getElem?_eq_some_iff.1 hk;rw [List.map_set];have:z.paragraph.anchor=(r.map (·.paragraph.anchor))[k]'(by rw [List.length_map];exact h3):=by rw [List.getElem_map,h4,hz]
 rw [this,List.set_getElem_self]
theorem NQ {g:List (List bZ)} {i k:Nat} {r:List bZ} (h:g[i]?=some r) (z:bZ):(mR (g.set i (r.take k++[z]++r.drop k))).Perm (z.paragraph.anchor::mR g):=by
 obtain ⟨h1,h2⟩:=HX h (r.take k++[z]++r.drop k);unfold mR;rw [h1,h2];rw [← List.map_cons (f:=fun e:bZ=>e.paragraph.anchor)];refine List.Perm.map _ ?_;have e:(g.take i).flatten++(r++(g.drop (i+1)).flatten)=(g.take i).flatten++(r.take k++(r.drop k++(g.drop (i+1)).flatten)):=by rw [← List.append_assoc (r.take k),List.take_append_drop]
 rw [e];refine List.Perm.trans ?_ List.perm_middle;refine List.Perm.append_left _ ?_;rw [List.append_assoc,List.append_assoc];exact List.Perm.append_left _ (List.Perm.refl _) |>.trans List.perm_middle
def IS (g:List (List bZ)) (a:Int) (e:Nat×Nat×Bool):Prop:=if e.2.2 then ∃ r y,g[e.1]?=some r∧r[e.2.1]?=some y∧y.paragraph.anchor=a else a∉mR g
theorem wA {g:List (List bZ)} {a:Int} {n:Nat} {r:List bZ} (h:a∉mR (g.take n)) (hr:g[n]?=some r) (h2:a∉r.map (·.paragraph.anchor)):a∉mR (g.take (n+1)):=by
 unfold mR at *;rw [List.take_add_one,hr];simp only [Option.toList,List.flatten_append,List.flatten_cons,List.flatten_nil,List.append_nil,List.map_append,List.mem_append,not_or];exact ⟨h,h2⟩
theorem AG {r:List bZ} {a:Int} {n:Nat} {y:bZ} (h:a∉(r.take n).map (·.paragraph.anchor)) (hy:r[n]?=some y) (h2:y.paragraph.anchor≠a):a∉(r.take (n+1)).map (·.paragraph.anchor):=by
 rw [List.take_add_one,hy];simp only [Option.toList,List.map_append,List.map_cons,List.map_nil,List.mem_append,List.mem_singleton,not_or];exact ⟨h,fun e=>h2 e.symm⟩
theorem f44 (g:List (List bZ)) (x:aL) (i:Nat):Wk (bC (pH (i,g) x) (0,0,0,false)) (IS g x.anchor):=by
 refine .lp (fun s=>s.2.2.2=false∧x.anchor∉mR (g.take s.2.2.1)) (fun s hs=>?_) ⟨rfl,by simp [mR]⟩;unfold pH;dsimp only;refine .ie (fun hl=>.bd .id fun r hr=>.bd (Q:=fun e=>match e with | .inl q=>q.2.2=false∧x.anchor∉r.map (·.paragraph.anchor) | .inr z=>∃ q y,z=.inr q∧q.2.2=true∧q.1=s.2.2.1∧r[q.2.1]?=some y∧y.paragraph.anchor=x.anchor) (.lp (fun q=>q.2.2.2=false∧x.anchor∉(r.take q.2.2.1).map (·.paragraph.anchor)) (fun q hq=>?_) ⟨hs.1,by simp⟩) fun e he=>?_) fun hl=>.so ?_
 ·unfold zS;exact .ie (fun hl=>.bd .id fun y hy=>.ie (fun ha=>.so ⟨_,y,rfl,rfl,rfl,hy,ha⟩) fun ha=>.ck (.so ⟨hq.1,AG hq.2 hy ha⟩)) fun hl=>.so ⟨hq.1,by have:=hq.2;rwa [List.take_of_length_le (by omega)] at this⟩
 ·cases e with
  | inl q=>exact .ck (.so ⟨he.1,wA hs.2 hr he.2⟩)
  | inr z=>obtain ⟨q,y,rfl,h1,h2,h3,h4⟩:=he;exact .so (by unfold IS;dsimp only;rw [if_pos h1];exact ⟨r,y,by rw [h2];exact hr,h3,h4⟩)
 have:=hs.2;rw [List.take_of_length_le (by omega)] at this;unfold IS;dsimp only;rw [if_neg (by rw [hs.1];decide)];exact this
theorem f25 (g:fY) (a:Int):Wk (bC (pI g a) (0,0,0,false)) (IS g.parts a):=by
 refine .lp (fun s=>s.2.2.2=false∧a∉mR (g.parts.take s.2.2.1)) (fun s hs=>?_) ⟨rfl,by simp [mR]⟩;unfold pI;refine .ie (fun hl=>.bd .id fun r hr=>.bd (Q:=fun e=>match e with | .inl q=>q.2.2=false∧a∉r.map (·.paragraph.anchor) | .inr z=>∃ q y,z=.inr q∧q.2.2=true∧q.1=s.2.2.1∧r[q.2.1]?=some y∧y.paragraph.anchor=a) (.lp (fun q=>q.2.2.2=false∧a∉(r.take q.2.2.1).map (·.paragraph.anchor)) (fun q hq=>?_) ⟨hs.1,by simp⟩) fun e he=>?_) fun hl=>.so ?_
 ·unfold zW;exact .ie (fun hl=>.bd .id fun y hy=>.ie (fun ha=>.so ⟨_,y,rfl,rfl,rfl,hy,ha⟩) fun ha=>.so ⟨hq.1,AG hq.2 hy ha⟩) fun hl=>.so ⟨hq.1,by have:=hq.2;rwa [List.take_of_length_le (by omega)] at this⟩
 ·cases e with
  | inl q=>exact .so ⟨he.1,wA hs.2 hr he.2⟩
  | inr z=>obtain ⟨q,y,rfl,h1,h2,h3,h4⟩:=he;exact .so (by unfold IS;dsimp only;rw [if_pos h1];exact ⟨r,y,by rw [h2];exact hr,h3,h4⟩)
 have:=hs.2;rw [List.take_of_length_le (by omega)] at this;unfold IS;dsimp only;rw [if_neg (by rw [hs.1];decide)];exact this
def g0 (v:bD):List (List bZ):=v.parts.map fun p=>p.paragraphs.map fun y=>⟨y,false⟩
theorem aK4 (v:bD):mR (g0 v)=A0 v:=by
 unfold mR g0 A0 iH
 induction v.parts with
 | nil=>rfl
 | cons p l ih=>simp only [List.map_cons,List.flatten_cons,List.map_append,List.flatMap_cons,ih,List.map_map];rfl
theorem g44 (v:bD):Wk (bC (zR v) (0,([]:List (List bZ)))) fun g=>g=g0 v:=by
 refine .lp (fun s=>s.2=(v.parts.take s.1).map fun p=>p.paragraphs.map fun y=>⟨y,false⟩) (fun s hs=>?_) rfl;unfold zR;refine .ie (fun hl=>.bd .id fun p hp=>.bd (Q:=fun r=>r=p.paragraphs.map fun y=>⟨y,false⟩) (.lp (fun q=>q.2=(p.paragraphs.take q.1).map fun y=>⟨y,false⟩) (fun q hq=>?_) rfl) fun r hr=>.ck (.so ?_)) fun hl=>.so (by rw [hs,List.take_of_length_le (by omega)];rfl)
 ·unfold EJ;exact .ie (fun hl=>.bd .id fun y hy=>.ck (.so (by dsimp only;rw [List.take_add_one,hy,hq];simp))) fun hl=>.so (by rw [hq,List.take_of_length_le (by omega)])
 dsimp only;rw [List.take_add_one,hp,hs,hr];simp
theorem HY {l:List aL} (h:l.Pairwise UJ) {i:Nat} {to_:Int} (h1:∀ x∈l.take i,x.day≤to_) (h2:∀ x,l[i]?=some x→to_<x.day):l.filter (fun x=>decide (x.day≤to_))=l.take i:=by
 conv=>lhs;rw [← List.take_append_drop i l]
 rw [List.filter_append,List.filter_eq_self.2 fun x hx=>decide_eq_true (h1 x hx)];have:(l.drop i).filter (fun x=>decide (x.day≤to_))=[]:=by
  rw [List.filter_eq_nil_iff];intro y hy
  cases hd:l.drop i with
  | nil=>rw [hd] at hy;cases hy
  | cons x r =>
   have hx:l[i]?=some x:=by rw [← Nat.add_zero i,← List.getElem?_drop,hd];rfl
   have h3:=h2 x hx;have h4:(x::r).Pairwise UJ:=hd▸h.sublist (List.drop_sublist i l);rw [hd] at hy;rcases List.mem_cons.1 hy with rfl|h5
   ·simp;omega
   have:=(List.pairwise_cons.1 h4).1 y h5;unfold UJ at this;simp;omega
 rw [this,List.append_nil]
noncomputable def HZ (es:List aL) (to_:Int):List aL:=(rA es).filter fun x=>decide (x.day≤to_)
theorem a44 (v:bD) (es:List aL) (to_:Int) (he:Ve es):Wk (EK v es to_) fun r=>(mR r.parts).Perm (fA (A0 v) (HZ es to_)):=by
 obtain ⟨hs1,hp1,hpw⟩:=HW he;unfold EK;refine .bd (g44 v) fun g hg=>.bd (Q:=fun g=>(mR g).Perm (fA (A0 v) (HZ es to_))) (.bd (.eq (UK he.l)) fun l1 h1=>?_) fun g hg=>.so hg;subst h1;refine .bd (.eq hs1) fun l hl=>?_;subst hl;refine .bd (Q:=fun e=>match e with | .inl g=>(mR g).Perm (fA (A0 v) (HZ l1 to_)) | .inr g=>(mR g).Perm (fA (A0 v) (HZ l1 to_))) (.lp (fun s=>(mR s.2).Perm (fA (A0 v) ((rA l1).take s.1))∧∀ x∈(rA l1).take s.1,x.day≤to_) (fun s hs=>?_) ⟨by rw [hg,aK4];exact List.Perm.refl _,by simp⟩) fun e h=>by cases e <;> exact .so h
 have hst:∀ x,(rA l1)[s.1]?=some x→fA (A0 v) ((rA l1).take (s.1+1))=stA (fA (A0 v) ((rA l1).take s.1)) x:=fun x hx=>by
  unfold fA;rw [List.take_add_one,hx,List.foldl_append];rfl
 unfold zT;refine .ie (fun hlt=>.bd .id fun x hx=>.bd (Q:=fun r=>(r.1=true→to_<x.day∧r.2=s.2)∧(r.1=false→x.day≤to_∧(mR r.2).Perm (fA (A0 v) ((rA l1).take (s.1+1))))) (.ie (fun hd=>.so ⟨fun _=>⟨hd,rfl⟩,fun h=>by cases h⟩) fun hd=>.bd (Q:=fun g=>(mR g).Perm (fA (A0 v) ((rA l1).take (s.1+1)))) ?_ fun g hg=>.so ⟨(fun h=>by cases h),fun _=>⟨by omega,hg⟩⟩) fun r hr=>.ie (fun h1=>.so ?_) fun h1=>.so ⟨(hr.2 (by simpa using h1)).2,fun y hy=>?_⟩) fun hge=>.so ?_
 ·have hmem:x.anchor∈fA (A0 v) ((rA l1).take s.1)↔x.anchor∈mR s.2:=hs.1.mem_iff.symm;refine .bd (Q:=fun t=>IS s.2 x.anchor (t.2.1,t.1,t.2.2)) (.bd (f44 s.2 x s.1) fun e he=>.so he) fun t ht=>?_;rw [hst x hx];unfold stA IS at *;dsimp only at ht;refine .bd (Q:=fun g=>(mR g).Perm (if x.kind=2∧x.anchor∈fA (A0 v) ((rA l1).take s.1) then x.new_::fA (A0 v) ((rA l1).take s.1) else fA (A0 v) ((rA l1).take s.1))) (.ie (fun hf=>?_) fun hf=>.so ?_) fun g hg=>.so hg
  ·rw [if_pos hf] at ht;obtain ⟨r,y,h1,h2,h3⟩:=ht;refine .bt fun _=>.ck (.ie (fun hk=>?_) fun _=>.ie (fun hk=>?_) fun _=>.ie (fun hk=>?_) fun _=>.no)
   ·rw [if_neg (by omega)];refine .bd (Q:=fun g=>(mR g).Perm (fA (A0 v) ((rA l1).take s.1))) (.bd (.eq h1) fun r' e1=>.bd .id fun y' hy'=>.bd (Q:=fun g=>(mR g).Perm (fA (A0 v) ((rA l1).take s.1))) (.ie (fun _=>.so hs.1) fun _=>.so ?_) fun g hg=>.so hg) fun g hg=>.so hg;subst e1;rw [AF h1 hy' (z:=⟨⟨y'.paragraph.anchor,x.text⟩,y'.removed⟩) rfl];exact hs.1
   ·rw [if_neg (by omega)];refine .bd (Q:=fun g=>(mR g).Perm (fA (A0 v) ((rA l1).take s.1))) (.bd (.eq h1) fun r' e1=>.bd .id fun y' hy'=>.so ?_) fun g hg=>.so hg;subst e1;rw [AF h1 hy' (z:=⟨y'.paragraph,true⟩) rfl];exact hs.1
   rw [if_pos ⟨hk,hmem.2 (by
    rw [← h3]
    exact List.mem_map.2 ⟨y,List.mem_flatten.2 ⟨r,List.mem_of_getElem? h1,List.mem_of_getElem? h2⟩,rfl⟩)⟩]
   refine .bd (Q:=fun g=>(mR g).Perm (x.new_::fA (A0 v) ((rA l1).take s.1))) (.bd (.eq h1) fun r' e1=>.ck (.ck (.ck (.so ?_)))) fun g hg=>.so hg;subst e1;exact (NQ h1 _).trans (hs.1.cons _)
  rw [if_neg hf] at ht;rw [if_neg fun h=>ht (hmem.1 h.2)];exact hs.1
 ·obtain ⟨h2,h3⟩:=hr.1 h1;rw [h3];unfold HZ;rw [HY hpw hs.2 fun z hz=>by rw [hx] at hz;cases hz;exact h2];exact hs.1
 ·dsimp only at hy;rw [List.take_add_one,hx] at hy;rcases List.mem_append.1 hy with h|h
  ·exact hs.2 y h
  simp only [Option.toList,List.mem_singleton] at h;subst h;exact (hr.2 (by simpa using h1)).1
 have hll:=hp1.length_eq;unfold HZ;rw [HY hpw hs.2 fun z hz=>by have:=(List.getElem?_eq_some_iff.1 hz).1;omega];exact hs.1
theorem q25 {v:bD} {es:List aL} (h:CB v es=some 0) (hv:Vv v) (he:Ve es) (a to_:Int):Wk (CC v es a to_) fun r=>(r.2.2=0→(0≤to_∧to_≤99999)∧(1≤a∧a≤999)∧a∈fA (A0 v) (HZ es to_))∧(0≤to_→to_≤99999→a∈fA (A0 v) (HZ es to_)→r.2.2=0):=by
 unfold CC;refine .bd (.eq h) fun r0 h0=>.ie (fun h1=>absurd h0 h1) fun _=>.bd (.eq (UF _)) fun b hb=>.ie (fun hbt=>?_) fun hbf=>.so ⟨by simp,fun h1 h2=>?_⟩
 ·subst hb;simp only [decide_eq_true_eq] at hbt;refine .bd ((t90 v es to_ hv he).wk.and (a44 v es to_ he)) fun g hg=>.bd (Q:=fun t=>IS g.parts a (t.2.1,t.1,t.2.2)) (.bd (f25 g a) fun e he=>.so he) fun t ht=>?_;unfold IS at ht;dsimp only at ht;refine .ie (fun h1=>?_) fun h1=>.so ⟨by simp,fun _ _ h2=>?_⟩
  ·rw [if_pos h1] at ht;obtain ⟨r,y,h2,h3,h4⟩:=ht;refine .bt fun _=>.bt fun _=>.so ⟨fun _=>⟨hbt,?_,?_⟩,fun _ _ _=>rfl⟩
   ·rw [← h4];exact ((hg.1.2.2 r (List.mem_of_getElem? h2)).2 y (List.mem_of_getElem? h3)).2.1
   rw [← hg.2.mem_iff,← h4];exact List.mem_map.2 ⟨y,List.mem_flatten.2 ⟨r,List.mem_of_getElem? h2,List.mem_of_getElem? h3⟩,rfl⟩
  rw [if_neg h1] at ht;exact absurd (hg.2.mem_iff.2 h2) ht
 subst hb;simp at hbf;omega
def Q2 {α β:Type} (o:Option α) (o':Option β) (P:α→β→Prop):Prop:=∀ v v',o=some v→o'=some v'→P v v'
theorem Q2.so {α β:Type} {v:α} {v':β} {P:α→β→Prop} (h:P v v'):Q2 (some v) (some v') P:=fun _ _ e e'=>by cases e;cases e';exact h
theorem Q2.bd {α β γ δ:Type} {o:Option α} {o':Option β} {f:α→Option γ} {f':β→Option δ} {Q:α→β→Prop} {P:γ→δ→Prop} (h:Q2 o o' Q) (k:∀ v v',Q v v'→Q2 (f v) (f' v') P):Q2 (o.bind f) (o'.bind f') P:=fun r r' e e'=>by
 obtain ⟨v,h1,h2⟩:=aA e;obtain ⟨v',h3,h4⟩:=aA e';exact k v v' (h v v' h1 h3) r r' h2 h4
theorem Q2.be {α γ δ:Type} {o:Option α} {f:α→Option γ} {f':α→Option δ} {P:γ→δ→Prop} (k:∀ v,Q2 (f v) (f' v) P):Q2 (o.bind f) (o.bind f') P:=fun r r' e e'=>by
 obtain ⟨v,h1,h2⟩:=aA e;obtain ⟨v',h3,h4⟩:=aA e';rw [h1] at h3;cases h3;exact k v r r' h2 h4
theorem Q2.ck {α β:Type} {c c':Prop} [Decidable c] [Decidable c'] {o:Option α} {o':Option β} {P:α→β→Prop} (h:Q2 o o' P):Q2 (cA c o) (cA c' o') P:=fun r r' e e'=>h r r' (aF e).2 (aF e').2
theorem Q2.ie {α β:Type} {c c':Prop} [Decidable c] [Decidable c'] {a b:Option α} {a' b':Option β} {P:α→β→Prop} (hc:c↔c') (h1:c→Q2 a a' P) (h2:¬c→Q2 b b' P):Q2 (if c then a else b) (if c' then a' else b') P:=by
 by_cases h:c
 ·rw [if_pos h,if_pos (hc.1 h)];exact h1 h
 rw [if_neg h,if_neg fun k=>h (hc.2 k)];exact h2 h
theorem Q2.no {α β:Type} {o':Option β} {P:α→β→Prop}:Q2 none o' P:=fun _ _ e=>by cases e
theorem Q2.lp {σ ε σ' ε':Type} {step:σ→Option (σ⊕ε)} {step':σ'→Option (σ'⊕ε')} (I:σ→σ'→Prop) {Q:ε→ε'→Prop} (h:∀ s s',I s s'→Q2 (step s) (step' s') (fun r r'=>match r,r' with | .inl a,.inl a'=>I a a' | .inr e,.inr e'=>Q e e'|_,_=>False)) {s0:σ} {s0':σ'} (h0:I s0 s0'):Q2 (bC step s0) (bC step' s0') Q:=fun e e' he he'=>by
 obtain ⟨n,hn⟩:=nH he;obtain ⟨m,hm⟩:=nH he';clear he he'
 induction hn generalizing s0' m with
 | out h1 =>
  cases hm with
  | out h2=>exact h _ _ h0 _ _ h1 h2
  | next h2 _=>exact (h _ _ h0 _ _ h1 h2).elim
 | next h1 _ ih =>
  cases hm with
  | out h2=>exact (h _ _ h0 _ _ h1 h2).elim
  | next h2 t=>exact ih (h _ _ h0 _ _ h1 h2) _ t
theorem Q2.eq {α:Type} {o o':Option α} (h:o=o'):Q2 o o' (fun v v'=>v=v'):=fun v v' e e'=>by rw [h] at e;rw [e] at e';cases e';rfl
theorem Q2.at {α β γ:Type} {l:List α} {l':List β} {f:α→γ} {f':β→γ} (h:l.map f=l'.map f') (i:Nat):Q2 (l[i]?) (l'[i]?) (fun x x'=>f x=f' x'):=fun x x' e e'=>by
 have:=congrArg (fun l=>l[i]?) h;simp only [List.getElem?_map,e,e',Option.map_some,Option.some.injEq] at this;exact this
theorem kU {α β γ:Type} {l:List α} {l':List β} {f:α→γ} {f':β→γ} (h:l.map f=l'.map f'):l.length=l'.length:=by simpa using congrArg List.length h
noncomputable def kp (p:aH):Int×Option Bool:=(p.anchor,wE p.text)
noncomputable def kq (p:eI):Int×List (Int×Option Bool):=(p.day,p.paragraphs.map kp)
structure Rv (v u:bD):Prop where
 n:v.number=u.number
 b:v.bound=u.bound
 h:v.height=u.height
 w:v.width=u.width
 p:v.parts.map kq=u.parts.map kq
theorem rB {α β γ:Type} {f:α→β} (g:β→γ) {l l':List α} (h:l.map f=l'.map f):l.map (fun x=>g (f x))=l'.map (fun x=>g (f x)):=by
 have:=congrArg (List.map g) h;rw [List.map_map,List.map_map] at this;exact this
theorem q42 {v w:bD} (h:Rv v w):Q2 (CA v) (CA w) (fun l l'=>l.map kp=l'.map kp):=by
 unfold CA;refine .bd (Q:=fun l l'=>l.map kp=l'.map kp) (.lp (fun s s'=>s.1=s'.1∧s.2.map kp=s'.2.map kp) (fun s s' hs=>?_) ⟨rfl,rfl⟩) fun l l' hl=>.so hl;obtain ⟨i,l⟩:=s;obtain ⟨i',l'⟩:=s';obtain ⟨h1,hl⟩:=hs;dsimp only at h1 hl;subst h1;unfold vJ;dsimp only;rw [kU h.p];refine .ie Iff.rfl (fun _=>.bd (.at h.p i) fun x y hxy=>.ck (.so ⟨rfl,?_⟩)) fun _=>.so hl;have h2:x.paragraphs.map kp=y.paragraphs.map kp:=congrArg Prod.snd hxy;rw [List.map_append,List.map_append,hl,h2]
theorem aK6 {p q:aH} (h:kp p=kp q):jP p=jP q:=by
 unfold kp at h;injection h with h1 h2;unfold jP;rw [h1,h2]
theorem aK7 {l l':List aH} (h:l.map kp=l'.map kp):Q2 (AU l jP) (AU l' jP) (fun r r'=>r=r'):=by
 have e:=fun l=>UH l jP (fun p=>(jP p).getD false) fun p _=>(HU p).get;refine .eq ?_;rw [e,e];congr 1;have h2:l.map (fun p=>(jP p).getD false)=l'.map (fun p=>(jP p).getD false):=by
  refine List.ext_getElem? fun i=>?_;have:=congrArg (fun l=>l[i]?) h;simp only [List.getElem?_map] at this ⊢;cases h3:l[i]? <;> cases h4:l'[i]? <;> simp [h3,h4] at this ⊢;rw [aK6 this]
 have h3:∀ l:List aH,(l.all fun p=>(jP p).getD false)=(l.map fun p=>(jP p).getD false).all id:=fun l=>by rw [List.all_map];rfl
 rw [h3,h3,h2]
theorem q61 {v w:bD} (h:Rv v w):Q2 (KK v) (KK w) (fun r r'=>r=r'):=by
 have hl:=kU h.p;have hd:=rB (f:=kq) (·.1) h.p;unfold KK;refine .bd (Q:=fun e e'=>e=e') (.lp (fun s s'=>s=s') (fun s s' hs=>?_) rfl) fun e e' he=>?_
 ·subst hs;unfold zO;rw [hl,h.b];refine .ie Iff.rfl (fun _=>.bd (.at hd s) fun x y hxy=>.bd (Q:=fun t t'=>t=t') ?_ fun t t' ht=>by subst ht;exact .ie Iff.rfl (fun _=>.so rfl) fun _=>.so rfl) fun _=>.so rfl;have hxy':x.day=y.day:=hxy;rw [hxy'];exact .be fun r=>.ie Iff.rfl (fun _=>.ie Iff.rfl (fun _=>.so rfl) fun _=>.ie Iff.rfl (fun _=>.bd (.at hd _) fun a b hab=>.so (by have hab':a.day=b.day:=hab;rw [hab'])) fun _=>.so rfl) fun _=>.so rfl
 subst he
 cases e with
 | inr z=>exact .so rfl
 | inl _ =>
  rw [h.n,h.b,h.h,h.w];refine .bd (Q:=fun t t'=>t=t') ?_ fun t t' ht=>.so ht;exact .be fun _=>.ie Iff.rfl (fun _=>.be fun _=>.ie Iff.rfl (fun _=>.be fun _=>.ie Iff.rfl (fun _=>.be fun _=>.ie Iff.rfl (fun _=>.bd (q42 h) fun l l' hll=>.bd (aK7 hll) fun r r' hr=>.so hr) fun _=>.so rfl) fun _=>.so rfl) fun _=>.so rfl) fun _=>.so rfl
theorem q39 {v w:bD} (h:Rv v w):Q2 (AW v) (AW w) (fun r r'=>r=r'):=by
 unfold AW;refine .bd (q42 h) fun l l' hll=>?_;rw [kU h.p,kU hll];refine .be fun t=>.ie Iff.rfl (fun _=>.so rfl) fun _=>.bd (q61 h) fun r r' hr=>?_;subst hr;refine .ie Iff.rfl (fun _=>.bd (Q:=fun e e'=>e=e') (.lp (fun s s'=>s=s') (fun s s' hs=>?_) rfl) fun e e' he=>?_) fun _=>.so rfl
 ·subst hs;unfold zP;rw [kU hll];refine .ie Iff.rfl (fun _=>.bd (.at (rB (f:=kp) (·.1) hll) s.1) fun x y hxy=>?_) fun _=>.so rfl;have hxy':x.anchor=y.anchor:=hxy;rw [hxy'];exact .ie Iff.rfl (fun _=>.so rfl) fun _=>.so rfl
 subst he;cases e <;> exact .so rfl
theorem q43 {v w:bD} (h:Rv v w) (es:List aL):Q2 (RK v es) (RK w es) (fun r r'=>r=r'):=by
 unfold RK;refine .bd (q42 h) fun l l' hll=>.bd (Q:=fun e e'=>e=e') (.lp (fun s s'=>s=s') (fun s s' hs=>?_) rfl) fun e e' he=>?_
 ·subst hs;unfold EH;rw [kU hll];refine .ie Iff.rfl (fun _=>.bd (.at (rB (f:=kp) (·.1) hll) s.1) fun x y hxy=>?_) fun _=>.so rfl;have hxy':x.anchor=y.anchor:=hxy;rw [hxy'];exact .so rfl
 subst he;exact .eq rfl
theorem q22 {v w:bD} (h:Rv v w) (es:List aL):Q2 (CB v es) (CB w es) (fun r r'=>r=r'):=by
 unfold CB;refine .bd (q39 h) fun r r' hr=>?_;subst hr;refine .ie Iff.rfl (fun _=>.so rfl) fun _=>.ie Iff.rfl (fun _=>.so rfl) fun _=>.be fun _=>.ie Iff.rfl (fun _=>.bd (q42 h) fun l l' hll=>.bd (Q:=fun e e'=>e=e') (.lp (fun s s'=>s=s') (fun s s' hs=>?_) rfl) fun e e' he=>?_) fun _=>.so rfl
 ·subst hs;unfold zQ;rw [kU hll];refine .ie Iff.rfl (fun _=>.bd (.at (rB (f:=kp) (·.1) hll) s.1) fun x y hxy=>?_) fun _=>.so rfl;have hxy':x.anchor=y.anchor:=hxy;rw [hxy'];exact .so rfl
 subst he;refine .be fun e=>?_
 cases e with
 | inr z=>exact .so rfl
 | inl _=>exact .bd (q43 h es) fun r r' hr=>.so hr
def ke (e:bZ):Int×Bool:=(e.paragraph.anchor,e.removed)
def kg (g:List (List bZ)):List (List (Int×Bool)):=g.map (·.map ke)
theorem Rv.g0 {v w:bD} (h:Rv v w):kg (g0 v)=kg (g0 w):=by
 unfold kg T12.g0;rw [List.map_map,List.map_map];have:∀ p:eI,(List.map ke∘fun p:eI=>p.paragraphs.map fun y=>(⟨y,false⟩:bZ)) p=(kq p).2.map fun q=>(q.1,false):=fun p=>by
  simp [kq,kp,ke,Function.comp_def]
 rw [List.map_congr_left fun p _=>this p,List.map_congr_left fun p _=>this p];exact rB (f:=kq) (fun q=>q.2.map fun r=>(r.1,false)) h.p
theorem aLa {g g':List (List bZ)} (hg:kg g=kg g') (x:aL) (i:Nat):Q2 (bC (pH (i,g) x) (0,0,0,false)) (bC (pH (i,g') x) (0,0,0,false)) (fun e e'=>e=e'):=by
 refine .lp (fun s s'=>s=s') (fun s s' hs=>?_) rfl;subst hs;unfold pH;dsimp only;rw [kU hg];refine .ie Iff.rfl (fun _=>.bd (.at hg _) fun r r' hr=>.bd (Q:=fun e e'=>e=e') (.lp (fun q q'=>q=q') (fun q q' hq=>?_) rfl) fun e e' he=>?_) fun _=>.so rfl
 ·subst hq;unfold zS;rw [kU hr];refine .ie Iff.rfl (fun _=>.bd (.at hr _) fun y y' hy=>?_) fun _=>.so rfl;have hy':y.paragraph.anchor=y'.paragraph.anchor:=congrArg Prod.fst hy;rw [hy'];exact .ie Iff.rfl (fun _=>.so rfl) fun _=>.ck (.so rfl)
 subst he
 cases e with
 | inr z=>cases z <;> exact .so rfl
 | inl _=>exact .ck (.so rfl)
theorem aLb {g g':fY} (hg:kg g.parts=kg g'.parts) (a:Int):Q2 (bC (pI g a) (0,0,0,false)) (bC (pI g' a) (0,0,0,false)) (fun e e'=>e=e'):=by
 refine .lp (fun s s'=>s=s') (fun s s' hs=>?_) rfl;subst hs;unfold pI;rw [kU hg];refine .ie Iff.rfl (fun _=>.bd (.at hg _) fun r r' hr=>.bd (Q:=fun e e'=>e=e') (.lp (fun q q'=>q=q') (fun q q' hq=>?_) rfl) fun e e' he=>?_) fun _=>.so rfl
 ·subst hq;unfold zW;rw [kU hr];refine .ie Iff.rfl (fun _=>.bd (.at hr _) fun y y' hy=>?_) fun _=>.so rfl;have hy':y.paragraph.anchor=y'.paragraph.anchor:=congrArg Prod.fst hy;rw [hy'];exact .ie Iff.rfl (fun _=>.so rfl) fun _=>.so rfl
 subst he
 cases e with
 | inr z=>cases z <;> exact .so rfl
 | inl _=>exact .so rfl
theorem yQ {g g':List (List bZ)} (hg:kg g=kg g') {r r':List bZ} (hr:r.map ke=r'.map ke) (i:Nat):kg (g.set i r)=kg (g'.set i r'):=by
 unfold kg at *;rw [List.map_set,List.map_set,hg,hr]
theorem q44 {v w:bD} (h:Rv v w) (es:List aL) (to_:Int):Q2 (EK v es to_) (EK w es to_) (fun r r'=>kg r.parts=kg r'.parts):=by
 unfold EK;refine .bd (Q:=fun g g'=>kg g=kg g') (fun g g' e e'=>by rw [g44 v g e,g44 w g' e'];exact h.g0) fun g g' hg=>.bd (Q:=fun g g'=>kg g=kg g') (.be fun l1=>.be fun l=>.bd (Q:=fun e e'=>match e,e' with | .inl g,.inl g'=>kg g=kg g' | .inr g,.inr g'=>kg g=kg g'|_,_=>False) (.lp (fun s s'=>s.1=s'.1∧kg s.2=kg s'.2) (fun s s' hs=>?_) ⟨rfl,hg⟩) fun e e' he=>?_) fun g g' hg=>.so hg
 ·obtain ⟨i,g⟩:=s;obtain ⟨i',g'⟩:=s';obtain ⟨h1,hg⟩:=hs;dsimp only at h1 hg;subst h1;unfold zT;dsimp only;refine .ie Iff.rfl (fun _=>.be fun x=>.bd (Q:=fun r r'=>r.1=r'.1∧kg r.2=kg r'.2) (.ie Iff.rfl (fun _=>.so ⟨rfl,hg⟩) fun _=>.bd (Q:=fun g g'=>kg g=kg g') ?_ fun g g' hg=>.so ⟨rfl,hg⟩) fun r r' hr=>?_) fun _=>.so hg
  ·refine .bd (Q:=fun t t'=>t=t') (.bd (aLa hg x i) fun e e' he=>by subst he;exact .so rfl) fun t t' ht=>?_;subst ht;refine .bd (Q:=fun g g'=>kg g=kg g') (.ie Iff.rfl (fun _=>.be fun _=>.ck (.ie Iff.rfl (fun _=>?_) fun _=>.ie Iff.rfl (fun _=>?_) fun _=>.ie Iff.rfl (fun _=>?_) fun _=>.no)) fun _=>.so hg) fun g g' hg=>.so hg
   ·refine .bd (Q:=fun g g'=>kg g=kg g') (.bd (.at hg _) fun r r' hr=>.bd (.at hr _) fun y y' hy=>.bd (Q:=fun g g'=>kg g=kg g') ?_ fun g g' hg=>.so hg) fun g g' hg=>.so hg;have h1:y.paragraph.anchor=y'.paragraph.anchor:=congrArg Prod.fst hy;have h2:y.removed=y'.removed:=congrArg Prod.snd hy;rw [h1,h2];exact .ie Iff.rfl (fun _=>.so hg) fun _=>.so (yQ hg (by rw [List.map_set,List.map_set,hr]) _)
   ·refine .bd (Q:=fun g g'=>kg g=kg g') (.bd (.at hg _) fun r r' hr=>.bd (.at hr _) fun y y' hy=>.so (yQ hg ?_ _)) fun g g' hg=>.so hg;have h1:y.paragraph.anchor=y'.paragraph.anchor:=congrArg Prod.fst hy;rw [List.map_set,List.map_set,hr];simp only [ke,h1]
   refine .bd (Q:=fun g g'=>kg g=kg g') (.bd (.at hg _) fun r r' hr=>.ck (.ck (.ck (.so (yQ hg ?_ _))))) fun g g' hg=>.so hg;have hr':r.map ke=r'.map ke:=hr;simp only [List.map_append,List.map_take,List.map_drop,hr']
  obtain ⟨h1,h2⟩:=hr;rw [h1];exact .ie Iff.rfl (fun _=>.so h2) fun _=>.so ⟨rfl,h2⟩
 cases e <;> cases e' <;> first|exact .so he|exact he.elim
theorem q49 {v w:bD} (h:Rv v w) (es:List aL) (to_:Int):Q2 (EM v es to_) (EM w es to_) (fun r r'=>r.2=r'.2∧r.1.map (·.anchor)=r'.1.map (·.anchor)):=by
 unfold EM;refine .bd (q22 h es) fun r r' hr=>?_;subst hr;refine .ie Iff.rfl (fun _=>.so ⟨rfl,rfl⟩) fun _=>.be fun _=>.ie Iff.rfl (fun _=>.bd (q44 h es to_) fun g g' hg=>.bd (Q:=fun l l'=>l.map (·.anchor)=l'.map (·.anchor)) (.lp (fun s s'=>s.1=s'.1∧s.2.map (·.anchor)=s'.2.map (·.anchor)) (fun s s' hs=>?_) ⟨rfl,rfl⟩) fun l l' hl=>.so ⟨rfl,hl⟩) fun _=>.so ⟨rfl,rfl⟩;obtain ⟨i,l⟩:=s;obtain ⟨i',l'⟩:=s';obtain ⟨h1,hl⟩:=hs;dsimp only at h1 hl;subst h1;unfold zV;dsimp only;rw [kU hg];refine .ie Iff.rfl (fun _=>.bd (.at hg _) fun r r' hr=>.bd (Q:=fun l l'=>l.map (·.anchor)=l'.map (·.anchor)) (.lp (fun s s'=>s.1=s'.1∧s.2.map (·.anchor)=s'.2.map (·.anchor)) (fun s s' hs=>?_) ⟨rfl,hl⟩) fun l l' hl=>.so ⟨rfl,hl⟩) fun _=>.so hl;obtain ⟨i2,l2⟩:=s;obtain ⟨i2',l2'⟩:=s';obtain ⟨h1,hl2⟩:=hs;dsimp only at h1 hl2;subst h1;unfold zU;dsimp only;rw [kU hr];refine .ie Iff.rfl (fun _=>.bd (.at hr _) fun y y' hy=>.bd (Q:=fun l l'=>l.map (·.anchor)=l'.map (·.anchor)) ?_ fun l l' hl=>.so ⟨rfl,hl⟩) fun _=>.so hl2;have h1:y.paragraph.anchor=y'.paragraph.anchor:=congrArg Prod.fst hy;have h2:y.removed=y'.removed:=congrArg Prod.snd hy;rw [h2];exact .ie Iff.rfl (fun _=>.so hl2) fun _=>.ck (.so (by simp [hl2,h1]))
theorem aAp {v w:bD} (h:Rv v w) (es:List aL) (a to_:Int):Q2 (CC v es a to_) (CC w es a to_) (fun r r'=>r.2.2=r'.2.2):=by
 unfold CC;refine .bd (q22 h es) fun r r' hr=>?_;subst hr;refine .ie Iff.rfl (fun _=>.so rfl) fun _=>.be fun _=>.ie Iff.rfl (fun _=>.bd (q44 h es to_) fun g g' hg=>.bd (Q:=fun t t'=>t=t') (.bd (aLb hg a) fun e e' he=>by subst he;exact .so rfl) fun t t' ht=>?_) fun _=>.so rfl;subst ht;exact .ie Iff.rfl (fun _=>.bd (.at hg _) fun r r' hr=>.bd (.at hr _) fun y y' hy=>.so rfl) fun _=>.so rfl
theorem q23 {v w:bD} (h:Rv v w) (es:List aL):Q2 (RO v es) (RO w es) (fun l l'=>l.map (·.place.anchor)=l'.map (·.place.anchor)):=by
 unfold RO;rw [h.b];refine .bd (q44 h es _) fun g g' hg=>.bd (Q:=fun l l'=>l.map (·.place.anchor)=l'.map (·.place.anchor)) (.lp (fun s s'=>s.1=s'.1∧s.2.2.map (·.place.anchor)=s'.2.2.map (·.place.anchor)) (fun s s' hs=>?_) ⟨rfl,rfl⟩) fun l l' hl=>.so hl;obtain ⟨i,c,l⟩:=s;obtain ⟨i',c',l'⟩:=s';obtain ⟨h1,hl⟩:=hs;dsimp only at h1 hl;subst h1;unfold EO;dsimp only;rw [kU hg];refine .ie Iff.rfl (fun _=>.bd (.at hg _) fun r r' hr=>.bd (Q:=fun e e'=>e.2.map (·.place.anchor)=e'.2.map (·.place.anchor)) (.lp (fun s s'=>s.2.1=s'.2.1∧s.2.2.2.map (·.place.anchor)=s'.2.2.2.map (·.place.anchor)) (fun s s' hs=>?_) ⟨rfl,hl⟩) fun e e' he=>.ck (.ck (.ck (.ck (.so ⟨rfl,he⟩))))) fun _=>.so hl;obtain ⟨n2,i2,c2,l2⟩:=s;obtain ⟨n2',i2',c2',l2'⟩:=s';obtain ⟨h1,hl2⟩:=hs;dsimp only at h1 hl2;subst h1;unfold EN;dsimp only;rw [kU hr];refine .ie Iff.rfl (fun _=>.bd (Q:=fun e e'=>e.2.2.map (·.place.anchor)=e'.2.2.map (·.place.anchor)) (.bd (.at hr _) fun y y' hy=>?_) fun e e' he=>.so ⟨rfl,he⟩) fun _=>.so hl2;have h1:y.paragraph.anchor=y'.paragraph.anchor:=congrArg Prod.fst hy;have h2:y.removed=y'.removed:=congrArg Prod.snd hy;rw [h2];exact .ie Iff.rfl (fun _=>.so hl2) fun _=>.ck (.ck (.ck (.ck (.ck (.ck (.ck (.ck (.bd (Q:=fun _ _=>True) (fun _ _ _ _=>trivial) fun _ _ _=>.ck (.ck (.so (by simp [hl2,h1])))))))))))
theorem aLd {v w:bD} (h:Rv v w) (es:List aL) (a st to_:Int):Q2 (xJ v es a st to_) (xJ w es a st to_) (fun r r'=>r.2=r'.2):=by
 unfold xJ;refine .bd (q22 h es) fun r r' hr=>?_;subst hr;refine .ie Iff.rfl (fun _=>.so rfl) fun _=>.be fun _=>.ie Iff.rfl (fun _=>.so rfl) fun _=>.ie Iff.rfl (fun _=>.bd (aAp h es a to_) fun r r' hr=>?_) fun _=>.bd (q23 h es) fun l l' hl=>.bd (Q:=fun e e'=>match e,e' with | .inl _,.inl _=>True | .inr z,.inr z'=>z.2=z'.2|_,_=>False) (.lp (fun s s'=>s=s') (fun s s' hs=>?_) rfl) fun e e' he=>?_
 ·rw [hr];exact .ie Iff.rfl (fun _=>.so rfl) fun _=>.be fun _=>.so rfl
 ·subst hs;unfold xI;rw [kU hl];refine .ie Iff.rfl (fun _=>.bd (.at hl s) fun x y hxy=>?_) fun _=>.so trivial;have hxy':x.place.anchor=y.place.anchor:=hxy;rw [hxy'];exact .ie Iff.rfl (fun _=>.so rfl) fun _=>.ie Iff.rfl (fun _=>.bd (Q:=fun _ _=>True) (fun _ _ _ _=>trivial) fun _ _ _=>.so rfl) fun _=>.bd (Q:=fun _ _=>True) (fun _ _ _ _=>trivial) fun _ _ _=>.so rfl
 cases e <;> cases e' <;> first|exact .so rfl|exact .so he|exact he.elim
def Sr (b c:aI):Prop:=∃ v cs,c=⟨{ b.state with volume:=v,cites:=cs }⟩∧Rv b.state.volume v
def Rr (r r':aI⊕Int):Prop:=match r,r' with | .inl c,.inl c'=>Sr c c' | .inr e,.inr e'=>e=e'|_,_=>False
theorem Q2.bs {α β γ δ:Type} {o:Option (α⊕β)} {f:α⊕β→Option γ} {f':α⊕β→Option δ} {P:γ→δ→Prop} (k:∀ v,Q2 (f (.inl v)) (f' (.inl v)) P) (k2:∀ v,Q2 (f (.inr v)) (f' (.inr v)) P):Q2 (o.bind f) (o.bind f') P:=.be fun v=>by
 cases v with
 | inl v=>exact k v
 | inr v=>exact k2 v
theorem Q2.bq {α:Type} {o o':Option (α⊕(aI⊕Int))} {f f':α⊕(aI⊕Int)→Option (aI⊕Int)} (h:Q2 o o' fun t t'=>match t,t' with | .inl _,.inl _=>True | .inr z,.inr z'=>Rr z z'|_,_=>False) (k:∀ v v',Q2 (f (.inl v)) (f' (.inl v')) Rr) (hi:∀ z z',Rr z z'→Q2 (f (.inr z)) (f' (.inr z')) Rr):Q2 (o.bind f) (o'.bind f') Rr:=.bd h fun t t' ht=>by
 cases t <;> cases t' <;> first|exact k _ _|exact hi _ _ ht|exact ht.elim
theorem Q2.br {o o':Option (aI⊕Int)} {f f':aI⊕Int→Option (aI⊕Int)} (h:Q2 o o' Rr) (k:∀ v v',Sr v v'→Q2 (f (.inl v)) (f' (.inl v')) Rr) (hi:∀ e,Q2 (f (.inr e)) (f' (.inr e)) Rr):Q2 (o.bind f) (o'.bind f') Rr:=.bd h fun t t' ht=>by
 cases t <;> cases t' <;> first|exact k _ _ ht|(have e:_=_:=ht;subst e;exact hi _)|exact ht.elim
variable {b:aI} {v':bD} {cs:List aE} {l:List Int} {text x x':aE}
theorem aLe (hR:Rv b.state.volume v') (d:aY):Q2 (rL b d) (rL ⟨{ b.state with volume:=v',cites:=cs }⟩ d) Rr:=by
 unfold rL;exact .be fun _=>.bs (fun _=>.so ⟨v',cs,rfl,hR⟩) fun _=>.so rfl
theorem ss (hR:Rv b.state.volume v'):Q2 (KF b l text) (KF ⟨{ b.state with volume:=v',cites:=cs }⟩ l text) Rr∧Q2 (KS b l text) (KS ⟨{ b.state with volume:=v',cites:=cs }⟩ l text) Rr∧Q2 (LA b l text) (LA ⟨{ b.state with volume:=v',cites:=cs }⟩ l text) Rr∧Q2 (LC b l text) (LC ⟨{ b.state with volume:=v',cites:=cs }⟩ l text) Rr∧Q2 (LE b l text) (LE ⟨{ b.state with volume:=v',cites:=cs }⟩ l text) Rr∧Q2 (LU b l text) (LU ⟨{ b.state with volume:=v',cites:=cs }⟩ l text) Rr∧Q2 (MB b l text) (MB ⟨{ b.state with volume:=v',cites:=cs }⟩ l text) Rr∧Q2 (MD b l text) (MD ⟨{ b.state with volume:=v',cites:=cs }⟩ l text) Rr∧Q2 (MI b l text) (MI ⟨{ b.state with volume:=v',cites:=cs }⟩ l text) Rr:=by
 refine ⟨?_,?_,?_,?_,?_,?_,?_,?_,?_⟩ <;> (first|unfold KF|unfold KS|unfold LA|unfold LC|unfold LE|unfold LU|unfold MB|unfold MD|unfold MI) <;> dsimp only <;> repeat' (first|exact .so rfl|exact .so trivial|exact .so ⟨v',cs,rfl,hR⟩|exact .br (aLe hR _) (fun _ _ h=>.so h) fun _=>.so rfl|refine .bq ?_ (fun _ _=>?_) fun _ _ h=>.so h|refine .bs (fun _=>?_) fun _=>?_|refine .be fun _=>?_|refine .ck ?_|refine .ie Iff.rfl (fun _=>?_) fun _=>?_|exact .no)
theorem s83 (hR:Rv b.state.volume v') (hx:wE x=wE x'):Q2 (xG b l x) (xG ⟨{ b.state with volume:=v',cites:=cs }⟩ l x') Rr:=by
 unfold xG;dsimp only;refine .bs (fun _=>.be fun n=>.bd (Q:=fun ps ps'=>ps.map kq=ps'.map kq) ?_ fun ps ps' hp=>?_) fun _=>.so rfl
 ·unfold EC;exact .ck (.so (by simpa using hR.p))
 rw [kU hp];refine .bd (Q:=fun t t'=>t=t') (.ie Iff.rfl (fun _=>.bd (.at hp _) fun y y' hy=>.so ?_) fun _=>.so rfl) fun t t' ht=>?_
 ·have:y.day=y'.day:=congrArg Prod.fst hy;rw [this]
 subst ht;refine .bd (Q:=fun ps ps'=>ps.map kq=ps'.map kq) (.ie Iff.rfl (fun _=>.ck (.bd (.at hp _) fun y y' hy=>.bd (Q:=fun q q'=>q.map kp=q'.map kp) ?_ fun q q' hq=>.so ?_)) fun _=>.ck (.so ?_)) fun qs qs' hq=>?_
 ·have h2:y.paragraphs.map kp=y'.paragraphs.map kp:=congrArg Prod.snd hy;unfold AT KG;exact .bd (Q:=fun q q'=>q.map kp=q'.map kp) (.ck (.so (by simpa using h2))) fun q q' hq=>.ck (.so (by simp [hq,kp,hx]))
 ·have h1:y.day=y'.day:=congrArg Prod.fst hy;rw [List.map_set,List.map_set,hp];simp only [kq,h1,hq]
 ·simp only [List.map_append,hp];simp [kq,kp,hx]
 refine .bd (Q:=Rv) ?_ fun v w hv=>.bd (q39 hv) fun e e' he=>?_
 ·unfold OU;exact .so ⟨rfl,rfl,rfl,rfl,hq⟩
 subst he;exact .bs (fun _=>.so ⟨{ v' with parts:=qs' },cs,rfl,⟨hR.n,hR.b,hR.h,hR.w,hq⟩⟩) fun _=>.so rfl
theorem s84 (hR:Rv b.state.volume v'):Q2 (KL b l text) (KL ⟨{ b.state with volume:=v',cites:=cs }⟩ l text) Rr:=by
 unfold KL;dsimp only;refine .bs (fun _=>.be fun n=>.be fun h=>.be fun w=>.bd (q39 ⟨rfl,rfl,rfl,rfl,hR.p⟩) fun e e' he=>?_) fun _=>.so rfl;subst he;exact .bs (fun _=>.so ⟨_,cs,rfl,⟨rfl,rfl,rfl,rfl,hR.p⟩⟩) fun _=>.so rfl
theorem aLg (hR:Rv b.state.volume v') (y:aL):Q2 (oV b y) (oV ⟨{ b.state with volume:=v',cites:=cs }⟩ y) Rr:=by
 unfold oV;dsimp only;rw [← hR.b];refine .bq (.ie Iff.rfl (fun _=>.bs (fun _=>.so trivial) fun _=>.so rfl) fun _=>.bs (fun _=>.so trivial) fun _=>.so rfl) (fun _ _=>.be fun es=>.bd (q49 hR es _) fun r r' hr=>?_) fun _ _ h=>.so h;rw [hr.1];exact .bs (fun _=>.so ⟨v',cs,rfl,hR⟩) fun _=>.so rfl
theorem s88 (hR:Rv b.state.volume v'):Q2 (KP b l text) (KP ⟨{ b.state with volume:=v',cites:=cs }⟩ l text) Rr:=by
 unfold KP;dsimp only;refine .bs (fun _=>.be fun st=>.be fun _=>.bs (fun _=>.be fun a=>.ck (.bd (aLd hR _ _ _ _) fun r r' hr=>?_)) fun _=>.so rfl) fun _=>.so rfl;rw [hr];exact .bs (fun _=>.bd (Q:=fun _ _=>True) (fun _ _ _ _=>trivial) fun c c' _=>.so ⟨v',c',rfl,hR⟩) fun _=>.so rfl
theorem s50 (hR:Rv b.state.volume v'):Q2 (OW b) (OW ⟨{ b.state with volume:=v',cites:=cs }⟩) Rv:=by
 unfold OW OU;exact .ie Iff.rfl (fun _=>.so hR) fun _=>.bd (Q:=Rv) (.so ⟨rfl,rfl,rfl,rfl,hR.p⟩) fun v w h=>.so h
theorem s89 (hR:Rv b.state.volume v'):Q2 (KR b l text) (KR ⟨{ b.state with volume:=v',cites:=cs }⟩ l text) Rr:=by
 unfold KR;dsimp only;refine .bq (.be fun _=>.be fun _=>.ie Iff.rfl (fun _=>.be fun _=>.be fun _=>.bs (fun _=>.so trivial) fun _=>.so rfl) fun _=>.bs (fun _=>.so trivial) fun _=>.so rfl) (fun _ _=>.bs (fun _=>.bd (s50 hR) fun v w hv=>.be fun a=>.bd (aAp hv _ _ _) fun r r' hr=>?_) fun _=>.so rfl) fun _ _ h=>.so h;rw [hr];exact .bs (fun _=>.be fun _=>.be fun _=>.be fun _=>.so ⟨v',cs,rfl,hR⟩) fun _=>.so rfl
theorem s98 (hR:Rv b.state.volume v'):Q2 (MJ b l text) (MJ ⟨{ b.state with volume:=v',cites:=cs }⟩ l text) Rr:=by
 unfold MJ;dsimp only;refine .bq (.ie Iff.rfl (fun _=>.bs (fun _=>.so trivial) fun _=>.so rfl) fun _=>.bs (fun _=>.so trivial) fun _=>.so rfl) (fun _ _=>.be fun _=>.bs (fun _=>.be fun _=>.br (s83 hR rfl) (fun y y' hy=>?_) fun _=>.so rfl) fun _=>.so rfl) fun _ _ h=>.so h;obtain ⟨v,c,rfl,h⟩:=hy;exact .so ⟨v,c,rfl,h⟩
theorem sDo {c:aI} (h:Sr b c) (q:Option Nat):Q2 (AZ q b l text) (AZ q c l text) Rr:=by
 obtain ⟨v',cs,rfl,hR⟩:=h;have g:=@ss b v' cs l text hR;have e:∀ y,Q2 (oV b y) (oV ⟨{ b.state with volume:=v',cites:=cs }⟩ y) Rr:=aLg hR;unfold AZ;refine .ie Iff.rfl (fun _=>g.1) fun _=>.ie Iff.rfl (fun _=>s83 hR rfl) fun _=>.ie Iff.rfl (fun _=>s84 hR) fun _=>.ie Iff.rfl (fun _=>?_) fun _=>.ie Iff.rfl (fun _=>?_) fun _=>.ie Iff.rfl (fun _=>?_) fun _=>.ie Iff.rfl (fun _=>s88 hR) fun _=>.ie Iff.rfl (fun _=>s89 hR) fun _=>.ie Iff.rfl (fun _=>g.2.1) fun _=>.ie Iff.rfl (fun _=>g.2.2.1) fun _=>.ie Iff.rfl (fun _=>g.2.2.2.1) fun _=>.ie Iff.rfl (fun _=>g.2.2.2.2.1) fun _=>.ie Iff.rfl (fun _=>g.2.2.2.2.2.1) fun _=>.ie Iff.rfl (fun _=>g.2.2.2.2.2.2.1) fun _=>.ie Iff.rfl (fun _=>g.2.2.2.2.2.2.2.1) fun _=>.ie Iff.rfl (fun _=>g.2.2.2.2.2.2.2.2) fun _=>.ie Iff.rfl (fun _=>s98 hR) fun _=>.no
 ·unfold RL;exact .be fun _=>.be fun _=>.br (e _) (fun _ _ h=>.so h) fun _=>.so rfl
 ·unfold RM;exact .be fun _=>.be fun _=>.br (e _) (fun _ _ h=>.so h) fun _=>.so rfl
 unfold RN;exact .be fun _=>.be fun _=>.be fun _=>.br (e _) (fun _ _ h=>.so h) fun _=>.so rfl
theorem s38 {c:aI} (h:Sr b c):Q2 (vN b text) (vN c text) (fun r r'=>Sr r.1 r'.1∧r.2=r'.2):=by
 unfold vN;refine .be fun r4=>.be fun r7=>.bs (fun _=>.bd (Q:=fun e e'=>match e,e' with | .inl t,.inl t'=>t=t' | .inr z,.inr z'=>Sr z.1 z'.1∧z.2=z'.2|_,_=>False) (.lp (fun s s'=>s=s') (fun s s' hs=>?_) rfl) fun e e' he=>?_) fun _=>.so ⟨h,rfl⟩
 ·subst hs;unfold lN;exact .ie Iff.rfl (fun _=>.bs (fun _=>.be fun _=>.bs (fun _=>.ck (.ck (.so rfl))) fun _=>.so ⟨h,rfl⟩) fun _=>.so ⟨h,rfl⟩) fun _=>.so rfl
 cases e <;> cases e' <;> try exact he.elim
 ·subst he
  exact .bs (fun _=>.bd (sDo h _) fun r r' hr=>by
   cases r <;> cases r' <;> first|exact .so ⟨hr,rfl⟩|exact .so ⟨h,hr⟩|exact hr.elim) fun _=>.so ⟨h,rfl⟩
 exact .so he
end T12
set_option maxHeartbeats 4000000
namespace T12
open Go Go.Proofs Pk
theorem BW (l r sub:aE):Lib.occAt (l++r) sub l.length=sub.isPrefixOf r:=by unfold Lib.occAt;rw [List.drop_left]
theorem IA {l r:aE} {c:UInt8} (h:c∉l):Lib.cut (l++c::r) [c]=(l,r,true):=by
 have hi:Lib.index (l++c::r) [c]=l.length:=by
  refine Lib.index_first (by simp) (by rw [BW];simp) (fun j hj=>?_)
  cases hb:Lib.occAt (l++c::r) [c] j with
  | false=>rfl
  | true =>
   have:=Lib.occAt_head rfl hb;rw [List.getElem?_append_left hj] at this;exact absurd (List.mem_of_getElem? this) h
 unfold Lib.cut;rw [hi,if_pos (by omega)];simp only [Int.toNat_natCast,List.take_left];congr 1;congr 1;rw [show l++c::r=(l++[c])++r by simp,List.drop_left' (by simp)]
theorem aLh:∀ (k u:Nat),u<10 ^ (k+1)→u<1000000000→∀ j,tL (k+1+j) (u:Int)=some (Lib.decDigits u):=by
 have base:∀ (u j:Nat),u<10→tL (j+1) (u:Int)=some (Lib.decDigits u):=fun u j hu=>by
  unfold tL;rw [if_pos (by omega),kD (by omega),kD (by omega),Lib.decDigits,dif_pos hu,show (48+(u:Int)%10).toNat=48+u by omega]
 intro k
 induction k with
 | zero=>intro u hu _ j;rw [show 0+1+j=j+1 by omega];exact base u j (by omega)
 | succ k ih =>
  intro u hu hb j;by_cases h:u<10
  ·rw [show k+1+1+j=(k+1+j)+1 by omega];exact base u _ h
  have hp:10 ^ (k+1+1)=10 ^ (k+1)*10:=Nat.pow_succ ..;have h1:10≤10 ^ (k+1):=by
   have:=Nat.pow_le_pow_right (n:=10) (by decide) (show 1≤k+1 by omega);simpa using this
  have l1:=lX (u:=u/10) (k:=9) (by omega) (by decide);have l2:=lX (u:=u%10) (k:=9) (by omega) (by decide);rw [show k+1+1+j=(k+1+j)+1 by omega];unfold tL;rw [if_neg (by omega),kD (by omega),show (u:Int)/10=((u/10:Nat):Int) by omega,show (u:Int)%10=((u%10:Nat):Int) by omega,ih (u/10) (by omega) (by omega) j,ih (u%10) (by omega) (by omega) j];simp only [Option.bind_some];rw [kD (by omega),kD (by omega)]
  conv=>rhs;rw [Lib.decDigits,dif_neg h]
  rw [show Lib.decDigits (u%10)=[UInt8.ofNat (48+u%10)] by rw [Lib.decDigits,dif_pos (show u%10<10 by omega)]]
theorem e15 {n:Int} (h:0≤n∧n≤999999999):T (m15 n) fun r=>r=Lib.itoa n:=by
 unfold m15;refine T.rc (.ok ?_);have:=aLh 9 n.toNat (by omega) (by omega) 99990;rw [show (n.toNat:Int)=n by omega] at this;unfold Lib.itoa;rw [if_neg (by omega)];exact this
abbrev sil:aE:=[115,105,108,101,110,99,101]
theorem aLj:∀ t,UX=some t→eN t oB=some ⟨1,true,some 83⟩:=by
 intro t ht;unfold UX at ht;injection ht with ht;subst ht;rfl
theorem l38 (b:aI) {d x:aE} (hd:(32:UInt8)∉d) (hl:d.length≤1000000) (hx:x.length≤1000000):vN b (oB++32::(d++32::x))=(SO d).bind fun q=>match q with | .inr _=>some (b,4) | .inl n=>(xG b [n] x).bind fun g=>match g with | .inl y=>some (y,0) | .inr e=>some (b,e):=by
 have hc1:IM (oB++32::(d++32::x)) [32]=some (oB,d++32::x,true):=by
  unfold IM;rw [kD (by simp;omega),IA (by decide)]
 have hc2:IM (d++32::x) [32]=some (d,x,true):=by
  unfold IM;rw [kD (by simp;omega),IA hd]
 obtain ⟨t,ht,_⟩:=t26;have hk1:=aLj t ht;unfold vN;rw [hc1,Option.bind_some,ht,Option.bind_some];dsimp only;rw [hk1,Option.isSome_some,show jL true 4=some (.inl ()) from rfl,Option.bind_some];dsimp only
 cases hq:SO d with
 | none =>
  have:∀ o,bC (lN t (oB,d++32::x,true) b) (0,d++32::x,true,[])≠some o:=fun o ho=>by
   obtain ⟨n,hn⟩:=nH ho;have hs:lN t (oB,d++32::x,true) b (0,d++32::x,true,[])=none:=by
    unfold lN;dsimp only;rw [hk1];show (if ((0:Nat):Int)<1 then _ else _)=_;rw [if_pos (by decide),show jL true 4=some (.inl ()) from rfl,Option.bind_some];dsimp only;rw [hc2,Option.bind_some,hq];rfl
   cases hn with
   | out h=>rw [hs] at h;cases h
   | next h _=>rw [hs] at h;cases h
  cases ho:bC (lN t (oB,d++32::x,true) b) (0,d++32::x,true,[]) with
  | none=>rfl
  | some o=>exact absurd ho (this o)
 | some q =>
  cases q with
  | inr u =>
   rw [dX (e:=.inr (b,4))]
   ·rfl
   unfold lN;dsimp only;rw [hk1];show (if ((0:Nat):Int)<1 then _ else _)=_;rw [if_pos (by decide),show jL true 4=some (.inl ()) from rfl,Option.bind_some];dsimp only;rw [hc2,Option.bind_some,hq,Option.bind_some]
  | inl n =>
   rw [fQ (s':=(1,x,true,[n])),dX (e:=.inl (x,true,[n]))]
   ·simp only [Option.bind_some];show (jL true 4).bind _=_;rw [show jL true 4=some (.inl ()) from rfl,Option.bind_some];dsimp only;rw [show AZ (((some ({ many:=1,text:=true,do_:=some 83 }:cX)).getD ⟨0,false,none⟩).do_) b [n] x=xG b [n] x by unfold AZ;rfl];congr 1
   ·unfold lN;dsimp only;rw [hk1];show (if ((1:Nat):Int)<1 then _ else _)=_;rw [if_neg (by decide)]
   unfold lN;dsimp only;rw [hk1];show (if ((0:Nat):Int)<1 then _ else _)=_;rw [if_pos (by decide),show jL true 4=some (.inl ()) from rfl,Option.bind_some];dsimp only;rw [hc2,Option.bind_some,hq,Option.bind_some];dsimp only;rw [kD (by decide),kD (by decide)];rfl
theorem p42 (v:bD):Wk (CA v) fun l=>l=iH v:=by
 unfold CA;refine .bd (Q:=fun l=>l=iH v) (.lp (fun s=>s.2=(v.parts.take s.1).flatMap (·.paragraphs)) (fun s hs=>?_) rfl) fun l hl=>.so hl;unfold vJ;exact .ie (fun hl=>.bd .id fun x hx=>.ck (.so (by dsimp only;rw [List.take_add_one,hx,hs,List.flatMap_append];simp))) fun hl=>.so (by rw [hs,List.take_of_length_le (by omega)];rfl)
theorem aLl (p:aH):Wk (jP p) fun r=>r=true→wE p.text=some true:=by
 unfold jP;exact .bd (Q:=fun r=>r=true→wE p.text=some true) (.bt fun _=>.ie (fun _=>.bd .id fun r hr=>.so fun h=>by rw [hr,h]) fun _=>.so (by simp)) fun r hr=>.so hr
theorem p39 (v:bD):Wk (AW v) fun r=>r=0→∀ p∈iH v,wE p.text=some true:=by
 have h0:Wk (KK v) fun r=>r=true→∀ p∈iH v,wE p.text=some true:=by
  unfold KK;refine .bd (Q:=fun e=>match e with | .inl _=>True | .inr z=>z=false) (.lp (fun _=>True) (fun s _=>?_) trivial) fun e he=>?_
  ·unfold zO;exact .ie (fun _=>.bt fun _=>.bt fun _=>.ie (fun _=>.so rfl) fun _=>.so trivial) fun _=>.so trivial
  cases e with
  | inr z=>simp only at he;subst he;exact .so (by simp)
  | inl _ =>
   refine .bd (Q:=fun r=>r=true→∀ p∈iH v,wE p.text=some true) ?_ fun r hr=>.so hr;refine .bt fun _=>.ie (fun _=>.bt fun _=>.ie (fun _=>.bt fun _=>.ie (fun _=>.bt fun _=>.ie (fun _=>.bd (p42 v) fun l hl=>.bd (.eq (UH l jP (fun p=>(jP p).getD false) fun p _=>(HU p).get)) fun r hr=>.so fun h p hp=>?_) fun _=>.so (by simp)) fun _=>.so (by simp)) fun _=>.so (by simp)) fun _=>.so (by simp);rw [hr,List.all_eq_true] at h;subst hl;have:=h p hp;exact aLl p true (by rw [(HU p).get,this]) rfl
 unfold AW
 exact .bt fun _=>.bt fun _=>.ie (fun _=>.so (by simp)) fun _=>.bd h0 fun r hr=>.ie (fun h=>.bt fun e=>by
  cases e with
  | inr z=>exact .so fun _=>hr h
  | inl _=>exact .so fun _=>hr h) fun _=>.so (by simp)
theorem p83 {b:aI} {n:Int} {x:aE}:Wk (xG b [n] x) fun r=>match r with | .inl _=>wE x=some true | .inr _=>True:=by
 unfold xG;refine .bt fun r=>?_
 cases r with
 | inr _=>exact .so trivial
 | inl _ =>
  refine .bt fun k=>.bt fun ps=>.bt fun t=>.bd (Q:=fun qs=>∃ q∈qs,(⟨k,x⟩:aH)∈q.paragraphs) (.ie (fun _=>.ck (.bd .id fun y hy=>.bd (Q:=fun r=>(⟨k,x⟩:aH)∈r) ?_ fun r hr=>.so ⟨⟨y.day,r⟩,List.mem_set (List.getElem?_eq_some_iff.1 hy).1 _,hr⟩)) fun _=>.ck (.so ⟨_,List.mem_append.2 (.inr (List.mem_singleton.2 rfl)),List.mem_singleton.2 rfl⟩)) fun qs hqs=>.bd (Q:=fun v=>v.parts=qs) ?_ fun v hv=>.bd (p39 v) fun e he=>.bd (T.wk (BV _)) fun r hr=>?_
  ·unfold AT;exact .bt fun _=>.ck (.so (List.mem_append.2 (.inr (List.mem_singleton.2 rfl))))
  ·unfold OU;exact .so rfl
  cases r with
  | inr _=>exact .so trivial
  | inl _ =>
   obtain ⟨q,hq,hx⟩:=hqs;exact .so (he hr ⟨k,x⟩ (by unfold iH;rw [hv];exact List.mem_flatMap.2 ⟨q,hq,hx⟩))
theorem aLm:wE sil=some true:=by kernel_rfl
theorem acc {k:Nat} {b c:aI} {line:aE} {n:Int} (h:Si k b.state) (hk:k≤100) (hS:Say line n) (hl:line.length≤1000000) (hm:vN b line=some (c,0)):∃ d t,line=oB++32::(d++32::t)∧(32:UInt8)∉d∧Lib.itoa n=d∧(-999999999≤n∧n≤999999999)∧SO d=some (.inl n)∧xG b [n] t=some (.inl c):=by
 obtain ⟨d,t,rfl,hd,hw⟩:=hS;simp at hl;rw [l38 b hd (by omega) (by omega)] at hm;obtain ⟨q,hq,h2⟩:=aA hm;obtain ⟨q2,hq2,h3⟩:=t28 d (by omega);rw [hq] at hq2;cases hq2
 cases q with
 | inr u=>cases h2
 | inl n' =>
  obtain ⟨h4,h5⟩:=h3;have h6:=aK1 h4;rw [h5,hw] at h6;obtain rfl:n=n':=by injection h6 with h6;injection h6
  obtain ⟨g,hg,h7⟩:=aA h2;obtain ⟨g2,hg2,h8⟩:=t31 (b:=b) (l:=[n]) (text:=t) h hk (Nat.le_refl _);rw [hg] at hg2;cases hg2
  cases g with
  | inl y=>injection h7 with h7;injection h7 with h7 _;subst h7;exact ⟨d,t,rfl,hd,h5,h4,hq,hg⟩
  | inr e=>injection h7 with h7;injection h7 with _ h7;exact absurd h7 h8
noncomputable def pz (x:aE):aE×List Int×aE×Bool:=(m16 x).getD ([],[],[],false)
noncomputable def yR (x:aE):Int:=(pz x).2.1[0]?.getD 0
noncomputable def IB (x:aE) (e:Int):Bool:=(pz x).2.2.2&&decide ((pz x).1=oB)&&decide (e=0)&&decide (0≤yR x)
noncomputable def rp (x:aE) (e:Int):aE:=if IB x e then oB++32::(Lib.itoa (yR x)++32::sil) else x
noncomputable def wB (ls:List aE) (es:List Int):List aE:=(ls.zip es).map fun p=>rp p.1 p.2
theorem IC {ls:List aE} {es:List Int} (h:es.length=ls.length) (x:aE) (e:Int):wB (ls++[x]) (es++[e])=wB ls es++[rp x e]:=by
 unfold wB;rw [List.zip_append h.symm,List.map_append];rfl
theorem UM {ls:List aE} {es:List Int} {i:Nat} {x:aE} {e:Int} (h1:ls[i]?=some x) (h2:es[i]?=some e):(wB ls es)[i]?=some (rp x e):=by
 unfold wB;rw [List.getElem?_map,show (ls.zip es)[i]?=some (x,e) from List.getElem?_zip_eq_some.2 ⟨h1,h2⟩];rfl
theorem yS {x:aE} {e:Int} (hl:x.length≤9223372036854775807) (h:IB x e=true):Say x (yR x)∧e=0∧0≤yR x:=by
 obtain ⟨r,h1,h2⟩:=r11 x hl;have hp:pz x=r:=by unfold pz;rw [h1];rfl
 unfold IB at h;simp only [Bool.and_eq_true,decide_eq_true_eq] at h;obtain ⟨⟨⟨h3,h4⟩,h5⟩,h6⟩:=h;rw [hp] at h3 h4;obtain ⟨n,h7,h8⟩:=h2 h3 h4;have:yR x=n:=by unfold yR;rw [hp,h7];rfl
 rw [this] at h6 ⊢;exact ⟨h8,h5,h6⟩
theorem sim (ls:List aE):tW ls→Sr (eB ls).1 (eB (wB ls (eB ls).2)).1∧(wB ls (eB ls).2).length=ls.length∧∀ s∈wB ls (eB ls).2,s.length≤30∨s∈ls:=by
 refine nZ (P:=fun ls=>tW ls→Sr (eB ls).1 (eB (wB ls (eB ls).2)).1∧(wB ls (eB ls).2).length=ls.length∧∀ s∈wB ls (eB ls).2,s.length≤30∨s∈ls) (fun _=>⟨⟨_,_,rfl,⟨rfl,rfl,rfl,rfl,rfl⟩⟩,rfl,by simp [wB]⟩) (fun l x ih h=>?_) ls;obtain ⟨q,h1,h2,h3⟩:=mC h;obtain ⟨h4,h5,h6⟩:=ih h.init.1;obtain ⟨hL,hll,hx⟩:=h.init;have hlen:=oA hL;have key:(rp x q.2).length≤30∨rp x q.2=x:=by
  unfold rp
  split
  ·rename_i hc
   obtain ⟨hS,h0,_⟩:=yS (by omega) hc;obtain ⟨d,t,_,_,hd,hb,_⟩:=acc (kT l hL).1 (by omega) hS hx (show vN (eB l).1 x=some (q.1,0) by rw [h1,← h0]);have:=nY (n:=yR x) (by omega);left;simp;omega
  exact .inr rfl
 have hL':tW (wB l (eB l).2++[rp x q.2]):=⟨by rw [List.length_append,h5];simp;omega,fun s hs=>by
  rcases List.mem_append.1 hs with g|g
  ·rcases h6 s g with g|g
   ·omega
   exact hL.2 s g
  rw [List.mem_singleton.1 g];rcases key with g|g
  ·omega
  rw [g];exact hx⟩
 obtain ⟨q',k1,_,k3⟩:=mC hL';rw [h3];dsimp only;rw [IC hlen,k3];refine ⟨?_,by rw [List.length_append,List.length_append,h5];rfl,fun s hs=>?_⟩
 ·dsimp only;by_cases hc:IB x q.2=true
  ·obtain ⟨hS,h0,_⟩:=yS (by omega) hc;obtain ⟨d,t,e1,hd,he,hb,h7,UO⟩:=acc (kT l hL).1 (by omega) hS hx (show vN (eB l).1 x=some (q.1,0) by rw [h1,← h0]);unfold rp at k1;have hi:=nY (n:=yR x) (by omega);rw [if_pos hc,l38 _ (by rw [he];exact hd) (by omega) (by simp),he,h7,Option.bind_some] at k1;obtain ⟨g,hg,k4⟩:=aA k1;obtain ⟨v,cs,e2,hR⟩:=h4;rw [e2] at hg;have:=s83 (l:=[yR x]) (x:=t) (x':=sil) hR (by rw [p83 _ UO,aLm]) _ _ UO hg
   cases g with
   | inr e=>exact this.elim
   | inl y=>injection k4 with k4;rw [← k4];exact this
  unfold rp at k1;rw [if_neg hc] at k1;exact (s38 h4 q q' h1 k1).1
 rcases List.mem_append.1 hs with g|g
 ·rcases h6 s g with g|g
  ·exact .inl g
  exact .inr (List.mem_append.2 (.inl g))
 rw [List.mem_singleton.1 g];rcases key with g|g
 ·exact .inl g
 rw [g];exact .inr (by simp)
theorem ID {ls:List aE} (h:Rt ls):Rt (wB ls (eB ls).2):=by
 obtain ⟨_,h1,h2⟩:=sim ls h.lin
 exact ⟨by rw [h1];exact h.1,fun s hs=>by
  rcases h2 s hs with g|g
  ·omega
  exact h.2 s g⟩
theorem IE {ls:List aE} (h:Rt ls) (r0:dE×List Int×Int) (h1:r0.2.1=(eB ls).2):T (bC (MN ls r0) (0,ls)) fun e=>e=wB ls (eB ls).2:=by
 have hL:=h.lin;have hlen:=oA hL;have hol:=(sim ls hL).2.1;refine T.ix ls.length (·.1) (fun s=>s.2=(wB ls (eB ls).2).take s.1++ls.drop s.1) (fun s hs hi=>?_) rfl (Nat.zero_le _);unfold MN;rw [h1];refine T.ie (fun hl=>?_) fun hl=>.mk (by rw [hs,List.take_of_length_le (by omega),List.drop_of_length_le (by omega),List.append_nil]);have hi':s.1<ls.length:=by omega
 refine T.bd (T.at hi') fun x hx=>?_;have hxl:=h.2 x (List.mem_of_getElem? hx);obtain ⟨r,hr,hrP⟩:=r11 x (by omega);have hp:pz x=r:=by unfold pz;rw [hr];rfl
 obtain ⟨e,he⟩:∃ e,(eB ls).2[s.1]?=some e:=⟨_,List.getElem?_eq_getElem (by omega)⟩;refine T.bd (.ok hr) fun r' hr'=>?_;subst hr';have hat:s.2[s.1]?=some x:=by
  rw [hs,List.getElem?_append_right (by rw [List.length_take];omega),List.length_take,Nat.min_eq_left (by omega),Nat.sub_self,List.getElem?_drop];exact hx
 refine T.bd (Q:=fun t=>t=IB x e) (T.ie (fun c1=>T.ie (fun c2=>T.bd (.ok he) fun e' he'=>T.ie (fun c3=>?_) fun c3=>.mk ?_) fun c2=>.mk ?_) fun c1=>.mk ?_) fun t ht=>T.bd (Q:=fun l=>l=s.2.set s.1 (rp x e)) (T.ie (fun hc=>?_) fun hc=>.mk ?_) fun l hl=>.mk ⟨?_,rfl,by omega⟩
 ·obtain ⟨n,c4,_⟩:=hrP c1 c2;have hn:yR x=n:=by unfold yR;rw [hp,c4];rfl
  rw [c4];refine T.bd (Q:=fun y=>y=n) ⟨n,rfl,rfl⟩ fun y hy=>.mk ?_;subst he';unfold IB;rw [hp,hn,hy,c1,decide_eq_true c2,decide_eq_true c3];rfl
 ·subst he';unfold IB;rw [decide_eq_false c3];simp
 ·unfold IB;rw [hp,decide_eq_false c2];simp
 ·unfold IB;rw [hp,Bool.eq_false_iff.2 c1];simp
 ·rw [hc] at ht;obtain ⟨hS,h0,hn0⟩:=yS (by omega) ht.symm;have hstep:ls.take (s.1+1)=ls.take s.1++[x]:=by rw [List.take_add_one,hx];rfl
  have hLi:=hL.take (s.1+1);rw [hstep] at hLi;obtain ⟨q,k1,_,k3⟩:=mC hLi;have hq:q.2=e:=by
   have g1:=vZ ls hL (s.1+1);rw [hstep,k3] at g1;have g2:=vZ ls hL s.1;have g3:=congrArg (fun l=>l[s.1]?) g1;dsimp only at g3;rw [List.getElem?_append_right (by rw [g2,List.length_take];omega),g2,List.length_take,Nat.min_eq_left (by omega),Nat.sub_self,List.getElem?_take,if_pos (by omega),he] at g3;simpa using g3
  obtain ⟨d,t',_,_,_,hb,_⟩:=acc (kT _ (hL.take s.1)).1 (by rw [List.length_take];have:=h.1;omega) hS (by omega) (show vN (eB (ls.take s.1)).1 x=some (q.1,0) by rw [k1,← h0,← hq]);refine T.bd (Q:=fun y=>y=yR x) ?_ fun y hy=>?_
  ·obtain ⟨n,c4,_⟩:∃ n,r'.2.1=[n]∧True:=by
    have g:=ht.symm;unfold IB at g;simp only [Bool.and_eq_true,decide_eq_true_eq] at g;rw [hp] at g;obtain ⟨n,c4,_⟩:=hrP g.1.1.1 g.1.1.2;exact ⟨n,c4,trivial⟩
   have hn:yR x=n:=by unfold yR;rw [hp,c4];rfl
   rw [c4,hn];exact ⟨n,rfl,rfl⟩
  subst hy;refine T.bd (e15 ⟨hn0,hb.2⟩) fun w hw=>?_;subst hw;have hi2:=nY (n:=yR x) (by omega);refine .ck (by simp;omega) (.ck (by simp;omega) (T.bd (.ok hat) fun z hz=>.mk ?_));unfold rp;rw [if_pos ht.symm];simp
 ·have:IB x e=false:=by rw [← ht];simpa using hc
  unfold rp;rw [this,if_neg (by decide)];obtain ⟨g1,g2⟩:=List.getElem?_eq_some_iff.1 hat;rw [← g2,List.set_getElem_self]
 have ho:=UM hx he;have hol':s.1<(wB ls (eB ls).2).length:=by omega
 rw [hl,hs];dsimp only;rw [List.set_append_right _ _ (by rw [List.length_take];omega),List.length_take,Nat.min_eq_left (by omega),Nat.sub_self,List.drop_eq_getElem_cons hi',List.set_cons_zero,List.take_add_one,ho];simp
theorem d39 (v:bD):Wk (AW v) fun r=>r=0→(A0 v).Nodup:=by
 unfold AW;refine .bd (p42 v) fun l hl=>.bt fun _=>.ie (fun _=>.so (by simp)) fun _=>.bt fun _=>.ie (fun _=>.bd (Q:=fun e=>match e with | .inl _=>(l.map (·.anchor)).Nodup | .inr z=>z=6) (.lp (fun s=>(∀ k,(eN s.2 k).getD false=true↔k∈(l.take s.1).map (·.anchor))∧((l.take s.1).map (·.anchor)).Nodup) (fun s hs=>?_) ⟨by simp [eN],by simp⟩) fun e he=>?_) fun _=>.so (by simp)
 ·unfold zP;refine .ie (fun hlt=>.bd .id fun x hx=>.ie (fun _=>.so rfl) fun hn=>.so ⟨fun k=>?_,?_⟩) fun hge=>.so (by have:=hs.2;rwa [List.take_of_length_le (by omega)] at this)
  ·dsimp only;rw [iO,List.take_add_one,hx,List.map_append,List.mem_append,← hs.1 k];by_cases hk:k=x.anchor <;> simp [hk]
  dsimp only;rw [List.take_add_one,hx,List.map_append];exact List.nodup_append.2 ⟨hs.2,by simp,fun a ha b hb hab=>by simp at hb;subst hb hab;exact hn ((hs.1 _).2 ha)⟩
 cases e with
 | inr z=>simp only at he;subst he;exact .so (by simp)
 | inl _=>subst hl;exact .so fun _=>he
def news (l:List aL):List Int:=(l.filter fun x=>decide (x.kind=2)).map (·.new_)
theorem pC (l:List aL) (x:aL):news (l++[x])=news l++if x.kind=2 then [x.new_] else []:=by
 unfold news;rw [List.filter_append,List.map_append];by_cases h:x.kind=2 <;> simp [h]
structure Nd (v:bD) (es:List aL):Prop where
 a:(A0 v).Nodup
 n:(news es).Nodup
 d:∀ k∈news es,k∉A0 v
theorem d22 (v:bD) (es:List aL):Wk (CB v es) fun r=>r=0→Nd v es:=by
 unfold CB;refine .bd (d39 v) fun r h0=>.ie (fun h=>.so fun h1=>absurd h1 h) fun hr=>.ie (fun _=>.so (by simp)) fun _=>.bt fun _=>.ie (fun _=>.bd (p42 v) fun l hl=>.bd (Q:=fun m=>∀ k,(eN m k).getD false=true↔k∈A0 v) (.lp (fun s=>∀ k,(eN s.2 k).getD false=true↔k∈(l.take s.1).map (·.anchor)) (fun s hs=>?_) (by simp [eN])) fun m hm=>.bd (Q:=fun e=>match e with | .inl _=>(news es).Nodup∧∀ k∈news es,k∉A0 v | .inr z=>z=6) (.lp (fun s=>(∀ k,(eN s.2.2 k).getD false=true↔k∈A0 v∨k∈news (es.take s.1))∧(news (es.take s.1)).Nodup∧∀ k∈news (es.take s.1),k∉A0 v) (fun s hs=>?_) ⟨by simpa [news] using hm,by simp [news],by simp [news]⟩) fun e he=>?_) fun _=>.so (by simp)
 ·unfold zQ;refine .ie (fun hlt=>.bd .id fun x hx=>.so fun k=>?_) fun hge=>.so (by rw [List.take_of_length_le (by omega)] at hs;subst hl;exact hs);dsimp only;rw [iO,List.take_add_one,hx,List.map_append,List.mem_append,← hs k];by_cases hk:k=x.anchor <;> simp [hk]
 ·unfold EI;obtain ⟨h1,h2,h3⟩:=hs;refine .ie (fun hlt=>.bd .id fun x hx=>.bd (Q:=fun t=>t=false→x.kind=2→¬(x.new_∈A0 v∨x.new_∈news (es.take s.1))) (.ie (fun _=>.so (by simp)) fun _=>.ie (fun _=>.so fun h _=>by rw [← h1,h];simp) fun hk=>.so fun _ h=>absurd h hk) fun t ht=>.ie (fun _=>.so rfl) fun hf=>.bd (Q:=fun m=>∀ k,(eN m k).getD false=true↔k∈A0 v∨k∈news (es.take (s.1+1))) ?_ fun m hm=>.so ⟨hm,?_⟩) fun hge=>.so (by rw [List.take_of_length_le (by omega)] at h2 h3;exact ⟨h2,h3⟩)
  ·rw [List.take_add_one,hx];refine .ie (fun hk=>.so fun k=>?_) fun hk=>.so fun k=>?_
   ·rw [iO,Option.toList,pC,if_pos hk,List.mem_append];by_cases e:k=x.new_
    ·simp [e]
    rw [if_neg e,h1 k];simp [e]
   rw [Option.toList,pC,if_neg hk,List.append_nil,h1 k]
  dsimp only;rw [List.take_add_one,hx,Option.toList,pC];by_cases hk:x.kind=2
  ·have:=ht (by simpa using hf) hk;rw [if_pos hk];refine ⟨List.nodup_append.2 ⟨h2,by simp,fun a ha b hb hab=>by simp at hb;subst hb hab;exact this (.inr ha)⟩,fun k hk2=>?_⟩;rcases List.mem_append.1 hk2 with g|g
   ·exact h3 k g
   rw [List.mem_singleton.1 g];exact fun g=>this (.inl g)
  rw [if_neg hk,List.append_nil];exact ⟨h2,h3⟩
 cases e with
 | inr z=>simp only at he;subst he;exact .so (by simp)
 | inl _=>exact .bt fun r2=>.so fun _=>⟨h0 (by omega),he.1,he.2⟩
theorem IF:∀ (l:List aL) (S:List Int),S.Nodup→(news l).Nodup→(∀ k∈news l,k∉S)→(fA S l).Nodup∧(fA S l).length≤S.length+l.length
 | [],S,h,_,_=>⟨h,Nat.le_add_right ..⟩
 | x::l,S,h,h1,h2=>by
  have e:fA S (x::l)=fA (stA S x) l:=rfl;have hn:news (x::l)=(if x.kind=2 then [x.new_] else [])++news l:=by
   unfold news;by_cases hk:x.kind=2 <;> simp [hk]
  rw [hn] at h1 h2;obtain ⟨_,g1,g2⟩:=List.nodup_append.1 h1;rw [e];unfold stA
  split
  ·rename_i hk
   rw [if_pos hk.1] at g2 h2;obtain ⟨g3,g4⟩:=IF l (x.new_::S) (List.nodup_cons.2 ⟨h2 _ (by simp),h⟩) g1 fun k hk2=>by
    rw [List.mem_cons,not_or];exact ⟨fun e=>g2 x.new_ (by simp) k hk2 e.symm,h2 k (by simp [hk2])⟩
   exact ⟨g3,by simp at g4 ⊢;omega⟩
  obtain ⟨g3,g4⟩:=IF l S h g1 fun k hk2=>h2 k (by simp [hk2]);exact ⟨g3,by simp;omega⟩
theorem IG {l m:List aL} (h:l.Sublist m):(news l).Sublist (news m):=(h.filter _).map _
theorem BX {l m:List aL} (h:l.Perm m):(news l).Perm (news m):=(h.filter _).map _
theorem d49 {v:bD} (hv:Ps v) (es:List aL) (to_:Int):Wk (EM v es to_) fun r=>(r.1.map (·.anchor)).Nodup∧r.1.length≤50∧∀ p∈r.1,1≤p.anchor∧p.anchor≤999:=by
 unfold EM;refine .bd ((t85 v es hv).wk.and (d22 v es)) fun r hr=>.ie (fun _=>.so ⟨by simp,by simp,by simp⟩) fun h0=>.bt fun _=>.ie (fun _=>?_) fun _=>.so ⟨by simp,by simp,by simp⟩;obtain ⟨hV,hE⟩:=hr.1 (by omega);have hN:=hr.2 (by omega);refine .bd ((t90 v es to_ hV hE).wk.and (a44 v es to_ hE)) fun g hg=>.bd (Q:=fun l=>l=(g.parts.flatten.filter fun e=>!e.removed).map (·.paragraph)) (.lp (fun s=>s.2=((g.parts.take s.1).flatten.filter fun e=>!e.removed).map (·.paragraph)) (fun s hs=>?_) rfl) fun l hl=>.so ?_
 ·unfold zV;refine .ie (fun _=>.bd .id fun row hrow=>.bd (Q:=fun l=>l=s.2++(row.filter fun e=>!e.removed).map (·.paragraph)) (.lp (fun q=>q.2=s.2++((row.take q.1).filter fun e=>!e.removed).map (·.paragraph)) (fun q hq=>?_) (by simp)) fun l hl=>.so ?_) fun hge=>.so (by rw [hs,List.take_of_length_le (by omega)])
  ·unfold zU;refine .ie (fun _=>.bd .id fun y hy=>.bd (Q:=fun l=>l=s.2++((row.take (q.1+1)).filter fun e=>!e.removed).map (·.paragraph)) (.ie (fun h=>.so ?_) fun h=>.ck (.so ?_)) fun l hl=>.so hl) fun hge=>.so (by rw [hq,List.take_of_length_le (by omega)])
   ·rw [List.take_add_one,hy,hq];simp [h]
   rw [List.take_add_one,hy,hq];simp [h]
  dsimp only;rw [List.take_add_one,hrow,hl,hs];simp
 obtain ⟨hg1,hg2⟩:=hg;have hup:(HZ es to_).Sublist (rA es):=List.filter_sublist;obtain ⟨_,hp,_⟩:=HW hE;have hns:(news (HZ es to_)).Sublist (news (rA es)):=IG hup;have hnp:=BX hp;obtain ⟨f1,f2⟩:=IF (HZ es to_) (A0 v) hN.a (hns.nodup (hnp.nodup_iff.2 hN.n)) fun k hk=>hN.d k (hnp.mem_iff.1 (hns.subset hk));have hsub:(l.map (·.anchor)).Sublist (mR g.parts):=by
  rw [hl,List.map_map];unfold mR;exact List.filter_sublist.map _
 dsimp only;refine ⟨hsub.nodup (hg2.nodup_iff.2 f1),?_,fun p hp=>?_⟩
 ·have h1:=hsub.length_le;have h2:=hg2.length_eq;have h3:=hup.length_le;have h4:=hp.length_eq;have h5:=hE.l;have h6:=hV.ql;have h7:(A0 v).length=(iH v).length:=by unfold A0;simp
  simp at h1;omega
 rw [hl] at hp;obtain ⟨e,he,rfl⟩:=List.mem_map.1 hp;obtain ⟨row,hrow,her⟩:=List.mem_flatten.1 (List.mem_filter.1 he).1;exact ((hg1.2.2 row hrow).2 e her).2.1
theorem BY (n a b:Int):vO n a b=some (decide (a≤n∧n≤b)):=by
 unfold vO;by_cases h:a≤n <;> simp [h]
theorem aAq (n a b:Int):XE n a b=some (decide (a≤n∧n≤b)):=by
 unfold XE;by_cases h:a≤n <;> simp [h]
theorem e75 (n:Int):GC n=some (decide (0≤n∧n≤9999)):=by unfold GC;rw [BY];rfl
theorem aAr (l:List dZ) (f:dZ→Option Bool) (hf:∀ x∈l,f x=some true):GE l f=some true:=by
 obtain ⟨r,h1,h2⟩:=pA l (fun x=>xZ x f) (fun _=>false) (fun x hx=>by unfold xZ;rw [hf x hx];rfl) (GD l (fun x=>xZ x f)) (fun i=>rfl);unfold GE SQ SP;rw [h1];rcases h2 with ⟨z,rfl,h2⟩|⟨rfl,h2⟩ <;> simp at h2 ⊢
theorem aLo (l:List dI) (f:dI→Option Bool) (hf:∀ x∈l,f x=some true):MM l f=some true:=by
 obtain ⟨r,h1,h2⟩:=pA l (fun x=>yB x f) (fun _=>false) (fun x hx=>by unfold yB;rw [hf x hx];rfl) (GG l (fun x=>yB x f)) (fun i=>rfl);unfold MM SS SR;rw [h1];rcases h2 with ⟨z,rfl,h2⟩|⟨rfl,h2⟩ <;> simp at h2 ⊢
theorem aAs (l:List UInt8) (f:Int→Option Bool) (hf:∀ x∈l,f (x.toNat:Int)=some true):ML l f=some true:=by
 obtain ⟨r,h1,h2⟩:=pA l (fun x=>yA (x.toNat:Int) f) (fun _=>false) (fun x hx=>by unfold yA;rw [hf x hx];rfl) (tA l (fun x=>yA x f)) (fun i=>rfl);unfold ML xF EE;rw [h1];rcases h2 with ⟨z,rfl,h2⟩|⟨rfl,h2⟩ <;> simp at h2 ⊢
def NR (n:Nat) (o:dI):Prop:=(0≤o.from_∧o.from_<o.to_∧o.to_≤(n:Int))∧(0≤o.kind∧o.kind≤7)∧0≤o.until_∧o.until_≤9999
theorem aLp {r:eL} {o:dI} (h:NR r.words.length o):BA o r=some true:=by
 obtain ⟨⟨h1,h2,h3⟩,h4,h5⟩:=h;unfold BA;rw [if_pos h1,if_pos h2,if_pos h3,BY,Option.bind_some,decide_eq_true h4,if_pos rfl,e75,decide_eq_true h5];rfl
def Wd (w:dZ):Prop:=∃ a:Int,(1≤a∧a≤999)∧w=⟨Lib.itoa a,[]⟩
theorem AH {n:Int} (h:0≤n) {c:UInt8} (hc:c∈Lib.itoa n):48≤c.toNat∧c.toNat≤57:=by
 unfold Lib.itoa at hc;rw [if_neg (by omega)] at hc;have:=List.all_eq_true.1 (sW n.toNat) c hc;simpa [vE] using this
theorem UN (n:Int):1≤(Lib.itoa n).length:=by
 unfold Lib.itoa;split
 ·simp
 exact List.length_pos_iff.2 (sX _)
theorem NS {m n:Int} (hm:0≤m) (hn:0≤n) (h:Lib.itoa m=Lib.itoa n):m=n:=by
 unfold Lib.itoa at h;rw [if_neg (by omega),if_neg (by omega)] at h;have:=congrArg (fun l=>mP l 0) h;simp only [zL] at this;omega
theorem aLq {w:dZ} (h:Wd w):BB w=some true:=by
 obtain ⟨a,ha,rfl⟩:=h;have h1:=nY (n:=a) (by omega);have h2:=UN a;unfold BB;dsimp only;rw [BY,Option.bind_some,decide_eq_true (by omega),if_pos rfl,kD (by omega),aAs _ _ fun c hc=>?_]
 ·rw [Option.bind_some,if_pos rfl];unfold zY;rw [dX (e:=.inl ()) (by unfold vP;rw [if_neg (by simp)])];rfl
 have:=AH (by omega) hc;unfold GF;rw [if_pos (by omega),Option.bind_some,decide_eq_true (by omega)]
theorem e74 {r:eL} (h1:r.words.length≤60) (h2:r.orders.length≤12) (hw:∀ w∈r.words,Wd w) (ho:∀ o∈r.orders,NR r.words.length o) (hc:r.columns=5):UY r=some 0:=by
 unfold UY;rw [if_neg (by omega),if_neg (by omega),aAr _ _ fun w hq=>by obtain ⟨a,_,rfl⟩:=hw w hq;rfl];simp only [Option.bind_some,Bool.not_true,Bool.false_eq_true,if_false];rw [aAr _ _ fun w hq=>aLq (hw w hq)];simp only [Option.bind_some,if_true];rw [aLo _ _ fun o hq=>aLp (ho o hq),hc];simp only [Option.bind_some,if_true];rw [BY];rfl
theorem t175 (l:List Int) (v:Int):T (rM l v) fun r=>r=decide (v∈l):=by
 unfold rM LF;refine T.bd (Q:=fun z=>(0≤z↔v∈l)) (T.bd (Q:=fun e=>match e with | .inl _=>v∉l | .inr z=>0≤z∧v∈l) (T.ix l.length id (fun i=>v∉l.take i) (fun i hI hi=>?_) (by simp) (Nat.zero_le _)) fun e he=>?_) fun z hz=>.mk ?_
 ·unfold qV;simp only [id] at hi;refine T.ie (fun hl=>T.bd (T.at (by omega)) fun x hx=>T.ie (fun h=>.mk ⟨by omega,h▸List.mem_of_getElem? hx⟩) fun h=>.mk ⟨?_,rfl,by simpa using (by omega:i<l.length)⟩) fun hl=>.mk (by rwa [List.take_of_length_le (by omega)] at hI);rw [List.take_add_one,hx];simp [hI,h]
 ·cases e with
  | inr z=>exact .mk ⟨fun _=>he.2,fun _=>he.1⟩
  | inl _=>exact .mk ⟨fun h=>by omega,fun h=>absurd h he⟩
 simp only [decide_eq_decide];exact hz
theorem aLr (l:List Int) (v:Int):T (m14 l v) fun r=>r=decide (v∈l):=by
 unfold m14;refine T.bd (Q:=fun e=>match e with | .inl _=>v∉l | .inr z=>z=true∧v∈l) (T.ix l.length id (fun i=>v∉l.take i) (fun i hI hi=>?_) (by simp) (Nat.zero_le _)) fun e he=>?_
 ·unfold PB;simp only [id] at hi;refine T.ie (fun hl=>T.bd (T.at (by omega)) fun x hx=>T.ie (fun h=>.mk ⟨rfl,h▸List.mem_of_getElem? hx⟩) fun h=>.mk ⟨?_,rfl,by simpa using (by omega:i<l.length)⟩) fun hl=>.mk (by rwa [List.take_of_length_le (by omega)] at hI);rw [List.take_add_one,hx];simp [hI,Ne.symm h]
 cases e with
 | inr z=>exact .mk (by rw [he.1,decide_eq_true he.2])
 | inl _=>exact .mk (decide_eq_false he).symm
def IT (x:eV) (o:dI):Prop:=x.year<o.until_∧o.kind∉x.may
theorem t77 (r:eL) (x:eV) (A:bG) (o:dI):T (m77 ⟨r,x,A⟩ o) fun c=>IT x o→c=true:=by
 unfold m77 SU;refine T.bd (Q:=fun c=>IT x o→c=true) (T.ie (fun h=>T.bd (Q:=fun c=>IT x o→c=true) (T.bd (t175 x.may o.kind) fun c hc=>.mk fun hh=>?_) fun c hc=>.mk hc) fun h=>.mk fun hh=>absurd hh.1 h) fun c hc=>.mk hc;rw [hc,decide_eq_false hh.2];rfl
theorem NT (A:bG) {k j:Nat} (hk:k<60) (v:Bool):(A.set k v).get j=if k=j then v else A.get j:=by
 unfold bG.get;rw [bG.vset A v k hk,List.getD_eq_getElem?_getD,List.getD_eq_getElem?_getD];by_cases e:k=j
 ·subst e;rw [if_pos rfl,List.getElem?_set_self (show k<A.vals.length from hk)];rfl
 rw [if_neg e,List.getElem?_set_ne e]
theorem aAt {n:Nat} {o:dI} (h:NR n o) (hn:n≤60) (A:bG):T (bC (GH o) (o.from_,A)) fun B=>∀ j:Nat,(A.get j=true∨(o.from_≤(j:Int)∧(j:Int)<o.to_))→B.get j=true:=by
 obtain ⟨⟨h1,h2,h3⟩,_⟩:=h;refine T.lp (fun s=>(o.from_≤s.1∧s.1≤o.to_)∧∀ j:Nat,(A.get j=true∨(o.from_≤(j:Int)∧(j:Int)<s.1))→s.2.get j=true) (fun s=>(o.to_-s.1).toNat) (fun s hs=>?_) ⟨⟨Int.le_refl _,by dsimp only;omega⟩,fun j hj=>by rcases hj with g|g;exact g;dsimp only at g;omega⟩;obtain ⟨hs1,hs2⟩:=hs;unfold GH;refine T.ie (fun hl=>.ck (by omega) (.ck (by omega) (.ck (by omega) (.mk ⟨⟨⟨by dsimp only;omega,by dsimp only;omega⟩,fun j hj=>?_⟩,by dsimp only;omega⟩)))) fun hl=>.mk fun j hj=>hs2 j (by rcases hj with g|g;exact .inl g;exact .inr (by omega));dsimp only at hj ⊢;rw [NT _ (by omega)]
 split
 ·rfl
 refine hs2 j ?_;rcases hj with g|g
 ·exact .inl g
 exact .inr (by omega)
theorem v52 {r:eL} {x:eV} (h0:UY r=some 0) (h1:r.words.length≤60) (ho:∀ o∈r.orders,NR r.words.length o) (hy:GC x.year=some true) (hm:zY x.may 7=some true):T (m52 r x) fun q=>q.2=0∧q.1.report=r∧∀ o∈r.orders,IT x o→∀ j:Nat,o.from_≤(j:Int)→(j:Int)<o.to_→q.1.veil.get j=true:=by
 unfold m52;refine T.bd (.ok h0) fun e he=>T.ie (fun h=>absurd he h) fun _=>T.bd (Q:=fun t=>t=false) (T.bd (.ok hy) fun b hb=>T.ie (fun _=>T.bd (.ok hm) fun c hc=>.mk (by rw [hc];rfl)) fun h=>absurd hb h) fun t ht=>T.ie (fun h=>by rw [ht] at h;cases h) fun _=>T.bd (Q:=fun B=>∀ o∈r.orders,IT x o→∀ j:Nat,o.from_≤(j:Int)→(j:Int)<o.to_→B.get j=true) (T.ix r.orders.length (·.1) (fun s=>∀ o∈r.orders.take s.1,IT x o→∀ j:Nat,o.from_≤(j:Int)→(j:Int)<o.to_→s.2.get j=true) (fun s hs hi=>?_) (by simp) (Nat.zero_le _)) fun B hB=>.mk ⟨rfl,rfl,hB⟩;unfold OY;refine T.ie (fun hl=>T.bd (T.at (by omega)) fun o hoat=>T.bd (t77 _ _ _ _) fun c hc=>T.bd (Q:=fun B=>(∀ j:Nat,s.2.get j=true→B.get j=true)∧(IT x o→∀ j:Nat,o.from_≤(j:Int)→(j:Int)<o.to_→B.get j=true)) (T.ie (fun _=>?_) fun hf=>.mk ⟨fun _ h=>h,fun hh=>absurd (hc hh) hf⟩) fun B hB=>.mk ⟨fun o' ho' hh j g1 g2=>?_,rfl,by omega⟩) fun hl=>.mk (by rwa [List.take_of_length_le (by omega)] at hs)
 ·exact T.bd (Q:=fun B=>(∀ j:Nat,s.2.get j=true→B.get j=true)∧(IT x o→∀ j:Nat,o.from_≤(j:Int)→(j:Int)<o.to_→B.get j=true)) (T.bd (aAt (ho o (List.mem_of_getElem? hoat)) h1 s.2) fun B hB=>.mk ⟨fun j h=>hB j (.inl h),fun _ j g1 g2=>hB j (.inr ⟨g1,g2⟩)⟩) fun B hB=>.mk hB
 dsimp only at ho';rw [List.take_add_one,hoat] at ho';rcases List.mem_append.1 ho' with g|g
 ·exact hB.1 j (hs o' g hh j g1 g2)
 simp only [Option.toList,List.mem_singleton] at g;subst g;exact hB.2 hh j g1 g2
def Pc (r:eL) (x:eV) (p:gA):Prop:=p.text=[]∨∃ (j:Nat) (w:dZ),r.words[j]?=some w∧p.text=w.text∧∀ o∈r.orders,IT x o→¬(o.from_≤(j:Int)∧(j:Int)<o.to_)
theorem v31 {r:eL} {x:eV} (h0:UY r=some 0) (h1:r.words.length≤60) (ho:∀ o∈r.orders,NR r.words.length o) (hc5:r.columns=5) (hy:GC x.year=some true) (hm:zY x.may 7=some true):T (m31 r x) fun q=>q.2=0∧q.1.length≤60∧∀ p∈q.1,Pc r x p:=by
 unfold m31;refine T.bd (v52 h0 h1 ho hy hm) fun q hq=>T.ie (fun h=>absurd hq.1 h) fun _=>T.bd (Q:=fun l=>l.length≤60∧∀ p∈l,Pc r x p) (T.bd (Q:=fun l=>l.length≤60∧∀ p∈l,Pc r x p) (T.ix r.words.length (·.2.1) (fun s=>s.1≤s.2.1∧s.2.2.length≤s.2.1∧∀ p∈s.2.2,Pc r x p) (fun s hs hi=>?_) ⟨Nat.le_refl _,Nat.le_refl _,by simp⟩ (Nat.zero_le _)) fun l hl=>.mk hl) fun l hl=>.mk ⟨rfl,hl⟩;obtain ⟨_,hqr,hqv⟩:=hq;obtain ⟨hs1,hs2,hs3⟩:=hs;unfold OZ;rw [hqr,hc5];refine T.ie (fun hlt=>T.bd (Q:=fun t=>t.1≤s.2.1+1∧t.2.length≤s.2.1+1∧∀ p∈t.2,Pc r x p) (T.bd (T.at (by omega)) fun w hw=>.ck (by omega) (.ck (by omega) (.ck (by omega) (T.bd (Q:=fun t=>match t with | .inl z=>z.2=[]∨(z.2=w.text∧∀ o∈r.orders,IT x o→¬(o.from_≤(s.2.1:Int)∧(s.2.1:Int)<o.to_)) | .inr z=>z=(s.1,s.2.2)) (T.ie (fun _=>T.bd (Q:=fun _=>True) (T.ie (fun _=>.ck (by omega) (.mk trivial)) fun _=>.mk trivial) fun t _=>T.ie (fun _=>⟨_,rfl,rfl⟩) fun _=>.mk (.inl rfl)) fun hv=>.mk (.inr ⟨rfl,fun o ho' hh g=>hv (hqv o ho' hh s.2.1 g.1 g.2)⟩)) fun t ht=>?_)))) fun t ht=>.mk ⟨ht,rfl,by omega⟩) fun hge=>.mk ⟨by omega,hs3⟩
 cases t with
 | inr z=>subst ht;exact .mk ⟨by dsimp only;omega,by dsimp only;omega,hs3⟩
 | inl z =>
  refine T.bd (Q:=fun l=>l.length≤s.2.1+1∧∀ p∈l,Pc r x p) (.ck (by omega) (.mk ⟨by simp;omega,fun p hp=>?_⟩)) fun l hl=>.ck (by omega) (.mk ⟨by dsimp only;omega,hl⟩);rcases List.mem_append.1 hp with g|g
  ·exact hs3 p g
  rw [List.mem_singleton.1 g];rcases ht with g|⟨g1,g2⟩
  ·exact .inl g
  exact .inr ⟨s.2.1,w,hw,g1,g2⟩
theorem e28 (l:List Int) (k:Int):m28 l k=zY l k:=by
 have:EA l k=vP l k:=by
  funext i;unfold EA vP
  split
  ·cases h:l[i]? with
   | none=>rfl
   | some x=>simp only [Option.bind_some,aAq,BY]
  rfl
 unfold m28 zY;rw [this]
theorem t76 (l:List Int) (k:Int):T (zY l k) fun _=>True:=by
 unfold zY;refine T.bd (Q:=fun _=>True) (T.ix l.length id (fun _=>True) (fun i _ hi=>?_) trivial (Nat.zero_le _)) fun e _=>by cases e <;> exact .mk trivial
 simp only [id] at hi;unfold vP;refine T.ie (fun hl=>T.bd (T.at (by omega)) fun x hx=>T.bd (Q:=fun _=>True) (T.bd (.ok (BY _ _ _)) fun _ _=>T.ie (fun _=>T.ie (fun _=>T.bd (T.at (by omega)) fun _ _=>.mk trivial) fun _=>.mk trivial) fun _=>.mk trivial) fun t _=>T.ie (fun _=>.mk trivial) fun _=>.mk ⟨trivial,rfl,by simpa using (by omega:i<l.length)⟩) fun _=>.mk trivial
theorem t12 (x:eV):T (m12 x) fun r=>r=true→GC x.year=some true∧zY x.may 7=some true:=by
 unfold m12;obtain ⟨b,hb,_⟩:=t76 x.may 7;refine T.bd (Q:=fun r=>r=true→GC x.year=some true∧zY x.may 7=some true) (T.bd (.ok (aAq _ _ _)) fun c hc=>T.ie (fun h=>T.bd (.ok (by rw [e28];exact hb)) fun d hd=>.mk fun hdt=>⟨by rw [e75,← hc,h],by rw [hb,← hd,hdt]⟩) fun _=>.mk (by simp)) fun r hr=>.mk hr
def Hok (h:gY):Prop:=(0≤h.kind∧h.kind≤7)∧(0≤h.until_∧h.until_≤9999)∧1≤h.anchor∧h.anchor≤999
def Hn (b:aI) (r:aI⊕Int):Prop:=match r with | .inl c=>c.state.hides=b.state.hides∨∃ h,c.state.hides=b.state.hides++[h]∧Hok h | .inr _=>True
variable {b:aI} {l:List Int} {text:aE}
theorem Wk.bq {α:Type} {o:Option (α⊕(aI⊕Int))} {f:α⊕(aI⊕Int)→Option (aI⊕Int)} (h:Wk o fun t=>match t with | .inl _=>True | .inr z=>Hn b z) (k:∀ v,Wk (f (.inl v)) (Hn b)) (hi:∀ z,Hn b z→Wk (f (.inr z)) (Hn b)):Wk (o.bind f) (Hn b):=.bd h fun t ht=>by
 cases t with
 | inl v=>exact k v
 | inr z=>exact hi z ht
theorem Wk.bs {α β γ:Type} {o:Option (α⊕β)} {f:α⊕β→Option γ} {P:γ→Prop} (k:∀ v,Wk (f (.inl v)) P) (k2:∀ v,Wk (f (.inr v)) P):Wk (o.bind f) P:=.bt fun v=>by
 cases v with
 | inl v=>exact k v
 | inr v=>exact k2 v
theorem aLs (d:aY):Wk (rL b d) (Hn b):=by
 unfold rL;exact .bt fun _=>.bs (fun _=>.so (.inl rfl)) fun _=>.so trivial
theorem aLt (x:aL):Wk (oV b x) (Hn b):=by
 unfold oV;exact .bq (.ie (fun _=>.bs (fun _=>.so trivial) fun _=>.so trivial) fun _=>.bs (fun _=>.so trivial) fun _=>.so trivial) (fun _=>.bt fun _=>.bt fun _=>.bs (fun _=>.so (.inl rfl)) fun _=>.so trivial) fun _ h=>.so h
theorem UO:Wk (xG b l text) (Hn b):=by
 unfold xG;exact .bs (fun _=>.bt fun _=>.bt fun _=>.bt fun _=>.bt fun _=>.bt fun _=>.bt fun _=>.bs (fun _=>.so (.inl rfl)) fun _=>.so trivial) fun _=>.so trivial
theorem hs:Wk (KF b l text) (Hn b)∧Wk (KL b l text) (Hn b)∧Wk (RL b l text) (Hn b)∧Wk (RM b l text) (Hn b)∧Wk (RN b l text) (Hn b)∧Wk (KP b l text) (Hn b)∧Wk (KS b l text) (Hn b)∧Wk (LA b l text) (Hn b)∧Wk (LC b l text) (Hn b)∧Wk (LE b l text) (Hn b)∧Wk (LU b l text) (Hn b)∧Wk (MB b l text) (Hn b)∧Wk (MD b l text) (Hn b)∧Wk (MI b l text) (Hn b)∧Wk (MJ b l text) (Hn b):=by
 refine ⟨?_,?_,?_,?_,?_,?_,?_,?_,?_,?_,?_,?_,?_,?_,?_⟩ <;> (first|unfold KF|unfold KL|unfold RL|unfold RM|unfold RN|unfold KP|unfold KS|unfold LA|unfold LC|unfold LE|unfold LU|unfold MB|unfold MD|unfold MI|unfold MJ) <;> repeat' (first|exact .so trivial|exact .so (.inl rfl)|exact .bd (aLs _) fun r hr=>by cases r <;> exact .so hr|exact .bd (aLt _) fun r hr=>by cases r <;> exact .so hr|exact .bd UO fun r hr=>by cases r <;> exact .so hr|refine .bq ?_ (fun _=>?_) fun _ h=>.so h|refine .bs (fun _=>?_) fun _=>?_|refine .bt fun _=>?_|refine .ck ?_|refine .ie (fun _=>?_) fun _=>?_|exact .no)
theorem h25 {v:bD} (hv:Ps v) (es:List aL) (a to_:Int):Wk (CC v es a to_) fun r=>r.2.2=0→1≤a∧a≤999:=fun r hr h0=>by
 obtain ⟨e,h1,h2⟩:=t85 v es hv;by_cases he:e=0
 ·subst he;obtain ⟨hV,hE⟩:=h2 rfl;exact ((q25 h1 hV hE a to_ r hr).1 h0).2.1
 unfold CC at hr;rw [h1,Option.bind_some,if_pos he] at hr;injection hr with hr;subst hr;exact absurd h0 he
theorem h89 (hp:Ps b.state.volume):Wk (KR b l text) (Hn b):=by
 unfold KR;refine .bd (Q:=fun t=>match t with | .inl _=>∃ k u,l[1]?=some k∧l[2]?=some u∧(0≤k∧k≤7)∧0≤u∧u≤9999 | .inr z=>Hn b z) (.bd .id fun k hk=>.bd (.eq (e20 _ _ _)) fun c hc=>.ie (fun hct=>.bd .id fun u hu=>.bd (.eq (e20 _ _ _)) fun c2 hc2=>.bd (T.wk (kK _ _)) fun r hr=>?_) fun _=>.bd (T.wk (kK _ _)) fun r hr=>?_) fun t ht=>?_
 ·cases r with
  | inr _=>exact .so trivial
  | inl _=>exact .so ⟨k,u,hk,hu,by rw [hc] at hct;simpa using hct,by rw [hc2] at hr;simpa using hr⟩
 ·cases r with
  | inr _=>exact .so trivial
  | inl _=>cases hr
 cases t with
 | inr z=>exact .so ht
 | inl _ =>
  obtain ⟨k,u,hk,hu,h1,h2⟩:=ht;refine .bs (fun _=>.bd (Q:=Ps) ?_ fun v hv=>.bt fun a=>.bd (h25 hv _ a _) fun r hr=>.bd (T.wk (BV _)) fun r2 hr2=>?_) fun _=>.so trivial
  ·unfold OW OU;exact .ie (fun _=>.so hp) fun _=>.bd (Q:=Ps) (.so hp) fun v hv=>.so hv
  cases r2 with
  | inr _=>exact .so trivial
  | inl _ =>
   refine .bd (.eq hk) fun k' e1=>.bd (.eq hu) fun u' e2=>.bd (Q:=fun hs=>hs=b.state.hides++[⟨a,k',u'⟩]) ?_ fun hs hhs=>.so (.inr ⟨⟨a,k',u'⟩,hhs,?_⟩)
   ·unfold EQ KQ;exact .bd (Q:=fun r=>r=b.state.hides) (.ck (.so (List.nil_append _))) fun r hr=>.ck (.so (by rw [hr]))
   subst e1 e2;exact ⟨h1,h2,hr hr2⟩
theorem h38 (hp:Ps b.state.volume):Wk (vN b text) fun r=>Hn b (.inl r.1):=by
 have hDo:∀ q l text,Wk (AZ q b l text) (Hn b):=fun q l text=>by
  have g:=@hs b l text;unfold AZ;exact .ie (fun _=>g.1) fun _=>.ie (fun _=>UO) fun _=>.ie (fun _=>g.2.1) fun _=>.ie (fun _=>g.2.2.1) fun _=>.ie (fun _=>g.2.2.2.1) fun _=>.ie (fun _=>g.2.2.2.2.1) fun _=>.ie (fun _=>g.2.2.2.2.2.1) fun _=>.ie (fun _=>h89 hp) fun _=>.ie (fun _=>g.2.2.2.2.2.2.1) fun _=>.ie (fun _=>g.2.2.2.2.2.2.2.1) fun _=>.ie (fun _=>g.2.2.2.2.2.2.2.2.1) fun _=>.ie (fun _=>g.2.2.2.2.2.2.2.2.2.1) fun _=>.ie (fun _=>g.2.2.2.2.2.2.2.2.2.2.1) fun _=>.ie (fun _=>g.2.2.2.2.2.2.2.2.2.2.2.1) fun _=>.ie (fun _=>g.2.2.2.2.2.2.2.2.2.2.2.2.1) fun _=>.ie (fun _=>g.2.2.2.2.2.2.2.2.2.2.2.2.2.1) fun _=>.ie (fun _=>g.2.2.2.2.2.2.2.2.2.2.2.2.2.2) fun _=>.no
 unfold vN;refine .bt fun r4=>.bt fun r7=>.bs (fun _=>.bd (Q:=fun e=>match e with | .inl _=>True | .inr z=>z.1=b) (.lp (fun _=>True) (fun s _=>?_) trivial) fun e he=>?_) fun _=>.so (.inl rfl)
 ·unfold lN;exact .ie (fun _=>.bs (fun _=>.bt fun _=>.bs (fun _=>.ck (.ck (.so trivial))) fun _=>.so rfl) fun _=>.so rfl) fun _=>.so trivial
 cases e with
 | inr z=>exact .so (by rw [he];exact .inl rfl)
 | inl t => exact .bs (fun _ => .bd (hDo _ _ _) fun r hr => by
   cases r with
   | inr _=>exact .so (.inl rfl)
   | inl c=>exact .so hr) fun _=>.so (.inl rfl)
theorem AI (ls:List aE):tW ls→∀ h∈(eB ls).1.state.hides,Hok h:=by
 refine nZ (P:=fun ls=>tW ls→∀ h∈(eB ls).1.state.hides,Hok h) (fun _ h hh=>by cases hh) (fun l x ih h=>?_) ls;obtain ⟨q,h1,_,h3⟩:=mC h;have h4:=h38 ((kT l h.init.1).1.ps (by have:=h.init.2.1;omega)) q h1;rw [h3];dsimp only;rcases h4 with g|⟨hd,g,g2⟩
 ·rw [g];exact ih h.init.1
 rw [g];intro y hy;rcases List.mem_append.1 hy with k|k
 ·exact ih h.init.1 y k
 rw [List.mem_singleton.1 k];exact g2
end T12
set_option maxHeartbeats 4000000
namespace T12
open Go Go.Proofs Pk
theorem T.wkand {α:Type} {o:Option α} {P Q:α→Prop} (h:T o P) (k:Wk o Q):T o fun v=>P v∧Q v:=by
 obtain ⟨v,h1,h2⟩:=h;exact ⟨v,h1,h2,k v h1⟩
def Rds (ps:List aH):Prop:=(ps.map (·.anchor)).Nodup∧ps.length≤50∧∀ p∈ps,1≤p.anchor∧p.anchor≤999
theorem aAu {ps:List aH} (h:Rds ps):T (bC (vQ ps) (0,([]:List dZ))) fun ws=>ws=ps.map fun p=>⟨Lib.itoa p.anchor,[]⟩:=by
 refine T.ix ps.length (·.1) (fun s=>s.2=(ps.take s.1).map fun p=>⟨Lib.itoa p.anchor,[]⟩) (fun s hs hi=>?_) rfl (Nat.zero_le _);unfold vQ;refine T.ie (fun hl=>T.bd (T.at (by omega)) fun p hp=>?_) fun hl=>.mk (by rw [hs,List.take_of_length_le (by omega)]);have hr:=h.2.2 p (List.mem_of_getElem? hp);refine T.bd (Q:=fun w=>w=Lib.itoa p.anchor) (by unfold UT zB;exact .ck (by omega) (.mk rfl)) fun w hw=>.ck (by have:=h.2.1;rw [hs];simp;omega) (.mk ⟨?_,rfl,by omega⟩);dsimp only;rw [List.take_add_one,hp,hs,hw];simp
theorem aAv {ps:List aH} (h:(ps.map (·.anchor)).Nodup) {i j:Nat} {p q:aH} (hi:ps[i]?=some p) (hj:ps[j]?=some q) (e:p.anchor=q.anchor):i=j:=by
 have h1:=(List.getElem?_eq_some_iff.1 hi).1;exact (List.getElem?_inj (by rw [List.length_map];exact h1) h).1 (by rw [List.getElem?_map,List.getElem?_map,hi,hj,Option.map_some,Option.map_some,e])
theorem aAw {ps:List aH} (h:Rds ps) (r10:aI×List Int) (h0:r10.1.state.hides.length≤12) (hk:∀ x∈r10.1.state.hides,Hok x):T (bC (vT r10 ps) (0,([]:List dI))) fun os=>os.length≤12∧(∀ o∈os,NR ps.length o)∧∀ x∈r10.1.state.hides,∀ (j:Nat) p,ps[j]?=some p→p.anchor=x.anchor→∃ o∈os,o.from_=(j:Int)∧o.to_=(j:Int)+1∧o.kind=x.kind∧o.until_=x.until_:=by
 refine T.ix r10.1.state.hides.length (·.1) (fun s=>s.2.length≤s.1∧(∀ o∈s.2,NR ps.length o)∧∀ x∈r10.1.state.hides.take s.1,∀ (j:Nat) p,ps[j]?=some p→p.anchor=x.anchor→∃ o∈s.2,o.from_=(j:Int)∧o.to_=(j:Int)+1∧o.kind=x.kind∧o.until_=x.until_) (fun s hs hi=>?_) ⟨Nat.le_refl _,by simp,by simp⟩ (Nat.zero_le _);obtain ⟨g1,g2,g3⟩:=hs;unfold vT;refine T.ie (fun hl=>T.bd (Q:=fun os=>os.length≤s.1+1∧(∀ o∈os,NR ps.length o)∧∀ x∈r10.1.state.hides.take (s.1+1),∀ (j:Nat) p,ps[j]?=some p→p.anchor=x.anchor→∃ o∈os,o.from_=(j:Int)∧o.to_=(j:Int)+1∧o.kind=x.kind∧o.until_=x.until_) (T.bd (T.at (by omega)) fun x hx=>?_) fun os hos=>.mk ⟨hos,rfl,by omega⟩) fun hl=>.mk ⟨by omega,g2,by rwa [List.take_of_length_le (by omega)] at g3⟩;have hxk:=hk x (List.mem_of_getElem? hx);rw [List.take_add_one,hx,Option.toList];refine T.bd (Q:=fun e=>match e with | .inl _=>∀ (j:Nat) p,ps[j]?=some p→p.anchor≠x.anchor | .inr os=>∃ (i:Nat) (p:aH),ps[i]?=some p∧p.anchor=x.anchor∧os=s.2++[⟨(i:Int),(i:Int)+1,x.kind,x.until_⟩]) (T.ix ps.length id (fun i=>∀ (j:Nat) p,j<i→ps[j]?=some p→p.anchor≠x.anchor) (fun i hI hi2=>?_) (fun j p h=>by simp at h) (Nat.zero_le _)) fun e he=>?_
 ·have hi2:i≤ps.length:=hi2;have hI:∀ (j:Nat) p,j<i→ps[j]?=some p→p.anchor≠x.anchor:=hI;unfold zZ;refine T.ie (fun hl=>T.bd (T.at (by omega)) fun p hp=>T.ie (fun ha=>.ck (by omega) ⟨_,rfl,i,p,hp,ha,rfl⟩) fun ha=>.mk ⟨fun j q hj hq=>?_,rfl,by simpa using (by omega:i<ps.length)⟩) fun hl=>.mk fun j p hp=>hI j p (by have:=(List.getElem?_eq_some_iff.1 hp).1;omega) hp;have hj:j<i+1:=hj;rcases Nat.lt_or_ge j i with g|g
  ·exact hI j q g hq
  have:j=i:=by omega
  subst this;rw [hp] at hq;cases hq;exact ha
 cases e with
 | inl _ =>
  refine .mk ⟨by omega,g2,fun y hy j p hp hpa=>?_⟩;rcases List.mem_append.1 hy with g|g
  ·exact g3 y g j p hp hpa
  rw [List.mem_singleton.1 g] at hpa;exact absurd hpa (he j p hp)
 | inr os =>
  obtain ⟨i,p,hp,hpa,rfl⟩:=he;have hil:=(List.getElem?_eq_some_iff.1 hp).1;refine .mk ⟨by simp;omega,fun o ho=>?_,fun y hy j q hq hqa=>?_⟩
  ·rcases List.mem_append.1 ho with g|g
   ·exact g2 o g
   rw [List.mem_singleton.1 g];exact ⟨⟨by dsimp only;omega,by dsimp only;omega,by dsimp only;omega⟩,hxk.1,hxk.2.1⟩
  rcases List.mem_append.1 hy with g|g
  ·obtain ⟨o,ho,h2⟩:=g3 y g j q hq hqa;exact ⟨o,List.mem_append.2 (.inl ho),h2⟩
  rw [List.mem_singleton.1 g] at hqa ⊢;have:=aAv h.1 hp hq (hpa.trans hqa.symm);subst this;exact ⟨_,List.mem_append.2 (.inr (List.mem_singleton.2 rfl)),rfl,rfl,rfl,rfl⟩
theorem t13 {ls:List aE} (hR:Rt ls) (year:Int) (may:List Int) (hy:GC year=some true) (hm:zY may 7=some true):T (PA ls year may) fun r=>r.2=0∧r.1.length≤60∧∀ t∈r.1,t=[42]∨∃ a,0≤a∧t=Lib.itoa a∧∀ h∈(eB ls).1.state.hides,year<h.until_→h.kind∉may→a≠h.anchor:=by
 have hL:=hR.lin;obtain hsi:=(kT ls hL).1;have hps:=hsi.ps (by have:=hR.1;omega);have hhk:=AI ls hL;unfold PA;refine T.bd (.ok (e19 hR)) fun e he=>T.ie (fun h=>absurd he h) fun _=>T.bd (.ok (e14 hL)) fun r10 h0=>T.bd (Q:=Rds) ?_ fun ps hP=>?_
 ·subst h0;refine T.bd (Q:=Ps) ?_ fun v hv=>T.bd ((t84 v _ _ hv).wkand (d49 hv _ _)) fun r hr=>.mk hr.2;unfold EP KH;exact T.ie (fun _=>.mk hps) fun _=>T.bd (Q:=Ps) (.mk hps) fun v hv=>.mk hv
 rw [← h0] at hsi hhk;have hP50:=hP.2.1;refine T.bd (aAu hP) fun ws hws=>T.bd (aAw hP r10 hsi.hi hhk) fun os hos=>?_;obtain ⟨o1,o2,o3⟩:=hos;have hwl:ws.length=ps.length:=by rw [hws];simp
 have hwd:∀ w∈ws,Wd w:=fun w hw=>by
  rw [hws] at hw;obtain ⟨p,hp,rfl⟩:=List.mem_map.1 hw;exact ⟨p.anchor,hP.2.2 p hp,rfl⟩
 have ho':∀ o∈(⟨ws,os,5⟩:eL).orders,NR (⟨ws,os,5⟩:eL).words.length o:=fun o h=>by dsimp only;rw [hwl];exact o2 o h
 refine T.bd (v31 (x:=⟨year,may⟩) (e74 (r:=⟨ws,os,5⟩) (by dsimp only;omega) o1 hwd ho' rfl) (by dsimp only;omega) ho' rfl hy hm) fun q hq=>T.ie (fun h=>absurd hq.1 h) fun _=>?_;obtain ⟨_,q1,q2⟩:=hq;refine T.bd (Q:=fun out=>out.length≤q.1.length∧∀ t∈out,t=[42]∨∃ p∈q.1,p.text≠[]∧t=p.text) (T.ix q.1.length (·.1) (fun s=>s.2.length=s.1∧∀ t∈s.2,t=[42]∨∃ p∈q.1,p.text≠[]∧t=p.text) (fun s hs hi=>?_) ⟨rfl,by simp⟩ (Nat.zero_le _)) fun out hout=>.mk ⟨rfl,by dsimp only;omega,fun t ht=>?_⟩
 ·obtain ⟨s1,s2⟩:=hs;unfold GI;refine T.ie (fun hl=>T.bd (T.at (by omega)) fun p hp=>T.bd (Q:=fun t=>t=[42]∨(p.text≠[]∧t=p.text)) (T.ie (fun _=>.mk (.inl rfl)) fun h=>.mk (.inr ⟨h,rfl⟩)) fun t ht=>.ck (by omega) (.mk ⟨⟨by simp [s1],fun u hu=>?_⟩,rfl,by omega⟩)) fun hl=>.mk ⟨by omega,s2⟩;rcases List.mem_append.1 hu with g|g
  ·exact s2 u g
  rw [List.mem_singleton.1 g];rcases ht with g|⟨g1,g2⟩
  ·exact .inl g
  exact .inr ⟨p,List.mem_of_getElem? hp,g1,g2⟩
 rcases hout.2 t ht with g|⟨p,hp,g1,g2⟩
 ·exact .inl g
 rcases q2 p hp with k|⟨j,w,k1,k2,k3⟩
 ·exact absurd k g1
 dsimp only at k1 k3;rw [hws,List.getElem?_map] at k1
 cases hj:ps[j]? with
 | none=>rw [hj] at k1;cases k1
 | some pp =>
  rw [hj] at k1;injection k1 with k1;have hpr:=hP.2.2 pp (List.mem_of_getElem? hj);refine .inr ⟨pp.anchor,by omega,by rw [g2,k2,← k1],fun h hh hy2 hk2 ha=>?_⟩;rw [← h0] at hh;obtain ⟨o,ho,e1,e2,e3,e4⟩:=o3 h hh j pp hj ha;exact k3 o ho ⟨by rw [e4];exact hy2,by rw [e3];exact hk2⟩ ⟨by omega,by omega⟩
theorem q13 {ls ls':List aE} (h:Rt ls) (h':Rt ls') (hS:Sr (eB ls).1 (eB ls').1) (year:Int) (may:List Int):Q2 (PA ls year may) (PA ls' year may) (fun r r'=>r=r'):=by
 obtain ⟨v,cs,e,hR⟩:=hS;unfold PA;rw [e19 h,e19 h',e14 h.lin,e14 h'.lin];refine .be fun _=>.ie Iff.rfl (fun _=>.so rfl) fun _=>?_;simp only [Option.bind_some];rw [e];refine .bd (Q:=fun ps ps'=>ps.map (·.anchor)=ps'.map (·.anchor)) (.bd (Q:=Rv) ?_ fun v w hv=>.bd (q49 hv _ _) fun r r' hr=>.so hr.2) fun ps ps' hp=>.bd (Q:=fun ws ws'=>ws=ws') (.lp (fun s s'=>s=s') (fun s s' hs=>?_) rfl) fun ws ws' hws=>.bd (Q:=fun os os'=>os=os') (.lp (fun s s'=>s=s') (fun s s' hs=>?_) rfl) fun os os' hos=>?_
 ·unfold EP KH;exact .ie Iff.rfl (fun _=>.so hR) fun _=>.bd (Q:=Rv) (.so ⟨rfl,rfl,rfl,rfl,hR.p⟩) fun v w h=>.so h
 ·subst hs;unfold vQ;rw [kU hp];refine .ie Iff.rfl (fun _=>.bd (.at hp _) fun x y hxy=>?_) fun _=>.so rfl;have hxy':x.anchor=y.anchor:=hxy;rw [hxy'];exact .be fun _=>.ck (.so rfl)
 ·subst hs;have hh:(eB ls').1.state.hides=(eB ls).1.state.hides:=by rw [e]
  unfold vT;rw [hh];refine .ie Iff.rfl (fun _=>.bd (Q:=fun os os'=>os=os') (.be fun x=>.bd (Q:=fun e e'=>e=e') (.lp (fun i i'=>i=i') (fun i i' hi=>?_) rfl) fun e e' he=>?_) fun os os' hos=>by subst hos;exact .so rfl) fun _=>.so rfl
  ·subst hi;unfold zZ;rw [kU hp];refine .ie Iff.rfl (fun _=>.bd (.at hp _) fun a b hab=>?_) fun _=>.so rfl;have hab':a.anchor=b.anchor:=hab;rw [hab'];exact .ie Iff.rfl (fun _=>.ck (.so rfl)) fun _=>.so rfl
  subst he;cases e <;> exact .so rfl
 subst hws hos;exact .eq rfl
theorem e17 (a:List aE):T (m17 a a) fun r=>r=true:=by
 unfold m17;refine T.ie (fun h=>absurd rfl h) fun _=>T.bd (Q:=fun e=>e=.inl ()) (T.ix a.length id (fun _=>True) (fun i _ hi=>?_) trivial (Nat.zero_le _)) fun e he=>by subst he;exact .mk rfl
 simp only [id] at hi;unfold OX;exact T.ie (fun hl=>T.bd (T.at (by omega)) fun x hx=>T.bd (.ok hx) fun y hy=>T.ie (fun h=>absurd hy.symm h) fun _=>.mk ⟨trivial,rfl,by simpa using (by omega:i<a.length)⟩) fun _=>.mk rfl
theorem aAx (awk:m7=some true) (ls:List aE) (year:Int) (may:List Int) (hy:0≤year∧year≤65535) (hls:∀ s∈ls,s.length≤9223372036854775807):m4 ls year may=some true:=by
 suffices h:T (m4 ls year may) (fun r=>r=true) by obtain ⟨_,h,rfl⟩:=h;exact h
 have hw:T m7 (fun r=>r=true):=⟨true,awk,rfl⟩;unfold m4;refine .ck (by omega) (T.bd (Q:=fun t=>t=false→Rt ls∧may.length≤8∧GC year=some true∧zY may 7=some true) (T.bd (r6 ls hls) fun r _=>T.ie (fun _=>T.bd (r7 ls) fun r h=>T.ie (fun h1=>T.ie (fun _=>.mk (by simp)) fun h8=>T.bd (t12 ⟨year,may⟩) fun c hc=>.mk fun hcf=>⟨h h1,by omega,hc (by simpa using hcf)⟩) fun _=>.mk (by simp)) fun _=>.mk (by simp)) fun t ht=>T.ie (fun _=>T.bd hw fun r hr=>.mk hr) fun hf=>?_);obtain ⟨hR,h8,hyr,hmy⟩:=ht (by simpa using hf);have h0:=hR.1;refine T.bd (.ok (r10 (by omega))) fun a1 h1=>?_;subst h1;refine T.bd (T.run hR) fun a2 h2=>.ck (by simp;omega) (T.bd ((t13 hR year ([]++may) hyr hmy).wkand .id) fun a3 h3=>?_);obtain ⟨⟨h4,h5,h6⟩,h7⟩:=h3;have hlen:=oA hR.lin;refine T.bd (Q:=fun t=>t=false) (T.ie (fun h=>by subst h2;exact absurd rfl h) fun _=>T.ie (fun h=>absurd h4 h) fun _=>.mk (decide_eq_false (by subst h2;dsimp only;rw [hlen];simp))) fun t ht=>T.ie (fun h=>by rw [ht] at h;cases h) fun _=>?_;have h9:=(kT a1 hR.lin).1.hi;have hhk:=AI a1 hR.lin;have hs:a2.1=(eB a1).1.state:=by rw [h2]
 refine T.bd (Q:=fun e=>e=.inl ()) (T.ix a2.1.hides.length id (fun _=>True) (fun i _ hi=>?_) trivial (Nat.zero_le _)) fun e he=>?_
 ·simp only [id] at hi;unfold SW;refine T.ie (fun hl=>T.bd (Q:=fun z=>z=.inl ()) (T.bd (T.at (by omega)) fun x hx=>T.bd (Q:=fun t=>t=false→year<x.until_∧x.kind∉may) (T.ie (fun _=>.mk (by simp)) fun h=>T.bd (aLr may x.kind) fun c hc=>.mk fun hcf=>⟨by omega,by rw [hc] at hcf;exact of_decide_eq_false hcf⟩) fun t ht=>T.ie (fun _=>.mk rfl) fun hf=>?_) fun z hz=>by subst hz;exact .mk ⟨trivial,rfl,by simpa using (by omega:i<a2.1.hides.length)⟩) fun _=>.mk rfl;obtain ⟨hu,hk⟩:=ht (by simpa using hf);have hxm:x∈(eB a1).1.state.hides:=by rw [← hs];exact List.mem_of_getElem? hx
  have hx1:=(hhk x hxm).2.2;refine T.bd (Q:=fun e=>e=.inl ()) (T.ix a3.1.length id (fun _=>True) (fun j _ hj=>?_) trivial (Nat.zero_le _)) fun e he=>by subst he;exact .mk rfl
  simp only [id] at hj;unfold SV;refine T.ie (fun hl=>T.bd (Q:=fun t=>t=false) (T.ie (fun h=>by omega) fun _=>T.bd (T.at (by omega)) fun y hy=>T.bd (e15 ⟨by omega,by omega⟩) fun w hw=>.mk (decide_eq_false fun e=>?_)) fun t ht=>T.ie (fun h=>by rw [ht] at h;cases h) fun _=>.mk ⟨trivial,rfl,by simpa using (by omega:j<a3.1.length)⟩) fun _=>.mk rfl;rw [hw] at e;rcases h6 y (List.mem_of_getElem? hy) with g|⟨a,g1,g2,g3⟩
  ·have:=AH (n:=x.anchor) (by omega) (c:=42) (by rw [← e,g];simp);have hA:(42:UInt8).toNat=42:=rfl;omega
  rw [g2] at e;exact g3 x hxm hu (by simpa using hk) (NS g1 (by omega) e)
 subst he;refine T.bd (IE hR a2 (by rw [h2])) fun e he=>?_;subst he;refine T.bd ((t13 (ID hR) year ([]++may) hyr hmy).wkand .id) fun b3 hb=>?_;have heq:=q13 hR (ID hR) (sim a1 hR.lin).1 year ([]++may) a3 b3 h7 hb.2;subst heq;exact T.bd (Q:=fun r=>r=true) (T.ie (fun _=>T.bd (e17 a3.1) fun r hr=>T.ie (fun _=>T.bd hw fun r hr=>.mk hr) fun h=>absurd hr h) fun h=>absurd h4 h) fun r hr=>.mk hr
end T12
