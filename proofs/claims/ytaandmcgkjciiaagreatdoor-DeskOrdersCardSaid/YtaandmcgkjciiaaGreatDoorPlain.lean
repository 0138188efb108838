/-
  The plain laws: what the models of a session come to.
-/
import Derived.Test.YtaandmcgkjciiaaGreatDoorMade
import Derived.Test.YtaandmcgkjciiaaGreatDoorKitSix
import Derived.Lib.AtoiAllCases
import Derived.Lib.IndexMore
set_option linter.all false
set_option maxRecDepth 100000
namespace T12
theorem XB:m8=some true:=by kernel_rfl
end T12
set_option maxHeartbeats 4000000
namespace T12
open Go Go.Proofs Pk
def T {α:Type} (o:Option α) (P:α→Prop):Prop:=∃ v,o=some v∧P v
theorem T.mk {α:Type} {v:α} {P:α→Prop} (h:P v):T (some v) P:=⟨v,rfl,h⟩
theorem T.bd {α β:Type} {o:Option α} {f:α→Option β} {Q:α→Prop} {P:β→Prop} (h:T o Q) (k:∀ v,Q v→T (f v) P):T (o.bind f) P:=by
 obtain ⟨v,rfl,hv⟩:=h;exact k v hv
theorem T.mono {α:Type} {o:Option α} {Q P:α→Prop} (h:T o Q) (k:∀ v,Q v→P v):T o P:=by
 obtain ⟨v,h1,hv⟩:=h;exact ⟨v,h1,k v hv⟩
theorem T.ck {α:Type} {c:Prop} [Decidable c] {o:Option α} {P:α→Prop} (hc:c) (h:T o P):T (bW c o) P:=by
 unfold bW;rw [if_pos hc];exact h
theorem T.ie {α:Type} {c:Prop} [Decidable c] {a b:Option α} {P:α→Prop} (h1:c→T a P) (h2:¬c→T b P):T (if c then a else b) P:=by
 by_cases h:c
 ·rw [if_pos h];exact h1 h
 rw [if_neg h];exact h2 h
theorem T.at {α:Type} {l:List α} {i:Nat} (h:i < l.length):T (l[i]?) (fun x=>l[i]?=some x):=⟨l[i],List.getElem?_eq_getElem h,List.getElem?_eq_getElem h⟩
theorem T.mem {α:Type} {l:List α} {i:Nat} (h:i < l.length):T (l[i]?) (fun x=>x∈l):=⟨l[i],List.getElem?_eq_getElem h,List.getElem_mem h⟩
theorem T.lp {σ ε:Type} {step:σ→Option (σ⊕ε)} (I:σ→Prop) (μ:σ→Nat) {Q:ε→Prop} (h:∀ s,I s→T (step s) (fun r=>match r with | .inl s'=>I s'∧μ s' < μ s | .inr e=>Q e)) {s0:σ} (h0:I s0):T (bD step s0) Q:=by
 have:∀ n s,μ s=n→I s→T (bD step s) Q:=by
  intro n
  induction n using Nat.strongRecOn with
  | _ n ih =>
   intro s hn hI;obtain ⟨v,h1,h2⟩:=h s hI
   cases v with
   | inl s'=>rw [fC h1];exact ih (μ s') (by have:=h2.2;omega) s' rfl h2.1
   | inr e=>rw [dS h1];exact ⟨e,rfl,h2⟩
 exact this _ s0 rfl h0
theorem T.ix {σ ε:Type} {step:σ→Option (σ⊕ε)} (n:Nat) (ix:σ→Nat) (I:σ→Prop) {Q:ε→Prop} (h:∀ s,I s→ix s≤n→T (step s) (fun r=>match r with | .inl s'=>I s'∧ix s'=ix s+1∧ix s < n | .inr e=>Q e)) {s0:σ} (h0:I s0) (h1:ix s0≤n):T (bD step s0) Q :=
 T.lp (fun s=>I s∧ix s≤n) (fun s=>n - ix s) (fun s hs=>(h s hs.1 hs.2).mono fun v hv=>by
  cases v with
  | inl s'=>have:=hv.2;exact ⟨⟨hv.1,by omega⟩,by omega⟩
  | inr e=>exact hv) ⟨h0,h1⟩
theorem T.rc {β:Type} {F:Nat→Option β} {P:β→Prop} (h:T (F 100000) P):T (vH F) P:=by
 obtain ⟨v,h1,hv⟩:=h;exact ⟨v,by unfold vH;rw [h1];rfl,hv⟩
theorem T.eq {α:Type} {o:Option α} {v:α} {P:α→Prop} (h:o=some v) (hp:P v):T o P:=⟨v,h,hp⟩
theorem T.ok {α:Type} {o:Option α} {v:α} (h:o=some v):T o (fun r=>r=v):=⟨v,h,rfl⟩
theorem T.get {α:Type} {o:Option α} {P:α→Prop} {d:α} (h:T o P):o=some (o.getD d):=by
 obtain ⟨v,rfl,_⟩:=h;rfl
theorem idx {α:Type} (l:List α) (p:α→Bool) (step:Nat→Option (Nat⊕(Unit⊕Int))) (h:∀ (i:Nat) (x:α),l[i]?=some x→step i=if p x then some (.inr (.inr (i:Int))) else some (.inl (i+1))) (he:step l.length=some (.inr (.inl ()))) :
  T (bD step 0) (fun e=>(∃ z:Nat,e=.inr (z:Int)∧l.any p=true)∨(e=.inl ()∧l.any p=false)):=by
 have:∀ n i,l.length - i=n→i≤l.length→T (bD step i) (fun e=>(∃ z:Nat,e=.inr (z:Int)∧(l.drop i).any p=true)∨(e=.inl ()∧(l.drop i).any p=false)):=by
  intro n
  induction n with
  | zero =>
   intro i h1 h2;obtain rfl:i=l.length:=by omega
   rw [dS he,List.drop_length];exact ⟨_,rfl,.inr ⟨rfl,rfl⟩⟩
  | succ n ih =>
   intro i h1 h2;have hi:i < l.length:=by omega
   rw [List.drop_eq_getElem_cons hi];simp only [List.any_cons];have h3:=h i _ (List.getElem?_eq_getElem hi)
   cases hp:p l[i] with
   | true=>rw [hp,if_pos rfl] at h3;rw [dS h3];exact ⟨_,rfl,.inl ⟨i,rfl,rfl⟩⟩
   | false=>rw [hp] at h3;rw [fC h3];simp only [Bool.false_or];exact ih _ (by omega) (by omega)
 exact this _ 0 rfl (Nat.zero_le _)
theorem pQ {α:Type} (l:List α) (f:α→Option Bool) (p:α→Bool) (hf:∀ x∈l,f x=some (p x)) (step:Nat→Option (Nat⊕(Unit⊕Int)))
  (h:∀ i,step i=if (i:Int) < (l.length:Int) then (l[i]?).bind fun x=>(f x).bind fun r=>if r then some (.inr (.inr (i:Int))) else some (.inl (i+1)) else some (.inr (.inl ()))) :
  T (bD step 0) (fun e=>(∃ z:Nat,e=.inr (z:Int)∧l.any p=true)∨(e=.inl ()∧l.any p=false)):=by
 refine idx l p step (fun i x hx=>?_) ?_
 ·have hi:=(List.getElem?_eq_some_iff.1 hx).1;rw [h,if_pos (by omega),hx,Option.bind_some,hf x (List.mem_of_getElem? hx),Option.bind_some]
 rw [h,if_neg (by omega)]
theorem UN (l:List (List Int)) (f:List Int→Option Bool) (p:List Int→Bool) (hf:∀ x∈l,f x=some (p x)):PX l f=some (l.all p):=by
 obtain ⟨r,h1,h2⟩:=pQ l (fun x=>tZ x f) (fun x=>!p x) (fun x hx=>by unfold tZ;rw [hf x hx];rfl) (wY l (fun x=>tZ x f)) (fun i=>rfl);unfold PX WI IT;rw [h1,List.all_eq_not_any_not];rcases h2 with ⟨z,rfl,h2⟩ | ⟨rfl,h2⟩ <;> simp [h2]
theorem aE2 (l:List Int) (f:Int→Option Bool) (p:Int→Bool) (hf:∀ x∈l,f x=some (p x)):DS l f=some (l.all p):=by
 obtain ⟨r,h1,h2⟩:=pQ l (fun x=>tY x f) (fun x=>!p x) (fun x hx=>by unfold tY;rw [hf x hx];rfl) (wW l (fun x=>tY x f)) (fun i=>rfl);unfold DS IS IR;rw [h1,List.all_eq_not_any_not];rcases h2 with ⟨z,rfl,h2⟩ | ⟨rfl,h2⟩ <;> simp [h2]
theorem aE3 (l:List dN) (f:dN→Option Bool) (p:dN→Bool) (hf:∀ x∈l,f x=some (p x)):DV l f=some (l.all p):=by
 obtain ⟨r,h1,h2⟩:=pQ l (fun x=>uA x f) (fun x=>!p x) (fun x hx=>by unfold uA;rw [hf x hx];rfl) (wZ l (fun x=>uA x f)) (fun i=>rfl);unfold DV IV IU;rw [h1,List.all_eq_not_any_not];rcases h2 with ⟨z,rfl,h2⟩ | ⟨rfl,h2⟩ <;> simp [h2]
theorem JR (n a b:Int):KV n a b=some (decide (a≤n∧n≤b)):=by
 unfold KV;by_cases h:a≤n <;> simp [h]
theorem FU (d:aV) (n:Int) (h:1≤d.members∧d.members≤40):oX d n=some (decide (0≤n∧n≤d.members - 1)):=by
 unfold oX bW;rw [if_pos (by omega),JR];rfl
theorem aE4 (l:List Int):T (DT l) fun _=>True:=by
 unfold DT;refine T.bd (Q:=fun _=>True) (T.ix l.length id (fun _=>True) (fun i _ hi=>?_) trivial (Nat.zero_le _)) (fun v _=>?_)
 ·unfold wX;refine T.ie (fun h=>T.bd (Q:=fun _=>True) (T.ie (fun h0=>T.bd (T.at (by simpa using h)) fun x _=>T.bd (T.at (by simp only [id] at *;omega)) fun y _=>.mk trivial) fun _=>.mk trivial) fun t _=>T.ie (fun _=>.mk trivial) fun _=>.mk ⟨trivial,rfl,by simpa using h⟩) fun _=>.mk trivial
 cases v <;> exact .mk trivial
end T12
set_option maxHeartbeats 4000000
namespace T12
open Go Go.Proofs Pk
def In (d:aV) (a b:Int):Prop:=(0≤a∧a < d.members)∧(0≤b∧b < d.members)
structure Vd (d:aV):Prop where
 m:1≤d.members∧d.members≤40
 pl:d.pairs.length≤10
 xl:d.proxies.length≤10
 p:∀ p∈d.pairs,In d p.a p.b
 x:∀ p∈d.proxies,In d p.holder p.for_
 r:0≤d.rule∧d.rule < 3
 n:0≤d.need∧d.need≤40
 q:0≤d.quorum∧d.quorum≤40
theorem tk1 {α:Type} {l:List α} {i:Nat} {x:α} {P:α→Prop} (h:∀ y∈l.take i,P y) (hx:l[i]?=some x) (hp:P x):∀ y∈l.take (i+1),P y:=by
 intro y hy;rw [List.take_add_one,hx] at hy;rcases List.mem_append.1 hy with hy | hy
 ·exact h y hy
 simp at hy;subst hy;exact hp
theorem UO (d:aV) (h:1≤d.members∧d.members≤40):T (bD (yN d) (0,([]:List (Int×Bool)))) (fun e=>match e with | .inl _=>∀ p∈d.pairs,In d p.a p.b | .inr z=>z=false):=by
 refine T.ix d.pairs.length (·.1) (fun s=>∀ p∈d.pairs.take s.1,In d p.a p.b) (fun s hs hi=>?_) (by simp) (Nat.zero_le _);unfold yN;refine T.ie (fun hl=>T.bd (T.at (by omega)) fun x hx=>T.bd (Q:=fun t=>t=false→In d x.a x.b) ?_ fun t ht=>T.ie (fun h=>.mk rfl) fun h=>.mk ⟨tk1 hs hx (ht (by simpa using h)),rfl,by omega⟩) (fun hl=>.mk fun p hp=>hs p (by rw [List.take_of_length_le (by omega)];exact hp));refine T.bd (.ok (FU d _ h)) fun r hr=>T.ie (fun h1=>T.bd (.ok (FU d _ h)) fun r' hr'=>T.ie (fun h2=>?_) fun _=>.mk (by simp)) fun _=>.mk (by simp);subst hr hr';simp only [decide_eq_true_eq] at h1 h2;have:In d x.a x.b:=⟨⟨by omega,by omega⟩,by omega,by omega⟩;exact T.ie (fun _=>.mk fun _=>this) fun _=>T.ie (fun _=>.mk fun _=>this) fun _=>.mk fun _=>this
theorem UP (d:aV) (h:1≤d.members∧d.members≤40):T (bD (yO d) (0,([]:List (Int×Bool)))) (fun e=>match e with | .inl _=>∀ p∈d.proxies,In d p.holder p.for_ | .inr z=>z=false):=by
 refine T.ix d.proxies.length (·.1) (fun s=>∀ p∈d.proxies.take s.1,In d p.holder p.for_) (fun s hs hi=>?_) (by simp) (Nat.zero_le _);unfold yO;refine T.ie (fun hl=>T.bd (T.at (by omega)) fun x hx=>T.bd (Q:=fun t=>t=false→In d x.holder x.for_) ?_ fun t ht=>T.ie (fun h=>.mk rfl) fun h=>.mk ⟨tk1 hs hx (ht (by simpa using h)),rfl,by omega⟩) (fun hl=>.mk fun p hp=>hs p (by rw [List.take_of_length_le (by omega)];exact hp));refine T.bd (.ok (FU d _ h)) fun r hr=>T.ie (fun h1=>T.bd (.ok (FU d _ h)) fun r' hr'=>T.ie (fun h2=>?_) fun _=>.mk (by simp)) fun _=>.mk (by simp);subst hr hr';simp only [decide_eq_true_eq] at h1 h2;have:In d x.holder x.for_:=⟨⟨by omega,by omega⟩,by omega,by omega⟩;exact T.ie (fun _=>.mk fun _=>this) fun _=>.mk fun _=>this
theorem aE5 (d:aV) (h:1≤d.members∧d.members≤40):T (SL d) (fun r=>r=true→(∀ p∈d.pairs,In d p.a p.b)∧∀ p∈d.proxies,In d p.holder p.for_):=by
 unfold SL;refine T.bd (UO d h) fun e he=>?_
 cases e with
 | inr z=>exact .mk fun hz=>by simp only at he;simp [he] at hz
 | inl t =>
  refine T.bd (UP d h) fun e he'=>?_
  cases e with
  | inr z=>exact .mk fun hz=>by simp only at he';simp [he'] at hz
  | inl t=>exact T.bd (.ok (aE3 _ _ (fun p=>!((eD t p.holder).getD false)) fun _ _=>rfl)) fun _ _=>.mk fun _=>⟨he,he'⟩
theorem UQ (d:aV) (l:List Int) (h:1≤d.members∧d.members≤40):T (AV d l) fun _=>True:=by
 unfold AV;refine T.bd (Q:=fun _=>True) (T.bd (.ok (aE2 _ _ _ fun x _=>FU d x h)) fun r _=>T.ie (fun _=>T.bd (aE4 l) fun _ _=>.mk trivial) fun _=>.mk trivial) fun _ _=>.mk trivial
theorem UR:SM=some ():=rfl
theorem US (d:aV) (hr:0≤d.rule∧d.rule≤255):T (NT d) (fun r=>r=true→Vd d):=by
 unfold NT;refine T.bd (Q:=fun r=>r=true→Vd d) (T.bd (.ok (JR _ _ _)) fun r h1=>T.ie (fun h=>?_) fun _=>.mk (by simp)) fun r hr=>?_
 ·subst h1;simp only [decide_eq_true_eq] at h;refine T.bd (.ok (UN _ _ (fun l=>(AV d l).getD false) fun x _=>(UQ d x h).get)) fun r _=>T.ie (fun _=>?_) fun _=>.mk (by simp);refine T.bd (.ok (UN _ _ (fun l=>(AV d l).getD false) fun x _=>(UQ d x h).get)) fun r _=>T.ie (fun _=>?_) fun _=>.mk (by simp);refine T.ie (fun hp=>T.ie (fun hx=>T.bd (aE5 d h) fun r ht=>T.ie (fun hb=>T.ck (by omega) (T.bd (.ok UR) fun _ _=>T.ie (fun h3=>T.bd (.ok (JR _ _ _)) fun r h4=>T.ie (fun h5=>T.bd (.ok (JR _ _ _)) fun r h6=>T.ie (fun h7=>?_) fun _=>.mk (by simp)) fun _=>.mk (by simp)) fun _=>.mk (by simp))) fun _=>.mk (by simp)) fun _=>.mk (by simp)) fun _=>.mk (by simp);subst h4 h6;simp only [decide_eq_true_eq] at h5 h7;have:Vd d:=⟨h,by omega,by omega,(ht hb).1,(ht hb).2,⟨hr.1,h3⟩,h5,h7⟩;exact T.ie (fun _=>.mk fun _=>this) fun _=>.mk fun _=>this
 exact .mk hr
end T12
set_option maxHeartbeats 4000000
namespace T12
open Go Go.Proofs Pk
theorem JS (l:List Int) (v:Int):KW l v=some (l.any fun x=>decide (v=x)):=by
 obtain ⟨r,h1,h2⟩:=idx l (fun x=>decide (v=x)) (uB l v) (fun i x hx=>by
  have hi:=(List.getElem?_eq_some_iff.1 hx).1
  unfold uB;rw [if_pos (by omega),hx,Option.bind_some];simp) (by unfold uB;rw [if_neg (by omega)])
 unfold KW WJ;rw [h1];rcases h2 with ⟨z,rfl,h2⟩ | ⟨rfl,h2⟩ <;> simp [h2]
theorem aE6 (l:List UInt8) (v:Int):QC l v=some (l.any fun x=>decide (v=(x.toNat:Int))):=by
 obtain ⟨r,h1,h2⟩:=idx l (fun x=>decide (v=(x.toNat:Int))) (uD l v) (fun i x hx=>by
  have hi:=(List.getElem?_eq_some_iff.1 hx).1
  unfold uD;rw [if_pos (by omega),hx,Option.bind_some];simp) (by unfold uD;rw [if_neg (by omega)])
 unfold QC WK;rw [h1];rcases h2 with ⟨z,rfl,h2⟩ | ⟨rfl,h2⟩ <;> simp [h2]
theorem UT (l:bE) (v:Int):T (zU l v) fun _=>True:=by
 unfold zU;refine T.bd (.ok (JS _ _)) fun r _=>T.bd (Q:=fun t=>t≤1) (T.ie (fun _=>.mk (Nat.le_refl _)) fun _=>.mk (by omega)) fun t ht=>T.bd (.ok (JS _ _)) fun r _=>T.bd (Q:=fun _=>True) (T.ie (fun _=>.ck (by omega) (.mk trivial)) fun _=>.mk trivial) fun _ _=>.mk trivial
theorem aE7 (d:aV) (v:Int):T (EC d v) fun r=>r.length≤3:=by
 unfold EC;refine T.bd (UT _ _) fun a _=>T.bd (UT _ _) fun b _=>T.bd (Q:=fun _=>True) (T.ie (fun _=>.mk trivial) fun _=>.mk trivial) fun _ _=>?_;refine T.bd (Q:=fun l=>l.length≤1) (T.ie (fun _=>.ck (by decide) (.mk (by decide))) fun _=>.mk (by decide)) fun l hl=>T.bd (Q:=fun _=>True) (T.ie (fun _=>.mk trivial) fun _=>.mk trivial) fun _ _=>?_;refine T.bd (Q:=fun l=>l.length≤2) (T.ie (fun _=>.ck (by omega) (.mk (by simp;omega))) fun _=>.mk (by omega)) fun l hl=>T.bd (Q:=fun _=>True) (T.ie (fun _=>.mk trivial) fun _=>.mk trivial) fun _ _=>?_;exact T.bd (Q:=fun l=>l.length≤3) (T.ie (fun _=>.ck (by omega) (.mk (by simp;omega))) fun _=>.mk (by omega)) fun l hl=>.mk hl
structure Lk (x:cU):Prop where
 d:Vd x.division
 l:x.may.length=40
 m:∀ v∈x.may,v.length≤3
theorem uR {α:Type} {l:List α} {i:Nat} {v:α} {P:α→Prop} (h:∀ x∈l,P x) (hv:P v):∀ x∈l.set i v,P x:=fun x hx=>by
 rcases List.mem_or_eq_of_mem_set hx with h1 | rfl
 ·exact h _ h1
 exact hv
theorem aE8 (d:aV) (h:Vd d):T (SN d) fun x=>Lk x∧x.division=d:=by
 unfold SN;refine T.bd (Q:=fun _=>True) (T.ix d.pairs.length (·.1) (fun _=>True) (fun s hs hi=>?_) trivial (Nat.zero_le _)) fun e he=>?_
 ·unfold ED;refine T.ie (fun hl=>T.bd (T.mem (by omega)) fun x hx=>?_) fun _=>.mk trivial;have:=h.p x hx;unfold In at this;have:=h.m;exact .ck (by omega) (.ck (by omega) (.ck (by omega) (.ck (by omega) (.mk ⟨trivial,rfl,by omega⟩))))
 have hm:=h.m;refine T.bd (Q:=fun l=>l.length=40∧∀ v∈l,v.length≤3) (T.ix d.members.toNat (·.1) (fun s=>s.2.length=40∧∀ v∈s.2,v.length≤3) (fun s hs hi=>?_) ⟨List.length_replicate ..,fun v hv=>by rw [List.eq_of_mem_replicate hv];decide⟩ (Nat.zero_le _)) fun l hl=>.mk ⟨⟨h,hl.1,hl.2⟩,rfl⟩;unfold EE;exact T.ie (fun hl=>T.bd (aE7 d _) fun r hr=>T.bd (T.at (by rw [hs.1];omega)) fun _ _=>.ck (by omega) (.mk ⟨⟨by rw [List.length_set];exact hs.1,uR hs.2 hr⟩,rfl,by omega⟩)) fun _=>.mk hs
theorem aE9 (x:cU) (h:Lk x):T (SO x) fun _=>True:=by
 have hm:=h.d.m;have hl:=h.l;unfold SO;refine T.bd (Q:=fun _=>True) (T.ix x.division.members.toNat (·.2.1) (fun _=>True) (fun s _ hi=>?_) trivial (Nat.zero_le _)) fun e he=>.mk trivial;unfold EF;exact T.ie (fun hl=>T.bd (T.at (by omega)) fun _ _=>T.ie (fun _=>.mk trivial) fun _=>.ck (by omega) (.mk ⟨trivial,rfl,by omega⟩)) fun _=>.mk trivial
theorem aFa (d:aV) (hr:0≤d.rule∧d.rule≤255):T (PZ d) fun r=>r.2=0→Lk r.1∧r.1.division=d:=by
 unfold PZ;refine T.bd (US d hr) fun r h=>T.ie (fun h1=>T.bd (aE8 d (h h1)) fun x hx=>T.bd (aE9 x hx.1) fun _ _=>T.ie (fun _=>.mk (by simp)) fun _=>.mk fun _=>hx) fun _=>.mk (by simp)
theorem t142 (x:cU) (h:Lk x):T (SP x) fun l=>l.length≤40:=by
 have hm:=h.d.m;have hl:=h.l;unfold SP;refine T.bd (Q:=fun l=>l.length≤40) (T.ix x.division.members.toNat (·.1) (fun s=>s.2.length≤s.1) (fun s hs hi=>?_) (Nat.zero_le _) (Nat.zero_le _)) fun e he=>.mk he;unfold EG;exact T.ie (fun hl=>T.bd (T.at (by omega)) fun _ _=>T.bd (Q:=fun l=>l.length≤s.1+1) (T.ie (fun _=>.ck (by omega) (.mk (by simp;omega))) fun _=>.mk (by omega)) fun l hl=>.ck (by omega) (.mk ⟨hl,rfl,by omega⟩)) fun _=>.mk (by omega)
theorem t99 (d:aV) (hr:0≤d.rule∧d.rule≤255):T (SQ d) fun r=>r.2=0→Lk r.1∧r.1.division=d:=by
 unfold SQ;exact T.bd (aFa d hr) fun r h=>T.bd (Q:=fun _=>True) (T.ie (fun h0=>T.bd (t142 _ (h h0).1) fun _ _=>.mk trivial) fun _=>.mk trivial) fun t _=>T.ie (fun _=>.mk (by simp)) fun _=>.mk h
def Nb (n:dT):Prop:=(0≤n.ayes∧n.ayes≤60)∧0≤n.noes∧n.noes≤60
theorem t102 (x:cU) (t:aY) (h:Lk x):T (QA x t) Nb:=by
 have hm:=h.d.m;have hx:=h.d.xl;unfold QA;refine T.bd (Q:=fun e=>e.1≤40∧e.2≤40) (T.ix x.division.members.toNat (·.1) (fun s=>s.2.1≤s.1∧s.2.2≤s.1) (fun s hs hi=>?_) ⟨Nat.zero_le _,Nat.zero_le _⟩ (Nat.zero_le _)) fun e he=>?_
 ·unfold EH;refine T.ie (fun hl=>.ck (by omega) (T.bd (Q:=fun r=>r.1≤s.1+1∧r.2≤s.1+1) (T.ie (fun _=>.mk ⟨by omega,by omega⟩) fun _=>?_) fun r hr=>.ck (by omega) (.mk ⟨hr,rfl,by omega⟩))) fun _=>.mk ⟨by omega,by omega⟩;exact T.bd (Q:=fun r=>r.1≤s.1+1∧r.2≤s.1+1) (T.bd (Q:=fun r=>r.1≤s.1+1∧r.2≤s.1+1) (T.ie (fun _=>.ck (by omega) (.mk ⟨by dsimp only;omega,by dsimp only;omega⟩)) fun _=>T.bd (Q:=fun r=>r≤s.1+1) (T.ie (fun _=>.ck (by omega) (.mk (by omega))) fun _=>.mk (by omega)) fun r hr=>.mk ⟨by dsimp only;omega,hr⟩) fun r hr=>.mk hr) fun r hr=>.mk hr
 refine T.bd (Q:=fun e=>e.1≤60∧e.2≤60) (T.ix x.division.proxies.length (·.1) (fun s=>s.2.1≤40+s.1∧s.2.2≤40+s.1) (fun s hs hi=>?_) ⟨by dsimp only;omega,by dsimp only;omega⟩ (Nat.zero_le _)) fun e he=>.mk ⟨⟨by dsimp only;omega,by dsimp only;omega⟩,by dsimp only;omega,by dsimp only;omega⟩;unfold EI;refine T.ie (fun hl=>T.bd (T.mem (by omega)) fun y hy=>?_) fun _=>.mk ⟨by dsimp only;omega,by dsimp only;omega⟩;have hI:=h.d.x y hy;unfold In at hI;refine T.bd (Q:=fun _=>True) (.ck (by omega) (.ck (by omega) (T.ie (fun _=>T.ie (fun _=>.mk trivial) fun _=>.ck (by omega) (.ck (by omega) (.mk trivial))) fun _=>.mk trivial))) fun _ _=>?_;refine T.bd (Q:=fun r=>r.1≤40+(s.1+1)∧r.2≤40+(s.1+1)) (T.ie (fun _=>.ck (by omega) (.ck (by omega) ?_)) fun _=>.mk ⟨by dsimp only;omega,by dsimp only;omega⟩) fun r hr=>.mk ⟨hr,rfl,by omega⟩;exact T.bd (Q:=fun r=>r.1≤40+(s.1+1)∧r.2≤40+(s.1+1)) (T.bd (Q:=fun r=>r.1≤40+(s.1+1)∧r.2≤40+(s.1+1)) (T.ie (fun _=>.ck (by omega) (.mk ⟨by dsimp only;omega,by dsimp only;omega⟩)) fun _=>T.bd (Q:=fun r=>r≤40+(s.1+1)) (T.ie (fun _=>.ck (by omega) (.mk (by omega))) fun _=>.mk (by omega)) fun r hr=>.mk ⟨by dsimp only;omega,hr⟩) fun r hr=>.mk hr) fun r hr=>.mk hr
theorem aFb (x:cU) (n:dT) (h:Lk x) (hn:Nb n):T (QB x n) fun r=>0≤r∧r≤2:=by
 have h1:=h.d.r;have h2:=h.d.n;unfold Nb at hn;unfold QB;refine .ck (by omega) (T.ie (fun _=>.mk (by decide)) fun _=>T.bd (.ok UR) fun _ _=>.ck (by omega) (T.ie (fun _=>T.bd (Q:=fun _=>True) ?_ fun _ _=>T.ie (fun _=>.mk (by decide)) fun _=>.mk (by decide)) fun _=>T.ie (fun _=>T.bd (Q:=fun _=>True) ?_ fun _ _=>T.ie (fun _=>.mk (by decide)) fun _=>.mk (by decide)) fun _=>T.ie (fun _=>T.bd (Q:=fun _=>True) ?_ fun _ _=>T.ie (fun _=>.mk (by decide)) fun _=>.mk (by decide)) fun _=>by omega))
 ·exact T.bd (Q:=fun _=>True) (T.ie (fun _=>.mk trivial) fun _=>T.ie (fun _=>T.bd (Q:=fun _=>True) (.mk trivial) fun _ _=>.mk trivial) fun _=>.mk trivial) fun _ _=>.mk trivial
 ·exact T.bd (Q:=fun _=>True) (T.ie (fun _=>.mk trivial) fun _=>.ck (by omega) (T.ie (fun _=>T.bd (Q:=fun _=>True) (.mk trivial) fun _ _=>.mk trivial) fun _=>.mk trivial)) fun _ _=>.mk trivial
 exact T.bd (Q:=fun _=>True) (.ck (by omega) (.ck (by omega) (.ck (by omega) (T.ie (fun _=>.mk trivial) fun _=>.mk trivial)))) fun _ _=>.mk trivial
end T12
set_option maxHeartbeats 4000000
namespace T12
open Go Go.Proofs Pk
def Oc (l:List UInt8):Prop:=l.Nodup∧∀ x∈l,x.toNat≤2
theorem oc3 {l:List UInt8} (h:Oc l):l.length≤3:=by
 have:l ⊆ [0,1,2]:=fun x hx=>by
  have h2:=h.2 x hx;have:∀ n,n≤2→UInt8.ofNat n∈([0,1,2]:List UInt8):=by decide
  have:=this _ h2
  rwa [UInt8.ofNat_toNat] at this
 exact h.1.length_le_of_subset this
theorem aFc (r:cU×Int) (h:Lk r.1):∀ (k:Nat) (s:Nat×aY×List UInt8),r.1.division.members.toNat - s.1 < k→(s.1:Int)≤r.1.division.members→Oc s.2.2→T (mZ r k s) Oc:=by
 have hm:=h.d.m;have hl:=h.l;intro k
 induction k with
 | zero=>intro s h1;omega
 | succ k ih =>
  intro s h1 h2 h3;show T (yP r (mZ r k) s) Oc;unfold yP;refine T.ie (fun he=>T.bd (Q:=Oc) (T.bd (t102 _ _ h) fun n hn=>T.bd (aFb _ _ h hn) fun o ho=>T.bd (.ok (aE6 _ _)) fun c hc=>T.bd (Q:=Oc) (T.ie (fun _=>.mk h3) fun hf=>.ck (by have:=oc3 h3;omega) (.ck (by omega) (.mk ?_))) fun _ h=>.mk h) fun _ h=>.mk h) fun he=>T.bd (T.at (by omega)) fun vs _=>T.bd (Q:=fun e=>Oc e.2) (T.ix vs.length (·.1) (fun q=>Oc q.2.2) (fun q hq hi=>?_) h3 (Nat.zero_le _)) fun e he=>.mk he
  ·rw [hc] at hf;have hx:(UInt8.ofNat o.toNat).toNat=o.toNat:=by simp;omega
   refine ⟨List.nodup_append.2 ⟨h3.1,List.nodup_cons.2 ⟨by simp,List.nodup_nil⟩,fun a ha b hb hab=>?_⟩,fun x hx'=>?_⟩
   ·simp at hb;subst hb hab;exact hf (List.any_eq_true.2 ⟨_,ha,by rw [hx];simp;omega⟩)
   rcases List.mem_append.1 hx' with h | h
   ·exact h3.2 _ h
   simp at h;subst h;rw [hx];omega
  unfold EK;exact T.ie (fun hl=>T.bd (T.at (by omega)) fun v _=>.ck (by omega) (.ck (by omega) (T.bd (ih _ (by dsimp only;omega) (by dsimp only;omega) hq) fun o ho=>.mk ⟨ho,rfl,by omega⟩))) fun _=>.mk hq
theorem t212 (a b:Int):T (SR a b) fun _=>True:=by
 unfold SR EJ;exact T.bd (Q:=fun _=>True) (T.bd (.mk trivial) fun _ (_:True)=>T.ie (fun _=>T.bd (.mk trivial) fun _ (_:True)=>T.ie (fun _=>.mk trivial) fun _=>.mk trivial) fun _=>.mk trivial) fun _ _=>.mk trivial
theorem aFd (l:List UInt8) (r:Int) (b c:Bool) (h:l.length≤3) (h2:∀ x∈l,x.toNat≤2):T (bD (uE l) (0,l.length,r,b,c)) fun o=>o.length=l.length∧(l.length≤1→o=l)∧∀ x∈o,x.toNat≤2:=by
 suffices hs:T (uE l (0,l.length,r,b,c)) fun e=>∃ o,e=.inr o∧o.length=l.length∧(l.length≤1→o=l)∧∀ x∈o,x.toNat≤2 by
  obtain ⟨_,h1,o,rfl,h2⟩:=hs
  rename_i h3;rw [dS h1];exact ⟨o,rfl,by assumption⟩
 unfold uE;dsimp only;refine .ck (by omega) (T.ie (fun _=>T.bd (Q:=fun (o:List UInt8)=>o.length=l.length∧(l.length≤1→o=l)∧∀ x∈o,x.toNat≤2) (.ck (by omega) (T.bd (Q:=fun (o:List UInt8)=>o.length=l.length∧(l.length≤1→o=l)∧∀ x∈o,x.toNat≤2) ?_ fun _ h=>.mk h)) fun o ho=>.mk ⟨o,rfl,ho⟩) fun hf=>by omega);by_cases h1:l.length≤1
 ·rw [dS (e:=l) (by unfold yQ;dsimp only;rw [if_neg (by omega)])];exact .mk ⟨rfl,fun _=>rfl,h2⟩
 refine T.ix l.length (·.1) (fun s=>s.2.length=l.length∧∀ x∈s.2,x.toNat≤2) (fun s hs hi=>?_) ⟨rfl,h2⟩ (by dsimp only;omega);unfold yQ;dsimp only;refine T.ie (fun hl=>T.bd (Q:=fun (o:List UInt8)=>o.length=l.length∧∀ x∈o,x.toNat≤2) (T.lp (fun q=>(q.2.length=l.length∧∀ x∈q.2,x.toNat≤2)∧0≤q.1∧q.1 < (l.length:Int)) (fun q=>q.1.toNat) (fun q hq=>?_) ⟨hs,by dsimp only;omega,by dsimp only;omega⟩) fun o ho=>.ck (by omega) (.mk ⟨ho,rfl,by omega⟩)) fun _=>.mk ⟨hs.1,fun h=>absurd h h1,hs.2⟩;unfold EM;dsimp only;refine T.bd (Q:=fun t=>t=true→0 < q.1) (T.ie (fun h0=>.ck (by omega) (T.bd (T.at (by omega)) fun _ _=>.ck (by omega) (.ck (by omega) (T.bd (T.at (by omega)) fun _ _=>T.bd (t212 _ _) fun _ _=>.mk fun _=>by omega)))) fun _=>.mk (by simp)) fun t ht=>T.ie (fun h=>?_) fun _=>.mk hq.1;have:=ht h;exact .ck (by omega) (.ck (by omega) (T.bd (T.mem (by omega)) fun u hu=>.ck (by omega) (T.bd (T.mem (by omega)) fun w hw=>T.bd (T.at (by rw [List.length_set];omega)) fun _ _=>.mk ⟨⟨⟨by simp [hq.1.1],uR (uR hq.1.2 (hq.1.2 u hu)) (hq.1.2 w hw)⟩,by dsimp only;omega,by dsimp only;omega⟩,by dsimp only;omega⟩)))
theorem aFe (n:Nat) (h:n≤3):T (WL n) fun _=>True:=by
 rcases (by omega:n=0∨n=1∨n=2∨n=3) with rfl | rfl | rfl | rfl <;> exact ⟨_,rfl,trivial⟩
theorem t66 (d:aV) (hr:0≤d.rule∧d.rule≤255):T (SS d) fun r=>r.1.length≤3∧∀ x∈r.1,x.toNat≤2:=by
 unfold SS;refine T.bd (t99 d hr) fun r h=>T.ie (fun _=>.mk (by simp)) fun h0=>?_;have hL:=(h (by omega)).1;have:=hL.d.m;refine T.bd (Q:=Oc) (T.bd (Q:=Oc) (T.rc (aFc r hL _ _ (by dsimp only;omega) (by dsimp only;omega) ⟨List.nodup_nil,by simp⟩)) fun _ h=>.mk h) fun l hl=>?_;have h3:=oc3 hl;exact T.bd (Q:=fun (o:List UInt8)=>o.length≤3∧∀ x∈o,x.toNat≤2) (T.bd (aFe _ h3) fun b _=>T.bd (Q:=fun (o:List UInt8)=>o.length≤3∧∀ x∈o,x.toNat≤2) (T.bd (aFd l b true true h3 hl.2) fun o ho=>.mk ⟨by omega,ho.2.2⟩) fun _ h=>.mk h) fun _ h=>.mk h
end T12
set_option maxHeartbeats 4000000
namespace T12
open Go Go.Proofs Pk
theorem jS {κ α:Type} [DecidableEq κ] (k k':κ) (y:α):∀ t:List (κ×α),eD (put t k y) k'=if k'=k then some y else eD t k'
 | []=>by simp [put,eD]
 | (a,x)::t=>by
  unfold put
  split
  ·rename_i h;subst h;simp only [eD];split <;> rfl
  rename_i h
  simp only [eD,jS k k' y t];by_cases h1:k'=a
  ·subst h1;rw [if_pos rfl,if_neg (Ne.symm h),if_pos rfl]
  rw [if_neg h1,if_neg h1]
theorem rQ {κ α:Type} [DecidableEq κ] (k:κ) (y:α):∀ t:List (κ×α),(put t k y).length=t.length+if (eD t k).isNone then 1 else 0
 | []=>rfl
 | (a,x)::t=>by
  unfold put
  split
  ·rename_i h;subst h;simp [eD]
  rename_i h;simp only [eD,if_neg h,List.length_cons,rQ k y t];omega
def xS (t:List (Int×aQ)):List aQ→List (Int×aQ)
 | []=>t
 | p::l=>xS (put t p.number p) l
theorem uU (x:aQ):∀ (l:List aQ) (t:List (Int×aQ)),xS t (l++[x])=put (xS t l) x.number x
 | [],_=>rfl
 | p::l,t=>uU x l _
theorem FV:∀ (l:List aQ) (t:List (Int×aQ)),(xS t l).length≤t.length+l.length
 | [],_=>Nat.le_refl _
 | p::l,t=>by
  have h1:=FV l (put t p.number p);have h2:=rQ p.number p t;simp only [xS,List.length_cons];split at h2 <;> omega
theorem FX:∀ (l:List aQ) (t:List (Int×aQ)),(xS t l).length=t.length+l.length→(∀ p∈l,eD t p.number=none)∧(l.map (·.number)).Nodup
 | [],_,_=>⟨by simp,List.nodup_nil⟩
 | p::l,t,h=>by
  have h1:=FV l (put t p.number p);have h2:=rQ p.number p t;simp only [xS,List.length_cons] at h
  cases hk:eD t p.number with
  | some y=>rw [hk] at h2;simp at h2;omega
  | none =>
   rw [hk] at h2;simp at h2;obtain ⟨h3,h4⟩:=FX l _ (by omega:(xS (put t p.number p) l).length=(put t p.number p).length+l.length);have h5:∀ q∈l,q.number≠p.number∧eD t q.number=none:=fun q hq=>by
    have:=h3 q hq;rw [jS] at this
    split at this
    ·cases this
    exact ⟨by assumption,this⟩
   refine ⟨fun q hq=>?_,List.nodup_cons.2 ⟨fun hm=>?_,h4⟩⟩
   ·rcases List.mem_cons.1 hq with rfl | hq
    ·exact hk
    exact (h5 q hq).2
   obtain ⟨q,hq,he⟩:=List.mem_map.1 hm;exact (h5 q hq).1 he
theorem xU:∀ (l:List aQ) (t:List (Int×aQ)) (k:Int) (p:aQ),eD (xS t l) k=some p→(p∈l∧p.number=k)∨eD t k=some p
 | [],_,_,_,h=>.inr h
 | q::l,t,k,p,h=>by
  rcases xU l _ k p h with h1 | h1
  ·exact .inl ⟨List.mem_cons_of_mem _ h1.1,h1.2⟩
  rw [jS] at h1
  split at h1
  ·cases h1;exact .inl ⟨List.mem_cons_self ..,by symm;assumption⟩
  exact .inr h1
theorem yY:∀ (l:List aQ) (t:List (Int×aQ)) (k:Int),k∉l.map (·.number)→eD (xS t l) k=eD t k
 | [],_,_,_=>rfl
 | q::l,t,k,h=>by
  simp only [List.map_cons,List.mem_cons,not_or] at h;rw [xS,yY l _ k h.2,jS,if_neg h.1]
theorem FY:∀ (l:List aQ) (t:List (Int×aQ)),(l.map (·.number)).Nodup→∀ p∈l,eD (xS t l) p.number=some p
 | [],_,_,p,h=>absurd h (List.not_mem_nil)
 | q::l,t,hn,p,h=>by
  rw [List.map_cons,List.nodup_cons] at hn;rcases List.mem_cons.1 h with rfl | h
  ·rw [xS,yY l _ _ hn.1,jS,if_pos rfl]
  exact FY l _ hn.2 p h
def JT (m:bJ):List (Int×aQ):=xS [] m.papers
def FZ (m:bJ) (n:Int):aQ:=(eD (JT m) n).getD ⟨0,0,0,0,[]⟩
theorem AN (m:bJ):GQ m=some (JT m):=by
 obtain ⟨v,h1,h2⟩:T (bD (yR m) (0,([]:List (Int×aQ)))) fun e=>e=JT m:=by
  refine T.ix m.papers.length (·.1) (fun s=>s.2=xS [] (m.papers.take s.1)) (fun s hs hi=>?_) rfl (Nat.zero_le _);unfold yR;refine T.ie (fun hl=>T.bd (T.at (by omega)) fun x hx=>.mk ⟨?_,rfl,by omega⟩) fun hl=>.mk ?_
  ·dsimp only;rw [List.take_add_one,hx,Option.toList_some,uU,hs]
  dsimp only;rw [hs,List.take_of_length_le (by omega)];rfl
 unfold GQ;rw [h1,h2];rfl
theorem GA (l:List aQ) (f:aQ→Option Bool) (p:aQ→Bool) (hf:∀ x∈l,f x=some (p x)):rM l f=some (l.all p):=by
 obtain ⟨r,h1,h2⟩:=pQ l (fun x=>uG x f) (fun x=>!p x) (fun x hx=>by unfold uG;rw [hf x hx];rfl) (xB l (fun x=>uG x f)) (fun i=>rfl);unfold rM JA IZ;rw [h1,List.all_eq_not_any_not];rcases h2 with ⟨z,rfl,h2⟩ | ⟨rfl,h2⟩ <;> simp [h2]
theorem UU (l:List aE) (f:aE→Option Bool) (p:aE→Bool) (hf:∀ x∈l,f x=some (p x)):zW l f=some (l.all p):=by
 obtain ⟨r,h1,h2⟩:=pQ l (fun x=>uH x f) (fun x=>!p x) (fun x hx=>by unfold uH;rw [hf x hx];rfl) (yM l (fun x=>uH x f)) (fun i=>rfl);unfold zW NP SI;rw [h1,List.all_eq_not_any_not];rcases h2 with ⟨z,rfl,h2⟩ | ⟨rfl,h2⟩ <;> simp [h2]
theorem aFf (l:List UInt8) (f:Int→Option Bool) (p:Int→Bool) (hf:∀ x∈l,f (x.toNat:Int)=some (p (x.toNat:Int))):ER l f=some (l.all fun x=>p (x.toNat:Int)):=by
 obtain ⟨r,h1,h2⟩:=pQ l (fun x=>uI (x.toNat:Int) f) (fun x=>!p (x.toNat:Int)) (fun x hx=>by unfold uI;rw [hf x hx];rfl) (rF l (fun x=>uI x f)) (fun i=>rfl);unfold ER NR CT;rw [h1,List.all_eq_not_any_not];rcases h2 with ⟨z,rfl,h2⟩ | ⟨rfl,h2⟩ <;> simp [h2]
theorem UV (n a b:Int):zX n a b=some (decide (a≤n∧n≤b)):=by
 unfold zX;by_cases h:a≤n <;> simp [h]
theorem PJ (s:aE):T (lZ s) fun r=>r=true→s.length≤20:=by
 unfold lZ;refine T.bd (Q:=fun r=>r=true→s.length≤20) (T.bd (.ok (UV _ _ _)) fun r h=>T.ie (fun h1=>?_) fun _=>.mk (by simp)) fun _ h=>.mk h;subst h;simp only [decide_eq_true_eq] at h1;refine .ck (by omega) (T.bd (.ok (aFf _ _ (fun c=>(xC c).getD false) fun x _=>?_)) fun _ _=>.mk fun _=>by omega);unfold xC;by_cases h:(33:Int)≤x.toNat <;> simp [h]
def yZ (l:List aE):Prop:=∀ s∈l,s.length≤20
theorem LK {l:List aE} (h:(l.all fun s=>(lZ s).getD false)=true):yZ l:=fun s hs=>by
 obtain ⟨r,h1,h2⟩:=PJ s;have:=List.all_eq_true.1 h s hs;rw [h1] at this;exact h2 this
theorem aFg {α:Type} {l:List α} {i:Nat} {x:α} {P:α→Prop} (h:∀ y∈l.take i,P y) (hx:l[i]?=some x) (hp:P x):∀ y∈l.take (i+1),P y:=by
 intro y hy;rw [List.take_add_one,hx] at hy;rcases List.mem_append.1 hy with hy | hy
 ·exact h y hy
 simp at hy;subst hy;exact hp
def up (m:bJ):Nat→Int→Int
 | 0,n=>n
 | k+1,n=>(FZ m (up m k n)).of
def wd (m:bJ) (n:Int):List aE:=if n=0 then m.words else (FZ m n).words
structure Vm (m:bJ):Prop where
 pl:m.papers.length≤10
 wl:m.words.length≤60
 w:∀ p∈m.papers,p.words.length≤60
 wt:yZ m.words
 pt:∀ p∈m.papers,yZ p.words
 n:∀ p∈m.papers,1≤p.number∧p.number≤999
 nd:(m.papers.map (·.number)).Nodup
 of:∀ p∈m.papers,p.of=0∨(FZ m p.of).number=p.of
 en:∀ p∈m.papers,∃ j,j≤10∧up m j p.of=0
 ft:∀ p∈m.papers,0≤p.from_∧p.from_≤p.to_∧p.to_≤(wd m p.of).length
theorem UW (m:bJ) (n:Int):QD m n=some (wd m n):=by
 unfold QD wd
 split
 ·rfl
 rw [AN];rfl
theorem t164 (m:bJ) (h2:m.papers.length≤10):T (ET m) fun r=>r=true→∀ p∈m.papers,∃ j,j≤10∧up m j p.of=0:=by
 unfold ET;refine T.bd (.ok (AN m)) fun t ht=>T.bd (Q:=fun r=>r=true→∀ p∈m.papers,∃ j,j≤10∧up m j p.of=0) ?_ fun _ h=>.mk h;subst ht;refine T.ix m.papers.length (·.1) (fun s=>s.2=true∧∀ p∈m.papers.take s.1,∃ j,j≤10∧up m j p.of=0) (fun s hs hi=>?_) ⟨rfl,by simp⟩ (Nat.zero_le _);unfold xE;refine T.ie (fun hl=>T.bd (T.at (by omega)) fun x hx=>T.bd (Q:=fun e=>match e with | .inl r=>r.1=true∧∃ j,j≤10∧up m j x.of=0 | .inr z=>z=.inr false) ?_ fun e he=>?_) fun hl=>.mk fun _ p hp=>hs.2 p (by rw [List.take_of_length_le (by omega)];exact hp)
 ·refine T.ix m.papers.length (·.1) (fun q=>q.2.1=true∧q.2.2.2.1=up m q.1 x.of) (fun q hq hi=>?_) ⟨hs.1,rfl⟩ (Nat.zero_le _);unfold xD;refine T.ie (fun h0=>.ck (by omega) (T.ie (fun _=>⟨_,rfl,rfl⟩) fun h1=>.mk ⟨⟨hq.1,?_⟩,rfl,by omega⟩)) fun h0=>.mk ⟨hq.1,q.1,by omega,by rw [← hq.2];omega⟩;show ((eD (JT m) q.2.2.2.1).getD _).of=_;rw [hq.2];rfl
 cases e with
 | inr z=>simp only at he;subst he;exact .mk (by simp)
 | inl r=>exact .mk ⟨⟨he.1,aFg hs.2 hx he.2⟩,rfl,by omega⟩
end T12
set_option maxHeartbeats 4000000
namespace T12
open Go Go.Proofs Pk
theorem t69 (m:bJ):T (NU m) fun r=>r=0→Vm m:=by
 unfold NU;refine T.bd (.ok (rfl:WM=some ())) fun _ _=>?_;have h1:T (EQ m) fun r=>r=true→m.papers.length≤10∧m.words.length≤60∧∀ p∈m.papers,p.words.length≤60:=by
  unfold EQ;refine T.bd (Q:=fun r=>r=true→m.papers.length≤10∧m.words.length≤60∧∀ p∈m.papers,p.words.length≤60) (T.ie (fun ha=>T.ie (fun hb=>T.bd (.ok (GA _ _ (fun p=>decide ((p.words.length:Int)≤60)) fun _ _=>rfl)) fun r hr=>.mk fun h=>⟨by omega,by omega,fun p hp=>?_⟩) fun _=>.mk (by simp)) fun _=>.mk (by simp)) fun _ h=>.mk h;rw [hr,List.all_eq_true] at h;have:=h p hp;simp only [decide_eq_true_eq] at this;omega
 refine T.bd h1 fun r h1=>T.ie (fun hr=>?_) fun _=>.mk (by simp);obtain ⟨hp,hw,hpw⟩:=h1 hr;have h2:T (ES m) fun r=>r=true→yZ m.words∧∀ p∈m.papers,yZ p.words:=by
  unfold ES
  exact T.bd (Q:=fun r=>r=true→yZ m.words∧∀ p∈m.papers,yZ p.words) (T.bd (.ok (UU _ _ (fun s=>(lZ s).getD false) fun s _=>(PJ s).get)) fun r hr=>T.ie (fun h1=>T.bd (.ok (GA _ _ (fun p=>p.words.all fun s=>(lZ s).getD false) fun p _=>by
   unfold zY;rw [UU _ _ (fun s=>(lZ s).getD false) fun s _=>(PJ s).get];rfl)) fun r2 hr2=>.mk fun h3=>⟨LK (hr.symm.trans h1),fun p hp=>LK (List.all_eq_true.1 (hr2.symm.trans h3) p hp)⟩) fun _=>.mk (by simp)) fun _ h=>.mk h
 refine T.bd h2 fun r h2=>T.ie (fun hr2=>?_) fun _=>.mk (by simp);refine T.bd (T.bd (.ok (GA _ _ (fun p=>decide (1≤p.number∧p.number≤999)) fun p _=>by unfold zZ;rw [UV];rfl)) fun r h=>.mk h:T (JB m) _) fun r h3=>T.ie (fun hr3=>?_) fun _=>.mk (by simp);have h3':∀ p∈m.papers,1≤p.number∧p.number≤999:=fun p hp=>by
  have:=List.all_eq_true.1 (h3.symm.trans hr3) p hp;simpa using this
 refine T.bd (T.bd (.ok (AN m)) fun r h=>.mk (P:=fun r=>r=true→(JT m).length=m.papers.length) fun hd=>by subst h;simp at hd;omega:T (JC m) _) fun r h4=>T.ie (fun hr4=>?_) fun _=>.mk (by simp);have h4':=(FX m.papers [] (by have:=h4 hr4;unfold JT at this;simp;omega)).2
 refine T.bd (T.bd (.ok (AN m)) fun r h=>T.bd (.ok (GA _ _ (fun p=>decide (p.of=0∨(FZ m p.of).number=p.of)) fun p _=>by
  subst h;unfold AA;by_cases hz:p.of=0 <;> simp [hz,FZ])) fun r h=>.mk h:T (JD m) _) fun r h5=>T.ie (fun hr5=>?_) fun _=>.mk (by simp)
 have h5':∀ p∈m.papers,p.of=0∨(FZ m p.of).number=p.of:=fun p hp=>by
  have:=List.all_eq_true.1 (h5.symm.trans hr5) p hp;simpa using this
 refine T.bd (t164 m hp) fun r h6=>T.ie (fun hr6=>?_) fun _=>.mk (by simp)
 refine T.bd (T.bd (.ok (GA _ _ (fun p=>decide (0≤p.from_∧p.from_≤p.to_∧p.to_≤(wd m p.of).length)) fun p _=>by
  unfold AB;rw [UW];by_cases ha:0≤p.from_ <;> by_cases hb:p.from_≤p.to_ <;> simp [ha,hb])) fun r h=>.mk h:T (JE m) _) fun r h7=>T.ie (fun hr7=>.mk fun _=>⟨hp,hw,hpw,(h2 hr2).1,(h2 hr2).2,h3',h4',h5',h6 hr6,fun p hp=>?_⟩) fun _=>.mk (by simp)
 have:=List.all_eq_true.1 (h7.symm.trans hr7) p hp;simpa using this
theorem t222 (a b:aQ):T (SV a b) fun _=>True:=by
 unfold SV;exact T.bd (Q:=fun _=>True) (T.ie (fun _=>T.ie (fun _=>T.ie (fun _=>.mk trivial) fun _=>.mk trivial) fun _=>.mk trivial) fun _=>.mk trivial) fun _ _=>.mk trivial
end T12
set_option maxHeartbeats 4000000
namespace T12
open Go Go.Proofs Pk
theorem UX (choice:List Int) (r:List (Int×aQ)):T (bD (yS choice r) 0) fun e=>match e with | .inl _=>True | .inr z=>z=2:=by
 refine T.ix choice.length id (fun _=>True) (fun i _ hi=>?_) trivial (Nat.zero_le _);unfold yS;exact T.ie (fun hl=>T.bd (T.at (by simp only [id] at *;omega)) fun x hx=>T.bd (Q:=fun _=>True) (T.ie (fun _=>.mk trivial) fun _=>T.ie (fun _=>.mk trivial) fun _=>T.ie (fun h0=>T.bd (T.at (by simp only [id] at *;omega)) fun _ _=>.mk trivial) fun _=>.mk trivial) fun _ _=>T.ie (fun _=>.mk rfl) fun _=>.mk ⟨trivial,rfl,by simp only [id] at *;omega⟩) fun _=>.mk trivial
theorem t167 (m:bJ) (choice:List Int):T (SW m choice) fun _=>True:=by
 unfold SW;refine T.bd (.ok (AN m)) fun r _=>T.bd (Q:=fun _=>True) (T.ix choice.length id (fun _=>True) (fun i _ hi=>?_) trivial (Nat.zero_le _)) fun e _=>?_
 ·unfold EX;exact T.ie (fun hl=>T.bd (T.at (by simp only [id] at *;omega)) fun x hx=>T.bd (Q:=fun _=>True) (T.ie (fun _=>T.bd (.ok (JS _ _)) fun _ _=>.mk trivial) fun _=>.mk trivial) fun _ _=>T.ie (fun _=>.mk trivial) fun _=>.mk ⟨trivial,rfl,by simp only [id] at *;omega⟩) fun _=>.mk trivial
 cases e with
 | inr z=>exact .mk trivial
 | inl _ =>
  refine T.bd (Q:=fun _=>True) (T.ix choice.length id (fun _=>True) (fun i _ hi=>?_) trivial (Nat.zero_le _)) fun e _=>by cases e <;> exact .mk trivial
  unfold EZ;refine T.ie (fun hl=>T.bd (T.at (by simp only [id] at *;omega)) fun x hx=>T.bd (Q:=fun e=>match e with | .inl _=>True | .inr z=>∃ q,z=.inr q) (T.ix choice.length id (fun _=>True) (fun i _ hi=>?_) trivial (Nat.zero_le _)) fun e he=>?_) fun _=>.mk trivial
  ·unfold EY;exact T.ie (fun hl=>T.bd (T.at (by simp only [id] at *;omega)) fun x hx=>T.bd (t222 _ _) fun _ _=>T.ie (fun _=>.mk ⟨_,rfl⟩) fun _=>.mk ⟨trivial,rfl,by simp only [id] at *;omega⟩) fun _=>.mk trivial
  cases e with
  | inl _=>exact .mk ⟨trivial,rfl,by simp only [id] at *;omega⟩
  | inr z=>obtain ⟨q,rfl⟩:=he;exact .mk trivial
theorem aFi (m:bJ) (choice:List Int):T (SX m choice) fun r=>r=0→Vm m:=by
 unfold SX;refine T.bd (t69 m) fun r h=>T.ie (fun hr=>.mk fun h0=>absurd h0 hr) fun h0=>T.bd (.ok (AN m)) fun t _=>T.bd (UX choice t) fun e _=>?_;have hV:=h (by omega)
 cases e with
 | inr z=>exact .mk fun _=>hV
 | inl _=>exact T.bd (t167 m choice) fun _ _=>.mk fun _=>hV
def xV (a b:aQ):Int:=if a.from_ - b.from_≠0 then a.from_ - b.from_ else if a.to_ - b.to_≠0 then a.to_ - b.to_ else a.number - b.number
theorem aFj (x y z:Int):SY [x,y,z]=some (if x≠0 then x else if y≠0 then y else z):=by
 have h:∀ (i:Nat) (v:Int),[x,y,z][i]?=some v→uJ [x,y,z] i=if v≠0 then some (.inr (.inr v)) else some (.inl (i+1)):=fun i v hv=>by
  have:=(List.getElem?_eq_some_iff.1 hv).1;unfold uJ;rw [if_pos (by omega),hv];rfl
 have h0:=h 0 x rfl;have h1:=h 1 y rfl;have h2:=h 2 z rfl;unfold SY;by_cases a:x=0
 ·rw [if_neg (by omega)] at h0;rw [fC h0];by_cases b:y=0
  ·rw [if_neg (by omega)] at h1;rw [fC h1];by_cases c:z=0
   ·rw [if_neg (by omega)] at h2;rw [fC h2,dS (by unfold uJ;rfl)];simp [a,b,c]
   rw [if_pos c] at h2;rw [dS h2];simp [a,b]
  rw [if_pos b] at h1;rw [dS h1];simp [a,b]
 rw [if_pos a] at h0;rw [dS h0];simp [a]
def Pb (p:aQ):Prop:=(0≤p.from_∧p.from_≤60)∧(0≤p.to_∧p.to_≤60)∧1≤p.number∧p.number≤999
theorem UY {a b:aQ} (ha:Pb a) (hb:Pb b):LA a b=some (xV a b):=by
 unfold Pb at ha hb;unfold LA bW;rw [if_pos (by omega),if_pos (by omega),if_pos (by omega),aFj];rfl
theorem qK {a b:aQ} (ha:Pb a) (hb:Pb b):iK LA a b=true↔xV a b < 0:=by
 unfold iK;rw [UY ha hb];simp
theorem JU {l:List aQ} (hl:l.length≤10) (h:∀ p∈l,Pb p) (hn:(l.map (·.number)).Nodup):T (iT LA l) fun r=>r.Perm l:=by
 refine ⟨_,oM ⟨by omega,fun x hx y hy=>⟨_,UY (h x hx) (h y hy)⟩,fun x hx=>?_,fun x hx y hy z hz h1 h2=>?_,fun x hx y hy h1 h2=>?_⟩,List.mergeSort_perm ..⟩
 ·rw [Bool.eq_false_iff,Ne,qK (h x hx) (h x hx)];unfold xV;simp
 ·rw [qK (h _ hx) (h _ hy)] at h1;rw [qK (h _ hy) (h _ hz)] at h2;rw [qK (h _ hx) (h _ hz)];unfold xV at *;(repeat' split at h1) <;> (repeat' split at h2) <;> (repeat' split) <;> omega
 refine Classical.byContradiction fun hne=>?_;have h3:¬xV x y < 0:=fun h3=>by rw [(qK (h _ hx) (h _ hy)).2 h3] at h1;cases h1
 have h4:¬xV y x < 0:=fun h3=>by rw [(qK (h _ hy) (h _ hx)).2 h3] at h2;cases h2
 have h5:x.number=y.number:=by
  unfold xV at h3 h4;(repeat' split at h3) <;> (repeat' split at h4) <;> omega
 obtain ⟨i,hi⟩:=List.getElem?_of_mem hx;obtain ⟨j,hj⟩:=List.getElem?_of_mem hy;have hi':=(List.getElem?_eq_some_iff.1 hi).1;have:=(List.getElem?_inj (by rw [List.length_map];exact hi') hn).1 (show (l.map (·.number))[i]?=(l.map (·.number))[j]? by rw [List.getElem?_map,List.getElem?_map,hi,hj];simp [h5]);subst this;rw [hi] at hj;cases hj;exact hne rfl
end T12
set_option maxHeartbeats 4000000
namespace T12
open Go Go.Proofs Pk
theorem LL (m:bJ):∀ (k:Nat) (n:Int),up m (k+1) n=up m k (FZ m n).of
 | 0,_=>rfl
 | k+1,n=>by rw [up,LL m k n];rfl
def rk (m:bJ) (n:Int):Nat:=((List.range 12).findIdx? fun j=>decide (up m j n=0)).getD 12
open Classical in
theorem LM {m:bJ} {n:Int} {j:Nat} (hj:j < 12) (h:up m j n=0) (hl:∀ i,i < j→up m i n≠0):rk m n=j:=by
 unfold rk;have:(List.range 12).findIdx? (fun j=>decide (up m j n=0))=some j:=by
  rw [List.findIdx?_eq_some_iff_getElem];exact ⟨by simpa using hj,by simpa using h,fun i hi=>by simpa using hl i hi⟩
 rw [this];rfl
theorem xX {P:Nat→Prop}:∀ (n:Nat),P n→∃ j,j≤n∧P j∧∀ i,i < j→¬P i:=by
 intro n
 induction n using Nat.strongRecOn with
 | _ n ih =>
  intro h;by_cases hh:∃ i,i < n∧P i
  ·obtain ⟨i,hi,hP⟩:=hh;obtain ⟨j,h1,h2,h3⟩:=ih i hi hP;exact ⟨j,by omega,h2,h3⟩
  exact ⟨n,Nat.le_refl _,h,fun i hi hP=>hh ⟨i,hi,hP⟩⟩
variable {m:bJ}
theorem PK (hV:Vm m) {p:aQ} (hp:p∈m.papers):FZ m p.number=p:=by
 unfold FZ JT;rw [FY _ _ hV.nd p hp];rfl
theorem UZ (hV:Vm m) {p:aQ} (hp:p∈m.papers):rk m p.number=rk m p.of+1:=by
 obtain ⟨n,hn,h0⟩:=hV.en p hp;obtain ⟨j,h1,h2,h3⟩:=xX (P:=fun j=>up m j p.of=0) n h0;have hu:∀ i,up m (i+1) p.number=up m i p.of:=fun i=>by rw [LL,PK hV hp]
 rw [LM (by omega) h2 h3];refine LM (by omega) (by rw [hu];exact h2) fun i hi=>?_
 cases i with
 | zero=>have:=(hV.n p hp).1;show p.number≠0;omega
 | succ i=>rw [hu];exact h3 i (by omega)
def nF (m:bJ) (n:Int):Nat:=(m.papers.filter fun p=>decide (rk m n≤rk m p.of)).length
theorem GB (hV:Vm m) {p:aQ} (hp:p∈m.papers) {v:Int} (hv:p.of=v):nF m p.number+(m.papers.filter fun q=>decide (q.of=v)).length≤nF m v:=by
 unfold nF;rw [UZ hV hp,hv];have:∀ l:List aQ,(l.filter fun q=>decide (rk m v+1≤rk m q.of)).length+(l.filter fun q=>decide (q.of=v)).length≤(l.filter fun q=>decide (rk m v≤rk m q.of)).length:=by
  intro l
  induction l with
  | nil=>exact Nat.le_refl _
  | cons q l ih =>
   simp only [List.filter_cons,decide_eq_true_eq];by_cases h1:q.of=v
   ·rw [h1,if_neg (by omega:¬rk m v+1≤rk m v),if_pos (rfl:v=v),if_pos (Nat.le_refl _)];simp only [List.length_cons];omega
   rw [if_neg h1];by_cases h2:rk m v+1≤rk m q.of
   ·rw [if_pos h2,if_pos (by omega)];simp only [List.length_cons];omega
   rw [if_neg h2];split <;> (try simp only [List.length_cons]) <;> omega
 exact this _
theorem GC (hV:Vm m) (v:Int):nF m v≤10:=Nat.le_trans (List.length_filter_le _ _) hV.pl
def nN (n:Nat):Nat:=60*3 ^ n
theorem GD:∀ n,n≤10→∀ c,c≤n→c*(60+nN (n - c))+60≤nN n:=by decide
theorem PL:∀ n,n≤10→nN n≤3542940:=by decide
theorem GE {a b:Nat} (h:a≤b):nN a≤nN b:=Nat.mul_le_mul_left _ (Nat.pow_le_pow_right (by decide) h)
theorem LN (hV:Vm m) (v:Int):(wd m v).length≤60:=by
 unfold wd;split
 ·exact hV.wl
 unfold FZ
 cases h:eD (JT m) v with
 | none=>exact Nat.zero_le _
 | some p =>
  rcases xU _ _ _ _ h with h1 | h1
  ·exact hV.w p h1.1
  cases h1
def LW (c:List Int) (a:List aE) (b:List bC):Prop:=a.length=b.length∧yZ a∧∀ o∈b,o.number=0∨o.number∈c
theorem LW.snoc {c:List Int} {a:List aE} {b:List bC} {x:aE} {y:bC} (h:LW c a b) (hx:x.length≤20) (hy:y.number=0∨y.number∈c):LW c (a++[x]) (b++[y]):=⟨by simp [h.1],fun s hs=>by
 rcases List.mem_append.1 hs with h1 | h1
 ·exact h.2.1 s h1
 ·simp at h1;subst h1;exact hx,fun o ho=>by
 rcases List.mem_append.1 ho with h1 | h1
 ·exact h.2.2 o h1
 simp at h1;subst h1;exact hy⟩
theorem VA (hV:Vm m) (v:Int):yZ (wd m v):=by
 unfold wd;split
 ·exact hV.wt
 unfold FZ
 cases h:eD (JT m) v with
 | none=>exact fun s hs=>absurd hs (List.not_mem_nil)
 | some p =>
  rcases xU _ _ _ _ h with h1 | h1
  ·exact hV.pt p h1.1
  cases h1
theorem GF {choice:List Int} (ws:List aE) (v:Int) (hv:v=0∨v∈choice) (te:Int) (ht:te≤ws.length) (h1:ws.length≤60) (step:Int×List aE×List bC→Option ((Int×List aE×List bC)⊕(Int×List aE×List bC)))
  (hs:∀ s,step s=if s.1 < te then (bW (0≤s.1) <| (ws[s.1.toNat]?).bind fun x=>bW (s.2.1.length+([x]:List aE).length≤1073741824) <| bW (s.2.2.length+([(⟨v,s.1⟩:bC)]:List bC).length≤1073741824) <| bW (-9223372036854775808≤(s.1+1)∧(s.1+1)≤9223372036854775807) <| some (.inl ((s.1+1),(s.2.1++([x]:List aE)),(s.2.2++([(⟨v,s.1⟩:bC)]:List bC))))) else some (.inr (s.1,s.2.1,s.2.2)))
  {at_:Int} {a:List aE} {b:List bC} {L:Nat} (h0:0≤at_∧at_≤ws.length) (hl:LW choice a b∧a.length≤L) (hw:yZ ws) (hb:L+60≤1073741824) :
  T (bD step (at_,a,b)) fun e=>(0≤e.1∧e.1≤ws.length)∧LW choice e.2.1 e.2.2∧e.2.1.length≤L+60:=by
 refine T.lp (fun (s:Int×List aE×List bC)=>(0≤s.1∧s.1≤ws.length)∧LW choice s.2.1 s.2.2∧s.2.1.length+((ws.length:Int) - s.1).toNat≤L+60) (fun (s:Int×List aE×List bC)=>((ws.length:Int) - s.1).toNat) (fun s hI=>?_) ⟨h0,hl.1,by dsimp only;omega⟩;rw [hs];have hI1:=hI.2.1.1;refine T.ie (fun h=>.ck (by omega) (T.bd (T.mem (by omega)) fun x hx=>.ck (by simp;omega) (.ck (by simp;omega) (.ck (by omega) (.mk ⟨⟨⟨by dsimp only;omega,by dsimp only;omega⟩,hI.2.1.snoc (hw x hx) hv,by simp;omega⟩,by dsimp only;omega⟩))))) fun h=>.mk ⟨hI.1,hI.2.1,by dsimp only;omega⟩
theorem aFk (hV:Vm m) (choice:List Int):∀ (k:Nat) (v:Int) (a:List aE) (b:List bC),(v=0∨v∈choice)→nF m v < k→LW choice a b→a.length+nN (nF m v)≤1073741824 →
  T (nA m choice k (v,a,b)) fun r=>LW choice r.1 r.2∧r.1.length≤a.length+nN (nF m v):=by
 intro k
 induction k with
 | zero=>intro v a b _ h;omega
 | succ k ih =>
  intro v a b hv h1 h2 h3;show T (yU m choice (nA m choice k) (v,a,b)) _;have hfl:=GC hV v;have h0:=LN hV v;unfold yU;refine T.bd (.ok (UW m v)) fun ws hws=>?_;subst hws;have hc:T (bD (yT m (v,a,b)) (0,([]:List aQ))) fun e=>e=m.papers.filter fun q=>decide (q.of=v):=by
   refine T.ix m.papers.length (·.1) (fun s=>s.2=(m.papers.take s.1).filter fun q=>decide (q.of=v)) (fun s hs hi=>?_) rfl (Nat.zero_le _);have hlen:s.2.length≤10:=by rw [hs];exact Nat.le_trans (List.length_filter_le _ _) (Nat.le_trans (by rw [List.length_take];omega) hV.pl)
   unfold yT;refine T.ie (fun hl=>T.bd (T.at (by omega)) fun x hx=>T.bd (Q:=fun t=>t=(m.papers.take (s.1+1)).filter fun q=>decide (q.of=v)) (T.ie (fun ho=>.ck (by omega) (.mk ?_)) fun ho=>.mk ?_) fun t ht=>.mk ⟨ht,rfl,by omega⟩) fun hl=>.mk ?_
   ·rw [List.take_add_one,hx,List.filter_append,← hs];simp at ho;simp [ho]
   ·rw [List.take_add_one,hx,List.filter_append,← hs];simp at ho;simp [ho]
   dsimp only;rw [hs,List.take_of_length_le (by omega)]
  refine T.bd (Q:=fun (e:Int×List aE×List bC)=>(0≤e.1∧e.1≤(wd m v).length)∧LW choice e.2.1 e.2.2∧e.2.1.length+60≤a.length+nN (nF m v)) (T.bd hc fun cs hcs=>?_) fun e he=>?_
  ·have hcm:∀ p∈cs,p∈m.papers∧p.of=v:=fun p hp=>by rw [hcs] at hp;simpa using hp
   have hcn:(cs.map (·.number)).Nodup:=by rw [hcs];exact (hV.nd.sublist (List.Sublist.map _ (List.filter_sublist)))
   have hcl:cs.length≤10:=by rw [hcs];exact Nat.le_trans (List.length_filter_le _ _) hV.pl
   refine .ck (List.Pairwise.of_map (f:=(·.number)) (fun _ _ h e=>h (by rw [e])) hcn) (T.bd (JU hcl (fun p hp=>?_) hcn) fun l hl=>?_)
   ·have h5:=hV.ft p (hcm p hp).1;have h6:=LN hV p.of;have h7:=hV.n p (hcm p hp).1;exact ⟨by omega,by omega,h7⟩
   have hll:=hl.length_eq;have hfc:cs.length≤nF m v:=by
    cases hq:cs with
    | nil=>exact Nat.zero_le _
    | cons p t =>
     have hp:p∈cs:=by rw [hq];exact List.mem_cons_self ..
     have:=GB hV (hcm p hp).1 (hcm p hp).2;rw [← hcs,hq] at this;omega
   have hbs:=GD (nF m v) hfl cs.length hfc;refine T.bd (Q:=fun (e:Int×List aE×List bC)=>(0≤e.1∧e.1≤(wd m v).length)∧LW choice e.2.1 e.2.2∧e.2.1.length+60≤a.length+nN (nF m v)) ?_ fun e he=>.mk he;have hB:∀ i,i < cs.length→i*(60+nN (nF m v - cs.length))+(60+nN (nF m v - cs.length))≤cs.length*(60+nN (nF m v - cs.length)):=fun i hi=>by
    rw [← Nat.succ_mul];exact Nat.mul_le_mul_right _ hi
   refine T.ix cs.length (·.1) (fun (s:Nat×Int×List aE×List bC)=>(0≤s.2.1∧s.2.1≤(wd m v).length)∧LW choice s.2.2.1 s.2.2.2∧s.2.2.1.length≤a.length+s.1*(60+nN (nF m v - cs.length))) (fun s hs hi=>?_) ⟨⟨Int.le_refl 0,by dsimp only;omega⟩,h2,by dsimp only;omega⟩ (Nat.zero_le _);unfold FB;refine T.ie (fun hlt=>T.bd (T.mem (by omega)) fun p hp=>?_) fun hlt=>.mk ⟨hs.1,hs.2.1,?_⟩
   ·have hp':=hcm p (hl.mem_iff.1 hp);have hft:=hV.ft p hp'.1;rw [hp'.2] at hft;have hB':=hB s.1 (by omega);have hst:(s.1+1)*(60+nN (nF m v - cs.length))=s.1*(60+nN (nF m v - cs.length))+(60+nN (nF m v - cs.length)):=Nat.succ_mul _ _;refine T.bd (Q:=fun (e:Int×List aE×List bC)=>(0≤e.1∧e.1≤(wd m v).length)∧LW choice e.2.1 e.2.2∧e.2.1.length≤a.length+(s.1+1)*(60+nN (nF m v - cs.length))) (T.bd (.ok (JS _ _)) fun r hrr=>T.bd (Q:=fun (e:Int×List aE×List bC)=>(0≤e.1∧e.1≤(wd m v).length)∧LW choice e.2.1 e.2.2∧e.2.1.length≤a.length+(s.1+1)*(60+nN (nF m v - cs.length))) (T.ie (fun hrt=>?_) fun _=>.mk ⟨hs.1,hs.2.1,by dsimp only;omega⟩) fun e he=>.mk he) fun e he=>.mk ⟨he,rfl,by omega⟩;have hpc:p.number∈choice:=by
     rw [hrr] at hrt;obtain ⟨x,hx,he⟩:=List.any_eq_true.1 hrt;rw [of_decide_eq_true he];exact hx
    refine T.bd (Q:=fun (e:Int×List aE×List bC)=>(0≤e.1∧e.1≤(wd m v).length)∧LW choice e.2.1 e.2.2∧e.2.1.length≤a.length+s.1*(60+nN (nF m v - cs.length))+60) (T.bd (GF (wd m v) v hv p.from_ (by omega) h0 (FA p (wd m v) (v,a,b)) (fun s=>rfl) hs.1 hs.2 (VA hV v) (by omega)) fun e he=>.mk he) fun e he=>?_;have hf:=GB hV hp'.1 hp'.2;rw [← hcs] at hf;have hbm:nN (nF m p.number)≤nN (nF m v - cs.length):=GE (by omega);exact T.bd (ih p.number e.2.1 e.2.2 (.inr hpc) (by have:0 < cs.length:=(by omega);omega) he.2.1 (by omega)) fun r hr=>.mk ⟨⟨by dsimp only;omega,by dsimp only;omega⟩,hr.1,by dsimp only;omega⟩
   have:s.1*(60+nN (nF m v - cs.length))≤cs.length*(60+nN (nF m v - cs.length)):=Nat.mul_le_mul_right _ hi;dsimp only;omega
  refine T.bd (Q:=fun (e:Int×List aE×List bC)=>LW choice e.2.1 e.2.2∧e.2.1.length≤a.length+nN (nF m v)) (T.bd (GF (wd m v) v hv _ (Int.le_refl _) h0 (FC (wd m v) (v,a,b)) (fun s=>rfl) (L:=a.length+nN (nF m v) - 60) he.1 ⟨he.2.1,by omega⟩ (VA hV v) (by omega)) fun e h=>.mk ⟨h.2.1,by dsimp only;omega⟩) fun e h=>.mk h
theorem t71 (m:bJ) (choice:List Int):T (LD m choice) fun r=>LW choice r.1 r.2.1∧r.1.length≤3542940∧(r.2.2=0→Vm m):=by
 unfold LD;refine T.bd (aFi m choice) fun r h=>T.ie (fun hr=>.mk ⟨⟨rfl,by simp [yZ],by simp⟩,by simp,fun h0=>absurd h0 hr⟩) fun h0=>?_;have hV:=h (by omega);have h1:=GC hV 0;have h2:=PL _ h1;exact T.bd (T.rc (aFk hV choice 100000 0 [] [] (.inl rfl) (by omega) ⟨rfl,by simp [yZ],by simp⟩ (by simp;omega))) fun r hr=>.mk ⟨hr.1,by have:=hr.2;simp at this;dsimp only;omega,fun _=>hV⟩
end T12
set_option maxHeartbeats 4000000
namespace T12
open Go Go.Proofs Pk
theorem xW (n a b:Int):oV n a b=some (decide (a≤n∧n≤b)):=by
 unfold oV;by_cases h:a≤n <;> simp [h]
theorem QO (n:Int):pN n=some (decide (0≤n∧n≤99999)):=by unfold pN;rw [xW];rfl
theorem PM (n:Int):vY n=some (decide (1≤n∧n≤999)):=by unfold vY;rw [xW];rfl
theorem aFm (l:List aI) (f:aI→Option Bool) (p:aI→Bool) (hf:∀ x∈l,f x=some (p x)):CS l f=some (l.all p):=by
 obtain ⟨r,h1,h2⟩:=pQ l (fun x=>tP x f) (fun x=>!p x) (fun x hx=>by unfold tP;rw [hf x hx];rfl) (vX l (fun x=>tP x f)) (fun i=>rfl);unfold CS IL IK;rw [h1,List.all_eq_not_any_not];rcases h2 with ⟨z,rfl,h2⟩ | ⟨rfl,h2⟩ <;> simp [h2]
theorem aFn (l:List aO) (f:aO→Option Bool) (p:aO→Bool) (hf:∀ x∈l,f x=some (p x)):CY l f=some (l.all p):=by
 obtain ⟨r,h1,h2⟩:=pQ l (fun x=>tV x f) (fun x=>!p x) (fun x hx=>by unfold tV;rw [hf x hx];rfl) (wE l (fun x=>tV x f)) (fun i=>rfl);unfold CY IN IM;rw [h1,List.all_eq_not_any_not];rcases h2 with ⟨z,rfl,h2⟩ | ⟨rfl,h2⟩ <;> simp [h2]
theorem aFo (l:List UInt8) (f:Int→Option Bool) (p:Int→Bool) (hf:∀ x∈l,f (x.toNat:Int)=some (p (x.toNat:Int))):CU l f=some (l.all fun x=>p (x.toNat:Int)):=by
 obtain ⟨r,h1,h2⟩:=pQ l (fun x=>tQ (x.toNat:Int) f) (fun x=>!p (x.toNat:Int)) (fun x hx=>by unfold tQ;rw [hf x hx];rfl) (rF l (fun x=>tQ x f)) (fun i=>rfl);unfold CU NR CT;rw [h1,List.all_eq_not_any_not];rcases h2 with ⟨z,rfl,h2⟩ | ⟨rfl,h2⟩ <;> simp [h2]
theorem PN (s:aE):T (wA s) fun r=>r=true→1≤s.length∧s.length≤200:=by
 unfold wA;refine T.bd (Q:=fun r=>r=true→1≤s.length∧s.length≤200) (T.bd (.ok (xW _ _ _)) fun r h=>T.ie (fun h1=>?_) fun _=>.mk (by simp)) fun _ h=>.mk h;subst h;simp only [decide_eq_true_eq] at h1;refine .ck (by omega) (T.bd (.ok (aFo _ _ (fun c=>(vZ c).getD false) fun x _=>?_)) fun _ _=>.mk fun _=>⟨by omega,by omega⟩);unfold vZ;by_cases h:(32:Int)≤x.toNat <;> simp [h]
theorem VB (p:aI):T (tT p) fun r=>r=true→(1≤p.anchor∧p.anchor≤999)∧1≤p.text.length∧p.text.length≤200:=by
 unfold tT;refine T.bd (Q:=fun r=>r=true→(1≤p.anchor∧p.anchor≤999)∧1≤p.text.length∧p.text.length≤200) (T.bd (.ok (PM _)) fun r h=>T.ie (fun h1=>T.bd (PN _) fun b hb=>.mk fun h2=>?_) fun _=>.mk (by simp)) fun _ h=>.mk h;subst h;simp only [decide_eq_true_eq] at h1;exact ⟨h1,hb h2⟩
def mE (v:bT):List aI:=v.parts.flatMap (·.paragraphs)
def Ps (v:bT):Prop:=v.parts.length≤1000∧∀ p∈v.parts,p.paragraphs.length≤1000
theorem XC (v:bT) (h:Ps v):tO v=some (mE v):=by
 obtain ⟨r,h1,h2⟩:T (bD (rE v) (0,([]:List aI))) fun e=>e=mE v:=by
  refine T.ix v.parts.length (·.1) (fun s=>s.2=(v.parts.take s.1).flatMap (·.paragraphs)∧s.2.length≤1000*s.1) (fun s hs hi=>?_) ⟨rfl,Nat.zero_le _⟩ (Nat.zero_le _);unfold rE;have:=h.1;refine T.ie (fun hl=>T.bd (T.at (by omega)) fun x hx=>?_) fun hl=>.mk (by dsimp only;rw [hs.1,List.take_of_length_le (by omega)];rfl);have hx2:=h.2 x (List.mem_of_getElem? hx);exact .ck (by omega) (.mk ⟨⟨by dsimp only;rw [List.take_add_one,hx,hs.1,List.flatMap_append];simp,by simp;omega⟩,rfl,by omega⟩)
 unfold tO;rw [h1,h2];rfl
structure Vv (v:bT):Prop where
 pl:v.parts.length≤6
 ql:(mE v).length≤30
 h:1≤v.height∧v.height≤60
 w:10≤v.width∧v.width≤80
 n:1≤v.number∧v.number≤99
 b:0≤v.bound∧v.bound≤99999
 p:∀ p∈mE v,(1≤p.anchor∧p.anchor≤999)∧1≤p.text.length∧p.text.length≤200
theorem t82 (v:bT) (h:Ps v):T (CV v) fun r=>r=true→v.parts.length≤6→(mE v).length≤30→Vv v:=by
 unfold CV;refine T.bd (Q:=fun e=>match e with | .inl _=>True | .inr z=>z=false) (T.ix v.parts.length id (fun _=>True) (fun i _ hi=>?_) trivial (Nat.zero_le _)) fun e he=>?_
 ·unfold wB;exact T.ie (fun hl=>T.bd (T.at (by simp only [id] at *;omega)) fun x hx=>T.bd (Q:=fun _=>True) (T.bd (.ok (QO _)) fun _ _=>T.ie (fun _=>T.ie (fun _=>.mk trivial) fun _=>T.ie (fun h0=>T.bd (T.at (by simp only [id] at *;omega)) fun _ _=>.mk trivial) fun _=>.mk trivial) fun _=>.mk trivial) fun _ _=>T.ie (fun _=>.mk rfl) fun _=>.mk ⟨trivial,rfl,by simp only [id] at *;omega⟩) fun _=>.mk trivial
 cases e with
 | inr z=>simp only at he;subst he;exact .mk (by simp)
 | inl _ =>
  refine T.bd (Q:=fun r=>r=true→v.parts.length≤6→(mE v).length≤30→Vv v) ?_ fun _ h=>.mk h;refine T.bd (.ok (xW _ _ _)) fun r h1=>T.ie (fun g1=>T.bd (.ok (QO _)) fun r h2=>T.ie (fun g2=>T.bd (.ok (xW _ _ _)) fun r h3=>T.ie (fun g3=>T.bd (.ok (xW _ _ _)) fun r h4=>T.ie (fun g4=>T.bd (.ok (XC v h)) fun l hl=>T.bd (.ok (aFm _ _ (fun p=>(tT p).getD false) fun p _=>(VB p).get)) fun r h5=>.mk fun g5 a b=>?_) fun _=>.mk (by simp)) fun _=>.mk (by simp)) fun _=>.mk (by simp)) fun _=>.mk (by simp);subst h1 h2 h3 h4 hl;simp only [decide_eq_true_eq] at g1 g2 g3 g4;rw [h5,List.all_eq_true] at g5;refine ⟨a,b,g3,g4,g1,g2,fun p hp=>?_⟩;obtain ⟨r,h6,h7⟩:=VB p;have:=g5 p hp;rw [h6] at this;exact h7 this
theorem t53 (v:bT) (h:Ps v):T (wD v) fun r=>r=0→Vv v:=by
 unfold wD;refine T.bd (.ok (XC v h)) fun l hl=>T.bd (Q:=fun t=>t=false→v.parts.length≤6∧(mE v).length≤30) (T.ie (fun _=>.mk (by simp)) fun h6=>.mk fun h7=>?_) fun t ht=>T.ie (fun _=>.mk (by simp)) fun hf=>T.bd (t82 v h) fun r hr=>T.ie (fun hrt=>T.bd (Q:=fun e=>match e with | .inl _=>True | .inr z=>z=6) (T.ix l.length (·.1) (fun _=>True) (fun s _ hi=>?_) trivial (Nat.zero_le _)) fun e he=>?_) fun _=>.mk (by simp)
 ·subst hl;simp at h7;omega
 ·unfold wC;exact T.ie (fun hl=>T.bd (T.at (by omega)) fun x hx=>T.ie (fun _=>.mk rfl) fun _=>.mk ⟨trivial,rfl,by omega⟩) fun _=>.mk trivial
 have h8:=ht (by simpa using hf)
 cases e with
 | inr z=>exact .mk fun _=>hr hrt h8.1 h8.2
 | inl _=>exact .mk fun _=>hr hrt h8.1 h8.2
theorem VC (x:aO):T (tW x) fun r=>r=true→(0≤x.kind∧x.kind≤2)∧x.text.length≤200:=by
 unfold tW;refine T.bd (Q:=fun _=>True) (T.bd (.ok (xW _ _ _)) fun _ _=>T.ie (fun _=>T.bd (.ok (QO _)) fun _ _=>T.ie (fun _=>T.bd (.ok (PM _)) fun _ _=>.mk trivial) fun _=>.mk trivial) fun _=>.mk trivial) fun _ _=>T.ie (fun _=>.mk (by simp)) fun _=>T.ie (fun h0=>?_) fun _=>T.ie (fun h1=>?_) fun _=>T.ie (fun h2=>?_) fun _=>.mk (by simp)
 ·exact T.bd (Q:=fun r=>r=true→x.text.length≤200) (T.bd (PN _) fun r h=>T.ie (fun hr=>.mk fun _=>(h hr).2) fun _=>.mk (by simp)) fun r h=>.mk fun hr=>⟨by omega,h hr⟩
 ·exact T.bd (Q:=fun r=>r=true→x.text.length≤200) (T.ie (fun h=>.mk fun _=>by rw [h];decide) fun _=>.mk (by simp)) fun r h=>.mk fun hr=>⟨by omega,h hr⟩
 exact T.bd (Q:=fun r=>r=true→x.text.length≤200) (T.bd (PN _) fun r h=>T.ie (fun hr=>T.bd (.ok (PM _)) fun _ _=>.mk fun _=>(h hr).2) fun _=>.mk (by simp)) fun r h=>.mk fun hr=>⟨by omega,h hr⟩
end T12
set_option maxHeartbeats 4000000
namespace T12
open Go Go.Proofs Pk
structure Ve (es:List aO):Prop where
 l:es.length≤20
 k:∀ x∈es,(0≤x.kind∧x.kind≤2)∧x.text.length≤200
 nd:(es.map (·.number)).Nodup
def AO (a b:Int):Int:=if a < b then -1 else if b < a then 1 else 0
theorem VD (a b:Int):zR a b=some (AO a b):=by
 unfold zR tX AO;simp only [ne_eq,not_true_eq_false,decide_false,Option.bind_some,Bool.false_eq_true,if_false];by_cases h:a < b
 ·rw [if_pos h,if_pos h]
 rw [if_neg h,if_neg h];split <;> rfl
theorem aFp (x y:Int):CZ [x,y]=some (if x≠0 then x else y):=by
 have h:∀ (i:Nat) (v:Int),[x,y][i]?=some v→oW [x,y] i=if v≠0 then some (.inr (.inr v)) else some (.inl (i+1)):=fun i v hv=>by
  have:=(List.getElem?_eq_some_iff.1 hv).1;unfold oW;rw [if_pos (by omega),hv];rfl
 have h0:=h 0 x rfl;have h1:=h 1 y rfl;unfold CZ;by_cases a:x=0
 ·rw [if_neg (by omega)] at h0;rw [fC h0];by_cases b:y=0
  ·rw [if_neg (by omega)] at h1;rw [fC h1,dS (by unfold oW;rfl)];simp [a,b]
  rw [if_pos b] at h1;rw [dS h1];simp [a]
 rw [if_pos a] at h0;rw [dS h0];simp [a]
def VE (a b:aO):Int:=if AO a.day b.day≠0 then AO a.day b.day else AO a.number b.number
theorem VF (a b:aO):rH a b=some (VE a b):=by
 unfold rH;rw [VD,VD];simp only [Option.bind_some];rw [aFp];rfl
theorem GG (a b:aO):iK rH a b=true↔a.day < b.day∨(a.day=b.day∧a.number < b.number):=by
 unfold iK;rw [VF];simp only [decide_eq_true_eq];unfold VE AO;(repeat' split) <;> omega
theorem zA {l:List aO} (hl:l.length≤20) (hn:(l.map (·.number)).Nodup):T (iT rH l) fun r=>r.Perm l:=by
 refine ⟨_,oM ⟨by omega,fun x hx y hy=>⟨_,VF x y⟩,fun x hx=>?_,fun x hx y hy z hz h1 h2=>?_,fun x hx y hy h1 h2=>?_⟩,List.mergeSort_perm ..⟩
 ·rw [Bool.eq_false_iff,Ne,GG];omega
 ·rw [GG] at *;omega
 have h3:x.number=y.number:=by
  rw [Bool.eq_false_iff,Ne,GG] at h1 h2;omega
 obtain ⟨i,hi⟩:=List.getElem?_of_mem hx;obtain ⟨j,hj⟩:=List.getElem?_of_mem hy;have hi':=(List.getElem?_eq_some_iff.1 hi).1;have:=(List.getElem?_inj (by rw [List.length_map];exact hi') hn).1 (show (l.map (·.number))[i]?=(l.map (·.number))[j]? by rw [List.getElem?_map,List.getElem?_map,hi,hj];simp [h3]);subst this;rw [hi] at hj;cases hj;rfl
theorem VG {l:List aO} (h:l.length≤20):rG l=some l:=by
 unfold rG bW;rw [if_pos (by simp;omega)];rfl
theorem aFq (v:bT) (es:List aO) (hv:Ps v) (he:Ve es):T (DB v es) fun _=>True:=by
 unfold DB;refine T.bd (.ok (XC v hv)) fun ps _=>T.bd (Q:=fun _=>True) (T.ix ps.length (·.1) (fun _=>True) (fun s _ hi=>?_) trivial (Nat.zero_le _)) fun t _=>T.bd (Q:=fun _=>True) (T.bd (.ok (VG he.l)) fun l1 h1=>?_) fun t _=>by cases t <;> exact .mk trivial
 ·unfold wF;exact T.ie (fun hl=>T.bd (T.at (by omega)) fun x hx=>.mk ⟨trivial,rfl,by omega⟩) fun _=>.mk trivial
 subst h1;refine T.bd (zA he.l he.nd) fun l hl=>T.bd (Q:=fun _=>True) (T.ix l1.length (·.1) (fun _=>True) (fun s _ hi=>?_) trivial (Nat.zero_le _)) fun e _=>by cases e <;> exact .mk trivial
 have hll:=hl.length_eq;unfold wG;refine T.ie (fun hl=>T.bd (T.at (by omega)) fun x hx=>T.ie (fun _=>.mk trivial) fun _=>T.bd (Q:=fun _=>True) (T.ie (fun _=>T.bd (Q:=fun _=>True) (T.ie (fun _=>.mk trivial) fun _=>.mk trivial) fun _ _=>.mk trivial) fun _=>.mk trivial) fun t _=>?_) fun _=>.mk trivial
 cases t with
 | inl _=>exact .mk trivial
 | inr _=>exact .mk ⟨trivial,rfl,by omega⟩
theorem t85 (v:bT) (es:List aO) (hv:Ps v):T (wJ v es) fun r=>r=0→Vv v∧Ve es:=by
 unfold wJ;refine T.bd (t53 v hv) fun r h=>T.ie (fun hr=>.mk fun h0=>absurd h0 hr) fun h0=>T.ie (fun _=>.mk (by simp)) fun hl=>T.bd (.ok (aFn _ _ (fun x=>(tW x).getD false) fun x _=>(VC x).get)) fun r2 h2=>T.ie (fun hr=>T.bd (.ok (XC v hv)) fun ps _=>T.bd (Q:=fun _=>True) (T.ix ps.length (·.1) (fun _=>True) (fun s _ hi=>?_) trivial (Nat.zero_le _)) fun t _=>T.bd (Q:=fun e=>match e with | .inl _=>(es.map (·.number)).Nodup | .inr z=>z=6) (T.ix es.length (·.1) (fun s=>(∀ k,(eD s.2.1 k).getD false=true↔k∈(es.take s.1).map (·.number))∧((es.take s.1).map (·.number)).Nodup) (fun s hs hi=>?_) ⟨fun k=>by simp [eD],by simp⟩ (Nat.zero_le _)) fun e he=>?_) fun _=>.mk (by simp)
 ·unfold wH;exact T.ie (fun hl=>T.bd (T.at (by omega)) fun x hx=>.mk ⟨trivial,rfl,by omega⟩) fun _=>.mk trivial
 ·unfold wI;refine T.ie (fun hl=>T.bd (T.at (by omega)) fun x hx=>T.bd (Q:=fun t=>t=false→x.number∉(es.take s.1).map (·.number)) (T.ie (fun _=>.mk (by simp)) fun hn=>?_) fun t ht=>T.ie (fun _=>.mk rfl) fun hf=>T.bd (Q:=fun _=>True) (T.ie (fun _=>.mk trivial) fun _=>.mk trivial) fun _ _=>.mk ⟨⟨fun k=>?_,?_⟩,rfl,by omega⟩) fun hl=>.mk (by have:=hs.2;rwa [List.take_of_length_le (by omega)] at this)
  ·have hm:x.number∉(es.take s.1).map (·.number):=fun h=>hn ((hs.1 _).2 h);exact T.ie (fun _=>.mk fun _=>hm) fun _=>.mk fun _=>hm
  ·dsimp only;rw [jS,List.take_add_one,hx,List.map_append,List.mem_append,← hs.1 k];by_cases hk:k=x.number <;> simp [hk]
  have hm:=ht (by simpa using hf);dsimp only;rw [List.take_add_one,hx,List.map_append];exact List.nodup_append.2 ⟨hs.2,by simp,fun a ha b hb hab=>by simp at hb;subst hb hab;exact hm ha⟩
 cases e with
 | inr z=>simp only at he;subst he;exact .mk (by simp)
 | inl _ =>
  have hE:Ve es:=⟨by omega,fun x hx=>by
   obtain ⟨r,h6,h7⟩:=VC x;rw [h2,List.all_eq_true] at hr
   have:=hr x hx;rw [h6] at this;exact h7 this,he⟩
  exact T.bd (aFq v es hv hE) fun _ _=>.mk fun _=>⟨h (by omega),hE⟩
end T12
set_option maxHeartbeats 4000000
namespace T12
open Go Go.Proofs Pk
def Gd (n k:Nat) (g:List (List cJ)):Prop:=g.length=n∧∀ r∈g,r.length≤k∧∀ e∈r,e.paragraph.text.length≤200
theorem Gd.mono {n k k':Nat} {g:List (List cJ)} (h:Gd n k g) (hk:k≤k'):Gd n k' g:=⟨h.1,fun r hr=>⟨Nat.le_trans (h.2 r hr).1 hk,(h.2 r hr).2⟩⟩
theorem VH {α:Type} {l:List α} {i:Nat} {v:α} {P:α→Prop} (h:∀ x∈l,P x) (hv:P v):∀ x∈l.set i v,P x:=uR h hv
theorem Gd.set {n k:Nat} {g:List (List cJ)} {i:Nat} {r:List cJ} (h:Gd n k g) (hr:r.length≤k∧∀ e∈r,e.paragraph.text.length≤200):Gd n k (g.set i r):=⟨by rw [List.length_set];exact h.1,VH h.2 hr⟩
theorem JV {v:bT} {p:dR} (hp:p∈v.parts):p.paragraphs.length≤(mE v).length:=by
 unfold mE;obtain ⟨i,hi⟩:=List.getElem?_of_mem hp;have:∀ (l:List dR) (p:dR),p∈l→p.paragraphs.length≤(l.flatMap (·.paragraphs)).length:=by
  intro l p
  induction l with
  | nil=>intro h;cases h
  | cons q l ih =>
   intro h;rw [List.flatMap_cons,List.length_append];rcases List.mem_cons.1 h with rfl | h
   ·omega
   have:=ih h;omega
 exact this _ _ hp
theorem aFr (g:List (List cJ)) (k:Nat) (x:aO) (hg:Gd 6 k g∨g.length≤6∧∀ r∈g,r.length≤k) (hk:k≤1000) (i:Nat):T (bD (rI (i,g) x) (0,0,0,false)) fun e=>e.2.2=true→∃ r,g[e.1]?=some r∧e.2.1 < r.length:=by
 have hg':g.length≤6∧∀ r∈g,r.length≤k:=by
  rcases hg with h | h
  ·exact ⟨by have:=h.1;omega,fun r hr=>(h.2 r hr).1⟩
  exact h
 refine T.ix g.length (·.2.2.1) (fun s=>s.2.2.2=false) (fun s hs hi=>?_) rfl (Nat.zero_le _);unfold rI;dsimp only;refine T.ie (fun hl=>T.bd (T.at (by omega)) fun r hr=>T.bd (Q:=fun e=>match e with | .inl q=>q.2.2=false | .inr z=>∃ q,z=.inr q∧q.1=s.2.2.1∧q.2.1 < r.length) (T.ix r.length (·.2.2.1) (fun q=>q.2.2.2=false) (fun q hq hj=>?_) hs (Nat.zero_le _)) fun e he=>?_) fun _=>.mk fun h=>by dsimp only at h;rw [hs] at h;cases h
 ·have:=hg'.2 r (List.mem_of_getElem? hr);unfold wM;exact T.ie (fun hl=>T.bd (T.at (by omega)) fun y hy=>T.ie (fun _=>⟨_,rfl,_,rfl,rfl,by dsimp only;omega⟩) fun _=>.ck (by omega) (.mk ⟨hq,rfl,by omega⟩)) fun _=>.mk hq
 cases e with
 | inl q=>exact .ck (by omega) (.mk ⟨he,rfl,by omega⟩)
 | inr z=>obtain ⟨q,rfl,h1,h2⟩:=he;exact .mk fun _=>⟨r,by rw [h1];exact hr,h2⟩
theorem t90 (v:bT) (es:List aO) (to_:Int) (hv:Vv v) (he:Ve es):T (wO v es to_) fun r=>r.volume=v∧Gd v.parts.length 50 r.parts:=by
 have hpl:=hv.pl;have hql:=hv.ql;unfold wO;refine T.bd (Q:=fun g=>Gd v.parts.length 30 g) (T.ix v.parts.length (·.1) (fun s=>Gd s.1 30 s.2) (fun s hs hi=>?_) ⟨rfl,by simp⟩ (Nat.zero_le _)) fun g hg=>?_
 ·unfold wL;refine T.ie (fun hl=>T.bd (T.at (by omega)) fun p hp=>T.bd (Q:=fun r=>r.length≤30∧∀ e∈r,e.paragraph.text.length≤200) (T.ix p.paragraphs.length (·.1) (fun q=>q.2.length=q.1∧∀ e∈q.2,e.paragraph.text.length≤200) (fun q hq hj=>?_) ⟨rfl,by simp⟩ (Nat.zero_le _)) fun r hr=>.ck (by have:=hs.1;omega) (.mk ⟨⟨by simp [hs.1],fun r' hr'=>?_⟩,rfl,by omega⟩)) fun hl=>.mk ?_
  ·have hpm:=List.mem_of_getElem? hp;have h0:=JV hpm;unfold wK;refine T.ie (fun hl=>T.bd (T.mem (by omega)) fun y hy=>.ck (by have:=hq.1;omega) (.mk ⟨⟨by simp [hq.1],fun e he'=>?_⟩,rfl,by omega⟩)) fun _=>.mk ⟨by have:=hq.1;omega,hq.2⟩;rcases List.mem_append.1 he' with h | h
   ·exact hq.2 e h
   simp at h;subst h;exact (hv.p y (List.mem_flatMap.2 ⟨p,hpm,hy⟩)).2.2
  ·rcases List.mem_append.1 hr' with h | h
   ·exact hs.2 r' h
   simp at h;subst h;exact hr
  have:s.1=v.parts.length:=by omega
  rw [this] at hs;exact hs
 refine T.bd (Q:=fun g=>Gd v.parts.length 50 g) (T.bd (.ok (VG he.l)) fun l1 h1=>?_) fun g hg=>.mk ⟨rfl,hg⟩;subst h1;have hEl:=he.l;refine T.bd (zA he.l he.nd) fun l hl=>T.bd (Q:=fun e=>match e with | .inl g=>Gd v.parts.length 50 g | .inr g=>Gd v.parts.length 50 g) (T.ix l1.length (·.1) (fun s=>Gd v.parts.length (30+s.1) s.2) (fun s hs hi=>?_) hg (Nat.zero_le _)) fun e h=>by cases e <;> exact .mk h
 have hll:=hl.length_eq;unfold wN;refine T.ie (fun hlt=>T.bd (T.mem (by omega)) fun x hx=>T.bd (Q:=fun r=>Gd v.parts.length (30+(s.1+1)) r.2) (T.ie (fun _=>.mk (hs.mono (by omega))) fun _=>?_) fun r hr=>T.ie (fun _=>.mk (hr.mono (by omega))) fun _=>.mk ⟨hr,rfl,by omega⟩) fun _=>.mk (hs.mono (by omega));have hk:=he.k x (hl.mem_iff.1 hx);have hs':=hs.mono (show 30+s.1≤30+(s.1+1) by omega);refine T.bd (Q:=fun g=>Gd v.parts.length (30+(s.1+1)) g) ?_ fun g hg=>.mk hg;refine T.bd (Q:=fun e=>e.2.2=true→∃ r,s.2[e.2.1]?=some r∧e.1 < r.length) (T.bd (aFr s.2 (30+s.1) x (.inr ⟨by have:=hs.1;omega,fun r hr=>(hs.2 r hr).1⟩) (by omega) s.1) fun e he=>.mk he) fun e hf=>?_;refine T.bd (Q:=fun g=>Gd v.parts.length (30+(s.1+1)) g) (T.ie (fun hft=>?_) fun _=>.mk hs') fun g hg=>.mk hg;obtain ⟨r,hr,hc⟩:=hf hft;have hrm:=hs.2 r (List.mem_of_getElem? hr);refine T.bd (.ok (rfl:IP=some ())) fun _ _=>.ck (by omega) (T.ie (fun _=>?_) fun _=>T.ie (fun _=>?_) fun _=>T.ie (fun _=>?_) fun _=>by omega)
 ·refine T.bd (Q:=fun g=>Gd v.parts.length (30+(s.1+1)) g) (T.bd (.ok hr) fun r' h'=>?_) fun g hg=>.mk hg;subst h';exact T.bd (T.at hc) fun y hy=>T.bd (Q:=fun g=>Gd v.parts.length (30+(s.1+1)) g) (T.ie (fun _=>.mk hs') fun _=>.mk (hs'.set ⟨by simp;omega,uR hrm.2 hk.2⟩)) fun g hg=>.mk hg
 ·refine T.bd (Q:=fun g=>Gd v.parts.length (30+(s.1+1)) g) (T.bd (.ok hr) fun r' h'=>?_) fun g hg=>.mk hg;subst h';exact T.bd (T.mem hc) fun y hy=>.mk (hs'.set ⟨by simp;omega,uR hrm.2 (hrm.2 y hy)⟩)
 refine T.bd (Q:=fun g=>Gd v.parts.length (30+(s.1+1)) g) (T.bd (.ok hr) fun r' h'=>?_) fun g hg=>.mk hg;subst h';refine .ck (by omega) (.ck (by omega) (.ck (by omega) (.mk (hs'.set ⟨by simp;omega,fun e he'=>?_⟩))));simp only [List.mem_append,List.mem_singleton] at he';rcases he' with (h | h) | h
 ·exact hrm.2 e (List.mem_of_mem_take h)
 ·subst h;exact hk.2
 exact hrm.2 e (List.mem_of_mem_drop h)
end T12
set_option maxHeartbeats 4000000
namespace T12
open Go Go.Proofs Pk
theorem JW {n:Int} (h : -1000000000000 < n∧n < 1000000000000):(Lib.itoa n).length≤13:=by
 unfold Lib.itoa;split
 ·rw [List.length_cons];have:=nX (u:=n.natAbs) (k:=12) (by omega) (by decide);omega
 have:=nX (u:=n.toNat) (k:=12) (by omega) (by decide);omega
def Sh (x:Any):Prop:=match x with | .i n=>-1000000000000 < n∧n < 1000000000000 | .s b=>b.length≤13
theorem GH:∀ {l:List Any},(∀ x∈l,Sh x)→(fV l).length≤13*l.length
 | [],_=>by simp [fV]
 | x::l,h=>by
  have h1:=GH fun y hy=>h y (List.mem_cons_of_mem _ hy);have h2:(tK x).length≤13:=by
   have:=h x (List.mem_cons_self ..)
   cases x with
   | i n=>exact JW this
   | s b=>exact this
  have:fV (x::l)=tK x++fV l:=rfl;rw [this,List.length_append,List.length_cons];omega
theorem t87 {l:List Any} (h:∀ x∈l,Sh x) (hl:l.length≤10):T (vQ l) fun r=>r.length≤130:=by
 have:=GH h;unfold vQ
 exact .ck ⟨fun x hx=>by
  have:=h x hx
  cases x with
  | i n=>unfold Sh at this;exact ⟨by omega,by omega⟩
  | s b=>trivial,by omega⟩ (.mk (by omega))
theorem t84 (v:bT) (es:List aO) (to_:Int) (hv:Ps v):T (DG v es to_) fun r=>r.2=0→(Vv v∧Ve es)∧r.1.length≤300:=by
 unfold DG;refine T.bd (t85 v es hv) fun r h=>T.ie (fun hr=>.mk fun h0=>absurd h0 hr) fun h0=>T.bd (.ok (QO _)) fun b _=>T.ie (fun _=>?_) fun _=>.mk (by simp);have hVE:=h (by omega);have hpl:=hVE.1.pl;refine T.bd (t90 v es to_ hVE.1 hVE.2) fun g hg=>T.bd (Q:=fun l=>l.length≤300) (T.ix g.parts.length (·.1) (fun s=>s.2.length≤50*s.1) (fun s hs hi=>?_) (Nat.zero_le _) (Nat.zero_le _)) fun l hl=>.mk fun _=>⟨hVE,hl⟩;have hgl:=hg.2.1;unfold wQ;refine T.ie (fun hl=>T.bd (T.mem (by omega)) fun r hr=>T.bd (Q:=fun l=>l.length≤50*(s.1+1)) (T.ix r.length (·.1) (fun q=>q.2.length≤50*s.1+q.1) (fun q hq hj=>?_) hs (Nat.zero_le _)) fun l hl=>.mk ⟨hl,rfl,by omega⟩) fun _=>.mk (by omega);have hrl:=(hg.2.2 r hr).1;unfold wP;exact T.ie (fun hl=>T.bd (T.at (by omega)) fun y hy=>T.bd (Q:=fun l=>l.length≤50*s.1+(q.1+1)) (T.ie (fun _=>.mk (by omega)) fun _=>.ck (by omega) (.mk (by simp;omega))) fun l hl=>.mk ⟨hl,rfl,by omega⟩) fun _=>.mk (by omega)
theorem aFu (g:gW) (anchor:Int):T (bD (rJ g anchor) (0,0,0,false)) fun e=>e.2.2=true→∃ r,g.parts[e.1]?=some r∧e.2.1 < r.length:=by
 refine T.ix g.parts.length (·.2.2.1) (fun s=>s.2.2.2=false) (fun s hs hi=>?_) rfl (Nat.zero_le _);unfold rJ;refine T.ie (fun hl=>T.bd (T.at (by omega)) fun r hr=>T.bd (Q:=fun e=>match e with | .inl q=>q.2.2=false | .inr z=>∃ q,z=.inr q∧q.1=s.2.2.1∧q.2.1 < r.length) (T.ix r.length (·.2.2.1) (fun q=>q.2.2.2=false) (fun q hq hj=>?_) hs (Nat.zero_le _)) fun e he=>?_) fun _=>.mk fun h=>by dsimp only at h;rw [hs] at h;cases h
 ·unfold wS;exact T.ie (fun hl=>T.bd (T.at (by omega)) fun y hy=>T.ie (fun _=>⟨_,rfl,_,rfl,rfl,by dsimp only;omega⟩) fun _=>.mk ⟨hq,rfl,by omega⟩) fun _=>.mk hq
 cases e with
 | inl q=>exact .mk ⟨he,rfl,by omega⟩
 | inr z=>obtain ⟨q,rfl,h1,h2⟩:=he;exact .mk fun _=>⟨r,by rw [h1];exact hr,h2⟩
theorem t58 (v:bT) (es:List aO) (anchor to_:Int) (hv:Ps v):T (zS v es anchor to_) fun r=>r.2.2=0→(0≤to_∧to_≤99999):=by
 unfold zS;refine T.bd (t85 v es hv) fun r h=>T.ie (fun hr=>.mk fun h0=>absurd h0 hr) fun h0=>T.bd (.ok (QO _)) fun b hb=>T.ie (fun hbt=>?_) fun _=>.mk (by simp);have hVE:=h (by omega);subst hb;simp only [decide_eq_true_eq] at hbt;refine T.bd (t90 v es to_ hVE.1 hVE.2) fun g hg=>T.bd (Q:=fun e=>e.2.2=true→∃ r,g.parts[e.2.1]?=some r∧e.1 < r.length) (T.bd (aFu g anchor) fun e he=>.mk he) fun e he=>T.ie (fun h1=>?_) fun _=>.mk (by simp);obtain ⟨r,hr,hc⟩:=he h1;exact T.bd (.ok hr) fun r' h'=>by
  subst h';exact T.bd (T.at hc) fun y hy=>.mk fun _=>hbt
theorem t88 (v:bT) (es:List aO) (hv:Vv v) (he:Ve es):T (DK v es) fun l=>∀ x∈l,(0≤x.place.column∧x.place.column≤1000000)∧(0≤x.place.line∧x.place.line≤1000)∧(0≤x.number∧x.number≤1000)∧∃ p∈v.parts,x.day=p.day:=by
 have hpl:=hv.pl;have hh:=hv.h;have hw:=hv.w;unfold DK;refine T.bd (t90 v es v.bound hv he) fun g hg=>T.bd (Q:=fun l=>∀ x∈l,(0≤x.place.column∧x.place.column≤1000000)∧(0≤x.place.line∧x.place.line≤1000)∧(0≤x.number∧x.number≤1000)∧∃ p∈v.parts,x.day=p.day) (T.ix g.parts.length (·.1) (fun (s:Nat×Int×List cV)=>(1≤s.2.1∧s.2.1≤1+20000*(s.1:Int))∧s.2.2.length≤50*s.1∧∀ x∈s.2.2,(0≤x.place.column∧x.place.column≤1000000)∧(0≤x.place.line∧x.place.line≤1000)∧(0≤x.number∧x.number≤1000)∧∃ p∈v.parts,x.day=p.day) (fun s hs hi=>?_) ⟨⟨by decide,by decide⟩,Nat.zero_le _,by simp⟩ (Nat.zero_le _)) fun l hl=>.mk hl;have hgl:=hg.2.1;obtain ⟨hs1,hs2,hs3⟩:=hs;unfold wU;refine T.ie (fun hl=>T.bd (T.mem (by omega)) fun r hr=>T.bd (Q:=fun (e:Int×List cV)=>(0≤e.1∧e.1≤15000)∧e.2.length≤50*(s.1+1)∧∀ x∈e.2,(0≤x.place.column∧x.place.column≤1000000)∧(0≤x.place.line∧x.place.line≤1000)∧(0≤x.number∧x.number≤1000)∧∃ p∈v.parts,x.day=p.day) (T.ix r.length (·.2.1) (fun (q:Nat×Nat×Int×List cV)=>q.1≤q.2.1∧(0≤q.2.2.1∧q.2.2.1≤300*(q.2.1:Int))∧q.2.2.2.length≤50*s.1+q.2.1∧∀ x∈q.2.2.2,(0≤x.place.column∧x.place.column≤1000000)∧(0≤x.place.line∧x.place.line≤1000)∧(0≤x.number∧x.number≤1000)∧∃ p∈v.parts,x.day=p.day) (fun q hq hj=>?_) ⟨Nat.le_refl _,⟨Int.le_refl 0,Int.le_refl 0⟩,by dsimp only;omega,hs3⟩ (Nat.zero_le _)) fun e he=>?_) fun _=>.mk hs3
 ·have hrl:=hg.2.2 r hr;obtain ⟨hq1,hq2,hq3,hq4⟩:=hq;unfold wT;refine T.ie (fun hl2=>T.bd (Q:=fun (t:Nat×Int×List cV)=>t.1≤q.2.1+1∧(0≤t.2.1∧t.2.1≤300*((q.2.1:Int)+1))∧t.2.2.length≤50*s.1+(q.2.1+1)∧∀ x∈t.2.2,(0≤x.place.column∧x.place.column≤1000000)∧(0≤x.place.line∧x.place.line≤1000)∧(0≤x.number∧x.number≤1000)∧∃ p∈v.parts,x.day=p.day) (T.bd (T.mem (by omega)) fun y hy=>T.ie (fun _=>.mk ⟨by dsimp only;omega,⟨hq2.1,by dsimp only;omega⟩,by dsimp only;omega,hq4⟩) fun _=>?_) fun t ht=>.mk ⟨ht,rfl,by omega⟩) fun _=>.mk ⟨⟨by dsimp only;omega,by dsimp only;omega⟩,by dsimp only;omega,hq4⟩;have hty:=hrl.2 y hy;have d1:0≤q.2.2.1/v.height:=Int.ediv_nonneg hq2.1 (by omega);have d2:q.2.2.1/v.height≤q.2.2.1:=Int.ediv_le_self _ hq2.1;have d3:0≤q.2.2.1%v.height:=Int.emod_nonneg _ (by omega);have d4:q.2.2.1%v.height < v.height:=Int.emod_lt_of_pos _ (by omega);have d5:0≤((y.paragraph.text.length:Int)+v.width - 1)/v.width:=Int.ediv_nonneg (by omega) (by omega);have d6:((y.paragraph.text.length:Int)+v.width - 1)/v.width≤(y.paragraph.text.length:Int)+v.width - 1:=Int.ediv_le_self _ (by omega);refine .ck (by omega) (.ck (by omega) (.ck (by omega) (.ck (by omega) (.ck (by omega) (.ck (by omega) (.ck (by omega) (.ck (by omega) (T.bd (T.mem (by omega)) fun z hz=>.ck (by simp;omega) (.ck (by omega) (.mk ⟨by dsimp only;omega,⟨by dsimp only;omega,by dsimp only;omega⟩,by simp;omega,fun x hx=>?_⟩))))))))));rcases List.mem_append.1 hx with h | h
  ·exact hq4 x h
  simp only [List.mem_singleton] at h;subst h;exact ⟨⟨by dsimp only;omega,by dsimp only;omega⟩,⟨by dsimp only;omega,by dsimp only;omega⟩,⟨by dsimp only;omega,by dsimp only;omega⟩,z,hz,rfl⟩
 obtain ⟨he1,he2,he3⟩:=he;have d1:0≤(e.1+v.height - 1)/v.height:=Int.ediv_nonneg (by omega) (by omega);have d2:(e.1+v.height - 1)/v.height≤e.1+v.height - 1:=Int.ediv_le_self _ (by omega);exact .ck (by omega) (.ck (by omega) (.ck (by omega) (.ck (by omega) (.mk ⟨⟨⟨by dsimp only;omega,by dsimp only;omega⟩,he2,he3⟩,rfl,by omega⟩))))
end T12
set_option maxHeartbeats 4000000
namespace T12
open Go Go.Proofs Pk
theorem t56 (v:bT) (es:List aO) (anchor style to_:Int) (hv:Ps v) (hd:∀ p∈v.parts,0≤p.day∧p.day≤99999) (ha : -1000000000000 < anchor∧anchor < 1000000000000) (ht : -1000000000000 < to_∧to_ < 1000000000000):T (DL v es anchor style to_) fun r=>r.1.length≤130:=by
 unfold DL;refine T.bd (t85 v es hv) fun r h=>T.ie (fun hr=>.mk (by simp)) fun h0=>T.bd (Q:=fun _=>True) (T.ie (fun _=>.mk trivial) fun _=>T.ie (fun _=>T.bd (.ok (QO _)) fun _ _=>.mk trivial) fun _=>.mk trivial) fun _ _=>T.ie (fun _=>.mk (by simp)) fun _=>T.ie (fun _=>T.bd (t58 v es anchor to_ hv) fun r hr=>T.ie (fun _=>.mk (by simp)) fun _=>T.bd (t87 (fun x hx=>?_) (by simp)) fun r hr=>.mk hr) fun _=>?_
 ·simp only [List.mem_cons,List.not_mem_nil,or_false] at hx;rcases hx with rfl | rfl | rfl
  ·exact ha
  ·show (1:Nat)≤13;decide
  exact ht
 have hVE:=h (by omega);have hn:=hVE.1.n;refine T.bd (t88 v es hVE.1 hVE.2) fun l hl=>T.bd (Q:=fun e=>match e with | .inl _=>True | .inr z=>z.1.length≤130) (T.ix l.length id (fun _=>True) (fun i _ hi=>?_) trivial (Nat.zero_le _)) fun e he=>?_
 ·unfold wV;refine T.ie (fun hlt=>T.bd (T.mem (by simp only [id] at *;omega)) fun x hx=>?_) fun _=>.mk trivial;obtain ⟨h1,h2,h3,p,hp,h4⟩:=hl x hx;have h5:=hd p hp;refine T.ie (fun _=>.mk ⟨trivial,rfl,by simp only [id] at *;omega⟩) fun _=>T.ie (fun _=>T.bd (t87 (fun x hx=>?_) (by simp)) fun r hr=>.mk hr) fun _=>T.bd (t87 (fun x hx=>?_) (by simp)) fun r hr=>.mk hr
  ·simp only [List.mem_cons,List.not_mem_nil,or_false] at hx;rcases hx with rfl | rfl | rfl | rfl | rfl | rfl
   ·show (5:Nat)≤13;decide
   ·exact ⟨by omega,by omega⟩
   ·show (7:Nat)≤13;decide
   ·exact ⟨by omega,by omega⟩
   ·show (5:Nat)≤13;decide
   exact ⟨by omega,by omega⟩
  simp only [List.mem_cons,List.not_mem_nil,or_false] at hx;rcases hx with rfl | rfl | rfl | rfl | rfl | rfl
  ·show (5:Nat)≤13;decide
  ·exact ⟨by omega,by omega⟩
  ·show (2:Nat)≤13;decide
  ·exact ⟨by omega,by omega⟩
  ·show (7:Nat)≤13;decide
  exact ⟨by omega,by omega⟩
 cases e with
 | inl _=>exact .mk (by simp)
 | inr z=>exact .mk he
end T12
set_option maxHeartbeats 4000000
namespace T12
open Go Go.Proofs Pk
theorem jA (c:Bool) (e:Int):T (iZ c e) fun r=>match r with | .inl _=>c=true | .inr _=>c=false:=by
 cases c
 ·exact ⟨_,rfl,rfl⟩
 exact ⟨_,rfl,rfl⟩
theorem AP (e:Int):T (lD e) fun r=>match r with | .inl _=>e=0 | .inr _=>e≠0:=by
 unfold lD;refine T.bd (jA _ _) fun r hr=>?_
 cases r with
 | inl _=>exact .mk (by simpa using hr)
 | inr _=>exact .mk (by simpa using hr)
theorem e20 (n a b:Int):tN n a b=some (decide (a≤n∧n≤b)):=by
 unfold tN;by_cases h:a≤n <;> simp [h]
theorem t94 (a b:Int):T (DY a b) fun _=>True:=by
 unfold DY tX;exact T.bd (Q:=fun _=>True) (T.bd (.mk trivial) fun _ (_:True)=>T.ie (fun _=>T.bd (.mk trivial) fun _ (_:True)=>T.ie (fun _=>.mk trivial) fun _=>.mk trivial) fun _=>.mk trivial) fun _ _=>.mk trivial
theorem t62 (l:List Int) (x:Int) (h:l.length≤1000000):T (rK l x) fun r=>0≤r.1∧r.1≤l.length:=by
 unfold rK;refine T.bd (Q:=fun e=>0≤e∧e≤(l.length:Int)) (T.lp (fun (s:Int×Int)=>(0≤s.1∧s.1≤(l.length:Int))∧0≤s.2∧s.2≤(l.length:Int)) (fun (s:Int×Int)=>(s.2 - s.1).toNat) (fun s hs=>?_) ⟨⟨Int.le_refl 0,by dsimp only;omega⟩,by dsimp only;omega,by dsimp only;omega⟩) fun e he=>?_
 ·unfold xA;refine T.ie (fun hl=>.ck (by omega) (.ck (by omega) (.ck (by omega) (.ck (by omega) (T.bd (T.at (by omega)) fun y _=>T.bd (t94 _ _) fun c _=>T.bd (Q:=fun (t:Int×Int)=>((0≤t.1∧t.1≤(l.length:Int))∧0≤t.2∧t.2≤(l.length:Int))∧(t.2 - t.1).toNat < (s.2 - s.1).toNat) (T.ie (fun _=>.ck (by omega) (.mk ⟨⟨⟨by dsimp only;omega,by dsimp only;omega⟩,hs.2⟩,by dsimp only;omega⟩)) fun _=>.mk ⟨⟨hs.1,by dsimp only;omega,by dsimp only;omega⟩,by dsimp only;omega⟩) fun t ht=>.mk ht))))) fun _=>.mk hs.1
 refine T.bd (Q:=fun (t:Int×Bool)=>0≤t.1∧t.1≤(l.length:Int)) (T.ie (fun hl=>.ck he.1 (T.bd (T.at (by omega)) fun y _=>T.ie (fun _=>.mk he) fun _=>T.bd (Q:=fun _=>True) ⟨_,rfl,trivial⟩ fun _ _=>T.ie (fun _=>T.bd (Q:=fun _=>True) ⟨_,rfl,trivial⟩ fun _ _=>.mk he) fun _=>.mk he)) fun _=>.mk he) fun t ht=>.mk ht
structure Si (k:Nat) (b:cQ):Prop where
 dy:0≤b.day∧b.day≤99999
 ho:0≤b.house∧b.house≤40
 pl:b.volume.parts.length≤k
 pp:∀ p∈b.volume.parts,p.paragraphs.length≤k∧0≤p.day∧p.day≤99999
 er:b.errata.length≤k
 hi:b.hides.length≤12
 ci:b.cites.length≤k
 pa:b.motion.papers.length≤k
 ch:b.choice.length≤k
 dm:0≤b.division.members∧b.division.members≤40
 dr:0≤b.division.rule∧b.division.rule≤255
 dp:b.division.pairs.length≤k
 da:b.division.ayes.e0.length≤k∧b.division.ayes.e1.length≤k
 dn:b.division.noes.e0.length≤k∧b.division.noes.e1.length≤k
 rs:b.results.length≤k
 rv:∀ x∈b.results,x.toNat≤2
 cv:∀ c∈b.cites,c.length≤130
 vn:b.bound=true→1≤b.volume.number∧b.volume.number≤99
theorem Si.up {k:Nat} {b:cQ} (h:Si k b):Si (k+1) b where
 dy:=h.dy
 ho:=h.ho
 pl:=Nat.le_succ_of_le h.pl
 pp p hp:=⟨Nat.le_succ_of_le (h.pp p hp).1,(h.pp p hp).2⟩
 er:=Nat.le_succ_of_le h.er
 hi:=h.hi
 ci:=Nat.le_succ_of_le h.ci
 pa:=Nat.le_succ_of_le h.pa
 ch:=Nat.le_succ_of_le h.ch
 dm:=h.dm
 dr:=h.dr
 dp:=Nat.le_succ_of_le h.dp
 da:=⟨Nat.le_succ_of_le h.da.1,Nat.le_succ_of_le h.da.2⟩
 dn:=⟨Nat.le_succ_of_le h.dn.1,Nat.le_succ_of_le h.dn.2⟩
 rs:=Nat.le_succ_of_le h.rs
 rv:=h.rv
 cv:=h.cv
 vn:=h.vn
def Ln (k:Nat) (r:aH⊕Int):Prop:=match r with | .inl b=>Si (k+1) b.state | .inr e=>e≠0
theorem Si.ps {k:Nat} {b:cQ} (h:Si k b) (hk:k≤100):Ps b.volume:=⟨by have:=h.pl;omega,fun p hp=>by have:=(h.pp p hp).1;omega⟩
def Nm (n:Nat) (l:List Int):Prop:=l.length=n∧∀ x∈l,-999999999≤x∧x≤999999999
variable {k:Nat} {b:aH} {l:List Int} {text:aE}
theorem t30 (h:Si k b.state) (hl:Nm 1 l):T (CO b l text) (Ln k):=by
 have h1:=hl.1;unfold CO;refine T.bd (T.mem (by omega)) fun x hx=>T.bd (.ok (e20 _ _ _)) fun c hc=>T.bd (jA _ _) fun r hr=>?_
 cases r with
 | inl _ =>
  subst hc;simp only [decide_eq_true_eq] at hr;exact .mk (show Si (k+1) _ from { h.up with dy:=⟨Int.le_trans h.dy.1 hr.1,hr.2⟩ })
 | inr _=>exact .mk (by simp [Ln])
theorem t38 (h:Si k b.state) (hl:Nm 1 l):T (DR b l text) (Ln k):=by
 have h1:=hl.1;unfold DR;refine T.bd (jA _ _) fun r _=>?_
 cases r with
 | inr _=>exact .mk (by simp [Ln])
 | inl _ =>
  refine T.bd (T.mem (by omega)) fun x hx=>T.bd (.ok (e20 _ _ _)) fun c hc=>T.bd (jA _ _) fun r hr=>?_
  cases r with
  | inl _ =>
   subst hc;simp only [decide_eq_true_eq] at hr;exact .mk (show Si (k+1) _ from { h.up with ho:=⟨Int.le_trans (by decide) hr.1,hr.2⟩ })
  | inr _=>exact .mk (by simp [Ln])
theorem t32 (h:Si k b.state) (hk:k≤100) (hl:Nm 3 l):T (CW b l text) (Ln k):=by
 have h1:=hl.1;unfold CW;refine T.bd (jA _ _) fun r _=>?_
 cases r with
 | inr _=>exact .mk (by simp [Ln])
 | inl _ =>
  refine T.bd (T.mem (by omega)) fun x hx=>T.bd (T.mem (by omega)) fun y hy=>T.bd (T.mem (by omega)) fun z hz=>T.bd (t53 _ (h.ps hk)) fun e he=>T.bd (AP _) fun r hr=>?_
  cases r with
  | inl _=>exact .mk (show Si (k+1) _ from { h.up with pl:=h.up.pl,vn:=fun _=>(he hr).n })
  | inr _=>exact .mk hr
theorem t61 (h:Si k b.state) (d:aV) (hd:(0≤d.members∧d.members≤40)∧(0≤d.rule∧d.rule≤255)∧d.pairs.length≤k+1∧(d.ayes.e0.length≤k+1∧d.ayes.e1.length≤k+1)∧d.noes.e0.length≤k+1∧d.noes.e1.length≤k+1):T (zT b d) (Ln k):=by
 unfold zT;have h0:T (DW d) fun _=>True:=by
  unfold DW;exact T.bd (US d hd.2.1) fun _ _=>T.ie (fun _=>.mk trivial) fun _=>.mk trivial
 refine T.bd h0 fun e _=>T.bd (AP _) fun r hr=>?_
 cases r with
 | inl _=>exact .mk (show Si (k+1) _ from { h.up with dm:=hd.1,dr:=hd.2.1,dp:=hd.2.2.1,da:=hd.2.2.2.1,dn:=hd.2.2.2.2 })
 | inr _=>exact .mk hr
theorem t55 (h:Si k b.state) (hk:k≤100) (x:aO):T (wR b x) (Ln k):=by
 unfold wR;refine T.bd (Q:=fun t=>match t with | .inl _=>True | .inr z=>Ln k z) (T.ie (fun _=>T.bd (jA _ _) fun r _=>?_) fun _=>T.bd (jA _ _) fun r _=>?_) fun t ht=>?_
 ·cases r with
  | inl _=>exact .mk trivial
  | inr _=>exact .mk (by simp [Ln])
 ·cases r with
  | inl _=>exact .mk trivial
  | inr _=>exact .mk (by simp [Ln])
 cases t with
 | inr z=>exact .mk ht
 | inl _ =>
  have he:=h.er;have h0:T (CX b.state.errata { x with day:=b.state.day }) fun r=>r.length≤k+1:=by
   unfold CX rG;exact T.bd (Q:=fun r=>r.length≤k) (.ck (by simp;omega) (.mk (by simpa using he))) fun r hr=>.ck (by simp;omega) (.mk (by simp;omega))
  refine T.bd h0 fun es hes=>T.bd (t84 _ _ _ (h.ps hk)) fun r _=>T.bd (AP _) fun r hr=>?_
  cases r with
  | inl _=>exact .mk (show Si (k+1) _ from { h.up with er:=hes })
  | inr _=>exact .mk hr
theorem t33 (h:Si k b.state) (hk:k≤100) (hl:Nm 2 l):T (DH b l text) (Ln k):=by
 have h1:=hl.1;unfold DH;refine T.bd (T.mem (by omega)) fun x hx=>T.bd (T.mem (by omega)) fun y hy=>T.bd (t55 h hk _) fun r hr=>?_;cases r <;> exact .mk hr
theorem t34 (h:Si k b.state) (hk:k≤100) (hl:Nm 2 l):T (DI b l text) (Ln k):=by
 have h1:=hl.1;unfold DI;refine T.bd (T.mem (by omega)) fun x hx=>T.bd (T.mem (by omega)) fun y hy=>T.bd (t55 h hk _) fun r hr=>?_;cases r <;> exact .mk hr
theorem t35 (h:Si k b.state) (hk:k≤100) (hl:Nm 3 l):T (DJ b l text) (Ln k):=by
 have h1:=hl.1;unfold DJ;refine T.bd (T.mem (by omega)) fun x hx=>T.bd (T.mem (by omega)) fun y hy=>T.bd (T.mem (by omega)) fun z hz=>T.bd (t55 h hk _) fun r hr=>?_;cases r <;> exact .mk hr
end T12
set_option maxHeartbeats 4000000
namespace T12
open Go Go.Proofs Pk
variable {k:Nat} {b:aH} {l:List Int} {text:aE}
theorem t36 (h:Si k b.state) (hk:k≤100) (hl:Nm 2 l):T (DN b l text) (Ln k):=by
 have h1:=hl.1;unfold DN;refine T.bd (jA _ _) fun r _=>?_
 cases r with
 | inr _=>exact .mk (by simp [Ln])
 | inl _ =>
  refine T.bd (T.mem (by omega)) fun x hx=>T.bd (.ok (e20 _ _ _)) fun c hc=>T.bd (jA _ _) fun r hr=>?_
  cases r with
  | inr _=>exact .mk (by simp [Ln])
  | inl _ =>
   subst hc;simp only [decide_eq_true_eq] at hr;refine T.bd (T.mem (by omega)) fun y hy=>.ck hr ?_;have h2:=hl.2 y hy;have h3:=h.dy;refine T.bd (t56 _ _ _ _ _ (h.ps hk) (fun p hp=>(h.pp p hp).2) (by omega) (by omega)) fun q hq=>T.bd (AP _) fun r hr=>?_
   cases r with
   | inr _=>exact .mk hr
   | inl _ =>
    have h4:=h.ci;have h0:T (DM b.state.cites q.1) fun r=>r.length≤k+1∧∀ c∈r,c.length≤130:=by
     unfold DM NS
     exact T.bd (Q:=fun (r:List aE)=>r.length≤k∧∀ c∈r,c.length≤130) (.ck (by simp;omega) (.mk ⟨by simpa using h4,h.cv⟩)) fun r hr=>.ck (by omega) (.mk ⟨by simp;omega,fun c hc=>by
      rcases List.mem_append.1 hc with h5 | h5
      ·exact hr.2 c h5
      simp only [List.mem_singleton] at h5;subst h5;exact hq⟩)
    exact T.bd h0 fun c hc=>.mk (show Si (k+1) _ from { h.up with ci:=hc.1,cv:=hc.2 })
theorem t37 (h:Si k b.state) (hk:k≤100) (hl:Nm 3 l):T (DQ b l text) (Ln k):=by
 have h1:=hl.1;unfold DQ;refine T.bd (Q:=fun t=>match t with | .inl _=>True | .inr z=>Ln k z) (T.bd (T.mem (by omega)) fun x hx=>T.bd (.ok (e20 _ _ _)) fun c hc=>T.ie (fun _=>T.bd (T.mem (by omega)) fun y hy=>T.bd (.ok (e20 _ _ _)) fun c hc=>T.bd (jA _ _) fun r _=>?_) fun _=>T.bd (jA _ _) fun r _=>?_) fun t ht=>?_
 ·cases r with
  | inl _=>exact .mk trivial
  | inr _=>exact .mk (by simp [Ln])
 ·cases r with
  | inl _=>exact .mk trivial
  | inr _=>exact .mk (by simp [Ln])
 cases t with
 | inr z=>exact .mk ht
 | inl _ =>
  refine T.bd (jA _ _) fun r hr=>?_
  cases r with
  | inr _=>exact .mk (by simp [Ln])
  | inl _ =>
   simp only [decide_eq_true_eq] at hr;have h0:T (DO b) fun v=>Ps v:=by
    unfold DO CQ;exact T.ie (fun _=>.mk (h.ps hk)) fun _=>T.bd (.mk (P:=Ps) ⟨(h.ps hk).1,(h.ps hk).2⟩) fun v hv=>.mk hv
   refine T.bd h0 fun v hv=>T.bd (T.mem (by omega)) fun x hx=>T.bd (t58 v _ x _ hv) fun q _=>T.bd (AP _) fun r hr2=>?_
   cases r with
   | inr _=>exact .mk hr2
   | inl _ =>
    have h2:∀ z,T (DP b.state.hides z) fun r=>r.length≤12:=fun z=>by
     unfold DP IQ;exact T.bd (Q:=fun r=>r.length=b.state.hides.length) (.ck (by simp;omega) (.mk (by simp))) fun r hr=>.ck (by simp;omega) (.mk (by simp;omega))
    exact T.bd (T.at (by omega)) fun y _=>T.bd (T.at (by omega)) fun z _=>T.bd (h2 _) fun r hr=>.mk (show Si (k+1) _ from { h.up with hi:=hr })
theorem t39 (h:Si k b.state) (hl:Nm 4 l):T (DX b l text) (Ln k):=by
 have h1:=hl.1;unfold DX;refine T.bd (jA _ _) fun r _=>?_
 cases r with
 | inr _=>exact .mk (by simp [Ln])
 | inl _ =>
  refine T.bd (Q:=fun t=>match t with | .inl _=>(∀ x,l[0]?=some x→0≤x∧x≤255)∧∀ x,l[3]?=some x→0≤x∧x≤255 | .inr z=>Ln k z) (T.bd (T.at (by omega)) fun x hx=>T.bd (.ok (e20 _ _ _)) fun c hc=>T.ie (fun hct=>T.bd (T.at (by omega)) fun y hy=>T.bd (.ok (e20 _ _ _)) fun d hd=>T.bd (jA _ _) fun r hr=>?_) fun _=>T.bd (jA _ _) fun r hr=>?_) fun t ht=>?_
  ·cases r with
   | inl _ =>
    subst hc hd;simp only [decide_eq_true_eq] at hct hr;exact .mk ⟨fun z hz=>by rw [hx] at hz;cases hz;exact hct,fun z hz=>by rw [hy] at hz;cases hz;exact hr⟩
   | inr _=>exact .mk (by simp [Ln])
  ·cases r with
   | inl _=>cases hr
   | inr _=>exact .mk (by simp [Ln])
  cases t with
  | inr z=>exact .mk ht
  | inl _ =>
   refine T.bd (T.at (by omega)) fun x hx=>.ck (ht.1 x hx) (T.bd (T.at (by omega)) fun y _=>T.bd (T.at (by omega)) fun z _=>T.bd (T.at (by omega)) fun w hw=>.ck (ht.2 w hw) (T.bd (t61 h _ ⟨h.ho,ht.1 x hx,Nat.zero_le _,⟨Nat.zero_le _,Nat.zero_le _⟩,Nat.zero_le _,Nat.zero_le _⟩) fun r hr=>?_));cases r <;> exact .mk hr
theorem t41 (h:Si k b.state) (hk:k≤100) (hl:Nm 2 l):T (EB b l text) (Ln k):=by
 have h1:=hl.1;unfold EB;refine T.bd (jA _ _) fun r _=>?_
 cases r with
 | inr _=>exact .mk (by simp [Ln])
 | inl _ =>
  have h2:=h.dp;have h0:∀ z,T (EA b.state.division.pairs z) fun r=>r.length≤k+1:=fun z=>by
   unfold EA IX;exact T.bd (Q:=fun r=>r.length≤k) (.ck (by simp;omega) (.mk (by simpa using h2))) fun r hr=>.ck (by simp;omega) (.mk (by simp;omega))
  refine T.bd (T.at (by omega)) fun x _=>T.bd (T.at (by omega)) fun y _=>T.bd (h0 _) fun ps hps=>T.bd (t61 h _ ⟨h.dm,h.dr,hps,h.up.da,h.up.dn⟩) fun r hr=>?_;cases r <;> exact .mk hr
theorem t42 (h:Si k b.state) (hk:k≤100):T (EO b l text) (Ln k):=by
 unfold EO;refine T.bd (jA _ _) fun r _=>?_
 cases r with
 | inr _=>exact .mk (by simp [Ln])
 | inl _ =>
  refine T.bd (t66 _ h.dr) fun o ho=>T.bd (AP _) fun r hr=>?_
  cases r with
  | inr _=>exact .mk hr
  | inl _ =>
   refine T.bd (jA _ _) fun r hr=>?_
   cases r with
   | inr _=>exact .mk (by simp [Ln])
   | inl _ =>
    simp only [decide_eq_true_eq] at hr;have h2:=h.rs;refine T.bd (T.mem (by omega)) fun x hxm=>?_;have hx:=x.toNat_lt;have h0:T (EN b.state.results (x.toNat:Int)) fun r=>r.length≤k+1∧∀ y∈r,y.toNat≤2:=by
     unfold EN IY
     exact T.bd (Q:=fun (r:List UInt8)=>r.length≤k∧∀ y∈r,y.toNat≤2) (.ck (by simp;omega) (.mk ⟨by simpa using h2,h.rv⟩)) fun r hr=>.ck (by omega) (.ck (by omega) (.mk ⟨by simp;omega,fun y hy=>by
      rcases List.mem_append.1 hy with h5 | h5
      ·exact hr.2 y h5
      simp only [List.mem_singleton] at h5;subst h5;have:=ho.2 x hxm;simp;omega⟩))
    exact T.bd h0 fun rs hrs=>.mk (show Si (k+1) _ from { h.up with rs:=hrs.1,rv:=hrs.2,dm:=⟨(by decide:(0:Int)≤0),(by decide:(0:Int)≤40)⟩,dr:=⟨(by decide:(0:Int)≤0),(by decide:(0:Int)≤255)⟩,dp:=Nat.zero_le _,da:=⟨Nat.zero_le _,Nat.zero_le _⟩,dn:=⟨Nat.zero_le _,Nat.zero_le _⟩ })
theorem t68 (hs:text.length≤1073741824):T (zV text) fun _=>True:=by
 unfold zV IJ;exact T.bd (Q:=fun _=>True) (.ck hs (.mk trivial)) fun _ _=>.mk trivial
theorem t43 (h:Si k b.state) (hs:text.length≤1073741824):T (EU b l text) (Ln k):=by
 unfold EU;refine T.bd (jA _ _) fun r _=>?_
 cases r with
 | inr _=>exact .mk (by simp [Ln])
 | inl _ =>
  refine T.bd (t68 hs) fun ws _=>T.bd (t69 _) fun e _=>T.bd (AP _) fun r hr=>?_
  cases r with
  | inr _=>exact .mk hr
  | inl _=>exact .mk (show Si (k+1) _ from { h.up with pa:=Nat.zero_le _ })
theorem t44 (h:Si k b.state) (hk:k≤100) (hl:Nm 4 l) (hs:text.length≤1073741824):T (EW b l text) (Ln k):=by
 have h1:=hl.1;unfold EW;refine T.bd (jA _ _) fun r _=>?_
 cases r with
 | inr _=>exact .mk (by simp [Ln])
 | inl _ =>
  have h2:=h.pa;have h0:∀ z,T (EV b.state.motion.papers z) fun r=>r.length≤k+1:=fun z=>by
   unfold EV JF;exact T.bd (Q:=fun r=>r.length≤k) (.ck (by simp;omega) (.mk (by simpa using h2))) fun r hr=>.ck (by simp;omega) (.mk (by simp;omega))
  refine T.bd (T.at (by omega)) fun _ _=>T.bd (T.at (by omega)) fun _ _=>T.bd (T.at (by omega)) fun _ _=>T.bd (T.at (by omega)) fun _ _=>T.bd (t68 hs) fun ws _=>T.bd (h0 _) fun ps hps=>T.bd (t69 _) fun e _=>T.bd (AP _) fun r hr=>?_
  cases r with
  | inr _=>exact .mk hr
  | inl _=>exact .mk (show Si (k+1) _ from { h.up with pa:=hps })
theorem t64 {l:List Int} (h:l.length≤1000):T (pO l) fun r=>r=l:=by
 unfold pO;exact .ck (by simp;omega) (.mk (by simp))
theorem zB (l:List Int) (x:Int) (i:Nat) (h:i≤l.length):(l.take i++[x]++l.drop i).length=l.length+1:=by simp;omega
theorem t45 (h:Si k b.state) (hk:k≤100) (hl:Nm 1 l):T (FD b l text) (Ln k):=by
 have h1:=hl.1;unfold FD;refine T.bd (jA _ _) fun r _=>?_
 cases r with
 | inr _=>exact .mk (by simp [Ln])
 | inl _ =>
  have h2:=h.ch;refine T.bd (T.at (by omega)) fun x _=>T.bd (t62 _ x (by omega)) fun q hq=>T.bd (jA _ _) fun r _=>?_
  cases r with
  | inr _=>exact .mk (by simp [Ln])
  | inl _ =>
   refine T.bd (t64 (by omega)) fun c hc=>.ck hq.1 (.ck (by subst hc;omega) (.ck (by subst hc;simp;omega) (T.bd (t71 _ _) fun w _=>T.bd (AP _) fun r hr=>?_)))
   cases r with
   | inr _=>exact .mk hr
   | inl _=>exact .mk (show Si (k+1) _ from { h.up with ch:=by subst hc;show (_:List Int).length≤_;rw [zB _ _ _ (by omega)];omega })
end T12
set_option maxHeartbeats 4000000
namespace T12
open Go Go.Proofs Pk
variable {k:Nat} {b:aH} {l:List Int} {text:aE}
theorem rR {ws:List aE} (h:yZ ws):(Lib.join ws [32]).length≤21*ws.length:=by
 have hl:∀ {r:List aE},yZ r→Lib.lens r≤20*r.length:=fun {r}=>by
  induction r with
  | nil=>intro _;exact Nat.le_refl _
  | cons x r ih =>
   intro h;have h1:=ih fun y hy=>h y (List.mem_cons_of_mem _ hy);have h2:=h x (List.mem_cons_self ..);simp only [Lib.lens,List.map_cons,List.sum_cons,List.length_cons] at h1 ⊢;omega
 cases ws with
 | nil=>exact Nat.le_refl _
 | cons x r =>
  rw [Lib.join_cons,List.length_append,Lib.joinTail_length];have h1:=hl (r:=r) fun y hy=>h y (List.mem_cons_of_mem _ hy);have h2:=h x (List.mem_cons_self ..);simp only [List.length_cons,List.length_nil] at *;omega
theorem t31 (h:Si k b.state) (hk:k≤100) (hl:1≤l.length):T (tU b l text) (Ln k):=by
 unfold tU;refine T.bd (jA _ _) fun r _=>?_
 cases r with
 | inr _=>exact .mk (by simp [Ln])
 | inl _ =>
  have hpl:=h.pl;have h2:T (vV b.state.volume.parts) fun r=>r=b.state.volume.parts:=by
   unfold vV;exact .ck (by simp;omega) (.mk (by simp))
  refine T.bd (T.at (by omega)) fun x _=>T.bd h2 fun ps hps=>?_;have hps1:ps.length≤k:=by rw [hps];exact hpl
  have hps2:∀ p∈ps,p.paragraphs.length≤k∧0≤p.day∧p.day≤99999:=by rw [hps];exact h.pp
  refine T.bd (Q:=fun t=>t=true→1≤ps.length) (T.ie (fun h0=>T.bd (T.at (by omega)) fun _ _=>.mk fun _=>by omega) fun _=>.mk (by simp)) fun t ht=>T.bd (Q:=fun (qs:List dR)=>qs.length≤k+1∧∀ p∈qs,p.paragraphs.length≤k+1∧0≤p.day∧p.day≤99999) (T.ie (fun htt=>?_) fun _=>.ck (by simp;omega) (.mk ⟨by simp;omega,fun p hp=>?_⟩)) fun qs hqs=>?_
  ·have h1:=ht htt;refine .ck (by omega) (T.bd (T.mem (by omega)) fun y hy=>?_);have hy2:=hps2 y hy;have h3:T (vW y.paragraphs ⟨x,text⟩) fun r=>r.length≤k+1:=by
    unfold vW CP;exact T.bd (Q:=fun r=>r.length≤k) (.ck (by simp;omega) (.mk (by simpa using hy2.1))) fun r hr=>.ck (by simp;omega) (.mk (by simp;omega))
   exact T.bd h3 fun r hr=>.mk ⟨by rw [List.length_set];omega,uR (fun p hp=>⟨Nat.le_succ_of_le (hps2 p hp).1,(hps2 p hp).2⟩) ⟨hr,hy2.2⟩⟩
  ·rcases List.mem_append.1 hp with h1 | h1
   ·exact ⟨Nat.le_succ_of_le (hps2 p h1).1,(hps2 p h1).2⟩
   simp only [List.mem_singleton] at h1;subst h1;exact ⟨by simp,h.dy⟩
  refine T.bd (Q:=fun v=>Ps v) (.mk ⟨by have:=hqs.1;dsimp only;omega,fun p hp=>by have:=(hqs.2 p hp).1;omega⟩) fun v hv=>T.bd (t53 _ hv) fun e _=>T.bd (AP _) fun r hr=>?_
  cases r with
  | inr _=>exact .mk hr
  | inl _=>exact .mk (show Si (k+1) _ from { h.up with pl:=hqs.1,pp:=hqs.2 })
theorem t46 (h:Si k b.state) (hk:k≤100) (hl:Nm 1 l):T (uK b l text) (Ln k):=by
 unfold uK;refine T.bd (Q:=fun t=>match t with | .inl _=>True | .inr z=>Ln k z) (T.ie (fun _=>T.bd (jA _ _) fun r _=>?_) fun _=>T.bd (jA _ _) fun r _=>?_) fun t ht=>?_
 ·cases r with
  | inl _=>exact .mk trivial
  | inr _=>exact .mk (by simp [Ln])
 ·cases r with
  | inl _=>exact .mk trivial
  | inr _=>exact .mk (by simp [Ln])
 cases t with
 | inr z=>exact .mk ht
 | inl _ =>
  refine T.bd (t71 _ _) fun q hq=>T.bd (AP _) fun r hr=>?_
  cases r with
  | inr _=>exact .mk hr
  | inl _ =>
   have h0:T (vP q.1 [32]) fun _=>True:=by
    have h1:=rR hq.1.2.1;have h2:=hq.2.1;unfold vP;exact .ck ⟨by omega,by omega⟩ (.mk trivial)
   refine T.bd h0 fun s _=>T.bd (t31 h hk (by have:=hl.1;omega)) fun r hr=>?_
   cases r with
   | inr _=>exact .mk hr
   | inl y=>exact .mk (show Si (k+1) _ from { (show Si (k+1) y.state from hr) with pa:=Nat.zero_le _,ch:=Nat.zero_le _ })
theorem t40 (h:Si k b.state) (hk:k≤100) (hl:Nm 3 l):T (DZ b l text) (Ln k):=by
 have h1:=hl.1;have hm:=h.dm;have hda:=h.da;have hdn:=h.dn;unfold DZ;refine T.bd (jA _ _) fun r _=>?_
 cases r with
 | inr _=>exact .mk (by simp [Ln])
 | inl _ =>
  refine T.bd (Q:=fun t=>match t with | .inl _=>∀ x,l[1]?=some x→x=0∨x=1 | .inr z=>Ln k z) (T.bd (T.at (by omega)) fun x _=>T.bd (.ok (e20 _ _ _)) fun c _=>T.ie (fun _=>T.bd (T.at (by omega)) fun y hy=>T.bd (.ok (e20 _ _ _)) fun d hd=>T.ie (fun hdt=>T.bd (T.at (by omega)) fun z _=>.ck (by omega) (T.bd (.ok (e20 _ _ _)) fun e _=>T.bd (jA _ _) fun r _=>?_)) fun _=>T.bd (jA _ _) fun r hr=>?_) fun _=>T.bd (jA _ _) fun r hr=>?_) fun t ht=>?_
  ·cases r with
   | inl _ =>
    subst hd;simp only [decide_eq_true_eq] at hdt;exact .mk fun w hw=>by rw [hy] at hw;cases hw;omega
   | inr _=>exact .mk (by simp [Ln])
  ·cases r with
   | inl _=>cases hr
   | inr _=>exact .mk (by simp [Ln])
  ·cases r with
   | inl _=>cases hr
   | inr _=>exact .mk (by simp [Ln])
  cases t with
  | inr z=>exact .mk ht
  | inl _ =>
   have key:∀ (ls:List Int) (x:Int) (f:List Int→aH),ls.length≤k→(∀ q:List Int,q.length≤k+1→Si (k+1) (f q).state)→∀ (q:Int×Bool),0≤q.1∧q.1≤ls.length→T ((pO ls).bind fun r=>bW (0≤q.1) <| bW (q.1.toNat≤r.length) <| bW (r.length+([x]:List Int).length≤1073741824) <| some (.inl (f (r.take q.1.toNat++([x]:List Int)++r.drop q.1.toNat)))) (Ln k):=fun ls x f hls hf q hq=>by
    refine T.bd (t64 (by omega)) fun r hr=>?_;subst hr;exact .ck hq.1 (.ck (by omega) (.ck (by simp;omega) (.mk (hf _ (by rw [zB _ _ _ (by omega)];omega)))))
   refine T.bd (T.at (by omega)) fun y hy=>T.ie (fun _=>T.bd (T.at (by omega)) fun w _=>T.ie (fun _=>T.bd (T.at (by omega)) fun z _=>T.bd (t62 _ _ (by omega)) fun q hq=>T.bd (jA _ _) fun r _=>?_) fun _=>T.bd (T.at (by omega)) fun z _=>T.bd (t62 _ _ (by omega)) fun q hq=>T.bd (jA _ _) fun r _=>?_) fun _=>T.ie (fun _=>T.bd (T.at (by omega)) fun w _=>T.ie (fun _=>T.bd (T.at (by omega)) fun z _=>T.bd (t62 _ _ (by omega)) fun q hq=>T.bd (jA _ _) fun r _=>?_) fun _=>T.bd (T.at (by omega)) fun z _=>T.bd (t62 _ _ (by omega)) fun q hq=>T.bd (jA _ _) fun r _=>?_) fun _=>by have:=ht y hy;omega
   ·cases r with
    | inr _=>exact .mk (by simp [Ln])
    | inl _=>exact key _ z (fun q=>⟨{ b.state with division:={ b.state.division with noes:=⟨q,b.state.division.noes.e1⟩ } }⟩) hdn.1 (fun q hq=>{ h.up with dn:=⟨hq,h.up.dn.2⟩ }) q hq
   ·cases r with
    | inr _=>exact .mk (by simp [Ln])
    | inl _=>exact key _ z (fun q=>⟨{ b.state with division:={ b.state.division with ayes:=⟨q,b.state.division.ayes.e1⟩ } }⟩) hda.1 (fun q hq=>{ h.up with da:=⟨hq,h.up.da.2⟩ }) q hq
   ·cases r with
    | inr _=>exact .mk (by simp [Ln])
    | inl _=>exact key _ z (fun q=>⟨{ b.state with division:={ b.state.division with noes:=⟨b.state.division.noes.e0,q⟩ } }⟩) hdn.2 (fun q hq=>{ h.up with dn:=⟨h.up.dn.1,hq⟩ }) q hq
   cases r with
   | inr _=>exact .mk (by simp [Ln])
   | inl _=>exact key _ z (fun q=>⟨{ b.state with division:={ b.state.division with ayes:=⟨b.state.division.ayes.e0,q⟩ } }⟩) hda.2 (fun q hq=>{ h.up with da:=⟨h.up.da.1,hq⟩ }) q hq
end T12
set_option maxHeartbeats 4000000
namespace T12
open Go Go.Proofs Pk
variable {k:Nat} {b:aH} {l:List Int} {text:aE}
theorem JX {s:aE} (h:(jT s).2=false) : -9223372036854775808≤(jT s).1∧(jT s).1≤9223372036854775807:=by
 unfold jT at h ⊢
 split at h
 ·rename_i v hv;exact Lib.atoiAll_bounds hv
 ·cases h
 cases h
theorem t28 (s:aE) (hs:s.length≤1073741824):T (SZ s) fun r=>match r with | .inl n=>(-999999999≤n∧n≤999999999)∧Lib.itoa n=s | .inr _=>True:=by
 unfold SZ IH BS;refine T.bd (.ck hs (.mk (P:=fun r=>r=jT s) rfl)) fun q hq=>T.bd (Q:=fun t=>match t with | .inl _=>(-999999999≤q.1∧q.1≤999999999)∧Lib.itoa q.1=s | .inr z=>∃ u,z=.inr u) (T.ie (fun _=>T.bd (jA _ _) fun r hr=>?_) fun hf=>?_) fun t ht=>?_
 ·cases r with
  | inl _=>cases hr
  | inr _=>exact .mk ⟨_,rfl⟩
 ·have hb:=JX (s:=s) (by subst hq;simpa using hf);rw [← hq] at hb;unfold II BT;refine T.bd (.ck hb (.mk (P:=fun w=>w=Lib.itoa q.1) rfl)) fun w hw=>T.ie (fun hws=>T.bd (.ok (e20 _ _ _)) fun c hc=>T.bd (jA _ _) fun r hr=>?_) fun _=>T.bd (jA _ _) fun r hr=>?_
  ·cases r with
   | inl _=>subst hc;simp only [decide_eq_true_eq] at hr;exact .mk ⟨hr,hw▸hws⟩
   | inr _=>exact .mk ⟨_,rfl⟩
  cases r with
  | inl _=>cases hr
  | inr _=>exact .mk ⟨_,rfl⟩
 cases t with
 | inl _=>exact .mk ht
 | inr z=>obtain ⟨u,rfl⟩:=ht;exact .mk trivial
theorem PO (s t:aE):(Lib.cut s t).2.1.length≤s.length∧(Lib.cut s t).1.length≤s.length:=by
 unfold Lib.cut;split
 ·simp;omega
 simp
theorem t25 (s t:aE) (h:s.length≤1073741824):T (GP s t) fun r=>r.2.1.length≤s.length∧r.1.length≤s.length:=by
 unfold GP;exact .ck h (.mk (PO s t))
def XD (w:cL):Prop:=(0≤w.many∧w.many≤4)∧∀ (k:Nat) (b:aH) (l:List Int) (text:aE),Si k b.state→k≤100→Nm w.many.toNat l→text.length≤1000000→T (LE w.do_ b l text) (Ln k)
theorem fE {t:List (aE×cL)} {s:aE} {w:cL} (h:∀ k x,eD t k=some x→XD x) (hw:XD w):∀ k x,eD (put t s w) k=some x→XD x:=fun k x hx=>by
 rw [jS] at hx
 split at hx
 ·cases hx;exact hw
 exact h k x hx
theorem t26:T NV fun t=>∀ k x,eD t k=some x→XD x:=by
 unfold NV;refine .mk ?_;refine fE (fE (fE (fE (fE (fE (fE (fE (fE (fE (fE (fE (fE (fE (fE (fE (fE (fun k x h=>by cases h) ?_) ?_) ?_) ?_) ?_) ?_) ?_) ?_) ?_) ?_) ?_) ?_) ?_) ?_) ?_) ?_) ?_
 all_goals refine ⟨⟨by decide,by decide⟩,fun k b l text h hk hl ht=>?_⟩
 ·exact t30 (text:=text) h hl
 ·exact t31 (text:=text) h hk (by have:=hl.1;simp at this;omega)
 ·exact t32 (text:=text) h hk hl
 ·exact t33 (text:=text) h hk hl
 ·exact t34 (text:=text) h hk hl
 ·exact t35 (text:=text) h hk hl
 ·exact t36 (text:=text) h hk hl
 ·exact t37 (text:=text) h hk hl
 ·exact t38 (text:=text) h hl
 ·exact t39 (text:=text) h hl
 ·exact t40 (text:=text) h hk hl
 ·exact t41 (text:=text) h hk hl
 ·exact t42 (l:=l) (text:=text) h hk
 ·exact t43 (l:=l) (text:=text) h (by omega)
 ·exact t44 (text:=text) h hk hl (by omega)
 ·exact t45 (text:=text) h hk hl
 exact t46 (text:=text) h hk hl
theorem t21 (h:Si k b.state) (hk:k≤100) (ht:text.length≤1000000):T (JG b text) fun r=>Si (k+1) r.1.state∧(r.2≠0→r.1=b):=by
 unfold JG;refine T.bd (t25 text [32] (by omega)) fun q hq=>T.bd t26 fun ws hws=>T.bd (jA _ _) fun r hr=>?_
 cases r with
 | inr _=>exact .mk ⟨h.up,fun _=>rfl⟩
 | inl _ =>
  obtain ⟨x,hx⟩:=Option.isSome_iff_exists.1 hr;have hw:=hws _ x hx;have hwm:=hw.1;have hxd:(eD ws q.1).getD ⟨0,false,none⟩=x:=by rw [hx];rfl
  refine T.bd (Q:=fun e=>match e with | .inl r=>r.1.length≤1000000∧Nm x.many.toNat r.2.2 | .inr z=>z=(b,4)) (T.ix x.many.toNat (·.1) (fun (s:Nat×aE×Bool×List Int)=>s.2.1.length≤1000000∧s.2.2.2.length=s.1∧∀ y∈s.2.2.2,-999999999≤y∧y≤999999999) (fun s hs hi=>?_) ⟨by dsimp only;omega,rfl,by simp⟩ (Nat.zero_le _)) fun e he=>?_
  ·obtain ⟨hs1,hs2,hs3⟩:=hs;unfold oY;rw [hxd];refine T.ie (fun hl=>T.bd (jA _ _) fun r _=>?_) fun hl=>.mk ⟨hs1,by dsimp only;omega,hs3⟩
   cases r with
   | inr _=>exact .mk rfl
   | inl _ =>
    refine T.bd (t25 _ _ (by omega)) fun c hc=>T.bd (t28 c.1 (by omega)) fun r hr=>?_
    cases r with
    | inr _=>exact .mk rfl
    | inl y =>
     refine .ck (by omega) (.ck (by omega) (.mk ⟨⟨by dsimp only;omega,by simp [hs2],fun z hz=>?_⟩,rfl,by omega⟩));rcases List.mem_append.1 hz with h1 | h1
     ·exact hs3 z h1
     simp only [List.mem_singleton] at h1;subst h1;exact hr.1
  cases e with
  | inr z=>simp only at he;subst he;exact .mk ⟨h.up,fun _=>rfl⟩
  | inl r =>
   refine T.bd (jA _ _) fun u _=>?_
   cases u with
   | inr _=>exact .mk ⟨h.up,fun _=>rfl⟩
   | inl _ =>
    rw [hxd];refine T.bd (hw.2 k b r.2.2 r.1 h hk he.2 he.1) fun g hg=>?_
    cases g with
    | inl y=>exact .mk ⟨hg,fun h0=>absurd rfl h0⟩
    | inr e=>exact .mk ⟨h.up,fun _=>rfl⟩
def s0:aH:=⟨⟨0,0,⟨0,0,0,0,[]⟩,false,[],[],[],⟨[],[]⟩,false,[],⟨0,⟨[],[]⟩,⟨[],[]⟩,[],[],0,0,0,0⟩,false,[]⟩⟩
theorem VI:Si 0 s0.state:=⟨⟨by decide,by decide⟩,⟨by decide,by decide⟩,by decide,(fun p hp=>absurd hp (List.not_mem_nil)),by decide,by decide,by decide,by decide,by decide,⟨by decide,by decide⟩,⟨by decide,by decide⟩,by decide,⟨by decide,by decide⟩,⟨by decide,by decide⟩,by decide,(fun x hx=>absurd hx (List.not_mem_nil)),(fun x hx=>absurd hx (List.not_mem_nil)),fun h=>by cases h⟩
end T12
set_option maxHeartbeats 4000000
namespace T12
open Go Go.Proofs Pk
noncomputable def XE (r:aH×List Int) (x:aE):aH×List Int:=let q:=(JG r.1 x).getD (r.1,0);(q.1,r.2++[q.2])
noncomputable def gC (ls:List aE):aH×List Int:=ls.foldl XE (s0,[])
theorem qL (ls:List aE) (x:aE):gC (ls++[x])=XE (gC ls) x:=by unfold gC;rw [List.foldl_append];rfl
def rS (ls:List aE):Prop:=ls.length≤100∧∀ s∈ls,s.length≤1000000
theorem rS.init {ls:List aE} {x:aE} (h:rS (ls++[x])):rS ls∧ls.length≤99∧x.length≤1000000:=by
 have h1:=h.1;simp at h1;exact ⟨⟨by omega,fun s hs=>h.2 s (List.mem_append.2 (.inl hs))⟩,by omega,h.2 x (List.mem_append.2 (.inr (List.mem_singleton.2 rfl)))⟩
theorem rS.take {ls:List aE} (h:rS ls) (n:Nat):rS (ls.take n):=⟨by rw [List.length_take];have:=h.1;omega,fun s hs=>h.2 s (List.mem_of_mem_take hs)⟩
theorem uV {α:Type} {P:List α→Prop} (h0:P []) (h1:∀ l x,P l→P (l++[x])) (l:List α):P l:=by
 rw [← List.reverse_reverse l]
 induction l.reverse with
 | nil=>exact h0
 | cons x r ih=>rw [List.reverse_cons];exact h1 _ _ ih
theorem rT (ls:List aE):rS ls→Si ls.length (gC ls).1.state∧(gC ls).2.length=ls.length:=by
 refine uV (P:=fun ls=>rS ls→Si ls.length (gC ls).1.state∧(gC ls).2.length=ls.length) (fun _=>⟨VI,rfl⟩) (fun l x ih h=>?_) ls;obtain ⟨h1,h2,h3⟩:=h.init;obtain ⟨h4,h5⟩:=ih h1;obtain ⟨q,h6,h7⟩:=t21 h4 (by omega) h3;rw [qL,List.length_append];unfold XE;rw [h6];exact ⟨h7.1,by simp [h5]⟩
theorem rU {ls:List aE} {x:aE} (h:rS (ls++[x])):∃ q,JG (gC ls).1 x=some q∧(q.2≠0→q.1=(gC ls).1)∧gC (ls++[x])=(q.1,(gC ls).2++[q.2]):=by
 obtain ⟨h1,h2,h3⟩:=h.init;obtain ⟨q,h6,h7⟩:=t21 (rT ls h1).1 (by omega) h3;refine ⟨q,h6,h7.2,?_⟩;rw [qL];unfold XE;rw [h6];rfl
theorem e14 {ls:List aE} (h:rS ls):NW ls=some (gC ls):=by
 obtain ⟨r,h1,h2⟩:T (bD (uL ls) (0,s0,[])) fun e=>e=gC ls:=by
  refine T.ix ls.length (·.1) (fun (s:Nat×aH×List Int)=>s.2=gC (ls.take s.1)) (fun s hs hi=>?_) rfl (Nat.zero_le _);unfold uL;refine T.ie (fun hl=>T.bd (T.at (by omega)) fun x hx=>?_) fun hl=>.mk (by rw [hs,List.take_of_length_le (by omega)]);have he:ls.take (s.1+1)=ls.take s.1++[x]:=by rw [List.take_add_one,hx];rfl
  have h3:=h.take (s.1+1);rw [he] at h3;obtain ⟨q,h4,_,h5⟩:=rU h3;have h6:=(rT _ (h.take s.1)).2;rw [← hs] at h4 h5 h6;rw [List.length_take] at h6;refine T.bd (.ok h4) fun q' hq'=>?_;subst hq';exact .ck (by have:=h.1;omega) (.mk ⟨by dsimp only;rw [he,h5],rfl,by omega⟩)
 unfold NW;show (bD (uL ls) (0,s0,[])).bind _=_;rw [h1,h2];rfl
theorem mF {ls:List aE} (h:rS ls):(gC ls).2.length=ls.length:=(rT ls h).2
theorem GI (ls:List aE):rS ls→∀ n,(gC (ls.take n)).2=(gC ls).2.take n:=by
 refine uV (P:=fun ls=>rS ls→∀ n,(gC (ls.take n)).2=(gC ls).2.take n) (fun _ n=>by simp [gC]) (fun l x ih h n=>?_) ls;obtain ⟨q,h1,h2,h3⟩:=rU h;have hl:=mF h.init.1;by_cases hn:n≤l.length
 ·rw [List.take_append_of_le_length hn,ih h.init.1 n,h3];dsimp only;rw [List.take_append_of_le_length (by omega)]
 rw [List.take_of_length_le (by simp;omega),List.take_of_length_le (by rw [mF h];simp;omega)]
end T12
set_option maxHeartbeats 4000000
namespace T12
open Go Go.Proofs Pk
def Rt (ls:List aE):Prop:=ls.length≤60∧∀ s∈ls,s.length≤400
theorem Rt.lin {ls:List aE} (h:Rt ls):rS ls:=⟨by have:=h.1;omega,fun s hs=>by have:=h.2 s hs;omega⟩
theorem e19 {ls:List aE} (h:Rt ls):NQ ls=some 0:=by
 have h0:NP ls KT=some false:=by
  obtain ⟨r,h1,h2⟩:=pQ ls KT (fun s=>decide (400 < (s.length:Int))) (fun x hx=>rfl) (yM ls KT) (fun i=>rfl);have h3:ls.any (fun s=>decide (400 < (s.length:Int)))=false:=by
   rw [List.any_eq_false];intro s hs;have:=h.2 s hs;simp;omega
  unfold NP SI;rw [h1];rcases h2 with ⟨z,rfl,h2⟩ | ⟨rfl,h2⟩
  ·rw [h3] at h2;cases h2
  rfl
 unfold NQ;rw [if_neg (by have:=h.1;omega),h0];rfl
theorem e18 {ls:List aE} (h:Rt ls):m9 ls=some ((gC ls).1.state,(gC ls).2,0):=by
 unfold m9;rw [e19 h];simp only [Option.bind_some];rw [if_neg (by decide),e14 h.lin];rfl
noncomputable def er (ls:List aE) (k:Nat):Int:=((gC ls).2[k]?).getD 0
def del (ls:List aE) (k:Nat):List aE:=ls.take k++ls.drop (k+1)
theorem VJ {ls:List aE} (h:rS ls) {k:Nat} (hk:k < ls.length):(gC ls).2[k]?=some (er ls k):=by
 unfold er;rw [List.getElem?_eq_getElem (by rw [mF h];exact hk)];rfl
theorem rV {ls:List aE} (h:rS ls) {n k:Nat} (hk:k < n) (hn:k < ls.length):(gC (ls.take n)).2[k]?=some (er ls k):=by
 rw [GI ls h,List.getElem?_take_of_lt hk,VJ h hn]
theorem GJ (ls:List aE) {n k:Nat} (hk:k≤n) (hn:n < ls.length):(ls.take (n+1)).take k++(ls.take (n+1)).drop (k+1)=(del ls k).take n:=by
 unfold del;rw [List.take_take,Nat.min_eq_left (by omega),List.take_append,List.take_take,Nat.min_eq_right (by omega),List.length_take,Nat.min_eq_left (by omega:k≤ls.length),List.drop_take,show n+1 - (k+1)=n - k by omega]
theorem JY {ls:List aE} {k:Nat} (hk:k < ls.length):(del ls k).length=ls.length - 1:=by unfold del;simp;omega
theorem zC {ls:List aE} (h:rS ls) (k:Nat):rS (del ls k):=⟨by have:=h.1;unfold del;simp;omega,fun s hs=>by
 rcases List.mem_append.1 hs with h1 | h1
 ·exact h.2 s (List.mem_of_mem_take h1)
 exact h.2 s (List.mem_of_mem_drop h1)⟩
noncomputable def LO (ls:List aE) (n k:Nat):Bool:=decide (er ls n≠0)&&(decide (er ls k=0)&&decide (er (del ls k) (n - 1)=0))
theorem e25 {ls:List aE} (h:rS ls) {n k:Nat} (hk:k < n) (hn:n < ls.length):YQ (k:Int) ls (n:Int)=some (decide (er (del ls k) (n - 1)=0)):=by
 have hl:=h.1;have h0:NS (ls.take (n+1))=some (ls.take (n+1)):=by
  unfold NS bW;rw [if_pos (by simp;omega)];rfl
 unfold YQ;rw [iA (by omega),iA (by omega),iA (by omega),show ((n:Int)+1).toNat=n+1 by omega,h0,Option.bind_some,iA (by omega),iA (by rw [List.length_take];omega),show ((k:Int)+1).toNat=k+1 by omega,Int.toNat_natCast,GJ ls (by omega) hn,e14 ((zC h k).take n),Option.bind_some,iA (by omega),iA (by omega),show ((n:Int) - 1).toNat=n - 1 by omega,rV (zC h k) (by omega) (by rw [JY (by omega)];omega)];rfl
theorem e13 {ls:List aE} (h:Rt ls) {n:Nat} (hn:n < ls.length):m16 ls (n:Int)=some (((List.range n).filter (LO ls n)).map (fun (i:Nat)=>(i:Int)),0):=by
  have hl:=h.1;have hL:=h.lin;obtain ⟨r,h1,h2⟩:T (bD (FG (n:Int) (gC (ls.take (n+1))) ls) (0,([]:List Int))) fun e=>e=((List.range n).filter (LO ls n)).map (fun (i:Nat)=>(i:Int)):=by
    refine T.ix n (·.1) (fun s=>s.2=((List.range s.1).filter (LO ls n)).map (fun (i:Nat)=>(i:Int))) (fun s hs hi=>?_) rfl (Nat.zero_le _);have hsl:s.2.length≤60:=by
      rw [hs,List.length_map];exact Nat.le_trans (List.length_filter_le _ _) (by rw [List.length_range];omega)
    unfold FG
    refine T.ie (fun hlt => ?_) fun hlt => .mk (by have:s.1=n := by omega
                                                   rw [hs,this])
    refine T.bd (Q:=fun t=>t=LO ls n s.1) (.ck (by omega) (T.bd (.ok (rV hL (by omega) hn)) fun x hx=>?_)) fun t ht=>T.bd (Q:=fun t=>t=((List.range (s.1+1)).filter (LO ls n)).map (fun (i:Nat)=>(i:Int))) (T.ie (fun h=>.ck (by omega) (.mk ?_)) fun h=>.mk ?_) fun t ht=>.ck (by omega) (.mk ⟨ht,rfl,by omega⟩)
    · refine T.ie (fun h0=>T.bd (.ok (rV hL (by omega) (by omega))) fun y hy=>T.ie (fun hy0=>T.bd (.ok (e25 hL (by omega) hn)) fun z hz=>.mk ?_) fun hy0=>.mk ?_) fun h0=>.mk ?_
      · subst hx hy hz;simp at h0;simp [LO,h0,hy0]
      · subst hx hy;simp [LO,hy0]
      subst hx;simp at h0;simp [LO,h0]
    · rw [List.range_succ,List.filter_append,List.map_append,← hs];rw [ht] at h;simp [h]
    rw [List.range_succ,List.filter_append,List.map_append,← hs];rw [ht] at h;simp at h;simp [h]
  have h3:tN (n:Int) 0 ((ls.length:Int) - 1)=some true:=by
    rw [e20];congr 1;rw [decide_eq_true_eq];omega
  unfold m16;rw [e19 h,Option.bind_some,if_neg (by decide),h3,Option.bind_some,if_pos rfl,iA (by omega),iA (by omega),iA (by omega),show ((n:Int)+1).toNat=n+1 by omega,e14 (hL.take _),Option.bind_some,h1,h2];rfl
end T12
set_option maxHeartbeats 4000000
namespace T12
open Go Go.Proofs Pk
theorem VK (x:UInt8):((x.toNat:Int)≠32)↔x≠32:=by
 constructor
 ·intro h e;subst e;exact h rfl
 intro h e;exact h (UInt8.toNat_inj.1 (by have:(32:UInt8).toNat=32:=rfl;omega))
theorem r22 (line:aE) (k:Nat) (hk:k≤line.length) (hl:line.length≤9223372036854775807):T (PU line (k:Int)) fun r=>∃ n:Nat,r=(n:Int)∧k≤n∧n≤line.length∧(∀ j,k≤j→j < n→line[j]?≠some 32)∧(n < line.length→line[n]?=some 32):=by
 unfold PU;refine T.bd (T.lp (fun s=>∃ n:Nat,s=(n:Int)∧k≤n∧n≤line.length∧∀ j,k≤j→j < n→line[j]?≠some 32) (fun s=>line.length - s.toNat) (Q:=fun r=>∃ n:Nat,r=(n:Int)∧k≤n∧n≤line.length∧(∀ j,k≤j→j < n→line[j]?≠some 32)∧(n < line.length→line[n]?=some 32)) (fun s hs=>?_) ⟨k,rfl,Nat.le_refl _,hk,fun j h1 h2=>by omega⟩) fun r hr=>.mk hr;obtain ⟨n,rfl,h1,h2,h3⟩:=hs;unfold CM;refine T.bd (Q:=fun t=>(t=true→n < line.length∧line[n]?≠some 32)∧(t=false→n < line.length→line[n]?=some 32)) (T.ie (fun h=>.ck (by omega) (T.bd (T.at (by omega)) fun x hx=>.mk ⟨fun ht=>⟨by omega,?_⟩,fun ht _=>?_⟩)) fun h=>.mk ⟨by simp,fun _ h'=>by omega⟩) fun t ht=>T.ie (fun htt=>.ck (by have:=(ht.1 htt).1;omega) (.mk ⟨⟨n+1,by omega,by omega,by have:=ht.1 htt;omega,fun j h4 h5=>?_⟩,by have:=ht.1 htt;omega⟩)) fun htf=>.mk ⟨n,rfl,h1,h2,h3,ht.2 (by simpa using htf)⟩
 ·rw [Int.toNat_natCast] at hx;rw [hx];intro e;injection e with e;exact (VK x).1 (by simpa using ht) e
 ·rw [Int.toNat_natCast] at hx;rw [hx];have:¬((x.toNat:Int)≠32):=by simpa using ht
  rw [VK] at this;simpa using this
 by_cases hj:j=n
 ·subst hj;exact (ht.1 htt).2
 exact h3 j h4 (by omega)
theorem r23 (w:aE):T (PV w) fun r=>r.1≤4:=by
 unfold PV
 repeat' first
  | exact .mk (by decide)
  | exact .mk trivial
  | refine T.ie (fun _=>?_) fun _=>?_
  | refine T.bd (Q:=fun _=>True) ?_ fun _ _=>?_
abbrev uW:aE:=[111,114,100,101,114]
theorem aFv:PV uW=some (1,false):=by decide
theorem LP {i:Nat} (h:i≤9):10 ^ i≤1000000000:=Nat.le_trans (Nat.pow_le_pow_right (by decide) h) (by decide)
theorem VL (t:aE) (h9:t.length≤9):T (bD (tM t) (0,0)) fun e=>(t.all vC=true∧e=.inl (lW t 0:Int))∨(t.all vC=false∧e=.inr (0,false)):=by
 refine T.ix t.length (·.1) (fun s=>(t.take s.1).all vC=true∧s.2=(lW (t.take s.1) 0:Int)) (fun s hs hi=>?_) ⟨rfl,rfl⟩ (Nat.zero_le _);have hv:=rC (t.take s.1) 0 hs.1;have hp:=LP (i:=(t.take s.1).length) (by rw [List.length_take];omega);unfold tM;refine T.ie (fun hl=>T.bd (Q:=fun c=>∀ x,t[s.1]?=some x→c=!vC x) (T.bd (T.at (by omega)) fun x hx=>T.ie (fun h=>.mk fun y hy=>?_) fun h=>.mk fun y hy=>?_) fun c hc=>T.ie (fun hct=>.mk (.inr ⟨?_,rfl⟩)) fun hcf=>.ck (by omega) (T.bd (T.at (by omega)) fun x hx=>?_)) fun hl=>.mk (.inl ?_)
 ·rw [hx] at hy;injection hy with hy;subst hy;simp only [vC,Bool.true_eq,Bool.not_eq_true',decide_eq_false_iff_not];omega
 ·rw [hx] at hy;injection hy with hy;subst hy;unfold vC;by_cases h0:(57:Int) < (x.toNat:Int)
  ·rw [decide_eq_true h0,decide_eq_false (by omega)];rfl
  rw [decide_eq_false h0,decide_eq_true (by omega)];rfl
 ·have hi':s.1 < t.length:=by omega
  have:=hc _ (List.getElem?_eq_getElem hi');rw [hct] at this;rw [List.all_eq_false];exact ⟨t[s.1],List.getElem_mem hi',by simpa using this.symm⟩
 ·have hd:=hc x hx;have hd':vC x=true:=by
   cases h:vC x with
   | true=>rfl
   | false=>rw [h] at hd;exact absurd hd hcf
  have hb:=hd';simp only [vC,decide_eq_true_eq] at hb;have h2:(t.take (s.1+1))=t.take s.1++[x]:=by rw [List.take_add_one,hx];rfl
  refine .ck (by omega) (.ck (by omega) (.mk ⟨⟨?_,?_⟩,rfl,by omega⟩))
  ·dsimp only;rw [h2,List.all_append,hs.1];simp [hd']
  dsimp only;rw [h2,nG,hs.2];simp only [lW,List.foldl_cons,List.foldl_nil];omega
 have:t.take s.1=t:=List.take_of_length_le (by omega);rw [this] at hs;exact ⟨hs.1,by rw [hs.2]⟩
theorem r24 (s:aE):T (AU s) fun _=>True:=by
 unfold AU;refine T.bd (Q:=fun t=>t=true→1≤s.length) (T.ie (fun h=>T.bd (T.at (by omega)) fun x _=>.mk fun _=>by omega) fun _=>.mk (by simp)) fun t ht=>T.bd (Q:=fun _=>True) (T.ie (fun h=>.ck (ht h) (.mk trivial)) fun _=>.mk trivial) fun u _=>T.bd (Q:=fun c=>c=false→u.length≤9) (T.ie (fun _=>.mk (by simp)) fun h0=>T.ie (fun _=>.mk (by simp)) fun h9=>T.bd (T.at (by omega)) fun x _=>T.ie (fun _=>T.ie (fun _=>.mk (by simp)) fun _=>.mk fun _=>by omega) fun _=>.mk fun _=>by omega) fun c hc=>T.ie (fun _=>.mk trivial) fun hf=>?_;have h9:=hc (by simpa using hf);refine T.bd (VL u h9) fun e he=>?_;rcases he with ⟨h1,rfl⟩ | ⟨h1,rfl⟩
 ·have hv:=rC u 0 h1;have hp:=LP h9;exact T.bd (Q:=fun _=>True) (T.ie (fun _=>.ck (by omega) (.mk trivial)) fun _=>.mk trivial) fun _ _=>.mk trivial
 exact .mk trivial
theorem aFw {n:Int} (h : -999999999≤n∧n≤999999999):AU (Lib.itoa n)=some (n,true):=by
 have key:∀ u:Nat,u≤999999999→bD (tM (Lib.decDigits u)) (0,0)=some (.inl (u:Int)):=fun u hu=>by
  obtain ⟨e,h1,h2⟩:=VL (Lib.decDigits u) (nX (by omega) (by decide));rcases h2 with ⟨_,rfl⟩ | ⟨h2,_⟩
  ·rw [h1,IG]
  rw [yL] at h2;cases h2
 have hlen:∀ u:Nat,u≤999999999→0 < (Lib.decDigits u).length∧(Lib.decDigits u).length≤9:=fun u hu=>⟨List.length_pos_iff.2 (vO u),nX (by omega) (by decide)⟩;have hd0:∀ u:Nat,∃ c r,Lib.decDigits u=c::r∧vC c=true:=fun u=>by
  have h1:=yL u
  cases h2:Lib.decDigits u with
  | nil=>exact absurd h2 (vO u)
  | cons c r=>rw [h2] at h1;simp at h1;exact ⟨c,r,rfl,h1.1⟩
 unfold Lib.itoa;by_cases hn:n < 0
 ·rw [if_pos hn];have hl:=hlen n.natAbs (by omega);obtain ⟨c,r,hcr,hc⟩:=hd0 n.natAbs;have hh:=tI (u:=n.natAbs) (by omega);unfold AU;simp only [List.length_cons,List.getElem?_cons_zero,Option.bind_some,List.drop_succ_cons,List.drop_zero];rw [if_pos (by omega),Option.bind_some,if_pos (by decide),iA (by omega),Option.bind_some,if_neg (by omega),if_neg (by omega),hcr];rw [hcr] at hh;simp only [List.getElem?_cons_zero,Option.bind_some]
  rw [if_neg (by
   intro e;apply hh;simp only [List.head?_cons,Option.some.injEq];exact UInt8.toNat_inj.1 (by have:(48:UInt8).toNat=48:=rfl;omega))]
  rw [← hcr,Option.bind_some,if_neg (by decide),key _ (by omega),Option.bind_some];dsimp only;rw [if_pos (by decide),iA (by omega),Option.bind_some];congr 2;omega
 rw [if_neg hn];have hl:=hlen n.toNat (by omega);obtain ⟨c,r,hcr,hc⟩:=hd0 n.toNat;have hc':=hc;simp only [vC,decide_eq_true_eq] at hc';have hz:(c.toNat:Int)=48→¬(1:Int) < ((c::r).length:Int):=fun e=>by
  have e':c=48:=UInt8.toNat_inj.1 (by have:(48:UInt8).toNat=48:=rfl;omega);have:n.toNat=0:=by
   rcases Nat.eq_zero_or_pos n.toNat with h | h
   ·exact h
   have:=tI h;rw [hcr,e'] at this;exact absurd rfl this
  rw [← hcr,this,Lib.decDigits_one (by decide)];simp
 unfold AU;rw [if_pos (by omega)];have h0:(Lib.decDigits n.toNat)[0]?=some c:=by rw [hcr];rfl
 rw [h0,Option.bind_some,Option.bind_some,decide_eq_false (by omega),if_neg (by decide),Option.bind_some,if_neg (by omega),if_neg (by omega),h0,Option.bind_some];have:(if (c.toNat:Int)=48 then (if 1 < ((Lib.decDigits n.toNat).length:Int) then some true else some false) else some false)=some false:=by
  split
  ·rename_i h1
   rw [if_neg (by rw [hcr];exact hz h1)]
  rfl
 rw [this,Option.bind_some,if_neg (by decide),key _ (by omega),Option.bind_some];dsimp only;rw [if_neg (by decide),Option.bind_some,Int.toNat_of_nonneg (by omega)]
end T12
set_option maxHeartbeats 4000000
namespace T12
open Go Go.Proofs Pk
def Ord (line:aE) (n:Int):Prop:=∃ d,line=uW++32::d∧(32:UInt8)∉d∧AU d=some (n,true)
theorem r11 (line:aE) (hl:line.length≤9223372036854775807):T (PW line) fun r=>r.2.2.2=true→r.1=uW→∃ n,r.2.1=[n]∧Ord line n:=by
 unfold PW;refine T.bd (r22 line 0 (Nat.zero_le _) hl) fun r1 h1=>?_;obtain ⟨n0,rfl,_,h2,h3,h4⟩:=h1;refine .ck (by omega) (.ck (by omega) (T.bd (Q:=fun r=>r.1≤4∧(line.take n0=uW→r=(1,false))) ?_ fun r8 h8=>?_))
 ·obtain ⟨q,h5,h6⟩:=r23 (line.take n0);refine ⟨q,h5,h6,fun hw=>?_⟩;rw [hw,aFv] at h5;injection h5 with h5;exact h5.symm
 refine T.ie (fun _=>.mk (by simp)) fun hr0=>T.bd (Q:=fun e=>match e with | .inl t=>(∃ a:Nat,t.1=(a:Int)∧a≤line.length)∧(r8.1=1→∃ (a:Nat) (v:Int),t=((a:Int),[v])∧n0 < a∧n0 < line.length∧a≤line.length∧(∀ j,n0+1≤j→j < a→line[j]?≠some 32)∧AU ((line.drop (n0+1)).take (a - (n0+1)))=some (v,true)) | .inr z=>z.2.2.2=false) (T.ix r8.1.toNat (·.1) (fun s=>(∃ a:Nat,s.2.1=(a:Int)∧a≤line.length)∧s.2.2.length=s.1∧(s.1=0→s.2.1=(n0:Int)∧s.2.2=[])∧(s.1=1→∃ (a:Nat) (v:Int),s.2=((a:Int),[v])∧n0 < a∧n0 < line.length∧a≤line.length∧(∀ j,n0+1≤j→j < a→line[j]?≠some 32)∧AU ((line.drop (n0+1)).take (a - (n0+1)))=some (v,true))) (fun s hs hi=>?_) ⟨⟨n0,rfl,h2⟩,rfl,fun _=>⟨rfl,rfl⟩,fun h=>by cases h⟩ (Nat.zero_le _)) fun e he=>?_
 ·obtain ⟨⟨a,ha,hal⟩,hll,hz,ho⟩:=hs;unfold CN;refine T.ie (fun hlt=>T.ie (fun _=>.mk rfl) fun hne=>.ck (by omega) ?_) fun hge=>.mk ⟨⟨a,ha,hal⟩,fun h1=>?_⟩
  ·rw [ha,show ((a:Int)+1)=((a+1:Nat):Int) by omega];rw [ha] at hne;refine T.bd (r22 line (a+1) (by omega) hl) fun r2 h5=>?_;obtain ⟨b,rfl,h6,h7,h8',_⟩:=h5;refine .ck (by omega) (.ck (by omega) (.ck (by omega) ?_));obtain ⟨q,h9,_⟩:=r24 ((line.drop ((a+1:Nat):Int).toNat).take ((b:Int).toNat - ((a+1:Nat):Int).toNat));refine T.bd (.ok h9) fun q' hq=>?_;subst hq;refine T.ie (fun hq=>.ck (by omega) (.ck (by omega) (.mk ⟨⟨⟨b,rfl,h7⟩,by simp [hll],fun h=>absurd h (Nat.succ_ne_zero _),fun h=>?_⟩,rfl,by clear ho;omega⟩))) fun _=>.mk rfl;have h0:s.1=0:=by dsimp only at h;omega
   obtain ⟨hC,hB⟩:=hz h0;obtain rfl:a=n0:=by rw [ha] at hC;omega
   refine ⟨b,q'.1,by rw [hB];rfl,by omega,by omega,h7,h8',?_⟩;rw [Int.toNat_natCast,Int.toNat_natCast] at h9;rw [h9,← hq]
  have h0:s.1=1:=by omega
  obtain ⟨a',v,h5,h6⟩:=ho h0;exact ⟨a',v,h5,h6⟩
 cases e with
 | inr z=>simp only at he;exact .mk fun h=>by rw [he] at h;cases h
 | inl t =>
  obtain ⟨⟨a,ha,hal⟩,hone⟩:=he;refine T.ie (fun hq=>T.ie (fun hq2=>?_) fun hq2=>.mk fun _ hw=>?_) fun _=>.mk (by simp)
  ·have h9:decide (t.1 < (line.length:Int))=true:=by rw [hq2] at hq;simpa using hq
   simp only [decide_eq_true_eq] at h9;refine .ck (by omega) (.ck (by omega) (.ck (by omega) (.mk fun _ hw=>?_)));rw [Int.toNat_natCast] at hw;have:=h8.2 hw;rw [this] at hq2;cases hq2
  dsimp only at hw;rw [Int.toNat_natCast] at hw;have h9:=h8.2 hw;obtain ⟨a',v,h5,h6,h7,hC,hB,hE⟩:=hone (by rw [h9]);have hl2:¬(t.1 < (line.length:Int)):=by
   intro h;rw [h9,decide_eq_true h] at hq;simp at hq
  rw [h5] at hl2;have hae:a'=line.length:=by dsimp only at hl2;omega
  refine ⟨v,by rw [h5],line.drop (n0+1),?_,?_,?_⟩
  ·have hA:=h4 (by omega);rw [List.getElem?_eq_getElem h7] at hA;injection hA with hA;have hF:=List.drop_eq_getElem_cons h7;rw [hA] at hF;rw [← hw,← hF,List.take_append_drop]
  ·intro hm;obtain ⟨j,hj⟩:=List.mem_iff_getElem?.1 hm;rw [List.getElem?_drop] at hj;exact hB (n0+1+j) (by omega) (by have:=(List.getElem?_eq_some_iff.1 hj).1;omega) hj
  rw [hae,List.take_of_length_le (by rw [List.length_drop];omega)] at hE;exact hE
theorem r6 (ls:List aE) (h:∀ s∈ls,s.length≤9223372036854775807):T (m6 ls) fun _=>True:=by
 unfold m6;refine T.bd (Q:=fun _=>True) (T.ix ls.length (·.1) (fun _=>True) (fun s _ hi=>?_) trivial (Nat.zero_le _)) fun e _=>T.bd (Q:=fun _=>True) ?_ fun _ _=>.mk trivial
 ·unfold NN;refine T.ie (fun hl=>T.bd (T.mem (by omega)) fun x hx=>T.bd (r11 x (h x hx)) fun r _=>T.bd (Q:=fun _=>True) (T.ie (fun _=>.mk trivial) fun _=>.mk trivial) fun _ _=>T.bd (Q:=fun _=>True) (T.ie (fun _=>.mk trivial) fun _=>.mk trivial) fun _ _=>.mk ⟨trivial,rfl,by omega⟩) fun _=>.mk trivial
 repeat' first
  | exact .mk trivial
  | refine T.ie (fun _=>?_) fun _=>?_
theorem r7 (ls:List aE):T (m7 ls) fun r=>r=true→Rt ls:=by
 unfold m7;refine T.bd (Q:=fun e=>match e with | .inl _=>∀ s∈ls,s.length≤400 | .inr z=>z=false) (T.ix ls.length id (fun i=>∀ s∈ls.take i,s.length≤400) (fun i hI hi=>?_) (by simp) (Nat.zero_le _)) fun e he=>?_
 ·unfold NO;refine T.ie (fun hl=>T.bd (T.at (by omega)) fun x hx=>T.ie (fun _=>.mk rfl) fun h4=>.mk ⟨fun s hs=>?_,rfl,by simpa using hl⟩) fun hl=>.mk (by simp only [id] at hi;rw [List.take_of_length_le (by omega)] at hI;exact hI);rw [List.take_add_one,hx] at hs;rcases List.mem_append.1 hs with h | h
  ·exact hI s h
  simp at h;subst h;omega
 cases e with
 | inr z=>simp only at he;subst he;exact .mk (by simp)
 | inl _=>exact .mk fun h=>⟨by have:=of_decide_eq_true h;omega,he⟩
theorem r10 {ls:List aE} (h:ls.length≤1000):QE ls=some ls:=by
 unfold QE;rw [iA (by simp;omega)];rfl
end T12
set_option maxHeartbeats 4000000
namespace T12
open Go Go.Proofs Pk
theorem AQ (l r sub:aE):Lib.occAt (l++r) sub l.length=sub.isPrefixOf r:=by unfold Lib.occAt;rw [List.drop_left]
theorem PP {l r:aE} {c:UInt8} (h:c∉l):Lib.cut (l++c::r) [c]=(l,r,true):=by
 have hi:Lib.index (l++c::r) [c]=l.length:=by
  refine Lib.index_first (by simp) (by rw [AQ];simp) (fun j hj=>?_)
  cases hb:Lib.occAt (l++c::r) [c] j with
  | false=>rfl
  | true =>
   have:=Lib.occAt_head rfl hb;rw [List.getElem?_append_left hj] at this;exact absurd (List.mem_of_getElem? this) h
 unfold Lib.cut;rw [hi,if_pos (by omega)];simp only [Int.toNat_natCast,List.take_left];congr 1;congr 1;rw [show l++c::r=(l++[c])++r by simp,List.drop_left' (by simp)]
theorem PQ {s:aE} {c:UInt8} (h:c∉s):Lib.cut s [c]=(s,[],false):=by
 have:Lib.index s [c] = -1:=by
  refine Lib.index_none (fun j hj=>?_)
  cases hb:Lib.occAt s [c] j with
  | false=>rfl
  | true=>exact absurd (List.mem_of_getElem? (Lib.occAt_head rfl hb)) h
 unfold Lib.cut;rw [this];rfl
def VM (s:cQ) (day n:Int) (text:aE):Prop:=∃ p,s.volume.parts[s.volume.parts.length - 1]?=some p∧p.day=day∧p.paragraphs[p.paragraphs.length - 1]?=some ⟨n,text⟩
theorem qM {α:Type} (l:List α) (x:α):(l++[x])[(l++[x]).length - 1]?=some x:=by simp
theorem aFy {k:Nat} {b:aH} (h:Si k b.state) (hk:k≤100) (n:Int) (text:aE):T (tU b [n] text) fun r=>match r with | .inl b'=>b'.state.day=b.state.day∧VM b'.state b.state.day n text | .inr _=>True:=by
 unfold tU;refine T.bd (jA _ _) fun r _=>?_
 cases r with
 | inr _=>exact .mk trivial
 | inl _ =>
  have hpl:=h.pl;have h2:T (vV b.state.volume.parts) fun r=>r=b.state.volume.parts:=by
   unfold vV;exact .ck (by simp;omega) (.mk (by simp))
  refine T.bd (Q:=fun x=>x=n) ⟨n,rfl,rfl⟩ fun x hx=>T.bd h2 fun ps hps=>?_;subst hx;have hps1:ps.length≤k:=by rw [hps];exact hpl
  have hps2:∀ p∈ps,p.paragraphs.length≤k:=by rw [hps];exact fun p hp=>(h.pp p hp).1
  refine T.bd (Q:=fun t=>t=true→1≤ps.length∧∀ y,ps[((ps.length:Int) - 1).toNat]?=some y→y.day=b.state.day) (T.ie (fun h0=>T.bd (T.at (by omega)) fun y hy=>.mk fun hd=>⟨by omega,fun z hz=>by rw [hy] at hz;injection hz with hz;subst hz;simpa using hd⟩) fun _=>.mk (by simp)) fun t ht=>T.bd (Q:=fun (qs:List dR)=>qs.length≤k+1∧(∀ p∈qs,p.paragraphs.length≤k+1)∧∃ p,qs[qs.length - 1]?=some p∧p.day=b.state.day∧p.paragraphs[p.paragraphs.length - 1]?=some ⟨x,text⟩) (T.ie (fun htt=>?_) fun _=>.ck (by simp;omega) (.mk ⟨by simp;omega,fun p hp=>?_,_,qM _ _,rfl,rfl⟩)) fun qs hqs=>?_
  ·have h1:=ht htt;refine .ck (by omega) (T.bd (T.at (by omega)) fun y hy=>?_);have hy2:=hps2 y (List.mem_of_getElem? hy);have h3:T (vW y.paragraphs ⟨x,text⟩) fun r=>r.length≤k+1∧r[r.length - 1]?=some ⟨x,text⟩:=by
    unfold vW CP;exact T.bd (Q:=fun r=>r.length≤k) (.ck (by simp;omega) (.mk (by simpa using hy2))) fun r hr=>.ck (by simp;omega) (.mk ⟨by simp;omega,qM _ _⟩)
   refine T.bd h3 fun r hr=>.mk ⟨by rw [List.length_set];omega,uR (fun p hp=>Nat.le_succ_of_le (hps2 p hp)) hr.1,(⟨y.day,r⟩:dR),?_,h1.2 y hy,hr.2⟩;rw [List.length_set,show ps.length - 1=((ps.length:Int) - 1).toNat by omega,List.getElem?_set_self (by omega)]
  ·rcases List.mem_append.1 hp with h1 | h1
   ·exact Nat.le_succ_of_le (hps2 p h1)
   simp only [List.mem_singleton] at h1;subst h1;simp
  refine T.bd (Q:=fun v=>Ps v) (.mk ⟨by have:=hqs.1;dsimp only;omega,fun p hp=>by have:=hqs.2.1 p hp;omega⟩) fun v hv=>T.bd (t53 _ hv) fun e _=>T.bd (AP _) fun r hr=>?_
  cases r with
  | inr _=>exact .mk trivial
  | inl _=>exact .mk ⟨rfl,hqs.2.2⟩
def VN (b b':cQ) (n:Int):Prop:=∃ ws os,LD b.motion b.choice=some (ws,os,0)∧LW b.choice ws os∧ws.length≤3542940∧b'.moved=false∧b'.motion=⟨[],[]⟩∧b'.choice=[]∧b'.day=b.day∧VM b' b.day n (Lib.join ws [32])
theorem aFz {k:Nat} {b:aH} (h:Si k b.state) (hk:k≤100) (n:Int):T (uK b [n] []) fun r=>match r with | .inl b'=>VN b.state b'.state n | .inr e=>e≠0:=by
 unfold uK;refine T.bd (Q:=fun t=>match t with | .inl _=>True | .inr z=>∃ e:Int,z=.inr e∧e≠0) (T.ie (fun _=>T.bd (jA _ _) fun r _=>?_) fun _=>T.bd (jA _ _) fun r _=>?_) fun t ht=>?_
 ·cases r with
  | inl _=>exact .mk trivial
  | inr _=>exact .mk ⟨8,rfl,by decide⟩
 ·cases r with
  | inl _=>exact .mk trivial
  | inr _=>exact .mk ⟨8,rfl,by decide⟩
 cases t with
 | inr z=>obtain ⟨e,rfl,he⟩:=ht;exact .mk he
 | inl _ =>
  obtain ⟨q,hq0,hq⟩:=t71 b.state.motion b.state.choice;refine T.bd (.ok hq0) fun q' hq'=>?_;subst hq';refine T.bd (AP _) fun r hr=>?_
  cases r with
  | inr _=>exact .mk hr
  | inl _ =>
   have h0:T (vP q'.1 [32]) fun s=>s=Lib.join q'.1 [32]:=by
    have h1:=rR hq.1.2.1;have h2:=hq.2.1;unfold vP;exact .ck ⟨by omega,by omega⟩ (.mk rfl)
   refine T.bd h0 fun s hs=>?_;obtain ⟨g,hg,hgL⟩:=t31 (b:=b) (l:=[n]) (text:=s) h hk (Nat.le_refl _);obtain ⟨g',hg',hgO⟩:=aFy h hk n s;rw [hg] at hg';injection hg' with hg';subst hg';refine T.bd (.ok hg) fun r hr=>?_;subst hr
   cases r with
   | inr e=>exact .mk hgL
   | inl y =>
    refine .mk ⟨q'.1,q'.2.1,?_,hq.1,hq.2.1,rfl,rfl,rfl,hgO.1,by subst hs;exact hgO.2⟩;rw [hq0];congr 1;rw [Prod.ext_iff,Prod.ext_iff];exact ⟨rfl,rfl,hr⟩
theorem aF0:∀ t,NV=some t→eD t uW=some ⟨1,false,some 126⟩:=by
 intro t ht;unfold NV at ht;injection ht with ht;subst ht;rfl
theorem o49 {k:Nat} {b:aH} (h:Si k b.state) (hk:k≤100) {text:aE} {n:Int} (ho:Ord text n) (hl:text.length≤1000000):T (JG b text) fun r=>r.2=0→VN b.state r.1.state n:=by
 obtain ⟨d,rfl,hd,hw⟩:=ho;have hld:d.length≤1000000:=by simp at hl;omega
 have hc1:GP (uW++32::d) [32]=some (uW,d,true):=by
  unfold GP;rw [iA (by omega),PP (by decide)]
 have hc2:GP d [32]=some (d,[],false):=by
  unfold GP;rw [iA (by omega),PQ hd]
 obtain ⟨t,ht,_⟩:=t26;have hk1:=aF0 t ht;unfold JG;rw [hc1,Option.bind_some,ht,Option.bind_some];dsimp only;rw [hk1];refine T.bd (jA _ _) fun r hr=>?_
 cases r with
 | inr _=>cases hr
 | inl _ =>
  have hs0:T (bD (oY t (uW,d,true) b) (0,d,true,[])) fun e=>e=.inr (b,4)∨∃ n',AU (Lib.itoa n')=some (n',true)∧Lib.itoa n'=d∧(-999999999≤n'∧n'≤999999999)∧e=.inl ([],false,[n']):=by
   obtain ⟨q,hq,hqP⟩:=t28 d (by omega)
   cases q with
   | inr u =>
    refine ⟨.inr (b,4),dS ?_,.inl rfl⟩;unfold oY;dsimp only;rw [hk1];show (if ((0:Nat):Int) < 1 then _ else _)=_;rw [if_pos (by decide),show iZ true 4=some (.inl ()) from rfl,Option.bind_some];dsimp only;rw [hc2,Option.bind_some,hq,Option.bind_some]
   | inl n' =>
    refine ⟨.inl ([],false,[n']),?_,.inr ⟨n',aFw hqP.1,hqP.2,hqP.1,rfl⟩⟩;rw [fC (s':=(1,[],false,[n'])),dS]
    ·unfold oY;dsimp only;rw [hk1];show (if ((1:Nat):Int) < 1 then _ else _)=_;rw [if_neg (by decide)]
    unfold oY;dsimp only;rw [hk1];show (if ((0:Nat):Int) < 1 then _ else _)=_;rw [if_pos (by decide),show iZ true 4=some (.inl ()) from rfl,Option.bind_some];dsimp only;rw [hc2,Option.bind_some,hq,Option.bind_some];dsimp only;rw [iA (by decide),iA (by decide)];rfl
  refine T.bd hs0 fun e he=>?_;rcases he with rfl | ⟨n',h1,h2,h3,rfl⟩
  ·exact .mk fun h=>by cases h
  rw [h2,hw] at h1;injection h1 with h1;injection h1 with h1 _;subst h1;dsimp only;refine T.bd (jA _ _) fun u hu=>?_
  cases u with
  | inr _=>cases hu
  | inl _ =>
   have hm:LE (((some ({ many:=1,text:=false,do_:=some 126 }:cL)).getD ⟨0,false,none⟩).do_) b [n] []=uK b [n] []:=by
    unfold LE;rfl
   rw [hm];refine T.bd (aFz h hk n) fun g hg=>?_
   cases g with
   | inl y=>exact .mk fun _=>hg
   | inr e=>exact .mk fun h0=>absurd h0 hg
end T12
set_option maxHeartbeats 4000000
namespace T12
open Go Go.Proofs Pk
theorem Rt.take {ls:List aE} (h:Rt ls) (n:Nat):Rt (ls.take n):=⟨by rw [List.length_take];have:=h.1;omega,fun s hs=>h.2 s (List.mem_of_mem_take hs)⟩
theorem AR (ws:List aE) (i:Nat) (x:aE) (h:ws[i]?=some x):Lib.join (ws.take (i+1)) [32]=(if 0 < (i:Int) then Lib.join (ws.take i) [32]++[32] else Lib.join (ws.take i) [32])++x:=by
 cases ws with
 | nil=>simp at h
 | cons w r =>
  cases i with
  | zero=>simp at h;subst h;rw [if_neg (by decide)];simp [Lib.join_cons,Lib.joinTail];rfl
  | succ i =>
   rw [if_pos (by omega),List.take_succ_cons,List.take_succ_cons,Lib.join_cons,Lib.join_cons,Lib.joinTail_take_succ [32] r i x (by simpa using h)];simp
theorem T.run {ls:List aE} (h:Rt ls):T (m9 ls) fun r=>r=((gC ls).1.state,(gC ls).2,0):=.ok (e18 h)
theorem o3a (os:List Int) (n:Int) (h:n=0∨n∈os) (step:Nat×Bool→Option ((Nat×Bool)⊕Bool)) (hs:∀ s,step s=if (s.1:Int) < (os.length:Int) then ((if s.2 then some true else (os[s.1]?).bind fun x=>some (decide (x=n))):Option Bool).bind fun t=>some (.inl (s.1+1,t)) else some (.inr s.2)):T (bD step (0,decide (n=0))) fun e=>e=true:=by
 refine T.ix os.length (·.1) (fun s=>(n=0∨n∈os.take s.1)→s.2=true) (fun s hI hi=>?_) (fun h=>by rcases h with h | h;exact decide_eq_true h;cases h) (Nat.zero_le _);rw [hs];refine T.ie (fun hl=>T.bd (Q:=fun t=>(n=0∨n∈os.take (s.1+1))→t=true) (T.ie (fun ht=>.mk fun _=>rfl) fun hf=>T.bd (T.at (by omega)) fun x hx=>.mk fun h1=>?_) fun t ht=>.mk ⟨ht,rfl,by omega⟩) fun hl=>.mk (hI (by rwa [List.take_of_length_le (by omega)]));rw [List.take_add_one,hx] at h1;by_cases h2:n=0∨n∈os.take s.1
 ·exact absurd (hI h2) hf
 rcases h1 with h1 | h1
 ·exact absurd (.inl h1) h2
 rcases List.mem_append.1 h1 with h3 | h3
 ·exact absurd (.inr h3) h2
 simp at h3;exact decide_eq_true h3.symm
theorem aF1 (XB:m8=some true) (ls:List aE) (at_:Int) (ha:0≤at_∧at_≤255) (hls:∀ s∈ls,s.length≤9223372036854775807):m3 ls at_=some true:=by
 suffices h:T (m3 ls at_) (fun r=>r=true) by obtain ⟨_,h,rfl⟩:=h;exact h
 have hw:T m8 (fun r=>r=true):=⟨true,XB,rfl⟩;unfold m3;refine T.bd (Q:=fun t=>t=false→Rt ls∧0 < ls.length) (T.bd (r6 ls hls) fun r _=>T.ie (fun _=>T.bd (r7 ls) fun r h=>T.ie (fun h1=>.mk fun h2=>⟨h h1,by simp at h2;exact List.length_pos_iff.2 (by simpa using h2)⟩) fun _=>.mk (by simp)) fun _=>.mk (by simp)) fun t ht=>T.ie (fun _=>T.bd hw fun r hr=>.mk hr) fun hf=>?_;obtain ⟨hR,hpos⟩:=ht (by simpa using hf);have hL:=hR.lin;have h7:=hR.1;obtain ⟨k,hk,hkl⟩:∃ k:Nat,at_%(ls.length:Int)=(k:Int)∧k < ls.length:=⟨(at_%(ls.length:Int)).toNat,by have:=Int.emod_nonneg at_ (b:=(ls.length:Int)) (by omega);omega,by have:=Int.emod_lt_of_pos at_ (b:=(ls.length:Int)) (by omega);omega⟩;rw [hk,show ((k:Int)+1)=((k+1:Nat):Int) by omega,Int.toNat_natCast,Int.toNat_natCast];refine .ck (by omega) (.ck (by omega) (.ck (by omega) (T.bd (.ok (r10 (by rw [List.length_take];omega))) fun a1 h1=>?_)));subst h1;refine T.bd (T.run (hR.take k)) fun a2 h2=>.ck (by omega) (T.bd (.ok (r10 (by rw [List.length_take];omega))) fun a3 h3=>?_);subst h2 h3;refine T.bd (T.run (hR.take (k+1))) fun a4 h4=>?_;subst h4;dsimp only;have hlen:(gC (ls.take (k+1))).2.length=k+1:=by rw [mF (hL.take _),List.length_take];omega
 refine T.bd (Q:=fun t=>t=false) (T.ie (fun h=>absurd rfl h) fun _=>T.ie (fun h=>absurd rfl h) fun _=>.mk (by rw [hlen];simp)) fun t ht=>T.ie (fun h=>by rw [ht] at h;cases h) fun _=>T.bd (T.at hkl) fun x hx=>?_;have hx4:x.length≤400:=hR.2 x (List.mem_of_getElem? hx);refine T.bd (r11 x (by omega)) fun r hr=>T.bd (Q:=fun t=>t=false→∃ n,r.2.1=[n]∧Ord x n∧(gC (ls.take (k+1))).2[k]?=some 0) (T.ie (fun h=>T.ie (fun _=>.mk (by simp)) fun hwd=>T.bd (T.at (by omega)) fun y hy=>.mk fun h0=>?_) fun _=>.mk (by simp)) fun t ht=>T.ie (fun _=>T.bd hw fun r hr=>.mk hr) fun hf=>?_
 ·obtain ⟨n,hn,ho⟩:=hr h (by simpa using hwd);exact ⟨n,hn,ho,by rw [hy];simpa using h0⟩
 obtain ⟨n,hn,ho,h0⟩:=ht (by simpa using hf);have htk:ls.take (k+1)=ls.take k++[x]:=by rw [List.take_add_one,hx];rfl
 have hsi:=(rT _ (hL.take k)).1;have hk1:(ls.take k).length=k:=by rw [List.length_take];omega
 rw [hk1] at hsi;obtain ⟨q,hq1,_,hq3⟩:=rU (ls:=ls.take k) (x:=x) (by rw [← htk];exact hL.take _);have hq0:q.2=0:=by
  rw [htk,hq3] at h0;have hl2:(gC (ls.take k)).2.length=k:=by rw [mF (hL.take _),hk1]
  dsimp only at h0;rw [List.getElem?_append_right (by omega),hl2] at h0;simpa using h0
 obtain ⟨q',hq1',hO⟩:=o49 hsi (by omega) ho (by omega);rw [hq1] at hq1';injection hq1' with hq1';subst hq1';obtain ⟨ws,os,h6,hLW,hwl,hmv,hmo,hch,hdy,p,hp1,hp2,hp3⟩:=hO hq0;rw [htk,hq3];dsimp only;have hcl:=hsi.ch;rw [List.nil_append];refine .ck (by simp;omega) (T.bd (.ok h6) fun a5 h5=>?_);subst h5;dsimp only;have hpl:=(List.getElem?_eq_some_iff.1 hp1).1;have hpp:=(List.getElem?_eq_some_iff.1 hp3).1;refine T.bd (Q:=fun t=>t=false) (T.ie (fun h=>absurd rfl h) fun _=>T.ie (fun h=>absurd (by rw [hLW.1]) h) fun _=>T.ie (fun h=>by omega) fun _=>.ck (by omega) ?_) fun t ht=>T.ie (fun h=>by rw [ht] at h;cases h) fun _=>?_
 ·rw [show ((q.1.state.volume.parts.length:Int) - 1).toNat=q.1.state.volume.parts.length - 1 by omega,hp1,Option.bind_some];refine T.ie (fun h=>by omega) fun _=>?_;rw [hmv,hmo,hch];exact ⟨false,rfl,rfl⟩
 refine T.bd (Q:=fun e=>e=.inl (Lib.join ws [32])) ?_ fun e he=>?_
 ·refine T.ix ws.length (·.1) (fun s=>s.2=Lib.join (ws.take s.1) [32]) (fun s hs hi=>?_) rfl (Nat.zero_le _);have hjl:=rR (ws:=ws.take s.1) (fun y hy=>hLW.2.1 y (List.mem_of_mem_take hy));rw [← hs,List.length_take] at hjl;unfold NX;dsimp only;refine T.ie (fun hl=>?_) fun hl=>.mk (by rw [hs,List.take_of_length_le (by omega)]);refine T.bd (T.at (by have:=hLW.1;omega)) fun o hoo=>T.bd (o3a _ o.number (hLW.2.2 o (List.mem_of_getElem? hoo)) _ (fun s=>rfl)) fun e he=>T.ie (fun _=>T.bd (Q:=fun t=>t=if 0 < (s.1:Int) then s.2++[32] else s.2) (T.ie (fun h0=>.ck (by simp;omega) (.mk (by rw [if_pos h0]))) fun h0=>.mk (by rw [if_neg h0])) fun t ht=>T.bd (T.at (by omega)) fun y hy=>.ck ?_ (.mk ⟨?_,rfl,by omega⟩)) fun h=>absurd he h
  ·have hy2:=hLW.2.1 y (List.mem_of_getElem? hy);have:t.length≤s.2.length+1:=by rw [ht];split <;> simp
   omega
  dsimp only;rw [AR ws s.1 y hy,ht,hs]
 subst he;dsimp only;refine .ck (by omega) ?_;rw [show ((q.1.state.volume.parts.length:Int) - 1).toNat=q.1.state.volume.parts.length - 1 by omega,hp1,Option.bind_some];refine .ck (by omega) ?_;rw [show ((p.paragraphs.length:Int) - 1).toNat=p.paragraphs.length - 1 by omega,hp3,Option.bind_some,hn];rw [if_pos (by rw [hp2,hdy]),List.getElem?_cons_zero,Option.bind_some,if_pos rfl,if_pos rfl,XB];exact ⟨true,rfl,rfl⟩
end T12
