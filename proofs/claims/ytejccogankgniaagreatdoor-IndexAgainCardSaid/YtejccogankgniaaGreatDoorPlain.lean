/-
  The plain laws: what the models of an index come to.
-/
import Derived.Test.YtejccogankgniaaGreatDoorMade
import Derived.Test.YtejccogankgniaaGreatDoorKitSix
set_option linter.all false
namespace T11
open Go Go.Proofs Pk
def kc (c : UInt8) : List UInt8:=if 65 ≤ c.toNat ∧ c.toNat ≤ 90 then [UInt8.ofNat (c.toNat - 65 + 97)] else if 97 ≤ c.toNat ∧ c.toNat ≤ 122 ∨ 48 ≤ c.toNat ∧ c.toNat ≤ 57 then [c] else []
def keyB (s : Bytes) : Bytes:=s.flatMap kc
theorem kc_len (c : UInt8) : (kc c).length ≤ 1:=by unfold kc; split <;> (try split) <;> simp
theorem goL_app (f : UInt8 → List UInt8) : ∀ (l : List UInt8) (i : Nat) (a : List UInt8),goL (fun _ x a=>(.inl (a ++ f x) : List UInt8 ⊕ List UInt8)) (fun a=>a) l i a = a ++ l.flatMap f
 | [],_,a=>by simp [goL_nil]
 | x :: l,i,a=>by rw [goL_cons]; simp only; rw [goL_app f l]; simp
theorem u8_up {c : UInt8} : (UInt8.ofNat (((c.toNat : Int) - 65) + 97).toNat) = UInt8.ofNat (c.toNat - 65 + 97) ∨ c.toNat < 65:=by
 by_cases h : c.toNat < 65
 ·exact .inr h
 left; congr 1; omega
theorem e88 {s : Bytes} (h : s.length ≤ 1073741824) : m88 s = some (keyB s):=by
 unfold m88;rw [chk_t h]
 have h1:=loop_l s (σ:=List UInt8) (ε:=List UInt8) (fun _ x a=>.inl (a ++ kc x)) (fun a=>a) (fun i a=>a.length ≤ i) (step:=m88_1 s) (fun i x a hi hx hI=>by
  unfold m88_1;rw [if_pos (show (i : Int) < (s.length : Int) by omega),hx,Option.bind_some];have:=UInt8.toNat_lt x;by_cases hu : 65 ≤ x.toNat ∧ x.toNat ≤ 90
  ·have e : kc x = [UInt8.ofNat (x.toNat - 65 + 97)]:=by unfold kc; rw [if_pos hu]
   rw [if_pos (by omega)];simp only [Option.bind_some];rw [if_pos (by simp; omega),chk_t (by omega),chk_t (by omega),chk_t (by omega),Option.bind_some,e];rcases u8_up (c:=x) with h | h
   ·rw [h]
   omega
  ·have e0 : ((if (65 : Int) ≤ (x.toNat : Int) then some (decide ((x.toNat : Int) ≤ 90)) else some false) : Option Bool) = some false:=by
    split
    ·congr 1; simp; omega
    rfl
   rw [e0,Option.bind_some];simp only [Bool.false_eq_true,if_false];by_cases hl : 97 ≤ x.toNat ∧ x.toNat ≤ 122 ∨ 48 ≤ x.toNat ∧ x.toNat ≤ 57
   ·have e : kc x = [x]:=by unfold kc; rw [if_neg hu,if_pos hl]
    have e1 : ((if (97 : Int) ≤ (x.toNat : Int) then if (x.toNat : Int) ≤ 122 then some true else if (48 : Int) ≤ (x.toNat : Int) then some (decide ((x.toNat : Int) ≤ 57)) else some false else if (48 : Int) ≤ (x.toNat : Int) then some (decide ((x.toNat : Int) ≤ 57)) else some false) : Option Bool) = some true:=by
     repeat' split
     all_goals first | rfl | (congr 1; simp; omega) | omega
    rw [e1];simp only [Option.bind_some,if_true];rw [chk_t (by omega)]; simp only [Option.bind_some]; rw [e]
   have e : kc x = []:=by unfold kc; rw [if_neg hu,if_neg hl]
   have e1 : ((if (97 : Int) ≤ (x.toNat : Int) then if (x.toNat : Int) ≤ 122 then some true else if (48 : Int) ≤ (x.toNat : Int) then some (decide ((x.toNat : Int) ≤ 57)) else some false else if (48 : Int) ≤ (x.toNat : Int) then some (decide ((x.toNat : Int) ≤ 57)) else some false) : Option Bool) = some false:=by
    repeat' split
    all_goals first | rfl | (congr 1; simp; omega) | omega
   rw [e1];simp only [Option.bind_some,Bool.false_eq_true,if_false]
   rw [e,List.append_nil])
  (fun i x a a' hi hx hI hg=>by
   have:=kc_len x;cases hg
   simp only [List.length_append]; omega)
  (fun a hI=>by unfold m88_1; simp) (a0:=([] : List UInt8)) (Nat.le_refl 0)
 rw [h1,goL_app]; rfl
theorem cmpB_self : ∀ a : Bytes,Lib.compareBytes a a = 0
 | []=>rfl
 | x :: a=>by unfold Lib.compareBytes; rw [if_neg (by simp),if_neg (by simp)]; exact cmpB_self a
theorem cmpB_eq : ∀ {a b : Bytes},Lib.compareBytes a b = 0 → a = b
 | [],[],_=>rfl
 | [],_ :: _,h=>by simp [Lib.compareBytes] at h
 | _ :: _,[],h=>by simp [Lib.compareBytes] at h
 | x :: a,y :: b,h=>by
  unfold Lib.compareBytes at h
  split at h
  ·cases h
  split at h
  ·cases h
  rename_i h1 h2
  rw [UInt8.lt_iff_toNat_lt] at h1 h2;have e : x = y:=UInt8.toNat_inj.1 (by omega);rw [e,cmpB_eq h]
theorem cmpB_anti : ∀ (a b : Bytes),Lib.compareBytes b a = - Lib.compareBytes a b
 | [],[]=>rfl
 | [],_ :: _=>rfl
 | _ :: _,[]=>rfl
 | x :: a,y :: b=>by
  unfold Lib.compareBytes;by_cases h1 : x < y
  ·have h2 : ¬ y < x:=by rw [UInt8.lt_iff_toNat_lt] at *; omega
   simp only [h1,h2,if_true,if_false]; rfl
  by_cases h2 : y < x
  ·simp only [h1,h2,if_true,if_false]
  simp only [h1,h2,if_false]; exact cmpB_anti a b
theorem cmpB_trans : ∀ {a b c : Bytes},Lib.compareBytes a b < 0 → Lib.compareBytes b c < 0 → Lib.compareBytes a c < 0
 | [],[],_,h,_=>by simp [Lib.compareBytes] at h
 | [],_ :: _,[],_,h=>by simp [Lib.compareBytes] at h
 | [],_ :: _,_ :: _,_,_=>by simp [Lib.compareBytes]
 | _ :: _,[],_,h,_=>by simp [Lib.compareBytes] at h
 | _ :: _,_ :: _,[],_,h=>by simp [Lib.compareBytes] at h
 | x :: a,y :: b,z :: c,h1,h2=>by
  unfold Lib.compareBytes at h1 h2 ⊢;simp only [UInt8.lt_iff_toNat_lt] at h1 h2 ⊢;by_cases hxy : x.toNat < y.toNat
  ·by_cases hyz : y.toNat < z.toNat
   ·rw [if_pos (by omega)]; omega
   rw [if_neg hyz] at h2;by_cases hzy : z.toNat < y.toNat
   ·rw [if_pos hzy] at h2; omega
   rw [if_pos (by omega)]; omega
  rw [if_neg hxy] at h1;by_cases hyx : y.toNat < x.toNat
  ·rw [if_pos hyx] at h1; omega
  rw [if_neg hyx] at h1;by_cases hyz : y.toNat < z.toNat
  ·rw [if_pos (by omega)]; omega
  rw [if_neg hyz] at h2;by_cases hzy : z.toNat < y.toNat
  ·rw [if_pos hzy] at h2; omega
  rw [if_neg hzy] at h2;rw [if_neg (by omega),if_neg (by omega)];exact cmpB_trans h1 h2
def ordB (a b : Bytes) : Int:=if Lib.compareBytes (keyB a) (keyB b) ≠ 0 then Lib.compareBytes (keyB a) (keyB b) else Lib.compareBytes a b
def befB (a b : Bytes) : Bool:=decide (ordB a b < 0)
theorem e86 (x y : Int) : m86 [x,y] = some (if x ≠ 0 then x else y):=by
 have h1:=loop_n [x,y] (ε:=Unit ⊕ Int) (fun _ v=>if v ≠ 0 then some (.inr v) else none) (.inl ()) (step:=m86_1 [x,y]) (fun i v hi hv=>by
  unfold m86_1;rw [if_pos (by simp at hi ⊢; omega),hv,Option.bind_some]
  by_cases h : v = 0 <;> simp [h]) (by unfold m86_1; simp)
 unfold m86;rw [h1,Option.bind_some];by_cases hx : x = 0
 ·by_cases hy : y = 0 <;> simp [goN,hx,hy]
 simp [goN,hx]
theorem e55 {a b : Bytes} (ha : a.length ≤ 1073741824) (hb : b.length ≤ 1073741824) : m55 a b = some (ordB a b):=by
 unfold m55 m87;rw [e88 ha,Option.bind_some,e88 hb,Option.bind_some,Option.bind_some,Option.bind_some,e86,Option.bind_some];rfl
theorem e32 {a b : Bytes} (ha : a.length ≤ 1073741824) (hb : b.length ≤ 1073741824) : m32 a b = some (befB a b):=by
 unfold m32;rw [e55 ha hb,Option.bind_some]; rfl
theorem ordB_self (a : Bytes) : ordB a a = 0:=by unfold ordB; rw [cmpB_self,cmpB_self]; rfl
theorem ordB_eq {a b : Bytes} (h : ordB a b = 0) : a = b:=by
 unfold ordB at h
 split at h
 ·exact absurd h ‹_›
 exact cmpB_eq h
theorem ordB_anti (a b : Bytes) : ordB b a = - ordB a b:=by
 unfold ordB;rw [cmpB_anti (keyB a) (keyB b),cmpB_anti a b];by_cases h : Lib.compareBytes (keyB a) (keyB b) = 0
 ·rw [if_neg (by omega),if_neg (by omega)]
 rw [if_pos (by omega),if_pos (by omega)]
theorem ordB_trans {a b c : Bytes} (h1 : ordB a b < 0) (h2 : ordB b c < 0) : ordB a c < 0:=by
 unfold ordB at *;by_cases e1 : Lib.compareBytes (keyB a) (keyB b) = 0
 ·have k1:=cmpB_eq e1;rw [if_neg (by omega)] at h1;rw [k1];by_cases e2 : Lib.compareBytes (keyB b) (keyB c) = 0
  ·rw [if_neg (by omega)] at h2;rw [if_neg (by omega)]; exact cmpB_trans h1 h2
  rw [if_pos e2] at h2;rw [if_pos e2]; exact h2
 rw [if_pos e1] at h1;by_cases e2 : Lib.compareBytes (keyB b) (keyB c) = 0
 ·have k2:=cmpB_eq e2;rw [← k2,if_pos e1]; exact h1
 rw [if_pos e2] at h2;have:=cmpB_trans h1 h2;rw [if_pos (by omega)]; exact this
theorem befB_irr (a : Bytes) : befB a a = false:=by unfold befB; rw [ordB_self]; rfl
theorem befB_trans {a b c : Bytes} (h1 : befB a b = true) (h2 : befB b c = true) : befB a c = true:=by
 unfold befB at *; simp only [decide_eq_true_eq] at *; exact ordB_trans h1 h2
theorem befB_tot {a b : Bytes} (h : a ≠ b) : befB b a = !befB a b:=by
 have h0 : ordB a b ≠ 0:=fun e=>h (ordB_eq e);have:=ordB_anti a b;unfold befB;by_cases h1 : ordB a b < 0
 ·rw [decide_eq_true h1,decide_eq_false (by omega)]; rfl
 rw [decide_eq_false h1,decide_eq_true (by omega)]; rfl
end T11
namespace T11
open Go Go.Proofs Pk
def names (h : Heading) : List Bytes:=h.name :: h.variants
theorem mem_names {h : Heading} {s : Bytes} : s ∈ names h ↔ s = h.name ∨ s ∈ h.variants:=by unfold names; exact List.mem_cons
theorem name_mem (h : Heading) : h.name ∈ names h:=List.mem_cons_self
def ltB (a b : Bytes) : Prop:=befB a b = true
instance (a b : Bytes) : Decidable (ltB a b):=by unfold ltB; infer_instance
theorem ltB_irr (a : Bytes) : ¬ ltB a a:=by unfold ltB; rw [befB_irr]; decide
theorem ltB_trans {a b c : Bytes} (h1 : ltB a b) (h2 : ltB b c) : ltB a c:=befB_trans h1 h2
theorem ltB_as {a b : Bytes} (h1 : ltB a b) (h2 : ltB b a) : False:=ltB_irr a (ltB_trans h1 h2)
theorem ltB_tot {a b : Bytes} (h : a ≠ b) : ltB a b ∨ ltB b a:=by
 unfold ltB;rw [befB_tot h];cases befB a b <;> simp
theorem sorted_ext {α : Type} {r : α → α → Prop} : ∀ {l m : List α},(∀ a ∈ l,∀ b ∈ l,r a b → r b a → False) → l.Pairwise r → m.Pairwise r → (∀ x,x ∈ l ↔ x ∈ m) → l = m
 | [],m,_,_,_,h=>by
  cases m with
  | nil=>rfl
  | cons b m=>exact absurd ((h b).2 List.mem_cons_self) (by simp)
 | a :: l,m,asy,hl,hm,h=>by
  cases m with
  | nil=>exact absurd ((h a).1 List.mem_cons_self) (by simp)
  | cons b m =>
   obtain ⟨hl1,hl2⟩:=List.pairwise_cons.1 hl;obtain ⟨hm1,hm2⟩:=List.pairwise_cons.1 hm;have hab : a = b:=by
    rcases List.mem_cons.1 ((h a).1 List.mem_cons_self) with e | e
    ·exact e
    rcases List.mem_cons.1 ((h b).2 List.mem_cons_self) with e' | e'
    ·exact e'.symm
    exact (asy a List.mem_cons_self b (List.mem_cons_of_mem _ e') (hl1 b e') (hm1 a e)).elim
   subst hab;congr 1;refine sorted_ext (r:=r) (fun x hx y hy=>asy x (List.mem_cons_of_mem _ hx) y (List.mem_cons_of_mem _ hy)) hl2 hm2 fun x=>⟨fun hx=>?_,fun hx=>?_⟩
   ·rcases List.mem_cons.1 ((h x).1 (List.mem_cons_of_mem _ hx)) with e | e
    ·subst e; exact (asy x List.mem_cons_self x List.mem_cons_self (hl1 x hx) (hl1 x hx)).elim
    exact e
   rcases List.mem_cons.1 ((h x).2 (List.mem_cons_of_mem _ hx)) with e | e
   ·subst e; exact (asy x List.mem_cons_self x List.mem_cons_self (hm1 x hx) (hm1 x hx)).elim
   exact e
theorem ltB_ext {l m : List Bytes} (hl : l.Pairwise ltB) (hm : m.Pairwise ltB) (h : ∀ x,x ∈ l ↔ x ∈ m) : l = m:=sorted_ext (fun _ _ _ _=>ltB_as) hl hm h
theorem ltB_nd {l : List Bytes} (h : l.Pairwise ltB) : l.Nodup:=h.imp fun h e=>by subst e; exact ltB_irr _ h
inductive Cn (hs : List Heading) : Bytes → Bytes → Prop
 | refl (a : Bytes) : Cn hs a a
 | step {a b c : Bytes} {h : Heading} (ha : Cn hs a b) (hh : h ∈ hs) (hb : b ∈ names h) (hc : c ∈ names h) : Cn hs a c
section
variable {hs hs' : List Heading} {a b c : Bytes}
theorem Cn.of {h : Heading} (hh : h ∈ hs) (ha : a ∈ names h) (hb : b ∈ names h) : Cn hs a b:=.step (.refl a) hh ha hb
theorem Cn.trans (h1 : Cn hs a b) (h2 : Cn hs b c) : Cn hs a c:=by
 induction h2 with
 | refl=>exact h1
 | step _ hh hb hc ih=>exact .step ih hh hb hc
theorem Cn.symm (h : Cn hs a b) : Cn hs b a:=by
 induction h with
 | refl=>exact .refl _
 | step _ hh hb hc ih=>exact (Cn.of hh hc hb).trans ih
theorem Cn.lift (hl : ∀ h ∈ hs,∀ a ∈ names h,∀ b ∈ names h,Cn hs' a b) (h : Cn hs a b) : Cn hs' a b:=by
 induction h with
 | refl=>exact .refl _
 | step _ hh hb hc ih=>exact ih.trans (hl _ hh _ hb _ hc)
theorem Cn.mono (hm : ∀ h ∈ hs,h ∈ hs') (h : Cn hs a b) : Cn hs' a b:=h.lift fun k hk _ ha _ hb=>.of (hm k hk) ha hb
theorem Cn.inv {S : Bytes → Prop} (hS : ∀ h ∈ hs,∀ a ∈ names h,S a → ∀ b ∈ names h,S b) (h : Cn hs a b) (ha : S a) : S b:=by
 induction h with
 | refl=>exact ha
 | step _ hh hb hc ih=>exact hS _ hh _ hb ih _ hc
def Hd (hs : List Heading) (a s : Bytes) : Prop:=(∃ h ∈ hs,h.name = s) ∧ Cn hs a s ∧ ∀ h ∈ hs,Cn hs a h.name → h.name = s ∨ ltB s h.name
theorem Hd.uniq {s t : Bytes} (h1 : Hd hs a s) (h2 : Hd hs a t) : s = t:=by
 obtain ⟨⟨h,hh,rfl⟩,c1,m1⟩:=h1;obtain ⟨⟨k,hk,rfl⟩,c2,m2⟩:=h2;rcases m1 k hk c2 with e | e
 ·exact e.symm
 rcases m2 h hh c1 with e' | e'
 ·exact e'
 exact (ltB_as e e').elim
theorem Hd.at {s : Bytes} (h : Hd hs a s) (hc : Cn hs b a) : Hd hs b s:=⟨h.1,hc.trans h.2.1,fun k hk hb=>h.2.2 k hk (hc.symm.trans hb)⟩
end
def stP (l : List Place) (v c : Int) : Prop:=∃ p ∈ l,p.volume = v ∧ p.from_ ≤ c ∧ c ≤ p.to_
def okP (p : Place) : Prop:=1 ≤ p.volume ∧ p.volume ≤ 999 ∧ 1 ≤ p.from_ ∧ p.from_ ≤ p.to_ ∧ p.to_ ≤ 9999
def gapP (p q : Place) : Prop:=p.volume < q.volume ∨ p.volume = q.volume ∧ p.to_ + 1 < q.from_
instance (p : Place) : Decidable (okP p):=by unfold okP; infer_instance
instance (p q : Place) : Decidable (gapP p q):=by unfold gapP; infer_instance
structure normP (l : List Place) : Prop where
 ok : ∀ p ∈ l,okP p
 gap : l.Pairwise gapP
theorem stP_append {l m : List Place} {v c : Int} : stP (l ++ m) v c ↔ stP l v c ∨ stP m v c:=by
 unfold stP;constructor
 ·rintro ⟨p,hp,h⟩;rcases List.mem_append.1 hp with hp | hp
  ·exact .inl ⟨p,hp,h⟩
  exact .inr ⟨p,hp,h⟩
 rintro (⟨p,hp,h⟩ | ⟨p,hp,h⟩)
 ·exact ⟨p,List.mem_append_left _ hp,h⟩
 exact ⟨p,List.mem_append_right _ hp,h⟩
theorem pw_cases {α : Type} {r : α → α → Prop} : ∀ {l : List α},l.Pairwise r → ∀ x ∈ l,∀ y ∈ l,x = y ∨ r x y ∨ r y x
 | z :: l,h,x,hx,y,hy=>by
  obtain ⟨h1,h2⟩:=List.pairwise_cons.1 h;rcases List.mem_cons.1 hx with e | hx'
  ·rcases List.mem_cons.1 hy with e' | hy'
   ·exact .inl (e.trans e'.symm)
   rw [e]; exact .inr (.inl (h1 _ hy'))
  rcases List.mem_cons.1 hy with e' | hy'
  ·rw [e']; exact .inr (.inr (h1 _ hx'))
  exact pw_cases h2 x hx' y hy'
theorem norm_sub {l m : List Place} (hl : normP l) (hm : normP m) (h : ∀ v c,stP l v c ↔ stP m v c) {p : Place} (hp : p ∈ l) : p ∈ m:=by
 have hpo:=hl.ok p hp;have hst : ∀ c,p.from_ ≤ c → c ≤ p.to_ → ∃ q ∈ m,q.volume = p.volume ∧ q.from_ ≤ c ∧ c ≤ q.to_:=fun c h1 h2=>(h _ _).1 ⟨p,hp,rfl,h1,h2⟩;have hback : ∀ q ∈ m,q.volume = p.volume → ∀ c,q.from_ ≤ c → c ≤ q.to_ → ∃ p' ∈ l,p'.volume = p.volume ∧ p'.from_ ≤ c ∧ c ≤ p'.to_:=fun q hq e c h1 h2=>(h _ _).2 ⟨q,hq,e,h1,h2⟩;have hal : ∀ p' ∈ l,p'.volume = p.volume → p' = p ∨ p'.to_ + 1 < p.from_ ∨ p.to_ + 1 < p'.from_:=fun p' hp' e=>by
  rcases pw_cases hl.gap p' hp' p hp with h | h | h
  ·exact .inl h
  ·unfold gapP at h; right; left; omega
  unfold gapP at h; right; right; omega
 obtain ⟨q,hq,e1,e2,e3⟩:=hst p.from_ (Int.le_refl _) hpo.2.2.2.1;have ham : ∀ q' ∈ m,q'.volume = p.volume → q' = q ∨ q'.to_ + 1 < q.from_ ∨ q.to_ + 1 < q'.from_:=fun q' hq' e=>by
  rcases pw_cases hm.gap q' hq' q hq with h | h | h
  ·exact .inl h
  ·unfold gapP at h; right; left; omega
  unfold gapP at h; right; right; omega
 have hqo:=hm.ok q hq;have hfrom : q.from_ = p.from_:=by
  by_cases e : q.from_ = p.from_
  ·exact e
  obtain ⟨p',hp',h1,h2,h3⟩:=hback q hq e1 (p.from_ - 1) (by omega) (by omega);rcases hal p' hp' h1 with h4 | h4 | h4
  ·subst h4; omega
  ·omega
  unfold okP at hpo; omega
 have hto : q.to_ = p.to_:=by
  rcases Int.lt_trichotomy q.to_ p.to_ with e | e | e
  ·obtain ⟨q',hq',h1,h2,h3⟩:=hst (q.to_ + 1) (by omega) (by omega);rcases ham q' hq' h1 with h4 | h4 | h4
   ·subst h4; omega
   ·unfold okP at hqo; omega
   omega
  ·exact e
  obtain ⟨p',hp',h1,h2,h3⟩:=hback q hq e1 (p.to_ + 1) (by unfold okP at hpo; omega) (by omega);rcases hal p' hp' h1 with h4 | h4 | h4
  ·subst h4; omega
  ·unfold okP at hpo; omega
  omega
 have : q = p:=by
  cases q; cases p; simp only at *; subst e1 hfrom hto; rfl
 rw [← this]; exact hq
theorem norm_ext {l m : List Place} (hl : normP l) (hm : normP m) (h : ∀ v c,stP l v c ↔ stP m v c) : l = m:=by
 refine sorted_ext (r:=gapP) (fun a ha b hb h1 h2=>?_) hl.gap hm.gap fun p=>⟨norm_sub hl hm h,norm_sub hm hl fun v c=>(h v c).symm⟩;have:=hl.ok a ha; have:=hl.ok b hb;unfold gapP at h1 h2; unfold okP at *; omega
structure IsG (hs : List Heading) (g : Heading) : Prop where
 hd : Hd hs g.name g.name
 vs : g.variants.Pairwise ltB
 vm : ∀ s,s ∈ g.variants ↔ s ≠ g.name ∧ ∃ h ∈ hs,s ∈ names h ∧ Cn hs g.name h.name
 asd : g.also.Pairwise ltB
 am : ∀ s,s ∈ g.also ↔ s ≠ g.name ∧ ∃ h ∈ hs,Cn hs g.name h.name ∧ ∃ t ∈ h.also,Hd hs t s
 pn : normP g.places
 pm : ∀ v c,stP g.places v c ↔ ∃ h ∈ hs,Cn hs g.name h.name ∧ stP h.places v c
abbrev srtH (x : List Heading) : Prop:=x.Pairwise fun a b=>ltB a.name b.name
structure JoinOf (hs x : List Heading) : Prop where
 srt : srtH x
 cov : ∀ h ∈ hs,∃ g ∈ x,Cn hs h.name g.name
 each : ∀ g ∈ x,IsG hs g
theorem IsG.uniq {hs : List Heading} {g k : Heading} (hg : IsG hs g) (hk : IsG hs k) (e : g.name = k.name) : g = k:=by
 have e1 : g.variants = k.variants:=ltB_ext hg.vs hk.vs fun s=>by rw [hg.vm,hk.vm,e]
 have e2 : g.also = k.also:=ltB_ext hg.asd hk.asd fun s=>by rw [hg.am,hk.am,e]
 have e3 : g.places = k.places:=norm_ext hg.pn hk.pn fun v c=>by rw [hg.pm,hk.pm,e]
 cases g; cases k; simp only at *; subst e e1 e2 e3; rfl
theorem JoinOf.sub {hs x y : List Heading} (hx : JoinOf hs x) (hy : JoinOf hs y) {g : Heading} (hg : g ∈ x) : g ∈ y:=by
 have h1:=hx.each g hg;obtain ⟨⟨h,hh,e⟩,_,_⟩:=h1.hd;obtain ⟨k,hk,hc⟩:=hy.cov h hh;have h2:=hy.each k hk;have : g.name = k.name:=Hd.uniq (h1.hd.at (e ▸ Cn.refl h.name : Cn hs h.name g.name)) (h2.hd.at hc);rw [h1.uniq h2 this]; exact hk
theorem JoinOf.uniq {hs x y : List Heading} (hx : JoinOf hs x) (hy : JoinOf hs y) : x = y:=sorted_ext (fun _ _ _ _=>ltB_as) hx.srt hy.srt fun g=>⟨hx.sub hy,hy.sub hx⟩
section
variable {hs hs' x : List Heading}
end
section
variable {A B x : List Heading}
theorem IsG.mem {g : Heading} (hg : IsG A g) {h : Heading} (hh : h ∈ A) (hc : Cn A g.name h.name) {s : Bytes} (hs : s ∈ names h) : s ∈ names g:=by
 rw [mem_names,hg.vm];by_cases e : s = g.name
 ·exact .inl e
 exact .inr ⟨e,h,hh,hs,hc⟩
theorem IsG.of {g : Heading} (hg : IsG A g) {s : Bytes} (hs : s ∈ names g) : ∃ h ∈ A,s ∈ names h ∧ Cn A g.name h.name:=by
 rcases mem_names.1 hs with rfl | hs
 ·obtain ⟨h,hh,e⟩:=hg.hd.1;exact ⟨h,hh,e ▸ name_mem h,e ▸ Cn.refl _⟩
 exact ((hg.vm s).1 hs).2
theorem IsG.cn {g : Heading} (hg : IsG A g) {s t : Bytes} (hs : s ∈ names g) (ht : t ∈ names g) : Cn A s t:=by
 obtain ⟨h,hh,h1,h2⟩:=hg.of hs;obtain ⟨k,hk,k1,k2⟩:=hg.of ht;exact ((Cn.of hh h1 (name_mem h)).trans (h2.symm.trans k2)).trans (Cn.of hk (name_mem k) k1)
theorem JoinOf.cn (hx : JoinOf A x) {a b : Bytes} : Cn (x ++ B) a b ↔ Cn (A ++ B) a b:=by
 constructor
 ·refine Cn.lift fun h hh a ha b hb=>?_;rcases List.mem_append.1 hh with hh | hh
  ·exact ((hx.each h hh).cn ha hb).mono fun k hk=>List.mem_append_left _ hk
  exact .of (List.mem_append_right _ hh) ha hb
 refine Cn.lift fun h hh a ha b hb=>?_;rcases List.mem_append.1 hh with hh | hh
 ·obtain ⟨g,hg,hc⟩:=hx.cov h hh;exact .of (List.mem_append_left _ hg) ((hx.each g hg).mem hh hc.symm ha) ((hx.each g hg).mem hh hc.symm hb)
 exact .of (List.mem_append_right _ hh) ha hb
theorem Cn.inl {a b : Bytes} (h : Cn A a b) : Cn (A ++ B) a b:=h.mono fun k hk=>List.mem_append_left _ hk
theorem JoinOf.hd (hx : JoinOf A x) {a s : Bytes} : Hd (x ++ B) a s ↔ Hd (A ++ B) a s:=by
 constructor
 ·rintro ⟨⟨h,hh,rfl⟩,c,m⟩;refine ⟨?_,hx.cn.1 c,fun k hk hc=>?_⟩
  ·rcases List.mem_append.1 hh with hh | hh
   ·obtain ⟨⟨k,hk,e⟩,_⟩:=(hx.each h hh).hd;exact ⟨k,List.mem_append_left _ hk,e⟩
   exact ⟨h,List.mem_append_right _ hh,rfl⟩
  rcases List.mem_append.1 hk with hk | hk
  ·obtain ⟨g,hg,hgc⟩:=hx.cov k hk;have h1:=m g (List.mem_append_left _ hg) (hx.cn.2 (hc.trans hgc.inl));have h2:=(hx.each g hg).hd.2.2 k hk hgc.symm;rcases h1 with e | e <;> rcases h2 with e' | e'
   ·exact .inl (e'.trans e)
   ·exact .inr (e ▸ e')
   ·exact .inr (e'.symm ▸ e)
   exact .inr (ltB_trans e e')
  exact m k (List.mem_append_right _ hk) (hx.cn.2 hc)
 rintro ⟨⟨h,hh,rfl⟩,c,m⟩;refine ⟨?_,hx.cn.2 c,fun k hk hc=>?_⟩
 ·rcases List.mem_append.1 hh with hh | hh
  ·obtain ⟨g,hg,hgc⟩:=hx.cov h hh;have h2:=(hx.each g hg).hd;refine ⟨g,List.mem_append_left _ hg,?_⟩;obtain ⟨k,hk,e⟩:=h2.1;rcases m k (List.mem_append_left _ hk) (e ▸ c.trans hgc.inl) with e' | e'
   ·exact e.symm.trans e'
   rcases h2.2.2 h hh hgc.symm with e'' | e''
   ·exact e''.symm
   rw [e] at e'; exact (ltB_as e' e'').elim
  exact ⟨h,List.mem_append_right _ hh,rfl⟩
 rcases List.mem_append.1 hk with hk | hk
 ·obtain ⟨⟨k',hk',e⟩,_⟩:=(hx.each k hk).hd;rw [← e];exact m k' (List.mem_append_left _ hk') (e ▸ hx.cn.1 hc)
 exact m k (List.mem_append_right _ hk) (hx.cn.1 hc)
def clo (hs : List Heading) : Prop:=∀ h ∈ hs,∀ t ∈ h.also,∃ k ∈ hs,k.name = t
end
end T11
namespace T11
open Go Go.Proofs Pk
section
variable {α : Type}
noncomputable def stRise (l : List α) (f : α → α → Option Bool) (s : Nat) : Option (Nat ⊕ (Unit ⊕ Bool)) :=
 if (s : Int) < (l.length : Int) then (((if 0 < (s : Int) then (l[((s : Int) - 1).toNat]?).bind fun x=>(l[s]?).bind fun y=>(f x y).bind fun r=>some (!r) else some false) : Option Bool).bind fun t=>if t then some (.inr (.inr false)) else some (.inl (s + 1))) else some (.inr (.inl ()))
noncomputable def gRise (l : List α) (f : α → α → Option Bool) : Option Bool:=(loopO (stRise l f) 0).bind fun e=>match e with
 | .inr z=>some z
 | .inl _=>some true
def chain (p : α → α → Bool) : List α → Bool
 | x :: y :: l=>p x y && chain p (y :: l)
 | _=>true
theorem gRise_some {l : List α} {f : α → α → Option Bool} (p : α → α → Bool) (h : ∀ x ∈ l,∀ y ∈ l,f x y = some (p x y)) : gRise l f = some (chain p l):=by
 have key : ∀ k i,l.length - i = k → i ≤ l.length → 0 < i → loopO (stRise l f) i = some (if chain p (l.drop (i - 1)) then .inl () else .inr false):=by
  intro k
  induction k with
  | zero =>
   intro i hk hi h0;obtain rfl : i = l.length:=by omega
   have e : chain p (l.drop (l.length - 1)) = true:=by
    have : (l.drop (l.length - 1)).length = 1:=by simp; omega
    cases hd : l.drop (l.length - 1) with
    | nil=>rfl
    | cons x m=>rw [hd] at this; cases m with
     | nil=>rfl
     | cons _ _=>simp at this
   rw [e,if_pos rfl];exact loopO_out (by unfold stRise; rw [if_neg (by omega)])
  | succ k ih =>
   intro i hk hi h0;have hlt : i < l.length:=by omega
   have hx : l[i - 1]? = some l[i - 1]:=List.getElem?_eq_getElem (by omega);have hy : l[i]? = some l[i]:=List.getElem?_eq_getElem hlt;have e1 : l.drop (i - 1) = l[i - 1] :: l[i] :: l.drop (i + 1):=by
    rw [List.drop_eq_getElem_cons (by omega),show i - 1 + 1 = i by omega,List.drop_eq_getElem_cons hlt]
   have e2 : l.drop i = l[i] :: l.drop (i + 1):=List.drop_eq_getElem_cons hlt;have hs : stRise l f i = some (if p l[i - 1] l[i] then .inl (i + 1) else .inr (.inr false)):=by
    unfold stRise;rw [if_pos (by omega),if_pos (by omega),show ((i : Int) - 1).toNat = i - 1 by omega,hx,Option.bind_some,hy,Option.bind_some,h _ (List.mem_of_getElem? hx) _ (List.mem_of_getElem? hy)];cases p l[i - 1] l[i] <;> rfl
   rw [e1];unfold chain
   cases hp : p l[i - 1] l[i] with
   | true =>
    rw [hp] at hs;rw [loopO_next hs,ih (i + 1) (by omega) (by omega) (by omega),show i + 1 - 1 = i by omega,e2,Bool.true_and]
   | false =>
    rw [hp] at hs;rw [loopO_out hs]; rfl
 unfold gRise
 cases l with
 | nil=>rw [loopO_out (e:=.inl ()) (by unfold stRise; simp)]; rfl
 | cons x l =>
  rw [loopO_next (s':=1) (by unfold stRise; simp),key _ 1 rfl (by simp) (by omega)];simp only [Nat.sub_self,List.drop_zero];cases chain p (x :: l) <;> rfl
theorem chain_pw {p : α → α → Bool} : ∀ {l : List α},(∀ x ∈ l,∀ y ∈ l,∀ z ∈ l,p x y = true → p y z = true → p x z = true) → (chain p l = true ↔ l.Pairwise fun x y=>p x y = true)
 | [],_=>by simp [chain]
 | [x],_=>by simp [chain]
 | x :: y :: l,tr=>by
  have ih:=chain_pw (l:=y :: l) (fun a ha b hb c hc=>tr a (List.mem_cons_of_mem _ ha) b (List.mem_cons_of_mem _ hb) c (List.mem_cons_of_mem _ hc));simp only [chain,Bool.and_eq_true];rw [ih,List.pairwise_cons (a:=x)];constructor
  ·rintro ⟨h1,h2⟩;refine ⟨fun z hz=>?_,h2⟩;rcases List.mem_cons.1 hz with rfl | hz'
   ·exact h1
   exact tr x (by simp) y (by simp) z (by simp [hz']) h1 ((List.pairwise_cons.1 h2).1 z hz')
  rintro ⟨h1,h2⟩;exact ⟨h1 y (by simp),h2⟩
end
def plainC (c : UInt8) : Bool:=decide (32 ≤ c.toNat ∧ c.toNat ≤ 126 ∧ c.toNat ≠ 44 ∧ c.toNat ≠ 58 ∧ c.toNat ≠ 59 ∧ c.toNat ≠ 61)
def noDbl (s : Bytes) : Bool:=chain (fun a b=>!(a == 32 && b == 32)) s
def nameB (s : Bytes) : Bool:=decide (1 ≤ s.length ∧ s.length ≤ 40) && s.all plainC && decide (s.head? ≠ some 32) && decide (s.getLast? ≠ some 32) && noDbl s
def seeP (l : List Bytes) : Prop:=l.length ≤ 8 ∧ (∀ s ∈ l,nameB s = true) ∧ l.Pairwise ltB
def Rt (h : Heading) : Prop:=nameB h.name = true ∧ seeP h.variants ∧ seeP h.also ∧ h.places.length ≤ 30 ∧ normP h.places
def alsoP (l : List Heading) : Prop:=∀ h ∈ l,∀ s ∈ h.also,s ≠ h.name ∧ ∃ k ∈ l,k.name = s
structure Ix (l : List Heading) : Prop where
 len : l.length ≤ 60
 rt : ∀ h ∈ l,Rt h
 nd : (l.flatMap names).Nodup
 also : alsoP l
 srt : srtH l
open Classical in
noncomputable def faultB (l : List Heading) : Int:=if 60 < l.length then 3 else if ¬ ∀ h ∈ l,Rt h then 1 else if ¬ (l.flatMap names).Nodup then 6 else if ¬ (alsoP l ∧ srtH l) then 1 else 0
theorem fault0 {l : List Heading} : faultB l = 0 ↔ Ix l:=by
 unfold faultB;constructor
 ·intro h
  split at h
  ·cases h
  split at h
  ·cases h
  split at h
  ·cases h
  split at h
  ·cases h
  rename_i h1 h2 h3 h4
  simp only [Classical.not_not] at h2 h3 h4;exact ⟨by omega,h2,h3,h4.1,h4.2⟩
 intro h;rw [if_neg (by have:=h.len; omega),if_neg (by simpa using h.rt),if_neg (by simpa using h.nd),if_neg (by simpa using ⟨h.also,h.srt⟩)]
theorem nd_uniq : ∀ {l : List Heading},(l.flatMap names).Nodup → ∀ {h k : Heading} {s : Bytes},h ∈ l → k ∈ l → s ∈ names h → s ∈ names k → h = k
 | [],_,_,_,_,hh,_,_,_=>by cases hh
 | x :: l,nd,h,k,s,hh,hk,h1,h2=>by
  rw [List.flatMap_cons,List.nodup_append] at nd;have hne : ∀ {k : Heading},k ∈ l → s ∈ names x → s ∈ names k → False:=fun hk h1 h2=>nd.2.2 s h1 s (List.mem_flatMap.2 ⟨_,hk,h2⟩) rfl;rcases List.mem_cons.1 hh with e | hh'
  ·rcases List.mem_cons.1 hk with e' | hk'
   ·rw [e,e']
   subst e; exact (hne hk' h1 h2).elim
  rcases List.mem_cons.1 hk with e' | hk'
  ·subst e'; exact (hne hh' h2 h1).elim
  exact nd_uniq nd.2.1 hh' hk' h1 h2
section
variable {l hs x : List Heading}
theorem Ix.uniq (hl : Ix l) {h k : Heading} {s : Bytes} (hh : h ∈ l) (hk : k ∈ l) (h1 : s ∈ names h) (h2 : s ∈ names k) : h = k:=nd_uniq hl.nd hh hk h1 h2
theorem Ix.clo (hl : Ix l) : clo l:=fun h hh t ht=>(hl.also h hh t ht).2
theorem Ix.cn (hl : Ix l) {h : Heading} (hh : h ∈ l) {a b : Bytes} (ha : a ∈ names h) (hc : Cn l a b) : b ∈ names h :=
 hc.inv (S:=fun b=>b ∈ names h) (fun k hk a ha hS b hb=>by rw [hl.uniq hh hk hS ha]; exact hb) ha
theorem Ix.eq_of (hl : Ix l) {h k : Heading} (hh : h ∈ l) (hk : k ∈ l) (hc : Cn l h.name k.name) : h = k:=hl.uniq hh hk (hl.cn hh (name_mem h) hc) (name_mem k)
theorem Ix.hd (hl : Ix l) {h : Heading} (hh : h ∈ l) : Hd l h.name h.name:=⟨⟨h,hh,rfl⟩,.refl _,fun k hk hc=>by rw [hl.eq_of hh hk hc]; exact .inl rfl⟩
theorem Ix.hd_iff (hl : Ix l) {h : Heading} (hh : h ∈ l) {s : Bytes} : Hd l h.name s ↔ s = h.name:=⟨fun h1=>h1.uniq (hl.hd hh),fun e=>e ▸ hl.hd hh⟩
theorem Ix.vnd (hl : Ix l) {h : Heading} (hh : h ∈ l) : h.name ∉ h.variants:=by
 have : (names h).Nodup:=by
  have:=hl.nd;clear hl
  induction l with
  | nil=>cases hh
  | cons x l ih =>
   rw [List.flatMap_cons,List.nodup_append] at this;rcases List.mem_cons.1 hh with e | hh'
   ·rw [e]; exact this.1
   exact ih hh' this.2.1
 exact (List.nodup_cons.1 this).1
theorem Ix.join (hl : Ix l) : JoinOf l l:=by
 refine ⟨hl.srt,fun h hh=>⟨h,hh,.refl _⟩,fun g hg=>?_⟩;have hr:=hl.rt g hg;refine ⟨hl.hd hg,hr.2.1.2.2,fun s=>?_,hr.2.2.1.2.2,fun s=>?_,hr.2.2.2.2,fun v c=>?_⟩
 ·constructor
  ·intro hs;exact ⟨fun e=>hl.vnd hg (e ▸ hs),g,hg,mem_names.2 (.inr hs),.refl _⟩
  rintro ⟨hne,h,hh,hs,hc⟩;rw [← hl.eq_of hg hh hc] at hs;exact (mem_names.1 hs).resolve_left hne
 ·constructor
  ·intro hs;obtain ⟨h1,k,hk,e⟩:=hl.also g hg s hs;exact ⟨h1,g,hg,.refl _,s,hs,e ▸ hl.hd hk⟩
  rintro ⟨hne,h,hh,hc,t,ht,hd⟩;rw [← hl.eq_of hg hh hc] at ht;obtain ⟨_,k,hk,e⟩:=hl.also g hg t ht;subst e;rw [(hl.hd_iff hk).1 hd]; exact ht
 constructor
 ·intro h; exact ⟨g,hg,.refl _,h⟩
 rintro ⟨h,hh,hc,hs⟩; rw [hl.eq_of hg hh hc]; exact hs
def Fits (x : List Heading) : Prop:=x.length ≤ 60 ∧ ∀ g ∈ x,g.variants.length ≤ 8 ∧ g.also.length ≤ 8 ∧ g.places.length ≤ 30
theorem flat_nd : ∀ {x : List Heading},(∀ g ∈ x,(names g).Nodup) → x.Pairwise (fun a b=>∀ s,s ∈ names a → s ∈ names b → False) → (x.flatMap names).Nodup
 | [],_,_=>List.nodup_nil
 | g :: x,h,hp=>by
  obtain ⟨h1,h2⟩:=List.pairwise_cons.1 hp;rw [List.flatMap_cons,List.nodup_append];refine ⟨h g List.mem_cons_self,flat_nd (fun k hk=>h k (List.mem_cons_of_mem _ hk)) h2,fun a ha b hb e=>?_⟩;subst e;obtain ⟨k,hk,hb⟩:=List.mem_flatMap.1 hb;exact h1 k hk a ha hb
theorem JoinOf.name_eq (hx : JoinOf hs x) {g k : Heading} (hg : g ∈ x) (hk : k ∈ x) (hc : Cn hs g.name k.name) : g.name = k.name:=(hx.each g hg).hd.uniq ((hx.each k hk).hd.at hc)
theorem JoinOf.ix (hr : ∀ h ∈ hs,Rt h) (hc : clo hs) (hx : JoinOf hs x) (hf : Fits x) : Ix x:=by
 have hn : ∀ h ∈ hs,∀ s ∈ names h,nameB s = true:=fun h hh s hs=>by
  rcases mem_names.1 hs with rfl | hs
  ·exact (hr h hh).1
  exact (hr h hh).2.1.2.1 s hs
 refine ⟨hf.1,fun g hg=>?_,?_,fun g hg s hsg=>?_,hx.srt⟩
 ·have h:=hx.each g hg;obtain ⟨f1,f2,f3⟩:=hf.2 g hg;obtain ⟨k,hk,e⟩:=h.hd.1;refine ⟨e ▸ (hr k hk).1,⟨f1,fun s hs=>?_,h.vs⟩,⟨f2,fun s hs=>?_,h.asd⟩,f3,h.pn⟩
  ·obtain ⟨_,k,hk,h1,_⟩:=(h.vm s).1 hs;exact hn k hk s h1
  obtain ⟨_,k,hk,_,t,ht,⟨q,hq,e⟩,_⟩:=(h.am s).1 hs;rw [← e]; exact (hr q hq).1
 ·refine flat_nd (fun g hg=>?_) (hx.srt.imp_of_mem fun {a b} ha hb h s h1 h2=>?_)
  ·have h:=hx.each g hg;exact List.nodup_cons.2 ⟨fun h1=>((h.vm _).1 h1).1 rfl,ltB_nd h.vs⟩
  obtain ⟨k,hk,k1,k2⟩:=(hx.each a ha).of h1;obtain ⟨q,hq,q1,q2⟩:=(hx.each b hb).of h2;have : a.name = b.name:=hx.name_eq ha hb (k2.trans ((Cn.of hk (name_mem k) k1).trans ((Cn.of hq q1 (name_mem q)).trans q2.symm)));rw [this] at h; exact ltB_irr _ h
 obtain ⟨h1,k,hk,_,t,ht,hd⟩:=((hx.each g hg).am s).1 hsg;refine ⟨h1,?_⟩;obtain ⟨⟨q,hq,e⟩,hdc,hdm⟩:=hd;obtain ⟨g',hg',hc'⟩:=hx.cov q hq;refine ⟨g',hg',?_⟩;have hd' : Hd hs s s:=⟨⟨q,hq,e⟩,.refl _,fun k hk hc=>hdm k hk (hdc.trans hc)⟩;exact (((hx.each g' hg').hd.at (e ▸ hc')).uniq hd')
theorem Ix.fits (hl : Ix l) : Fits l:=⟨hl.len,fun g hg=>⟨(hl.rt g hg).2.1.1,(hl.rt g hg).2.2.1.1,(hl.rt g hg).2.2.2.1⟩⟩
end
end T11
namespace T11
open Go Go.Proofs Pk
theorem u8n {c : UInt8} {n : Nat} (h : n < 256) : c.toNat = n ↔ c = UInt8.ofNat n:=by
 rw [← UInt8.toNat_inj]; simp; omega
theorem ixb (c : UInt8) : (0 ≤ Lib.indexByte [44,58,59,61] c) ↔ (c.toNat = 44 ∨ c.toNat = 58 ∨ c.toNat = 59 ∨ c.toNat = 61):=by
 have a1 : c.toNat = 44 ↔ (44 : UInt8) = c:=by rw [← UInt8.toNat_inj]; exact eq_comm
 have a2 : c.toNat = 58 ↔ (58 : UInt8) = c:=by rw [← UInt8.toNat_inj]; exact eq_comm
 have a3 : c.toNat = 59 ↔ (59 : UInt8) = c:=by rw [← UInt8.toNat_inj]; exact eq_comm
 have a4 : c.toNat = 61 ↔ (61 : UInt8) = c:=by rw [← UInt8.toNat_inj]; exact eq_comm
 rw [a1,a2,a3,a4];simp only [Lib.indexByte,beq_iff_eq];by_cases h1 : (44 : UInt8) = c
 ·simp [h1]
 by_cases h2 : (58 : UInt8) = c
 ·simp [h1,h2]
 by_cases h3 : (59 : UInt8) = c
 ·simp [h1,h2,h3]
 by_cases h4 : (61 : UInt8) = c
 ·simp [h1,h2,h3,h4]
 simp [h1,h2,h3,h4]
theorem e72 (n a b : Int) : m72 n a b = some (decide (a ≤ n ∧ n ≤ b)):=by
 unfold m72;by_cases h : a ≤ n <;> simp [h]
theorem e42 (n a b : Int) : m42 n a b = some (decide (a ≤ n ∧ n ≤ b)):=by
 unfold m42;by_cases h : a ≤ n <;> simp [h]
theorem e150 (c : UInt8) : m150 (c.toNat : Int) = some (plainC c):=by
 have hc:=UInt8.toNat_lt c;unfold m150 plainC;by_cases h1 : (32 : Int) ≤ (c.toNat : Int)
 ·by_cases h2 : (c.toNat : Int) ≤ 126
  ·rw [if_pos h1,if_pos h2];unfold m151;have e : (c.toNat : Int).toNat.toUInt8 = c:=by simp
   rw [chk_t (by omega),e,Option.bind_some,Option.bind_some];congr 1;rw [Bool.eq_iff_iff,Bool.not_eq_true',decide_eq_false_iff_not,decide_eq_true_eq,ixb];omega
  rw [if_pos h1,if_neg h2,Option.bind_some];congr 1; symm; rw [decide_eq_false_iff_not]; omega
 rw [if_neg h1,Option.bind_some];congr 1; symm; rw [decide_eq_false_iff_not]; omega
theorem e152 (l : List UInt8) : m152 l m150 = some (l.all plainC):=by
 have h : m152 l m150 = gAll l (fun c=>m150 (c.toNat : Int)):=rfl;rw [h]; exact gAll_some plainC fun c _=>e150 c
theorem dw_self {α : Type} {p : α → Bool} {l : List α} : l.dropWhile p = l ↔ ∀ x,l.head? = some x → p x = false:=by
 cases l with
 | nil=>simp
 | cons x l =>
  simp only [List.head?_cons,Option.some.injEq,forall_eq',List.dropWhile_cons]
  cases hp : p x with
  | false=>simp
  | true =>
   simp only [if_true,Bool.true_eq_false,iff_false];intro e;have:=congrArg List.length e;have h2:=(List.dropWhile_sublist p (l:=l)).length_le;simp at this; omega
theorem trim_self (s : Bytes) (c : UInt8) : Lib.trimB s c = s ↔ s.head? ≠ some c ∧ s.getLast? ≠ some c:=by
 unfold Lib.trimB Lib.trimLeftB Lib.trimRightB;have hr : ((s.reverse.dropWhile (· == c)).reverse = s) ↔ s.getLast? ≠ some c:=by
  rw [List.reverse_eq_iff,dw_self,List.head?_reverse];constructor
  ·intro h e; have:=h c e; simp at this
  intro h x hx; rw [beq_eq_false_iff_ne]; rintro rfl; exact h hx
 have hl : (s.dropWhile (· == c) = s) ↔ s.head? ≠ some c:=by
  rw [dw_self];constructor
  ·intro h e; have:=h c e; simp at this
  intro h x hx; rw [beq_eq_false_iff_ne]; rintro rfl; exact h hx
 constructor
 ·intro h;have h1 : ((s.reverse.dropWhile (· == c)).reverse).length ≤ s.length:=by
   rw [List.length_reverse];have:=(List.dropWhile_sublist (· == c) (l:=s.reverse)).length_le;simpa using this
  have h2 : (List.dropWhile (· == c) (s.reverse.dropWhile (· == c)).reverse).length ≤ ((s.reverse.dropWhile (· == c)).reverse).length:=(List.dropWhile_sublist _).length_le;rw [h] at h2;have h3 : (s.reverse.dropWhile (· == c)).reverse = s:=by
   have hs : (s.reverse.dropWhile (· == c)).Sublist s.reverse:=List.dropWhile_sublist _;have:=hs.eq_of_length (by rw [List.length_reverse] at h1 h2 ⊢; omega);rw [this,List.reverse_reverse]
  rw [h3] at h;exact ⟨hl.1 h,hr.1 h3⟩
 rintro ⟨h1,h2⟩;rw [hr.2 h2,hl.2 h1]
theorem contains_dbl : ∀ s : Bytes,Lib.contains s [32,32] = !noDbl s
 | []=>rfl
 | [a]=>by
  unfold Lib.contains Lib.index;simp [noDbl,chain,Lib.index,List.isPrefixOf]
 | a :: b :: s=>by
  have ih:=contains_dbl (b :: s);unfold Lib.contains at ih ⊢;unfold Lib.index;unfold noDbl chain;have hp : List.isPrefixOf [(32 : UInt8),32] (a :: b :: s) = (a == 32 && b == 32):=by
   simp only [List.isPrefixOf,Bool.and_true];rw [BEq.comm (a:=(32 : UInt8)) (b:=a),BEq.comm (a:=(32 : UInt8)) (b:=b)]
  rw [hp]
  cases h : (a == 32 && b == 32) with
  | true=>simp
  | false =>
   simp only [Bool.false_eq_true,if_false,Bool.not_false,Bool.true_and];rw [show chain (fun a b=>!(a == 32 && b == 32)) (b :: s) = noDbl (b :: s) from rfl,← ih];have:=Lib.index_ge (b :: s) [32,32];by_cases hm : Lib.index (b :: s) [32,32] = -1
   ·rw [hm]; rfl
   rw [if_neg (by simpa using hm)];congr 1; simp; omega
theorem e117 (s : Bytes) : m117 s = some (nameB s):=by
 unfold m117;rw [e72,Option.bind_some];unfold nameB;by_cases h1 : 1 ≤ s.length ∧ s.length ≤ 40
 ·rw [if_pos (by simp; omega),chk_t (by omega),e152,Option.bind_some];simp only [h1,and_self,decide_true,Bool.true_and]
  cases h2 : s.all plainC with
  | false=>simp
  | true =>
   rw [if_pos rfl];have e153 : m153 s [32] = some (Lib.trimB s 32):=by
    unfold m153; exact chk_t ⟨by omega,by decide⟩ _
   rw [e153,Option.bind_some];by_cases h3 : Lib.trimB s 32 = s
   ·obtain ⟨h4,h5⟩:=(trim_self s 32).1 h3;unfold m154;rw [if_pos h3,chk_t (by omega),Option.bind_some,contains_dbl,decide_eq_true h4,decide_eq_true h5];cases noDbl s <;> rfl
   rw [if_neg h3,Option.bind_some];congr 1
   symm
   rw [trim_self] at h3;simp only [Bool.and_eq_false_iff,decide_eq_false_iff_not,Bool.true_and];by_cases h4 : s.head? = some 32
   ·exact .inl (.inl (fun h=>h h4))
   refine .inl (.inr fun h5=>h3 ⟨h4,h5⟩)
 rw [if_neg (by simp; omega)];simp [h1]
theorem e103 (s : Bytes) : m103 s = some (nameB s):=by
 unfold m103;rw [e42,Option.bind_some];by_cases h1 : 1 ≤ s.length ∧ s.length ≤ 40
 ·rw [if_pos (by simp; omega)];have h0 : s[0]? = some s[0]:=List.getElem?_eq_getElem (by omega);have hL : s[s.length - 1]? = some s[s.length - 1]:=List.getElem?_eq_getElem (by omega);have hh : s.head? = some s[0]:=by rw [List.head?_eq_getElem?]; exact h0
  have hl : s.getLast? = some s[s.length - 1]:=by rw [List.getLast?_eq_getElem?]; exact hL
  have e32 : ∀ c : UInt8,(c.toNat : Int) = 32 ↔ c = 32:=fun c=>by
   have:=u8n (c:=c) (n:=32) (by decide);constructor
   ·intro h; exact this.1 (by omega)
   intro h; have:=this.2 h; omega
  rw [h0,Option.bind_some];unfold nameB;rw [hh,hl];by_cases c0 : s[0] = 32
  ·rw [if_pos ((e32 _).2 c0),Option.bind_some,if_pos rfl];simp [c0]
  rw [if_neg (fun h=>c0 ((e32 _).1 h)),chk_t (by omega),chk_t (by omega),show ((s.length : Int) - 1).toNat = s.length - 1 by omega,hL,Option.bind_some,Option.bind_some];by_cases c1 : s[s.length - 1] = 32
  ·rw [if_pos (by simpa using (e32 _).2 c1)];simp [c1]
  rw [if_neg (by simp only [decide_eq_true_eq]; exact fun h=>c1 ((e32 _).1 h))];have key : ∀ k i,s.length - i = k → i ≤ s.length → (0 < i → ∃ c,s[i - 1]? = some c) → loopO (m103_1 s) i = some (if (s.drop i).all plainC && chain (fun a b=>!(a == 32 && b == 32)) (s.drop (i - 1)) then .inl () else .inr false):=by
   intro k
   induction k with
   | zero =>
    intro i hk hi _;obtain rfl : i = s.length:=by omega
    have e : chain (fun a b : UInt8=>!(a == 32 && b == 32)) (s.drop (s.length - 1)) = true:=by
     cases hd : s.drop (s.length - 1) with
     | nil=>rfl
     | cons x m =>
      have:=congrArg List.length hd
      cases m with
      | nil=>rfl
      | cons _ _=>simp at this; omega
    rw [List.drop_length,e];rw [loopO_out (e:=.inl ()) (by unfold m103_1; rw [if_neg (by omega)])]; rfl
   | succ k ih =>
    intro i hk hi _;have hlt : i < s.length:=by omega
    have hx : s[i]? = some s[i]:=List.getElem?_eq_getElem hlt;have e2 : s.drop i = s[i] :: s.drop (i + 1):=List.drop_eq_getElem_cons hlt;have hch : chain (fun a b : UInt8=>!(a == 32 && b == 32)) (s.drop (i - 1)) = ((if h : 0 < i then !(s[i - 1] == 32 && s[i] == 32) else true) && chain (fun a b : UInt8=>!(a == 32 && b == 32)) (s.drop i)):=by
     by_cases hi0 : 0 < i
     ·have e1 : s.drop (i - 1) = s[i - 1] :: s[i] :: s.drop (i + 1):=by
       rw [List.drop_eq_getElem_cons (by omega),show i - 1 + 1 = i by omega,e2]
      rw [e1,e2,dif_pos hi0]; rfl
     obtain rfl : i = 0:=by omega
     simp
    have step : m103_1 s i = some (if plainC s[i] && (if h : 0 < i then !(s[i - 1] == 32 && s[i] == 32) else true) then .inl (i + 1) else .inr (.inr false)):=by
     unfold m103_1;rw [if_pos (by omega),hx,Option.bind_some];by_cases hp : plainC s[i] = true
     ·have hp':=hp;simp only [plainC,decide_eq_true_eq] at hp';rw [if_neg (by omega),if_neg (by omega),if_neg (by omega),if_neg (by omega),if_neg (by omega),if_neg (by omega)];by_cases c : s[i] = 32
      ·have hi0 : 0 < i:=by
        rcases Nat.eq_zero_or_pos i with h | h
        ·subst h; exact absurd c c0
        exact h
       have hy : s[i - 1]? = some s[i - 1]:=List.getElem?_eq_getElem (by omega);rw [if_pos ((e32 _).2 c),chk_t (by omega),chk_t (by omega),show ((i : Int) - 1).toNat = i - 1 by omega,hy,Option.bind_some,Option.bind_some,dif_pos hi0];by_cases d : s[i - 1] = 32
       ·rw [if_pos (by simpa using (e32 _).2 d)]; simp [c,d]
       rw [if_neg (by simp only [decide_eq_true_eq]; exact fun h=>d ((e32 _).1 h)),chk_t (by omega)]; rw [c] at hp; simp [c,d,hp]
      rw [if_neg (fun h=>c ((e32 _).1 h)),Option.bind_some,if_neg (by decide),chk_t (by omega)];simp [c,hp]
     have hp':=hp;simp only [plainC,decide_eq_true_eq] at hp';simp only [hp,Bool.false_and,Bool.false_eq_true,if_false];have : ∀ x : Option Bool,(if (s[i].toNat : Int) < 32 then some true else if 126 < (s[i].toNat : Int) then some true else if (s[i].toNat : Int) = 44 then some true else if (s[i].toNat : Int) = 58 then some true else if (s[i].toNat : Int) = 59 then some true else if (s[i].toNat : Int) = 61 then some true else x) = some true:=fun x=>by
      repeat' split
      all_goals first | rfl | omega
     rw [this];rfl
    rw [hch,e2,List.all_cons];by_cases hs : (plainC s[i] && (if h : 0 < i then !(s[i - 1] == 32 && s[i] == 32) else true)) = true
    ·rw [if_pos hs] at step;rw [loopO_next step,ih (i + 1) (by omega) (by omega) (fun _=>⟨_,hx⟩),show i + 1 - 1 = i by omega,e2];rw [Bool.and_eq_true] at hs;rw [hs.1,hs.2,Bool.true_and,Bool.true_and]
    rw [if_neg hs] at step;rw [loopO_out step];have : (plainC s[i] && (s.drop (i + 1)).all plainC && ((if h : 0 < i then !(s[i - 1] == 32 && s[i] == 32) else true) && chain (fun a b : UInt8=>!(a == 32 && b == 32)) (s[i] :: s.drop (i + 1)))) = false:=by
     rw [← Bool.not_eq_true,Bool.and_eq_true,Bool.and_eq_true,Bool.and_eq_true];rintro ⟨⟨a,_⟩,b,_⟩;exact hs (by rw [a,b]; rfl)
    rw [this]; rfl
  have hk:=key s.length 0 (by omega) (by omega) (fun h=>absurd h (by omega));simp only [List.drop_zero,Nat.zero_sub] at hk;rw [hk];unfold noDbl;simp only [h1,and_self,decide_true,Bool.true_and];cases s.all plainC <;> cases chain (fun a b : UInt8=>!(a == 32 && b == 32)) s <;> simp [c0,c1]
 rw [if_neg (by simp; omega)];unfold nameB;simp [h1]
end T11
namespace T11
open Go Go.Proofs Pk
theorem less_cmp : ∀ a b : Bytes,Op.bytesLess a b = decide (Lib.compareBytes a b < 0)
 | [],[]=>rfl
 | [],_ :: _=>rfl
 | _ :: _,[]=>rfl
 | x :: a,y :: b=>by
  unfold Op.bytesLess Lib.compareBytes;have ih:=less_cmp a b;by_cases h1 : x < y
  ·simp [h1]
  by_cases h2 : y < x
  ·have hne : (x == y) = false:=by
    rw [beq_eq_false_iff_ne]; rintro rfl; exact h1 h2
   simp [h1,h2,hne]
  have he : x = y:=by
   rw [UInt8.lt_iff_toNat_lt] at h1 h2;exact UInt8.toNat_inj.1 (by omega)
  simp [h1,h2,he,ih]
theorem e74 {s : Bytes} (h : s.length ≤ 1073741824) : m74 s = some (keyB s):=by
 unfold m74
 have h1:=loop_l s (σ:=List UInt8) (ε:=List UInt8) (fun _ x a=>.inl (a ++ kc x)) (fun a=>a) (fun i a=>a.length ≤ i) (step:=m74_1 s) (fun i x a hi hx hI=>by
  unfold m74_1;rw [if_pos (show (i : Int) < (s.length : Int) by omega),hx,Option.bind_some];have:=UInt8.toNat_lt x;by_cases hu : 65 ≤ x.toNat ∧ x.toNat ≤ 90
  ·have e : kc x = [UInt8.ofNat (x.toNat - 65 + 97)]:=by unfold kc; rw [if_pos hu]
   rw [if_pos (show (65 : Int) ≤ (x.toNat : Int) by omega)];simp only [Option.bind_some];rw [if_pos (show decide ((x.toNat : Int) ≤ 90) = true by simp; omega),chk_t (by omega),chk_t (by omega)];simp only [Option.bind_some];rw [if_pos (by omega)];rw [if_pos (by omega),Option.bind_some,if_pos rfl,chk_t (by omega),chk_t (by omega),Option.bind_some,chk_t (by omega),e];rcases u8_up (c:=x) with h | h
   ·rw [h]
   omega
  ·have e0 : ((if (65 : Int) ≤ (x.toNat : Int) then some (decide ((x.toNat : Int) ≤ 90)) else some false) : Option Bool) = some false:=by
    split
    ·congr 1; simp; omega
    rfl
   rw [e0,Option.bind_some];simp only [Bool.false_eq_true,if_false,Option.bind_some];by_cases hl : 97 ≤ x.toNat ∧ x.toNat ≤ 122 ∨ 48 ≤ x.toNat ∧ x.toNat ≤ 57
   ·have e : kc x = [x]:=by unfold kc; rw [if_neg hu,if_pos hl]
    have e1 : ((if (97 : Int) ≤ (x.toNat : Int) then if (x.toNat : Int) ≤ 122 then some true else if (48 : Int) ≤ (x.toNat : Int) then some (decide ((x.toNat : Int) ≤ 57)) else some false else if (48 : Int) ≤ (x.toNat : Int) then some (decide ((x.toNat : Int) ≤ 57)) else some false) : Option Bool) = some true:=by
     repeat' split
     all_goals first | rfl | (congr 1; simp; omega) | omega
    rw [e1];simp only [Option.bind_some,if_true];rw [chk_t (by omega),chk_t (by omega)]; simp only [Option.bind_some]; rw [chk_t (by omega),e]; simp
   have e : kc x = []:=by unfold kc; rw [if_neg hu,if_neg hl]
   have e1 : ((if (97 : Int) ≤ (x.toNat : Int) then if (x.toNat : Int) ≤ 122 then some true else if (48 : Int) ≤ (x.toNat : Int) then some (decide ((x.toNat : Int) ≤ 57)) else some false else if (48 : Int) ≤ (x.toNat : Int) then some (decide ((x.toNat : Int) ≤ 57)) else some false) : Option Bool) = some false:=by
    repeat' split
    all_goals first | rfl | (congr 1; simp; omega) | omega
   rw [e1];simp only [Option.bind_some,Bool.false_eq_true,if_false]
   rw [chk_t (by omega),e,List.append_nil])
  (fun i x a a' hi hx hI hg=>by
   have:=kc_len x;cases hg
   simp only [List.length_append]; omega)
  (fun a hI=>by unfold m74_1; simp) (a0:=([] : List UInt8)) (Nat.le_refl 0)
 rw [h1,goL_app]; rfl
theorem e35 {a b : Bytes} (ha : a.length ≤ 1073741824) (hb : b.length ≤ 1073741824) : m35 a b = some (befB a b):=by
 unfold m35;rw [e74 ha,Option.bind_some,e74 hb,Option.bind_some,less_cmp,less_cmp];unfold befB ordB;by_cases h : keyB a = keyB b
 ·rw [if_neg (by simpa using h),h,cmpB_self]; simp
 have : Lib.compareBytes (keyB a) (keyB b) ≠ 0:=fun e=>h (cmpB_eq e);rw [if_pos h,if_pos this]
theorem name_len {s : Bytes} (h : nameB s = true) : 1 ≤ s.length ∧ s.length ≤ 40:=by
 unfold nameB at h;simp only [Bool.and_eq_true,decide_eq_true_eq] at h;exact h.1.1.1.1
theorem name_big {s : Bytes} (h : nameB s = true) : s.length ≤ 1073741824:=by have:=name_len h; omega
def seeB (l : List Bytes) : Bool:=decide (l.length ≤ 8) && (l.all nameB && chain befB l)
theorem chain_ltB {l : List Bytes} : chain befB l = true ↔ l.Pairwise ltB:=chain_pw fun x _ y _ z _=>befB_trans
theorem seeB_iff {l : List Bytes} : seeB l = true ↔ seeP l:=by
 unfold seeB seeP;rw [Bool.and_eq_true,Bool.and_eq_true,decide_eq_true_eq,List.all_eq_true,chain_ltB]
theorem e80 (l : List Bytes) : m80 l m117 = some (l.all nameB):=by
 have h : m80 l m117 = gAll l m117:=rfl;rw [h]; exact gAll_some nameB fun s _=>e117 s
theorem e118 {l : List Bytes} (h : ∀ s ∈ l,nameB s = true) : m118 l m32 = some (chain befB l):=by
 have h0 : m118 l m32 = gRise l m32:=rfl;rw [h0]; exact gRise_some befB fun x hx y hy=>e32 (name_big (h x hx)) (name_big (h y hy))
theorem e116 (l : List Bytes) : m116 l = some (seeB l):=by
 unfold m116 seeB;by_cases h : l.length ≤ 8
 ·rw [if_pos (by omega),e80,Option.bind_some,decide_eq_true h]
  cases h2 : l.all nameB with
  | false=>simp
  | true=>rw [if_pos rfl,e118 (by simpa using h2)]; simp
 rw [if_neg (by omega),decide_eq_false h]; rfl
theorem e104 (l : List Bytes) : m104 l = some (seeB l):=by
 unfold m104;have key : ∀ k i,l.length - i = k → i ≤ l.length → (0 < i → ∀ s,l[i - 1]? = some s → nameB s = true) → loopO (m104_1 l) i = some (if (l.drop i).all nameB && chain befB (l.drop (i - 1)) then .inl () else .inr false):=by
  intro k
  induction k with
  | zero =>
   intro i hk hi _;obtain rfl : i = l.length:=by omega
   have e : chain befB (l.drop (l.length - 1)) = true:=by
    cases hd : l.drop (l.length - 1) with
    | nil=>rfl
    | cons x m =>
     have:=congrArg List.length hd
     cases m with
     | nil=>rfl
     | cons _ _=>simp at this; omega
   rw [List.drop_length,e];rw [loopO_out (e:=.inl ()) (by unfold m104_1; rw [if_neg (by omega)])]; rfl
  | succ k ih =>
   intro i hk hi hp;have hlt : i < l.length:=by omega
   have hx : l[i]? = some l[i]:=List.getElem?_eq_getElem hlt;have e2 : l.drop i = l[i] :: l.drop (i + 1):=List.drop_eq_getElem_cons hlt;have hch : chain befB (l.drop (i - 1)) = ((if h : 0 < i then befB l[i - 1] l[i] else true) && chain befB (l.drop i)):=by
    by_cases hi0 : 0 < i
    ·have e1 : l.drop (i - 1) = l[i - 1] :: l[i] :: l.drop (i + 1):=by
      rw [List.drop_eq_getElem_cons (by omega),show i - 1 + 1 = i by omega,e2]
     rw [e1,e2,dif_pos hi0]; rfl
    obtain rfl : i = 0:=by omega
    simp
   have step : m104_1 l i = some (if nameB l[i] && (if h : 0 < i then befB l[i - 1] l[i] else true) then .inl (i + 1) else .inr (.inr false)):=by
    unfold m104_1;rw [if_pos (by omega),hx,Option.bind_some,e103,Option.bind_some]
    cases hn : nameB l[i] with
    | false=>simp
    | true =>
     rw [if_pos rfl];by_cases hi0 : 0 < i
     ·have hy : l[i - 1]? = some l[i - 1]:=List.getElem?_eq_getElem (by omega);rw [if_pos (by omega),show ((i : Int) - 1).toNat = i - 1 by omega,hy,Option.bind_some,e35 (name_big (hp hi0 _ hy)) (name_big hn),dif_pos hi0];cases befB l[i - 1] l[i] <;> rfl
     rw [if_neg (by omega),dif_neg hi0]; rfl
   rw [hch,e2,List.all_cons];by_cases hs : (nameB l[i] && (if h : 0 < i then befB l[i - 1] l[i] else true)) = true
   ·rw [if_pos hs] at step;rw [Bool.and_eq_true] at hs
    rw [loopO_next step,ih (i + 1) (by omega) (by omega) (fun _ s he=>by
     rw [show i + 1 - 1 = i by omega,hx] at he; cases he; exact hs.1),show i + 1 - 1 = i by omega,e2]
    rw [hs.1,hs.2,Bool.true_and,Bool.true_and]
   rw [if_neg hs] at step;rw [loopO_out step];have : (nameB l[i] && (l.drop (i + 1)).all nameB && ((if h : 0 < i then befB l[i - 1] l[i] else true) && chain befB (l[i] :: l.drop (i + 1)))) = false:=by
    rw [← Bool.not_eq_true,Bool.and_eq_true,Bool.and_eq_true,Bool.and_eq_true];rintro ⟨⟨a,_⟩,b,_⟩;exact hs (by rw [a,b]; rfl)
   rw [this]; rfl
 have hk:=key l.length 0 (by omega) (by omega) (fun h=>absurd h (by omega));simp only [List.drop_zero,Nat.zero_sub] at hk;rw [hk];unfold seeB;by_cases h : l.length ≤ 8
 ·rw [decide_eq_true h];cases h2 : (l.all nameB && chain befB l) <;> simp <;> omega
 rw [decide_eq_false h];cases h2 : (l.all nameB && chain befB l) <;> simp <;> omega
def gapB (p q : Place) : Bool:=decide (gapP p q)
def normB (l : List Place) : Bool:=l.all (fun p=>decide (okP p)) && chain gapB l
theorem gapP_trans {p q r : Place} (hq : okP q) (h1 : gapP p q) (h2 : gapP q r) : gapP p r:=by
 unfold gapP at *; unfold okP at hq; omega
theorem gapB_t {p q : Place} : gapB p q = true ↔ gapP p q:=by unfold gapB; exact decide_eq_true_iff
theorem chain_gap {l : List Place} (ho : ∀ p ∈ l,okP p) : chain gapB l = true ↔ l.Pairwise gapP:=by
 rw [chain_pw (p:=gapB) fun x hx y hy z hz a b=>gapB_t.2 (gapP_trans (ho y hy) (gapB_t.1 a) (gapB_t.1 b))];exact ⟨fun h=>h.imp gapB_t.1,fun h=>h.imp gapB_t.2⟩
theorem normB_iff {l : List Place} : normB l = true ↔ normP l:=by
 unfold normB;rw [Bool.and_eq_true,List.all_eq_true];constructor
 ·rintro ⟨h1,h2⟩;have ho : ∀ p ∈ l,okP p:=fun p hp=>of_decide_eq_true (h1 p hp);exact ⟨ho,(chain_gap ho).1 h2⟩
 intro h;exact ⟨fun p hp=>decide_eq_true (h.ok p hp),(chain_gap h.ok).2 h.gap⟩
theorem e120 (p : Place) : m120 p = some (decide (okP p)):=by
 unfold m120;rw [e72,Option.bind_some];by_cases h1 : 1 ≤ p.volume ∧ p.volume ≤ 999
 ·rw [if_pos (by simpa using h1),e72,Option.bind_some];by_cases h2 : 1 ≤ p.from_ ∧ p.from_ ≤ p.to_
  ·rw [if_pos (by simpa using h2),Option.bind_some];congr 1;rw [Bool.eq_iff_iff,decide_eq_true_eq,decide_eq_true_eq];unfold okP; omega
  rw [if_neg (by simpa using h2),Option.bind_some,decide_eq_false (show ¬ okP p by unfold okP; omega)]
 rw [if_neg (by simpa using h1),Option.bind_some,decide_eq_false (show ¬ okP p by unfold okP; omega)]
theorem e96 {p : Place} (q : Place) (h : okP p) : m96 p q = some (gapB p q):=by
 unfold m96;unfold okP at h;by_cases h1 : p.volume < q.volume
 ·rw [if_pos h1,gapB_t.2 (by unfold gapP; omega)]; rfl
 rw [if_neg h1];by_cases h2 : p.volume = q.volume
 ·rw [if_pos h2,chk_t (by omega),Option.bind_some];congr 1; rw [Bool.eq_iff_iff,decide_eq_true_eq,gapB_t]; unfold gapP; omega
 rw [if_neg h2,Option.bind_some];congr 1; symm; rw [← Bool.not_eq_true,gapB_t]; unfold gapP; omega
theorem gapB_f {p q : Place} (h : ¬ gapP p q) : gapB p q = false:=by rw [← Bool.not_eq_true,gapB_t]; exact h
theorem e119 (l : List Place) : m119 l m120 = some (l.all fun p=>decide (okP p)):=by
 have h : m119 l m120 = gAll l m120:=rfl;rw [h]; exact gAll_some _ fun p _=>e120 p
theorem e121 {l : List Place} (h : ∀ p ∈ l,okP p) : m121 l m96 = some (chain gapB l):=by
 have h0 : m121 l m96 = gRise l m96:=rfl;rw [h0]; exact gRise_some gapB fun x hx y hy=>e96 y (h x hx)
theorem e105 (l : List Place) : m105 l = some (normB l):=by
 unfold m105;have key : ∀ k i,l.length - i = k → i ≤ l.length → (0 < i → ∀ s,l[i - 1]? = some s → okP s) → loopO (m105_1 l) i = some (if (l.drop i).all (fun p=>decide (okP p)) && chain gapB (l.drop (i - 1)) then .inl () else .inr false):=by
  intro k
  induction k with
  | zero =>
   intro i hk hi _;obtain rfl : i = l.length:=by omega
   have e : chain gapB (l.drop (l.length - 1)) = true:=by
    cases hd : l.drop (l.length - 1) with
    | nil=>rfl
    | cons x m =>
     have:=congrArg List.length hd
     cases m with
     | nil=>rfl
     | cons _ _=>simp at this; omega
   rw [List.drop_length,e];rw [loopO_out (e:=.inl ()) (by unfold m105_1; rw [if_neg (by omega)])]; rfl
  | succ k ih =>
   intro i hk hi hp;have hlt : i < l.length:=by omega
   have hx : l[i]? = some l[i]:=List.getElem?_eq_getElem hlt;have e2 : l.drop i = l[i] :: l.drop (i + 1):=List.drop_eq_getElem_cons hlt;have hch : chain gapB (l.drop (i - 1)) = ((if h : 0 < i then gapB l[i - 1] l[i] else true) && chain gapB (l.drop i)):=by
    by_cases hi0 : 0 < i
    ·have e1 : l.drop (i - 1) = l[i - 1] :: l[i] :: l.drop (i + 1):=by
      rw [List.drop_eq_getElem_cons (by omega),show i - 1 + 1 = i by omega,e2]
     rw [e1,e2,dif_pos hi0]; rfl
    obtain rfl : i = 0:=by omega
    simp
   have step : m105_1 l i = some (if decide (okP l[i]) && (if h : 0 < i then gapB l[i - 1] l[i] else true) then .inl (i + 1) else .inr (.inr false)):=by
    unfold m105_1;rw [if_pos (by omega),hx,Option.bind_some,e42,Option.bind_some];by_cases ho : okP l[i]
    ·have ho':=ho;unfold okP at ho';rw [if_pos (by simp; omega),e42,Option.bind_some,if_pos (by simp; omega),Option.bind_some,if_neg (by simp; omega),decide_eq_true ho];by_cases hi0 : 0 < i
     ·have hy : l[i - 1]? = some l[i - 1]:=List.getElem?_eq_getElem (by omega);have hp':=hp hi0 _ hy;unfold okP at hp';rw [if_pos (by omega),show ((i : Int) - 1).toNat = i - 1 by omega,hy,Option.bind_some,dif_pos hi0];by_cases v1 : l[i].volume < l[i - 1].volume
      ·rw [if_pos v1,Option.bind_some,if_pos rfl,gapB_f (by unfold gapP; omega)]; rfl
      rw [if_neg v1];by_cases v2 : l[i].volume = l[i - 1].volume
      ·rw [if_pos v2,chk_t (by omega),Option.bind_some];by_cases v3 : l[i].from_ ≤ l[i - 1].to_ + 1
       ·rw [if_pos (by simpa using v3),gapB_f (by unfold gapP; omega)]; rfl
       rw [if_neg (by simpa using v3),gapB_t.2 (by unfold gapP; omega)]; rfl
      rw [if_neg v2,Option.bind_some,if_neg (by decide),gapB_t.2 (by unfold gapP; omega)]; rfl
     rw [if_neg (by omega),dif_neg hi0]; rfl
    have : ((if decide (1 ≤ l[i].volume ∧ l[i].volume ≤ 999) then (m42 l[i].from_ 1 l[i].to_).bind fun r155=>if r155 then some (decide (9999 < l[i].to_)) else some true else some true) : Option Bool) = some true:=by
     unfold okP at ho;by_cases v1 : 1 ≤ l[i].volume ∧ l[i].volume ≤ 999
     ·rw [if_pos (by simpa using v1),e42,Option.bind_some];by_cases v2 : 1 ≤ l[i].from_ ∧ l[i].from_ ≤ l[i].to_
      ·rw [if_pos (by simpa using v2)]; congr 1; rw [decide_eq_true_eq]; omega
      rw [if_neg (by simpa using v2)]
     rw [if_neg (by simpa using v1)]
    rw [this,decide_eq_false ho]; rfl
   rw [hch,e2,List.all_cons];by_cases hs : (decide (okP l[i]) && (if h : 0 < i then gapB l[i - 1] l[i] else true)) = true
   ·rw [if_pos hs] at step;rw [Bool.and_eq_true] at hs
    rw [loopO_next step,ih (i + 1) (by omega) (by omega) (fun _ s he=>by
     rw [show i + 1 - 1 = i by omega,hx] at he; cases he; exact of_decide_eq_true hs.1),show i + 1 - 1 = i by omega,e2]
    rw [hs.1,hs.2,Bool.true_and,Bool.true_and]
   rw [if_neg hs] at step;rw [loopO_out step];have : (decide (okP l[i]) && (l.drop (i + 1)).all (fun p=>decide (okP p)) && ((if h : 0 < i then gapB l[i - 1] l[i] else true) && chain gapB (l[i] :: l.drop (i + 1)))) = false:=by
    rw [← Bool.not_eq_true,Bool.and_eq_true,Bool.and_eq_true,Bool.and_eq_true];rintro ⟨⟨a,_⟩,b,_⟩;exact hs (by rw [a,b]; rfl)
   rw [this]; rfl
 have hk:=key l.length 0 (by omega) (by omega) (fun h=>absurd h (by omega));simp only [List.drop_zero,Nat.zero_sub] at hk;rw [hk];unfold normB;cases h2 : (l.all (fun p=>decide (okP p)) && chain gapB l) <;> simp
def rtB (h : Heading) : Bool:=nameB h.name && (seeB h.variants && (seeB h.also && (decide (h.places.length ≤ 30) && normB h.places)))
theorem rtB_iff {h : Heading} : rtB h = true ↔ Rt h:=by
 unfold rtB Rt;simp only [Bool.and_eq_true,decide_eq_true_eq,seeB_iff,normB_iff]
theorem e78 (h : Heading) : m78 h = some (rtB h):=by
 unfold m78 rtB;rw [e117,Option.bind_some]
 cases nameB h.name with
 | false=>rfl
 | true =>
  rw [if_pos rfl,e116,Option.bind_some]
  cases seeB h.variants with
  | false=>rfl
  | true =>
   rw [if_pos rfl,e116,Option.bind_some]
   cases seeB h.also with
   | false=>rfl
   | true =>
    rw [if_pos rfl];by_cases hl : h.places.length ≤ 30
    ·rw [if_pos (by omega),e119,Option.bind_some,decide_eq_true hl];unfold normB
     cases h2 : h.places.all (fun p=>decide (okP p)) with
     | false=>rfl
     | true =>
      rw [if_pos rfl,e121 (fun p hp=>by
       have:=List.all_eq_true.1 h2 p hp
       exact of_decide_eq_true this)]
      rfl
    rw [if_neg (by omega),decide_eq_false hl]; rfl
theorem e64 (h : Heading) : m64 h = some (rtB h):=by
 unfold m64 rtB;rw [e103,Option.bind_some]
 cases nameB h.name with
 | false=>rfl
 | true =>
  rw [if_pos rfl,e104,Option.bind_some]
  cases seeB h.variants with
  | false=>rfl
  | true =>
   rw [if_pos rfl,e104,Option.bind_some]
   cases seeB h.also with
   | false=>rfl
   | true =>
    rw [if_pos rfl];by_cases hl : h.places.length ≤ 30
    ·rw [if_pos (by omega),e105,decide_eq_true hl]; rfl
    rw [if_neg (by omega),decide_eq_false hl]; rfl
theorem e77 (l : List Heading) : m77 l m78 = some (l.all rtB):=by
 have h : m77 l m78 = gAll l m78:=rfl;rw [h]; exact gAll_some rtB fun h _=>e78 h
end T11
namespace T11
open Go Go.Proofs Pk
section
variable {α ε : Type}
theorem goN_out {g : Nat → α → Option ε} {out : ε} : ∀ {l : List α} {k : Nat},(∀ j x,l[j]? = some x → g (k + j) x = none) → goN g out l k = out
 | [],_,_=>rfl
 | x :: l,k,h=>by
  have h0:=h 0 x rfl;simp only [Nat.add_zero] at h0;simp only [goN,h0];refine goN_out fun j y hy=>?_;have:=h (j + 1) y (by simpa using hy)
  rwa [show k + (j + 1) = k + 1 + j by omega] at this
theorem goN_err {g : Nat → α → Option ε} {out e : ε} (he : ∀ j x e',g j x = some e' → e' = e) : ∀ {l : List α} {k : Nat},(∃ j x,l[j]? = some x ∧ g (k + j) x ≠ none) → goN g out l k = e
 | [],_,⟨j,x,h,_⟩=>by simp at h
 | x :: l,k,⟨j,y,hy,hg⟩=>by
  simp only [goN]
  cases hc : g k x with
  | some e'=>exact he _ _ _ hc
  | none =>
   refine goN_err he ?_
   cases j with
   | zero=>simp at hy; subst hy; exact absurd hc hg
   | succ j=>exact ⟨j,y,by simpa using hy,by rwa [show k + 1 + j = k + (j + 1) by omega]⟩
theorem chain_ix {p : α → α → Bool} : ∀ {l : List α},chain p l = true ↔ ∀ i x y,l[i]? = some x → l[i + 1]? = some y → p x y = true
 | []=>by simp [chain]
 | [x]=>by simp [chain]
 | x :: y :: l=>by
  have ih:=chain_ix (p:=p) (l:=y :: l);simp only [chain,Bool.and_eq_true];rw [ih];constructor
  ·rintro ⟨h1,h2⟩ i a b ha hb
   cases i with
   | zero=>simp at ha hb; rw [← ha,← hb]; exact h1
   | succ i=>exact h2 i a b (by simpa using ha) (by simpa using hb)
  intro h;exact ⟨h 0 x y rfl rfl,fun i a b ha hb=>h (i + 1) a b (by simpa using ha) (by simpa using hb)⟩
end
theorem srtH_chain {l : List Heading} : srtH l ↔ chain (fun a b=>befB a.name b.name) l = true:=(chain_pw (p:=fun a b : Heading=>befB a.name b.name) (l:=l) fun x _ y _ z _ h1 h2=>befB_trans (a:=x.name) (b:=y.name) (c:=z.name) h1 h2).symm
def hasN (s : Bytes) (h : Heading) : Bool:=decide (s ∈ names h)
theorem hasN_iff {s : Bytes} {h : Heading} : hasN s h = true ↔ s ∈ names h:=by unfold hasN; exact decide_eq_true_iff
def ofI (l : List Heading) (s : Bytes) : Int:=if l.any (hasN s) then ((l.findIdx (hasN s) : Nat) : Int) else -1
theorem e37 (l : List Bytes) (s : Bytes) : m37 l s = some (decide (s ∈ l)):=by
 have h1:=loop_n l (ε:=Unit ⊕ Bool) (fun _ x=>if x = s then some (.inr true) else none) (.inl ()) (step:=m37_1 l s) (fun i x hi hx=>by
  unfold m37_1;rw [if_pos (by omega),hx,Option.bind_some];by_cases h : x = s
  ·rw [if_pos h,if_pos h]
  rw [if_neg h,if_neg h]) (by unfold m37_1; rw [if_neg (by omega)])
 unfold m37;rw [h1,Option.bind_some];by_cases h : s ∈ l
 ·obtain ⟨j,hj⟩:=List.getElem?_of_mem h
  rw [goN_err (e:=.inr true) (fun j x e' h=>by
   split at h
   ·exact (Option.some.inj h).symm
   cases h) ⟨j,s,hj,by simp⟩,decide_eq_true h]
 rw [goN_out (fun j x hx=>by
  rw [if_neg]; rintro rfl; exact h (List.mem_of_getElem? hx)),decide_eq_false h]
theorem e36 {h : Heading} (hv : h.variants.length ≤ 1073741823) : m36 h = some (names h):=by
 unfold m36;rw [chk_t (by simp; omega)]; rfl
theorem e41 {l : List Heading} (hv : ∀ h ∈ l,h.variants.length ≤ 1073741823) (s : Bytes) : m41 l s = some (ofI l s):=by
 unfold m41
 rw [loop_n (ε:=Unit ⊕ Int) l (fun j x=>if hasN s x then some (.inr (j : Int)) else none) (.inl ()) (fun i x hi hx=>by
  unfold m41_1;rw [if_pos (by omega),hx,Option.bind_some,e36 (hv x (List.mem_of_getElem? hx)),Option.bind_some,e37,Option.bind_some];unfold hasN
  by_cases h : s ∈ names x <;> simp [h]) (by unfold m41_1; simp),goN_idx]
 unfold ofI;by_cases h : l.any (hasN s) = true
 ·rw [if_pos h,if_pos h,Option.bind_some]; congr 1; simp
 rw [if_neg h,if_neg h]; rfl
theorem ofI_none {l : List Heading} {s : Bytes} (h : ofI l s < 0) : ∀ k ∈ l,s ∉ names k:=by
 unfold ofI at h
 split at h
 ·omega
 rename_i hn
 intro k hk hs;exact hn (List.any_eq_true.2 ⟨k,hk,hasN_iff.2 hs⟩)
theorem ofI_some {l : List Heading} {s : Bytes} (h : 0 ≤ ofI l s) : ∃ k,l[(ofI l s).toNat]? = some k ∧ s ∈ names k ∧ ofI l s = ((ofI l s).toNat : Int):=by
 unfold ofI at h ⊢
 split
 ·rename_i ha
  have hlt:=List.findIdx_lt_length_of_exists (List.any_eq_true.1 ha);refine ⟨l[l.findIdx (hasN s)],?_,hasN_iff.1 List.findIdx_getElem,by simp⟩;simp only [Int.toNat_natCast];exact List.getElem?_eq_getElem hlt
 rename_i ha; rw [if_neg ha] at h; omega
theorem ofI_mem {l : List Heading} {s : Bytes} {k : Heading} (hk : k ∈ l) (hs : s ∈ names k) : 0 ≤ ofI l s:=by
 unfold ofI;rw [if_pos (List.any_eq_true.2 ⟨k,hk,hasN_iff.2 hs⟩)]; omega
theorem nodup_snoc {l : List Bytes} {x : Bytes} (h : l.Nodup) (hx : x ∉ l) : (l ++ [x]).Nodup:=by
 rw [List.nodup_append];exact ⟨h,by simp,fun a ha b hb=>by simp at hb; subst hb; rintro rfl; exact hx ha⟩
open Classical in
theorem goL_nodup {ε : Type} (out : List Bytes → ε) (e : ε) : ∀ (l acc : List Bytes) (i : Nat),acc.Nodup → goL (σ:=List Bytes) (fun _ x a=>if x ∈ a then .inr e else .inl (a ++ [x])) out l i acc = if (acc ++ l).Nodup then out (acc ++ l) else e
 | [],acc,i,h=>by rw [goL_nil,List.append_nil,if_pos h]
 | x :: l,acc,i,h=>by
  rw [goL_cons];by_cases hx : x ∈ acc
  ·rw [if_pos hx];simp only;rw [if_neg];intro hn;rw [List.nodup_append] at hn;exact hn.2.2 x hx x List.mem_cons_self rfl
  rw [if_neg hx];simp only;rw [goL_nodup out e l (acc ++ [x]) (i + 1) (nodup_snoc h hx),List.append_assoc];rfl
theorem flat_len {l : List Heading} (h : ∀ x ∈ l,x.variants.length ≤ 8) : (l.flatMap names).length ≤ 9 * l.length:=by
 induction l with
 | nil=>simp
 | cons x l ih =>
  have h1:=h x List.mem_cons_self;have h2:=ih fun y hy=>h y (List.mem_cons_of_mem _ hy);simp only [List.flatMap_cons,List.length_append,List.length_cons,names];omega
open Classical in
theorem fault_nd {l : List Heading} (hl : l.length ≤ 60) (hv : ∀ x ∈ l,x.variants.length ≤ 8) : loopO (m26_2 l) (0,([] : List Bytes)) = some (if (l.flatMap names).Nodup then .inl (l.flatMap names) else .inr 6):=by
 have step : ∀ i x a,i < l.length → l[i]? = some x → a.Nodup ∧ a.length ≤ 9 * i → m26_2 l (i,a) = some (if (a ++ names x).Nodup then .inl (i + 1,a ++ names x) else .inr (.inr 6)):=by
  rintro i x a hi hx ⟨hn,ha⟩;have hvx:=hv x (List.mem_of_getElem? hx);unfold m26_2;rw [if_pos (show (i : Int) < (l.length : Int) by omega),hx,Option.bind_some,e36 (by omega),Option.bind_some]
  have h3:=loop_l (names x) (σ:=List Bytes) (ε:=(List Bytes) ⊕ ((Nat × List Bytes) ⊕ ((List Bytes) ⊕ Int))) (fun _ x a=>if x ∈ a then .inr (.inr (.inr (.inr 6))) else .inl (a ++ [x])) (fun a=>.inl a) (fun j b=>b.length = a.length + j) (step:=m26_3 (names x)) (fun j y b hj hy hb=>by
   unfold m26_3;have : (names x).length = 1 + x.variants.length:=by simp [names]; omega
   rw [if_pos (show (j : Int) < ((names x).length : Int) by omega),hy,Option.bind_some,e37,Option.bind_some];by_cases hm : y ∈ b
   ·simp [hm]
   ·simp only [hm,decide_false,Bool.false_eq_true,if_false]
    rw [chk_t (by omega)])
   (fun j y b b' hj hy hb hg=>by
    split at hg
    ·cases hg
    cases hg; simp; omega)
   (fun b hb=>by unfold m26_3; simp) (a0:=a) (by simp)
  rw [h3,goL_nodup _ _ _ _ _ hn];by_cases hnd : (a ++ names x).Nodup
  ·rw [if_pos hnd,if_pos hnd]; rfl
  rw [if_neg hnd,if_neg hnd]; rfl
 have key : ∀ k i a,l.length - i = k → i ≤ l.length → a.Nodup → a.length ≤ 9 * i → loopO (m26_2 l) (i,a) = some (if (a ++ (l.drop i).flatMap names).Nodup then .inl (a ++ (l.drop i).flatMap names) else .inr 6):=by
  intro k
  induction k with
  | zero =>
   intro i a hk hi hn ha;obtain rfl : i = l.length:=by omega
   rw [List.drop_length,List.flatMap_nil,List.append_nil,if_pos hn];exact loopO_out (by unfold m26_2; simp)
  | succ k ih =>
   intro i a hk hi hn ha;have hlt : i < l.length:=by omega
   have hx : l[i]? = some l[i]:=List.getElem?_eq_getElem hlt;have hvx:=hv l[i] (List.getElem_mem hlt);have hs:=step i _ a hlt hx ⟨hn,ha⟩;rw [List.drop_eq_getElem_cons hlt,List.flatMap_cons,← List.append_assoc];by_cases hnd : (a ++ names l[i]).Nodup
   ·rw [if_pos hnd] at hs;rw [loopO_next hs,ih (i + 1) _ (by omega) (by omega) hnd (by simp [names]; omega)]
   rw [if_neg hnd] at hs;rw [loopO_out hs,if_neg];intro hc;rw [List.nodup_append] at hc;exact hnd hc.1
 have:=key l.length 0 [] (by omega) (by omega) List.nodup_nil (by simp);simpa using this
noncomputable def okA (l : List Heading) (i : Nat) (s : Bytes) : Bool:=@decide (0 ≤ ofI l s ∧ ofI l s ≠ (i : Int) ∧ ∃ k,l[(ofI l s).toNat]? = some k ∧ k.name = s) (Classical.propDecidable _)
theorem okA_iff {l : List Heading} {i : Nat} {s : Bytes} : okA l i s = true ↔ 0 ≤ ofI l s ∧ ofI l s ≠ (i : Int) ∧ ∃ k,l[(ofI l s).toNat]? = some k ∧ k.name = s:=by
 unfold okA;exact @decide_eq_true_iff _ (Classical.propDecidable _)
theorem fault_also {l : List Heading} (hv : ∀ x ∈ l,x.variants.length ≤ 8) {i : Nat} {x : Heading} (hx : l[i]? = some x) : loopO (m26_5 l i) 0 = some (if x.also.all (okA l i) then .inl () else .inr (.inr (.inr 1))):=by
 have hv' : ∀ x ∈ l,x.variants.length ≤ 1073741823:=fun y hy=>by have:=hv y hy; omega
 refine loop_all (ε:=Unit ⊕ (Nat ⊕ (Unit ⊕ Int))) x.also (okA l i) (.inr (.inr (.inr 1))) (.inl ()) (fun j s hj hs=>?_) ?_
 ·unfold m26_5;rw [hx,Option.bind_some,if_pos (by omega),hs,Option.bind_some,e41 hv',Option.bind_some];by_cases h1 : ofI l s < 0
  ·have : okA l i s = false:=by rw [← Bool.not_eq_true,okA_iff]; omega
   rw [if_pos h1,this]; rfl
  rw [if_neg h1];by_cases h2 : ofI l s = (i : Int)
  ·have : okA l i s = false:=by rw [← Bool.not_eq_true,okA_iff]; rintro ⟨_,h,_⟩; exact h h2
   rw [if_pos h2,this]; rfl
  obtain ⟨k,hk,_,_⟩:=ofI_some (l:=l) (s:=s) (by omega);rw [if_neg h2,chk_t (by omega),hk,Option.bind_some,Option.bind_some];by_cases h3 : k.name = s
  ·have : okA l i s = true:=okA_iff.2 ⟨by omega,h2,k,hk,h3⟩;rw [this]; simp [h3]
  have : okA l i s = false:=by
   rw [← Bool.not_eq_true,okA_iff];rintro ⟨_,_,k',hk',e⟩;rw [hk] at hk'; cases hk'; exact h3 e
  rw [this]; simp [h3]
 unfold m26_5;rw [hx,Option.bind_some,if_neg (by omega)]
theorem okA_all {l : List Heading} (hn : (l.flatMap names).Nodup) : (∀ (i : Nat) (x : Heading),l[i]? = some x → x.also.all (okA l i) = true) ↔ alsoP l:=by
 constructor
 ·intro h x hx s hs;obtain ⟨i,hi⟩:=List.getElem?_of_mem hx;obtain ⟨h1,h2,k,hk,e⟩:=okA_iff.1 (List.all_eq_true.1 (h i x hi) s hs);have hkl:=List.mem_of_getElem? hk;refine ⟨fun e'=>h2 ?_,k,hkl,e⟩;obtain ⟨k',hk',hs',e3⟩:=ofI_some h1;have : k' = x:=nd_uniq hn (List.mem_of_getElem? hk') hx hs' (e' ▸ name_mem x);rw [hk] at hk'; cases hk';subst this;rw [e3];congr 1;have hnn : (l.map fun y=>y.name).Nodup:=by
   clear h hi hk h1 h2 e3 hs hx hkl hs'
   induction l with
   | nil=>simp
   | cons y l ih =>
    rw [List.flatMap_cons,List.nodup_append] at hn;rw [List.map_cons,List.nodup_cons];refine ⟨fun hm=>?_,ih hn.2.1⟩;obtain ⟨z,hz,e⟩:=List.mem_map.1 hm;exact hn.2.2 y.name (name_mem y) y.name (List.mem_flatMap.2 ⟨z,hz,e ▸ name_mem z⟩) rfl
  have hl:=(List.getElem?_eq_some_iff.1 hi).1;have hl2:=(List.getElem?_eq_some_iff.1 hk).1;exact (List.getElem?_inj (by simpa using hl2) hnn).1 (by rw [List.getElem?_map,List.getElem?_map,hk,hi])
 intro h i x hx;rw [List.all_eq_true];intro s hs;obtain ⟨h1,k,hk,e⟩:=h x (List.mem_of_getElem? hx) s hs;have hp:=ofI_mem (l:=l) hk (e ▸ name_mem k);obtain ⟨k',hk',hs',e3⟩:=ofI_some hp;have : k' = k:=nd_uniq hn (List.mem_of_getElem? hk') hk hs' (e ▸ name_mem k);subst this;refine okA_iff.2 ⟨hp,fun e4=>?_,k',hk',e⟩;have : (ofI l s).toNat = i:=by omega
 rw [this,hx] at hk';cases hk';exact h1 e.symm
open Classical in
noncomputable def gF (l : List Heading) (i : Nat) (x : Heading) : Option (Unit ⊕ Int):=if (∀ y,0 < i → l[i - 1]? = some y → befB y.name x.name = true) ∧ x.also.all (okA l i) = true then none else some (.inr 1)
theorem gF_none {l : List Heading} {i : Nat} {x : Heading} : gF l i x = none ↔ (∀ y,0 < i → l[i - 1]? = some y → befB y.name x.name = true) ∧ x.also.all (okA l i) = true:=by
 unfold gF
 split
 ·rename_i h; exact ⟨fun _=>h,fun _=>rfl⟩
 rename_i h; exact ⟨fun e=>(by cases e),fun h'=>absurd h' h⟩
theorem gF_some {l : List Heading} {i : Nat} {x : Heading} (h : ¬ ((∀ y,0 < i → l[i - 1]? = some y → befB y.name x.name = true) ∧ x.also.all (okA l i) = true)) : gF l i x = some (.inr 1):=by
 unfold gF; rw [if_neg h]
open Classical in
theorem e26 (l : List Heading) : m26 l = some (faultB l):=by
 unfold m26 faultB;by_cases h1 : 60 < l.length
 ·rw [if_pos (by omega),if_pos h1]
 rw [if_neg (by omega),if_neg h1]
 have hall:=loop_all l rtB (.inr 1) (.inl ()) (step:=m26_1 l) (fun i x hi hx=>by
  unfold m26_1;rw [if_pos (by omega),hx,Option.bind_some,e64,Option.bind_some]
  cases rtB x <;> rfl) (by unfold m26_1; simp)
 rw [hall];by_cases h2 : ∀ h ∈ l,Rt h
 ·have hb : l.all rtB = true:=List.all_eq_true.2 fun h hh=>rtB_iff.2 (h2 h hh);have hv : ∀ x ∈ l,x.variants.length ≤ 8:=fun x hx=>(h2 x hx).2.1.1;rw [hb,if_pos rfl,Option.bind_some,fault_nd (by omega) hv,if_neg (show ¬ ¬ ∀ h ∈ l,Rt h from fun h=>h h2)];by_cases h3 : (l.flatMap names).Nodup
  ·rw [if_pos h3,if_neg (show ¬ ¬ (l.flatMap names).Nodup from fun h=>h h3)];simp only [Option.bind_some];have hstep : ∀ i x,i < l.length → l[i]? = some x → m26_4 l i = some (match gF l i x with | none=>.inl (i + 1) | some e=>.inr e):=by
    intro i x hi hx;have ha:=fault_also hv hx;unfold m26_4;rw [if_pos (by omega)];by_cases hi0 : 0 < i
    ·have hy : l[i - 1]? = some l[i - 1]:=List.getElem?_eq_getElem (by omega);rw [if_pos (by omega),show ((i : Int) - 1).toNat = i - 1 by omega,hy,Option.bind_some,hx,Option.bind_some,e35 (name_big (h2 _ (List.mem_of_getElem? hy)).1) (name_big (h2 x (List.mem_of_getElem? hx)).1),Option.bind_some,Option.bind_some]
     cases hb : befB l[i - 1].name x.name with
     | false =>
      rw [gF_some (fun h=>by
       have:=h.1 _ hi0 hy
       rw [hb] at this; cases this)]
      rfl
     | true =>
      rw [if_neg (by decide),ha];by_cases hc : x.also.all (okA l i) = true
      ·rw [if_pos hc,gF_none.2 ⟨fun y _ h=>by rw [hy] at h; cases h; exact hb,hc⟩]; rfl
      rw [if_neg hc,gF_some (fun h=>hc h.2)]; rfl
    rw [if_neg (by omega),Option.bind_some,if_neg (by decide),ha];by_cases hc : x.also.all (okA l i) = true
    ·rw [if_pos hc,gF_none.2 ⟨fun y h=>absurd h hi0,hc⟩]; rfl
    rw [if_neg hc,gF_some (fun h=>hc h.2)]; rfl
   rw [loop_n (ε:=Unit ⊕ Int) l (gF l) (.inl ()) (fun i x hi hx=>by rw [hstep i x hi hx]; cases gF l i x <;> rfl) (by unfold m26_4; rw [if_neg (by omega)])];by_cases h4 : alsoP l ∧ srtH l
   ·rw [if_neg (show ¬ ¬ (alsoP l ∧ srtH l) from fun h=>h h4),goN_out]
    ·rfl
    intro j x hx;rw [Nat.zero_add,gF_none];refine ⟨fun y hj hy=>?_,(okA_all h3).2 h4.1 j x hx⟩;exact chain_ix.1 (srtH_chain.1 h4.2) (j - 1) y x hy (by rwa [show j - 1 + 1 = j by omega])
   rw [if_pos h4,goN_err (e:=.inr 1)]
   ·rfl
   ·intro j x e' h;unfold gF at h
    split at h
    ·cases h
    exact (Option.some.inj h).symm
   apply Classical.byContradiction;intro hc;apply h4;have hall : ∀ j x,l[j]? = some x → (∀ y,0 < j → l[j - 1]? = some y → befB y.name x.name = true) ∧ x.also.all (okA l j) = true:=by
    intro j x hx;apply Classical.byContradiction;intro hn;exact hc ⟨j,x,hx,by rw [Nat.zero_add,gF_some hn]; simp⟩
   refine ⟨(okA_all h3).1 fun i x hx=>(hall i x hx).2,srtH_chain.2 (chain_ix.2 fun i x y hx hy=>?_)⟩;exact (hall (i + 1) y hy).1 x (by omega) (by simpa using hx)
  rw [if_neg h3,if_pos h3]; rfl
 have hb : l.all rtB = false:=by
  rw [← Bool.not_eq_true,List.all_eq_true];intro h; exact h2 fun x hx=>rtB_iff.1 (h x hx)
 rw [hb,if_pos h2]; rfl
end T11
namespace T11
open Go Go.Proofs Pk
def mapFrom : Nat → List Heading → List (Bytes × Int)
 | _,[]=>[]
 | i,h :: l=>(names h).map (fun s=>(s,(i : Int))) ++ mapFrom (i + 1) l
theorem lkp_iff {α : Type} : ∀ {m : List (Bytes × α)} {s : Bytes},(lkp m s).isSome = true ↔ s ∈ m.map Prod.fst
 | [],s=>by simp [lkp]
 | (k,x) :: m,s=>by
  simp only [lkp,List.map_cons,List.mem_cons];by_cases h : s = k
  ·simp [h]
  rw [if_neg h,lkp_iff]; simp [h]
theorem put_abs {α : Type} {m : List (Bytes × α)} {s : Bytes} (y : α) (h : s ∉ m.map Prod.fst) : put m s y = m ++ [(s,y)]:=by
 refine put_none y ?_
 cases hl : lkp m s with
 | none=>rfl
 | some v=>exact absurd (lkp_iff.1 (by rw [hl]; rfl)) h
theorem lkp_app {α : Type} : ∀ (a b : List (Bytes × α)) (s : Bytes),lkp (a ++ b) s = (lkp a s).or (lkp b s)
 | [],b,s=>by simp [lkp]
 | (k,x) :: a,b,s=>by
  simp only [List.cons_append,lkp];by_cases h : s = k
  ·simp [h]
  rw [if_neg h,if_neg h,lkp_app a b s]
theorem lkp_const (i : Int) : ∀ (l : List Bytes) (s : Bytes),lkp (l.map fun t=>(t,i)) s = if s ∈ l then some i else none
 | [],s=>by simp [lkp]
 | t :: l,s=>by
  simp only [List.map_cons,lkp,List.mem_cons];by_cases h : s = t
  ·simp [h]
  rw [if_neg h,lkp_const i l s]; simp [h]
theorem lkp_from : ∀ (l : List Heading) (i : Nat) (s : Bytes),lkp (mapFrom i l) s = if l.any (hasN s) then some (((i + l.findIdx (hasN s) : Nat) : Int)) else none
 | [],i,s=>by simp [mapFrom,lkp]
 | h :: l,i,s=>by
  simp only [mapFrom,lkp_app,lkp_const,List.any_cons,List.findIdx_cons];by_cases hs : s ∈ names h
  ·rw [if_pos hs,hasN_iff.2 hs]; simp
  have : hasN s h = false:=by rw [← Bool.not_eq_true,hasN_iff]; exact hs
  rw [if_neg hs,this,lkp_from l (i + 1) s];by_cases ha : l.any (hasN s) = true
  ·simp [ha]; omega
  simp [ha]
theorem lkp_ofI {l : List Heading} {s : Bytes} : lkp (mapFrom 0 l) s = if 0 ≤ ofI l s then some (ofI l s) else none:=by
 rw [lkp_from];unfold ofI;by_cases ha : l.any (hasN s) = true
 ·rw [if_pos ha,if_pos ha,if_pos (by omega)]; simp
 rw [if_neg ha,if_neg ha]; rfl
open Classical in
theorem goL_map {ε : Type} (i : Int) (out : List (Bytes × Int) → ε) (e : List (Bytes × Int) → ε) : ∀ (l : List Bytes) (m : List (Bytes × Int)) (k : Nat),(m.map Prod.fst).Nodup →
  ∃ m',goL (σ:=List (Bytes × Int)) (fun _ x a=>if (lkp a x).isSome then .inr (e a) else .inl (put a x i)) out l k m = if (m.map Prod.fst ++ l).Nodup then out (m ++ l.map fun s=>(s,i)) else e m'
 | [],m,k,h=>⟨m,by rw [goL_nil,List.append_nil,if_pos h]; simp⟩
 | x :: l,m,k,h=>by
  rw [goL_cons];by_cases hx : x ∈ m.map Prod.fst
  ·refine ⟨m,?_⟩;rw [if_pos (lkp_iff.2 hx)];simp only;rw [if_neg];intro hn;rw [List.nodup_append] at hn;exact hn.2.2 x hx x List.mem_cons_self rfl
  rw [if_neg (fun h=>hx (lkp_iff.1 h)),put_abs i hx];simp only;have h2 : ((m ++ [(x,i)]).map Prod.fst).Nodup:=by
   rw [List.map_append]; exact nodup_snoc h hx
  obtain ⟨m',h3⟩:=goL_map i out e l (m ++ [(x,i)]) (k + 1) h2;refine ⟨m',?_⟩;rw [h3,List.map_append,List.append_assoc,List.append_assoc];rfl
open Classical in
theorem check_nd (l : List Heading) : loopO (m50_1 l) (0,([] : List (Bytes × Int))) = some (if (l.flatMap names).Nodup then .inl (mapFrom 0 l) else .inr ([],6)):=by
 have step : ∀ i x m,i < l.length → l[i]? = some x → (m.map Prod.fst).Nodup → m50_1 l (i,m) = some (if (m.map Prod.fst ++ names x).Nodup then .inl (i + 1,m ++ (names x).map fun s=>(s,(i : Int))) else .inr (.inr ([],6))):=by
  intro i x m hi hx hn;unfold m50_1;rw [if_pos (show (i : Int) < (l.length : Int) by omega),hx,Option.bind_some];by_cases h0 : x.name ∈ m.map Prod.fst
  ·rw [if_pos (lkp_iff.2 h0),if_neg]
   ·rfl
   intro hc;rw [List.nodup_append] at hc;exact hc.2.2 _ h0 _ (name_mem x) rfl
  rw [if_neg (fun h=>h0 (lkp_iff.1 h)),put_abs _ h0];have h2 : ((m ++ [(x.name,(i : Int))]).map Prod.fst).Nodup:=by
   rw [List.map_append]; exact nodup_snoc hn h0
  have h3:=loop_l x.variants (σ:=List (Bytes × Int)) (ε:=(((List (Bytes × Int))) ⊕ ((Nat × (List (Bytes × Int))) ⊕ ((List (Bytes × Int)))))) (fun _ y a=>if (lkp a y).isSome then .inr (.inr (.inl (6,a))) else .inl (put a y (i : Int))) (fun a=>.inl a) (fun _ _=>True) (step:=m50_2 x (i,m)) (fun j y b hj hy _=>by
   unfold m50_2;rw [if_pos (show (j : Int) < (x.variants.length : Int) by omega),hy,Option.bind_some];by_cases hm : (lkp b y).isSome = true
   ·rw [if_pos hm,if_pos hm]; rfl
   rw [if_neg hm,if_neg hm]; rfl) (fun _ _ _ _ _ _ _ _=>trivial) (fun b _=>by unfold m50_2; simp) (a0:=m ++ [(x.name,(i : Int))]) trivial
  obtain ⟨m',h4⟩:=goL_map (ε:=(((List (Bytes × Int))) ⊕ ((Nat × (List (Bytes × Int))) ⊕ ((List (Bytes × Int)))))) (i : Int) (fun a=>.inl a) (fun a=>.inr (.inl (6,a))) x.variants (m ++ [(x.name,(i : Int))]) 0 h2;have e1 : (m ++ [(x.name,(i : Int))]).map Prod.fst ++ x.variants = m.map Prod.fst ++ names x:=by simp [names]
  have e2 : (m ++ [(x.name,(i : Int))]) ++ x.variants.map (fun s=>(s,(i : Int))) = m ++ (names x).map (fun s=>(s,(i : Int))):=by simp [names]
  rw [e1,e2] at h4;simp only [Option.bind_some];rw [h3,h4];by_cases hnd : (m.map Prod.fst ++ names x).Nodup
  ·rw [if_pos hnd,if_pos hnd]; rfl
  rw [if_neg hnd,if_neg hnd]; rfl
 have key : ∀ k i m,l.length - i = k → i ≤ l.length → (m.map Prod.fst).Nodup → loopO (m50_1 l) (i,m) = some (if (m.map Prod.fst ++ (l.drop i).flatMap names).Nodup then .inl (m ++ mapFrom i (l.drop i)) else .inr ([],6)):=by
  intro k
  induction k with
  | zero =>
   intro i m hk hi hn;obtain rfl : i = l.length:=by omega
   rw [List.drop_length,List.flatMap_nil,List.append_nil,if_pos hn];simp only [mapFrom,List.append_nil];exact loopO_out (by unfold m50_1; simp)
  | succ k ih =>
   intro i m hk hi hn;have hlt : i < l.length:=by omega
   have hx : l[i]? = some l[i]:=List.getElem?_eq_getElem hlt;have hs:=step i _ m hlt hx hn;rw [List.drop_eq_getElem_cons hlt,List.flatMap_cons,← List.append_assoc];by_cases hnd : (m.map Prod.fst ++ names l[i]).Nodup
   ·rw [if_pos hnd] at hs;have e1 : (m ++ (names l[i]).map fun s=>(s,(i : Int))).map Prod.fst = m.map Prod.fst ++ names l[i]:=by simp [Function.comp_def]
    rw [loopO_next hs,ih (i + 1) _ (by omega) (by omega) (by rw [e1]; exact hnd),e1,List.append_assoc];simp only [mapFrom,List.append_assoc]
   rw [if_neg hnd] at hs;rw [loopO_out hs,if_neg];intro hc;rw [List.nodup_append] at hc;exact hnd hc.1
 have:=key l.length 0 [] (by omega) (by omega) List.nodup_nil;simpa using this
def alsoB (l : List Heading) (h : Heading) : Bool:=decide (∀ s ∈ h.also,s ≠ h.name ∧ ∃ k ∈ l,k.name = s)
theorem e79 {l : List Heading} (hn : (l.flatMap names).Nodup) (h : Heading) : m79 h (mapFrom 0 l) l = some (alsoB l h):=by
 unfold m79;rw [bd_self];have h0 : m80 h.also (fun x0_=>m81 x0_ (mapFrom 0 l) l h) = gAll h.also (fun x0_=>m81 x0_ (mapFrom 0 l) l h):=rfl
 rw [h0,gAll_some (fun s=>decide (s ≠ h.name ∧ ∃ k ∈ l,k.name = s)) (fun s hs=>by
  unfold m81;rw [bd_self,lkp_ofI];by_cases hp : 0 ≤ ofI l s
  ·obtain ⟨k,hk,hs',e⟩:=ofI_some hp;rw [if_pos hp,if_pos (by rfl)];simp only [Option.getD_some];rw [chk_t hp,hk,Option.bind_some];by_cases hkn : k.name = s
   ·rw [if_pos hkn];congr 1;rw [Bool.eq_iff_iff,decide_eq_true_eq,decide_eq_true_eq];exact ⟨fun h=>⟨h,k,List.mem_of_getElem? hk,hkn⟩,fun h=>h.1⟩
   rw [if_neg hkn];congr 1
   symm
   rw [decide_eq_false_iff_not];rintro ⟨_,k',hk',e'⟩;have : k' = k:=nd_uniq hn hk' (List.mem_of_getElem? hk) (e' ▸ name_mem k') hs';exact hkn (this ▸ e')
  rw [if_neg hp,if_neg (by simp)];congr 1
  symm
  rw [decide_eq_false_iff_not];rintro ⟨_,k',hk',e'⟩
  exact ofI_none (by omega) k' hk' (e' ▸ name_mem k'))]
 congr 1;unfold alsoB;rw [Bool.eq_iff_iff,List.all_eq_true,decide_eq_true_eq];exact ⟨fun h s hs=>of_decide_eq_true (h s hs),fun h s hs=>decide_eq_true (h s hs)⟩
theorem e82 {l : List Heading} (h : ∀ x ∈ l,nameB x.name = true) : m82 l m83 = some (chain (fun a b=>befB a.name b.name) l):=by
 have h0 : m82 l m83 = gRise l m83:=rfl;rw [h0];exact gRise_some _ fun x hx y hy=>by unfold m83; rw [bd_self]; exact e32 (name_big (h x hx)) (name_big (h y hy))
noncomputable def mapOf (l : List Heading) : List (Bytes × Int):=if faultB l = 0 then mapFrom 0 l else []
theorem e50 (l : List Heading) : m50 l = some (mapOf l,faultB l):=by
 have hv : ∀ v,faultB l = v → m50 l = some (if v = 0 then mapFrom 0 l else [],v) → m50 l = some (mapOf l,faultB l):=by
  rintro v rfl h; rw [h]; rfl
 by_cases h1 : 60 < l.length
 ·refine hv 3 (by unfold faultB; rw [if_pos h1]) ?_;unfold m50; rw [if_pos (by omega)]; rfl
 by_cases h2 : ∀ h ∈ l,Rt h
 ·have hb : l.all rtB = true:=List.all_eq_true.2 fun h hh=>rtB_iff.2 (h2 h hh);by_cases h3 : (l.flatMap names).Nodup
  ·have e79' : m77 l (fun x0_=>m79 x0_ (mapFrom 0 l) l) = some (l.all (alsoB l)):=by
    have h0 : m77 l (fun x0_=>m79 x0_ (mapFrom 0 l) l) = gAll l (fun x0_=>m79 x0_ (mapFrom 0 l) l):=rfl;rw [h0]; exact gAll_some (alsoB l) fun x _=>e79 h3 x
   have hal : l.all (alsoB l) = true ↔ alsoP l:=by
    rw [List.all_eq_true];unfold alsoB alsoP;exact ⟨fun h x hx=>of_decide_eq_true (h x hx),fun h x hx=>decide_eq_true (h x hx)⟩
   have base : m50 l = ((if l.all (alsoB l) then some (!chain (fun a b : Heading=>befB a.name b.name) l) else some true : Option Bool).bind fun t586=>if t586 then some ([],1) else some (mapFrom 0 l,0)):=by
    unfold m50;rw [if_neg (by omega),e77,Option.bind_some,if_pos hb,check_nd,if_pos h3];simp only [Option.bind_some];rw [e79',Option.bind_some,e82 (fun x hx=>(h2 x hx).1)];rfl
   by_cases h4 : alsoP l ∧ srtH l
   ·refine hv 0 (fault0.2 ⟨by omega,h2,h3,h4.1,h4.2⟩) ?_;rw [base,if_pos (hal.2 h4.1),srtH_chain.1 h4.2]; rfl
   refine hv 1 ?_ ?_
   ·unfold faultB;rw [if_neg h1,if_neg (fun h=>h h2),if_neg (fun h=>h h3),if_pos h4]
   rw [base];by_cases ha : l.all (alsoB l) = true
   ·have hs : chain (fun a b : Heading=>befB a.name b.name) l = false:=by
     rw [← Bool.not_eq_true]; intro hc; exact h4 ⟨hal.1 ha,srtH_chain.2 hc⟩
    rw [if_pos ha,hs]; rfl
   rw [if_neg ha]; rfl
  refine hv 6 ?_ ?_
  ·unfold faultB;rw [if_neg h1,if_neg (fun h=>h h2),if_pos h3]
  unfold m50;rw [if_neg (by omega),e77,Option.bind_some,if_pos hb,check_nd,if_neg h3]; rfl
 have hb : l.all rtB = false:=by
  rw [← Bool.not_eq_true,List.all_eq_true];intro h; exact h2 fun x hx=>rtB_iff.1 (h x hx)
 refine hv 1 (by unfold faultB; rw [if_neg h1,if_pos h2]) ?_;unfold m50;rw [if_neg (by omega),e77,Option.bind_some,hb]; rfl
theorem mapOf_ix {l : List Heading} (h : Ix l) : mapOf l = mapFrom 0 l:=by unfold mapOf; rw [if_pos (fault0.2 h)]
end T11
namespace T11
open Go Go.Proofs Pk
section
variable {α σ ε : Type}
theorem loop_s (l : List α) (g : Nat → α → σ → σ ⊕ ε) (out : σ → ε) (I : Nat → σ → Prop) {step : σ × Nat → Option ((σ × Nat) ⊕ ε)}
  (hs : ∀ i x a,i < l.length → l[i]? = some x → I i a → step (a,i) = some (match g i x a with | .inl a'=>.inl (a',i + 1) | .inr e=>.inr e))
  (hI : ∀ i x a a',i < l.length → l[i]? = some x → I i a → g i x a = .inl a' → I (i + 1) a')
  (he : ∀ a,I l.length a → step (a,l.length) = some (.inr (out a))) {a0 : σ} (h0 : I 0 a0) : loopO step (a0,0) = some (goL g out l 0 a0):=by
 have key : ∀ k i a,l.length - i = k → i ≤ l.length → I i a → loopO step (a,i) = some (goL g out (l.drop i) i a):=by
  intro k
  induction k with
  | zero =>
   intro i a hk hi hIa;obtain rfl : i = l.length:=by omega
   rw [loopO_out (he a hIa),List.drop_length,goL_nil]
  | succ k ih =>
   intro i a hk hi hIa;have hlt : i < l.length:=by omega
   have hx : l[i]? = some l[i]:=List.getElem?_eq_getElem hlt;rw [List.drop_eq_getElem_cons hlt,goL_cons];have h1:=hs i _ a hlt hx hIa
   cases hg : g i l[i] a with
   | inl a' =>
    rw [hg] at h1;rw [loopO_next h1,ih (i + 1) a' (by omega) (by omega) (hI i _ a a' hlt hx hIa hg)]
   | inr e =>
    rw [hg] at h1;rw [loopO_out h1]
 have:=key l.length 0 a0 (by omega) (by omega) h0;simpa using this
end
def shortB (l : List Bytes) (n : Nat) : Bool:=l.all (fun s=>decide (s.length ≤ 45)) && decide (l.length ≤ n)
def thinH (h : Heading) : Bool:=decide (h.name.length ≤ 45) && (shortB h.variants 10 && (shortB h.also 10 && decide (h.places.length ≤ 35)))
def thinB (l : List Heading) (n : Nat) : Bool:=decide (l.length ≤ n) && l.all thinH
theorem e76 (l : List Bytes) (n : Nat) : m76 l (n : Int) = some (shortB l n):=by
 unfold m76 shortB
 rw [loop_all (ε:=Unit ⊕ Bool) l (fun s=>decide (s.length ≤ 45)) (.inr false) (.inl ()) (step:=m76_1 l) (fun i x hi hx=>by
  unfold m76_1;rw [if_pos (by omega),hx,Option.bind_some];by_cases h : x.length ≤ 45
  ·rw [if_neg (by omega),decide_eq_true h]; rfl
  rw [if_pos (by omega),decide_eq_false h]; rfl) (by unfold m76_1; rw [if_neg (by omega)])]
 cases l.all fun s=>decide (s.length ≤ 45) with
 | false=>rfl
 | true =>
  simp only [Option.bind_some,if_true,Bool.true_and];congr 1;rw [Bool.eq_iff_iff,decide_eq_true_eq,decide_eq_true_eq]; omega
theorem e49 (l : List Heading) (n : Nat) : m49 l (n : Int) = some (thinB l n):=by
 unfold m49 thinB;by_cases h : l.length ≤ n
 ·rw [if_neg (by omega),decide_eq_true h]
  rw [loop_all (ε:=Unit ⊕ Bool) l thinH (.inr false) (.inl ()) (step:=m49_1 l) (fun i x hi hx=>by
   unfold m49_1;rw [if_pos (by omega),hx,Option.bind_some];unfold thinH;by_cases h1 : x.name.length ≤ 45
   ·rw [if_neg (by omega),decide_eq_true h1,show (10 : Int) = ((10 : Nat) : Int) from rfl,e76,Option.bind_some]
    cases shortB x.variants 10 with
    | false=>rfl
    | true =>
     rw [if_pos rfl,e76,Option.bind_some]
     cases shortB x.also 10 with
     | false=>rfl
     | true =>
      rw [if_pos rfl,Option.bind_some];by_cases h2 : x.places.length ≤ 35
      ·rw [decide_eq_true h2,decide_eq_false (by omega)]; rfl
      rw [decide_eq_false h2,decide_eq_true (by omega)]; rfl
   rw [if_pos (by omega),decide_eq_false h1]; rfl) (by unfold m49_1; rw [if_neg (by omega)])]
  cases l.all thinH <;> rfl
 rw [if_pos (by omega),decide_eq_false h]; rfl
theorem e62 {l : List Bytes} (h : l.length ≤ 1073741824) : m62 l = some l:=by
 unfold m62;rw [chk_t (by simpa using h)]; rfl
theorem e24 {l : List Heading} (hl : l.length ≤ 1000000) (hx : ∀ x ∈ l,x.variants.length ≤ 1000000 ∧ x.also.length ≤ 1000000 ∧ x.places.length ≤ 1000000) : m24 l = some l:=by
 unfold m24
 rw [loop_map l (fun x=>x) (fun a=>a) (step:=m24_1 l) (fun i x a hi hxi ha=>by
  have hb:=hx x (List.mem_of_getElem? hxi);unfold m24_1;rw [if_pos (show (i : Int) < (l.length : Int) by omega),hxi,Option.bind_some,e62 (by omega),Option.bind_some,e62 (by omega),Option.bind_some]
  rw [loop_map x.places (fun p=>p) (fun a=>a) (step:=m24_2 x) (fun j p b hj hp hb'=>by
   unfold m24_2
   rw [if_pos (show (j : Int) < (x.places.length : Int) by omega),hp,Option.bind_some,chk_t (by simp only; omega)]) (fun b=>by unfold m24_2; rw [if_neg (by simp)])]
  rw [Option.bind_some,chk_t (by simp only; omega)]
  simp only [List.map_id']) (fun a=>by unfold m24_1; rw [if_neg (by simp)])]
 simp
theorem e34 (l : List Heading) : m34 l = some (faultB l):=by unfold m34; rw [e50]; rfl
def stB (v c : Int) (h : Heading) : Bool:=h.places.any fun p=>decide (p.volume = v ∧ p.from_ ≤ c ∧ c ≤ p.to_)
theorem stB_iff {v c : Int} {h : Heading} : stB v c h = true ↔ stP h.places v c:=by
 unfold stB stP;rw [List.any_eq_true];simp only [decide_eq_true_eq]
theorem e73 (p : Place) (v c : Int) : m73 p ⟨v,c⟩ = some (decide (p.volume = v ∧ p.from_ ≤ c ∧ c ≤ p.to_)):=by
 unfold m73;by_cases h : p.volume = v
 ·rw [if_pos h,e72]; simp [h]
 rw [if_neg h]; simp [h]
theorem under_loop {l : List Heading} (hl : l.length ≤ 1000000) (v c : Int) : loopO (m33_1 l v c) (0,([] : List Bytes)) = some ((l.filter (stB v c)).map (·.name)):=by
 have h1:=loop_l l (σ:=List Bytes) (ε:=List Bytes) (fun _ x a=>.inl (if stB v c x then a ++ [x.name] else a)) (fun a=>a) (fun i a=>a.length ≤ i) (step:=m33_1 l v c) (fun i x a hi hx ha=>by
  unfold m33_1;rw [if_pos (show (i : Int) < (l.length : Int) by omega),hx,Option.bind_some]
  have h2:=loop_n x.places (ε:=Unit ⊕ List Bytes) (fun _ p=>if p.volume = v ∧ p.from_ ≤ c ∧ c ≤ p.to_ then some (.inr (a ++ [x.name])) else none) (.inl ()) (step:=m33_2 x v c (i,a)) (fun j p hj hp=>by
   unfold m33_2;rw [if_pos (by omega),hp,Option.bind_some,e73,Option.bind_some];by_cases hc : p.volume = v ∧ p.from_ ≤ c ∧ c ≤ p.to_
   ·rw [if_pos (by simpa using hc),if_pos hc,chk_t (by simp only; omega)]; rfl
   rw [if_neg (by simpa using hc),if_neg hc]) (by unfold m33_2; rw [if_neg (by omega)])
  rw [h2]
  cases hs : stB v c x with
  | true =>
   obtain ⟨p,hp,h3⟩:=stB_iff.1 hs;obtain ⟨j,hj⟩:=List.getElem?_of_mem hp
   rw [goN_err (e:=.inr (a ++ [x.name])) (fun j p e' h=>by
    split at h
    ·exact (Option.some.inj h).symm
    cases h) ⟨j,p,hj,by rw [if_pos h3]; simp⟩]
   rfl
  | false =>
   rw [goN_out (fun j p hp=>by
    rw [if_neg];intro h3;rw [← Bool.not_eq_true,stB_iff] at hs
    exact hs ⟨p,List.mem_of_getElem? hp,h3⟩)]
   rfl)
  (fun i x a a' hi hx ha hg=>by
   cases hg
   split
   ·simp; omega
   omega)
  (fun a ha=>by unfold m33_1; rw [if_neg (by simp)]) (a0:=[]) (by simp)
 rw [h1];congr 1;have : ∀ (l : List Heading) (i : Nat) (a : List Bytes),goL (σ:=List Bytes) (ε:=List Bytes) (fun _ x a=>.inl (if stB v c x then a ++ [x.name] else a)) (fun a=>a) l i a = a ++ (l.filter (stB v c)).map (·.name):=by
  intro l
  induction l with
  | nil=>intro i a; simp [goL_nil]
  | cons x l ih =>
   intro i a;rw [goL_cons];simp only;rw [ih];by_cases h : stB v c x = true
   ·simp [h]
   simp [h]
 exact this l 0 []
theorem e33 {l : List Heading} (v c : Int) : m33 l v c = some (if faultB l ≠ 0 then ([],faultB l) else if (1 ≤ v ∧ v ≤ 999) ∧ 1 ≤ c ∧ c ≤ 9999 then ((l.filter (stB v c)).map (·.name),0) else ([],2)):=by
 unfold m33;rw [e50,Option.bind_some];by_cases h : faultB l = 0
 ·rw [if_neg (by simpa using h),if_neg (by simpa using h),e72,Option.bind_some];by_cases h1 : 1 ≤ v ∧ v ≤ 999
  ·rw [if_pos (by simpa using h1),e72,Option.bind_some,Option.bind_some];by_cases h2 : 1 ≤ c ∧ c ≤ 9999
   ·rw [if_neg (by simp; omega),under_loop (by have:=(fault0.1 h).len; omega),if_pos ⟨h1,h2⟩]; rfl
   rw [if_pos (by simp; omega),if_neg (fun h=>h2 h.2)]
  rw [if_neg (by simpa using h1),Option.bind_some,if_pos rfl,if_neg (fun h=>h1 h.1)]
 rw [if_pos (by simpa using h),if_pos (by simpa using h)]
noncomputable def readyB (l : List Heading) : Bool:=thinB l 60 && @decide (Ix l) (Classical.propDecidable _)
theorem e31 (l : List Heading) : m31 l = some (readyB l):=by
 unfold m31 readyB;rw [show (60 : Int) = ((60 : Nat) : Int) from rfl,e49,Option.bind_some]
 cases thinB l 60 with
 | false=>rfl
 | true =>
  rw [if_pos rfl,e26,Option.bind_some,Option.bind_some,Bool.true_and];congr 1;rw [Bool.eq_iff_iff,decide_eq_true_eq,fault0];exact (@decide_eq_true_iff _ (Classical.propDecidable _)).symm
end T11
namespace T11
open Go Go.Proofs Pk
def zeroH : Heading:=⟨[],[],[],[]⟩
theorem e75 {x : Heading} (h : x.variants.length ≤ 1000000 ∧ x.also.length ≤ 1000000 ∧ x.places.length ≤ 1000000) : m75 x = some x:=by
 unfold m75 m112 m113;rw [chk_t (by simp; omega),Option.bind_some,chk_t (by simp; omega),Option.bind_some,chk_t (by simp; omega),Option.bind_some];simp
theorem Ix.small {l : List Heading} (h : Ix l) {x : Heading} (hx : x ∈ l) : x.variants.length ≤ 8 ∧ x.also.length ≤ 8 ∧ x.places.length ≤ 30:=h.fits.2 x hx
def leadO (l : List Heading) (s : Bytes) : Heading × Int:=if 0 ≤ ofI l s then ((l[(ofI l s).toNat]?).getD zeroH,0) else (zeroH,7)
theorem e39 (l : List Heading) (s : Bytes) : m39 l s = some (if faultB l ≠ 0 then (zeroH,faultB l) else leadO l s):=by
 unfold m39;rw [e50,Option.bind_some];by_cases h : faultB l = 0
 ·have hI:=fault0.1 h;rw [mapOf_ix hI];simp only [h,ne_eq,not_true_eq_false,if_false,lkp_ofI];unfold leadO;by_cases hp : 0 ≤ ofI l s
  ·obtain ⟨k,hk,_,_⟩:=ofI_some hp;have hb:=hI.small (List.mem_of_getElem? hk);rw [if_pos hp,if_pos hp,if_pos (show (some (ofI l s)).isSome = true from rfl)];simp only [Option.getD_some];rw [chk_t hp,hk,Option.bind_some,e75 (by omega),Option.bind_some]; rfl
  rw [if_neg hp,if_neg hp]; rfl
 rw [if_pos (by simpa using h),if_pos (by simpa using h)]; rfl
end T11
namespace T11
open Go Go.Proofs Pk
def sIns (x : Bytes) (a : List Bytes) : List Bytes:=a.filter (fun y=>befB y x) ++ x :: a.filter (fun y=>!befB y x)
theorem sIns_mem {x s : Bytes} {a : List Bytes} : s ∈ sIns x a ↔ s = x ∨ s ∈ a:=by
 unfold sIns;simp only [List.mem_append,List.mem_cons,List.mem_filter,Bool.not_eq_true'];constructor
 ·rintro (⟨h,_⟩ | h | ⟨h,_⟩)
  ·exact .inr h
  ·exact .inl h
  exact .inr h
 rintro (h | h)
 ·exact .inr (.inl h)
 cases hb : befB s x
 ·exact .inr (.inr ⟨h,rfl⟩)
 exact .inl ⟨h,rfl⟩
theorem sIns_sorted {x : Bytes} {a : List Bytes} (ha : a.Pairwise ltB) (hx : x ∉ a) : (sIns x a).Pairwise ltB:=by
 unfold sIns;rw [List.pairwise_append];refine ⟨ha.sublist List.filter_sublist,List.pairwise_cons.2 ⟨fun y hy=>?_,ha.sublist List.filter_sublist⟩,fun y hy z hz=>?_⟩
 ·obtain ⟨h1,h2⟩:=List.mem_filter.1 hy;have hne : y ≠ x:=fun e=>hx (e ▸ h1);rcases ltB_tot hne with h | h
  ·unfold ltB at h; rw [h] at h2; cases h2
  exact h
 obtain ⟨h1,h2⟩:=List.mem_filter.1 hy;rcases List.mem_cons.1 hz with rfl | hz
 ·exact h2
 obtain ⟨h3,h4⟩:=List.mem_filter.1 hz;have hne : z ≠ x:=fun e=>hx (e ▸ h3);rcases ltB_tot hne with h | h
 ·unfold ltB at h; rw [h] at h4; cases h4
 exact ltB_trans h2 h
theorem ins_loop {x : Bytes} (hxl : x.length ≤ 1073741824) : ∀ (n : Nat) (a b : List Bytes),a.length = n → n ≤ 1000000000 → (∀ y ∈ a,y.length ≤ 1073741824) → a.Pairwise ltB → x ∉ a → loopO m38_2 ((n : Int),a ++ x :: b) = some (sIns x a ++ b)
 | 0,a,b,hn,_,_,_,_=>by
  rw [List.length_eq_zero_iff.1 hn];exact loopO_out (by unfold m38_2; simp [sIns])
 | n + 1,a,b,hn,hb,hl,hs,hx=>by
  obtain ⟨a',y,rfl⟩ : ∃ a' y,a = a' ++ [y]:=⟨a.dropLast,a.getLast (by intro e; subst e; simp at hn),(List.dropLast_concat_getLast _).symm⟩;have hn' : a'.length = n:=by simpa using hn
  have hyl:=hl y (by simp);have hne : y ≠ x:=fun e=>hx (by simp [e]);obtain ⟨hs1,_,hs2⟩:=List.pairwise_append.1 hs;have g1 : (a' ++ [y] ++ x :: b)[n + 1]? = some x:=by
   rw [List.getElem?_append_right (by simp; omega)]; simp [hn']
  have g0 : (a' ++ [y] ++ x :: b)[n]? = some y:=by
   rw [List.append_assoc,List.getElem?_append_right (by omega)]; simp [hn']
  have s1 : (a' ++ [y] ++ x :: b).set (n + 1) y = a' ++ y :: y :: b:=by
   rw [List.append_assoc,List.set_append_right _ _ (by omega)]; simp [hn',show n + 1 - n = 1 by omega]
  have s2 : (a' ++ y :: y :: b).set n x = a' ++ x :: y :: b:=by
   rw [List.set_append_right _ _ (by omega)]; simp [hn']
  have t1 : (((n + 1 : Nat) : Int)).toNat = n + 1:=by omega
  have t0 : (((n + 1 : Nat) : Int) - 1).toNat = n:=by omega
  have cond : m38_2 (((n + 1 : Nat) : Int),a' ++ [y] ++ x :: b) = some (if befB x y then .inl ((n : Int),a' ++ x :: (y :: b)) else .inr (a' ++ [y] ++ x :: b)):=by
   unfold m38_2;simp only;rw [if_pos (by omega),t1,t0,g1,Option.bind_some,chk_t (by omega),g0,Option.bind_some,e35 hxl hyl,Option.bind_some,Option.bind_some]
   cases hbf : befB x y with
   | false=>rfl
   | true =>
    rw [if_pos rfl,chk_t (by omega),chk_t (by omega),Option.bind_some,chk_t (by omega),Option.bind_some,s1];have g2 : (a' ++ y :: y :: b)[n]? = some y:=by rw [List.getElem?_append_right (by omega)]; simp [hn']
    rw [g2,Option.bind_some,s2,show (((n + 1 : Nat) : Int) - 1) = (n : Int) by omega];rfl
  cases hbf : befB x y with
  | true =>
   rw [hbf,if_pos rfl] at cond;rw [loopO_next cond,ins_loop hxl n a' (y :: b) hn' (by omega) (fun z hz=>hl z (by simp [hz])) hs1 (fun h=>hx (by simp [h]))];have hyx : befB y x = false:=by
    rw [← Bool.not_eq_true]; intro h; exact ltB_as (show ltB x y from hbf) h
   unfold sIns;simp [List.filter_append,hyx]
  | false =>
   rw [hbf,if_neg (by decide)] at cond;rw [loopO_out cond];have hyx : ltB y x:=by
    rcases ltB_tot hne with h | h
    ·exact h
    unfold ltB at h; rw [hbf] at h; cases h
   have hall : ∀ z ∈ a' ++ [y],befB z x = true:=fun z hz=>by
    rcases List.mem_append.1 hz with h | h
    ·exact ltB_trans (hs2 z h y (by simp)) hyx
    simp at h; rw [h]; exact hyx
   have e1 : (a' ++ [y]).filter (fun z=>befB z x) = a' ++ [y]:=List.filter_eq_self.2 hall;have e2 : (a' ++ [y]).filter (fun z=>!befB z x) = []:=List.filter_eq_nil_iff.2 fun z hz=>by rw [hall z hz]; decide
   unfold sIns;rw [e1,e2]; simp
def srtB (l : List Bytes) : List Bytes:=l.foldl (fun out x=>if x ∈ out then out else sIns x out) []
theorem srtB_aux : ∀ (l out : List Bytes),out.Pairwise ltB → (l.foldl (fun out x=>if x ∈ out then out else sIns x out) out).Pairwise ltB ∧ ∀ s,s ∈ l.foldl (fun out x=>if x ∈ out then out else sIns x out) out ↔ s ∈ out ∨ s ∈ l
 | [],out,h=>⟨h,by simp⟩
 | x :: l,out,h=>by
  simp only [List.foldl_cons];by_cases hx : x ∈ out
  ·rw [if_pos hx];obtain ⟨h1,h2⟩:=srtB_aux l out h;refine ⟨h1,fun s=>?_⟩;rw [h2,List.mem_cons];constructor
   ·rintro (h | h)
    ·exact .inl h
    exact .inr (.inr h)
   rintro (h | h | h)
   ·exact .inl h
   ·exact .inl (h ▸ hx)
   exact .inr h
  rw [if_neg hx];obtain ⟨h1,h2⟩:=srtB_aux l _ (sIns_sorted h hx);refine ⟨h1,fun s=>?_⟩;rw [h2,sIns_mem,List.mem_cons];constructor
  ·rintro ((h | h) | h)
   ·exact .inr (.inl h)
   ·exact .inl h
   exact .inr (.inr h)
  rintro (h | h | h)
  ·exact .inl (.inr h)
  ·exact .inl (.inl h)
  exact .inr h
theorem srtB_sorted (l : List Bytes) : (srtB l).Pairwise ltB:=(srtB_aux l [] List.Pairwise.nil).1
theorem srtB_mem {l : List Bytes} {s : Bytes} : s ∈ srtB l ↔ s ∈ l:=by
 have:=(srtB_aux l [] List.Pairwise.nil).2 s;unfold srtB;rw [this]; simp
theorem sIns_len (x : Bytes) (a : List Bytes) : (sIns x a).length = a.length + 1:=by
 unfold sIns;rw [List.length_append,List.length_cons];have : ∀ a : List Bytes,(a.filter fun y=>befB y x).length + (a.filter fun y=>!befB y x).length = a.length:=by
  intro a
  induction a with
  | nil=>rfl
  | cons y a ih =>
   cases h : befB y x <;> simp [h] <;> omega
 have:=this a;omega
theorem e38 {l : List Bytes} (hl : l.length ≤ 1000000) (hb : ∀ s ∈ l,s.length ≤ 1073741824) : m38 l = some (srtB l):=by
 unfold m38
 have h1:=loop_fold l (σ:=List Bytes) (ε:=List Bytes) (fun out x=>if x ∈ out then out else sIns x out) (fun a=>a) (fun i out=>out.length ≤ i ∧ out.Pairwise ltB ∧ ∀ s ∈ out,s.length ≤ 1073741824) (step:=m38_1 l) (fun i x out hi hx hI=>by
  unfold m38_1;rw [if_pos (show (i : Int) < (l.length : Int) by omega),hx,Option.bind_some,e37,Option.bind_some];by_cases h : x ∈ out
  ·rw [if_pos (by simpa using h),if_pos h]; rfl
  ·have hn : (((out ++ [x]).length : Int) - 1) = ((out.length : Nat) : Int):=by simp
   rw [if_neg (by simpa using h),if_neg h,chk_t (by simp only; omega)];simp only;rw [hn,ins_loop (hb x (List.mem_of_getElem? hx)) out.length out [] rfl (by omega) hI.2.2 hI.2.1 h]
   simp)
  (fun i x out hi hx hI=>by
   by_cases h : x ∈ out
   ·rw [if_pos h]; exact ⟨by omega,hI.2⟩
   rw [if_neg h];refine ⟨by rw [sIns_len]; omega,sIns_sorted hI.2.1 h,fun s hs=>?_⟩;rcases sIns_mem.1 hs with rfl | hs
   ·exact hb _ (List.mem_of_getElem? hx)
   exact hI.2.2 s hs)
  (fun out hI=>by unfold m38_1; rw [if_neg (by simp)]) (a0:=[]) ⟨by simp,List.Pairwise.nil,by simp⟩
 rw [h1]; rfl
end T11
namespace T11
open Go Go.Proofs Pk
section
variable {α : Type}
theorem ex_srtd {f : α → α → Option Int} {l : List α} (h : SortW f l) : ∃ l1,srtd f l l1:=by
 refine ⟨(l.attach.mergeSort fun a b=>!ltM f b.1 a.1).map (·.1),?_,?_⟩
 ·have:=(List.mergeSort_perm l.attach fun a b=>!ltM f b.1 a.1).map (fun u : {u // u ∈ l}=>u.1)
  rwa [List.attach_map_subtype_val] at this
 rw [List.pairwise_map];refine (List.pairwise_mergeSort (fun a b c h1 h2=>?_) (fun a b=>?_) _).imp fun h=>by simpa using h
 ·simp only [Bool.not_eq_true'] at *;exact h.nt _ c.2 _ b.2 _ a.2 h2 h1
 simp only [Bool.or_eq_true,Bool.not_eq_true']
 cases h3 : ltM f b.1 a.1 with
 | false=>exact .inl rfl
 | true =>
  right
  cases h4 : ltM f a.1 b.1 with
  | false=>rfl
  | true=>have:=h.tr _ a.2 _ b.2 _ a.2 h4 h3; rw [h.irr _ a.2] at this; cases this
theorem ex_sortO {f : α → α → Option Int} {l : List α} (h : SortOK f l) : ∃ l1,sortO f l = some l1 ∧ l1.Perm l ∧ l1.Pairwise fun x y=>ltM f y x = false:=by
 obtain ⟨l1,h1⟩:=ex_srtd h.weak;exact ⟨l1,sortO_eqW h h1.1 h1.2,h1.1,h1.2⟩
end
theorem ltM55 {a b : Bytes} (ha : a.length ≤ 1073741824) (hb : b.length ≤ 1073741824) : ltM m55 a b = befB a b:=by
 unfold ltM befB; rw [e55 ha hb]
theorem srt55 {l : List Bytes} (hl : l.length ≤ 1073741824) (hb : ∀ s ∈ l,s.length ≤ 1073741824) : SortOK m55 l :=
  ⟨hl,fun x hx y hy=>⟨_,e55 (hb x hx) (hb y hy)⟩,fun x hx=>by rw [ltM55 (hb x hx) (hb x hx)]; exact befB_irr x,
   fun x hx y hy z hz h1 h2=>by rw [ltM55 (hb x hx) (hb y hy)] at h1; rw [ltM55 (hb y hy) (hb z hz)] at h2; rw [ltM55 (hb x hx) (hb z hz)]; exact befB_trans h1 h2,
   fun x hx y hy h1 h2=>by
    rw [ltM55 (hb x hx) (hb y hy)] at h1; rw [ltM55 (hb y hy) (hb x hx)] at h2;apply Classical.byContradiction;intro e
    rw [befB_tot e,h1] at h2; cases h2⟩
theorem compact_of {l : List Bytes} (h : l.Pairwise fun x y=>¬ ltB y x) : (Lib.compact l).Pairwise ltB ∧ ∀ s,s ∈ Lib.compact l ↔ s ∈ l:=by
 have hp:=List.pairwise_iff_getElem.1 h;have key : ∀ m,m ≤ l.length → (Lib.compactUpTo l.toArray m).Pairwise ltB ∧ ∀ s,s ∈ Lib.compactUpTo l.toArray m ↔ ∃ j,∃ (hj : j < l.length),j < m ∧ l[j] = s:=by
  intro m
  induction m with
  | zero=>intro _; exact ⟨List.Pairwise.nil,fun s=>by simp [Lib.compactUpTo]⟩
  | succ m ih =>
   intro hm;obtain ⟨h1,h2⟩:=ih (by omega);have g : ∀ j,(hj : j < l.length) → l.toArray[j]! = l[j]:=fun j hj=>by
    rw [getElem!_pos l.toArray j (by simpa using hj)]; simp
   rw [Lib.compactUpTo_succ];by_cases hk : Lib.keeps l.toArray m = true
   ·rw [if_pos hk,g m (by omega)];have hne : m = 0 ∨ l[m] ≠ l[m - 1]:=by
     unfold Lib.keeps at hk;simp only [decide_eq_true_eq] at hk;rcases hk with h | h
     ·exact .inl h
     rw [g m (by omega),g (m - 1) (by omega)] at h; exact .inr h
    refine ⟨?_,fun s=>?_⟩
    ·rw [List.pairwise_append];refine ⟨h1,by simp,fun a ha b hb=>?_⟩;simp at hb; subst hb;obtain ⟨j,hj,hjm,rfl⟩:=(h2 a).1 ha;have hle:=hp j m hj (by omega) hjm;by_cases e : l[j] = l[m]
     ·exfalso;rcases hne with h0 | h0
      ·omega
      have hjn : j ≠ m - 1:=fun e2=>h0 (by subst e2; exact e.symm);have h3:=hp j (m - 1) hj (by omega) (by omega);have h4:=hp (m - 1) m (by omega) (by omega) (by omega);rcases ltB_tot h0 with h5 | h5
      ·exact h4 h5
      rw [← e] at h5; exact h3 h5
     rcases ltB_tot e with h5 | h5
     ·exact h5
     exact (hle h5).elim
    rw [List.mem_append,h2];simp only [List.mem_singleton];constructor
    ·rintro (⟨j,hj,hjm,e⟩ | e)
     ·exact ⟨j,hj,by omega,e⟩
     exact ⟨m,by omega,by omega,e.symm⟩
    rintro ⟨j,hj,hjm,e⟩;by_cases hjm2 : j < m
    ·exact .inl ⟨j,hj,hjm2,e⟩
    have : j = m:=by omega
    subst this; exact .inr e.symm
   rw [if_neg hk,List.append_nil];refine ⟨h1,fun s=>?_⟩;rw [h2];have hm0 : m ≠ 0:=fun e=>hk (by unfold Lib.keeps; simp [e]);have he : l[m] = l[m - 1]:=by
    apply Classical.byContradiction;intro hne;apply hk;unfold Lib.keeps;rw [g m (by omega),g (m - 1) (by omega)];simp [hne]
   constructor
   ·rintro ⟨j,hj,hjm,e⟩; exact ⟨j,hj,by omega,e⟩
   rintro ⟨j,hj,hjm,e⟩;by_cases hjm2 : j < m
   ·exact ⟨j,hj,hjm2,e⟩
   have : j = m:=by omega
   subst this;exact ⟨j - 1,by omega,by omega,by rw [← he]; exact e⟩
 obtain ⟨h1,h2⟩:=key l.length (Nat.le_refl _);refine ⟨h1,fun s=>?_⟩;show s ∈ Lib.compactUpTo l.toArray l.length ↔ s ∈ l;rw [h2,List.mem_iff_getElem];constructor
 ·rintro ⟨j,hj,_,e⟩; exact ⟨j,hj,e⟩
 rintro ⟨j,hj,e⟩; exact ⟨j,hj,hj,e⟩
theorem e56 {but : Bytes} {L : List (List Bytes)} (hl : L.flatten.length ≤ 1000000) (hL : L.length ≤ 1000) (hb : ∀ s ∈ L.flatten,s.length ≤ 1073741824) :
  ∃ r,m56 but L = some r ∧ r.Pairwise ltB ∧ ∀ s,s ∈ r ↔ s ≠ but ∧ s ∈ L.flatten:=by
 have hpre : ∀ i,(L.take i).flatten.length ≤ L.flatten.length:=fun i=>by
  conv=>rhs; rw [← List.take_append_drop i L,List.flatten_append,List.length_append]
  omega
 have hnext : ∀ {i : Nat} {x : List Bytes},L[i]? = some x → (L.take (i + 1)).flatten = (L.take i).flatten ++ x:=fun {i x} hx=>by
  rw [List.take_add_one,hx]; simp
 have h1:=loop_s L (σ:=Nat) (ε:=Nat) (fun _ x n=>.inl (n + x.length)) (fun n=>n) (fun i n=>n = (L.take i).flatten.length) (step:=m56_1 L) (fun i x n hi hx hn=>by
  unfold m56_1;have:=hpre (i + 1);rw [hnext hx,List.length_append] at this;simp only
  rw [if_pos (by omega),hx,Option.bind_some,chk_t (by omega),if_neg (by omega)])
  (fun i x n n' hi hx hn hg=>by cases hg; rw [hnext hx,List.length_append,hn])
  (fun n hn=>by unfold m56_1; simp) (a0:=0) (by simp)
 have g1 : ∀ (l : List (List Bytes)) (i n : Nat),goL (σ:=Nat) (ε:=Nat) (fun _ x n=>.inl (n + x.length)) (fun n=>n) l i n = n + l.flatten.length:=by
  intro l
  induction l with
  | nil=>intro i n; simp [goL_nil]
  | cons x l ih=>intro i n; rw [goL_cons]; simp only; rw [ih]; simp; omega
 rw [g1] at h1
 have h2:=loop_fold L (σ:=List Bytes) (ε:=List Bytes) (fun a x=>a ++ x) (fun a=>a) (fun i a=>a = (L.take i).flatten) (step:=m56_2 L) (fun i x a hi hx ha=>by
  unfold m56_2;have:=hpre (i + 1);rw [hnext hx,List.length_append] at this;simp only
  rw [if_pos (by omega),hx,Option.bind_some,chk_t (by rw [ha]; omega)])
  (fun i x a hi hx ha=>by rw [hnext hx,ha])
  (fun a ha=>by unfold m56_2; simp) (a0:=[]) (by simp)
 have g2 : ∀ (l : List (List Bytes)) (a : List Bytes),l.foldl (fun a x=>a ++ x) a = a ++ l.flatten:=by
  intro l
  induction l with
  | nil=>intro a; simp
  | cons x l ih=>intro a; rw [List.foldl_cons,ih]; simp
 rw [g2,List.nil_append] at h2;obtain ⟨l1,h3,h4,h5⟩:=ex_sortO (srt55 (l:=L.flatten) (by omega) hb);have h6 : l1.Pairwise fun x y=>¬ ltB y x:=h5.imp_of_mem fun {x y} hx hy h=>by
  rw [ltM55 (hb y (h4.subset hy)) (hb x (h4.subset hx))] at h;unfold ltB; rw [h]; decide
 obtain ⟨c1,c2⟩:=compact_of h6;refine ⟨(Lib.compact l1).filter fun x=>!decide (x = but),?_,c1.sublist List.filter_sublist,fun s=>?_⟩
 ·unfold m56;rw [h1,Option.bind_some,chk_t (by omega),h2];simp only [Option.bind_some];rw [h3,Option.bind_some]
 rw [List.mem_filter,c2,h4.mem_iff];simp only [Bool.not_eq_true',decide_eq_false_iff_not];exact and_comm
def minB : List Bytes → Bytes
 | []=>[]
 | x :: l=>l.foldl (fun a y=>if befB y a then y else a) x
theorem minB_fold : ∀ (l : List Bytes) (a : Bytes),(l.foldl (fun a y=>if befB y a then y else a) a = a ∨ l.foldl (fun a y=>if befB y a then y else a) a ∈ l) ∧ (a = l.foldl (fun a y=>if befB y a then y else a) a ∨ ltB (l.foldl (fun a y=>if befB y a then y else a) a) a) ∧ ∀ t ∈ l,t = l.foldl (fun a y=>if befB y a then y else a) a ∨ ltB (l.foldl (fun a y=>if befB y a then y else a) a) t
 | [],a=>⟨.inl rfl,.inl rfl,by simp⟩
 | y :: l,a=>by
  simp only [List.foldl_cons];obtain ⟨h1,h2,h3⟩:=minB_fold l (if befB y a then y else a);generalize hr : l.foldl (fun a y=>if befB y a then y else a) (if befB y a then y else a) = r at *;by_cases hb : befB y a = true
  ·rw [if_pos hb] at h1 h2;refine ⟨.inr ?_,.inr ?_,fun t ht=>?_⟩
   ·rcases h1 with h | h
    ·rw [h]; exact List.mem_cons_self
    exact List.mem_cons_of_mem _ h
   ·rcases h2 with h | h
    ·rw [← h]; exact hb
    exact ltB_trans h hb
   rcases List.mem_cons.1 ht with rfl | ht
   ·exact h2
   exact h3 t ht
  rw [if_neg hb] at h1 h2;refine ⟨h1.imp id (List.mem_cons_of_mem _),h2,fun t ht=>?_⟩;rcases List.mem_cons.1 ht with rfl | ht
  ·by_cases e : t = a
   ·rw [e]; exact h2
   have hat : ltB a t:=by
    rcases ltB_tot e with h | h
    ·exact absurd h hb
    exact h
   rcases h2 with h | h
   ·rw [← h]; exact .inr hat
   exact .inr (ltB_trans h hat)
  exact h3 t ht
theorem minB_mem {l : List Bytes} (h : l ≠ []) : minB l ∈ l:=by
 cases l with
 | nil=>exact absurd rfl h
 | cons x l =>
  rcases (minB_fold l x).1 with h | h
  ·show l.foldl _ x ∈ _; rw [h]; exact List.mem_cons_self
  exact List.mem_cons_of_mem _ h
theorem minB_le {l : List Bytes} {t : Bytes} (h : t ∈ l) : t = minB l ∨ ltB (minB l) t:=by
 cases l with
 | nil=>cases h
 | cons x l =>
  rcases List.mem_cons.1 h with rfl | h
  ·exact (minB_fold l t).2.1
  exact (minB_fold l x).2.2 t h
theorem e54 {l : List Bytes} (h : l ≠ []) (hb : ∀ s ∈ l,s.length ≤ 1073741824) : m54 l m55 = some (minB l):=by
 obtain ⟨x,l,rfl⟩ : ∃ x l',l = x :: l':=by cases l with
  | nil=>exact absurd rfl h
  | cons x l=>exact ⟨x,l,rfl⟩
 unfold m54;rw [if_neg (by simp; omega)];simp only [List.getElem?_cons_zero,Option.bind_some];have key : ∀ k i a,(x :: l).length - i = k → i ≤ (x :: l).length → 1 ≤ i → a.length ≤ 1073741824 → loopO (m54_1 (x :: l) m55) (i,a) = some (((x :: l).drop i).foldl (fun a y=>if befB y a then y else a) a):=by
  intro k
  induction k with
  | zero =>
   intro i a hk hi _ _;obtain rfl : i = (x :: l).length:=by omega
   rw [List.drop_length];exact loopO_out (by unfold m54_1; simp)
  | succ k ih =>
   intro i a hk hi h1 ha;have hlt : i < (x :: l).length:=by omega
   have hy : (x :: l)[i]? = some (x :: l)[i]:=List.getElem?_eq_getElem hlt;have hyl:=hb _ (List.getElem_mem hlt);have hs : m54_1 (x :: l) m55 (i,a) = some (.inl (i + 1,if befB (x :: l)[i] a then (x :: l)[i] else a)):=by
    unfold m54_1;simp only;rw [if_pos (by omega),hy,Option.bind_some,e55 hyl ha,Option.bind_some];unfold befB;by_cases hc : ordB (x :: l)[i] a < 0
    ·rw [if_pos hc,if_pos (by simpa using hc)]; rfl
    rw [if_neg hc,if_neg (by simpa using hc)]; rfl
   rw [loopO_next hs,List.drop_eq_getElem_cons hlt,List.foldl_cons];exact ih (i + 1) _ (by omega) (by omega) (by omega) (by split <;> assumption)
 rw [key l.length 1 x (by simp) (by simp) (Nat.le_refl _) (hb x List.mem_cons_self)];rfl
def ltP (a b : Place) : Bool:=decide (a.volume < b.volume ∨ a.volume = b.volume ∧ a.from_ < b.from_)
theorem e95 {a b : Place} (ha : okP a) (hb : okP b) : ∃ c,m95 a b = some c ∧ (decide (c < 0)) = ltP a b:=by
 unfold okP at ha hb;unfold m95;rw [chk_t (by omega),chk_t (by omega),e86,Option.bind_some];refine ⟨_,rfl,?_⟩;unfold ltP;rw [Bool.eq_iff_iff,decide_eq_true_eq,decide_eq_true_eq];by_cases h : a.volume - b.volume = 0
 ·rw [if_neg (by simpa using h)]; omega
 rw [if_pos h]; omega
theorem ltM95 {a b : Place} (ha : okP a) (hb : okP b) : ltM m95 a b = ltP a b:=by
 obtain ⟨c,h1,h2⟩:=e95 ha hb;unfold ltM; rw [h1]; exact h2
theorem ltP_t {a b : Place} : ltP a b = true ↔ (a.volume < b.volume ∨ a.volume = b.volume ∧ a.from_ < b.from_):=by unfold ltP; exact decide_eq_true_iff
theorem ltP_f {a b : Place} : ltP a b = false ↔ ¬ (a.volume < b.volume ∨ a.volume = b.volume ∧ a.from_ < b.from_):=by rw [← Bool.not_eq_true,ltP_t]
theorem srt95 {l : List Place} (hl : l.length ≤ 1073741824) (ho : ∀ p ∈ l,okP p) : SortW m95 l :=
  ⟨hl,fun x hx y hy=>let ⟨c,h,_⟩:=e95 (ho x hx) (ho y hy); ⟨c,h⟩,fun x hx=>by rw [ltM95 (ho x hx) (ho x hx),ltP_f]; omega,
   fun x hx y hy z hz h1 h2=>by rw [ltM95 (ho x hx) (ho y hy),ltP_t] at h1; rw [ltM95 (ho y hy) (ho z hz),ltP_t] at h2; rw [ltM95 (ho x hx) (ho z hz),ltP_t]; omega,
   fun x hx y hy z hz h1 h2=>by rw [ltM95 (ho x hx) (ho y hy),ltP_f] at h1; rw [ltM95 (ho y hy) (ho z hz),ltP_f] at h2; rw [ltM95 (ho x hx) (ho z hz),ltP_f]; omega⟩
def stJ (st : Int × Int × Int × List Place) (p : Place) : Int × Int × Int × List Place :=
 if st.2.2.2 = [] ∨ gapP ⟨st.1,st.2.1,st.2.2.1⟩ p then (p.volume,p.from_,p.to_,st.2.2.2 ++ [p]) else (st.1,st.2.1,max st.2.2.1 p.to_,st.2.2.2.dropLast ++ [⟨st.1,st.2.1,max st.2.2.1 p.to_⟩])
structure JP (l1 : List Place) (i : Nat) (st : Int × Int × Int × List Place) : Prop where
 nm : normP st.2.2.2
 cs : ∀ v c,stP st.2.2.2 v c ↔ stP (l1.take i) v c
 last : st.2.2.2 = [] ∧ i = 0 ∧ (st.1,st.2.1,st.2.2.1) = (0,0,0) ∨ st.2.2.2.getLast? = some ⟨st.1,st.2.1,st.2.2.1⟩ ∧ ∀ p ∈ l1.drop i,st.1 < p.volume ∨ st.1 = p.volume ∧ st.2.1 ≤ p.from_
 len : st.2.2.2.length ≤ i
theorem stP_snoc {l : List Place} {p : Place} {v c : Int} : stP (l ++ [p]) v c ↔ stP l v c ∨ p.volume = v ∧ p.from_ ≤ c ∧ c ≤ p.to_:=by
 rw [stP_append];refine or_congr_right ?_;unfold stP; simp
theorem JP.step {l1 : List Place} (ho : ∀ p ∈ l1,okP p) (hs : l1.Pairwise fun x y=>ltP y x = false) {i : Nat} {p : Place} {st : Int × Int × Int × List Place} (hp : l1[i]? = some p) (h : JP l1 i st) : JP l1 (i + 1) (stJ st p):=by
 obtain ⟨lv,lf,lt,out⟩:=st;have hpm:=List.mem_of_getElem? hp;have hop:=ho p hpm;have hlt:=(List.getElem?_eq_some_iff.1 hp).1;have htake : l1.take (i + 1) = l1.take i ++ [p]:=by rw [List.take_add_one,hp]; rfl
 have hdrop : l1.drop i = p :: l1.drop (i + 1):=by
  rw [List.drop_eq_getElem_cons hlt]; congr 1;rw [List.getElem?_eq_getElem hlt] at hp; exact Option.some.inj hp
 have hrest : ∀ q ∈ l1.drop (i + 1),p.volume < q.volume ∨ p.volume = q.volume ∧ p.from_ ≤ q.from_:=fun q hq=>by
  have h1 : (p :: l1.drop (i + 1)).Pairwise fun x y=>ltP y x = false:=by rw [← hdrop]; exact hs.sublist (List.drop_sublist _ _)
  have:=(List.pairwise_cons.1 h1).1 q hq;rw [ltP_f] at this; omega
 have hnm:=h.nm; have hcs:=h.cs; have hlast:=h.last; have hlen:=h.len;simp only at hnm hcs hlast hlen;unfold stJ;simp only;by_cases hc : out = [] ∨ gapP ⟨lv,lf,lt⟩ p
 ·rw [if_pos hc];refine ⟨⟨fun q hq=>?_,?_⟩,fun v c=>?_,.inr ⟨by simp,hrest⟩,by simp; omega⟩
  ·rcases List.mem_append.1 hq with hq | hq
   ·exact hnm.ok q hq
   simp at hq; subst hq; exact hop
  ·rw [List.pairwise_append];refine ⟨hnm.gap,by simp,fun a ha b hb=>?_⟩;simp at hb; subst hb;rcases hc with e | hg
   ·rw [e] at ha; cases ha
   rcases hlast with ⟨e,_⟩ | ⟨hl,_⟩
   ·rw [e] at ha; cases ha
   have hlm:=List.mem_of_getLast? hl;rcases pw_cases hnm.gap a ha _ hlm with e | h1 | h1
   ·rw [e]; exact hg
   ·exact gapP_trans (hnm.ok _ hlm) h1 hg
   exfalso;obtain ⟨ini,e⟩ : ∃ ini,out = ini ++ [⟨lv,lf,lt⟩]:=by
    rw [List.getLast?_eq_some_iff] at hl; exact hl
   rw [e] at ha;rcases List.mem_append.1 ha with ha | ha
   ·have h2:=hnm.gap;rw [e,List.pairwise_append] at h2;have h3:=h2.2.2 a ha _ (List.mem_singleton.2 rfl);have:=hnm.ok a (by rw [e]; exact List.mem_append_left _ ha);have:=hnm.ok _ hlm;unfold gapP at h1 h3; unfold okP at *; omega
   simp at ha; subst ha;have:=hnm.ok _ hlm;unfold gapP at h1; unfold okP at this; omega
  rw [stP_snoc,hcs,htake,stP_snoc]
 rw [if_neg hc];simp only [not_or] at hc;rcases hlast with ⟨e,_⟩ | ⟨hl,hord⟩
 ·exact absurd e hc.1
 obtain ⟨ini,e⟩ : ∃ ini,out = ini ++ [⟨lv,lf,lt⟩]:=by
  rw [List.getLast?_eq_some_iff] at hl; exact hl
 have hord':=hord p (by rw [hdrop]; exact List.mem_cons_self);have hlm:=List.mem_of_getLast? hl;have hol:=hnm.ok _ hlm;have hng:=hc.2;unfold gapP at hng;unfold okP at hol hop;simp only at hng hol;have ed : out.dropLast = ini:=by rw [e,List.dropLast_concat]
 rw [ed];refine ⟨⟨fun q hq=>?_,?_⟩,fun v c=>?_,.inr ⟨by simp,fun q hq=>?_⟩,by rw [e] at hlen; simp at hlen ⊢; omega⟩
 ·rcases List.mem_append.1 hq with hq | hq
  ·exact hnm.ok q (by rw [e]; exact List.mem_append_left _ hq)
  simp at hq; subst hq; unfold okP; simp only; omega
 ·have h2:=hnm.gap;rw [e,List.pairwise_append] at h2;rw [List.pairwise_append];refine ⟨h2.1,by simp,fun a ha b hb=>?_⟩;simp at hb; subst hb;have h3:=h2.2.2 a ha _ (List.mem_singleton.2 rfl);unfold gapP at h3 ⊢;exact h3
 ·have h4:=hcs v c;rw [e,stP_snoc] at h4;rw [stP_snoc,htake,stP_snoc,← h4];simp only;constructor
  ·rintro (h | h)
   ·exact .inl (.inl h)
   by_cases hcc : c ≤ lt
   ·exact .inl (.inr (by omega))
   exact .inr (by omega)
  rintro ((h | h) | h)
  ·exact .inl h
  ·exact .inr (by omega)
  exact .inr (by omega)
 have:=hrest q hq;simp only;omega
theorem joined_run {l0 l1 : List Place} (hlen : l1.length = l0.length) (hl : l1.length ≤ 1000000) (ho : ∀ p ∈ l1,okP p) (hs : l1.Pairwise fun x y=>ltP y x = false) :
  ∃ st,loopO (m57_1 l0 l1) (0,0,0,0,([] : List Place)) = some st ∧ JP l1 l1.length st:=by
 have h1:=loop_fold l1 (σ:=Int × Int × Int × List Place) (ε:=Int × Int × Int × List Place) stJ (fun st=>(st.1,st.2.1,st.2.2.1,st.2.2.2)) (JP l1) (step:=m57_1 l0 l1) (fun i p st hi hp hI=>by
  obtain ⟨lv,lf,lt,out⟩:=st;have hop:=ho p (List.mem_of_getElem? hp);unfold m57_1;simp only;rw [if_pos (by omega),hp,Option.bind_some];unfold stJ;simp only;have hlen2:=hI.len;simp only at hlen2;rcases hI.last with ⟨e1,e2,e3⟩ | ⟨hlast,hord⟩
  ·simp only at e1 e2 e3;cases e3;subst e1;rw [if_pos rfl,Option.bind_some,if_neg (by decide),chk_t (by simp),Option.bind_some,chk_t (by simp)];simp
  ·simp only at hlast hord;have hlm:=List.mem_of_getLast? hlast;have hol:=hI.nm.ok _ hlm;have hne : out ≠ []:=fun e=>by rw [e] at hlm; cases hlm
   have hpos : 0 < out.length:=List.length_pos_iff.2 hne;have hz : ¬ ((⟨lv,lf,lt⟩ : Place) = ⟨0,0,0⟩):=fun e=>by
    have:=congrArg Place.volume e;unfold okP at hol; simp only at this hol; omega
   have hgl : out[out.length - 1]? = some ⟨lv,lf,lt⟩:=by rw [← List.getLast?_eq_getElem?]; exact hlast
   rw [if_neg hz,e96 _ hol,Option.bind_some,Option.bind_some];by_cases hg : gapP ⟨lv,lf,lt⟩ p
   ·rw [gapB_t.2 hg,if_neg (by decide),chk_t (by omega),Option.bind_some,chk_t (by simp),if_pos (.inr hg)];simp
   rw [gapB_f hg,if_pos (show (!false) = true from rfl),chk_t (by omega),show ((out.length : Int) - 1).toNat = out.length - 1 by omega,hgl,Option.bind_some,Option.bind_some,chk_t (by simp; omega),if_neg (by simp only [not_or]; exact ⟨hne,hg⟩)];have e4 : (((out.set (out.length - 1) ⟨lv,lf,max lt p.to_⟩).length : Int) - 1).toNat = out.length - 1:=by simp
   rw [e4,List.getElem?_set_self (by omega),Option.bind_some];congr 4;obtain ⟨ini,e⟩ : ∃ ini,out = ini ++ [⟨lv,lf,lt⟩]:=by
    rw [List.getLast?_eq_some_iff] at hlast; exact hlast
   rw [e]; simp)
  (fun i p st hi hp hI=>hI.step ho hs hp)
  (fun st hI=>by unfold m57_1; simp only; rw [if_neg (by omega)]) (a0:=(0,0,0,[])) ⟨⟨by simp,List.Pairwise.nil⟩,by simp,.inl ⟨rfl,rfl,rfl⟩,by simp⟩
 refine ⟨_,h1,?_⟩;have inv : ∀ k i st,l1.length - i = k → i ≤ l1.length → JP l1 i st → JP l1 l1.length ((l1.drop i).foldl stJ st):=by
  intro k
  induction k with
  | zero =>
   intro i st hk hi hI;obtain rfl : i = l1.length:=by omega
   rw [List.drop_length]; exact hI
  | succ k ih =>
   intro i st hk hi hI;have hlt : i < l1.length:=by omega
   rw [List.drop_eq_getElem_cons hlt,List.foldl_cons];exact ih (i + 1) _ (by omega) (by omega) (hI.step ho hs (List.getElem?_eq_getElem hlt))
 have:=inv l1.length 0 (0,0,0,[]) (by omega) (by omega) ⟨⟨by simp,List.Pairwise.nil⟩,by simp,.inl ⟨rfl,rfl,rfl⟩,by simp⟩;simpa using this
theorem e57 {l : List Place} (hl : l.length ≤ 1000000) (ho : ∀ p ∈ l,okP p) : ∃ r,m57 l = some r ∧ normP r ∧ ∀ v c,stP r v c ↔ stP l v c:=by
 have hok:=srt95 (l:=l) (by omega) ho;have run : ∀ l1,srtd m95 l l1 → ∃ r,((loopO (m57_1 l l1) (0,0,0,0,([] : List Place))).bind fun e176=>some e176.2.2.2) = some r ∧ normP r ∧ ∀ v c,stP r v c ↔ stP l v c:=by
  intro l1 h1;have ho1 : ∀ p ∈ l1,okP p:=fun p hp=>ho p (h1.1.subset hp);have hs1 : l1.Pairwise fun x y=>ltP y x = false:=h1.2.imp_of_mem fun {x y} hx hy h=>by rwa [ltM95 (ho1 y hy) (ho1 x hx)] at h
  obtain ⟨st,h2,h3⟩:=joined_run (l0:=l) h1.1.length_eq (by rw [h1.1.length_eq]; exact hl) ho1 hs1;refine ⟨st.2.2.2,by rw [h2]; rfl,h3.nm,fun v c=>?_⟩;rw [h3.cs,List.take_length];unfold stP;exact ⟨fun ⟨p,hp,h⟩=>⟨p,h1.1.mem_iff.1 hp,h⟩,fun ⟨p,hp,h⟩=>⟨p,h1.1.mem_iff.2 hp,h⟩⟩
 obtain ⟨l1,h1⟩:=ex_srtd hok;obtain ⟨r,hr1,hr2,hr3⟩:=run l1 h1;refine ⟨r,?_,hr2,hr3⟩;unfold m57;refine sortW_eq hok fun l2 h2=>?_;obtain ⟨r',q1,q2,q3⟩:=run l2 h2;rw [q1,norm_ext q2 hr2 fun v c=>by rw [q3,hr3]]
def UF (lk : List (Bytes × Bytes)) (R : Bytes → Bytes) (d : Bytes → Nat) : Prop:=∀ s,(lkp lk s = none → R s = s) ∧ ∀ o,lkp lk s = some o → (o = s → R s = s) ∧ (o ≠ s → R s = R o ∧ d o < d s)
theorem lkp_put {α : Type} : ∀ (m : List (Bytes × α)) (k s : Bytes) (v : α),lkp (put m k v) s = if s = k then some v else lkp m s
 | [],k,s,v=>by simp [put,lkp]
 | (q,w) :: m,k,s,v=>by
  unfold put;by_cases h : k = q
  ·rw [if_pos h]; subst h;simp only [lkp];by_cases h2 : s = k <;> simp [h2]
  rw [if_neg h];simp only [lkp,lkp_put m k s v];by_cases h2 : s = q
  ·have : s ≠ k:=fun e=>h (e.symm.trans h2);subst h2; simp [this]
  simp [h2]
section
variable {lk : List (Bytes × Bytes)} {R : Bytes → Bytes} {d : Bytes → Nat}
theorem UF.run (h : UF lk R d) : ∀ (n : Nat) (s : Bytes),d s < n → m85F n s lk = some (R s)
 | 0,s,hn=>by omega
 | n + 1,s,hn=>by
  unfold m85F
  cases hl : lkp lk s with
  | none=>simp [(h s).1 hl]
  | some o =>
   by_cases e : o = s
   ·simp [e,((h s).2 o hl).1 e]
   obtain ⟨h1,h2⟩:=((h s).2 o hl).2 e;simp [e,UF.run h n o (by omega),h1]
theorem UF.only (h : UF lk R d) : ∀ (n : Nat) (s r : Bytes),m85F n s lk = some r → r = R s
 | 0,s,r,hr=>by cases hr
 | n + 1,s,r,hr=>by
  unfold m85F at hr
  cases hl : lkp lk s with
  | none=>rw [hl] at hr; simp at hr; rw [(h s).1 hl,hr]
  | some o =>
   rw [hl] at hr;by_cases e : o = s
   ·simp [e] at hr; rw [((h s).2 o hl).1 e,hr]
   obtain ⟨h1,h2⟩:=((h s).2 o hl).2 e;simp only [Option.isSome_some,if_true,Option.getD_some,ne_eq,e,not_false_eq_true,decide_true,Option.bind_some] at hr;rw [bd_self] at hr;rw [UF.only h n o r hr,h1]
theorem UF.e53 (h : UF lk R d) (s : Bytes) : m53 lk s = some (R s):=by
 unfold m53 m85;rw [bd_self];exact recO_eq (d s + 1) (h.run (d s + 1) s (by omega)) fun m r hr=>h.only m s r hr
theorem UF.idem (h : UF lk R d) (s : Bytes) : R (R s) = R s:=by
 have key : ∀ n s,d s ≤ n → R (R s) = R s:=by
  intro n
  induction n with
  | zero =>
   intro s hs
   cases hl : lkp lk s with
   | none=>rw [(h s).1 hl]; exact (h s).1 hl
   | some o =>
    by_cases e : o = s
    ·rw [((h s).2 o hl).1 e]; exact ((h s).2 o hl).1 e
    have:=(((h s).2 o hl).2 e).2; omega
  | succ n ih =>
   intro s hs
   cases hl : lkp lk s with
   | none=>rw [(h s).1 hl]; exact (h s).1 hl
   | some o =>
    by_cases e : o = s
    ·rw [((h s).2 o hl).1 e]; exact ((h s).2 o hl).1 e
    obtain ⟨h1,h2⟩:=((h s).2 o hl).2 e;rw [h1]; exact ih o (by omega)
 exact key (d s) s (Nat.le_refl _)
theorem UF.join (h : UF lk R d) (a b : Bytes) : ∃ d',UF (put lk (R a) (R b)) (fun x=>if R x = R a then R b else R x) d':=by
 by_cases e : R a = R b
 ·refine ⟨d,fun s=>?_⟩;have hR : ∀ x,(if R x = R a then R b else R x) = R x:=fun x=>by
   by_cases hx : R x = R a
   ·rw [if_pos hx,← e,hx]
   rw [if_neg hx]
  simp only [hR,lkp_put];by_cases hs : s = R a
  ·rw [if_pos hs];refine ⟨fun h=>(by cases h),fun o ho=>?_⟩;cases ho;rw [← e];exact ⟨fun _=>by rw [hs]; exact h.idem a,fun hne=>absurd hs.symm hne⟩
  rw [if_neg hs]; exact h s
 refine ⟨fun x=>if R x = R a then d x + d (R b) + 1 else d x,fun s=>?_⟩;simp only [lkp_put];by_cases hs : s = R a
 ·rw [if_pos hs];refine ⟨fun h=>(by cases h),fun o ho=>?_⟩;cases ho;have hra : R s = R a:=by rw [hs]; exact h.idem a
  have hrb : R (R b) = R b:=h.idem b;refine ⟨fun e2=>absurd (hs.symm.trans e2.symm) e,fun _=>⟨?_,?_⟩⟩
  ·rw [if_pos hra,hrb,if_neg (fun e2=>e e2.symm)]
  rw [if_pos hra,hrb,if_neg (fun e2=>e e2.symm)]; omega
 rw [if_neg hs];refine ⟨fun hn=>?_,fun o ho=>⟨fun e2=>?_,fun e2=>?_⟩⟩
 ·have:=(h s).1 hn;rw [if_neg (by rw [this]; exact hs),this]
 ·have:=((h s).2 o ho).1 e2;rw [if_neg (by rw [this]; exact hs),this]
 obtain ⟨h1,h2⟩:=((h s).2 o ho).2 e2;rw [h1];refine ⟨rfl,?_⟩;by_cases e3 : R o = R a
 ·rw [if_pos e3,if_pos e3]; omega
 rw [if_neg e3,if_neg e3]; exact h2
end
end T11
namespace T11
open Go Go.Proofs Pk
theorem loop_ex {α S ε : Type} (l : List α) {step : Nat × S → Option ((Nat × S) ⊕ ε)} (Inv : Nat → S → Prop) (Q : ε → Prop)
  (hstep : ∀ i x s,l[i]? = some x → Inv i s → ∃ s',step (i,s) = some (.inl (i + 1,s')) ∧ Inv (i + 1) s')
  (hout : ∀ s,Inv l.length s → ∃ e,step (l.length,s) = some (.inr e) ∧ Q e) {s0 : S} (h0 : Inv 0 s0) : ∃ e,loopO step (0,s0) = some e ∧ Q e:=by
 have key : ∀ k i s,l.length - i = k → i ≤ l.length → Inv i s → ∃ e,loopO step (i,s) = some e ∧ Q e:=by
  intro k
  induction k with
  | zero =>
   intro i s hk hi hI;obtain rfl : i = l.length:=by omega
   obtain ⟨e,h1,h2⟩:=hout s hI;exact ⟨e,loopO_out h1,h2⟩
  | succ k ih =>
   intro i s hk hi hI;have hlt : i < l.length:=by omega
   obtain ⟨s',h1,h2⟩:=hstep i _ s (List.getElem?_eq_getElem hlt) hI;obtain ⟨e,h3,h4⟩:=ih (i + 1) s' (by omega) (by omega) h2;exact ⟨e,by rw [loopO_next h1]; exact h3,h4⟩
 exact key _ 0 s0 rfl (by omega) h0
theorem take_succ {α : Type} {l : List α} {i : Nat} {x : α} (h : l[i]? = some x) : l.take (i + 1) = l.take i ++ [x]:=by rw [List.take_add_one,h]; rfl
structure LK (hs : List Heading) (R : Bytes → Bytes) : Prop where
 one : ∀ h ∈ hs,∀ s ∈ names h,R s = R h.name
 cn : ∀ x y,R x = R y → Cn hs x y
theorem LK.iff {hs : List Heading} {R : Bytes → Bytes} (h : LK hs R) {x y : Bytes} : Cn hs x y ↔ R x = R y:=by
 refine ⟨fun hc=>?_,h.cn x y⟩
 induction hc with
 | refl=>rfl
 | step _ hh hb hc ih=>rw [ih,h.one _ hh _ hb,h.one _ hh _ hc]
def Lkd (hs : List Heading) (lk : List (Bytes × Bytes)) : Prop:=∃ R d,UF lk R d ∧ LK hs R
theorem Lkd.start : Lkd [] []:=⟨fun s=>s,fun _=>0,fun s=>⟨fun _=>rfl,fun o ho=>(by cases ho)⟩,by simp,fun x y e=>by cases (show x = y from e); exact .refl _⟩
theorem Lkd.join {hs hs' : List Heading} {lk : List (Bytes × Bytes)} (h : Lkd hs lk) (a b : Bytes) (hm : ∀ x y,Cn hs x y → Cn hs' x y) (hab : Cn hs' a b)
  (hn : ∀ h ∈ hs',∀ s ∈ names h,Cn hs s h.name ∨ s = a ∧ h.name = b) : ∃ r q,m53 lk a = some r ∧ m53 lk b = some q ∧ Lkd hs' (put lk r q):=by
 obtain ⟨R,d,hu,hk⟩:=h;obtain ⟨d',hu'⟩:=hu.join a b;refine ⟨R a,R b,hu.e53 a,hu.e53 b,_,d',hu',fun h hh s hs=>?_,fun x y e=>?_⟩
 ·rcases hn h hh s hs with hc | ⟨rfl,e⟩
  ·have:=hk.iff.1 hc;show (if R s = R a then R b else R s) = if R h.name = R a then R b else R h.name;rw [this]
  subst e;show (if R s = R s then R h.name else R s) = if R h.name = R s then R h.name else R h.name;rw [if_pos rfl]; split <;> rfl
 by_cases hx : R x = R a <;> by_cases hy : R y = R a
 ·exact hm _ _ (hk.cn _ _ (hx.trans hy.symm))
 ·simp only [if_pos hx,if_neg hy] at e;exact ((hm _ _ (hk.cn _ _ hx)).trans hab).trans (hm _ _ (hk.cn _ _ e))
 ·simp only [if_neg hx,if_pos hy] at e;exact (hm _ _ (hk.cn _ _ e)).trans (hab.symm.trans (hm _ _ (hk.cn _ _ hy.symm)))
 simp only [if_neg hx,if_neg hy] at e;exact hm _ _ (hk.cn _ _ e)
def prt (h : Heading) (i : Nat) : Heading:=⟨h.name,h.variants.take i,h.also,h.places⟩
theorem names_prt {h : Heading} {i : Nat} {s : Bytes} : s ∈ names (prt h i) ↔ s = h.name ∨ s ∈ h.variants.take i:=mem_names
theorem prt_all (h : Heading) : prt h h.variants.length = h:=by unfold prt; rw [List.take_length]
theorem link_3 {hs : List Heading} {h : Heading} {lk : List (Bytes × Bytes)} (hl : Lkd (hs ++ [prt h 0]) lk) (hv : h.variants.length ≤ 1000) :
  ∃ lk',loopO (m18_3 h) (0,lk) = some lk' ∧ Lkd (hs ++ [h]) lk':=by
 refine loop_ex h.variants (fun i lk=>Lkd (hs ++ [prt h i]) lk) (Lkd (hs ++ [h])) (fun i x lk hx hI=>?_) (fun lk hI=>?_) hl
 ·have hlt:=(List.getElem?_eq_some_iff.1 hx).1
  obtain ⟨r,q,h1,h2,h3⟩:=hI.join (hs':=hs ++ [prt h (i + 1)]) x h.name (fun a b hc=>hc.lift fun k hk a ha b hb=>by
    rcases List.mem_append.1 hk with hk | hk
    ·exact .of (List.mem_append_left _ hk) ha hb
    simp at hk; subst hk;have up : ∀ {s},s ∈ names (prt h i) → s ∈ names (prt h (i + 1)):=fun hs=>by
     rw [names_prt] at hs ⊢;rw [take_succ hx];exact hs.imp id fun h=>List.mem_append_left _ h
    exact .of (List.mem_append_right _ (List.mem_singleton.2 rfl)) (up ha) (up hb))
   (.of (h:=prt h (i + 1)) (List.mem_append_right _ (List.mem_singleton.2 rfl)) (names_prt.2 (.inr (by rw [take_succ hx]; simp))) (names_prt.2 (.inl rfl)))
   (fun k hk s hsn=>by
    rcases List.mem_append.1 hk with hk | hk
    ·exact .inl (.of (List.mem_append_left _ hk) hsn (name_mem k))
    simp at hk; subst hk;rw [names_prt,take_succ hx] at hsn;have hin : ∀ {s},s ∈ names (prt h i) → Cn (hs ++ [prt h i]) s (prt h (i + 1)).name:=fun hs=>.of (List.mem_append_right _ (List.mem_singleton.2 rfl)) hs (names_prt.2 (.inl rfl));rcases hsn with hs | hs
    ·exact .inl (hin (names_prt.2 (.inl hs)))
    rcases List.mem_append.1 hs with hs | hs
    ·exact .inl (hin (names_prt.2 (.inr hs)))
    simp at hs; exact .inr ⟨hs,rfl⟩)
  refine ⟨put lk r q,?_,h3⟩;unfold m18_3;simp only;rw [if_pos (by omega),hx,Option.bind_some,h1,Option.bind_some,h2];rfl
 refine ⟨lk,?_,by rw [prt_all] at hI; exact hI⟩;unfold m18_3;simp
theorem link_2 {l hs : List Heading} {lk : List (Bytes × Bytes)} (hl : Lkd hs lk) (hv : ∀ h ∈ l,h.variants.length ≤ 1000) :
  ∃ lk',loopO (m18_2 l) (0,lk) = some lk' ∧ Lkd (hs ++ l) lk':=by
 refine loop_ex l (fun i lk=>Lkd (hs ++ l.take i) lk) (Lkd (hs ++ l)) (fun i x lk hx hI=>?_) (fun lk hI=>?_) (by simpa using hl)
 ·have hlt:=(List.getElem?_eq_some_iff.1 hx).1;obtain ⟨r,q,h1,h2,h3⟩:=hI.join (hs':=hs ++ l.take i ++ [prt x 0]) x.name x.name (fun a b hc=>hc.mono fun k hk=>List.mem_append_left _ hk) (.refl _)
   (fun k hk s hs=>by
    rcases List.mem_append.1 hk with hk | hk
    ·exact .inl (.of hk hs (name_mem k))
    simp at hk; subst hk;rw [names_prt] at hs;rcases hs with hs | hs
    ·exact .inr ⟨hs,rfl⟩
    simp at hs)
  have e : q = r:=by rw [h1] at h2; exact (Option.some.inj h2).symm
  subst e;obtain ⟨lk',h4,h5⟩:=link_3 h3 (hv x (List.mem_of_getElem? hx));refine ⟨lk',?_,by rw [take_succ hx,← List.append_assoc]; exact h5⟩;unfold m18_2;simp only;rw [if_pos (by omega),hx,Option.bind_some,h1];simp only [Option.bind_some];rw [h4];rfl
 refine ⟨lk,?_,by simpa using hI⟩;unfold m18_2;simp
theorem flat_le {α : Type} {n : Nat} : ∀ {L : List (List α)},(∀ l ∈ L,l.length ≤ n) → L.flatten.length ≤ n * L.length
 | [],_=>by simp
 | x :: L,h=>by
  have h1:=h x List.mem_cons_self;have h2:=flat_le (L:=L) fun l hl=>h l (List.mem_cons_of_mem _ hl);simp only [List.flatten_cons,List.length_append,List.length_cons,Nat.mul_add,Nat.mul_one];omega
theorem link_1 {inds : List (List Heading)} (hi : ∀ l ∈ inds,Ix l) (hn : inds.length ≤ 12) :
  ∃ lk,loopO (m18_1 inds) (0,([] : List Heading),([] : List (Bytes × Bytes))) = some (.inl (inds.flatten,lk)) ∧ Lkd inds.flatten lk:=by
 refine (fun key=>?_) (loop_ex inds (S:=List Heading × List (Bytes × Bytes)) (step:=m18_1 inds) (s0:=([],[])) (fun i s=>s.1 = (inds.take i).flatten ∧ Lkd s.1 s.2)
  (fun e=>∃ lk,e = .inl (inds.flatten,lk) ∧ Lkd inds.flatten lk) (fun i x s hx hI=>?_) (fun s hI=>?_) ⟨by simp,Lkd.start⟩)
 ·obtain ⟨e,h1,lk,h2,h3⟩:=key;exact ⟨lk,by rw [h1,h2],h3⟩
 ·obtain ⟨hs,lk⟩:=s;obtain ⟨e1,hI⟩:=hI;simp only at e1 hI;have hlt:=(List.getElem?_eq_some_iff.1 hx).1;have hix:=hi x (List.mem_of_getElem? hx);obtain ⟨lk',h4,h5⟩:=link_2 (l:=x) hI fun h hh=>by have:=(hix.rt h hh).2.1.1; omega
  refine ⟨(hs ++ x,lk'),?_,by rw [take_succ hx,List.flatten_append,← e1]; simp,h5⟩;have h6 : hs.length ≤ 60 * 12:=by
   rw [e1];have:=flat_le (n:=60) (L:=inds.take i) fun l hl=>(hi l (List.mem_of_mem_take hl)).len;have h7 : (inds.take i).length ≤ 12:=by rw [List.length_take]; omega
   omega
  have h8:=hix.len;unfold m18_1;simp only;rw [if_pos (by omega),hx,Option.bind_some,e50,Option.bind_some,fault0.2 hix,if_neg (by simp),h4,Option.bind_some,chk_t (by omega)]
 obtain ⟨hs,lk⟩:=s;obtain ⟨e1,hI⟩:=hI;simp only at e1 hI;rw [List.take_length] at e1;subst e1;exact ⟨.inl (inds.flatten,lk),by unfold m18_1; simp,lk,rfl,hI⟩
theorem keys_put {α : Type} : ∀ (m : List (Bytes × α)) (k : Bytes) (v : α),(put m k v).map Prod.fst = if k ∈ m.map Prod.fst then m.map Prod.fst else m.map Prod.fst ++ [k]
 | [],k,v=>by simp [put]
 | (q,w) :: m,k,v=>by
  unfold put;by_cases h : k = q
  ·subst h; simp
  rw [if_neg h,List.map_cons,keys_put m k v];simp only [List.map_cons,List.mem_cons,h,false_or]
  split <;> simp
theorem nd_put {α : Type} {m : List (Bytes × α)} {k : Bytes} {v : α} (h : (m.map Prod.fst).Nodup) : ((put m k v).map Prod.fst).Nodup:=by
 rw [keys_put]
 split
 ·exact h
 rename_i hk; exact nodup_snoc h hk
theorem len_put {α : Type} {m : List (Bytes × α)} {k : Bytes} {v : α} : (put m k v).length ≤ m.length + 1:=by
 have:=congrArg List.length (keys_put m k v);rw [List.length_map] at this
 split at this <;> simp at this <;> omega
theorem len_put' {α : Type} {m : List (Bytes × α)} {k : Bytes} {v : α} (h : (lkp m k).isSome = true) : (put m k v).length = m.length:=by
 have:=congrArg List.length (keys_put m k v)
 rwa [if_pos (lkp_iff.1 h),List.length_map,List.length_map] at this
def grp (R : Bytes → Bytes) (hs : List Heading) (k : Bytes) : List Heading:=hs.filter fun h=>decide (R h.name = k)
def Gof (R : Bytes → Bytes) (hs : List Heading) (k : Bytes) : grown:=⟨⟨[],(grp R hs k).flatMap (·.variants),(grp R hs k).flatMap (·.also),(grp R hs k).flatMap (·.places)⟩,(grp R hs k).map (·.name)⟩
theorem grp_snoc (R : Bytes → Bytes) (hs : List Heading) (x : Heading) (k : Bytes) : grp R (hs ++ [x]) k = grp R hs k ++ if R x.name = k then [x] else []:=by
 unfold grp;rw [List.filter_append];by_cases h : R x.name = k <;> simp [h]
structure Gat (R : Bytes → Bytes) (hs : List Heading) (m : List (Bytes × grown)) : Prop where
 nd : (m.map Prod.fst).Nodup
 at_ : ∀ k,lkp m k = if grp R hs k = [] then none else some (Gof R hs k)
 len : m.length ≤ hs.length
theorem grp_len (R : Bytes → Bytes) (hs : List Heading) (k : Bytes) : (grp R hs k).length ≤ hs.length:=List.length_filter_le _ _
theorem fm_len {α : Type} {f : Heading → List α} {n : Nat} : ∀ {l : List Heading},(∀ h ∈ l,(f h).length ≤ n) → (l.flatMap f).length ≤ n * l.length
 | [],_=>by simp
 | x :: l,h=>by
  have h1:=h x List.mem_cons_self;have h2:=fm_len (l:=l) fun y hy=>h y (List.mem_cons_of_mem _ hy);simp only [List.flatMap_cons,List.length_append,List.length_cons,Nat.mul_add,Nat.mul_one];omega
def smallH (hs : List Heading) : Prop:=hs.length ≤ 1000 ∧ ∀ h ∈ hs,Rt h
theorem grp_mem {R : Bytes → Bytes} {hs : List Heading} {k : Bytes} {h : Heading} : h ∈ grp R hs k ↔ h ∈ hs ∧ R h.name = k:=by unfold grp; rw [List.mem_filter,decide_eq_true_iff]
theorem grp_lens {R : Bytes → Bytes} {hs : List Heading} (hh : smallH hs) (k : Bytes) : ((grp R hs k).flatMap (·.variants)).length ≤ 8000 ∧ ((grp R hs k).flatMap (·.also)).length ≤ 8000 ∧ ((grp R hs k).flatMap (·.places)).length ≤ 30000 ∧ ((grp R hs k).map (·.name)).length ≤ 1000:=by
 have h0:=grp_len R hs k;have h1:=fm_len (l:=grp R hs k) (f:=(·.variants)) (n:=8) fun h hm=>(hh.2 h (grp_mem.1 hm).1).2.1.1;have h2:=fm_len (l:=grp R hs k) (f:=(·.also)) (n:=8) fun h hm=>(hh.2 h (grp_mem.1 hm).1).2.2.1.1;have h3:=fm_len (l:=grp R hs k) (f:=(·.places)) (n:=30) fun h hm=>(hh.2 h (grp_mem.1 hm).1).2.2.2.1;have h4:=hh.1;rw [List.length_map];omega
theorem smallH.take {hs : List Heading} (h : smallH hs) (i : Nat) : smallH (hs.take i):=⟨by have:=h.1; rw [List.length_take]; omega,fun x hx=>h.2 x (List.mem_of_mem_take hx)⟩
theorem gather {hs : List Heading} {lk : List (Bytes × Bytes)} {R : Bytes → Bytes} {d : Bytes → Nat} (hu : UF lk R d) (hh : smallH hs) :
  ∃ m,loopO (m18_4 (hs,lk)) (0,([] : List (Bytes × grown))) = some m ∧ Gat R hs m:=by
 refine loop_ex hs (fun i m=>Gat R (hs.take i) m) (Gat R hs) (fun i x m hx hI=>?_) (fun m hI=>?_) ⟨by simp,fun k=>by simp [grp,lkp],by simp⟩
 ·have hlt:=(List.getElem?_eq_some_iff.1 hx).1;have hr:=hh.2 x (List.mem_of_getElem? hx);obtain ⟨l1,l2,l3,l4⟩:=grp_lens (R:=R) (hh.take i) (R x.name);obtain ⟨t,ht,htl,htn,hta,hto⟩ : ∃ t,((if (lkp m (R x.name)).isSome then (some m) else some (put m (R x.name) zeroG) : Option (List (Bytes × grown)))) = some t ∧ t.length ≤ m.length + 1 ∧ (t.map Prod.fst).Nodup ∧ lkp t (R x.name) = some (Gof R (hs.take i) (R x.name)) ∧ ∀ k,k ≠ R x.name → lkp t k = lkp m k:=by
   have h1:=hI.at_ (R x.name);by_cases he : grp R (hs.take i) (R x.name) = []
   ·rw [if_pos he] at h1;refine ⟨put m (R x.name) zeroG,by rw [h1]; rfl,len_put,nd_put hI.nd,?_,fun k hk=>by rw [lkp_put,if_neg hk]⟩;rw [lkp_put,if_pos rfl];unfold Gof; rw [he]; rfl
   rw [if_neg he] at h1;exact ⟨m,by rw [h1]; rfl,by omega,hI.nd,h1,fun _ _=>rfl⟩
  refine ⟨put t (R x.name) (Gof R (hs.take i ++ [x]) (R x.name)),?_,nd_put htn,fun k=>?_,?_⟩
  ·unfold m18_4;simp only;rw [if_pos (by omega),hx,Option.bind_some,hu.e53,Option.bind_some,ht,Option.bind_some,hta,Option.bind_some];have v1:=hr.2.1.1; have v2:=hr.2.2.1.1; have v3:=hr.2.2.2.1;unfold Gof;simp only;rw [chk_t (by simp only [List.length_singleton]; omega),chk_t (by omega),chk_t (by omega),chk_t (by omega),grp_snoc,if_pos rfl];simp
  ·rw [lkp_put,take_succ hx,grp_snoc];by_cases hk : k = R x.name
   ·subst hk;simp
   have hk' : ¬ R x.name = k:=fun e=>hk e.symm;unfold Gof;rw [if_neg hk,hto k hk,hI.at_ k,grp_snoc,if_neg hk',List.append_nil];rfl
  rw [len_put' (by rw [hta]; rfl)];have h1:=hI.len;rw [List.length_take] at h1 ⊢; omega
 refine ⟨m,by unfold m18_4; simp,by rw [List.take_length] at hI; exact hI⟩
section
variable {S ρ : Type}
theorem ordO_eq {n : Nat} {step : S → Nat → Option (S ⊕ ρ)} {Kf : S → Option ρ} {s0 : S} {z : ρ} (h : ∀ l : List Nat,l.Perm (List.range n) → foldK step Kf l s0 = some z) : ordO n step Kf s0 = some z:=by
 have hx : ∃ z,∀ l : List Nat,l.Perm (List.range n) → foldK step Kf l s0 = some z:=⟨z,h⟩;unfold ordO;rw [dif_pos hx,← hx.choose_spec (List.range n) (List.Perm.refl _),h _ (List.Perm.refl _)]
theorem fold_set {α : Type} {step : List α → Nat → Option (List α ⊕ ρ)} {Kf : List α → Option ρ} (P : α → Prop) (F : α → α) (hst : ∀ s i x,s[i]? = some x → P x → step s i = some (.inl (s.set i (F x)))) (s0 : List α) (hP : ∀ x ∈ s0,P x) :
  ∀ (l : List Nat) (s : List α),l.Nodup → (∀ i ∈ l,i < s0.length) → s.length = s0.length → (∀ i ∈ l,s[i]? = s0[i]?) → (∀ i,i ∉ l → s[i]? = (s0.map F)[i]?) → foldK step Kf l s = Kf (s0.map F)
 | [],s,_,_,hlen,_,h=>by
  have : s = s0.map F:=List.ext_getElem? fun i=>h i (by simp);rw [this]; rfl
 | i :: l,s,hn,hlt,hlen,h1,h2=>by
  obtain ⟨hn1,hn2⟩:=List.nodup_cons.1 hn;have hi:=hlt i List.mem_cons_self;have e:=h1 i List.mem_cons_self;rw [List.getElem?_eq_getElem hi] at e;unfold foldK;rw [hst s i _ e (hP _ (List.getElem_mem hi))];refine fold_set P F hst s0 hP l _ hn2 (fun j hj=>hlt j (List.mem_cons_of_mem _ hj)) (by simp [hlen]) (fun j hj=>?_) (fun j hj=>?_)
  ·have : i ≠ j:=fun e=>hn1 (e ▸ hj);rw [List.getElem?_set_ne this]; exact h1 j (List.mem_cons_of_mem _ hj)
  by_cases hij : i = j
  ·subst hij;rw [List.getElem?_set_self (by omega)];simp [hi]
  rw [List.getElem?_set_ne hij];exact h2 j (by simp only [List.mem_cons,not_or]; exact ⟨fun e=>hij e.symm,hj⟩)
theorem fold_set0 {α : Type} {step : List α → Nat → Option (List α ⊕ ρ)} {Kf : List α → Option ρ} (P : α → Prop) (F : α → α) (hst : ∀ s i x,s[i]? = some x → P x → step s i = some (.inl (s.set i (F x)))) {s0 : List α} (hP : ∀ x ∈ s0,P x) {l : List Nat} (hl : l.Perm (List.range s0.length)) :
  foldK step Kf l s0 = Kf (s0.map F):=by
 have hm : ∀ i,i ∈ l ↔ i < s0.length:=fun i=>by rw [hl.mem_iff,List.mem_range]
 refine fold_set P F hst s0 hP l s0 (hl.nodup_iff.2 List.nodup_range) (fun i hi=>(hm i).1 hi) rfl (fun _ _=>rfl) fun i hi=>?_;have : s0.length ≤ i:=by rw [hm] at hi; omega
 rw [List.getElem?_eq_none this,List.getElem?_eq_none (by simpa using this)]
theorem fold_out {α : Type} {step : List α → Nat → Option (List α ⊕ ρ)} {Kf : List α → Option ρ} (g : Nat → α) (bad : Nat → Bool) (z : ρ) (n : Nat) (hst : ∀ s i,i < n → s.length ≤ n → step s i = some (if bad i then .inr z else .inl (s ++ [g i]))) :
  ∀ (l : List Nat) (s : List α),(∀ i ∈ l,i < n) → s.length + l.length ≤ n → foldK step Kf l s = if l.any bad then some z else Kf (s ++ l.map g)
 | [],s,_,_=>by simp [foldK]
 | i :: l,s,hlt,hlen=>by
  simp only [List.length_cons] at hlen;unfold foldK;rw [hst s i (hlt i List.mem_cons_self) (by omega)]
  cases hb : bad i with
  | true=>simp [hb]
  | false =>
   simp only [Bool.false_eq_true,if_false,List.any_cons,hb,Bool.false_or];rw [fold_out g bad z n hst l _ (fun j hj=>hlt j (List.mem_cons_of_mem _ hj)) (by simp; omega)];simp
end
end T11
namespace T11
open Go Go.Proofs Pk
theorem rt_len {h : Heading} (hr : Rt h) : (∀ s ∈ names h,s.length ≤ 40) ∧ ∀ s ∈ h.also,s.length ≤ 40:=by
 have nb : ∀ {s},nameB s = true → s.length ≤ 40:=fun {s} h=>by
  unfold nameB at h;simp only [Bool.and_eq_true,decide_eq_true_eq] at h;exact h.1.1.1.1.2
 refine ⟨fun s hs=>?_,fun s hs=>nb (hr.2.2.1.2.1 s hs)⟩;rcases mem_names.1 hs with rfl | hs
 ·exact nb hr.1
 exact nb (hr.2.1.2.1 s hs)
theorem lkp_map {α β : Type} (f : α → β) : ∀ (m : List (Bytes × α)) (k : Bytes),lkp (m.map fun q=>(q.1,f q.2)) k = (lkp m k).map f
 | [],k=>rfl
 | (q,w) :: m,k=>by
  simp only [List.map_cons,lkp]
  split
  ·rfl
  exact lkp_map f m k
theorem lkp_mem {α : Type} : ∀ {m : List (Bytes × α)} {k : Bytes} {y : α},(m.map Prod.fst).Nodup → (k,y) ∈ m → lkp m k = some y
 | (q,w) :: m,k,y,hn,h=>by
  simp only [List.map_cons,List.nodup_cons] at hn;simp only [lkp];rcases List.mem_cons.1 h with e | h
  ·cases e; rw [if_pos rfl]
  rw [if_neg (fun e=>hn.1 (by rw [← e]; exact List.mem_map.2 ⟨_,h,rfl⟩))];exact lkp_mem hn.2 h
theorem mem_lkp {α : Type} : ∀ {m : List (Bytes × α)} {k : Bytes} {y : α},lkp m k = some y → (k,y) ∈ m
 | (q,w) :: m,k,y,h=>by
  simp only [lkp] at h
  split at h
  ·rename_i e; cases h; subst e; exact List.mem_cons_self
  exact List.mem_cons_of_mem _ (mem_lkp h)
def headG (g : grown) : grown:=⟨⟨minB g.heads,g.heading.variants,g.heading.also,g.heading.places⟩,g.heads⟩
def Mof (R : Bytes → Bytes) (hs : List Heading) (k : Bytes) : Bytes:=minB ((grp R hs k).map (·.name))
structure Env (hs : List Heading) (lk : List (Bytes × Bytes)) (R : Bytes → Bytes) (d : Bytes → Nat) (m : List (Bytes × grown)) : Prop where
 uf : UF lk R d
 lk_ : LK hs R
 sm : smallH hs
 cl : clo hs
 ga : Gat R hs m
section
variable {hs : List Heading} {lk : List (Bytes × Bytes)} {R : Bytes → Bytes} {d : Bytes → Nat} {m : List (Bytes × grown)}
theorem Env.M (E : Env hs lk R d m) {k : Bytes} (hk : grp R hs k ≠ []) : R (Mof R hs k) = k ∧ Hd hs (Mof R hs k) (Mof R hs k):=by
 obtain ⟨h,hh,e⟩:=List.mem_map.1 (minB_mem (l:=(grp R hs k).map (·.name)) (by simpa using hk));obtain ⟨h1,h2⟩:=grp_mem.1 hh;have e1 : h.name = Mof R hs k:=e;have e2 : R (Mof R hs k) = k:=by rw [← e1]; exact h2
 refine ⟨e2,⟨h,h1,e1⟩,.refl _,fun q hq hc=>?_⟩;have:=E.lk_.iff.1 hc;exact minB_le (List.mem_map.2 ⟨q,grp_mem.2 ⟨hq,by rw [← this,e2]⟩,rfl⟩)
theorem Env.hd (E : Env hs lk R d m) {h : Heading} (hh : h ∈ hs) : Hd hs h.name (Mof R hs (R h.name)):=by
 have hk : grp R hs (R h.name) ≠ []:=fun e=>by
  have : h ∈ grp R hs (R h.name):=grp_mem.2 ⟨hh,rfl⟩;rw [e] at this; cases this
 obtain ⟨h1,h2⟩:=E.M hk;exact h2.at (E.lk_.cn _ _ h1.symm)
def bigH (g : Heading) : Bool:=decide (8 < g.variants.length) || decide (8 < g.also.length) || decide (30 < g.places.length)
theorem Env.entry (E : Env hs lk R d m) {i : Nat} {k : Bytes} {y : grown} (hi : m[i]? = some (k,y)) :
  ∃ g,IsG hs g ∧ R g.name = k ∧ ∀ s,s.length ≤ 1000 → m18_7 (m.map fun q=>(q.1,headG q.2)) (hs,lk) s i = some (if bigH g then .inr ([],3) else .inl (s ++ [g])):=by
 have hy : lkp m k = some y:=lkp_mem E.ga.nd (List.mem_of_getElem? hi);rw [E.ga.at_] at hy;by_cases hk : grp R hs k = []
 ·rw [if_pos hk] at hy; cases hy
 rw [if_neg hk] at hy;cases hy;obtain ⟨hM,hMd⟩:=E.M hk;obtain ⟨l1,l2,l3,l4⟩:=grp_lens (R:=R) E.sm k;have hin : ∀ {h},h ∈ grp R hs k ↔ h ∈ hs ∧ Cn hs (Mof R hs k) h.name:=fun {h}=>by
  rw [grp_mem,E.lk_.iff,hM];exact ⟨fun ⟨a,b⟩=>⟨a,b.symm⟩,fun ⟨a,b⟩=>⟨a,b.symm⟩⟩
 obtain ⟨vs,v1,v2,v3⟩:=e56 (but:=Mof R hs k) (L:=[(grp R hs k).flatMap (·.variants),(grp R hs k).map (·.name)]) (by simp at l1 l4 ⊢; omega) (by simp) (fun s hs'=>by
  simp only [List.flatten_cons,List.flatten_nil,List.append_nil,List.mem_append,List.mem_flatMap,List.mem_map] at hs';rcases hs' with ⟨h,hh,h1⟩ | ⟨h,hh,rfl⟩
  ·have:=(rt_len (E.sm.2 h (hin.1 hh).1)).1 s (mem_names.2 (.inr h1)); omega
  have:=(rt_len (E.sm.2 h (hin.1 hh).1)).1 h.name (name_mem h); omega)
 obtain ⟨ps,p1,p2,p3⟩:=e57 (l:=(grp R hs k).flatMap (·.places)) (by omega) (fun p hp=>by
  obtain ⟨h,hh,hp⟩:=List.mem_flatMap.1 hp
  exact (E.sm.2 h (hin.1 hh).1).2.2.2.2.ok p hp)
 have hal : ∀ t ∈ (grp R hs k).flatMap (·.also),∃ q ∈ hs,q.name = t:=fun t ht=>by
  obtain ⟨h,hh,ht⟩:=List.mem_flatMap.1 ht;exact E.cl h (hin.1 hh).1 t ht
 have h9 : loopO (m18_9 (k,headG (Gof R hs k)) (hs,lk) (m.map fun q=>(q.1,headG q.2))) (0,([] : List Bytes)) = some (((grp R hs k).flatMap (·.also)).map fun t=>Mof R hs (R t)):=by
  refine loop_map ((grp R hs k).flatMap (·.also)) (fun t=>Mof R hs (R t)) (fun a=>a) (fun i x a hi hx ha=>?_) (fun a=>?_)
  ·obtain ⟨q,hq,e⟩:=hal x (List.mem_of_getElem? hx);have hne : grp R hs (R x) ≠ []:=fun e2=>by
    have : q ∈ grp R hs (R x):=grp_mem.2 ⟨hq,by rw [e]⟩;rw [e2] at this; cases this
   unfold m18_9;show (if (i : Int) < (((grp R hs k).flatMap (·.also)).length : Int) then _ else _ : Option ((Nat × List Bytes) ⊕ List Bytes)) = _;rw [if_pos (by omega)];change (((grp R hs k).flatMap (·.also))[i]?).bind _ = _;rw [hx,Option.bind_some,E.uf.e53,Option.bind_some,lkp_map,E.ga.at_,if_neg hne];simp only [Option.map_some,Option.bind_some];rw [chk_t (by omega)];rfl
  unfold m18_9;simp [headG,Gof]
 obtain ⟨al,a1,a2,a3⟩:=e56 (but:=Mof R hs k) (L:=[((grp R hs k).flatMap (·.also)).map fun t=>Mof R hs (R t)]) (by simp at l2 ⊢; omega) (by simp) (fun s hs'=>by
  simp only [List.flatten_cons,List.flatten_nil,List.append_nil,List.mem_map] at hs';obtain ⟨t,ht,rfl⟩:=hs';obtain ⟨q,hq,rfl⟩:=hal t ht;obtain ⟨q',hq',e⟩:=(E.hd hq).1;rw [← e]
  have:=(rt_len (E.sm.2 q' hq')).1 q'.name (name_mem q'); omega)
 refine ⟨⟨Mof R hs k,vs,al,ps⟩,⟨hMd,v2,fun s=>?_,a2,fun s=>?_,p2,fun v c=>?_⟩,hM,fun s hs'=>?_⟩
 ·rw [v3];refine and_congr_right fun _=>?_;simp only [List.flatten_cons,List.flatten_nil,List.append_nil,List.mem_append,List.mem_flatMap,List.mem_map];constructor
  ·rintro (⟨h,hh,h1⟩ | ⟨h,hh,rfl⟩)
   ·exact ⟨h,(hin.1 hh).1,mem_names.2 (.inr h1),(hin.1 hh).2⟩
   exact ⟨h,(hin.1 hh).1,name_mem h,(hin.1 hh).2⟩
  rintro ⟨h,hh,h1,h2⟩;rcases mem_names.1 h1 with rfl | h1
  ·exact .inr ⟨h,hin.2 ⟨hh,h2⟩,rfl⟩
  exact .inl ⟨h,hin.2 ⟨hh,h2⟩,h1⟩
 ·rw [a3];refine and_congr_right fun _=>?_;simp only [List.flatten_cons,List.flatten_nil,List.append_nil,List.mem_map,List.mem_flatMap];constructor
  ·rintro ⟨t,⟨h,hh,ht⟩,rfl⟩;obtain ⟨q,hq,rfl⟩:=hal t (List.mem_flatMap.2 ⟨h,hh,ht⟩);exact ⟨h,(hin.1 hh).1,(hin.1 hh).2,q.name,ht,E.hd hq⟩
  rintro ⟨h,hh,hc,t,ht,hd⟩;have hg:=hin.2 ⟨hh,hc⟩;obtain ⟨q,hq,rfl⟩:=hal t (List.mem_flatMap.2 ⟨h,hg,ht⟩);exact ⟨q.name,⟨h,hg,ht⟩,(E.hd hq).uniq hd⟩
 ·rw [p3];unfold stP;simp only [List.mem_flatMap];constructor
  ·rintro ⟨p,⟨h,hh,hp⟩,h1⟩;exact ⟨h,(hin.1 hh).1,(hin.1 hh).2,p,hp,h1⟩
  rintro ⟨h,hh,hc,p,hp,h1⟩;exact ⟨p,⟨h,hin.2 ⟨hh,hc⟩,hp⟩,h1⟩
 have e1 : (m.map fun q=>(q.1,headG q.2))[i]? = some (k,headG (Gof R hs k)):=by rw [List.getElem?_map,hi]; rfl
 unfold m18_7;rw [e1,Option.bind_some,h9];simp only [headG,Gof];change (m56 (Mof R hs k) _).bind _ = _;rw [v1,Option.bind_some,p1,Option.bind_some,Option.bind_some];change (m56 (Mof R hs k) _).bind _ = _;rw [a1,Option.bind_some];unfold bigH;simp only;by_cases b1 : 8 < vs.length
 ·rw [if_pos (by omega)]; simp [b1]
 rw [if_neg (by omega)];by_cases b2 : 8 < al.length
 ·rw [if_pos (by omega)]; simp [b2]
 rw [if_neg (by omega)];by_cases b3 : 30 < ps.length
 ·have b3' : 30 < (ps.length : Int):=by omega
  simp only [b1,b2,b3,b3',decide_true,decide_false,Bool.or_true,if_true,Option.bind_some]
 have b3' : ¬ 30 < (ps.length : Int):=by omega
 simp only [b1,b2,b3,b3',decide_false,Bool.or_self,Bool.false_eq_true,if_false,Option.bind_some];rw [chk_t (by omega)]; rfl
end
end T11
namespace T11
open Go Go.Proofs Pk
theorem ltM59 {a b : Heading} (ha : a.name.length ≤ 1073741824) (hb : b.name.length ≤ 1073741824) : ltM m59 a b = befB a.name b.name:=by
 unfold ltM m59 befB; rw [e55 ha hb]; rfl
theorem srt59 {l : List Heading} (hl : l.length ≤ 1073741824) (hb : ∀ x ∈ l,x.name.length ≤ 1073741824) (hi : ∀ x ∈ l,∀ y ∈ l,x.name = y.name → x = y) : SortOK m59 l :=
  ⟨hl,fun x hx y hy=>⟨_,by unfold m59; rw [e55 (hb x hx) (hb y hy)]; rfl⟩,fun x hx=>by rw [ltM59 (hb x hx) (hb x hx)]; exact befB_irr _,
   fun x hx y hy z hz h1 h2=>by rw [ltM59 (hb x hx) (hb y hy)] at h1; rw [ltM59 (hb y hy) (hb z hz)] at h2; rw [ltM59 (hb x hx) (hb z hz)]; exact befB_trans h1 h2,
   fun x hx y hy h1 h2=>by
    rw [ltM59 (hb x hx) (hb y hy)] at h1; rw [ltM59 (hb y hy) (hb x hx)] at h2;refine hi x hx y hy ?_;apply Classical.byContradiction;intro e
    rw [befB_tot e,h1] at h2; cases h2⟩
instance (x : List Heading) : Decidable (Fits x):=by unfold Fits; infer_instance
theorem e18 {inds : List (List Heading)} (hi : ∀ l ∈ inds,Ix l) (hn : inds.length ≤ 12) : ∃ x,JoinOf inds.flatten x ∧ m18 inds = some (if Fits x then (x,0) else ([],3)):=by
 obtain ⟨lk,h1,R,d,hu,hk⟩:=link_1 hi hn;have hsm : smallH inds.flatten:=by
  refine ⟨?_,fun h hh=>?_⟩
  ·have:=flat_le (n:=60) (L:=inds) fun l hl=>(hi l hl).len;omega
  obtain ⟨l,hl,hh⟩:=List.mem_flatten.1 hh;exact (hi l hl).rt h hh
 have hcl : clo inds.flatten:=fun h hh t ht=>by
  obtain ⟨l,hl,hh⟩:=List.mem_flatten.1 hh;obtain ⟨k,hk,e⟩:=(hi l hl).clo h hh t ht;exact ⟨k,List.mem_flatten.2 ⟨l,hl,hk⟩,e⟩
 obtain ⟨m,h2,hg⟩:=gather hu hsm;generalize inds.flatten = hs at *;have E : Env hs lk R d m:=⟨hu,hk,hsm,hcl,hg⟩;have hml : m.length ≤ 1000:=by have:=hg.len; have:=hsm.1; omega
 have hent : ∀ i,∃ g,i < m.length → IsG hs g ∧ (∀ q,m[i]? = some q → R g.name = q.1) ∧ ∀ s : List Heading,s.length ≤ 1000 → m18_7 (m.map fun q=>(q.1,headG q.2)) (hs,lk) s i = some (if bigH g then .inr ([],3) else .inl (s ++ [g])):=fun i=>by
  by_cases hlt : i < m.length
  ·obtain ⟨g,g1,g2,g3⟩:=E.entry (i:=i) (k:=m[i].1) (y:=m[i].2) (List.getElem?_eq_getElem hlt);exact ⟨g,fun _=>⟨g1,fun q hq=>by rw [List.getElem?_eq_getElem hlt] at hq; cases hq; exact g2,g3⟩⟩
  exact ⟨default,fun h=>absurd h hlt⟩
 obtain ⟨gi,hgi⟩:=Classical.axiomOfChoice hent;have hnm : ∀ i,i < m.length → (gi i).name.length ≤ 40:=fun i hlt=>by
  obtain ⟨h,hh,e⟩:=(hgi i hlt).1.hd.1;rw [← e]; exact (rt_len (hsm.2 h hh)).1 _ (name_mem h)
 have hinj : ∀ i,i < m.length → ∀ j,j < m.length → (gi i).name = (gi j).name → i = j:=fun i hi j hj e=>by
  have e1:=(hgi i hi).2.1 _ (List.getElem?_eq_getElem hi);have e2:=(hgi j hj).2.1 _ (List.getElem?_eq_getElem hj);have e3 : (m.map Prod.fst)[i]'(by simpa using hi) = (m.map Prod.fst)[j]'(by simpa using hj):=by
   rw [List.getElem_map,List.getElem_map,← e1,← e2,e]
  have h4:=List.pairwise_iff_getElem.1 hg.nd;rcases Nat.lt_trichotomy i j with h | h | h
  ·exact absurd e3 (h4 i j _ _ h)
  ·exact h
  exact absurd e3.symm (h4 j i _ _ h)
 have hok : ∀ l : List Nat,l.Perm (List.range m.length) → SortOK m59 (l.map gi):=fun l hl=>by
  have hm : ∀ x ∈ l.map gi,∃ i,i < m.length ∧ gi i = x:=fun x hx=>by
   obtain ⟨i,hi,e⟩:=List.mem_map.1 hx;exact ⟨i,List.mem_range.1 (hl.subset hi),e⟩
  refine srt59 (by rw [List.length_map,hl.length_eq,List.length_range]; omega) (fun x hx=>?_) (fun x hx y hy e=>?_)
  ·obtain ⟨i,hi,rfl⟩:=hm x hx;have:=hnm i hi; omega
  obtain ⟨i,hi,rfl⟩:=hm x hx;obtain ⟨j,hj,rfl⟩:=hm y hy;rw [hinj i hi j hj e]
 have hnd : ∀ l : List Nat,l.Perm (List.range m.length) → (l.map gi).Nodup:=fun l hl=>by
  unfold List.Nodup;rw [List.pairwise_map];refine (hl.nodup_iff.2 List.nodup_range).imp_of_mem fun {i j} hi hj hne e=>hne ?_;exact hinj i (List.mem_range.1 (hl.subset hi)) j (List.mem_range.1 (hl.subset hj)) (by rw [e])
 obtain ⟨x,x1,x2,x3⟩:=ex_sortO (hok _ (List.Perm.refl _));have hxm : ∀ g,g ∈ x ↔ ∃ i,i < m.length ∧ gi i = g:=fun g=>by
  rw [x2.mem_iff,List.mem_map];simp only [List.mem_range]
 have hJ : JoinOf hs x:=by
  refine ⟨?_,fun h hh=>?_,fun g hg'=>?_⟩
  ·refine (x3.and (x2.nodup_iff.2 (hnd _ (List.Perm.refl _)))).imp_of_mem fun {a b} ha hb h=>?_;obtain ⟨i,hi,rfl⟩:=(hxm a).1 ha;obtain ⟨j,hj,rfl⟩:=(hxm b).1 hb;have n1:=hnm i hi; have n2:=hnm j hj;have h3:=h.1;rw [ltM59 (by omega) (by omega)] at h3;have hne : (gi i).name ≠ (gi j).name:=fun e=>h.2 (by rw [hinj i hi j hj e]);rcases ltB_tot hne with h4 | h4
   ·exact h4
   unfold ltB at h4; rw [h3] at h4; cases h4
  ·have hne : grp R hs (R h.name) ≠ []:=fun e=>by
    have : h ∈ grp R hs (R h.name):=grp_mem.2 ⟨hh,rfl⟩;rw [e] at this; cases this
   have h3:=hg.at_ (R h.name);rw [if_neg hne] at h3;obtain ⟨i,hi,e⟩:=List.mem_iff_getElem.1 (mem_lkp h3);refine ⟨gi i,(hxm _).2 ⟨i,hi,rfl⟩,hk.cn _ _ ?_⟩;rw [(hgi i hi).2.1 _ (List.getElem?_eq_getElem hi),e]
  obtain ⟨i,hi,rfl⟩:=(hxm g).1 hg';exact (hgi i hi).1
 refine ⟨x,hJ,?_⟩;have hxl : x.length = m.length:=by rw [x2.length_eq,List.length_map,List.length_range]
 have h6 : m18_6 (hs,lk) (m.map fun q=>(q.1,headG q.2)) = some (if Fits x then (x,0) else ([],3)):=by
  unfold m18_6;rw [List.length_map];refine ordO_eq fun l hl=>?_;have hmem : ∀ i,i ∈ l ↔ i < m.length:=fun i=>by rw [hl.mem_iff,List.mem_range]
  rw [fold_out gi (fun i=>bigH (gi i)) ([],3) m.length (fun s i hi hs'=>(hgi i hi).2.2 s (by omega)) l [] (fun i hi=>(hmem i).1 hi) (by rw [hl.length_eq]; simp)];rw [List.nil_append];by_cases hb : l.any (fun i=>bigH (gi i)) = true
  ·rw [if_pos hb,if_neg fun hf=>?_];obtain ⟨i,hi,h3⟩:=List.any_eq_true.1 hb;have:=hf.2 (gi i) ((hxm _).2 ⟨i,(hmem i).1 hi,rfl⟩);unfold bigH at h3;simp only [Bool.or_eq_true,decide_eq_true_eq] at h3;omega
  rw [if_neg hb];have hall : ∀ g ∈ x,g.variants.length ≤ 8 ∧ g.also.length ≤ 8 ∧ g.places.length ≤ 30:=fun g hg'=>by
   obtain ⟨i,hi,rfl⟩:=(hxm g).1 hg';apply Classical.byContradiction;intro hc;apply hb;refine List.any_eq_true.2 ⟨i,(hmem i).2 hi,?_⟩;unfold bigH;simp only [Bool.or_eq_true,decide_eq_true_eq];omega
  unfold m18_8;rw [List.length_map,hl.length_eq,List.length_range];by_cases h60 : 60 < m.length
  ·rw [if_pos (by omega),if_neg fun hf=>?_];have:=hf.1; omega
  rw [if_neg (by omega),if_pos ⟨by omega,hall⟩,chk_t (hnd l hl),sortO_eqW (hok l hl) (x2.trans (hl.symm.map gi)) x3];rfl
 unfold m18;rw [if_neg (by omega),h1,Option.bind_some];simp only;rw [h2,Option.bind_some];refine ordO_eq fun l hl=>?_;rw [fold_set0 (fun q : Bytes × grown=>q.2.heads ≠ [] ∧ ∀ s ∈ q.2.heads,s.length ≤ 1073741824) (fun q=>(q.1,headG q.2)) (fun s i q hq hp=>?_) (fun q hq=>?_) hl]
 ·exact h6
 ·unfold m18_5;rw [hq,Option.bind_some,e54 hp.1 hp.2,Option.bind_some];rfl
 have h3:=lkp_mem hg.nd (k:=q.1) (y:=q.2) hq;rw [hg.at_] at h3;by_cases he : grp R hs q.1 = []
 ·rw [if_pos he] at h3; cases h3
 rw [if_neg he] at h3;rw [← Option.some.inj h3];refine ⟨by unfold Gof; simpa using he,fun s hs'=>?_⟩;obtain ⟨h,hh,rfl⟩:=List.mem_map.1 hs';have:=(rt_len (hsm.2 h (grp_mem.1 hh).1)).1 _ (name_mem h); omega
end T11
namespace T11
open Go Go.Proofs Pk
noncomputable def okI (x : List Heading) : Bool:=thinB x 12 && decide (faultB x = 0)
theorem e30 (l : List (List Heading)) : m30 l = some (l.all okI && decide (l.length ≤ 6)):=by
 unfold m30
 rw [loop_all (ε:=Unit ⊕ Bool) l okI (.inr false) (.inl ()) (step:=m30_1 l) (fun i x hi hx=>by
  unfold m30_1;rw [if_pos (by omega),hx,Option.bind_some,show (12 : Int) = ((12 : Nat) : Int) from rfl,e49,Option.bind_some,e26];unfold okI
  cases thinB x 12 with
  | false=>rfl
  | true =>
   by_cases h : faultB x = 0
   ·simp [h]
   simp [h]) (by unfold m30_1; rw [if_neg (by omega)])]
 cases l.all okI with
 | false=>rfl
 | true =>
  simp only [Option.bind_some,if_true,Bool.true_and];congr 1;rw [Bool.eq_iff_iff,decide_eq_true_eq,decide_eq_true_eq]; omega
theorem okI_at {l : List (List Heading)} (h : (l.all okI && decide (l.length ≤ 6)) = true) : (∀ x ∈ l,Ix x) ∧ l.length ≤ 6:=by
 rw [Bool.and_eq_true,List.all_eq_true,decide_eq_true_eq] at h;refine ⟨fun x hx=>?_,h.2⟩;have:=h.1 x hx;unfold okI at this;rw [Bool.and_eq_true,decide_eq_true_eq] at this;exact fault0.1 this.2
theorem Ix.e24 {x : List Heading} (h : Ix x) : m24 x = some x:=T11.e24 (by have:=h.len; omega) fun k hk=>by
 have:=h.rt k hk;have:=this.2.1.1; have:=(h.rt k hk).2.2.1.1; have:=(h.rt k hk).2.2.2.1;omega
theorem e19 {L : List (List Heading)} (h : ∀ x ∈ L,Ix x) (hn : L.length ≤ 1000) : m19 L = some L:=by
 unfold m19
 rw [loop_map L (fun x=>x) (fun a=>a) (step:=m19_1 L) (fun i x a hi hxi ha=>by
  unfold m19_1
  rw [if_pos (show (i : Int) < (L.length : Int) by omega),hxi,Option.bind_some,(h x (List.mem_of_getElem? hxi)).e24,Option.bind_some,chk_t (by simp only; omega)]) (fun a=>by unfold m19_1; rw [if_neg (by simp)])]
 simp
theorem flat_rt {L : List (List Heading)} (h : ∀ l ∈ L,Ix l) : ∀ k ∈ L.flatten,Rt k:=fun k hk=>by
 obtain ⟨l,hl,hk⟩:=List.mem_flatten.1 hk;exact (h l hl).rt k hk
theorem flat_clo {L : List (List Heading)} (h : ∀ l ∈ L,Ix l) : clo L.flatten:=fun k hk t ht=>by
 obtain ⟨l,hl,hk⟩:=List.mem_flatten.1 hk;obtain ⟨q,hq,e⟩:=(h l hl).clo k hk t ht;exact ⟨q,List.mem_flatten.2 ⟨l,hl,hq⟩,e⟩
theorem join_ix {L : List (List Heading)} (h : ∀ l ∈ L,Ix l) {x : List Heading} (hx : JoinOf L.flatten x) (hf : Fits x) : Ix x:=hx.ix (flat_rt h) (flat_clo h) hf
end T11
namespace T11
open Go Go.Proofs Pk
theorem flat_names {l : List Heading} (h : ∀ x ∈ l,Rt x) : (l.flatMap names).length ≤ 9 * l.length:=flat_len fun x hx=>(h x hx).2.1.1
theorem again_2 {l : List (List Heading)} {i : Nat} {L : List Heading} (hL : l[i]? = some L) (hi : Ix L) {a0 : List Bytes} (ha : a0.length ≤ 100000) : loopO (m10_2 l (i,a0)) (0,a0) = some (a0 ++ L.flatMap names):=by
 have h1:=loop_fold L (σ:=List Bytes) (ε:=List Bytes) (fun a x=>a ++ names x) (fun a=>a) (fun j a=>a = a0 ++ (L.take j).flatMap names) (step:=m10_2 l (i,a0)) (fun j x a hj hx hI=>by
  have hv:=(hi.rt x (List.mem_of_getElem? hx)).2.1.1;have h2:=flat_names (l:=L.take j) fun y hy=>hi.rt y (List.mem_of_mem_take hy);have h3:=hi.len;have h4 : (L.take j).length ≤ L.length:=by rw [List.length_take]; omega
  have h5 : a.length = a0.length + ((L.take j).flatMap names).length:=by rw [hI,List.length_append]
  have h6 : (names x).length = x.variants.length + 1:=by unfold names; simp
  unfold m10_2;simp only
  rw [hL,Option.bind_some,if_pos (by omega),hx,Option.bind_some,e36 (by omega),Option.bind_some,chk_t (by omega)])
  (fun j x a hj hx hI=>by rw [take_succ hx,List.flatMap_append,hI]; simp)
  (fun a hI=>by unfold m10_2; simp only; rw [hL,Option.bind_some,if_neg (by simp)]) (a0:=a0) (by simp)
 rw [h1];have : ∀ (L : List Heading) (a : List Bytes),L.foldl (fun a x=>a ++ names x) a = a ++ L.flatMap names:=fun L=>by
  induction L with
  | nil=>intro a; simp
  | cons x L ih=>intro a; rw [List.foldl_cons,ih]; simp
 rw [this]
theorem again_1 {l : List (List Heading)} (hi : ∀ x ∈ l,Ix x) (hn : l.length ≤ 6) : loopO (m10_1 l) (0,([] : List Bytes)) = some (l.flatten.flatMap names):=by
 have h1:=loop_fold l (σ:=List Bytes) (ε:=List Bytes) (fun a x=>a ++ x.flatMap names) (fun a=>a) (fun j a=>a.length ≤ 540 * j) (step:=m10_1 l) (fun j x a hj hx hI=>by
  unfold m10_1;simp only
  rw [if_pos (by omega),again_2 hx (hi x (List.mem_of_getElem? hx)) (by omega),Option.bind_some])
  (fun j x a hj hx hI=>by
   have hix:=hi x (List.mem_of_getElem? hx);have h2:=flat_names (l:=x) hix.rt;have:=hix.len
   rw [List.length_append]; omega)
  (fun a hI=>by unfold m10_1; simp) (a0:=[]) (by simp)
 rw [h1];have : ∀ (L : List (List Heading)) (a : List Bytes),L.foldl (fun a x=>a ++ x.flatMap names) a = a ++ L.flatten.flatMap names:=fun L=>by
  induction L with
  | nil=>intro a; simp
  | cons x L ih=>intro a; rw [List.foldl_cons,ih]; simp
 rw [this,List.nil_append]
theorem JoinOf.mem_iff {hs x : List Heading} (hx : JoinOf hs x) {s : Bytes} : s ∈ x.flatMap names ↔ s ∈ hs.flatMap names:=by
 rw [List.mem_flatMap,List.mem_flatMap];constructor
 ·rintro ⟨g,hg,hs⟩;obtain ⟨h,hh,h1,_⟩:=(hx.each g hg).of hs;exact ⟨h,hh,h1⟩
 rintro ⟨h,hh,hs⟩;obtain ⟨g,hg,hc⟩:=hx.cov h hh;exact ⟨g,hg,(hx.each g hg).mem hh hc.symm hs⟩
theorem again_3 {x : List Heading} {z : Int} {E : List Bytes} (hi : Ix x) (hE : ∀ g ∈ x,g.name ∈ E) : loopO (m10_3 (x,z) E) (0,0) = some (.inl ((x.flatMap names).length : Int)):=by
 have h1:=loop_fold x (σ:=Int) (ε:=Int ⊕ Bool) (fun n g=>n + (1 + (g.variants.length : Int))) (fun n=>.inl n) (fun j n=>n = (((x.take j).flatMap names).length : Int)) (step:=m10_3 (x,z) E) (fun j g n hj hg hI=>by
  have hgm:=List.mem_of_getElem? hg;have hv:=(hi.rt g hgm).2.1.1;have h2:=flat_names (l:=x.take j) fun y hy=>hi.rt y (List.mem_of_mem_take hy);have h3:=hi.len;have h4 : (x.take j).length ≤ x.length:=by rw [List.length_take]; omega
  unfold m10_3;simp only
  rw [if_pos (by omega),hg,Option.bind_some,chk_t (by omega),chk_t (by omega),e37,Option.bind_some,if_pos (by simpa using hE g hgm)])
  (fun j g n hj hg hI=>by
   rw [take_succ hg,List.flatMap_append,hI,List.length_append]
   unfold names; simp; omega)
  (fun n hI=>by unfold m10_3; simp) (a0:=0) (by simp)
 rw [h1];have : ∀ (L : List Heading) (n : Int),L.foldl (fun n g=>n + (1 + (g.variants.length : Int))) n = n + ((L.flatMap names).length : Int):=fun L=>by
  induction L with
  | nil=>intro n; simp
  | cons g L ih=>intro n; rw [List.foldl_cons,ih,List.flatMap_cons,List.length_append]; unfold names; simp; omega
 rw [this]; simp
theorem law10 (hawk : m16 = some true) (l : List (List Heading)) : m10 l = some true:=by
 unfold m10;rw [e30,Option.bind_some,hawk]
 cases hr : (l.all okI && decide (l.length ≤ 6)) with
 | false=>rfl
 | true =>
  obtain ⟨hi,hn⟩:=okI_at hr;obtain ⟨x,hx,ex⟩:=e18 hi (by omega);rw [if_pos rfl,e19 hi (by omega),Option.bind_some,ex,Option.bind_some];by_cases hf : Fits x
  ·have hix:=join_ix hi hx hf;have hln : (l.flatten.flatMap names).length ≤ 3240:=by
    have h1:=flat_names (l:=l.flatten) (flat_rt hi);have h2:=flat_le (n:=60) (L:=l) fun y hy=>(hi y hy).len;omega
   rw [if_pos hf];simp only [ne_eq,not_true_eq_false,if_false];rw [e34,Option.bind_some,if_neg (by simpa using fault0.2 hix),again_1 hi hn,Option.bind_some,again_3 hix (fun g hg=>hx.mem_iff.1 (List.mem_flatMap.2 ⟨g,hg,name_mem g⟩)),Option.bind_some];simp only
   rw [e38 (by omega) (fun s hs=>by
    obtain ⟨h,hh,hs⟩:=List.mem_flatMap.1 hs
    have:=(rt_len (flat_rt hi h hh)).1 s hs; omega),Option.bind_some,if_pos]
   ·rfl
   congr 1;refine List.Perm.length_eq ((List.perm_ext_iff_of_nodup hix.nd (ltB_nd (srtB_sorted _))).2 fun s=>?_);rw [hx.mem_iff,srtB_mem]
  rw [if_neg hf];rfl
end T11
namespace Pk
open Go
def digE : Nat → Nat → List UInt8
 | 0,u=>[UInt8.ofNat (48 + u)]
 | f + 1,u=>if u < 10 then [UInt8.ofNat (48 + u)] else digE f (u / 10) ++ [UInt8.ofNat (48 + u % 10)]
theorem digE_eq : ∀ (f u : Nat),u < 10 ^ f → digE f u = Lib.decDigits u
 | 0,u,h=>by
  have : u = 0:=by simpa using h
  subst this; rw [Lib.decDigits,dif_pos (by decide)]; rfl
 | f + 1,u,h=>by
  rw [Lib.decDigits,digE]
  split
  ·rfl
  rw [digE_eq f (u / 10) (by rw [Nat.pow_succ] at h; omega)]
def itoaE (n : Int) : Option Bytes:=if 0 ≤ n ∧ n ≤ 999999 then some (digE 6 n.toNat) else none
theorem litoa (n : Int) : LeO (itoaE n) (itoaM n):=fun r hr=>by
  unfold itoaE at hr
  split at hr
  · rename_i h
    cases hr;unfold itoaM;rw [chk_t (by omega)];unfold Lib.itoa
    rw [if_neg (by omega), digE_eq 6 _ (by have : (10 : Nat) ^ 6 = 1000000 := by decide
                                           omega)]
  cases hr
end Pk
namespace T11.E
open Go Go.Proofs Pk
def m189 (s : Bytes) : Option (Int × Bool):=chkE (s.length ≤ 1073741824) (some (atoiR s))
theorem lm189 (s : Bytes) : LeO (T11.E.m189 s) (T11.m189 s):=LeO.chk (LeO.refl _)
def m179 (n : Int) : Option Bytes:=itoaE n
theorem lm179 (n : Int) : LeO (T11.E.m179 n) (T11.m179 n):=litoa n
def m68 (s t : Bytes) : Option (Bytes × Bytes × Bool):=chkE (s.length ≤ 1073741824) (some (Lib.cut s t))
theorem lm68 (s t : Bytes) : LeO (T11.E.m68 s t) (T11.m68 s t):=LeO.chk (LeO.refl _)
def m154 (s t : Bytes) : Option Bool:=chkE (s.length ≤ 1073741824) (some (Lib.contains s t))
theorem lm154 (s t : Bytes) : LeO (T11.E.m154 s t) (T11.m154 s t):=LeO.chk (LeO.refl _)
def m110 (s t : Bytes) : Option Bytes:=some (Lib.trimPrefix s t)
theorem lm110 (s t : Bytes) : LeO (T11.E.m110 s t) (T11.m110 s t):=LeO.refl _
def m87 (a b : Bytes) : Option Int:=some (Lib.compareBytes a b)
theorem lm87 (s t : Bytes) : LeO (T11.E.m87 s t) (T11.m87 s t):=LeO.refl _
def m151 (s : Bytes) (r : Int) : Option Bool:=chkE (0 ≤ r ∧ r < 128) (some (decide (0 ≤ Lib.indexByte s r.toNat.toUInt8)))
theorem lm151 (s : Bytes) (r : Int) : LeO (T11.E.m151 s r) (T11.m151 s r):=LeO.chk (LeO.refl _)
def m153 (s t : Bytes) : Option Bytes:=match t with
 | [c]=>chkE (s.length ≤ 1073741824 ∧ c.toNat < 128) (some (Lib.trimB s c))
 | _=>none
theorem lm153 (s t : Bytes) : LeO (T11.E.m153 s t) (T11.m153 s t):=by
 intro r h;unfold T11.E.m153 at h
 split at h
 ·exact LeO.chk (LeO.refl _) r h
 cases h
def m67 (s t : Bytes) : Option (List Bytes):=chkE (s.length ≤ 1073741824 ∧ 1 ≤ t.length) (some ((Lib.splitB (bs t) 0 (Lib.countB (bs s) (bs t)) (bs s)).map (·.data.toList)))
theorem lm67 (s t : Bytes) : LeO (T11.E.m67 s t) (T11.m67 s t):=LeO.chk (LeO.refl _)
def m140 (l : List Bytes) (sep : Bytes) : Option Bytes:=chkE (l.length ≤ 1073741824 ∧ (Lib.join l sep).length ≤ 1073741824) (some (Lib.join l sep))
theorem lm140 (l : List Bytes) (sep : Bytes) : LeO (T11.E.m140 l sep) (T11.m140 l sep):=LeO.chk (LeO.refl _)
end T11.E
set_option maxHeartbeats 4000000
namespace T11.E
open Go Go.Proofs Pk
def m47  : Option (List (List Heading)) :=
 some ([([(⟨[67,111,114,110,32,76,97,119,115],([] : List Bytes),([[84,114,97,100,101]] : List Bytes),([(⟨3,12,14⟩ : Place),(⟨4,1,1⟩ : Place)] : List Place)⟩ : Heading),(⟨[76,101,101,32,65,110,110],([[65,32,76,101,101]] : List Bytes),([] : List Bytes),([(⟨3,7,7⟩ : Place)] : List Place)⟩ : Heading),(⟨[84,114,97,100,101],([] : List Bytes),([] : List Bytes),([(⟨3,13,13⟩ : Place)] : List Place)⟩ : Heading)] : List Heading),([(⟨[65,32,76,101,101],([[76,97,100,121,32,76,101,101]] : List Bytes),([] : List Bytes),([(⟨9,1,2⟩ : Place)] : List Place)⟩ : Heading),(⟨[67,111,114,110,32,108,97,119,115],([[67,111,114,110,32,76,97,119,115]] : List Bytes),([] : List Bytes),([(⟨4,2,2⟩ : Place)] : List Place)⟩ : Heading)] : List Heading)] : List (List Heading))
theorem lm47  : LeO (m47 ) (T11.m47 ):=by
 unfold m47 T11.m47
 repeat' with_reducible first|exact lq0 _
def m115 (x_0 : Heading) (f0_ : Heading → Option Bool) : Option (Bool) :=
 (f0_ x_0).bind fun r13 =>
 some (!r13)
theorem lm115 (x_0 : Heading) {f0_ f0_' : Heading → Option Bool} (hf0_ : ∀ y0,LeO (f0_ y0) (f0_' y0)) : LeO (m115 x_0 f0_) (T11.m115 x_0 f0_'):=by
 unfold m115 T11.m115
 repeat' with_reducible first|exact lq0 _|exact hf0_ _|refine lq9 ?_ fun _=>?_
def m149_1 (s_0 : List Heading) (f_1 : Heading → Option Bool) (s33 : Nat) : Option ((Nat) ⊕ ((Unit) ⊕ Int)) :=
 if (s33 : Int) < (s_0.length : Int) then (
  (s_0[s33]?).bind fun x66 =>
  (f_1 x66).bind fun r84 =>
  if r84 then (
   some (.inr (.inr (s33 : Int))))
  else
  some (.inl (s33 + 1)))
 else
 some (.inr (.inl ()))
theorem lm149_1 (s_0 : List Heading) {f_1 f_1' : Heading → Option Bool} (hf_1 : ∀ y0,LeO (f_1 y0) (f_1' y0)) (s33 : Nat) : LeO (m149_1 s_0 f_1 s33) (T11.m149_1 s_0 f_1' s33):=by
 unfold m149_1 T11.m149_1
 repeat' with_reducible first|exact lq0 _|exact hf_1 _|refine lq7 ?_ ?_|refine lq9 ?_ fun _=>?_
def m149 (s_0 : List Heading) (f_1 : Heading → Option Bool) : Option (Int) :=
 (loopE (m149_1 s_0 f_1) 0).bind fun e29=>match e29 with
 | .inr z=>some z
 | .inl t32 =>
 some (-1)
theorem lm149 (s_0 : List Heading) {f_1 f_1' : Heading → Option Bool} (hf_1 : ∀ y0,LeO (f_1 y0) (f_1' y0)) : LeO (m149 s_0 f_1) (T11.m149 s_0 f_1'):=by
 unfold m149 T11.m149
 repeat' with_reducible first|exact lq0 _|refine lm149_1 _ (fun _=>?_) _|exact hf_1 _|refine lq1 (fun _=>?_) _|(refine lq8 ?_ (fun _=>?_) (fun _=>?_)<;>try dsimp only)|refine lq9 ?_ fun _=>?_
def m114 (s_0 : List Heading) (f_1 : Heading → Option Bool) : Option (Bool) :=
 (m149 s_0 f_1).bind fun r1 =>
 some (decide (0 ≤ r1))
theorem lm114 (s_0 : List Heading) {f_1 f_1' : Heading → Option Bool} (hf_1 : ∀ y0,LeO (f_1 y0) (f_1' y0)) : LeO (m114 s_0 f_1) (T11.m114 s_0 f_1'):=by
 unfold m114 T11.m114
 repeat' with_reducible first|exact lq0 _|refine lm149 _ (fun _=>?_)|exact hf_1 _|refine lq9 ?_ fun _=>?_
def m77 (l_0 : List Heading) (right : Heading → Option Bool) : Option (Bool) :=
 (m114 l_0 (fun x0_=>m115 x0_ right)).bind fun r5 =>
 some (!r5)
theorem lm77 (l_0 : List Heading) {right right' : Heading → Option Bool} (hright : ∀ y0,LeO (right y0) (right' y0)) : LeO (m77 l_0 right) (T11.m77 l_0 right'):=by
 unfold m77 T11.m77
 repeat' with_reducible first|exact lq0 _|refine lm114 _ (fun _=>?_)|refine lm115 _ (fun _=>?_)|exact hright _|refine lq9 ?_ fun _=>?_
def m123 (x_0 : Bytes) (f0_ : Bytes → Option Bool) : Option (Bool) :=
 (f0_ x_0).bind fun r1 =>
 some (!r1)
theorem lm123 (x_0 : Bytes) {f0_ f0_' : Bytes → Option Bool} (hf0_ : ∀ y0,LeO (f0_ y0) (f0_' y0)) : LeO (m123 x_0 f0_) (T11.m123 x_0 f0_'):=by
 unfold m123 T11.m123
 repeat' with_reducible first|exact lq0 _|exact hf0_ _|refine lq9 ?_ fun _=>?_
def m127_1 (s_0 : List Bytes) (f_1 : Bytes → Option Bool) (s23 : Nat) : Option ((Nat) ⊕ ((Unit) ⊕ Int)) :=
 if (s23 : Int) < (s_0.length : Int) then (
  (s_0[s23]?).bind fun x46 =>
  (f_1 x46).bind fun r54 =>
  if r54 then (
   some (.inr (.inr (s23 : Int))))
  else
  some (.inl (s23 + 1)))
 else
 some (.inr (.inl ()))
theorem lm127_1 (s_0 : List Bytes) {f_1 f_1' : Bytes → Option Bool} (hf_1 : ∀ y0,LeO (f_1 y0) (f_1' y0)) (s23 : Nat) : LeO (m127_1 s_0 f_1 s23) (T11.m127_1 s_0 f_1' s23):=by
 unfold m127_1 T11.m127_1
 repeat' with_reducible first|exact lq0 _|exact hf_1 _|refine lq7 ?_ ?_|refine lq9 ?_ fun _=>?_
def m127 (s_0 : List Bytes) (f_1 : Bytes → Option Bool) : Option (Int) :=
 (loopE (m127_1 s_0 f_1) 0).bind fun e19=>match e19 with
 | .inr z=>some z
 | .inl t22 =>
 some (-1)
theorem lm127 (s_0 : List Bytes) {f_1 f_1' : Bytes → Option Bool} (hf_1 : ∀ y0,LeO (f_1 y0) (f_1' y0)) : LeO (m127 s_0 f_1) (T11.m127 s_0 f_1'):=by
 unfold m127 T11.m127
 repeat' with_reducible first|exact lq0 _|refine lm127_1 _ (fun _=>?_) _|exact hf_1 _|refine lq1 (fun _=>?_) _|(refine lq8 ?_ (fun _=>?_) (fun _=>?_)<;>try dsimp only)|refine lq9 ?_ fun _=>?_
def m122 (s_0 : List Bytes) (f_1 : Bytes → Option Bool) : Option (Bool) :=
 (m127 s_0 f_1).bind fun r1 =>
 some (decide (0 ≤ r1))
theorem lm122 (s_0 : List Bytes) {f_1 f_1' : Bytes → Option Bool} (hf_1 : ∀ y0,LeO (f_1 y0) (f_1' y0)) : LeO (m122 s_0 f_1) (T11.m122 s_0 f_1'):=by
 unfold m122 T11.m122
 repeat' with_reducible first|exact lq0 _|refine lm127 _ (fun _=>?_)|exact hf_1 _|refine lq9 ?_ fun _=>?_
def m80 (l_0 : List Bytes) (right : Bytes → Option Bool) : Option (Bool) :=
 (m122 l_0 (fun x0_=>m123 x0_ right)).bind fun r5 =>
 some (!r5)
theorem lm80 (l_0 : List Bytes) {right right' : Bytes → Option Bool} (hright : ∀ y0,LeO (right y0) (right' y0)) : LeO (m80 l_0 right) (T11.m80 l_0 right'):=by
 unfold m80 T11.m80
 repeat' with_reducible first|exact lq0 _|refine lm122 _ (fun _=>?_)|refine lm123 _ (fun _=>?_)|exact hright _|refine lq9 ?_ fun _=>?_
def m150 (b_0 : Int) : Option (Bool) :=
 ((
  if (32 : Int) ≤ b_0 then (
   if b_0 ≤ 126 then (
    (m151 [44,58,59,61] b_0).bind fun r17 =>
    some (!r17))
   else
   some false)
  else
  some false
 ) : Option (Bool)).bind fun t10 =>
 some t10
theorem lm150 : ∀ b_0,LeO (m150 b_0) (T11.m150 b_0):=by
 intro _;unfold m150 T11.m150
 repeat' with_reducible first|exact lq0 _|exact lm151 _ _|refine lq7 ?_ ?_|refine lq9 ?_ fun _=>?_
def m72 (n_0 : Int) (low : Int) (high : Int) : Option (Bool) :=
 ((
  if low ≤ n_0 then (
   some (decide (n_0 ≤ high)))
  else
  some false
 ) : Option (Bool)).bind fun t4 =>
 some t4
theorem lm72 : ∀ n_0 low high,LeO (m72 n_0 low high) (T11.m72 n_0 low high):=by
 intro _ _ _;unfold m72 T11.m72
 repeat' with_reducible first|exact lq0 _|refine lq7 ?_ ?_|refine lq9 ?_ fun _=>?_
def m193 (x_0 : Int) (f0_ : Int → Option Bool) : Option (Bool) :=
 (f0_ x_0).bind fun r1 =>
 some (!r1)
theorem lm193 (x_0 : Int) {f0_ f0_' : Int → Option Bool} (hf0_ : ∀ y0,LeO (f0_ y0) (f0_' y0)) : LeO (m193 x_0 f0_) (T11.m193 x_0 f0_'):=by
 unfold m193 T11.m193
 repeat' with_reducible first|exact lq0 _|exact hf0_ _|refine lq9 ?_ fun _=>?_
def m218_1 (s_0 : List UInt8) (f_1 : Int → Option Bool) (s23 : Nat) : Option ((Nat) ⊕ ((Unit) ⊕ Int)) :=
 if (s23 : Int) < (s_0.length : Int) then (
  (s_0[s23]?).bind fun x46 =>
  (f_1 (x46.toNat : Int)).bind fun r54 =>
  if r54 then (
   some (.inr (.inr (s23 : Int))))
  else
  some (.inl (s23 + 1)))
 else
 some (.inr (.inl ()))
theorem lm218_1 (s_0 : List UInt8) {f_1 f_1' : Int → Option Bool} (hf_1 : ∀ y0,LeO (f_1 y0) (f_1' y0)) (s23 : Nat) : LeO (m218_1 s_0 f_1 s23) (T11.m218_1 s_0 f_1' s23):=by
 unfold m218_1 T11.m218_1
 repeat' with_reducible first|exact lq0 _|exact hf_1 _|refine lq7 ?_ ?_|refine lq9 ?_ fun _=>?_
def m218 (s_0 : List UInt8) (f_1 : Int → Option Bool) : Option (Int) :=
 (loopE (m218_1 s_0 f_1) 0).bind fun e19=>match e19 with
 | .inr z=>some z
 | .inl t22 =>
 some (-1)
theorem lm218 (s_0 : List UInt8) {f_1 f_1' : Int → Option Bool} (hf_1 : ∀ y0,LeO (f_1 y0) (f_1' y0)) : LeO (m218 s_0 f_1) (T11.m218 s_0 f_1'):=by
 unfold m218 T11.m218
 repeat' with_reducible first|exact lq0 _|refine lm218_1 _ (fun _=>?_) _|exact hf_1 _|refine lq1 (fun _=>?_) _|(refine lq8 ?_ (fun _=>?_) (fun _=>?_)<;>try dsimp only)|refine lq9 ?_ fun _=>?_
def m192 (s_0 : List UInt8) (f_1 : Int → Option Bool) : Option (Bool) :=
 (m218 s_0 f_1).bind fun r1 =>
 some (decide (0 ≤ r1))
theorem lm192 (s_0 : List UInt8) {f_1 f_1' : Int → Option Bool} (hf_1 : ∀ y0,LeO (f_1 y0) (f_1' y0)) : LeO (m192 s_0 f_1) (T11.m192 s_0 f_1'):=by
 unfold m192 T11.m192
 repeat' with_reducible first|exact lq0 _|refine lm218 _ (fun _=>?_)|exact hf_1 _|refine lq9 ?_ fun _=>?_
def m152 (l_0 : List UInt8) (right : Int → Option Bool) : Option (Bool) :=
 (m192 l_0 (fun x0_=>m193 x0_ right)).bind fun r5 =>
 some (!r5)
theorem lm152 (l_0 : List UInt8) {right right' : Int → Option Bool} (hright : ∀ y0,LeO (right y0) (right' y0)) : LeO (m152 l_0 right) (T11.m152 l_0 right'):=by
 unfold m152 T11.m152
 repeat' with_reducible first|exact lq0 _|refine lm192 _ (fun _=>?_)|refine lm193 _ (fun _=>?_)|exact hright _|refine lq9 ?_ fun _=>?_
def m117 (s_0 : Bytes) : Option (Bool) :=
 ((
  (m72 (s_0.length : Int) 1 40).bind fun r32 =>
  if r32 then (
   chkE (s_0.length ≤ 1073741824) <|
   (m152 s_0 (m150)).bind fun r44 =>
   if r44 then (
    (m153 s_0 [32]).bind fun r49 =>
    if r49 = s_0 then (
     (m154 s_0 [32,32]).bind fun r54 =>
     some (!r54))
    else
    some false)
   else
   some false)
  else
  some false
 ) : Option (Bool)).bind fun t29 =>
 some t29
theorem lm117 : ∀ s_0,LeO (m117 s_0) (T11.m117 s_0):=by
 intro _;unfold m117 T11.m117
 repeat' with_reducible first|exact lq0 _|exact lm72 _ _ _|refine lm152 _ (fun _=>?_)|exact lm150 _|exact lm153 _ _|exact lm154 _ _|refine lq5 ?_|refine lq7 ?_ ?_|refine lq9 ?_ fun _=>?_
def m118_1 (l_0 : List Bytes) (before : Bytes → Bytes → Option Bool) (s36 : Nat) : Option ((Nat) ⊕ ((Unit) ⊕ Bool)) :=
 if (s36 : Int) < (l_0.length : Int) then (
  ((
   if 0 < (s36 : Int) then (
    (l_0[((s36 : Int) - 1).toNat]?).bind fun x100 =>
    (l_0[s36]?).bind fun x108 =>
    (before x100 x108).bind fun r116 =>
    some (!r116))
   else
   some false
  ) : Option (Bool)).bind fun t95 =>
  if t95 then (
   some (.inr (.inr false)))
  else
  some (.inl (s36 + 1)))
 else
 some (.inr (.inl ()))
theorem lm118_1 (l_0 : List Bytes) {before before' : Bytes → Bytes → Option Bool} (hbefore : ∀ y0 y1,LeO (before y0 y1) (before' y0 y1)) (s36 : Nat) : LeO (m118_1 l_0 before s36) (T11.m118_1 l_0 before' s36):=by
 unfold m118_1 T11.m118_1
 repeat' with_reducible first|exact lq0 _|exact hbefore _ _|refine lq7 ?_ ?_|refine lq9 ?_ fun _=>?_
def m118 (l_0 : List Bytes) (before : Bytes → Bytes → Option Bool) : Option (Bool) :=
 (loopE (m118_1 l_0 before) 0).bind fun e32=>match e32 with
 | .inr z=>some z
 | .inl t35 =>
 some true
theorem lm118 (l_0 : List Bytes) {before before' : Bytes → Bytes → Option Bool} (hbefore : ∀ y0 y1,LeO (before y0 y1) (before' y0 y1)) : LeO (m118 l_0 before) (T11.m118 l_0 before'):=by
 unfold m118 T11.m118
 repeat' with_reducible first|exact lq0 _|refine lm118_1 _ (fun _ _=>?_) _|exact hbefore _ _|refine lq1 (fun _=>?_) _|(refine lq8 ?_ (fun _=>?_) (fun _=>?_)<;>try dsimp only)|refine lq9 ?_ fun _=>?_
def m88_1 (s_0 : Bytes) (s229 : Nat × List UInt8) : Option ((Nat × List UInt8) ⊕ (List UInt8)) :=
 if (s229.1 : Int) < (s_0.length : Int) then (
  (s_0[s229.1]?).bind fun x291 =>
  ((
   if (65 : Int) ≤ (x291.toNat : Int) then (
    some (decide ((x291.toNat : Int) ≤ 90)))
   else
   some false
  ) : Option (Bool)).bind fun t345 =>
  ((
   if t345 then (
    chkE (0 ≤ ((x291.toNat : Int) - 65) ∧ ((x291.toNat : Int) - 65) ≤ 255) <|
    chkE (0 ≤ (((x291.toNat : Int) - 65) + 97) ∧ (((x291.toNat : Int) - 65) + 97) ≤ 255) <|
    chkE (s229.2.length + 1 ≤ 1073741824) <|
    some (s229.2 ++ [(UInt8.ofNat (((x291.toNat : Int) - 65) + 97).toNat)]))
   else
   ((
    if (97 : Int) ≤ (x291.toNat : Int) then (
     if (x291.toNat : Int) ≤ 122 then (
      some true)
     else
     if (48 : Int) ≤ (x291.toNat : Int) then (
      some (decide ((x291.toNat : Int) ≤ 57)))
     else
     some false)
    else
    if (48 : Int) ≤ (x291.toNat : Int) then (
     some (decide ((x291.toNat : Int) ≤ 57)))
    else
    some false
   ) : Option (Bool)).bind fun t416 =>
   ((
    if t416 then (
     chkE (s229.2.length + 1 ≤ 1073741824) <|
     some (s229.2 ++ [x291]))
    else
    some s229.2
   ) : Option (List UInt8)).bind fun t439 =>
   some t439
  ) : Option (List UInt8)).bind fun t387 =>
  some (.inl ((s229.1 + 1),t387)))
 else
 some (.inr s229.2)
theorem lm88_1 : ∀ s_0 s229,LeO (m88_1 s_0 s229) (T11.m88_1 s_0 s229):=by
 intro _ _;unfold m88_1 T11.m88_1
 repeat' with_reducible first|exact lq0 _|refine lq5 ?_|refine lq7 ?_ ?_|refine lq9 ?_ fun _=>?_
def m88 (s_0 : Bytes) : Option (Bytes) :=
 chkE (s_0.length ≤ 1073741824) <|
 (loopE (m88_1 s_0) (0,([] : List UInt8))).bind fun e224 =>
 some e224
theorem lm88 : ∀ s_0,LeO (m88 s_0) (T11.m88 s_0):=by
 intro _;unfold m88 T11.m88
 repeat' with_reducible first|exact lq0 _|exact lm88_1 _ _|refine lq1 (fun _=>?_) _|refine lq5 ?_|refine lq9 ?_ fun _=>?_
def m86_1 (vals : List Int) (s20 : Nat) : Option ((Nat) ⊕ ((Unit) ⊕ Int)) :=
 if (s20 : Int) < (vals.length : Int) then (
  (vals[s20]?).bind fun x40 =>
  if x40 ≠ 0 then (
   some (.inr (.inr x40)))
  else
  some (.inl (s20 + 1)))
 else
 some (.inr (.inl ()))
theorem lm86_1 : ∀ vals s20,LeO (m86_1 vals s20) (T11.m86_1 vals s20):=by
 intro _ _;unfold m86_1 T11.m86_1
 repeat' with_reducible first|exact lq0 _|refine lq7 ?_ ?_|refine lq9 ?_ fun _=>?_
def m86 (vals : List Int) : Option (Int) :=
 (loopE (m86_1 vals) 0).bind fun e16=>match e16 with
 | .inr z=>some z
 | .inl t19 =>
 some 0
theorem lm86 : ∀ vals,LeO (m86 vals) (T11.m86 vals):=by
 intro _;unfold m86 T11.m86
 repeat' with_reducible first|exact lq0 _|exact lm86_1 _ _|refine lq1 (fun _=>?_) _|(refine lq8 ?_ (fun _=>?_) (fun _=>?_)<;>try dsimp only)|refine lq9 ?_ fun _=>?_
def m55 (a_0 : Bytes) (b_1 : Bytes) : Option (Int) :=
 (m88 a_0).bind fun r1 =>
 (m88 b_1).bind fun r4 =>
 (m87 r1 r4).bind fun r7 =>
 (m87 a_0 b_1).bind fun r10 =>
 (m86 ([r7,r10] : List Int)).bind fun r18 =>
 some r18
theorem lm55 : ∀ a_0 b_1,LeO (m55 a_0 b_1) (T11.m55 a_0 b_1):=by
 intro _ _;unfold m55 T11.m55
 repeat' with_reducible first|exact lq0 _|exact lm88 _|exact lm87 _ _|exact lm86 _|refine lq9 ?_ fun _=>?_
def m32 (a_0 : Bytes) (b_1 : Bytes) : Option (Bool) :=
 (m55 a_0 b_1).bind fun r1 =>
 some (decide (r1 < 0))
theorem lm32 : ∀ a_0 b_1,LeO (m32 a_0 b_1) (T11.m32 a_0 b_1):=by
 intro _ _;unfold m32 T11.m32
 repeat' with_reducible first|exact lq0 _|exact lm55 _ _|refine lq9 ?_ fun _=>?_
def m116 (l_0 : List Bytes) : Option (Bool) :=
 ((
  if (l_0.length : Int) ≤ 8 then (
   (m80 l_0 (m117)).bind fun r21 =>
   if r21 then (
    (m118 l_0 (m32)).bind fun r27 =>
    some r27)
   else
   some false)
  else
  some false
 ) : Option (Bool)).bind fun t15 =>
 some t15
theorem lm116 : ∀ l_0,LeO (m116 l_0) (T11.m116 l_0):=by
 intro _;unfold m116 T11.m116
 repeat' with_reducible first|exact lq0 _|refine lm80 _ (fun _=>?_)|exact lm117 _|refine lm118 _ (fun _ _=>?_)|exact lm32 _ _|refine lq7 ?_ ?_|refine lq9 ?_ fun _=>?_
def m156 (x_0 : Place) (f0_ : Place → Option Bool) : Option (Bool) :=
 (f0_ x_0).bind fun r4 =>
 some (!r4)
theorem lm156 (x_0 : Place) {f0_ f0_' : Place → Option Bool} (hf0_ : ∀ y0,LeO (f0_ y0) (f0_' y0)) : LeO (m156 x_0 f0_) (T11.m156 x_0 f0_'):=by
 unfold m156 T11.m156
 repeat' with_reducible first|exact lq0 _|exact hf0_ _|refine lq9 ?_ fun _=>?_
def m201_1 (s_0 : List Place) (f_1 : Place → Option Bool) (s23 : Nat) : Option ((Nat) ⊕ ((Unit) ⊕ Int)) :=
 if (s23 : Int) < (s_0.length : Int) then (
  (s_0[s23]?).bind fun x46 =>
  (f_1 x46).bind fun r54 =>
  if r54 then (
   some (.inr (.inr (s23 : Int))))
  else
  some (.inl (s23 + 1)))
 else
 some (.inr (.inl ()))
theorem lm201_1 (s_0 : List Place) {f_1 f_1' : Place → Option Bool} (hf_1 : ∀ y0,LeO (f_1 y0) (f_1' y0)) (s23 : Nat) : LeO (m201_1 s_0 f_1 s23) (T11.m201_1 s_0 f_1' s23):=by
 unfold m201_1 T11.m201_1
 repeat' with_reducible first|exact lq0 _|exact hf_1 _|refine lq7 ?_ ?_|refine lq9 ?_ fun _=>?_
def m201 (s_0 : List Place) (f_1 : Place → Option Bool) : Option (Int) :=
 (loopE (m201_1 s_0 f_1) 0).bind fun e19=>match e19 with
 | .inr z=>some z
 | .inl t22 =>
 some (-1)
theorem lm201 (s_0 : List Place) {f_1 f_1' : Place → Option Bool} (hf_1 : ∀ y0,LeO (f_1 y0) (f_1' y0)) : LeO (m201 s_0 f_1) (T11.m201 s_0 f_1'):=by
 unfold m201 T11.m201
 repeat' with_reducible first|exact lq0 _|refine lm201_1 _ (fun _=>?_) _|exact hf_1 _|refine lq1 (fun _=>?_) _|(refine lq8 ?_ (fun _=>?_) (fun _=>?_)<;>try dsimp only)|refine lq9 ?_ fun _=>?_
def m155 (s_0 : List Place) (f_1 : Place → Option Bool) : Option (Bool) :=
 (m201 s_0 f_1).bind fun r1 =>
 some (decide (0 ≤ r1))
theorem lm155 (s_0 : List Place) {f_1 f_1' : Place → Option Bool} (hf_1 : ∀ y0,LeO (f_1 y0) (f_1' y0)) : LeO (m155 s_0 f_1) (T11.m155 s_0 f_1'):=by
 unfold m155 T11.m155
 repeat' with_reducible first|exact lq0 _|refine lm201 _ (fun _=>?_)|exact hf_1 _|refine lq9 ?_ fun _=>?_
def m119 (l_0 : List Place) (right : Place → Option Bool) : Option (Bool) :=
 (m155 l_0 (fun x0_=>m156 x0_ right)).bind fun r5 =>
 some (!r5)
theorem lm119 (l_0 : List Place) {right right' : Place → Option Bool} (hright : ∀ y0,LeO (right y0) (right' y0)) : LeO (m119 l_0 right) (T11.m119 l_0 right'):=by
 unfold m119 T11.m119
 repeat' with_reducible first|exact lq0 _|refine lm155 _ (fun _=>?_)|refine lm156 _ (fun _=>?_)|exact hright _|refine lq9 ?_ fun _=>?_
def m120 (p_0 : Place) : Option (Bool) :=
 ((
  (m72 p_0.volume 1 999).bind fun r19 =>
  if r19 then (
   (m72 p_0.from_ 1 p_0.to_).bind fun r24 =>
   if r24 then (
    some (decide (p_0.to_ ≤ 9999)))
   else
   some false)
  else
  some false
 ) : Option (Bool)).bind fun t16 =>
 some t16
theorem lm120 : ∀ p_0,LeO (m120 p_0) (T11.m120 p_0):=by
 intro _;unfold m120 T11.m120
 repeat' with_reducible first|exact lq0 _|exact lm72 _ _ _|refine lq7 ?_ ?_|refine lq9 ?_ fun _=>?_
def m121_1 (l_0 : List Place) (before : Place → Place → Option Bool) (s36 : Nat) : Option ((Nat) ⊕ ((Unit) ⊕ Bool)) :=
 if (s36 : Int) < (l_0.length : Int) then (
  ((
   if 0 < (s36 : Int) then (
    (l_0[((s36 : Int) - 1).toNat]?).bind fun x100 =>
    (l_0[s36]?).bind fun x108 =>
    (before x100 x108).bind fun r116 =>
    some (!r116))
   else
   some false
  ) : Option (Bool)).bind fun t95 =>
  if t95 then (
   some (.inr (.inr false)))
  else
  some (.inl (s36 + 1)))
 else
 some (.inr (.inl ()))
theorem lm121_1 (l_0 : List Place) {before before' : Place → Place → Option Bool} (hbefore : ∀ y0 y1,LeO (before y0 y1) (before' y0 y1)) (s36 : Nat) : LeO (m121_1 l_0 before s36) (T11.m121_1 l_0 before' s36):=by
 unfold m121_1 T11.m121_1
 repeat' with_reducible first|exact lq0 _|exact hbefore _ _|refine lq7 ?_ ?_|refine lq9 ?_ fun _=>?_
def m121 (l_0 : List Place) (before : Place → Place → Option Bool) : Option (Bool) :=
 (loopE (m121_1 l_0 before) 0).bind fun e32=>match e32 with
 | .inr z=>some z
 | .inl t35 =>
 some true
theorem lm121 (l_0 : List Place) {before before' : Place → Place → Option Bool} (hbefore : ∀ y0 y1,LeO (before y0 y1) (before' y0 y1)) : LeO (m121 l_0 before) (T11.m121 l_0 before'):=by
 unfold m121 T11.m121
 repeat' with_reducible first|exact lq0 _|refine lm121_1 _ (fun _ _=>?_) _|exact hbefore _ _|refine lq1 (fun _=>?_) _|(refine lq8 ?_ (fun _=>?_) (fun _=>?_)<;>try dsimp only)|refine lq9 ?_ fun _=>?_
def m96 (p_0 : Place) (o_1 : Place) : Option (Bool) :=
 ((
  if p_0.volume < o_1.volume then (
   some true)
  else
  if p_0.volume = o_1.volume then (
   chkE (-9223372036854775808 ≤ (p_0.to_ + 1) ∧ (p_0.to_ + 1) ≤ 9223372036854775807) <|
   some (decide ((p_0.to_ + 1) < o_1.from_)))
  else
  some false
 ) : Option (Bool)).bind fun t15 =>
 some t15
theorem lm96 : ∀ p_0 o_1,LeO (m96 p_0 o_1) (T11.m96 p_0 o_1):=by
 intro _ _;unfold m96 T11.m96
 repeat' with_reducible first|exact lq0 _|refine lq5 ?_|refine lq7 ?_ ?_|refine lq9 ?_ fun _=>?_
def m78 (h_0 : Heading) : Option (Bool) :=
 ((
  (m117 h_0.name).bind fun r48 =>
  if r48 then (
   (m116 h_0.variants).bind fun r53 =>
   if r53 then (
    (m116 h_0.also).bind fun r58 =>
    if r58 then (
     if (h_0.places.length : Int) ≤ 30 then (
      (m119 h_0.places (m120)).bind fun r66 =>
      if r66 then (
       (m121 h_0.places (m96)).bind fun r72 =>
       some r72)
      else
      some false)
     else
     some false)
    else
    some false)
   else
   some false)
  else
  some false
 ) : Option (Bool)).bind fun t45 =>
 some t45
theorem lm78 : ∀ h_0,LeO (m78 h_0) (T11.m78 h_0):=by
 intro _;unfold m78 T11.m78
 repeat' with_reducible first|exact lq0 _|exact lm117 _|exact lm116 _|refine lm119 _ (fun _=>?_)|exact lm120 _|refine lm121 _ (fun _ _=>?_)|exact lm96 _ _|refine lq7 ?_ ?_|refine lq9 ?_ fun _=>?_
def m81 (s_0 : Bytes) (f0_ : List (Bytes × Int)) (f1_ : List Heading) (f2_ : Heading) : Option (Bool) :=
 ((
  if (lkp f0_ s_0).isSome then (
   chkE (0 ≤ ((lkp f0_ s_0).getD (0 : Int))) <|
   (f1_[((lkp f0_ s_0).getD (0 : Int)).toNat]?).bind fun x43 =>
   if x43.name = s_0 then (
    some (decide (s_0 ≠ f2_.name)))
   else
   some false)
  else
  some false
 ) : Option (Bool)).bind fun t36 =>
 some t36
theorem lm81 : ∀ s_0 f0_ f1_ f2_,LeO (m81 s_0 f0_ f1_ f2_) (T11.m81 s_0 f0_ f1_ f2_):=by
 intro _ _ _ _;unfold m81 T11.m81
 repeat' with_reducible first|exact lq0 _|refine lq5 ?_|refine lq7 ?_ ?_|refine lq9 ?_ fun _=>?_
def m79 (h_0 : Heading) (f0_ : List (Bytes × Int)) (f1_ : List Heading) : Option (Bool) :=
 (m80 h_0.also (fun x0_=>m81 x0_ f0_ f1_ h_0)).bind fun r14 =>
 some r14
theorem lm79 : ∀ h_0 f0_ f1_,LeO (m79 h_0 f0_ f1_) (T11.m79 h_0 f0_ f1_):=by
 intro _ _ _;unfold m79 T11.m79
 repeat' with_reducible first|exact lq0 _|refine lm80 _ (fun _=>?_)|exact lm81 _ _ _ _|refine lq9 ?_ fun _=>?_
def m82_1 (l_0 : List Heading) (before : Heading → Heading → Option Bool) (s56 : Nat) : Option ((Nat) ⊕ ((Unit) ⊕ Bool)) :=
 if (s56 : Int) < (l_0.length : Int) then (
  ((
   if 0 < (s56 : Int) then (
    (l_0[((s56 : Int) - 1).toNat]?).bind fun x160 =>
    (l_0[s56]?).bind fun x178 =>
    (before x160 x178).bind fun r196 =>
    some (!r196))
   else
   some false
  ) : Option (Bool)).bind fun t155 =>
  if t155 then (
   some (.inr (.inr false)))
  else
  some (.inl (s56 + 1)))
 else
 some (.inr (.inl ()))
theorem lm82_1 (l_0 : List Heading) {before before' : Heading → Heading → Option Bool} (hbefore : ∀ y0 y1,LeO (before y0 y1) (before' y0 y1)) (s56 : Nat) : LeO (m82_1 l_0 before s56) (T11.m82_1 l_0 before' s56):=by
 unfold m82_1 T11.m82_1
 repeat' with_reducible first|exact lq0 _|exact hbefore _ _|refine lq7 ?_ ?_|refine lq9 ?_ fun _=>?_
def m82 (l_0 : List Heading) (before : Heading → Heading → Option Bool) : Option (Bool) :=
 (loopE (m82_1 l_0 before) 0).bind fun e52=>match e52 with
 | .inr z=>some z
 | .inl t55 =>
 some true
theorem lm82 (l_0 : List Heading) {before before' : Heading → Heading → Option Bool} (hbefore : ∀ y0 y1,LeO (before y0 y1) (before' y0 y1)) : LeO (m82 l_0 before) (T11.m82 l_0 before'):=by
 unfold m82 T11.m82
 repeat' with_reducible first|exact lq0 _|refine lm82_1 _ (fun _ _=>?_) _|exact hbefore _ _|refine lq1 (fun _=>?_) _|(refine lq8 ?_ (fun _=>?_) (fun _=>?_)<;>try dsimp only)|refine lq9 ?_ fun _=>?_
def m83 (a_0 : Heading) (b_1 : Heading) : Option (Bool) :=
 (m32 a_0.name b_1.name).bind fun r25 =>
 some r25
theorem lm83 : ∀ a_0 b_1,LeO (m83 a_0 b_1) (T11.m83 a_0 b_1):=by
 intro _ _;unfold m83 T11.m83
 repeat' with_reducible first|exact lq0 _|exact lm32 _ _|refine lq9 ?_ fun _=>?_
def m50_2 (x316 : Heading) (s223 : Nat × (List (Bytes × Int))) (s523 : Nat × (List (Bytes × Int))) : Option ((Nat × (List (Bytes × Int))) ⊕ (((List (Bytes × Int))) ⊕ ((Nat × (List (Bytes × Int))) ⊕ ((List (Bytes × Int)))))) :=
 if (s523.1 : Int) < (x316.variants.length : Int) then (
  (x316.variants[s523.1]?).bind fun x548 =>
  ((
   if (lkp s523.2 x548).isSome then (
    some (.inl 6))
   else
   some (.inr (put s523.2 x548 (s223.1 : Int)))
  ) : Option ((Nat) ⊕ ((List (Bytes × Int))))).bind fun t559=>match t559 with
  | .inl t562=>(
   some (.inr (.inr (.inl (t562,s523.2)))))
  | .inr t563=>(
   some (.inl ((s523.1 + 1),t563))))
 else
 some (.inr (.inl s523.2))
theorem lm50_2 : ∀ x316 s223 s523,LeO (m50_2 x316 s223 s523) (T11.m50_2 x316 s223 s523):=by
 intro _ _ _;unfold m50_2 T11.m50_2
 repeat' with_reducible first|exact lq0 _|refine lq7 ?_ ?_|(refine lq8 ?_ (fun _=>?_) (fun _=>?_)<;>try dsimp only)|refine lq9 ?_ fun _=>?_
def m50_1 (l_0 : List Heading) (s223 : Nat × (List (Bytes × Int))) : Option ((Nat × (List (Bytes × Int))) ⊕ (((List (Bytes × Int))) ⊕ ((List (Bytes × Int)) × Int))) :=
 if (s223.1 : Int) < (l_0.length : Int) then (
  (l_0[s223.1]?).bind fun x316 =>
  ((
   ((
    if (lkp s223.2 x316.name).isSome then (
     some (.inl 6))
    else
    some (.inr (put s223.2 x316.name (s223.1 : Int)))
   ) : Option ((Nat) ⊕ ((List (Bytes × Int))))).bind fun t465=>match t465 with
   | .inl t468=>(
    some (.inl (t468,s223.2)))
   | .inr t469=>(
    (loopE (m50_2 x316 s223) (0,t469)).bind fun e519=>match e519 with
    | .inr z=>some z
    | .inl t522 =>
    some (.inr t522))
  ) : Option ((Nat × (List (Bytes × Int))) ⊕ ((List (Bytes × Int))))).bind fun t457=>match t457 with
  | .inl t460=>(
   some (.inr (.inr ([],(t460.1 : Int)))))
  | .inr t461=>(
   some (.inl ((s223.1 + 1),t461))))
 else
 some (.inr (.inl s223.2))
theorem lm50_1 : ∀ l_0 s223,LeO (m50_1 l_0 s223) (T11.m50_1 l_0 s223):=by
 intro _ _;unfold m50_1 T11.m50_1
 repeat' with_reducible first|exact lq0 _|exact lm50_2 _ _ _|refine lq1 (fun _=>?_) _|refine lq7 ?_ ?_|(refine lq8 ?_ (fun _=>?_) (fun _=>?_)<;>try dsimp only)|refine lq9 ?_ fun _=>?_
def m50 (l_0 : List Heading) : Option ((List (Bytes × Int)) × Int) :=
 if 60 < (l_0.length : Int) then (
  some ([],3))
 else
 (m77 l_0 (m78)).bind fun r30 =>
 if r30 then (
  (loopE (m50_1 l_0) (0,([] : List (Bytes × Int)))).bind fun e218=>match e218 with
  | .inr z=>some z
  | .inl t221 =>
  ((
   (m77 l_0 (fun x0_=>m79 x0_ t221 l_0)).bind fun r590 =>
   if r590 then (
    (m82 l_0 (m83)).bind fun r596 =>
    some (!r596))
   else
   some true
  ) : Option (Bool)).bind fun t586 =>
  if t586 then (
   some ([],1))
  else
  some (t221,0))
 else
 some ([],1)
theorem lm50 : ∀ l_0,LeO (m50 l_0) (T11.m50 l_0):=by
 intro _;unfold m50 T11.m50
 repeat' with_reducible first|exact lq0 _|refine lm77 _ (fun _=>?_)|exact lm78 _|exact lm50_1 _ _|exact lm79 _ _ _|refine lm82 _ (fun _ _=>?_)|exact lm83 _ _|refine lq1 (fun _=>?_) _|refine lq7 ?_ ?_|(refine lq8 ?_ (fun _=>?_) (fun _=>?_)<;>try dsimp only)|refine lq9 ?_ fun _=>?_
def m85F : Nat → Bytes → (List (Bytes × Bytes)) → Option (Bytes)
 | 0,_,_=>none
 | n_ + 1,s_0,f0_ =>
 ((
  if (lkp f0_ s_0).isSome then (
   some (decide (((lkp f0_ s_0).getD ([] : Bytes)) ≠ s_0)))
  else
  some false
 ) : Option (Bool)).bind fun t4 =>
 if t4 then (
  (m85F n_ ((lkp f0_ s_0).getD ([] : Bytes)) f0_).bind fun r18 =>
  some r18)
 else
 some s_0
theorem lm85F (n_ : Nat) : ∀ x0 x1,LeO (T11.E.m85F n_ x0 x1) (T11.m85F n_ x0 x1):=by
 induction n_ with
 | zero=>intro x0 x1 r h; cases h
 | succ n_ ih =>
  intro x0 x1;rw [T11.E.m85F,T11.m85F]
  repeat' with_reducible first|exact lq0 _|exact ih _ _|refine lq7 ?_ ?_|refine lq9 ?_ fun _=>?_
theorem sm85F (n_ : Nat) : ∀ x0 x1,LeO (T11.m85F n_ x0 x1) (T11.m85F (n_ + 1) x0 x1):=by
 induction n_ with
 | zero=>intro x0 x1 r h; cases h
 | succ n_ ih =>
  intro x0 x1;rw [T11.m85F,T11.m85F]
  repeat' with_reducible first|exact lq0 _|exact ih _ _|refine lq7 ?_ ?_|refine lq9 ?_ fun _=>?_
def m85 (s_0 : Bytes) (f0_ : List (Bytes × Bytes)) : Option (Bytes):=m85F 100000 s_0 f0_
theorem lm85  (s_0 : Bytes) (f0_ : List (Bytes × Bytes)) : LeO (T11.E.m85 s_0 f0_) (T11.m85 s_0 f0_):=(lm85F 100000 s_0 f0_).trans (LeO.recO (fun n=>sm85F n s_0 f0_) 100000)
def m53 (l_0 : List (Bytes × Bytes)) (s_1 : Bytes) : Option (Bytes) :=
 (m85 s_1 l_0).bind fun r6 =>
 some r6
theorem lm53 : ∀ l_0 s_1,LeO (m53 l_0 s_1) (T11.m53 l_0 s_1):=by
 intro _ _;unfold m53 T11.m53
 repeat' with_reducible first|exact lq0 _|exact lm85 _ _|refine lq9 ?_ fun _=>?_
def m54_1 (x_0 : List Bytes) (cmp : Bytes → Bytes → Option Int) (s36 : Nat × Bytes) : Option ((Nat × Bytes) ⊕ (Bytes)) :=
 if (s36.1 : Int) < (x_0.length : Int) then (
  (x_0[s36.1]?).bind fun x59 =>
  (cmp x59 s36.2).bind fun r66 =>
  ((
   if r66 < 0 then (
    some x59)
   else
   some s36.2
  ) : Option (Bytes)).bind fun t72 =>
  some (.inl ((s36.1 + 1),t72)))
 else
 some (.inr s36.2)
theorem lm54_1 (x_0 : List Bytes) {cmp cmp' : Bytes → Bytes → Option Int} (hcmp : ∀ y0 y1,LeO (cmp y0 y1) (cmp' y0 y1)) (s36 : Nat × Bytes) : LeO (m54_1 x_0 cmp s36) (T11.m54_1 x_0 cmp' s36):=by
 unfold m54_1 T11.m54_1
 repeat' with_reducible first|exact lq0 _|exact hcmp _ _|refine lq7 ?_ ?_|refine lq9 ?_ fun _=>?_
def m54 (x_0 : List Bytes) (cmp : Bytes → Bytes → Option Int) : Option (Bytes) :=
 if (x_0.length : Int) < 1 then (
  none)
 else
 (x_0[0]?).bind fun x7 =>
 (loopE (m54_1 x_0 cmp) (1,x7)).bind fun e33 =>
 some e33
theorem lm54 (x_0 : List Bytes) {cmp cmp' : Bytes → Bytes → Option Int} (hcmp : ∀ y0 y1,LeO (cmp y0 y1) (cmp' y0 y1)) : LeO (m54 x_0 cmp) (T11.m54 x_0 cmp'):=by
 unfold m54 T11.m54
 repeat' with_reducible first|exact lq0 _|refine lm54_1 _ (fun _ _=>?_) _|exact hcmp _ _|refine lq1 (fun _=>?_) _|refine lq7 ?_ ?_|refine lq9 ?_ fun _=>?_
def m56_1 (lists : List (List Bytes)) (s127 : Nat × Nat) : Option ((Nat × Nat) ⊕ (Nat)) :=
 if (s127.2 : Int) < (lists.length : Int) then (
  (lists[s127.2]?).bind fun x153 =>
  chkE (-9223372036854775808 ≤ ((s127.1 : Int) + (x153.length : Int)) ∧ ((s127.1 : Int) + (x153.length : Int)) ≤ 9223372036854775807) <|
  if ((s127.1 : Int) + (x153.length : Int)) < 0 then (
   none)
  else
  some (.inl ((s127.1 + x153.length),(s127.2 + 1))))
 else
 some (.inr s127.1)
theorem lm56_1 : ∀ lists s127,LeO (m56_1 lists s127) (T11.m56_1 lists s127):=by
 intro _ _;unfold m56_1 T11.m56_1
 repeat' with_reducible first|exact lq0 _|refine lq5 ?_|refine lq7 ?_ ?_|refine lq9 ?_ fun _=>?_
def m56_2 (lists : List (List Bytes)) (s248 : Nat × List Bytes) : Option ((Nat × List Bytes) ⊕ (List Bytes)) :=
 if (s248.1 : Int) < (lists.length : Int) then (
  (lists[s248.1]?).bind fun x275 =>
  chkE (s248.2.length + x275.length ≤ 1073741824) <|
  some (.inl ((s248.1 + 1),(s248.2 ++ x275))))
 else
 some (.inr s248.2)
theorem lm56_2 : ∀ lists s248,LeO (m56_2 lists s248) (T11.m56_2 lists s248):=by
 intro _ _;unfold m56_2 T11.m56_2
 repeat' with_reducible first|exact lq0 _|refine lq5 ?_|refine lq7 ?_ ?_|refine lq9 ?_ fun _=>?_
def m56 (but : Bytes) (lists : List (List Bytes)) : Option (List Bytes) :=
 ((
  (loopE (m56_1 lists) (0,0)).bind fun e124 =>
  chkE (e124 ≤ 1073741824) <|
  (loopE (m56_2 lists) (0,([] : List Bytes))).bind fun e243 =>
  some e243
 ) : Option (List Bytes)).bind fun t98 =>
 (sortG (m55) t98).bind fun l292 =>
 some ((Lib.compact l292).filter fun x=>!decide (x = but))
theorem lm56 : ∀ but lists,LeO (m56 but lists) (T11.m56 but lists):=by
 intro _ _;unfold m56 T11.m56
 repeat' with_reducible first|exact lq0 _|exact lm56_1 _ _|exact lm56_2 _ _|exact lm55 _ _|refine lq1 (fun _=>?_) _|refine lq2 (fun _ _=>?_) _|refine lq5 ?_|refine lq9 ?_ fun _=>?_
def m95 (a_0 : Place) (b_1 : Place) : Option (Int) :=
 chkE (-9223372036854775808 ≤ (a_0.volume - b_1.volume) ∧ (a_0.volume - b_1.volume) ≤ 9223372036854775807) <|
 chkE (-9223372036854775808 ≤ (a_0.from_ - b_1.from_) ∧ (a_0.from_ - b_1.from_) ≤ 9223372036854775807) <|
 (m86 ([(a_0.volume - b_1.volume),(a_0.from_ - b_1.from_)] : List Int)).bind fun r16 =>
 some r16
theorem lm95 : ∀ a_0 b_1,LeO (m95 a_0 b_1) (T11.m95 a_0 b_1):=by
 intro _ _;unfold m95 T11.m95
 repeat' with_reducible first|exact lq0 _|exact lm86 _|refine lq5 ?_|refine lq9 ?_ fun _=>?_
def m57_1 (l_0 : List Place) (l1 : List Place) (s181 : Nat × Int × Int × Int × List Place) : Option ((Nat × Int × Int × Int × List Place) ⊕ (Int × Int × Int × List Place)) :=
 if (s181.1 : Int) < (l_0.length : Int) then (
  (l1[s181.1]?).bind fun x230 =>
  ((
   if (⟨s181.2.1,s181.2.2.1,s181.2.2.2.1⟩ : Place) = (⟨0,0,0⟩ : Place) then (
    some false)
   else
   (m96 (⟨s181.2.1,s181.2.2.1,s181.2.2.2.1⟩ : Place) x230).bind fun r249 =>
   some (!r249)
  ) : Option (Bool)).bind fun t243 =>
  ((
   if t243 then (
    chkE (0 ≤ ((s181.2.2.2.2.length : Int) - 1)) <|
    (s181.2.2.2.2[((s181.2.2.2.2.length : Int) - 1).toNat]?).bind fun x276 =>
    some (s181.2.2.2.2.set (((s181.2.2.2.2.length : Int) - 1).toNat) (⟨x276.volume,x276.from_,(max s181.2.2.2.1 x230.to_)⟩ : Place)))
   else
   chkE (s181.2.2.2.2.length + 1 ≤ 1073741824) <|
   some (s181.2.2.2.2 ++ [x230])
  ) : Option (List Place)).bind fun t267 =>
  chkE (0 ≤ ((t267.length : Int) - 1)) <|
  (t267[((t267.length : Int) - 1).toNat]?).bind fun x289 =>
  some (.inl ((s181.1 + 1),x289.volume,x289.from_,x289.to_,t267)))
 else
 some (.inr (s181.2.1,s181.2.2.1,s181.2.2.2.1,s181.2.2.2.2))
theorem lm57_1 : ∀ l_0 l1 s181,LeO (m57_1 l_0 l1 s181) (T11.m57_1 l_0 l1 s181):=by
 intro _ _ _;unfold m57_1 T11.m57_1
 repeat' with_reducible first|exact lq0 _|exact lm96 _ _|refine lq5 ?_|refine lq7 ?_ ?_|refine lq9 ?_ fun _=>?_
def m57 (l_0 : List Place) : Option (List Place) :=
 sortV (m95) l_0 fun l1 =>
 (loopE (m57_1 l_0 l1) (0,0,0,0,([] : List Place))).bind fun e176 =>
 some e176.2.2.2
theorem lm57 : ∀ l_0,LeO (m57 l_0) (T11.m57 l_0):=by
 intro _;unfold m57 T11.m57
 repeat' with_reducible first|exact lq0 _|exact lm95 _ _|exact lm57_1 _ _ _|refine lq1 (fun _=>?_) _|refine lq4 (fun _ _=>?_) (fun _=>?_) _|refine lq9 ?_ fun _=>?_
def m59 (a_0 : Heading) (b_1 : Heading) : Option (Int) :=
 (m55 a_0.name b_1.name).bind fun r25 =>
 some r25
theorem lm59 : ∀ a_0 b_1,LeO (m59 a_0 b_1) (T11.m59 a_0 b_1):=by
 intro _ _;unfold m59 T11.m59
 repeat' with_reducible first|exact lq0 _|exact lm55 _ _|refine lq9 ?_ fun _=>?_
def m18_3 (x1289 : Heading) (s1525 : Nat × (List (Bytes × Bytes))) : Option ((Nat × (List (Bytes × Bytes))) ⊕ ((List (Bytes × Bytes)))) :=
 if (s1525.1 : Int) < (x1289.variants.length : Int) then (
  (x1289.variants[s1525.1]?).bind fun x1554 =>
  ((
   ((
    (m53 s1525.2 x1554).bind fun r1592 =>
    (m53 s1525.2 x1289.name).bind fun r1595 =>
    some (put s1525.2 r1592 r1595)
   ) : Option ((List (Bytes × Bytes)))).bind fun t1589 =>
   some t1589
  ) : Option ((List (Bytes × Bytes)))).bind fun t1571 =>
  some (.inl ((s1525.1 + 1),t1571)))
 else
 some (.inr s1525.2)
theorem lm18_3 : ∀ x1289 s1525,LeO (m18_3 x1289 s1525) (T11.m18_3 x1289 s1525):=by
 intro _ _;unfold m18_3 T11.m18_3
 repeat' with_reducible first|exact lq0 _|exact lm53 _ _|refine lq7 ?_ ?_|refine lq9 ?_ fun _=>?_
def m18_2 (x967 : List Heading) (s1188 : Nat × (List (Bytes × Bytes))) : Option ((Nat × (List (Bytes × Bytes))) ⊕ ((List (Bytes × Bytes)))) :=
 if (s1188.1 : Int) < (x967.length : Int) then (
  (x967[s1188.1]?).bind fun x1289 =>
  ((
   ((
    ((
     (m53 s1188.2 x1289.name).bind fun r1471 =>
     some (put s1188.2 r1471 r1471)
    ) : Option ((List (Bytes × Bytes)))).bind fun t1468 =>
    some t1468
   ) : Option ((List (Bytes × Bytes)))).bind fun t1456 =>
   (loopE (m18_3 x1289) (0,t1456)).bind fun e1522 =>
   some e1522
  ) : Option ((List (Bytes × Bytes)))).bind fun t1447 =>
  some (.inl ((s1188.1 + 1),t1447)))
 else
 some (.inr s1188.2)
theorem lm18_2 : ∀ x967 s1188,LeO (m18_2 x967 s1188) (T11.m18_2 x967 s1188):=by
 intro _ _;unfold m18_2 T11.m18_2
 repeat' with_reducible first|exact lq0 _|exact lm53 _ _|exact lm18_3 _ _|refine lq1 (fun _=>?_) _|refine lq7 ?_ ?_|refine lq9 ?_ fun _=>?_
def m18_1 (indices : List (List Heading)) (s727 : Nat × List Heading × (List (Bytes × Bytes))) : Option ((Nat × List Heading × (List (Bytes × Bytes))) ⊕ ((List Heading × (List (Bytes × Bytes))) ⊕ (List Heading × Int))) :=
 if (s727.1 : Int) < (indices.length : Int) then (
  (indices[s727.1]?).bind fun x967 =>
  (m50 x967).bind fun r979 =>
  if r979.2 ≠ 0 then (
   some (.inr (.inr (([] : List Heading),r979.2))))
  else
  (loopE (m18_2 x967) (0,s727.2.2)).bind fun e1184 =>
  chkE (s727.2.1.length + x967.length ≤ 1073741824) <|
  some (.inl ((s727.1 + 1),(s727.2.1 ++ x967),e1184)))
 else
 some (.inr (.inl (s727.2.1,s727.2.2)))
theorem lm18_1 : ∀ indices s727,LeO (m18_1 indices s727) (T11.m18_1 indices s727):=by
 intro _ _;unfold m18_1 T11.m18_1
 repeat' with_reducible first|exact lq0 _|exact lm50 _|exact lm18_2 _ _|refine lq1 (fun _=>?_) _|refine lq5 ?_|refine lq7 ?_ ?_|refine lq9 ?_ fun _=>?_
def m18_4 (t720 : List Heading × (List (Bytes × Bytes))) (s1878 : Nat × (List (Bytes × grown))) : Option ((Nat × (List (Bytes × grown))) ⊕ ((List (Bytes × grown)))) :=
 if (s1878.1 : Int) < (t720.1.length : Int) then (
  (t720.1[s1878.1]?).bind fun x1969 =>
  (m53 t720.2 x1969.name).bind fun r1991 =>
  ((
   if (lkp s1878.2 r1991).isSome then (
    some s1878.2)
   else
   some (put s1878.2 r1991 zeroG)
  ) : Option ((List (Bytes × grown)))).bind fun t1999 =>
  (lkp t1999 r1991).bind fun y2010 =>
  chkE (y2010.heads.length + ([x1969.name] : List Bytes).length ≤ 1073741824) <|
  chkE (y2010.heading.variants.length + x1969.variants.length ≤ 1073741824) <|
  chkE (y2010.heading.also.length + x1969.also.length ≤ 1073741824) <|
  chkE (y2010.heading.places.length + x1969.places.length ≤ 1073741824) <|
  some (.inl ((s1878.1 + 1),(put t1999 r1991 (⟨⟨y2010.heading.name,(y2010.heading.variants ++ x1969.variants),(y2010.heading.also ++ x1969.also),(y2010.heading.places ++ x1969.places)⟩,(y2010.heads ++ ([x1969.name] : List Bytes))⟩ : grown)))))
 else
 some (.inr s1878.2)
theorem lm18_4 : ∀ t720 s1878,LeO (m18_4 t720 s1878) (T11.m18_4 t720 s1878):=by
 intro _ _;unfold m18_4 T11.m18_4
 repeat' with_reducible first|exact lq0 _|exact lm53 _ _|refine lq5 ?_|refine lq7 ?_ ?_|refine lq9 ?_ fun _=>?_
def m18_9 (q2811 : Bytes × grown) (t720 : List Heading × (List (Bytes × Bytes))) (s2127 : (List (Bytes × grown))) (s3149 : Nat × List Bytes) : Option ((Nat × List Bytes) ⊕ (List Bytes)) :=
 if (s3149.1 : Int) < (q2811.2.heading.also.length : Int) then (
  (q2811.2.heading.also[s3149.1]?).bind fun x3190 =>
  (m53 t720.2 x3190).bind fun r3198 =>
  (lkp s2127 r3198).bind fun y3201 =>
  chkE (s3149.2.length + 1 ≤ 1073741824) <|
  some (.inl ((s3149.1 + 1),(s3149.2 ++ [y3201.heading.name]))))
 else
 some (.inr s3149.2)
theorem lm18_9 : ∀ q2811 t720 s2127 s3149,LeO (m18_9 q2811 t720 s2127 s3149) (T11.m18_9 q2811 t720 s2127 s3149):=by
 intro _ _ _ _;unfold m18_9 T11.m18_9
 repeat' with_reducible first|exact lq0 _|exact lm53 _ _|refine lq5 ?_|refine lq7 ?_ ?_|refine lq9 ?_ fun _=>?_
def m18_8  (s2778 : List Heading) : Option (List Heading × Int) :=
 if 60 < (s2778.length : Int) then (
  some (([] : List Heading),3))
 else
 chkE (s2778.Nodup) <|
 (sortG (m59) s2778).bind fun l2801 =>
 some (l2801,0)
theorem lm18_8 : ∀ s2778,LeO (m18_8 s2778) (T11.m18_8 s2778):=by
 intro _;unfold m18_8 T11.m18_8
 repeat' with_reducible first|exact lq0 _|exact lm59 _ _|refine lq2 (fun _ _=>?_) _|refine lq5 ?_|refine lq7 ?_ ?_|refine lq9 ?_ fun _=>?_
def m18_7 (s2127 : (List (Bytes × grown))) (t720 : List Heading × (List (Bytes × Bytes))) (s2778 : List Heading) (i2785 : Nat) : Option ((List Heading) ⊕ (List Heading × Int)) :=
 (s2127[i2785]?).bind fun q2811 =>
 (m56 q2811.2.heading.name ([q2811.2.heading.variants,q2811.2.heads] : List (List Bytes))).bind fun r3013 =>
 (m57 q2811.2.heading.places).bind fun r3023 =>
 (loopE (m18_9 q2811 t720 s2127) (0,([] : List Bytes))).bind fun e3144 =>
 (m56 q2811.2.heading.name ([e3144] : List (List Bytes))).bind fun r3229 =>
 ((
  if 8 < (r3013.length : Int) then (
   some true)
  else
  if 8 < (r3229.length : Int) then (
   some true)
  else
  some (decide (30 < (r3023.length : Int)))
 ) : Option (Bool)).bind fun t3242 =>
 if t3242 then (
  some (.inr (([] : List Heading),3)))
 else
 chkE (s2778.length + 1 ≤ 1073741824) <|
 some (.inl (s2778 ++ [(⟨q2811.2.heading.name,r3013,r3229,r3023⟩ : Heading)]))
theorem lm18_7 : ∀ s2127 t720 s2778 i2785,LeO (m18_7 s2127 t720 s2778 i2785) (T11.m18_7 s2127 t720 s2778 i2785):=by
 intro _ _ _ _;unfold m18_7 T11.m18_7
 repeat' with_reducible first|exact lq0 _|exact lm56 _ _|exact lm57 _|exact lm18_9 _ _ _ _|refine lq1 (fun _=>?_) _|refine lq5 ?_|refine lq7 ?_ ?_|refine lq9 ?_ fun _=>?_
def m18_6 (t720 : List Heading × (List (Bytes × Bytes))) (s2127 : (List (Bytes × grown))) : Option (List Heading × Int) :=
 ordE s2127.length (m18_7 s2127 t720) m18_8 ([] : List Heading)
theorem lm18_6 : ∀ t720 s2127,LeO (m18_6 t720 s2127) (T11.m18_6 t720 s2127):=by
 intro _ _;unfold m18_6 T11.m18_6
 repeat' with_reducible first|exact lq0 _|exact lm18_7 _ _ _ _|exact lm18_8 _|refine lq3 (fun _ _=>?_) (fun _=>?_) _
def m18_5  (s2127 : (List (Bytes × grown))) (i2131 : Nat) : Option (((List (Bytes × grown))) ⊕ (List Heading × Int)) :=
 (s2127[i2131]?).bind fun q3269 =>
 (m54 q3269.2.heads (m55)).bind fun r3288 =>
 some (.inl (s2127.set i2131 (q3269.1,(⟨⟨r3288,q3269.2.heading.variants,q3269.2.heading.also,q3269.2.heading.places⟩,q3269.2.heads⟩ : grown))))
theorem lm18_5 : ∀ s2127 i2131,LeO (m18_5 s2127 i2131) (T11.m18_5 s2127 i2131):=by
 intro _ _;unfold m18_5 T11.m18_5
 repeat' with_reducible first|exact lq0 _|refine lm54 _ (fun _ _=>?_)|exact lm55 _ _|refine lq9 ?_ fun _=>?_
def m18 (indices : List (List Heading)) : Option (List Heading × Int) :=
 if 12 < (indices.length : Int) then (
  some (([] : List Heading),3))
 else
 (loopE (m18_1 indices) (0,([] : List Heading),([] : List (Bytes × Bytes)))).bind fun e717=>match e717 with
 | .inr z=>some z
 | .inl t720 =>
 (loopE (m18_4 t720) (0,([] : List (Bytes × grown)))).bind fun e1872 =>
 ordE e1872.length m18_5 (m18_6 t720) e1872
theorem lm18 : ∀ indices,LeO (m18 indices) (T11.m18 indices):=by
 intro _;unfold m18 T11.m18
 repeat' with_reducible first|exact lq0 _|exact lm18_1 _ _|exact lm18_4 _ _|exact lm18_5 _ _|exact lm18_6 _ _|refine lq1 (fun _=>?_) _|refine lq3 (fun _ _=>?_) (fun _=>?_) _|refine lq7 ?_ ?_|(refine lq8 ?_ (fun _=>?_) (fun _=>?_)<;>try dsimp only)|refine lq9 ?_ fun _=>?_
def m139 (p_0 : Place) : Option (Bytes) :=
 (m179 p_0.volume).bind fun r4 =>
 chkE (r4.length + [47].length ≤ 1073741824) <|
 (m179 p_0.from_).bind fun r9 =>
 chkE ((r4 ++ [47]).length + r9.length ≤ 1073741824) <|
 ((
  if p_0.from_ < p_0.to_ then (
   (m179 p_0.to_).bind fun r30 =>
   chkE ([45].length + r30.length ≤ 1073741824) <|
   chkE (((r4 ++ [47]) ++ r9).length + ([45] ++ r30).length ≤ 1073741824) <|
   some (((r4 ++ [47]) ++ r9) ++ ([45] ++ r30)))
  else
  some ((r4 ++ [47]) ++ r9)
 ) : Option (Bytes)).bind fun t25 =>
 some t25
theorem lm139 : ∀ p_0,LeO (m139 p_0) (T11.m139 p_0):=by
 intro _;unfold m139 T11.m139
 repeat' with_reducible first|exact lq0 _|exact lm179 _|refine lq5 ?_|refine lq7 ?_ ?_|refine lq9 ?_ fun _=>?_
def m100_1 (h_0 : Heading) (s99 : Nat × List Bytes) : Option ((Nat × List Bytes) ⊕ (List Bytes)) :=
 if (s99.1 : Int) < (h_0.places.length : Int) then (
  (h_0.places[s99.1]?).bind fun x131 =>
  (m139 x131).bind fun r142 =>
  chkE ([32].length + r142.length ≤ 1073741824) <|
  chkE (s99.2.length + 1 ≤ 1073741824) <|
  some (.inl ((s99.1 + 1),(s99.2 ++ [([32] ++ r142)]))))
 else
 some (.inr s99.2)
theorem lm100_1 : ∀ h_0 s99,LeO (m100_1 h_0 s99) (T11.m100_1 h_0 s99):=by
 intro _ _;unfold m100_1 T11.m100_1
 repeat' with_reducible first|exact lq0 _|exact lm139 _|refine lq5 ?_|refine lq7 ?_ ?_|refine lq9 ?_ fun _=>?_
def m100 (h_0 : Heading) : Option (Bytes) :=
 (loopE (m100_1 h_0) (0,([] : List Bytes))).bind fun e94 =>
 chkE (h_0.name.length + [58].length ≤ 1073741824) <|
 (m140 e94 [44]).bind fun r155 =>
 chkE ((h_0.name ++ [58]).length + r155.length ≤ 1073741824) <|
 ((
  if 0 < (h_0.also.length : Int) then (
   (m140 h_0.also [44,32]).bind fun r176 =>
   chkE ([59,32].length + r176.length ≤ 1073741824) <|
   chkE (((h_0.name ++ [58]) ++ r155).length + ([59,32] ++ r176).length ≤ 1073741824) <|
   some (((h_0.name ++ [58]) ++ r155) ++ ([59,32] ++ r176)))
  else
  some ((h_0.name ++ [58]) ++ r155)
 ) : Option (Bytes)).bind fun t171 =>
 some t171
theorem lm100 : ∀ h_0,LeO (m100 h_0) (T11.m100 h_0):=by
 intro _;unfold m100 T11.m100
 repeat' with_reducible first|exact lq0 _|exact lm100_1 _ _|exact lm140 _ _|refine lq1 (fun _=>?_) _|refine lq5 ?_|refine lq7 ?_ ?_|refine lq9 ?_ fun _=>?_
def m63_2 (x709 : Heading) (s1078 : Nat × List Bytes × (List (Bytes × Bytes))) : Option ((Nat × List Bytes × (List (Bytes × Bytes))) ⊕ (List Bytes × (List (Bytes × Bytes)))) :=
 if (s1078.1 : Int) < (x709.variants.length : Int) then (
  (x709.variants[s1078.1]?).bind fun x1111 =>
  ((
   chkE (s1078.2.1.length + 1 ≤ 1073741824) <|
   chkE (x1111.length + [32,61,32].length ≤ 1073741824) <|
   chkE ((x1111 ++ [32,61,32]).length + x709.name.length ≤ 1073741824) <|
   some ((s1078.2.1 ++ [x1111]),(put s1078.2.2 x1111 ((x1111 ++ [32,61,32]) ++ x709.name)))
  ) : Option (List Bytes × (List (Bytes × Bytes)))).bind fun t1128 =>
  some (.inl ((s1078.1 + 1),t1128.1,t1128.2)))
 else
 some (.inr (s1078.2.1,s1078.2.2))
theorem lm63_2 : ∀ x709 s1078,LeO (m63_2 x709 s1078) (T11.m63_2 x709 s1078):=by
 intro _ _;unfold m63_2 T11.m63_2
 repeat' with_reducible first|exact lq0 _|refine lq5 ?_|refine lq7 ?_ ?_|refine lq9 ?_ fun _=>?_
def m63_1 (l_0 : List Heading) (s558 : Nat × List Bytes × (List (Bytes × Bytes))) : Option ((Nat × List Bytes × (List (Bytes × Bytes))) ⊕ (List Bytes × (List (Bytes × Bytes)))) :=
 if (s558.1 : Int) < (l_0.length : Int) then (
  (l_0[s558.1]?).bind fun x709 =>
  ((
   ((
    chkE (s558.2.1.length + 1 ≤ 1073741824) <|
    chkE (x709.name.length + [32,61,32].length ≤ 1073741824) <|
    chkE ((x709.name ++ [32,61,32]).length + x709.name.length ≤ 1073741824) <|
    some ((s558.2.1 ++ [x709.name]),(put s558.2.2 x709.name ((x709.name ++ [32,61,32]) ++ x709.name)))
   ) : Option (List Bytes × (List (Bytes × Bytes)))).bind fun t967 =>
   (loopE (m63_2 x709) (0,t967.1,t967.2)).bind fun e1073 =>
   some (e1073.1,e1073.2)
  ) : Option (List Bytes × (List (Bytes × Bytes)))).bind fun t953 =>
  (m100 x709).bind fun r1152 =>
  some (.inl ((s558.1 + 1),t953.1,(put t953.2 x709.name r1152))))
 else
 some (.inr (s558.2.1,s558.2.2))
theorem lm63_1 : ∀ l_0 s558,LeO (m63_1 l_0 s558) (T11.m63_1 l_0 s558):=by
 intro _ _;unfold m63_1 T11.m63_1
 repeat' with_reducible first|exact lq0 _|exact lm63_2 _ _|exact lm100 _|refine lq1 (fun _=>?_) _|refine lq5 ?_|refine lq7 ?_ ?_|refine lq9 ?_ fun _=>?_
def m63_3 (e552 : List Bytes × (List (Bytes × Bytes))) (l1157 : List Bytes) (s1234 : Nat × Bool × List UInt8) : Option ((Nat × Bool × List UInt8) ⊕ (Bool × List UInt8)) :=
 if (s1234.1 : Int) < (e552.1.length : Int) then (
  (l1157[s1234.1]?).bind fun x1260 =>
  chkE (((lkp e552.2 x1260).getD ([] : Bytes)).length + [10].length ≤ 1073741824) <|
  ((
   chkE (s1234.2.2.length + (((lkp e552.2 x1260).getD ([] : Bytes)) ++ [10]).length ≤ 1073741824) <|
   some ((((lkp e552.2 x1260).getD ([] : Bytes)) ++ [10]).length,true,(s1234.2.2 ++ (((lkp e552.2 x1260).getD ([] : Bytes)) ++ [10])))
  ) : Option (Nat × Bool × List UInt8)).bind fun t1270 =>
  some (.inl ((s1234.1 + 1),t1270.2.1,t1270.2.2)))
 else
 some (.inr (s1234.2.1,s1234.2.2))
theorem lm63_3 : ∀ e552 l1157 s1234,LeO (m63_3 e552 l1157 s1234) (T11.m63_3 e552 l1157 s1234):=by
 intro _ _ _;unfold m63_3 T11.m63_3
 repeat' with_reducible first|exact lq0 _|refine lq5 ?_|refine lq7 ?_ ?_|refine lq9 ?_ fun _=>?_
def m63 (l_0 : List Heading) : Option (Bytes) :=
 (loopE (m63_1 l_0) (0,([] : List Bytes),([] : List (Bytes × Bytes)))).bind fun e552 =>
 (sortG (m55) e552.1).bind fun l1157 =>
 (loopE (m63_3 e552 l1157) (0,false,([] : List UInt8))).bind fun e1229 =>
 some e1229.2
theorem lm63 : ∀ l_0,LeO (m63 l_0) (T11.m63 l_0):=by
 intro _;unfold m63 T11.m63
 repeat' with_reducible first|exact lq0 _|exact lm63_1 _ _|exact lm55 _ _|exact lm63_3 _ _ _|refine lq1 (fun _=>?_) _|refine lq2 (fun _ _=>?_) _|refine lq9 ?_ fun _=>?_
def m25 (l_0 : List Heading) : Option (List UInt8 × Int) :=
 (m50 l_0).bind fun r1 =>
 if r1.2 ≠ 0 then (
  some (([] : List UInt8),r1.2))
 else
 (m63 l_0).bind fun r13 =>
 chkE (r13.length ≤ 1073741824) <|
 some (r13,0)
theorem lm25 : ∀ l_0,LeO (m25 l_0) (T11.m25 l_0):=by
 intro _;unfold m25 T11.m25
 repeat' with_reducible first|exact lq0 _|exact lm50 _|exact lm63 _|refine lq5 ?_|refine lq7 ?_ ?_|refine lq9 ?_ fun _=>?_
def m48  : Option (Bytes) :=
 some [65,32,76,101,101,58,32,51,47,55,44,32,57,47,49,45,50,10,67,111,114,110,32,76,97,119,115,58,32,51,47,49,50,45,49,52,44,32,52,47,49,45,50,59,32,84,114,97,100,101,10,67,111,114,110,32,108,97,119,115,32,61,32,67,111,114,110,32,76,97,119,115,10,76,97,100,121,32,76,101,101,32,61,32,65,32,76,101,101,10,76,101,101,32,65,110,110,32,61,32,65,32,76,101,101,10,84,114,97,100,101,58,32,51,47,49,51,10]
theorem lm48  : LeO (m48 ) (T11.m48 ):=by
 unfold m48 T11.m48
 repeat' with_reducible first|exact lq0 _
def m146 (o_0 : odd) (s_1 : Bytes) : Option (Int ⊕ Unit) :=
 (m189 s_1).bind fun r4 =>
 if r4.2 then (
  some (.inr ()))
 else
 some (.inl r4.1)
theorem lm146 : ∀ o_0 s_1,LeO (m146 o_0 s_1) (T11.m146 o_0 s_1):=by
 intro _ _;unfold m146 T11.m146
 repeat' with_reducible first|exact lq0 _|exact lm189 _|refine lq7 ?_ ?_|refine lq9 ?_ fun _=>?_
def m109 (o_0 : odd) (s_1 : Bytes) : Option (Place ⊕ Unit) :=
 (m68 s_1 [47]).bind fun r5 =>
 (m68 r5.2.1 [45]).bind fun r8 =>
 (m146 o_0 r5.1).bind fun r11=>match r11 with
 | .inl y14=>(
  (m146 o_0 r8.1).bind fun r16=>match r16 with
  | .inl y19=>(
   ((
    if r8.2.2 then (
     (m146 o_0 r8.2.1).bind fun r36=>match r36 with
     | .inl y39=>(
      some (.inl y39))
     | .inr _=>(
      some (.inr (.inr ()))))
    else
    some (.inl y19)
   ) : Option ((Int) ⊕ (Place ⊕ Unit))).bind fun t30=>match t30 with
   | .inr z=>some z
   | .inl t33 =>
   some (.inl (⟨y14,y19,t33⟩ : Place)))
  | .inr _=>(
   some (.inr ())))
 | .inr _=>(
  some (.inr ()))
theorem lm109 : ∀ o_0 s_1,LeO (m109 o_0 s_1) (T11.m109 o_0 s_1):=by
 intro _ _;unfold m109 T11.m109
 repeat' with_reducible first|exact lq0 _|exact lm68 _ _|exact lm146 _ _|refine lq7 ?_ ?_|(refine lq8 ?_ (fun _=>?_) (fun _=>?_)<;>try dsimp only)|refine lq9 ?_ fun _=>?_
def m69_1 (r238 : List Bytes) (o_0 : odd) (s329 : Nat × List Place) : Option ((Nat × List Place) ⊕ ((List Place) ⊕ ((List Place) ⊕ (Heading ⊕ Unit)))) :=
 if (s329.1 : Int) < (r238.length : Int) then (
  (r238[s329.1]?).bind fun x372 =>
  (m110 x372 [32]).bind fun r380 =>
  (m109 o_0 r380).bind fun r383=>match r383 with
  | .inl y386=>(
   chkE (s329.2.length + ([y386] : List Place).length ≤ 1073741824) <|
   some (.inl ((s329.1 + 1),(s329.2 ++ ([y386] : List Place)))))
  | .inr _=>(
   some (.inr (.inr (.inr (.inr ()))))))
 else
 some (.inr (.inl s329.2))
theorem lm69_1 : ∀ r238 o_0 s329,LeO (m69_1 r238 o_0 s329) (T11.m69_1 r238 o_0 s329):=by
 intro _ _ _;unfold m69_1 T11.m69_1
 repeat' with_reducible first|exact lq0 _|exact lm110 _ _|exact lm109 _ _|refine lq5 ?_|refine lq7 ?_ ?_|(refine lq8 ?_ (fun _=>?_) (fun _=>?_)<;>try dsimp only)|refine lq9 ?_ fun _=>?_
def m69 (o_0 : odd) : Option (Heading ⊕ Unit) :=
 (m68 o_0.line [58]).bind fun r5 =>
 (m68 r5.2.1 [59,32]).bind fun r8 =>
 ((
  if r8.1 ≠ [] then (
   (m67 r8.1 [44]).bind fun r238 =>
   (loopE (m69_1 r238 o_0) (0,([] : List Place))).bind fun e323=>match e323 with
   | .inr z=>some z
   | .inl t326 =>
   some (.inl t326))
  else
  some (.inl ([] : List Place))
 ) : Option ((List Place) ⊕ (Heading ⊕ Unit))).bind fun t230=>match t230 with
 | .inr z=>some z
 | .inl t233 =>
 ((
  if r8.2.2 then (
   (m67 r8.2.1 [44,32]).bind fun r425 =>
   some r425)
  else
  some ([] : List Bytes)
 ) : Option (List Bytes)).bind fun t416 =>
 some (.inl (⟨r5.1,([] : List Bytes),t416,t233⟩ : Heading))
theorem lm69 : ∀ o_0,LeO (m69 o_0) (T11.m69 o_0):=by
 intro _;unfold m69 T11.m69
 repeat' with_reducible first|exact lq0 _|exact lm68 _ _|exact lm67 _ _|exact lm69_1 _ _ _|refine lq1 (fun _=>?_) _|refine lq7 ?_ ?_|(refine lq8 ?_ (fun _=>?_) (fun _=>?_)<;>try dsimp only)|refine lq9 ?_ fun _=>?_
def m28_1 (r9 : List Bytes) (s385 : Nat × List Heading × (List (Bytes × (List Bytes)))) : Option ((Nat × List Heading × (List (Bytes × (List Bytes)))) ⊕ ((List Heading × (List (Bytes × (List Bytes)))) ⊕ (List Heading × Int))) :=
 if (s385.1 : Int) < ((r9.take (((r9.length : Int) - 1).toNat)).length : Int) then (
  ((r9.take (((r9.length : Int) - 1).toNat))[s385.1]?).bind fun x485 =>
  (m68 x485 [32,61,32]).bind fun r493 =>
  ((
   if r493.2.2 then (
    chkE (((lkp s385.2.2 r493.2.1).getD []).length + 1 ≤ 1073741824) <|
    some (.inl (s385.2.1,(put s385.2.2 r493.2.1 (((lkp s385.2.2 r493.2.1).getD []) ++ [r493.1])))))
   else
   (m69 (⟨x485⟩ : odd)).bind fun r583=>match r583 with
   | .inl y586=>(
    chkE (s385.2.1.length + ([y586] : List Heading).length ≤ 1073741824) <|
    some (.inl ((s385.2.1 ++ ([y586] : List Heading)),s385.2.2)))
   | .inr _=>(
    some (.inr (.inr (.inr (([] : List Heading),4)))))
  ) : Option ((List Heading × (List (Bytes × (List Bytes)))) ⊕ ((Nat × List Heading × (List (Bytes × (List Bytes)))) ⊕ ((List Heading × (List (Bytes × (List Bytes)))) ⊕ (List Heading × Int))))).bind fun t559=>match t559 with
  | .inr z=>some z
  | .inl t562 =>
  some (.inl ((s385.1 + 1),t562.1,t562.2)))
 else
 some (.inr (.inl (s385.2.1,s385.2.2)))
theorem lm28_1 : ∀ r9 s385,LeO (m28_1 r9 s385) (T11.m28_1 r9 s385):=by
 intro _ _;unfold m28_1 T11.m28_1
 repeat' with_reducible first|exact lq0 _|exact lm68 _ _|exact lm69 _|refine lq5 ?_|refine lq7 ?_ ?_|(refine lq8 ?_ (fun _=>?_) (fun _=>?_)<;>try dsimp only)|refine lq9 ?_ fun _=>?_
def m28_2 (t376 : List Heading × (List (Bytes × (List Bytes)))) (s752 : Nat × (List (Bytes × (List Bytes))) × List Heading) : Option ((Nat × (List (Bytes × (List Bytes))) × List Heading) ⊕ (List Heading)) :=
 if (s752.1 : Int) < (t376.1.length : Int) then (
  (s752.2.2[s752.1]?).bind fun x798 =>
  some (.inl ((s752.1 + 1),s752.2.1,(s752.2.2.set s752.1 (⟨x798.name,((lkp s752.2.1 x798.name).getD []),x798.also,x798.places⟩ : Heading)))))
 else
 some (.inr s752.2.2)
theorem lm28_2 : ∀ t376 s752,LeO (m28_2 t376 s752) (T11.m28_2 t376 s752):=by
 intro _ _;unfold m28_2 T11.m28_2
 repeat' with_reducible first|exact lq0 _|refine lq7 ?_ ?_|refine lq9 ?_ fun _=>?_
def m28 (b_0 : List UInt8) : Option (List Heading × Int) :=
 if 200000 < (b_0.length : Int) then (
  some (([] : List Heading),3))
 else
 (m67 b_0 [10]).bind fun r9 =>
 chkE (0 ≤ ((r9.length : Int) - 1)) <|
 chkE (((r9.length : Int) - 1).toNat ≤ r9.length) <|
 (loopE (m28_1 r9) (0,([] : List Heading),([] : List (Bytes × (List Bytes))))).bind fun e373=>match e373 with
 | .inr z=>some z
 | .inl t376 =>
 (loopE (m28_2 t376) (0,t376.2,t376.1)).bind fun e744 =>
 (m50 e744).bind fun r830 =>
 ((
  if r830.2 ≠ 0 then (
   some true)
  else
  (m63 e744).bind fun r851 =>
  some (decide (r851 ≠ b_0))
 ) : Option (Bool)).bind fun t844 =>
 if t844 then (
  some (([] : List Heading),4))
 else
 some (e744,0)
theorem lm28 : ∀ b_0,LeO (m28 b_0) (T11.m28 b_0):=by
 intro _;unfold m28 T11.m28
 repeat' with_reducible first|exact lq0 _|exact lm67 _ _|exact lm28_1 _ _|exact lm28_2 _ _|exact lm50 _|exact lm63 _|refine lq1 (fun _=>?_) _|refine lq5 ?_|refine lq7 ?_ ?_|(refine lq8 ?_ (fun _=>?_) (fun _=>?_)<;>try dsimp only)|refine lq9 ?_ fun _=>?_
def m73 (p_0 : Place) (c_1 : A2_Int) : Option (Bool) :=
 ((
  if p_0.volume = c_1.e0 then (
   (m72 c_1.e1 p_0.from_ p_0.to_).bind fun r18 =>
   some r18)
  else
  some false
 ) : Option (Bool)).bind fun t13 =>
 some t13
theorem lm73 : ∀ p_0 c_1,LeO (m73 p_0 c_1) (T11.m73 p_0 c_1):=by
 intro _ _;unfold m73 T11.m73
 repeat' with_reducible first|exact lq0 _|exact lm72 _ _ _|refine lq7 ?_ ?_|refine lq9 ?_ fun _=>?_
def m33_2 (x337 : Heading) (volume : Int) (number : Int) (s273 : Nat × List Bytes) (s388 : Nat) : Option ((Nat) ⊕ ((Unit) ⊕ (List Bytes))) :=
 if (s388 : Int) < (x337.places.length : Int) then (
  (x337.places[s388]?).bind fun x419 =>
  (m73 x419 (⟨volume,number⟩ : A2_Int)).bind fun r430 =>
  if r430 then (
   chkE (s273.2.length + 1 ≤ 1073741824) <|
   Option.map (fun z=>.inr (.inr z)) (
   some (s273.2 ++ [x337.name])))
  else
  some (.inl (s388 + 1)))
 else
 some (.inr (.inl ()))
theorem lm33_2 : ∀ x337 volume number s273 s388,LeO (m33_2 x337 volume number s273 s388) (T11.m33_2 x337 volume number s273 s388):=by
 intro _ _ _ _ _;unfold m33_2 T11.m33_2
 repeat' with_reducible first|exact lq0 _|exact lm73 _ _|refine lq5 ?_|refine lq7 ?_ ?_|refine lq9 ?_ fun _=>?_|refine lq10 ?_
def m33_1 (l_0 : List Heading) (volume : Int) (number : Int) (s273 : Nat × List Bytes) : Option ((Nat × List Bytes) ⊕ (List Bytes)) :=
 if (s273.1 : Int) < (l_0.length : Int) then (
  ((
   (l_0[s273.1]?).bind fun x337 =>
   (loopE (m33_2 x337 volume number s273) 0).bind fun e384=>match e384 with
   | .inr z=>some z
   | .inl t387 =>
   some s273.2
  ) : Option (List Bytes)).bind fun t332 =>
  some (.inl ((s273.1 + 1),t332)))
 else
 some (.inr s273.2)
theorem lm33_1 : ∀ l_0 volume number s273,LeO (m33_1 l_0 volume number s273) (T11.m33_1 l_0 volume number s273):=by
 intro _ _ _ _;unfold m33_1 T11.m33_1
 repeat' with_reducible first|exact lq0 _|exact lm33_2 _ _ _ _ _|refine lq1 (fun _=>?_) _|refine lq7 ?_ ?_|(refine lq8 ?_ (fun _=>?_) (fun _=>?_)<;>try dsimp only)|refine lq9 ?_ fun _=>?_
def m33 (l_0 : List Heading) (volume : Int) (number : Int) : Option (List Bytes × Int) :=
 (m50 l_0).bind fun r1 =>
 if r1.2 ≠ 0 then (
  some (([] : List Bytes),r1.2))
 else
 ((
  (m72 volume 1 999).bind fun r25 =>
  if r25 then (
   (m72 number 1 9999).bind fun r30 =>
   some (!r30))
  else
  some true
 ) : Option (Bool)).bind fun t22 =>
 if t22 then (
  some (([] : List Bytes),2))
 else
 (loopE (m33_1 l_0 volume number) (0,([] : List Bytes))).bind fun e268 =>
 some (e268,0)
theorem lm33 : ∀ l_0 volume number,LeO (m33 l_0 volume number) (T11.m33 l_0 volume number):=by
 intro _ _ _;unfold m33 T11.m33
 repeat' with_reducible first|exact lq0 _|exact lm50 _|exact lm72 _ _ _|exact lm33_1 _ _ _ _|refine lq1 (fun _=>?_) _|refine lq7 ?_ ?_|refine lq9 ?_ fun _=>?_
def m44_1 (a_0 : List Bytes) (b_1 : List Bytes) (s35 : Nat) : Option ((Nat) ⊕ ((Unit) ⊕ Bool)) :=
 if (s35 : Int) < (a_0.length : Int) then (
  (a_0[s35]?).bind fun x64 =>
  (b_1[s35]?).bind fun x72 =>
  if x64 ≠ x72 then (
   some (.inr (.inr false)))
  else
  some (.inl (s35 + 1)))
 else
 some (.inr (.inl ()))
theorem lm44_1 : ∀ a_0 b_1 s35,LeO (m44_1 a_0 b_1 s35) (T11.m44_1 a_0 b_1 s35):=by
 intro _ _ _;unfold m44_1 T11.m44_1
 repeat' with_reducible first|exact lq0 _|refine lq7 ?_ ?_|refine lq9 ?_ fun _=>?_
def m44 (a_0 : List Bytes) (b_1 : List Bytes) : Option (Bool) :=
 if (a_0.length : Int) ≠ (b_1.length : Int) then (
  some false)
 else
 (loopE (m44_1 a_0 b_1) 0).bind fun e31=>match e31 with
 | .inr z=>some z
 | .inl t34 =>
 some true
theorem lm44 : ∀ a_0 b_1,LeO (m44 a_0 b_1) (T11.m44 a_0 b_1):=by
 intro _ _;unfold m44 T11.m44
 repeat' with_reducible first|exact lq0 _|exact lm44_1 _ _ _|refine lq1 (fun _=>?_) _|refine lq7 ?_ ?_|(refine lq8 ?_ (fun _=>?_) (fun _=>?_)<;>try dsimp only)|refine lq9 ?_ fun _=>?_
def m40_1 (a_0 : Heading) (b_1 : Heading) (s92 : Nat) : Option ((Nat) ⊕ ((Unit) ⊕ Bool)) :=
 if (s92 : Int) < (a_0.places.length : Int) then (
  (a_0.places[s92]?).bind fun x121 =>
  (b_1.places[s92]?).bind fun x129 =>
  if x121 = x129 then (
   some (.inl (s92 + 1)))
  else
  some (.inr (.inr false)))
 else
 some (.inr (.inl ()))
theorem lm40_1 : ∀ a_0 b_1 s92,LeO (m40_1 a_0 b_1 s92) (T11.m40_1 a_0 b_1 s92):=by
 intro _ _ _;unfold m40_1 T11.m40_1
 repeat' with_reducible first|exact lq0 _|refine lq7 ?_ ?_|refine lq9 ?_ fun _=>?_
def m40 (a_0 : Heading) (b_1 : Heading) : Option (Bool) :=
 ((
  if a_0.name ≠ b_1.name then (
   some true)
  else
  (m44 a_0.variants b_1.variants).bind fun r46 =>
  if r46 then (
   (m44 a_0.also b_1.also).bind fun r51 =>
   if r51 then (
    some (decide ((a_0.places.length : Int) ≠ (b_1.places.length : Int))))
   else
   some true)
  else
  some true
 ) : Option (Bool)).bind fun t40 =>
 if t40 then (
  some false)
 else
 (loopE (m40_1 a_0 b_1) 0).bind fun e88=>match e88 with
 | .inr z=>some z
 | .inl t91 =>
 some true
theorem lm40 : ∀ a_0 b_1,LeO (m40 a_0 b_1) (T11.m40 a_0 b_1):=by
 intro _ _;unfold m40 T11.m40
 repeat' with_reducible first|exact lq0 _|exact lm44 _ _|exact lm40_1 _ _ _|refine lq1 (fun _=>?_) _|refine lq7 ?_ ?_|(refine lq8 ?_ (fun _=>?_) (fun _=>?_)<;>try dsimp only)|refine lq9 ?_ fun _=>?_
def m23_1 (a_0 : List Heading) (b_1 : List Heading) (s58 : Nat) : Option ((Nat) ⊕ ((Unit) ⊕ Bool)) :=
 if (s58 : Int) < (a_0.length : Int) then (
  (a_0[s58]?).bind fun x110 =>
  (b_1[s58]?).bind fun x128 =>
  (m40 x110 x128).bind fun r147 =>
  if r147 then (
   some (.inl (s58 + 1)))
  else
  some (.inr (.inr false)))
 else
 some (.inr (.inl ()))
theorem lm23_1 : ∀ a_0 b_1 s58,LeO (m23_1 a_0 b_1 s58) (T11.m23_1 a_0 b_1 s58):=by
 intro _ _ _;unfold m23_1 T11.m23_1
 repeat' with_reducible first|exact lq0 _|exact lm40 _ _|refine lq7 ?_ ?_|refine lq9 ?_ fun _=>?_
def m23 (a_0 : List Heading) (b_1 : List Heading) : Option (Bool) :=
 if (a_0.length : Int) ≠ (b_1.length : Int) then (
  some false)
 else
 (loopE (m23_1 a_0 b_1) 0).bind fun e54=>match e54 with
 | .inr z=>some z
 | .inl t57 =>
 some true
theorem lm23 : ∀ a_0 b_1,LeO (m23 a_0 b_1) (T11.m23 a_0 b_1):=by
 intro _ _;unfold m23 T11.m23
 repeat' with_reducible first|exact lq0 _|exact lm23_1 _ _ _|refine lq1 (fun _=>?_) _|refine lq7 ?_ ?_|(refine lq8 ?_ (fun _=>?_) (fun _=>?_)<;>try dsimp only)|refine lq9 ?_ fun _=>?_
def m16  : Option (Bool) :=
 (m47).bind fun r1 =>
 (m18 r1).bind fun r8 =>
 (m25 r8.1).bind fun r15 =>
 (m48).bind fun r22 =>
 chkE (r22.length ≤ 1073741824) <|
 (m28 r22).bind fun r31 =>
 (m33 r8.1 3 13).bind fun r38 =>
 ((
  if r8.2 = 0 then (
   if r15.2 = 0 then (
    if r15.1 = r22 then (
     if r31.2 = 0 then (
      (m23 r8.1 r31.1).bind fun r95 =>
      if r95 then (
       if r38.2 = 0 then (
        (m44 r38.1 ([[67,111,114,110,32,76,97,119,115],[84,114,97,100,101]] : List Bytes)).bind fun r111 =>
        some r111)
       else
       some false)
      else
      some false)
     else
     some false)
    else
    some false)
   else
   some false)
  else
  some false
 ) : Option (Bool)).bind fun t84 =>
 some t84
theorem lm16  : LeO (m16 ) (T11.m16 ):=by
 unfold m16 T11.m16
 repeat' with_reducible first|exact lq0 _|exact lm47|exact lm18 _|exact lm25 _|exact lm48|exact lm28 _|exact lm33 _ _ _|exact lm23 _ _|exact lm44 _ _|refine lq5 ?_|refine lq7 ?_ ?_|refine lq9 ?_ fun _=>?_
end T11.E
namespace T11
open Go Go.Proofs Pk
theorem awk : m16 = some true:=E.lm16 _ (show E.m16 = some true by kernel_rfl)
end T11
