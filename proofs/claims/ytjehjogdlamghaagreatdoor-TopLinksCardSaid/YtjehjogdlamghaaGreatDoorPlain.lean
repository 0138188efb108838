/-
  The plain laws: what the models of a volume and an index come to.
-/
import Derived.Test.YtjehjogdlamghaaGreatDoorMade
import Derived.Test.YtjehjogdlamghaaGreatDoorKitSix
import Derived.Lib.IndexMore
set_option linter.all false
namespace T10
open Go Go.Proofs Pk
def In (n lo hi : Int) : Bool := decide (lo ≤ n) && decide (n ≤ hi)
theorem In_iff {n lo hi : Int} : In n lo hi = true ↔ lo ≤ n ∧ n ≤ hi := by simp [In]
theorem e27 (n lo hi : Int) : m27 n lo hi = some (In n lo hi) := by unfold m27 In; by_cases h : lo ≤ n <;> simp [h]
theorem e44 (n lo hi : Int) : m44 n lo hi = some (In n lo hi) := by unfold m44 In; by_cases h : lo ≤ n <;> simp [h]
theorem e34 (n : Int) : m34 n = some (In n 0 99999) := by unfold m34; rw [e44]; rfl
theorem e83 (n : Int) : m83 n = some (In n 1 999) := by unfold m83; rw [e44]; rfl
def okC (c : UInt8) : Bool := decide (32 ≤ c.toNat) && decide (c.toNat ≤ 126)
def txt (s : Bytes) : Bool := In s.length 1 200 && s.all okC
theorem e28 {s : Bytes} (h : s.length ≤ 1073741824) : m28 s = some (txt s) := by
 have h1 := loop_all s okC (.inr false : Unit ⊕ Bool) (.inl ()) (step := m28_1 s) (fun i x hi hx => by
  unfold m28_1
  rw [if_pos (by omega), hx, Option.bind_some]
  unfold okC
  by_cases h1 : 32 ≤ x.toNat <;> by_cases h2 : x.toNat ≤ 126
  ·rw [if_neg (by omega), chk_t (by omega)]; simp [h1, h2]; omega
  ·rw [if_neg (by omega)]; simp [h1, h2]; omega
  ·rw [if_pos (by omega)]; simp [h1, h2]
  ·rw [if_pos (by omega)]; simp [h1, h2]) (by unfold m28_1; simp)
 unfold m28
 rw [h1, Option.bind_some, e27]
 unfold txt
 cases s.all okC <;> simp
theorem e126 (c : UInt8) : m126 (c.toNat : Int) = some (okC c) := by
 unfold m126 okC
 by_cases h1 : 32 ≤ c.toNat
 ·rw [if_pos (by omega)]; simp [h1]; omega
 ·rw [if_neg (by omega)]; simp [h1]
theorem e84 {s : Bytes} (h : s.length ≤ 1073741824) : m84 s = some (txt s) := by
 have h1 : m125 s m126 = some (s.all okC) := by
  have := gAll_some (l := s) (f := fun c => m126 (c.toNat : Int)) okC (fun c _ => e126 c)
  exact this
 unfold m84 txt
 rw [e44, Option.bind_some]
 cases hl : In s.length 1 200
 ·simp
 ·rw [if_pos rfl, chk_t h, h1]; simp
def okP (p : Paragraph) : Bool := In p.anchor 1 999 && txt p.text
theorem e123 {p : Paragraph} (h : p.text.length ≤ 1073741824) : m123 p = some (okP p) := by
 unfold m123 okP
 rw [e83, Option.bind_some, e84 h]
 cases In p.anchor 1 999 <;> simp
def allP (v : Volume) : List Paragraph := v.parts.flatMap (·.paragraphs)
theorem parts_take {v : Volume} {i : Nat} {x : Part} (h : v.parts[i]? = some x) : (v.parts.take (i + 1)).flatMap (·.paragraphs) = (v.parts.take i).flatMap (·.paragraphs) ++ x.paragraphs := by
 rw [List.take_succ, h]; simp
theorem parts_len {v : Volume} (i : Nat) : ((v.parts.take i).flatMap (·.paragraphs)).length ≤ (allP v).length := by
 have : allP v = (v.parts.take i).flatMap (·.paragraphs) ++ (v.parts.drop i).flatMap (·.paragraphs) := by unfold allP; rw [← List.flatMap_append, List.take_append_drop]
 rw [this]; simp
theorem e26 {v : Volume} (h : (allP v).length ≤ 1073741824) : m26 v = some (allP v) := by
 have := loop_l v.parts (fun _ x a => Sum.inl (a ++ x.paragraphs)) (fun a => a) (fun i a => a = (v.parts.take i).flatMap (·.paragraphs)) (step := m26_1 v) (fun i x a hi hx ha => by
  have h2 := parts_len (v := v) (i + 1)
  rw [parts_take hx, ← ha, List.length_append] at h2
  unfold m26_1
  rw [if_pos (by omega), hx, Option.bind_some, chk_t (by show a.length + x.paragraphs.length ≤ 1073741824; omega)]) (fun i x a a' hi hx ha hg => by
   simp only [Sum.inl.injEq] at hg; rw [← hg, ha, parts_take hx]) (fun a ha => by unfold m26_1; simp) (a0 := []) (by simp)
 unfold m26
 rw [this, goL_fold, foldl_append]; rfl
theorem e53 {v : Volume} (h : (allP v).length ≤ 1073741824) : m53 v = some (allP v) := by
 have := loop_l v.parts (fun _ x a => Sum.inl (a ++ x.paragraphs)) (fun a => a) (fun i a => a = (v.parts.take i).flatMap (·.paragraphs)) (step := m53_1 v) (fun i x a hi hx ha => by
  have h2 := parts_len (v := v) (i + 1)
  rw [parts_take hx, ← ha, List.length_append] at h2
  unfold m53_1
  rw [if_pos (by omega), hx, Option.bind_some, chk_t (by show a.length + x.paragraphs.length ≤ 1073741824; omega)]) (fun i x a a' hi hx ha hg => by
   simp only [Sum.inl.injEq] at hg; rw [← hg, ha, parts_take hx]) (fun a ha => by unfold m53_1; simp) (a0 := []) (by simp)
 unfold m53
 rw [this, goL_fold, foldl_append]; rfl
structure Few (v : Volume) (es : List Erratum) : Prop where
 parts : v.parts.length ≤ 8
 pars : ∀ p ∈ v.parts, p.paragraphs.length ≤ 35
 text : ∀ p ∈ v.parts, ∀ x ∈ p.paragraphs, x.text.length ≤ 210
 errata : es.length ≤ 25
 etext : ∀ x ∈ es, x.text.length ≤ 210
theorem flat_le {l : List Part} (h : ∀ p ∈ l, p.paragraphs.length ≤ 35) : (l.flatMap (·.paragraphs)).length ≤ 35 * l.length := by
 induction l with
 | nil => simp
 | cons x l ih =>
  have h1 := h x List.mem_cons_self
  have h2 := ih (fun y hy => h y (List.mem_cons_of_mem _ hy))
  simp only [List.flatMap_cons, List.length_append, List.length_cons]; omega
theorem Few.all {v : Volume} {es : List Erratum} (h : Few v es) : (allP v).length ≤ 1073741824 := by
 have h1 := flat_le h.pars
 have h2 := h.parts
 unfold allP; omega
theorem Few.ptext {v : Volume} {es : List Erratum} (h : Few v es) {p : Paragraph} (hp : p ∈ allP v) : p.text.length ≤ 210 := by
 obtain ⟨q, hq, hp⟩ := List.mem_flatMap.1 hp
 exact h.text q hq p hp
theorem e5 (v : Volume) (es : List Erratum) : ∃ b, m5 v es = some b ∧ (b = true → Few v es) := by
 have h2 : ∀ x : Part, loopO (m5_2 x) 0 = some (if x.paragraphs.all (fun p => decide (p.text.length ≤ 210)) then .inl () else .inr (.inr (.inr false))) := fun x => by
  refine loop_all x.paragraphs (fun p => decide (p.text.length ≤ 210)) _ _ (fun i p hi hp => ?_) (by unfold m5_2; simp)
  unfold m5_2
  rw [if_pos (by omega), hp, Option.bind_some]
  by_cases h : p.text.length ≤ 210
  ·rw [if_neg (by omega)]; simp [h]
  ·rw [if_pos (by omega)]; simp [h]
 have h1 := loop_all v.parts (fun x => decide (x.paragraphs.length ≤ 35) && x.paragraphs.all (fun p => decide (p.text.length ≤ 210))) (.inr false : Unit ⊕ Bool) (.inl ()) (step := m5_1 v) (fun i x hi hx => by
  unfold m5_1
  rw [if_pos (by omega), hx, Option.bind_some]
  by_cases h : x.paragraphs.length ≤ 35
  ·rw [if_neg (by omega), h2 x, Option.bind_some]
   simp only [h, decide_true, Bool.true_and]
   cases x.paragraphs.all (fun p => decide (p.text.length ≤ 210)) <;> simp
  ·rw [if_pos (by omega)]; simp [h]) (by unfold m5_1; simp)
 have h3 := loop_all es (fun x => decide (x.text.length ≤ 210)) (.inr false : Unit ⊕ Bool) (.inl ()) (step := m5_3 es) (fun i x hi hx => by
  unfold m5_3
  rw [if_pos (by omega), hx, Option.bind_some]
  by_cases h : x.text.length ≤ 210
  ·rw [if_neg (by omega)]; simp [h]
  ·rw [if_pos (by omega)]; simp [h]) (by unfold m5_3; simp)
 unfold m5
 rw [h1, Option.bind_some]
 by_cases c1 : v.parts.all (fun x => decide (x.paragraphs.length ≤ 35) && x.paragraphs.all (fun p => decide (p.text.length ≤ 210))) = true
 ·rw [if_pos c1]
  simp only [h3, Option.bind_some]
  by_cases c2 : es.all (fun x => decide (x.text.length ≤ 210)) = true
  ·rw [if_pos c2]
   by_cases c3 : v.parts.length ≤ 8
   ·refine ⟨decide (es.length ≤ 25), ?_, fun h => ?_⟩
    ·simp only []
     rw [if_pos (by omega)]; simp; omega
    ·simp only [List.all_eq_true, Bool.and_eq_true, decide_eq_true_eq] at c1 c2 h
     exact ⟨c3, fun p hp => (c1 p hp).1, fun p hp => (c1 p hp).2, h, c2⟩
   ·exact ⟨false, by simp only []; rw [if_neg (by omega)]; rfl, fun h => by cases h⟩
  ·rw [if_neg c2]; exact ⟨false, rfl, fun h => by cases h⟩
 ·rw [if_neg c1]; exact ⟨false, rfl, fun h => by cases h⟩
end T10
namespace T10
open Go Go.Proofs Pk
theorem loop_ex {α ε : Type} (l : List α) (P : Nat → α → Prop) (e out : ε) {step : Nat → Option (Nat ⊕ ε)}
  (hs : ∀ i x, i < l.length → l[i]? = some x → ∃ b : Bool, step i = some (if b then .inl (i + 1) else .inr e) ∧ (b = true → P i x)) (he : step l.length = some (.inr out)) :
  ∃ b : Bool, loopO step 0 = some (if b then out else e) ∧ (b = true → ∀ i x, l[i]? = some x → P i x) := by
 have key : ∀ k i, l.length - i = k → i ≤ l.length → ∃ b : Bool, loopO step i = some (if b then out else e) ∧ (b = true → ∀ j x, i ≤ j → l[j]? = some x → P j x) := by
  intro k
  induction k with
  | zero =>
   intro i hk hi
   obtain rfl : i = l.length := by omega
   refine ⟨true, by rw [loopO_out he]; rfl, fun _ j x hj hx => ?_⟩
   have := lt_len hx; omega
  | succ k ih =>
   intro i hk hi
   have hlt : i < l.length := by omega
   obtain ⟨b, h1, h2⟩ := hs i _ hlt (List.getElem?_eq_getElem hlt)
   cases b with
   | false => exact ⟨false, by rw [loopO_out (by simpa using h1)]; rfl, fun h => by cases h⟩
   | true =>
    obtain ⟨b', h3, h4⟩ := ih (i + 1) (by omega) (by omega)
    refine ⟨b', by rw [loopO_next (by simpa using h1)]; exact h3, fun hb j x hj hx => ?_⟩
    by_cases e : j = i
    ·subst e
     rw [List.getElem?_eq_getElem hlt] at hx
     cases hx; exact h2 rfl
    ·exact h4 hb j x (by omega) hx
 obtain ⟨b, h1, h2⟩ := key l.length 0 (by omega) (by omega)
 exact ⟨b, h1, fun h j x hx => h2 h j x (Nat.zero_le _) hx⟩
structure OkV (v : Volume) : Prop where
 parts : v.parts.length ≤ 6
 pars : (allP v).length ≤ 30
 number : In v.number 1 99 = true
 bound : In v.bound 0 99999 = true
 height : In v.height 1 60 = true
 width : In v.width 10 80 = true
 day : ∀ (i : Nat) (x : Part), v.parts[i]? = some x → In x.day 0 v.bound = true ∧ ∀ y, 0 < i → v.parts[i - 1]? = some y → y.day < x.day
 par : ∀ p ∈ allP v, okP p = true
 once : ((allP v).map (·.anchor)).Nodup
theorem nodup_map {α β : Type} {f : α → β} {l : List α} (h : ∀ (i j : Nat) (x y : α), l[i]? = some x → l[j]? = some y → j < i → f y ≠ f x) : (l.map f).Nodup := by
 rw [List.nodup_iff_pairwise_ne, List.pairwise_iff_getElem]
 intro i j hi hj hij
 rw [List.getElem_map, List.getElem_map]
 simp only [List.length_map] at hi hj
 exact h j i _ _ (List.getElem?_eq_getElem hj) (List.getElem?_eq_getElem hi) hij
theorem e6 {v : Volume} (hl : (allP v).length ≤ 1073741824) (ht : ∀ p ∈ allP v, p.text.length ≤ 1073741824) : ∃ r, m6 v = some r ∧ (r = 0 → OkV v) := by
 have h1 := loop_ex v.parts (fun i x => In x.day 0 v.bound = true ∧ ∀ y, 0 < i → v.parts[i - 1]? = some y → y.day < x.day) (.inr 1 : Unit ⊕ Int) (.inl ()) (step := m6_1 v) (fun i x hi hx => by
  unfold m6_1
  rw [if_pos (by omega), hx, Option.bind_some]
  by_cases h : In x.day 0 v.bound = true
  ·simp only [e27, Option.bind_some, h, if_true]
   by_cases h0 : i = 0
   ·subst h0
    exact ⟨true, by simp, fun _ => ⟨trivial, fun y h _ => absurd h (Nat.lt_irrefl _)⟩⟩
   ·have hp : v.parts[i - 1]? = some v.parts[i - 1] := List.getElem?_eq_getElem (by omega)
    rw [if_pos (by omega), show ((i : Int) - 1).toNat = i - 1 by omega, hp]
    by_cases hd : x.day ≤ v.parts[i - 1].day
    ·exact ⟨false, by simp [hd], fun h => by cases h⟩
    ·refine ⟨true, by simp [hd], fun _ => ⟨trivial, fun y _ hy => ?_⟩⟩
     cases hy; omega
  ·refine ⟨false, ?_, fun h => by cases h⟩
   simp only [e27, Option.bind_some, h]; simp) (by unfold m6_1; simp)
 have h2 := loop_ex (allP v) (fun i p => okP p = true) (.inr 1 : Unit ⊕ Int) (.inl ()) (step := m6_2 (allP v)) (fun i x hi hx => by
  refine ⟨okP x, ?_, fun h => h⟩
  unfold m6_2 okP
  rw [if_pos (by omega), hx, Option.bind_some, e27, Option.bind_some, e28 (ht x (List.mem_of_getElem? hx))]
  cases In x.anchor 1 999 <;> cases txt x.text <;> simp) (by unfold m6_2; simp)
 have h4 : ∀ i x, (allP v)[i]? = some x → ∃ b : Bool, loopO (m6_4 i (allP v)) 0 = some (if b then .inl () else .inr (.inr (.inr 6))) ∧ (b = true → ∀ j y, j < i → (allP v)[j]? = some y → y.anchor ≠ x.anchor) := fun i x hx => by
  have hi := lt_len hx
  have hlen : ((allP v).take i).length = i := by rw [List.length_take]; omega
  obtain ⟨b, g1, g2⟩ := loop_ex ((allP v).take i) (fun j y => y.anchor ≠ x.anchor) (.inr (.inr (.inr 6)) : Unit ⊕ (Nat ⊕ (Unit ⊕ Int))) (.inl ()) (step := m6_4 i (allP v)) (fun j y hj hy => by
   rw [hlen] at hj
   rw [List.getElem?_take_of_lt hj] at hy
   refine ⟨decide (y.anchor ≠ x.anchor), ?_, fun h => of_decide_eq_true h⟩
   unfold m6_4
   rw [if_pos (by omega), hy, Option.bind_some, hx, Option.bind_some, chk_t (by omega)]
   by_cases e : y.anchor = x.anchor <;> simp [e]) (by rw [hlen]; unfold m6_4; simp)
  exact ⟨b, g1, fun hb j y hj hy => g2 hb j y (by rw [List.getElem?_take_of_lt hj]; exact hy)⟩
 have h3 := loop_ex (allP v) (fun i x => ∀ j y, j < i → (allP v)[j]? = some y → y.anchor ≠ x.anchor) (.inr 6 : Unit ⊕ Int) (.inl ()) (step := m6_3 (allP v)) (fun i x hi hx => by
  obtain ⟨b, g1, g2⟩ := h4 i x hx
  refine ⟨b, ?_, g2⟩
  unfold m6_3
  rw [if_pos (by omega), g1, Option.bind_some]
  cases b <;> simp) (by unfold m6_3; simp)
 obtain ⟨b1, g1, f1⟩ := h1
 obtain ⟨b2, g2, f2⟩ := h2
 obtain ⟨b3, g3, f3⟩ := h3
 unfold m6
 rw [e26 hl, Option.bind_some]
 by_cases c1 : v.parts.length ≤ 6 ∧ (allP v).length ≤ 30
 ·rw [if_neg (by omega)]
  simp only [Option.bind_some]
  rw [if_neg (by simp; omega)]
  simp only [e27, Option.bind_some]
  by_cases c2 : In v.number 1 99 = true ∧ In v.bound 0 99999 = true ∧ In v.height 1 60 = true ∧ In v.width 10 80 = true
  ·obtain ⟨i1, i2, i3, i4⟩ := c2
   simp only [i1, i2, i3, i4, if_true, Option.bind_some, Bool.not_true, Bool.false_eq_true, if_false]
   rw [g1, Option.bind_some]
   cases b1 with
   | false => exact ⟨1, rfl, fun h => by cases h⟩
   | true =>
    simp only [if_true]
    rw [g2, Option.bind_some]
    cases b2 with
    | false => exact ⟨1, rfl, fun h => by cases h⟩
    | true =>
     simp only [if_true]
     rw [g3, Option.bind_some]
     cases b3 with
     | false => exact ⟨6, rfl, fun h => by cases h⟩
     | true => exact ⟨0, rfl, fun _ => ⟨c1.1, c1.2, i1, i2, i3, i4, f1 rfl, fun p hp => by
       obtain ⟨i, hi⟩ := List.getElem?_of_mem hp
       exact f2 rfl i p hi, nodup_map fun i j x y hx hy hij => f3 rfl i x hx j y hij hy⟩⟩
  ·refine ⟨1, ?_, fun h => by cases h⟩
   cases i1 : In v.number 1 99 <;> cases i2 : In v.bound 0 99999 <;> cases i3 : In v.height 1 60 <;> cases i4 : In v.width 10 80 <;> simp
   exact absurd ⟨i1, i2, i3, i4⟩ c2
 ·refine ⟨3, ?_, fun h => by cases h⟩
  by_cases c : 6 < v.parts.length
  ·rw [if_pos (by omega)]; rfl
  ·rw [if_neg (by omega)]; simp only [Option.bind_some]; rw [if_pos (by simp; omega)]
end T10
namespace T10
open Go Go.Proofs Pk
def right (x : Erratum) : Bool := In x.number 1 999 && In x.day 0 99999 && In x.anchor 1 999 && (if x.kind = 0 then txt x.text && decide (x.new_ = 0) else if x.kind = 1 then decide (x.text = []) && decide (x.new_ = 0) else decide (x.kind = 2) && txt x.text && In x.new_ 1 999)
def Less (a b : Erratum) : Bool := decide (a.day < b.day) || (decide (a.day = b.day) && decide (a.number < b.number))
theorem e30 (a b : Erratum) : m30 a b = some (Less a b) := by
 unfold m30 Less
 by_cases h : a.day < b.day
 ·simp [h]
 ·by_cases h2 : a.day = b.day
  ·simp [h, h2]
  ·simp [h, h2]
theorem e29 {x : Erratum} (h : x.text.length ≤ 1073741824) : m29 x = some (right x) := by
 unfold m29 right
 simp only [e27, Option.bind_some, e28 h]
 cases In x.number 1 999 <;> cases In x.day 0 99999 <;> cases In x.anchor 1 999 <;> simp
 by_cases h0 : x.kind = 0
 ·simp only [h0, if_true]; cases txt x.text <;> simp
 ·by_cases h1 : x.kind = 1
  ·simp only [h1]; by_cases ht : x.text = [] <;> simp [ht]
  ·simp only [h0, h1, if_false]
   by_cases h2 : x.kind = 2
   ·simp only [h2, if_true]; cases txt x.text <;> simp
   ·simp [h2]
structure OkE (v : Volume) (es : List Erratum) : Prop where
 few : es.length ≤ 20
 right : ∀ x ∈ es, right x = true
 once : (es.map (·.number)).Nodup
 news : ∀ (i j : Nat) (x y : Erratum), es[i]? = some x → es[j]? = some y → j ≠ i → x.kind = 2 → y.kind = 2 → y.new_ ≠ x.new_
 fresh : ∀ x ∈ es, x.kind = 2 → ∀ p ∈ allP v, p.anchor ≠ x.new_
 there : ∀ x ∈ es, (∃ p ∈ allP v, p.anchor = x.anchor) ∨ ∃ y ∈ es, y.kind = 2 ∧ y.new_ = x.anchor ∧ Less y x = true
theorem foldl_or {α : Type} (p : α → Bool) : ∀ (l : List α) (b : Bool), l.foldl (fun b x => b || p x) b = (b || l.any p)
 | [], b => by simp
 | x :: l, b => by simp [foldl_or p l, Bool.or_assoc]
theorem e7 {v : Volume} {es : List Erratum} (hl : (allP v).length ≤ 1073741824) (ht : ∀ x ∈ es, x.text.length ≤ 1073741824) : ∃ r, m7 v es = some r ∧ (r = 0 → OkE v es) := by
 have h1 := loop_ex es (fun i x => right x = true) (.inr 1 : Unit ⊕ Int) (.inl ()) (step := m7_1 es) (fun i x hi hx => by
  refine ⟨right x, ?_, fun h => h⟩
  unfold m7_1
  rw [if_pos (by omega), hx, Option.bind_some, e29 (ht x (List.mem_of_getElem? hx)), Option.bind_some]
  cases right x <;> rfl) (by unfold m7_1; simp)
 have h3 : ∀ i x, es[i]? = some x → ∃ b : Bool, loopO (m7_3 es i) 0 = some (if b then .inl () else .inr (.inr (.inr 6))) ∧ (b = true → ∀ j y, es[j]? = some y → j ≠ i → y.number ≠ x.number ∧ (x.kind = 2 → y.kind = 2 → y.new_ ≠ x.new_)) := fun i x hx => by
  have hi := lt_len hx
  exact loop_ex es (fun j y => j ≠ i → y.number ≠ x.number ∧ (x.kind = 2 → y.kind = 2 → y.new_ ≠ x.new_)) (.inr (.inr (.inr 6)) : Unit ⊕ (Nat ⊕ (Unit ⊕ Int))) (.inl ()) (step := m7_3 es i) (fun j y hj hy => by
   unfold m7_3
   rw [if_pos (by omega)]
   by_cases e : j = i
   ·rw [if_neg (by omega)]
    exact ⟨true, by simp, fun _ h => absurd e h⟩
   ·rw [if_pos (by omega), hy, Option.bind_some, hx, Option.bind_some]
    by_cases e1 : y.number = x.number
    ·exact ⟨false, by simp [e1], fun h => by cases h⟩
    ·rw [if_neg e1]
     by_cases e2 : x.kind = 2
     ·rw [if_pos e2]
      by_cases e3 : y.kind = 2
      ·rw [if_pos e3]
       by_cases e4 : y.new_ = x.new_
       ·exact ⟨false, by simp [e4], fun h => by cases h⟩
       ·exact ⟨true, by simp [e4], fun _ _ => ⟨e1, fun _ _ => e4⟩⟩
      ·rw [if_neg e3]; exact ⟨true, by simp, fun _ _ => ⟨e1, fun _ h => absurd h e3⟩⟩
     ·rw [if_neg e2]; exact ⟨true, by simp, fun _ _ => ⟨e1, fun h _ => absurd h e2⟩⟩) (by unfold m7_3; simp)
 have h4 : ∀ i x, es[i]? = some x → ∃ b : Bool, loopO (m7_4 (allP v) es i) 0 = some (if b then .inl () else .inr (.inr (.inr 6))) ∧ (b = true → ∀ (j : Nat) p, (allP v)[j]? = some p → x.kind = 2 → p.anchor ≠ x.new_) := fun i x hx => by
  exact loop_ex (allP v) (fun j p => x.kind = 2 → p.anchor ≠ x.new_) (.inr (.inr (.inr 6)) : Unit ⊕ (Nat ⊕ (Unit ⊕ Int))) (.inl ()) (step := m7_4 (allP v) es i) (fun j p hj hp => by
   unfold m7_4
   rw [if_pos (by omega), hx, Option.bind_some]
   by_cases e2 : x.kind = 2
   ·rw [if_pos e2, hp, Option.bind_some]
    by_cases e4 : p.anchor = x.new_
    ·exact ⟨false, by simp [e4], fun h => by cases h⟩
    ·exact ⟨true, by simp [e4], fun _ _ => e4⟩
   ·rw [if_neg e2]; exact ⟨true, by simp, fun _ h => absurd h e2⟩) (by unfold m7_4; simp)
 have h2 := loop_ex es (fun i x => (∀ j y, es[j]? = some y → j ≠ i → y.number ≠ x.number ∧ (x.kind = 2 → y.kind = 2 → y.new_ ≠ x.new_)) ∧ (∀ (j : Nat) p, (allP v)[j]? = some p → x.kind = 2 → p.anchor ≠ x.new_)) (.inr 6 : Unit ⊕ Int) (.inl ()) (step := m7_2 es (allP v)) (fun i x hi hx => by
  obtain ⟨b, g1, f1⟩ := h3 i x hx
  obtain ⟨b', g2, f2⟩ := h4 i x hx
  unfold m7_2
  rw [if_pos (by omega), g1, Option.bind_some]
  cases b with
  | false => exact ⟨false, rfl, fun h => by cases h⟩
  | true =>
   simp only [if_true]
   rw [g2, Option.bind_some]
   cases b' with
   | false => exact ⟨false, rfl, fun h => by cases h⟩
   | true => exact ⟨true, rfl, fun _ => ⟨f1 rfl, f2 rfl⟩⟩) (by unfold m7_2; simp)
 have h6 : ∀ i x, es[i]? = some x → ∀ b, loopO (m7_6 (allP v) es i) (0, b) = some (b || (allP v).any fun p => decide (p.anchor = x.anchor)) := fun i x hx b => by
  have := loop_fold (allP v) (fun b p => b || decide (p.anchor = x.anchor)) (fun b => b) (fun _ _ => True) (step := m7_6 (allP v) es i) (fun j p b hj hp _ => by
   unfold m7_6
   rw [if_pos (by omega)]
   cases b <;> simp [hp, hx]) (fun _ _ _ _ _ _ => trivial) (fun b _ => by unfold m7_6; simp) (a0 := b) trivial
  rw [this, foldl_or]
 have h7 : ∀ i x, es[i]? = some x → ∀ b, loopO (m7_7 es i) (0, b) = some (b || es.any fun y => decide (y.kind = 2) && (decide (y.new_ = x.anchor) && Less y x)) := fun i x hx b => by
  have := loop_fold es (fun b y => b || (decide (y.kind = 2) && (decide (y.new_ = x.anchor) && Less y x))) (fun b => b) (fun _ _ => True) (step := m7_7 es i) (fun j y b hj hy _ => by
   unfold m7_7
   rw [if_pos (by omega)]
   cases b with
   | true => simp
   | false =>
    simp only [Bool.false_eq_true, if_false, hy, Option.bind_some, Bool.false_or, hx, e30]
    by_cases e1 : y.kind = 2
    ·by_cases e2 : y.new_ = x.anchor <;> simp [e1, e2]
    ·simp [e1]) (fun _ _ _ _ _ _ => trivial) (fun b _ => by unfold m7_7; simp) (a0 := b) trivial
  rw [this, foldl_or]
 have h5 := loop_ex es (fun i x => (∃ p ∈ allP v, p.anchor = x.anchor) ∨ ∃ y ∈ es, y.kind = 2 ∧ y.new_ = x.anchor ∧ Less y x = true) (.inr 7 : Unit ⊕ Int) (.inl ()) (step := m7_5 es (allP v)) (fun i x hi hx => by
  unfold m7_5
  rw [if_pos (by omega), h6 i x hx, Option.bind_some, h7 i x hx, Option.bind_some]
  refine ⟨((false || (allP v).any fun p => decide (p.anchor = x.anchor)) || es.any fun y => decide (y.kind = 2) && (decide (y.new_ = x.anchor) && Less y x)), ?_, fun h => ?_⟩
  ·cases ((false || (allP v).any fun p => decide (p.anchor = x.anchor)) || es.any fun y => decide (y.kind = 2) && (decide (y.new_ = x.anchor) && Less y x)) <;> rfl
  ·simp only [Bool.false_or, Bool.or_eq_true, List.any_eq_true, Bool.and_eq_true, decide_eq_true_eq] at h
   exact h) (by unfold m7_5; simp)
 obtain ⟨b1, g1, f1⟩ := h1
 obtain ⟨b2, g2, f2⟩ := h2
 obtain ⟨b5, g5, f5⟩ := h5
 unfold m7
 by_cases c1 : es.length ≤ 20
 ·rw [if_neg (by omega), g1, Option.bind_some]
  cases b1 with
  | false => exact ⟨1, rfl, fun h => by cases h⟩
  | true =>
   simp only [if_true]
   rw [e26 hl, Option.bind_some, g2, Option.bind_some]
   cases b2 with
   | false => exact ⟨6, rfl, fun h => by cases h⟩
   | true =>
    simp only [if_true]
    rw [g5, Option.bind_some]
    cases b5 with
    | false => exact ⟨7, rfl, fun h => by cases h⟩
    | true =>
     refine ⟨0, rfl, fun _ => ⟨c1, fun x hx => ?_, nodup_map fun i j x y hx hy hij => ?_, fun i j x y hx hy hij k1 k2 => ?_, fun x hx k p hp => ?_, fun x hx => ?_⟩⟩
     ·obtain ⟨i, hi⟩ := List.getElem?_of_mem hx; exact f1 rfl i x hi
     ·exact ((f2 rfl i x hx).1 j y hy (by omega)).1
     ·exact ((f2 rfl i x hx).1 j y hy hij).2 k1 k2
     ·obtain ⟨i, hi⟩ := List.getElem?_of_mem hx
      obtain ⟨j, hj⟩ := List.getElem?_of_mem hp
      exact (f2 rfl i x hi).2 j p hj k
     ·obtain ⟨i, hi⟩ := List.getElem?_of_mem hx; exact f5 rfl i x hi
 ·exact ⟨3, by rw [if_pos (by omega)], fun h => by cases h⟩
structure Ok (v : Volume) (es : List Erratum) : Prop where
 few : Few v es
 vol : OkV v
 err : OkE v es
end T10
namespace T10
open Go Go.Proofs Pk
theorem occAt_app (l r sub : Bytes) : Lib.occAt (l ++ r) sub l.length = sub.isPrefixOf r := by unfold Lib.occAt; rw [List.drop_left]
theorem isPre_self (a r : Bytes) : a.isPrefixOf (a ++ r) = true := List.isPrefixOf_iff_prefix.2 (List.prefix_append a r)
theorem index_at {l r t : Bytes} {c : UInt8} (h : c ∉ l) : Lib.index (l ++ (c :: t ++ r)) (c :: t) = l.length := by
 refine Lib.index_first (by simp) (by rw [occAt_app]; exact isPre_self _ _) (fun j hj => ?_)
 cases hb : Lib.occAt (l ++ (c :: t ++ r)) (c :: t) j with
 | false => rfl
 | true =>
  have := Lib.occAt_head rfl hb
  rw [List.getElem?_append_left hj] at this
  exact absurd (List.mem_of_getElem? this) h
theorem cut_at {l r t : Bytes} {c : UInt8} (h : c ∉ l) : Lib.cut (l ++ (c :: t ++ r)) (c :: t) = (l, r, true) := by
 unfold Lib.cut
 rw [index_at h, if_pos (by omega)]
 simp only [Int.toNat_natCast, List.take_left]
 congr 1
 congr 1
 rw [← List.append_assoc, List.drop_left' (by simp)]
theorem itoa_pos {n : Int} (h : 0 ≤ n) : Lib.itoa n = Lib.decDigits n.toNat := by unfold Lib.itoa; rw [if_neg (by omega)]
theorem itoa_dig {n : Int} (h : 0 ≤ n) {c : UInt8} (hc : c ∈ Lib.itoa n) : 48 ≤ c.toNat ∧ c.toNat ≤ 57 := by
 rw [itoa_pos h] at hc
 have := List.all_eq_true.1 (dec_all n.toNat) c hc
 simpa [isd] using this
theorem itoa_no {n : Int} (h : 0 ≤ n) {c : UInt8} (hc : c.toNat < 48 ∨ 57 < c.toNat) : c ∉ Lib.itoa n := fun hm => by have := itoa_dig h hm; omega
theorem itoa_ne (n : Int) : Lib.itoa n ≠ [] := by unfold Lib.itoa; split <;> simp [dec_ne]
theorem itoa_len {n : Int} (h : 0 ≤ n) (h2 : n < 1000000) : (Lib.itoa n).length ≤ 6 := by
 rw [itoa_pos h]; exact dec_len (by omega) (by decide)
theorem atoi_itoa {n : Int} (h : 0 ≤ n) (h2 : n < 1000000000000000000) : atoiR (Lib.itoa n) = (n, false) := by
 rw [itoa_pos h]
 unfold atoiR
 rw [atoi_dec (by omega)]
 simp only [Int.toNat_of_nonneg h]
abbrev sVol : Bytes := [118, 111, 108, 46, 32]
abbrev sAt : Bytes := [64]
def citeA (a d : Int) : Bytes := Lib.itoa a ++ (sAt ++ Lib.itoa d)
end T10
namespace T10
open Go Go.Proofs Pk
theorem e11 {v : Volume} {es : List Erratum} (h : Few v es) : m11 v = some v := by
 have h2 : ∀ x ∈ v.parts, loopO (m11_2 x) (0, ([] : List Paragraph)) = some x.paragraphs := fun x hx => by
  have hl := h.pars x hx
  have := loop_map x.paragraphs (fun p => p) (fun a => a) (step := m11_2 x) (fun i p a hi hp ha => by
   unfold m11_2
   rw [if_pos (by omega)]
   simp only [hp, Option.bind_some]
   rw [chk_t (by omega)]) (fun a => by unfold m11_2; simp)
  rw [this]; simp
 have h1 := loop_map v.parts (fun x => x) (fun a => a) (step := m11_1 v) (fun i x a hi hx ha => by
  have hl := h.parts
  unfold m11_1
  rw [if_pos (by omega)]
  simp only [hx, Option.bind_some, h2 x (List.mem_of_getElem? hx)]
  rw [chk_t (by omega)]) (fun a => by unfold m11_1; simp)
 unfold m11
 rw [h1, Option.bind_some]; simp
theorem e12 {es : List Erratum} (h : es.length ≤ 1073741823) : m12 es = some es := by
 have h1 := loop_map es (fun x => x) (fun a => a) (step := m12_1 es) (fun i x a hi hx ha => by
  unfold m12_1
  rw [if_pos (by omega)]
  simp only [hx, Option.bind_some, m36]
  rw [chk_t (by omega)]) (fun a => by unfold m12_1; simp)
 unfold m12
 rw [h1, Option.bind_some]; simp
theorem Ok.pt {v : Volume} {es : List Erratum} (h : Ok v es) {p : Paragraph} (hp : p ∈ allP v) : p.text.length ≤ 1073741824 := Nat.le_trans (h.few.ptext hp) (by decide)
theorem Ok.et {v : Volume} {es : List Erratum} (h : Ok v es) {x : Erratum} (hx : x ∈ es) : x.text.length ≤ 1073741824 := Nat.le_trans (h.few.etext x hx) (by decide)
theorem all_take {α : Type} (l : List α) (p : α → Bool) (h : ∀ x ∈ l, p x = true) : l.all p = true := List.all_eq_true.2 h
theorem e80 {v : Volume} {es : List Erratum} (h : Ok v es) : m80 v = some true := by
 have hv := h.vol
 have h1 := loop_all v.parts (fun _ => true) (.inr false : Unit ⊕ Bool) (.inl ()) (step := m80_1 v) (fun i x hi hx => by
  obtain ⟨d1, d2⟩ := hv.day i x hx
  have hb := In_iff.1 hv.bound
  have hd := In_iff.1 d1
  unfold m80_1
  rw [if_pos (by omega), hx, Option.bind_some]
  simp only [e34, Option.bind_some, show In x.day 0 99999 = true from In_iff.2 ⟨hd.1, by omega⟩, if_true]
  rw [if_neg (by omega)]
  by_cases h0 : i = 0
  ·subst h0; simp
  ·have hp : v.parts[i - 1]? = some v.parts[i - 1] := List.getElem?_eq_getElem (by omega)
   have := d2 _ (by omega) hp
   rw [if_pos (by omega), show ((i : Int) - 1).toNat = i - 1 by omega, hp]
   simp; omega) (by unfold m80_1; simp)
 have h2 : m122 (allP v) m123 = some true := by
  have := gAll_some (l := allP v) (f := m123) okP (fun p hp => e123 (h.pt hp))
  rw [all_take _ _ hv.par] at this
  exact this
 unfold m80
 rw [h1, all_take _ _ (fun _ _ => rfl), if_pos rfl]
 simp only [Option.bind_some, e44, e34, hv.number, hv.bound, hv.height, hv.width, if_true, e53 h.few.all, h2]
theorem lkp_put' (k j : Int) (b : Bool) : ∀ m : List (Int × Bool), lkp (put m k b) j = if k = j then some b else lkp m j
  | [] => by by_cases h : k = j
             · subst h; simp [put, lkp]
             · simp [put, lkp, h, Ne.symm h]
  | (q, x) :: m => by
    have ih := lkp_put' k j b m
    unfold put
    by_cases h : k = q
    · subst h
      rw [if_pos rfl]
      by_cases h2 : k = j
      · subst h2; simp [lkp]
      · simp [lkp, h2, Ne.symm h2]
    · rw [if_neg h]
      unfold lkp
      by_cases h2 : j = q
      · subst h2; rw [if_pos rfl, if_pos rfl, if_neg h]
      · rw [if_neg h2, if_neg h2, ih]
def Met (m : List (Int × Bool)) (S : Int → Prop) : Prop := ∀ k, (lkp m k).getD false = true ↔ S k
theorem Met.nil : Met [] (fun _ => False) := fun k => by simp [lkp]
theorem Met.put {m : List (Int × Bool)} {S : Int → Prop} (h : Met m S) (k : Int) : Met (put m k true) (fun j => j = k ∨ S j) := fun j => by
 rw [lkp_put' k j true m]
 by_cases e : k = j
 ·simp [e]
 ·rw [if_neg e, h j]; constructor
  ·exact .inr
  ·rintro (h | h)
   ·exact absurd h.symm e
   ·exact h
theorem Met.iff {m : List (Int × Bool)} {S T : Int → Prop} (h : Met m S) (e : ∀ k, S k ↔ T k) : Met m T := fun k => (h k).trans (e k)
theorem once_ne {α : Type} {f : α → Int} {l : List α} (h : (l.map f).Nodup) {i : Nat} {x : α} (hx : l[i]? = some x) : ¬ ∃ j y, j < i ∧ l[j]? = some y ∧ f y = f x := by
 rintro ⟨j, y, hj, hy, e⟩
 have h1 : (l.map f)[i]? = some (f x) := by rw [List.getElem?_map, hx]; rfl
 have h2 : (l.map f)[j]? = some (f x) := by rw [List.getElem?_map, hy]; simp [e]
 have hi := lt_len h1
 have := (List.getElem?_inj (i := i) (j := j) hi h).1 (h1.trans h2.symm)
 omega
theorem e50 {v : Volume} {es : List Erratum} (h : Ok v es) : m50 v = some 0 := by
 have hv := h.vol
 have h1 := loop_l (allP v) (fun _ x a => Sum.inl (put a x.anchor true)) (fun a => (Sum.inl a : List (Int × Bool) ⊕ Int)) (fun i a => Met a (fun k => ∃ j y, j < i ∧ (allP v)[j]? = some y ∧ y.anchor = k)) (step := m50_1 (allP v)) (fun i x a hi hx ha => by
  unfold m50_1
  rw [if_pos (by omega)]
  simp only [hx, Option.bind_some]
  rw [if_neg (fun c => once_ne hv.once hx ((ha _).1 c))]) (fun i x a a' hi hx ha hg => by
  simp only [Sum.inl.injEq] at hg
  rw [← hg]
  refine (ha.put x.anchor).iff fun k => ⟨?_, ?_⟩
  ·rintro (rfl | ⟨j, y, hj, hy, e⟩)
   ·exact ⟨i, x, by omega, hx, rfl⟩
   ·exact ⟨j, y, by omega, hy, e⟩
  ·rintro ⟨j, y, hj, hy, e⟩
   by_cases hji : j = i
   ·subst hji; rw [hx] at hy; cases hy; exact .inl e.symm
   ·exact .inr ⟨j, y, by omega, hy, e⟩) (fun a ha => by unfold m50_1; simp) (a0 := []) (Met.nil.iff fun k => ⟨False.elim, fun ⟨j, _, hj, _⟩ => absurd hj (Nat.not_lt_zero _)⟩)
 unfold m50
 rw [e53 h.few.all, Option.bind_some, if_neg (by have := hv.parts; omega)]
 simp only [Option.bind_some]
 rw [if_neg (by have := hv.pars; simp; omega), e80 h]
 simp only [Option.bind_some, if_true]
 rw [h1, goL_fold]; rfl
theorem e52 {x : Erratum} (h : x.text.length ≤ 1073741824) (hr : right x = true) : m52 x = some true := by
 unfold right at hr
 simp only [Bool.and_eq_true] at hr
 obtain ⟨⟨⟨h1, h2⟩, h3⟩, h4⟩ := hr
 unfold m52
 simp only [e44, e34, e83, Option.bind_some, h1, h2, h3, if_true, Bool.not_true, Bool.false_eq_true, if_false, e84 h]
 by_cases k0 : x.kind = 0
 ·rw [if_pos k0] at h4
  simp only [Bool.and_eq_true, decide_eq_true_eq] at h4
  simp [k0, h4.1, h4.2]
 ·rw [if_neg k0] at h4
  by_cases k1 : x.kind = 1
  ·rw [if_pos k1] at h4
   simp only [Bool.and_eq_true, decide_eq_true_eq] at h4
   simp [k1, h4.1, h4.2]
  ·rw [if_neg k1] at h4
   simp only [Bool.and_eq_true, decide_eq_true_eq] at h4
   simp [h4.1.1, h4.1.2, h4.2]
theorem e51 {v : Volume} {es : List Erratum} (h : Ok v es) : m51 es m52 = some true := by
 have := gAll_some (l := es) (f := m52) (fun _ => true) (fun x hx => e52 (h.et hx) (h.err.right x hx))
 rw [all_take _ _ (fun _ _ => rfl)] at this
 exact this
theorem seenP {v : Volume} {step : Nat × List (Int × Bool) → Option ((Nat × List (Int × Bool)) ⊕ List (Int × Bool))} (hs : ∀ i x a, i < (allP v).length → (allP v)[i]? = some x → step (i, a) = some (.inl (i + 1, put a x.anchor true))) (he : ∀ a, step ((allP v).length, a) = some (.inr a)) : ∃ m, loopO step (0, []) = some m ∧ Met m (fun k => ∃ p ∈ allP v, p.anchor = k) := by
 have h1 := loop_fold (allP v) (fun a x => put a x.anchor true) (fun a => a) (fun _ _ => True) (step := step) (fun i x a hi hx _ => hs i x a hi hx) (fun _ _ _ _ _ _ => trivial) (fun a _ => he a) (a0 := []) trivial
 refine ⟨_, h1, ?_⟩
 have key : ∀ (l : List Paragraph) (m : List (Int × Bool)) (S : Int → Prop), Met m S → Met (l.foldl (fun a x => put a x.anchor true) m) (fun k => S k ∨ ∃ p ∈ l, p.anchor = k) := by
  intro l
  induction l with
  | nil => intro m S h; exact h.iff fun k => by simp
  | cons x l ih =>
   intro m S h
   refine (ih _ _ (h.put x.anchor)).iff fun k => ?_
   simp only [List.mem_cons, exists_eq_or_imp]
   constructor
   ·rintro ((rfl | h) | h)
    ·exact .inr (.inl rfl)
    ·exact .inl h
    ·exact .inr (.inr h)
   ·rintro (h | rfl | h)
    ·exact .inl (.inr h)
    ·exact .inl (.inl rfl)
    ·exact .inr h
 exact (key (allP v) [] _ Met.nil).iff fun k => by simp
end T10
namespace T10
open Go Go.Proofs Pk
theorem Less_iff {a b : Erratum} : Less a b = true ↔ a.day < b.day ∨ (a.day = b.day ∧ a.number < b.number) := by simp [Less]
theorem Less_irr (a : Erratum) : Less a a = false := by simp [Less]
theorem Less_tr {a b c : Erratum} (h : Less a b = true) (k : Less b c = true) : Less a c = true := by
 rw [Less_iff] at *; omega
theorem Less_as {a b : Erratum} (h : Less a b = true) : Less b a = false := by
 cases hb : Less b a with
 | false => rfl
 | true => rw [Less_iff] at *; omega
theorem Less_tot {a b : Erratum} (h : a.number ≠ b.number) : Less a b = true ∨ Less b a = true := by
 rw [Less_iff, Less_iff]; omega
def insE (x : Erratum) : List Erratum → List Erratum
 | [] => [x]
 | y :: l => if Less x y then x :: y :: l else y :: insE x l
def sortE : List Erratum → List Erratum
 | [] => []
 | x :: l => insE x (sortE l)
theorem insE_perm (x : Erratum) : ∀ l, (insE x l).Perm (x :: l)
 | [] => .refl _
 | y :: l => by
  unfold insE
  split
  ·exact .refl _
  ·exact ((insE_perm x l).cons y).trans (.swap _ _ _)
theorem sortE_perm : ∀ l, (sortE l).Perm l
 | [] => .refl _
 | x :: l => (insE_perm x (sortE l)).trans ((sortE_perm l).cons x)
def Asc (l : List Erratum) : Prop := l.Pairwise (fun a b => Less a b = true)
theorem insE_asc {x : Erratum} : ∀ {l : List Erratum}, Asc l → (∀ y ∈ l, y.number ≠ x.number) → Asc (insE x l)
 | [], _, _ => List.pairwise_singleton _ _
 | y :: l, h, hn => by
  unfold insE
  obtain ⟨h1, h2⟩ := List.pairwise_cons.1 h
  split
  ·rename_i hl
   exact List.pairwise_cons.2 ⟨fun z hz => by
    rcases List.mem_cons.1 hz with rfl | hz
    ·exact hl
    ·exact Less_tr hl (h1 z hz), h⟩
  ·rename_i hl
   refine List.pairwise_cons.2 ⟨fun z hz => ?_, insE_asc h2 (fun z hz => hn z (List.mem_cons_of_mem _ hz))⟩
   rcases List.mem_cons.1 ((insE_perm x l).subset hz) with rfl | hz
   ·rcases Less_tot (hn y List.mem_cons_self) with h | h
    ·exact h
    ·exact absurd h hl
   ·exact h1 z hz
theorem sortE_asc : ∀ {l : List Erratum}, (l.map (·.number)).Nodup → Asc (sortE l)
 | [], _ => List.Pairwise.nil
 | x :: l, h => by
  simp only [List.map_cons, List.nodup_cons, List.mem_map, not_exists, not_and] at h
  exact insE_asc (sortE_asc h.2) (fun y hy => h.1 y ((sortE_perm l).subset hy))
theorem e130 (x y : Int) : m130 x y = some (if x < y then -1 else if y < x then 1 else 0) := by
 unfold m130 m171
 simp only [Option.bind_some, ne_eq, not_true_eq_false, decide_false, Bool.false_eq_true, if_false]
 by_cases h : x < y
 ·rw [if_pos h, if_pos h]
 ·rw [if_neg h, if_neg h]
  by_cases h2 : y < x
  ·rw [if_pos h2, if_pos h2]
  ·rw [if_neg h2, if_neg h2]
theorem e129 (a b : Int) : m129 [a, b] = some (if a ≠ 0 then a else b) := by
 have h0 : m129_1 [a, b] 0 = if a ≠ 0 then some (.inr (.inr a)) else some (.inl 1) := by unfold m129_1; simp
 have h1 : m129_1 [a, b] 1 = if b ≠ 0 then some (.inr (.inr b)) else some (.inl 2) := by unfold m129_1; simp
 have h2 : m129_1 [a, b] 2 = some (.inr (.inl ())) := by unfold m129_1; simp
 unfold m129
 by_cases ha : a = 0
 ·by_cases hb : b = 0
  ·rw [loopO_next (s' := 1) (by rw [h0, if_neg (by simpa using ha)]), loopO_next (s' := 2) (by rw [h1, if_neg (by simpa using hb)]), loopO_out h2]
   simp [ha, hb]
  ·rw [loopO_next (s' := 1) (by rw [h0, if_neg (by simpa using ha)]), loopO_out (e := .inr b) (by rw [h1, if_pos hb])]
   simp [ha]
 ·rw [loopO_out (e := .inr a) (by rw [h0, if_pos ha])]
  simp [ha]
theorem e88 (a b : Erratum) : ∃ c, m88 a b = some c ∧ (c < 0 ↔ Less a b = true) := by
 unfold m88
 simp only [e130, Option.bind_some, e129]
 refine ⟨_, rfl, ?_⟩
 rw [Less_iff]
 by_cases h1 : a.day < b.day
 ·simp [h1]
 ·by_cases h2 : b.day < a.day
  ·simp [h1, h2]; omega
  ·simp only [h1, h2, if_false, ne_eq, not_true_eq_false]
   by_cases h3 : a.number < b.number
   ·simp [h3]; omega
   ·by_cases h4 : b.number < a.number
    ·simp [h3, h4]
    ·simp [h3, h4]
theorem sort_es {es : List Erratum} (hl : es.length ≤ 1073741824) (h : (es.map (·.number)).Nodup) : sortO m88 es = some (sortE es) := by
 refine sortO_eq Less hl (fun x _ y _ => e88 x y) (fun x _ => Less_irr x) (fun x _ y _ z _ h1 h2 => Less_tr h1 h2) (fun x hx y hy hne => Less_tot fun e => hne ?_) (sortE_perm es) (sortE_asc h)
 obtain ⟨i, hi⟩ := List.getElem?_of_mem hx
 obtain ⟨j, hj⟩ := List.getElem?_of_mem hy
 have h1 : (es.map (·.number))[i]? = some x.number := by rw [List.getElem?_map, hi]; rfl
 have h2 : (es.map (·.number))[j]? = some x.number := by rw [List.getElem?_map, hj]; simp [e]
 have := (List.getElem?_inj (lt_len h1) h).1 (h1.trans h2.symm)
 subst this
 rw [hi] at hj; cases hj; rfl
theorem asc_before {l : List Erratum} (h : Asc l) {i : Nat} {x y : Erratum} (hx : l[i]? = some x) (hy : y ∈ l) (hl : Less y x = true) : ∃ j, j < i ∧ l[j]? = some y := by
 obtain ⟨j, hj⟩ := List.getElem?_of_mem hy
 refine ⟨j, ?_, hj⟩
 rcases Nat.lt_trichotomy j i with h1 | h1 | h1
 ·exact h1
 ·subst h1; rw [hx] at hj; cases hj; rw [Less_irr] at hl; cases hl
 ·have := List.pairwise_iff_getElem.1 h i j (lt_len hx) (lt_len hj) h1
  rw [List.getElem?_eq_getElem (lt_len hx)] at hx
  rw [List.getElem?_eq_getElem (lt_len hj)] at hj
  rw [Option.some.inj hx, Option.some.inj hj] at this
  rw [Less_as this] at hl; cases hl
theorem right_day {x : Erratum} (h : right x = true) : 0 ≤ x.day ∧ x.day ≤ 99999 := by
 unfold right at h
 simp only [Bool.and_eq_true] at h
 exact In_iff.1 h.1.1.2
theorem e54 {v : Volume} {es : List Erratum} (h : Ok v es) : m54 v es = some 0 := by
 obtain ⟨m, hm, hM⟩ := seenP (v := v) (step := m54_1 (allP v)) (fun i x a hi hx => by
  unfold m54_1; rw [if_pos (by omega)]; simp only [hx, Option.bind_some]) (fun a => by unfold m54_1; simp)
 have hasc : Asc (sortE es) := sortE_asc h.err.once
 have hlen : (sortE es).length = es.length := (sortE_perm es).length_eq
 have hl20 := h.err.few
 have h1 := loop_l (sortE es) (fun _ x a => Sum.inl (if x.kind = 2 then put a x.new_ true else a)) (fun a => (Sum.inl a : List (Int × Bool) ⊕ (List (Int × Bool) ⊕ (Nat × List (Int × Bool))))) (fun i a => Met a (fun k => (∃ p ∈ allP v, p.anchor = k) ∨ ∃ j y, j < i ∧ (sortE es)[j]? = some y ∧ y.kind = 2 ∧ y.new_ = k)) (step := m54_2 es (sortE es)) (fun i x a hi hx ha => by
  have hx' : x ∈ es := (sortE_perm es).subset (List.mem_of_getElem? hx)
  have hd := right_day (h.err.right x hx')
  unfold m54_2
  rw [if_pos (by simp only []; omega)]
  simp only [hx, Option.bind_some]
  rw [if_neg (by omega), if_pos]
  ·by_cases k : x.kind = 2 <;> simp [k]
  ·refine (ha x.anchor).2 ?_
   rcases h.err.there x hx' with h1 | ⟨y, hy, k, e, hl⟩
   ·exact .inl h1
   ·obtain ⟨j, hj, hjy⟩ := asc_before hasc hx ((sortE_perm es).symm.subset hy) hl
    exact .inr ⟨j, y, hj, hjy, k, e⟩) (fun i x a a' hi hx ha hg => by
  simp only [Sum.inl.injEq] at hg
  rw [← hg]
  by_cases k : x.kind = 2
  ·rw [if_pos k]
   refine (ha.put x.new_).iff fun q => ⟨?_, ?_⟩
   ·rintro (rfl | h | ⟨j, y, hj, hy⟩)
    ·exact .inr ⟨i, x, by omega, hx, k, rfl⟩
    ·exact .inl h
    ·exact .inr ⟨j, y, by omega, hy⟩
   ·rintro (h | ⟨j, y, hj, hy, k', e⟩)
    ·exact .inr (.inl h)
    ·by_cases hji : j = i
     ·subst hji; rw [hx] at hy; cases hy; exact .inl e.symm
     ·exact .inr (.inr ⟨j, y, by omega, hy, k', e⟩)
  ·rw [if_neg k]
   refine ha.iff fun q => ⟨?_, ?_⟩
   ·rintro (h | ⟨j, y, hj, hy⟩)
    ·exact .inl h
    ·exact .inr ⟨j, y, by omega, hy⟩
   ·rintro (h | ⟨j, y, hj, hy, k', e⟩)
    ·exact .inl h
    ·by_cases hji : j = i
     ·subst hji; rw [hx] at hy; cases hy; exact absurd k' k
     ·exact .inr ⟨j, y, by omega, hy, k', e⟩) (fun a ha => by unfold m54_2; simp [hlen]) (a0 := m) (hM.iff fun k => ⟨.inl, fun h => h.elim id fun ⟨j, _, hj, _⟩ => absurd hj (Nat.not_lt_zero _)⟩)
 unfold m54
 rw [e53 h.few.all, Option.bind_some, hm, Option.bind_some, chk_t (by simp; omega)]
 simp only [List.nil_append, Option.bind_some, sort_es (by omega : es.length ≤ 1073741824) h.err.once, h1, goL_fold]
theorem e33 {v : Volume} {es : List Erratum} (h : Ok v es) : m33 v es = some 0 := by
 obtain ⟨m, hm, hM⟩ := seenP (v := v) (step := m33_1 (allP v)) (fun i x a hi hx => by
  unfold m33_1; rw [if_pos (by omega)]; simp only [hx, Option.bind_some]) (fun a => by unfold m33_1; simp)
 have h1 := loop_l es (fun _ x (a : List (Int × Bool) × List (Int × Bool)) => Sum.inl (put a.1 x.number true, if x.kind = 2 then put a.2 x.new_ true else a.2)) (fun a => (Sum.inl a : (List (Int × Bool) × List (Int × Bool)) ⊕ Int)) (fun i a => Met a.1 (fun k => ∃ j y, j < i ∧ es[j]? = some y ∧ y.number = k) ∧ Met a.2 (fun k => (∃ p ∈ allP v, p.anchor = k) ∨ ∃ j y, j < i ∧ es[j]? = some y ∧ y.kind = 2 ∧ y.new_ = k)) (step := m33_2 es) (fun i x a hi hx ha => by
  have n1 : ¬ (lkp a.1 x.number).getD false = true := fun c => once_ne h.err.once hx ((ha.1 _).1 c)
  have n2 : x.kind = 2 → ¬ (lkp a.2 x.new_).getD false = true := fun k c => by
   rcases (ha.2 _).1 c with ⟨p, hp, e⟩ | ⟨j, y, hj, hy, k', e⟩
   ·exact h.err.fresh x (List.mem_of_getElem? hx) k p hp e
   ·exact h.err.news i j x y hx hy (by omega) k k' e
  unfold m33_2
  rw [if_pos (by simp only []; omega)]
  simp only [hx, Option.bind_some]
  rw [if_neg n1]
  by_cases k : x.kind = 2
  ·simp only [k, if_true, Option.bind_some]
   rw [if_neg (n2 k)]
  ·simp [k]) (fun i x a a' hi hx ha hg => by
  simp only [Sum.inl.injEq] at hg
  subst hg
  refine ⟨(ha.1.put x.number).iff fun q => ⟨?_, ?_⟩, ?_⟩
  ·rintro (rfl | ⟨j, y, hj, hy⟩)
   ·exact ⟨i, x, by omega, hx, rfl⟩
   ·exact ⟨j, y, by omega, hy⟩
  ·rintro ⟨j, y, hj, hy, e⟩
   by_cases hji : j = i
   ·subst hji; rw [hx] at hy; cases hy; exact .inl e.symm
   ·exact .inr ⟨j, y, by omega, hy, e⟩
  ·by_cases k : x.kind = 2
   ·simp only [k, if_true]
    refine (ha.2.put x.new_).iff fun q => ⟨?_, ?_⟩
    ·rintro (rfl | h | ⟨j, y, hj, hy⟩)
     ·exact .inr ⟨i, x, by omega, hx, k, rfl⟩
     ·exact .inl h
     ·exact .inr ⟨j, y, by omega, hy⟩
    ·rintro (h | ⟨j, y, hj, hy, k', e⟩)
     ·exact .inr (.inl h)
     ·by_cases hji : j = i
      ·subst hji; rw [hx] at hy; cases hy; exact .inl e.symm
      ·exact .inr (.inr ⟨j, y, by omega, hy, k', e⟩)
   ·simp only [k, if_false]
    refine ha.2.iff fun q => ⟨?_, ?_⟩
    ·rintro (h | ⟨j, y, hj, hy⟩)
     ·exact .inl h
     ·exact .inr ⟨j, y, by omega, hy⟩
    ·rintro (h | ⟨j, y, hj, hy, k', e⟩)
     ·exact .inl h
     ·by_cases hji : j = i
      ·subst hji; rw [hx] at hy; cases hy; exact absurd k' k
      ·exact .inr ⟨j, y, by omega, hy, k', e⟩) (fun a ha => by unfold m33_2; simp) (a0 := (([] : List (Int × Bool)), m)) ⟨Met.nil.iff fun k => ⟨False.elim, fun ⟨j, _, hj, _⟩ => absurd hj (Nat.not_lt_zero _)⟩, hM.iff fun k => ⟨.inl, fun h => h.elim id fun ⟨j, _, hj, _⟩ => absurd hj (Nat.not_lt_zero _)⟩⟩
 unfold m33
 rw [e50 h, Option.bind_some, if_neg (by simp), if_neg (by have := h.err.few; omega), e51 h]
 simp only [Option.bind_some, if_true, e53 h.few.all, hm, h1, goL_fold, e54 h]
end T10
namespace T10
open Go Go.Proofs Pk
theorem loop_find {α ε σ : Type} (f : Nat → σ) (l : List α) (g : Nat → α → Option ε) (out : ε) {step : σ → Option (σ ⊕ ε)}
  (hs : ∀ i x, i < l.length → l[i]? = some x → step (f i) = some (match g i x with | none => .inl (f (i + 1)) | some e => .inr e)) (he : step (f l.length) = some (.inr out)) : loopO step (f 0) = some (goN g out l 0) := by
 have key : ∀ k i, l.length - i = k → i ≤ l.length → loopO step (f i) = some (goN g out (l.drop i) i) := by
  intro k
  induction k with
  | zero =>
   intro i hk hi
   obtain rfl : i = l.length := by omega
   rw [loopO_out he, List.drop_length]; rfl
  | succ k ih =>
   intro i hk hi
   have hlt : i < l.length := by omega
   have h1 := hs i _ hlt (List.getElem?_eq_getElem hlt)
   rw [List.drop_eq_getElem_cons hlt]
   unfold goN
   cases hg : g i l[i] with
   | none => rw [hg] at h1; rw [loopO_next h1, ih (i + 1) (by omega) (by omega)]
   | some e => rw [hg] at h1; rw [loopO_out h1]
 simpa using key l.length 0 (by omega) (by omega)
theorem goN_no {α ε : Type} {g : Nat → α → Option ε} {out : ε} : ∀ {l : List α} {i : Nat}, (∀ j y, l[j]? = some y → g (i + j) y = none) → goN g out l i = out
 | [], _, _ => rfl
 | x :: l, i, h => by
  have h0 := h 0 x rfl
  simp only [Nat.add_zero] at h0
  unfold goN
  rw [h0]
  exact goN_no (fun j y hy => by have := h (j + 1) y (by simpa using hy); rwa [show i + (j + 1) = i + 1 + j by omega] at this)
theorem goN_at {α ε : Type} {g : Nat → α → Option ε} {out e : ε} : ∀ {l : List α} {i k : Nat} {x : α}, l[k]? = some x → g (i + k) x = some e → (∀ j y, j < k → l[j]? = some y → g (i + j) y = none) → goN g out l i = e
 | [], _, _, _, h, _, _ => by simp at h
 | x :: l, i, 0, z, h, hg, _ => by
  simp at h; subst h
  unfold goN
  simp only [Nat.add_zero] at hg
  rw [hg]
 | x :: l, i, k + 1, z, h, hg, hn => by
  have h0 := hn 0 x (by omega) rfl
  simp only [Nat.add_zero] at h0
  unfold goN
  rw [h0]
  exact goN_at (k := k) (by simpa using h) (by rwa [show i + (k + 1) = i + 1 + k by omega] at hg) (fun j y hj hy => by have := hn (j + 1) y (by omega) (by simpa using hy); rwa [show i + (j + 1) = i + 1 + j by omega] at this)
def upd (x : Erratum) (e : entry) : List entry :=
 if e.paragraph.anchor = x.anchor then
  if x.kind = 0 then [if e.removed then e else ⟨⟨e.paragraph.anchor, x.text⟩, e.removed⟩]
  else if x.kind = 1 then [⟨e.paragraph, true⟩]
  else [e, ⟨⟨x.new_, x.text⟩, false⟩]
 else [e]
abbrev Grd := List (List entry)
def stepG (x : Erratum) (g : Grd) : Grd := g.map (·.flatMap (upd x))
def initG (v : Volume) : Grd := v.parts.map fun p => p.paragraphs.map fun x => ⟨x, false⟩
def upto (es : List Erratum) (d : Int) : List Erratum := (sortE es).takeWhile fun x => decide (x.day ≤ d)
def after (v : Volume) (es : List Erratum) (d : Int) : Grd := (upto es d).foldl (fun g x => stepG x g) (initG v)
abbrev ank (l : List entry) : List Int := l.map (·.paragraph.anchor)
theorem upd_no {x : Erratum} {l : List entry} (h : x.anchor ∉ ank l) : l.flatMap (upd x) = l := by
 induction l with
 | nil => rfl
 | cons e l ih =>
  simp only [ank, List.map_cons, List.mem_cons, not_or] at h
  rw [List.flatMap_cons, ih h.2]
  unfold upd
  rw [if_neg (fun c => h.1 c.symm)]
  rfl
theorem upd_at {x : Erratum} {l : List entry} (hn : (ank l).Nodup) {k : Nat} {e : entry} (he : l[k]? = some e) (ha : e.paragraph.anchor = x.anchor) : l.flatMap (upd x) = l.take k ++ upd x e ++ l.drop (k + 1) := by
 induction l generalizing k with
 | nil => simp at he
 | cons y l ih =>
  simp only [ank, List.map_cons, List.nodup_cons] at hn
  cases k with
  | zero =>
   simp at he; subst he
   rw [List.flatMap_cons, upd_no (by rw [← ha]; exact hn.1)]
   simp
  | succ k =>
   have he' : l[k]? = some e := by simpa using he
   have hne : y.paragraph.anchor ≠ x.anchor := fun c => hn.1 (by rw [c, ← ha]; exact List.mem_map.2 ⟨e, List.mem_of_getElem? he', rfl⟩)
   rw [List.flatMap_cons, ih hn.2 he']
   unfold upd
   rw [if_neg hne]
   simp
theorem stepG_flat (x : Erratum) (g : Grd) : (stepG x g).flatten = g.flatten.flatMap (upd x) := by
 unfold stepG
 induction g with
 | nil => rfl
 | cons l g ih => simp [ih]
theorem nodup_part {g : Grd} (h : (ank g.flatten).Nodup) {i : Nat} {l : List entry} (hl : g[i]? = some l) : (ank l).Nodup := by
 have hm := List.mem_of_getElem? hl
 have : l.Sublist g.flatten := List.sublist_flatten_of_mem hm
 exact (this.map _).nodup h
theorem nodup_where {g : Grd} (h : (ank g.flatten).Nodup) {i j : Nat} {l m : List entry} (hl : g[i]? = some l) (hm : g[j]? = some m) {a : Int} (h1 : a ∈ ank l) (h2 : a ∈ ank m) : i = j := by
 induction g generalizing i j with
 | nil => simp at hl
 | cons y g ih =>
  simp only [ank, List.flatten_cons, List.map_append, List.nodup_append] at h
  obtain ⟨_, h4, h5⟩ := h
  cases i with
  | zero =>
   cases j with
   | zero => rfl
   | succ j =>
    simp at hl hm; subst hl
    refine absurd rfl (h5 a h1 a ?_)
    obtain ⟨e, he, rfl⟩ := List.mem_map.1 h2
    exact List.mem_map.2 ⟨e, List.mem_flatten.2 ⟨m, List.mem_of_getElem? hm, he⟩, rfl⟩
  | succ i =>
   cases j with
   | zero =>
    simp at hl hm; subst hm
    refine absurd rfl (h5 a h2 a ?_)
    obtain ⟨e, he, rfl⟩ := List.mem_map.1 h1
    exact List.mem_map.2 ⟨e, List.mem_flatten.2 ⟨l, List.mem_of_getElem? hl, he⟩, rfl⟩
   | succ j => exact congrArg Nat.succ (ih h4 (i := i) (j := j) (by simpa using hl) (by simpa using hm))
theorem nodup_at {l : List entry} (h : (ank l).Nodup) {i j : Nat} {e f : entry} (he : l[i]? = some e) (hf : l[j]? = some f) (ha : e.paragraph.anchor = f.paragraph.anchor) : i = j := by
 have h1 : (ank l)[i]? = some e.paragraph.anchor := by rw [List.getElem?_map, he]; rfl
 have h2 : (ank l)[j]? = some e.paragraph.anchor := by rw [List.getElem?_map, hf]; simp [ha]
 exact (List.getElem?_inj (lt_len h1) h).1 (h1.trans h2.symm)
theorem stepG_at {x : Erratum} {g : Grd} (h : (ank g.flatten).Nodup) {i k : Nat} {l : List entry} {e : entry} (hl : g[i]? = some l) (he : l[k]? = some e) (ha : e.paragraph.anchor = x.anchor) : stepG x g = g.set i (l.take k ++ upd x e ++ l.drop (k + 1)) := by
 have hx : x.anchor ∈ ank l := List.mem_map.2 ⟨e, List.mem_of_getElem? he, ha⟩
 apply List.ext_getElem?
 intro j
 unfold stepG
 rw [List.getElem?_map]
 by_cases hij : i = j
 ·subst hij
  rw [List.getElem?_set_self (lt_len hl), hl]
  simp only [Option.map_some]
  rw [upd_at (nodup_part h hl) he ha]
 ·rw [List.getElem?_set_ne hij]
  cases hm : g[j]? with
  | none => rfl
  | some m =>
   simp only [Option.map_some]
   rw [upd_no (fun c => hij (nodup_where h hl hm hx c))]
theorem stepG_no {x : Erratum} {g : Grd} (h : x.anchor ∉ ank g.flatten) : stepG x g = g := by
 apply List.ext_getElem?
 intro j
 unfold stepG
 rw [List.getElem?_map]
 cases hm : g[j]? with
 | none => rfl
 | some m =>
  simp only [Option.map_some]
  rw [upd_no (fun c => h ?_)]
  obtain ⟨e, he, ha⟩ := List.mem_map.1 c
  exact List.mem_map.2 ⟨e, List.mem_flatten.2 ⟨m, List.mem_of_getElem? hm, he⟩, ha⟩
theorem upd_ank {x : Erratum} (hk : x.kind = 0 ∨ x.kind = 1 ∨ x.kind = 2) : ∀ {l : List entry}, (ank l).Nodup → (x.kind = 2 → x.new_ ∉ ank l) → (ank (l.flatMap (upd x))).Nodup ∧ (∀ a ∈ ank (l.flatMap (upd x)), a ∈ ank l ∨ (x.kind = 2 ∧ a = x.new_)) ∧ (∀ a ∈ ank l, a ∈ ank (l.flatMap (upd x)))
 | [], _, _ => by simp [ank]
 | e :: l, h, hn => by
  simp only [ank, List.map_cons, List.nodup_cons] at h
  have hn' : x.kind = 2 → x.new_ ∉ ank l := fun k c => hn k (List.mem_cons_of_mem _ c)
  have hne : x.kind = 2 → x.new_ ≠ e.paragraph.anchor := fun k c => hn k (by rw [c]; exact List.mem_cons_self)
  obtain ⟨i1, i2, i3⟩ := upd_ank hk h.2 hn'
  by_cases ha : e.paragraph.anchor = x.anchor
  ·have hno : l.flatMap (upd x) = l := upd_no (by rw [← ha]; exact h.1)
   rw [List.flatMap_cons, hno]
   unfold upd
   rw [if_pos ha]
   rcases hk with k | k | k
   ·rw [if_pos k]
    have e1 : ank ([if e.removed then e else ⟨⟨e.paragraph.anchor, x.text⟩, e.removed⟩] ++ l) = ank (e :: l) := by cases hr : e.removed <;> simp [ank]
    rw [e1]; exact ⟨List.nodup_cons.2 h, fun a ha' => .inl ha', fun a ha' => ha'⟩
   ·rw [if_neg (by omega), if_pos k]
    have e1 : ank ([⟨e.paragraph, true⟩] ++ l) = ank (e :: l) := by simp [ank]
    rw [e1]; exact ⟨List.nodup_cons.2 h, fun a ha' => .inl ha', fun a ha' => ha'⟩
   ·rw [if_neg (by omega), if_neg (by omega)]
    refine ⟨?_, ?_, ?_⟩
    ·simp only [ank, List.map_append, List.map_cons, List.map_nil, List.cons_append, List.nil_append, List.nodup_cons, List.mem_cons, not_or]
     exact ⟨⟨fun c => hne k c.symm, h.1⟩, hn' k, h.2⟩
    ·intro a ha'
     simp only [ank, List.map_append, List.map_cons, List.map_nil, List.cons_append, List.nil_append, List.mem_cons] at ha' ⊢
     rcases ha' with h1 | h1 | h1
     ·exact .inl (.inl h1)
     ·exact .inr ⟨k, h1⟩
     ·exact .inl (.inr h1)
    ·intro a ha'
     simp only [ank, List.map_append, List.map_cons, List.map_nil, List.cons_append, List.nil_append, List.mem_cons] at ha' ⊢
     exact ha'.imp id .inr
  ·rw [List.flatMap_cons]
   have : upd x e = [e] := by unfold upd; rw [if_neg ha]
   rw [this]
   simp only [ank, List.cons_append, List.nil_append, List.map_cons, List.nodup_cons, List.mem_cons]
   refine ⟨⟨fun c => ?_, i1⟩, ?_, ?_⟩
   ·rcases i2 _ c with h1 | ⟨k, h1⟩
    ·exact h.1 h1
    ·exact hne k h1.symm
   ·rintro a (h1 | h1)
    ·exact .inl (.inl h1)
    ·exact (i2 a h1).imp .inr id
   ·rintro a (h1 | h1)
    ·exact .inl h1
    ·exact .inr (i3 a h1)
end T10
namespace T10
open Go Go.Proofs Pk
def Place' (g : Grd) (a : Int) (r : Nat × Nat × Bool) : Prop := (r = (0, 0, false) ∧ a ∉ ank g.flatten) ∨ ∃ (i k : Nat) (l : List entry) (e : entry), r = (i, k, true) ∧ g[i]? = some l ∧ l[k]? = some e ∧ e.paragraph.anchor = a
theorem ank_flat {g : Grd} {a : Int} : a ∈ ank g.flatten ↔ ∃ (i k : Nat) (l : List entry) (e : entry), g[i]? = some l ∧ l[k]? = some e ∧ e.paragraph.anchor = a := by
 constructor
 ·intro h
  obtain ⟨e, he, ha⟩ := List.mem_map.1 h
  obtain ⟨l, hl, he⟩ := List.mem_flatten.1 he
  obtain ⟨i, hi⟩ := List.getElem?_of_mem hl
  obtain ⟨k, hk⟩ := List.getElem?_of_mem he
  exact ⟨i, k, l, e, hi, hk, ha⟩
 ·rintro ⟨i, k, l, e, hi, hk, ha⟩
  exact List.mem_map.2 ⟨e, List.mem_flatten.2 ⟨l, List.mem_of_getElem? hi, List.mem_of_getElem? hk⟩, ha⟩
theorem look {g : Grd} {a : Int} (hn : (ank g.flatten).Nodup) {inner : Nat → List entry → Option ((Nat × Nat × Bool) ⊕ ((Nat × Nat × Nat × Bool) ⊕ (Nat × Nat × Bool)))} {outer : Nat × Nat × Nat × Bool → Option ((Nat × Nat × Nat × Bool) ⊕ (Nat × Nat × Bool))}
  (hi : ∀ i l, g[i]? = some l → inner i l = some (goN (fun k (e : entry) => if e.paragraph.anchor = a then some (.inr (.inr (i, k, true))) else none) (.inl (0, 0, false)) l 0))
  (ho : ∀ i l, g[i]? = some l → outer (0, 0, i, false) = (inner i l).bind fun e => match e with | .inr z => some z | .inl t => some (.inl (t.1, t.2.1, i + 1, t.2.2)))
  (he : outer (0, 0, g.length, false) = some (.inr (0, 0, false))) : ∃ r, loopO outer (0, 0, 0, false) = some r ∧ Place' g a r := by
 have hin : ∀ i l, g[i]? = some l → a ∉ ank l → inner i l = some (.inl (0, 0, false)) := fun i l hl hno => by
  rw [hi i l hl, goN_no]
  intro j y hy
  rw [if_neg]
  exact fun c => hno (List.mem_map.2 ⟨y, List.mem_of_getElem? hy, c⟩)
 by_cases h : a ∈ ank g.flatten
 ·obtain ⟨i, k, l, e, hl, hk, ha⟩ := ank_flat.1 h
  have hal : a ∈ ank l := List.mem_map.2 ⟨e, List.mem_of_getElem? hk, ha⟩
  have h1 : inner i l = some (.inr (.inr (i, k, true))) := by
   rw [hi i l hl]
   congr 1
   refine goN_at hk (by simp [ha]) (fun j y hj hy => ?_)
   rw [if_neg]
   exact fun c => by have := nodup_at (nodup_part hn hl) hy hk (c.trans ha.symm); omega
  have := loop_find (fun i => ((0 : Nat), (0 : Nat), i, false)) g (fun j m => if j = i then some (i, k, true) else none) ((0 : Nat), (0 : Nat), false) (step := outer) (fun j m hj hm => by
   rw [ho j m hm]
   by_cases e : j = i
   ·subst e; rw [hl] at hm; cases hm
    rw [h1]; simp
   ·rw [hin j m hm (fun c => e (nodup_where hn hm hl c hal))]; simp [e]) he
  refine ⟨_, this, .inr ⟨i, k, l, e, ?_, hl, hk, ha⟩⟩
  refine goN_at hl (by simp) (fun j y hj hy => ?_)
  rw [if_neg (by omega)]
 ·have := loop_find (fun i => ((0 : Nat), (0 : Nat), i, false)) g (fun _ _ => none) ((0 : Nat), (0 : Nat), false) (step := outer) (fun j m hj hm => by
   rw [ho j m hm, hin j m hm (fun c => h ?_)]
   ·rfl
   ·obtain ⟨e, he, ha⟩ := List.mem_map.1 c
    exact List.mem_map.2 ⟨e, List.mem_flatten.2 ⟨m, List.mem_of_getElem? hm, he⟩, ha⟩) he
  refine ⟨_, this, .inl ⟨goN_no fun _ _ _ => rfl, h⟩⟩
theorem flat_len1 {g : Grd} {i : Nat} {l : List entry} (hl : g[i]? = some l) : l.length ≤ g.flatten.length := (List.sublist_flatten_of_mem (List.mem_of_getElem? hl)).length_le
theorem look35 {g : Grd} {x : Erratum} {q : Nat} (hn : (ank g.flatten).Nodup) (hb : g.flatten.length ≤ 1000000) (hg : g.length ≤ 1000000) : ∃ r, loopO (m35_4 (q, g) x) (0, 0, 0, false) = some r ∧ Place' g x.anchor r := by
 refine look hn (inner := fun i l => loopO (m35_5 l x (0, 0, i, false)) (0, 0, 0, false)) (fun i l hl => ?_) (fun i l hl => ?_) ?_
 ·have hll := flat_len1 hl
  refine loop_find (fun k => ((0 : Nat), (0 : Nat), k, false)) l _ _ (fun k e hk he => ?_) (by unfold m35_5; simp)
  unfold m35_5
  simp only []
  rw [if_pos (by omega), he, Option.bind_some]
  by_cases c : e.paragraph.anchor = x.anchor
  ·rw [if_pos c]; simp [c]
  ·rw [if_neg c, chk_t (by omega)]; simp [c]
 ·have := lt_len hl
  unfold m35_4
  simp only []
  rw [if_pos (by omega), hl, Option.bind_some]
  rcases loopO (m35_5 l x (0, 0, i, false)) (0, 0, 0, false) with _ | (t | z)
  ·rfl
  ·simp only [Option.bind_some]; rw [chk_t (by omega)]
  ·rfl
 ·unfold m35_4; simp
theorem look23 {v : Volume} {g : Grd} {a : Int} (hn : (ank g.flatten).Nodup) : ∃ r, loopO (m37_1 ⟨v, g⟩ a) (0, 0, 0, false) = some r ∧ Place' g a r := by
 refine look hn (inner := fun i l => loopO (m37_2 l a (0, 0, i, false)) (0, 0, 0, false)) (fun i l hl => ?_) (fun i l hl => ?_) ?_
 ·refine loop_find (fun k => ((0 : Nat), (0 : Nat), k, false)) l _ _ (fun k e hk he => ?_) (by unfold m37_2; simp)
  unfold m37_2
  simp only []
  rw [if_pos (by omega), he, Option.bind_some]
  by_cases c : e.paragraph.anchor = a
  ·rw [if_pos c]; simp [c]
  ·rw [if_neg c]; simp [c]
 ·have := lt_len hl
  unfold m37_1
  simp only []
  rw [if_pos (by omega), hl, Option.bind_some]
  rcases loopO (m37_2 l a (0, 0, i, false)) (0, 0, 0, false) with _ | (t | z) <;> rfl
 ·unfold m37_1; simp
structure Inv (v : Volume) (es : List Erratum) (n : Nat) (g : Grd) : Prop where
 once : (ank g.flatten).Nodup
 len : g.flatten.length ≤ 30 + n
 rows : g.length = v.parts.length
 of : ∀ a ∈ ank g.flatten, (∃ p ∈ allP v, p.anchor = a) ∨ ∃ y ∈ (sortE es).take n, y.kind = 2 ∧ y.new_ = a
theorem init_flat (v : Volume) : (initG v).flatten = (allP v).map fun x => ⟨x, false⟩ := by
 unfold initG allP
 rw [List.flatMap_def, List.map_flatten, List.map_map]; rfl
theorem inv_init {v : Volume} {es : List Erratum} (h : Ok v es) : Inv v es 0 (initG v) := by
 have e1 : ank (initG v).flatten = (allP v).map (·.anchor) := by rw [init_flat, ank, List.map_map]; rfl
 refine ⟨by rw [e1]; exact h.vol.once, by rw [init_flat, List.length_map]; exact h.vol.pars, by simp [initG], fun a ha => ?_⟩
 rw [e1] at ha
 obtain ⟨p, hp, e⟩ := List.mem_map.1 ha
 exact .inl ⟨p, hp, e⟩
theorem right_kind {x : Erratum} (h : right x = true) : x.kind = 0 ∨ x.kind = 1 ∨ x.kind = 2 := by
 unfold right at h
 simp only [Bool.and_eq_true] at h
 obtain ⟨_, h⟩ := h
 by_cases k0 : x.kind = 0
 ·exact .inl k0
 ·rw [if_neg k0] at h
  by_cases k1 : x.kind = 1
  ·exact .inr (.inl k1)
  ·rw [if_neg k1] at h
   simp only [Bool.and_eq_true, decide_eq_true_eq] at h
   exact .inr (.inr h.1.1)
theorem mem_sort {es : List Erratum} {x : Erratum} : x ∈ sortE es ↔ x ∈ es := (sortE_perm es).mem_iff
theorem news_ne {v : Volume} {es : List Erratum} (h : Ok v es) {x y : Erratum} (hx : x ∈ es) (hy : y ∈ es) (hne : x.number ≠ y.number) (k1 : x.kind = 2) (k2 : y.kind = 2) : y.new_ ≠ x.new_ := by
 obtain ⟨i, hi⟩ := List.getElem?_of_mem hx
 obtain ⟨j, hj⟩ := List.getElem?_of_mem hy
 refine h.err.news i j x y hi hj (fun e => ?_) k1 k2
 subst e; rw [hi] at hj; cases hj; exact hne rfl
theorem upd_len {x : Erratum} {e : entry} : (upd x e).length ≤ 2 := by
 unfold upd; split
 ·split
  ·simp
  ·split <;> simp
 ·simp
theorem inv_step {v : Volume} {es : List Erratum} (h : Ok v es) {n : Nat} {x : Erratum} (hx : (sortE es)[n]? = some x) {g : Grd} (hi : Inv v es n g) : Inv v es (n + 1) (stepG x g) := by
 have hxe : x ∈ es := mem_sort.1 (List.mem_of_getElem? hx)
 have hk := right_kind (h.err.right x hxe)
 have hasc : Asc (sortE es) := sortE_asc h.err.once
 have hfresh : x.kind = 2 → x.new_ ∉ ank g.flatten := fun k c => by
  rcases hi.of _ c with ⟨p, hp, e⟩ | ⟨y, hy, k', e⟩
  ·exact h.err.fresh x hxe k p hp e
  ·obtain ⟨j, hj⟩ := List.getElem?_of_mem hy
   have hjn : j < n := by have := lt_len hj; rw [List.length_take] at this; omega
   rw [List.getElem?_take_of_lt hjn] at hj
   have hl := List.pairwise_iff_getElem.1 hasc j n (lt_len hj) (lt_len hx) hjn
   rw [List.getElem?_eq_getElem (lt_len hj)] at hj
   have hx' := hx
   rw [List.getElem?_eq_getElem (lt_len hx)] at hx'
   rw [Option.some.inj hj, Option.some.inj hx'] at hl
   have hye : y ∈ es := mem_sort.1 (List.mem_of_mem_take hy)
   refine news_ne h hxe hye (fun c => ?_) k k' e
   obtain ⟨i1, hi1⟩ := List.getElem?_of_mem hxe
   obtain ⟨i2, hi2⟩ := List.getElem?_of_mem hye
   have g1 : (es.map (·.number))[i1]? = some x.number := by rw [List.getElem?_map, hi1]; rfl
   have g2 : (es.map (·.number))[i2]? = some x.number := by rw [List.getElem?_map, hi2]; simp [c]
   have := (List.getElem?_inj (lt_len g1) h.err.once).1 (g1.trans g2.symm)
   subst this
   rw [hi1] at hi2; cases hi2
   rw [Less_irr] at hl; cases hl
 obtain ⟨u1, u2, u3⟩ := upd_ank hk hi.once hfresh
 refine ⟨by rw [stepG_flat]; exact u1, ?_, by unfold stepG; rw [List.length_map]; exact hi.rows, fun a ha => ?_⟩
 ·rw [stepG_flat]
  by_cases hm : x.anchor ∈ ank g.flatten
  ·obtain ⟨e, he, ha⟩ := List.mem_map.1 hm
   obtain ⟨k, hk'⟩ := List.getElem?_of_mem he
   rw [upd_at hi.once hk' ha]
   have := lt_len hk'
   have h2 := upd_len (x := x) (e := e)
   have h3 := hi.len
   simp only [List.length_append, List.length_take, List.length_drop]; omega
  ·rw [upd_no hm]; have := hi.len; omega
 ·rw [stepG_flat] at ha
  rcases u2 a ha with h1 | ⟨k, h1⟩
  ·rcases hi.of a h1 with h2 | ⟨y, hy, hz⟩
   ·exact .inl h2
   ·exact .inr ⟨y, by rw [List.take_succ]; exact List.mem_append_left _ hy, hz⟩
  ·exact .inr ⟨x, by rw [List.take_succ, hx]; simp, k, h1.symm⟩
end T10
namespace T10
open Go Go.Proofs Pk
theorem upto_take (es : List Erratum) (d : Int) : upto es d = (sortE es).take (upto es d).length := by
 unfold upto
 generalize sortE es = l
 induction l with
 | nil => rfl
 | cons x l ih =>
  by_cases c : x.day ≤ d
  ·rw [List.takeWhile_cons_of_pos (by simpa using c)]; simp [← ih]
  ·rw [List.takeWhile_cons_of_neg (by simpa using c)]; simp
def aft (v : Volume) (l : List Erratum) : Grd := l.foldl (fun g x => stepG x g) (initG v)
theorem after_aft (v : Volume) (es : List Erratum) (d : Int) : after v es d = aft v (upto es d) := rfl
theorem aft_app (v : Volume) (l : List Erratum) (x : Erratum) : aft v (l ++ [x]) = stepG x (aft v l) := by unfold aft; rw [List.foldl_append]; rfl
theorem inv_aft {v : Volume} {es : List Erratum} (h : Ok v es) : ∀ n, n ≤ (sortE es).length → Inv v es n (aft v ((sortE es).take n))
 | 0, _ => inv_init h
 | n + 1, hn => by
  have hx : (sortE es)[n]? = some (sortE es)[n] := List.getElem?_eq_getElem (by omega)
  rw [List.take_succ, hx]
  show Inv v es (n + 1) (aft v (_ ++ [_]))
  rw [aft_app]
  exact inv_step h hx (inv_aft h n (by omega))
theorem upto_len {es : List Erratum} {d : Int} : (upto es d).length ≤ (sortE es).length := (List.takeWhile_prefix _).length_le
theorem inv_after {v : Volume} {es : List Erratum} (h : Ok v es) (d : Int) : Inv v es (upto es d).length (after v es d) := by
 rw [after_aft, upto_take]
 have := inv_aft h (upto es d).length upto_len
 rwa [← upto_take] at this ⊢
def findE (g : Grd) (a : Int) : Option entry := g.flatten.find? (fun e => decide (e.paragraph.anchor = a))
theorem mem_eq {l : List entry} (h : (ank l).Nodup) {e f : entry} (he : e ∈ l) (hf : f ∈ l) (ha : e.paragraph.anchor = f.paragraph.anchor) : e = f := by
 obtain ⟨i, hi⟩ := List.getElem?_of_mem he
 obtain ⟨j, hj⟩ := List.getElem?_of_mem hf
 have := nodup_at h hi hj ha
 subst this
 rw [hi] at hj; exact Option.some.inj hj
theorem findE_some {g : Grd} (h : (ank g.flatten).Nodup) {a : Int} {e : entry} : findE g a = some e ↔ e ∈ g.flatten ∧ e.paragraph.anchor = a := by
 constructor
 ·intro hf
  exact ⟨List.mem_of_find?_eq_some hf, by simpa using List.find?_some hf⟩
 ·rintro ⟨he, ha⟩
  cases hf : findE g a with
  | none =>
   have := List.find?_eq_none.1 hf e he
   simp [ha] at this
  | some f =>
   have h1 := List.mem_of_find?_eq_some hf
   have h2 : f.paragraph.anchor = a := by simpa using List.find?_some hf
   rw [mem_eq h h1 he (h2.trans ha.symm)]
theorem findE_none {g : Grd} {a : Int} : findE g a = none ↔ a ∉ ank g.flatten := by
 unfold findE
 rw [List.find?_eq_none]
 constructor
 ·intro h c
  obtain ⟨e, he, ha⟩ := List.mem_map.1 c
  have := h e he
  simp [ha] at this
 ·intro h e he
  simp only [decide_eq_true_eq]
  exact fun c => h (List.mem_map.2 ⟨e, he, c⟩)
def readE (g : Grd) : List Paragraph := (g.flatten.filter (fun e => !e.removed)).map (·.paragraph)
end T10
namespace T10
open Go Go.Proofs Pk
def linesOf (w : Int) (s : Bytes) : Int := ((s.length : Int) + w - 1) / w
def rowP (H W day col : Int) : Int → Int → List entry → List printed
 | _, _, [] => []
 | li, no, e :: l => if e.removed then rowP H W day col li no l else ⟨⟨e.paragraph.anchor, col + li / H, li % H + 1, linesOf W e.paragraph.text⟩, day, no + 1⟩ :: rowP H W day col (li + linesOf W e.paragraph.text) (no + 1) l
def rowL (W : Int) : List entry → Int
 | [] => 0
 | e :: l => (if e.removed then 0 else linesOf W e.paragraph.text) + rowL W l
def prints (H W : Int) : Int → List Part → Grd → List printed
 | col, p :: ps, l :: g => rowP H W p.day col 0 0 l ++ prints H W (col + (rowL W l + H - 1) / H) ps g
 | _, _, _ => []
def printE (v : Volume) (es : List Erratum) : List printed := prints v.height v.width 1 v.parts (after v es v.bound)
def pos (H : Int) (p : Place) : Int := (p.column - 1) * H + (p.line - 1)
def Full (W : Int) (l : List entry) : Prop := ∀ e ∈ l, 1 ≤ linesOf W e.paragraph.text ∧ linesOf W e.paragraph.text ≤ 20
theorem Full.tail {W : Int} {e : entry} {l : List entry} (h : Full W (e :: l)) : Full W l := fun x hx => h x (List.mem_cons_of_mem _ hx)
theorem rowL_nn {W : Int} : ∀ {l : List entry}, Full W l → 0 ≤ rowL W l
 | [], _ => Int.le_refl _
 | e :: l, h => by
  have h1 := rowL_nn h.tail
  have h2 := (h e List.mem_cons_self).1
  unfold rowL; split <;> omega
theorem rowP_ank {H W day col : Int} : ∀ {l : List entry} {li no : Int}, (rowP H W day col li no l).map (·.place.anchor) = (l.filter (fun e => !e.removed)).map (·.paragraph.anchor)
 | [], _, _ => rfl
 | e :: l, li, no => by
  unfold rowP
  cases hr : e.removed
  ·simp only [Bool.false_eq_true, if_false, List.map_cons, rowP_ank]
   rw [List.filter_cons_of_pos (by simp [hr])]; rfl
  ·simp only [if_true, rowP_ank]
   rw [List.filter_cons_of_neg (by simp [hr])]
theorem prints_ank {H W : Int} : ∀ {ps : List Part} {g : Grd} {col : Int}, g.length = ps.length → (prints H W col ps g).map (·.place.anchor) = (readE g).map (·.anchor)
 | [], [], _, _ => by unfold prints; rfl
 | p :: ps, l :: g, col, h => by
  unfold prints readE
  have ih := prints_ank (H := H) (W := W) (ps := ps) (g := g) (col := col + (rowL W l + H - 1) / H) (by simpa using h)
  rw [List.map_append, ih, rowP_ank]
  unfold readE
  simp [List.map_map]
 | [], _ :: _, _, h => by simp at h
 | _ :: _, [], _, h => by simp at h
end T10
namespace T10
open Go Go.Proofs Pk
theorem set_at {α : Type} {l : List α} {k : Nat} {x y : α} (h : l[k]? = some x) : l.take k ++ [y] ++ l.drop (k + 1) = l.set k y := by
 rw [List.set_eq_take_append_cons_drop, if_pos (lt_len h)]; simp
theorem set_same {α : Type} {l : List α} {k : Nat} {x : α} (h : l[k]? = some x) : l.set k x = l := by
 apply List.ext_getElem?
 intro j
 by_cases e : k = j
 ·subst e; rw [List.getElem?_set_self (lt_len h), h]
 ·rw [List.getElem?_set_ne e]
theorem goL_while (to : Int) : ∀ (l : List Erratum) (i : Nat) (g : Grd), (match goL (fun _ (x : Erratum) (g : Grd) => if to < x.day then .inr (.inr g) else .inl (stepG x g)) (fun g => (Sum.inl g : Grd ⊕ Grd)) l i g with | .inr z => some z | .inl t => some t) = some ((l.takeWhile fun x => decide (x.day ≤ to)).foldl (fun g x => stepG x g) g)
 | [], i, g => rfl
 | x :: l, i, g => by
  rw [goL_cons]
  by_cases c : to < x.day
  ·rw [if_pos c, List.takeWhile_cons_of_neg (by simp; omega)]; rfl
  ·rw [if_neg c, List.takeWhile_cons_of_pos (by simp; omega)]
   exact goL_while to l (i + 1) (stepG x g)
theorem Inv.small {v : Volume} {es : List Erratum} (h : Ok v es) {n : Nat} {g : Grd} (hi : Inv v es n g) (hn : n ≤ (sortE es).length) : g.flatten.length ≤ 50 ∧ g.length ≤ 6 := by
 have h1 := hi.len
 have h2 := (sortE_perm es).length_eq
 have h3 := h.err.few
 have h4 := hi.rows
 have h5 := h.vol.parts
 omega
theorem step35 {v : Volume} {es : List Erratum} (h : Ok v es) {to : Int} {i : Nat} {x : Erratum} (hx : (sortE es)[i]? = some x) {g : Grd} (hi : Inv v es i g) :
  m35_3 ([] ++ es) (sortE es) to (i, g) = some (if to < x.day then .inr (.inr g) else .inl (i + 1, stepG x g)) := by
 have hxe : x ∈ es := mem_sort.1 (List.mem_of_getElem? hx)
 have hk := right_kind (h.err.right x hxe)
 have hlt := lt_len hx
 have hlen := (sortE_perm es).length_eq
 obtain ⟨hb, hr⟩ := hi.small h (by omega)
 unfold m35_3
 simp only [List.nil_append]
 rw [if_pos (by omega), hx, Option.bind_some]
 by_cases c : to < x.day
 ·rw [if_pos c, if_pos c]; simp
 rw [if_neg c, if_neg c]
 obtain ⟨r, h1, h2⟩ := look35 (g := g) (x := x) (q := i) hi.once (by omega) (by omega)
 rw [h1]
 rcases h2 with ⟨rfl, hno⟩ | ⟨p, k, l, e, rfl, hl, he, ha⟩
 ·rw [stepG_no hno]; simp
 ·rw [stepG_at hi.once hl he ha]
  have hll := flat_len1 hl
  have hkl := lt_len he
  have hpl := lt_len hl
  simp only [Option.bind_some, if_true, m57, hl, he]
  rcases hk with k0 | k1 | k2
  ·rw [chk_t (by omega), if_pos k0]
   have hu : upd x e = [if e.removed then e else ⟨⟨e.paragraph.anchor, x.text⟩, e.removed⟩] := by unfold upd; rw [if_pos ha, if_pos k0]
   rw [hu, set_at he]
   cases hrm : e.removed
   ·simp
   ·simp only [if_true, Option.bind_some]
    rw [set_same he, set_same hl]; simp
  ·rw [chk_t (by omega), if_neg (by omega), if_pos k1]
   have hu : upd x e = [⟨e.paragraph, true⟩] := by unfold upd; rw [if_pos ha, if_neg (by omega), if_pos k1]
   rw [hu, set_at he]; simp
  ·rw [chk_t (by omega), if_neg (by omega), if_neg (by omega), if_pos k2]
   have hu : upd x e = [e, ⟨⟨x.new_, x.text⟩, false⟩] := by unfold upd; rw [if_pos ha, if_neg (by omega), if_neg (by omega)]
   rw [hu, chk_t (by omega), chk_t (by omega), chk_t (by omega)]
   rw [show ((k : Int) + 1).toNat = k + 1 by omega]
   have e1 : l.take (k + 1) = l.take k ++ [e] := by rw [List.take_succ, he]; rfl
   rw [e1]
   simp
theorem e35 {v : Volume} {es : List Erratum} (h : Ok v es) (to : Int) : m35 v es to = some ⟨v, after v es to⟩ := by
 have hlen := (sortE_perm es).length_eq
 have hfew := h.err.few
 have h2 : ∀ x ∈ v.parts, loopO (m35_2 x) (0, ([] : List entry)) = some (x.paragraphs.map fun p => ⟨p, false⟩) := fun x hx => by
  have hl := h.few.pars x hx
  exact loop_map x.paragraphs (fun p => (⟨p, false⟩ : entry)) (fun a => a) (step := m35_2 x) (fun i p a hi hp ha => by
   unfold m35_2
   rw [if_pos (by omega)]
   simp only [hp, Option.bind_some]
   rw [chk_t (by omega)]) (fun a => by unfold m35_2; simp)
 have h1 : loopO (m35_1 v) (0, ([] : List (List entry))) = some (initG v) := loop_map v.parts (fun p => p.paragraphs.map fun x => (⟨x, false⟩ : entry)) (fun a => a) (step := m35_1 v) (fun i x a hi hx ha => by
  have hl := h.few.parts
  unfold m35_1
  rw [if_pos (by omega)]
  simp only [hx, Option.bind_some, h2 x (List.mem_of_getElem? hx)]
  rw [chk_t (by omega)]) (fun a => by unfold m35_1; simp)
 have h3 := loop_l (sortE es) (fun _ (x : Erratum) (g : Grd) => if to < x.day then .inr (.inr g) else .inl (stepG x g)) (fun g => (Sum.inl g : Grd ⊕ Grd)) (Inv v es) (step := m35_3 ([] ++ es) (sortE es) to) (fun i x g hi hx hI => by
  rw [step35 h hx hI]
  by_cases c : to < x.day <;> simp [c]) (fun i x g g' hi hx hI hg => by
  by_cases c : to < x.day
  ·rw [if_pos c] at hg; cases hg
  ·rw [if_neg c] at hg; cases hg; exact inv_step h hx hI) (fun g hI => by unfold m35_3; rw [if_neg (by simp; omega)]) (a0 := initG v) (inv_init h)
 unfold m35
 rw [h1, Option.bind_some, chk_t (by simp; omega)]
 simp only [Option.bind_some]
 rw [show ([] ++ es : List Erratum) = es from rfl] at h3
 simp only [List.nil_append]
 rw [sort_es (by omega) h.err.once, Option.bind_some, h3, Option.bind_some]
 exact congrArg (fun o : Option Grd => Option.bind o fun t => some (⟨v, t⟩ : edition)) (goL_while to (sortE es) 0 (initG v))
theorem loop13 {v : Volume} {g : Grd} {n : Nat} (hb : g.flatten.length ≤ 1000) : loopO (m10_1 ⟨v, g⟩) (0, ([] : List Paragraph)) = some (readE g) := by
 have h2 : ∀ (l : List entry) (a : List Paragraph), a.length + l.length ≤ 100000 → loopO (m10_2 l) (0, a) = some (a ++ (l.filter (fun e => !e.removed)).map (·.paragraph)) := fun l a hl => by
  have := loop_fold l (fun a e => a ++ if e.removed then [] else [e.paragraph]) (fun a => a) (fun i b => b.length ≤ a.length + i) (step := m10_2 l) (fun i e b hi he hb => by
   unfold m10_2
   rw [if_pos (by simp only []; omega)]
   simp only [he, Option.bind_some]
   cases e.removed
   ·rw [if_neg (by simp), chk_t (by omega)]; simp
   ·rw [if_pos rfl]; simp) (fun i e b hi he hb => by cases e.removed <;> simp <;> omega) (fun b hb => by unfold m10_2; simp) (a0 := a) (by simp)
  rw [this, foldl_append (fun e : entry => if e.removed then [] else [e.paragraph])]
  congr 1
  congr 1
  clear this hl
  induction l with
  | nil => rfl
  | cons e l ih =>
   rw [List.flatMap_cons, ih]
   cases hr : e.removed
   ·rw [List.filter_cons_of_pos (by simp [hr])]; rfl
   ·rw [List.filter_cons_of_neg (by simp [hr])]; rfl
 have h1 := loop_fold g (fun a l => a ++ (l.filter (fun e => !e.removed)).map (·.paragraph)) (fun a => a) (fun i a => a.length ≤ (g.take i).flatten.length) (step := m10_1 ⟨v, g⟩) (fun i l a hi hl ha => by
  have h4 : (g.take i).flatten.length ≤ g.flatten.length := by
   have : g.flatten = (g.take i).flatten ++ (g.drop i).flatten := by rw [← List.flatten_append, List.take_append_drop]
   rw [this]; simp
  have h5 := flat_len1 hl
  unfold m10_1
  rw [if_pos (by simp only []; omega)]
  simp only [hl, Option.bind_some]
  rw [h2 l a (by omega)]; simp) (fun i l a hi hl ha => by
  rw [List.take_succ, hl]
  simp only [List.length_append, List.length_map, Option.toList_some, List.flatten_append, List.flatten_cons, List.flatten_nil, List.append_nil]
  have := List.length_filter_le (fun e : entry => !e.removed) l
  omega) (fun a ha => by unfold m10_1; simp) (a0 := []) (by simp)
 rw [h1, foldl_append (fun l : List entry => (l.filter (fun e => !e.removed)).map (·.paragraph))]
 congr 1
 unfold readE
 rw [List.nil_append, List.filter_flatten, List.map_flatten, List.flatMap_def, List.map_map]; rfl
theorem e10 {v : Volume} {es : List Erratum} (h : Ok v es) {d : Int} (h0 : 0 ≤ d) (h1 : d ≤ 99999) : m10 v es d = some (readE (after v es d), 0) := by
 obtain ⟨hb, _⟩ := (inv_after h d).small h upto_len
 unfold m10
 rw [e33 h, Option.bind_some, if_neg (by simp), e34, Option.bind_some, if_pos (In_iff.2 ⟨h0, h1⟩), e35 h, Option.bind_some, loop13 (n := 0) (by omega)]
 rfl
theorem e37 {v : Volume} {es : List Erratum} (h : Ok v es) (a : Int) {d : Int} (h0 : 0 ≤ d) (h1 : d ≤ 99999) : m37 v es a d = some (match findE (after v es d) a with | some e => (e.paragraph.text, e.removed, 0) | none => ([], false, 7)) := by
 have hi := inv_after h d
 obtain ⟨r, h2, h3⟩ := look23 (v := v) (g := after v es d) (a := a) hi.once
 unfold m37
 rw [e33 h, Option.bind_some, if_neg (by simp), e34, Option.bind_some, if_pos (In_iff.2 ⟨h0, h1⟩), e35 h, Option.bind_some, h2]
 rcases h3 with ⟨rfl, hno⟩ | ⟨p, k, l, e, rfl, hl, he, ha⟩
 ·rw [findE_none.2 hno]; simp
 ·rw [(findE_some hi.once).2 ⟨List.mem_flatten.2 ⟨l, List.mem_of_getElem? hl, List.mem_of_getElem? he⟩, ha⟩]
  simp [hl, he]
end T10
namespace T10
open Go Go.Proofs Pk
theorem loop_g {α σ ε S : Type} (f : Nat → σ → S) (l : List α) (g : σ → α → σ) (out : σ → ε) (I : Nat → σ → Prop) {step : S → Option (S ⊕ ε)}
  (hs : ∀ i x a, i < l.length → l[i]? = some x → I i a → step (f i a) = some (.inl (f (i + 1) (g a x))))
  (hI : ∀ i x a, i < l.length → l[i]? = some x → I i a → I (i + 1) (g a x))
  (he : ∀ a, I l.length a → step (f l.length a) = some (.inr (out a))) {a0 : σ} (h0 : I 0 a0) : loopO step (f 0 a0) = some (out (l.foldl g a0)) := by
 have key : ∀ k i a, l.length - i = k → i ≤ l.length → I i a → loopO step (f i a) = some (out ((l.drop i).foldl g a)) := by
  intro k
  induction k with
  | zero =>
   intro i a hk hi hIa
   obtain rfl : i = l.length := by omega
   rw [loopO_out (he a hIa), List.drop_length]; rfl
  | succ k ih =>
   intro i a hk hi hIa
   have hlt : i < l.length := by omega
   have hx : l[i]? = some l[i] := List.getElem?_eq_getElem hlt
   rw [List.drop_eq_getElem_cons hlt, loopO_next (hs i _ a hlt hx hIa), ih (i + 1) _ (by omega) (by omega) (hI i _ a hlt hx hIa)]; rfl
 have := key l.length 0 a0 (by omega) (by omega) h0
 simpa using this
theorem right_txt {x : Erratum} (h : right x = true) (k : x.kind ≠ 1) : txt x.text = true := by
 unfold right at h
 simp only [Bool.and_eq_true] at h
 obtain ⟨_, h⟩ := h
 by_cases k0 : x.kind = 0
 ·rw [if_pos k0] at h; simp only [Bool.and_eq_true] at h; exact h.1
 ·rw [if_neg k0, if_neg k] at h; simp only [Bool.and_eq_true] at h; exact h.1.2
theorem right_new {x : Erratum} (h : right x = true) (k : x.kind = 2) : In x.new_ 1 999 = true := by
 unfold right at h
 simp only [Bool.and_eq_true] at h
 obtain ⟨_, h⟩ := h
 rw [if_neg (by omega), if_neg (by omega)] at h
 simp only [Bool.and_eq_true] at h; exact h.2
def okT (e : entry) : Prop := txt e.paragraph.text = true ∧ In e.paragraph.anchor 1 999 = true
theorem upd_okT {x : Erratum} (hr : right x = true) {e : entry} (he : okT e) : ∀ y ∈ upd x e, okT y := by
 intro y hy
 unfold upd at hy
 split at hy
 ·split at hy
  ·rename_i k0
   obtain rfl := List.mem_singleton.1 hy
   split
   ·exact he
   ·exact ⟨right_txt hr (by omega), he.2⟩
  ·split at hy
   ·obtain rfl := List.mem_singleton.1 hy; exact he
   ·rename_i k0 k1
    simp only [List.mem_cons, List.not_mem_nil, or_false] at hy
    rcases hy with rfl | rfl
    ·exact he
    ·exact ⟨right_txt hr k1, right_new hr (by rcases right_kind hr with h | h | h <;> omega)⟩
 ·obtain rfl := List.mem_singleton.1 hy; exact he
theorem steps_okT : ∀ (l : List Erratum) (g : Grd), (∀ x ∈ l, right x = true) → (∀ e ∈ g.flatten, okT e) → ∀ e ∈ (l.foldl (fun g x => stepG x g) g).flatten, okT e
 | [], g, _, h => h
 | x :: l, g, hl, h => by
  refine steps_okT l (stepG x g) (fun y hy => hl y (List.mem_cons_of_mem _ hy)) (fun e he => ?_)
  rw [stepG_flat] at he
  obtain ⟨f, hf, he⟩ := List.mem_flatMap.1 he
  exact upd_okT (hl x List.mem_cons_self) (h f hf) e he
theorem upto_mem {es : List Erratum} {d : Int} {x : Erratum} (h : x ∈ upto es d) : x ∈ es ∧ x.day ≤ d := by
 unfold upto at h
 refine ⟨mem_sort.1 ((List.takeWhile_prefix _).subset h), ?_⟩
 have := List.all_eq_true.1 (List.all_takeWhile (p := fun x : Erratum => decide (x.day ≤ d)) (l := sortE es)) x h
 simpa using this
theorem after_okT {v : Volume} {es : List Erratum} (h : Ok v es) (d : Int) : ∀ e ∈ (after v es d).flatten, okT e := by
 refine steps_okT _ _ (fun x hx => h.err.right x (upto_mem hx).1) (fun e he => ?_)
 rw [init_flat] at he
 obtain ⟨p, hp, rfl⟩ := List.mem_map.1 he
 have := h.vol.par p hp
 unfold okP at this
 rw [Bool.and_eq_true] at this
 exact ⟨this.2, this.1⟩
theorem txt_len {s : Bytes} (h : txt s = true) : 1 ≤ s.length ∧ s.length ≤ 200 := by
 unfold txt at h
 rw [Bool.and_eq_true] at h
 have := In_iff.1 h.1; omega
theorem lines_ok {w : Int} (hw : 10 ≤ w) {s : Bytes} (h : txt s = true) : 1 ≤ linesOf w s ∧ linesOf w s ≤ 20 := by
 have := txt_len h
 unfold linesOf
 constructor
 ·exact Int.le_ediv_of_mul_le (by omega) (by omega)
 ·have : ((s.length : Int) + w - 1) / w < 21 := Int.ediv_lt_of_lt_mul (by omega) (by omega)
  omega
theorem full_after {v : Volume} {es : List Erratum} (h : Ok v es) (d : Int) : ∀ l ∈ after v es d, Full v.width l := fun l hl e he => lines_ok (In_iff.1 h.vol.width).1 (after_okT h d e (List.mem_flatten.2 ⟨l, hl, he⟩)).1
theorem rowL_le {W : Int} : ∀ {l : List entry}, Full W l → rowL W l ≤ 20 * l.length
 | [], _ => by simp [rowL]
 | e :: l, h => by
  have h1 := rowL_le h.tail
  have h2 := (h e List.mem_cons_self)
  unfold rowL; rw [List.length_cons]; split <;> omega
theorem rowP_cons {H W day col li no : Int} {e : entry} {l : List entry} : rowP H W day col li no (e :: l) = if e.removed then rowP H W day col li no l else ⟨⟨e.paragraph.anchor, col + li / H, li % H + 1, linesOf W e.paragraph.text⟩, day, no + 1⟩ :: rowP H W day col (li + linesOf W e.paragraph.text) (no + 1) l := rfl
def rowF (H W day col : Int) (a : Nat × Int × List printed) (e : entry) : Nat × Int × List printed :=
 if e.removed then a else (a.1 + 1, a.2.1 + linesOf W e.paragraph.text, a.2.2 ++ [⟨⟨e.paragraph.anchor, col + a.2.1 / H, a.2.1 % H + 1, linesOf W e.paragraph.text⟩, day, (a.1 : Int) + 1⟩])
theorem rowF_fold {H W day col : Int} : ∀ (l : List entry) (a : Nat × Int × List printed), (l.foldl (rowF H W day col) a).2 = (a.2.1 + rowL W l, a.2.2 ++ rowP H W day col a.2.1 a.1 l)
 | [], a => by simp [rowL, rowP]
 | e :: l, a => by
  rw [List.foldl_cons, rowF_fold l]
  rw [show rowL W (e :: l) = (if e.removed then 0 else linesOf W e.paragraph.text) + rowL W l from rfl, rowP_cons]
  unfold rowF
  cases e.removed
  ·simp [Int.add_assoc]
  ·simp
theorem loop37 {v : Volume} (hH : 1 ≤ v.height ∧ v.height ≤ 60) (hW : 10 ≤ v.width ∧ v.width ≤ 80) {l : List entry} (hl : l.length ≤ 50) (ht : ∀ e ∈ l, okT e) {i : Nat} {p : Part} (hp : v.parts[i]? = some p) {col : Int} (hc : 1 ≤ col ∧ col ≤ 100000) {out : List printed} (ho : out.length ≤ 100000) :
  loopO (m39_2 l v (i, col, out)) (0, 0, 0, out) = some (rowL v.width l, out ++ rowP v.height v.width p.day col 0 0 l) := by
 have := loop_g (fun i (a : Nat × Int × List printed) => (a.1, i, a.2.1, a.2.2)) l (rowF v.height v.width p.day col) (fun a => (a.2.1, a.2.2)) (fun i a => a.1 ≤ i ∧ 0 ≤ a.2.1 ∧ a.2.1 ≤ 20 * i ∧ a.2.2.length ≤ out.length + i) (step := m39_2 l v (i, col, out)) (fun j e a hj he hI => by
  obtain ⟨i1, i2, i3, i4⟩ := hI
  have hte := ht e (List.mem_of_getElem? he)
  have htl := txt_len hte.1
  have hln := lines_ok hW.1 hte.1
  unfold linesOf at hln
  have d1 := Int.ediv_nonneg i2 (by omega : 0 ≤ v.height)
  have d2 : a.2.1 / v.height ≤ a.2.1 := Int.ediv_le_self _ i2
  have d3 := Int.emod_nonneg a.2.1 (by omega : v.height ≠ 0)
  have d4 := Int.emod_lt_of_pos a.2.1 (by omega : 0 < v.height)
  unfold m39_2 rowF linesOf
  simp only []
  rw [if_pos (by omega), he]
  simp only [Option.bind_some]
  cases hr : e.removed
  ·rw [if_neg (by simp), if_neg (by simp)]
   rw [chk_t (by omega), chk_t (by omega), chk_t (by omega), chk_t (by omega), chk_t (by omega), chk_t (by omega), chk_t (by omega), chk_t (by omega), hp]
   simp only [Option.bind_some]
   rw [chk_t (by simp; omega), chk_t (by omega)]
   rfl
  ·rfl) (fun j e a hj he hI => by
  obtain ⟨i1, i2, i3, i4⟩ := hI
  have hte := ht e (List.mem_of_getElem? he)
  have hln := lines_ok hW.1 hte.1
  unfold rowF
  cases e.removed
  ·rw [if_neg (by simp)]
   simp only [List.length_append, List.length_singleton]
   omega
  ·rw [if_pos rfl]; omega) (fun a hI => by unfold m39_2; simp) (a0 := (0, 0, out)) (by simp)
 simp only [] at this
 rw [this]
 have h2 := rowF_fold (H := v.height) (W := v.width) (day := p.day) (col := col) l (0, 0, out)
 show some (l.foldl (rowF v.height v.width p.day col) (0, 0, out)).2 = _
 rw [h2]; simp
def prF (H W : Int) (a : Int × List printed) (x : Part × List entry) : Int × List printed := (a.1 + (rowL W x.2 + H - 1) / H, a.2 ++ rowP H W x.1.day a.1 0 0 x.2)
theorem prF_fold {H W : Int} : ∀ (ps : List Part) (g : Grd) (a : Int × List printed), ((ps.zip g).foldl (prF H W) a).2 = a.2 ++ prints H W a.1 ps g
 | [], g, a => by unfold prints; simp
 | p :: ps, [], a => by unfold prints; simp
 | p :: ps, l :: g, a => by
  rw [List.zip_cons_cons, List.foldl_cons, prF_fold ps g]
  conv => rhs; unfold prints
  unfold prF; simp
theorem zip_at {α β : Type} {a : List α} {b : List β} {i : Nat} {x : α × β} (h : (a.zip b)[i]? = some x) : a[i]? = some x.1 ∧ b[i]? = some x.2 := by
 rw [List.getElem?_zip_eq_some] at h; exact h
theorem rowP_len {H W day col : Int} : ∀ {l : List entry} {li no : Int}, (rowP H W day col li no l).length ≤ l.length
 | [], _, _ => Nat.le_refl _
 | e :: l, li, no => by
  unfold rowP
  split
  ·exact Nat.le_succ_of_le rowP_len
  ·simp only [List.length_cons]; exact Nat.succ_le_succ rowP_len
theorem e39 {v : Volume} {es : List Erratum} (h : Ok v es) : m39 v es = some (printE v es) := by
 have hH := In_iff.1 h.vol.height
 have hW := In_iff.1 h.vol.width
 have hi := inv_after h v.bound
 obtain ⟨hb, hg⟩ := hi.small h upto_len
 have hrows := hi.rows
 have hzl : (v.parts.zip (after v es v.bound)).length = (after v es v.bound).length := by rw [List.length_zip]; omega
 have h1 := loop_g (fun i (a : Int × List printed) => (i, a.1, a.2)) (v.parts.zip (after v es v.bound)) (prF v.height v.width) (fun a => a.2) (fun i a => 1 ≤ a.1 ∧ a.1 ≤ 1 + 2000 * i ∧ a.2.length ≤ 50 * i) (step := m39_1 ⟨v, after v es v.bound⟩ v) (fun i x a hlt hx hI => by
  obtain ⟨hp, hl⟩ := zip_at hx
  have hll := flat_len1 hl
  have hfl := full_after h v.bound _ (List.mem_of_getElem? hl)
  have hn := rowL_nn hfl
  have hle := rowL_le hfl
  have d1 := Int.ediv_nonneg (by omega : 0 ≤ rowL v.width x.2 + v.height - 1) (by omega : 0 ≤ v.height)
  have d2 : (rowL v.width x.2 + v.height - 1) / v.height ≤ rowL v.width x.2 + v.height - 1 := Int.ediv_le_self _ (by omega)
  unfold m39_1
  simp only []
  rw [if_pos (by omega), hl]
  simp only [Option.bind_some]
  rw [loop37 hH hW (by omega) (fun e he => after_okT h _ e (List.mem_flatten.2 ⟨_, List.mem_of_getElem? hl, he⟩)) hp (by omega) (by omega)]
  simp only [Option.bind_some]
  rw [chk_t (by omega), chk_t (by omega), chk_t (by omega), chk_t (by omega)]
  rfl) (fun i x a hlt hx hI => by
  obtain ⟨hp, hl⟩ := zip_at hx
  have hll := flat_len1 hl
  have hfl := full_after h v.bound _ (List.mem_of_getElem? hl)
  have hn := rowL_nn hfl
  have hle := rowL_le hfl
  have d1 := Int.ediv_nonneg (by omega : 0 ≤ rowL v.width x.2 + v.height - 1) (by omega : 0 ≤ v.height)
  have d2 : (rowL v.width x.2 + v.height - 1) / v.height ≤ rowL v.width x.2 + v.height - 1 := Int.ediv_le_self _ (by omega)
  have hr := rowP_len (H := v.height) (W := v.width) (day := x.1.day) (col := a.1) (l := x.2) (li := 0) (no := 0)
  unfold prF
  simp only [List.length_append]
  omega) (fun a hI => by unfold m39_1; simp [hzl]) (a0 := (1, [])) (by simp)
 simp only [] at h1
 unfold m39
 rw [e35 h, Option.bind_some, h1, prF_fold]
 rfl
theorem printE_len {v : Volume} {es : List Erratum} (h : Ok v es) : (printE v es).length ≤ 50 := by
 have hi := inv_after h v.bound
 obtain ⟨hb, hg⟩ := hi.small h upto_len
 have h1 := congrArg List.length (prints_ank (H := v.height) (W := v.width) (col := 1) hi.rows)
 rw [List.length_map, List.length_map] at h1
 unfold printE
 rw [h1]
 unfold readE
 rw [List.length_map]
 exact Nat.le_trans (List.length_filter_le _ _) hb
theorem e22 {v : Volume} {es : List Erratum} (h : Ok v es) : m22 v es = some ((printE v es).map (·.place), 0) := by
 have hl := printE_len h
 have h1 := loop_map (printE v es) (·.place) (fun a => a) (step := m22_1 (printE v es)) (fun i x a hi hx ha => by
  unfold m22_1
  rw [if_pos (by omega)]
  simp only [hx, Option.bind_some]
  rw [chk_t (by omega)]) (fun a => by unfold m22_1; simp)
 unfold m22
 rw [e33 h, Option.bind_some, if_neg (by simp), e39 h, Option.bind_some, h1]; rfl
end T10
namespace T10
open Go Go.Proofs Pk
theorem read_ok {v : Volume} {es : List Erratum} (h : Ok v es) {d : Int} {p : Paragraph} (hp : p ∈ readE (after v es d)) : ∃ e ∈ (after v es d).flatten, e.removed = false ∧ e.paragraph = p := by
 unfold readE at hp
 obtain ⟨e, he, rfl⟩ := List.mem_map.1 hp
 obtain ⟨h1, h2⟩ := List.mem_filter.1 he
 exact ⟨e, h1, by simpa using h2, rfl⟩
theorem e38A {v c : Int} (hv : 0 ≤ v ∧ v ≤ 999999) (hc : 0 ≤ c ∧ c ≤ 999999) : m38 [.i v, .s sAt, .i c] = some (citeA v c) := by
 have e1 : spell [.i v, .s sAt, .i c] = citeA v c := by simp [spell, anyB, citeA]
 have := itoa_len hv.1 (by omega)
 have := itoa_len hc.1 (by omega)
 unfold m38
 rw [e1, chk_t]
 refine ⟨?_, by unfold citeA; simp only [List.length_append, List.length_cons, List.length_nil]; omega⟩
 simp [anyOk]; omega
theorem e13A {v : Volume} {es : List Erratum} (h : Ok v es) {a : Int} (ha : 0 ≤ a ∧ a ≤ 999999) {to : Int} (h0 : 0 ≤ to) (h1 : to ≤ 99999) : m13 v es a 2 to = some (match findE (after v es to) a with | some _ => (citeA a to, 0) | none => ([], 7)) := by
 unfold m13
 rw [e33 h, Option.bind_some, if_neg (by simp), if_neg (by omega), if_pos rfl, e34, Option.bind_some, In_iff.2 ⟨h0, h1⟩]
 simp only [Option.bind_some, Bool.not_true, Bool.false_eq_true, if_false, if_true, e37 h a h0 h1]
 cases findE (after v es to) a with
 | none => simp
 | some e => simp only [ne_eq, not_true_eq_false, if_false]; rw [e38A ha (by omega)]; rfl
end T10
namespace T10
open Go Go.Proofs Pk
theorem n87 {n : Int} (h : 0 ≤ n ∧ n ≤ 999999) : m104 (Lib.itoa n) = some (n, false) := by
 have := itoa_len h.1 (by omega)
 unfold m104 atoiM
 rw [chk_t (by omega), atoi_itoa h.1 (by omega)]
theorem n58 {n : Int} (h : 0 ≤ n ∧ n ≤ 999999) : m59 n = some (Lib.itoa n) := by unfold m59 itoaM; rw [chk_t (by omega)]
theorem n40 {n : Int} (h : 0 ≤ n ∧ n ≤ 999999) : m44 n 0 999999 = some true := by rw [e44, In_iff.2 h]
theorem n86 {l r t : Bytes} {c : UInt8} (h : c ∉ l) (hb : l.length + t.length + r.length ≤ 1000000) : m103 (l ++ (c :: t ++ r)) (c :: t) = some (l, r, true) := by
 unfold m103
 rw [chk_t (by simp; omega), cut_at h]
theorem c64 {n : Int} (h : 0 ≤ n) : (64 : UInt8) ∉ Lib.itoa n := itoa_no h (by decide)
theorem e68A {a d : Int} (ha : 0 ≤ a ∧ a ≤ 999999) (hd : 0 ≤ d ∧ d ≤ 99999) : m68 (citeA a d) = some (.inl ⟨2, ⟨a, d, 0⟩⟩) := by
 have l1 := itoa_len ha.1 (by omega)
 have l2 := itoa_len hd.1 (by omega)
 have hd' : 0 ≤ d ∧ d ≤ 999999 := by omega
 have h88 : m105 (citeA a d) sVol = some (citeA a d, false) := by
  have hp : Lib.hasPrefix (citeA a d) sVol = false := by
   unfold Lib.hasPrefix citeA
   cases hi : Lib.itoa a with
   | nil => exact absurd hi (itoa_ne a)
   | cons c r =>
    have := itoa_dig ha.1 (c := c) (by rw [hi]; exact List.mem_cons_self)
    show ((118 : UInt8) == c && _) = false
    have : ((118 : UInt8) == c) = false := by
     rw [beq_eq_false_iff_ne]; rintro rfl
     have : (118 : UInt8).toNat = 118 := rfl
     omega
    rw [this]; rfl
  unfold m105 Lib.trimPrefix
  rw [hp]; rfl
 have h1 : m103 (citeA a d) sAt = some (Lib.itoa a, Lib.itoa d, true) := n86 (c64 ha.1) (by simp only [List.length_cons, List.length_nil]; omega)
 unfold m68
 rw [h88]
 simp only [Option.bind_some, if_true, h1, n87 ha, n87 hd', n58 ha, n58 hd', n40 ha, n40 hd', ne_eq, not_true_eq_false, if_false, Bool.false_eq_true, Bool.not_true, e34, In_iff.2 hd]
 rfl
theorem e19A {v : Volume} {es : List Erratum} (h : Ok v es) {s : Bytes} {c : cited} (hc : m43 s = some (c, true)) (hs : c.style = 2) (h1 : 0 ≤ c.numbers.e1 ∧ c.numbers.e1 ≤ 99999) : m19 v es s = some (match findE (after v es c.numbers.e1) c.numbers.e0 with | some _ => (c.numbers.e0, c.numbers.e1, 0) | none => (0, 0, 7)) := by
 unfold m19
 rw [e33 h, Option.bind_some, if_neg (by simp), hc, Option.bind_some]
 simp only [if_true]
 rw [if_pos hs, e37 h _ h1.1 h1.2, Option.bind_some]
 cases findE (after v es c.numbers.e1) c.numbers.e0 <;> simp
theorem e43 {s : Bytes} {c : cited} (h : m68 s = some (.inl c)) : m43 s = some (c, true) := by unfold m43; rw [h]; rfl
end T10
namespace T10
open Go Go.Proofs Pk Go.Lib
theorem loop_inv2 {S ε : Type} {step : S → Option (S ⊕ ε)} (n : Nat) (I : Nat → S → Prop) (Q : ε → Prop)
  (hs : ∀ i s, i < n → I i s → (∃ s', step s = some (.inl s') ∧ I (i + 1) s') ∨ ∃ e, step s = some (.inr e) ∧ Q e) (he : ∀ s, I n s → ∃ e, step s = some (.inr e) ∧ Q e) : ∀ (k i : Nat) (s : S), n - i = k → i ≤ n → I i s → ∃ e, loopO step s = some e ∧ Q e
 | 0, i, s, hk, hi, h => by
  obtain rfl : i = n := by omega
  obtain ⟨e, h1, h2⟩ := he s h
  exact ⟨e, loopO_out h1, h2⟩
 | k + 1, i, s, hk, hi, h => by
  rcases hs i s (by omega) h with ⟨s', h1, h2⟩ | ⟨e, h1, h2⟩
  ·obtain ⟨e, h3, h4⟩ := loop_inv2 n I Q hs he k (i + 1) s' (by omega) (by omega) h2
   exact ⟨e, (loopO_next h1).trans h3, h4⟩
  ·exact ⟨e, loopO_out h1, h2⟩
theorem e31 (n lo hi : Int) : m31 n lo hi = some (In n lo hi) := by unfold m31 In; by_cases h : lo ≤ n <;> simp [h]
theorem e96 (n lo hi : Int) : m96 n lo hi = some (In n lo hi) := by unfold m96 In; by_cases h : lo ≤ n <;> simp [h]
theorem e62 (n : Int) : m62 n = some (In n 0 9999) := by unfold m62; rw [e96]; rfl
def Ris (l : List Int) (most : Int) : Prop := ∀ (i : Nat) (x : Int), l[i]? = some x → In x 0 most = true ∧ ∀ y, 0 < i → l[i - 1]? = some y → y < x
theorem e32 (l : List Int) (most : Int) : ∃ b, m32 l most = some b ∧ (b = true → Ris l most) := by
 obtain ⟨b, h1, h2⟩ := loop_ex l (fun i x => In x 0 most = true ∧ ∀ y, 0 < i → l[i - 1]? = some y → y < x) (.inr false : Unit ⊕ Bool) (.inl ()) (step := m32_1 l most) (fun i x hi hx => by
  unfold m32_1
  rw [if_pos (by omega), hx, Option.bind_some, e31, Option.bind_some]
  by_cases h : In x 0 most = true
  ·rw [if_pos h]
   by_cases h0 : i = 0
   ·subst h0; exact ⟨true, by simp, fun _ => ⟨h, fun y c _ => absurd c (Nat.lt_irrefl _)⟩⟩
   ·have hp : l[i - 1]? = some l[i - 1] := List.getElem?_eq_getElem (by omega)
    rw [if_pos (by omega), show ((i : Int) - 1).toNat = i - 1 by omega, hp]
    by_cases hd : x ≤ l[i - 1]
    ·exact ⟨false, by simp [hd], fun h => by cases h⟩
    ·refine ⟨true, by simp [hd], fun _ => ⟨h, fun y _ hy => ?_⟩⟩
     cases hy; omega
  ·exact ⟨false, by simp [h], fun h => by cases h⟩) (by unfold m32_1; simp)
 refine ⟨b, ?_, fun h => h2 h⟩
 unfold m32
 rw [h1, Option.bind_some]
 cases b <;> rfl
theorem e63 {l : List Int} {most : Int} (h : Ris l most) : m63 l most = some true := by
 have h1 := loop_all l (fun _ => true) (.inr false : Unit ⊕ Bool) (.inl ()) (step := m63_1 l most) (fun i x hi hx => by
  obtain ⟨a, b⟩ := h i x hx
  unfold m63_1
  rw [if_pos (by omega), hx, Option.bind_some, e96, Option.bind_some, if_pos a]
  by_cases h0 : i = 0
  ·subst h0; rfl
  ·have hp : l[i - 1]? = some l[i - 1] := List.getElem?_eq_getElem (by omega)
   have := b _ (by omega) hp
   rw [if_pos (by omega), show ((i : Int) - 1).toNat = i - 1 by omega, hp, Option.bind_some, decide_eq_false (by omega)]; rfl) (by unfold m63_1; simp)
 unfold m63; rw [h1]; simp
structure OkX (x : Reader) : Prop where
 year : In x.year 0 9999 = true
 may : Ris x.may 7
theorem e8 (x : Reader) : ∃ b, m8 x = some b ∧ (b = true → OkX x) := by
 obtain ⟨b, h1, h2⟩ := e32 x.may 7
 unfold m8
 rw [e31, Option.bind_some]
 by_cases h : In x.year 0 9999 = true
 ·rw [if_pos h, h1]
  exact ⟨b, rfl, fun hb => ⟨h, h2 hb⟩⟩
 ·rw [if_neg h]; exact ⟨false, rfl, fun h => by cases h⟩
structure OkO (n : Nat) (o : Order) : Prop where
 to1 : 1 ≤ o.to_
 ton : o.to_ ≤ n
 from0 : 0 ≤ o.from_
 fromt : o.from_ ≤ o.to_ - 1
 kind : In o.kind 0 7 = true
 until_ : In o.until_ 0 9999 = true
def okB (c : UInt8) : Prop := 33 ≤ c.toNat ∧ c.toNat ≤ 126
structure OkW (w : Word) : Prop where
 heads : w.heads = []
 len : 1 ≤ w.text.length ∧ w.text.length ≤ 20
 text : ∀ c ∈ w.text, okB c
theorem ris_nil (m : Int) : Ris [] m := fun i x h => by simp at h
theorem e32n (m : Int) : m32 [] m = some true := by
 unfold m32; rw [loopO_out (by unfold m32_1; rfl)]; rfl
theorem e14 {r : Report} (hw : ∀ w ∈ r.words, OkW w) (h60 : r.words.length ≤ 60) (h12 : r.orders.length ≤ 12) (hc : r.columns = 3) : ∃ z, m14 r = some z ∧ (z = 0 → ∀ o ∈ r.orders, OkO r.words.length o) := by
 have a1 := loop_all r.words (fun _ => true) (.inr 3 : Unit ⊕ Int) (.inl ()) (step := m14_1 r) (fun i w hi hx => by
  unfold m14_1
  rw [if_pos (by omega), hx, Option.bind_some, (hw w (List.mem_of_getElem? hx)).heads, if_neg (by simp)]; rfl) (by unfold m14_1; simp)
 have a2 := loop_all r.words (fun _ => true) (.inr 1 : Unit ⊕ Int) (.inl ()) (step := m14_2 r) (fun i w hi hx => by
  have ok := hw w (List.mem_of_getElem? hx)
  have b3 := loop_all w.text (fun _ => true) (.inr (.inr (.inr 1)) : Unit ⊕ (Nat ⊕ (Unit ⊕ Int))) (.inl ()) (step := m14_3 w) (fun j c hj hc => by
   have := ok.text c (List.mem_of_getElem? hc)
   unfold okB at this
   have := ok.len
   unfold m14_3
   rw [if_pos (by omega), hc, Option.bind_some, if_neg (by omega), Option.bind_some, decide_eq_false (by omega), if_neg (by decide), chk_t (by omega)]; rfl) (by unfold m14_3; simp)
  unfold m14_2
  rw [if_pos (by omega), hx, Option.bind_some, e31, Option.bind_some, if_pos (In_iff.2 ⟨by have := ok.len; omega, by have := ok.len; omega⟩), ok.heads, e32n, Option.bind_some]
  simp only [Bool.not_true, Option.bind_some, Bool.false_eq_true, if_false, b3]
  simp) (by unfold m14_2; simp)
 obtain ⟨b, a3, a4⟩ := loop_ex r.orders (fun _ o => OkO r.words.length o) (.inr 1 : Unit ⊕ Int) (.inl ()) (step := m14_4 r) (fun i o hi hx => by
  unfold m14_4
  rw [if_pos (by omega), hx, Option.bind_some, e31, Option.bind_some]
  by_cases c1 : In o.to_ 1 (r.words.length : Int) = true
  ·have d1 := In_iff.1 c1
   rw [if_pos c1, chk_t (by omega), e31, Option.bind_some]
   by_cases c2 : In o.from_ 0 (o.to_ - 1) = true
   ·have d2 := In_iff.1 c2
    rw [if_pos c2, e31, Option.bind_some]
    by_cases c3 : In o.kind 0 7 = true
    ·rw [if_pos c3, e31, Option.bind_some]
     by_cases c4 : In o.until_ 0 9999 = true
     ·exact ⟨true, by simp [c4], fun _ => ⟨d1.1, d1.2, d2.1, d2.2, c3, c4⟩⟩
     ·exact ⟨false, by simp [c4], fun h => by cases h⟩
    ·exact ⟨false, by simp [c3], fun h => by cases h⟩
   ·exact ⟨false, by simp [c2], fun h => by cases h⟩
  ·exact ⟨false, by simp [c1], fun h => by cases h⟩) (by unfold m14_4; simp)
 unfold m14
 rw [if_neg (by omega), Option.bind_some, decide_eq_false (by omega), if_neg (by decide), a1, Option.bind_some]
 simp only [List.all_eq_true, implies_true, if_true, a2, Option.bind_some, a3]
 cases b with
 | false => exact ⟨1, rfl, fun h => by cases h⟩
 | true =>
  rw [hc]
  refine ⟨0, by simp [e31]; decide, fun _ o ho => ?_⟩
  obtain ⟨i, hi⟩ := List.getElem?_of_mem ho
  exact a4 rfl i o hi
theorem e42 {l : List Int} (h : l.length ≤ 1000000) : m42 l = some l := by unfold m42; rw [chk_t (by simp; omega)]; rfl
theorem e16 {r : Report} (hw : ∀ w ∈ r.words, OkW w) (h60 : r.words.length ≤ 60) (h12 : r.orders.length ≤ 12) : m16 r = some r := by
 have a1 := loop_fold r.words (fun (a : List Word) w => a ++ [w]) (fun a => a) (fun i a => a.length ≤ i) (step := m16_1 r) (fun i w a hi hx ha => by
  have ok := hw w (List.mem_of_getElem? hx)
  obtain ⟨t, hd⟩ := w
  obtain rfl : hd = [] := ok.heads
  unfold m16_1
  rw [if_pos (by simpa using hi), hx, Option.bind_some, e42 (by simp), Option.bind_some, chk_t (by simp; omega)]) (fun i w a hi hx ha => by simp; omega) (fun a ha => by unfold m16_1; simp) (a0 := []) (by simp)
 have a2 := loop_fold r.orders (fun (a : List Order) w => a ++ [w]) (fun a => a) (fun i a => a.length ≤ i) (step := m16_2 r) (fun i w a hi hx ha => by
  unfold m16_2
  dsimp only
  rw [if_pos (by simpa using hi), hx, Option.bind_some, chk_t (by omega)]) (fun i w a hi hx ha => by simp; omega) (fun a ha => by unfold m16_2; simp) (a0 := []) (by simp)
 unfold m16
 rw [a1, Option.bind_some, a2, Option.bind_some, foldl_snoc, foldl_snoc]
 simp
theorem e17 {x : Reader} (h : x.may.length ≤ 8) : m17 x = some x := by
 unfold m17; rw [e42 (by omega)]; rfl
theorem e138 {c : UInt8} (h : okB c) : m138 (c.toNat : Int) = some true := by
 unfold okB at h; unfold m138; rw [if_pos (by omega), decide_eq_true (by omega)]; rfl
theorem e137 {l : Bytes} (h : ∀ c ∈ l, okB c) : m137 l m138 = some true := by
 have : m137 l m138 = gAll l (fun c => m138 (c.toNat : Int)) := rfl
 rw [this, gAll_some (fun _ => true) (fun c hc => e138 (h c hc))]; simp
theorem e99 {w : Word} (h : OkW w) : m99 w = some true := by
 unfold m99
 rw [e96, Option.bind_some, if_pos (In_iff.2 ⟨by have := h.len; omega, by have := h.len; omega⟩), chk_t (by have := h.len; omega), e137 h.text, Option.bind_some, if_pos rfl, h.heads, e63 (ris_nil _)]; rfl
theorem e95 {r : Report} {o : Order} (h : OkO r.words.length o) : m95 o r = some true := by
 have := h.from0; have := h.fromt; have := h.ton
 unfold m95
 rw [if_pos (by omega), if_pos (by omega), if_pos (by omega), e96, Option.bind_some, if_pos h.kind, e62, h.until_]; rfl
structure OkR (r : Report) : Prop where
 words : ∀ w ∈ r.words, OkW w
 w60 : r.words.length ≤ 60
 o12 : r.orders.length ≤ 12
 col : r.columns = 3
 orders : ∀ o ∈ r.orders, OkO r.words.length o
theorem e61 {r : Report} (h : OkR r) : m61 r = some 0 := by
 have a1 : m97 r.words m98 = some true := by
  have : m97 r.words m98 = gAll r.words m98 := rfl
  rw [this, gAll_some (fun _ => true) (fun w hw => by unfold m98; rw [(h.words w hw).heads]; rfl)]; simp
 have a2 : m97 r.words m99 = some true := by
  have : m97 r.words m99 = gAll r.words m99 := rfl
  rw [this, gAll_some (fun _ => true) (fun w hw => e99 (h.words w hw))]; simp
 have a3 : m100 r.orders (fun o => m95 o r) = some true := by
  have : m100 r.orders (fun o => m95 o r) = gAll r.orders (fun o => m95 o r) := rfl
  rw [this, gAll_some (fun _ => true) (fun o ho => e95 (h.orders o ho))]; simp
 unfold m61
 rw [if_neg (by have := h.w60; omega), if_neg (by have := h.o12; omega), a1, Option.bind_some, a2, a3, h.col]
 simp only [Bool.not_true, Option.bind_some, Bool.false_eq_true, if_false, if_true, e96]
 rfl
def hold (x : Reader) (o : Order) : Bool := decide (x.year < o.until_) && !decide (o.kind ∈ x.may)
def hid (x : Reader) (os : List Order) (j : Int) : Bool := os.any fun o => hold x o && In j o.from_ (o.to_ - 1)
theorem e69 (l : List Int) (n : Int) : m69 l n = some (decide (n ∈ l)) := by
 have := loop_all l (fun y => decide (y ≠ n)) (.inr true : Unit ⊕ Bool) (.inl ()) (step := m69_1 l n) (fun i y hi hx => by
  unfold m69_1
  rw [if_pos (by omega), hx, Option.bind_some]
  by_cases c : y = n <;> simp [c]) (by unfold m69_1; simp)
 unfold m69
 rw [this]
 by_cases c : n ∈ l
 ·rw [if_neg (fun hh => by have := List.all_eq_true.1 hh n c; simp at this), decide_eq_true c]; rfl
 ·rw [if_pos (List.all_eq_true.2 fun y hy => by
   have : y ≠ n := fun e => c (by rw [← e]; exact hy)
   simpa using this), decide_eq_false c]; rfl
theorem e45 (o : Order) (x : Reader) : m45 o x = some (hold x o) := by
 unfold m45 hold
 by_cases c : x.year < o.until_
 ·rw [if_pos c, e69]; simp [c]
 ·rw [if_neg c]; simp [c]
theorem e141 (l : List Int) (n : Int) : m141 l n = some (decide (n ∈ l)) := by
 have : m141 l n = gCon l n := rfl
 rw [this, gCon_some]
theorem e64 (b : reading) (o : Order) : m64 b o = some (hold b.reader o) := by
 unfold m64 hold m101
 by_cases c : b.reader.year < o.until_
 ·rw [if_pos c, e141]; simp [c]
 ·rw [if_neg c]; simp [c]
theorem e20 {r : Report} (h : OkR r) (x : Reader) (j : Int) : m20 r x j = some (hid x r.orders j) := by
 have := loop_all r.orders (fun o => !(hold x o && In j o.from_ (o.to_ - 1))) (.inr true : Unit ⊕ Bool) (.inl ()) (step := m20_1 r x j) (fun i o hi hx => by
  have ok := h.orders o (List.mem_of_getElem? hx)
  have := ok.to1; have := ok.ton; have := h.w60
  unfold m20_1
  rw [if_pos (by omega), hx, Option.bind_some, e45, Option.bind_some]
  cases hold x o with
  | false => rfl
  | true =>
   rw [if_pos rfl, chk_t (by omega), e31]
   cases In j o.from_ (o.to_ - 1) <;> rfl) (by unfold m20_1; simp)
 unfold m20 hid
 rw [this]
 cases hb : r.orders.any (fun o => hold x o && In j o.from_ (o.to_ - 1)) with
 | true =>
  rw [if_neg (fun hh => by
   obtain ⟨o, ho, h1⟩ := List.any_eq_true.1 hb
   have := List.all_eq_true.1 hh o ho
   rw [h1] at this; cases this)]; rfl
 | false =>
  rw [if_pos (List.all_eq_true.2 fun o ho => by
   have := List.any_eq_false.1 hb o ho
   rw [Bool.not_eq_true] at this
   rw [this]; rfl)]; rfl
theorem get_set (A : A60_Bool) {k j : Nat} (hk : k < 60) (hj : j < 60) (v : Bool) : (A.set k v).get j = if k = j then v else A.get j := by
 unfold A60_Bool.get
 rw [A60_Bool.vset A v k hk, List.getD_eq_getElem?_getD, List.getD_eq_getElem?_getD]
 by_cases e : k = j
 ·subst e; rw [if_pos rfl, List.getElem?_set_self (show k < A.vals.length from hk)]; rfl
 ·rw [if_neg e, List.getElem?_set_ne e]
theorem get_zero (j : Nat) (hj : j < 60) : A60_Bool.zero.get j = false := by
 have : A60_Bool.zero.vals = List.replicate 60 false := rfl
 unfold A60_Bool.get
 rw [this, List.getD_eq_getElem?_getD, List.getElem?_replicate, if_pos hj]; rfl
theorem l402 (o : Order) {n : Nat} (h : OkO n o) (h60 : n ≤ 60) (A : A60_Bool) : ∃ B, loopO (m40_2 o) (o.from_, A) = some B ∧ ∀ j < 60, B.get j = (A.get j || In (j : Int) o.from_ (o.to_ - 1)) := by
 have a1 := h.to1; have a2 := h.ton; have a3 := h.from0; have a4 := h.fromt
 refine loop_inv2 (step := m40_2 o) (o.to_ - o.from_).toNat (fun i s => s.1 = o.from_ + i ∧ ∀ j < 60, s.2.get j = (A.get j || decide (o.from_ ≤ (j : Int) ∧ (j : Int) < o.from_ + i))) _ (fun i s hi hs => .inl ?_) (fun s hs => ?_) _ 0 _ rfl (by omega) ⟨by simp, fun j hj => by rw [decide_eq_false (by omega)]; simp⟩
 ·obtain ⟨k, B⟩ := s
  obtain ⟨rfl, hs⟩ := hs
  dsimp only at hs
  refine ⟨(o.from_ + (i + 1 : Nat), A60_Bool.set B (o.from_ + i).toNat true), ?_, rfl, fun j hj => ?_⟩
  ·unfold m40_2
   dsimp only
   rw [if_pos (by omega), chk_t (by omega), chk_t (by omega), chk_t (by omega), show o.from_ + (i : Int) + 1 = o.from_ + ((i + 1 : Nat) : Int) by omega]
  ·dsimp only
   rw [get_set B (by omega) hj, hs j hj]
   by_cases e : (o.from_ + (i : Int)).toNat = j
   ·rw [if_pos e, decide_eq_true (by omega)]; simp
   ·rw [if_neg e]
    congr 1
    rw [decide_eq_decide]; omega
 ·obtain ⟨k, B⟩ := s
  obtain ⟨rfl, hs⟩ := hs
  dsimp only at hs
  refine ⟨B, by unfold m40_2; dsimp only; rw [if_neg (by omega)], fun j hj => ?_⟩
  rw [hs j hj]
  congr 1
  unfold In
  rw [← Bool.decide_and, decide_eq_decide]; omega
theorem e40 {r : Report} (h : OkR r) {x : Reader} (hx : OkX x) : ∃ A, m40 r x = some (⟨r, x, A⟩, 0) ∧ ∀ j < 60, A.get j = hid x r.orders (j : Int) := by
 obtain ⟨A, h1, h2⟩ := loop_inv2 (step := m40_1 r x) r.orders.length (fun i s => s.1 = i ∧ ∀ j < 60, s.2.get j = hid x (r.orders.take i) (j : Int)) (fun A => ∀ j < 60, A.get j = hid x r.orders (j : Int)) (fun i s hi hs => .inl (by
  obtain ⟨k, B⟩ := s
  obtain ⟨rfl, hs⟩ := hs
  dsimp only at hs hi
  have ho : r.orders[k]? = some r.orders[k] := List.getElem?_eq_getElem hi
  have hstep : ∀ j, hid x (r.orders.take (k + 1)) j = (hid x (r.orders.take k) j || (hold x r.orders[k] && In j r.orders[k].from_ (r.orders[k].to_ - 1))) := fun j => by
   unfold hid
   rw [List.take_succ, ho, List.any_append]; simp
  unfold m40_1
  dsimp only
  rw [if_pos (by omega), ho, Option.bind_some, e64, Option.bind_some]
  cases hh : hold x r.orders[k] with
  | false =>
   refine ⟨(k + 1, B), ?_, rfl, fun j hj => ?_⟩
   ·rw [if_neg (by decide)]; rfl
   ·rw [hs j hj, hstep, hh]; simp
  | true =>
   obtain ⟨B', b1, b2⟩ := l402 r.orders[k] (h.orders _ (List.getElem_mem hi)) h.w60 B
   refine ⟨(k + 1, B'), ?_, rfl, fun j hj => ?_⟩
   ·rw [if_pos rfl, b1]; rfl
   ·rw [b2 j hj, hs j hj, hstep, hh]; simp)) (fun s hs => by
  obtain ⟨k, B⟩ := s
  obtain ⟨rfl, hs⟩ := hs
  dsimp only at hs
  rw [List.take_length] at hs
  exact ⟨B, by unfold m40_1; simp, hs⟩) r.orders.length 0 (0, A60_Bool.zero) rfl (by omega) ⟨rfl, fun j hj => by rw [get_zero j hj]; rfl⟩
 refine ⟨A, ?_, h2⟩
 unfold m40
 rw [e61 h, Option.bind_some, if_neg (by simp), e62, Option.bind_some, if_pos hx.year, e63 hx.may, Option.bind_some]
 simp only [Bool.not_true, Option.bind_some, Bool.false_eq_true, if_false, h1]
end T10
namespace T10
open Go Go.Proofs Pk Go.Lib
def pcs (h : Nat → Bool) : List Word → Nat → Nat → List (Int × Piece)
 | [], _, _ => []
 | w :: ws, i, n => if h i then (if 0 < i ∧ h (i - 1) = true then pcs h ws (i + 1) n else (-1, ⟨[], (n : Int) / 3 + 1⟩) :: pcs h ws (i + 1) (n + 1)) else ((i : Int), ⟨w.text, (n : Int) / 3 + 1⟩) :: pcs h ws (i + 1) (n + 1)
theorem pcs_cons (h : Nat → Bool) (w : Word) (ws : List Word) (i n : Nat) : pcs h (w :: ws) i n = if h i then (if 0 < i ∧ h (i - 1) = true then pcs h ws (i + 1) n else (-1, ⟨[], (n : Int) / 3 + 1⟩) :: pcs h ws (i + 1) (n + 1)) else ((i : Int), ⟨w.text, (n : Int) / 3 + 1⟩) :: pcs h ws (i + 1) (n + 1) := rfl
theorem pcs_mem (h : Nat → Bool) : ∀ (ws : List Word) (i n : Nat) (q : Int × Piece), q ∈ pcs h ws i n → q.2.text ≠ [] → ∃ (j : Nat) (w : Word), ws[j]? = some w ∧ q.1 = ((i + j : Nat) : Int) ∧ q.2.text = w.text ∧ h (i + j) = false
 | [], i, n, q, hq, _ => by unfold pcs at hq; cases hq
 | w :: ws, i, n, q, hq, hne => by
  have up : ∀ {m : Nat}, q ∈ pcs h ws (i + 1) m → ∃ (j : Nat) (w' : Word), (w :: ws)[j]? = some w' ∧ q.1 = ((i + j : Nat) : Int) ∧ q.2.text = w'.text ∧ h (i + j) = false := fun {m} hm => by
   obtain ⟨j, w', h1, h2, h3, h4⟩ := pcs_mem h ws (i + 1) m q hm hne
   exact ⟨j + 1, w', by simpa using h1, by rw [h2]; congr 1; omega, h3, by rw [show i + (j + 1) = i + 1 + j by omega]; exact h4⟩
  unfold pcs at hq
  by_cases c : h i = true
  ·rw [if_pos c] at hq
   split at hq
   ·exact up hq
   ·rcases List.mem_cons.1 hq with rfl | hq
    ·exact absurd rfl hne
    ·exact up hq
  ·rw [if_neg c] at hq
   rcases List.mem_cons.1 hq with rfl | hq
   ·exact ⟨0, w, rfl, rfl, rfl, by simpa using c⟩
   ·exact up hq
theorem pcs_len (h : Nat → Bool) : ∀ (ws : List Word) (i n : Nat), (pcs h ws i n).length ≤ ws.length
 | [], _, _ => by unfold pcs; simp
 | w :: ws, i, n => by
  have a := fun m => pcs_len h ws (i + 1) m
  unfold pcs
  have a1 := a n; have a2 := a (n + 1)
  split
  ·split
   ·simp only [List.length_cons]; omega
   ·simp only [List.length_cons]; omega
  ·simp only [List.length_cons]; omega
theorem e15 {r : Report} (hr : OkR r) {x : Reader} (hx : OkX x) : m15 r x = some ((pcs (fun j => hid x r.orders (j : Int)) r.words 0 0).map (·.2), 0) := by
 obtain ⟨A, h1, h2⟩ := e40 hr hx
 have hw := hr.w60
 have hc := hr.col
 obtain ⟨e, a1, rfl⟩ := loop_inv2 (step := m15_1 (⟨r, x, A⟩, 0)) r.words.length
  (fun i s => s.2.1 = i ∧ s.1 ≤ i ∧ s.2.2.length ≤ i ∧ s.2.2 ++ (pcs (fun j => hid x r.orders (j : Int)) (r.words.drop i) i s.1).map (·.2) = (pcs (fun j => hid x r.orders (j : Int)) r.words 0 0).map (·.2))
  (fun e => e = (pcs (fun j => hid x r.orders (j : Int)) r.words 0 0).map (·.2)) (fun i s hi hs => .inl (by
   obtain ⟨n, k, l⟩ := s
   obtain ⟨rfl, hn, hl, hs⟩ := hs
   dsimp only at hn hl hs hi
   have hx' : r.words[k]? = some r.words[k] := List.getElem?_eq_getElem hi
   rw [List.drop_eq_getElem_cons hi, pcs_cons] at hs
   have hg := h2 k (by omega)
   unfold m15_1
   dsimp only
   rw [if_pos (by omega), hx', Option.bind_some, hc, chk_t (by omega), chk_t (by omega), chk_t (by omega), hg]
   by_cases c : hid x r.orders (k : Int) = true
   ·rw [if_pos c] at hs ⊢
    by_cases c0 : 0 < k
    ·have hg' := h2 (k - 1) (by omega)
     rw [if_pos (by omega), chk_t (by omega), show ((k : Int) - 1).toNat = k - 1 by omega, hg', Option.bind_some]
     by_cases c1 : hid x r.orders ((k - 1 : Nat) : Int) = true
     ·rw [if_pos ⟨c0, c1⟩] at hs
      rw [if_pos c1]
      exact ⟨(n, k + 1, l), rfl, rfl, by dsimp only; omega, by dsimp only; omega, hs⟩
     ·rw [if_neg (fun hh => c1 hh.2)] at hs
      rw [if_neg c1, Option.bind_some]
      dsimp only
      rw [chk_t (by omega), Option.bind_some, chk_t (by omega)]
      exact ⟨(n + 1, k + 1, l ++ [⟨[], (n : Int) / 3 + 1⟩]), rfl, rfl, by dsimp only; omega, by simp; omega, by simpa using hs⟩
    ·rw [if_neg (fun hh => c0 hh.1)] at hs
     rw [if_neg (by omega), Option.bind_some, if_neg (by decide), Option.bind_some]
     dsimp only
     rw [chk_t (by omega), Option.bind_some, chk_t (by omega)]
     exact ⟨(n + 1, k + 1, l ++ [⟨[], (n : Int) / 3 + 1⟩]), rfl, rfl, by dsimp only; omega, by simp; omega, by simpa using hs⟩
   ·rw [if_neg c] at hs ⊢
    rw [Option.bind_some]
    dsimp only
    rw [chk_t (by omega), Option.bind_some, chk_t (by omega)]
    exact ⟨(n + 1, k + 1, l ++ [⟨r.words[k].text, (n : Int) / 3 + 1⟩]), rfl, rfl, by dsimp only; omega, by simp; omega, by simpa using hs⟩)) (fun s hs => by
   obtain ⟨n, k, l⟩ := s
   obtain ⟨rfl, hn, hl, hs⟩ := hs
   dsimp only at hs
   rw [List.drop_length] at hs
   refine ⟨l, by unfold m15_1; simp, ?_⟩
   rw [← hs]; simp [pcs]) r.words.length 0 (0, 0, []) rfl (by omega) ⟨rfl, by simp, by simp, rfl⟩
 unfold m15
 rw [h1, Option.bind_some, if_neg (by simp), a1]
 rfl
theorem e18 {r : Report} (hr : OkR r) {x : Reader} (hx : OkX x) {p : Nat} {q : Int × Piece} (hq : (pcs (fun j => hid x r.orders (j : Int)) r.words 0 0)[p]? = some q) (hq0 : q.1 ≠ -1) : m18 r x (p : Int) = some (q.1, 0) := by
 obtain ⟨A, h1, h2⟩ := e40 hr hx
 have hw := hr.w60
 have hc := hr.col
 obtain ⟨e, a1, c, rfl⟩ := loop_inv2 (step := m18_1 (⟨r, x, A⟩, 0) (p : Int)) r.words.length
  (fun i s => s.2.1 = i ∧ s.2.2 = s.1 ∧ s.1 ≤ i ∧ s.1 ≤ p ∧ (pcs (fun j => hid x r.orders (j : Int)) (r.words.drop i) i s.1)[p - s.1]? = some q)
  (fun e => ∃ c, e = .inr (.inl (c, q.1))) (fun i s hi hs => by
   obtain ⟨n, k, m⟩ := s
   obtain ⟨e1, e2, hn, hp, hs⟩ := hs
   dsimp only at e1 e2 hn hp hs hi
   subst e1; have e2 := e2.symm; subst e2
   have hx' : r.words[k]? = some r.words[k] := List.getElem?_eq_getElem hi
   rw [List.drop_eq_getElem_cons hi, pcs_cons] at hs
   have hg := h2 k (by omega)
   have fin : ∀ (z : Int × Piece) (rest : List (Int × Piece)), (z :: rest)[p - n]? = some q → (n : Int) = (p : Int) → z.1 = q.1 := fun z rest hz he => by
    rw [show p - n = 0 by omega] at hz
    simp at hz; rw [hz]
   have nxt : ∀ (z : Int × Piece) (rest : List (Int × Piece)), (z :: rest)[p - n]? = some q → (n : Int) ≠ (p : Int) → rest[p - (n + 1)]? = some q := fun z rest hz he => by
    rw [show p - n = (p - (n + 1)) + 1 by omega] at hz
    simpa using hz
   unfold m18_1
   dsimp only
   rw [if_pos (by omega), hx', Option.bind_some, hc, chk_t (by omega), chk_t (by omega), chk_t (by omega), hg]
   by_cases c : hid x r.orders (k : Int) = true
   ·rw [if_pos c] at hs ⊢
    by_cases c0 : 0 < k
    ·have hg' := h2 (k - 1) (by omega)
     rw [if_pos (by omega), chk_t (by omega), show ((k : Int) - 1).toNat = k - 1 by omega, hg', Option.bind_some]
     by_cases c1 : hid x r.orders ((k - 1 : Nat) : Int) = true
     ·rw [if_pos ⟨c0, c1⟩] at hs
      rw [if_pos c1]
      exact .inl ⟨(n, k + 1, n), rfl, rfl, rfl, by dsimp only; omega, hp, hs⟩
     ·rw [if_neg (fun hh => c1 hh.2)] at hs
      rw [if_neg c1, Option.bind_some]
      dsimp only
      by_cases he : (n : Int) = (p : Int)
      ·rw [if_pos he, Option.bind_some]
       exact .inr ⟨_, rfl, n, by rw [← fin _ _ hs he]⟩
      ·rw [if_neg he, chk_t (by omega), Option.bind_some]
       dsimp only
       rw [chk_t (by omega)]
       exact .inl ⟨(n + 1, k + 1, n + 1), rfl, rfl, rfl, by dsimp only; omega, by dsimp only; omega, nxt _ _ hs he⟩
    ·rw [if_neg (fun hh => c0 hh.1)] at hs
     rw [if_neg (by omega), Option.bind_some, if_neg (by decide), Option.bind_some]
     dsimp only
     by_cases he : (n : Int) = (p : Int)
     ·rw [if_pos he, Option.bind_some]
      exact .inr ⟨_, rfl, n, by rw [← fin _ _ hs he]⟩
     ·rw [if_neg he, chk_t (by omega), Option.bind_some]
      dsimp only
      rw [chk_t (by omega)]
      exact .inl ⟨(n + 1, k + 1, n + 1), rfl, rfl, rfl, by dsimp only; omega, by dsimp only; omega, nxt _ _ hs he⟩
   ·rw [if_neg c] at hs ⊢
    rw [Option.bind_some]
    dsimp only
    by_cases he : (n : Int) = (p : Int)
    ·rw [if_pos he, Option.bind_some]
     exact .inr ⟨_, rfl, n, by rw [← fin _ _ hs he]⟩
    ·rw [if_neg he, chk_t (by omega), Option.bind_some]
     dsimp only
     rw [chk_t (by omega)]
     exact .inl ⟨(n + 1, k + 1, n + 1), rfl, rfl, rfl, by dsimp only; omega, by dsimp only; omega, nxt _ _ hs he⟩) (fun s hs => by
   obtain ⟨n, k, m⟩ := s
   obtain ⟨e1, e2, hn, hp, hs⟩ := hs
   dsimp only at e1 e2 hs
   subst e1; have e2 := e2.symm; subst e2
   rw [List.drop_length] at hs
   unfold pcs at hs
   simp at hs) r.words.length 0 (0, 0, 0) rfl (by omega) ⟨rfl, rfl, by simp, by simp, by simpa using hq⟩
 unfold m18
 rw [h1, Option.bind_some, if_neg (by simp), a1]
 simp [hq0]
theorem isd_itoa {n : Int} (h : 0 ≤ n) : ∀ c ∈ itoa n, okB c := fun c hc => by
 rw [itoa_pos h] at hc
 have h1 := List.all_eq_true.1 (dec_all n.toNat) c hc
 unfold isd at h1
 have := of_decide_eq_true h1
 unfold okB; omega
theorem ok_cite {a d : Int} (ha : 0 ≤ a ∧ a ≤ 999) (hd : 0 ≤ d ∧ d ≤ 65535) : OkW ⟨citeA a d, []⟩ := by
 have l1 := itoa_len ha.1 (by omega)
 have l2 := itoa_len hd.1 (by omega)
 refine ⟨rfl, ?_, fun c hc => ?_⟩
 ·unfold citeA; simp only [sAt, List.length_append, List.length_cons, List.length_nil]; omega
 ·unfold citeA at hc
  rcases List.mem_append.1 hc with hc | hc
  ·exact isd_itoa ha.1 c hc
  ·rcases List.mem_append.1 hc with hc | hc
   ·simp only [sAt, List.mem_singleton] at hc
    subst hc; exact ⟨by decide, by decide⟩
   ·exact isd_itoa hd.1 c hc
theorem read_few {v : Volume} {es : List Erratum} (h : Ok v es) (d : Int) : (readE (after v es d)).length ≤ 50 := by
 have hi := inv_after h d
 have h2 : (readE (after v es d)).length ≤ (after v es d).flatten.length := by
  unfold readE; rw [List.length_map]; exact List.length_filter_le _ _
 have h3 := (hi.small h upto_len).1
 omega
theorem read_find {v : Volume} {es : List Erratum} (h : Ok v es) {d : Int} {p : Paragraph} (hp : p ∈ readE (after v es d)) : (∃ e, findE (after v es d) p.anchor = some e) ∧ 1 ≤ p.anchor ∧ p.anchor ≤ 999 := by
 obtain ⟨e, he, _, rfl⟩ := read_ok h hp
 exact ⟨⟨e, (findE_some (inv_after h d).once).2 ⟨he, rfl⟩⟩, In_iff.1 (after_okT h d e he).2⟩
theorem law3 (h9 : m9 = some true) (v : Volume) (es : List Erratum) (day : Int) (os : List Order) (x : Reader) (hd : 0 ≤ day ∧ day ≤ 65535) : m3 v es day os x = some true := by
 obtain ⟨b, a1, a2⟩ := e5 v es
 unfold m3
 rw [a1, Option.bind_some]
 cases b with
 | false => rw [if_neg (by decide), Option.bind_some, if_pos rfl, h9]; rfl
 | true =>
  have hf := a2 rfl
  obtain ⟨r, g1, g2⟩ := e6 hf.all (fun p hp => Nat.le_trans (hf.ptext hp) (by decide))
  obtain ⟨q, g3, g4⟩ := e7 (v := v) (es := es) hf.all (fun x hx => Nat.le_trans (hf.etext x hx) (by decide))
  obtain ⟨bx, x1, x2⟩ := e8 x
  rw [if_pos rfl, g1, Option.bind_some]
  by_cases c1 : r = 0
  case neg => rw [if_pos c1, Option.bind_some, if_pos rfl, h9]; rfl
  rw [if_neg (by simpa using c1), g3, Option.bind_some]
  by_cases c2 : q = 0
  case neg => rw [if_pos c2, Option.bind_some, if_pos rfl, h9]; rfl
  rw [if_neg (by simpa using c2)]
  by_cases c3 : (12 : Int) < os.length
  ·rw [if_pos c3, Option.bind_some, if_pos rfl, h9]; rfl
  rw [if_neg c3]
  by_cases c4 : (8 : Int) < x.may.length
  ·rw [if_pos c4, Option.bind_some, if_pos rfl, h9]; rfl
  rw [if_neg c4, x1, Option.bind_some]
  cases bx with
  | false => rw [Option.bind_some, if_pos (show (!false) = true from rfl), h9]; rfl
  | true =>
  have hx := x2 rfl
  have h : Ok v es := ⟨hf, g2 c1, g4 c2⟩
  have hl := read_few h day
  rw [Option.bind_some, if_neg (by decide), e11 hf, Option.bind_some, e12 (by have := hf.errata; omega), Option.bind_some, chk_t (by omega), e10 h (by omega) (by omega), Option.bind_some]
  dsimp only
  rw [if_neg (by simp), Option.bind_some, decide_eq_false (by omega), if_neg (by decide)]
  have b1 := loop_fold (readE (after v es day)) (fun (a : List Word) p => a ++ [⟨citeA p.anchor day, []⟩]) (fun a => (.inl a : List Word ⊕ Bool)) (fun i a => a.length ≤ i) (step := m3_1 (readE (after v es day), 0) v es day) (fun i p a hi hp ha => by
   obtain ⟨⟨e, he⟩, f1, f2⟩ := read_find h (List.mem_of_getElem? hp)
   unfold m3_1
   dsimp only
   rw [if_pos (by omega), hp, Option.bind_some, e13A h (by omega) (by omega) (by omega), he, Option.bind_some, if_neg (by simp), chk_t (by omega)]) (fun i p a hi hp ha => by simp; omega) (fun a ha => by unfold m3_1; simp) (a0 := []) (by simp)
  rw [b1, Option.bind_some, foldl_snoc, List.nil_append]
  dsimp only
  have hW : ∀ w ∈ (⟨(readE (after v es day)).map (fun p => (⟨citeA p.anchor day, []⟩ : Word)), os, 3⟩ : Report).words, OkW w := fun w hw => by
   obtain ⟨p, hp, rfl⟩ := List.mem_map.1 hw
   obtain ⟨_, f1, f2⟩ := read_find h hp
   exact ok_cite (by omega) hd
  have hW60 : (⟨(readE (after v es day)).map (fun p => (⟨citeA p.anchor day, []⟩ : Word)), os, 3⟩ : Report).words.length ≤ 60 := by
   rw [List.length_map]; omega
  obtain ⟨z, z1, z2⟩ := e14 hW hW60 (show os.length ≤ 12 by omega) rfl
  rw [z1, Option.bind_some]
  by_cases c5 : z = 0
  case neg => rw [if_pos c5, h9]; rfl
  have hR : OkR ⟨(readE (after v es day)).map (fun p => (⟨citeA p.anchor day, []⟩ : Word)), os, 3⟩ := ⟨hW, hW60, show os.length ≤ 12 by omega, rfl, z2 c5⟩
  rw [if_neg (by simpa using c5), e16 hW hW60 (show os.length ≤ 12 by omega), Option.bind_some, e17 (by omega), Option.bind_some, e15 hR hx, Option.bind_some]
  dsimp only
  rw [if_neg (by simp)]
  have hpl := pcs_len (fun j => hid x os (j : Int)) ((readE (after v es day)).map (fun p => (⟨citeA p.anchor day, []⟩ : Word))) 0 0
  rw [List.length_map] at hpl
  have key := loop_all (pcs (fun j => hid x os (j : Int)) ((readE (after v es day)).map (fun p => (⟨citeA p.anchor day, []⟩ : Word))) 0 0) (fun _ => true) (.inr false : Unit ⊕ Bool) (.inl ()) (step := m3_2 ((pcs (fun j => hid x os (j : Int)) ((readE (after v es day)).map (fun p => (⟨citeA p.anchor day, []⟩ : Word))) 0 0).map (·.2), 0) ⟨(readE (after v es day)).map (fun p => (⟨citeA p.anchor day, []⟩ : Word)), os, 3⟩ x v es (readE (after v es day), 0) day ((readE (after v es day)).map (fun p => (⟨citeA p.anchor day, []⟩ : Word))) os x) (fun i q hi hq => by
   unfold m3_2
   simp only [List.length_map]
   rw [if_pos (by omega), List.getElem?_map, hq]
   simp only [Option.map_some, Option.bind_some]
   by_cases ct : q.2.text = []
   ·rw [if_pos ct]; rfl
   ·rw [if_neg ct]
    obtain ⟨j, w, j1, j2, j3, j4⟩ := pcs_mem _ _ 0 0 q (List.mem_of_getElem? hq) ct
    rw [List.getElem?_map, Option.map_eq_some_iff] at j1
    obtain ⟨p, hp, rfl⟩ := j1
    rw [Nat.zero_add] at j2 j4
    obtain ⟨⟨e, he⟩, f1, f2⟩ := read_find h (List.mem_of_getElem? hp)
    have hjl := lt_len hp
    have h19 := e19A h (c := ⟨2, ⟨p.anchor, day, 0⟩⟩) (e43 (e68A (a := p.anchor) (d := day) (by omega) (by omega))) rfl (by dsimp only; omega)
    dsimp only at h19
    rw [he] at h19
    rw [e18 hR hx hq (by rw [j2]; omega), Option.bind_some, j3, h19, Option.bind_some]
    dsimp only
    rw [if_neg (by simp), if_neg (by simp), if_neg (by omega), if_neg (by omega), if_neg (by simp), chk_t (by omega), j2, show ((j : Int)).toNat = j by omega, hp, Option.bind_some, if_neg (by simp), e20 hR]
    show Option.bind (Option.bind (Option.bind (Option.bind (some (hid x os (j : Int))) _) _) _) _ = _
    rw [j4]; rfl) (by unfold m3_2; simp)
  rw [key]
  simp [h9]
end T10
namespace T10.E
open Go Go.Proofs Pk
end T10.E
set_option maxHeartbeats 4000000
namespace T10.E
open Go Go.Proofs Pk
def m53_1 (v_0 : Volume) (s87 : Nat × List Paragraph) : Option ((Nat × List Paragraph) ⊕ (List Paragraph)) :=
 if (s87.1 : Int) < (v_0.parts.length : Int) then (
  (v_0.parts[s87.1]?).bind fun x117 =>
  chkE (s87.2.length + x117.paragraphs.length ≤ 1073741824) <|
  some (.inl ((s87.1 + 1), (s87.2 ++ x117.paragraphs))))
 else
 some (.inr s87.2)
theorem lm53_1 (v_0 : Volume) (s87 : Nat × List Paragraph) : LeO (T10.E.m53_1 v_0 s87) (T10.m53_1 v_0 s87) := by
 unfold T10.E.m53_1 T10.m53_1
 repeat' first
  | (with_reducible exact LeO.refl _)
  | (with_reducible refine LeO.loopE (fun _ => ?_) _)
  | (with_reducible refine LeO.sort (fun _ _ => ?_) _)
  | (with_reducible refine LeO.chk ?_)
  | (with_reducible refine LeO.chk2 ?_)
  | (with_reducible refine LeO.ite ?_ ?_)
  | (with_reducible refine LeO.bindS ?_ (fun _ => ?_) (fun _ => ?_) <;> try dsimp only)
  | (with_reducible refine LeO.bind ?_ fun _ => ?_)
  | (refine LeO.map ?_)
def m53 (v_0 : Volume) : Option (List Paragraph) :=
 (loopE (m53_1 v_0) (0, ([] : List Paragraph))).bind fun e82 =>
 some e82
theorem lm53 (v_0 : Volume) : LeO (T10.E.m53 v_0) (T10.m53 v_0) := by
 unfold T10.E.m53 T10.m53
 repeat' first
  | (with_reducible exact LeO.refl _)
  | (with_reducible exact lm53_1 _ _)
  | (with_reducible refine LeO.loopE (fun _ => ?_) _)
  | (with_reducible refine LeO.sort (fun _ _ => ?_) _)
  | (with_reducible refine LeO.chk ?_)
  | (with_reducible refine LeO.chk2 ?_)
  | (with_reducible refine LeO.ite ?_ ?_)
  | (with_reducible refine LeO.bindS ?_ (fun _ => ?_) (fun _ => ?_) <;> try dsimp only)
  | (with_reducible refine LeO.bind ?_ fun _ => ?_)
  | (refine LeO.map ?_)
def m44 (n_0 : Int) (low : Int) (high : Int) : Option (Bool) :=
 ((
  if low ≤ n_0 then (
   some (decide (n_0 ≤ high)))
  else
  some false
 ) : Option (Bool)).bind fun t4 =>
 some t4
theorem lm44 (n_0 : Int) (low : Int) (high : Int) : LeO (T10.E.m44 n_0 low high) (T10.m44 n_0 low high) := by
 unfold T10.E.m44 T10.m44
 repeat' first
  | (with_reducible exact LeO.refl _)
  | (with_reducible refine LeO.loopE (fun _ => ?_) _)
  | (with_reducible refine LeO.sort (fun _ _ => ?_) _)
  | (with_reducible refine LeO.chk ?_)
  | (with_reducible refine LeO.chk2 ?_)
  | (with_reducible refine LeO.ite ?_ ?_)
  | (with_reducible refine LeO.bindS ?_ (fun _ => ?_) (fun _ => ?_) <;> try dsimp only)
  | (with_reducible refine LeO.bind ?_ fun _ => ?_)
  | (refine LeO.map ?_)
def m34 (n_0 : Int) : Option (Bool) :=
 (m44 n_0 0 99999).bind fun r1 =>
 some r1
theorem lm34 (n_0 : Int) : LeO (T10.E.m34 n_0) (T10.m34 n_0) := by
 unfold T10.E.m34 T10.m34
 repeat' first
  | (with_reducible exact LeO.refl _)
  | (with_reducible exact lm44 _ _ _)
  | (with_reducible refine LeO.loopE (fun _ => ?_) _)
  | (with_reducible refine LeO.sort (fun _ _ => ?_) _)
  | (with_reducible refine LeO.chk ?_)
  | (with_reducible refine LeO.chk2 ?_)
  | (with_reducible refine LeO.ite ?_ ?_)
  | (with_reducible refine LeO.bindS ?_ (fun _ => ?_) (fun _ => ?_) <;> try dsimp only)
  | (with_reducible refine LeO.bind ?_ fun _ => ?_)
  | (refine LeO.map ?_)
def m158 (x_0 : Paragraph) (f0_ : Paragraph → Option Bool) : Option (Bool) :=
 (f0_ x_0).bind fun r4 =>
 some (!r4)
theorem lm158 (x_0 : Paragraph) {f0_ f0_' : Paragraph → Option Bool} (hf0_ : ∀ y0, LeO (f0_ y0) (f0_' y0)) : LeO (T10.E.m158 x_0 f0_) (T10.m158 x_0 f0_') := by
 unfold T10.E.m158 T10.m158
 repeat' first
  | (with_reducible exact LeO.refl _)
  | (with_reducible exact hf0_ _)
  | (with_reducible refine LeO.loopE (fun _ => ?_) _)
  | (with_reducible refine LeO.sort (fun _ _ => ?_) _)
  | (with_reducible refine LeO.chk ?_)
  | (with_reducible refine LeO.chk2 ?_)
  | (with_reducible refine LeO.ite ?_ ?_)
  | (with_reducible refine LeO.bindS ?_ (fun _ => ?_) (fun _ => ?_) <;> try dsimp only)
  | (with_reducible refine LeO.bind ?_ fun _ => ?_)
  | (refine LeO.map ?_)
def m199_1 (s_0 : List Paragraph) (f_1 : Paragraph → Option Bool) (s23 : Nat) : Option ((Nat) ⊕ ((Unit) ⊕ Int)) :=
 if (s23 : Int) < (s_0.length : Int) then (
  (s_0[s23]?).bind fun x46 =>
  (f_1 x46).bind fun r54 =>
  if r54 then (
   some (.inr (.inr (s23 : Int))))
  else
  some (.inl (s23 + 1)))
 else
 some (.inr (.inl ()))
theorem lm199_1 (s_0 : List Paragraph) {f_1 f_1' : Paragraph → Option Bool} (hf_1 : ∀ y0, LeO (f_1 y0) (f_1' y0)) (s23 : Nat) : LeO (T10.E.m199_1 s_0 f_1 s23) (T10.m199_1 s_0 f_1' s23) := by
 unfold T10.E.m199_1 T10.m199_1
 repeat' first
  | (with_reducible exact LeO.refl _)
  | (with_reducible exact hf_1 _)
  | (with_reducible refine LeO.loopE (fun _ => ?_) _)
  | (with_reducible refine LeO.sort (fun _ _ => ?_) _)
  | (with_reducible refine LeO.chk ?_)
  | (with_reducible refine LeO.chk2 ?_)
  | (with_reducible refine LeO.ite ?_ ?_)
  | (with_reducible refine LeO.bindS ?_ (fun _ => ?_) (fun _ => ?_) <;> try dsimp only)
  | (with_reducible refine LeO.bind ?_ fun _ => ?_)
  | (refine LeO.map ?_)
def m199 (s_0 : List Paragraph) (f_1 : Paragraph → Option Bool) : Option (Int) :=
 (loopE (m199_1 s_0 f_1) 0).bind fun e19 => match e19 with
 | .inr z => some z
 | .inl t22 =>
 some (-1)
theorem lm199 (s_0 : List Paragraph) {f_1 f_1' : Paragraph → Option Bool} (hf_1 : ∀ y0, LeO (f_1 y0) (f_1' y0)) : LeO (T10.E.m199 s_0 f_1) (T10.m199 s_0 f_1') := by
 unfold T10.E.m199 T10.m199
 repeat' first
  | (with_reducible exact LeO.refl _)
  | (with_reducible refine lm199_1 _ (fun _ => ?_) _)
  | (with_reducible exact hf_1 _)
  | (with_reducible refine LeO.loopE (fun _ => ?_) _)
  | (with_reducible refine LeO.sort (fun _ _ => ?_) _)
  | (with_reducible refine LeO.chk ?_)
  | (with_reducible refine LeO.chk2 ?_)
  | (with_reducible refine LeO.ite ?_ ?_)
  | (with_reducible refine LeO.bindS ?_ (fun _ => ?_) (fun _ => ?_) <;> try dsimp only)
  | (with_reducible refine LeO.bind ?_ fun _ => ?_)
  | (refine LeO.map ?_)
def m157 (s_0 : List Paragraph) (f_1 : Paragraph → Option Bool) : Option (Bool) :=
 (m199 s_0 f_1).bind fun r1 =>
 some (decide (0 ≤ r1))
theorem lm157 (s_0 : List Paragraph) {f_1 f_1' : Paragraph → Option Bool} (hf_1 : ∀ y0, LeO (f_1 y0) (f_1' y0)) : LeO (T10.E.m157 s_0 f_1) (T10.m157 s_0 f_1') := by
 unfold T10.E.m157 T10.m157
 repeat' first
  | (with_reducible exact LeO.refl _)
  | (with_reducible refine lm199 _ (fun _ => ?_))
  | (with_reducible exact hf_1 _)
  | (with_reducible refine LeO.loopE (fun _ => ?_) _)
  | (with_reducible refine LeO.sort (fun _ _ => ?_) _)
  | (with_reducible refine LeO.chk ?_)
  | (with_reducible refine LeO.chk2 ?_)
  | (with_reducible refine LeO.ite ?_ ?_)
  | (with_reducible refine LeO.bindS ?_ (fun _ => ?_) (fun _ => ?_) <;> try dsimp only)
  | (with_reducible refine LeO.bind ?_ fun _ => ?_)
  | (refine LeO.map ?_)
def m122 (l_0 : List Paragraph) (right : Paragraph → Option Bool) : Option (Bool) :=
 (m157 l_0 (fun x0_ => m158 x0_ right)).bind fun r5 =>
 some (!r5)
theorem lm122 (l_0 : List Paragraph) {right right' : Paragraph → Option Bool} (hright : ∀ y0, LeO (right y0) (right' y0)) : LeO (T10.E.m122 l_0 right) (T10.m122 l_0 right') := by
 unfold T10.E.m122 T10.m122
 repeat' first
  | (with_reducible exact LeO.refl _)
  | (with_reducible refine lm157 _ (fun _ => ?_))
  | (with_reducible refine lm158 _ (fun _ => ?_))
  | (with_reducible exact hright _)
  | (with_reducible refine LeO.loopE (fun _ => ?_) _)
  | (with_reducible refine LeO.sort (fun _ _ => ?_) _)
  | (with_reducible refine LeO.chk ?_)
  | (with_reducible refine LeO.chk2 ?_)
  | (with_reducible refine LeO.ite ?_ ?_)
  | (with_reducible refine LeO.bindS ?_ (fun _ => ?_) (fun _ => ?_) <;> try dsimp only)
  | (with_reducible refine LeO.bind ?_ fun _ => ?_)
  | (refine LeO.map ?_)
def m83 (n_0 : Int) : Option (Bool) :=
 (m44 n_0 1 999).bind fun r1 =>
 some r1
theorem lm83 (n_0 : Int) : LeO (T10.E.m83 n_0) (T10.m83 n_0) := by
 unfold T10.E.m83 T10.m83
 repeat' first
  | (with_reducible exact LeO.refl _)
  | (with_reducible exact lm44 _ _ _)
  | (with_reducible refine LeO.loopE (fun _ => ?_) _)
  | (with_reducible refine LeO.sort (fun _ _ => ?_) _)
  | (with_reducible refine LeO.chk ?_)
  | (with_reducible refine LeO.chk2 ?_)
  | (with_reducible refine LeO.ite ?_ ?_)
  | (with_reducible refine LeO.bindS ?_ (fun _ => ?_) (fun _ => ?_) <;> try dsimp only)
  | (with_reducible refine LeO.bind ?_ fun _ => ?_)
  | (refine LeO.map ?_)
def m160 (x_0 : Int) (f0_ : Int → Option Bool) : Option (Bool) :=
 (f0_ x_0).bind fun r1 =>
 some (!r1)
theorem lm160 (x_0 : Int) {f0_ f0_' : Int → Option Bool} (hf0_ : ∀ y0, LeO (f0_ y0) (f0_' y0)) : LeO (T10.E.m160 x_0 f0_) (T10.m160 x_0 f0_') := by
 unfold T10.E.m160 T10.m160
 repeat' first
  | (with_reducible exact LeO.refl _)
  | (with_reducible exact hf0_ _)
  | (with_reducible refine LeO.loopE (fun _ => ?_) _)
  | (with_reducible refine LeO.sort (fun _ _ => ?_) _)
  | (with_reducible refine LeO.chk ?_)
  | (with_reducible refine LeO.chk2 ?_)
  | (with_reducible refine LeO.ite ?_ ?_)
  | (with_reducible refine LeO.bindS ?_ (fun _ => ?_) (fun _ => ?_) <;> try dsimp only)
  | (with_reducible refine LeO.bind ?_ fun _ => ?_)
  | (refine LeO.map ?_)
def m200_1 (s_0 : List UInt8) (f_1 : Int → Option Bool) (s23 : Nat) : Option ((Nat) ⊕ ((Unit) ⊕ Int)) :=
 if (s23 : Int) < (s_0.length : Int) then (
  (s_0[s23]?).bind fun x46 =>
  (f_1 (x46.toNat : Int)).bind fun r54 =>
  if r54 then (
   some (.inr (.inr (s23 : Int))))
  else
  some (.inl (s23 + 1)))
 else
 some (.inr (.inl ()))
theorem lm200_1 (s_0 : List UInt8) {f_1 f_1' : Int → Option Bool} (hf_1 : ∀ y0, LeO (f_1 y0) (f_1' y0)) (s23 : Nat) : LeO (T10.E.m200_1 s_0 f_1 s23) (T10.m200_1 s_0 f_1' s23) := by
 unfold T10.E.m200_1 T10.m200_1
 repeat' first
  | (with_reducible exact LeO.refl _)
  | (with_reducible exact hf_1 _)
  | (with_reducible refine LeO.loopE (fun _ => ?_) _)
  | (with_reducible refine LeO.sort (fun _ _ => ?_) _)
  | (with_reducible refine LeO.chk ?_)
  | (with_reducible refine LeO.chk2 ?_)
  | (with_reducible refine LeO.ite ?_ ?_)
  | (with_reducible refine LeO.bindS ?_ (fun _ => ?_) (fun _ => ?_) <;> try dsimp only)
  | (with_reducible refine LeO.bind ?_ fun _ => ?_)
  | (refine LeO.map ?_)
def m200 (s_0 : List UInt8) (f_1 : Int → Option Bool) : Option (Int) :=
 (loopE (m200_1 s_0 f_1) 0).bind fun e19 => match e19 with
 | .inr z => some z
 | .inl t22 =>
 some (-1)
theorem lm200 (s_0 : List UInt8) {f_1 f_1' : Int → Option Bool} (hf_1 : ∀ y0, LeO (f_1 y0) (f_1' y0)) : LeO (T10.E.m200 s_0 f_1) (T10.m200 s_0 f_1') := by
 unfold T10.E.m200 T10.m200
 repeat' first
  | (with_reducible exact LeO.refl _)
  | (with_reducible refine lm200_1 _ (fun _ => ?_) _)
  | (with_reducible exact hf_1 _)
  | (with_reducible refine LeO.loopE (fun _ => ?_) _)
  | (with_reducible refine LeO.sort (fun _ _ => ?_) _)
  | (with_reducible refine LeO.chk ?_)
  | (with_reducible refine LeO.chk2 ?_)
  | (with_reducible refine LeO.ite ?_ ?_)
  | (with_reducible refine LeO.bindS ?_ (fun _ => ?_) (fun _ => ?_) <;> try dsimp only)
  | (with_reducible refine LeO.bind ?_ fun _ => ?_)
  | (refine LeO.map ?_)
def m159 (s_0 : List UInt8) (f_1 : Int → Option Bool) : Option (Bool) :=
 (m200 s_0 f_1).bind fun r1 =>
 some (decide (0 ≤ r1))
theorem lm159 (s_0 : List UInt8) {f_1 f_1' : Int → Option Bool} (hf_1 : ∀ y0, LeO (f_1 y0) (f_1' y0)) : LeO (T10.E.m159 s_0 f_1) (T10.m159 s_0 f_1') := by
 unfold T10.E.m159 T10.m159
 repeat' first
  | (with_reducible exact LeO.refl _)
  | (with_reducible refine lm200 _ (fun _ => ?_))
  | (with_reducible exact hf_1 _)
  | (with_reducible refine LeO.loopE (fun _ => ?_) _)
  | (with_reducible refine LeO.sort (fun _ _ => ?_) _)
  | (with_reducible refine LeO.chk ?_)
  | (with_reducible refine LeO.chk2 ?_)
  | (with_reducible refine LeO.ite ?_ ?_)
  | (with_reducible refine LeO.bindS ?_ (fun _ => ?_) (fun _ => ?_) <;> try dsimp only)
  | (with_reducible refine LeO.bind ?_ fun _ => ?_)
  | (refine LeO.map ?_)
def m125 (l_0 : List UInt8) (right : Int → Option Bool) : Option (Bool) :=
 (m159 l_0 (fun x0_ => m160 x0_ right)).bind fun r5 =>
 some (!r5)
theorem lm125 (l_0 : List UInt8) {right right' : Int → Option Bool} (hright : ∀ y0, LeO (right y0) (right' y0)) : LeO (T10.E.m125 l_0 right) (T10.m125 l_0 right') := by
 unfold T10.E.m125 T10.m125
 repeat' first
  | (with_reducible exact LeO.refl _)
  | (with_reducible refine lm159 _ (fun _ => ?_))
  | (with_reducible refine lm160 _ (fun _ => ?_))
  | (with_reducible exact hright _)
  | (with_reducible refine LeO.loopE (fun _ => ?_) _)
  | (with_reducible refine LeO.sort (fun _ _ => ?_) _)
  | (with_reducible refine LeO.chk ?_)
  | (with_reducible refine LeO.chk2 ?_)
  | (with_reducible refine LeO.ite ?_ ?_)
  | (with_reducible refine LeO.bindS ?_ (fun _ => ?_) (fun _ => ?_) <;> try dsimp only)
  | (with_reducible refine LeO.bind ?_ fun _ => ?_)
  | (refine LeO.map ?_)
def m126 (c_0 : Int) : Option (Bool) :=
 ((
  if (32 : Int) ≤ c_0 then (
   some (decide (c_0 ≤ 126)))
  else
  some false
 ) : Option (Bool)).bind fun t4 =>
 some t4
theorem lm126 (c_0 : Int) : LeO (T10.E.m126 c_0) (T10.m126 c_0) := by
 unfold T10.E.m126 T10.m126
 repeat' first
  | (with_reducible exact LeO.refl _)
  | (with_reducible refine LeO.loopE (fun _ => ?_) _)
  | (with_reducible refine LeO.sort (fun _ _ => ?_) _)
  | (with_reducible refine LeO.chk ?_)
  | (with_reducible refine LeO.chk2 ?_)
  | (with_reducible refine LeO.ite ?_ ?_)
  | (with_reducible refine LeO.bindS ?_ (fun _ => ?_) (fun _ => ?_) <;> try dsimp only)
  | (with_reducible refine LeO.bind ?_ fun _ => ?_)
  | (refine LeO.map ?_)
def m84 (s_0 : Bytes) : Option (Bool) :=
 ((
  (m44 (s_0.length : Int) 1 200).bind fun r20 =>
  if r20 then (
   chkE (s_0.length ≤ 1073741824) <|
   (m125 s_0 (m126)).bind fun r32 =>
   some r32)
  else
  some false
 ) : Option (Bool)).bind fun t17 =>
 some t17
theorem lm84 (s_0 : Bytes) : LeO (T10.E.m84 s_0) (T10.m84 s_0) := by
 unfold T10.E.m84 T10.m84
 repeat' first
  | (with_reducible exact LeO.refl _)
  | (with_reducible exact lm44 _ _ _)
  | (with_reducible refine lm125 _ (fun _ => ?_))
  | (with_reducible exact lm126 _)
  | (with_reducible refine LeO.loopE (fun _ => ?_) _)
  | (with_reducible refine LeO.sort (fun _ _ => ?_) _)
  | (with_reducible refine LeO.chk ?_)
  | (with_reducible refine LeO.chk2 ?_)
  | (with_reducible refine LeO.ite ?_ ?_)
  | (with_reducible refine LeO.bindS ?_ (fun _ => ?_) (fun _ => ?_) <;> try dsimp only)
  | (with_reducible refine LeO.bind ?_ fun _ => ?_)
  | (refine LeO.map ?_)
def m123 (p_0 : Paragraph) : Option (Bool) :=
 ((
  (m83 p_0.anchor).bind fun r16 =>
  if r16 then (
   (m84 p_0.text).bind fun r21 =>
   some r21)
  else
  some false
 ) : Option (Bool)).bind fun t13 =>
 some t13
theorem lm123 (p_0 : Paragraph) : LeO (T10.E.m123 p_0) (T10.m123 p_0) := by
 unfold T10.E.m123 T10.m123
 repeat' first
  | (with_reducible exact LeO.refl _)
  | (with_reducible exact lm83 _)
  | (with_reducible exact lm84 _)
  | (with_reducible refine LeO.loopE (fun _ => ?_) _)
  | (with_reducible refine LeO.sort (fun _ _ => ?_) _)
  | (with_reducible refine LeO.chk ?_)
  | (with_reducible refine LeO.chk2 ?_)
  | (with_reducible refine LeO.ite ?_ ?_)
  | (with_reducible refine LeO.bindS ?_ (fun _ => ?_) (fun _ => ?_) <;> try dsimp only)
  | (with_reducible refine LeO.bind ?_ fun _ => ?_)
  | (refine LeO.map ?_)
def m80_1 (v_0 : Volume) (s59 : Nat) : Option ((Nat) ⊕ ((Unit) ⊕ Bool)) :=
 if (s59 : Int) < (v_0.parts.length : Int) then (
  (v_0.parts[s59]?).bind fun x112 =>
  ((
   (m34 x112.day).bind fun r155 =>
   if r155 then (
    if v_0.bound < x112.day then (
     some true)
    else
    if 0 < (s59 : Int) then (
     (v_0.parts[((s59 : Int) - 1).toNat]?).bind fun x166 =>
     some (decide (x112.day ≤ x166.day)))
    else
    some false)
   else
   some true
  ) : Option (Bool)).bind fun t152 =>
  if t152 then (
   some (.inr (.inr false)))
  else
  some (.inl (s59 + 1)))
 else
 some (.inr (.inl ()))
theorem lm80_1 (v_0 : Volume) (s59 : Nat) : LeO (T10.E.m80_1 v_0 s59) (T10.m80_1 v_0 s59) := by
 unfold T10.E.m80_1 T10.m80_1
 repeat' first
  | (with_reducible exact LeO.refl _)
  | (with_reducible exact lm34 _)
  | (with_reducible refine LeO.loopE (fun _ => ?_) _)
  | (with_reducible refine LeO.sort (fun _ _ => ?_) _)
  | (with_reducible refine LeO.chk ?_)
  | (with_reducible refine LeO.chk2 ?_)
  | (with_reducible refine LeO.ite ?_ ?_)
  | (with_reducible refine LeO.bindS ?_ (fun _ => ?_) (fun _ => ?_) <;> try dsimp only)
  | (with_reducible refine LeO.bind ?_ fun _ => ?_)
  | (refine LeO.map ?_)
def m80 (v_0 : Volume) : Option (Bool) :=
 (loopE (m80_1 v_0) 0).bind fun e55 => match e55 with
 | .inr z => some z
 | .inl t58 =>
 ((
  (m44 v_0.number 1 99).bind fun r227 =>
  if r227 then (
   (m34 v_0.bound).bind fun r232 =>
   if r232 then (
    (m44 v_0.height 1 60).bind fun r237 =>
    if r237 then (
     (m44 v_0.width 10 80).bind fun r242 =>
     if r242 then (
      (m53 v_0).bind fun r247 =>
      (m122 r247 (m123)).bind fun r255 =>
      some r255)
     else
     some false)
    else
    some false)
   else
   some false)
  else
  some false
 ) : Option (Bool)).bind fun t224 =>
 some t224
theorem lm80 (v_0 : Volume) : LeO (T10.E.m80 v_0) (T10.m80 v_0) := by
 unfold T10.E.m80 T10.m80
 repeat' first
  | (with_reducible exact LeO.refl _)
  | (with_reducible exact lm80_1 _ _)
  | (with_reducible exact lm44 _ _ _)
  | (with_reducible exact lm34 _)
  | (with_reducible exact lm53 _)
  | (with_reducible refine lm122 _ (fun _ => ?_))
  | (with_reducible exact lm123 _)
  | (with_reducible refine LeO.loopE (fun _ => ?_) _)
  | (with_reducible refine LeO.sort (fun _ _ => ?_) _)
  | (with_reducible refine LeO.chk ?_)
  | (with_reducible refine LeO.chk2 ?_)
  | (with_reducible refine LeO.ite ?_ ?_)
  | (with_reducible refine LeO.bindS ?_ (fun _ => ?_) (fun _ => ?_) <;> try dsimp only)
  | (with_reducible refine LeO.bind ?_ fun _ => ?_)
  | (refine LeO.map ?_)
def m50_1 (r7 : List Paragraph) (s98 : Nat × (List (Int × Bool))) : Option ((Nat × (List (Int × Bool))) ⊕ (((List (Int × Bool))) ⊕ Int)) :=
 if (s98.1 : Int) < (r7.length : Int) then (
  (r7[s98.1]?).bind fun x121 =>
  if (lkp s98.2 x121.anchor).getD false then (
   some (.inr (.inr 6)))
  else
  some (.inl ((s98.1 + 1), (put s98.2 x121.anchor true))))
 else
 some (.inr (.inl s98.2))
theorem lm50_1 (r7 : List Paragraph) (s98 : Nat × (List (Int × Bool))) : LeO (T10.E.m50_1 r7 s98) (T10.m50_1 r7 s98) := by
 unfold T10.E.m50_1 T10.m50_1
 repeat' first
  | (with_reducible exact LeO.refl _)
  | (with_reducible refine LeO.loopE (fun _ => ?_) _)
  | (with_reducible refine LeO.sort (fun _ _ => ?_) _)
  | (with_reducible refine LeO.chk ?_)
  | (with_reducible refine LeO.chk2 ?_)
  | (with_reducible refine LeO.ite ?_ ?_)
  | (with_reducible refine LeO.bindS ?_ (fun _ => ?_) (fun _ => ?_) <;> try dsimp only)
  | (with_reducible refine LeO.bind ?_ fun _ => ?_)
  | (refine LeO.map ?_)
def m50 (v_0 : Volume) : Option (Int) :=
 (m53 v_0).bind fun r7 =>
 ((
  if 6 < (v_0.parts.length : Int) then (
   some true)
  else
  some (decide (30 < (r7.length : Int)))
 ) : Option (Bool)).bind fun t30 =>
 if t30 then (
  some 3)
 else
 (m80 v_0).bind fun r48 =>
 if r48 then (
  (loopE (m50_1 r7) (0, ([] : List (Int × Bool)))).bind fun e94 => match e94 with
  | .inr z => some z
  | .inl t97 =>
  some 0)
 else
 some 1
theorem lm50 (v_0 : Volume) : LeO (T10.E.m50 v_0) (T10.m50 v_0) := by
 unfold T10.E.m50 T10.m50
 repeat' first
  | (with_reducible exact LeO.refl _)
  | (with_reducible exact lm53 _)
  | (with_reducible exact lm80 _)
  | (with_reducible exact lm50_1 _ _)
  | (with_reducible refine LeO.loopE (fun _ => ?_) _)
  | (with_reducible refine LeO.sort (fun _ _ => ?_) _)
  | (with_reducible refine LeO.chk ?_)
  | (with_reducible refine LeO.chk2 ?_)
  | (with_reducible refine LeO.ite ?_ ?_)
  | (with_reducible refine LeO.bindS ?_ (fun _ => ?_) (fun _ => ?_) <;> try dsimp only)
  | (with_reducible refine LeO.bind ?_ fun _ => ?_)
  | (refine LeO.map ?_)
def m82 (x_0 : Erratum) (f0_ : Erratum → Option Bool) : Option (Bool) :=
 (f0_ x_0).bind fun r4 =>
 some (!r4)
theorem lm82 (x_0 : Erratum) {f0_ f0_' : Erratum → Option Bool} (hf0_ : ∀ y0, LeO (f0_ y0) (f0_' y0)) : LeO (T10.E.m82 x_0 f0_) (T10.m82 x_0 f0_') := by
 unfold T10.E.m82 T10.m82
 repeat' first
  | (with_reducible exact LeO.refl _)
  | (with_reducible exact hf0_ _)
  | (with_reducible refine LeO.loopE (fun _ => ?_) _)
  | (with_reducible refine LeO.sort (fun _ _ => ?_) _)
  | (with_reducible refine LeO.chk ?_)
  | (with_reducible refine LeO.chk2 ?_)
  | (with_reducible refine LeO.ite ?_ ?_)
  | (with_reducible refine LeO.bindS ?_ (fun _ => ?_) (fun _ => ?_) <;> try dsimp only)
  | (with_reducible refine LeO.bind ?_ fun _ => ?_)
  | (refine LeO.map ?_)
def m124_1 (s_0 : List Erratum) (f_1 : Erratum → Option Bool) (s23 : Nat) : Option ((Nat) ⊕ ((Unit) ⊕ Int)) :=
 if (s23 : Int) < (s_0.length : Int) then (
  (s_0[s23]?).bind fun x46 =>
  (f_1 x46).bind fun r54 =>
  if r54 then (
   some (.inr (.inr (s23 : Int))))
  else
  some (.inl (s23 + 1)))
 else
 some (.inr (.inl ()))
theorem lm124_1 (s_0 : List Erratum) {f_1 f_1' : Erratum → Option Bool} (hf_1 : ∀ y0, LeO (f_1 y0) (f_1' y0)) (s23 : Nat) : LeO (T10.E.m124_1 s_0 f_1 s23) (T10.m124_1 s_0 f_1' s23) := by
 unfold T10.E.m124_1 T10.m124_1
 repeat' first
  | (with_reducible exact LeO.refl _)
  | (with_reducible exact hf_1 _)
  | (with_reducible refine LeO.loopE (fun _ => ?_) _)
  | (with_reducible refine LeO.sort (fun _ _ => ?_) _)
  | (with_reducible refine LeO.chk ?_)
  | (with_reducible refine LeO.chk2 ?_)
  | (with_reducible refine LeO.ite ?_ ?_)
  | (with_reducible refine LeO.bindS ?_ (fun _ => ?_) (fun _ => ?_) <;> try dsimp only)
  | (with_reducible refine LeO.bind ?_ fun _ => ?_)
  | (refine LeO.map ?_)
def m124 (s_0 : List Erratum) (f_1 : Erratum → Option Bool) : Option (Int) :=
 (loopE (m124_1 s_0 f_1) 0).bind fun e19 => match e19 with
 | .inr z => some z
 | .inl t22 =>
 some (-1)
theorem lm124 (s_0 : List Erratum) {f_1 f_1' : Erratum → Option Bool} (hf_1 : ∀ y0, LeO (f_1 y0) (f_1' y0)) : LeO (T10.E.m124 s_0 f_1) (T10.m124 s_0 f_1') := by
 unfold T10.E.m124 T10.m124
 repeat' first
  | (with_reducible exact LeO.refl _)
  | (with_reducible refine lm124_1 _ (fun _ => ?_) _)
  | (with_reducible exact hf_1 _)
  | (with_reducible refine LeO.loopE (fun _ => ?_) _)
  | (with_reducible refine LeO.sort (fun _ _ => ?_) _)
  | (with_reducible refine LeO.chk ?_)
  | (with_reducible refine LeO.chk2 ?_)
  | (with_reducible refine LeO.ite ?_ ?_)
  | (with_reducible refine LeO.bindS ?_ (fun _ => ?_) (fun _ => ?_) <;> try dsimp only)
  | (with_reducible refine LeO.bind ?_ fun _ => ?_)
  | (refine LeO.map ?_)
def m81 (s_0 : List Erratum) (f_1 : Erratum → Option Bool) : Option (Bool) :=
 (m124 s_0 f_1).bind fun r1 =>
 some (decide (0 ≤ r1))
theorem lm81 (s_0 : List Erratum) {f_1 f_1' : Erratum → Option Bool} (hf_1 : ∀ y0, LeO (f_1 y0) (f_1' y0)) : LeO (T10.E.m81 s_0 f_1) (T10.m81 s_0 f_1') := by
 unfold T10.E.m81 T10.m81
 repeat' first
  | (with_reducible exact LeO.refl _)
  | (with_reducible refine lm124 _ (fun _ => ?_))
  | (with_reducible exact hf_1 _)
  | (with_reducible refine LeO.loopE (fun _ => ?_) _)
  | (with_reducible refine LeO.sort (fun _ _ => ?_) _)
  | (with_reducible refine LeO.chk ?_)
  | (with_reducible refine LeO.chk2 ?_)
  | (with_reducible refine LeO.ite ?_ ?_)
  | (with_reducible refine LeO.bindS ?_ (fun _ => ?_) (fun _ => ?_) <;> try dsimp only)
  | (with_reducible refine LeO.bind ?_ fun _ => ?_)
  | (refine LeO.map ?_)
def m51 (l_0 : List Erratum) (right : Erratum → Option Bool) : Option (Bool) :=
 (m81 l_0 (fun x0_ => m82 x0_ right)).bind fun r5 =>
 some (!r5)
theorem lm51 (l_0 : List Erratum) {right right' : Erratum → Option Bool} (hright : ∀ y0, LeO (right y0) (right' y0)) : LeO (T10.E.m51 l_0 right) (T10.m51 l_0 right') := by
 unfold T10.E.m51 T10.m51
 repeat' first
  | (with_reducible exact LeO.refl _)
  | (with_reducible refine lm81 _ (fun _ => ?_))
  | (with_reducible refine lm82 _ (fun _ => ?_))
  | (with_reducible exact hright _)
  | (with_reducible refine LeO.loopE (fun _ => ?_) _)
  | (with_reducible refine LeO.sort (fun _ _ => ?_) _)
  | (with_reducible refine LeO.chk ?_)
  | (with_reducible refine LeO.chk2 ?_)
  | (with_reducible refine LeO.ite ?_ ?_)
  | (with_reducible refine LeO.bindS ?_ (fun _ => ?_) (fun _ => ?_) <;> try dsimp only)
  | (with_reducible refine LeO.bind ?_ fun _ => ?_)
  | (refine LeO.map ?_)
def m52 (x_0 : Erratum) : Option (Bool) :=
 ((
  (m44 x_0.number 1 999).bind fun r22 =>
  if r22 then (
   (m34 x_0.day).bind fun r27 =>
   if r27 then (
    (m83 x_0.anchor).bind fun r32 =>
    some (!r32))
   else
   some true)
  else
  some true
 ) : Option (Bool)).bind fun t19 =>
 if t19 then (
  some false)
 else
 if x_0.kind = 0 then (
  ((
   (m84 x_0.text).bind fun r114 =>
   if r114 then (
    some (decide (x_0.new_ = 0)))
   else
   some false
  ) : Option (Bool)).bind fun t111 =>
  some t111)
 else
 if x_0.kind = 1 then (
  ((
   if x_0.text = [] then (
    some (decide (x_0.new_ = 0)))
   else
   some false
  ) : Option (Bool)).bind fun t146 =>
  some t146)
 else
 if x_0.kind = 2 then (
  ((
   (m84 x_0.text).bind fun r180 =>
   if r180 then (
    (m83 x_0.new_).bind fun r185 =>
    some r185)
   else
   some false
  ) : Option (Bool)).bind fun t177 =>
  some t177)
 else
 some false
theorem lm52 (x_0 : Erratum) : LeO (T10.E.m52 x_0) (T10.m52 x_0) := by
 unfold T10.E.m52 T10.m52
 repeat' first
  | (with_reducible exact LeO.refl _)
  | (with_reducible exact lm44 _ _ _)
  | (with_reducible exact lm34 _)
  | (with_reducible exact lm83 _)
  | (with_reducible exact lm84 _)
  | (with_reducible refine LeO.loopE (fun _ => ?_) _)
  | (with_reducible refine LeO.sort (fun _ _ => ?_) _)
  | (with_reducible refine LeO.chk ?_)
  | (with_reducible refine LeO.chk2 ?_)
  | (with_reducible refine LeO.ite ?_ ?_)
  | (with_reducible refine LeO.bindS ?_ (fun _ => ?_) (fun _ => ?_) <;> try dsimp only)
  | (with_reducible refine LeO.bind ?_ fun _ => ?_)
  | (refine LeO.map ?_)
def m171 (x_0 : Int) : Option (Bool) :=
 some (decide (x_0 ≠ x_0))
theorem lm171 (x_0 : Int) : LeO (T10.E.m171 x_0) (T10.m171 x_0) := by
 unfold T10.E.m171 T10.m171
 repeat' first
  | (with_reducible exact LeO.refl _)
  | (with_reducible refine LeO.loopE (fun _ => ?_) _)
  | (with_reducible refine LeO.sort (fun _ _ => ?_) _)
  | (with_reducible refine LeO.chk ?_)
  | (with_reducible refine LeO.chk2 ?_)
  | (with_reducible refine LeO.ite ?_ ?_)
  | (with_reducible refine LeO.bindS ?_ (fun _ => ?_) (fun _ => ?_) <;> try dsimp only)
  | (with_reducible refine LeO.bind ?_ fun _ => ?_)
  | (refine LeO.map ?_)
def m130 (x_0 : Int) (y_1 : Int) : Option (Int) :=
 (m171 x_0).bind fun r1 =>
 (m171 y_1).bind fun r4 =>
 if r1 then (
  if r4 then (
   some 0)
  else
  some (-1))
 else
 if r4 then (
  some 1)
 else
 if x_0 < y_1 then (
  some (-1))
 else
 if y_1 < x_0 then (
  some 1)
 else
 some 0
theorem lm130 (x_0 : Int) (y_1 : Int) : LeO (T10.E.m130 x_0 y_1) (T10.m130 x_0 y_1) := by
 unfold T10.E.m130 T10.m130
 repeat' first
  | (with_reducible exact LeO.refl _)
  | (with_reducible exact lm171 _)
  | (with_reducible refine LeO.loopE (fun _ => ?_) _)
  | (with_reducible refine LeO.sort (fun _ _ => ?_) _)
  | (with_reducible refine LeO.chk ?_)
  | (with_reducible refine LeO.chk2 ?_)
  | (with_reducible refine LeO.ite ?_ ?_)
  | (with_reducible refine LeO.bindS ?_ (fun _ => ?_) (fun _ => ?_) <;> try dsimp only)
  | (with_reducible refine LeO.bind ?_ fun _ => ?_)
  | (refine LeO.map ?_)
def m129_1 (vals : List Int) (s20 : Nat) : Option ((Nat) ⊕ ((Unit) ⊕ Int)) :=
 if (s20 : Int) < (vals.length : Int) then (
  (vals[s20]?).bind fun x40 =>
  if x40 ≠ 0 then (
   some (.inr (.inr x40)))
  else
  some (.inl (s20 + 1)))
 else
 some (.inr (.inl ()))
theorem lm129_1 (vals : List Int) (s20 : Nat) : LeO (T10.E.m129_1 vals s20) (T10.m129_1 vals s20) := by
 unfold T10.E.m129_1 T10.m129_1
 repeat' first
  | (with_reducible exact LeO.refl _)
  | (with_reducible refine LeO.loopE (fun _ => ?_) _)
  | (with_reducible refine LeO.sort (fun _ _ => ?_) _)
  | (with_reducible refine LeO.chk ?_)
  | (with_reducible refine LeO.chk2 ?_)
  | (with_reducible refine LeO.ite ?_ ?_)
  | (with_reducible refine LeO.bindS ?_ (fun _ => ?_) (fun _ => ?_) <;> try dsimp only)
  | (with_reducible refine LeO.bind ?_ fun _ => ?_)
  | (refine LeO.map ?_)
def m129 (vals : List Int) : Option (Int) :=
 (loopE (m129_1 vals) 0).bind fun e16 => match e16 with
 | .inr z => some z
 | .inl t19 =>
 some 0
theorem lm129 (vals : List Int) : LeO (T10.E.m129 vals) (T10.m129 vals) := by
 unfold T10.E.m129 T10.m129
 repeat' first
  | (with_reducible exact LeO.refl _)
  | (with_reducible exact lm129_1 _ _)
  | (with_reducible refine LeO.loopE (fun _ => ?_) _)
  | (with_reducible refine LeO.sort (fun _ _ => ?_) _)
  | (with_reducible refine LeO.chk ?_)
  | (with_reducible refine LeO.chk2 ?_)
  | (with_reducible refine LeO.ite ?_ ?_)
  | (with_reducible refine LeO.bindS ?_ (fun _ => ?_) (fun _ => ?_) <;> try dsimp only)
  | (with_reducible refine LeO.bind ?_ fun _ => ?_)
  | (refine LeO.map ?_)
def m88 (a_0 : Erratum) (b_1 : Erratum) : Option (Int) :=
 (m130 a_0.day b_1.day).bind fun r7 =>
 (m130 a_0.number b_1.number).bind fun r11 =>
 (m129 ([r7, r11] : List Int)).bind fun r19 =>
 some r19
theorem lm88 (a_0 : Erratum) (b_1 : Erratum) : LeO (T10.E.m88 a_0 b_1) (T10.m88 a_0 b_1) := by
 unfold T10.E.m88 T10.m88
 repeat' first
  | (with_reducible exact LeO.refl _)
  | (with_reducible exact lm130 _ _)
  | (with_reducible exact lm129 _)
  | (with_reducible refine LeO.loopE (fun _ => ?_) _)
  | (with_reducible refine LeO.sort (fun _ _ => ?_) _)
  | (with_reducible refine LeO.chk ?_)
  | (with_reducible refine LeO.chk2 ?_)
  | (with_reducible refine LeO.ite ?_ ?_)
  | (with_reducible refine LeO.bindS ?_ (fun _ => ?_) (fun _ => ?_) <;> try dsimp only)
  | (with_reducible refine LeO.bind ?_ fun _ => ?_)
  | (refine LeO.map ?_)
def m54_1 (r10 : List Paragraph) (s50 : Nat × (List (Int × Bool))) : Option ((Nat × (List (Int × Bool))) ⊕ ((List (Int × Bool)))) :=
 if (s50.1 : Int) < (r10.length : Int) then (
  (r10[s50.1]?).bind fun x70 =>
  some (.inl ((s50.1 + 1), (put s50.2 x70.anchor true))))
 else
 some (.inr s50.2)
theorem lm54_1 (r10 : List Paragraph) (s50 : Nat × (List (Int × Bool))) : LeO (T10.E.m54_1 r10 s50) (T10.m54_1 r10 s50) := by
 unfold T10.E.m54_1 T10.m54_1
 repeat' first
  | (with_reducible exact LeO.refl _)
  | (with_reducible refine LeO.loopE (fun _ => ?_) _)
  | (with_reducible refine LeO.sort (fun _ _ => ?_) _)
  | (with_reducible refine LeO.chk ?_)
  | (with_reducible refine LeO.chk2 ?_)
  | (with_reducible refine LeO.ite ?_ ?_)
  | (with_reducible refine LeO.bindS ?_ (fun _ => ?_) (fun _ => ?_) <;> try dsimp only)
  | (with_reducible refine LeO.bind ?_ fun _ => ?_)
  | (refine LeO.map ?_)
def m54_2 (t273 : List Erratum) (l287 : List Erratum) (s353 : Nat × (List (Int × Bool))) : Option ((Nat × (List (Int × Bool))) ⊕ (((List (Int × Bool))) ⊕ (((List (Int × Bool))) ⊕ (Nat × (List (Int × Bool)))))) :=
 if (s353.1 : Int) < (t273.length : Int) then (
  (l287[s353.1]?).bind fun x387 =>
  if 99999 < x387.day then (
   some (.inr (.inr (.inl s353.2))))
  else
  ((
   if (lkp s353.2 x387.anchor).getD false then (
    ((
     if x387.kind = 2 then (
      some (put s353.2 x387.new_ true))
     else
     some s353.2
    ) : Option ((List (Int × Bool)))).bind fun t449 =>
    some (.inr t449))
   else
   some (.inl 7)
  ) : Option ((Nat) ⊕ ((List (Int × Bool))))).bind fun t425 => match t425 with
  | .inl t428 => (
   some (.inr (.inr (.inr (t428, s353.2)))))
  | .inr t429 => (
   some (.inl ((s353.1 + 1), t429))))
 else
 some (.inr (.inl s353.2))
theorem lm54_2 (t273 : List Erratum) (l287 : List Erratum) (s353 : Nat × (List (Int × Bool))) : LeO (T10.E.m54_2 t273 l287 s353) (T10.m54_2 t273 l287 s353) := by
 unfold T10.E.m54_2 T10.m54_2
 repeat' first
  | (with_reducible exact LeO.refl _)
  | (with_reducible refine LeO.loopE (fun _ => ?_) _)
  | (with_reducible refine LeO.sort (fun _ _ => ?_) _)
  | (with_reducible refine LeO.chk ?_)
  | (with_reducible refine LeO.chk2 ?_)
  | (with_reducible refine LeO.ite ?_ ?_)
  | (with_reducible refine LeO.bindS ?_ (fun _ => ?_) (fun _ => ?_) <;> try dsimp only)
  | (with_reducible refine LeO.bind ?_ fun _ => ?_)
  | (refine LeO.map ?_)
def m54 (v_0 : Volume) (errata : List Erratum) : Option (Int) :=
 (m53 v_0).bind fun r10 =>
 (loopE (m54_1 r10) (0, ([] : List (Int × Bool)))).bind fun e47 =>
 ((
  ((
   chkE (([] : List Erratum).length + errata.length ≤ 1073741824) <|
   some (([] : List Erratum) ++ errata)
  ) : Option (List Erratum)).bind fun t273 =>
  (sortF (m88) t273).bind fun l287 =>
  (loopE (m54_2 t273 l287) (0, e47)).bind fun e349 => match e349 with
  | .inr z => some z
  | .inl t352 =>
  some (.inl t352)
 ) : Option (((List (Int × Bool))) ⊕ (Nat × (List (Int × Bool))))).bind fun t261 => match t261 with
 | .inl t264 => (
  some 0)
 | .inr t265 => (
  some (t265.1 : Int))
theorem lm54 (v_0 : Volume) (errata : List Erratum) : LeO (T10.E.m54 v_0 errata) (T10.m54 v_0 errata) := by
 unfold T10.E.m54 T10.m54
 repeat' first
  | (with_reducible exact LeO.refl _)
  | (with_reducible exact lm53 _)
  | (with_reducible exact lm54_1 _ _)
  | (with_reducible exact lm88 _ _)
  | (with_reducible exact lm54_2 _ _ _)
  | (with_reducible refine LeO.loopE (fun _ => ?_) _)
  | (with_reducible refine LeO.sort (fun _ _ => ?_) _)
  | (with_reducible refine LeO.chk ?_)
  | (with_reducible refine LeO.chk2 ?_)
  | (with_reducible refine LeO.ite ?_ ?_)
  | (with_reducible refine LeO.bindS ?_ (fun _ => ?_) (fun _ => ?_) <;> try dsimp only)
  | (with_reducible refine LeO.bind ?_ fun _ => ?_)
  | (refine LeO.map ?_)
def m33_1 (r51 : List Paragraph) (s91 : Nat × (List (Int × Bool))) : Option ((Nat × (List (Int × Bool))) ⊕ ((List (Int × Bool)))) :=
 if (s91.1 : Int) < (r51.length : Int) then (
  (r51[s91.1]?).bind fun x111 =>
  some (.inl ((s91.1 + 1), (put s91.2 x111.anchor true))))
 else
 some (.inr s91.2)
theorem lm33_1 (r51 : List Paragraph) (s91 : Nat × (List (Int × Bool))) : LeO (T10.E.m33_1 r51 s91) (T10.m33_1 r51 s91) := by
 unfold T10.E.m33_1 T10.m33_1
 repeat' first
  | (with_reducible exact LeO.refl _)
  | (with_reducible refine LeO.loopE (fun _ => ?_) _)
  | (with_reducible refine LeO.sort (fun _ _ => ?_) _)
  | (with_reducible refine LeO.chk ?_)
  | (with_reducible refine LeO.chk2 ?_)
  | (with_reducible refine LeO.ite ?_ ?_)
  | (with_reducible refine LeO.bindS ?_ (fun _ => ?_) (fun _ => ?_) <;> try dsimp only)
  | (with_reducible refine LeO.bind ?_ fun _ => ?_)
  | (refine LeO.map ?_)
def m33_2 (errata : List Erratum) (s185 : Nat × (List (Int × Bool)) × (List (Int × Bool))) : Option ((Nat × (List (Int × Bool)) × (List (Int × Bool))) ⊕ (((List (Int × Bool)) × (List (Int × Bool))) ⊕ Int)) :=
 if (s185.1 : Int) < (errata.length : Int) then (
  (errata[s185.1]?).bind fun x219 =>
  ((
   if (lkp s185.2.1 x219.number).getD false then (
    some true)
   else
   if x219.kind = 2 then (
    some ((lkp s185.2.2 x219.new_).getD false))
   else
   some false
  ) : Option (Bool)).bind fun t236 =>
  if t236 then (
   some (.inr (.inr 6)))
  else
  ((
   if x219.kind = 2 then (
    some (put s185.2.2 x219.new_ true))
   else
   some s185.2.2
  ) : Option ((List (Int × Bool)))).bind fun t254 =>
  some (.inl ((s185.1 + 1), (put s185.2.1 x219.number true), t254)))
 else
 some (.inr (.inl (s185.2.1, s185.2.2)))
theorem lm33_2 (errata : List Erratum) (s185 : Nat × (List (Int × Bool)) × (List (Int × Bool))) : LeO (T10.E.m33_2 errata s185) (T10.m33_2 errata s185) := by
 unfold T10.E.m33_2 T10.m33_2
 repeat' first
  | (with_reducible exact LeO.refl _)
  | (with_reducible refine LeO.loopE (fun _ => ?_) _)
  | (with_reducible refine LeO.sort (fun _ _ => ?_) _)
  | (with_reducible refine LeO.chk ?_)
  | (with_reducible refine LeO.chk2 ?_)
  | (with_reducible refine LeO.ite ?_ ?_)
  | (with_reducible refine LeO.bindS ?_ (fun _ => ?_) (fun _ => ?_) <;> try dsimp only)
  | (with_reducible refine LeO.bind ?_ fun _ => ?_)
  | (refine LeO.map ?_)
def m33 (v_0 : Volume) (errata : List Erratum) : Option (Int) :=
 (m50 v_0).bind fun r7 =>
 if r7 ≠ 0 then (
  some r7)
 else
 if 20 < (errata.length : Int) then (
  some 3)
 else
 (m51 errata (m52)).bind fun r40 =>
 if r40 then (
  (m53 v_0).bind fun r51 =>
  (loopE (m33_1 r51) (0, ([] : List (Int × Bool)))).bind fun e88 =>
  (loopE (m33_2 errata) (0, ([] : List (Int × Bool)), e88)).bind fun e181 => match e181 with
  | .inr z => some z
  | .inl t184 =>
  (m54 v_0 errata).bind fun r261 =>
  some r261)
 else
 some 1
theorem lm33 (v_0 : Volume) (errata : List Erratum) : LeO (T10.E.m33 v_0 errata) (T10.m33 v_0 errata) := by
 unfold T10.E.m33 T10.m33
 repeat' first
  | (with_reducible exact LeO.refl _)
  | (with_reducible exact lm50 _)
  | (with_reducible refine lm51 _ (fun _ => ?_))
  | (with_reducible exact lm52 _)
  | (with_reducible exact lm53 _)
  | (with_reducible exact lm33_1 _ _)
  | (with_reducible exact lm33_2 _ _)
  | (with_reducible exact lm54 _ _)
  | (with_reducible refine LeO.loopE (fun _ => ?_) _)
  | (with_reducible refine LeO.sort (fun _ _ => ?_) _)
  | (with_reducible refine LeO.chk ?_)
  | (with_reducible refine LeO.chk2 ?_)
  | (with_reducible refine LeO.ite ?_ ?_)
  | (with_reducible refine LeO.bindS ?_ (fun _ => ?_) (fun _ => ?_) <;> try dsimp only)
  | (with_reducible refine LeO.bind ?_ fun _ => ?_)
  | (refine LeO.map ?_)
def m57  : Option (Unit) :=
 some ()
theorem lm57  : LeO (T10.E.m57 ) (T10.m57 ) := by
 unfold T10.E.m57 T10.m57
 repeat' first
  | (with_reducible exact LeO.refl _)
  | (with_reducible refine LeO.loopE (fun _ => ?_) _)
  | (with_reducible refine LeO.sort (fun _ _ => ?_) _)
  | (with_reducible refine LeO.chk ?_)
  | (with_reducible refine LeO.chk2 ?_)
  | (with_reducible refine LeO.ite ?_ ?_)
  | (with_reducible refine LeO.bindS ?_ (fun _ => ?_) (fun _ => ?_) <;> try dsimp only)
  | (with_reducible refine LeO.bind ?_ fun _ => ?_)
  | (refine LeO.map ?_)
def m35_2 (x559 : Part) (s645 : Nat × List entry) : Option ((Nat × List entry) ⊕ (List entry)) :=
 if (s645.1 : Int) < (x559.paragraphs.length : Int) then (
  (x559.paragraphs[s645.1]?).bind fun x672 =>
  chkE (s645.2.length + 1 ≤ 1073741824) <|
  some (.inl ((s645.1 + 1), (s645.2 ++ [(⟨x672, false⟩ : entry)]))))
 else
 some (.inr s645.2)
theorem lm35_2 (x559 : Part) (s645 : Nat × List entry) : LeO (T10.E.m35_2 x559 s645) (T10.m35_2 x559 s645) := by
 unfold T10.E.m35_2 T10.m35_2
 repeat' first
  | (with_reducible exact LeO.refl _)
  | (with_reducible refine LeO.loopE (fun _ => ?_) _)
  | (with_reducible refine LeO.sort (fun _ _ => ?_) _)
  | (with_reducible refine LeO.chk ?_)
  | (with_reducible refine LeO.chk2 ?_)
  | (with_reducible refine LeO.ite ?_ ?_)
  | (with_reducible refine LeO.bindS ?_ (fun _ => ?_) (fun _ => ?_) <;> try dsimp only)
  | (with_reducible refine LeO.bind ?_ fun _ => ?_)
  | (refine LeO.map ?_)
def m35_1 (v_0 : Volume) (s446 : Nat × List (List entry)) : Option ((Nat × List (List entry)) ⊕ (List (List entry))) :=
 if (s446.1 : Int) < (v_0.parts.length : Int) then (
  (v_0.parts[s446.1]?).bind fun x559 =>
  (loopE (m35_2 x559) (0, ([] : List entry))).bind fun e640 =>
  chkE (s446.2.length + 1 ≤ 1073741824) <|
  some (.inl ((s446.1 + 1), (s446.2 ++ [e640]))))
 else
 some (.inr s446.2)
theorem lm35_1 (v_0 : Volume) (s446 : Nat × List (List entry)) : LeO (T10.E.m35_1 v_0 s446) (T10.m35_1 v_0 s446) := by
 unfold T10.E.m35_1 T10.m35_1
 repeat' first
  | (with_reducible exact LeO.refl _)
  | (with_reducible exact lm35_2 _ _)
  | (with_reducible refine LeO.loopE (fun _ => ?_) _)
  | (with_reducible refine LeO.sort (fun _ _ => ?_) _)
  | (with_reducible refine LeO.chk ?_)
  | (with_reducible refine LeO.chk2 ?_)
  | (with_reducible refine LeO.ite ?_ ?_)
  | (with_reducible refine LeO.bindS ?_ (fun _ => ?_) (fun _ => ?_) <;> try dsimp only)
  | (with_reducible refine LeO.bind ?_ fun _ => ?_)
  | (refine LeO.map ?_)
def m35_5 (x3142 : List entry) (x2432 : Erratum) (s3110 : Nat × Nat × Nat × Bool) (s3168 : Nat × Nat × Nat × Bool) : Option ((Nat × Nat × Nat × Bool) ⊕ ((Nat × Nat × Bool) ⊕ ((Nat × Nat × Nat × Bool) ⊕ (Nat × Nat × Bool)))) :=
 if (s3168.2.2.1 : Int) < (x3142.length : Int) then (
  (x3142[s3168.2.2.1]?).bind fun x3185 =>
  if x3185.paragraph.anchor = x2432.anchor then (
   Option.map (fun z => .inr (.inr z)) (
   some (.inr (s3110.2.2.1, s3168.2.2.1, true))))
  else
  chkE (-9223372036854775808 ≤ ((s3168.2.2.1 : Int) + 1) ∧ ((s3168.2.2.1 : Int) + 1) ≤ 9223372036854775807) <|
  some (.inl (s3168.1, s3168.2.1, (s3168.2.2.1 + 1), s3168.2.2.2)))
 else
 some (.inr (.inl (s3168.1, s3168.2.1, s3168.2.2.2)))
theorem lm35_5 (x3142 : List entry) (x2432 : Erratum) (s3110 : Nat × Nat × Nat × Bool) (s3168 : Nat × Nat × Nat × Bool) : LeO (T10.E.m35_5 x3142 x2432 s3110 s3168) (T10.m35_5 x3142 x2432 s3110 s3168) := by
 unfold T10.E.m35_5 T10.m35_5
 repeat' first
  | (with_reducible exact LeO.refl _)
  | (with_reducible refine LeO.loopE (fun _ => ?_) _)
  | (with_reducible refine LeO.sort (fun _ _ => ?_) _)
  | (with_reducible refine LeO.chk ?_)
  | (with_reducible refine LeO.chk2 ?_)
  | (with_reducible refine LeO.ite ?_ ?_)
  | (with_reducible refine LeO.bindS ?_ (fun _ => ?_) (fun _ => ?_) <;> try dsimp only)
  | (with_reducible refine LeO.bind ?_ fun _ => ?_)
  | (refine LeO.map ?_)
def m35_4 (s2201 : Nat × List (List entry)) (x2432 : Erratum) (s3110 : Nat × Nat × Nat × Bool) : Option ((Nat × Nat × Nat × Bool) ⊕ (Nat × Nat × Bool)) :=
 if (s3110.2.2.1 : Int) < (s2201.2.length : Int) then (
  (s2201.2[s3110.2.2.1]?).bind fun x3142 =>
  (loopE (m35_5 x3142 x2432 s3110) (s3110.1, s3110.2.1, 0, s3110.2.2.2)).bind fun e3164 => match e3164 with
  | .inr z => some z
  | .inl t3167 =>
  chkE (-9223372036854775808 ≤ ((s3110.2.2.1 : Int) + 1) ∧ ((s3110.2.2.1 : Int) + 1) ≤ 9223372036854775807) <|
  some (.inl (t3167.1, t3167.2.1, (s3110.2.2.1 + 1), t3167.2.2)))
 else
 some (.inr (s3110.1, s3110.2.1, s3110.2.2.2))
theorem lm35_4 (s2201 : Nat × List (List entry)) (x2432 : Erratum) (s3110 : Nat × Nat × Nat × Bool) : LeO (T10.E.m35_4 s2201 x2432 s3110) (T10.m35_4 s2201 x2432 s3110) := by
 unfold T10.E.m35_4 T10.m35_4
 repeat' first
  | (with_reducible exact LeO.refl _)
  | (with_reducible exact lm35_5 _ _ _ _)
  | (with_reducible refine LeO.loopE (fun _ => ?_) _)
  | (with_reducible refine LeO.sort (fun _ _ => ?_) _)
  | (with_reducible refine LeO.chk ?_)
  | (with_reducible refine LeO.chk2 ?_)
  | (with_reducible refine LeO.ite ?_ ?_)
  | (with_reducible refine LeO.bindS ?_ (fun _ => ?_) (fun _ => ?_) <;> try dsimp only)
  | (with_reducible refine LeO.bind ?_ fun _ => ?_)
  | (refine LeO.map ?_)
def m35_3 (t1715 : List Erratum) (l1729 : List Erratum) (to_2 : Int) (s2201 : Nat × List (List entry)) : Option ((Nat × List (List entry)) ⊕ ((List (List entry)) ⊕ (List (List entry)))) :=
 if (s2201.1 : Int) < (t1715.length : Int) then (
  (l1729[s2201.1]?).bind fun x2432 =>
  ((
   if to_2 < x2432.day then (
    some (true, s2201.2))
   else
   ((
    ((
     (loopE (m35_4 s2201 x2432) (0, 0, 0, false)).bind fun e3107 =>
     some (e3107.2.1, e3107.1, e3107.2.2)
    ) : Option (Nat × Nat × Bool)).bind fun t3075 =>
    ((
     if t3075.2.2 then (
      (m57).bind fun r3365 =>
      chkE (0 ≤ x2432.kind) <|
      if x2432.kind = 0 then (
       ((
        (s2201.2[t3075.2.1]?).bind fun x3419 =>
        (x3419[t3075.1]?).bind fun x3427 =>
        ((
         if x3427.removed then (
          some s2201.2)
         else
         some (s2201.2.set t3075.2.1 (x3419.set t3075.1 (⟨(⟨x3427.paragraph.anchor, x2432.text⟩ : Paragraph), x3427.removed⟩ : entry)))
        ) : Option (List (List entry))).bind fun t3435 =>
        some t3435
       ) : Option (List (List entry))).bind fun t3409 =>
       some t3409)
      else
      if x2432.kind = 1 then (
       ((
        (s2201.2[t3075.2.1]?).bind fun x3488 =>
        (x3488[t3075.1]?).bind fun x3496 =>
        some (s2201.2.set t3075.2.1 (x3488.set t3075.1 (⟨x3496.paragraph, true⟩ : entry)))
       ) : Option (List (List entry))).bind fun t3478 =>
       some t3478)
      else
      if x2432.kind = 2 then (
       ((
        (s2201.2[t3075.2.1]?).bind fun x3557 =>
        chkE (-9223372036854775808 ≤ ((t3075.1 : Int) + 1) ∧ ((t3075.1 : Int) + 1) ≤ 9223372036854775807) <|
        chkE (x3557.length + 1 ≤ 1073741824) <|
        chkE (((t3075.1 : Int) + 1).toNat ≤ x3557.length) <|
        some (s2201.2.set t3075.2.1 (x3557.take (((t3075.1 : Int) + 1).toNat) ++ [(⟨(⟨x2432.new_, x2432.text⟩ : Paragraph), false⟩ : entry)] ++ x3557.drop (((t3075.1 : Int) + 1).toNat)))
       ) : Option (List (List entry))).bind fun t3547 =>
       some t3547)
      else
      none)
     else
     some s2201.2
    ) : Option (List (List entry))).bind fun t3356 =>
    some t3356
   ) : Option (List (List entry))).bind fun t2845 =>
   some (false, t2845)
  ) : Option (Bool × List (List entry))).bind fun t2642 =>
  if t2642.1 then (
   some (.inr (.inr t2642.2)))
  else
  some (.inl ((s2201.1 + 1), t2642.2)))
 else
 some (.inr (.inl s2201.2))
theorem lm35_3 (t1715 : List Erratum) (l1729 : List Erratum) (to_2 : Int) (s2201 : Nat × List (List entry)) : LeO (T10.E.m35_3 t1715 l1729 to_2 s2201) (T10.m35_3 t1715 l1729 to_2 s2201) := by
 unfold T10.E.m35_3 T10.m35_3
 repeat' first
  | (with_reducible exact LeO.refl _)
  | (with_reducible exact lm35_4 _ _ _)
  | (with_reducible exact lm57)
  | (with_reducible refine LeO.loopE (fun _ => ?_) _)
  | (with_reducible refine LeO.sort (fun _ _ => ?_) _)
  | (with_reducible refine LeO.chk ?_)
  | (with_reducible refine LeO.chk2 ?_)
  | (with_reducible refine LeO.ite ?_ ?_)
  | (with_reducible refine LeO.bindS ?_ (fun _ => ?_) (fun _ => ?_) <;> try dsimp only)
  | (with_reducible refine LeO.bind ?_ fun _ => ?_)
  | (refine LeO.map ?_)
def m35 (v_0 : Volume) (errata : List Erratum) (to_2 : Int) : Option (edition) :=
 (loopE (m35_1 v_0) (0, ([] : List (List entry)))).bind fun e437 =>
 ((
  ((
   chkE (([] : List Erratum).length + errata.length ≤ 1073741824) <|
   some (([] : List Erratum) ++ errata)
  ) : Option (List Erratum)).bind fun t1715 =>
  (sortF (m88) t1715).bind fun l1729 =>
  (loopE (m35_3 t1715 l1729 to_2) (0, e437)).bind fun e2193 => match e2193 with
  | .inr z => some z
  | .inl t2196 =>
  some t2196
 ) : Option (List (List entry))).bind fun t1701 =>
 some (⟨v_0, t1701⟩ : edition)
theorem lm35 (v_0 : Volume) (errata : List Erratum) (to_2 : Int) : LeO (T10.E.m35 v_0 errata to_2) (T10.m35 v_0 errata to_2) := by
 unfold T10.E.m35 T10.m35
 repeat' first
  | (with_reducible exact LeO.refl _)
  | (with_reducible exact lm35_1 _ _)
  | (with_reducible exact lm88 _ _)
  | (with_reducible exact lm35_3 _ _ _ _)
  | (with_reducible refine LeO.loopE (fun _ => ?_) _)
  | (with_reducible refine LeO.sort (fun _ _ => ?_) _)
  | (with_reducible refine LeO.chk ?_)
  | (with_reducible refine LeO.chk2 ?_)
  | (with_reducible refine LeO.ite ?_ ?_)
  | (with_reducible refine LeO.bindS ?_ (fun _ => ?_) (fun _ => ?_) <;> try dsimp only)
  | (with_reducible refine LeO.bind ?_ fun _ => ?_)
  | (refine LeO.map ?_)
def m39_2 (x994 : List entry) (v_0 : Volume) (s763 : Nat × Int × List printed) (s1208 : Nat × Nat × Int × List printed) : Option ((Nat × Nat × Int × List printed) ⊕ (Int × List printed)) :=
 if (s1208.2.1 : Int) < (x994.length : Int) then (
  ((
   (x994[s1208.2.1]?).bind fun x1281 =>
   if x1281.removed then (
    some (s1208.1, s1208.2.2.1, s1208.2.2.2))
   else
   chkE (-9223372036854775808 ≤ ((s1208.1 : Int) + 1) ∧ ((s1208.1 : Int) + 1) ≤ 9223372036854775807) <|
   chkE (-9223372036854775808 ≤ ((x1281.paragraph.text.length : Int) + v_0.width) ∧ ((x1281.paragraph.text.length : Int) + v_0.width) ≤ 9223372036854775807) <|
   chkE (-9223372036854775808 ≤ (((x1281.paragraph.text.length : Int) + v_0.width) - 1) ∧ (((x1281.paragraph.text.length : Int) + v_0.width) - 1) ≤ 9223372036854775807) <|
   chkE (0 ≤ (((x1281.paragraph.text.length : Int) + v_0.width) - 1) ∧ (((x1281.paragraph.text.length : Int) + v_0.width) - 1) ≤ 9223372036854775807 ∧ 0 < v_0.width) <|
   chkE (0 ≤ s1208.2.2.1 ∧ s1208.2.2.1 ≤ 9223372036854775807 ∧ 0 < v_0.height) <|
   chkE (-9223372036854775808 ≤ (s763.2.1 + (s1208.2.2.1 / v_0.height)) ∧ (s763.2.1 + (s1208.2.2.1 / v_0.height)) ≤ 9223372036854775807) <|
   chkE (0 ≤ s1208.2.2.1 ∧ 0 < v_0.height) <|
   chkE (-9223372036854775808 ≤ ((s1208.2.2.1 % v_0.height) + 1) ∧ ((s1208.2.2.1 % v_0.height) + 1) ≤ 9223372036854775807) <|
   (v_0.parts[s763.1]?).bind fun x1314 =>
   chkE (s1208.2.2.2.length + ([(⟨(⟨x1281.paragraph.anchor, (s763.2.1 + (s1208.2.2.1 / v_0.height)), ((s1208.2.2.1 % v_0.height) + 1), ((((x1281.paragraph.text.length : Int) + v_0.width) - 1) / v_0.width)⟩ : Place), x1314.day, ((s1208.1 : Int) + 1)⟩ : printed)] : List printed).length ≤ 1073741824) <|
   chkE (-9223372036854775808 ≤ (s1208.2.2.1 + ((((x1281.paragraph.text.length : Int) + v_0.width) - 1) / v_0.width)) ∧ (s1208.2.2.1 + ((((x1281.paragraph.text.length : Int) + v_0.width) - 1) / v_0.width)) ≤ 9223372036854775807) <|
   some ((s1208.1 + 1), (s1208.2.2.1 + ((((x1281.paragraph.text.length : Int) + v_0.width) - 1) / v_0.width)), (s1208.2.2.2 ++ ([(⟨(⟨x1281.paragraph.anchor, (s763.2.1 + (s1208.2.2.1 / v_0.height)), ((s1208.2.2.1 % v_0.height) + 1), ((((x1281.paragraph.text.length : Int) + v_0.width) - 1) / v_0.width)⟩ : Place), x1314.day, ((s1208.1 : Int) + 1)⟩ : printed)] : List printed)))
  ) : Option (Nat × Int × List printed)).bind fun t1276 =>
  some (.inl (t1276.1, (s1208.2.1 + 1), t1276.2.1, t1276.2.2)))
 else
 some (.inr (s1208.2.2.1, s1208.2.2.2))
theorem lm39_2 (x994 : List entry) (v_0 : Volume) (s763 : Nat × Int × List printed) (s1208 : Nat × Nat × Int × List printed) : LeO (T10.E.m39_2 x994 v_0 s763 s1208) (T10.m39_2 x994 v_0 s763 s1208) := by
 unfold T10.E.m39_2 T10.m39_2
 repeat' first
  | (with_reducible exact LeO.refl _)
  | (with_reducible refine LeO.loopE (fun _ => ?_) _)
  | (with_reducible refine LeO.sort (fun _ _ => ?_) _)
  | (with_reducible refine LeO.chk ?_)
  | (with_reducible refine LeO.chk2 ?_)
  | (with_reducible refine LeO.ite ?_ ?_)
  | (with_reducible refine LeO.bindS ?_ (fun _ => ?_) (fun _ => ?_) <;> try dsimp only)
  | (with_reducible refine LeO.bind ?_ fun _ => ?_)
  | (refine LeO.map ?_)
def m39_1 (r7 : edition) (v_0 : Volume) (s763 : Nat × Int × List printed) : Option ((Nat × Int × List printed) ⊕ (List printed)) :=
 if (s763.1 : Int) < (r7.parts.length : Int) then (
  (r7.parts[s763.1]?).bind fun x994 =>
  (loopE (m39_2 x994 v_0 s763) (0, 0, 0, s763.2.2)).bind fun e1203 =>
  chkE (-9223372036854775808 ≤ (e1203.1 + v_0.height) ∧ (e1203.1 + v_0.height) ≤ 9223372036854775807) <|
  chkE (-9223372036854775808 ≤ ((e1203.1 + v_0.height) - 1) ∧ ((e1203.1 + v_0.height) - 1) ≤ 9223372036854775807) <|
  chkE (0 ≤ ((e1203.1 + v_0.height) - 1) ∧ ((e1203.1 + v_0.height) - 1) ≤ 9223372036854775807 ∧ 0 < v_0.height) <|
  chkE (-9223372036854775808 ≤ (s763.2.1 + (((e1203.1 + v_0.height) - 1) / v_0.height)) ∧ (s763.2.1 + (((e1203.1 + v_0.height) - 1) / v_0.height)) ≤ 9223372036854775807) <|
  some (.inl ((s763.1 + 1), (s763.2.1 + (((e1203.1 + v_0.height) - 1) / v_0.height)), e1203.2)))
 else
 some (.inr s763.2.2)
theorem lm39_1 (r7 : edition) (v_0 : Volume) (s763 : Nat × Int × List printed) : LeO (T10.E.m39_1 r7 v_0 s763) (T10.m39_1 r7 v_0 s763) := by
 unfold T10.E.m39_1 T10.m39_1
 repeat' first
  | (with_reducible exact LeO.refl _)
  | (with_reducible exact lm39_2 _ _ _ _)
  | (with_reducible refine LeO.loopE (fun _ => ?_) _)
  | (with_reducible refine LeO.sort (fun _ _ => ?_) _)
  | (with_reducible refine LeO.chk ?_)
  | (with_reducible refine LeO.chk2 ?_)
  | (with_reducible refine LeO.ite ?_ ?_)
  | (with_reducible refine LeO.bindS ?_ (fun _ => ?_) (fun _ => ?_) <;> try dsimp only)
  | (with_reducible refine LeO.bind ?_ fun _ => ?_)
  | (refine LeO.map ?_)
def m39 (v_0 : Volume) (errata : List Erratum) : Option (List printed) :=
 (m35 v_0 errata v_0.bound).bind fun r7 =>
 (loopE (m39_1 r7 v_0) (0, 1, ([] : List printed))).bind fun e758 =>
 some e758
theorem lm39 (v_0 : Volume) (errata : List Erratum) : LeO (T10.E.m39 v_0 errata) (T10.m39 v_0 errata) := by
 unfold T10.E.m39 T10.m39
 repeat' first
  | (with_reducible exact LeO.refl _)
  | (with_reducible exact lm35 _ _ _)
  | (with_reducible exact lm39_1 _ _ _)
  | (with_reducible refine LeO.loopE (fun _ => ?_) _)
  | (with_reducible refine LeO.sort (fun _ _ => ?_) _)
  | (with_reducible refine LeO.chk ?_)
  | (with_reducible refine LeO.chk2 ?_)
  | (with_reducible refine LeO.ite ?_ ?_)
  | (with_reducible refine LeO.bindS ?_ (fun _ => ?_) (fun _ => ?_) <;> try dsimp only)
  | (with_reducible refine LeO.bind ?_ fun _ => ?_)
  | (refine LeO.map ?_)
def m22_1 (r16 : List printed) (s94 : Nat × List Place) : Option ((Nat × List Place) ⊕ (List Place)) :=
 if (s94.1 : Int) < (r16.length : Int) then (
  (r16[s94.1]?).bind fun x121 =>
  chkE (s94.2.length + 1 ≤ 1073741824) <|
  some (.inl ((s94.1 + 1), (s94.2 ++ [x121.place]))))
 else
 some (.inr s94.2)
theorem lm22_1 (r16 : List printed) (s94 : Nat × List Place) : LeO (T10.E.m22_1 r16 s94) (T10.m22_1 r16 s94) := by
 unfold T10.E.m22_1 T10.m22_1
 repeat' first
  | (with_reducible exact LeO.refl _)
  | (with_reducible refine LeO.loopE (fun _ => ?_) _)
  | (with_reducible refine LeO.sort (fun _ _ => ?_) _)
  | (with_reducible refine LeO.chk ?_)
  | (with_reducible refine LeO.chk2 ?_)
  | (with_reducible refine LeO.ite ?_ ?_)
  | (with_reducible refine LeO.bindS ?_ (fun _ => ?_) (fun _ => ?_) <;> try dsimp only)
  | (with_reducible refine LeO.bind ?_ fun _ => ?_)
  | (refine LeO.map ?_)
def m22 (v_0 : Volume) (errata : List Erratum) : Option (List Place × Int) :=
 (m33 v_0 errata).bind fun r7 =>
 if r7 ≠ 0 then (
  some (([] : List Place), r7))
 else
 (m39 v_0 errata).bind fun r16 =>
 (loopE (m22_1 r16) (0, ([] : List Place))).bind fun e89 =>
 some (e89, 0)
theorem lm22 (v_0 : Volume) (errata : List Erratum) : LeO (T10.E.m22 v_0 errata) (T10.m22 v_0 errata) := by
 unfold T10.E.m22 T10.m22
 repeat' first
  | (with_reducible exact LeO.refl _)
  | (with_reducible exact lm33 _ _)
  | (with_reducible exact lm39 _ _)
  | (with_reducible exact lm22_1 _ _)
  | (with_reducible refine LeO.loopE (fun _ => ?_) _)
  | (with_reducible refine LeO.sort (fun _ _ => ?_) _)
  | (with_reducible refine LeO.chk ?_)
  | (with_reducible refine LeO.chk2 ?_)
  | (with_reducible refine LeO.ite ?_ ?_)
  | (with_reducible refine LeO.bindS ?_ (fun _ => ?_) (fun _ => ?_) <;> try dsimp only)
  | (with_reducible refine LeO.bind ?_ fun _ => ?_)
  | (refine LeO.map ?_)
def m9  : Option (Bool) :=
 (m22 (⟨1, 0, 2, 10, ([(⟨0, ([(⟨4, [80, 114, 97, 121, 101, 114, 115, 46]⟩ : Paragraph)] : List Paragraph)⟩ : Part)] : List Part)⟩ : Volume) ([] : List Erratum)).bind fun r12 =>
 ((
  if r12.2 = 0 then (
   if (r12.1.length : Int) = 1 then (
    (r12.1[0]?).bind fun x40 =>
    some (decide (x40 = (⟨4, 1, 1, 1⟩ : Place))))
   else
   some false)
  else
  some false
 ) : Option (Bool)).bind fun t33 =>
 some t33
theorem lm9  : LeO (T10.E.m9 ) (T10.m9 ) := by
 unfold T10.E.m9 T10.m9
 repeat' first
  | (with_reducible exact LeO.refl _)
  | (with_reducible exact lm22 _ _)
  | (with_reducible refine LeO.loopE (fun _ => ?_) _)
  | (with_reducible refine LeO.sort (fun _ _ => ?_) _)
  | (with_reducible refine LeO.chk ?_)
  | (with_reducible refine LeO.chk2 ?_)
  | (with_reducible refine LeO.ite ?_ ?_)
  | (with_reducible refine LeO.bindS ?_ (fun _ => ?_) (fun _ => ?_) <;> try dsimp only)
  | (with_reducible refine LeO.bind ?_ fun _ => ?_)
  | (refine LeO.map ?_)
end T10.E
namespace T10
open Go Go.Proofs Pk
theorem e9 : m9 = some true := E.lm9 _ (show E.m9 = some true by kernel_rfl)
end T10
