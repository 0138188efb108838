/-
  The plain laws: what the models of a volume and an index come to.
-/
import Derived.Test.YtjehjogdlamghaaGreatDoorMade
import Derived.Test.YtjehjogdlamghaaGreatDoorKitSix
import Derived.Lib.IndexMore
set_option linter.all false
namespace T10
open Go Go.Proofs Pk
def In (n lo hi : Int) : Bool := decide (lo ≤ n) && decide (n ≤ hi)
theorem In_iff {n lo hi : Int} : In n lo hi = true ↔ lo ≤ n ∧ n ≤ hi := by simp [In]
theorem e27 (n lo hi : Int) : m27 n lo hi = some (In n lo hi) := by unfold m27 In; by_cases h : lo ≤ n <;> simp [h]
theorem e44 (n lo hi : Int) : m44 n lo hi = some (In n lo hi) := by unfold m44 In; by_cases h : lo ≤ n <;> simp [h]
theorem e34 (n : Int) : m34 n = some (In n 0 99999) := by unfold m34; rw [e44]; rfl
theorem e83 (n : Int) : m83 n = some (In n 1 999) := by unfold m83; rw [e44]; rfl
def okC (c : UInt8) : Bool := decide (32 ≤ c.toNat) && decide (c.toNat ≤ 126)
def txt (s : Bytes) : Bool := In s.length 1 200 && s.all okC
theorem e28 {s : Bytes} (h : s.length ≤ 1073741824) : m28 s = some (txt s) := by
 have h1 := loop_all s okC (.inr false : Unit ⊕ Bool) (.inl ()) (step := m28_1 s) (fun i x hi hx => by
  unfold m28_1
  rw [if_pos (by omega), hx, Option.bind_some]
  unfold okC
  by_cases h1 : 32 ≤ x.toNat <;> by_cases h2 : x.toNat ≤ 126
  ·rw [if_neg (by omega), chk_t (by omega)]; simp [h1, h2]; omega
  ·rw [if_neg (by omega)]; simp [h1, h2]; omega
  ·rw [if_pos (by omega)]; simp [h1, h2]
  ·rw [if_pos (by omega)]; simp [h1, h2]) (by unfold m28_1; simp)
 unfold m28
 rw [h1, Option.bind_some, e27]
 unfold txt
 cases s.all okC <;> simp
theorem e126 (c : UInt8) : m126 (c.toNat : Int) = some (okC c) := by
 unfold m126 okC
 by_cases h1 : 32 ≤ c.toNat
 ·rw [if_pos (by omega)]; simp [h1]; omega
 ·rw [if_neg (by omega)]; simp [h1]
theorem e84 {s : Bytes} (h : s.length ≤ 1073741824) : m84 s = some (txt s) := by
 have h1 : m125 s m126 = some (s.all okC) := by
  have := gAll_some (l := s) (f := fun c => m126 (c.toNat : Int)) okC (fun c _ => e126 c)
  exact this
 unfold m84 txt
 rw [e44, Option.bind_some]
 cases hl : In s.length 1 200
 ·simp
 ·rw [if_pos rfl, chk_t h, h1]; simp
def okP (p : Paragraph) : Bool := In p.anchor 1 999 && txt p.text
theorem e123 {p : Paragraph} (h : p.text.length ≤ 1073741824) : m123 p = some (okP p) := by
 unfold m123 okP
 rw [e83, Option.bind_some, e84 h]
 cases In p.anchor 1 999 <;> simp
def allP (v : Volume) : List Paragraph := v.parts.flatMap (·.paragraphs)
theorem parts_take {v : Volume} {i : Nat} {x : Part} (h : v.parts[i]? = some x) : (v.parts.take (i + 1)).flatMap (·.paragraphs) = (v.parts.take i).flatMap (·.paragraphs) ++ x.paragraphs := by
 rw [List.take_succ, h]; simp
theorem parts_len {v : Volume} (i : Nat) : ((v.parts.take i).flatMap (·.paragraphs)).length ≤ (allP v).length := by
 have : allP v = (v.parts.take i).flatMap (·.paragraphs) ++ (v.parts.drop i).flatMap (·.paragraphs) := by unfold allP; rw [← List.flatMap_append, List.take_append_drop]
 rw [this]; simp
theorem e26 {v : Volume} (h : (allP v).length ≤ 1073741824) : m26 v = some (allP v) := by
 have := loop_l v.parts (fun _ x a => Sum.inl (a ++ x.paragraphs)) (fun a => a) (fun i a => a = (v.parts.take i).flatMap (·.paragraphs)) (step := m26_1 v) (fun i x a hi hx ha => by
  have h2 := parts_len (v := v) (i + 1)
  rw [parts_take hx, ← ha, List.length_append] at h2
  unfold m26_1
  rw [if_pos (by omega), hx, Option.bind_some, chk_t (by show a.length + x.paragraphs.length ≤ 1073741824; omega)]) (fun i x a a' hi hx ha hg => by
   simp only [Sum.inl.injEq] at hg; rw [← hg, ha, parts_take hx]) (fun a ha => by unfold m26_1; simp) (a0 := []) (by simp)
 unfold m26
 rw [this, goL_fold, foldl_append]; rfl
theorem e53 {v : Volume} (h : (allP v).length ≤ 1073741824) : m53 v = some (allP v) := by
 have := loop_l v.parts (fun _ x a => Sum.inl (a ++ x.paragraphs)) (fun a => a) (fun i a => a = (v.parts.take i).flatMap (·.paragraphs)) (step := m53_1 v) (fun i x a hi hx ha => by
  have h2 := parts_len (v := v) (i + 1)
  rw [parts_take hx, ← ha, List.length_append] at h2
  unfold m53_1
  rw [if_pos (by omega), hx, Option.bind_some, chk_t (by show a.length + x.paragraphs.length ≤ 1073741824; omega)]) (fun i x a a' hi hx ha hg => by
   simp only [Sum.inl.injEq] at hg; rw [← hg, ha, parts_take hx]) (fun a ha => by unfold m53_1; simp) (a0 := []) (by simp)
 unfold m53
 rw [this, goL_fold, foldl_append]; rfl
structure Few (v : Volume) (es : List Erratum) : Prop where
 parts : v.parts.length ≤ 8
 pars : ∀ p ∈ v.parts, p.paragraphs.length ≤ 35
 text : ∀ p ∈ v.parts, ∀ x ∈ p.paragraphs, x.text.length ≤ 210
 errata : es.length ≤ 25
 etext : ∀ x ∈ es, x.text.length ≤ 210
theorem flat_le {l : List Part} (h : ∀ p ∈ l, p.paragraphs.length ≤ 35) : (l.flatMap (·.paragraphs)).length ≤ 35 * l.length := by
 induction l with
 | nil => simp
 | cons x l ih =>
  have h1 := h x List.mem_cons_self
  have h2 := ih (fun y hy => h y (List.mem_cons_of_mem _ hy))
  simp only [List.flatMap_cons, List.length_append, List.length_cons]; omega
theorem Few.all {v : Volume} {es : List Erratum} (h : Few v es) : (allP v).length ≤ 1073741824 := by
 have h1 := flat_le h.pars
 have h2 := h.parts
 unfold allP; omega
theorem Few.ptext {v : Volume} {es : List Erratum} (h : Few v es) {p : Paragraph} (hp : p ∈ allP v) : p.text.length ≤ 210 := by
 obtain ⟨q, hq, hp⟩ := List.mem_flatMap.1 hp
 exact h.text q hq p hp
theorem e5 (v : Volume) (es : List Erratum) : ∃ b, m5 v es = some b ∧ (b = true → Few v es) := by
 have h2 : ∀ x : Part, loopO (m5_2 x) 0 = some (if x.paragraphs.all (fun p => decide (p.text.length ≤ 210)) then .inl () else .inr (.inr (.inr false))) := fun x => by
  refine loop_all x.paragraphs (fun p => decide (p.text.length ≤ 210)) _ _ (fun i p hi hp => ?_) (by unfold m5_2; simp)
  unfold m5_2
  rw [if_pos (by omega), hp, Option.bind_some]
  by_cases h : p.text.length ≤ 210
  ·rw [if_neg (by omega)]; simp [h]
  ·rw [if_pos (by omega)]; simp [h]
 have h1 := loop_all v.parts (fun x => decide (x.paragraphs.length ≤ 35) && x.paragraphs.all (fun p => decide (p.text.length ≤ 210))) (.inr false : Unit ⊕ Bool) (.inl ()) (step := m5_1 v) (fun i x hi hx => by
  unfold m5_1
  rw [if_pos (by omega), hx, Option.bind_some]
  by_cases h : x.paragraphs.length ≤ 35
  ·rw [if_neg (by omega), h2 x, Option.bind_some]
   simp only [h, decide_true, Bool.true_and]
   cases x.paragraphs.all (fun p => decide (p.text.length ≤ 210)) <;> simp
  ·rw [if_pos (by omega)]; simp [h]) (by unfold m5_1; simp)
 have h3 := loop_all es (fun x => decide (x.text.length ≤ 210)) (.inr false : Unit ⊕ Bool) (.inl ()) (step := m5_3 es) (fun i x hi hx => by
  unfold m5_3
  rw [if_pos (by omega), hx, Option.bind_some]
  by_cases h : x.text.length ≤ 210
  ·rw [if_neg (by omega)]; simp [h]
  ·rw [if_pos (by omega)]; simp [h]) (by unfold m5_3; simp)
 unfold m5
 rw [h1, Option.bind_some]
 by_cases c1 : v.parts.all (fun x => decide (x.paragraphs.length ≤ 35) && x.paragraphs.all (fun p => decide (p.text.length ≤ 210))) = true
 ·rw [if_pos c1]
  simp only [h3, Option.bind_some]
  by_cases c2 : es.all (fun x => decide (x.text.length ≤ 210)) = true
  ·rw [if_pos c2]
   by_cases c3 : v.parts.length ≤ 8
   ·refine ⟨decide (es.length ≤ 25), ?_, fun h => ?_⟩
    ·simp only []
     rw [if_pos (by omega)]; simp; omega
    ·simp only [List.all_eq_true, Bool.and_eq_true, decide_eq_true_eq] at c1 c2 h
     exact ⟨c3, fun p hp => (c1 p hp).1, fun p hp => (c1 p hp).2, h, c2⟩
   ·exact ⟨false, by simp only []; rw [if_neg (by omega)]; rfl, fun h => by cases h⟩
  ·rw [if_neg c2]; exact ⟨false, rfl, fun h => by cases h⟩
 ·rw [if_neg c1]; exact ⟨false, rfl, fun h => by cases h⟩
end T10
namespace T10
open Go Go.Proofs Pk
theorem loop_ex {α ε : Type} (l : List α) (P : Nat → α → Prop) (e out : ε) {step : Nat → Option (Nat ⊕ ε)}
  (hs : ∀ i x, i < l.length → l[i]? = some x → ∃ b : Bool, step i = some (if b then .inl (i + 1) else .inr e) ∧ (b = true → P i x)) (he : step l.length = some (.inr out)) :
  ∃ b : Bool, loopO step 0 = some (if b then out else e) ∧ (b = true → ∀ i x, l[i]? = some x → P i x) := by
 have key : ∀ k i, l.length - i = k → i ≤ l.length → ∃ b : Bool, loopO step i = some (if b then out else e) ∧ (b = true → ∀ j x, i ≤ j → l[j]? = some x → P j x) := by
  intro k
  induction k with
  | zero =>
   intro i hk hi
   obtain rfl : i = l.length := by omega
   refine ⟨true, by rw [loopO_out he]; rfl, fun _ j x hj hx => ?_⟩
   have := lt_len hx; omega
  | succ k ih =>
   intro i hk hi
   have hlt : i < l.length := by omega
   obtain ⟨b, h1, h2⟩ := hs i _ hlt (List.getElem?_eq_getElem hlt)
   cases b with
   | false => exact ⟨false, by rw [loopO_out (by simpa using h1)]; rfl, fun h => by cases h⟩
   | true =>
    obtain ⟨b', h3, h4⟩ := ih (i + 1) (by omega) (by omega)
    refine ⟨b', by rw [loopO_next (by simpa using h1)]; exact h3, fun hb j x hj hx => ?_⟩
    by_cases e : j = i
    ·subst e
     rw [List.getElem?_eq_getElem hlt] at hx
     cases hx; exact h2 rfl
    ·exact h4 hb j x (by omega) hx
 obtain ⟨b, h1, h2⟩ := key l.length 0 (by omega) (by omega)
 exact ⟨b, h1, fun h j x hx => h2 h j x (Nat.zero_le _) hx⟩
structure OkV (v : Volume) : Prop where
 parts : v.parts.length ≤ 6
 pars : (allP v).length ≤ 30
 number : In v.number 1 99 = true
 bound : In v.bound 0 99999 = true
 height : In v.height 1 60 = true
 width : In v.width 10 80 = true
 day : ∀ (i : Nat) (x : Part), v.parts[i]? = some x → In x.day 0 v.bound = true ∧ ∀ y, 0 < i → v.parts[i - 1]? = some y → y.day < x.day
 par : ∀ p ∈ allP v, okP p = true
 once : ((allP v).map (·.anchor)).Nodup
theorem nodup_map {α β : Type} {f : α → β} {l : List α} (h : ∀ (i j : Nat) (x y : α), l[i]? = some x → l[j]? = some y → j < i → f y ≠ f x) : (l.map f).Nodup := by
 rw [List.nodup_iff_pairwise_ne, List.pairwise_iff_getElem]
 intro i j hi hj hij
 rw [List.getElem_map, List.getElem_map]
 simp only [List.length_map] at hi hj
 exact h j i _ _ (List.getElem?_eq_getElem hj) (List.getElem?_eq_getElem hi) hij
theorem e6 {v : Volume} (hl : (allP v).length ≤ 1073741824) (ht : ∀ p ∈ allP v, p.text.length ≤ 1073741824) : ∃ r, m6 v = some r ∧ (r = 0 → OkV v) := by
 have h1 := loop_ex v.parts (fun i x => In x.day 0 v.bound = true ∧ ∀ y, 0 < i → v.parts[i - 1]? = some y → y.day < x.day) (.inr 1 : Unit ⊕ Int) (.inl ()) (step := m6_1 v) (fun i x hi hx => by
  unfold m6_1
  rw [if_pos (by omega), hx, Option.bind_some]
  by_cases h : In x.day 0 v.bound = true
  ·simp only [e27, Option.bind_some, h, if_true]
   by_cases h0 : i = 0
   ·subst h0
    exact ⟨true, by simp, fun _ => ⟨trivial, fun y h _ => absurd h (Nat.lt_irrefl _)⟩⟩
   ·have hp : v.parts[i - 1]? = some v.parts[i - 1] := List.getElem?_eq_getElem (by omega)
    rw [if_pos (by omega), show ((i : Int) - 1).toNat = i - 1 by omega, hp]
    by_cases hd : x.day ≤ v.parts[i - 1].day
    ·exact ⟨false, by simp [hd], fun h => by cases h⟩
    ·refine ⟨true, by simp [hd], fun _ => ⟨trivial, fun y _ hy => ?_⟩⟩
     cases hy; omega
  ·refine ⟨false, ?_, fun h => by cases h⟩
   simp only [e27, Option.bind_some, h]; simp) (by unfold m6_1; simp)
 have h2 := loop_ex (allP v) (fun i p => okP p = true) (.inr 1 : Unit ⊕ Int) (.inl ()) (step := m6_2 (allP v)) (fun i x hi hx => by
  refine ⟨okP x, ?_, fun h => h⟩
  unfold m6_2 okP
  rw [if_pos (by omega), hx, Option.bind_some, e27, Option.bind_some, e28 (ht x (List.mem_of_getElem? hx))]
  cases In x.anchor 1 999 <;> cases txt x.text <;> simp) (by unfold m6_2; simp)
 have h4 : ∀ i x, (allP v)[i]? = some x → ∃ b : Bool, loopO (m6_4 i (allP v)) 0 = some (if b then .inl () else .inr (.inr (.inr 6))) ∧ (b = true → ∀ j y, j < i → (allP v)[j]? = some y → y.anchor ≠ x.anchor) := fun i x hx => by
  have hi := lt_len hx
  have hlen : ((allP v).take i).length = i := by rw [List.length_take]; omega
  obtain ⟨b, g1, g2⟩ := loop_ex ((allP v).take i) (fun j y => y.anchor ≠ x.anchor) (.inr (.inr (.inr 6)) : Unit ⊕ (Nat ⊕ (Unit ⊕ Int))) (.inl ()) (step := m6_4 i (allP v)) (fun j y hj hy => by
   rw [hlen] at hj
   rw [List.getElem?_take_of_lt hj] at hy
   refine ⟨decide (y.anchor ≠ x.anchor), ?_, fun h => of_decide_eq_true h⟩
   unfold m6_4
   rw [if_pos (by omega), hy, Option.bind_some, hx, Option.bind_some, chk_t (by omega)]
   by_cases e : y.anchor = x.anchor <;> simp [e]) (by rw [hlen]; unfold m6_4; simp)
  exact ⟨b, g1, fun hb j y hj hy => g2 hb j y (by rw [List.getElem?_take_of_lt hj]; exact hy)⟩
 have h3 := loop_ex (allP v) (fun i x => ∀ j y, j < i → (allP v)[j]? = some y → y.anchor ≠ x.anchor) (.inr 6 : Unit ⊕ Int) (.inl ()) (step := m6_3 (allP v)) (fun i x hi hx => by
  obtain ⟨b, g1, g2⟩ := h4 i x hx
  refine ⟨b, ?_, g2⟩
  unfold m6_3
  rw [if_pos (by omega), g1, Option.bind_some]
  cases b <;> simp) (by unfold m6_3; simp)
 obtain ⟨b1, g1, f1⟩ := h1
 obtain ⟨b2, g2, f2⟩ := h2
 obtain ⟨b3, g3, f3⟩ := h3
 unfold m6
 rw [e26 hl, Option.bind_some]
 by_cases c1 : v.parts.length ≤ 6 ∧ (allP v).length ≤ 30
 ·rw [if_neg (by omega)]
  simp only [Option.bind_some]
  rw [if_neg (by simp; omega)]
  simp only [e27, Option.bind_some]
  by_cases c2 : In v.number 1 99 = true ∧ In v.bound 0 99999 = true ∧ In v.height 1 60 = true ∧ In v.width 10 80 = true
  ·obtain ⟨i1, i2, i3, i4⟩ := c2
   simp only [i1, i2, i3, i4, if_true, Option.bind_some, Bool.not_true, Bool.false_eq_true, if_false]
   rw [g1, Option.bind_some]
   cases b1 with
   | false => exact ⟨1, rfl, fun h => by cases h⟩
   | true =>
    simp only [if_true]
    rw [g2, Option.bind_some]
    cases b2 with
    | false => exact ⟨1, rfl, fun h => by cases h⟩
    | true =>
     simp only [if_true]
     rw [g3, Option.bind_some]
     cases b3 with
     | false => exact ⟨6, rfl, fun h => by cases h⟩
     | true => exact ⟨0, rfl, fun _ => ⟨c1.1, c1.2, i1, i2, i3, i4, f1 rfl, fun p hp => by
       obtain ⟨i, hi⟩ := List.getElem?_of_mem hp
       exact f2 rfl i p hi, nodup_map fun i j x y hx hy hij => f3 rfl i x hx j y hij hy⟩⟩
  ·refine ⟨1, ?_, fun h => by cases h⟩
   cases i1 : In v.number 1 99 <;> cases i2 : In v.bound 0 99999 <;> cases i3 : In v.height 1 60 <;> cases i4 : In v.width 10 80 <;> simp
   exact absurd ⟨i1, i2, i3, i4⟩ c2
 ·refine ⟨3, ?_, fun h => by cases h⟩
  by_cases c : 6 < v.parts.length
  ·rw [if_pos (by omega)]; rfl
  ·rw [if_neg (by omega)]; simp only [Option.bind_some]; rw [if_pos (by simp; omega)]
end T10
namespace T10
open Go Go.Proofs Pk
def right (x : Erratum) : Bool := In x.number 1 999 && In x.day 0 99999 && In x.anchor 1 999 && (if x.kind = 0 then txt x.text && decide (x.new_ = 0) else if x.kind = 1 then decide (x.text = []) && decide (x.new_ = 0) else decide (x.kind = 2) && txt x.text && In x.new_ 1 999)
def Less (a b : Erratum) : Bool := decide (a.day < b.day) || (decide (a.day = b.day) && decide (a.number < b.number))
theorem e30 (a b : Erratum) : m30 a b = some (Less a b) := by
 unfold m30 Less
 by_cases h : a.day < b.day
 ·simp [h]
 ·by_cases h2 : a.day = b.day
  ·simp [h, h2]
  ·simp [h, h2]
theorem e29 {x : Erratum} (h : x.text.length ≤ 1073741824) : m29 x = some (right x) := by
 unfold m29 right
 simp only [e27, Option.bind_some, e28 h]
 cases In x.number 1 999 <;> cases In x.day 0 99999 <;> cases In x.anchor 1 999 <;> simp
 by_cases h0 : x.kind = 0
 ·simp only [h0, if_true]; cases txt x.text <;> simp
 ·by_cases h1 : x.kind = 1
  ·simp only [h1]; by_cases ht : x.text = [] <;> simp [ht]
  ·simp only [h0, h1, if_false]
   by_cases h2 : x.kind = 2
   ·simp only [h2, if_true]; cases txt x.text <;> simp
   ·simp [h2]
structure OkE (v : Volume) (es : List Erratum) : Prop where
 few : es.length ≤ 20
 right : ∀ x ∈ es, right x = true
 once : (es.map (·.number)).Nodup
 news : ∀ (i j : Nat) (x y : Erratum), es[i]? = some x → es[j]? = some y → j ≠ i → x.kind = 2 → y.kind = 2 → y.new_ ≠ x.new_
 fresh : ∀ x ∈ es, x.kind = 2 → ∀ p ∈ allP v, p.anchor ≠ x.new_
 there : ∀ x ∈ es, (∃ p ∈ allP v, p.anchor = x.anchor) ∨ ∃ y ∈ es, y.kind = 2 ∧ y.new_ = x.anchor ∧ Less y x = true
theorem foldl_or {α : Type} (p : α → Bool) : ∀ (l : List α) (b : Bool), l.foldl (fun b x => b || p x) b = (b || l.any p)
 | [], b => by simp
 | x :: l, b => by simp [foldl_or p l, Bool.or_assoc]
theorem e7 {v : Volume} {es : List Erratum} (hl : (allP v).length ≤ 1073741824) (ht : ∀ x ∈ es, x.text.length ≤ 1073741824) : ∃ r, m7 v es = some r ∧ (r = 0 → OkE v es) := by
 have h1 := loop_ex es (fun i x => right x = true) (.inr 1 : Unit ⊕ Int) (.inl ()) (step := m7_1 es) (fun i x hi hx => by
  refine ⟨right x, ?_, fun h => h⟩
  unfold m7_1
  rw [if_pos (by omega), hx, Option.bind_some, e29 (ht x (List.mem_of_getElem? hx)), Option.bind_some]
  cases right x <;> rfl) (by unfold m7_1; simp)
 have h3 : ∀ i x, es[i]? = some x → ∃ b : Bool, loopO (m7_3 es i) 0 = some (if b then .inl () else .inr (.inr (.inr 6))) ∧ (b = true → ∀ j y, es[j]? = some y → j ≠ i → y.number ≠ x.number ∧ (x.kind = 2 → y.kind = 2 → y.new_ ≠ x.new_)) := fun i x hx => by
  have hi := lt_len hx
  exact loop_ex es (fun j y => j ≠ i → y.number ≠ x.number ∧ (x.kind = 2 → y.kind = 2 → y.new_ ≠ x.new_)) (.inr (.inr (.inr 6)) : Unit ⊕ (Nat ⊕ (Unit ⊕ Int))) (.inl ()) (step := m7_3 es i) (fun j y hj hy => by
   unfold m7_3
   rw [if_pos (by omega)]
   by_cases e : j = i
   ·rw [if_neg (by omega)]
    exact ⟨true, by simp, fun _ h => absurd e h⟩
   ·rw [if_pos (by omega), hy, Option.bind_some, hx, Option.bind_some]
    by_cases e1 : y.number = x.number
    ·exact ⟨false, by simp [e1], fun h => by cases h⟩
    ·rw [if_neg e1]
     by_cases e2 : x.kind = 2
     ·rw [if_pos e2]
      by_cases e3 : y.kind = 2
      ·rw [if_pos e3]
       by_cases e4 : y.new_ = x.new_
       ·exact ⟨false, by simp [e4], fun h => by cases h⟩
       ·exact ⟨true, by simp [e4], fun _ _ => ⟨e1, fun _ _ => e4⟩⟩
      ·rw [if_neg e3]; exact ⟨true, by simp, fun _ _ => ⟨e1, fun _ h => absurd h e3⟩⟩
     ·rw [if_neg e2]; exact ⟨true, by simp, fun _ _ => ⟨e1, fun h _ => absurd h e2⟩⟩) (by unfold m7_3; simp)
 have h4 : ∀ i x, es[i]? = some x → ∃ b : Bool, loopO (m7_4 (allP v) es i) 0 = some (if b then .inl () else .inr (.inr (.inr 6))) ∧ (b = true → ∀ (j : Nat) p, (allP v)[j]? = some p → x.kind = 2 → p.anchor ≠ x.new_) := fun i x hx => by
  exact loop_ex (allP v) (fun j p => x.kind = 2 → p.anchor ≠ x.new_) (.inr (.inr (.inr 6)) : Unit ⊕ (Nat ⊕ (Unit ⊕ Int))) (.inl ()) (step := m7_4 (allP v) es i) (fun j p hj hp => by
   unfold m7_4
   rw [if_pos (by omega), hx, Option.bind_some]
   by_cases e2 : x.kind = 2
   ·rw [if_pos e2, hp, Option.bind_some]
    by_cases e4 : p.anchor = x.new_
    ·exact ⟨false, by simp [e4], fun h => by cases h⟩
    ·exact ⟨true, by simp [e4], fun _ _ => e4⟩
   ·rw [if_neg e2]; exact ⟨true, by simp, fun _ h => absurd h e2⟩) (by unfold m7_4; simp)
 have h2 := loop_ex es (fun i x => (∀ j y, es[j]? = some y → j ≠ i → y.number ≠ x.number ∧ (x.kind = 2 → y.kind = 2 → y.new_ ≠ x.new_)) ∧ (∀ (j : Nat) p, (allP v)[j]? = some p → x.kind = 2 → p.anchor ≠ x.new_)) (.inr 6 : Unit ⊕ Int) (.inl ()) (step := m7_2 es (allP v)) (fun i x hi hx => by
  obtain ⟨b, g1, f1⟩ := h3 i x hx
  obtain ⟨b', g2, f2⟩ := h4 i x hx
  unfold m7_2
  rw [if_pos (by omega), g1, Option.bind_some]
  cases b with
  | false => exact ⟨false, rfl, fun h => by cases h⟩
  | true =>
   simp only [if_true]
   rw [g2, Option.bind_some]
   cases b' with
   | false => exact ⟨false, rfl, fun h => by cases h⟩
   | true => exact ⟨true, rfl, fun _ => ⟨f1 rfl, f2 rfl⟩⟩) (by unfold m7_2; simp)
 have h6 : ∀ i x, es[i]? = some x → ∀ b, loopO (m7_6 (allP v) es i) (0, b) = some (b || (allP v).any fun p => decide (p.anchor = x.anchor)) := fun i x hx b => by
  have := loop_fold (allP v) (fun b p => b || decide (p.anchor = x.anchor)) (fun b => b) (fun _ _ => True) (step := m7_6 (allP v) es i) (fun j p b hj hp _ => by
   unfold m7_6
   rw [if_pos (by omega)]
   cases b <;> simp [hp, hx]) (fun _ _ _ _ _ _ => trivial) (fun b _ => by unfold m7_6; simp) (a0 := b) trivial
  rw [this, foldl_or]
 have h7 : ∀ i x, es[i]? = some x → ∀ b, loopO (m7_7 es i) (0, b) = some (b || es.any fun y => decide (y.kind = 2) && (decide (y.new_ = x.anchor) && Less y x)) := fun i x hx b => by
  have := loop_fold es (fun b y => b || (decide (y.kind = 2) && (decide (y.new_ = x.anchor) && Less y x))) (fun b => b) (fun _ _ => True) (step := m7_7 es i) (fun j y b hj hy _ => by
   unfold m7_7
   rw [if_pos (by omega)]
   cases b with
   | true => simp
   | false =>
    simp only [Bool.false_eq_true, if_false, hy, Option.bind_some, Bool.false_or, hx, e30]
    by_cases e1 : y.kind = 2
    ·by_cases e2 : y.new_ = x.anchor <;> simp [e1, e2]
    ·simp [e1]) (fun _ _ _ _ _ _ => trivial) (fun b _ => by unfold m7_7; simp) (a0 := b) trivial
  rw [this, foldl_or]
 have h5 := loop_ex es (fun i x => (∃ p ∈ allP v, p.anchor = x.anchor) ∨ ∃ y ∈ es, y.kind = 2 ∧ y.new_ = x.anchor ∧ Less y x = true) (.inr 7 : Unit ⊕ Int) (.inl ()) (step := m7_5 es (allP v)) (fun i x hi hx => by
  unfold m7_5
  rw [if_pos (by omega), h6 i x hx, Option.bind_some, h7 i x hx, Option.bind_some]
  refine ⟨((false || (allP v).any fun p => decide (p.anchor = x.anchor)) || es.any fun y => decide (y.kind = 2) && (decide (y.new_ = x.anchor) && Less y x)), ?_, fun h => ?_⟩
  ·cases ((false || (allP v).any fun p => decide (p.anchor = x.anchor)) || es.any fun y => decide (y.kind = 2) && (decide (y.new_ = x.anchor) && Less y x)) <;> rfl
  ·simp only [Bool.false_or, Bool.or_eq_true, List.any_eq_true, Bool.and_eq_true, decide_eq_true_eq] at h
   exact h) (by unfold m7_5; simp)
 obtain ⟨b1, g1, f1⟩ := h1
 obtain ⟨b2, g2, f2⟩ := h2
 obtain ⟨b5, g5, f5⟩ := h5
 unfold m7
 by_cases c1 : es.length ≤ 20
 ·rw [if_neg (by omega), g1, Option.bind_some]
  cases b1 with
  | false => exact ⟨1, rfl, fun h => by cases h⟩
  | true =>
   simp only [if_true]
   rw [e26 hl, Option.bind_some, g2, Option.bind_some]
   cases b2 with
   | false => exact ⟨6, rfl, fun h => by cases h⟩
   | true =>
    simp only [if_true]
    rw [g5, Option.bind_some]
    cases b5 with
    | false => exact ⟨7, rfl, fun h => by cases h⟩
    | true =>
     refine ⟨0, rfl, fun _ => ⟨c1, fun x hx => ?_, nodup_map fun i j x y hx hy hij => ?_, fun i j x y hx hy hij k1 k2 => ?_, fun x hx k p hp => ?_, fun x hx => ?_⟩⟩
     ·obtain ⟨i, hi⟩ := List.getElem?_of_mem hx; exact f1 rfl i x hi
     ·exact ((f2 rfl i x hx).1 j y hy (by omega)).1
     ·exact ((f2 rfl i x hx).1 j y hy hij).2 k1 k2
     ·obtain ⟨i, hi⟩ := List.getElem?_of_mem hx
      obtain ⟨j, hj⟩ := List.getElem?_of_mem hp
      exact (f2 rfl i x hi).2 j p hj k
     ·obtain ⟨i, hi⟩ := List.getElem?_of_mem hx; exact f5 rfl i x hi
 ·exact ⟨3, by rw [if_pos (by omega)], fun h => by cases h⟩
structure Ok (v : Volume) (es : List Erratum) : Prop where
 few : Few v es
 vol : OkV v
 err : OkE v es
end T10
namespace T10
open Go Go.Proofs Pk
theorem occAt_app (l r sub : Bytes) : Lib.occAt (l ++ r) sub l.length = sub.isPrefixOf r := by unfold Lib.occAt; rw [List.drop_left]
theorem isPre_self (a r : Bytes) : a.isPrefixOf (a ++ r) = true := List.isPrefixOf_iff_prefix.2 (List.prefix_append a r)
theorem index_at {l r t : Bytes} {c : UInt8} (h : c ∉ l) : Lib.index (l ++ (c :: t ++ r)) (c :: t) = l.length := by
 refine Lib.index_first (by simp) (by rw [occAt_app]; exact isPre_self _ _) (fun j hj => ?_)
 cases hb : Lib.occAt (l ++ (c :: t ++ r)) (c :: t) j with
 | false => rfl
 | true =>
  have := Lib.occAt_head rfl hb
  rw [List.getElem?_append_left hj] at this
  exact absurd (List.mem_of_getElem? this) h
theorem cut_at {l r t : Bytes} {c : UInt8} (h : c ∉ l) : Lib.cut (l ++ (c :: t ++ r)) (c :: t) = (l, r, true) := by
 unfold Lib.cut
 rw [index_at h, if_pos (by omega)]
 simp only [Int.toNat_natCast, List.take_left]
 congr 1
 congr 1
 rw [← List.append_assoc, List.drop_left' (by simp)]
theorem contains_app (l r t : Bytes) : Lib.contains (l ++ (t ++ r)) t = true := by
 unfold Lib.contains
 rcases Lib.index_spec (l ++ (t ++ r)) t with ⟨_, h2⟩ | ⟨i, h1, _⟩
 ·have := h2 l.length (by simp)
  rw [occAt_app, isPre_self] at this; cases this
 ·rw [h1]; simp
theorem itoa_pos {n : Int} (h : 0 ≤ n) : Lib.itoa n = Lib.decDigits n.toNat := by unfold Lib.itoa; rw [if_neg (by omega)]
theorem itoa_dig {n : Int} (h : 0 ≤ n) {c : UInt8} (hc : c ∈ Lib.itoa n) : 48 ≤ c.toNat ∧ c.toNat ≤ 57 := by
 rw [itoa_pos h] at hc
 have := List.all_eq_true.1 (dec_all n.toNat) c hc
 simpa [isd] using this
theorem itoa_no {n : Int} (h : 0 ≤ n) {c : UInt8} (hc : c.toNat < 48 ∨ 57 < c.toNat) : c ∉ Lib.itoa n := fun hm => by have := itoa_dig h hm; omega
theorem itoa_len {n : Int} (h : 0 ≤ n) (h2 : n < 1000000) : (Lib.itoa n).length ≤ 6 := by
 rw [itoa_pos h]; exact dec_len (by omega) (by decide)
theorem atoi_itoa {n : Int} (h : 0 ≤ n) (h2 : n < 1000000000000000000) : atoiR (Lib.itoa n) = (n, false) := by
 rw [itoa_pos h]
 unfold atoiR
 rw [atoi_dec (by omega)]
 simp only [Int.toNat_of_nonneg h]
abbrev sVol : Bytes := [118, 111, 108, 46, 32]
abbrev sCol : Bytes := [44, 32, 99, 111, 108, 46, 32]
abbrev sL : Bytes := [44, 32, 108, 46, 32]
def citeC (v c l : Int) : Bytes := sVol ++ (Lib.itoa v ++ (sCol ++ (Lib.itoa c ++ (sL ++ Lib.itoa l))))
end T10
namespace T10
open Go Go.Proofs Pk
theorem e11 {v : Volume} {es : List Erratum} (h : Few v es) : m11 v = some v := by
 have h2 : ∀ x ∈ v.parts, loopO (m11_2 x) (0, ([] : List Paragraph)) = some x.paragraphs := fun x hx => by
  have hl := h.pars x hx
  have := loop_map x.paragraphs (fun p => p) (fun a => a) (step := m11_2 x) (fun i p a hi hp ha => by
   unfold m11_2
   rw [if_pos (by omega)]
   simp only [hp, Option.bind_some]
   rw [chk_t (by omega)]) (fun a => by unfold m11_2; simp)
  rw [this]; simp
 have h1 := loop_map v.parts (fun x => x) (fun a => a) (step := m11_1 v) (fun i x a hi hx ha => by
  have hl := h.parts
  unfold m11_1
  rw [if_pos (by omega)]
  simp only [hx, Option.bind_some, h2 x (List.mem_of_getElem? hx)]
  rw [chk_t (by omega)]) (fun a => by unfold m11_1; simp)
 unfold m11
 rw [h1, Option.bind_some]; simp
theorem e12 {es : List Erratum} (h : es.length ≤ 1073741823) : m12 es = some es := by
 have h1 := loop_map es (fun x => x) (fun a => a) (step := m12_1 es) (fun i x a hi hx ha => by
  unfold m12_1
  rw [if_pos (by omega)]
  simp only [hx, Option.bind_some, m36]
  rw [chk_t (by omega)]) (fun a => by unfold m12_1; simp)
 unfold m12
 rw [h1, Option.bind_some]; simp
theorem Ok.pt {v : Volume} {es : List Erratum} (h : Ok v es) {p : Paragraph} (hp : p ∈ allP v) : p.text.length ≤ 1073741824 := Nat.le_trans (h.few.ptext hp) (by decide)
theorem Ok.et {v : Volume} {es : List Erratum} (h : Ok v es) {x : Erratum} (hx : x ∈ es) : x.text.length ≤ 1073741824 := Nat.le_trans (h.few.etext x hx) (by decide)
theorem all_take {α : Type} (l : List α) (p : α → Bool) (h : ∀ x ∈ l, p x = true) : l.all p = true := List.all_eq_true.2 h
theorem e80 {v : Volume} {es : List Erratum} (h : Ok v es) : m80 v = some true := by
 have hv := h.vol
 have h1 := loop_all v.parts (fun _ => true) (.inr false : Unit ⊕ Bool) (.inl ()) (step := m80_1 v) (fun i x hi hx => by
  obtain ⟨d1, d2⟩ := hv.day i x hx
  have hb := In_iff.1 hv.bound
  have hd := In_iff.1 d1
  unfold m80_1
  rw [if_pos (by omega), hx, Option.bind_some]
  simp only [e34, Option.bind_some, show In x.day 0 99999 = true from In_iff.2 ⟨hd.1, by omega⟩, if_true]
  rw [if_neg (by omega)]
  by_cases h0 : i = 0
  ·subst h0; simp
  ·have hp : v.parts[i - 1]? = some v.parts[i - 1] := List.getElem?_eq_getElem (by omega)
   have := d2 _ (by omega) hp
   rw [if_pos (by omega), show ((i : Int) - 1).toNat = i - 1 by omega, hp]
   simp; omega) (by unfold m80_1; simp)
 have h2 : m122 (allP v) m123 = some true := by
  have := gAll_some (l := allP v) (f := m123) okP (fun p hp => e123 (h.pt hp))
  rw [all_take _ _ hv.par] at this
  exact this
 unfold m80
 rw [h1, all_take _ _ (fun _ _ => rfl), if_pos rfl]
 simp only [Option.bind_some, e44, e34, hv.number, hv.bound, hv.height, hv.width, if_true, e53 h.few.all, h2]
theorem lkp_put' (k j : Int) (b : Bool) : ∀ m : List (Int × Bool), lkp (put m k b) j = if k = j then some b else lkp m j
  | [] => by by_cases h : k = j
             · subst h; simp [put, lkp]
             · simp [put, lkp, h, Ne.symm h]
  | (q, x) :: m => by
    have ih := lkp_put' k j b m
    unfold put
    by_cases h : k = q
    · subst h
      rw [if_pos rfl]
      by_cases h2 : k = j
      · subst h2; simp [lkp]
      · simp [lkp, h2, Ne.symm h2]
    · rw [if_neg h]
      unfold lkp
      by_cases h2 : j = q
      · subst h2; rw [if_pos rfl, if_pos rfl, if_neg h]
      · rw [if_neg h2, if_neg h2, ih]
def Met (m : List (Int × Bool)) (S : Int → Prop) : Prop := ∀ k, (lkp m k).getD false = true ↔ S k
theorem Met.nil : Met [] (fun _ => False) := fun k => by simp [lkp]
theorem Met.put {m : List (Int × Bool)} {S : Int → Prop} (h : Met m S) (k : Int) : Met (put m k true) (fun j => j = k ∨ S j) := fun j => by
 rw [lkp_put' k j true m]
 by_cases e : k = j
 ·simp [e]
 ·rw [if_neg e, h j]; constructor
  ·exact .inr
  ·rintro (h | h)
   ·exact absurd h.symm e
   ·exact h
theorem Met.iff {m : List (Int × Bool)} {S T : Int → Prop} (h : Met m S) (e : ∀ k, S k ↔ T k) : Met m T := fun k => (h k).trans (e k)
theorem once_ne {α : Type} {f : α → Int} {l : List α} (h : (l.map f).Nodup) {i : Nat} {x : α} (hx : l[i]? = some x) : ¬ ∃ j y, j < i ∧ l[j]? = some y ∧ f y = f x := by
 rintro ⟨j, y, hj, hy, e⟩
 have h1 : (l.map f)[i]? = some (f x) := by rw [List.getElem?_map, hx]; rfl
 have h2 : (l.map f)[j]? = some (f x) := by rw [List.getElem?_map, hy]; simp [e]
 have hi := lt_len h1
 have := (List.getElem?_inj (i := i) (j := j) hi h).1 (h1.trans h2.symm)
 omega
theorem e50 {v : Volume} {es : List Erratum} (h : Ok v es) : m50 v = some 0 := by
 have hv := h.vol
 have h1 := loop_l (allP v) (fun _ x a => Sum.inl (put a x.anchor true)) (fun a => (Sum.inl a : List (Int × Bool) ⊕ Int)) (fun i a => Met a (fun k => ∃ j y, j < i ∧ (allP v)[j]? = some y ∧ y.anchor = k)) (step := m50_1 (allP v)) (fun i x a hi hx ha => by
  unfold m50_1
  rw [if_pos (by omega)]
  simp only [hx, Option.bind_some]
  rw [if_neg (fun c => once_ne hv.once hx ((ha _).1 c))]) (fun i x a a' hi hx ha hg => by
  simp only [Sum.inl.injEq] at hg
  rw [← hg]
  refine (ha.put x.anchor).iff fun k => ⟨?_, ?_⟩
  ·rintro (rfl | ⟨j, y, hj, hy, e⟩)
   ·exact ⟨i, x, by omega, hx, rfl⟩
   ·exact ⟨j, y, by omega, hy, e⟩
  ·rintro ⟨j, y, hj, hy, e⟩
   by_cases hji : j = i
   ·subst hji; rw [hx] at hy; cases hy; exact .inl e.symm
   ·exact .inr ⟨j, y, by omega, hy, e⟩) (fun a ha => by unfold m50_1; simp) (a0 := []) (Met.nil.iff fun k => ⟨False.elim, fun ⟨j, _, hj, _⟩ => absurd hj (Nat.not_lt_zero _)⟩)
 unfold m50
 rw [e53 h.few.all, Option.bind_some, if_neg (by have := hv.parts; omega)]
 simp only [Option.bind_some]
 rw [if_neg (by have := hv.pars; simp; omega), e80 h]
 simp only [Option.bind_some, if_true]
 rw [h1, goL_fold]; rfl
theorem e52 {x : Erratum} (h : x.text.length ≤ 1073741824) (hr : right x = true) : m52 x = some true := by
 unfold right at hr
 simp only [Bool.and_eq_true] at hr
 obtain ⟨⟨⟨h1, h2⟩, h3⟩, h4⟩ := hr
 unfold m52
 simp only [e44, e34, e83, Option.bind_some, h1, h2, h3, if_true, Bool.not_true, Bool.false_eq_true, if_false, e84 h]
 by_cases k0 : x.kind = 0
 ·rw [if_pos k0] at h4
  simp only [Bool.and_eq_true, decide_eq_true_eq] at h4
  simp [k0, h4.1, h4.2]
 ·rw [if_neg k0] at h4
  by_cases k1 : x.kind = 1
  ·rw [if_pos k1] at h4
   simp only [Bool.and_eq_true, decide_eq_true_eq] at h4
   simp [k1, h4.1, h4.2]
  ·rw [if_neg k1] at h4
   simp only [Bool.and_eq_true, decide_eq_true_eq] at h4
   simp [h4.1.1, h4.1.2, h4.2]
theorem e51 {v : Volume} {es : List Erratum} (h : Ok v es) : m51 es m52 = some true := by
 have := gAll_some (l := es) (f := m52) (fun _ => true) (fun x hx => e52 (h.et hx) (h.err.right x hx))
 rw [all_take _ _ (fun _ _ => rfl)] at this
 exact this
theorem seenP {v : Volume} {step : Nat × List (Int × Bool) → Option ((Nat × List (Int × Bool)) ⊕ List (Int × Bool))} (hs : ∀ i x a, i < (allP v).length → (allP v)[i]? = some x → step (i, a) = some (.inl (i + 1, put a x.anchor true))) (he : ∀ a, step ((allP v).length, a) = some (.inr a)) : ∃ m, loopO step (0, []) = some m ∧ Met m (fun k => ∃ p ∈ allP v, p.anchor = k) := by
 have h1 := loop_fold (allP v) (fun a x => put a x.anchor true) (fun a => a) (fun _ _ => True) (step := step) (fun i x a hi hx _ => hs i x a hi hx) (fun _ _ _ _ _ _ => trivial) (fun a _ => he a) (a0 := []) trivial
 refine ⟨_, h1, ?_⟩
 have key : ∀ (l : List Paragraph) (m : List (Int × Bool)) (S : Int → Prop), Met m S → Met (l.foldl (fun a x => put a x.anchor true) m) (fun k => S k ∨ ∃ p ∈ l, p.anchor = k) := by
  intro l
  induction l with
  | nil => intro m S h; exact h.iff fun k => by simp
  | cons x l ih =>
   intro m S h
   refine (ih _ _ (h.put x.anchor)).iff fun k => ?_
   simp only [List.mem_cons, exists_eq_or_imp]
   constructor
   ·rintro ((rfl | h) | h)
    ·exact .inr (.inl rfl)
    ·exact .inl h
    ·exact .inr (.inr h)
   ·rintro (h | rfl | h)
    ·exact .inl (.inr h)
    ·exact .inl (.inl rfl)
    ·exact .inr h
 exact (key (allP v) [] _ Met.nil).iff fun k => by simp
end T10
namespace T10
open Go Go.Proofs Pk
theorem Less_iff {a b : Erratum} : Less a b = true ↔ a.day < b.day ∨ (a.day = b.day ∧ a.number < b.number) := by simp [Less]
theorem Less_irr (a : Erratum) : Less a a = false := by simp [Less]
theorem Less_tr {a b c : Erratum} (h : Less a b = true) (k : Less b c = true) : Less a c = true := by
 rw [Less_iff] at *; omega
theorem Less_as {a b : Erratum} (h : Less a b = true) : Less b a = false := by
 cases hb : Less b a with
 | false => rfl
 | true => rw [Less_iff] at *; omega
theorem Less_tot {a b : Erratum} (h : a.number ≠ b.number) : Less a b = true ∨ Less b a = true := by
 rw [Less_iff, Less_iff]; omega
def insE (x : Erratum) : List Erratum → List Erratum
 | [] => [x]
 | y :: l => if Less x y then x :: y :: l else y :: insE x l
def sortE : List Erratum → List Erratum
 | [] => []
 | x :: l => insE x (sortE l)
theorem insE_perm (x : Erratum) : ∀ l, (insE x l).Perm (x :: l)
 | [] => .refl _
 | y :: l => by
  unfold insE
  split
  ·exact .refl _
  ·exact ((insE_perm x l).cons y).trans (.swap _ _ _)
theorem sortE_perm : ∀ l, (sortE l).Perm l
 | [] => .refl _
 | x :: l => (insE_perm x (sortE l)).trans ((sortE_perm l).cons x)
def Asc (l : List Erratum) : Prop := l.Pairwise (fun a b => Less a b = true)
theorem insE_asc {x : Erratum} : ∀ {l : List Erratum}, Asc l → (∀ y ∈ l, y.number ≠ x.number) → Asc (insE x l)
 | [], _, _ => List.pairwise_singleton _ _
 | y :: l, h, hn => by
  unfold insE
  obtain ⟨h1, h2⟩ := List.pairwise_cons.1 h
  split
  ·rename_i hl
   exact List.pairwise_cons.2 ⟨fun z hz => by
    rcases List.mem_cons.1 hz with rfl | hz
    ·exact hl
    ·exact Less_tr hl (h1 z hz), h⟩
  ·rename_i hl
   refine List.pairwise_cons.2 ⟨fun z hz => ?_, insE_asc h2 (fun z hz => hn z (List.mem_cons_of_mem _ hz))⟩
   rcases List.mem_cons.1 ((insE_perm x l).subset hz) with rfl | hz
   ·rcases Less_tot (hn y List.mem_cons_self) with h | h
    ·exact h
    ·exact absurd h hl
   ·exact h1 z hz
theorem sortE_asc : ∀ {l : List Erratum}, (l.map (·.number)).Nodup → Asc (sortE l)
 | [], _ => List.Pairwise.nil
 | x :: l, h => by
  simp only [List.map_cons, List.nodup_cons, List.mem_map, not_exists, not_and] at h
  exact insE_asc (sortE_asc h.2) (fun y hy => h.1 y ((sortE_perm l).subset hy))
theorem e130 (x y : Int) : m130 x y = some (if x < y then -1 else if y < x then 1 else 0) := by
 unfold m130 m171
 simp only [Option.bind_some, ne_eq, not_true_eq_false, decide_false, Bool.false_eq_true, if_false]
 by_cases h : x < y
 ·rw [if_pos h, if_pos h]
 ·rw [if_neg h, if_neg h]
  by_cases h2 : y < x
  ·rw [if_pos h2, if_pos h2]
  ·rw [if_neg h2, if_neg h2]
theorem e129 (a b : Int) : m129 [a, b] = some (if a ≠ 0 then a else b) := by
 have h0 : m129_1 [a, b] 0 = if a ≠ 0 then some (.inr (.inr a)) else some (.inl 1) := by unfold m129_1; simp
 have h1 : m129_1 [a, b] 1 = if b ≠ 0 then some (.inr (.inr b)) else some (.inl 2) := by unfold m129_1; simp
 have h2 : m129_1 [a, b] 2 = some (.inr (.inl ())) := by unfold m129_1; simp
 unfold m129
 by_cases ha : a = 0
 ·by_cases hb : b = 0
  ·rw [loopO_next (s' := 1) (by rw [h0, if_neg (by simpa using ha)]), loopO_next (s' := 2) (by rw [h1, if_neg (by simpa using hb)]), loopO_out h2]
   simp [ha, hb]
  ·rw [loopO_next (s' := 1) (by rw [h0, if_neg (by simpa using ha)]), loopO_out (e := .inr b) (by rw [h1, if_pos hb])]
   simp [ha]
 ·rw [loopO_out (e := .inr a) (by rw [h0, if_pos ha])]
  simp [ha]
theorem e88 (a b : Erratum) : ∃ c, m88 a b = some c ∧ (c < 0 ↔ Less a b = true) := by
 unfold m88
 simp only [e130, Option.bind_some, e129]
 refine ⟨_, rfl, ?_⟩
 rw [Less_iff]
 by_cases h1 : a.day < b.day
 ·simp [h1]
 ·by_cases h2 : b.day < a.day
  ·simp [h1, h2]; omega
  ·simp only [h1, h2, if_false, ne_eq, not_true_eq_false]
   by_cases h3 : a.number < b.number
   ·simp [h3]; omega
   ·by_cases h4 : b.number < a.number
    ·simp [h3, h4]
    ·simp [h3, h4]
theorem sort_es {es : List Erratum} (hl : es.length ≤ 1073741824) (h : (es.map (·.number)).Nodup) : sortO m88 es = some (sortE es) := by
 refine sortO_eq Less hl (fun x _ y _ => e88 x y) (fun x _ => Less_irr x) (fun x _ y _ z _ h1 h2 => Less_tr h1 h2) (fun x hx y hy hne => Less_tot fun e => hne ?_) (sortE_perm es) (sortE_asc h)
 obtain ⟨i, hi⟩ := List.getElem?_of_mem hx
 obtain ⟨j, hj⟩ := List.getElem?_of_mem hy
 have h1 : (es.map (·.number))[i]? = some x.number := by rw [List.getElem?_map, hi]; rfl
 have h2 : (es.map (·.number))[j]? = some x.number := by rw [List.getElem?_map, hj]; simp [e]
 have := (List.getElem?_inj (lt_len h1) h).1 (h1.trans h2.symm)
 subst this
 rw [hi] at hj; cases hj; rfl
theorem asc_before {l : List Erratum} (h : Asc l) {i : Nat} {x y : Erratum} (hx : l[i]? = some x) (hy : y ∈ l) (hl : Less y x = true) : ∃ j, j < i ∧ l[j]? = some y := by
 obtain ⟨j, hj⟩ := List.getElem?_of_mem hy
 refine ⟨j, ?_, hj⟩
 rcases Nat.lt_trichotomy j i with h1 | h1 | h1
 ·exact h1
 ·subst h1; rw [hx] at hj; cases hj; rw [Less_irr] at hl; cases hl
 ·have := List.pairwise_iff_getElem.1 h i j (lt_len hx) (lt_len hj) h1
  rw [List.getElem?_eq_getElem (lt_len hx)] at hx
  rw [List.getElem?_eq_getElem (lt_len hj)] at hj
  rw [Option.some.inj hx, Option.some.inj hj] at this
  rw [Less_as this] at hl; cases hl
theorem right_day {x : Erratum} (h : right x = true) : 0 ≤ x.day ∧ x.day ≤ 99999 := by
 unfold right at h
 simp only [Bool.and_eq_true] at h
 exact In_iff.1 h.1.1.2
theorem e54 {v : Volume} {es : List Erratum} (h : Ok v es) : m54 v es = some 0 := by
 obtain ⟨m, hm, hM⟩ := seenP (v := v) (step := m54_1 (allP v)) (fun i x a hi hx => by
  unfold m54_1; rw [if_pos (by omega)]; simp only [hx, Option.bind_some]) (fun a => by unfold m54_1; simp)
 have hasc : Asc (sortE es) := sortE_asc h.err.once
 have hlen : (sortE es).length = es.length := (sortE_perm es).length_eq
 have hl20 := h.err.few
 have h1 := loop_l (sortE es) (fun _ x a => Sum.inl (if x.kind = 2 then put a x.new_ true else a)) (fun a => (Sum.inl a : List (Int × Bool) ⊕ (List (Int × Bool) ⊕ (Nat × List (Int × Bool))))) (fun i a => Met a (fun k => (∃ p ∈ allP v, p.anchor = k) ∨ ∃ j y, j < i ∧ (sortE es)[j]? = some y ∧ y.kind = 2 ∧ y.new_ = k)) (step := m54_2 es (sortE es)) (fun i x a hi hx ha => by
  have hx' : x ∈ es := (sortE_perm es).subset (List.mem_of_getElem? hx)
  have hd := right_day (h.err.right x hx')
  unfold m54_2
  rw [if_pos (by simp only []; omega)]
  simp only [hx, Option.bind_some]
  rw [if_neg (by omega), if_pos]
  ·by_cases k : x.kind = 2 <;> simp [k]
  ·refine (ha x.anchor).2 ?_
   rcases h.err.there x hx' with h1 | ⟨y, hy, k, e, hl⟩
   ·exact .inl h1
   ·obtain ⟨j, hj, hjy⟩ := asc_before hasc hx ((sortE_perm es).symm.subset hy) hl
    exact .inr ⟨j, y, hj, hjy, k, e⟩) (fun i x a a' hi hx ha hg => by
  simp only [Sum.inl.injEq] at hg
  rw [← hg]
  by_cases k : x.kind = 2
  ·rw [if_pos k]
   refine (ha.put x.new_).iff fun q => ⟨?_, ?_⟩
   ·rintro (rfl | h | ⟨j, y, hj, hy⟩)
    ·exact .inr ⟨i, x, by omega, hx, k, rfl⟩
    ·exact .inl h
    ·exact .inr ⟨j, y, by omega, hy⟩
   ·rintro (h | ⟨j, y, hj, hy, k', e⟩)
    ·exact .inr (.inl h)
    ·by_cases hji : j = i
     ·subst hji; rw [hx] at hy; cases hy; exact .inl e.symm
     ·exact .inr (.inr ⟨j, y, by omega, hy, k', e⟩)
  ·rw [if_neg k]
   refine ha.iff fun q => ⟨?_, ?_⟩
   ·rintro (h | ⟨j, y, hj, hy⟩)
    ·exact .inl h
    ·exact .inr ⟨j, y, by omega, hy⟩
   ·rintro (h | ⟨j, y, hj, hy, k', e⟩)
    ·exact .inl h
    ·by_cases hji : j = i
     ·subst hji; rw [hx] at hy; cases hy; exact absurd k' k
     ·exact .inr ⟨j, y, by omega, hy, k', e⟩) (fun a ha => by unfold m54_2; simp [hlen]) (a0 := m) (hM.iff fun k => ⟨.inl, fun h => h.elim id fun ⟨j, _, hj, _⟩ => absurd hj (Nat.not_lt_zero _)⟩)
 unfold m54
 rw [e53 h.few.all, Option.bind_some, hm, Option.bind_some, chk_t (by simp; omega)]
 simp only [List.nil_append, Option.bind_some, sort_es (by omega : es.length ≤ 1073741824) h.err.once, h1, goL_fold]
theorem e33 {v : Volume} {es : List Erratum} (h : Ok v es) : m33 v es = some 0 := by
 obtain ⟨m, hm, hM⟩ := seenP (v := v) (step := m33_1 (allP v)) (fun i x a hi hx => by
  unfold m33_1; rw [if_pos (by omega)]; simp only [hx, Option.bind_some]) (fun a => by unfold m33_1; simp)
 have h1 := loop_l es (fun _ x (a : List (Int × Bool) × List (Int × Bool)) => Sum.inl (put a.1 x.number true, if x.kind = 2 then put a.2 x.new_ true else a.2)) (fun a => (Sum.inl a : (List (Int × Bool) × List (Int × Bool)) ⊕ Int)) (fun i a => Met a.1 (fun k => ∃ j y, j < i ∧ es[j]? = some y ∧ y.number = k) ∧ Met a.2 (fun k => (∃ p ∈ allP v, p.anchor = k) ∨ ∃ j y, j < i ∧ es[j]? = some y ∧ y.kind = 2 ∧ y.new_ = k)) (step := m33_2 es) (fun i x a hi hx ha => by
  have n1 : ¬ (lkp a.1 x.number).getD false = true := fun c => once_ne h.err.once hx ((ha.1 _).1 c)
  have n2 : x.kind = 2 → ¬ (lkp a.2 x.new_).getD false = true := fun k c => by
   rcases (ha.2 _).1 c with ⟨p, hp, e⟩ | ⟨j, y, hj, hy, k', e⟩
   ·exact h.err.fresh x (List.mem_of_getElem? hx) k p hp e
   ·exact h.err.news i j x y hx hy (by omega) k k' e
  unfold m33_2
  rw [if_pos (by simp only []; omega)]
  simp only [hx, Option.bind_some]
  rw [if_neg n1]
  by_cases k : x.kind = 2
  ·simp only [k, if_true, Option.bind_some]
   rw [if_neg (n2 k)]
  ·simp [k]) (fun i x a a' hi hx ha hg => by
  simp only [Sum.inl.injEq] at hg
  subst hg
  refine ⟨(ha.1.put x.number).iff fun q => ⟨?_, ?_⟩, ?_⟩
  ·rintro (rfl | ⟨j, y, hj, hy⟩)
   ·exact ⟨i, x, by omega, hx, rfl⟩
   ·exact ⟨j, y, by omega, hy⟩
  ·rintro ⟨j, y, hj, hy, e⟩
   by_cases hji : j = i
   ·subst hji; rw [hx] at hy; cases hy; exact .inl e.symm
   ·exact .inr ⟨j, y, by omega, hy, e⟩
  ·by_cases k : x.kind = 2
   ·simp only [k, if_true]
    refine (ha.2.put x.new_).iff fun q => ⟨?_, ?_⟩
    ·rintro (rfl | h | ⟨j, y, hj, hy⟩)
     ·exact .inr ⟨i, x, by omega, hx, k, rfl⟩
     ·exact .inl h
     ·exact .inr ⟨j, y, by omega, hy⟩
    ·rintro (h | ⟨j, y, hj, hy, k', e⟩)
     ·exact .inr (.inl h)
     ·by_cases hji : j = i
      ·subst hji; rw [hx] at hy; cases hy; exact .inl e.symm
      ·exact .inr (.inr ⟨j, y, by omega, hy, k', e⟩)
   ·simp only [k, if_false]
    refine ha.2.iff fun q => ⟨?_, ?_⟩
    ·rintro (h | ⟨j, y, hj, hy⟩)
     ·exact .inl h
     ·exact .inr ⟨j, y, by omega, hy⟩
    ·rintro (h | ⟨j, y, hj, hy, k', e⟩)
     ·exact .inl h
     ·by_cases hji : j = i
      ·subst hji; rw [hx] at hy; cases hy; exact absurd k' k
      ·exact .inr ⟨j, y, by omega, hy, k', e⟩) (fun a ha => by unfold m33_2; simp) (a0 := (([] : List (Int × Bool)), m)) ⟨Met.nil.iff fun k => ⟨False.elim, fun ⟨j, _, hj, _⟩ => absurd hj (Nat.not_lt_zero _)⟩, hM.iff fun k => ⟨.inl, fun h => h.elim id fun ⟨j, _, hj, _⟩ => absurd hj (Nat.not_lt_zero _)⟩⟩
 unfold m33
 rw [e50 h, Option.bind_some, if_neg (by simp), if_neg (by have := h.err.few; omega), e51 h]
 simp only [Option.bind_some, if_true, e53 h.few.all, hm, h1, goL_fold, e54 h]
end T10
namespace T10
open Go Go.Proofs Pk
theorem loop_find {α ε σ : Type} (f : Nat → σ) (l : List α) (g : Nat → α → Option ε) (out : ε) {step : σ → Option (σ ⊕ ε)}
  (hs : ∀ i x, i < l.length → l[i]? = some x → step (f i) = some (match g i x with | none => .inl (f (i + 1)) | some e => .inr e)) (he : step (f l.length) = some (.inr out)) : loopO step (f 0) = some (goN g out l 0) := by
 have key : ∀ k i, l.length - i = k → i ≤ l.length → loopO step (f i) = some (goN g out (l.drop i) i) := by
  intro k
  induction k with
  | zero =>
   intro i hk hi
   obtain rfl : i = l.length := by omega
   rw [loopO_out he, List.drop_length]; rfl
  | succ k ih =>
   intro i hk hi
   have hlt : i < l.length := by omega
   have h1 := hs i _ hlt (List.getElem?_eq_getElem hlt)
   rw [List.drop_eq_getElem_cons hlt]
   unfold goN
   cases hg : g i l[i] with
   | none => rw [hg] at h1; rw [loopO_next h1, ih (i + 1) (by omega) (by omega)]
   | some e => rw [hg] at h1; rw [loopO_out h1]
 simpa using key l.length 0 (by omega) (by omega)
theorem goN_no {α ε : Type} {g : Nat → α → Option ε} {out : ε} : ∀ {l : List α} {i : Nat}, (∀ j y, l[j]? = some y → g (i + j) y = none) → goN g out l i = out
 | [], _, _ => rfl
 | x :: l, i, h => by
  have h0 := h 0 x rfl
  simp only [Nat.add_zero] at h0
  unfold goN
  rw [h0]
  exact goN_no (fun j y hy => by have := h (j + 1) y (by simpa using hy); rwa [show i + (j + 1) = i + 1 + j by omega] at this)
theorem goN_at {α ε : Type} {g : Nat → α → Option ε} {out e : ε} : ∀ {l : List α} {i k : Nat} {x : α}, l[k]? = some x → g (i + k) x = some e → (∀ j y, j < k → l[j]? = some y → g (i + j) y = none) → goN g out l i = e
 | [], _, _, _, h, _, _ => by simp at h
 | x :: l, i, 0, z, h, hg, _ => by
  simp at h; subst h
  unfold goN
  simp only [Nat.add_zero] at hg
  rw [hg]
 | x :: l, i, k + 1, z, h, hg, hn => by
  have h0 := hn 0 x (by omega) rfl
  simp only [Nat.add_zero] at h0
  unfold goN
  rw [h0]
  exact goN_at (k := k) (by simpa using h) (by rwa [show i + (k + 1) = i + 1 + k by omega] at hg) (fun j y hj hy => by have := hn (j + 1) y (by omega) (by simpa using hy); rwa [show i + (j + 1) = i + 1 + j by omega] at this)
def upd (x : Erratum) (e : entry) : List entry :=
 if e.paragraph.anchor = x.anchor then
  if x.kind = 0 then [if e.removed then e else ⟨⟨e.paragraph.anchor, x.text⟩, e.removed⟩]
  else if x.kind = 1 then [⟨e.paragraph, true⟩]
  else [e, ⟨⟨x.new_, x.text⟩, false⟩]
 else [e]
abbrev Grd := List (List entry)
def stepG (x : Erratum) (g : Grd) : Grd := g.map (·.flatMap (upd x))
def initG (v : Volume) : Grd := v.parts.map fun p => p.paragraphs.map fun x => ⟨x, false⟩
def upto (es : List Erratum) (d : Int) : List Erratum := (sortE es).takeWhile fun x => decide (x.day ≤ d)
def after (v : Volume) (es : List Erratum) (d : Int) : Grd := (upto es d).foldl (fun g x => stepG x g) (initG v)
abbrev ank (l : List entry) : List Int := l.map (·.paragraph.anchor)
theorem upd_no {x : Erratum} {l : List entry} (h : x.anchor ∉ ank l) : l.flatMap (upd x) = l := by
 induction l with
 | nil => rfl
 | cons e l ih =>
  simp only [ank, List.map_cons, List.mem_cons, not_or] at h
  rw [List.flatMap_cons, ih h.2]
  unfold upd
  rw [if_neg (fun c => h.1 c.symm)]
  rfl
theorem upd_at {x : Erratum} {l : List entry} (hn : (ank l).Nodup) {k : Nat} {e : entry} (he : l[k]? = some e) (ha : e.paragraph.anchor = x.anchor) : l.flatMap (upd x) = l.take k ++ upd x e ++ l.drop (k + 1) := by
 induction l generalizing k with
 | nil => simp at he
 | cons y l ih =>
  simp only [ank, List.map_cons, List.nodup_cons] at hn
  cases k with
  | zero =>
   simp at he; subst he
   rw [List.flatMap_cons, upd_no (by rw [← ha]; exact hn.1)]
   simp
  | succ k =>
   have he' : l[k]? = some e := by simpa using he
   have hne : y.paragraph.anchor ≠ x.anchor := fun c => hn.1 (by rw [c, ← ha]; exact List.mem_map.2 ⟨e, List.mem_of_getElem? he', rfl⟩)
   rw [List.flatMap_cons, ih hn.2 he']
   unfold upd
   rw [if_neg hne]
   simp
theorem stepG_flat (x : Erratum) (g : Grd) : (stepG x g).flatten = g.flatten.flatMap (upd x) := by
 unfold stepG
 induction g with
 | nil => rfl
 | cons l g ih => simp [ih]
theorem nodup_part {g : Grd} (h : (ank g.flatten).Nodup) {i : Nat} {l : List entry} (hl : g[i]? = some l) : (ank l).Nodup := by
 have hm := List.mem_of_getElem? hl
 have : l.Sublist g.flatten := List.sublist_flatten_of_mem hm
 exact (this.map _).nodup h
theorem nodup_where {g : Grd} (h : (ank g.flatten).Nodup) {i j : Nat} {l m : List entry} (hl : g[i]? = some l) (hm : g[j]? = some m) {a : Int} (h1 : a ∈ ank l) (h2 : a ∈ ank m) : i = j := by
 induction g generalizing i j with
 | nil => simp at hl
 | cons y g ih =>
  simp only [ank, List.flatten_cons, List.map_append, List.nodup_append] at h
  obtain ⟨_, h4, h5⟩ := h
  cases i with
  | zero =>
   cases j with
   | zero => rfl
   | succ j =>
    simp at hl hm; subst hl
    refine absurd rfl (h5 a h1 a ?_)
    obtain ⟨e, he, rfl⟩ := List.mem_map.1 h2
    exact List.mem_map.2 ⟨e, List.mem_flatten.2 ⟨m, List.mem_of_getElem? hm, he⟩, rfl⟩
  | succ i =>
   cases j with
   | zero =>
    simp at hl hm; subst hm
    refine absurd rfl (h5 a h2 a ?_)
    obtain ⟨e, he, rfl⟩ := List.mem_map.1 h1
    exact List.mem_map.2 ⟨e, List.mem_flatten.2 ⟨l, List.mem_of_getElem? hl, he⟩, rfl⟩
   | succ j => exact congrArg Nat.succ (ih h4 (i := i) (j := j) (by simpa using hl) (by simpa using hm))
theorem nodup_at {l : List entry} (h : (ank l).Nodup) {i j : Nat} {e f : entry} (he : l[i]? = some e) (hf : l[j]? = some f) (ha : e.paragraph.anchor = f.paragraph.anchor) : i = j := by
 have h1 : (ank l)[i]? = some e.paragraph.anchor := by rw [List.getElem?_map, he]; rfl
 have h2 : (ank l)[j]? = some e.paragraph.anchor := by rw [List.getElem?_map, hf]; simp [ha]
 exact (List.getElem?_inj (lt_len h1) h).1 (h1.trans h2.symm)
theorem stepG_at {x : Erratum} {g : Grd} (h : (ank g.flatten).Nodup) {i k : Nat} {l : List entry} {e : entry} (hl : g[i]? = some l) (he : l[k]? = some e) (ha : e.paragraph.anchor = x.anchor) : stepG x g = g.set i (l.take k ++ upd x e ++ l.drop (k + 1)) := by
 have hx : x.anchor ∈ ank l := List.mem_map.2 ⟨e, List.mem_of_getElem? he, ha⟩
 apply List.ext_getElem?
 intro j
 unfold stepG
 rw [List.getElem?_map]
 by_cases hij : i = j
 ·subst hij
  rw [List.getElem?_set_self (lt_len hl), hl]
  simp only [Option.map_some]
  rw [upd_at (nodup_part h hl) he ha]
 ·rw [List.getElem?_set_ne hij]
  cases hm : g[j]? with
  | none => rfl
  | some m =>
   simp only [Option.map_some]
   rw [upd_no (fun c => hij (nodup_where h hl hm hx c))]
theorem stepG_no {x : Erratum} {g : Grd} (h : x.anchor ∉ ank g.flatten) : stepG x g = g := by
 apply List.ext_getElem?
 intro j
 unfold stepG
 rw [List.getElem?_map]
 cases hm : g[j]? with
 | none => rfl
 | some m =>
  simp only [Option.map_some]
  rw [upd_no (fun c => h ?_)]
  obtain ⟨e, he, ha⟩ := List.mem_map.1 c
  exact List.mem_map.2 ⟨e, List.mem_flatten.2 ⟨m, List.mem_of_getElem? hm, he⟩, ha⟩
theorem upd_ank {x : Erratum} (hk : x.kind = 0 ∨ x.kind = 1 ∨ x.kind = 2) : ∀ {l : List entry}, (ank l).Nodup → (x.kind = 2 → x.new_ ∉ ank l) → (ank (l.flatMap (upd x))).Nodup ∧ (∀ a ∈ ank (l.flatMap (upd x)), a ∈ ank l ∨ (x.kind = 2 ∧ a = x.new_)) ∧ (∀ a ∈ ank l, a ∈ ank (l.flatMap (upd x)))
 | [], _, _ => by simp [ank]
 | e :: l, h, hn => by
  simp only [ank, List.map_cons, List.nodup_cons] at h
  have hn' : x.kind = 2 → x.new_ ∉ ank l := fun k c => hn k (List.mem_cons_of_mem _ c)
  have hne : x.kind = 2 → x.new_ ≠ e.paragraph.anchor := fun k c => hn k (by rw [c]; exact List.mem_cons_self)
  obtain ⟨i1, i2, i3⟩ := upd_ank hk h.2 hn'
  by_cases ha : e.paragraph.anchor = x.anchor
  ·have hno : l.flatMap (upd x) = l := upd_no (by rw [← ha]; exact h.1)
   rw [List.flatMap_cons, hno]
   unfold upd
   rw [if_pos ha]
   rcases hk with k | k | k
   ·rw [if_pos k]
    have e1 : ank ([if e.removed then e else ⟨⟨e.paragraph.anchor, x.text⟩, e.removed⟩] ++ l) = ank (e :: l) := by cases hr : e.removed <;> simp [ank]
    rw [e1]; exact ⟨List.nodup_cons.2 h, fun a ha' => .inl ha', fun a ha' => ha'⟩
   ·rw [if_neg (by omega), if_pos k]
    have e1 : ank ([⟨e.paragraph, true⟩] ++ l) = ank (e :: l) := by simp [ank]
    rw [e1]; exact ⟨List.nodup_cons.2 h, fun a ha' => .inl ha', fun a ha' => ha'⟩
   ·rw [if_neg (by omega), if_neg (by omega)]
    refine ⟨?_, ?_, ?_⟩
    ·simp only [ank, List.map_append, List.map_cons, List.map_nil, List.cons_append, List.nil_append, List.nodup_cons, List.mem_cons, not_or]
     exact ⟨⟨fun c => hne k c.symm, h.1⟩, hn' k, h.2⟩
    ·intro a ha'
     simp only [ank, List.map_append, List.map_cons, List.map_nil, List.cons_append, List.nil_append, List.mem_cons] at ha' ⊢
     rcases ha' with h1 | h1 | h1
     ·exact .inl (.inl h1)
     ·exact .inr ⟨k, h1⟩
     ·exact .inl (.inr h1)
    ·intro a ha'
     simp only [ank, List.map_append, List.map_cons, List.map_nil, List.cons_append, List.nil_append, List.mem_cons] at ha' ⊢
     exact ha'.imp id .inr
  ·rw [List.flatMap_cons]
   have : upd x e = [e] := by unfold upd; rw [if_neg ha]
   rw [this]
   simp only [ank, List.cons_append, List.nil_append, List.map_cons, List.nodup_cons, List.mem_cons]
   refine ⟨⟨fun c => ?_, i1⟩, ?_, ?_⟩
   ·rcases i2 _ c with h1 | ⟨k, h1⟩
    ·exact h.1 h1
    ·exact hne k h1.symm
   ·rintro a (h1 | h1)
    ·exact .inl (.inl h1)
    ·exact (i2 a h1).imp .inr id
   ·rintro a (h1 | h1)
    ·exact .inl h1
    ·exact .inr (i3 a h1)
end T10
namespace T10
open Go Go.Proofs Pk
def Place' (g : Grd) (a : Int) (r : Nat × Nat × Bool) : Prop := (r = (0, 0, false) ∧ a ∉ ank g.flatten) ∨ ∃ (i k : Nat) (l : List entry) (e : entry), r = (i, k, true) ∧ g[i]? = some l ∧ l[k]? = some e ∧ e.paragraph.anchor = a
theorem ank_flat {g : Grd} {a : Int} : a ∈ ank g.flatten ↔ ∃ (i k : Nat) (l : List entry) (e : entry), g[i]? = some l ∧ l[k]? = some e ∧ e.paragraph.anchor = a := by
 constructor
 ·intro h
  obtain ⟨e, he, ha⟩ := List.mem_map.1 h
  obtain ⟨l, hl, he⟩ := List.mem_flatten.1 he
  obtain ⟨i, hi⟩ := List.getElem?_of_mem hl
  obtain ⟨k, hk⟩ := List.getElem?_of_mem he
  exact ⟨i, k, l, e, hi, hk, ha⟩
 ·rintro ⟨i, k, l, e, hi, hk, ha⟩
  exact List.mem_map.2 ⟨e, List.mem_flatten.2 ⟨l, List.mem_of_getElem? hi, List.mem_of_getElem? hk⟩, ha⟩
theorem look {g : Grd} {a : Int} (hn : (ank g.flatten).Nodup) {inner : Nat → List entry → Option ((Nat × Nat × Bool) ⊕ ((Nat × Nat × Nat × Bool) ⊕ (Nat × Nat × Bool)))} {outer : Nat × Nat × Nat × Bool → Option ((Nat × Nat × Nat × Bool) ⊕ (Nat × Nat × Bool))}
  (hi : ∀ i l, g[i]? = some l → inner i l = some (goN (fun k (e : entry) => if e.paragraph.anchor = a then some (.inr (.inr (i, k, true))) else none) (.inl (0, 0, false)) l 0))
  (ho : ∀ i l, g[i]? = some l → outer (0, 0, i, false) = (inner i l).bind fun e => match e with | .inr z => some z | .inl t => some (.inl (t.1, t.2.1, i + 1, t.2.2)))
  (he : outer (0, 0, g.length, false) = some (.inr (0, 0, false))) : ∃ r, loopO outer (0, 0, 0, false) = some r ∧ Place' g a r := by
 have hin : ∀ i l, g[i]? = some l → a ∉ ank l → inner i l = some (.inl (0, 0, false)) := fun i l hl hno => by
  rw [hi i l hl, goN_no]
  intro j y hy
  rw [if_neg]
  exact fun c => hno (List.mem_map.2 ⟨y, List.mem_of_getElem? hy, c⟩)
 by_cases h : a ∈ ank g.flatten
 ·obtain ⟨i, k, l, e, hl, hk, ha⟩ := ank_flat.1 h
  have hal : a ∈ ank l := List.mem_map.2 ⟨e, List.mem_of_getElem? hk, ha⟩
  have h1 : inner i l = some (.inr (.inr (i, k, true))) := by
   rw [hi i l hl]
   congr 1
   refine goN_at hk (by simp [ha]) (fun j y hj hy => ?_)
   rw [if_neg]
   exact fun c => by have := nodup_at (nodup_part hn hl) hy hk (c.trans ha.symm); omega
  have := loop_find (fun i => ((0 : Nat), (0 : Nat), i, false)) g (fun j m => if j = i then some (i, k, true) else none) ((0 : Nat), (0 : Nat), false) (step := outer) (fun j m hj hm => by
   rw [ho j m hm]
   by_cases e : j = i
   ·subst e; rw [hl] at hm; cases hm
    rw [h1]; simp
   ·rw [hin j m hm (fun c => e (nodup_where hn hm hl c hal))]; simp [e]) he
  refine ⟨_, this, .inr ⟨i, k, l, e, ?_, hl, hk, ha⟩⟩
  refine goN_at hl (by simp) (fun j y hj hy => ?_)
  rw [if_neg (by omega)]
 ·have := loop_find (fun i => ((0 : Nat), (0 : Nat), i, false)) g (fun _ _ => none) ((0 : Nat), (0 : Nat), false) (step := outer) (fun j m hj hm => by
   rw [ho j m hm, hin j m hm (fun c => h ?_)]
   ·rfl
   ·obtain ⟨e, he, ha⟩ := List.mem_map.1 c
    exact List.mem_map.2 ⟨e, List.mem_flatten.2 ⟨m, List.mem_of_getElem? hm, he⟩, ha⟩) he
  refine ⟨_, this, .inl ⟨goN_no fun _ _ _ => rfl, h⟩⟩
theorem flat_len1 {g : Grd} {i : Nat} {l : List entry} (hl : g[i]? = some l) : l.length ≤ g.flatten.length := (List.sublist_flatten_of_mem (List.mem_of_getElem? hl)).length_le
theorem look35 {g : Grd} {x : Erratum} {q : Nat} (hn : (ank g.flatten).Nodup) (hb : g.flatten.length ≤ 1000000) (hg : g.length ≤ 1000000) : ∃ r, loopO (m35_4 (q, g) x) (0, 0, 0, false) = some r ∧ Place' g x.anchor r := by
 refine look hn (inner := fun i l => loopO (m35_5 l x (0, 0, i, false)) (0, 0, 0, false)) (fun i l hl => ?_) (fun i l hl => ?_) ?_
 ·have hll := flat_len1 hl
  refine loop_find (fun k => ((0 : Nat), (0 : Nat), k, false)) l _ _ (fun k e hk he => ?_) (by unfold m35_5; simp)
  unfold m35_5
  simp only []
  rw [if_pos (by omega), he, Option.bind_some]
  by_cases c : e.paragraph.anchor = x.anchor
  ·rw [if_pos c]; simp [c]
  ·rw [if_neg c, chk_t (by omega)]; simp [c]
 ·have := lt_len hl
  unfold m35_4
  simp only []
  rw [if_pos (by omega), hl, Option.bind_some]
  rcases loopO (m35_5 l x (0, 0, i, false)) (0, 0, 0, false) with _ | (t | z)
  ·rfl
  ·simp only [Option.bind_some]; rw [chk_t (by omega)]
  ·rfl
 ·unfold m35_4; simp
theorem look23 {v : Volume} {g : Grd} {a : Int} (hn : (ank g.flatten).Nodup) : ∃ r, loopO (m37_1 ⟨v, g⟩ a) (0, 0, 0, false) = some r ∧ Place' g a r := by
 refine look hn (inner := fun i l => loopO (m37_2 l a (0, 0, i, false)) (0, 0, 0, false)) (fun i l hl => ?_) (fun i l hl => ?_) ?_
 ·refine loop_find (fun k => ((0 : Nat), (0 : Nat), k, false)) l _ _ (fun k e hk he => ?_) (by unfold m37_2; simp)
  unfold m37_2
  simp only []
  rw [if_pos (by omega), he, Option.bind_some]
  by_cases c : e.paragraph.anchor = a
  ·rw [if_pos c]; simp [c]
  ·rw [if_neg c]; simp [c]
 ·have := lt_len hl
  unfold m37_1
  simp only []
  rw [if_pos (by omega), hl, Option.bind_some]
  rcases loopO (m37_2 l a (0, 0, i, false)) (0, 0, 0, false) with _ | (t | z) <;> rfl
 ·unfold m37_1; simp
structure Inv (v : Volume) (es : List Erratum) (n : Nat) (g : Grd) : Prop where
 once : (ank g.flatten).Nodup
 len : g.flatten.length ≤ 30 + n
 rows : g.length = v.parts.length
 of : ∀ a ∈ ank g.flatten, (∃ p ∈ allP v, p.anchor = a) ∨ ∃ y ∈ (sortE es).take n, y.kind = 2 ∧ y.new_ = a
theorem init_flat (v : Volume) : (initG v).flatten = (allP v).map fun x => ⟨x, false⟩ := by
 unfold initG allP
 rw [List.flatMap_def, List.map_flatten, List.map_map]; rfl
theorem inv_init {v : Volume} {es : List Erratum} (h : Ok v es) : Inv v es 0 (initG v) := by
 have e1 : ank (initG v).flatten = (allP v).map (·.anchor) := by rw [init_flat, ank, List.map_map]; rfl
 refine ⟨by rw [e1]; exact h.vol.once, by rw [init_flat, List.length_map]; exact h.vol.pars, by simp [initG], fun a ha => ?_⟩
 rw [e1] at ha
 obtain ⟨p, hp, e⟩ := List.mem_map.1 ha
 exact .inl ⟨p, hp, e⟩
theorem right_kind {x : Erratum} (h : right x = true) : x.kind = 0 ∨ x.kind = 1 ∨ x.kind = 2 := by
 unfold right at h
 simp only [Bool.and_eq_true] at h
 obtain ⟨_, h⟩ := h
 by_cases k0 : x.kind = 0
 ·exact .inl k0
 ·rw [if_neg k0] at h
  by_cases k1 : x.kind = 1
  ·exact .inr (.inl k1)
  ·rw [if_neg k1] at h
   simp only [Bool.and_eq_true, decide_eq_true_eq] at h
   exact .inr (.inr h.1.1)
theorem mem_sort {es : List Erratum} {x : Erratum} : x ∈ sortE es ↔ x ∈ es := (sortE_perm es).mem_iff
theorem news_ne {v : Volume} {es : List Erratum} (h : Ok v es) {x y : Erratum} (hx : x ∈ es) (hy : y ∈ es) (hne : x.number ≠ y.number) (k1 : x.kind = 2) (k2 : y.kind = 2) : y.new_ ≠ x.new_ := by
 obtain ⟨i, hi⟩ := List.getElem?_of_mem hx
 obtain ⟨j, hj⟩ := List.getElem?_of_mem hy
 refine h.err.news i j x y hi hj (fun e => ?_) k1 k2
 subst e; rw [hi] at hj; cases hj; exact hne rfl
theorem upd_len {x : Erratum} {e : entry} : (upd x e).length ≤ 2 := by
 unfold upd; split
 ·split
  ·simp
  ·split <;> simp
 ·simp
theorem inv_step {v : Volume} {es : List Erratum} (h : Ok v es) {n : Nat} {x : Erratum} (hx : (sortE es)[n]? = some x) {g : Grd} (hi : Inv v es n g) : Inv v es (n + 1) (stepG x g) := by
 have hxe : x ∈ es := mem_sort.1 (List.mem_of_getElem? hx)
 have hk := right_kind (h.err.right x hxe)
 have hasc : Asc (sortE es) := sortE_asc h.err.once
 have hfresh : x.kind = 2 → x.new_ ∉ ank g.flatten := fun k c => by
  rcases hi.of _ c with ⟨p, hp, e⟩ | ⟨y, hy, k', e⟩
  ·exact h.err.fresh x hxe k p hp e
  ·obtain ⟨j, hj⟩ := List.getElem?_of_mem hy
   have hjn : j < n := by have := lt_len hj; rw [List.length_take] at this; omega
   rw [List.getElem?_take_of_lt hjn] at hj
   have hl := List.pairwise_iff_getElem.1 hasc j n (lt_len hj) (lt_len hx) hjn
   rw [List.getElem?_eq_getElem (lt_len hj)] at hj
   have hx' := hx
   rw [List.getElem?_eq_getElem (lt_len hx)] at hx'
   rw [Option.some.inj hj, Option.some.inj hx'] at hl
   have hye : y ∈ es := mem_sort.1 (List.mem_of_mem_take hy)
   refine news_ne h hxe hye (fun c => ?_) k k' e
   obtain ⟨i1, hi1⟩ := List.getElem?_of_mem hxe
   obtain ⟨i2, hi2⟩ := List.getElem?_of_mem hye
   have g1 : (es.map (·.number))[i1]? = some x.number := by rw [List.getElem?_map, hi1]; rfl
   have g2 : (es.map (·.number))[i2]? = some x.number := by rw [List.getElem?_map, hi2]; simp [c]
   have := (List.getElem?_inj (lt_len g1) h.err.once).1 (g1.trans g2.symm)
   subst this
   rw [hi1] at hi2; cases hi2
   rw [Less_irr] at hl; cases hl
 obtain ⟨u1, u2, u3⟩ := upd_ank hk hi.once hfresh
 refine ⟨by rw [stepG_flat]; exact u1, ?_, by unfold stepG; rw [List.length_map]; exact hi.rows, fun a ha => ?_⟩
 ·rw [stepG_flat]
  by_cases hm : x.anchor ∈ ank g.flatten
  ·obtain ⟨e, he, ha⟩ := List.mem_map.1 hm
   obtain ⟨k, hk'⟩ := List.getElem?_of_mem he
   rw [upd_at hi.once hk' ha]
   have := lt_len hk'
   have h2 := upd_len (x := x) (e := e)
   have h3 := hi.len
   simp only [List.length_append, List.length_take, List.length_drop]; omega
  ·rw [upd_no hm]; have := hi.len; omega
 ·rw [stepG_flat] at ha
  rcases u2 a ha with h1 | ⟨k, h1⟩
  ·rcases hi.of a h1 with h2 | ⟨y, hy, hz⟩
   ·exact .inl h2
   ·exact .inr ⟨y, by rw [List.take_succ]; exact List.mem_append_left _ hy, hz⟩
  ·exact .inr ⟨x, by rw [List.take_succ, hx]; simp, k, h1.symm⟩
end T10
namespace T10
open Go Go.Proofs Pk
theorem upto_take (es : List Erratum) (d : Int) : upto es d = (sortE es).take (upto es d).length := by
 unfold upto
 generalize sortE es = l
 induction l with
 | nil => rfl
 | cons x l ih =>
  by_cases c : x.day ≤ d
  ·rw [List.takeWhile_cons_of_pos (by simpa using c)]; simp [← ih]
  ·rw [List.takeWhile_cons_of_neg (by simpa using c)]; simp
def aft (v : Volume) (l : List Erratum) : Grd := l.foldl (fun g x => stepG x g) (initG v)
theorem after_aft (v : Volume) (es : List Erratum) (d : Int) : after v es d = aft v (upto es d) := rfl
theorem aft_app (v : Volume) (l : List Erratum) (x : Erratum) : aft v (l ++ [x]) = stepG x (aft v l) := by unfold aft; rw [List.foldl_append]; rfl
theorem inv_aft {v : Volume} {es : List Erratum} (h : Ok v es) : ∀ n, n ≤ (sortE es).length → Inv v es n (aft v ((sortE es).take n))
 | 0, _ => inv_init h
 | n + 1, hn => by
  have hx : (sortE es)[n]? = some (sortE es)[n] := List.getElem?_eq_getElem (by omega)
  rw [List.take_succ, hx]
  show Inv v es (n + 1) (aft v (_ ++ [_]))
  rw [aft_app]
  exact inv_step h hx (inv_aft h n (by omega))
theorem upto_len {es : List Erratum} {d : Int} : (upto es d).length ≤ (sortE es).length := (List.takeWhile_prefix _).length_le
theorem inv_after {v : Volume} {es : List Erratum} (h : Ok v es) (d : Int) : Inv v es (upto es d).length (after v es d) := by
 rw [after_aft, upto_take]
 have := inv_aft h (upto es d).length upto_len
 rwa [← upto_take] at this ⊢
def findE (g : Grd) (a : Int) : Option entry := g.flatten.find? (fun e => decide (e.paragraph.anchor = a))
theorem mem_eq {l : List entry} (h : (ank l).Nodup) {e f : entry} (he : e ∈ l) (hf : f ∈ l) (ha : e.paragraph.anchor = f.paragraph.anchor) : e = f := by
 obtain ⟨i, hi⟩ := List.getElem?_of_mem he
 obtain ⟨j, hj⟩ := List.getElem?_of_mem hf
 have := nodup_at h hi hj ha
 subst this
 rw [hi] at hj; exact Option.some.inj hj
theorem findE_some {g : Grd} (h : (ank g.flatten).Nodup) {a : Int} {e : entry} : findE g a = some e ↔ e ∈ g.flatten ∧ e.paragraph.anchor = a := by
 constructor
 ·intro hf
  exact ⟨List.mem_of_find?_eq_some hf, by simpa using List.find?_some hf⟩
 ·rintro ⟨he, ha⟩
  cases hf : findE g a with
  | none =>
   have := List.find?_eq_none.1 hf e he
   simp [ha] at this
  | some f =>
   have h1 := List.mem_of_find?_eq_some hf
   have h2 : f.paragraph.anchor = a := by simpa using List.find?_some hf
   rw [mem_eq h h1 he (h2.trans ha.symm)]
theorem findE_none {g : Grd} {a : Int} : findE g a = none ↔ a ∉ ank g.flatten := by
 unfold findE
 rw [List.find?_eq_none]
 constructor
 ·intro h c
  obtain ⟨e, he, ha⟩ := List.mem_map.1 c
  have := h e he
  simp [ha] at this
 ·intro h e he
  simp only [decide_eq_true_eq]
  exact fun c => h (List.mem_map.2 ⟨e, he, c⟩)
def readE (g : Grd) : List Paragraph := (g.flatten.filter (fun e => !e.removed)).map (·.paragraph)
end T10
namespace T10
open Go Go.Proofs Pk
def linesOf (w : Int) (s : Bytes) : Int := ((s.length : Int) + w - 1) / w
def rowP (H W day col : Int) : Int → Int → List entry → List printed
 | _, _, [] => []
 | li, no, e :: l => if e.removed then rowP H W day col li no l else ⟨⟨e.paragraph.anchor, col + li / H, li % H + 1, linesOf W e.paragraph.text⟩, day, no + 1⟩ :: rowP H W day col (li + linesOf W e.paragraph.text) (no + 1) l
def rowL (W : Int) : List entry → Int
 | [] => 0
 | e :: l => (if e.removed then 0 else linesOf W e.paragraph.text) + rowL W l
def prints (H W : Int) : Int → List Part → Grd → List printed
 | col, p :: ps, l :: g => rowP H W p.day col 0 0 l ++ prints H W (col + (rowL W l + H - 1) / H) ps g
 | _, _, _ => []
def printE (v : Volume) (es : List Erratum) : List printed := prints v.height v.width 1 v.parts (after v es v.bound)
def pos (H : Int) (p : Place) : Int := (p.column - 1) * H + (p.line - 1)
structure OkP (H : Int) (p : Place) : Prop where
 line1 : 1 ≤ p.line
 lineH : p.line ≤ H
 col : 1 ≤ p.column
 lines : 1 ≤ p.lines
 few : p.lines ≤ 20
def Full (W : Int) (l : List entry) : Prop := ∀ e ∈ l, 1 ≤ linesOf W e.paragraph.text ∧ linesOf W e.paragraph.text ≤ 20
theorem Full.tail {W : Int} {e : entry} {l : List entry} (h : Full W (e :: l)) : Full W l := fun x hx => h x (List.mem_cons_of_mem _ hx)
theorem pos_at {H col li : Int} (hH : 0 < H) (a n : Int) : pos H ⟨a, col + li / H, li % H + 1, n⟩ = (col - 1) * H + li := by
 unfold pos
 have h1 := Int.mul_ediv_add_emod li H
 have h2 : (col + li / H - 1) * H = (col - 1) * H + H * (li / H) := by rw [show col + li / H - 1 = (col - 1) + li / H by omega, Int.add_mul, Int.mul_comm (li / H)]
 simp only []
 rw [h2]; omega
theorem rowL_nn {W : Int} : ∀ {l : List entry}, Full W l → 0 ≤ rowL W l
 | [], _ => Int.le_refl _
 | e :: l, h => by
  have h1 := rowL_nn h.tail
  have h2 := (h e List.mem_cons_self).1
  unfold rowL; split <;> omega
theorem rowP_ok {H W day col : Int} (hH : 0 < H) (hc : 1 ≤ col) : ∀ {l : List entry} {li no : Int}, Full W l → 0 ≤ li → ∀ q ∈ rowP H W day col li no l, OkP H q.place ∧ q.day = day ∧ (col - 1) * H + li ≤ pos H q.place ∧ pos H q.place + q.place.lines ≤ (col - 1) * H + li + rowL W l ∧ no < q.number
 | [], _, _, _, _, q, hq => by cases hq
 | e :: l, li, no, h, hl, q, hq => by
  have h2 := h e List.mem_cons_self
  unfold rowP at hq
  unfold rowL
  by_cases hr : e.removed = true
  ·rw [if_pos hr] at hq ⊢
   have := rowP_ok hH hc h.tail hl q hq
   simpa using this
  ·rw [if_neg hr] at hq ⊢
   have hn := rowL_nn h.tail
   rcases List.mem_cons.1 hq with rfl | hq
   ·have h3 := Int.emod_nonneg li (Int.ne_of_gt hH)
    have h4 := Int.emod_lt_of_pos li hH
    have h5 := Int.ediv_nonneg hl (Int.le_of_lt hH)
    rw [show (⟨e.paragraph.anchor, col + li / H, li % H + 1, linesOf W e.paragraph.text⟩ : Place) = ⟨e.paragraph.anchor, col + li / H, li % H + 1, linesOf W e.paragraph.text⟩ from rfl, pos_at hH]
    exact ⟨⟨by simp only []; omega, by simp only []; omega, by simp only []; omega, h2.1, h2.2⟩, rfl, Int.le_refl _, by simp only []; omega, by simp only []; omega⟩
   ·have := rowP_ok hH hc h.tail (by omega : 0 ≤ li + linesOf W e.paragraph.text) q hq
    exact ⟨this.1, this.2.1, by omega, by omega, by omega⟩
def Beh (H : Int) (a b : printed) : Prop := pos H a.place + a.place.lines ≤ pos H b.place ∧ (a.day < b.day ∨ (a.day = b.day ∧ a.number < b.number))
theorem rowP_beh {H W day col : Int} (hH : 0 < H) (hc : 1 ≤ col) : ∀ {l : List entry} {li no : Int}, Full W l → 0 ≤ li → (rowP H W day col li no l).Pairwise (Beh H)
 | [], _, _, _, _ => List.Pairwise.nil
 | e :: l, li, no, h, hl => by
  have h2 := h e List.mem_cons_self
  unfold rowP
  by_cases hr : e.removed = true
  ·rw [if_pos hr]; exact rowP_beh hH hc h.tail hl
  ·rw [if_neg hr]
   refine List.pairwise_cons.2 ⟨fun q hq => ?_, rowP_beh hH hc h.tail (by omega)⟩
   have := rowP_ok hH hc h.tail (by omega : 0 ≤ li + linesOf W e.paragraph.text) q hq
   unfold Beh
   rw [show (⟨e.paragraph.anchor, col + li / H, li % H + 1, linesOf W e.paragraph.text⟩ : Place) = ⟨e.paragraph.anchor, col + li / H, li % H + 1, linesOf W e.paragraph.text⟩ from rfl, pos_at hH]
   exact ⟨by simp only []; omega, .inr ⟨this.2.1.symm, this.2.2.2.2⟩⟩
theorem col_up {H L col : Int} (hH : 0 < H) (hL : 0 ≤ L) : (col - 1) * H + L ≤ (col + (L + H - 1) / H - 1) * H ∧ 0 ≤ (L + H - 1) / H := by
 have h1 := Int.mul_ediv_add_emod (L + H - 1) H
 have h2 := Int.emod_lt_of_pos (L + H - 1) hH
 have h3 : (col + (L + H - 1) / H - 1) * H = (col - 1) * H + H * ((L + H - 1) / H) := by rw [show col + (L + H - 1) / H - 1 = (col - 1) + (L + H - 1) / H by omega, Int.add_mul, Int.mul_comm ((L + H - 1) / H)]
 refine ⟨by rw [h3]; omega, Int.ediv_nonneg (by omega) (Int.le_of_lt hH)⟩
theorem prints_ok {H W : Int} (hH : 0 < H) : ∀ {ps : List Part} {g : Grd} {col : Int}, 1 ≤ col → (∀ l ∈ g, Full W l) → ∀ q ∈ prints H W col ps g, OkP H q.place ∧ (∃ p ∈ ps, q.day = p.day) ∧ (col - 1) * H ≤ pos H q.place
 | [], _, _, _, _, q, hq => by unfold prints at hq; cases hq
 | _ :: _, [], _, _, _, q, hq => by unfold prints at hq; cases hq
 | p :: ps, l :: g, col, hc, hf, q, hq => by
  unfold prints at hq
  have hl := hf l List.mem_cons_self
  have hn := rowL_nn hl
  have hu := col_up (col := col) hH hn
  rcases List.mem_append.1 hq with hq | hq
  ·have := rowP_ok hH hc hl (Int.le_refl 0) q hq
   exact ⟨this.1, ⟨p, List.mem_cons_self, this.2.1⟩, by omega⟩
  ·obtain ⟨h1, ⟨p', hp, hd⟩, h3⟩ := prints_ok hH (by omega) (fun m hm => hf m (List.mem_cons_of_mem _ hm)) q hq
   exact ⟨h1, ⟨p', List.mem_cons_of_mem _ hp, hd⟩, by omega⟩
theorem prints_beh {H W : Int} (hH : 0 < H) : ∀ {ps : List Part} {g : Grd} {col : Int}, 1 ≤ col → (∀ l ∈ g, Full W l) → ps.Pairwise (fun a b => a.day < b.day) → (prints H W col ps g).Pairwise (Beh H)
 | [], _, _, _, _, _ => by unfold prints; exact List.Pairwise.nil
 | _ :: _, [], _, _, _, _ => by unfold prints; exact List.Pairwise.nil
 | p :: ps, l :: g, col, hc, hf, hp => by
  unfold prints
  obtain ⟨hp1, hp2⟩ := List.pairwise_cons.1 hp
  have hl := hf l List.mem_cons_self
  have hn := rowL_nn hl
  have hu := col_up (col := col) hH hn
  have hf' : ∀ m ∈ g, Full W m := fun m hm => hf m (List.mem_cons_of_mem _ hm)
  refine List.pairwise_append.2 ⟨rowP_beh hH hc hl (Int.le_refl 0), prints_beh hH (by omega) hf' hp2, fun a ha b hb => ?_⟩
  have h1 := rowP_ok hH hc hl (Int.le_refl 0) a ha
  obtain ⟨h2, ⟨p', hp', hd⟩, h3⟩ := prints_ok hH (by omega) hf' b hb
  have := hp1 p' hp'
  exact ⟨by omega, .inl (by omega)⟩
theorem rowP_ank {H W day col : Int} : ∀ {l : List entry} {li no : Int}, (rowP H W day col li no l).map (·.place.anchor) = (l.filter (fun e => !e.removed)).map (·.paragraph.anchor)
 | [], _, _ => rfl
 | e :: l, li, no => by
  unfold rowP
  cases hr : e.removed
  ·simp only [Bool.false_eq_true, if_false, List.map_cons, rowP_ank]
   rw [List.filter_cons_of_pos (by simp [hr])]; rfl
  ·simp only [if_true, rowP_ank]
   rw [List.filter_cons_of_neg (by simp [hr])]
theorem prints_ank {H W : Int} : ∀ {ps : List Part} {g : Grd} {col : Int}, g.length = ps.length → (prints H W col ps g).map (·.place.anchor) = (readE g).map (·.anchor)
 | [], [], _, _ => by unfold prints; rfl
 | p :: ps, l :: g, col, h => by
  unfold prints readE
  have ih := prints_ank (H := H) (W := W) (ps := ps) (g := g) (col := col + (rowL W l + H - 1) / H) (by simpa using h)
  rw [List.map_append, ih, rowP_ank]
  unfold readE
  simp [List.map_map]
 | [], _ :: _, _, h => by simp at h
 | _ :: _, [], _, h => by simp at h
end T10
namespace T10
open Go Go.Proofs Pk
theorem set_at {α : Type} {l : List α} {k : Nat} {x y : α} (h : l[k]? = some x) : l.take k ++ [y] ++ l.drop (k + 1) = l.set k y := by
 rw [List.set_eq_take_append_cons_drop, if_pos (lt_len h)]; simp
theorem set_same {α : Type} {l : List α} {k : Nat} {x : α} (h : l[k]? = some x) : l.set k x = l := by
 apply List.ext_getElem?
 intro j
 by_cases e : k = j
 ·subst e; rw [List.getElem?_set_self (lt_len h), h]
 ·rw [List.getElem?_set_ne e]
theorem goL_while (to : Int) : ∀ (l : List Erratum) (i : Nat) (g : Grd), (match goL (fun _ (x : Erratum) (g : Grd) => if to < x.day then .inr (.inr g) else .inl (stepG x g)) (fun g => (Sum.inl g : Grd ⊕ Grd)) l i g with | .inr z => some z | .inl t => some t) = some ((l.takeWhile fun x => decide (x.day ≤ to)).foldl (fun g x => stepG x g) g)
 | [], i, g => rfl
 | x :: l, i, g => by
  rw [goL_cons]
  by_cases c : to < x.day
  ·rw [if_pos c, List.takeWhile_cons_of_neg (by simp; omega)]; rfl
  ·rw [if_neg c, List.takeWhile_cons_of_pos (by simp; omega)]
   exact goL_while to l (i + 1) (stepG x g)
theorem Inv.small {v : Volume} {es : List Erratum} (h : Ok v es) {n : Nat} {g : Grd} (hi : Inv v es n g) (hn : n ≤ (sortE es).length) : g.flatten.length ≤ 50 ∧ g.length ≤ 6 := by
 have h1 := hi.len
 have h2 := (sortE_perm es).length_eq
 have h3 := h.err.few
 have h4 := hi.rows
 have h5 := h.vol.parts
 omega
theorem step35 {v : Volume} {es : List Erratum} (h : Ok v es) {to : Int} {i : Nat} {x : Erratum} (hx : (sortE es)[i]? = some x) {g : Grd} (hi : Inv v es i g) :
  m35_3 ([] ++ es) (sortE es) to (i, g) = some (if to < x.day then .inr (.inr g) else .inl (i + 1, stepG x g)) := by
 have hxe : x ∈ es := mem_sort.1 (List.mem_of_getElem? hx)
 have hk := right_kind (h.err.right x hxe)
 have hlt := lt_len hx
 have hlen := (sortE_perm es).length_eq
 obtain ⟨hb, hr⟩ := hi.small h (by omega)
 unfold m35_3
 simp only [List.nil_append]
 rw [if_pos (by omega), hx, Option.bind_some]
 by_cases c : to < x.day
 ·rw [if_pos c, if_pos c]; simp
 rw [if_neg c, if_neg c]
 obtain ⟨r, h1, h2⟩ := look35 (g := g) (x := x) (q := i) hi.once (by omega) (by omega)
 rw [h1]
 rcases h2 with ⟨rfl, hno⟩ | ⟨p, k, l, e, rfl, hl, he, ha⟩
 ·rw [stepG_no hno]; simp
 ·rw [stepG_at hi.once hl he ha]
  have hll := flat_len1 hl
  have hkl := lt_len he
  have hpl := lt_len hl
  simp only [Option.bind_some, if_true, m57, hl, he]
  rcases hk with k0 | k1 | k2
  ·rw [chk_t (by omega), if_pos k0]
   have hu : upd x e = [if e.removed then e else ⟨⟨e.paragraph.anchor, x.text⟩, e.removed⟩] := by unfold upd; rw [if_pos ha, if_pos k0]
   rw [hu, set_at he]
   cases hrm : e.removed
   ·simp
   ·simp only [if_true, Option.bind_some]
    rw [set_same he, set_same hl]; simp
  ·rw [chk_t (by omega), if_neg (by omega), if_pos k1]
   have hu : upd x e = [⟨e.paragraph, true⟩] := by unfold upd; rw [if_pos ha, if_neg (by omega), if_pos k1]
   rw [hu, set_at he]; simp
  ·rw [chk_t (by omega), if_neg (by omega), if_neg (by omega), if_pos k2]
   have hu : upd x e = [e, ⟨⟨x.new_, x.text⟩, false⟩] := by unfold upd; rw [if_pos ha, if_neg (by omega), if_neg (by omega)]
   rw [hu, chk_t (by omega), chk_t (by omega), chk_t (by omega)]
   rw [show ((k : Int) + 1).toNat = k + 1 by omega]
   have e1 : l.take (k + 1) = l.take k ++ [e] := by rw [List.take_succ, he]; rfl
   rw [e1]
   simp
theorem e35 {v : Volume} {es : List Erratum} (h : Ok v es) (to : Int) : m35 v es to = some ⟨v, after v es to⟩ := by
 have hlen := (sortE_perm es).length_eq
 have hfew := h.err.few
 have h2 : ∀ x ∈ v.parts, loopO (m35_2 x) (0, ([] : List entry)) = some (x.paragraphs.map fun p => ⟨p, false⟩) := fun x hx => by
  have hl := h.few.pars x hx
  exact loop_map x.paragraphs (fun p => (⟨p, false⟩ : entry)) (fun a => a) (step := m35_2 x) (fun i p a hi hp ha => by
   unfold m35_2
   rw [if_pos (by omega)]
   simp only [hp, Option.bind_some]
   rw [chk_t (by omega)]) (fun a => by unfold m35_2; simp)
 have h1 : loopO (m35_1 v) (0, ([] : List (List entry))) = some (initG v) := loop_map v.parts (fun p => p.paragraphs.map fun x => (⟨x, false⟩ : entry)) (fun a => a) (step := m35_1 v) (fun i x a hi hx ha => by
  have hl := h.few.parts
  unfold m35_1
  rw [if_pos (by omega)]
  simp only [hx, Option.bind_some, h2 x (List.mem_of_getElem? hx)]
  rw [chk_t (by omega)]) (fun a => by unfold m35_1; simp)
 have h3 := loop_l (sortE es) (fun _ (x : Erratum) (g : Grd) => if to < x.day then .inr (.inr g) else .inl (stepG x g)) (fun g => (Sum.inl g : Grd ⊕ Grd)) (Inv v es) (step := m35_3 ([] ++ es) (sortE es) to) (fun i x g hi hx hI => by
  rw [step35 h hx hI]
  by_cases c : to < x.day <;> simp [c]) (fun i x g g' hi hx hI hg => by
  by_cases c : to < x.day
  ·rw [if_pos c] at hg; cases hg
  ·rw [if_neg c] at hg; cases hg; exact inv_step h hx hI) (fun g hI => by unfold m35_3; rw [if_neg (by simp; omega)]) (a0 := initG v) (inv_init h)
 unfold m35
 rw [h1, Option.bind_some, chk_t (by simp; omega)]
 simp only [Option.bind_some]
 rw [show ([] ++ es : List Erratum) = es from rfl] at h3
 simp only [List.nil_append]
 rw [sort_es (by omega) h.err.once, Option.bind_some, h3, Option.bind_some]
 exact congrArg (fun o : Option Grd => Option.bind o fun t => some (⟨v, t⟩ : edition)) (goL_while to (sortE es) 0 (initG v))
theorem e37 {v : Volume} {es : List Erratum} (h : Ok v es) (a : Int) {d : Int} (h0 : 0 ≤ d) (h1 : d ≤ 99999) : m37 v es a d = some (match findE (after v es d) a with | some e => (e.paragraph.text, e.removed, 0) | none => ([], false, 7)) := by
 have hi := inv_after h d
 obtain ⟨r, h2, h3⟩ := look23 (v := v) (g := after v es d) (a := a) hi.once
 unfold m37
 rw [e33 h, Option.bind_some, if_neg (by simp), e34, Option.bind_some, if_pos (In_iff.2 ⟨h0, h1⟩), e35 h, Option.bind_some, h2]
 rcases h3 with ⟨rfl, hno⟩ | ⟨p, k, l, e, rfl, hl, he, ha⟩
 ·rw [findE_none.2 hno]; simp
 ·rw [(findE_some hi.once).2 ⟨List.mem_flatten.2 ⟨l, List.mem_of_getElem? hl, List.mem_of_getElem? he⟩, ha⟩]
  simp [hl, he]
end T10
namespace T10
open Go Go.Proofs Pk
theorem loop_g {α σ ε S : Type} (f : Nat → σ → S) (l : List α) (g : σ → α → σ) (out : σ → ε) (I : Nat → σ → Prop) {step : S → Option (S ⊕ ε)}
  (hs : ∀ i x a, i < l.length → l[i]? = some x → I i a → step (f i a) = some (.inl (f (i + 1) (g a x))))
  (hI : ∀ i x a, i < l.length → l[i]? = some x → I i a → I (i + 1) (g a x))
  (he : ∀ a, I l.length a → step (f l.length a) = some (.inr (out a))) {a0 : σ} (h0 : I 0 a0) : loopO step (f 0 a0) = some (out (l.foldl g a0)) := by
 have key : ∀ k i a, l.length - i = k → i ≤ l.length → I i a → loopO step (f i a) = some (out ((l.drop i).foldl g a)) := by
  intro k
  induction k with
  | zero =>
   intro i a hk hi hIa
   obtain rfl : i = l.length := by omega
   rw [loopO_out (he a hIa), List.drop_length]; rfl
  | succ k ih =>
   intro i a hk hi hIa
   have hlt : i < l.length := by omega
   have hx : l[i]? = some l[i] := List.getElem?_eq_getElem hlt
   rw [List.drop_eq_getElem_cons hlt, loopO_next (hs i _ a hlt hx hIa), ih (i + 1) _ (by omega) (by omega) (hI i _ a hlt hx hIa)]; rfl
 have := key l.length 0 a0 (by omega) (by omega) h0
 simpa using this
theorem right_txt {x : Erratum} (h : right x = true) (k : x.kind ≠ 1) : txt x.text = true := by
 unfold right at h
 simp only [Bool.and_eq_true] at h
 obtain ⟨_, h⟩ := h
 by_cases k0 : x.kind = 0
 ·rw [if_pos k0] at h; simp only [Bool.and_eq_true] at h; exact h.1
 ·rw [if_neg k0, if_neg k] at h; simp only [Bool.and_eq_true] at h; exact h.1.2
theorem right_new {x : Erratum} (h : right x = true) (k : x.kind = 2) : In x.new_ 1 999 = true := by
 unfold right at h
 simp only [Bool.and_eq_true] at h
 obtain ⟨_, h⟩ := h
 rw [if_neg (by omega), if_neg (by omega)] at h
 simp only [Bool.and_eq_true] at h; exact h.2
def okT (e : entry) : Prop := txt e.paragraph.text = true ∧ In e.paragraph.anchor 1 999 = true
theorem upd_okT {x : Erratum} (hr : right x = true) {e : entry} (he : okT e) : ∀ y ∈ upd x e, okT y := by
 intro y hy
 unfold upd at hy
 split at hy
 ·split at hy
  ·rename_i k0
   obtain rfl := List.mem_singleton.1 hy
   split
   ·exact he
   ·exact ⟨right_txt hr (by omega), he.2⟩
  ·split at hy
   ·obtain rfl := List.mem_singleton.1 hy; exact he
   ·rename_i k0 k1
    simp only [List.mem_cons, List.not_mem_nil, or_false] at hy
    rcases hy with rfl | rfl
    ·exact he
    ·exact ⟨right_txt hr k1, right_new hr (by rcases right_kind hr with h | h | h <;> omega)⟩
 ·obtain rfl := List.mem_singleton.1 hy; exact he
theorem steps_okT : ∀ (l : List Erratum) (g : Grd), (∀ x ∈ l, right x = true) → (∀ e ∈ g.flatten, okT e) → ∀ e ∈ (l.foldl (fun g x => stepG x g) g).flatten, okT e
 | [], g, _, h => h
 | x :: l, g, hl, h => by
  refine steps_okT l (stepG x g) (fun y hy => hl y (List.mem_cons_of_mem _ hy)) (fun e he => ?_)
  rw [stepG_flat] at he
  obtain ⟨f, hf, he⟩ := List.mem_flatMap.1 he
  exact upd_okT (hl x List.mem_cons_self) (h f hf) e he
theorem upto_mem {es : List Erratum} {d : Int} {x : Erratum} (h : x ∈ upto es d) : x ∈ es ∧ x.day ≤ d := by
 unfold upto at h
 refine ⟨mem_sort.1 ((List.takeWhile_prefix _).subset h), ?_⟩
 have := List.all_eq_true.1 (List.all_takeWhile (p := fun x : Erratum => decide (x.day ≤ d)) (l := sortE es)) x h
 simpa using this
theorem after_okT {v : Volume} {es : List Erratum} (h : Ok v es) (d : Int) : ∀ e ∈ (after v es d).flatten, okT e := by
 refine steps_okT _ _ (fun x hx => h.err.right x (upto_mem hx).1) (fun e he => ?_)
 rw [init_flat] at he
 obtain ⟨p, hp, rfl⟩ := List.mem_map.1 he
 have := h.vol.par p hp
 unfold okP at this
 rw [Bool.and_eq_true] at this
 exact ⟨this.2, this.1⟩
theorem txt_len {s : Bytes} (h : txt s = true) : 1 ≤ s.length ∧ s.length ≤ 200 := by
 unfold txt at h
 rw [Bool.and_eq_true] at h
 have := In_iff.1 h.1; omega
theorem lines_ok {w : Int} (hw : 10 ≤ w) {s : Bytes} (h : txt s = true) : 1 ≤ linesOf w s ∧ linesOf w s ≤ 20 := by
 have := txt_len h
 unfold linesOf
 constructor
 ·exact Int.le_ediv_of_mul_le (by omega) (by omega)
 ·have : ((s.length : Int) + w - 1) / w < 21 := Int.ediv_lt_of_lt_mul (by omega) (by omega)
  omega
theorem full_after {v : Volume} {es : List Erratum} (h : Ok v es) (d : Int) : ∀ l ∈ after v es d, Full v.width l := fun l hl e he => lines_ok (In_iff.1 h.vol.width).1 (after_okT h d e (List.mem_flatten.2 ⟨l, hl, he⟩)).1
theorem rowL_le {W : Int} : ∀ {l : List entry}, Full W l → rowL W l ≤ 20 * l.length
 | [], _ => by simp [rowL]
 | e :: l, h => by
  have h1 := rowL_le h.tail
  have h2 := (h e List.mem_cons_self)
  unfold rowL; rw [List.length_cons]; split <;> omega
theorem rowP_cons {H W day col li no : Int} {e : entry} {l : List entry} : rowP H W day col li no (e :: l) = if e.removed then rowP H W day col li no l else ⟨⟨e.paragraph.anchor, col + li / H, li % H + 1, linesOf W e.paragraph.text⟩, day, no + 1⟩ :: rowP H W day col (li + linesOf W e.paragraph.text) (no + 1) l := rfl
def rowF (H W day col : Int) (a : Nat × Int × List printed) (e : entry) : Nat × Int × List printed :=
 if e.removed then a else (a.1 + 1, a.2.1 + linesOf W e.paragraph.text, a.2.2 ++ [⟨⟨e.paragraph.anchor, col + a.2.1 / H, a.2.1 % H + 1, linesOf W e.paragraph.text⟩, day, (a.1 : Int) + 1⟩])
theorem rowF_fold {H W day col : Int} : ∀ (l : List entry) (a : Nat × Int × List printed), (l.foldl (rowF H W day col) a).2 = (a.2.1 + rowL W l, a.2.2 ++ rowP H W day col a.2.1 a.1 l)
 | [], a => by simp [rowL, rowP]
 | e :: l, a => by
  rw [List.foldl_cons, rowF_fold l]
  rw [show rowL W (e :: l) = (if e.removed then 0 else linesOf W e.paragraph.text) + rowL W l from rfl, rowP_cons]
  unfold rowF
  cases e.removed
  ·simp [Int.add_assoc]
  ·simp
theorem loop37 {v : Volume} (hH : 1 ≤ v.height ∧ v.height ≤ 60) (hW : 10 ≤ v.width ∧ v.width ≤ 80) {l : List entry} (hl : l.length ≤ 50) (ht : ∀ e ∈ l, okT e) {i : Nat} {p : Part} (hp : v.parts[i]? = some p) {col : Int} (hc : 1 ≤ col ∧ col ≤ 100000) {out : List printed} (ho : out.length ≤ 100000) :
  loopO (m39_2 l v (i, col, out)) (0, 0, 0, out) = some (rowL v.width l, out ++ rowP v.height v.width p.day col 0 0 l) := by
 have := loop_g (fun i (a : Nat × Int × List printed) => (a.1, i, a.2.1, a.2.2)) l (rowF v.height v.width p.day col) (fun a => (a.2.1, a.2.2)) (fun i a => a.1 ≤ i ∧ 0 ≤ a.2.1 ∧ a.2.1 ≤ 20 * i ∧ a.2.2.length ≤ out.length + i) (step := m39_2 l v (i, col, out)) (fun j e a hj he hI => by
  obtain ⟨i1, i2, i3, i4⟩ := hI
  have hte := ht e (List.mem_of_getElem? he)
  have htl := txt_len hte.1
  have hln := lines_ok hW.1 hte.1
  unfold linesOf at hln
  have d1 := Int.ediv_nonneg i2 (by omega : 0 ≤ v.height)
  have d2 : a.2.1 / v.height ≤ a.2.1 := Int.ediv_le_self _ i2
  have d3 := Int.emod_nonneg a.2.1 (by omega : v.height ≠ 0)
  have d4 := Int.emod_lt_of_pos a.2.1 (by omega : 0 < v.height)
  unfold m39_2 rowF linesOf
  simp only []
  rw [if_pos (by omega), he]
  simp only [Option.bind_some]
  cases hr : e.removed
  ·rw [if_neg (by simp), if_neg (by simp)]
   rw [chk_t (by omega), chk_t (by omega), chk_t (by omega), chk_t (by omega), chk_t (by omega), chk_t (by omega), chk_t (by omega), chk_t (by omega), hp]
   simp only [Option.bind_some]
   rw [chk_t (by simp; omega), chk_t (by omega)]
   rfl
  ·rfl) (fun j e a hj he hI => by
  obtain ⟨i1, i2, i3, i4⟩ := hI
  have hte := ht e (List.mem_of_getElem? he)
  have hln := lines_ok hW.1 hte.1
  unfold rowF
  cases e.removed
  ·rw [if_neg (by simp)]
   simp only [List.length_append, List.length_singleton]
   omega
  ·rw [if_pos rfl]; omega) (fun a hI => by unfold m39_2; simp) (a0 := (0, 0, out)) (by simp)
 simp only [] at this
 rw [this]
 have h2 := rowF_fold (H := v.height) (W := v.width) (day := p.day) (col := col) l (0, 0, out)
 show some (l.foldl (rowF v.height v.width p.day col) (0, 0, out)).2 = _
 rw [h2]; simp
def prF (H W : Int) (a : Int × List printed) (x : Part × List entry) : Int × List printed := (a.1 + (rowL W x.2 + H - 1) / H, a.2 ++ rowP H W x.1.day a.1 0 0 x.2)
theorem prF_fold {H W : Int} : ∀ (ps : List Part) (g : Grd) (a : Int × List printed), ((ps.zip g).foldl (prF H W) a).2 = a.2 ++ prints H W a.1 ps g
 | [], g, a => by unfold prints; simp
 | p :: ps, [], a => by unfold prints; simp
 | p :: ps, l :: g, a => by
  rw [List.zip_cons_cons, List.foldl_cons, prF_fold ps g]
  conv => rhs; unfold prints
  unfold prF; simp
theorem zip_at {α β : Type} {a : List α} {b : List β} {i : Nat} {x : α × β} (h : (a.zip b)[i]? = some x) : a[i]? = some x.1 ∧ b[i]? = some x.2 := by
 rw [List.getElem?_zip_eq_some] at h; exact h
theorem rowP_len {H W day col : Int} : ∀ {l : List entry} {li no : Int}, (rowP H W day col li no l).length ≤ l.length
 | [], _, _ => Nat.le_refl _
 | e :: l, li, no => by
  unfold rowP
  split
  ·exact Nat.le_succ_of_le rowP_len
  ·simp only [List.length_cons]; exact Nat.succ_le_succ rowP_len
theorem e39 {v : Volume} {es : List Erratum} (h : Ok v es) : m39 v es = some (printE v es) := by
 have hH := In_iff.1 h.vol.height
 have hW := In_iff.1 h.vol.width
 have hi := inv_after h v.bound
 obtain ⟨hb, hg⟩ := hi.small h upto_len
 have hrows := hi.rows
 have hzl : (v.parts.zip (after v es v.bound)).length = (after v es v.bound).length := by rw [List.length_zip]; omega
 have h1 := loop_g (fun i (a : Int × List printed) => (i, a.1, a.2)) (v.parts.zip (after v es v.bound)) (prF v.height v.width) (fun a => a.2) (fun i a => 1 ≤ a.1 ∧ a.1 ≤ 1 + 2000 * i ∧ a.2.length ≤ 50 * i) (step := m39_1 ⟨v, after v es v.bound⟩ v) (fun i x a hlt hx hI => by
  obtain ⟨hp, hl⟩ := zip_at hx
  have hll := flat_len1 hl
  have hfl := full_after h v.bound _ (List.mem_of_getElem? hl)
  have hn := rowL_nn hfl
  have hle := rowL_le hfl
  have d1 := Int.ediv_nonneg (by omega : 0 ≤ rowL v.width x.2 + v.height - 1) (by omega : 0 ≤ v.height)
  have d2 : (rowL v.width x.2 + v.height - 1) / v.height ≤ rowL v.width x.2 + v.height - 1 := Int.ediv_le_self _ (by omega)
  unfold m39_1
  simp only []
  rw [if_pos (by omega), hl]
  simp only [Option.bind_some]
  rw [loop37 hH hW (by omega) (fun e he => after_okT h _ e (List.mem_flatten.2 ⟨_, List.mem_of_getElem? hl, he⟩)) hp (by omega) (by omega)]
  simp only [Option.bind_some]
  rw [chk_t (by omega), chk_t (by omega), chk_t (by omega), chk_t (by omega)]
  rfl) (fun i x a hlt hx hI => by
  obtain ⟨hp, hl⟩ := zip_at hx
  have hll := flat_len1 hl
  have hfl := full_after h v.bound _ (List.mem_of_getElem? hl)
  have hn := rowL_nn hfl
  have hle := rowL_le hfl
  have d1 := Int.ediv_nonneg (by omega : 0 ≤ rowL v.width x.2 + v.height - 1) (by omega : 0 ≤ v.height)
  have d2 : (rowL v.width x.2 + v.height - 1) / v.height ≤ rowL v.width x.2 + v.height - 1 := Int.ediv_le_self _ (by omega)
  have hr := rowP_len (H := v.height) (W := v.width) (day := x.1.day) (col := a.1) (l := x.2) (li := 0) (no := 0)
  unfold prF
  simp only [List.length_append]
  omega) (fun a hI => by unfold m39_1; simp [hzl]) (a0 := (1, [])) (by simp)
 simp only [] at h1
 unfold m39
 rw [e35 h, Option.bind_some, h1, prF_fold]
 rfl
theorem printE_len {v : Volume} {es : List Erratum} (h : Ok v es) : (printE v es).length ≤ 50 := by
 have hi := inv_after h v.bound
 obtain ⟨hb, hg⟩ := hi.small h upto_len
 have h1 := congrArg List.length (prints_ank (H := v.height) (W := v.width) (col := 1) hi.rows)
 rw [List.length_map, List.length_map] at h1
 unfold printE
 rw [h1]
 unfold readE
 rw [List.length_map]
 exact Nat.le_trans (List.length_filter_le _ _) hb
theorem e22 {v : Volume} {es : List Erratum} (h : Ok v es) : m22 v es = some ((printE v es).map (·.place), 0) := by
 have hl := printE_len h
 have h1 := loop_map (printE v es) (·.place) (fun a => a) (step := m22_1 (printE v es)) (fun i x a hi hx ha => by
  unfold m22_1
  rw [if_pos (by omega)]
  simp only [hx, Option.bind_some]
  rw [chk_t (by omega)]) (fun a => by unfold m22_1; simp)
 unfold m22
 rw [e33 h, Option.bind_some, if_neg (by simp), e39 h, Option.bind_some, h1]; rfl
end T10
namespace T10
open Go Go.Proofs Pk
theorem prints_few {H W : Int} (hH : 1 ≤ H ∧ H ≤ 60) : ∀ {ps : List Part} {g : Grd} {col : Int}, (∀ l ∈ g, Full W l) → ∀ q ∈ prints H W col ps g, q.place.column ≤ col + 20 * (g.flatten.length : Int) + 60 * (g.length : Int) ∧ q.number ≤ g.flatten.length ∧ 1 ≤ q.number
 | [], _, _, _, q, hq => by unfold prints at hq; cases hq
 | _ :: _, [], _, _, q, hq => by unfold prints at hq; cases hq
 | p :: ps, l :: g, col, hf, q, hq => by
  unfold prints at hq
  have hl := hf l List.mem_cons_self
  have hn := rowL_nn hl
  have hle := rowL_le hl
  have d2 : (rowL W l + H - 1) / H ≤ rowL W l + H - 1 := Int.ediv_le_self _ (by omega)
  simp only [List.flatten_cons, List.length_append, List.length_cons]
  rcases List.mem_append.1 hq with hq | hq
  ·have key : ∀ (l : List entry) (li no : Int), Full W l → 0 ≤ li → ∀ q ∈ rowP H W p.day col li no l, q.place.column ≤ col + li + rowL W l ∧ q.number ≤ no + l.length ∧ no + 1 ≤ q.number := by
    intro l
    induction l with
    | nil => intro li no _ _ q hq; cases hq
    | cons e l ih =>
     intro li no h hli q hq
     rw [rowP_cons] at hq
     have h2 := (h e List.mem_cons_self)
     have hn := rowL_nn h.tail
     have e1 : rowL W (e :: l) = (if e.removed then 0 else linesOf W e.paragraph.text) + rowL W l := rfl
     cases hr : e.removed
     ·rw [hr] at hq e1
      simp only [Bool.false_eq_true, if_false, List.mem_cons] at hq e1
      rcases hq with rfl | hq
      ·have : li / H ≤ li := Int.ediv_le_self _ hli
       simp only [List.length_cons]
       omega
      ·have := ih _ _ h.tail (by omega) q hq
       simp only [List.length_cons]; omega
     ·rw [hr] at hq e1
      simp only [if_true] at hq e1
      have := ih _ _ h.tail hli q hq
      simp only [List.length_cons]; omega
   have := key l 0 0 hl (Int.le_refl 0) q hq
   omega
  ·have := prints_few hH (fun m hm => hf m (List.mem_cons_of_mem _ hm)) q hq
   omega
structure OkQ (v : Volume) (q : printed) : Prop where
 place : OkP v.height q.place
 col : q.place.column ≤ 2000
 number : 1 ≤ q.number ∧ q.number ≤ 50
 day : 0 ≤ q.day ∧ q.day ≤ 99999
 anchor : 1 ≤ q.place.anchor ∧ q.place.anchor ≤ 999
theorem days_pw {v : Volume} (h : OkV v) : v.parts.Pairwise (fun a b => a.day < b.day) := by
 rw [List.pairwise_iff_getElem]
 intro i j hi hj hij
 have key : ∀ k, i + k + 1 < v.parts.length → ∀ (h1 : i + k + 1 < v.parts.length), v.parts[i].day < v.parts[i + k + 1].day := by
  intro k
  induction k with
  | zero =>
   intro _ h1
   exact (h.day (i + 1) _ (List.getElem?_eq_getElem h1)).2 _ (by omega) (by simpa using List.getElem?_eq_getElem hi)
  | succ k ih =>
   intro _ h1
   have h2 := ih (by omega) (by omega)
   have h3 := (h.day (i + (k + 1) + 1) _ (List.getElem?_eq_getElem h1)).2 v.parts[i + k + 1] (by omega) (by rw [show i + (k + 1) + 1 - 1 = i + k + 1 by omega]; exact List.getElem?_eq_getElem (by omega))
   omega
 have := key (j - i - 1) (by omega) (by omega)
 simpa [show i + (j - i - 1) + 1 = j by omega] using this
theorem read_ok {v : Volume} {es : List Erratum} (h : Ok v es) {d : Int} {p : Paragraph} (hp : p ∈ readE (after v es d)) : ∃ e ∈ (after v es d).flatten, e.removed = false ∧ e.paragraph = p := by
 unfold readE at hp
 obtain ⟨e, he, rfl⟩ := List.mem_map.1 hp
 obtain ⟨h1, h2⟩ := List.mem_filter.1 he
 exact ⟨e, h1, by simpa using h2, rfl⟩
theorem printE_ok {v : Volume} {es : List Erratum} (h : Ok v es) : ∀ q ∈ printE v es, OkQ v q := by
 intro q hq
 have hH := In_iff.1 h.vol.height
 have hi := inv_after h v.bound
 obtain ⟨hb, hg⟩ := hi.small h upto_len
 have hf := full_after h v.bound
 obtain ⟨h1, ⟨p, hp, hd⟩, _⟩ := prints_ok (H := v.height) (W := v.width) (by omega) (col := 1) (by omega) hf q hq
 have h2 := prints_few hH hf q hq
 obtain ⟨i, hpi⟩ := List.getElem?_of_mem hp
 have h3 := In_iff.1 (h.vol.day i p hpi).1
 have h4 := In_iff.1 h.vol.bound
 have ha : q.place.anchor ∈ (printE v es).map (·.place.anchor) := List.mem_map.2 ⟨q, hq, rfl⟩
 unfold printE at ha
 rw [prints_ank hi.rows] at ha
 obtain ⟨p', hp', e'⟩ := List.mem_map.1 ha
 obtain ⟨e, he, _, rfl⟩ := read_ok h hp'
 have h5 := In_iff.1 (after_okT h _ e he).2
 exact ⟨h1, by omega, by omega, by omega, by omega⟩
theorem printE_beh {v : Volume} {es : List Erratum} (h : Ok v es) : (printE v es).Pairwise (Beh v.height) :=
 prints_beh (by have := In_iff.1 h.vol.height; omega) (by omega) (full_after h v.bound) (days_pw h.vol)
theorem printE_once {v : Volume} {es : List Erratum} (h : Ok v es) : ((printE v es).map (·.place.anchor)).Nodup := by
 have hi := inv_after h v.bound
 unfold printE
 rw [prints_ank hi.rows]
 have : ((readE (after v es v.bound)).map (·.anchor)).Sublist (ank (after v es v.bound).flatten) := by
  unfold readE ank
  rw [List.map_map]
  exact (List.filter_sublist).map _
 exact this.nodup hi.once
theorem goN_findS {α ε : Type} (p : α → Bool) (f : α → ε) (out : ε) : ∀ (l : List α) (i : Nat), goN (fun _ x => if p x then some (f x) else none) out l i = match l.find? p with | some x => f x | none => out
 | [], i => rfl
 | x :: l, i => by
  unfold goN
  rw [List.find?_cons]
  cases hp : p x
  ·simp only [Bool.false_eq_true, if_false]; exact goN_findS p f out l (i + 1)
  ·simp
end T10
namespace T10
open Go Go.Proofs Pk
abbrev sCo : Bytes := [99, 111, 108, 46, 32]
theorem n87 {n : Int} (h : 0 ≤ n ∧ n ≤ 999999) : m104 (Lib.itoa n) = some (n, false) := by
 have := itoa_len h.1 (by omega)
 unfold m104 atoiM
 rw [chk_t (by omega), atoi_itoa h.1 (by omega)]
theorem n58 {n : Int} (h : 0 ≤ n ∧ n ≤ 999999) : m59 n = some (Lib.itoa n) := by unfold m59 itoaM; rw [chk_t (by omega)]
theorem n40 {n : Int} (h : 0 ≤ n ∧ n ≤ 999999) : m44 n 0 999999 = some true := by rw [e44, In_iff.2 h]
theorem n86 {l r t : Bytes} {c : UInt8} (h : c ∉ l) (hb : l.length + t.length + r.length ≤ 1000000) : m103 (l ++ (c :: t ++ r)) (c :: t) = some (l, r, true) := by
 unfold m103
 rw [chk_t (by simp; omega), cut_at h]
theorem n88 (p r : Bytes) : m105 (p ++ r) p = some (r, true) := by
 unfold m105 Lib.trimPrefix Lib.hasPrefix
 rw [isPre_self]; simp
theorem c44 {n : Int} (h : 0 ≤ n) : (44 : UInt8) ∉ Lib.itoa n := itoa_no h (by decide)
theorem e68C {v c l : Int} (hv : 0 ≤ v ∧ v ≤ 999999) (hc : 0 ≤ c ∧ c ≤ 999999) (hl : 0 ≤ l ∧ l ≤ 999999) : m68 (citeC v c l) = some (.inl ⟨0, ⟨v, c, l⟩⟩) := by
 have l1 := itoa_len hv.1 (by omega)
 have l2 := itoa_len hc.1 (by omega)
 have l3 := itoa_len hl.1 (by omega)
 have h89 : m106 (citeC v c l) sCo = some true := by
  unfold m106
  rw [chk_t (by unfold citeC; simp only [List.length_append, List.length_cons, List.length_nil]; omega)]
  have : citeC v c l = (sVol ++ (Lib.itoa v ++ [44, 32])) ++ (sCo ++ (Lib.itoa c ++ (sL ++ Lib.itoa l))) := by unfold citeC; simp
  rw [this, contains_app]
 have h88 : m105 (citeC v c l) sVol = some (Lib.itoa v ++ (sCol ++ (Lib.itoa c ++ (sL ++ Lib.itoa l))), true) := n88 _ _
 have h1 : m103 (Lib.itoa v ++ (sCol ++ (Lib.itoa c ++ (sL ++ Lib.itoa l)))) sCol = some (Lib.itoa v, Lib.itoa c ++ (sL ++ Lib.itoa l), true) := n86 (c44 hv.1) (by simp only [List.length_append, List.length_cons, List.length_nil]; omega)
 have h2 : m103 (Lib.itoa c ++ (sL ++ Lib.itoa l)) sL = some (Lib.itoa c, Lib.itoa l, true) := n86 (c44 hc.1) (by simp only [List.length_append, List.length_cons, List.length_nil]; omega)
 unfold m68
 rw [h88]
 simp only [Option.bind_some, if_true, h89, h1, h2, n87 hv, n87 hc, n87 hl, n58 hv, n58 hc, n58 hl, n40 hv, n40 hc, n40 hl, ne_eq, not_true_eq_false, if_false, Bool.false_eq_true, Bool.not_true]
def hits (v : Volume) (c : cited) (p : printed) : Bool := (if c.style = 0 then In c.numbers.e2 1 v.height && In ((c.numbers.e1 - p.place.column) * v.height + c.numbers.e2 - p.place.line) 0 (p.place.lines - 1) else decide (p.day = c.numbers.e1) && decide (p.number = c.numbers.e2)) && decide (c.numbers.e0 = v.number)
theorem mul_bd {a b : Int} (ha : -1000000 ≤ a ∧ a ≤ 1000000) (hb : 0 ≤ b ∧ b ≤ 60) : -60000000 ≤ a * b ∧ a * b ≤ 60000000 := by
 constructor
 ·have := Int.mul_le_mul_of_nonneg_right ha.1 hb.1
  omega
 ·have := Int.mul_le_mul_of_nonneg_right ha.2 hb.1
  omega
theorem e19P {v : Volume} {es : List Erratum} (h : Ok v es) {s : Bytes} {c : cited} (hc : m43 s = some (c, true)) (hs : c.style ≠ 2) (h1 : 0 ≤ c.numbers.e1 ∧ c.numbers.e1 ≤ 999999) (h2 : 0 ≤ c.numbers.e2 ∧ c.numbers.e2 ≤ 999999) : m19 v es s = some (match (printE v es).find? (hits v c) with | some p => (p.place.anchor, v.bound, 0) | none => (0, 0, 7)) := by
 have hok := printE_ok h
 have hH := In_iff.1 h.vol.height
 have g1 := loop_n (printE v es) (fun _ p => if hits v c p then some (.inr (p.place.anchor, v.bound, 0)) else none) (.inl () : Unit ⊕ (Int × Int × Int)) (step := m19_1 (printE v es) (c, true) v) (fun i p hi hp => by
  have ok := hok p (List.mem_of_getElem? hp)
  have o1 := ok.place.line1
  have o2 := ok.place.lineH
  have o3 := ok.place.col
  have o4 := ok.col
  have o7 := ok.place.lines
  have o8 := ok.place.few
  have hm := mul_bd (a := c.numbers.e1 - p.place.column) (b := v.height) (by omega) (by omega)
  unfold m19_1
  rw [if_pos (by omega), hp, Option.bind_some]
  simp only []
  rw [chk_t (by omega), chk_t (by omega), chk_t (by omega), chk_t (by omega), chk_t (by omega)]
  unfold hits
  simp only [e44]
  by_cases c0 : c.style = 0
  ·simp only [c0, if_true]
   cases In c.numbers.e2 1 v.height <;> cases In ((c.numbers.e1 - p.place.column) * v.height + c.numbers.e2 - p.place.line) 0 (p.place.lines - 1) <;> by_cases q : c.numbers.e0 = v.number <;> by_cases q2 : p.day = c.numbers.e1 <;> simp [q, q2]
  ·simp only [c0, if_false]
   by_cases q : c.numbers.e0 = v.number <;> by_cases q2 : p.day = c.numbers.e1 <;> by_cases q3 : p.number = c.numbers.e2 <;> simp [q, q2, q3]) (by unfold m19_1; simp)
 unfold m19
 rw [e33 h, Option.bind_some, if_neg (by simp), hc, Option.bind_some]
 simp only [if_true]
 rw [if_neg hs, e39 h, Option.bind_some, g1, goN_findS]
 cases (printE v es).find? (hits v c) <;> rfl
theorem e43 {s : Bytes} {c : cited} (h : m68 s = some (.inl c)) : m43 s = some (c, true) := by unfold m43; rw [h]; rfl
end T10
namespace T10
open Go Go.Proofs Pk Go.Lib
theorem dig_lt {u : Nat} (h : u < 10) : decDigits u = [UInt8.ofNat (48 + u)] := by rw [decDigits, dif_pos h]
theorem dig_ge {u : Nat} (h : 10 ≤ u) : decDigits u = decDigits (u / 10) ++ [UInt8.ofNat (48 + u % 10)] := by rw [decDigits, dif_neg (by omega)]
theorem e23F : ∀ (k u : Nat), u < 10 ^ k → u < 1000000 → m23F (k + 1) (u : Int) = some (decDigits u)
 | 0, u, h, _ => by
  obtain rfl : u = 0 := by omega
  unfold m23F; rw [dig_lt (by omega)]; simp [chk]
 | k + 1, u, h, hl => by
  unfold m23F
  by_cases h9 : u < 10
  ·rw [if_pos (by omega), chk_t (by omega), chk_t (by omega), dig_lt h9, show (48 + (u : Int) % 10).toNat = 48 + u by omega]
  ·have h1 : m23F (k + 1) ((u : Int) / 10) = some (decDigits (u / 10)) := by
    have := e23F k (u / 10) (by rw [Nat.pow_succ] at h; omega) (by omega)
    rwa [show ((u / 10 : Nat) : Int) = (u : Int) / 10 by omega] at this
   have h2 : m23F (k + 1) ((u : Int) % 10) = some [UInt8.ofNat (48 + u % 10)] := by
    unfold m23F
    rw [if_pos (by omega), chk_t (by omega), chk_t (by omega), show (48 + (u : Int) % 10 % 10).toNat = 48 + u % 10 by omega]
   have h3 : (decDigits (u / 10)).length ≤ 6 := dec_len (k := 6) (show u / 10 < 1000000 by omega) (by omega)
   rw [if_neg (by omega), chk_t (by omega), h1, Option.bind_some, chk_t (by omega), h2, Option.bind_some, chk_t (by simp only [List.length_singleton]; omega), dig_ge (u := u) (by omega)]
theorem m23F_det : ∀ (k j : Nat) (n : Int) {r r' : Bytes}, m23F k n = some r → m23F j n = some r' → r' = r
 | 0, _, _, _, _, h, _ => by unfold m23F at h; cases h
 | _, 0, _, _, _, _, h => by unfold m23F at h; cases h
 | k + 1, j + 1, n, r, r', h, h' => by
  unfold m23F at h h'
  by_cases c : n < 10
  ·rw [if_pos c] at h h'; rw [h] at h'; cases h'; rfl
  ·rw [if_neg c] at h h'
   obtain ⟨c1, h⟩ := chk_some h
   obtain ⟨a, ha, h⟩ := Option.bind_eq_some_iff.1 h
   obtain ⟨c2, h⟩ := chk_some h
   obtain ⟨b, hb, h⟩ := Option.bind_eq_some_iff.1 h
   obtain ⟨c3, h⟩ := chk_some h
   obtain ⟨_, h'⟩ := chk_some h'
   obtain ⟨a', ha', h'⟩ := Option.bind_eq_some_iff.1 h'
   obtain ⟨_, h'⟩ := chk_some h'
   obtain ⟨b', hb', h'⟩ := Option.bind_eq_some_iff.1 h'
   obtain ⟨_, h'⟩ := chk_some h'
   rw [m23F_det k j _ ha ha', m23F_det k j _ hb hb'] at h'
   rw [h] at h'; cases h'; rfl
theorem e23 {u : Nat} (h : u < 1000000) : m23 (u : Int) = some (decDigits u) := by
 unfold m23
 have h1 := e23F 6 u (by simpa using h) h
 exact recO_eq 7 h1 fun m r' hm => m23F_det 7 m _ h1 hm
theorem e23i {n : Int} (h0 : 0 ≤ n) (h : n < 1000000) : m23 n = some (itoa n) := by
 have := e23 (u := n.toNat) (by omega)
 rw [show ((n.toNat : Nat) : Int) = n by omega] at this
 rw [this, itoa, if_neg (by omega)]
def Nm (n : Nat) : Bytes := [UInt8.ofNat (48 + n / 100), UInt8.ofNat (48 + n / 10 % 10), UInt8.ofNat (48 + n % 10)]
theorem nm_dig {n : Nat} (h : n < 1000) : (decDigits (1000 + n)).drop 1 = Nm n ∧ 1 ≤ (decDigits (1000 + n)).length := by
 rw [dig_ge (by omega), dig_ge (by omega), dig_ge (by omega), dig_lt (by omega)]
 unfold Nm
 have e1 : (1000 + n) / 10 / 10 % 10 = n / 100 := by omega
 have e2 : (1000 + n) / 10 % 10 = n / 10 % 10 := by omega
 have e3 : (1000 + n) % 10 = n % 10 := by omega
 rw [e1, e2, e3]
 exact ⟨by simp, by simp⟩
theorem dg_nat {n : Nat} (h : n < 10) : (UInt8.ofNat (48 + n)).toNat = 48 + n := by simp; omega
theorem nm_mem {n : Nat} (h : n < 1000) : ∀ c ∈ Nm n, 48 ≤ c.toNat ∧ c.toNat ≤ 57 := by
 intro c hc
 unfold Nm at hc
 simp only [List.mem_cons, List.not_mem_nil, or_false] at hc
 rcases hc with rfl | rfl | rfl <;> rw [dg_nat (by omega)] <;> omega
theorem u8_lt {a b : UInt8} : a < b ↔ a.toNat < b.toNat := UInt8.lt_iff_toNat_lt
theorem cmp3 {a b : Nat} (ha : a < 1000) (hb : b < 1000) : compareBytes (Nm a) (Nm b) = if a < b then -1 else if b < a then 1 else 0 := by
 have t : ∀ {x y : Nat}, x < 10 → y < 10 → ((UInt8.ofNat (48 + x) < UInt8.ofNat (48 + y)) ↔ x < y) := fun hx hy => by rw [u8_lt, dg_nat hx, dg_nat hy]; omega
 unfold Nm
 simp only [compareBytes, t (show a / 100 < 10 by omega) (show b / 100 < 10 by omega), t (show b / 100 < 10 by omega) (show a / 100 < 10 by omega), t (show a / 10 % 10 < 10 by omega) (show b / 10 % 10 < 10 by omega), t (show b / 10 % 10 < 10 by omega) (show a / 10 % 10 < 10 by omega), t (show a % 10 < 10 by omega) (show b % 10 < 10 by omega), t (show b % 10 < 10 by omega) (show a % 10 < 10 by omega)]
 repeat' split
 all_goals first | rfl | omega
theorem cmp_self : ∀ l : Bytes, compareBytes l l = 0
 | [] => rfl
 | a :: l => by unfold compareBytes; rw [if_neg (by simp), if_neg (by simp), cmp_self l]
theorem nm_inj {a b : Nat} (ha : a < 1000) (hb : b < 1000) (h : Nm a = Nm b) : a = b := by
 have h1 := cmp3 ha hb
 rw [h, cmp_self] at h1
 split at h1
 ·omega
 ·split at h1 <;> omega
end T10
namespace T10
open Go Go.Proofs Pk Go.Lib
theorem e48 (n lo hi : Int) : m48 n lo hi = some (In n lo hi) := by unfold m48 In; by_cases h : lo ≤ n <;> simp [h]
theorem e148 {b : Int} (h0 : 48 ≤ b) (h1 : b ≤ 57) : m148 b = some true := by
 rcases (show b = 48 ∨ b = 49 ∨ b = 50 ∨ b = 51 ∨ b = 52 ∨ b = 53 ∨ b = 54 ∨ b = 55 ∨ b = 56 ∨ b = 57 by omega) with rfl | rfl | rfl | rfl | rfl | rfl | rfl | rfl | rfl | rfl <;> (unfold m148 m149; rw [if_pos (by omega), if_pos (by omega), chk_t (by omega)]; rfl)
theorem e150 {l : Bytes} (h : ∀ c ∈ l, 48 ≤ c.toNat ∧ c.toNat ≤ 57) : m150 l m148 = some true := by
 have : m150 l m148 = gAll l (fun c => m148 (c.toNat : Int)) := rfl
 rw [this, gAll_some (fun _ => true) (fun c hc => e148 (by have := h c hc; omega) (by have := h c hc; omega))]
 simp
theorem nm_no {n : Nat} (h : n < 1000) {c : UInt8} (hc : c ∈ Nm n) : c ≠ 32 := fun e => by
 have := (nm_mem h c hc).1
 subst e; simp at this
theorem e112 {n : Nat} (h : n < 1000) : m112 (Nm n) = some true := by
 have hl : (Nm n).length = 3 := rfl
 have h1 : m151 (Nm n) [32] = some (Nm n) := by
  show chk ((Nm n).length ≤ 1073741824 ∧ UInt8.toNat 32 < 128) (some (trimB (Nm n) 32)) = _
  rw [chk_t ⟨by rw [hl]; omega, by decide⟩]
  congr 1
  have a1 : UInt8.ofNat (48 + n / 100) ≠ 32 := nm_no h (by unfold Nm; simp)
  have a3 : UInt8.ofNat (48 + n % 10) ≠ 32 := nm_no h (by unfold Nm; simp)
  unfold trimB trimLeftB trimRightB Nm
  rw [show ([UInt8.ofNat (48 + n / 100), UInt8.ofNat (48 + n / 10 % 10), UInt8.ofNat (48 + n % 10)] : List UInt8).reverse = [UInt8.ofNat (48 + n % 10), UInt8.ofNat (48 + n / 10 % 10), UInt8.ofNat (48 + n / 100)] from rfl, List.dropWhile_cons_of_neg (by simpa using a3)]
  rw [show ([UInt8.ofNat (48 + n % 10), UInt8.ofNat (48 + n / 10 % 10), UInt8.ofNat (48 + n / 100)] : List UInt8).reverse = [UInt8.ofNat (48 + n / 100), UInt8.ofNat (48 + n / 10 % 10), UInt8.ofNat (48 + n % 10)] from rfl, List.dropWhile_cons_of_neg (by simpa using a1)]
 have h2 : m106 (Nm n) [32, 32] = some false := by
  have : ∀ {a b c : UInt8}, a ≠ 32 → b ≠ 32 → c ≠ 32 → contains [a, b, c] [32, 32] = false := fun ha hb hc => by
   simp [contains, index, List.isPrefixOf, Ne.symm ha, Ne.symm hb, Ne.symm hc]
  unfold m106
  rw [chk_t (by rw [hl]; omega)]
  unfold Nm
  rw [this (nm_no h (by unfold Nm; simp)) (nm_no h (by unfold Nm; simp)) (nm_no h (by unfold Nm; simp))]
 unfold m112
 rw [e48, Option.bind_some, hl, show In ((3 : Nat) : Int) 1 40 = true from rfl, if_pos rfl, chk_t (by omega), e150 (nm_mem h), Option.bind_some, if_pos rfl, h1, Option.bind_some, if_pos rfl, h2]
 rfl
theorem e156 {l : Bytes} (hl : l.length ≤ 1000000) (h : ∀ c ∈ l, 48 ≤ c.toNat ∧ c.toNat ≤ 57) : m156 l = some l := by
 have h1 := loop_fold l (fun (a : Bytes) x => a ++ [x]) (fun a => a) (fun i a => a.length = i) (step := m156_1 l) (fun i x a hi hx ha => by
  have hc := h x (List.mem_of_getElem? hx)
  unfold m156_1
  simp only []
  rw [if_pos (by omega), hx, Option.bind_some, if_neg (by omega), Option.bind_some]
  simp only [Bool.false_eq_true, if_false]
  rw [if_neg (by omega), if_pos (by omega), Option.bind_some]
  rw [if_pos (by simp; omega), chk_t (by omega)]; rfl) (fun i x a hi hx ha => by simp [ha]) (fun a ha => by unfold m156_1; simp) (a0 := []) rfl
 unfold m156
 rw [chk_t (by omega), h1, Option.bind_some, foldl_snoc]
 simp
theorem e79 {a b : Nat} (hb : b < 1000) (h : a < b) : m79 (Nm a) (Nm b) = some true := by
 have ha : a < 1000 := by omega
 unfold m79 m121
 rw [e156 (by show 3 ≤ 1000000; omega) (nm_mem ha), Option.bind_some, e156 (by show 3 ≤ 1000000; omega) (nm_mem hb), Option.bind_some, show m155 (Nm a) (Nm b) = some (compareBytes (Nm a) (Nm b)) from rfl, cmp3 ha hb, if_pos h, Option.bind_some, Option.bind_some, e129]
 rfl
def hd (vn : Int) (q : Nat × Int × Int) : Heading := ⟨Nm q.1, [], [], [⟨vn, q.2.1, q.2.2⟩]⟩
structure OkH (q : Nat × Int × Int) : Prop where
 nm : q.1 < 1000
 f : 1 ≤ q.2.1
 t : q.2.1 ≤ q.2.2
 m : q.2.2 ≤ 9999
theorem e111 : m111 [] = some true := by
 have h1 : m75 [] m112 = some true := by
  have : m75 [] m112 = gAll [] m112 := rfl
  rw [this, gAll_some (fun _ => true) (fun c hc => by cases hc)]; rfl
 have h2 : m113 [] m79 = some true := by
  unfold m113
  rw [loopO_out (by unfold m113_1; rfl)]; rfl
 unfold m111
 rw [if_pos (by simp), h1, Option.bind_some, if_pos rfl, h2]; rfl
theorem e72 {vn : Int} (h0 : 1 ≤ vn) (h1 : vn ≤ 999) {q : Nat × Int × Int} (hq : OkH q) : m72 (hd vn q) = some true := by
 have a1 : m115 ⟨vn, q.2.1, q.2.2⟩ = some true := by
  have := hq.f; have := hq.t; have := hq.m
  unfold m115
  rw [e48, Option.bind_some, if_pos (In_iff.2 ⟨h0, h1⟩), e48, Option.bind_some, if_pos (In_iff.2 ⟨hq.f, hq.t⟩)]
  simp [hq.m]
 have a2 : m114 [⟨vn, q.2.1, q.2.2⟩] m115 = some true := by
  have : m114 [⟨vn, q.2.1, q.2.2⟩] m115 = gAll [(⟨vn, q.2.1, q.2.2⟩ : IPlace)] m115 := rfl
  rw [this, gAll_some (fun _ => true) (fun c hc => by rcases List.mem_singleton.1 hc with rfl; exact a1)]; rfl
 have a3 : m116 [⟨vn, q.2.1, q.2.2⟩] m117 = some true := by
  unfold m116
  rw [loopO_next (s' := 1) (by unfold m116_1; simp), loopO_out (by unfold m116_1; simp; rfl)]; rfl
 unfold m72 hd
 simp only [e112 hq.nm, e111, Option.bind_some, if_true, List.length_singleton]
 rw [if_pos (by omega), a2, Option.bind_some, if_pos rfl, a3]; rfl
theorem loop_inv {S ε : Type} {step : S → Option (S ⊕ ε)} (n : Nat) (I : Nat → S → Prop) (Q : ε → Prop)
  (hs : ∀ i s, i < n → I i s → ∃ s', step s = some (.inl s') ∧ I (i + 1) s') (he : ∀ s, I n s → ∃ e, step s = some (.inr e) ∧ Q e) : ∀ (k i : Nat) (s : S), n - i = k → i ≤ n → I i s → ∃ e, loopO step s = some e ∧ Q e
 | 0, i, s, hk, hi, h => by
  obtain rfl : i = n := by omega
  obtain ⟨e, h1, h2⟩ := he s h
  exact ⟨e, loopO_out h1, h2⟩
 | k + 1, i, s, hk, hi, h => by
  obtain ⟨s', h1, h2⟩ := hs i s (by omega) h
  obtain ⟨e, h3, h4⟩ := loop_inv n I Q hs he k (i + 1) s' (by omega) (by omega) h2
  exact ⟨e, (loopO_next h1).trans h3, h4⟩
theorem lkp_putB (k j : Bytes) (b : Int) : ∀ m : List (Bytes × Int), lkp (put m k b) j = if k = j then some b else lkp m j
 | [] => by
  by_cases h : k = j
  ·subst h; simp [put, lkp]
  ·simp [put, lkp, h, Ne.symm h]
 | (q, x) :: m => by
  have ih := lkp_putB k j b m
  unfold put
  by_cases h : k = q
  ·subst h
   rw [if_pos rfl]
   by_cases h2 : k = j
   ·subst h2; simp [lkp]
   ·simp [lkp, h2, Ne.symm h2]
  ·rw [if_neg h]
   unfold lkp
   by_cases h2 : j = q
   ·subst h2; rw [if_pos rfl, if_pos rfl, if_neg h]
   ·rw [if_neg h2, if_neg h2, ih]
structure OkL (l : List (Nat × Int × Int)) : Prop where
 all : ∀ q ∈ l, OkH q
 up : l.Pairwise (fun a b => a.1 < b.1)
 few : l.length ≤ 60
theorem OkL.lt {l : List (Nat × Int × Int)} (h : OkL l) {i j : Nat} {x y : Nat × Int × Int} (hx : l[i]? = some x) (hy : l[j]? = some y) (hij : i < j) : x.1 < y.1 := by
 obtain ⟨h1, rfl⟩ := List.getElem?_eq_some_iff.1 hx
 obtain ⟨h2, rfl⟩ := List.getElem?_eq_some_iff.1 hy
 exact List.pairwise_iff_getElem.1 h.up i j h1 h2 hij
theorem e47 {vn : Int} (h0 : 1 ≤ vn) (h1 : vn ≤ 999) {l : List (Nat × Int × Int)} (h : OkL l) : ∃ a, m47 (l.map (hd vn)) = some (a, 0) := by
 have hlen : (l.map (hd vn)).length = l.length := List.length_map _
 have hat : ∀ {i : Nat} {x : Heading}, (l.map (hd vn))[i]? = some x → ∃ q, l[i]? = some q ∧ x = hd vn q := fun hx => by
  rw [List.getElem?_map, Option.map_eq_some_iff] at hx
  obtain ⟨q, hq, rfl⟩ := hx
  exact ⟨q, hq, rfl⟩
 have a1 : m71 (l.map (hd vn)) m72 = some true := by
  have : m71 (l.map (hd vn)) m72 = gAll (l.map (hd vn)) m72 := rfl
  rw [this, gAll_some (fun _ => true) (fun c hc => by obtain ⟨q, hq, rfl⟩ := List.mem_map.1 hc; exact e72 h0 h1 (h.all q hq))]; simp
 obtain ⟨e, a2, t, rfl⟩ := loop_inv (step := m47_1 (l.map (hd vn))) l.length (fun i s => s.1 = i ∧ ∀ b, (lkp s.2 b).isSome → ∃ j q, j < i ∧ l[j]? = some q ∧ Nm q.1 = b) (fun e => ∃ t, e = .inl t) (fun i s hi hs => by
  obtain ⟨rfl, hs⟩ := hs
  obtain ⟨i, m⟩ := s
  have hq : l[i]? = some l[i] := List.getElem?_eq_getElem hi
  have hx : (l.map (hd vn))[i]? = some (hd vn l[i]) := by rw [List.getElem?_map, hq]; rfl
  have hno : ¬ (lkp m (Nm l[i].1)).isSome := fun c => by
   obtain ⟨j, q, hj, hq', e⟩ := hs _ c
   have := h.lt hq' hq hj
   have := nm_inj (h.all q (List.mem_of_getElem? hq')).nm (h.all l[i] (List.mem_of_getElem? hq)).nm e
   omega
  refine ⟨(i + 1, put m (Nm l[i].1) (i : Int)), ?_, rfl, fun b hb => ?_⟩
  ·unfold m47_1
   simp only [hlen]
   rw [if_pos (by simpa using hi), hx, Option.bind_some]
   show (Option.bind (Option.bind (if (lkp m (Nm l[i].1)).isSome = true then _ else _) _) _) = _
   rw [if_neg hno, Option.bind_some]
   simp only []
   rw [loopO_out (by unfold m47_2 hd; simp; rfl)]
   rfl
  ·simp only [lkp_putB] at hb
   by_cases c : Nm l[i].1 = b
   ·exact ⟨i, _, by omega, hq, c⟩
   ·rw [if_neg c] at hb
    obtain ⟨j, q, hj, hq', e⟩ := hs b hb
    exact ⟨j, q, by omega, hq', e⟩) (fun s hs => by
  obtain ⟨i, m⟩ := s
  obtain ⟨rfl, _⟩ := hs
  exact ⟨.inl m, by unfold m47_1; simp, m, rfl⟩) l.length 0 (0, []) (by omega) (by omega) ⟨rfl, fun b hb => by simp [lkp] at hb⟩
 have a3 : m71 (l.map (hd vn)) (fun x => m74 x t (l.map (hd vn))) = some true := by
  have : m71 (l.map (hd vn)) (fun x => m74 x t (l.map (hd vn))) = gAll (l.map (hd vn)) (fun x => m74 x t (l.map (hd vn))) := rfl
  rw [this, gAll_some (fun _ => true) (fun c hc => by
   obtain ⟨q, hq, rfl⟩ := List.mem_map.1 hc
   unfold m74
   have : m75 (hd vn q).also (fun x0_ => m76 x0_ t (l.map (hd vn)) (hd vn q)) = gAll (hd vn q).also (fun x0_ => m76 x0_ t (l.map (hd vn)) (hd vn q)) := rfl
   rw [this, gAll_some (fun _ => true) (fun c hc => by cases hc)]; rfl)]; simp
 have a4 : m77 (l.map (hd vn)) m78 = some true := by
  have := loop_all (l.map (hd vn)) (fun _ => true) (.inr false : Unit ⊕ Bool) (.inl ()) (step := m77_1 (l.map (hd vn)) m78) (fun i x hi hx => by
   unfold m77_1
   rw [if_pos (by omega)]
   by_cases c : 0 < (i : Int)
   ·obtain ⟨q, hq, rfl⟩ := hat hx
    have hp : l[i - 1]? = some l[i - 1] := List.getElem?_eq_getElem (by omega)
    have hp' : (l.map (hd vn))[((i : Int) - 1).toNat]? = some (hd vn l[i - 1]) := by rw [show ((i : Int) - 1).toNat = i - 1 by omega, List.getElem?_map, hp]; rfl
    rw [if_pos c, hp', Option.bind_some, hx, Option.bind_some]
    unfold m78
    rw [show (hd vn l[i - 1]).name = Nm l[i - 1].1 from rfl, show (hd vn q).name = Nm q.1 from rfl, e79 (h.all q (List.mem_of_getElem? hq)).nm (h.lt hp hq (by omega))]
    rfl
   ·rw [if_neg c]; rfl) (by unfold m77_1; simp)
  unfold m77
  rw [this]; simp
 refine ⟨t, ?_⟩
 unfold m47
 rw [if_neg (by rw [hlen]; have := h.few; omega), a1, Option.bind_some, if_pos rfl, a2, Option.bind_some]
 simp only [a3, a4, Option.bind_some, if_true, Bool.not_true, Bool.false_eq_true, if_false]
theorem flat_filter {α β : Type} (p : α → Bool) (f : α → β) : ∀ l : List α, l.flatMap (fun q => if p q then [f q] else []) = (l.filter p).map f
 | [] => rfl
 | q :: l => by
  rw [List.flatMap_cons, flat_filter p f l]
  by_cases hc : p q = true
  ·rw [List.filter_cons_of_pos hc, if_pos hc]; rfl
  ·rw [List.filter_cons_of_neg hc, if_neg hc]; rfl
theorem e24 {vn c : Int} (h0 : 1 ≤ vn) (h1 : vn ≤ 999) (c0 : 1 ≤ c) (c1 : c ≤ 9999) {l : List (Nat × Int × Int)} (h : OkL l) : m24 (l.map (hd vn)) vn c = some ((l.filter (fun q => In c q.2.1 q.2.2)).map (fun q => Nm q.1), 0) := by
 obtain ⟨t, a1⟩ := e47 h0 h1 h
 have hlen : (l.map (hd vn)).length = l.length := List.length_map _
 have a2 := loop_fold l (fun (a : List Bytes) q => a ++ (if In c q.2.1 q.2.2 then [Nm q.1] else [])) (fun a => a) (fun i a => a.length ≤ i) (step := m24_1 (l.map (hd vn)) vn c) (fun i q a hi hq ha => by
  have := h.few
  have hx : (l.map (hd vn))[i]? = some (hd vn q) := by rw [List.getElem?_map, hq]; rfl
  unfold m24_1
  simp only [hlen]
  rw [if_pos (by omega), hx, Option.bind_some]
  have hp : (hd vn q).places = [⟨vn, q.2.1, q.2.2⟩] := rfl
  have hm : m49 ⟨vn, q.2.1, q.2.2⟩ ⟨vn, c⟩ = some (In c q.2.1 q.2.2) := by
   unfold m49
   simp only [if_true, e48]; rfl
  by_cases hc : In c q.2.1 q.2.2 = true
  ·rw [loopO_out (by
    unfold m24_2
    rw [hp]
    simp only [List.length_singleton, List.getElem?_cons_zero, Option.bind_some, hm, hc, if_true]
    rw [if_pos (by omega), chk_t (by omega)]; rfl), hc]
   rfl
  ·rw [Bool.not_eq_true] at hc
   rw [loopO_next (s' := 1) (by
    unfold m24_2
    rw [hp]
    simp only [List.length_singleton, List.getElem?_cons_zero, Option.bind_some, hm, hc]
    rw [if_pos (by omega)]; rfl), loopO_out (by unfold m24_2; rw [hp]; simp; rfl), hc]
   simp) (fun i q a hi hq ha => by by_cases c : In c q.2.1 q.2.2 = true <;> simp [c] <;> omega) (fun a ha => by unfold m24_1; simp) (a0 := []) (by simp)
 unfold m24
 rw [a1, Option.bind_some, if_neg (by simp), e48, Option.bind_some, In_iff.2 ⟨h0, h1⟩, if_pos rfl, e48, Option.bind_some, In_iff.2 ⟨c0, c1⟩, Option.bind_some, if_neg (by simp), a2, Option.bind_some]
 rw [foldl_append, flat_filter]; rfl
end T10
namespace T10
open Go Go.Proofs Pk Go.Lib
theorem find_uniq {α : Type} {R : α → α → Prop} {P : α → Bool} : ∀ {l : List α} {p : α}, l.Pairwise R → p ∈ l → P p = true → (∀ q ∈ l, P q = true → ¬ R q p ∧ ¬ R p q) → l.find? P = some p
 | x :: l, p, hp, hm, hP, hq => by
  obtain ⟨h1, h2⟩ := List.pairwise_cons.1 hp
  by_cases hx : P x = true
  ·rw [List.find?_cons_of_pos hx]
   rcases List.mem_cons.1 hm with rfl | hm
   ·rfl
   ·exact absurd (h1 p hm) (hq x List.mem_cons_self hx).1
  ·rw [List.find?_cons_of_neg hx]
   rcases List.mem_cons.1 hm with rfl | hm
   ·exact absurd hP hx
   ·exact find_uniq h2 hm hP (fun q hq' => hq q (List.mem_cons_of_mem _ hq'))
def toE (H : Int) (p : Place) : Int := p.column + (p.line + p.lines - 2) / H
def cit (v : Volume) (c k : Int) : cited := ⟨0, ⟨v.number, c, k⟩⟩
theorem mul_pos' {H a : Int} (hH : 0 < H) (h : a < 0) : a * H ≤ -H := by
 have := Int.mul_le_mul_of_nonneg_right (show a ≤ -1 by omega) (Int.le_of_lt hH)
 omega
theorem hit_iff {v : Volume} {es : List Erratum} (h : Ok v es) {p : printed} (hp : p ∈ printE v es) {c k : Int} : hits v (cit v c k) p = true ↔ (1 ≤ k ∧ k ≤ v.height) ∧ 0 ≤ (c - p.place.column) * v.height + k - p.place.line ∧ (c - p.place.column) * v.height + k - p.place.line ≤ p.place.lines - 1 := by
 simp only [hits, cit, if_true, Bool.and_eq_true, In_iff, decide_true, and_true]
theorem hit_col {v : Volume} {es : List Erratum} (h : Ok v es) {p : printed} (hp : p ∈ printE v es) {c k : Int} (hh : hits v (cit v c k) p = true) : In c p.place.column (toE v.height p.place) = true := by
 have hH := In_iff.1 h.vol.height
 have ok := printE_ok h p hp
 have o1 := ok.place.line1
 have o2 := ok.place.lineH
 obtain ⟨⟨k0, k1⟩, a0, a1⟩ := (hit_iff h hp).1 hh
 refine In_iff.2 ⟨?_, ?_⟩
 ·apply Int.not_lt.1
  intro hc
  have := mul_pos' (show 0 < v.height by omega) (show c - p.place.column < 0 by omega)
  omega
 ·unfold toE
  have : c - p.place.column ≤ (p.place.line + p.place.lines - 2) / v.height := by
   rw [Int.le_ediv_iff_mul_le (by omega)]; omega
  omega
theorem col_hit {v : Volume} {es : List Erratum} (h : Ok v es) {p : printed} (hp : p ∈ printE v es) {c : Int} (hc : In c p.place.column (toE v.height p.place) = true) : ∃ k : Nat, 1 ≤ k ∧ (k : Int) ≤ v.height ∧ hits v (cit v c k) p = true := by
 have hH := In_iff.1 h.vol.height
 have ok := printE_ok h p hp
 have o1 := ok.place.line1
 have o2 := ok.place.lineH
 have o3 := ok.place.lines
 obtain ⟨c0, c1⟩ := In_iff.1 hc
 by_cases e : c = p.place.column
 ·refine ⟨p.place.line.toNat, by omega, by omega, (hit_iff h hp).2 ⟨⟨by omega, by omega⟩, ?_⟩⟩
  rw [e, Int.sub_self, Int.zero_mul]; omega
 ·unfold toE at c1
  have h1 : c - p.place.column ≤ (p.place.line + p.place.lines - 2) / v.height := by omega
  rw [Int.le_ediv_iff_mul_le (by omega)] at h1
  have h2 := Int.mul_le_mul_of_nonneg_right (show 1 ≤ c - p.place.column by omega) (show 0 ≤ v.height by omega)
  exact ⟨1, by omega, by omega, (hit_iff h hp).2 ⟨⟨by omega, by omega⟩, by omega, by omega⟩⟩
theorem hit_find {v : Volume} {es : List Erratum} (h : Ok v es) {p : printed} (hp : p ∈ printE v es) {c k : Int} (hh : hits v (cit v c k) p = true) : (printE v es).find? (hits v (cit v c k)) = some p := by
 refine find_uniq (printE_beh h) hp hh fun q hq hg => ?_
 obtain ⟨_, a0, a1⟩ := (hit_iff h hp).1 hh
 obtain ⟨_, b0, b1⟩ := (hit_iff h hq).1 hg
 have e1 : (c - q.place.column) * v.height - (c - p.place.column) * v.height = (p.place.column - 1) * v.height - (q.place.column - 1) * v.height := by
  rw [← Int.sub_mul, ← Int.sub_mul]; congr 1; omega
 constructor
 ·rintro ⟨b, _⟩; unfold pos at b; omega
 ·rintro ⟨b, _⟩; unfold pos at b; omega
def rowA (H : Int) (P : List printed) (n : Nat) : List (Nat × Int × Int) := (P.filter (fun p => decide (p.place.anchor = (n : Int)))).map (fun p => (n, p.place.column, toE H p.place))
def rows (H : Int) (P : List printed) (k : Nat) : List (Nat × Int × Int) := (List.range' 1 k).flatMap (rowA H P)
theorem rows_succ (H : Int) (P : List printed) (k : Nat) : rows H P (k + 1) = rows H P k ++ rowA H P (k + 1) := by
 unfold rows
 rw [List.range'_concat, List.flatMap_append]
 simp [Nat.add_comm]
theorem rows_mem {v : Volume} {es : List Erratum} (h : Ok v es) {q : Nat × Int × Int} : q ∈ rows v.height (printE v es) 999 ↔ ∃ p ∈ printE v es, q = (p.place.anchor.toNat, p.place.column, toE v.height p.place) := by
 unfold rows rowA
 simp only [List.mem_flatMap, List.mem_range', List.mem_map, List.mem_filter, decide_eq_true_eq]
 constructor
 ·rintro ⟨n, _, p, ⟨hp, e⟩, rfl⟩
  exact ⟨p, hp, by rw [e]; rfl⟩
 ·rintro ⟨p, hp, rfl⟩
  have ha := (printE_ok h p hp).anchor
  exact ⟨p.place.anchor.toNat, ⟨p.place.anchor.toNat - 1, by omega, by omega⟩, p, ⟨hp, by omega⟩, rfl⟩
theorem rowA_fst {H : Int} {P : List printed} {n : Nat} {q : Nat × Int × Int} (h : q ∈ rowA H P n) : q.1 = n := by
 unfold rowA at h
 obtain ⟨p, _, rfl⟩ := List.mem_map.1 h; rfl
theorem filter_one {α : Type} {f : α → Int} {n : Int} : ∀ {l : List α}, (l.map f).Nodup → (l.filter (fun x => decide (f x = n))).length ≤ 1
 | [], _ => by simp
 | x :: l, h => by
  rw [List.map_cons, List.nodup_cons] at h
  by_cases e : f x = n
  ·rw [List.filter_cons_of_pos (by simpa using e), List.filter_eq_nil_iff.2 (fun y hy => by
    simp only [decide_eq_true_eq]
    exact fun e' => h.1 (List.mem_map.2 ⟨y, hy, e'.trans e.symm⟩))]
   simp
  ·rw [List.filter_cons_of_neg (by simpa using e)]; exact filter_one h.2
theorem rows_up {v : Volume} {es : List Erratum} (h : Ok v es) : (rows v.height (printE v es) 999).Pairwise (fun a b => a.1 < b.1) := by
 unfold rows
 rw [List.pairwise_flatMap]
 refine ⟨fun n _ => ?_, ?_⟩
 ·have := filter_one (n := (n : Int)) (printE_once h)
  have hl : (rowA v.height (printE v es) n).length ≤ 1 := by unfold rowA; rw [List.length_map]; exact this
  match rowA v.height (printE v es) n, hl with
  | [], _ => exact List.Pairwise.nil
  | [x], _ => exact List.pairwise_singleton _ _
  | x :: y :: l, hl => simp at hl
 ·refine (List.pairwise_lt_range' (s := 1) (n := 999)).imp fun hab x hx y hy => ?_
  rw [rowA_fst hx, rowA_fst hy]; exact hab
theorem print_few {v : Volume} {es : List Erratum} (h : Ok v es) : (printE v es).length ≤ 50 := by
 have hi := inv_after h v.bound
 have h1 : ((printE v es).map (·.place.anchor)).length = ((readE (after v es v.bound)).map (·.anchor)).length := by
  unfold printE; rw [prints_ank hi.rows]
 simp only [List.length_map] at h1
 have h2 : (readE (after v es v.bound)).length ≤ (after v es v.bound).flatten.length := by
  unfold readE; rw [List.length_map]; exact List.length_filter_le _ _
 have h3 := (hi.small h upto_len).1
 omega
theorem rows_len {v : Volume} {es : List Erratum} (h : Ok v es) : (rows v.height (printE v es) 999).length = (printE v es).length := by
 have h1 : ((rows v.height (printE v es) 999).map (·.1)).Perm ((printE v es).map (fun p => p.place.anchor.toNat)) := by
  rw [List.perm_ext_iff_of_nodup]
  ·intro n
   simp only [List.mem_map]
   constructor
   ·rintro ⟨q, hq, rfl⟩
    obtain ⟨p, hp, rfl⟩ := (rows_mem h).1 hq
    exact ⟨p, hp, rfl⟩
   ·rintro ⟨p, hp, rfl⟩
    exact ⟨_, (rows_mem h).2 ⟨p, hp, rfl⟩, rfl⟩
  ·rw [List.nodup_iff_pairwise_ne, List.pairwise_map]
   exact (rows_up h).imp fun hab => Nat.ne_of_lt hab
  ·have := printE_once h
   rw [List.nodup_iff_pairwise_ne, List.pairwise_map] at this ⊢
   rw [List.pairwise_iff_getElem] at this ⊢
   intro i j hi hj hij e
   have ha := (printE_ok h _ (List.getElem_mem hi)).anchor
   have hb := (printE_ok h _ (List.getElem_mem hj)).anchor
   exact this i j hi hj hij (by omega)
 simpa using h1.length_eq
theorem rows_ok {v : Volume} {es : List Erratum} (h : Ok v es) : OkL (rows v.height (printE v es) 999) := by
 have hH := In_iff.1 h.vol.height
 refine ⟨fun q hq => ?_, rows_up h, by rw [rows_len h]; have := print_few h; omega⟩
 obtain ⟨p, hp, rfl⟩ := (rows_mem h).1 hq
 have ok := printE_ok h p hp
 have o1 := ok.place.line1
 have o2 := ok.place.lineH
 have o3 := ok.place.lines
 have o4 := ok.place.few
 have o5 := ok.place.col
 have o6 := ok.col
 have o7 := ok.anchor
 have d1 : 0 ≤ (p.place.line + p.place.lines - 2) / v.height := Int.ediv_nonneg (by omega) (by omega)
 have d2 : (p.place.line + p.place.lines - 2) / v.height ≤ p.place.line + p.place.lines - 2 := Int.ediv_le_self _ (by omega)
 exact ⟨by dsimp only; omega, o5, by dsimp only [toE]; omega, by dsimp only [toE]; omega⟩
end T10
namespace T10
open Go Go.Proofs Pk Go.Lib
theorem l41 : ∃ e, loopO m4_1 (1, List.replicate 1000 ([] : Bytes)) = some e ∧ ∀ n : Nat, 1 ≤ n → n < 1000 → e[n]? = some (Nm n) := by
 refine loop_inv (step := m4_1) 999 (fun i s => s.1 = i + 1 ∧ s.2.length = 1000 ∧ ∀ n : Nat, 1 ≤ n → n < i + 1 → s.2[n]? = some (Nm n)) _ (fun i s hi hs => ?_) (fun s hs => ?_) 999 0 _ rfl (by omega) ⟨rfl, List.length_replicate, fun n h1 h2 => by omega⟩
 ·obtain ⟨k, l⟩ := s
  obtain ⟨rfl, hl, hs⟩ := hs
  dsimp only at hl hs
  refine ⟨(i + 2, l.set (i + 1) (Nm (i + 1))), ?_, rfl, by simp [hl], fun n h1 h2 => ?_⟩
  ·have h1 := e23 (u := 1000 + (i + 1)) (by omega)
   have h2 := nm_dig (n := i + 1) (by omega)
   unfold m4_1
   dsimp only
   rw [if_pos (by omega), show (1000 : Int) + ((i + 1 : Nat) : Int) = ((1000 + (i + 1) : Nat) : Int) by omega, h1, Option.bind_some, chk_t h2.2, List.getElem?_eq_getElem (show i + 1 < l.length by omega), Option.bind_some, h2.1]
  ·dsimp only
   by_cases e : n = i + 1
   ·subst e; rw [List.getElem?_set_self (by omega)]
   ·rw [List.getElem?_set_ne (by omega)]; exact hs n h1 (by omega)
 ·obtain ⟨k, l⟩ := s
  obtain ⟨rfl, hl, hs⟩ := hs
  exact ⟨l, by unfold m4_1; simp, hs⟩
theorem l43 {v : Volume} {es : List Erratum} (h : Ok v es) {e : List Bytes} (he : ∀ n : Nat, 1 ≤ n → n < 1000 → e[n]? = some (Nm n)) (col c : Int) {n : Nat} (h1 : 1 ≤ n) (h2 : n < 1000) (b : List Heading) (hb : b.length ≤ 100000) :
  loopO (m4_3 ((printE v es).map (·.place), c) (n, b) e v col) (0, b) = some (b ++ (rowA v.height (printE v es) n).map (hd v.number)) := by
 have hH := In_iff.1 h.vol.height
 have hf := print_few h
 have hlen : ((printE v es).map (·.place)).length = (printE v es).length := List.length_map _
 have := loop_fold (printE v es) (fun (a : List Heading) p => a ++ (if decide (p.place.anchor = (n : Int)) = true then [hd v.number (n, p.place.column, toE v.height p.place)] else [])) (fun a => a) (fun i a => a.length ≤ b.length + i) (step := m4_3 ((printE v es).map (·.place), c) (n, b) e v col) (fun i p a hi hp ha => by
  have ok := printE_ok h p (List.mem_of_getElem? hp)
  have o1 := ok.place.line1
  have o2 := ok.place.lineH
  have o3 := ok.place.lines
  have o4 := ok.place.few
  have o5 := ok.place.col
  have o6 := ok.col
  have d1 : 0 ≤ (p.place.line + p.place.lines - 2) / v.height := Int.ediv_nonneg (by omega) (by omega)
  have d2 : (p.place.line + p.place.lines - 2) / v.height ≤ p.place.line + p.place.lines - 2 := Int.ediv_le_self _ (by omega)
  have hx : ((printE v es).map (·.place))[i]? = some p.place := by rw [List.getElem?_map, hp]; rfl
  unfold m4_3
  simp only [hlen]
  rw [if_pos (by omega), hx, Option.bind_some]
  by_cases c : p.place.anchor = (n : Int)
  ·rw [if_pos c, he n h1 h2, Option.bind_some, chk_t (by omega), chk_t (by omega), chk_t (by omega), chk_t (by omega), chk_t (by simp only [List.length_singleton]; omega), Option.bind_some, if_pos (by simpa using c)]
   rfl
  ·rw [if_neg c, Option.bind_some, if_neg (by simpa using c), List.append_nil]) (fun i p a hi hp ha => by by_cases c : p.place.anchor = (n : Int) <;> simp [c] <;> omega) (fun a ha => by unfold m4_3; simp [hlen]) (a0 := b) (by omega)
 rw [this, foldl_append, flat_filter]
 unfold rowA
 rw [List.map_map]; rfl
theorem rows_small {v : Volume} {es : List Erratum} (h : Ok v es) : ∀ k, (rows v.height (printE v es) k).length ≤ 50 * k
 | 0 => by simp [rows]
 | k + 1 => by
  have h1 := rows_small h k
  have h2 : (rowA v.height (printE v es) (k + 1)).length ≤ 50 := by
   unfold rowA; rw [List.length_map]
   exact Nat.le_trans (List.length_filter_le _ _) (print_few h)
  rw [rows_succ, List.length_append]; omega
theorem l42 {v : Volume} {es : List Erratum} (h : Ok v es) {e : List Bytes} (he : ∀ n : Nat, 1 ≤ n → n < 1000 → e[n]? = some (Nm n)) (col c : Int) :
  loopO (m4_2 ((printE v es).map (·.place), c) e v col) (1, []) = some ((rows v.height (printE v es) 999).map (hd v.number)) := by
 obtain ⟨x, h1, h2⟩ := loop_inv (step := m4_2 ((printE v es).map (·.place), c) e v col) 999 (fun i s => s = (i + 1, (rows v.height (printE v es) i).map (hd v.number))) (fun e => e = (rows v.height (printE v es) 999).map (hd v.number)) (fun i s hi hs => by
  subst hs
  refine ⟨_, ?_, rfl⟩
  have := rows_small h i
  unfold m4_2
  dsimp only
  rw [if_pos (by omega), l43 h he col c (by omega) (by omega) _ (by rw [List.length_map]; omega), Option.bind_some, rows_succ, List.map_append]) (fun s hs => by
  subst hs
  exact ⟨_, by unfold m4_2; dsimp only; rw [if_neg (by omega)], rfl⟩) 999 0 (1, []) rfl (by omega) rfl
 rw [h1, h2]
theorem e25 {l : List Bytes} {s : Bytes} (h : s ∈ l) : m25 l s = some true := by
 have := loop_all l (fun x => decide (x ≠ s)) (.inr true : Unit ⊕ Bool) (.inl ()) (step := m25_1 l s) (fun i x hi hx => by
  unfold m25_1
  rw [if_pos (by omega), hx, Option.bind_some]
  by_cases c : x = s <;> simp [c]) (by unfold m25_1; simp)
 unfold m25
 rw [this, if_neg (fun hh => by
  have := List.all_eq_true.1 hh s h
  simp at this)]; rfl
theorem e19C {v : Volume} {es : List Erratum} (h : Ok v es) {c k : Int} (hc : 0 ≤ c ∧ c ≤ 999999) (hk : 0 ≤ k ∧ k ≤ 999999) : m19 v es (citeC v.number c k) = some (match (printE v es).find? (hits v (cit v c k)) with | some p => (p.place.anchor, v.bound, 0) | none => (0, 0, 7)) := by
 have hv := In_iff.1 h.vol.number
 exact e19P h (c := cit v c k) (e43 (e68C (by omega) hc hk)) (by simp [cit]) hc hk
theorem nodup_le {F : List Nat} {n : Nat} (hn : F.Nodup) (hb : ∀ a ∈ F, a < n) : F.length ≤ n := by
 have : F.Perm ((List.range n).filter (fun a => decide (a ∈ F))) := by
  rw [List.perm_ext_iff_of_nodup hn (List.nodup_range.filter _)]
  intro a
  simp only [List.mem_filter, List.mem_range, decide_eq_true_eq]
  exact ⟨fun h => ⟨hb a h, h⟩, fun h => h.2⟩
 rw [this.length_eq]
 exact Nat.le_trans (List.length_filter_le _ _) (by rw [List.length_range]; exact Nat.le_refl _)
theorem l44 {v : Volume} {es : List Erratum} (h : Ok v es) {e : List Bytes} (he : ∀ n : Nat, 1 ≤ n → n < 1000 → e[n]? = some (Nm n)) {col c : Int} (hcol : 1 + col % 60 = c) (c0 : 1 ≤ c) (c1 : c ≤ 60) (z : Int) :
  ∃ f, loopO (m4_4 v col v es e (((rows v.height (printE v es) 999).filter (fun q => In c q.2.1 q.2.2)).map (fun q => Nm q.1), z)) (0, 1, List.replicate 1000 false) = some (.inl (((rows v.height (printE v es) 999).filter (fun q => In c q.2.1 q.2.2)).length, f)) := by
 have hH := In_iff.1 h.vol.height
 have hv := In_iff.1 h.vol.number
 have key := loop_inv (step := m4_4 v col v es e (((rows v.height (printE v es) 999).filter (fun q => In c q.2.1 q.2.2)).map (fun q => Nm q.1), z)) v.height.toNat
  (fun i s => ∃ F : List Nat, s.1 = F.length ∧ s.2.1 = i + 1 ∧ s.2.2.length = 1000 ∧ F.Nodup ∧ (∀ a < 1000, s.2.2[a]? = some (decide (a ∈ F))) ∧ ∀ a, a ∈ F ↔ ∃ k : Nat, 1 ≤ k ∧ k ≤ i ∧ ∃ p, (printE v es).find? (hits v (cit v c k)) = some p ∧ p.place.anchor.toNat = a)
  (fun x => ∃ f, x = .inl (((rows v.height (printE v es) 999).filter (fun q => In c q.2.1 q.2.2)).length, f)) (fun i s hi hs => ?_) (fun s hs => ?_) v.height.toNat 0 (0, 1, List.replicate 1000 false) rfl (by omega) ⟨[], rfl, rfl, List.length_replicate, List.nodup_nil, fun a ha => by rw [List.getElem?_replicate, if_pos ha, decide_eq_false (by simp)], fun a => ⟨fun hh => absurd hh (List.not_mem_nil), fun ⟨k, h1, h2, _⟩ => by omega⟩⟩
 ·obtain ⟨x, h1, f, rfl⟩ := key
  exact ⟨f, h1⟩
 ·obtain ⟨m, n, fd⟩ := s
  obtain ⟨F, rfl, rfl, hl, hn, hf, hF⟩ := hs
  dsimp only at hl hf
  have hmany : F.length ≤ 1000 := by
   refine nodup_le hn fun a ha => ?_
   obtain ⟨k, _, _, p, hp, rfl⟩ := (hF a).1 ha
   have := (printE_ok h p (List.mem_of_find?_eq_some hp)).anchor
   omega
  have i1 := itoa_len (n := v.number) (by omega) (by omega)
  have i2 := itoa_len (n := c) (by omega) (by omega)
  have i3 := itoa_len (n := ((i + 1 : Nat) : Int)) (by omega) (by omega)
  have hcite : ((((([118, 111, 108, 46, 32] ++ itoa v.number) ++ [44, 32, 99, 111, 108, 46, 32]) ++ itoa c) ++ [44, 32, 108, 46, 32]) ++ itoa ((i + 1 : Nat) : Int)) = citeC v.number c ((i + 1 : Nat) : Int) := by
   unfold citeC; simp [sVol, sCol, sL]
  have hstart : m4_4 v col v es e (((rows v.height (printE v es) 999).filter (fun q => In c q.2.1 q.2.2)).map (fun q => Nm q.1), z) (F.length, i + 1, fd) = (match (printE v es).find? (hits v (cit v c ((i + 1 : Nat) : Int))) with
   | none => some (.inl (F.length, i + 2, fd))
   | some p => if p.place.anchor.toNat ∈ F then some (.inl (F.length, i + 2, fd)) else some (.inl (F.length + 1, i + 2, fd.set p.place.anchor.toNat true))) := by
   unfold m4_4
   dsimp only
   rw [if_pos (by omega), e23i (by omega) (by omega), Option.bind_some, chk_t (by simp only [List.length_append, List.length_cons, List.length_nil]; omega), chk_t (by simp only [List.length_append, List.length_cons, List.length_nil]; omega), hcol, e23i (by omega) (by omega), Option.bind_some, chk_t (by simp only [List.length_append, List.length_cons, List.length_nil]; omega), chk_t (by simp only [List.length_append, List.length_cons, List.length_nil]; omega), e23i (by omega) (by omega), Option.bind_some, chk_t (by simp only [List.length_append, List.length_cons, List.length_nil]; omega), hcite, e19C h (by omega) (by omega), Option.bind_some]
   cases hp : (printE v es).find? (hits v (cit v c ((i + 1 : Nat) : Int))) with
   | none =>
    dsimp only
    rw [if_pos (by decide), if_neg (by decide), Option.bind_some]
    dsimp only
    rw [chk_t (by omega)]
   | some p =>
    have hm := List.mem_of_find?_eq_some hp
    have ok := (printE_ok h p hm).anchor
    have hin := hit_col h hm (List.find?_some hp)
    dsimp only
    rw [if_neg (by simp), if_neg (by simp), if_neg (by omega), Option.bind_some, if_neg (by simp; omega), chk_t (by omega), hf _ (by omega), Option.bind_some]
    have h25 : m25 (((rows v.height (printE v es) 999).filter (fun q => In c q.2.1 q.2.2)).map (fun q => Nm q.1)) (Nm p.place.anchor.toNat) = some true :=
     e25 (List.mem_map.2 ⟨_, List.mem_filter.2 ⟨(rows_mem h).2 ⟨p, hm, rfl⟩, hin⟩, rfl⟩)
    by_cases c : p.place.anchor.toNat ∈ F
    ·rw [decide_eq_true c, if_pos rfl, Option.bind_some, he _ (by omega) (by omega), Option.bind_some, h25, Option.bind_some, if_pos rfl, Option.bind_some, if_pos c]
     dsimp only
     rw [chk_t (by omega)]
    ·rw [decide_eq_false c, if_neg (by simp), chk_t (by omega), Option.bind_some, he _ (by omega) (by omega), Option.bind_some, h25, Option.bind_some, if_pos rfl, Option.bind_some, if_neg c]
     dsimp only
     rw [chk_t (by omega)]
  rw [hstart]
  cases hp : (printE v es).find? (hits v (cit v c ((i + 1 : Nat) : Int))) with
  | none =>
   refine ⟨_, rfl, F, rfl, rfl, hl, hn, hf, fun a => (hF a).trans ⟨?_, ?_⟩⟩
   ·rintro ⟨k, k1, k2, p, g⟩; exact ⟨k, k1, by omega, p, g⟩
   ·rintro ⟨k, k1, k2, p, g, ge⟩
    by_cases e : k = i + 1
    ·subst e; rw [hp] at g; cases g
    ·exact ⟨k, k1, by omega, p, g, ge⟩
  | some p =>
   have ok := (printE_ok h p (List.mem_of_find?_eq_some hp)).anchor
   dsimp only
   by_cases cF : p.place.anchor.toNat ∈ F
   ·rw [if_pos cF]
    refine ⟨_, rfl, F, rfl, rfl, hl, hn, hf, fun a => (hF a).trans ⟨?_, ?_⟩⟩
    ·rintro ⟨k, k1, k2, p, g⟩; exact ⟨k, k1, by omega, p, g⟩
    ·rintro ⟨k, k1, k2, q, g, ge⟩
     by_cases e : k = i + 1
     ·subst e; rw [hp] at g; cases g; subst ge; exact (hF _).1 cF
     ·exact ⟨k, k1, by omega, q, g, ge⟩
   ·rw [if_neg cF]
    refine ⟨_, rfl, F ++ [p.place.anchor.toNat], by simp, rfl, by simp [hl], ?_, fun a ha => ?_, fun a => ?_⟩
    ·rw [List.nodup_append]
     exact ⟨hn, by simp, fun a ha b hb => by rcases List.mem_singleton.1 hb with rfl; exact fun e => cF (e ▸ ha)⟩
    ·dsimp only
     by_cases e : p.place.anchor.toNat = a
     ·subst e; rw [List.getElem?_set_self (by omega)]; simp
     ·rw [List.getElem?_set_ne e, hf a ha]; simp [Ne.symm e]
    ·rw [List.mem_append, List.mem_singleton, hF a]
     constructor
     ·rintro (⟨k, k1, k2, q, g⟩ | rfl)
      ·exact ⟨k, k1, by omega, q, g⟩
      ·exact ⟨i + 1, by omega, by omega, p, hp, rfl⟩
     ·rintro ⟨k, k1, k2, q, g, ge⟩
      by_cases e : k = i + 1
      ·subst e; rw [hp] at g; cases g; exact .inr ge.symm
      ·exact .inl ⟨k, k1, by omega, q, g, ge⟩
 ·obtain ⟨m, n, fd⟩ := s
  obtain ⟨F, rfl, rfl, hl, hn, hf, hF⟩ := hs
  have hlen : F.length = ((rows v.height (printE v es) 999).filter (fun q => In c q.2.1 q.2.2)).length := by
   have : F.Perm (((rows v.height (printE v es) 999).filter (fun q => In c q.2.1 q.2.2)).map (·.1)) := by
    rw [List.perm_ext_iff_of_nodup hn (by
     rw [List.nodup_iff_pairwise_ne, List.pairwise_map]
     exact ((rows_up h).filter _).imp fun hab => Nat.ne_of_lt hab)]
    intro a
    rw [hF a, List.mem_map]
    constructor
    ·rintro ⟨k, k1, k2, p, hp, rfl⟩
     have hm := List.mem_of_find?_eq_some hp
     exact ⟨_, List.mem_filter.2 ⟨(rows_mem h).2 ⟨p, hm, rfl⟩, hit_col h hm (List.find?_some hp)⟩, rfl⟩
    ·rintro ⟨q, hq, rfl⟩
     obtain ⟨hq, hi⟩ := List.mem_filter.1 hq
     obtain ⟨p, hp, rfl⟩ := (rows_mem h).1 hq
     obtain ⟨k, k1, k2, hh⟩ := col_hit h hp hi
     exact ⟨k, k1, by omega, p, hit_find h hp hh, rfl⟩
   simpa using this.length_eq
  exact ⟨.inl (F.length, fd), by unfold m4_4; dsimp only; rw [if_neg (by omega)], fd, by rw [hlen]⟩
theorem law4 (hfin : m21 = some true) (v : Volume) (es : List Erratum) (col : Int) (hc : 0 ≤ col ∧ col ≤ 255) : m4 v es col = some true := by
 obtain ⟨b, a1, a2⟩ := e5 v es
 unfold m4
 rw [a1, Option.bind_some]
 cases b with
 | false =>
  rw [if_neg (by decide), Option.bind_some, if_pos rfl, hfin]; rfl
 | true =>
  have hf := a2 rfl
  obtain ⟨r, g1, g2⟩ := e6 hf.all (fun p hp => Nat.le_trans (hf.ptext hp) (by decide))
  obtain ⟨q, g3, g4⟩ := e7 (v := v) (es := es) hf.all (fun x hx => Nat.le_trans (hf.etext x hx) (by decide))
  rw [if_pos rfl, g1, Option.bind_some]
  by_cases e : r = 0
  ·rw [if_neg (by simpa using e), g3, Option.bind_some]
   by_cases e2 : q = 0
   ·have h : Ok v es := ⟨hf, g2 e, g4 e2⟩
    have hv := In_iff.1 h.vol.number
    have hx := rows_len h
    have hy := print_few h
    obtain ⟨nm, b1, b2⟩ := l41
    obtain ⟨f, b3⟩ := l44 h b2 (col := col) (c := 1 + col % 60) rfl (by omega) (by omega) 0
    rw [Option.bind_some, if_neg (by simpa using e2), e11 hf, Option.bind_some, e12 (by have := hf.errata; omega), Option.bind_some, e22 h, Option.bind_some]
    dsimp only
    rw [if_neg (by simp), chk_t (by omega), b1, Option.bind_some, l42 h b2, Option.bind_some]
    simp only [List.length_map]
    rw [if_neg (by omega), Option.bind_some, if_neg (by simp; omega), chk_t (by omega), chk_t (by omega), e24 (by omega) (by omega) (by omega) (by omega) (rows_ok h), Option.bind_some]
    dsimp only
    rw [if_neg (by simp), b3, Option.bind_some]
    dsimp only
    rw [if_pos (by rw [List.length_map]), hfin]; rfl
   ·rw [Option.bind_some, decide_eq_true e2, if_pos rfl, hfin]; rfl
  ·rw [if_pos e, Option.bind_some, if_pos rfl, hfin]; rfl
end T10
namespace T10.E
open Go Go.Proofs Pk
def m106 (s t : Bytes) : Option Bool := chkE (s.length ≤ 1073741824) (some (Lib.contains s t))
theorem lm106 (s t : Bytes) : LeO (T10.E.m106 s t) (T10.m106 s t) := LeO.chk (LeO.refl _)
def m155 (a b : Bytes) : Option Int := some (Lib.compareBytes a b)
theorem lm155 (s t : Bytes) : LeO (T10.E.m155 s t) (T10.m155 s t) := LeO.refl _
def m149 (s : Bytes) (r : Int) : Option Bool := chkE (0 ≤ r ∧ r < 128) (some (decide (0 ≤ Lib.indexByte s r.toNat.toUInt8)))
theorem lm149 (s : Bytes) (r : Int) : LeO (T10.E.m149 s r) (T10.m149 s r) := LeO.chk (LeO.refl _)
def m151 (s t : Bytes) : Option Bytes := match t with
 | [c] => chkE (s.length ≤ 1073741824 ∧ c.toNat < 128) (some (Lib.trimB s c))
 | _ => none
theorem lm151 (s t : Bytes) : LeO (T10.E.m151 s t) (T10.m151 s t) := by
 intro r h
 unfold T10.E.m151 at h
 split at h
 ·exact LeO.chk (LeO.refl _) r h
 ·cases h
end T10.E
set_option maxHeartbeats 4000000
namespace T10.E
open Go Go.Proofs Pk
def m110 (x_0 : Heading) (f0_ : Heading → Option Bool) : Option (Bool) :=
 (f0_ x_0).bind fun r13 =>
 some (!r13)
theorem lm110 (x_0 : Heading) {f0_ f0_' : Heading → Option Bool} (hf0_ : ∀ y0, LeO (f0_ y0) (f0_' y0)) : LeO (T10.E.m110 x_0 f0_) (T10.m110 x_0 f0_') := by
 unfold T10.E.m110 T10.m110
 repeat' first
  | (with_reducible exact LeO.refl _)
  | (with_reducible exact hf0_ _)
  | (with_reducible refine LeO.loopE (fun _ => ?_) _)
  | (with_reducible refine LeO.sort (fun _ _ => ?_) _)
  | (with_reducible refine LeO.chk ?_)
  | (with_reducible refine LeO.chk2 ?_)
  | (with_reducible refine LeO.ite ?_ ?_)
  | (with_reducible refine LeO.bindS ?_ (fun _ => ?_) (fun _ => ?_) <;> try dsimp only)
  | (with_reducible refine LeO.bind ?_ fun _ => ?_)
  | (refine LeO.map ?_)
def m147_1 (s_0 : List Heading) (f_1 : Heading → Option Bool) (s33 : Nat) : Option ((Nat) ⊕ ((Unit) ⊕ Int)) :=
 if (s33 : Int) < (s_0.length : Int) then (
  (s_0[s33]?).bind fun x66 =>
  (f_1 x66).bind fun r84 =>
  if r84 then (
   some (.inr (.inr (s33 : Int))))
  else
  some (.inl (s33 + 1)))
 else
 some (.inr (.inl ()))
theorem lm147_1 (s_0 : List Heading) {f_1 f_1' : Heading → Option Bool} (hf_1 : ∀ y0, LeO (f_1 y0) (f_1' y0)) (s33 : Nat) : LeO (T10.E.m147_1 s_0 f_1 s33) (T10.m147_1 s_0 f_1' s33) := by
 unfold T10.E.m147_1 T10.m147_1
 repeat' first
  | (with_reducible exact LeO.refl _)
  | (with_reducible exact hf_1 _)
  | (with_reducible refine LeO.loopE (fun _ => ?_) _)
  | (with_reducible refine LeO.sort (fun _ _ => ?_) _)
  | (with_reducible refine LeO.chk ?_)
  | (with_reducible refine LeO.chk2 ?_)
  | (with_reducible refine LeO.ite ?_ ?_)
  | (with_reducible refine LeO.bindS ?_ (fun _ => ?_) (fun _ => ?_) <;> try dsimp only)
  | (with_reducible refine LeO.bind ?_ fun _ => ?_)
  | (refine LeO.map ?_)
def m147 (s_0 : List Heading) (f_1 : Heading → Option Bool) : Option (Int) :=
 (loopE (m147_1 s_0 f_1) 0).bind fun e29 => match e29 with
 | .inr z => some z
 | .inl t32 =>
 some (-1)
theorem lm147 (s_0 : List Heading) {f_1 f_1' : Heading → Option Bool} (hf_1 : ∀ y0, LeO (f_1 y0) (f_1' y0)) : LeO (T10.E.m147 s_0 f_1) (T10.m147 s_0 f_1') := by
 unfold T10.E.m147 T10.m147
 repeat' first
  | (with_reducible exact LeO.refl _)
  | (with_reducible refine lm147_1 _ (fun _ => ?_) _)
  | (with_reducible exact hf_1 _)
  | (with_reducible refine LeO.loopE (fun _ => ?_) _)
  | (with_reducible refine LeO.sort (fun _ _ => ?_) _)
  | (with_reducible refine LeO.chk ?_)
  | (with_reducible refine LeO.chk2 ?_)
  | (with_reducible refine LeO.ite ?_ ?_)
  | (with_reducible refine LeO.bindS ?_ (fun _ => ?_) (fun _ => ?_) <;> try dsimp only)
  | (with_reducible refine LeO.bind ?_ fun _ => ?_)
  | (refine LeO.map ?_)
def m109 (s_0 : List Heading) (f_1 : Heading → Option Bool) : Option (Bool) :=
 (m147 s_0 f_1).bind fun r1 =>
 some (decide (0 ≤ r1))
theorem lm109 (s_0 : List Heading) {f_1 f_1' : Heading → Option Bool} (hf_1 : ∀ y0, LeO (f_1 y0) (f_1' y0)) : LeO (T10.E.m109 s_0 f_1) (T10.m109 s_0 f_1') := by
 unfold T10.E.m109 T10.m109
 repeat' first
  | (with_reducible exact LeO.refl _)
  | (with_reducible refine lm147 _ (fun _ => ?_))
  | (with_reducible exact hf_1 _)
  | (with_reducible refine LeO.loopE (fun _ => ?_) _)
  | (with_reducible refine LeO.sort (fun _ _ => ?_) _)
  | (with_reducible refine LeO.chk ?_)
  | (with_reducible refine LeO.chk2 ?_)
  | (with_reducible refine LeO.ite ?_ ?_)
  | (with_reducible refine LeO.bindS ?_ (fun _ => ?_) (fun _ => ?_) <;> try dsimp only)
  | (with_reducible refine LeO.bind ?_ fun _ => ?_)
  | (refine LeO.map ?_)
def m71 (l_0 : List Heading) (right : Heading → Option Bool) : Option (Bool) :=
 (m109 l_0 (fun x0_ => m110 x0_ right)).bind fun r5 =>
 some (!r5)
theorem lm71 (l_0 : List Heading) {right right' : Heading → Option Bool} (hright : ∀ y0, LeO (right y0) (right' y0)) : LeO (T10.E.m71 l_0 right) (T10.m71 l_0 right') := by
 unfold T10.E.m71 T10.m71
 repeat' first
  | (with_reducible exact LeO.refl _)
  | (with_reducible refine lm109 _ (fun _ => ?_))
  | (with_reducible refine lm110 _ (fun _ => ?_))
  | (with_reducible exact hright _)
  | (with_reducible refine LeO.loopE (fun _ => ?_) _)
  | (with_reducible refine LeO.sort (fun _ _ => ?_) _)
  | (with_reducible refine LeO.chk ?_)
  | (with_reducible refine LeO.chk2 ?_)
  | (with_reducible refine LeO.ite ?_ ?_)
  | (with_reducible refine LeO.bindS ?_ (fun _ => ?_) (fun _ => ?_) <;> try dsimp only)
  | (with_reducible refine LeO.bind ?_ fun _ => ?_)
  | (refine LeO.map ?_)
def m120 (x_0 : Bytes) (f0_ : Bytes → Option Bool) : Option (Bool) :=
 (f0_ x_0).bind fun r1 =>
 some (!r1)
theorem lm120 (x_0 : Bytes) {f0_ f0_' : Bytes → Option Bool} (hf0_ : ∀ y0, LeO (f0_ y0) (f0_' y0)) : LeO (T10.E.m120 x_0 f0_) (T10.m120 x_0 f0_') := by
 unfold T10.E.m120 T10.m120
 repeat' first
  | (with_reducible exact LeO.refl _)
  | (with_reducible exact hf0_ _)
  | (with_reducible refine LeO.loopE (fun _ => ?_) _)
  | (with_reducible refine LeO.sort (fun _ _ => ?_) _)
  | (with_reducible refine LeO.chk ?_)
  | (with_reducible refine LeO.chk2 ?_)
  | (with_reducible refine LeO.ite ?_ ?_)
  | (with_reducible refine LeO.bindS ?_ (fun _ => ?_) (fun _ => ?_) <;> try dsimp only)
  | (with_reducible refine LeO.bind ?_ fun _ => ?_)
  | (refine LeO.map ?_)
def m154_1 (s_0 : List Bytes) (f_1 : Bytes → Option Bool) (s23 : Nat) : Option ((Nat) ⊕ ((Unit) ⊕ Int)) :=
 if (s23 : Int) < (s_0.length : Int) then (
  (s_0[s23]?).bind fun x46 =>
  (f_1 x46).bind fun r54 =>
  if r54 then (
   some (.inr (.inr (s23 : Int))))
  else
  some (.inl (s23 + 1)))
 else
 some (.inr (.inl ()))
theorem lm154_1 (s_0 : List Bytes) {f_1 f_1' : Bytes → Option Bool} (hf_1 : ∀ y0, LeO (f_1 y0) (f_1' y0)) (s23 : Nat) : LeO (T10.E.m154_1 s_0 f_1 s23) (T10.m154_1 s_0 f_1' s23) := by
 unfold T10.E.m154_1 T10.m154_1
 repeat' first
  | (with_reducible exact LeO.refl _)
  | (with_reducible exact hf_1 _)
  | (with_reducible refine LeO.loopE (fun _ => ?_) _)
  | (with_reducible refine LeO.sort (fun _ _ => ?_) _)
  | (with_reducible refine LeO.chk ?_)
  | (with_reducible refine LeO.chk2 ?_)
  | (with_reducible refine LeO.ite ?_ ?_)
  | (with_reducible refine LeO.bindS ?_ (fun _ => ?_) (fun _ => ?_) <;> try dsimp only)
  | (with_reducible refine LeO.bind ?_ fun _ => ?_)
  | (refine LeO.map ?_)
def m154 (s_0 : List Bytes) (f_1 : Bytes → Option Bool) : Option (Int) :=
 (loopE (m154_1 s_0 f_1) 0).bind fun e19 => match e19 with
 | .inr z => some z
 | .inl t22 =>
 some (-1)
theorem lm154 (s_0 : List Bytes) {f_1 f_1' : Bytes → Option Bool} (hf_1 : ∀ y0, LeO (f_1 y0) (f_1' y0)) : LeO (T10.E.m154 s_0 f_1) (T10.m154 s_0 f_1') := by
 unfold T10.E.m154 T10.m154
 repeat' first
  | (with_reducible exact LeO.refl _)
  | (with_reducible refine lm154_1 _ (fun _ => ?_) _)
  | (with_reducible exact hf_1 _)
  | (with_reducible refine LeO.loopE (fun _ => ?_) _)
  | (with_reducible refine LeO.sort (fun _ _ => ?_) _)
  | (with_reducible refine LeO.chk ?_)
  | (with_reducible refine LeO.chk2 ?_)
  | (with_reducible refine LeO.ite ?_ ?_)
  | (with_reducible refine LeO.bindS ?_ (fun _ => ?_) (fun _ => ?_) <;> try dsimp only)
  | (with_reducible refine LeO.bind ?_ fun _ => ?_)
  | (refine LeO.map ?_)
def m119 (s_0 : List Bytes) (f_1 : Bytes → Option Bool) : Option (Bool) :=
 (m154 s_0 f_1).bind fun r1 =>
 some (decide (0 ≤ r1))
theorem lm119 (s_0 : List Bytes) {f_1 f_1' : Bytes → Option Bool} (hf_1 : ∀ y0, LeO (f_1 y0) (f_1' y0)) : LeO (T10.E.m119 s_0 f_1) (T10.m119 s_0 f_1') := by
 unfold T10.E.m119 T10.m119
 repeat' first
  | (with_reducible exact LeO.refl _)
  | (with_reducible refine lm154 _ (fun _ => ?_))
  | (with_reducible exact hf_1 _)
  | (with_reducible refine LeO.loopE (fun _ => ?_) _)
  | (with_reducible refine LeO.sort (fun _ _ => ?_) _)
  | (with_reducible refine LeO.chk ?_)
  | (with_reducible refine LeO.chk2 ?_)
  | (with_reducible refine LeO.ite ?_ ?_)
  | (with_reducible refine LeO.bindS ?_ (fun _ => ?_) (fun _ => ?_) <;> try dsimp only)
  | (with_reducible refine LeO.bind ?_ fun _ => ?_)
  | (refine LeO.map ?_)
def m75 (l_0 : List Bytes) (right : Bytes → Option Bool) : Option (Bool) :=
 (m119 l_0 (fun x0_ => m120 x0_ right)).bind fun r5 =>
 some (!r5)
theorem lm75 (l_0 : List Bytes) {right right' : Bytes → Option Bool} (hright : ∀ y0, LeO (right y0) (right' y0)) : LeO (T10.E.m75 l_0 right) (T10.m75 l_0 right') := by
 unfold T10.E.m75 T10.m75
 repeat' first
  | (with_reducible exact LeO.refl _)
  | (with_reducible refine lm119 _ (fun _ => ?_))
  | (with_reducible refine lm120 _ (fun _ => ?_))
  | (with_reducible exact hright _)
  | (with_reducible refine LeO.loopE (fun _ => ?_) _)
  | (with_reducible refine LeO.sort (fun _ _ => ?_) _)
  | (with_reducible refine LeO.chk ?_)
  | (with_reducible refine LeO.chk2 ?_)
  | (with_reducible refine LeO.ite ?_ ?_)
  | (with_reducible refine LeO.bindS ?_ (fun _ => ?_) (fun _ => ?_) <;> try dsimp only)
  | (with_reducible refine LeO.bind ?_ fun _ => ?_)
  | (refine LeO.map ?_)
def m148 (b_0 : Int) : Option (Bool) :=
 ((
  if (32 : Int) ≤ b_0 then (
   if b_0 ≤ 126 then (
    (m149 [44, 58, 59, 61] b_0).bind fun r17 =>
    some (!r17))
   else
   some false)
  else
  some false
 ) : Option (Bool)).bind fun t10 =>
 some t10
theorem lm148 (b_0 : Int) : LeO (T10.E.m148 b_0) (T10.m148 b_0) := by
 unfold T10.E.m148 T10.m148
 repeat' first
  | (with_reducible exact LeO.refl _)
  | (with_reducible exact lm149 _ _)
  | (with_reducible refine LeO.loopE (fun _ => ?_) _)
  | (with_reducible refine LeO.sort (fun _ _ => ?_) _)
  | (with_reducible refine LeO.chk ?_)
  | (with_reducible refine LeO.chk2 ?_)
  | (with_reducible refine LeO.ite ?_ ?_)
  | (with_reducible refine LeO.bindS ?_ (fun _ => ?_) (fun _ => ?_) <;> try dsimp only)
  | (with_reducible refine LeO.bind ?_ fun _ => ?_)
  | (refine LeO.map ?_)
def m48 (n_0 : Int) (low : Int) (high : Int) : Option (Bool) :=
 ((
  if low ≤ n_0 then (
   some (decide (n_0 ≤ high)))
  else
  some false
 ) : Option (Bool)).bind fun t4 =>
 some t4
theorem lm48 (n_0 : Int) (low : Int) (high : Int) : LeO (T10.E.m48 n_0 low high) (T10.m48 n_0 low high) := by
 unfold T10.E.m48 T10.m48
 repeat' first
  | (with_reducible exact LeO.refl _)
  | (with_reducible refine LeO.loopE (fun _ => ?_) _)
  | (with_reducible refine LeO.sort (fun _ _ => ?_) _)
  | (with_reducible refine LeO.chk ?_)
  | (with_reducible refine LeO.chk2 ?_)
  | (with_reducible refine LeO.ite ?_ ?_)
  | (with_reducible refine LeO.bindS ?_ (fun _ => ?_) (fun _ => ?_) <;> try dsimp only)
  | (with_reducible refine LeO.bind ?_ fun _ => ?_)
  | (refine LeO.map ?_)
def m189 (x_0 : Int) (f0_ : Int → Option Bool) : Option (Bool) :=
 (f0_ x_0).bind fun r1 =>
 some (!r1)
theorem lm189 (x_0 : Int) {f0_ f0_' : Int → Option Bool} (hf0_ : ∀ y0, LeO (f0_ y0) (f0_' y0)) : LeO (T10.E.m189 x_0 f0_) (T10.m189 x_0 f0_') := by
 unfold T10.E.m189 T10.m189
 repeat' first
  | (with_reducible exact LeO.refl _)
  | (with_reducible exact hf0_ _)
  | (with_reducible refine LeO.loopE (fun _ => ?_) _)
  | (with_reducible refine LeO.sort (fun _ _ => ?_) _)
  | (with_reducible refine LeO.chk ?_)
  | (with_reducible refine LeO.chk2 ?_)
  | (with_reducible refine LeO.ite ?_ ?_)
  | (with_reducible refine LeO.bindS ?_ (fun _ => ?_) (fun _ => ?_) <;> try dsimp only)
  | (with_reducible refine LeO.bind ?_ fun _ => ?_)
  | (refine LeO.map ?_)
def m200_1 (s_0 : List UInt8) (f_1 : Int → Option Bool) (s23 : Nat) : Option ((Nat) ⊕ ((Unit) ⊕ Int)) :=
 if (s23 : Int) < (s_0.length : Int) then (
  (s_0[s23]?).bind fun x46 =>
  (f_1 (x46.toNat : Int)).bind fun r54 =>
  if r54 then (
   some (.inr (.inr (s23 : Int))))
  else
  some (.inl (s23 + 1)))
 else
 some (.inr (.inl ()))
theorem lm200_1 (s_0 : List UInt8) {f_1 f_1' : Int → Option Bool} (hf_1 : ∀ y0, LeO (f_1 y0) (f_1' y0)) (s23 : Nat) : LeO (T10.E.m200_1 s_0 f_1 s23) (T10.m200_1 s_0 f_1' s23) := by
 unfold T10.E.m200_1 T10.m200_1
 repeat' first
  | (with_reducible exact LeO.refl _)
  | (with_reducible exact hf_1 _)
  | (with_reducible refine LeO.loopE (fun _ => ?_) _)
  | (with_reducible refine LeO.sort (fun _ _ => ?_) _)
  | (with_reducible refine LeO.chk ?_)
  | (with_reducible refine LeO.chk2 ?_)
  | (with_reducible refine LeO.ite ?_ ?_)
  | (with_reducible refine LeO.bindS ?_ (fun _ => ?_) (fun _ => ?_) <;> try dsimp only)
  | (with_reducible refine LeO.bind ?_ fun _ => ?_)
  | (refine LeO.map ?_)
def m200 (s_0 : List UInt8) (f_1 : Int → Option Bool) : Option (Int) :=
 (loopE (m200_1 s_0 f_1) 0).bind fun e19 => match e19 with
 | .inr z => some z
 | .inl t22 =>
 some (-1)
theorem lm200 (s_0 : List UInt8) {f_1 f_1' : Int → Option Bool} (hf_1 : ∀ y0, LeO (f_1 y0) (f_1' y0)) : LeO (T10.E.m200 s_0 f_1) (T10.m200 s_0 f_1') := by
 unfold T10.E.m200 T10.m200
 repeat' first
  | (with_reducible exact LeO.refl _)
  | (with_reducible refine lm200_1 _ (fun _ => ?_) _)
  | (with_reducible exact hf_1 _)
  | (with_reducible refine LeO.loopE (fun _ => ?_) _)
  | (with_reducible refine LeO.sort (fun _ _ => ?_) _)
  | (with_reducible refine LeO.chk ?_)
  | (with_reducible refine LeO.chk2 ?_)
  | (with_reducible refine LeO.ite ?_ ?_)
  | (with_reducible refine LeO.bindS ?_ (fun _ => ?_) (fun _ => ?_) <;> try dsimp only)
  | (with_reducible refine LeO.bind ?_ fun _ => ?_)
  | (refine LeO.map ?_)
def m159 (s_0 : List UInt8) (f_1 : Int → Option Bool) : Option (Bool) :=
 (m200 s_0 f_1).bind fun r1 =>
 some (decide (0 ≤ r1))
theorem lm159 (s_0 : List UInt8) {f_1 f_1' : Int → Option Bool} (hf_1 : ∀ y0, LeO (f_1 y0) (f_1' y0)) : LeO (T10.E.m159 s_0 f_1) (T10.m159 s_0 f_1') := by
 unfold T10.E.m159 T10.m159
 repeat' first
  | (with_reducible exact LeO.refl _)
  | (with_reducible refine lm200 _ (fun _ => ?_))
  | (with_reducible exact hf_1 _)
  | (with_reducible refine LeO.loopE (fun _ => ?_) _)
  | (with_reducible refine LeO.sort (fun _ _ => ?_) _)
  | (with_reducible refine LeO.chk ?_)
  | (with_reducible refine LeO.chk2 ?_)
  | (with_reducible refine LeO.ite ?_ ?_)
  | (with_reducible refine LeO.bindS ?_ (fun _ => ?_) (fun _ => ?_) <;> try dsimp only)
  | (with_reducible refine LeO.bind ?_ fun _ => ?_)
  | (refine LeO.map ?_)
def m150 (l_0 : List UInt8) (right : Int → Option Bool) : Option (Bool) :=
 (m159 l_0 (fun x0_ => m189 x0_ right)).bind fun r5 =>
 some (!r5)
theorem lm150 (l_0 : List UInt8) {right right' : Int → Option Bool} (hright : ∀ y0, LeO (right y0) (right' y0)) : LeO (T10.E.m150 l_0 right) (T10.m150 l_0 right') := by
 unfold T10.E.m150 T10.m150
 repeat' first
  | (with_reducible exact LeO.refl _)
  | (with_reducible refine lm159 _ (fun _ => ?_))
  | (with_reducible refine lm189 _ (fun _ => ?_))
  | (with_reducible exact hright _)
  | (with_reducible refine LeO.loopE (fun _ => ?_) _)
  | (with_reducible refine LeO.sort (fun _ _ => ?_) _)
  | (with_reducible refine LeO.chk ?_)
  | (with_reducible refine LeO.chk2 ?_)
  | (with_reducible refine LeO.ite ?_ ?_)
  | (with_reducible refine LeO.bindS ?_ (fun _ => ?_) (fun _ => ?_) <;> try dsimp only)
  | (with_reducible refine LeO.bind ?_ fun _ => ?_)
  | (refine LeO.map ?_)
def m112 (s_0 : Bytes) : Option (Bool) :=
 ((
  (m48 (s_0.length : Int) 1 40).bind fun r32 =>
  if r32 then (
   chkE (s_0.length ≤ 1073741824) <|
   (m150 s_0 (m148)).bind fun r44 =>
   if r44 then (
    (m151 s_0 [32]).bind fun r49 =>
    if r49 = s_0 then (
     (m106 s_0 [32, 32]).bind fun r54 =>
     some (!r54))
    else
    some false)
   else
   some false)
  else
  some false
 ) : Option (Bool)).bind fun t29 =>
 some t29
theorem lm112 (s_0 : Bytes) : LeO (T10.E.m112 s_0) (T10.m112 s_0) := by
 unfold T10.E.m112 T10.m112
 repeat' first
  | (with_reducible exact LeO.refl _)
  | (with_reducible exact lm48 _ _ _)
  | (with_reducible refine lm150 _ (fun _ => ?_))
  | (with_reducible exact lm148 _)
  | (with_reducible exact lm151 _ _)
  | (with_reducible exact lm106 _ _)
  | (with_reducible refine LeO.loopE (fun _ => ?_) _)
  | (with_reducible refine LeO.sort (fun _ _ => ?_) _)
  | (with_reducible refine LeO.chk ?_)
  | (with_reducible refine LeO.chk2 ?_)
  | (with_reducible refine LeO.ite ?_ ?_)
  | (with_reducible refine LeO.bindS ?_ (fun _ => ?_) (fun _ => ?_) <;> try dsimp only)
  | (with_reducible refine LeO.bind ?_ fun _ => ?_)
  | (refine LeO.map ?_)
def m113_1 (l_0 : List Bytes) (before : Bytes → Bytes → Option Bool) (s36 : Nat) : Option ((Nat) ⊕ ((Unit) ⊕ Bool)) :=
 if (s36 : Int) < (l_0.length : Int) then (
  ((
   if 0 < (s36 : Int) then (
    (l_0[((s36 : Int) - 1).toNat]?).bind fun x100 =>
    (l_0[s36]?).bind fun x108 =>
    (before x100 x108).bind fun r116 =>
    some (!r116))
   else
   some false
  ) : Option (Bool)).bind fun t95 =>
  if t95 then (
   some (.inr (.inr false)))
  else
  some (.inl (s36 + 1)))
 else
 some (.inr (.inl ()))
theorem lm113_1 (l_0 : List Bytes) {before before' : Bytes → Bytes → Option Bool} (hbefore : ∀ y0 y1, LeO (before y0 y1) (before' y0 y1)) (s36 : Nat) : LeO (T10.E.m113_1 l_0 before s36) (T10.m113_1 l_0 before' s36) := by
 unfold T10.E.m113_1 T10.m113_1
 repeat' first
  | (with_reducible exact LeO.refl _)
  | (with_reducible exact hbefore _ _)
  | (with_reducible refine LeO.loopE (fun _ => ?_) _)
  | (with_reducible refine LeO.sort (fun _ _ => ?_) _)
  | (with_reducible refine LeO.chk ?_)
  | (with_reducible refine LeO.chk2 ?_)
  | (with_reducible refine LeO.ite ?_ ?_)
  | (with_reducible refine LeO.bindS ?_ (fun _ => ?_) (fun _ => ?_) <;> try dsimp only)
  | (with_reducible refine LeO.bind ?_ fun _ => ?_)
  | (refine LeO.map ?_)
def m113 (l_0 : List Bytes) (before : Bytes → Bytes → Option Bool) : Option (Bool) :=
 (loopE (m113_1 l_0 before) 0).bind fun e32 => match e32 with
 | .inr z => some z
 | .inl t35 =>
 some true
theorem lm113 (l_0 : List Bytes) {before before' : Bytes → Bytes → Option Bool} (hbefore : ∀ y0 y1, LeO (before y0 y1) (before' y0 y1)) : LeO (T10.E.m113 l_0 before) (T10.m113 l_0 before') := by
 unfold T10.E.m113 T10.m113
 repeat' first
  | (with_reducible exact LeO.refl _)
  | (with_reducible refine lm113_1 _ (fun _ _ => ?_) _)
  | (with_reducible exact hbefore _ _)
  | (with_reducible refine LeO.loopE (fun _ => ?_) _)
  | (with_reducible refine LeO.sort (fun _ _ => ?_) _)
  | (with_reducible refine LeO.chk ?_)
  | (with_reducible refine LeO.chk2 ?_)
  | (with_reducible refine LeO.ite ?_ ?_)
  | (with_reducible refine LeO.bindS ?_ (fun _ => ?_) (fun _ => ?_) <;> try dsimp only)
  | (with_reducible refine LeO.bind ?_ fun _ => ?_)
  | (refine LeO.map ?_)
def m156_1 (s_0 : Bytes) (s229 : Nat × List UInt8) : Option ((Nat × List UInt8) ⊕ (List UInt8)) :=
 if (s229.1 : Int) < (s_0.length : Int) then (
  (s_0[s229.1]?).bind fun x291 =>
  ((
   if (65 : Int) ≤ (x291.toNat : Int) then (
    some (decide ((x291.toNat : Int) ≤ 90)))
   else
   some false
  ) : Option (Bool)).bind fun t345 =>
  ((
   if t345 then (
    chkE (0 ≤ ((x291.toNat : Int) - 65) ∧ ((x291.toNat : Int) - 65) ≤ 255) <|
    chkE (0 ≤ (((x291.toNat : Int) - 65) + 97) ∧ (((x291.toNat : Int) - 65) + 97) ≤ 255) <|
    chkE (s229.2.length + 1 ≤ 1073741824) <|
    some (s229.2 ++ [(UInt8.ofNat (((x291.toNat : Int) - 65) + 97).toNat)]))
   else
   ((
    if (97 : Int) ≤ (x291.toNat : Int) then (
     if (x291.toNat : Int) ≤ 122 then (
      some true)
     else
     if (48 : Int) ≤ (x291.toNat : Int) then (
      some (decide ((x291.toNat : Int) ≤ 57)))
     else
     some false)
    else
    if (48 : Int) ≤ (x291.toNat : Int) then (
     some (decide ((x291.toNat : Int) ≤ 57)))
    else
    some false
   ) : Option (Bool)).bind fun t416 =>
   ((
    if t416 then (
     chkE (s229.2.length + 1 ≤ 1073741824) <|
     some (s229.2 ++ [x291]))
    else
    some s229.2
   ) : Option (List UInt8)).bind fun t439 =>
   some t439
  ) : Option (List UInt8)).bind fun t387 =>
  some (.inl ((s229.1 + 1), t387)))
 else
 some (.inr s229.2)
theorem lm156_1 (s_0 : Bytes) (s229 : Nat × List UInt8) : LeO (T10.E.m156_1 s_0 s229) (T10.m156_1 s_0 s229) := by
 unfold T10.E.m156_1 T10.m156_1
 repeat' first
  | (with_reducible exact LeO.refl _)
  | (with_reducible refine LeO.loopE (fun _ => ?_) _)
  | (with_reducible refine LeO.sort (fun _ _ => ?_) _)
  | (with_reducible refine LeO.chk ?_)
  | (with_reducible refine LeO.chk2 ?_)
  | (with_reducible refine LeO.ite ?_ ?_)
  | (with_reducible refine LeO.bindS ?_ (fun _ => ?_) (fun _ => ?_) <;> try dsimp only)
  | (with_reducible refine LeO.bind ?_ fun _ => ?_)
  | (refine LeO.map ?_)
def m156 (s_0 : Bytes) : Option (Bytes) :=
 chkE (s_0.length ≤ 1073741824) <|
 (loopE (m156_1 s_0) (0, ([] : List UInt8))).bind fun e224 =>
 some e224
theorem lm156 (s_0 : Bytes) : LeO (T10.E.m156 s_0) (T10.m156 s_0) := by
 unfold T10.E.m156 T10.m156
 repeat' first
  | (with_reducible exact LeO.refl _)
  | (with_reducible exact lm156_1 _ _)
  | (with_reducible refine LeO.loopE (fun _ => ?_) _)
  | (with_reducible refine LeO.sort (fun _ _ => ?_) _)
  | (with_reducible refine LeO.chk ?_)
  | (with_reducible refine LeO.chk2 ?_)
  | (with_reducible refine LeO.ite ?_ ?_)
  | (with_reducible refine LeO.bindS ?_ (fun _ => ?_) (fun _ => ?_) <;> try dsimp only)
  | (with_reducible refine LeO.bind ?_ fun _ => ?_)
  | (refine LeO.map ?_)
def m129_1 (vals : List Int) (s20 : Nat) : Option ((Nat) ⊕ ((Unit) ⊕ Int)) :=
 if (s20 : Int) < (vals.length : Int) then (
  (vals[s20]?).bind fun x40 =>
  if x40 ≠ 0 then (
   some (.inr (.inr x40)))
  else
  some (.inl (s20 + 1)))
 else
 some (.inr (.inl ()))
theorem lm129_1 (vals : List Int) (s20 : Nat) : LeO (T10.E.m129_1 vals s20) (T10.m129_1 vals s20) := by
 unfold T10.E.m129_1 T10.m129_1
 repeat' first
  | (with_reducible exact LeO.refl _)
  | (with_reducible refine LeO.loopE (fun _ => ?_) _)
  | (with_reducible refine LeO.sort (fun _ _ => ?_) _)
  | (with_reducible refine LeO.chk ?_)
  | (with_reducible refine LeO.chk2 ?_)
  | (with_reducible refine LeO.ite ?_ ?_)
  | (with_reducible refine LeO.bindS ?_ (fun _ => ?_) (fun _ => ?_) <;> try dsimp only)
  | (with_reducible refine LeO.bind ?_ fun _ => ?_)
  | (refine LeO.map ?_)
def m129 (vals : List Int) : Option (Int) :=
 (loopE (m129_1 vals) 0).bind fun e16 => match e16 with
 | .inr z => some z
 | .inl t19 =>
 some 0
theorem lm129 (vals : List Int) : LeO (T10.E.m129 vals) (T10.m129 vals) := by
 unfold T10.E.m129 T10.m129
 repeat' first
  | (with_reducible exact LeO.refl _)
  | (with_reducible exact lm129_1 _ _)
  | (with_reducible refine LeO.loopE (fun _ => ?_) _)
  | (with_reducible refine LeO.sort (fun _ _ => ?_) _)
  | (with_reducible refine LeO.chk ?_)
  | (with_reducible refine LeO.chk2 ?_)
  | (with_reducible refine LeO.ite ?_ ?_)
  | (with_reducible refine LeO.bindS ?_ (fun _ => ?_) (fun _ => ?_) <;> try dsimp only)
  | (with_reducible refine LeO.bind ?_ fun _ => ?_)
  | (refine LeO.map ?_)
def m121 (a_0 : Bytes) (b_1 : Bytes) : Option (Int) :=
 (m156 a_0).bind fun r1 =>
 (m156 b_1).bind fun r4 =>
 (m155 r1 r4).bind fun r7 =>
 (m155 a_0 b_1).bind fun r10 =>
 (m129 ([r7, r10] : List Int)).bind fun r18 =>
 some r18
theorem lm121 (a_0 : Bytes) (b_1 : Bytes) : LeO (T10.E.m121 a_0 b_1) (T10.m121 a_0 b_1) := by
 unfold T10.E.m121 T10.m121
 repeat' first
  | (with_reducible exact LeO.refl _)
  | (with_reducible exact lm156 _)
  | (with_reducible exact lm155 _ _)
  | (with_reducible exact lm129 _)
  | (with_reducible refine LeO.loopE (fun _ => ?_) _)
  | (with_reducible refine LeO.sort (fun _ _ => ?_) _)
  | (with_reducible refine LeO.chk ?_)
  | (with_reducible refine LeO.chk2 ?_)
  | (with_reducible refine LeO.ite ?_ ?_)
  | (with_reducible refine LeO.bindS ?_ (fun _ => ?_) (fun _ => ?_) <;> try dsimp only)
  | (with_reducible refine LeO.bind ?_ fun _ => ?_)
  | (refine LeO.map ?_)
def m79 (a_0 : Bytes) (b_1 : Bytes) : Option (Bool) :=
 (m121 a_0 b_1).bind fun r1 =>
 some (decide (r1 < 0))
theorem lm79 (a_0 : Bytes) (b_1 : Bytes) : LeO (T10.E.m79 a_0 b_1) (T10.m79 a_0 b_1) := by
 unfold T10.E.m79 T10.m79
 repeat' first
  | (with_reducible exact LeO.refl _)
  | (with_reducible exact lm121 _ _)
  | (with_reducible refine LeO.loopE (fun _ => ?_) _)
  | (with_reducible refine LeO.sort (fun _ _ => ?_) _)
  | (with_reducible refine LeO.chk ?_)
  | (with_reducible refine LeO.chk2 ?_)
  | (with_reducible refine LeO.ite ?_ ?_)
  | (with_reducible refine LeO.bindS ?_ (fun _ => ?_) (fun _ => ?_) <;> try dsimp only)
  | (with_reducible refine LeO.bind ?_ fun _ => ?_)
  | (refine LeO.map ?_)
def m111 (l_0 : List Bytes) : Option (Bool) :=
 ((
  if (l_0.length : Int) ≤ 8 then (
   (m75 l_0 (m112)).bind fun r21 =>
   if r21 then (
    (m113 l_0 (m79)).bind fun r27 =>
    some r27)
   else
   some false)
  else
  some false
 ) : Option (Bool)).bind fun t15 =>
 some t15
theorem lm111 (l_0 : List Bytes) : LeO (T10.E.m111 l_0) (T10.m111 l_0) := by
 unfold T10.E.m111 T10.m111
 repeat' first
  | (with_reducible exact LeO.refl _)
  | (with_reducible refine lm75 _ (fun _ => ?_))
  | (with_reducible exact lm112 _)
  | (with_reducible refine lm113 _ (fun _ _ => ?_))
  | (with_reducible exact lm79 _ _)
  | (with_reducible refine LeO.loopE (fun _ => ?_) _)
  | (with_reducible refine LeO.sort (fun _ _ => ?_) _)
  | (with_reducible refine LeO.chk ?_)
  | (with_reducible refine LeO.chk2 ?_)
  | (with_reducible refine LeO.ite ?_ ?_)
  | (with_reducible refine LeO.bindS ?_ (fun _ => ?_) (fun _ => ?_) <;> try dsimp only)
  | (with_reducible refine LeO.bind ?_ fun _ => ?_)
  | (refine LeO.map ?_)
def m153 (x_0 : IPlace) (f0_ : IPlace → Option Bool) : Option (Bool) :=
 (f0_ x_0).bind fun r4 =>
 some (!r4)
theorem lm153 (x_0 : IPlace) {f0_ f0_' : IPlace → Option Bool} (hf0_ : ∀ y0, LeO (f0_ y0) (f0_' y0)) : LeO (T10.E.m153 x_0 f0_) (T10.m153 x_0 f0_') := by
 unfold T10.E.m153 T10.m153
 repeat' first
  | (with_reducible exact LeO.refl _)
  | (with_reducible exact hf0_ _)
  | (with_reducible refine LeO.loopE (fun _ => ?_) _)
  | (with_reducible refine LeO.sort (fun _ _ => ?_) _)
  | (with_reducible refine LeO.chk ?_)
  | (with_reducible refine LeO.chk2 ?_)
  | (with_reducible refine LeO.ite ?_ ?_)
  | (with_reducible refine LeO.bindS ?_ (fun _ => ?_) (fun _ => ?_) <;> try dsimp only)
  | (with_reducible refine LeO.bind ?_ fun _ => ?_)
  | (refine LeO.map ?_)
def m197_1 (s_0 : List IPlace) (f_1 : IPlace → Option Bool) (s23 : Nat) : Option ((Nat) ⊕ ((Unit) ⊕ Int)) :=
 if (s23 : Int) < (s_0.length : Int) then (
  (s_0[s23]?).bind fun x46 =>
  (f_1 x46).bind fun r54 =>
  if r54 then (
   some (.inr (.inr (s23 : Int))))
  else
  some (.inl (s23 + 1)))
 else
 some (.inr (.inl ()))
theorem lm197_1 (s_0 : List IPlace) {f_1 f_1' : IPlace → Option Bool} (hf_1 : ∀ y0, LeO (f_1 y0) (f_1' y0)) (s23 : Nat) : LeO (T10.E.m197_1 s_0 f_1 s23) (T10.m197_1 s_0 f_1' s23) := by
 unfold T10.E.m197_1 T10.m197_1
 repeat' first
  | (with_reducible exact LeO.refl _)
  | (with_reducible exact hf_1 _)
  | (with_reducible refine LeO.loopE (fun _ => ?_) _)
  | (with_reducible refine LeO.sort (fun _ _ => ?_) _)
  | (with_reducible refine LeO.chk ?_)
  | (with_reducible refine LeO.chk2 ?_)
  | (with_reducible refine LeO.ite ?_ ?_)
  | (with_reducible refine LeO.bindS ?_ (fun _ => ?_) (fun _ => ?_) <;> try dsimp only)
  | (with_reducible refine LeO.bind ?_ fun _ => ?_)
  | (refine LeO.map ?_)
def m197 (s_0 : List IPlace) (f_1 : IPlace → Option Bool) : Option (Int) :=
 (loopE (m197_1 s_0 f_1) 0).bind fun e19 => match e19 with
 | .inr z => some z
 | .inl t22 =>
 some (-1)
theorem lm197 (s_0 : List IPlace) {f_1 f_1' : IPlace → Option Bool} (hf_1 : ∀ y0, LeO (f_1 y0) (f_1' y0)) : LeO (T10.E.m197 s_0 f_1) (T10.m197 s_0 f_1') := by
 unfold T10.E.m197 T10.m197
 repeat' first
  | (with_reducible exact LeO.refl _)
  | (with_reducible refine lm197_1 _ (fun _ => ?_) _)
  | (with_reducible exact hf_1 _)
  | (with_reducible refine LeO.loopE (fun _ => ?_) _)
  | (with_reducible refine LeO.sort (fun _ _ => ?_) _)
  | (with_reducible refine LeO.chk ?_)
  | (with_reducible refine LeO.chk2 ?_)
  | (with_reducible refine LeO.ite ?_ ?_)
  | (with_reducible refine LeO.bindS ?_ (fun _ => ?_) (fun _ => ?_) <;> try dsimp only)
  | (with_reducible refine LeO.bind ?_ fun _ => ?_)
  | (refine LeO.map ?_)
def m152 (s_0 : List IPlace) (f_1 : IPlace → Option Bool) : Option (Bool) :=
 (m197 s_0 f_1).bind fun r1 =>
 some (decide (0 ≤ r1))
theorem lm152 (s_0 : List IPlace) {f_1 f_1' : IPlace → Option Bool} (hf_1 : ∀ y0, LeO (f_1 y0) (f_1' y0)) : LeO (T10.E.m152 s_0 f_1) (T10.m152 s_0 f_1') := by
 unfold T10.E.m152 T10.m152
 repeat' first
  | (with_reducible exact LeO.refl _)
  | (with_reducible refine lm197 _ (fun _ => ?_))
  | (with_reducible exact hf_1 _)
  | (with_reducible refine LeO.loopE (fun _ => ?_) _)
  | (with_reducible refine LeO.sort (fun _ _ => ?_) _)
  | (with_reducible refine LeO.chk ?_)
  | (with_reducible refine LeO.chk2 ?_)
  | (with_reducible refine LeO.ite ?_ ?_)
  | (with_reducible refine LeO.bindS ?_ (fun _ => ?_) (fun _ => ?_) <;> try dsimp only)
  | (with_reducible refine LeO.bind ?_ fun _ => ?_)
  | (refine LeO.map ?_)
def m114 (l_0 : List IPlace) (right : IPlace → Option Bool) : Option (Bool) :=
 (m152 l_0 (fun x0_ => m153 x0_ right)).bind fun r5 =>
 some (!r5)
theorem lm114 (l_0 : List IPlace) {right right' : IPlace → Option Bool} (hright : ∀ y0, LeO (right y0) (right' y0)) : LeO (T10.E.m114 l_0 right) (T10.m114 l_0 right') := by
 unfold T10.E.m114 T10.m114
 repeat' first
  | (with_reducible exact LeO.refl _)
  | (with_reducible refine lm152 _ (fun _ => ?_))
  | (with_reducible refine lm153 _ (fun _ => ?_))
  | (with_reducible exact hright _)
  | (with_reducible refine LeO.loopE (fun _ => ?_) _)
  | (with_reducible refine LeO.sort (fun _ _ => ?_) _)
  | (with_reducible refine LeO.chk ?_)
  | (with_reducible refine LeO.chk2 ?_)
  | (with_reducible refine LeO.ite ?_ ?_)
  | (with_reducible refine LeO.bindS ?_ (fun _ => ?_) (fun _ => ?_) <;> try dsimp only)
  | (with_reducible refine LeO.bind ?_ fun _ => ?_)
  | (refine LeO.map ?_)
def m115 (p_0 : IPlace) : Option (Bool) :=
 ((
  (m48 p_0.volume 1 999).bind fun r19 =>
  if r19 then (
   (m48 p_0.from_ 1 p_0.to_).bind fun r24 =>
   if r24 then (
    some (decide (p_0.to_ ≤ 9999)))
   else
   some false)
  else
  some false
 ) : Option (Bool)).bind fun t16 =>
 some t16
theorem lm115 (p_0 : IPlace) : LeO (T10.E.m115 p_0) (T10.m115 p_0) := by
 unfold T10.E.m115 T10.m115
 repeat' first
  | (with_reducible exact LeO.refl _)
  | (with_reducible exact lm48 _ _ _)
  | (with_reducible refine LeO.loopE (fun _ => ?_) _)
  | (with_reducible refine LeO.sort (fun _ _ => ?_) _)
  | (with_reducible refine LeO.chk ?_)
  | (with_reducible refine LeO.chk2 ?_)
  | (with_reducible refine LeO.ite ?_ ?_)
  | (with_reducible refine LeO.bindS ?_ (fun _ => ?_) (fun _ => ?_) <;> try dsimp only)
  | (with_reducible refine LeO.bind ?_ fun _ => ?_)
  | (refine LeO.map ?_)
def m116_1 (l_0 : List IPlace) (before : IPlace → IPlace → Option Bool) (s36 : Nat) : Option ((Nat) ⊕ ((Unit) ⊕ Bool)) :=
 if (s36 : Int) < (l_0.length : Int) then (
  ((
   if 0 < (s36 : Int) then (
    (l_0[((s36 : Int) - 1).toNat]?).bind fun x100 =>
    (l_0[s36]?).bind fun x108 =>
    (before x100 x108).bind fun r116 =>
    some (!r116))
   else
   some false
  ) : Option (Bool)).bind fun t95 =>
  if t95 then (
   some (.inr (.inr false)))
  else
  some (.inl (s36 + 1)))
 else
 some (.inr (.inl ()))
theorem lm116_1 (l_0 : List IPlace) {before before' : IPlace → IPlace → Option Bool} (hbefore : ∀ y0 y1, LeO (before y0 y1) (before' y0 y1)) (s36 : Nat) : LeO (T10.E.m116_1 l_0 before s36) (T10.m116_1 l_0 before' s36) := by
 unfold T10.E.m116_1 T10.m116_1
 repeat' first
  | (with_reducible exact LeO.refl _)
  | (with_reducible exact hbefore _ _)
  | (with_reducible refine LeO.loopE (fun _ => ?_) _)
  | (with_reducible refine LeO.sort (fun _ _ => ?_) _)
  | (with_reducible refine LeO.chk ?_)
  | (with_reducible refine LeO.chk2 ?_)
  | (with_reducible refine LeO.ite ?_ ?_)
  | (with_reducible refine LeO.bindS ?_ (fun _ => ?_) (fun _ => ?_) <;> try dsimp only)
  | (with_reducible refine LeO.bind ?_ fun _ => ?_)
  | (refine LeO.map ?_)
def m116 (l_0 : List IPlace) (before : IPlace → IPlace → Option Bool) : Option (Bool) :=
 (loopE (m116_1 l_0 before) 0).bind fun e32 => match e32 with
 | .inr z => some z
 | .inl t35 =>
 some true
theorem lm116 (l_0 : List IPlace) {before before' : IPlace → IPlace → Option Bool} (hbefore : ∀ y0 y1, LeO (before y0 y1) (before' y0 y1)) : LeO (T10.E.m116 l_0 before) (T10.m116 l_0 before') := by
 unfold T10.E.m116 T10.m116
 repeat' first
  | (with_reducible exact LeO.refl _)
  | (with_reducible refine lm116_1 _ (fun _ _ => ?_) _)
  | (with_reducible exact hbefore _ _)
  | (with_reducible refine LeO.loopE (fun _ => ?_) _)
  | (with_reducible refine LeO.sort (fun _ _ => ?_) _)
  | (with_reducible refine LeO.chk ?_)
  | (with_reducible refine LeO.chk2 ?_)
  | (with_reducible refine LeO.ite ?_ ?_)
  | (with_reducible refine LeO.bindS ?_ (fun _ => ?_) (fun _ => ?_) <;> try dsimp only)
  | (with_reducible refine LeO.bind ?_ fun _ => ?_)
  | (refine LeO.map ?_)
def m117 (p_0 : IPlace) (o_1 : IPlace) : Option (Bool) :=
 ((
  if p_0.volume < o_1.volume then (
   some true)
  else
  if p_0.volume = o_1.volume then (
   chkE (-9223372036854775808 ≤ (p_0.to_ + 1) ∧ (p_0.to_ + 1) ≤ 9223372036854775807) <|
   some (decide ((p_0.to_ + 1) < o_1.from_)))
  else
  some false
 ) : Option (Bool)).bind fun t15 =>
 some t15
theorem lm117 (p_0 : IPlace) (o_1 : IPlace) : LeO (T10.E.m117 p_0 o_1) (T10.m117 p_0 o_1) := by
 unfold T10.E.m117 T10.m117
 repeat' first
  | (with_reducible exact LeO.refl _)
  | (with_reducible refine LeO.loopE (fun _ => ?_) _)
  | (with_reducible refine LeO.sort (fun _ _ => ?_) _)
  | (with_reducible refine LeO.chk ?_)
  | (with_reducible refine LeO.chk2 ?_)
  | (with_reducible refine LeO.ite ?_ ?_)
  | (with_reducible refine LeO.bindS ?_ (fun _ => ?_) (fun _ => ?_) <;> try dsimp only)
  | (with_reducible refine LeO.bind ?_ fun _ => ?_)
  | (refine LeO.map ?_)
def m72 (h_0 : Heading) : Option (Bool) :=
 ((
  (m112 h_0.name).bind fun r48 =>
  if r48 then (
   (m111 h_0.variants).bind fun r53 =>
   if r53 then (
    (m111 h_0.also).bind fun r58 =>
    if r58 then (
     if (h_0.places.length : Int) ≤ 30 then (
      (m114 h_0.places (m115)).bind fun r66 =>
      if r66 then (
       (m116 h_0.places (m117)).bind fun r72 =>
       some r72)
      else
      some false)
     else
     some false)
    else
    some false)
   else
   some false)
  else
  some false
 ) : Option (Bool)).bind fun t45 =>
 some t45
theorem lm72 (h_0 : Heading) : LeO (T10.E.m72 h_0) (T10.m72 h_0) := by
 unfold T10.E.m72 T10.m72
 repeat' first
  | (with_reducible exact LeO.refl _)
  | (with_reducible exact lm112 _)
  | (with_reducible exact lm111 _)
  | (with_reducible refine lm114 _ (fun _ => ?_))
  | (with_reducible exact lm115 _)
  | (with_reducible refine lm116 _ (fun _ _ => ?_))
  | (with_reducible exact lm117 _ _)
  | (with_reducible refine LeO.loopE (fun _ => ?_) _)
  | (with_reducible refine LeO.sort (fun _ _ => ?_) _)
  | (with_reducible refine LeO.chk ?_)
  | (with_reducible refine LeO.chk2 ?_)
  | (with_reducible refine LeO.ite ?_ ?_)
  | (with_reducible refine LeO.bindS ?_ (fun _ => ?_) (fun _ => ?_) <;> try dsimp only)
  | (with_reducible refine LeO.bind ?_ fun _ => ?_)
  | (refine LeO.map ?_)
def m76 (s_0 : Bytes) (f0_ : List (Bytes × Int)) (f1_ : List Heading) (f2_ : Heading) : Option (Bool) :=
 ((
  if (lkp f0_ s_0).isSome then (
   chkE (0 ≤ ((lkp f0_ s_0).getD (0 : Int))) <|
   (f1_[((lkp f0_ s_0).getD (0 : Int)).toNat]?).bind fun x43 =>
   if x43.name = s_0 then (
    some (decide (s_0 ≠ f2_.name)))
   else
   some false)
  else
  some false
 ) : Option (Bool)).bind fun t36 =>
 some t36
theorem lm76 (s_0 : Bytes) (f0_ : List (Bytes × Int)) (f1_ : List Heading) (f2_ : Heading) : LeO (T10.E.m76 s_0 f0_ f1_ f2_) (T10.m76 s_0 f0_ f1_ f2_) := by
 unfold T10.E.m76 T10.m76
 repeat' first
  | (with_reducible exact LeO.refl _)
  | (with_reducible refine LeO.loopE (fun _ => ?_) _)
  | (with_reducible refine LeO.sort (fun _ _ => ?_) _)
  | (with_reducible refine LeO.chk ?_)
  | (with_reducible refine LeO.chk2 ?_)
  | (with_reducible refine LeO.ite ?_ ?_)
  | (with_reducible refine LeO.bindS ?_ (fun _ => ?_) (fun _ => ?_) <;> try dsimp only)
  | (with_reducible refine LeO.bind ?_ fun _ => ?_)
  | (refine LeO.map ?_)
def m74 (h_0 : Heading) (f0_ : List (Bytes × Int)) (f1_ : List Heading) : Option (Bool) :=
 (m75 h_0.also (fun x0_ => m76 x0_ f0_ f1_ h_0)).bind fun r14 =>
 some r14
theorem lm74 (h_0 : Heading) (f0_ : List (Bytes × Int)) (f1_ : List Heading) : LeO (T10.E.m74 h_0 f0_ f1_) (T10.m74 h_0 f0_ f1_) := by
 unfold T10.E.m74 T10.m74
 repeat' first
  | (with_reducible exact LeO.refl _)
  | (with_reducible refine lm75 _ (fun _ => ?_))
  | (with_reducible exact lm76 _ _ _ _)
  | (with_reducible refine LeO.loopE (fun _ => ?_) _)
  | (with_reducible refine LeO.sort (fun _ _ => ?_) _)
  | (with_reducible refine LeO.chk ?_)
  | (with_reducible refine LeO.chk2 ?_)
  | (with_reducible refine LeO.ite ?_ ?_)
  | (with_reducible refine LeO.bindS ?_ (fun _ => ?_) (fun _ => ?_) <;> try dsimp only)
  | (with_reducible refine LeO.bind ?_ fun _ => ?_)
  | (refine LeO.map ?_)
def m77_1 (l_0 : List Heading) (before : Heading → Heading → Option Bool) (s56 : Nat) : Option ((Nat) ⊕ ((Unit) ⊕ Bool)) :=
 if (s56 : Int) < (l_0.length : Int) then (
  ((
   if 0 < (s56 : Int) then (
    (l_0[((s56 : Int) - 1).toNat]?).bind fun x160 =>
    (l_0[s56]?).bind fun x178 =>
    (before x160 x178).bind fun r196 =>
    some (!r196))
   else
   some false
  ) : Option (Bool)).bind fun t155 =>
  if t155 then (
   some (.inr (.inr false)))
  else
  some (.inl (s56 + 1)))
 else
 some (.inr (.inl ()))
theorem lm77_1 (l_0 : List Heading) {before before' : Heading → Heading → Option Bool} (hbefore : ∀ y0 y1, LeO (before y0 y1) (before' y0 y1)) (s56 : Nat) : LeO (T10.E.m77_1 l_0 before s56) (T10.m77_1 l_0 before' s56) := by
 unfold T10.E.m77_1 T10.m77_1
 repeat' first
  | (with_reducible exact LeO.refl _)
  | (with_reducible exact hbefore _ _)
  | (with_reducible refine LeO.loopE (fun _ => ?_) _)
  | (with_reducible refine LeO.sort (fun _ _ => ?_) _)
  | (with_reducible refine LeO.chk ?_)
  | (with_reducible refine LeO.chk2 ?_)
  | (with_reducible refine LeO.ite ?_ ?_)
  | (with_reducible refine LeO.bindS ?_ (fun _ => ?_) (fun _ => ?_) <;> try dsimp only)
  | (with_reducible refine LeO.bind ?_ fun _ => ?_)
  | (refine LeO.map ?_)
def m77 (l_0 : List Heading) (before : Heading → Heading → Option Bool) : Option (Bool) :=
 (loopE (m77_1 l_0 before) 0).bind fun e52 => match e52 with
 | .inr z => some z
 | .inl t55 =>
 some true
theorem lm77 (l_0 : List Heading) {before before' : Heading → Heading → Option Bool} (hbefore : ∀ y0 y1, LeO (before y0 y1) (before' y0 y1)) : LeO (T10.E.m77 l_0 before) (T10.m77 l_0 before') := by
 unfold T10.E.m77 T10.m77
 repeat' first
  | (with_reducible exact LeO.refl _)
  | (with_reducible refine lm77_1 _ (fun _ _ => ?_) _)
  | (with_reducible exact hbefore _ _)
  | (with_reducible refine LeO.loopE (fun _ => ?_) _)
  | (with_reducible refine LeO.sort (fun _ _ => ?_) _)
  | (with_reducible refine LeO.chk ?_)
  | (with_reducible refine LeO.chk2 ?_)
  | (with_reducible refine LeO.ite ?_ ?_)
  | (with_reducible refine LeO.bindS ?_ (fun _ => ?_) (fun _ => ?_) <;> try dsimp only)
  | (with_reducible refine LeO.bind ?_ fun _ => ?_)
  | (refine LeO.map ?_)
def m78 (a_0 : Heading) (b_1 : Heading) : Option (Bool) :=
 (m79 a_0.name b_1.name).bind fun r25 =>
 some r25
theorem lm78 (a_0 : Heading) (b_1 : Heading) : LeO (T10.E.m78 a_0 b_1) (T10.m78 a_0 b_1) := by
 unfold T10.E.m78 T10.m78
 repeat' first
  | (with_reducible exact LeO.refl _)
  | (with_reducible exact lm79 _ _)
  | (with_reducible refine LeO.loopE (fun _ => ?_) _)
  | (with_reducible refine LeO.sort (fun _ _ => ?_) _)
  | (with_reducible refine LeO.chk ?_)
  | (with_reducible refine LeO.chk2 ?_)
  | (with_reducible refine LeO.ite ?_ ?_)
  | (with_reducible refine LeO.bindS ?_ (fun _ => ?_) (fun _ => ?_) <;> try dsimp only)
  | (with_reducible refine LeO.bind ?_ fun _ => ?_)
  | (refine LeO.map ?_)
def m47_2 (x316 : Heading) (s223 : Nat × (List (Bytes × Int))) (s523 : Nat × (List (Bytes × Int))) : Option ((Nat × (List (Bytes × Int))) ⊕ (((List (Bytes × Int))) ⊕ ((Nat × (List (Bytes × Int))) ⊕ ((List (Bytes × Int)))))) :=
 if (s523.1 : Int) < (x316.variants.length : Int) then (
  (x316.variants[s523.1]?).bind fun x548 =>
  ((
   if (lkp s523.2 x548).isSome then (
    some (.inl 6))
   else
   some (.inr (put s523.2 x548 (s223.1 : Int)))
  ) : Option ((Nat) ⊕ ((List (Bytes × Int))))).bind fun t559 => match t559 with
  | .inl t562 => (
   some (.inr (.inr (.inl (t562, s523.2)))))
  | .inr t563 => (
   some (.inl ((s523.1 + 1), t563))))
 else
 some (.inr (.inl s523.2))
theorem lm47_2 (x316 : Heading) (s223 : Nat × (List (Bytes × Int))) (s523 : Nat × (List (Bytes × Int))) : LeO (T10.E.m47_2 x316 s223 s523) (T10.m47_2 x316 s223 s523) := by
 unfold T10.E.m47_2 T10.m47_2
 repeat' first
  | (with_reducible exact LeO.refl _)
  | (with_reducible refine LeO.loopE (fun _ => ?_) _)
  | (with_reducible refine LeO.sort (fun _ _ => ?_) _)
  | (with_reducible refine LeO.chk ?_)
  | (with_reducible refine LeO.chk2 ?_)
  | (with_reducible refine LeO.ite ?_ ?_)
  | (with_reducible refine LeO.bindS ?_ (fun _ => ?_) (fun _ => ?_) <;> try dsimp only)
  | (with_reducible refine LeO.bind ?_ fun _ => ?_)
  | (refine LeO.map ?_)
def m47_1 (l_0 : List Heading) (s223 : Nat × (List (Bytes × Int))) : Option ((Nat × (List (Bytes × Int))) ⊕ (((List (Bytes × Int))) ⊕ ((List (Bytes × Int)) × Int))) :=
 if (s223.1 : Int) < (l_0.length : Int) then (
  (l_0[s223.1]?).bind fun x316 =>
  ((
   ((
    if (lkp s223.2 x316.name).isSome then (
     some (.inl 6))
    else
    some (.inr (put s223.2 x316.name (s223.1 : Int)))
   ) : Option ((Nat) ⊕ ((List (Bytes × Int))))).bind fun t465 => match t465 with
   | .inl t468 => (
    some (.inl (t468, s223.2)))
   | .inr t469 => (
    (loopE (m47_2 x316 s223) (0, t469)).bind fun e519 => match e519 with
    | .inr z => some z
    | .inl t522 =>
    some (.inr t522))
  ) : Option ((Nat × (List (Bytes × Int))) ⊕ ((List (Bytes × Int))))).bind fun t457 => match t457 with
  | .inl t460 => (
   some (.inr (.inr ([], (t460.1 : Int)))))
  | .inr t461 => (
   some (.inl ((s223.1 + 1), t461))))
 else
 some (.inr (.inl s223.2))
theorem lm47_1 (l_0 : List Heading) (s223 : Nat × (List (Bytes × Int))) : LeO (T10.E.m47_1 l_0 s223) (T10.m47_1 l_0 s223) := by
 unfold T10.E.m47_1 T10.m47_1
 repeat' first
  | (with_reducible exact LeO.refl _)
  | (with_reducible exact lm47_2 _ _ _)
  | (with_reducible refine LeO.loopE (fun _ => ?_) _)
  | (with_reducible refine LeO.sort (fun _ _ => ?_) _)
  | (with_reducible refine LeO.chk ?_)
  | (with_reducible refine LeO.chk2 ?_)
  | (with_reducible refine LeO.ite ?_ ?_)
  | (with_reducible refine LeO.bindS ?_ (fun _ => ?_) (fun _ => ?_) <;> try dsimp only)
  | (with_reducible refine LeO.bind ?_ fun _ => ?_)
  | (refine LeO.map ?_)
def m47 (l_0 : List Heading) : Option ((List (Bytes × Int)) × Int) :=
 if 60 < (l_0.length : Int) then (
  some ([], 3))
 else
 (m71 l_0 (m72)).bind fun r30 =>
 if r30 then (
  (loopE (m47_1 l_0) (0, ([] : List (Bytes × Int)))).bind fun e218 => match e218 with
  | .inr z => some z
  | .inl t221 =>
  ((
   (m71 l_0 (fun x0_ => m74 x0_ t221 l_0)).bind fun r590 =>
   if r590 then (
    (m77 l_0 (m78)).bind fun r596 =>
    some (!r596))
   else
   some true
  ) : Option (Bool)).bind fun t586 =>
  if t586 then (
   some ([], 1))
  else
  some (t221, 0))
 else
 some ([], 1)
theorem lm47 (l_0 : List Heading) : LeO (T10.E.m47 l_0) (T10.m47 l_0) := by
 unfold T10.E.m47 T10.m47
 repeat' first
  | (with_reducible exact LeO.refl _)
  | (with_reducible refine lm71 _ (fun _ => ?_))
  | (with_reducible exact lm72 _)
  | (with_reducible exact lm47_1 _ _)
  | (with_reducible exact lm74 _ _ _)
  | (with_reducible refine lm77 _ (fun _ _ => ?_))
  | (with_reducible exact lm78 _ _)
  | (with_reducible refine LeO.loopE (fun _ => ?_) _)
  | (with_reducible refine LeO.sort (fun _ _ => ?_) _)
  | (with_reducible refine LeO.chk ?_)
  | (with_reducible refine LeO.chk2 ?_)
  | (with_reducible refine LeO.ite ?_ ?_)
  | (with_reducible refine LeO.bindS ?_ (fun _ => ?_) (fun _ => ?_) <;> try dsimp only)
  | (with_reducible refine LeO.bind ?_ fun _ => ?_)
  | (refine LeO.map ?_)
def m107 (s_0 : List Bytes) : Option (List Bytes) :=
 chkE (([] : List Bytes).length + s_0.length ≤ 1073741824) <|
 some (([] : List Bytes) ++ s_0)
theorem lm107 (s_0 : List Bytes) : LeO (T10.E.m107 s_0) (T10.m107 s_0) := by
 unfold T10.E.m107 T10.m107
 repeat' first
  | (with_reducible exact LeO.refl _)
  | (with_reducible refine LeO.loopE (fun _ => ?_) _)
  | (with_reducible refine LeO.sort (fun _ _ => ?_) _)
  | (with_reducible refine LeO.chk ?_)
  | (with_reducible refine LeO.chk2 ?_)
  | (with_reducible refine LeO.ite ?_ ?_)
  | (with_reducible refine LeO.bindS ?_ (fun _ => ?_) (fun _ => ?_) <;> try dsimp only)
  | (with_reducible refine LeO.bind ?_ fun _ => ?_)
  | (refine LeO.map ?_)
def m108 (s_0 : List IPlace) : Option (List IPlace) :=
 chkE (([] : List IPlace).length + s_0.length ≤ 1073741824) <|
 some (([] : List IPlace) ++ s_0)
theorem lm108 (s_0 : List IPlace) : LeO (T10.E.m108 s_0) (T10.m108 s_0) := by
 unfold T10.E.m108 T10.m108
 repeat' first
  | (with_reducible exact LeO.refl _)
  | (with_reducible refine LeO.loopE (fun _ => ?_) _)
  | (with_reducible refine LeO.sort (fun _ _ => ?_) _)
  | (with_reducible refine LeO.chk ?_)
  | (with_reducible refine LeO.chk2 ?_)
  | (with_reducible refine LeO.ite ?_ ?_)
  | (with_reducible refine LeO.bindS ?_ (fun _ => ?_) (fun _ => ?_) <;> try dsimp only)
  | (with_reducible refine LeO.bind ?_ fun _ => ?_)
  | (refine LeO.map ?_)
def m70 (h_0 : Heading) : Option (Heading) :=
 (m107 h_0.variants).bind fun r14 =>
 (m107 h_0.also).bind fun r24 =>
 (m108 h_0.places).bind fun r34 =>
 some (⟨h_0.name, r14, r24, r34⟩ : Heading)
theorem lm70 (h_0 : Heading) : LeO (T10.E.m70 h_0) (T10.m70 h_0) := by
 unfold T10.E.m70 T10.m70
 repeat' first
  | (with_reducible exact LeO.refl _)
  | (with_reducible exact lm107 _)
  | (with_reducible exact lm108 _)
  | (with_reducible refine LeO.loopE (fun _ => ?_) _)
  | (with_reducible refine LeO.sort (fun _ _ => ?_) _)
  | (with_reducible refine LeO.chk ?_)
  | (with_reducible refine LeO.chk2 ?_)
  | (with_reducible refine LeO.ite ?_ ?_)
  | (with_reducible refine LeO.bindS ?_ (fun _ => ?_) (fun _ => ?_) <;> try dsimp only)
  | (with_reducible refine LeO.bind ?_ fun _ => ?_)
  | (refine LeO.map ?_)
def m46 (l_0 : List Heading) (name : Bytes) : Option (Heading × Int) :=
 (m47 l_0).bind fun r2 =>
 if r2.2 ≠ 0 then (
  some ((⟨[], ([] : List Bytes), ([] : List Bytes), ([] : List IPlace)⟩ : Heading), r2.2))
 else
 if (lkp r2.1 name).isSome then (
  chkE (0 ≤ ((lkp r2.1 name).getD (0 : Int))) <|
  (l_0[((lkp r2.1 name).getD (0 : Int)).toNat]?).bind fun x22 =>
  (m70 x22).bind fun r40 =>
  some (r40, 0))
 else
 some ((⟨[], ([] : List Bytes), ([] : List Bytes), ([] : List IPlace)⟩ : Heading), 7)
theorem lm46 (l_0 : List Heading) (name : Bytes) : LeO (T10.E.m46 l_0 name) (T10.m46 l_0 name) := by
 unfold T10.E.m46 T10.m46
 repeat' first
  | (with_reducible exact LeO.refl _)
  | (with_reducible exact lm47 _)
  | (with_reducible exact lm70 _)
  | (with_reducible refine LeO.loopE (fun _ => ?_) _)
  | (with_reducible refine LeO.sort (fun _ _ => ?_) _)
  | (with_reducible refine LeO.chk ?_)
  | (with_reducible refine LeO.chk2 ?_)
  | (with_reducible refine LeO.ite ?_ ?_)
  | (with_reducible refine LeO.bindS ?_ (fun _ => ?_) (fun _ => ?_) <;> try dsimp only)
  | (with_reducible refine LeO.bind ?_ fun _ => ?_)
  | (refine LeO.map ?_)
def m21  : Option (Bool) :=
 (m46 ([(⟨[97], ([[98]] : List Bytes), ([] : List Bytes), ([] : List IPlace)⟩ : Heading)] : List Heading) [98]).bind fun r12 =>
 ((
  if r12.2 = 0 then (
   some (decide (r12.1.name = [97])))
  else
  some false
 ) : Option (Bool)).bind fun t34 =>
 some t34
theorem lm21  : LeO (T10.E.m21 ) (T10.m21 ) := by
 unfold T10.E.m21 T10.m21
 repeat' first
  | (with_reducible exact LeO.refl _)
  | (with_reducible exact lm46 _ _)
  | (with_reducible refine LeO.loopE (fun _ => ?_) _)
  | (with_reducible refine LeO.sort (fun _ _ => ?_) _)
  | (with_reducible refine LeO.chk ?_)
  | (with_reducible refine LeO.chk2 ?_)
  | (with_reducible refine LeO.ite ?_ ?_)
  | (with_reducible refine LeO.bindS ?_ (fun _ => ?_) (fun _ => ?_) <;> try dsimp only)
  | (with_reducible refine LeO.bind ?_ fun _ => ?_)
  | (refine LeO.map ?_)
end T10.E
namespace T10
open Go Go.Proofs Pk
theorem e21 : m21 = some true := E.lm21 _ (show E.m21 = some true by kernel_rfl)
end T10
