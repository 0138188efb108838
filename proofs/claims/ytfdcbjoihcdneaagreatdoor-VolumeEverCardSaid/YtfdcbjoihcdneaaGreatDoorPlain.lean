/-
  The plain laws: what the models of layer 10 come to.
-/
import Derived.Test.YtfdcbjoihcdneaaGreatDoorMade
import Derived.Test.YtfdcbjoihcdneaaGreatDoorKitSix
import Derived.Lib.IndexMore
set_option linter.all false
namespace T10
open Go Go.Proofs Pk
def In (n lo hi : Int) : Bool := decide (lo ≤ n) && decide (n ≤ hi)
theorem In_iff {n lo hi : Int} : In n lo hi = true ↔ lo ≤ n ∧ n ≤ hi := by simp [In]
theorem e72 (n lo hi : Int) : m72 n lo hi = some (In n lo hi) := by unfold m72 In; by_cases h : lo ≤ n <;> simp [h]
theorem e40 (n lo hi : Int) : m40 n lo hi = some (In n lo hi) := by unfold m40 In; by_cases h : lo ≤ n <;> simp [h]
theorem e34 (n : Int) : m34 n = some (In n 0 99999) := by unfold m34; rw [e40]; rfl
theorem e69 (n : Int) : m69 n = some (In n 1 999) := by unfold m69; rw [e40]; rfl
def okC (c : UInt8) : Bool := decide (32 ≤ c.toNat) && decide (c.toNat ≤ 126)
def txt (s : Bytes) : Bool := In s.length 1 200 && s.all okC
theorem e73 {s : Bytes} (h : s.length ≤ 1073741824) : m73 s = some (txt s) := by
 have h1 := loop_all s okC (.inr false : Unit ⊕ Bool) (.inl ()) (step := m73_1 s) (fun i x hi hx => by
  unfold m73_1
  rw [if_pos (by omega), hx, Option.bind_some]
  unfold okC
  by_cases h1 : 32 ≤ x.toNat <;> by_cases h2 : x.toNat ≤ 126
  ·rw [if_neg (by omega), chk_t (by omega)]; simp [h1, h2]; omega
  ·rw [if_neg (by omega)]; simp [h1, h2]; omega
  ·rw [if_pos (by omega)]; simp [h1, h2]
  ·rw [if_pos (by omega)]; simp [h1, h2]) (by unfold m73_1; simp)
 unfold m73
 rw [h1, Option.bind_some, e72]
 unfold txt
 cases s.all okC <;> simp
theorem e104 (c : UInt8) : m104 (c.toNat : Int) = some (okC c) := by
 unfold m104 okC
 by_cases h1 : 32 ≤ c.toNat
 ·rw [if_pos (by omega)]; simp [h1]; omega
 ·rw [if_neg (by omega)]; simp [h1]
theorem e70 {s : Bytes} (h : s.length ≤ 1073741824) : m70 s = some (txt s) := by
 have h1 : m103 s m104 = some (s.all okC) := by
  have := gAll_some (l := s) (f := fun c => m104 (c.toNat : Int)) okC (fun c _ => e104 c)
  exact this
 unfold m70 txt
 rw [e40, Option.bind_some]
 cases hl : In s.length 1 200
 ·simp
 ·rw [if_pos rfl, chk_t h, h1]; simp
def okP (p : Paragraph) : Bool := In p.anchor 1 999 && txt p.text
theorem e68 {p : Paragraph} (h : p.text.length ≤ 1073741824) : m68 p = some (okP p) := by
 unfold m68 okP
 rw [e69, Option.bind_some, e70 h]
 cases In p.anchor 1 999 <;> simp
def allP (v : Volume) : List Paragraph := v.parts.flatMap (·.paragraphs)
theorem parts_take {v : Volume} {i : Nat} {x : Part} (h : v.parts[i]? = some x) : (v.parts.take (i + 1)).flatMap (·.paragraphs) = (v.parts.take i).flatMap (·.paragraphs) ++ x.paragraphs := by
 rw [List.take_succ, h]; simp
theorem parts_len {v : Volume} (i : Nat) : ((v.parts.take i).flatMap (·.paragraphs)).length ≤ (allP v).length := by
 have : allP v = (v.parts.take i).flatMap (·.paragraphs) ++ (v.parts.drop i).flatMap (·.paragraphs) := by unfold allP; rw [← List.flatMap_append, List.take_append_drop]
 rw [this]; simp
theorem e71 {v : Volume} (h : (allP v).length ≤ 1073741824) : m71 v = some (allP v) := by
 have := loop_l v.parts (fun _ x a => Sum.inl (a ++ x.paragraphs)) (fun a => a) (fun i a => a = (v.parts.take i).flatMap (·.paragraphs)) (step := m71_1 v) (fun i x a hi hx ha => by
  have h2 := parts_len (v := v) (i + 1)
  rw [parts_take hx, ← ha, List.length_append] at h2
  unfold m71_1
  rw [if_pos (by omega), hx, Option.bind_some, chk_t (by show a.length + x.paragraphs.length ≤ 1073741824; omega)]) (fun i x a a' hi hx ha hg => by
   simp only [Sum.inl.injEq] at hg; rw [← hg, ha, parts_take hx]) (fun a ha => by unfold m71_1; simp) (a0 := []) (by simp)
 unfold m71
 rw [this, goL_fold, foldl_append]; rfl
theorem e47 {v : Volume} (h : (allP v).length ≤ 1073741824) : m47 v = some (allP v) := by
 have := loop_l v.parts (fun _ x a => Sum.inl (a ++ x.paragraphs)) (fun a => a) (fun i a => a = (v.parts.take i).flatMap (·.paragraphs)) (step := m47_1 v) (fun i x a hi hx ha => by
  have h2 := parts_len (v := v) (i + 1)
  rw [parts_take hx, ← ha, List.length_append] at h2
  unfold m47_1
  rw [if_pos (by omega), hx, Option.bind_some, chk_t (by show a.length + x.paragraphs.length ≤ 1073741824; omega)]) (fun i x a a' hi hx ha hg => by
   simp only [Sum.inl.injEq] at hg; rw [← hg, ha, parts_take hx]) (fun a ha => by unfold m47_1; simp) (a0 := []) (by simp)
 unfold m47
 rw [this, goL_fold, foldl_append]; rfl
structure Few (v : Volume) (es : List Erratum) : Prop where
 parts : v.parts.length ≤ 8
 pars : ∀ p ∈ v.parts, p.paragraphs.length ≤ 35
 text : ∀ p ∈ v.parts, ∀ x ∈ p.paragraphs, x.text.length ≤ 210
 errata : es.length ≤ 25
 etext : ∀ x ∈ es, x.text.length ≤ 210
theorem flat_le {l : List Part} (h : ∀ p ∈ l, p.paragraphs.length ≤ 35) : (l.flatMap (·.paragraphs)).length ≤ 35 * l.length := by
 induction l with
 | nil => simp
 | cons x l ih =>
  have h1 := h x List.mem_cons_self
  have h2 := ih (fun y hy => h y (List.mem_cons_of_mem _ hy))
  simp only [List.flatMap_cons, List.length_append, List.length_cons]; omega
theorem Few.all {v : Volume} {es : List Erratum} (h : Few v es) : (allP v).length ≤ 1073741824 := by
 have h1 := flat_le h.pars
 have h2 := h.parts
 unfold allP; omega
theorem Few.ptext {v : Volume} {es : List Erratum} (h : Few v es) {p : Paragraph} (hp : p ∈ allP v) : p.text.length ≤ 210 := by
 obtain ⟨q, hq, hp⟩ := List.mem_flatMap.1 hp
 exact h.text q hq p hp
theorem e31 (v : Volume) (es : List Erratum) : ∃ b, m31 v es = some b ∧ (b = true → Few v es) := by
 have h2 : ∀ x : Part, loopO (m31_2 x) 0 = some (if x.paragraphs.all (fun p => decide (p.text.length ≤ 210)) then .inl () else .inr (.inr (.inr false))) := fun x => by
  refine loop_all x.paragraphs (fun p => decide (p.text.length ≤ 210)) _ _ (fun i p hi hp => ?_) (by unfold m31_2; simp)
  unfold m31_2
  rw [if_pos (by omega), hp, Option.bind_some]
  by_cases h : p.text.length ≤ 210
  ·rw [if_neg (by omega)]; simp [h]
  ·rw [if_pos (by omega)]; simp [h]
 have h1 := loop_all v.parts (fun x => decide (x.paragraphs.length ≤ 35) && x.paragraphs.all (fun p => decide (p.text.length ≤ 210))) (.inr false : Unit ⊕ Bool) (.inl ()) (step := m31_1 v) (fun i x hi hx => by
  unfold m31_1
  rw [if_pos (by omega), hx, Option.bind_some]
  by_cases h : x.paragraphs.length ≤ 35
  ·rw [if_neg (by omega), h2 x, Option.bind_some]
   simp only [h, decide_true, Bool.true_and]
   cases x.paragraphs.all (fun p => decide (p.text.length ≤ 210)) <;> simp
  ·rw [if_pos (by omega)]; simp [h]) (by unfold m31_1; simp)
 have h3 := loop_all es (fun x => decide (x.text.length ≤ 210)) (.inr false : Unit ⊕ Bool) (.inl ()) (step := m31_3 es) (fun i x hi hx => by
  unfold m31_3
  rw [if_pos (by omega), hx, Option.bind_some]
  by_cases h : x.text.length ≤ 210
  ·rw [if_neg (by omega)]; simp [h]
  ·rw [if_pos (by omega)]; simp [h]) (by unfold m31_3; simp)
 unfold m31
 rw [h1, Option.bind_some]
 by_cases c1 : v.parts.all (fun x => decide (x.paragraphs.length ≤ 35) && x.paragraphs.all (fun p => decide (p.text.length ≤ 210))) = true
 ·rw [if_pos c1]
  simp only [h3, Option.bind_some]
  by_cases c2 : es.all (fun x => decide (x.text.length ≤ 210)) = true
  ·rw [if_pos c2]
   by_cases c3 : v.parts.length ≤ 8
   ·refine ⟨decide (es.length ≤ 25), ?_, fun h => ?_⟩
    ·simp only []
     rw [if_pos (by omega)]; simp; omega
    ·simp only [List.all_eq_true, Bool.and_eq_true, decide_eq_true_eq] at c1 c2 h
     exact ⟨c3, fun p hp => (c1 p hp).1, fun p hp => (c1 p hp).2, h, c2⟩
   ·exact ⟨false, by simp only []; rw [if_neg (by omega)]; rfl, fun h => by cases h⟩
  ·rw [if_neg c2]; exact ⟨false, rfl, fun h => by cases h⟩
 ·rw [if_neg c1]; exact ⟨false, rfl, fun h => by cases h⟩
end T10
namespace T10
open Go Go.Proofs Pk
theorem loop_ex {α ε : Type} (l : List α) (P : Nat → α → Prop) (e out : ε) {step : Nat → Option (Nat ⊕ ε)}
  (hs : ∀ i x, i < l.length → l[i]? = some x → ∃ b : Bool, step i = some (if b then .inl (i + 1) else .inr e) ∧ (b = true → P i x)) (he : step l.length = some (.inr out)) :
  ∃ b : Bool, loopO step 0 = some (if b then out else e) ∧ (b = true → ∀ i x, l[i]? = some x → P i x) := by
 have key : ∀ k i, l.length - i = k → i ≤ l.length → ∃ b : Bool, loopO step i = some (if b then out else e) ∧ (b = true → ∀ j x, i ≤ j → l[j]? = some x → P j x) := by
  intro k
  induction k with
  | zero =>
   intro i hk hi
   obtain rfl : i = l.length := by omega
   refine ⟨true, by rw [loopO_out he]; rfl, fun _ j x hj hx => ?_⟩
   have := lt_len hx; omega
  | succ k ih =>
   intro i hk hi
   have hlt : i < l.length := by omega
   obtain ⟨b, h1, h2⟩ := hs i _ hlt (List.getElem?_eq_getElem hlt)
   cases b with
   | false => exact ⟨false, by rw [loopO_out (by simpa using h1)]; rfl, fun h => by cases h⟩
   | true =>
    obtain ⟨b', h3, h4⟩ := ih (i + 1) (by omega) (by omega)
    refine ⟨b', by rw [loopO_next (by simpa using h1)]; exact h3, fun hb j x hj hx => ?_⟩
    by_cases e : j = i
    ·subst e
     rw [List.getElem?_eq_getElem hlt] at hx
     cases hx; exact h2 rfl
    ·exact h4 hb j x (by omega) hx
 obtain ⟨b, h1, h2⟩ := key l.length 0 (by omega) (by omega)
 exact ⟨b, h1, fun h j x hx => h2 h j x (Nat.zero_le _) hx⟩
structure OkV (v : Volume) : Prop where
 parts : v.parts.length ≤ 6
 pars : (allP v).length ≤ 30
 number : In v.number 1 99 = true
 bound : In v.bound 0 99999 = true
 height : In v.height 1 60 = true
 width : In v.width 10 80 = true
 day : ∀ (i : Nat) (x : Part), v.parts[i]? = some x → In x.day 0 v.bound = true ∧ ∀ y, 0 < i → v.parts[i - 1]? = some y → y.day < x.day
 par : ∀ p ∈ allP v, okP p = true
 once : ((allP v).map (·.anchor)).Nodup
theorem nodup_map {α β : Type} {f : α → β} {l : List α} (h : ∀ (i j : Nat) (x y : α), l[i]? = some x → l[j]? = some y → j < i → f y ≠ f x) : (l.map f).Nodup := by
 rw [List.nodup_iff_pairwise_ne, List.pairwise_iff_getElem]
 intro i j hi hj hij
 rw [List.getElem_map, List.getElem_map]
 simp only [List.length_map] at hi hj
 exact h j i _ _ (List.getElem?_eq_getElem hj) (List.getElem?_eq_getElem hi) hij
theorem e50 {v : Volume} (hl : (allP v).length ≤ 1073741824) (ht : ∀ p ∈ allP v, p.text.length ≤ 1073741824) : ∃ r, m50 v = some r ∧ (r = 0 → OkV v) := by
 have h1 := loop_ex v.parts (fun i x => In x.day 0 v.bound = true ∧ ∀ y, 0 < i → v.parts[i - 1]? = some y → y.day < x.day) (.inr 1 : Unit ⊕ Int) (.inl ()) (step := m50_1 v) (fun i x hi hx => by
  unfold m50_1
  rw [if_pos (by omega), hx, Option.bind_some]
  by_cases h : In x.day 0 v.bound = true
  ·simp only [e72, Option.bind_some, h, if_true]
   by_cases h0 : i = 0
   ·subst h0
    exact ⟨true, by simp, fun _ => ⟨trivial, fun y h _ => absurd h (Nat.lt_irrefl _)⟩⟩
   ·have hp : v.parts[i - 1]? = some v.parts[i - 1] := List.getElem?_eq_getElem (by omega)
    rw [if_pos (by omega), show ((i : Int) - 1).toNat = i - 1 by omega, hp]
    by_cases hd : x.day ≤ v.parts[i - 1].day
    ·exact ⟨false, by simp [hd], fun h => by cases h⟩
    ·refine ⟨true, by simp [hd], fun _ => ⟨trivial, fun y _ hy => ?_⟩⟩
     cases hy; omega
  ·refine ⟨false, ?_, fun h => by cases h⟩
   simp only [e72, Option.bind_some, h]; simp) (by unfold m50_1; simp)
 have h2 := loop_ex (allP v) (fun i p => okP p = true) (.inr 1 : Unit ⊕ Int) (.inl ()) (step := m50_2 (allP v)) (fun i x hi hx => by
  refine ⟨okP x, ?_, fun h => h⟩
  unfold m50_2 okP
  rw [if_pos (by omega), hx, Option.bind_some, e72, Option.bind_some, e73 (ht x (List.mem_of_getElem? hx))]
  cases In x.anchor 1 999 <;> cases txt x.text <;> simp) (by unfold m50_2; simp)
 have h4 : ∀ i x, (allP v)[i]? = some x → ∃ b : Bool, loopO (m50_4 i (allP v)) 0 = some (if b then .inl () else .inr (.inr (.inr 6))) ∧ (b = true → ∀ j y, j < i → (allP v)[j]? = some y → y.anchor ≠ x.anchor) := fun i x hx => by
  have hi := lt_len hx
  have hlen : ((allP v).take i).length = i := by rw [List.length_take]; omega
  obtain ⟨b, g1, g2⟩ := loop_ex ((allP v).take i) (fun j y => y.anchor ≠ x.anchor) (.inr (.inr (.inr 6)) : Unit ⊕ (Nat ⊕ (Unit ⊕ Int))) (.inl ()) (step := m50_4 i (allP v)) (fun j y hj hy => by
   rw [hlen] at hj
   rw [List.getElem?_take_of_lt hj] at hy
   refine ⟨decide (y.anchor ≠ x.anchor), ?_, fun h => of_decide_eq_true h⟩
   unfold m50_4
   rw [if_pos (by omega), hy, Option.bind_some, hx, Option.bind_some, chk_t (by omega)]
   by_cases e : y.anchor = x.anchor <;> simp [e]) (by rw [hlen]; unfold m50_4; simp)
  exact ⟨b, g1, fun hb j y hj hy => g2 hb j y (by rw [List.getElem?_take_of_lt hj]; exact hy)⟩
 have h3 := loop_ex (allP v) (fun i x => ∀ j y, j < i → (allP v)[j]? = some y → y.anchor ≠ x.anchor) (.inr 6 : Unit ⊕ Int) (.inl ()) (step := m50_3 (allP v)) (fun i x hi hx => by
  obtain ⟨b, g1, g2⟩ := h4 i x hx
  refine ⟨b, ?_, g2⟩
  unfold m50_3
  rw [if_pos (by omega), g1, Option.bind_some]
  cases b <;> simp) (by unfold m50_3; simp)
 obtain ⟨b1, g1, f1⟩ := h1
 obtain ⟨b2, g2, f2⟩ := h2
 obtain ⟨b3, g3, f3⟩ := h3
 unfold m50
 rw [e71 hl, Option.bind_some]
 by_cases c1 : v.parts.length ≤ 6 ∧ (allP v).length ≤ 30
 ·rw [if_neg (by omega)]
  simp only [Option.bind_some]
  rw [if_neg (by simp; omega)]
  simp only [e72, Option.bind_some]
  by_cases c2 : In v.number 1 99 = true ∧ In v.bound 0 99999 = true ∧ In v.height 1 60 = true ∧ In v.width 10 80 = true
  ·obtain ⟨i1, i2, i3, i4⟩ := c2
   simp only [i1, i2, i3, i4, if_true, Option.bind_some, Bool.not_true, Bool.false_eq_true, if_false]
   rw [g1, Option.bind_some]
   cases b1 with
   | false => exact ⟨1, rfl, fun h => by cases h⟩
   | true =>
    simp only [if_true]
    rw [g2, Option.bind_some]
    cases b2 with
    | false => exact ⟨1, rfl, fun h => by cases h⟩
    | true =>
     simp only [if_true]
     rw [g3, Option.bind_some]
     cases b3 with
     | false => exact ⟨6, rfl, fun h => by cases h⟩
     | true => exact ⟨0, rfl, fun _ => ⟨c1.1, c1.2, i1, i2, i3, i4, f1 rfl, fun p hp => by
       obtain ⟨i, hi⟩ := List.getElem?_of_mem hp
       exact f2 rfl i p hi, nodup_map fun i j x y hx hy hij => f3 rfl i x hx j y hij hy⟩⟩
  ·refine ⟨1, ?_, fun h => by cases h⟩
   cases i1 : In v.number 1 99 <;> cases i2 : In v.bound 0 99999 <;> cases i3 : In v.height 1 60 <;> cases i4 : In v.width 10 80 <;> simp
   exact absurd ⟨i1, i2, i3, i4⟩ c2
 ·refine ⟨3, ?_, fun h => by cases h⟩
  by_cases c : 6 < v.parts.length
  ·rw [if_pos (by omega)]; rfl
  ·rw [if_neg (by omega)]; simp only [Option.bind_some]; rw [if_pos (by simp; omega)]
end T10
namespace T10
open Go Go.Proofs Pk
def right (x : Erratum) : Bool := In x.number 1 999 && In x.day 0 99999 && In x.anchor 1 999 && (if x.kind = 0 then txt x.text && decide (x.new_ = 0) else if x.kind = 1 then decide (x.text = []) && decide (x.new_ = 0) else decide (x.kind = 2) && txt x.text && In x.new_ 1 999)
def Less (a b : Erratum) : Bool := decide (a.day < b.day) || (decide (a.day = b.day) && decide (a.number < b.number))
theorem e49 (a b : Erratum) : m49 a b = some (Less a b) := by
 unfold m49 Less
 by_cases h : a.day < b.day
 ·simp [h]
 ·by_cases h2 : a.day = b.day
  ·simp [h, h2]
  ·simp [h, h2]
theorem e74 {x : Erratum} (h : x.text.length ≤ 1073741824) : m74 x = some (right x) := by
 unfold m74 right
 simp only [e72, Option.bind_some, e73 h]
 cases In x.number 1 999 <;> cases In x.day 0 99999 <;> cases In x.anchor 1 999 <;> simp
 by_cases h0 : x.kind = 0
 ·simp only [h0, if_true]; cases txt x.text <;> simp
 ·by_cases h1 : x.kind = 1
  ·simp only [h1]; by_cases ht : x.text = [] <;> simp [ht]
  ·simp only [h0, h1, if_false]
   by_cases h2 : x.kind = 2
   ·simp only [h2, if_true]; cases txt x.text <;> simp
   ·simp [h2]
structure OkE (v : Volume) (es : List Erratum) : Prop where
 few : es.length ≤ 20
 right : ∀ x ∈ es, right x = true
 once : (es.map (·.number)).Nodup
 news : ∀ (i j : Nat) (x y : Erratum), es[i]? = some x → es[j]? = some y → j ≠ i → x.kind = 2 → y.kind = 2 → y.new_ ≠ x.new_
 fresh : ∀ x ∈ es, x.kind = 2 → ∀ p ∈ allP v, p.anchor ≠ x.new_
 there : ∀ x ∈ es, (∃ p ∈ allP v, p.anchor = x.anchor) ∨ ∃ y ∈ es, y.kind = 2 ∧ y.new_ = x.anchor ∧ Less y x = true
theorem foldl_or {α : Type} (p : α → Bool) : ∀ (l : List α) (b : Bool), l.foldl (fun b x => b || p x) b = (b || l.any p)
 | [], b => by simp
 | x :: l, b => by simp [foldl_or p l, Bool.or_assoc]
theorem e51 {v : Volume} {es : List Erratum} (hl : (allP v).length ≤ 1073741824) (ht : ∀ x ∈ es, x.text.length ≤ 1073741824) : ∃ r, m51 v es = some r ∧ (r = 0 → OkE v es) := by
 have h1 := loop_ex es (fun i x => right x = true) (.inr 1 : Unit ⊕ Int) (.inl ()) (step := m51_1 es) (fun i x hi hx => by
  refine ⟨right x, ?_, fun h => h⟩
  unfold m51_1
  rw [if_pos (by omega), hx, Option.bind_some, e74 (ht x (List.mem_of_getElem? hx)), Option.bind_some]
  cases right x <;> rfl) (by unfold m51_1; simp)
 have h3 : ∀ i x, es[i]? = some x → ∃ b : Bool, loopO (m51_3 es i) 0 = some (if b then .inl () else .inr (.inr (.inr 6))) ∧ (b = true → ∀ j y, es[j]? = some y → j ≠ i → y.number ≠ x.number ∧ (x.kind = 2 → y.kind = 2 → y.new_ ≠ x.new_)) := fun i x hx => by
  have hi := lt_len hx
  exact loop_ex es (fun j y => j ≠ i → y.number ≠ x.number ∧ (x.kind = 2 → y.kind = 2 → y.new_ ≠ x.new_)) (.inr (.inr (.inr 6)) : Unit ⊕ (Nat ⊕ (Unit ⊕ Int))) (.inl ()) (step := m51_3 es i) (fun j y hj hy => by
   unfold m51_3
   rw [if_pos (by omega)]
   by_cases e : j = i
   ·rw [if_neg (by omega)]
    exact ⟨true, by simp, fun _ h => absurd e h⟩
   ·rw [if_pos (by omega), hy, Option.bind_some, hx, Option.bind_some]
    by_cases e1 : y.number = x.number
    ·exact ⟨false, by simp [e1], fun h => by cases h⟩
    ·rw [if_neg e1]
     by_cases e2 : x.kind = 2
     ·rw [if_pos e2]
      by_cases e3 : y.kind = 2
      ·rw [if_pos e3]
       by_cases e4 : y.new_ = x.new_
       ·exact ⟨false, by simp [e4], fun h => by cases h⟩
       ·exact ⟨true, by simp [e4], fun _ _ => ⟨e1, fun _ _ => e4⟩⟩
      ·rw [if_neg e3]; exact ⟨true, by simp, fun _ _ => ⟨e1, fun _ h => absurd h e3⟩⟩
     ·rw [if_neg e2]; exact ⟨true, by simp, fun _ _ => ⟨e1, fun h _ => absurd h e2⟩⟩) (by unfold m51_3; simp)
 have h4 : ∀ i x, es[i]? = some x → ∃ b : Bool, loopO (m51_4 (allP v) es i) 0 = some (if b then .inl () else .inr (.inr (.inr 6))) ∧ (b = true → ∀ (j : Nat) p, (allP v)[j]? = some p → x.kind = 2 → p.anchor ≠ x.new_) := fun i x hx => by
  exact loop_ex (allP v) (fun j p => x.kind = 2 → p.anchor ≠ x.new_) (.inr (.inr (.inr 6)) : Unit ⊕ (Nat ⊕ (Unit ⊕ Int))) (.inl ()) (step := m51_4 (allP v) es i) (fun j p hj hp => by
   unfold m51_4
   rw [if_pos (by omega), hx, Option.bind_some]
   by_cases e2 : x.kind = 2
   ·rw [if_pos e2, hp, Option.bind_some]
    by_cases e4 : p.anchor = x.new_
    ·exact ⟨false, by simp [e4], fun h => by cases h⟩
    ·exact ⟨true, by simp [e4], fun _ _ => e4⟩
   ·rw [if_neg e2]; exact ⟨true, by simp, fun _ h => absurd h e2⟩) (by unfold m51_4; simp)
 have h2 := loop_ex es (fun i x => (∀ j y, es[j]? = some y → j ≠ i → y.number ≠ x.number ∧ (x.kind = 2 → y.kind = 2 → y.new_ ≠ x.new_)) ∧ (∀ (j : Nat) p, (allP v)[j]? = some p → x.kind = 2 → p.anchor ≠ x.new_)) (.inr 6 : Unit ⊕ Int) (.inl ()) (step := m51_2 es (allP v)) (fun i x hi hx => by
  obtain ⟨b, g1, f1⟩ := h3 i x hx
  obtain ⟨b', g2, f2⟩ := h4 i x hx
  unfold m51_2
  rw [if_pos (by omega), g1, Option.bind_some]
  cases b with
  | false => exact ⟨false, rfl, fun h => by cases h⟩
  | true =>
   simp only [if_true]
   rw [g2, Option.bind_some]
   cases b' with
   | false => exact ⟨false, rfl, fun h => by cases h⟩
   | true => exact ⟨true, rfl, fun _ => ⟨f1 rfl, f2 rfl⟩⟩) (by unfold m51_2; simp)
 have h6 : ∀ i x, es[i]? = some x → ∀ b, loopO (m51_6 (allP v) es i) (0, b) = some (b || (allP v).any fun p => decide (p.anchor = x.anchor)) := fun i x hx b => by
  have := loop_fold (allP v) (fun b p => b || decide (p.anchor = x.anchor)) (fun b => b) (fun _ _ => True) (step := m51_6 (allP v) es i) (fun j p b hj hp _ => by
   unfold m51_6
   rw [if_pos (by omega)]
   cases b <;> simp [hp, hx]) (fun _ _ _ _ _ _ => trivial) (fun b _ => by unfold m51_6; simp) (a0 := b) trivial
  rw [this, foldl_or]
 have h7 : ∀ i x, es[i]? = some x → ∀ b, loopO (m51_7 es i) (0, b) = some (b || es.any fun y => decide (y.kind = 2) && (decide (y.new_ = x.anchor) && Less y x)) := fun i x hx b => by
  have := loop_fold es (fun b y => b || (decide (y.kind = 2) && (decide (y.new_ = x.anchor) && Less y x))) (fun b => b) (fun _ _ => True) (step := m51_7 es i) (fun j y b hj hy _ => by
   unfold m51_7
   rw [if_pos (by omega)]
   cases b with
   | true => simp
   | false =>
    simp only [Bool.false_eq_true, if_false, hy, Option.bind_some, Bool.false_or, hx, e49]
    by_cases e1 : y.kind = 2
    ·by_cases e2 : y.new_ = x.anchor <;> simp [e1, e2]
    ·simp [e1]) (fun _ _ _ _ _ _ => trivial) (fun b _ => by unfold m51_7; simp) (a0 := b) trivial
  rw [this, foldl_or]
 have h5 := loop_ex es (fun i x => (∃ p ∈ allP v, p.anchor = x.anchor) ∨ ∃ y ∈ es, y.kind = 2 ∧ y.new_ = x.anchor ∧ Less y x = true) (.inr 7 : Unit ⊕ Int) (.inl ()) (step := m51_5 es (allP v)) (fun i x hi hx => by
  unfold m51_5
  rw [if_pos (by omega), h6 i x hx, Option.bind_some, h7 i x hx, Option.bind_some]
  refine ⟨((false || (allP v).any fun p => decide (p.anchor = x.anchor)) || es.any fun y => decide (y.kind = 2) && (decide (y.new_ = x.anchor) && Less y x)), ?_, fun h => ?_⟩
  ·cases ((false || (allP v).any fun p => decide (p.anchor = x.anchor)) || es.any fun y => decide (y.kind = 2) && (decide (y.new_ = x.anchor) && Less y x)) <;> rfl
  ·simp only [Bool.false_or, Bool.or_eq_true, List.any_eq_true, Bool.and_eq_true, decide_eq_true_eq] at h
   exact h) (by unfold m51_5; simp)
 obtain ⟨b1, g1, f1⟩ := h1
 obtain ⟨b2, g2, f2⟩ := h2
 obtain ⟨b5, g5, f5⟩ := h5
 unfold m51
 by_cases c1 : es.length ≤ 20
 ·rw [if_neg (by omega), g1, Option.bind_some]
  cases b1 with
  | false => exact ⟨1, rfl, fun h => by cases h⟩
  | true =>
   simp only [if_true]
   rw [e71 hl, Option.bind_some, g2, Option.bind_some]
   cases b2 with
   | false => exact ⟨6, rfl, fun h => by cases h⟩
   | true =>
    simp only [if_true]
    rw [g5, Option.bind_some]
    cases b5 with
    | false => exact ⟨7, rfl, fun h => by cases h⟩
    | true =>
     refine ⟨0, rfl, fun _ => ⟨c1, fun x hx => ?_, nodup_map fun i j x y hx hy hij => ?_, fun i j x y hx hy hij k1 k2 => ?_, fun x hx k p hp => ?_, fun x hx => ?_⟩⟩
     ·obtain ⟨i, hi⟩ := List.getElem?_of_mem hx; exact f1 rfl i x hi
     ·exact ((f2 rfl i x hx).1 j y hy (by omega)).1
     ·exact ((f2 rfl i x hx).1 j y hy hij).2 k1 k2
     ·obtain ⟨i, hi⟩ := List.getElem?_of_mem hx
      obtain ⟨j, hj⟩ := List.getElem?_of_mem hp
      exact (f2 rfl i x hi).2 j p hj k
     ·obtain ⟨i, hi⟩ := List.getElem?_of_mem hx; exact f5 rfl i x hi
 ·exact ⟨3, by rw [if_pos (by omega)], fun h => by cases h⟩
structure Ok (v : Volume) (es : List Erratum) : Prop where
 few : Few v es
 vol : OkV v
 err : OkE v es
theorem e11 (v : Volume) (es : List Erratum) : ∃ b, m11 v es = some b ∧ (b = true → Ok v es) := by
 obtain ⟨b, h1, h2⟩ := e31 v es
 unfold m11
 rw [h1, Option.bind_some]
 cases b with
 | false => exact ⟨false, by simp, fun h => by cases h⟩
 | true =>
  have hf := h2 rfl
  obtain ⟨r, g1, g2⟩ := e50 hf.all (fun p hp => Nat.le_trans (hf.ptext hp) (by decide))
  obtain ⟨q, g3, g4⟩ := e51 (v := v) (es := es) hf.all (fun x hx => Nat.le_trans (hf.etext x hx) (by decide))
  simp only [if_true]
  unfold m32
  rw [g1, Option.bind_some]
  by_cases e : r = 0
  ·rw [if_neg (by simpa using e), g3]
   by_cases e2 : q = 0
   ·exact ⟨true, by simp [e2], fun _ => ⟨hf, g2 e, g4 e2⟩⟩
   ·exact ⟨false, by simp [e2], fun h => by cases h⟩
  ·rw [if_pos e]; exact ⟨false, by simp [e], fun h => by cases h⟩
end T10
namespace T10
open Go Go.Proofs Pk
theorem e14 {v : Volume} {es : List Erratum} (h : Few v es) : m14 v = some v := by
 have h2 : ∀ x ∈ v.parts, loopO (m14_2 x) (0, ([] : List Paragraph)) = some x.paragraphs := fun x hx => by
  have hl := h.pars x hx
  have := loop_map x.paragraphs (fun p => p) (fun a => a) (step := m14_2 x) (fun i p a hi hp ha => by
   unfold m14_2
   rw [if_pos (by omega)]
   simp only [hp, Option.bind_some]
   rw [chk_t (by omega)]) (fun a => by unfold m14_2; simp)
  rw [this]; simp
 have h1 := loop_map v.parts (fun x => x) (fun a => a) (step := m14_1 v) (fun i x a hi hx ha => by
  have hl := h.parts
  unfold m14_1
  rw [if_pos (by omega)]
  simp only [hx, Option.bind_some, h2 x (List.mem_of_getElem? hx)]
  rw [chk_t (by omega)]) (fun a => by unfold m14_1; simp)
 unfold m14
 rw [h1, Option.bind_some]; simp
theorem e15 {es : List Erratum} (h : es.length ≤ 1073741823) : m15 es = some es := by
 have h1 := loop_map es (fun x => x) (fun a => a) (step := m15_1 es) (fun i x a hi hx ha => by
  unfold m15_1
  rw [if_pos (by omega)]
  simp only [hx, Option.bind_some, m36]
  rw [chk_t (by omega)]) (fun a => by unfold m15_1; simp)
 unfold m15
 rw [h1, Option.bind_some]; simp
theorem Ok.pt {v : Volume} {es : List Erratum} (h : Ok v es) {p : Paragraph} (hp : p ∈ allP v) : p.text.length ≤ 1073741824 := Nat.le_trans (h.few.ptext hp) (by decide)
theorem Ok.et {v : Volume} {es : List Erratum} (h : Ok v es) {x : Erratum} (hx : x ∈ es) : x.text.length ≤ 1073741824 := Nat.le_trans (h.few.etext x hx) (by decide)
theorem all_take {α : Type} (l : List α) (p : α → Bool) (h : ∀ x ∈ l, p x = true) : l.all p = true := List.all_eq_true.2 h
theorem e48 {v : Volume} {es : List Erratum} (h : Ok v es) : m48 v = some true := by
 have hv := h.vol
 have h1 := loop_all v.parts (fun _ => true) (.inr false : Unit ⊕ Bool) (.inl ()) (step := m48_1 v) (fun i x hi hx => by
  obtain ⟨d1, d2⟩ := hv.day i x hx
  have hb := In_iff.1 hv.bound
  have hd := In_iff.1 d1
  unfold m48_1
  rw [if_pos (by omega), hx, Option.bind_some]
  simp only [e34, Option.bind_some, show In x.day 0 99999 = true from In_iff.2 ⟨hd.1, by omega⟩, if_true]
  rw [if_neg (by omega)]
  by_cases h0 : i = 0
  ·subst h0; simp
  ·have hp : v.parts[i - 1]? = some v.parts[i - 1] := List.getElem?_eq_getElem (by omega)
   have := d2 _ (by omega) hp
   rw [if_pos (by omega), show ((i : Int) - 1).toNat = i - 1 by omega, hp]
   simp; omega) (by unfold m48_1; simp)
 have h2 : m67 (allP v) m68 = some true := by
  have := gAll_some (l := allP v) (f := m68) okP (fun p hp => e68 (h.pt hp))
  rw [all_take _ _ hv.par] at this
  exact this
 unfold m48
 rw [h1, all_take _ _ (fun _ _ => rfl), if_pos rfl]
 simp only [Option.bind_some, e40, e34, hv.number, hv.bound, hv.height, hv.width, if_true, e47 h.few.all, h2]
theorem lkp_put' (k j : Int) (b : Bool) : ∀ m : List (Int × Bool), lkp (put m k b) j = if k = j then some b else lkp m j
  | [] => by by_cases h : k = j
             · subst h; simp [put, lkp]
             · simp [put, lkp, h, Ne.symm h]
  | (q, x) :: m => by
    have ih := lkp_put' k j b m
    unfold put
    by_cases h : k = q
    · subst h
      rw [if_pos rfl]
      by_cases h2 : k = j
      · subst h2; simp [lkp]
      · simp [lkp, h2, Ne.symm h2]
    · rw [if_neg h]
      unfold lkp
      by_cases h2 : j = q
      · subst h2; rw [if_pos rfl, if_pos rfl, if_neg h]
      · rw [if_neg h2, if_neg h2, ih]
def Met (m : List (Int × Bool)) (S : Int → Prop) : Prop := ∀ k, (lkp m k).getD false = true ↔ S k
theorem Met.nil : Met [] (fun _ => False) := fun k => by simp [lkp]
theorem Met.put {m : List (Int × Bool)} {S : Int → Prop} (h : Met m S) (k : Int) : Met (put m k true) (fun j => j = k ∨ S j) := fun j => by
 rw [lkp_put' k j true m]
 by_cases e : k = j
 ·simp [e]
 ·rw [if_neg e, h j]; constructor
  ·exact .inr
  ·rintro (h | h)
   ·exact absurd h.symm e
   ·exact h
theorem Met.iff {m : List (Int × Bool)} {S T : Int → Prop} (h : Met m S) (e : ∀ k, S k ↔ T k) : Met m T := fun k => (h k).trans (e k)
theorem once_ne {α : Type} {f : α → Int} {l : List α} (h : (l.map f).Nodup) {i : Nat} {x : α} (hx : l[i]? = some x) : ¬ ∃ j y, j < i ∧ l[j]? = some y ∧ f y = f x := by
 rintro ⟨j, y, hj, hy, e⟩
 have h1 : (l.map f)[i]? = some (f x) := by rw [List.getElem?_map, hx]; rfl
 have h2 : (l.map f)[j]? = some (f x) := by rw [List.getElem?_map, hy]; simp [e]
 have hi := lt_len h1
 have := (List.getElem?_inj (i := i) (j := j) hi h).1 (h1.trans h2.symm)
 omega
theorem e27 {v : Volume} {es : List Erratum} (h : Ok v es) : m27 v = some 0 := by
 have hv := h.vol
 have h1 := loop_l (allP v) (fun _ x a => Sum.inl (put a x.anchor true)) (fun a => (Sum.inl a : List (Int × Bool) ⊕ Int)) (fun i a => Met a (fun k => ∃ j y, j < i ∧ (allP v)[j]? = some y ∧ y.anchor = k)) (step := m27_1 (allP v)) (fun i x a hi hx ha => by
  unfold m27_1
  rw [if_pos (by omega)]
  simp only [hx, Option.bind_some]
  rw [if_neg (fun c => once_ne hv.once hx ((ha _).1 c))]) (fun i x a a' hi hx ha hg => by
  simp only [Sum.inl.injEq] at hg
  rw [← hg]
  refine (ha.put x.anchor).iff fun k => ⟨?_, ?_⟩
  ·rintro (rfl | ⟨j, y, hj, hy, e⟩)
   ·exact ⟨i, x, by omega, hx, rfl⟩
   ·exact ⟨j, y, by omega, hy, e⟩
  ·rintro ⟨j, y, hj, hy, e⟩
   by_cases hji : j = i
   ·subst hji; rw [hx] at hy; cases hy; exact .inl e.symm
   ·exact .inr ⟨j, y, by omega, hy, e⟩) (fun a ha => by unfold m27_1; simp) (a0 := []) (Met.nil.iff fun k => ⟨False.elim, fun ⟨j, _, hj, _⟩ => absurd hj (Nat.not_lt_zero _)⟩)
 unfold m27
 rw [e47 h.few.all, Option.bind_some, if_neg (by have := hv.parts; omega)]
 simp only [Option.bind_some]
 rw [if_neg (by have := hv.pars; simp; omega), e48 h]
 simp only [Option.bind_some, if_true]
 rw [h1, goL_fold]; rfl
theorem e53 {x : Erratum} (h : x.text.length ≤ 1073741824) (hr : right x = true) : m53 x = some true := by
 unfold right at hr
 simp only [Bool.and_eq_true] at hr
 obtain ⟨⟨⟨h1, h2⟩, h3⟩, h4⟩ := hr
 unfold m53
 simp only [e40, e34, e69, Option.bind_some, h1, h2, h3, if_true, Bool.not_true, Bool.false_eq_true, if_false, e70 h]
 by_cases k0 : x.kind = 0
 ·rw [if_pos k0] at h4
  simp only [Bool.and_eq_true, decide_eq_true_eq] at h4
  simp [k0, h4.1, h4.2]
 ·rw [if_neg k0] at h4
  by_cases k1 : x.kind = 1
  ·rw [if_pos k1] at h4
   simp only [Bool.and_eq_true, decide_eq_true_eq] at h4
   simp [k1, h4.1, h4.2]
  ·rw [if_neg k1] at h4
   simp only [Bool.and_eq_true, decide_eq_true_eq] at h4
   simp [h4.1.1, h4.1.2, h4.2]
theorem e52 {v : Volume} {es : List Erratum} (h : Ok v es) : m52 es m53 = some true := by
 have := gAll_some (l := es) (f := m53) (fun _ => true) (fun x hx => e53 (h.et hx) (h.err.right x hx))
 rw [all_take _ _ (fun _ _ => rfl)] at this
 exact this
theorem seenP {v : Volume} {step : Nat × List (Int × Bool) → Option ((Nat × List (Int × Bool)) ⊕ List (Int × Bool))} (hs : ∀ i x a, i < (allP v).length → (allP v)[i]? = some x → step (i, a) = some (.inl (i + 1, put a x.anchor true))) (he : ∀ a, step ((allP v).length, a) = some (.inr a)) : ∃ m, loopO step (0, []) = some m ∧ Met m (fun k => ∃ p ∈ allP v, p.anchor = k) := by
 have h1 := loop_fold (allP v) (fun a x => put a x.anchor true) (fun a => a) (fun _ _ => True) (step := step) (fun i x a hi hx _ => hs i x a hi hx) (fun _ _ _ _ _ _ => trivial) (fun a _ => he a) (a0 := []) trivial
 refine ⟨_, h1, ?_⟩
 have key : ∀ (l : List Paragraph) (m : List (Int × Bool)) (S : Int → Prop), Met m S → Met (l.foldl (fun a x => put a x.anchor true) m) (fun k => S k ∨ ∃ p ∈ l, p.anchor = k) := by
  intro l
  induction l with
  | nil => intro m S h; exact h.iff fun k => by simp
  | cons x l ih =>
   intro m S h
   refine (ih _ _ (h.put x.anchor)).iff fun k => ?_
   simp only [List.mem_cons, exists_eq_or_imp]
   constructor
   ·rintro ((rfl | h) | h)
    ·exact .inr (.inl rfl)
    ·exact .inl h
    ·exact .inr (.inr h)
   ·rintro (h | rfl | h)
    ·exact .inl (.inr h)
    ·exact .inl (.inl rfl)
    ·exact .inr h
 exact (key (allP v) [] _ Met.nil).iff fun k => by simp
end T10
namespace T10
open Go Go.Proofs Pk
theorem Less_iff {a b : Erratum} : Less a b = true ↔ a.day < b.day ∨ (a.day = b.day ∧ a.number < b.number) := by simp [Less]
theorem Less_irr (a : Erratum) : Less a a = false := by simp [Less]
theorem Less_tr {a b c : Erratum} (h : Less a b = true) (k : Less b c = true) : Less a c = true := by
 rw [Less_iff] at *; omega
theorem Less_as {a b : Erratum} (h : Less a b = true) : Less b a = false := by
 cases hb : Less b a with
 | false => rfl
 | true => rw [Less_iff] at *; omega
theorem Less_tot {a b : Erratum} (h : a.number ≠ b.number) : Less a b = true ∨ Less b a = true := by
 rw [Less_iff, Less_iff]; omega
def insE (x : Erratum) : List Erratum → List Erratum
 | [] => [x]
 | y :: l => if Less x y then x :: y :: l else y :: insE x l
def sortE : List Erratum → List Erratum
 | [] => []
 | x :: l => insE x (sortE l)
theorem insE_perm (x : Erratum) : ∀ l, (insE x l).Perm (x :: l)
 | [] => .refl _
 | y :: l => by
  unfold insE
  split
  ·exact .refl _
  ·exact ((insE_perm x l).cons y).trans (.swap _ _ _)
theorem sortE_perm : ∀ l, (sortE l).Perm l
 | [] => .refl _
 | x :: l => (insE_perm x (sortE l)).trans ((sortE_perm l).cons x)
def Asc (l : List Erratum) : Prop := l.Pairwise (fun a b => Less a b = true)
theorem insE_asc {x : Erratum} : ∀ {l : List Erratum}, Asc l → (∀ y ∈ l, y.number ≠ x.number) → Asc (insE x l)
 | [], _, _ => List.pairwise_singleton _ _
 | y :: l, h, hn => by
  unfold insE
  obtain ⟨h1, h2⟩ := List.pairwise_cons.1 h
  split
  ·rename_i hl
   exact List.pairwise_cons.2 ⟨fun z hz => by
    rcases List.mem_cons.1 hz with rfl | hz
    ·exact hl
    ·exact Less_tr hl (h1 z hz), h⟩
  ·rename_i hl
   refine List.pairwise_cons.2 ⟨fun z hz => ?_, insE_asc h2 (fun z hz => hn z (List.mem_cons_of_mem _ hz))⟩
   rcases List.mem_cons.1 ((insE_perm x l).subset hz) with rfl | hz
   ·rcases Less_tot (hn y List.mem_cons_self) with h | h
    ·exact h
    ·exact absurd h hl
   ·exact h1 z hz
theorem sortE_asc : ∀ {l : List Erratum}, (l.map (·.number)).Nodup → Asc (sortE l)
 | [], _ => List.Pairwise.nil
 | x :: l, h => by
  simp only [List.map_cons, List.nodup_cons, List.mem_map, not_exists, not_and] at h
  exact insE_asc (sortE_asc h.2) (fun y hy => h.1 y ((sortE_perm l).subset hy))
theorem asc_eq {a b : List Erratum} (ha : Asc a) (hb : Asc b) (hp : a.Perm b) : a = b :=
 List.Perm.eq_of_pairwise (le := fun x y => Less x y = true) (fun x y _ _ h1 h2 => by rw [Less_as h1] at h2; cases h2) ha hb hp
theorem e66 (x y : Int) : m66 x y = some (if x < y then -1 else if y < x then 1 else 0) := by
 unfold m66 m100
 simp only [Option.bind_some, ne_eq, not_true_eq_false, decide_false, Bool.false_eq_true, if_false]
 by_cases h : x < y
 ·rw [if_pos h, if_pos h]
 ·rw [if_neg h, if_neg h]
  by_cases h2 : y < x
  ·rw [if_pos h2, if_pos h2]
  ·rw [if_neg h2, if_neg h2]
theorem e65 (a b : Int) : m65 [a, b] = some (if a ≠ 0 then a else b) := by
 have h0 : m65_1 [a, b] 0 = if a ≠ 0 then some (.inr (.inr a)) else some (.inl 1) := by unfold m65_1; simp
 have h1 : m65_1 [a, b] 1 = if b ≠ 0 then some (.inr (.inr b)) else some (.inl 2) := by unfold m65_1; simp
 have h2 : m65_1 [a, b] 2 = some (.inr (.inl ())) := by unfold m65_1; simp
 unfold m65
 by_cases ha : a = 0
 ·by_cases hb : b = 0
  ·rw [loopO_next (s' := 1) (by rw [h0, if_neg (by simpa using ha)]), loopO_next (s' := 2) (by rw [h1, if_neg (by simpa using hb)]), loopO_out h2]
   simp [ha, hb]
  ·rw [loopO_next (s' := 1) (by rw [h0, if_neg (by simpa using ha)]), loopO_out (e := .inr b) (by rw [h1, if_pos hb])]
   simp [ha]
 ·rw [loopO_out (e := .inr a) (by rw [h0, if_pos ha])]
  simp [ha]
theorem e46 (a b : Erratum) : ∃ c, m46 a b = some c ∧ (c < 0 ↔ Less a b = true) := by
 unfold m46
 simp only [e66, Option.bind_some, e65]
 refine ⟨_, rfl, ?_⟩
 rw [Less_iff]
 by_cases h1 : a.day < b.day
 ·simp [h1]
 ·by_cases h2 : b.day < a.day
  ·simp [h1, h2]; omega
  ·simp only [h1, h2, if_false, ne_eq, not_true_eq_false]
   by_cases h3 : a.number < b.number
   ·simp [h3]; omega
   ·by_cases h4 : b.number < a.number
    ·simp [h3, h4]
    ·simp [h3, h4]
theorem sort_es {es : List Erratum} (hl : es.length ≤ 1073741824) (h : (es.map (·.number)).Nodup) : sortO m46 es = some (sortE es) := by
 refine sortO_eq Less hl (fun x _ y _ => e46 x y) (fun x _ => Less_irr x) (fun x _ y _ z _ h1 h2 => Less_tr h1 h2) (fun x hx y hy hne => Less_tot fun e => hne ?_) (sortE_perm es) (sortE_asc h)
 obtain ⟨i, hi⟩ := List.getElem?_of_mem hx
 obtain ⟨j, hj⟩ := List.getElem?_of_mem hy
 have h1 : (es.map (·.number))[i]? = some x.number := by rw [List.getElem?_map, hi]; rfl
 have h2 : (es.map (·.number))[j]? = some x.number := by rw [List.getElem?_map, hj]; simp [e]
 have := (List.getElem?_inj (lt_len h1) h).1 (h1.trans h2.symm)
 subst this
 rw [hi] at hj; cases hj; rfl
theorem asc_before {l : List Erratum} (h : Asc l) {i : Nat} {x y : Erratum} (hx : l[i]? = some x) (hy : y ∈ l) (hl : Less y x = true) : ∃ j, j < i ∧ l[j]? = some y := by
 obtain ⟨j, hj⟩ := List.getElem?_of_mem hy
 refine ⟨j, ?_, hj⟩
 rcases Nat.lt_trichotomy j i with h1 | h1 | h1
 ·exact h1
 ·subst h1; rw [hx] at hj; cases hj; rw [Less_irr] at hl; cases hl
 ·have := List.pairwise_iff_getElem.1 h i j (lt_len hx) (lt_len hj) h1
  rw [List.getElem?_eq_getElem (lt_len hx)] at hx
  rw [List.getElem?_eq_getElem (lt_len hj)] at hj
  rw [Option.some.inj hx, Option.some.inj hj] at this
  rw [Less_as this] at hl; cases hl
theorem right_day {x : Erratum} (h : right x = true) : 0 ≤ x.day ∧ x.day ≤ 99999 := by
 unfold right at h
 simp only [Bool.and_eq_true] at h
 exact In_iff.1 h.1.1.2
theorem e54 {v : Volume} {es : List Erratum} (h : Ok v es) : m54 v es = some 0 := by
 obtain ⟨m, hm, hM⟩ := seenP (v := v) (step := m54_1 (allP v)) (fun i x a hi hx => by
  unfold m54_1; rw [if_pos (by omega)]; simp only [hx, Option.bind_some]) (fun a => by unfold m54_1; simp)
 have hasc : Asc (sortE es) := sortE_asc h.err.once
 have hlen : (sortE es).length = es.length := (sortE_perm es).length_eq
 have hl20 := h.err.few
 have h1 := loop_l (sortE es) (fun _ x a => Sum.inl (if x.kind = 2 then put a x.new_ true else a)) (fun a => (Sum.inl a : List (Int × Bool) ⊕ (List (Int × Bool) ⊕ (Nat × List (Int × Bool))))) (fun i a => Met a (fun k => (∃ p ∈ allP v, p.anchor = k) ∨ ∃ j y, j < i ∧ (sortE es)[j]? = some y ∧ y.kind = 2 ∧ y.new_ = k)) (step := m54_2 es (sortE es)) (fun i x a hi hx ha => by
  have hx' : x ∈ es := (sortE_perm es).subset (List.mem_of_getElem? hx)
  have hd := right_day (h.err.right x hx')
  unfold m54_2
  rw [if_pos (by simp only []; omega)]
  simp only [hx, Option.bind_some]
  rw [if_neg (by omega), if_pos]
  ·by_cases k : x.kind = 2 <;> simp [k]
  ·refine (ha x.anchor).2 ?_
   rcases h.err.there x hx' with h1 | ⟨y, hy, k, e, hl⟩
   ·exact .inl h1
   ·obtain ⟨j, hj, hjy⟩ := asc_before hasc hx ((sortE_perm es).symm.subset hy) hl
    exact .inr ⟨j, y, hj, hjy, k, e⟩) (fun i x a a' hi hx ha hg => by
  simp only [Sum.inl.injEq] at hg
  rw [← hg]
  by_cases k : x.kind = 2
  ·rw [if_pos k]
   refine (ha.put x.new_).iff fun q => ⟨?_, ?_⟩
   ·rintro (rfl | h | ⟨j, y, hj, hy⟩)
    ·exact .inr ⟨i, x, by omega, hx, k, rfl⟩
    ·exact .inl h
    ·exact .inr ⟨j, y, by omega, hy⟩
   ·rintro (h | ⟨j, y, hj, hy, k', e⟩)
    ·exact .inr (.inl h)
    ·by_cases hji : j = i
     ·subst hji; rw [hx] at hy; cases hy; exact .inl e.symm
     ·exact .inr (.inr ⟨j, y, by omega, hy, k', e⟩)
  ·rw [if_neg k]
   refine ha.iff fun q => ⟨?_, ?_⟩
   ·rintro (h | ⟨j, y, hj, hy⟩)
    ·exact .inl h
    ·exact .inr ⟨j, y, by omega, hy⟩
   ·rintro (h | ⟨j, y, hj, hy, k', e⟩)
    ·exact .inl h
    ·by_cases hji : j = i
     ·subst hji; rw [hx] at hy; cases hy; exact absurd k' k
     ·exact .inr ⟨j, y, by omega, hy, k', e⟩) (fun a ha => by unfold m54_2; simp [hlen]) (a0 := m) (hM.iff fun k => ⟨.inl, fun h => h.elim id fun ⟨j, _, hj, _⟩ => absurd hj (Nat.not_lt_zero _)⟩)
 unfold m54
 rw [e47 h.few.all, Option.bind_some, hm, Option.bind_some, chk_t (by simp; omega)]
 simp only [List.nil_append, Option.bind_some, sort_es (by omega : es.length ≤ 1073741824) h.err.once, h1, goL_fold]
theorem e33 {v : Volume} {es : List Erratum} (h : Ok v es) : m33 v es = some 0 := by
 obtain ⟨m, hm, hM⟩ := seenP (v := v) (step := m33_1 (allP v)) (fun i x a hi hx => by
  unfold m33_1; rw [if_pos (by omega)]; simp only [hx, Option.bind_some]) (fun a => by unfold m33_1; simp)
 have h1 := loop_l es (fun _ x (a : List (Int × Bool) × List (Int × Bool)) => Sum.inl (put a.1 x.number true, if x.kind = 2 then put a.2 x.new_ true else a.2)) (fun a => (Sum.inl a : (List (Int × Bool) × List (Int × Bool)) ⊕ Int)) (fun i a => Met a.1 (fun k => ∃ j y, j < i ∧ es[j]? = some y ∧ y.number = k) ∧ Met a.2 (fun k => (∃ p ∈ allP v, p.anchor = k) ∨ ∃ j y, j < i ∧ es[j]? = some y ∧ y.kind = 2 ∧ y.new_ = k)) (step := m33_2 es) (fun i x a hi hx ha => by
  have n1 : ¬ (lkp a.1 x.number).getD false = true := fun c => once_ne h.err.once hx ((ha.1 _).1 c)
  have n2 : x.kind = 2 → ¬ (lkp a.2 x.new_).getD false = true := fun k c => by
   rcases (ha.2 _).1 c with ⟨p, hp, e⟩ | ⟨j, y, hj, hy, k', e⟩
   ·exact h.err.fresh x (List.mem_of_getElem? hx) k p hp e
   ·exact h.err.news i j x y hx hy (by omega) k k' e
  unfold m33_2
  rw [if_pos (by simp only []; omega)]
  simp only [hx, Option.bind_some]
  rw [if_neg n1]
  by_cases k : x.kind = 2
  ·simp only [k, if_true, Option.bind_some]
   rw [if_neg (n2 k)]
  ·simp [k]) (fun i x a a' hi hx ha hg => by
  simp only [Sum.inl.injEq] at hg
  subst hg
  refine ⟨(ha.1.put x.number).iff fun q => ⟨?_, ?_⟩, ?_⟩
  ·rintro (rfl | ⟨j, y, hj, hy⟩)
   ·exact ⟨i, x, by omega, hx, rfl⟩
   ·exact ⟨j, y, by omega, hy⟩
  ·rintro ⟨j, y, hj, hy, e⟩
   by_cases hji : j = i
   ·subst hji; rw [hx] at hy; cases hy; exact .inl e.symm
   ·exact .inr ⟨j, y, by omega, hy, e⟩
  ·by_cases k : x.kind = 2
   ·simp only [k, if_true]
    refine (ha.2.put x.new_).iff fun q => ⟨?_, ?_⟩
    ·rintro (rfl | h | ⟨j, y, hj, hy⟩)
     ·exact .inr ⟨i, x, by omega, hx, k, rfl⟩
     ·exact .inl h
     ·exact .inr ⟨j, y, by omega, hy⟩
    ·rintro (h | ⟨j, y, hj, hy, k', e⟩)
     ·exact .inr (.inl h)
     ·by_cases hji : j = i
      ·subst hji; rw [hx] at hy; cases hy; exact .inl e.symm
      ·exact .inr (.inr ⟨j, y, by omega, hy, k', e⟩)
   ·simp only [k, if_false]
    refine ha.2.iff fun q => ⟨?_, ?_⟩
    ·rintro (h | ⟨j, y, hj, hy⟩)
     ·exact .inl h
     ·exact .inr ⟨j, y, by omega, hy⟩
    ·rintro (h | ⟨j, y, hj, hy, k', e⟩)
     ·exact .inl h
     ·by_cases hji : j = i
      ·subst hji; rw [hx] at hy; cases hy; exact absurd k' k
      ·exact .inr ⟨j, y, by omega, hy, k', e⟩) (fun a ha => by unfold m33_2; simp) (a0 := (([] : List (Int × Bool)), m)) ⟨Met.nil.iff fun k => ⟨False.elim, fun ⟨j, _, hj, _⟩ => absurd hj (Nat.not_lt_zero _)⟩, hM.iff fun k => ⟨.inl, fun h => h.elim id fun ⟨j, _, hj, _⟩ => absurd hj (Nat.not_lt_zero _)⟩⟩
 unfold m33
 rw [e27 h, Option.bind_some, if_neg (by simp), if_neg (by have := h.err.few; omega), e52 h]
 simp only [Option.bind_some, if_true, e47 h.few.all, hm, h1, goL_fold, e54 h]
end T10
namespace T10
open Go Go.Proofs Pk
theorem loop_find {α ε σ : Type} (f : Nat → σ) (l : List α) (g : Nat → α → Option ε) (out : ε) {step : σ → Option (σ ⊕ ε)}
  (hs : ∀ i x, i < l.length → l[i]? = some x → step (f i) = some (match g i x with | none => .inl (f (i + 1)) | some e => .inr e)) (he : step (f l.length) = some (.inr out)) : loopO step (f 0) = some (goN g out l 0) := by
 have key : ∀ k i, l.length - i = k → i ≤ l.length → loopO step (f i) = some (goN g out (l.drop i) i) := by
  intro k
  induction k with
  | zero =>
   intro i hk hi
   obtain rfl : i = l.length := by omega
   rw [loopO_out he, List.drop_length]; rfl
  | succ k ih =>
   intro i hk hi
   have hlt : i < l.length := by omega
   have h1 := hs i _ hlt (List.getElem?_eq_getElem hlt)
   rw [List.drop_eq_getElem_cons hlt]
   unfold goN
   cases hg : g i l[i] with
   | none => rw [hg] at h1; rw [loopO_next h1, ih (i + 1) (by omega) (by omega)]
   | some e => rw [hg] at h1; rw [loopO_out h1]
 simpa using key l.length 0 (by omega) (by omega)
theorem goN_no {α ε : Type} {g : Nat → α → Option ε} {out : ε} : ∀ {l : List α} {i : Nat}, (∀ j y, l[j]? = some y → g (i + j) y = none) → goN g out l i = out
 | [], _, _ => rfl
 | x :: l, i, h => by
  have h0 := h 0 x rfl
  simp only [Nat.add_zero] at h0
  unfold goN
  rw [h0]
  exact goN_no (fun j y hy => by have := h (j + 1) y (by simpa using hy); rwa [show i + (j + 1) = i + 1 + j by omega] at this)
theorem goN_at {α ε : Type} {g : Nat → α → Option ε} {out e : ε} : ∀ {l : List α} {i k : Nat} {x : α}, l[k]? = some x → g (i + k) x = some e → (∀ j y, j < k → l[j]? = some y → g (i + j) y = none) → goN g out l i = e
 | [], _, _, _, h, _, _ => by simp at h
 | x :: l, i, 0, z, h, hg, _ => by
  simp at h; subst h
  unfold goN
  simp only [Nat.add_zero] at hg
  rw [hg]
 | x :: l, i, k + 1, z, h, hg, hn => by
  have h0 := hn 0 x (by omega) rfl
  simp only [Nat.add_zero] at h0
  unfold goN
  rw [h0]
  exact goN_at (k := k) (by simpa using h) (by rwa [show i + (k + 1) = i + 1 + k by omega] at hg) (fun j y hj hy => by have := hn (j + 1) y (by omega) (by simpa using hy); rwa [show i + (j + 1) = i + 1 + j by omega] at this)
def upd (x : Erratum) (e : entry) : List entry :=
 if e.paragraph.anchor = x.anchor then
  if x.kind = 0 then [if e.removed then e else ⟨⟨e.paragraph.anchor, x.text⟩, e.removed⟩]
  else if x.kind = 1 then [⟨e.paragraph, true⟩]
  else [e, ⟨⟨x.new_, x.text⟩, false⟩]
 else [e]
abbrev Grd := List (List entry)
def stepG (x : Erratum) (g : Grd) : Grd := g.map (·.flatMap (upd x))
def initG (v : Volume) : Grd := v.parts.map fun p => p.paragraphs.map fun x => ⟨x, false⟩
def upto (es : List Erratum) (d : Int) : List Erratum := (sortE es).takeWhile fun x => decide (x.day ≤ d)
def after (v : Volume) (es : List Erratum) (d : Int) : Grd := (upto es d).foldl (fun g x => stepG x g) (initG v)
abbrev ank (l : List entry) : List Int := l.map (·.paragraph.anchor)
theorem upd_no {x : Erratum} {l : List entry} (h : x.anchor ∉ ank l) : l.flatMap (upd x) = l := by
 induction l with
 | nil => rfl
 | cons e l ih =>
  simp only [ank, List.map_cons, List.mem_cons, not_or] at h
  rw [List.flatMap_cons, ih h.2]
  unfold upd
  rw [if_neg (fun c => h.1 c.symm)]
  rfl
theorem upd_at {x : Erratum} {l : List entry} (hn : (ank l).Nodup) {k : Nat} {e : entry} (he : l[k]? = some e) (ha : e.paragraph.anchor = x.anchor) : l.flatMap (upd x) = l.take k ++ upd x e ++ l.drop (k + 1) := by
 induction l generalizing k with
 | nil => simp at he
 | cons y l ih =>
  simp only [ank, List.map_cons, List.nodup_cons] at hn
  cases k with
  | zero =>
   simp at he; subst he
   rw [List.flatMap_cons, upd_no (by rw [← ha]; exact hn.1)]
   simp
  | succ k =>
   have he' : l[k]? = some e := by simpa using he
   have hne : y.paragraph.anchor ≠ x.anchor := fun c => hn.1 (by rw [c, ← ha]; exact List.mem_map.2 ⟨e, List.mem_of_getElem? he', rfl⟩)
   rw [List.flatMap_cons, ih hn.2 he']
   unfold upd
   rw [if_neg hne]
   simp
theorem stepG_flat (x : Erratum) (g : Grd) : (stepG x g).flatten = g.flatten.flatMap (upd x) := by
 unfold stepG
 induction g with
 | nil => rfl
 | cons l g ih => simp [ih]
theorem nodup_part {g : Grd} (h : (ank g.flatten).Nodup) {i : Nat} {l : List entry} (hl : g[i]? = some l) : (ank l).Nodup := by
 have hm := List.mem_of_getElem? hl
 have : l.Sublist g.flatten := List.sublist_flatten_of_mem hm
 exact (this.map _).nodup h
theorem nodup_where {g : Grd} (h : (ank g.flatten).Nodup) {i j : Nat} {l m : List entry} (hl : g[i]? = some l) (hm : g[j]? = some m) {a : Int} (h1 : a ∈ ank l) (h2 : a ∈ ank m) : i = j := by
 induction g generalizing i j with
 | nil => simp at hl
 | cons y g ih =>
  simp only [ank, List.flatten_cons, List.map_append, List.nodup_append] at h
  obtain ⟨_, h4, h5⟩ := h
  cases i with
  | zero =>
   cases j with
   | zero => rfl
   | succ j =>
    simp at hl hm; subst hl
    refine absurd rfl (h5 a h1 a ?_)
    obtain ⟨e, he, rfl⟩ := List.mem_map.1 h2
    exact List.mem_map.2 ⟨e, List.mem_flatten.2 ⟨m, List.mem_of_getElem? hm, he⟩, rfl⟩
  | succ i =>
   cases j with
   | zero =>
    simp at hl hm; subst hm
    refine absurd rfl (h5 a h2 a ?_)
    obtain ⟨e, he, rfl⟩ := List.mem_map.1 h1
    exact List.mem_map.2 ⟨e, List.mem_flatten.2 ⟨l, List.mem_of_getElem? hl, he⟩, rfl⟩
   | succ j => exact congrArg Nat.succ (ih h4 (i := i) (j := j) (by simpa using hl) (by simpa using hm))
theorem nodup_at {l : List entry} (h : (ank l).Nodup) {i j : Nat} {e f : entry} (he : l[i]? = some e) (hf : l[j]? = some f) (ha : e.paragraph.anchor = f.paragraph.anchor) : i = j := by
 have h1 : (ank l)[i]? = some e.paragraph.anchor := by rw [List.getElem?_map, he]; rfl
 have h2 : (ank l)[j]? = some e.paragraph.anchor := by rw [List.getElem?_map, hf]; simp [ha]
 exact (List.getElem?_inj (lt_len h1) h).1 (h1.trans h2.symm)
theorem stepG_at {x : Erratum} {g : Grd} (h : (ank g.flatten).Nodup) {i k : Nat} {l : List entry} {e : entry} (hl : g[i]? = some l) (he : l[k]? = some e) (ha : e.paragraph.anchor = x.anchor) : stepG x g = g.set i (l.take k ++ upd x e ++ l.drop (k + 1)) := by
 have hx : x.anchor ∈ ank l := List.mem_map.2 ⟨e, List.mem_of_getElem? he, ha⟩
 apply List.ext_getElem?
 intro j
 unfold stepG
 rw [List.getElem?_map]
 by_cases hij : i = j
 ·subst hij
  rw [List.getElem?_set_self (lt_len hl), hl]
  simp only [Option.map_some]
  rw [upd_at (nodup_part h hl) he ha]
 ·rw [List.getElem?_set_ne hij]
  cases hm : g[j]? with
  | none => rfl
  | some m =>
   simp only [Option.map_some]
   rw [upd_no (fun c => hij (nodup_where h hl hm hx c))]
theorem stepG_no {x : Erratum} {g : Grd} (h : x.anchor ∉ ank g.flatten) : stepG x g = g := by
 apply List.ext_getElem?
 intro j
 unfold stepG
 rw [List.getElem?_map]
 cases hm : g[j]? with
 | none => rfl
 | some m =>
  simp only [Option.map_some]
  rw [upd_no (fun c => h ?_)]
  obtain ⟨e, he, ha⟩ := List.mem_map.1 c
  exact List.mem_map.2 ⟨e, List.mem_flatten.2 ⟨m, List.mem_of_getElem? hm, he⟩, ha⟩
theorem upd_ank {x : Erratum} (hk : x.kind = 0 ∨ x.kind = 1 ∨ x.kind = 2) : ∀ {l : List entry}, (ank l).Nodup → (x.kind = 2 → x.new_ ∉ ank l) → (ank (l.flatMap (upd x))).Nodup ∧ (∀ a ∈ ank (l.flatMap (upd x)), a ∈ ank l ∨ (x.kind = 2 ∧ a = x.new_)) ∧ (∀ a ∈ ank l, a ∈ ank (l.flatMap (upd x)))
 | [], _, _ => by simp [ank]
 | e :: l, h, hn => by
  simp only [ank, List.map_cons, List.nodup_cons] at h
  have hn' : x.kind = 2 → x.new_ ∉ ank l := fun k c => hn k (List.mem_cons_of_mem _ c)
  have hne : x.kind = 2 → x.new_ ≠ e.paragraph.anchor := fun k c => hn k (by rw [c]; exact List.mem_cons_self)
  obtain ⟨i1, i2, i3⟩ := upd_ank hk h.2 hn'
  by_cases ha : e.paragraph.anchor = x.anchor
  ·have hno : l.flatMap (upd x) = l := upd_no (by rw [← ha]; exact h.1)
   rw [List.flatMap_cons, hno]
   unfold upd
   rw [if_pos ha]
   rcases hk with k | k | k
   ·rw [if_pos k]
    have e1 : ank ([if e.removed then e else ⟨⟨e.paragraph.anchor, x.text⟩, e.removed⟩] ++ l) = ank (e :: l) := by cases hr : e.removed <;> simp [ank]
    rw [e1]; exact ⟨List.nodup_cons.2 h, fun a ha' => .inl ha', fun a ha' => ha'⟩
   ·rw [if_neg (by omega), if_pos k]
    have e1 : ank ([⟨e.paragraph, true⟩] ++ l) = ank (e :: l) := by simp [ank]
    rw [e1]; exact ⟨List.nodup_cons.2 h, fun a ha' => .inl ha', fun a ha' => ha'⟩
   ·rw [if_neg (by omega), if_neg (by omega)]
    refine ⟨?_, ?_, ?_⟩
    ·simp only [ank, List.map_append, List.map_cons, List.map_nil, List.cons_append, List.nil_append, List.nodup_cons, List.mem_cons, not_or]
     exact ⟨⟨fun c => hne k c.symm, h.1⟩, hn' k, h.2⟩
    ·intro a ha'
     simp only [ank, List.map_append, List.map_cons, List.map_nil, List.cons_append, List.nil_append, List.mem_cons] at ha' ⊢
     rcases ha' with h1 | h1 | h1
     ·exact .inl (.inl h1)
     ·exact .inr ⟨k, h1⟩
     ·exact .inl (.inr h1)
    ·intro a ha'
     simp only [ank, List.map_append, List.map_cons, List.map_nil, List.cons_append, List.nil_append, List.mem_cons] at ha' ⊢
     exact ha'.imp id .inr
  ·rw [List.flatMap_cons]
   have : upd x e = [e] := by unfold upd; rw [if_neg ha]
   rw [this]
   simp only [ank, List.cons_append, List.nil_append, List.map_cons, List.nodup_cons, List.mem_cons]
   refine ⟨⟨fun c => ?_, i1⟩, ?_, ?_⟩
   ·rcases i2 _ c with h1 | ⟨k, h1⟩
    ·exact h.1 h1
    ·exact hne k h1.symm
   ·rintro a (h1 | h1)
    ·exact .inl (.inl h1)
    ·exact (i2 a h1).imp .inr id
   ·rintro a (h1 | h1)
    ·exact .inl h1
    ·exact .inr (i3 a h1)
end T10
namespace T10
open Go Go.Proofs Pk
def Place' (g : Grd) (a : Int) (r : Nat × Nat × Bool) : Prop := (r = (0, 0, false) ∧ a ∉ ank g.flatten) ∨ ∃ (i k : Nat) (l : List entry) (e : entry), r = (i, k, true) ∧ g[i]? = some l ∧ l[k]? = some e ∧ e.paragraph.anchor = a
theorem ank_flat {g : Grd} {a : Int} : a ∈ ank g.flatten ↔ ∃ (i k : Nat) (l : List entry) (e : entry), g[i]? = some l ∧ l[k]? = some e ∧ e.paragraph.anchor = a := by
 constructor
 ·intro h
  obtain ⟨e, he, ha⟩ := List.mem_map.1 h
  obtain ⟨l, hl, he⟩ := List.mem_flatten.1 he
  obtain ⟨i, hi⟩ := List.getElem?_of_mem hl
  obtain ⟨k, hk⟩ := List.getElem?_of_mem he
  exact ⟨i, k, l, e, hi, hk, ha⟩
 ·rintro ⟨i, k, l, e, hi, hk, ha⟩
  exact List.mem_map.2 ⟨e, List.mem_flatten.2 ⟨l, List.mem_of_getElem? hi, List.mem_of_getElem? hk⟩, ha⟩
theorem look {g : Grd} {a : Int} (hn : (ank g.flatten).Nodup) {inner : Nat → List entry → Option ((Nat × Nat × Bool) ⊕ ((Nat × Nat × Nat × Bool) ⊕ (Nat × Nat × Bool)))} {outer : Nat × Nat × Nat × Bool → Option ((Nat × Nat × Nat × Bool) ⊕ (Nat × Nat × Bool))}
  (hi : ∀ i l, g[i]? = some l → inner i l = some (goN (fun k (e : entry) => if e.paragraph.anchor = a then some (.inr (.inr (i, k, true))) else none) (.inl (0, 0, false)) l 0))
  (ho : ∀ i l, g[i]? = some l → outer (0, 0, i, false) = (inner i l).bind fun e => match e with | .inr z => some z | .inl t => some (.inl (t.1, t.2.1, i + 1, t.2.2)))
  (he : outer (0, 0, g.length, false) = some (.inr (0, 0, false))) : ∃ r, loopO outer (0, 0, 0, false) = some r ∧ Place' g a r := by
 have hin : ∀ i l, g[i]? = some l → a ∉ ank l → inner i l = some (.inl (0, 0, false)) := fun i l hl hno => by
  rw [hi i l hl, goN_no]
  intro j y hy
  rw [if_neg]
  exact fun c => hno (List.mem_map.2 ⟨y, List.mem_of_getElem? hy, c⟩)
 by_cases h : a ∈ ank g.flatten
 ·obtain ⟨i, k, l, e, hl, hk, ha⟩ := ank_flat.1 h
  have hal : a ∈ ank l := List.mem_map.2 ⟨e, List.mem_of_getElem? hk, ha⟩
  have h1 : inner i l = some (.inr (.inr (i, k, true))) := by
   rw [hi i l hl]
   congr 1
   refine goN_at hk (by simp [ha]) (fun j y hj hy => ?_)
   rw [if_neg]
   exact fun c => by have := nodup_at (nodup_part hn hl) hy hk (c.trans ha.symm); omega
  have := loop_find (fun i => ((0 : Nat), (0 : Nat), i, false)) g (fun j m => if j = i then some (i, k, true) else none) ((0 : Nat), (0 : Nat), false) (step := outer) (fun j m hj hm => by
   rw [ho j m hm]
   by_cases e : j = i
   ·subst e; rw [hl] at hm; cases hm
    rw [h1]; simp
   ·rw [hin j m hm (fun c => e (nodup_where hn hm hl c hal))]; simp [e]) he
  refine ⟨_, this, .inr ⟨i, k, l, e, ?_, hl, hk, ha⟩⟩
  refine goN_at hl (by simp) (fun j y hj hy => ?_)
  rw [if_neg (by omega)]
 ·have := loop_find (fun i => ((0 : Nat), (0 : Nat), i, false)) g (fun _ _ => none) ((0 : Nat), (0 : Nat), false) (step := outer) (fun j m hj hm => by
   rw [ho j m hm, hin j m hm (fun c => h ?_)]
   ·rfl
   ·obtain ⟨e, he, ha⟩ := List.mem_map.1 c
    exact List.mem_map.2 ⟨e, List.mem_flatten.2 ⟨m, List.mem_of_getElem? hm, he⟩, ha⟩) he
  refine ⟨_, this, .inl ⟨goN_no fun _ _ _ => rfl, h⟩⟩
theorem flat_len1 {g : Grd} {i : Nat} {l : List entry} (hl : g[i]? = some l) : l.length ≤ g.flatten.length := (List.sublist_flatten_of_mem (List.mem_of_getElem? hl)).length_le
theorem look35 {g : Grd} {x : Erratum} {q : Nat} (hn : (ank g.flatten).Nodup) (hb : g.flatten.length ≤ 1000000) (hg : g.length ≤ 1000000) : ∃ r, loopO (m35_4 (q, g) x) (0, 0, 0, false) = some r ∧ Place' g x.anchor r := by
 refine look hn (inner := fun i l => loopO (m35_5 l x (0, 0, i, false)) (0, 0, 0, false)) (fun i l hl => ?_) (fun i l hl => ?_) ?_
 ·have hll := flat_len1 hl
  refine loop_find (fun k => ((0 : Nat), (0 : Nat), k, false)) l _ _ (fun k e hk he => ?_) (by unfold m35_5; simp)
  unfold m35_5
  simp only []
  rw [if_pos (by omega), he, Option.bind_some]
  by_cases c : e.paragraph.anchor = x.anchor
  ·rw [if_pos c]; simp [c]
  ·rw [if_neg c, chk_t (by omega)]; simp [c]
 ·have := lt_len hl
  unfold m35_4
  simp only []
  rw [if_pos (by omega), hl, Option.bind_some]
  rcases loopO (m35_5 l x (0, 0, i, false)) (0, 0, 0, false) with _ | (t | z)
  ·rfl
  ·simp only [Option.bind_some]; rw [chk_t (by omega)]
  ·rfl
 ·unfold m35_4; simp
structure Inv (v : Volume) (es : List Erratum) (n : Nat) (g : Grd) : Prop where
 once : (ank g.flatten).Nodup
 len : g.flatten.length ≤ 30 + n
 rows : g.length = v.parts.length
 of : ∀ a ∈ ank g.flatten, (∃ p ∈ allP v, p.anchor = a) ∨ ∃ y ∈ (sortE es).take n, y.kind = 2 ∧ y.new_ = a
theorem init_flat (v : Volume) : (initG v).flatten = (allP v).map fun x => ⟨x, false⟩ := by
 unfold initG allP
 rw [List.flatMap_def, List.map_flatten, List.map_map]; rfl
theorem inv_init {v : Volume} {es : List Erratum} (h : Ok v es) : Inv v es 0 (initG v) := by
 have e1 : ank (initG v).flatten = (allP v).map (·.anchor) := by rw [init_flat, ank, List.map_map]; rfl
 refine ⟨by rw [e1]; exact h.vol.once, by rw [init_flat, List.length_map]; exact h.vol.pars, by simp [initG], fun a ha => ?_⟩
 rw [e1] at ha
 obtain ⟨p, hp, e⟩ := List.mem_map.1 ha
 exact .inl ⟨p, hp, e⟩
theorem right_kind {x : Erratum} (h : right x = true) : x.kind = 0 ∨ x.kind = 1 ∨ x.kind = 2 := by
 unfold right at h
 simp only [Bool.and_eq_true] at h
 obtain ⟨_, h⟩ := h
 by_cases k0 : x.kind = 0
 ·exact .inl k0
 ·rw [if_neg k0] at h
  by_cases k1 : x.kind = 1
  ·exact .inr (.inl k1)
  ·rw [if_neg k1] at h
   simp only [Bool.and_eq_true, decide_eq_true_eq] at h
   exact .inr (.inr h.1.1)
theorem mem_sort {es : List Erratum} {x : Erratum} : x ∈ sortE es ↔ x ∈ es := (sortE_perm es).mem_iff
theorem news_ne {v : Volume} {es : List Erratum} (h : Ok v es) {x y : Erratum} (hx : x ∈ es) (hy : y ∈ es) (hne : x.number ≠ y.number) (k1 : x.kind = 2) (k2 : y.kind = 2) : y.new_ ≠ x.new_ := by
 obtain ⟨i, hi⟩ := List.getElem?_of_mem hx
 obtain ⟨j, hj⟩ := List.getElem?_of_mem hy
 refine h.err.news i j x y hi hj (fun e => ?_) k1 k2
 subst e; rw [hi] at hj; cases hj; exact hne rfl
theorem upd_len {x : Erratum} {e : entry} : (upd x e).length ≤ 2 := by
 unfold upd; split
 ·split
  ·simp
  ·split <;> simp
 ·simp
theorem inv_step {v : Volume} {es : List Erratum} (h : Ok v es) {n : Nat} {x : Erratum} (hx : (sortE es)[n]? = some x) {g : Grd} (hi : Inv v es n g) : Inv v es (n + 1) (stepG x g) := by
 have hxe : x ∈ es := mem_sort.1 (List.mem_of_getElem? hx)
 have hk := right_kind (h.err.right x hxe)
 have hasc : Asc (sortE es) := sortE_asc h.err.once
 have hfresh : x.kind = 2 → x.new_ ∉ ank g.flatten := fun k c => by
  rcases hi.of _ c with ⟨p, hp, e⟩ | ⟨y, hy, k', e⟩
  ·exact h.err.fresh x hxe k p hp e
  ·obtain ⟨j, hj⟩ := List.getElem?_of_mem hy
   have hjn : j < n := by have := lt_len hj; rw [List.length_take] at this; omega
   rw [List.getElem?_take_of_lt hjn] at hj
   have hl := List.pairwise_iff_getElem.1 hasc j n (lt_len hj) (lt_len hx) hjn
   rw [List.getElem?_eq_getElem (lt_len hj)] at hj
   have hx' := hx
   rw [List.getElem?_eq_getElem (lt_len hx)] at hx'
   rw [Option.some.inj hj, Option.some.inj hx'] at hl
   have hye : y ∈ es := mem_sort.1 (List.mem_of_mem_take hy)
   refine news_ne h hxe hye (fun c => ?_) k k' e
   obtain ⟨i1, hi1⟩ := List.getElem?_of_mem hxe
   obtain ⟨i2, hi2⟩ := List.getElem?_of_mem hye
   have g1 : (es.map (·.number))[i1]? = some x.number := by rw [List.getElem?_map, hi1]; rfl
   have g2 : (es.map (·.number))[i2]? = some x.number := by rw [List.getElem?_map, hi2]; simp [c]
   have := (List.getElem?_inj (lt_len g1) h.err.once).1 (g1.trans g2.symm)
   subst this
   rw [hi1] at hi2; cases hi2
   rw [Less_irr] at hl; cases hl
 obtain ⟨u1, u2, u3⟩ := upd_ank hk hi.once hfresh
 refine ⟨by rw [stepG_flat]; exact u1, ?_, by unfold stepG; rw [List.length_map]; exact hi.rows, fun a ha => ?_⟩
 ·rw [stepG_flat]
  by_cases hm : x.anchor ∈ ank g.flatten
  ·obtain ⟨e, he, ha⟩ := List.mem_map.1 hm
   obtain ⟨k, hk'⟩ := List.getElem?_of_mem he
   rw [upd_at hi.once hk' ha]
   have := lt_len hk'
   have h2 := upd_len (x := x) (e := e)
   have h3 := hi.len
   simp only [List.length_append, List.length_take, List.length_drop]; omega
  ·rw [upd_no hm]; have := hi.len; omega
 ·rw [stepG_flat] at ha
  rcases u2 a ha with h1 | ⟨k, h1⟩
  ·rcases hi.of a h1 with h2 | ⟨y, hy, hz⟩
   ·exact .inl h2
   ·exact .inr ⟨y, by rw [List.take_succ]; exact List.mem_append_left _ hy, hz⟩
  ·exact .inr ⟨x, by rw [List.take_succ, hx]; simp, k, h1.symm⟩
end T10
namespace T10
open Go Go.Proofs Pk
theorem asc_filter {l : List Erratum} (h : Asc l) (d : Int) : l.takeWhile (fun x => decide (x.day ≤ d)) = l.filter (fun x => decide (x.day ≤ d)) := by
 induction l with
 | nil => rfl
 | cons x l ih =>
  obtain ⟨h1, h2⟩ := List.pairwise_cons.1 h
  by_cases c : x.day ≤ d
  ·rw [List.takeWhile_cons_of_pos (by simpa using c), List.filter_cons_of_pos (by simpa using c), ih h2]
  ·rw [List.takeWhile_cons_of_neg (by simpa using c), List.filter_cons_of_neg (by simpa using c)]
   symm
   rw [List.filter_eq_nil_iff]
   intro y hy
   have := Less_iff.1 (h1 y hy)
   simp; omega
theorem upto_filter {es : List Erratum} (h : (es.map (·.number)).Nodup) (d : Int) : upto es d = (sortE es).filter (fun x => decide (x.day ≤ d)) := asc_filter (sortE_asc h) d
theorem asc_sub {l : List Erratum} (h : Asc l) (p : Erratum → Bool) : Asc (l.filter p) := List.Pairwise.filter p h
theorem upto_asc {es : List Erratum} (h : (es.map (·.number)).Nodup) (d : Int) : Asc (upto es d) := by rw [upto_filter h]; exact asc_sub (sortE_asc h) _
theorem upto_more {es : List Erratum} {x : Erratum} (h : ((es ++ [x]).map (·.number)).Nodup) {d : Int} (hd : d < x.day) : upto (es ++ [x]) d = upto es d := by
 have h0 : (es.map (·.number)).Nodup := by rw [List.map_append, List.nodup_append] at h; exact h.1
 refine asc_eq (upto_asc h d) (upto_asc h0 d) ?_
 rw [upto_filter h, upto_filter h0]
 have e1 : (es ++ [x]).filter (fun x => decide (x.day ≤ d)) = es.filter (fun x => decide (x.day ≤ d)) := by
  rw [List.filter_append, List.filter_cons_of_neg (by simp; omega)]; simp
 have p1 := (sortE_perm (es ++ [x])).filter (fun x => decide (x.day ≤ d))
 rw [e1] at p1
 exact p1.trans ((sortE_perm es).filter _).symm
theorem after_more {v : Volume} {es : List Erratum} {x : Erratum} (h : ((es ++ [x]).map (·.number)).Nodup) {d : Int} (hd : d < x.day) : after v (es ++ [x]) d = after v es d := by unfold after; rw [upto_more h hd]
theorem upto_take (es : List Erratum) (d : Int) : upto es d = (sortE es).take (upto es d).length := by
 unfold upto
 generalize sortE es = l
 induction l with
 | nil => rfl
 | cons x l ih =>
  by_cases c : x.day ≤ d
  ·rw [List.takeWhile_cons_of_pos (by simpa using c)]; simp [← ih]
  ·rw [List.takeWhile_cons_of_neg (by simpa using c)]; simp
def aft (v : Volume) (l : List Erratum) : Grd := l.foldl (fun g x => stepG x g) (initG v)
theorem after_aft (v : Volume) (es : List Erratum) (d : Int) : after v es d = aft v (upto es d) := rfl
theorem aft_app (v : Volume) (l : List Erratum) (x : Erratum) : aft v (l ++ [x]) = stepG x (aft v l) := by unfold aft; rw [List.foldl_append]; rfl
theorem inv_aft {v : Volume} {es : List Erratum} (h : Ok v es) : ∀ n, n ≤ (sortE es).length → Inv v es n (aft v ((sortE es).take n))
 | 0, _ => inv_init h
 | n + 1, hn => by
  have hx : (sortE es)[n]? = some (sortE es)[n] := List.getElem?_eq_getElem (by omega)
  rw [List.take_succ, hx]
  show Inv v es (n + 1) (aft v (_ ++ [_]))
  rw [aft_app]
  exact inv_step h hx (inv_aft h n (by omega))
theorem upto_len {es : List Erratum} {d : Int} : (upto es d).length ≤ (sortE es).length := (List.takeWhile_prefix _).length_le
theorem inv_after {v : Volume} {es : List Erratum} (h : Ok v es) (d : Int) : Inv v es (upto es d).length (after v es d) := by
 rw [after_aft, upto_take]
 have := inv_aft h (upto es d).length upto_len
 rwa [← upto_take] at this ⊢
def readE (g : Grd) : List Paragraph := (g.flatten.filter (fun e => !e.removed)).map (·.paragraph)
end T10
namespace T10
open Go Go.Proofs Pk
theorem occAt_app (l r sub : Bytes) : Lib.occAt (l ++ r) sub l.length = sub.isPrefixOf r := by unfold Lib.occAt; rw [List.drop_left]
theorem isPre_self (a r : Bytes) : a.isPrefixOf (a ++ r) = true := List.isPrefixOf_iff_prefix.2 (List.prefix_append a r)
theorem index_at {l r t : Bytes} {c : UInt8} (h : c ∉ l) : Lib.index (l ++ (c :: t ++ r)) (c :: t) = l.length := by
 refine Lib.index_first (by simp) (by rw [occAt_app]; exact isPre_self _ _) (fun j hj => ?_)
 cases hb : Lib.occAt (l ++ (c :: t ++ r)) (c :: t) j with
 | false => rfl
 | true =>
  have := Lib.occAt_head rfl hb
  rw [List.getElem?_append_left hj] at this
  exact absurd (List.mem_of_getElem? this) h
theorem cut_at {l r t : Bytes} {c : UInt8} (h : c ∉ l) : Lib.cut (l ++ (c :: t ++ r)) (c :: t) = (l, r, true) := by
 unfold Lib.cut
 rw [index_at h, if_pos (by omega)]
 simp only [Int.toNat_natCast, List.take_left]
 congr 1
 congr 1
 rw [← List.append_assoc, List.drop_left' (by simp)]
theorem contains_app (l r t : Bytes) : Lib.contains (l ++ (t ++ r)) t = true := by
 unfold Lib.contains
 rcases Lib.index_spec (l ++ (t ++ r)) t with ⟨_, h2⟩ | ⟨i, h1, _⟩
 ·have := h2 l.length (by simp)
  rw [occAt_app, isPre_self] at this; cases this
 ·rw [h1]; simp
theorem itoa_pos {n : Int} (h : 0 ≤ n) : Lib.itoa n = Lib.decDigits n.toNat := by unfold Lib.itoa; rw [if_neg (by omega)]
theorem itoa_dig {n : Int} (h : 0 ≤ n) {c : UInt8} (hc : c ∈ Lib.itoa n) : 48 ≤ c.toNat ∧ c.toNat ≤ 57 := by
 rw [itoa_pos h] at hc
 have := List.all_eq_true.1 (dec_all n.toNat) c hc
 simpa [isd] using this
theorem itoa_no {n : Int} (h : 0 ≤ n) {c : UInt8} (hc : c.toNat < 48 ∨ 57 < c.toNat) : c ∉ Lib.itoa n := fun hm => by have := itoa_dig h hm; omega
theorem itoa_len {n : Int} (h : 0 ≤ n) (h2 : n < 1000000) : (Lib.itoa n).length ≤ 6 := by
 rw [itoa_pos h]; exact dec_len (by omega) (by decide)
theorem atoi_itoa {n : Int} (h : 0 ≤ n) (h2 : n < 1000000000000000000) : atoiR (Lib.itoa n) = (n, false) := by
 rw [itoa_pos h]
 unfold atoiR
 rw [atoi_dec (by omega)]
 simp only [Int.toNat_of_nonneg h]
abbrev sVol : Bytes := [118, 111, 108, 46, 32]
abbrev sCol : Bytes := [44, 32, 99, 111, 108, 46, 32]
abbrev sL : Bytes := [44, 32, 108, 46, 32]
abbrev sCm : Bytes := [44, 32]
abbrev sPar : Bytes := [44, 32, 112, 97, 114, 46, 32]
def citeC (v c l : Int) : Bytes := sVol ++ (Lib.itoa v ++ (sCol ++ (Lib.itoa c ++ (sL ++ Lib.itoa l))))
def citeN (v d n : Int) : Bytes := sVol ++ (Lib.itoa v ++ (sCm ++ (Lib.itoa d ++ (sPar ++ Lib.itoa n))))
end T10
namespace T10
open Go Go.Proofs Pk
def linesOf (w : Int) (s : Bytes) : Int := ((s.length : Int) + w - 1) / w
def rowP (H W day col : Int) : Int → Int → List entry → List printed
 | _, _, [] => []
 | li, no, e :: l => if e.removed then rowP H W day col li no l else ⟨⟨e.paragraph.anchor, col + li / H, li % H + 1, linesOf W e.paragraph.text⟩, day, no + 1⟩ :: rowP H W day col (li + linesOf W e.paragraph.text) (no + 1) l
def rowL (W : Int) : List entry → Int
 | [] => 0
 | e :: l => (if e.removed then 0 else linesOf W e.paragraph.text) + rowL W l
def prints (H W : Int) : Int → List Part → Grd → List printed
 | col, p :: ps, l :: g => rowP H W p.day col 0 0 l ++ prints H W (col + (rowL W l + H - 1) / H) ps g
 | _, _, _ => []
def printE (v : Volume) (es : List Erratum) : List printed := prints v.height v.width 1 v.parts (after v es v.bound)
def pos (H : Int) (p : Place) : Int := (p.column - 1) * H + (p.line - 1)
structure OkP (H : Int) (p : Place) : Prop where
 line1 : 1 ≤ p.line
 lineH : p.line ≤ H
 col : 1 ≤ p.column
 lines : 1 ≤ p.lines
 few : p.lines ≤ 20
def Full (W : Int) (l : List entry) : Prop := ∀ e ∈ l, 1 ≤ linesOf W e.paragraph.text ∧ linesOf W e.paragraph.text ≤ 20
theorem Full.tail {W : Int} {e : entry} {l : List entry} (h : Full W (e :: l)) : Full W l := fun x hx => h x (List.mem_cons_of_mem _ hx)
theorem pos_at {H col li : Int} (hH : 0 < H) (a n : Int) : pos H ⟨a, col + li / H, li % H + 1, n⟩ = (col - 1) * H + li := by
 unfold pos
 have h1 := Int.mul_ediv_add_emod li H
 have h2 : (col + li / H - 1) * H = (col - 1) * H + H * (li / H) := by rw [show col + li / H - 1 = (col - 1) + li / H by omega, Int.add_mul, Int.mul_comm (li / H)]
 simp only []
 rw [h2]; omega
theorem rowL_nn {W : Int} : ∀ {l : List entry}, Full W l → 0 ≤ rowL W l
 | [], _ => Int.le_refl _
 | e :: l, h => by
  have h1 := rowL_nn h.tail
  have h2 := (h e List.mem_cons_self).1
  unfold rowL; split <;> omega
theorem rowP_ok {H W day col : Int} (hH : 0 < H) (hc : 1 ≤ col) : ∀ {l : List entry} {li no : Int}, Full W l → 0 ≤ li → ∀ q ∈ rowP H W day col li no l, OkP H q.place ∧ q.day = day ∧ (col - 1) * H + li ≤ pos H q.place ∧ pos H q.place + q.place.lines ≤ (col - 1) * H + li + rowL W l ∧ no < q.number
 | [], _, _, _, _, q, hq => by cases hq
 | e :: l, li, no, h, hl, q, hq => by
  have h2 := h e List.mem_cons_self
  unfold rowP at hq
  unfold rowL
  by_cases hr : e.removed = true
  ·rw [if_pos hr] at hq ⊢
   have := rowP_ok hH hc h.tail hl q hq
   simpa using this
  ·rw [if_neg hr] at hq ⊢
   have hn := rowL_nn h.tail
   rcases List.mem_cons.1 hq with rfl | hq
   ·have h3 := Int.emod_nonneg li (Int.ne_of_gt hH)
    have h4 := Int.emod_lt_of_pos li hH
    have h5 := Int.ediv_nonneg hl (Int.le_of_lt hH)
    rw [show (⟨e.paragraph.anchor, col + li / H, li % H + 1, linesOf W e.paragraph.text⟩ : Place) = ⟨e.paragraph.anchor, col + li / H, li % H + 1, linesOf W e.paragraph.text⟩ from rfl, pos_at hH]
    exact ⟨⟨by simp only []; omega, by simp only []; omega, by simp only []; omega, h2.1, h2.2⟩, rfl, Int.le_refl _, by simp only []; omega, by simp only []; omega⟩
   ·have := rowP_ok hH hc h.tail (by omega : 0 ≤ li + linesOf W e.paragraph.text) q hq
    exact ⟨this.1, this.2.1, by omega, by omega, by omega⟩
theorem col_up {H L col : Int} (hH : 0 < H) (hL : 0 ≤ L) : (col - 1) * H + L ≤ (col + (L + H - 1) / H - 1) * H ∧ 0 ≤ (L + H - 1) / H := by
 have h1 := Int.mul_ediv_add_emod (L + H - 1) H
 have h2 := Int.emod_lt_of_pos (L + H - 1) hH
 have h3 : (col + (L + H - 1) / H - 1) * H = (col - 1) * H + H * ((L + H - 1) / H) := by rw [show col + (L + H - 1) / H - 1 = (col - 1) + (L + H - 1) / H by omega, Int.add_mul, Int.mul_comm ((L + H - 1) / H)]
 refine ⟨by rw [h3]; omega, Int.ediv_nonneg (by omega) (Int.le_of_lt hH)⟩
theorem prints_ok {H W : Int} (hH : 0 < H) : ∀ {ps : List Part} {g : Grd} {col : Int}, 1 ≤ col → (∀ l ∈ g, Full W l) → ∀ q ∈ prints H W col ps g, OkP H q.place ∧ (∃ p ∈ ps, q.day = p.day) ∧ (col - 1) * H ≤ pos H q.place
 | [], _, _, _, _, q, hq => by unfold prints at hq; cases hq
 | _ :: _, [], _, _, _, q, hq => by unfold prints at hq; cases hq
 | p :: ps, l :: g, col, hc, hf, q, hq => by
  unfold prints at hq
  have hl := hf l List.mem_cons_self
  have hn := rowL_nn hl
  have hu := col_up (col := col) hH hn
  rcases List.mem_append.1 hq with hq | hq
  ·have := rowP_ok hH hc hl (Int.le_refl 0) q hq
   exact ⟨this.1, ⟨p, List.mem_cons_self, this.2.1⟩, by omega⟩
  ·obtain ⟨h1, ⟨p', hp, hd⟩, h3⟩ := prints_ok hH (by omega) (fun m hm => hf m (List.mem_cons_of_mem _ hm)) q hq
   exact ⟨h1, ⟨p', List.mem_cons_of_mem _ hp, hd⟩, by omega⟩
theorem rowP_ank {H W day col : Int} : ∀ {l : List entry} {li no : Int}, (rowP H W day col li no l).map (·.place.anchor) = (l.filter (fun e => !e.removed)).map (·.paragraph.anchor)
 | [], _, _ => rfl
 | e :: l, li, no => by
  unfold rowP
  cases hr : e.removed
  ·simp only [Bool.false_eq_true, if_false, List.map_cons, rowP_ank]
   rw [List.filter_cons_of_pos (by simp [hr])]; rfl
  ·simp only [if_true, rowP_ank]
   rw [List.filter_cons_of_neg (by simp [hr])]
theorem prints_ank {H W : Int} : ∀ {ps : List Part} {g : Grd} {col : Int}, g.length = ps.length → (prints H W col ps g).map (·.place.anchor) = (readE g).map (·.anchor)
 | [], [], _, _ => by unfold prints; rfl
 | p :: ps, l :: g, col, h => by
  unfold prints readE
  have ih := prints_ank (H := H) (W := W) (ps := ps) (g := g) (col := col + (rowL W l + H - 1) / H) (by simpa using h)
  rw [List.map_append, ih, rowP_ank]
  unfold readE
  simp [List.map_map]
 | [], _ :: _, _, h => by simp at h
 | _ :: _, [], _, h => by simp at h
end T10
namespace T10
open Go Go.Proofs Pk
theorem set_at {α : Type} {l : List α} {k : Nat} {x y : α} (h : l[k]? = some x) : l.take k ++ [y] ++ l.drop (k + 1) = l.set k y := by
 rw [List.set_eq_take_append_cons_drop, if_pos (lt_len h)]; simp
theorem set_same {α : Type} {l : List α} {k : Nat} {x : α} (h : l[k]? = some x) : l.set k x = l := by
 apply List.ext_getElem?
 intro j
 by_cases e : k = j
 ·subst e; rw [List.getElem?_set_self (lt_len h), h]
 ·rw [List.getElem?_set_ne e]
theorem goL_while (to : Int) : ∀ (l : List Erratum) (i : Nat) (g : Grd), (match goL (fun _ (x : Erratum) (g : Grd) => if to < x.day then .inr (.inr g) else .inl (stepG x g)) (fun g => (Sum.inl g : Grd ⊕ Grd)) l i g with | .inr z => some z | .inl t => some t) = some ((l.takeWhile fun x => decide (x.day ≤ to)).foldl (fun g x => stepG x g) g)
 | [], i, g => rfl
 | x :: l, i, g => by
  rw [goL_cons]
  by_cases c : to < x.day
  ·rw [if_pos c, List.takeWhile_cons_of_neg (by simp; omega)]; rfl
  ·rw [if_neg c, List.takeWhile_cons_of_pos (by simp; omega)]
   exact goL_while to l (i + 1) (stepG x g)
theorem Inv.small {v : Volume} {es : List Erratum} (h : Ok v es) {n : Nat} {g : Grd} (hi : Inv v es n g) (hn : n ≤ (sortE es).length) : g.flatten.length ≤ 50 ∧ g.length ≤ 6 := by
 have h1 := hi.len
 have h2 := (sortE_perm es).length_eq
 have h3 := h.err.few
 have h4 := hi.rows
 have h5 := h.vol.parts
 omega
theorem step35 {v : Volume} {es : List Erratum} (h : Ok v es) {to : Int} {i : Nat} {x : Erratum} (hx : (sortE es)[i]? = some x) {g : Grd} (hi : Inv v es i g) :
  m35_3 ([] ++ es) (sortE es) to (i, g) = some (if to < x.day then .inr (.inr g) else .inl (i + 1, stepG x g)) := by
 have hxe : x ∈ es := mem_sort.1 (List.mem_of_getElem? hx)
 have hk := right_kind (h.err.right x hxe)
 have hlt := lt_len hx
 have hlen := (sortE_perm es).length_eq
 obtain ⟨hb, hr⟩ := hi.small h (by omega)
 unfold m35_3
 simp only [List.nil_append]
 rw [if_pos (by omega), hx, Option.bind_some]
 by_cases c : to < x.day
 ·rw [if_pos c, if_pos c]; simp
 rw [if_neg c, if_neg c]
 obtain ⟨r, h1, h2⟩ := look35 (g := g) (x := x) (q := i) hi.once (by omega) (by omega)
 rw [h1]
 rcases h2 with ⟨rfl, hno⟩ | ⟨p, k, l, e, rfl, hl, he, ha⟩
 ·rw [stepG_no hno]; simp
 ·rw [stepG_at hi.once hl he ha]
  have hll := flat_len1 hl
  have hkl := lt_len he
  have hpl := lt_len hl
  simp only [Option.bind_some, if_true, m56, hl, he]
  rcases hk with k0 | k1 | k2
  ·rw [chk_t (by omega), if_pos k0]
   have hu : upd x e = [if e.removed then e else ⟨⟨e.paragraph.anchor, x.text⟩, e.removed⟩] := by unfold upd; rw [if_pos ha, if_pos k0]
   rw [hu, set_at he]
   cases hrm : e.removed
   ·simp
   ·simp only [if_true, Option.bind_some]
    rw [set_same he, set_same hl]; simp
  ·rw [chk_t (by omega), if_neg (by omega), if_pos k1]
   have hu : upd x e = [⟨e.paragraph, true⟩] := by unfold upd; rw [if_pos ha, if_neg (by omega), if_pos k1]
   rw [hu, set_at he]; simp
  ·rw [chk_t (by omega), if_neg (by omega), if_neg (by omega), if_pos k2]
   have hu : upd x e = [e, ⟨⟨x.new_, x.text⟩, false⟩] := by unfold upd; rw [if_pos ha, if_neg (by omega), if_neg (by omega)]
   rw [hu, chk_t (by omega), chk_t (by omega), chk_t (by omega)]
   rw [show ((k : Int) + 1).toNat = k + 1 by omega]
   have e1 : l.take (k + 1) = l.take k ++ [e] := by rw [List.take_succ, he]; rfl
   rw [e1]
   simp
theorem e35 {v : Volume} {es : List Erratum} (h : Ok v es) (to : Int) : m35 v es to = some ⟨v, after v es to⟩ := by
 have hlen := (sortE_perm es).length_eq
 have hfew := h.err.few
 have h2 : ∀ x ∈ v.parts, loopO (m35_2 x) (0, ([] : List entry)) = some (x.paragraphs.map fun p => ⟨p, false⟩) := fun x hx => by
  have hl := h.few.pars x hx
  exact loop_map x.paragraphs (fun p => (⟨p, false⟩ : entry)) (fun a => a) (step := m35_2 x) (fun i p a hi hp ha => by
   unfold m35_2
   rw [if_pos (by omega)]
   simp only [hp, Option.bind_some]
   rw [chk_t (by omega)]) (fun a => by unfold m35_2; simp)
 have h1 : loopO (m35_1 v) (0, ([] : List (List entry))) = some (initG v) := loop_map v.parts (fun p => p.paragraphs.map fun x => (⟨x, false⟩ : entry)) (fun a => a) (step := m35_1 v) (fun i x a hi hx ha => by
  have hl := h.few.parts
  unfold m35_1
  rw [if_pos (by omega)]
  simp only [hx, Option.bind_some, h2 x (List.mem_of_getElem? hx)]
  rw [chk_t (by omega)]) (fun a => by unfold m35_1; simp)
 have h3 := loop_l (sortE es) (fun _ (x : Erratum) (g : Grd) => if to < x.day then .inr (.inr g) else .inl (stepG x g)) (fun g => (Sum.inl g : Grd ⊕ Grd)) (Inv v es) (step := m35_3 ([] ++ es) (sortE es) to) (fun i x g hi hx hI => by
  rw [step35 h hx hI]
  by_cases c : to < x.day <;> simp [c]) (fun i x g g' hi hx hI hg => by
  by_cases c : to < x.day
  ·rw [if_pos c] at hg; cases hg
  ·rw [if_neg c] at hg; cases hg; exact inv_step h hx hI) (fun g hI => by unfold m35_3; rw [if_neg (by simp; omega)]) (a0 := initG v) (inv_init h)
 unfold m35
 rw [h1, Option.bind_some, chk_t (by simp; omega)]
 simp only [Option.bind_some]
 rw [show ([] ++ es : List Erratum) = es from rfl] at h3
 simp only [List.nil_append]
 rw [sort_es (by omega) h.err.once, Option.bind_some, h3, Option.bind_some]
 exact congrArg (fun o : Option Grd => Option.bind o fun t => some (⟨v, t⟩ : edition)) (goL_while to (sortE es) 0 (initG v))
theorem loop13 {v : Volume} {g : Grd} {n : Nat} (hb : g.flatten.length ≤ 1000) : loopO (m13_1 ⟨v, g⟩) (0, ([] : List Paragraph)) = some (readE g) := by
 have h2 : ∀ (l : List entry) (a : List Paragraph), a.length + l.length ≤ 100000 → loopO (m13_2 l) (0, a) = some (a ++ (l.filter (fun e => !e.removed)).map (·.paragraph)) := fun l a hl => by
  have := loop_fold l (fun a e => a ++ if e.removed then [] else [e.paragraph]) (fun a => a) (fun i b => b.length ≤ a.length + i) (step := m13_2 l) (fun i e b hi he hb => by
   unfold m13_2
   rw [if_pos (by simp only []; omega)]
   simp only [he, Option.bind_some]
   cases e.removed
   ·rw [if_neg (by simp), chk_t (by omega)]; simp
   ·rw [if_pos rfl]; simp) (fun i e b hi he hb => by cases e.removed <;> simp <;> omega) (fun b hb => by unfold m13_2; simp) (a0 := a) (by simp)
  rw [this, foldl_append (fun e : entry => if e.removed then [] else [e.paragraph])]
  congr 1
  congr 1
  clear this hl
  induction l with
  | nil => rfl
  | cons e l ih =>
   rw [List.flatMap_cons, ih]
   cases hr : e.removed
   ·rw [List.filter_cons_of_pos (by simp [hr])]; rfl
   ·rw [List.filter_cons_of_neg (by simp [hr])]; rfl
 have h1 := loop_fold g (fun a l => a ++ (l.filter (fun e => !e.removed)).map (·.paragraph)) (fun a => a) (fun i a => a.length ≤ (g.take i).flatten.length) (step := m13_1 ⟨v, g⟩) (fun i l a hi hl ha => by
  have h4 : (g.take i).flatten.length ≤ g.flatten.length := by
   have : g.flatten = (g.take i).flatten ++ (g.drop i).flatten := by rw [← List.flatten_append, List.take_append_drop]
   rw [this]; simp
  have h5 := flat_len1 hl
  unfold m13_1
  rw [if_pos (by simp only []; omega)]
  simp only [hl, Option.bind_some]
  rw [h2 l a (by omega)]; simp) (fun i l a hi hl ha => by
  rw [List.take_succ, hl]
  simp only [List.length_append, List.length_map, Option.toList_some, List.flatten_append, List.flatten_cons, List.flatten_nil, List.append_nil]
  have := List.length_filter_le (fun e : entry => !e.removed) l
  omega) (fun a ha => by unfold m13_1; simp) (a0 := []) (by simp)
 rw [h1, foldl_append (fun l : List entry => (l.filter (fun e => !e.removed)).map (·.paragraph))]
 congr 1
 unfold readE
 rw [List.nil_append, List.filter_flatten, List.map_flatten, List.flatMap_def, List.map_map]; rfl
theorem e13 {v : Volume} {es : List Erratum} (h : Ok v es) {d : Int} (h0 : 0 ≤ d) (h1 : d ≤ 99999) : m13 v es d = some (readE (after v es d), 0) := by
 obtain ⟨hb, _⟩ := (inv_after h d).small h upto_len
 unfold m13
 rw [e33 h, Option.bind_some, if_neg (by simp), e34, Option.bind_some, if_pos (In_iff.2 ⟨h0, h1⟩), e35 h, Option.bind_some, loop13 (n := 0) (by omega)]
 rfl
end T10
namespace T10
open Go Go.Proofs Pk
theorem loop_g {α σ ε S : Type} (f : Nat → σ → S) (l : List α) (g : σ → α → σ) (out : σ → ε) (I : Nat → σ → Prop) {step : S → Option (S ⊕ ε)}
  (hs : ∀ i x a, i < l.length → l[i]? = some x → I i a → step (f i a) = some (.inl (f (i + 1) (g a x))))
  (hI : ∀ i x a, i < l.length → l[i]? = some x → I i a → I (i + 1) (g a x))
  (he : ∀ a, I l.length a → step (f l.length a) = some (.inr (out a))) {a0 : σ} (h0 : I 0 a0) : loopO step (f 0 a0) = some (out (l.foldl g a0)) := by
 have key : ∀ k i a, l.length - i = k → i ≤ l.length → I i a → loopO step (f i a) = some (out ((l.drop i).foldl g a)) := by
  intro k
  induction k with
  | zero =>
   intro i a hk hi hIa
   obtain rfl : i = l.length := by omega
   rw [loopO_out (he a hIa), List.drop_length]; rfl
  | succ k ih =>
   intro i a hk hi hIa
   have hlt : i < l.length := by omega
   have hx : l[i]? = some l[i] := List.getElem?_eq_getElem hlt
   rw [List.drop_eq_getElem_cons hlt, loopO_next (hs i _ a hlt hx hIa), ih (i + 1) _ (by omega) (by omega) (hI i _ a hlt hx hIa)]; rfl
 have := key l.length 0 a0 (by omega) (by omega) h0
 simpa using this
theorem right_txt {x : Erratum} (h : right x = true) (k : x.kind ≠ 1) : txt x.text = true := by
 unfold right at h
 simp only [Bool.and_eq_true] at h
 obtain ⟨_, h⟩ := h
 by_cases k0 : x.kind = 0
 ·rw [if_pos k0] at h; simp only [Bool.and_eq_true] at h; exact h.1
 ·rw [if_neg k0, if_neg k] at h; simp only [Bool.and_eq_true] at h; exact h.1.2
theorem right_new {x : Erratum} (h : right x = true) (k : x.kind = 2) : In x.new_ 1 999 = true := by
 unfold right at h
 simp only [Bool.and_eq_true] at h
 obtain ⟨_, h⟩ := h
 rw [if_neg (by omega), if_neg (by omega)] at h
 simp only [Bool.and_eq_true] at h; exact h.2
def okT (e : entry) : Prop := txt e.paragraph.text = true ∧ In e.paragraph.anchor 1 999 = true
theorem upd_okT {x : Erratum} (hr : right x = true) {e : entry} (he : okT e) : ∀ y ∈ upd x e, okT y := by
 intro y hy
 unfold upd at hy
 split at hy
 ·split at hy
  ·rename_i k0
   obtain rfl := List.mem_singleton.1 hy
   split
   ·exact he
   ·exact ⟨right_txt hr (by omega), he.2⟩
  ·split at hy
   ·obtain rfl := List.mem_singleton.1 hy; exact he
   ·rename_i k0 k1
    simp only [List.mem_cons, List.not_mem_nil, or_false] at hy
    rcases hy with rfl | rfl
    ·exact he
    ·exact ⟨right_txt hr k1, right_new hr (by rcases right_kind hr with h | h | h <;> omega)⟩
 ·obtain rfl := List.mem_singleton.1 hy; exact he
theorem steps_okT : ∀ (l : List Erratum) (g : Grd), (∀ x ∈ l, right x = true) → (∀ e ∈ g.flatten, okT e) → ∀ e ∈ (l.foldl (fun g x => stepG x g) g).flatten, okT e
 | [], g, _, h => h
 | x :: l, g, hl, h => by
  refine steps_okT l (stepG x g) (fun y hy => hl y (List.mem_cons_of_mem _ hy)) (fun e he => ?_)
  rw [stepG_flat] at he
  obtain ⟨f, hf, he⟩ := List.mem_flatMap.1 he
  exact upd_okT (hl x List.mem_cons_self) (h f hf) e he
theorem upto_mem {es : List Erratum} {d : Int} {x : Erratum} (h : x ∈ upto es d) : x ∈ es ∧ x.day ≤ d := by
 unfold upto at h
 refine ⟨mem_sort.1 ((List.takeWhile_prefix _).subset h), ?_⟩
 have := List.all_eq_true.1 (List.all_takeWhile (p := fun x : Erratum => decide (x.day ≤ d)) (l := sortE es)) x h
 simpa using this
theorem after_okT {v : Volume} {es : List Erratum} (h : Ok v es) (d : Int) : ∀ e ∈ (after v es d).flatten, okT e := by
 refine steps_okT _ _ (fun x hx => h.err.right x (upto_mem hx).1) (fun e he => ?_)
 rw [init_flat] at he
 obtain ⟨p, hp, rfl⟩ := List.mem_map.1 he
 have := h.vol.par p hp
 unfold okP at this
 rw [Bool.and_eq_true] at this
 exact ⟨this.2, this.1⟩
theorem txt_len {s : Bytes} (h : txt s = true) : 1 ≤ s.length ∧ s.length ≤ 200 := by
 unfold txt at h
 rw [Bool.and_eq_true] at h
 have := In_iff.1 h.1; omega
theorem lines_ok {w : Int} (hw : 10 ≤ w) {s : Bytes} (h : txt s = true) : 1 ≤ linesOf w s ∧ linesOf w s ≤ 20 := by
 have := txt_len h
 unfold linesOf
 constructor
 ·exact Int.le_ediv_of_mul_le (by omega) (by omega)
 ·have : ((s.length : Int) + w - 1) / w < 21 := Int.ediv_lt_of_lt_mul (by omega) (by omega)
  omega
theorem full_after {v : Volume} {es : List Erratum} (h : Ok v es) (d : Int) : ∀ l ∈ after v es d, Full v.width l := fun l hl e he => lines_ok (In_iff.1 h.vol.width).1 (after_okT h d e (List.mem_flatten.2 ⟨l, hl, he⟩)).1
theorem rowL_le {W : Int} : ∀ {l : List entry}, Full W l → rowL W l ≤ 20 * l.length
 | [], _ => by simp [rowL]
 | e :: l, h => by
  have h1 := rowL_le h.tail
  have h2 := (h e List.mem_cons_self)
  unfold rowL; rw [List.length_cons]; split <;> omega
theorem rowP_cons {H W day col li no : Int} {e : entry} {l : List entry} : rowP H W day col li no (e :: l) = if e.removed then rowP H W day col li no l else ⟨⟨e.paragraph.anchor, col + li / H, li % H + 1, linesOf W e.paragraph.text⟩, day, no + 1⟩ :: rowP H W day col (li + linesOf W e.paragraph.text) (no + 1) l := rfl
def rowF (H W day col : Int) (a : Nat × Int × List printed) (e : entry) : Nat × Int × List printed :=
 if e.removed then a else (a.1 + 1, a.2.1 + linesOf W e.paragraph.text, a.2.2 ++ [⟨⟨e.paragraph.anchor, col + a.2.1 / H, a.2.1 % H + 1, linesOf W e.paragraph.text⟩, day, (a.1 : Int) + 1⟩])
theorem rowF_fold {H W day col : Int} : ∀ (l : List entry) (a : Nat × Int × List printed), (l.foldl (rowF H W day col) a).2 = (a.2.1 + rowL W l, a.2.2 ++ rowP H W day col a.2.1 a.1 l)
 | [], a => by simp [rowL, rowP]
 | e :: l, a => by
  rw [List.foldl_cons, rowF_fold l]
  rw [show rowL W (e :: l) = (if e.removed then 0 else linesOf W e.paragraph.text) + rowL W l from rfl, rowP_cons]
  unfold rowF
  cases e.removed
  ·simp [Int.add_assoc]
  ·simp
theorem loop37 {v : Volume} (hH : 1 ≤ v.height ∧ v.height ≤ 60) (hW : 10 ≤ v.width ∧ v.width ≤ 80) {l : List entry} (hl : l.length ≤ 50) (ht : ∀ e ∈ l, okT e) {i : Nat} {p : Part} (hp : v.parts[i]? = some p) {col : Int} (hc : 1 ≤ col ∧ col ≤ 100000) {out : List printed} (ho : out.length ≤ 100000) :
  loopO (m37_2 l v (i, col, out)) (0, 0, 0, out) = some (rowL v.width l, out ++ rowP v.height v.width p.day col 0 0 l) := by
 have := loop_g (fun i (a : Nat × Int × List printed) => (a.1, i, a.2.1, a.2.2)) l (rowF v.height v.width p.day col) (fun a => (a.2.1, a.2.2)) (fun i a => a.1 ≤ i ∧ 0 ≤ a.2.1 ∧ a.2.1 ≤ 20 * i ∧ a.2.2.length ≤ out.length + i) (step := m37_2 l v (i, col, out)) (fun j e a hj he hI => by
  obtain ⟨i1, i2, i3, i4⟩ := hI
  have hte := ht e (List.mem_of_getElem? he)
  have htl := txt_len hte.1
  have hln := lines_ok hW.1 hte.1
  unfold linesOf at hln
  have d1 := Int.ediv_nonneg i2 (by omega : 0 ≤ v.height)
  have d2 : a.2.1 / v.height ≤ a.2.1 := Int.ediv_le_self _ i2
  have d3 := Int.emod_nonneg a.2.1 (by omega : v.height ≠ 0)
  have d4 := Int.emod_lt_of_pos a.2.1 (by omega : 0 < v.height)
  unfold m37_2 rowF linesOf
  simp only []
  rw [if_pos (by omega), he]
  simp only [Option.bind_some]
  cases hr : e.removed
  ·rw [if_neg (by simp), if_neg (by simp)]
   rw [chk_t (by omega), chk_t (by omega), chk_t (by omega), chk_t (by omega), chk_t (by omega), chk_t (by omega), chk_t (by omega), chk_t (by omega), hp]
   simp only [Option.bind_some]
   rw [chk_t (by simp; omega), chk_t (by omega)]
   rfl
  ·rfl) (fun j e a hj he hI => by
  obtain ⟨i1, i2, i3, i4⟩ := hI
  have hte := ht e (List.mem_of_getElem? he)
  have hln := lines_ok hW.1 hte.1
  unfold rowF
  cases e.removed
  ·rw [if_neg (by simp)]
   simp only [List.length_append, List.length_singleton]
   omega
  ·rw [if_pos rfl]; omega) (fun a hI => by unfold m37_2; simp) (a0 := (0, 0, out)) (by simp)
 simp only [] at this
 rw [this]
 have h2 := rowF_fold (H := v.height) (W := v.width) (day := p.day) (col := col) l (0, 0, out)
 show some (l.foldl (rowF v.height v.width p.day col) (0, 0, out)).2 = _
 rw [h2]; simp
def prF (H W : Int) (a : Int × List printed) (x : Part × List entry) : Int × List printed := (a.1 + (rowL W x.2 + H - 1) / H, a.2 ++ rowP H W x.1.day a.1 0 0 x.2)
theorem prF_fold {H W : Int} : ∀ (ps : List Part) (g : Grd) (a : Int × List printed), ((ps.zip g).foldl (prF H W) a).2 = a.2 ++ prints H W a.1 ps g
 | [], g, a => by unfold prints; simp
 | p :: ps, [], a => by unfold prints; simp
 | p :: ps, l :: g, a => by
  rw [List.zip_cons_cons, List.foldl_cons, prF_fold ps g]
  conv => rhs; unfold prints
  unfold prF; simp
theorem zip_at {α β : Type} {a : List α} {b : List β} {i : Nat} {x : α × β} (h : (a.zip b)[i]? = some x) : a[i]? = some x.1 ∧ b[i]? = some x.2 := by
 rw [List.getElem?_zip_eq_some] at h; exact h
theorem rowP_len {H W day col : Int} : ∀ {l : List entry} {li no : Int}, (rowP H W day col li no l).length ≤ l.length
 | [], _, _ => Nat.le_refl _
 | e :: l, li, no => by
  unfold rowP
  split
  ·exact Nat.le_succ_of_le rowP_len
  ·simp only [List.length_cons]; exact Nat.succ_le_succ rowP_len
theorem e37 {v : Volume} {es : List Erratum} (h : Ok v es) : m37 v es = some (printE v es) := by
 have hH := In_iff.1 h.vol.height
 have hW := In_iff.1 h.vol.width
 have hi := inv_after h v.bound
 obtain ⟨hb, hg⟩ := hi.small h upto_len
 have hrows := hi.rows
 have hzl : (v.parts.zip (after v es v.bound)).length = (after v es v.bound).length := by rw [List.length_zip]; omega
 have h1 := loop_g (fun i (a : Int × List printed) => (i, a.1, a.2)) (v.parts.zip (after v es v.bound)) (prF v.height v.width) (fun a => a.2) (fun i a => 1 ≤ a.1 ∧ a.1 ≤ 1 + 2000 * i ∧ a.2.length ≤ 50 * i) (step := m37_1 ⟨v, after v es v.bound⟩ v) (fun i x a hlt hx hI => by
  obtain ⟨hp, hl⟩ := zip_at hx
  have hll := flat_len1 hl
  have hfl := full_after h v.bound _ (List.mem_of_getElem? hl)
  have hn := rowL_nn hfl
  have hle := rowL_le hfl
  have d1 := Int.ediv_nonneg (by omega : 0 ≤ rowL v.width x.2 + v.height - 1) (by omega : 0 ≤ v.height)
  have d2 : (rowL v.width x.2 + v.height - 1) / v.height ≤ rowL v.width x.2 + v.height - 1 := Int.ediv_le_self _ (by omega)
  unfold m37_1
  simp only []
  rw [if_pos (by omega), hl]
  simp only [Option.bind_some]
  rw [loop37 hH hW (by omega) (fun e he => after_okT h _ e (List.mem_flatten.2 ⟨_, List.mem_of_getElem? hl, he⟩)) hp (by omega) (by omega)]
  simp only [Option.bind_some]
  rw [chk_t (by omega), chk_t (by omega), chk_t (by omega), chk_t (by omega)]
  rfl) (fun i x a hlt hx hI => by
  obtain ⟨hp, hl⟩ := zip_at hx
  have hll := flat_len1 hl
  have hfl := full_after h v.bound _ (List.mem_of_getElem? hl)
  have hn := rowL_nn hfl
  have hle := rowL_le hfl
  have d1 := Int.ediv_nonneg (by omega : 0 ≤ rowL v.width x.2 + v.height - 1) (by omega : 0 ≤ v.height)
  have d2 : (rowL v.width x.2 + v.height - 1) / v.height ≤ rowL v.width x.2 + v.height - 1 := Int.ediv_le_self _ (by omega)
  have hr := rowP_len (H := v.height) (W := v.width) (day := x.1.day) (col := a.1) (l := x.2) (li := 0) (no := 0)
  unfold prF
  simp only [List.length_append]
  omega) (fun a hI => by unfold m37_1; simp [hzl]) (a0 := (1, [])) (by simp)
 simp only [] at h1
 unfold m37
 rw [e35 h, Option.bind_some, h1, prF_fold]
 rfl
theorem printE_len {v : Volume} {es : List Erratum} (h : Ok v es) : (printE v es).length ≤ 50 := by
 have hi := inv_after h v.bound
 obtain ⟨hb, hg⟩ := hi.small h upto_len
 have h1 := congrArg List.length (prints_ank (H := v.height) (W := v.width) (col := 1) hi.rows)
 rw [List.length_map, List.length_map] at h1
 unfold printE
 rw [h1]
 unfold readE
 rw [List.length_map]
 exact Nat.le_trans (List.length_filter_le _ _) hb
theorem e17 {v : Volume} {es : List Erratum} (h : Ok v es) : m17 v es = some ((printE v es).map (·.place), 0) := by
 have hl := printE_len h
 have h1 := loop_map (printE v es) (·.place) (fun a => a) (step := m17_1 (printE v es)) (fun i x a hi hx ha => by
  unfold m17_1
  rw [if_pos (by omega)]
  simp only [hx, Option.bind_some]
  rw [chk_t (by omega)]) (fun a => by unfold m17_1; simp)
 unfold m17
 rw [e33 h, Option.bind_some, if_neg (by simp), e37 h, Option.bind_some, h1]; rfl
end T10
namespace T10
open Go Go.Proofs Pk
theorem prints_few {H W : Int} (hH : 1 ≤ H ∧ H ≤ 60) : ∀ {ps : List Part} {g : Grd} {col : Int}, (∀ l ∈ g, Full W l) → ∀ q ∈ prints H W col ps g, q.place.column ≤ col + 20 * (g.flatten.length : Int) + 60 * (g.length : Int) ∧ q.number ≤ g.flatten.length ∧ 1 ≤ q.number
 | [], _, _, _, q, hq => by unfold prints at hq; cases hq
 | _ :: _, [], _, _, q, hq => by unfold prints at hq; cases hq
 | p :: ps, l :: g, col, hf, q, hq => by
  unfold prints at hq
  have hl := hf l List.mem_cons_self
  have hn := rowL_nn hl
  have hle := rowL_le hl
  have d2 : (rowL W l + H - 1) / H ≤ rowL W l + H - 1 := Int.ediv_le_self _ (by omega)
  simp only [List.flatten_cons, List.length_append, List.length_cons]
  rcases List.mem_append.1 hq with hq | hq
  ·have key : ∀ (l : List entry) (li no : Int), Full W l → 0 ≤ li → ∀ q ∈ rowP H W p.day col li no l, q.place.column ≤ col + li + rowL W l ∧ q.number ≤ no + l.length ∧ no + 1 ≤ q.number := by
    intro l
    induction l with
    | nil => intro li no _ _ q hq; cases hq
    | cons e l ih =>
     intro li no h hli q hq
     rw [rowP_cons] at hq
     have h2 := (h e List.mem_cons_self)
     have hn := rowL_nn h.tail
     have e1 : rowL W (e :: l) = (if e.removed then 0 else linesOf W e.paragraph.text) + rowL W l := rfl
     cases hr : e.removed
     ·rw [hr] at hq e1
      simp only [Bool.false_eq_true, if_false, List.mem_cons] at hq e1
      rcases hq with rfl | hq
      ·have : li / H ≤ li := Int.ediv_le_self _ hli
       simp only [List.length_cons]
       omega
      ·have := ih _ _ h.tail (by omega) q hq
       simp only [List.length_cons]; omega
     ·rw [hr] at hq e1
      simp only [if_true] at hq e1
      have := ih _ _ h.tail hli q hq
      simp only [List.length_cons]; omega
   have := key l 0 0 hl (Int.le_refl 0) q hq
   omega
  ·have := prints_few hH (fun m hm => hf m (List.mem_cons_of_mem _ hm)) q hq
   omega
structure OkQ (v : Volume) (q : printed) : Prop where
 place : OkP v.height q.place
 col : q.place.column ≤ 2000
 number : 1 ≤ q.number ∧ q.number ≤ 50
 day : 0 ≤ q.day ∧ q.day ≤ 99999
 anchor : 1 ≤ q.place.anchor ∧ q.place.anchor ≤ 999
theorem read_ok {v : Volume} {es : List Erratum} (h : Ok v es) {d : Int} {p : Paragraph} (hp : p ∈ readE (after v es d)) : ∃ e ∈ (after v es d).flatten, e.removed = false ∧ e.paragraph = p := by
 unfold readE at hp
 obtain ⟨e, he, rfl⟩ := List.mem_map.1 hp
 obtain ⟨h1, h2⟩ := List.mem_filter.1 he
 exact ⟨e, h1, by simpa using h2, rfl⟩
theorem printE_ok {v : Volume} {es : List Erratum} (h : Ok v es) : ∀ q ∈ printE v es, OkQ v q := by
 intro q hq
 have hH := In_iff.1 h.vol.height
 have hi := inv_after h v.bound
 obtain ⟨hb, hg⟩ := hi.small h upto_len
 have hf := full_after h v.bound
 obtain ⟨h1, ⟨p, hp, hd⟩, _⟩ := prints_ok (H := v.height) (W := v.width) (by omega) (col := 1) (by omega) hf q hq
 have h2 := prints_few hH hf q hq
 obtain ⟨i, hpi⟩ := List.getElem?_of_mem hp
 have h3 := In_iff.1 (h.vol.day i p hpi).1
 have h4 := In_iff.1 h.vol.bound
 have ha : q.place.anchor ∈ (printE v es).map (·.place.anchor) := List.mem_map.2 ⟨q, hq, rfl⟩
 unfold printE at ha
 rw [prints_ank hi.rows] at ha
 obtain ⟨p', hp', e'⟩ := List.mem_map.1 ha
 obtain ⟨e, he, _, rfl⟩ := read_ok h hp'
 have h5 := In_iff.1 (after_okT h _ e he).2
 exact ⟨h1, by omega, by omega, by omega, by omega⟩
def citeP (v : Volume) (s : Int) (p : printed) : Bytes := if s = 0 then citeC v.number p.place.column p.place.line else citeN v.number p.day p.number
theorem e38C {v c l : Int} (hv : 0 ≤ v ∧ v ≤ 999999) (hc : 0 ≤ c ∧ c ≤ 999999) (hl : 0 ≤ l ∧ l ≤ 999999) : m38 [.s sVol, .i v, .s sCol, .i c, .s sL, .i l] = some (citeC v c l) := by
 have e1 : spell [.s sVol, .i v, .s sCol, .i c, .s sL, .i l] = citeC v c l := by simp [spell, anyB, citeC]
 have := itoa_len hv.1 (by omega)
 have := itoa_len hc.1 (by omega)
 have := itoa_len hl.1 (by omega)
 unfold m38
 rw [e1, chk_t]
 refine ⟨?_, by unfold citeC; simp only [List.length_append, List.length_cons, List.length_nil]; omega⟩
 simp [anyOk]; omega
theorem e38N {v c l : Int} (hv : 0 ≤ v ∧ v ≤ 999999) (hc : 0 ≤ c ∧ c ≤ 999999) (hl : 0 ≤ l ∧ l ≤ 999999) : m38 [.s sVol, .i v, .s sCm, .i c, .s sPar, .i l] = some (citeN v c l) := by
 have e1 : spell [.s sVol, .i v, .s sCm, .i c, .s sPar, .i l] = citeN v c l := by simp [spell, anyB, citeN]
 have := itoa_len hv.1 (by omega)
 have := itoa_len hc.1 (by omega)
 have := itoa_len hl.1 (by omega)
 unfold m38
 rw [e1, chk_t]
 refine ⟨?_, by unfold citeN; simp only [List.length_append, List.length_cons, List.length_nil]; omega⟩
 simp [anyOk]; omega
theorem goN_findS {α ε : Type} (p : α → Bool) (f : α → ε) (out : ε) : ∀ (l : List α) (i : Nat), goN (fun _ x => if p x then some (f x) else none) out l i = match l.find? p with | some x => f x | none => out
 | [], i => rfl
 | x :: l, i => by
  unfold goN
  rw [List.find?_cons]
  cases hp : p x
  ·simp only [Bool.false_eq_true, if_false]; exact goN_findS p f out l (i + 1)
  ·simp
theorem e20P {v : Volume} {es : List Erratum} (h : Ok v es) (a : Int) {s : Int} (hs : s = 0 ∨ s = 1) (to : Int) : m20 v es a s to = some (match (printE v es).find? (fun p => decide (p.place.anchor = a)) with | some p => (citeP v s p, 0) | none => ([], 7)) := by
 have hv := In_iff.1 h.vol.number
 have hok := printE_ok h
 have hH := In_iff.1 h.vol.height
 have h1 := loop_n (printE v es) (fun _ p => if decide (p.place.anchor = a) then some (.inr (citeP v s p, 0)) else none) (.inl () : Unit ⊕ (Bytes × Int)) (step := m20_1 (printE v es) a s v) (fun i p hi hp => by
  have ok := hok p (List.mem_of_getElem? hp)
  have o1 := ok.place.line1
  have o2 := ok.place.lineH
  have o3 := ok.place.col
  have o4 := ok.col
  have o5 := ok.number
  have o6 := ok.day
  unfold m20_1
  rw [if_pos (by omega), hp, Option.bind_some]
  by_cases c : p.place.anchor = a
  ·rw [if_neg (by simpa using c)]
   rcases hs with rfl | rfl
   ·rw [if_pos rfl, e38C (by omega) (by omega) (by omega)]; simp [c, citeP]
   ·rw [if_neg (by decide), e38N (by omega) (by omega) (by omega)]; simp [c, citeP]
  ·rw [if_pos c]; simp [c]) (by unfold m20_1; simp)
 unfold m20
 rw [e33 h, Option.bind_some, if_neg (by simp), if_neg (by omega), if_neg (by omega)]
 simp only [Option.bind_some, Bool.false_eq_true, if_false]
 rw [if_neg (by omega), e37 h, Option.bind_some, h1, goN_findS]
 cases (printE v es).find? (fun p => decide (p.place.anchor = a)) <;> rfl
end T10
namespace T10
open Go Go.Proofs Pk
abbrev sCo : Bytes := [99, 111, 108, 46, 32]
theorem n87 {n : Int} (h : 0 ≤ n ∧ n ≤ 999999) : m87 (Lib.itoa n) = some (n, false) := by
 have := itoa_len h.1 (by omega)
 unfold m87 atoiM
 rw [chk_t (by omega), atoi_itoa h.1 (by omega)]
theorem n58 {n : Int} (h : 0 ≤ n ∧ n ≤ 999999) : m58 n = some (Lib.itoa n) := by unfold m58 itoaM; rw [chk_t (by omega)]
theorem n40 {n : Int} (h : 0 ≤ n ∧ n ≤ 999999) : m40 n 0 999999 = some true := by rw [e40, In_iff.2 h]
theorem n86 {l r t : Bytes} {c : UInt8} (h : c ∉ l) (hb : l.length + t.length + r.length ≤ 1000000) : m86 (l ++ (c :: t ++ r)) (c :: t) = some (l, r, true) := by
 unfold m86
 rw [chk_t (by simp; omega), cut_at h]
theorem n88 (p r : Bytes) : m88 (p ++ r) p = some (r, true) := by
 unfold m88 Lib.trimPrefix Lib.hasPrefix
 rw [isPre_self]; simp
theorem c44 {n : Int} (h : 0 ≤ n) : (44 : UInt8) ∉ Lib.itoa n := itoa_no h (by decide)
theorem e61C {v c l : Int} (hv : 0 ≤ v ∧ v ≤ 999999) (hc : 0 ≤ c ∧ c ≤ 999999) (hl : 0 ≤ l ∧ l ≤ 999999) : m61 (citeC v c l) = some (.inl ⟨0, ⟨v, c, l⟩⟩) := by
 have l1 := itoa_len hv.1 (by omega)
 have l2 := itoa_len hc.1 (by omega)
 have l3 := itoa_len hl.1 (by omega)
 have h89 : m89 (citeC v c l) sCo = some true := by
  unfold m89
  rw [chk_t (by unfold citeC; simp only [List.length_append, List.length_cons, List.length_nil]; omega)]
  have : citeC v c l = (sVol ++ (Lib.itoa v ++ [44, 32])) ++ (sCo ++ (Lib.itoa c ++ (sL ++ Lib.itoa l))) := by unfold citeC; simp
  rw [this, contains_app]
 have h88 : m88 (citeC v c l) sVol = some (Lib.itoa v ++ (sCol ++ (Lib.itoa c ++ (sL ++ Lib.itoa l))), true) := n88 _ _
 have h1 : m86 (Lib.itoa v ++ (sCol ++ (Lib.itoa c ++ (sL ++ Lib.itoa l)))) sCol = some (Lib.itoa v, Lib.itoa c ++ (sL ++ Lib.itoa l), true) := n86 (c44 hv.1) (by simp only [List.length_append, List.length_cons, List.length_nil]; omega)
 have h2 : m86 (Lib.itoa c ++ (sL ++ Lib.itoa l)) sL = some (Lib.itoa c, Lib.itoa l, true) := n86 (c44 hc.1) (by simp only [List.length_append, List.length_cons, List.length_nil]; omega)
 unfold m61
 rw [h88]
 simp only [Option.bind_some, if_true, h89, h1, h2, n87 hv, n87 hc, n87 hl, n58 hv, n58 hc, n58 hl, n40 hv, n40 hc, n40 hl, ne_eq, not_true_eq_false, if_false, Bool.false_eq_true, Bool.not_true]
def hits (v : Volume) (c : cited) (p : printed) : Bool := (if c.style = 0 then In c.numbers.e2 1 v.height && In ((c.numbers.e1 - p.place.column) * v.height + c.numbers.e2 - p.place.line) 0 (p.place.lines - 1) else decide (p.day = c.numbers.e1) && decide (p.number = c.numbers.e2)) && decide (c.numbers.e0 = v.number)
theorem mul_bd {a b : Int} (ha : -1000000 ≤ a ∧ a ≤ 1000000) (hb : 0 ≤ b ∧ b ≤ 60) : -60000000 ≤ a * b ∧ a * b ≤ 60000000 := by
 constructor
 ·have := Int.mul_le_mul_of_nonneg_right ha.1 hb.1
  omega
 ·have := Int.mul_le_mul_of_nonneg_right ha.2 hb.1
  omega
theorem e21P {v : Volume} {es : List Erratum} (h : Ok v es) {s : Bytes} {c : cited} (hc : m39 s = some (c, true)) (hs : c.style ≠ 2) (h1 : 0 ≤ c.numbers.e1 ∧ c.numbers.e1 ≤ 999999) (h2 : 0 ≤ c.numbers.e2 ∧ c.numbers.e2 ≤ 999999) : m21 v es s = some (match (printE v es).find? (hits v c) with | some p => (p.place.anchor, v.bound, 0) | none => (0, 0, 7)) := by
 have hok := printE_ok h
 have hH := In_iff.1 h.vol.height
 have g1 := loop_n (printE v es) (fun _ p => if hits v c p then some (.inr (p.place.anchor, v.bound, 0)) else none) (.inl () : Unit ⊕ (Int × Int × Int)) (step := m21_1 (printE v es) (c, true) v) (fun i p hi hp => by
  have ok := hok p (List.mem_of_getElem? hp)
  have o1 := ok.place.line1
  have o2 := ok.place.lineH
  have o3 := ok.place.col
  have o4 := ok.col
  have o7 := ok.place.lines
  have o8 := ok.place.few
  have hm := mul_bd (a := c.numbers.e1 - p.place.column) (b := v.height) (by omega) (by omega)
  unfold m21_1
  rw [if_pos (by omega), hp, Option.bind_some]
  simp only []
  rw [chk_t (by omega), chk_t (by omega), chk_t (by omega), chk_t (by omega), chk_t (by omega)]
  unfold hits
  simp only [e40]
  by_cases c0 : c.style = 0
  ·simp only [c0, if_true]
   cases In c.numbers.e2 1 v.height <;> cases In ((c.numbers.e1 - p.place.column) * v.height + c.numbers.e2 - p.place.line) 0 (p.place.lines - 1) <;> by_cases q : c.numbers.e0 = v.number <;> by_cases q2 : p.day = c.numbers.e1 <;> simp [q, q2]
  ·simp only [c0, if_false]
   by_cases q : c.numbers.e0 = v.number <;> by_cases q2 : p.day = c.numbers.e1 <;> by_cases q3 : p.number = c.numbers.e2 <;> simp [q, q2, q3]) (by unfold m21_1; simp)
 unfold m21
 rw [e33 h, Option.bind_some, if_neg (by simp), hc, Option.bind_some]
 simp only [if_true]
 rw [if_neg hs, e37 h, Option.bind_some, g1, goN_findS]
 cases (printE v es).find? (hits v c) <;> rfl
theorem e39 {s : Bytes} {c : cited} (h : m61 s = some (.inl c)) : m39 s = some (c, true) := by unfold m39; rw [h]; rfl
end T10
namespace T10
open Go Go.Proofs Pk
theorem zip_eq_len {α : Type} [DecidableEq α] : ∀ {a b : List α}, a.length = b.length → ((a.zip b).all fun q => decide (q.1 = q.2)) = decide (a = b)
 | [], [], _ => rfl
 | x :: a, y :: b, h => by
  rw [List.zip_cons_cons, List.all_cons, zip_eq_len (by simpa using h)]
  by_cases e : x = y <;> by_cases e2 : a = b <;> simp [e, e2]
 | [], _ :: _, h => by simp at h
 | _ :: _, [], h => by simp at h
theorem e16 (a b : List Paragraph) : m16 a b = some (decide (a = b)) := by
 unfold m16
 by_cases h : a.length = b.length
 ·have hz : (a.zip b).length = a.length := by rw [List.length_zip]; omega
  have h1 := loop_all (a.zip b) (fun q => decide (q.1 = q.2)) (.inr false : Unit ⊕ Bool) (.inl ()) (step := m16_1 a b) (fun i x hi hx => by
   obtain ⟨p1, p2⟩ := zip_at hx
   unfold m16_1
   rw [if_pos (by omega), p1, Option.bind_some, p2, Option.bind_some]
   by_cases e : x.1 = x.2 <;> simp [e]) (by unfold m16_1; simp [hz])
  rw [if_neg (by omega), h1, zip_eq_len h]
  by_cases e : a = b <;> simp [e]
 ·rw [if_pos (by omega)]
  have : a ≠ b := fun e => h (by rw [e])
  simp [this]
theorem e18 (a b : List Place) : m18 a b = some (decide (a = b)) := by
 unfold m18
 by_cases h : a.length = b.length
 ·have hz : (a.zip b).length = a.length := by rw [List.length_zip]; omega
  have h1 := loop_all (a.zip b) (fun q => decide (q.1 = q.2)) (.inr false : Unit ⊕ Bool) (.inl ()) (step := m18_1 a b) (fun i x hi hx => by
   obtain ⟨p1, p2⟩ := zip_at hx
   unfold m18_1
   rw [if_pos (by omega), p1, Option.bind_some, p2, Option.bind_some]
   by_cases e : x.1 = x.2 <;> simp [e]) (by unfold m18_1; simp [hz])
  rw [if_neg (by omega), h1, zip_eq_len h]
  by_cases e : a = b <;> simp [e]
 ·rw [if_pos (by omega)]
  have : a ≠ b := fun e => h (by rw [e])
  simp [this]
def v3 : Volume := ⟨3, 50, 3, 10, [⟨40, [⟨11, [84, 104, 101, 32, 72, 111, 117, 115, 101, 32, 109, 101, 116, 32, 97, 116, 32, 116, 119, 111, 46]⟩, ⟨12, [80, 114, 97, 121, 101, 114, 115, 46]⟩]⟩, ⟨44, [⟨15, [65, 32, 98, 105, 108, 108, 32, 119, 97, 115, 32, 114, 101, 97, 100, 46]⟩]⟩]⟩
def es3 : List Erratum := [⟨1, 45, 0, 12, [80, 114, 97, 121, 101, 114, 115, 32, 119, 101, 114, 101, 32, 115, 97, 105, 100, 46], 0⟩, ⟨2, 60, 1, 11, [], 0⟩, ⟨3, 60, 2, 11, [84, 104, 101, 32, 83, 112, 101, 97, 107, 101, 114, 32, 116, 111, 111, 107, 32, 116, 104, 101, 32, 99, 104, 97, 105, 114, 46], 20⟩]
theorem e25 : m25 = some (v3, es3) := rfl
theorem ok3 : Ok v3 es3 := by
 refine ⟨⟨by decide, by decide, by decide, by decide, by decide⟩, ⟨by decide, by decide, by decide, by decide, by decide, by decide, ?_, by decide +kernel, by decide⟩, ⟨by decide, by decide +kernel, by decide, ?_, by decide, by decide⟩⟩
 ·intro i x hx
  have hi := lt_len hx
  have : i = 0 ∨ i = 1 := by simp [v3] at hi; omega
  rcases this with rfl | rfl
  ·simp [v3] at hx; subst hx
   exact ⟨by decide, fun y h => absurd h (Nat.lt_irrefl _)⟩
  ·simp [v3] at hx; subst hx
   exact ⟨by decide, fun y _ hy => by simp [v3] at hy; subst hy; decide⟩
 ·intro i j x y hx hy hij k1 k2
  have hi := lt_len hx
  have hj := lt_len hy
  simp [es3] at hi hj
  have key : ∀ (i : Nat) (x : Erratum), i < 3 → es3[i]? = some x → x.kind = 2 → i = 2 := by
   intro i x hi hx hk
   have : i = 0 ∨ i = 1 ∨ i = 2 := by omega
   rcases this with rfl | rfl | rfl
   ·simp [es3] at hx; subst hx; simp at hk
   ·simp [es3] at hx; subst hx; simp at hk
   ·rfl
  have := key i x hi hx k1
  have := key j y hj hy k2
  omega
theorem i1 : Lib.itoa 1 = [49] := by rw [itoa_pos (by decide), Lib.decDigits]; rfl
theorem i2 : Lib.itoa 2 = [50] := by rw [itoa_pos (by decide), Lib.decDigits]; rfl
theorem i3 : Lib.itoa 3 = [51] := by rw [itoa_pos (by decide), Lib.decDigits]; rfl
theorem i4 : Lib.itoa 4 = [52] := by rw [itoa_pos (by decide), Lib.decDigits]; rfl
theorem i40 : Lib.itoa 40 = [52, 48] := by rw [itoa_pos (by decide), Lib.decDigits, dif_neg (by decide), Lib.decDigits]; rfl
theorem r3 : readE (after v3 es3 60) = [⟨20, [84, 104, 101, 32, 83, 112, 101, 97, 107, 101, 114, 32, 116, 111, 111, 107, 32, 116, 104, 101, 32, 99, 104, 97, 105, 114, 46]⟩, ⟨12, [80, 114, 97, 121, 101, 114, 115, 32, 119, 101, 114, 101, 32, 115, 97, 105, 100, 46]⟩, ⟨15, [65, 32, 98, 105, 108, 108, 32, 119, 97, 115, 32, 114, 101, 97, 100, 46]⟩] := by decide +kernel
theorem p3 : printE v3 es3 = [⟨⟨11, 1, 1, 3⟩, 40, 1⟩, ⟨⟨12, 2, 1, 2⟩, 40, 2⟩, ⟨⟨15, 3, 1, 2⟩, 44, 1⟩] := by decide +kernel
theorem e12 : m12 = some true := by
 have hc : ([118, 111, 108, 46, 32, 51, 44, 32, 99, 111, 108, 46, 32, 49, 44, 32, 108, 46, 32, 51] : Bytes) = citeC 3 1 3 := by unfold citeC; rw [i3, i1]; rfl
 have h1 : citeP v3 0 ⟨⟨12, 2, 1, 2⟩, 40, 2⟩ = [118, 111, 108, 46, 32, 51, 44, 32, 99, 111, 108, 46, 32, 50, 44, 32, 108, 46, 32, 49] := by
  show citeC 3 2 1 = _
  unfold citeC; rw [i3, i2, i1]; rfl
 have h2 : citeP v3 1 ⟨⟨12, 2, 1, 2⟩, 40, 2⟩ = [118, 111, 108, 46, 32, 51, 44, 32, 52, 48, 44, 32, 112, 97, 114, 46, 32, 50] := by
  show citeN 3 40 2 = _
  unfold citeN; rw [i3, i40, i2]; rfl
 have f1 : (printE v3 es3).find? (fun p => decide (p.place.anchor = 12)) = some ⟨⟨12, 2, 1, 2⟩, 40, 2⟩ := by rw [p3]; decide +kernel
 have f2 : (printE v3 es3).find? (hits v3 ⟨0, ⟨3, 1, 3⟩⟩) = some ⟨⟨11, 1, 1, 3⟩, 40, 1⟩ := by rw [p3]; decide +kernel
 have g3 := e20P ok3 12 (s := 0) (.inl rfl) 0
 have g4 := e20P ok3 12 (s := 1) (.inr rfl) 0
 have g5 := e21P ok3 (e39 (e61C (v := 3) (c := 1) (l := 3) (by decide) (by decide) (by decide))) (by decide) (by decide) (by decide)
 rw [f1] at g3 g4
 rw [f2] at g5
 simp only [h1] at g3
 simp only [h2] at g4
 unfold m12
 rw [e25, Option.bind_some]
 simp only [e13 ok3 (d := 60) (by decide) (by decide), e17 ok3, Option.bind_some, r3, p3]
 rw [hc, g3, Option.bind_some, g4, Option.bind_some, g5, Option.bind_some]
 simp only [if_true, e16, e18, List.map_cons, List.map_nil, decide_true, Option.bind_some, v3]
end T10
namespace T10
open Go Go.Proofs Pk
theorem loop29 {rest : List Erratum} {x : Erratum} : ∀ (k : Nat) (p1 p2 : List Erratum), p1.length = k → k ≤ 1000000 → Asc (p1 ++ p2) → (∀ y ∈ p2, Less x y = true) → (∀ y ∈ p1, y.number ≠ x.number) →
  ∃ q, loopO m29_2 ((k : Int), p1 ++ x :: (p2 ++ rest)) = some (q ++ rest) ∧ Asc q ∧ q.Perm (p1 ++ x :: p2)
 | 0, p1, p2, hk, _, ha, hx, _ => by
  obtain rfl := List.length_eq_zero_iff.1 hk
  refine ⟨x :: p2, ?_, List.pairwise_cons.2 ⟨hx, ha⟩, .refl _⟩
  rw [loopO_out (e := ([] ++ x :: (p2 ++ rest)))]
  ·simp
  ·unfold m29_2; simp
 | k + 1, p1, p2, hk, hb, ha, hx, hn => by
  obtain ⟨p, y, rfl⟩ : ∃ p y, p1 = p ++ [y] := ⟨p1.dropLast, p1.getLast (by intro e; subst e; simp at hk), (List.dropLast_concat_getLast _).symm⟩
  have hp : p.length = k := by simpa using hk
  have g1 : (p ++ [y] ++ x :: (p2 ++ rest))[k + 1]? = some x := by rw [List.getElem?_append_right (by simp; omega)]; simp [hp]
  have g0 : (p ++ [y] ++ x :: (p2 ++ rest))[k]? = some y := by rw [List.append_assoc, List.getElem?_append_right (by omega)]; simp [hp]
  have t1 : ((k + 1 : Nat) : Int).toNat = k + 1 := by omega
  have t0 : (((k + 1 : Nat) : Int) - 1).toNat = k := by omega
  have hnum := hn y (by simp)
  by_cases c : Less x y = true
  ·obtain ⟨q, h1, h2, h3⟩ := loop29 (rest := rest) (x := x) k p (y :: p2) hp (by omega) (by simpa using ha) (fun z hz => by
    rcases List.mem_cons.1 hz with rfl | hz
    ·exact c
    ·exact hx z hz) (fun z hz => hn z (by simp [hz]))
   refine ⟨q, ?_, h2, h3.trans (by simp only [List.append_assoc, List.cons_append, List.nil_append]; exact (List.Perm.swap y x p2).append_left p)⟩
   rw [← h1]
   refine loopO_next ?_
   unfold m29_2
   simp only []
   rw [if_pos (by omega), t1, t0]
   simp only [g1, g0, Option.bind_some]
   rw [chk_t (by omega), e49, c]
   simp only [Option.bind_some, if_true]
   rw [chk_t (by omega), chk_t (by omega), chk_t (by omega)]
   have s1 : (p ++ [y] ++ x :: (p2 ++ rest)).set (k + 1) y = p ++ y :: y :: (p2 ++ rest) := by
    rw [List.append_assoc, List.set_append_right _ _ (by omega), show k + 1 - p.length = 1 by omega]; rfl
   rw [s1]
   have g2 : (p ++ y :: y :: (p2 ++ rest))[k]? = some y := by rw [List.getElem?_append_right (by omega)]; simp [hp]
   rw [g2]
   simp only [Option.bind_some]
   have s2 : (p ++ y :: y :: (p2 ++ rest)).set k x = p ++ x :: (y :: p2 ++ rest) := by
    rw [List.set_append_right _ _ (by omega), show k - p.length = 0 by omega]; rfl
   rw [s2, show ((k + 1 : Nat) : Int) - 1 = (k : Int) by omega]
  ·have hyx : Less y x = true := (Less_tot hnum).resolve_right c
   refine ⟨p ++ [y] ++ x :: p2, ?_, ?_, .refl _⟩
   ·rw [loopO_out (e := p ++ [y] ++ x :: (p2 ++ rest))]
    ·simp
    ·unfold m29_2
     simp only []
     rw [if_pos (by omega), t1, t0]
     simp only [g1, g0, Option.bind_some]
     rw [chk_t (by omega), e49, Bool.eq_false_iff.2 c]
     simp
   ·obtain ⟨a1, a2, a3⟩ := List.pairwise_append.1 ha
    refine List.pairwise_append.2 ⟨a1, List.pairwise_cons.2 ⟨hx, a2⟩, fun z hz w hw => ?_⟩
    rcases List.mem_cons.1 hw with rfl | hw
    ·rcases List.mem_append.1 hz with hz | hz
     ·have := (List.pairwise_append.1 a1).2.2 z hz y (by simp)
      exact Less_tr this hyx
     ·rw [List.mem_singleton.1 hz]; exact hyx
    ·exact a3 z hz w hw
theorem e29 {es : List Erratum} (hl : es.length ≤ 1000000) (hn : (es.map (·.number)).Nodup) : m29 es = some (sortE es) := by
 have key : ∀ k i a, es.length - i = k → 1 ≤ i → (i ≤ es.length ∨ es = []) → (∃ p, a = p ++ es.drop i ∧ Asc p ∧ p.Perm (es.take i)) → loopO (m29_1 es) (i, a) = some (sortE es) := by
  intro k
  induction k with
  | zero =>
   intro i a hk hi hie hI
   obtain ⟨p, rfl, h1, h2⟩ := hI
   have hlen : es.length ≤ i := by omega
   rw [List.drop_eq_nil_of_le hlen, List.append_nil]
   rw [List.take_of_length_le hlen] at h2
   rw [loopO_out (e := p) (by unfold m29_1; simp; omega)]
   exact congrArg some (asc_eq h1 (sortE_asc hn) (h2.trans (sortE_perm es).symm))
  | succ k ih =>
   intro i a hk hi hie hI
   have hlt : i < es.length := by omega
   obtain ⟨p, rfl, h1, h2⟩ := hI
   have hx : es[i]? = some es[i] := List.getElem?_eq_getElem hlt
   have hpl : p.length = i := by rw [h2.length_eq, List.length_take]; omega
   obtain ⟨q, g1, g2, g3⟩ := loop29 (rest := es.drop (i + 1)) (x := es[i]) i p [] hpl (by omega) (by simpa using h1) (fun y hy => by cases hy) (fun y hy c => by
    have hy' := h2.subset hy
    obtain ⟨j, hj⟩ := List.getElem?_of_mem hy'
    have hji : j < i := by have := lt_len hj; rw [List.length_take] at this; omega
    rw [List.getElem?_take_of_lt hji] at hj
    have e1 : (es.map (·.number))[i]? = some es[i].number := by rw [List.getElem?_map, hx]; rfl
    have e2 : (es.map (·.number))[j]? = some es[i].number := by rw [List.getElem?_map, hj]; simp [c]
    have := (List.getElem?_inj (lt_len e1) hn).1 (e1.trans e2.symm)
    omega)
   rw [List.nil_append] at g1
   rw [loopO_next (s' := (i + 1, q ++ es.drop (i + 1)))]
   ·refine ih (i + 1) _ (by omega) (by omega) (by omega) ⟨q, rfl, g2, ?_⟩
    rw [List.take_succ, hx]
    exact g3.trans (h2.append_right [es[i]])
   ·unfold m29_1
    rw [if_pos (by simp; omega)]
    simp only []
    rw [List.drop_eq_getElem_cons hlt, g1]
    rfl
 unfold m29
 rw [chk_t (by simp; omega)]
 have := key (es.length - 1) 1 es rfl (Nat.le_refl 1) (by cases es with
  | nil => exact .inr rfl
  | cons x l => exact .inl (by simp)) (by
  refine ⟨es.take 1, (List.take_append_drop 1 es).symm, ?_, .refl _⟩
  cases es with
  | nil => exact List.Pairwise.nil
  | cons x l => exact List.pairwise_singleton _ _)
 rw [List.nil_append, this]; rfl
def ent (i : Nat) (e : entry) : Entry := ⟨e.paragraph, (i : Int), e.removed⟩
def idxG : Nat → Grd → List Entry
 | _, [] => []
 | i, l :: g => l.map (ent i) ++ idxG (i + 1) g
def updR (x : Erratum) (y : Entry) : List Entry :=
 ⟨⟨y.paragraph.anchor, if y.paragraph.anchor = x.anchor ∧ x.kind = 0 ∧ y.removed = false then x.text else y.paragraph.text⟩, y.part, if y.paragraph.anchor = x.anchor ∧ x.kind = 1 then true else y.removed⟩ :: if y.paragraph.anchor = x.anchor ∧ x.kind = 2 then [⟨⟨x.new_, x.text⟩, y.part, false⟩] else []
theorem updR_ent {x : Erratum} (hk : x.kind = 0 ∨ x.kind = 1 ∨ x.kind = 2) (i : Nat) (e : entry) : updR x (ent i e) = (upd x e).map (ent i) := by
 obtain ⟨⟨a, t⟩, r⟩ := e
 unfold updR upd ent
 by_cases ha : a = x.anchor
 ·rcases hk with k | k | k
  ·cases r <;> simp [ha, k]
  ·simp [ha, k]
  ·simp [ha, k]
 ·simp [ha]
theorem idxG_upd {x : Erratum} (hk : x.kind = 0 ∨ x.kind = 1 ∨ x.kind = 2) : ∀ (g : Grd) (i : Nat), (idxG i g).flatMap (updR x) = idxG i (stepG x g)
 | [], i => rfl
 | l :: g, i => by
  show (l.map (ent i) ++ idxG (i + 1) g).flatMap (updR x) = (l.flatMap (upd x)).map (ent i) ++ idxG (i + 1) (stepG x g)
  rw [List.flatMap_append, idxG_upd hk g (i + 1)]
  congr 1
  rw [List.flatMap_map, List.map_flatMap]
  congr 1
  funext e
  exact updR_ent hk i e
theorem idxG_len : ∀ (g : Grd) (i : Nat), (idxG i g).length = g.flatten.length
 | [], _ => rfl
 | l :: g, i => by unfold idxG; simp [idxG_len g]
theorem idxG_ank : ∀ (g : Grd) (i : Nat), (idxG i g).map (·.paragraph.anchor) = ank g.flatten
 | [], _ => rfl
 | l :: g, i => by
  unfold idxG
  rw [List.map_append, idxG_ank g, List.map_map]
  simp only [ank, List.flatten_cons, List.map_append]; rfl
theorem idxG_app : ∀ (g : Grd) (i : Nat) (l : List entry), idxG i (g ++ [l]) = idxG i g ++ l.map (ent (i + g.length))
 | [], i, l => by simp [idxG]
 | m :: g, i, l => by
  show m.map (ent i) ++ idxG (i + 1) (g ++ [l]) = _
  rw [idxG_app g (i + 1) l, List.length_cons, show i + 1 + g.length = i + (g.length + 1) by omega, ← List.append_assoc]
  rfl
theorem goL_while19 (to : Int) : ∀ (l : List Erratum) (i : Nat) (a : List Entry), goL (fun _ (x : Erratum) (a : List Entry) => if x.day ≤ to then .inl (a.flatMap (updR x)) else .inr a) (fun a => a) l i a = (l.takeWhile fun x => decide (x.day ≤ to)).foldl (fun a x => a.flatMap (updR x)) a
 | [], i, g => rfl
 | x :: l, i, g => by
  rw [goL_cons]
  by_cases c : x.day ≤ to
  ·rw [if_pos c, List.takeWhile_cons_of_pos (by simpa using c)]
   exact goL_while19 to l (i + 1) _
  ·rw [if_neg c, List.takeWhile_cons_of_neg (by simpa using c)]; rfl
theorem foldR : ∀ (l : List Erratum), (∀ x ∈ l, x.kind = 0 ∨ x.kind = 1 ∨ x.kind = 2) → ∀ g, l.foldl (fun a x => a.flatMap (updR x)) (idxG 0 g) = idxG 0 (l.foldl (fun g x => stepG x g) g)
 | [], _, g => rfl
 | x :: l, h, g => by
  rw [List.foldl_cons, List.foldl_cons, idxG_upd (h x List.mem_cons_self)]
  exact foldR l (fun y hy => h y (List.mem_cons_of_mem _ hy)) (stepG x g)
theorem e19 {v : Volume} {es : List Erratum} (h : Ok v es) (d : Int) : m19 v es d = some (idxG 0 (after v es d)) := by
 have hlen := (sortE_perm es).length_eq
 have hfew := h.err.few
 have hparts := h.few.parts
 have h1' : loopO (m19_1 v) (0, ([] : List Entry)) = some (idxG 0 (initG v)) := by
  have key : ∀ k i a, v.parts.length - i = k → i ≤ v.parts.length → a = idxG 0 ((initG v).take i) → loopO (m19_1 v) (i, a) = some (idxG 0 (initG v)) := by
   intro k
   induction k with
   | zero =>
    intro i a hk hi ha
    rw [ha, List.take_of_length_le (by simp [initG]; omega)]
    exact loopO_out (by unfold m19_1; rw [if_neg (by simp only []; omega)])
   | succ k ih =>
    intro i a hk hi ha
    have hlt : i < v.parts.length := by omega
    have hx : v.parts[i]? = some v.parts[i] := List.getElem?_eq_getElem hlt
    have hg : (initG v)[i]? = some (v.parts[i].paragraphs.map fun x => ⟨x, false⟩) := by unfold initG; rw [List.getElem?_map, hx]; rfl
    have hpl := h.few.pars _ (List.mem_of_getElem? hx)
    have hal : a.length ≤ 10000 := by
     rw [ha, idxG_len]
     have : ((initG v).take i).flatten.length ≤ (initG v).flatten.length := by
      have : (initG v).flatten = ((initG v).take i).flatten ++ ((initG v).drop i).flatten := by rw [← List.flatten_append, List.take_append_drop]
      rw [this]; simp
     have h3 := (inv_init h).small h (Nat.zero_le _)
     omega
    have h2 := loop_fold v.parts[i].paragraphs (fun b p => b ++ [ent i ⟨p, false⟩]) (fun b => b) (fun j b => b.length = a.length + j) (step := m19_2 v (i, a)) (fun j p b hj hp hb => by
     unfold m19_2
     simp only [hx, Option.bind_some]
     rw [if_pos (by omega), hp]
     simp only [Option.bind_some]
     rw [chk_t (by omega)]; rfl) (fun j p b hj hp hb => by simp; omega) (fun b hb => by unfold m19_2; simp [hx]) (a0 := a) (by simp)
    rw [loopO_next (s' := (i + 1, a ++ v.parts[i].paragraphs.map (fun p => ent i ⟨p, false⟩)))]
    ·refine ih (i + 1) _ (by omega) (by omega) ?_
     rw [List.take_succ, hg]
     show _ = idxG 0 ((initG v).take i ++ [_])
     rw [idxG_app, ha, List.length_take, List.map_map]
     rw [show 0 + min i (initG v).length = i by simp [initG]; omega]
     rfl
    ·unfold m19_1
     rw [if_pos (by simp only []; omega)]
     simp only [h2, Option.bind_some]
     rw [foldl_snoc]
  exact key v.parts.length 0 [] rfl (Nat.zero_le _) rfl
 have h4 := loop_l (sortE es) (fun _ (x : Erratum) (a : List Entry) => if x.day ≤ d then .inl (a.flatMap (updR x)) else .inr a) (fun a => a) (fun i a => ∃ g, Inv v es i g ∧ a = idxG 0 g) (step := m19_3 (sortE es) d) (fun i x a hi hx hI => by
  obtain ⟨g, hg, rfl⟩ := hI
  obtain ⟨hb, _⟩ := hg.small h (by omega)
  unfold m19_3
  rw [if_pos (by simp only []; omega)]
  simp only [hx, Option.bind_some]
  by_cases c : x.day ≤ d
  ·have h5 := loop_fold (idxG 0 g) (fun b y => b ++ updR x y) (fun b => b) (fun j b => b.length ≤ 2 * j) (step := m19_4 (i, idxG 0 g) x) (fun j y b hj hy hb => by
    rw [idxG_len] at hj
    have hc1 : b.length ≤ 1073741823 := by omega
    have hc2 : b.length ≤ 1073741822 := by omega
    unfold m19_4 updR
    rw [if_pos (by simp only []; rw [idxG_len]; omega)]
    simp only [hy, Option.bind_some]
    by_cases c1 : y.paragraph.anchor = x.anchor <;> by_cases k0 : x.kind = 0 <;> by_cases k1 : x.kind = 1 <;> by_cases k2 : x.kind = 2 <;> cases hr : y.removed <;> simp only [c1, k0, k1, k2, if_true, if_false, Option.bind_some, decide_true, decide_false, Bool.false_eq_true, Bool.not_true, Bool.not_false, and_self, and_true, and_false, true_and, false_and, reduceCtorEq] <;> (first | omega | simp [chk_t hc1, chk_t hc2, hr])) (fun j y b hj hy hb => by
    have : (updR x y).length ≤ 2 := by unfold updR; simp only [List.length_cons]; split <;> simp
    rw [List.length_append]; omega) (fun b hb => by unfold m19_4; simp) (a0 := []) (by simp)
   rw [if_pos c, decide_eq_true c]
   simp only [if_true]
   rw [h5, Option.bind_some, chk_t (by omega), foldl_append]
   rfl
  ·rw [if_neg c, decide_eq_false c]; rfl) (fun i x a a' hi hx hI hg => by
  obtain ⟨g, hg1, rfl⟩ := hI
  by_cases c : x.day ≤ d
  ·rw [if_pos c] at hg
   cases hg
   exact ⟨stepG x g, inv_step h hx hg1, idxG_upd (right_kind (h.err.right x (mem_sort.1 (List.mem_of_getElem? hx)))) g 0⟩
  ·rw [if_neg c] at hg; cases hg) (fun a hI => by unfold m19_3; simp) (a0 := idxG 0 (initG v)) ⟨initG v, inv_init h, rfl⟩
 unfold m19
 rw [h1', Option.bind_some, e29 (by omega) h.err.once, Option.bind_some, h4, Option.bind_some, goL_while19, foldR _ (fun x hx => ?_)]
 ·rfl
 ·exact right_kind (h.err.right x (mem_sort.1 ((List.takeWhile_prefix _).subset hx)))
end T10
namespace T10
open Go Go.Proofs Pk
theorem pick {v : Volume} {es : List Erratum} (h : Ok v es) {d : Int} {i : Nat} {x : Entry} (hx : (idxG 0 (after v es d))[i]? = some x) : x.paragraph.anchor ∈ ank (after v es d).flatten ∧ 1 ≤ x.paragraph.anchor ∧ x.paragraph.anchor ≤ 999 := by
 have h1 : x.paragraph.anchor ∈ ank (after v es d).flatten := by
  rw [← idxG_ank _ 0]; exact List.mem_map.2 ⟨x, List.mem_of_getElem? hx, rfl⟩
 obtain ⟨e, he, ha⟩ := List.mem_map.1 h1
 have := In_iff.1 (after_okT h d e he).2
 exact ⟨h1, by omega⟩
theorem law3 (v : Volume) (es : List Erratum) (x : Erratum) (day : Int) (hl : es.length * 56 ≤ 140737488351232) (hd : 0 ≤ day ∧ day ≤ 65535) : m3 v es x day = some true := by
 obtain ⟨b, h1, h2⟩ := e11 v es
 obtain ⟨c, h3, h4⟩ := e11 v (es ++ [x])
 unfold m3
 rw [chk_t (by rw [List.length_nil]; omega), chk_t (by simp; omega)]
 simp only [List.nil_append]
 rw [h1, Option.bind_some]
 cases b with
 | false => simp only [Bool.false_eq_true, if_false, Option.bind_some, if_true, e12]
 | true =>
  rw [h3]
  cases c with
  | false => simp only [if_true, Option.bind_some, Bool.not_false, e12]
  | true =>
   have ok := h2 rfl
   have ok2 := h4 rfl
   have hf := ok.few.errata
   have hb := In_iff.1 ok.vol.bound
   have key : ((if day < x.day then ((m14 v).bind fun r136 => (m15 es).bind fun r146 => (m13 r136 r146 day).bind fun r153 => (m15 (es ++ [x])).bind fun r169 => (m13 r136 r169 day).bind fun r176 =>
     ((if r153.2 ≠ 0 then some true else if r176.2 ≠ 0 then some true else (m16 r153.1 r176.1).bind fun r201 => some (!r201)) : Option Bool).bind fun t192 => if t192 then some (.inr false) else some (.inl (es ++ [x]))) else some (.inl (es ++ [x]))) : Option (List Erratum ⊕ Bool)) = some (.inl (es ++ [x])) := by
    by_cases c : day < x.day
    ·rw [if_pos c, e14 ok.few, Option.bind_some, e15 (by omega), Option.bind_some, e13 ok (by omega) (by omega), Option.bind_some, e15 (by simp; omega), Option.bind_some, e13 ok2 (by omega) (by omega), Option.bind_some, after_more ok2.err.once c]
     simp [e16]
    ·rw [if_neg c]
   simp only [if_true, Option.bind_some, Bool.not_true, Bool.false_eq_true, if_false]
   rw [chk_t (by omega)]
   refine (congrArg (fun o : Option (List Erratum ⊕ Bool) => o.bind _) key).trans ?_
   simp only [Option.bind_some]
   by_cases c : x.day ≤ v.bound
   ·rw [if_pos c, e12]; rfl
   ·rw [if_neg c, e14 ok.few, Option.bind_some, e15 (by omega), Option.bind_some, e17 ok, Option.bind_some, e15 (by simp; omega), Option.bind_some, e17 ok2, Option.bind_some]
    have : printE v (es ++ [x]) = printE v es := by unfold printE; rw [after_more ok2.err.once (by omega)]
    rw [this]
    simp [e18, e12]
end T10
