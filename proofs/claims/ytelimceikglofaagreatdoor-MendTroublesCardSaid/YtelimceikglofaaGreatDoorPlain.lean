/-
  The plain laws: what the models of layer 4 come to.
-/
import Derived.Test.YtelimceikglofaaGreatDoorMade
import Derived.Test.YtelimceikglofaaGreatDoorKitSix
set_option linter.all false
namespace T4
open Go Go.Proofs Pk
def In (n lo hi : Int) : Bool := decide (lo ≤ n ∧ n ≤ hi)
def okc (c : UInt8) : Bool := decide (33 ≤ c.toNat ∧ c.toNat ≤ 126)
def Text (s : Bytes) : Bool := s.all okc && In s.length 1 32
def Texts (l : List Bytes) (most : Int) : Bool := l.all Text && decide ((l.length : Int) ≤ most)
def short (l : List Bytes) (most : Int) : Bool := l.all (fun s => decide (s.length ≤ 40)) && decide ((l.length : Int) ≤ most)
def okNumber (n : Number) : Bool := Text n.text && In n.value 0 999999999
def okNames (l : List Bytes) : Bool := !l.isEmpty && Texts l 5
def Lexicon.all (l : Lexicon) : List Bytes := l.numbers.map (·.text) ++ l.names.flatten ++ l.nots
def LexiconFault (l : Lexicon) : Int :=
 if l.numbers.all okNumber && l.names.all okNames && (Texts l.nots 40 && decide (l.numbers.length ≤ 40) && decide (l.names.length ≤ 40)) then (if l.all.Nodup then 0 else 6) else 1
def dval : Bytes → Int → Int
 | [], n => n
 | c :: s, n => if c.toNat < 48 ∨ 57 < c.toNat then -1 else dval s (10 * n + (c.toNat - 48 : Int))
def digits (s : Bytes) : Int := if s.length < 1 ∨ 9 < s.length ∨ (s.head? = some 48 ∧ 1 < s.length) then -1 else dval s 0
def meansDigits (s : Bytes) : Mark := if 0 ≤ digits s then ⟨1, digits s⟩ else ⟨0, 0⟩
def namesT : List (List Bytes) → Int → List (Bytes × Mark)
 | [], _ => []
 | l :: ls, i => l.map (fun s => (s, (⟨2, i⟩ : Mark))) ++ namesT ls (i + 1)
def table (l : Lexicon) : List (Bytes × Mark) := l.numbers.map (fun n => (n.text, (⟨1, n.value⟩ : Mark))) ++ (namesT l.names 0 ++ l.nots.map (fun s => (s, (⟨3, 0⟩ : Mark))))
def Means (l : Lexicon) (s : Bytes) : Mark := (lkp (table l) s).getD (meansDigits s)
def Sense (l : Lexicon) (t : List Bytes) : List Mark := (t.map (Means l)).filter (fun m => decide (m.kind ≠ 0))
def okSwap (s : Swap) : Bool := (decide (s.kind = 1) || decide (s.kind = 2)) && In s.old_ 0 999999999 && In s.new_ 0 999999999
def SwapsFault (l : List Swap) : Int := if 20 < l.length then 3 else if l.all okSwap then 0 else 1
def sw (x y : Mark) (s : Swap) : Bool := decide (x.kind = y.kind) && decide (s.kind = x.kind) && decide (s.old_ = x.value) && decide (s.new_ = y.value)
def becomes (l : List Swap) (x y : Mark) : Bool := decide (x = y) || l.any (sw x y)
def Becomes (sw : List Swap) : List Mark → List Mark → Bool
 | [], [] => true
 | a :: l, b :: m => becomes sw a b && Becomes sw l m
 | _, _ => false
structure thinL (l : Lexicon) : Prop where
 numbers : l.numbers.length ≤ 45
 names : l.names.length ≤ 45
 nots : l.nots.length ≤ 45
 number : ∀ n ∈ l.numbers, n.text.length ≤ 40
 name : ∀ x ∈ l.names, x.length ≤ 8 ∧ ∀ s ∈ x, s.length ≤ 40
 not_ : ∀ s ∈ l.nots, s.length ≤ 40
def okSaid (w : Said) : Bool := Text w.text && In w.speaker 0 999
def RightReport (r : Report) : Bool := r.words.all okSaid && decide ((r.words.length : Int) ≤ 80) && In r.out 0 100000 && In r.within 0 100000
def Olds (r : Report) (i j : Int) : List Bytes := ((r.words.drop i.toNat).take (j.toNat - i.toNat)).map (·.text)
def owns (r : Report) (i m : Int) : Bool := decide (0 ≤ i) && match r.words[i.toNat]? with
 | some x => decide (x.speaker = m)
 | none => false
def Meet (x y : Request) : Bool :=
 if x.cut = 0 ∧ y.cut = 0 then decide (x.from_ = y.from_) else if x.cut = 0 then decide (y.from_ < x.from_ ∧ x.from_ < y.from_ + y.cut) else if y.cut = 0 then decide (x.from_ < y.from_ ∧ y.from_ < x.from_ + x.cut) else decide (x.from_ < y.from_ + y.cut ∧ y.from_ < x.from_ + x.cut)
def soonerQ (x y : Request) (i j : Int) : Bool := if x.minute = y.minute then (if x.by_ = y.by_ then decide (i < j) else decide (x.by_ < y.by_)) else decide (x.minute < y.minute)
def Thin (l : Lexicon) (sw : List Swap) : Bool := (l.numbers.take 46).all (fun n => decide (n.text.length ≤ 40)) && (l.names.take 46).all (fun x => short x 8) && (decide ((l.numbers.length : Int) ≤ 45) && decide ((l.names.length : Int) ≤ 45) && short l.nots 45 && decide ((sw.length : Int) ≤ 25))
def Few (r : Report) (q : List Request) : Bool := (r.words.take 86).all (fun w => decide (w.text.length ≤ 40)) && (q.take 26).all (fun x => short x.put_ 12) && (decide ((r.words.length : Int) ≤ 85) && decide ((q.length : Int) ≤ 25))
def fault (l : Lexicon) (sw : List Swap) : Int := if LexiconFault l = 0 then SwapsFault sw else LexiconFault l
def listed (l : List Bytes) : Int := if 80 < l.length then 3 else if Texts l 80 then 0 else 1
def wrong (l : Lexicon) (sw : List Swap) (r : Report) (q : List Request) : Int := if fault l sw = 0 then (if RightReport r then (if 20 < q.length then 3 else 0) else 1) else fault l sw
def sooner (l : List Request) (i k : Int) : Bool := match l[i.toNat]?, l[k.toNat]? with
 | some x, some y => soonerQ x y i k
 | _, _ => false
def ownsAll (r : Report) (m : Int) : Nat → Int → Bool
 | 0, _ => true
 | n + 1, i => owns r i m && ownsAll r m n (i + 1)
def Alone (l : Lexicon) (sw : List Swap) (r : Report) (q : Request) : Int :=
 if q.from_ < 0 ∨ q.cut < 0 ∨ (r.words.length : Int) - q.cut < q.from_ then 2
 else if 8 < q.cut ∨ Texts q.put_ 8 = false ∨ (q.cut = 0 ∧ (q.put_.length : Int) = 0) ∨ ¬ (0 ≤ q.by_ ∧ q.by_ ≤ 999) then 1
 else if q.cut = 0 ∧ owns r (q.from_ - 1) q.by_ = false ∧ owns r q.from_ q.by_ = false then 5
 else if ownsAll r q.by_ q.cut.toNat q.from_ = false then 5
 else if q.minute < r.out ∨ r.out + r.within < q.minute then 11
 else if Becomes sw (Sense l (Olds r q.from_ (q.from_ + q.cut))) (Sense l q.put_) then 0 else 9
end T4
namespace T4
open Go Go.Proofs Pk
@[simp] theorem e28 (n a b : Int) : m28 n a b = some (In n a b) := by
 unfold m28 In; by_cases h : a ≤ n <;> simp [h]
@[simp] theorem e84 (n a b : Int) : m84 n a b = some (In n a b) := by
 unfold m84 In; by_cases h : a ≤ n <;> simp [h]
@[simp] theorem e72 (n : Int) : m72 n = some (In n 0 999999999) := by simp [m72]
theorem okc_iff (c : UInt8) : okc c = true ↔ ¬ ((c.toNat : Int) < 33) ∧ ¬ (126 < (c.toNat : Int)) := by
 unfold okc; rw [decide_eq_true_iff]; omega
abbrev Sh {α : Type} (l : List α) : Prop := l.length ≤ 1073741824
theorem e60 {s : Bytes} (h : Sh s) : m60 s = some (Text s) := by
 unfold m60
 have hl : loopO (m60_1 s) 0 = some (if s.all okc then .inl () else .inr false) := by
  refine loop_all s okc _ _ (fun i x hi hx => ?_) ?_
  ·have h1 := okc_iff x
   unfold m60_1
   rw [if_pos (by omega), chk_t (by constructor <;> omega), hx]
   by_cases a : (x.toNat : Int) < 33 <;> by_cases b : 126 < (x.toNat : Int) <;> simp only [a, b, not_true, not_false_iff, and_true, and_self, false_and, and_false, iff_true, iff_false, Bool.not_eq_true] at h1 <;> simp [a, b, h1]
  ·unfold m60_1; simp
 rw [hl]
 by_cases a : s.all okc
 ·simp [a, Text]
 ·simp only [Text]; simp [a]
theorem e55 {l : List Bytes} (h : ∀ s ∈ l, Sh s) (n : Int) : m55 l n = some (Texts l n) := by
 unfold m55
 have hl : loopO (m55_1 l) 0 = some (if l.all Text then .inl () else .inr false) := by
  refine loop_all l Text _ _ (fun i x hi hx => ?_) ?_
  ·unfold m55_1
   rw [if_pos (by omega), hx, Option.bind_some, e60 (h x (List.mem_of_getElem? hx))]
   cases Text x <;> simp
  ·unfold m55_1; simp
 rw [hl]
 by_cases a : l.all Text
 ·simp [a, Texts]
 ·simp only [Texts]; simp [a]
theorem e16 (l : List Bytes) (n : Int) : m16 l n = some (short l n) := by
 unfold m16
 have hl : loopO (m16_1 l) 0 = some (if l.all (fun s => decide (s.length ≤ 40)) then .inl () else .inr false) := by
  refine loop_all l _ _ _ (fun i x hi hx => ?_) ?_
  ·unfold m16_1
   rw [if_pos (by omega), hx, Option.bind_some]
   by_cases a : x.length ≤ 40
   ·rw [if_neg (by omega)]; simp [a]
   ·rw [if_pos (by omega)]; simp [a]
  ·unfold m16_1; simp
 rw [hl]
 by_cases a : l.all (fun s => decide (s.length ≤ 40))
 ·simp [a, short]
 ·simp only [short]; simp [a]
end T4
namespace T4
open Go Go.Proofs Pk
theorem q73 (l : List Swap) (f : Swap → Option Bool) : m73 l f = gAll l f := rfl
theorem q74 (l : List (List Bytes)) (f : List Bytes → Option Bool) : m74 l f = gAll l f := rfl
theorem q77 (l : List Bytes) (f : Bytes → Option Bool) : m77 l f = gAll l f := rfl
theorem q85 (l : List Number) (f : Number → Option Bool) : m85 l f = gAll l f := rfl
theorem q104 (l : List UInt8) (f : Int → Option Bool) : m104 l f = gAll l (fun x => f (x.toNat : Int)) := rfl
theorem q106 (l : List Swap) (v : Swap) : m106 l v = gCon l v := rfl
theorem e105 (c : UInt8) : m105 (c.toNat : Int) = some (okc c) := by
 unfold m105 okc
 by_cases h : (33 : Int) ≤ (c.toNat : Int)
 ·simp only [h, if_true, Option.bind_some]; congr 1; rw [decide_eq_decide]; omega
 ·simp only [h, if_false, Option.bind_some]; congr 1; symm; rw [decide_eq_false_iff_not]; omega
theorem e78 {s : Bytes} (h : Sh s) : m78 s = some (Text s) := by
 unfold m78
 rw [e84, Option.bind_some]
 by_cases a : In (s.length : Int) 1 32 = true
 ·rw [if_pos a, chk_t h, q104, gAll_some okc (fun c _ => e105 c)]
  simp [Text, a]
 ·rw [if_neg a]; simp only [Text]; simp [a]
theorem e77 {l : List Bytes} (h : ∀ s ∈ l, Sh s) : m77 l m78 = some (l.all Text) := by
 rw [q77]; exact gAll_some Text (fun s hs => e78 (h s hs))
theorem e82 {n : Number} (h : Sh n.text) : m82 n = some (okNumber n) := by
 unfold m82 okNumber; rw [e78 h, Option.bind_some]; cases Text n.text <;> simp
theorem e83 {l : List Bytes} (h : ∀ s ∈ l, Sh s) : m83 l = some (okNames l) := by
 unfold m83 okNames Texts; rw [e84, Option.bind_some, e77 h]
 by_cases a : In (l.length : Int) 1 5 = true
 ·rw [if_pos a]
  have : l ≠ [] ∧ (l.length : Int) ≤ 5 := by
   simp only [In, decide_eq_true_eq] at a
   exact ⟨fun e => by subst e; simp at a, a.2⟩
  simp [this.1, this.2]
 ·rw [if_neg a]
  simp only [In, decide_eq_true_eq] at a
  cases l with
  | nil => simp
  | cons x l =>
   simp only [Option.bind_some, List.isEmpty_cons, Bool.not_false, Bool.true_and]
   congr 1; symm
   rw [Bool.and_eq_false_iff]; right
   simp only [List.length_cons] at a ⊢
   rw [decide_eq_false_iff_not]; omega
theorem e71 (s : Swap) : m71 s = some (okSwap s) := by
 unfold m71 okSwap
 rw [e72, e72]
 by_cases a : s.kind = 1
 ·simp only [a]; cases In s.old_ 0 999999999 <;> simp
 ·by_cases b : s.kind = 2
  ·simp only [b]; cases In s.old_ 0 999999999 <;> simp
  ·simp [a, b]
theorem e73 (l : List Swap) : m73 l m71 = some (l.all okSwap) := by rw [q73]; exact gAll_some okSwap (fun s _ => e71 s)
theorem e75 (l : List Bytes) : m75 l = some (decide ((l.length : Int) ≤ 80)) := rfl
theorem e76 {l : List Bytes} (h : ∀ s ∈ l, Sh s) : m76 l = some (l.all Text) := by unfold m76; rw [e77 h]; rfl
def listedP (ls : List (List Bytes)) : Int := if ls.all (fun l => decide ((l.length : Int) ≤ 80)) then (if ls.all (fun l => l.all Text) then 0 else 1) else 3
theorem e52 {ls : List (List Bytes)} (h : ∀ l ∈ ls, ∀ s ∈ l, Sh s) : m52 ls = some (listedP ls) := by
 unfold m52 listedP
 rw [q74, q74, gAll_some (fun l => decide ((l.length : Int) ≤ 80)) (fun l _ => e75 l), gAll_some (fun l => l.all Text) (fun l hl => e76 (h l hl))]
 cases ls.all (fun l => decide ((l.length : Int) ≤ 80)) <;> cases ls.all (fun l => l.all Text) <;> simp
theorem e79 (r : rules) (a b : Mark) : m79 r a b = some (decide (a = b) || (decide (a.kind = b.kind) && decide ((⟨a.kind, a.value, b.value⟩ : Swap) ∈ r.swaps))) := by
 unfold m79
 by_cases h : a = b
 ·simp [h]
 ·by_cases k : a.kind = b.kind
  ·rw [q106, gCon_some]; simp [h, k]
  ·simp [h, k]
theorem becomes_eq (l : List Swap) (a b : Mark) : becomes l a b = (decide (a = b) || (decide (a.kind = b.kind) && decide ((⟨a.kind, a.value, b.value⟩ : Swap) ∈ l))) := by
 unfold becomes
 congr 1
 rw [Bool.eq_iff_iff]
 simp only [List.any_eq_true, sw, Bool.and_eq_true, decide_eq_true_eq]
 constructor
 ·rintro ⟨s, hs, ⟨⟨k, h1⟩, h2⟩, h3⟩
  refine ⟨k, ?_⟩
  cases s; simp only at h1 h2 h3; subst h1 h2 h3; exact hs
 ·rintro ⟨k, h⟩; exact ⟨_, h, ⟨⟨k, rfl⟩, rfl⟩, rfl⟩
theorem e79' (r : rules) (a b : Mark) : m79 r a b = some (becomes r.swaps a b) := by rw [e79, becomes_eq]
theorem e21 {l : List Bytes} (h : Sh l) : m21 l = some l := by unfold m21; rw [chk_t (by simpa using h)]; simp
theorem e23 {l : List Bytes} (h : ∀ s ∈ l, Sh s) : m23 l = some (listed l) := by
 unfold m23 listed
 rw [e55 h]
 by_cases a : 80 < l.length
 ·rw [if_pos (by omega), if_pos a]
 ·rw [if_neg (by omega), if_neg a]; cases Texts l 80 <;> simp
end T4
namespace T4
open Go Go.Proofs Pk
theorem e81 (s : Bytes) : m81 s = some (digits s) := by
  have hl : ∀ (h : s.length ≤ 9), loopO (m81_1 s) (0, 0) = some (goL (ε := Int ⊕ Int) (fun _ x a => if x.toNat < 48 ∨ 57 < x.toNat then .inr (.inr (-1)) else .inl (10 * a + ((x.toNat : Int) - 48))) (fun a => .inl a) s 0 0) := by
    intro h
    have hp : ∀ i, i ≤ 9 → ((10 ^ i : Nat) : Int) ≤ 1000000000 := fun i hi => by
      have := Nat.pow_le_pow_right (n := 10) (by decide) hi
      exact Int.le_trans (Int.ofNat_le.2 this) (by decide)
    refine loop_l s _ _ (fun i a => 0 ≤ a ∧ a + 1 ≤ ((10 ^ i : Nat) : Int)) (fun i x a hi hx ha => ?_) (fun i x a a' hi hx ha hg => ?_) (fun a ha => ?_) ⟨by omega, by simp⟩
    · have := hp i (by omega)
      have hx2 := UInt8.toNat_lt x
      unfold m81_1
      rw [if_pos (by simpa using hi)]
      simp only [hx, Option.bind_some]
      by_cases h1 : x.toNat < 48
      · rw [if_pos (by omega), Option.bind_some, if_pos rfl, if_pos (Or.inl h1)]
      · rw [if_neg (by omega), Option.bind_some]
        by_cases h2 : 57 < x.toNat
        · rw [if_pos (by simp; omega), if_pos (Or.inr h2)]
        · rw [if_neg (by simp; omega), if_neg (by omega), chk_t (by omega), chk_t (by omega), chk_t (by omega), chk_t (by omega)]
    · have hx2 := UInt8.toNat_lt x
      split at hg
      · cases hg
      · rename_i h1
        simp only [Sum.inl.injEq] at hg
        subst hg
        rw [Nat.pow_succ]
        push_cast
        push_cast at ha
        omega
    · unfold m81_1; simp
  have hd : ∀ (l : Bytes) (i : Nat) (a : Int), (match goL (ε := Int ⊕ Int) (fun _ x a => if x.toNat < 48 ∨ 57 < x.toNat then .inr (.inr (-1)) else .inl (10 * a + ((x.toNat : Int) - 48))) (fun a => .inl a) l i a with | .inr z => some z | .inl t => some t) = some (dval l a) := by
    intro l
    induction l with
    | nil => intro i a; rfl
    | cons x l ih =>
      intro i a
      simp only [goL, dval]
      by_cases h : x.toNat < 48 ∨ 57 < x.toNat
      · simp [h]
      · simp only [if_neg h]; exact ih (i + 1) _
  unfold m81 digits
  by_cases h1 : s.length < 1
  · simp only [show ((s.length : Int) < 1) by omega, if_true, Option.bind_some]
    rw [if_pos (Or.inl h1)]
  · rw [if_neg (by omega)]
    by_cases h2 : 9 < s.length
    · simp only [show (9 < (s.length : Int)) by omega, if_true, Option.bind_some]
      rw [if_pos (Or.inr (Or.inl h2))]
    · rw [if_neg (by omega)]
      cases s with
      | nil => simp at h1
      | cons c s =>
        simp only [List.getElem?_cons_zero, Option.bind_some, List.head?_cons, Option.some.injEq]
        have hc : (c.toNat : Int) = 48 ↔ c = 48 := by
          constructor
          · intro h; exact UInt8.toNat_inj.1 (by have : c.toNat = 48 := by omega
                                                 rw [this]; rfl)
          · rintro rfl; rfl
        by_cases h3 : c = 48
        · rw [if_pos (hc.2 h3), Option.bind_some]
          by_cases h4 : 1 < (c :: s).length
          · rw [if_pos (by rw [decide_eq_true_iff]; omega), if_pos (Or.inr (Or.inr ⟨h3, h4⟩))]
          · rw [if_neg (by rw [decide_eq_true_iff]; omega), if_neg (by rintro (h | h | h); exact h1 h; exact h2 h; exact h4 h.2), hl (by omega)]; exact hd _ 0 0
        · rw [if_neg (by rw [hc]; exact h3), Option.bind_some, if_neg (by simp), if_neg (by rintro (h | h | h); exact h1 h; exact h2 h; exact h3 h.1), hl (by omega)]; exact hd _ 0 0
theorem lkp_append {α : Type} (a b : List (Bytes × α)) (s : Bytes) : lkp (a ++ b) s = (lkp a s).or (lkp b s) := by
 induction a with
 | nil => rfl
 | cons x a ih => simp only [List.cons_append, lkp]; by_cases h : s = x.1 <;> simp [h, ih]
theorem goN_key {α ε : Type} (key : α → Bytes) (val : α → Mark) (s : Bytes) (F : Mark → ε) (out : ε) : ∀ (l : List α) (i : Nat), goN (fun _ x => if key x = s then some (F (val x)) else none) out l i = (match lkp (l.map fun x => (key x, val x)) s with | some m => F m | none => out)
 | [], _ => rfl
 | x :: l, i => by
  have ih := goN_key key val s F out l (i + 1)
  simp only [goN, List.map_cons, lkp]
  by_cases h : key x = s
  ·simp [h]
  ·rw [if_neg h, if_neg (Ne.symm h)]; exact ih
theorem e57 (l : Lexicon) (s : Bytes) : m57 l s = some (Means l s) := by
 have h1 : loopO (m57_1 l s) 0 = some (match lkp (l.numbers.map fun n => (n.text, (⟨1, n.value⟩ : Mark))) s with | some m => .inr m | none => .inl ()) := by
  rw [← goN_key (fun n : Number => n.text) (fun n => ⟨1, n.value⟩) s (fun m => (Sum.inr m : Unit ⊕ Mark)) (.inl ()) l.numbers 0]
  refine loop_n l.numbers _ _ (fun i x hi hx => ?_) ?_
  ·unfold m57_1; rw [if_pos (by omega), hx, Option.bind_some]; by_cases h : x.text = s <;> simp [h]
  ·unfold m57_1; simp
 have h4 : loopO (m57_4 l s) 0 = some (match lkp (l.nots.map fun n => (n, (⟨3, 0⟩ : Mark))) s with | some m => .inr m | none => .inl ()) := by
  rw [← goN_key (fun n : Bytes => n) (fun n => (⟨3, 0⟩ : Mark)) s (fun m => (Sum.inr m : Unit ⊕ Mark)) (.inl ()) l.nots 0]
  refine loop_n l.nots _ _ (fun i x hi hx => ?_) ?_
  ·unfold m57_4; rw [if_pos (by omega), hx, Option.bind_some]; by_cases h : x = s <;> simp [h]
  ·unfold m57_4; simp
 have h3 : ∀ i x, l.names[i]? = some x → loopO (m57_3 l i s) 0 = some (match lkp (x.map fun n => (n, (⟨2, (i : Int)⟩ : Mark))) s with | some m => .inr (.inr (.inr m)) | none => .inl ()) := by
  intro i x hx
  rw [← goN_key (fun n : Bytes => n) (fun n => (⟨2, (i : Int)⟩ : Mark)) s (fun m => (Sum.inr (Sum.inr (Sum.inr m)) : Unit ⊕ (Nat ⊕ (Unit ⊕ Mark)))) (.inl ()) x 0]
  refine loop_n x _ _ (fun j y hj hy => ?_) ?_
  ·unfold m57_3; rw [hx, Option.bind_some, if_pos (by omega), hy, Option.bind_some]; by_cases h : y = s <;> simp [h]
  ·unfold m57_3; rw [hx]; simp
 have h2 : loopO (m57_2 l s) 0 = some (match lkp (namesT l.names 0) s with | some m => .inr m | none => .inl ()) := by
  have hh : ∀ (ls : List (List Bytes)) (i : Nat), goN (ε := Unit ⊕ Mark) (fun i x => match lkp (x.map fun n => (n, (⟨2, (i : Int)⟩ : Mark))) s with | some m => some (.inr m) | none => none) (.inl ()) ls i = (match lkp (namesT ls i) s with | some m => .inr m | none => .inl ()) := by
   intro ls
   induction ls with
   | nil => intro i; rfl
   | cons x ls ih =>
    intro i
    simp only [goN, namesT, lkp_append]
    cases h : lkp (x.map fun n => (n, (⟨2, (i : Int)⟩ : Mark))) s with
    | some m => simp
    | none => simp only [Option.none_or]; rw [ih (i + 1)]; rfl
  have := hh l.names 0
  rw [show ((0 : Nat) : Int) = 0 from rfl] at this
  rw [← this]
  refine loop_n l.names _ _ (fun i x hi hx => ?_) ?_
  ·unfold m57_2; rw [if_pos (by omega), h3 i x hx, Option.bind_some]
   cases lkp (x.map fun n => (n, (⟨2, (i : Int)⟩ : Mark))) s <;> rfl
  ·unfold m57_2; simp
 unfold m57 Means table
 rw [h1, Option.bind_some, lkp_append, lkp_append]
 cases lkp (l.numbers.map fun n => (n.text, (⟨1, n.value⟩ : Mark))) s with
 | some m => rfl
 | none =>
  simp only [h2, Option.bind_some, Option.none_or]
  cases lkp (namesT l.names 0) s with
  | some m => rfl
  | none =>
   simp only [h4, Option.bind_some, Option.none_or]
   cases lkp (l.nots.map fun n => (n, (⟨3, 0⟩ : Mark))) s with
   | some m => rfl
   | none =>
    simp only [e81, Option.bind_some, Option.getD_none, meansDigits]
    by_cases h : 0 ≤ digits s <;> simp [h]
theorem filter_map_snoc (f : Bytes → Mark) (p : Mark → Prop) [DecidablePred p] : ∀ (l : List Bytes) (a : List Mark), l.foldl (fun a x => if p (f x) then a ++ [f x] else a) a = a ++ (l.map f).filter (fun m => decide (p m))
 | [], a => by simp
 | x :: l, a => by
  rw [List.foldl_cons, filter_map_snoc f p l]
  by_cases h : p (f x) <;> simp [h]
theorem e25 (l : Lexicon) {t : List Bytes} (h : Sh t) : m25 l t = some (Sense l t) := by
 unfold m25
 have hl : loopO (m25_1 t l) (0, ([] : List Mark)) = some (t.foldl (fun a x => if (Means l x).kind ≠ 0 then a ++ [Means l x] else a) []) := by
  refine loop_fold t _ (fun a => a) (fun i a => a.length ≤ i) (fun i x a hi hx ha => ?_) (fun i x a hi hx ha => ?_) (fun a ha => ?_) (by simp)
  ·unfold m25_1; rw [if_pos (by simpa using hi), hx, Option.bind_some, e57, Option.bind_some]
   by_cases k : (Means l x).kind ≠ 0
   ·rw [if_pos k, chk_t (by show _ ≤ _; dsimp only; omega), Option.bind_some, if_pos k]
   ·rw [if_neg k, Option.bind_some, if_neg k]
  ·by_cases k : (Means l x).kind ≠ 0
   ·rw [if_pos k]; simp; omega
   ·rw [if_neg k]; omega
  ·unfold m25_1; simp
 rw [hl, Option.bind_some, filter_map_snoc (Means l) (fun m => m.kind ≠ 0)]
 simp [Sense]
end T4
namespace T4
open Go Go.Proofs Pk
theorem thin_sh {l : Lexicon} (h : thinL l) : (∀ n ∈ l.numbers, Sh n.text) ∧ (∀ x ∈ l.names, ∀ s ∈ x, Sh s) ∧ (∀ s ∈ l.nots, Sh s) :=
 ⟨fun n hn => Nat.le_trans (h.number n hn) (by decide), fun x hx s hs => Nat.le_trans ((h.name x hx).2 s hs) (by decide), fun s hs => Nat.le_trans (h.not_ s hs) (by decide)⟩
def okLex (l : Lexicon) : Bool := l.numbers.all okNumber && l.names.all okNames && (Texts l.nots 40 && decide (l.numbers.length ≤ 40) && decide (l.names.length ≤ 40))
theorem LF_eq (l : Lexicon) : LexiconFault l = if okLex l then (if l.all.Nodup then 0 else 6) else 1 := rfl
theorem flat_len {l : List (List Bytes)} (k : Nat) (h : ∀ x ∈ l, x.length ≤ k) : l.flatten.length ≤ k * l.length := by
 induction l with
 | nil => simp
 | cons x l ih =>
  have h1 := h x List.mem_cons_self
  have h2 := ih (fun y hy => h y (List.mem_cons_of_mem _ hy))
  simp only [List.flatten_cons, List.length_append, List.length_cons]
  rw [Nat.mul_succ]; omega
theorem foldl_flatten : ∀ (l : List (List Bytes)) (a : List Bytes), l.foldl (fun a x => a ++ x) a = a ++ l.flatten
 | [], a => by simp
 | x :: l, a => by simp [foldl_flatten l]
theorem e34 {l : Lexicon} (h : thinL l) : m34 l = some (LexiconFault l) := by
 obtain ⟨s1, s2, s3⟩ := thin_sh h
 have h1 : loopO (m34_1 l) (0, ([] : List Bytes)) = some (if l.numbers.all okNumber then .inl (l.numbers.map (·.text)) else .inr 1) := by
  have := loop_l l.numbers (fun _ x a => if okNumber x then .inl (a ++ [x.text]) else .inr (Sum.inr 1)) (fun a => (Sum.inl a : List Bytes ⊕ Int)) (fun i a => a.length ≤ i) (step := m34_1 l) (fun i x a hi hx ha => ?_) (fun i x a a' hi hx ha hg => ?_) (fun a ha => ?_) (a0 := []) (by simp)
  ·rw [this, goL_check, foldl_snoc]; simp
  ·have hl := h.numbers
   unfold m34_1
   rw [if_pos (by simpa using hi)]
   simp only [hx, Option.bind_some, e60 (s1 x (List.mem_of_getElem? hx)), e28]
   rw [chk_t (by omega)]
   unfold okNumber
   cases Text x.text <;> cases In x.value 0 999999999 <;> simp
  ·split at hg
   ·simp only [Sum.inl.injEq] at hg; subst hg; simp; omega
   ·cases hg
  ·unfold m34_1; simp
 have h2 : ∀ t : List Bytes, t.length ≤ 45 → loopO (m34_2 l) (0, t) = some (if l.names.all okNames then .inl (t ++ l.names.flatten) else .inr 1) := by
  intro t ht
  have := loop_l l.names (fun _ x a => if okNames x then .inl (a ++ x) else .inr (Sum.inr 1)) (fun a => (Sum.inl a : List Bytes ⊕ Int)) (fun i a => a.length ≤ 45 + 8 * i) (step := m34_2 l) (fun i x a hi hx ha => ?_) (fun i x a a' hi hx ha hg => ?_) (fun a ha => ?_) (a0 := t) (by omega)
  ·rw [this, goL_check, foldl_flatten]
  ·have hl := h.names
   have hx8 := (h.name x (List.mem_of_getElem? hx)).1
   unfold m34_2
   rw [if_pos (by simpa using hi)]
   simp only [hx, Option.bind_some, e55 (s2 x (List.mem_of_getElem? hx))]
   rw [chk_t (by omega)]
   unfold okNames
   cases x with
   | nil => simp
   | cons y x => simp only [List.length_cons]; rw [if_neg (by omega)]; cases Texts (y :: x) 5 <;> simp
  ·have hx8 := (h.name x (List.mem_of_getElem? hx)).1
   split at hg
   ·simp only [Sum.inl.injEq] at hg; subst hg; simp; omega
   ·cases hg
  ·unfold m34_2; simp
 have h4 : ∀ (i : Nat) (x : Bytes) (t : List Bytes), (t ++ l.nots)[i]? = some x → (t ++ l.nots).length ≤ 1073741824 → loopO (m34_4 i t l) 0 = some (if x ∈ (t ++ l.nots).take i then .inr (.inr (.inr 6)) else .inl ()) := by
  intro i x t hx hb
  have hi := lt_len hx
  have hlen : ((t ++ l.nots).take i).length = i := by rw [List.length_take]; omega
  have := loop_all ((t ++ l.nots).take i) (fun y => decide (x ≠ y)) (Sum.inr (Sum.inr (Sum.inr 6)) : Unit ⊕ (Nat ⊕ (Unit ⊕ Int))) (.inl ()) (step := m34_4 i t l) (fun j y hj hy => ?_) ?_
  ·rw [this]
   by_cases hm : x ∈ (t ++ l.nots).take i
   ·rw [if_pos hm, if_neg]; simp only [List.all_eq_true, decide_eq_true_eq]; exact fun c => c x hm rfl
   ·rw [if_neg hm, if_pos]; simp only [List.all_eq_true, decide_eq_true_eq]; intro y hy e; subst e; exact hm hy
  ·rw [hlen] at hj
   have hy' : (t ++ l.nots)[j]? = some y := by rw [List.getElem?_take_of_lt hj] at hy; exact hy
   unfold m34_4
   rw [if_pos (by omega), hx, Option.bind_some, hy', Option.bind_some, chk_t (by omega)]
   by_cases e : x = y <;> simp [e]
  ·rw [hlen]; unfold m34_4; simp
 have h3 : ∀ t : List Bytes, (t ++ l.nots).length ≤ 1073741824 → loopO (m34_3 t l) 0 = some (if (t ++ l.nots).Nodup then .inl () else .inr 6) := by
  intro t hb
  have := loop_n (t ++ l.nots) (fun i x => if x ∈ (t ++ l.nots).take i then some (Sum.inr 6 : Unit ⊕ Int) else none) (.inl ()) (step := m34_3 t l) (fun i x hi hx => ?_) ?_
  ·rw [this]
   exact congrArg some (goN_nodup _ (Sum.inr 6 : Unit ⊕ Int) (.inl ()) (t ++ l.nots) [] (fun i x hx => if_pos hx) (fun i x hx => if_neg hx) (by simp))
  ·unfold m34_3
   rw [if_pos (by omega), h4 i x t hx hb, Option.bind_some]
   by_cases hm : x ∈ (t ++ l.nots).take i <;> simp [hm]
  ·unfold m34_3; simp
 unfold m34
 rw [h1, LF_eq]
 unfold okLex
 by_cases a1 : l.numbers.all okNumber = true
 ·simp only [a1, if_true, Option.bind_some]
  rw [h2 _ (by simpa using h.numbers)]
  by_cases a2 : l.names.all okNames = true
  ·simp only [a2, if_true, Option.bind_some]
   have hfl := flat_len 8 (fun x hx => (h.name x hx).1)
   have hn1 := h.numbers; have hn2 := h.names; have hn3 := h.nots
   have hb : ((l.numbers.map (·.text) ++ l.names.flatten) ++ l.nots).length ≤ 1073741824 := by simp only [List.length_append, List.length_map]; omega
   rw [e55 s3, Option.bind_some, h3 _ hb, chk_t (by simp only [List.length_append, List.length_map] at hb ⊢; omega)]
   have hall : l.all = (l.numbers.map (·.text) ++ l.names.flatten) ++ l.nots := rfl
   rw [← hall]
   by_cases a3 : Texts l.nots 40 = true
   ·simp only [a3, if_true, Option.bind_some, Bool.true_and]
    by_cases a4 : l.numbers.length ≤ 40
    ·rw [if_neg (by omega), Option.bind_some]
     by_cases a5 : l.names.length ≤ 40
     ·rw [if_neg (by rw [decide_eq_true_iff]; omega)]; simp only [a4, a5, decide_true, Bool.and_self, if_true]
      by_cases hd : l.all.Nodup <;> simp [hd]
     ·rw [if_pos (by rw [decide_eq_true_iff]; omega)]; simp [a5]
    ·rw [if_pos (by omega), Option.bind_some]; simp [a4]
   ·simp [a3]
  ·simp [a2]
 ·simp [a1]
end T4
namespace T4
open Go Go.Proofs Pk
theorem dval_eq : ∀ (l : Bytes) (a : Nat), dval l (a : Int) = if l.all isd then (valN l a : Int) else -1
 | [], a => rfl
 | c :: l, a => by
  have ih := dval_eq l (10 * a + (c.toNat - 48))
  simp only [dval, List.all_cons]
  by_cases h : isd c = true
  ·have h' := h
   simp only [isd, decide_eq_true_eq] at h'
   rw [if_neg (by omega), show (10 * (a : Int) + ((c.toNat : Int) - 48)) = ((10 * a + (c.toNat - 48) : Nat) : Int) by omega, ih]
   simp only [h, Bool.true_and]
   rfl
  ·have h' := h
   simp only [isd, decide_eq_true_eq] at h'
   rw [if_pos (by omega)]; simp [h]
theorem digits_dec {u : Nat} (h : u ≤ 999999999) : digits (Lib.decDigits u) = u := by
 have hl := dec_len (u := u) (k := 9) (by omega) (by decide)
 have hne := dec_ne u
 have hlen : ¬ (Lib.decDigits u).length < 1 := fun c => hne (List.length_eq_zero_iff.1 (by omega))
 unfold digits
 rw [if_neg]
 ·have := dval_eq (Lib.decDigits u) 0
  rw [dec_all, if_pos rfl, dec_val] at this
  exact this
 ·rintro (c | c | ⟨c, d⟩)
  ·exact hlen c
  ·omega
  ·rcases Nat.eq_zero_or_pos u with rfl | hu
   ·rw [Lib.decDigits] at d; simp at d
   ·exact dec_head hu c
theorem digits_back {s : Bytes} (h : 0 ≤ digits s) : ∃ u : Nat, digits s = u ∧ u ≤ 999999999 ∧ s = Lib.decDigits u := by
 unfold digits at h ⊢
 split at h
 ·omega
 ·rename_i hc
  rw [if_neg hc]
  have hd := dval_eq s 0
  rw [show ((0 : Nat) : Int) = 0 from rfl] at hd
  rw [hd] at h ⊢
  split at h
  ·rename_i ha
   rw [if_pos ha]
   refine ⟨_, rfl, ?_, ?_⟩
   ·have := valN_lt s 0 ha
    have h9 : s.length ≤ 9 := by omega
    have := Nat.pow_le_pow_right (n := 10) (by decide) h9
    have : (10 : Nat) ^ 9 = 1000000000 := rfl
    omega
   ·cases s with
    | nil => simp at hc
    | cons c r =>
     by_cases h48 : c = 48
     ·subst h48
      have hr : r = [] := by
       cases r with
       | nil => rfl
       | cons y r => exact absurd (Or.inr (Or.inr ⟨rfl, by simp⟩)) hc
      subst hr
      rw [show valN [48] 0 = 0 from rfl, Lib.decDigits]; rfl
     ·exact (dec_back (c :: r) (by simp) ha (by simpa using h48)).1.symm
  ·omega
def markP (t : List (Bytes × Mark)) (s : Bytes) : Mark × Bool := match lkp t s with
 | some m => (m, true)
 | none => if 0 ≤ digits s then (⟨1, digits s⟩, true) else (⟨0, 0⟩, false)
theorem e80 (t : List (Bytes × Mark)) {s : Bytes} (h : Sh s) : m80 t s = some (markP t s) := by
 unfold m80 markP
 cases hk : lkp t s with
 | some m => simp
 | none =>
  simp only [Option.isSome_none, Bool.false_eq_true, if_false]
  unfold m107 atoiM
  rw [chk_t h, Option.bind_some]
  by_cases hd : 0 ≤ digits s
  ·obtain ⟨u, h1, h2, h3⟩ := digits_back hd
   have ha : atoiR s = ((u : Int), false) := by unfold atoiR; rw [h3, atoi_dec (by omega)]
   rw [if_pos hd, ha, h1]
   have hi : m108 (u : Int) = some (Lib.itoa u) := by unfold m108 itoaM; rw [chk_t (by omega)]
   have hI : Lib.itoa (u : Int) = s := by rw [h3]; unfold Lib.itoa; rw [if_neg (by omega)]; rfl
   have hin : In (u : Int) 0 999999999 = true := by simp only [In, decide_eq_true_eq]; omega
   simp only [e72, Option.bind_some, hi, hI, hin]
   simp
  ·rw [if_neg hd]
   rcases hA : atoiR s with ⟨v, b⟩
   cases b with
   | true => simp
   | false =>
    simp only [e72, Option.bind_some, Bool.false_eq_true, if_false]
    by_cases hv : In v 0 999999999 = true
    ·have hv' := hv
     simp only [In, decide_eq_true_eq] at hv'
     have hi : m108 v = some (Lib.itoa v) := by unfold m108 itoaM; rw [chk_t (by omega)]
     rw [if_pos hv, hi]
     have : Lib.itoa v ≠ s := by
      intro e
      apply hd
      rw [← e]; unfold Lib.itoa; rw [if_neg (by omega), digits_dec (by omega)]; omega
     simp [this]
    ·rw [if_neg hv]; simp
def senseP (t : List (Bytes × Mark)) (l : List Bytes) : List Mark := (l.map (markP t)).filterMap (fun p => if p.2 then some p.1 else none)
theorem foldl_sense (t : List (Bytes × Mark)) : ∀ (l : List Bytes) (a : List Mark), l.foldl (fun a x => if (markP t x).2 then a ++ [(markP t x).1] else a) a = a ++ senseP t l
 | [], a => by simp [senseP]
 | x :: l, a => by
  rw [List.foldl_cons, foldl_sense t l]
  by_cases h : (markP t x).2 <;> simp [senseP, h]
theorem e54 (t : List (Bytes × Mark)) {l : List Bytes} (h : Sh l) (h2 : ∀ s ∈ l, Sh s) : m54 t l = some (senseP t l) := by
 unfold m54
 have hl : loopO (m54_1 l t) (0, ([] : List Mark)) = some (l.foldl (fun a x => if (markP t x).2 then a ++ [(markP t x).1] else a) []) := by
  refine loop_fold l _ (fun a => a) (fun i a => a.length ≤ i) (fun i x a hi hx ha => ?_) (fun i x a hi hx ha => ?_) (fun a ha => ?_) (by simp)
  ·unfold m54_1; rw [if_pos (by simpa using hi), hx, Option.bind_some, e80 t (h2 x (List.mem_of_getElem? hx)), Option.bind_some]
   by_cases k : (markP t x).2 = true
   ·rw [if_pos k, chk_t (by show _ ≤ _; dsimp only; omega), Option.bind_some, if_pos k]
   ·rw [if_neg k, Option.bind_some, if_neg k]
  ·by_cases k : (markP t x).2 = true
   ·rw [if_pos k]; simp; omega
   ·rw [if_neg k]; omega
  ·unfold m54_1; simp
 rw [hl, Option.bind_some, foldl_sense]
 simp
theorem table_kind {l : Lexicon} {s : Bytes} {m : Mark} (h : lkp (table l) s = some m) : m.kind ≠ 0 := by
 have key : ∀ (t : List (Bytes × Mark)), (∀ p ∈ t, p.2.kind ≠ 0) → lkp t s = some m → m.kind ≠ 0 := by
  intro t
  induction t with
  | nil => intro _ h; cases h
  | cons p t ih =>
   intro hp h
   simp only [lkp] at h
   split at h
   ·cases h; exact hp p List.mem_cons_self
   ·exact ih (fun q hq => hp q (List.mem_cons_of_mem _ hq)) h
 refine key _ ?_ h
 have hn : ∀ (ls : List (List Bytes)) (i : Int), ∀ p ∈ namesT ls i, p.2.kind ≠ 0 := by
  intro ls
  induction ls with
  | nil => intro i p hp; cases hp
  | cons x ls ih =>
   intro i p hp
   simp only [namesT, List.mem_append, List.mem_map] at hp
   rcases hp with ⟨_, _, rfl⟩ | hp
   ·show (2 : Int) ≠ 0; decide
   ·exact ih _ p hp
 intro p hp
 simp only [table, List.mem_append, List.mem_map] at hp
 rcases hp with ⟨_, _, rfl⟩ | hp | ⟨_, _, rfl⟩
 ·show (1 : Int) ≠ 0; decide
 ·exact hn _ _ p hp
 ·show (3 : Int) ≠ 0; decide
theorem senseP_eq (l : Lexicon) (t : List Bytes) : senseP (table l) t = Sense l t := by
 unfold senseP Sense
 induction t with
 | nil => rfl
 | cons s t ih =>
  simp only [List.map_cons, List.filterMap_cons, List.filter_cons, ih]
  unfold markP Means
  cases hk : lkp (table l) s with
  | some m => simp [table_kind hk]
  | none =>
   simp only [Option.getD_none, meansDigits]
   by_cases hd : 0 ≤ digits s <;> simp [hd]
end T4
namespace T4
open Go Go.Proofs Pk
theorem e15 (l : Lexicon) (sw : List Swap) : m15 l sw = some (Thin l sw) := by
 have h1 : loopO (m15_1 l) 0 = some (if (l.numbers.take 46).all (fun n => decide (n.text.length ≤ 40)) then .inl () else .inr false) := by
  refine loop_allK l.numbers 46 _ _ _ (fun i x hi hk hx => ?_) (fun i hn => ?_)
  ·unfold m15_1
   rw [if_pos (by omega), Option.bind_some, if_pos (by rw [decide_eq_true_iff]; omega), hx, Option.bind_some]
   by_cases a : x.text.length ≤ 40
   ·rw [if_neg (by omega), chk_t (by omega)]; simp [a]
   ·rw [if_pos (by omega)]; simp [a]
  ·unfold m15_1
   by_cases a : i < l.numbers.length
   ·rw [if_pos (by omega), Option.bind_some, if_neg (by rw [decide_eq_true_iff]; omega)]
   ·rw [if_neg (by omega)]; rfl
 have h2 : loopO (m15_2 l) 0 = some (if (l.names.take 46).all (fun x => short x 8) then .inl () else .inr false) := by
  refine loop_allK l.names 46 _ _ _ (fun i x hi hk hx => ?_) (fun i hn => ?_)
  ·unfold m15_2
   rw [if_pos (by omega), Option.bind_some, if_pos (by rw [decide_eq_true_iff]; omega), hx, Option.bind_some, e16, Option.bind_some, chk_t (by omega)]
   cases short x 8 <;> simp
  ·unfold m15_2
   by_cases a : i < l.names.length
   ·rw [if_pos (by omega), Option.bind_some, if_neg (by rw [decide_eq_true_iff]; omega)]
   ·rw [if_neg (by omega)]; rfl
 unfold m15 Thin
 rw [h1]
 by_cases a1 : (l.numbers.take 46).all (fun n => decide (n.text.length ≤ 40)) = true
 ·simp only [a1, if_true, Option.bind_some, h2]
  by_cases a2 : (l.names.take 46).all (fun x => short x 8) = true
  ·simp only [a2, if_true, Option.bind_some, e16]
   by_cases a3 : (l.numbers.length : Int) ≤ 45
   ·by_cases a4 : (l.names.length : Int) ≤ 45
    ·cases short l.nots 45 <;> simp [a3, a4]
    ·simp [a3, a4]
   ·simp [a3]
  ·simp [a2]
 ·simp [a1]
theorem short_iff (l : List Bytes) (n : Int) : short l n = true ↔ (∀ s ∈ l, s.length ≤ 40) ∧ (l.length : Int) ≤ n := by
 simp [short]
theorem thin_of {l : Lexicon} {sw : List Swap} (h : Thin l sw = true) : thinL l ∧ sw.length ≤ 25 := by
 unfold Thin at h
 simp only [Bool.and_eq_true, decide_eq_true_eq] at h
 obtain ⟨⟨h1, h2⟩, ⟨⟨h3, h4⟩, h5⟩, h6⟩ := h
 rw [short_iff] at h5
 rw [List.take_of_length_le (by omega)] at h1 h2
 simp only [List.all_eq_true, decide_eq_true_eq, short_iff] at h1 h2
 exact ⟨⟨by omega, by omega, by omega, h1, fun x hx => ⟨by have := (h2 x hx).2; omega, (h2 x hx).1⟩, h5.1⟩, by omega⟩
theorem e19 {l : Lexicon} (h : thinL l) : m19 l = some l := by
 have h1 : loopO (m19_1 l) (0, ([] : List Number)) = some l.numbers := by
  have := loop_map l.numbers (fun n => n) (fun a => a) (step := m19_1 l) (fun i x a hi hx ha => ?_) (fun a => ?_)
  ·rw [this]; simp
  ·have := h.numbers
   unfold m19_1; rw [if_pos (by simpa using hi)]; simp only [hx, Option.bind_some]; rw [chk_t (by simp; omega)]
  ·unfold m19_1; simp
 have h2 : loopO (m19_2 l) (0, ([] : List (List Bytes))) = some l.names := by
  have := loop_map l.names (fun n => n) (fun a => a) (step := m19_2 l) (fun i x a hi hx ha => ?_) (fun a => ?_)
  ·rw [this]; simp
  ·have := h.names
   have hx8 := (h.name x (List.mem_of_getElem? hx)).1
   unfold m19_2; rw [if_pos (by simpa using hi)]; simp only [hx, Option.bind_some]; rw [e21 (by show _ ≤ _; omega), Option.bind_some, chk_t (by simp; omega)]
  ·unfold m19_2; simp
 unfold m19
 have := h.nots
 rw [e21 (by show _ ≤ _; omega), Option.bind_some, h1, Option.bind_some, h2, Option.bind_some]
theorem e20 {l : List Swap} (h : Sh l) : m20 l = some l := by
 have h1 : loopO (m20_1 l) (0, ([] : List Swap)) = some l := by
  have := loop_map l (fun n => n) (fun a => a) (step := m20_1 l) (fun i x a hi hx ha => ?_) (fun a => ?_)
  ·rw [this]; simp
  ·have h' : l.length ≤ 1073741824 := h
   unfold m20_1; rw [if_pos (by simpa using hi)]; simp only [hx, Option.bind_some]; rw [chk_t (by simp; omega)]
  ·unfold m20_1; simp
 unfold m20; rw [h1]; rfl
theorem e27 (l : List Swap) : m27 l = some (SwapsFault l) := by
 have h1 : loopO (m27_1 l) 0 = some (if l.all okSwap then .inl () else .inr 1) := by
  refine loop_all l okSwap _ _ (fun i x hi hx => ?_) ?_
  ·unfold m27_1 okSwap
   rw [if_pos (by omega), hx, Option.bind_some, e28, e28]
   by_cases a : x.kind = 1
   ·rw [if_neg (by simp [a])]; cases In x.old_ 0 999999999 <;> cases In x.new_ 0 999999999 <;> simp [a]
   ·rw [if_pos a]
    by_cases b : x.kind = 2
    ·rw [if_neg (by simp [b])]; cases In x.old_ 0 999999999 <;> cases In x.new_ 0 999999999 <;> simp [a, b]
    ·simp [a, b]
  ·unfold m27_1; simp
 unfold m27 SwapsFault
 rw [h1]
 by_cases a : 20 < l.length
 ·rw [if_pos (by omega), if_pos a]
 ·rw [if_neg (by omega), if_neg a]; by_cases b : l.all okSwap = true <;> simp [b]
theorem e22 {l : Lexicon} (h : thinL l) (sw : List Swap) : m22 l sw = some (fault l sw) := by
 unfold m22 fault
 rw [e34 h, Option.bind_some, e27]
 by_cases a : LexiconFault l = 0 <;> simp [a]
theorem e41 (a b : List Mark) : m41 a b = some (decide (a = b)) := by
 unfold m41
 by_cases hl : a.length = b.length
 ·rw [if_neg (by omega)]
  have h1 : loopO (m41_1 a b) 0 = some (if (a.zip b).all (fun p => decide (p.1 = p.2)) then .inl () else .inr false) := by
   refine loop_all (a.zip b) _ _ _ (fun i x hi hx => ?_) ?_
   ·rw [List.length_zip] at hi
    rw [List.getElem?_zip_eq_some] at hx
    unfold m41_1
    rw [if_pos (by omega), hx.1, hx.2]
    obtain ⟨⟨k1, v1⟩, ⟨k2, v2⟩⟩ := x
    by_cases e1 : k1 = k2 <;> by_cases e2 : v1 = v2 <;> simp [e1, e2]
   ·rw [List.length_zip]; unfold m41_1; rw [if_neg (by omega)]
  rw [h1]
  by_cases e : a = b
  ·subst e
   have : (a.zip a).all (fun p => decide (p.1 = p.2)) = true := by
    rw [List.all_eq_true]; rintro ⟨x, y⟩ hm
    rw [List.mem_iff_getElem?] at hm
    obtain ⟨i, hi⟩ := hm
    rw [List.getElem?_zip_eq_some] at hi
    have := hi.1.symm.trans hi.2
    simp at this; simp [this]
   rw [if_pos this]; simp
  ·have : ¬ (a.zip b).all (fun p => decide (p.1 = p.2)) = true := by
    rw [List.all_eq_true]; intro h
    apply e
    apply List.ext_getElem? 
    intro i
    by_cases hi : i < a.length
    ·have h3 : (a.zip b)[i]? = some (a[i], b[i]'(by omega)) := by
      rw [List.getElem?_zip_eq_some]; exact ⟨List.getElem?_eq_getElem _, List.getElem?_eq_getElem _⟩
     have := h _ (List.mem_of_getElem? h3)
     simp only [decide_eq_true_eq] at this
     rw [List.getElem?_eq_getElem hi, List.getElem?_eq_getElem (by omega), this]
    ·rw [List.getElem?_eq_none (by omega), List.getElem?_eq_none (by omega)]
   rw [if_neg this]; simp [e]
 ·rw [if_pos (by omega)]
  have : a ≠ b := fun e => hl (by rw [e])
  simp [this]
def insAll : List (Bytes × Mark) → List (Bytes × Mark) → Option (List (Bytes × Mark))
 | [], m => some m
 | (k, v) :: l, m => if (lkp m k).isSome then none else insAll l (put m k v)
theorem insAll_append : ∀ (a b m : List (Bytes × Mark)), insAll (a ++ b) m = (insAll a m).bind (insAll b)
 | [], b, m => rfl
 | (k, v) :: a, b, m => by
  simp only [List.cons_append, insAll]
  by_cases h : (lkp m k).isSome = true
  ·simp [h]
  ·simp only [h]; exact insAll_append a b _
theorem lkp_none (m : List (Bytes × Mark)) (k : Bytes) : lkp m k = none ↔ k ∉ m.map (·.1) := by
 induction m with
 | nil => simp [lkp]
 | cons p m ih =>
  simp only [lkp, List.map_cons, List.mem_cons, not_or]
  by_cases h : k = p.1 <;> simp [h, ih]
theorem put_new : ∀ (m : List (Bytes × Mark)) (k : Bytes) (v : Mark), lkp m k = none → put m k v = m ++ [(k, v)]
 | [], k, v, _ => rfl
 | (k', v') :: m, k, v, h => by
  simp only [lkp] at h
  split at h
  ·cases h
  ·rename_i hk
   simp only [put, if_neg hk, List.cons_append]
   rw [put_new m k v h]
theorem insAll_eq : ∀ (l m : List (Bytes × Mark)), (m.map (·.1)).Nodup → insAll l m = if ((m ++ l).map (·.1)).Nodup then some (m ++ l) else none
 | [], m, h => by simp only [insAll]; rw [if_pos (by simpa using h)]; simp
 | (k, v) :: l, m, h => by
  simp only [insAll]
  cases hk : lkp m k with
  | some x =>
   have hm : k ∈ m.map (·.1) := by
    rw [← Decidable.not_not (p := k ∈ m.map (·.1)), ← lkp_none, hk]; simp
   rw [if_pos (by simp), if_neg]
   intro hn
   rw [List.map_append, List.nodup_append] at hn
   exact hn.2.2 k hm k (by simp) rfl
  | none =>
   rw [if_neg (by simp), put_new m k v hk, insAll_eq l _ ?_]
   ·simp
   ·rw [List.map_append, List.nodup_append]
    refine ⟨h, by simp, fun a ha b hb => ?_⟩
    simp at hb; subst hb
    rintro rfl
    exact (lkp_none m a).1 hk ha
theorem goL_ins {α ε : Type} (key : α → Bytes) (val : α → Mark) (E : List (Bytes × Mark) → ε) (out : List (Bytes × Mark) → ε) : ∀ (l : List α) (i : Nat) (a : List (Bytes × Mark)),
  (∃ b, insAll (l.map fun p => (key p, val p)) a = some b ∧ goL (fun _ x a => if (lkp a (key x)).isSome then .inr (E a) else .inl (put a (key x) (val x))) out l i a = out b) ∨
  (insAll (l.map fun p => (key p, val p)) a = none ∧ ∃ b, goL (fun _ x a => if (lkp a (key x)).isSome then .inr (E a) else .inl (put a (key x) (val x))) out l i a = E b)
 | [], i, a => .inl ⟨a, rfl, rfl⟩
 | x :: l, i, a => by
  have ih := goL_ins key val E out l (i + 1) (put a (key x) (val x))
  simp only [List.map_cons, insAll, goL]
  by_cases h : (lkp a (key x)).isSome = true
  ·simp only [h, if_true]; exact .inr ⟨trivial, a, rfl⟩
  ·simp only [h]; exact ih
end T4
namespace T4
open Go Go.Proofs Pk
abbrev LL := List (Bytes × Mark)
theorem l58_1 (l : Lexicon) : (∃ b, insAll (l.numbers.map fun n => (n.text, (⟨1, n.value⟩ : Mark))) [] = some b ∧ loopO (m58_1 l) (0, []) = some (.inl b)) ∨ (insAll (l.numbers.map fun n => (n.text, (⟨1, n.value⟩ : Mark))) [] = none ∧ ∃ b, loopO (m58_1 l) (0, []) = some (.inr (.inl (6, b)))) := by
 have h := loop_l l.numbers (fun _ x a => if (lkp a x.text).isSome then .inr (.inr (.inl (6, a))) else .inl (put a x.text (⟨1, x.value⟩ : Mark))) (fun a => (.inl a : LL ⊕ ((Nat × LL) ⊕ LL))) (fun _ _ => True) (step := m58_1 l) (fun i x a hi hx _ => ?_) (fun _ _ _ _ _ _ _ _ => trivial) (fun a _ => ?_) (a0 := []) trivial
 ·rcases goL_ins (fun n : Number => n.text) (fun n => (⟨1, n.value⟩ : Mark)) (fun a => (.inr (.inl (6, a)) : LL ⊕ ((Nat × LL) ⊕ LL))) (fun a => .inl a) l.numbers 0 [] with ⟨b, h1, h2⟩ | ⟨h1, b, h2⟩
  ·exact .inl ⟨b, h1, by rw [h, h2]⟩
  ·exact .inr ⟨h1, b, by rw [h, h2]⟩
 ·unfold m58_1; rw [if_pos (by simpa using hi)]; simp only [hx, Option.bind_some]
  by_cases k : (lkp a x.text).isSome = true <;> simp [k]
 ·unfold m58_1; simp
theorem l58_4 (l : Lexicon) (a0 : LL) : (∃ b, insAll (l.nots.map fun n => (n, (⟨3, 0⟩ : Mark))) a0 = some b ∧ loopO (m58_4 l) (0, a0) = some (.inl b)) ∨ (insAll (l.nots.map fun n => (n, (⟨3, 0⟩ : Mark))) a0 = none ∧ ∃ b, loopO (m58_4 l) (0, a0) = some (.inr (.inl (6, b)))) := by
 have h := loop_l l.nots (fun _ x a => if (lkp a x).isSome then .inr (.inr (.inl (6, a))) else .inl (put a x (⟨3, 0⟩ : Mark))) (fun a => (.inl a : LL ⊕ ((Nat × LL) ⊕ LL))) (fun _ _ => True) (step := m58_4 l) (fun i x a hi hx _ => ?_) (fun _ _ _ _ _ _ _ _ => trivial) (fun a _ => ?_) (a0 := a0) trivial
 ·rcases goL_ins (fun n : Bytes => n) (fun n => (⟨3, 0⟩ : Mark)) (fun a => (.inr (.inl (6, a)) : LL ⊕ ((Nat × LL) ⊕ LL))) (fun a => .inl a) l.nots 0 a0 with ⟨b, h1, h2⟩ | ⟨h1, b, h2⟩
  ·exact .inl ⟨b, h1, by rw [h, h2]⟩
  ·exact .inr ⟨h1, b, by rw [h, h2]⟩
 ·unfold m58_4; rw [if_pos (by simpa using hi)]; simp only [hx, Option.bind_some]
  by_cases k : (lkp a x).isSome = true <;> simp [k]
 ·unfold m58_4; simp
theorem l58_3 (x : List Bytes) (s : Nat × LL) (a0 : LL) : (∃ b, insAll (x.map fun n => (n, (⟨2, (s.1 : Int)⟩ : Mark))) a0 = some b ∧ loopO (m58_3 x s) (0, a0) = some (.inl b)) ∨ (insAll (x.map fun n => (n, (⟨2, (s.1 : Int)⟩ : Mark))) a0 = none ∧ ∃ b, loopO (m58_3 x s) (0, a0) = some (.inr (.inr (.inr (.inl (6, b)))))) := by
 have h := loop_l x (fun _ x a => if (lkp a x).isSome then .inr (.inr (.inr (.inr (.inl (6, a))))) else .inl (put a x (⟨2, (s.1 : Int)⟩ : Mark))) (fun a => .inl a) (fun _ _ => True) (step := m58_3 x s) (fun i x a hi hx _ => ?_) (fun _ _ _ _ _ _ _ _ => trivial) (fun a _ => ?_) (a0 := a0) trivial
 ·rcases goL_ins (fun n : Bytes => n) (fun n => (⟨2, (s.1 : Int)⟩ : Mark)) (fun a => (.inr (.inr (.inr (.inl (6, a)))) : LL ⊕ ((Nat × LL) ⊕ (LL ⊕ ((Nat × LL) ⊕ LL))))) (fun a => .inl a) x 0 a0 with ⟨b, h1, h2⟩ | ⟨h1, b, h2⟩
  ·exact .inl ⟨b, h1, by rw [h, h2]⟩
  ·exact .inr ⟨h1, b, by rw [h, h2]⟩
 ·unfold m58_3; rw [if_pos (by simpa using hi)]; simp only [hx, Option.bind_some]
  by_cases k : (lkp a x).isSome = true <;> simp [k]
 ·unfold m58_3; simp
theorem l58_2 (l : Lexicon) (a0 : LL) : (∃ b, insAll (namesT l.names 0) a0 = some b ∧ loopO (m58_2 l) (0, a0) = some (.inl b)) ∨ (insAll (namesT l.names 0) a0 = none ∧ ∃ b, loopO (m58_2 l) (0, a0) = some (.inr (.inl (6, b)))) := by
 have key : ∀ (k i : Nat) (a : LL), l.names.length - i = k → i ≤ l.names.length → (∃ b, insAll (namesT (l.names.drop i) i) a = some b ∧ loopO (m58_2 l) (i, a) = some (.inl b)) ∨ (insAll (namesT (l.names.drop i) i) a = none ∧ ∃ b, loopO (m58_2 l) (i, a) = some (.inr (.inl (6, b)))) := by
  intro k
  induction k with
  | zero =>
   intro i a hk hi
   obtain rfl : i = l.names.length := by omega
   refine .inl ⟨a, by simp [namesT, insAll], loopO_out ?_⟩
   unfold m58_2; simp
  | succ k ih =>
   intro i a hk hi
   have hlt : i < l.names.length := by omega
   have hx : l.names[i]? = some l.names[i] := List.getElem?_eq_getElem hlt
   rw [List.drop_eq_getElem_cons hlt]
   simp only [namesT, insAll_append]
   rcases l58_3 l.names[i] (i, a) a with ⟨b, h1, h2⟩ | ⟨h1, b, h2⟩
   ·simp only at h1
    rw [h1, Option.bind_some]
    have hs : m58_2 l (i, a) = some (.inl (i + 1, b)) := by
     unfold m58_2; rw [if_pos (by simpa using hlt)]; simp only [hx, Option.bind_some, h2]
    rw [loopO_next hs]
    exact ih (i + 1) b (by omega) (by omega)
   ·simp only at h1
    refine .inr ⟨by rw [h1]; rfl, b, loopO_out ?_⟩
    unfold m58_2; rw [if_pos (by simpa using hlt)]; simp only [hx, Option.bind_some, h2]
 have := key l.names.length 0 a0 (by omega) (by omega)
 simpa using this
theorem names_keys : ∀ (ls : List (List Bytes)) (i : Int), (namesT ls i).map (·.1) = ls.flatten
 | [], _ => rfl
 | l :: ls, i => by simp [namesT, names_keys ls, Function.comp_def]
theorem table_keys (l : Lexicon) : (table l).map (·.1) = l.all := by
 simp [table, Lexicon.all, names_keys, Function.comp_def]
theorem e58 {l : Lexicon} (h : thinL l) : m58 l = some (if LexiconFault l = 0 then (table l, 0) else ([], LexiconFault l)) := by
 obtain ⟨s1, s2, s3⟩ := thin_sh h
 have hins : insAll (table l) [] = if l.all.Nodup then some (table l) else none := by
  rw [insAll_eq _ _ (by simp), ← table_keys]; simp
 unfold m58
 rw [LF_eq]
 unfold okLex Texts
 rw [q85, gAll_some okNumber (fun n hn => e82 (s1 n hn)), q74, gAll_some okNames (fun x hx => e83 (s2 x hx)), e77 s3]
 have t40 : decide ((l.nots.length : Int) ≤ 40) = decide (l.nots.length ≤ 40) := by rw [decide_eq_decide]; omega
 have c1 : ((l.numbers.length : Int) ≤ 40) = (l.numbers.length ≤ 40) := propext (by omega)
 have c2 : ((l.names.length : Int) ≤ 40) = (l.names.length ≤ 40) := propext (by omega)
 rw [t40]
 simp only [c1, c2]
 by_cases hok : l.numbers.all okNumber = true ∧ l.names.all okNames = true ∧ l.nots.all Text = true ∧ l.numbers.length ≤ 40 ∧ l.names.length ≤ 40 ∧ l.nots.length ≤ 40
 ·obtain ⟨a1, a2, a3, b1, b2, b3⟩ := hok
  simp only [a1, a2, a3, b1, b2, b3, if_true, decide_true, Option.bind_some, Bool.not_true, Bool.false_eq_true, if_false, Bool.and_self]
  unfold table at hins
  rw [insAll_append] at hins
  rcases l58_1 l with ⟨b, h1, h2⟩ | ⟨h1, b, h2⟩
  ·rw [h1, Option.bind_some, insAll_append] at hins
   rw [h2]
   simp only [Option.bind_some]
   rcases l58_2 l b with ⟨b2, h3, h4⟩ | ⟨h3, b2, h4⟩
   ·rw [h3, Option.bind_some] at hins
    simp only [h4, Option.bind_some]
    rcases l58_4 l b2 with ⟨b3, h5, h6⟩ | ⟨h5, b3, h6⟩
    ·rw [h5] at hins
     simp only [h6, Option.bind_some]
     by_cases hn : l.all.Nodup
     ·rw [if_pos hn] at hins; cases hins; simp [hn]; rfl
     ·rw [if_neg hn] at hins; cases hins
    ·rw [h5] at hins
     simp only [h6, Option.bind_some]
     by_cases hn : l.all.Nodup
     ·rw [if_pos hn] at hins; cases hins
     ·simp [hn]
   ·rw [h3] at hins
    simp only [h4, Option.bind_some]
    by_cases hn : l.all.Nodup
    ·rw [if_pos hn] at hins; cases hins
    ·simp [hn]
  ·rw [h1] at hins
   rw [h2]
   simp only [Option.bind_some]
   by_cases hn : l.all.Nodup
   ·rw [if_pos hn] at hins; cases hins
   ·simp [hn]
 ·cases a1 : l.numbers.all okNumber <;> cases a2 : l.names.all okNames <;> cases a3 : l.nots.all Text <;> by_cases b1 : l.numbers.length ≤ 40 <;> by_cases b2 : l.names.length ≤ 40 <;> by_cases b3 : l.nots.length ≤ 40 <;> simp [b1, b2, b3]
  exact absurd ⟨a1, a2, a3, b1, b2, b3⟩ hok
def SenseE (l : Lexicon) (t : List Bytes) : List Mark × Int :=
 if LexiconFault l = 0 then (if listedP [t] = 0 then (Sense l t, 0) else ([], listedP [t])) else ([], LexiconFault l)
theorem e26 {l : Lexicon} (h : thinL l) {t : List Bytes} (h1 : Sh t) (h2 : ∀ s ∈ t, Sh s) : m26 l t = some (SenseE l t) := by
 unfold m26 SenseE
 rw [e58 h, Option.bind_some]
 by_cases a : LexiconFault l = 0
 ·simp only [a, if_true]
  rw [if_neg (by simp), e52 (by intro x hx; simp at hx; subst hx; exact h2), Option.bind_some]
  by_cases b : listedP [t] = 0
  ·rw [if_neg (by simp [b]), e54 _ h1 h2, senseP_eq]; simp [b]
  ·rw [if_pos b]; simp [b]
 ·simp only [a, if_false]; rw [if_pos a]
theorem e51 {l : Lexicon} (h : thinL l) (sw : List Swap) : m51 l sw = some (if fault l sw = 0 then ((⟨table l, sw⟩ : rules), 0) else ((⟨[], []⟩ : rules), fault l sw)) := by
 unfold m51 fault SwapsFault
 rw [e58 h, Option.bind_some, e73]
 by_cases a : LexiconFault l = 0
 ·simp only [a, if_true]
  rw [if_neg (by simp)]
  by_cases b : 20 < sw.length
  ·rw [if_pos (by omega)]; simp [b]
  ·rw [if_neg (by omega), Option.bind_some]; simp only [b, if_false]; by_cases c : sw.all okSwap = true <;> simp [c]
 ·simp only [a, if_false]; rw [if_pos a]
end T4
namespace T4
open Go Go.Proofs Pk
def dpV (sw : List Swap) (x y : Mark) (p0 p1 cur : Int) : Int := min (min (if becomes sw x y then p0 else p0 + 1) (p1 + 1)) (cur + 1)
def dpRow (sw : List Swap) (x : Mark) : List Mark → List Int → Int → List Int
 | y :: b, p0 :: p1 :: ps, cur => dpV sw x y p0 p1 cur :: dpRow sw x b (p1 :: ps) (dpV sw x y p0 p1 cur)
 | _, _, _ => []
def dp (sw : List Swap) (b : List Mark) : List Mark → Nat → List Int → List Int
 | [], _, r => r
 | x :: a, i, r => dp sw b a (i + 1) (((i : Int) + 1) :: dpRow sw x b r ((i : Int) + 1))
def row0 (n : Nat) : List Int := (List.range (n + 1)).map (fun (k : Nat) => (k : Int))
def Trouble (sw : List Swap) (a b : List Mark) : Int := ((dp sw b a 0 (row0 b.length))[b.length]?).getD 0
theorem dpRow_len (sw : List Swap) (x : Mark) : ∀ (b : List Mark) (p : List Int) (c : Int), p.length = b.length + 1 → (dpRow sw x b p c).length = b.length
 | [], p, c, h => by cases p <;> simp [dpRow]
 | y :: b, [], c, h => by simp at h
 | y :: b, [p0], c, h => by simp at h
 | y :: b, p0 :: p1 :: ps, c, h => by simp only [dpRow, List.length_cons]; rw [dpRow_len sw x b (p1 :: ps) _ (by simpa using h)]
def inb (N : Int) (l : List Int) : Prop := ∀ v ∈ l, 0 ≤ v ∧ v ≤ N
theorem dpV_b {sw : List Swap} {x y : Mark} {p0 p1 c N : Int} (h0 : 0 ≤ p0) (h1 : 0 ≤ p1 ∧ p1 ≤ N) (hc : 0 ≤ c) : 0 ≤ dpV sw x y p0 p1 c ∧ dpV sw x y p0 p1 c ≤ N + 1 := by
 unfold dpV; split <;> omega
theorem dpRow_b (sw : List Swap) (x : Mark) (N : Int) : ∀ (b : List Mark) (p : List Int) (c : Int), inb N p → 0 ≤ c → inb (N + 1) (dpRow sw x b p c)
 | [], p, c, h, hc => by intro v hv; cases p <;> simp [dpRow] at hv
 | y :: b, [], c, h, hc => by intro v hv; simp [dpRow] at hv
 | y :: b, [p0], c, h, hc => by intro v hv; simp [dpRow] at hv
 | y :: b, p0 :: p1 :: ps, c, h, hc => by
  have hp0 := h p0 (by simp)
  have hp1 := h p1 (by simp)
  have hv := dpV_b (sw := sw) (x := x) (y := y) hp0.1 hp1 hc
  intro v hm
  simp only [dpRow, List.mem_cons] at hm
  rcases hm with rfl | hm
  ·exact hv
  ·exact dpRow_b sw x N b (p1 :: ps) _ (fun u hu => h u (List.mem_cons_of_mem _ hu)) hv.1 v hm
theorem l53_3 (b : List Mark) (s : Nat × List Int × List Int) (r : rules) (x : Mark) (N : Int) (hN : N ≤ 1000000) (hp : inb N s.2.1) (hl : s.2.1.length = b.length + 1) (hb : b.length ≤ 1000000) : ∀ (k i : Nat) (row : List Int) (cur : Int), b.length - i = k → i ≤ b.length → row.length = i + 1 → row[i]? = some cur → 0 ≤ cur → cur ≤ 1000001 →
  loopO (m53_3 b s r x) (i, row) = some (row ++ dpRow r.swaps x (b.drop i) (s.2.1.drop i) cur) := by
 intro k
 induction k with
 | zero =>
  intro i row cur hk hi hr hc h0 h1
  obtain rfl : i = b.length := by omega
  have : dpRow r.swaps x (b.drop b.length) (s.2.1.drop b.length) cur = [] := by
   rw [List.drop_length]; cases s.2.1.drop b.length <;> rfl
  rw [this, List.append_nil]
  exact loopO_out (by unfold m53_3; simp)
 | succ k ih =>
  intro i row cur hk hi hr hc h0 h1
  have hlt : i < b.length := by omega
  have hx : b[i]? = some b[i] := List.getElem?_eq_getElem hlt
  have hq0 : s.2.1[i]? = some (s.2.1[i]'(by omega)) := List.getElem?_eq_getElem (by omega)
  have hq1 : s.2.1[i + 1]? = some (s.2.1[i + 1]'(by omega)) := List.getElem?_eq_getElem (by omega)
  have hd : s.2.1.drop i = s.2.1[i]'(by omega) :: s.2.1[i + 1]'(by omega) :: s.2.1.drop (i + 2) := by
   rw [List.drop_eq_getElem_cons (by omega), List.drop_eq_getElem_cons (show i + 1 < s.2.1.length by omega)]
  have b0 := hp _ (List.mem_of_getElem? hq0)
  have b1 := hp _ (List.mem_of_getElem? hq1)
  have hn : (((i : Int) + 1).toNat) = i + 1 := by omega
  generalize hp0 : s.2.1[i]'(by omega) = p0 at *
  generalize hp1 : s.2.1[i + 1]'(by omega) = p1 at *
  have hv := dpV_b (sw := r.swaps) (x := x) (y := b[i]) b0.1 b1 h0
  have hs : m53_3 b s r x (i, row) = some (.inl (i + 1, row ++ [dpV r.swaps x b[i] p0 p1 cur])) := by
   unfold m53_3
   rw [if_pos (by simpa using hlt)]
   simp only [hx, hq0, Option.bind_some]
   rw [chk_t (by omega), e79', Option.bind_some]
   unfold dpV
   by_cases hbk : becomes r.swaps x b[i] = true
   ·simp only [hbk, if_true]
    rw [chk_t (by omega)]
    simp only [Option.bind_some, hn, hq1, hc]
    rw [chk_t (by omega), chk_t (by omega), chk_t (by simp; omega)]
    rw [show p0 + 1 - 1 = p0 by omega]
   ·simp only [hbk, if_false, Bool.false_eq_true]
    simp only [Option.bind_some, hn, hq1, hc]
    rw [chk_t (by omega), chk_t (by omega), chk_t (by simp; omega)]
  rw [loopO_next hs, ih (i + 1) _ (dpV r.swaps x b[i] p0 p1 cur) (by omega) (by omega) (by simp; omega) (by rw [List.getElem?_append_right (by omega)]; simp [hr]) hv.1 (by omega)]
  rw [List.append_assoc]
  congr 2
  rw [List.drop_eq_getElem_cons hlt, hd]
  have hd2 : s.2.1.drop (i + 1) = p1 :: s.2.1.drop (i + 2) := by
   rw [List.drop_eq_getElem_cons (show i + 1 < s.2.1.length by omega), hp1]
  rw [hd2]
  rfl
theorem l53_2 (a b : List Mark) (r : rules) (ha : a.length ≤ 1000) (hb : b.length ≤ 1000) : ∀ (k i : Nat) (t u : List Int), a.length - i = k → i ≤ a.length → t.length = b.length + 1 → inb ((b.length : Int) + i) t → ∃ v, loopO (m53_2 a b r) (i, t, u) = some (dp r.swaps b (a.drop i) i t, v) := by
 intro k
 induction k with
 | zero =>
  intro i t u hk hi ht hn
  obtain rfl : i = a.length := by omega
  refine ⟨u, ?_⟩
  rw [List.drop_length]
  exact loopO_out (by unfold m53_2; simp [dp])
 | succ k ih =>
  intro i t u hk hi ht hn
  have hlt : i < a.length := by omega
  have hx : a[i]? = some a[i] := List.getElem?_eq_getElem hlt
  have h3 := l53_3 b (i, t, u) r a[i] ((b.length : Int) + i) (by omega) hn ht (by omega) b.length 0 [((i : Int) + 1)] ((i : Int) + 1) (by omega) (by omega) rfl rfl (by omega) (by omega)
  simp only [List.drop_zero, List.singleton_append] at h3
  have hs : m53_2 a b r (i, t, u) = some (.inl (i + 1, ((i : Int) + 1) :: dpRow r.swaps a[i] b t ((i : Int) + 1), ((i : Int) + 1) :: dpRow r.swaps a[i] b t ((i : Int) + 1))) := by
   unfold m53_2
   rw [if_pos (by simpa using hlt)]
   simp only [hx, Option.bind_some]
   rw [h3]
   rfl
  rw [loopO_next hs, List.drop_eq_getElem_cons hlt]
  refine ih (i + 1) _ _ (by omega) (by omega) (by simp [dpRow_len _ _ _ _ _ ht]) ?_
  intro v hv
  rcases List.mem_cons.1 hv with rfl | hv
  ·omega
  ·have := dpRow_b r.swaps a[i] _ b t _ hn (by omega) v hv
   push_cast; omega
theorem dp_len (sw : List Swap) (b : List Mark) : ∀ (a : List Mark) (i : Nat) (r : List Int), r.length = b.length + 1 → (dp sw b a i r).length = b.length + 1
 | [], i, r, h => h
 | x :: a, i, r, h => by simp only [dp]; exact dp_len sw b a (i + 1) _ (by simp [dpRow_len _ _ _ _ _ h])
theorem e53 (r : rules) {a b : List Mark} (ha : a.length ≤ 1000) (hb : b.length ≤ 1000) : m53 r a b = some (Trouble r.swaps a b) := by
 have h1 : loopO (m53_1 b) (0, ([] : List Int)) = some (row0 b.length) := by
  have := loop_map (List.range (b.length + 1)) (fun (k : Nat) => (k : Int)) (fun a => a) (step := m53_1 b) (fun i x a hi hx ha => ?_) (fun a => ?_)
  ·exact this
  ·simp only [List.length_range] at hi
   have hxi : x = i := by rw [List.getElem?_range hi] at hx; simpa using hx.symm
   subst hxi
   unfold m53_1
   rw [if_pos (by simp; omega), chk_t (by simp; omega), chk_t (by simp; omega)]
  ·simp only [List.length_range]; unfold m53_1; simp
 have hlen : (row0 b.length).length = b.length + 1 := by simp [row0]
 obtain ⟨v, h2⟩ := l53_2 a b r ha hb a.length 0 (row0 b.length) [] (by omega) (by omega) hlen (by
  intro v hv
  simp only [row0, List.mem_map, List.mem_range] at hv
  obtain ⟨k, hk, rfl⟩ := hv
  omega)
 rw [List.drop_zero] at h2
 unfold m53 Trouble
 rw [chk_t (by omega), h1, Option.bind_some, h2, Option.bind_some]
 have hl := dp_len r.swaps b a 0 _ hlen
 dsimp only
 rw [List.getElem?_eq_getElem (show b.length < (dp r.swaps b a 0 (row0 b.length)).length by omega)]
 rfl
theorem sense_len (l : Lexicon) (t : List Bytes) : (Sense l t).length ≤ t.length := by
 unfold Sense; exact Nat.le_trans (List.length_filter_le _ _) (by simp)
def TroubleE (l : Lexicon) (sw : List Swap) (a b : List Bytes) : Int × Int :=
 if fault l sw = 0 then (if listedP [a, b] = 0 then (Trouble sw (Sense l a) (Sense l b), 0) else (0, listedP [a, b])) else (0, fault l sw)
theorem listedP_80 {a b : List Bytes} (h : listedP [a, b] = 0) : a.length ≤ 80 ∧ b.length ≤ 80 := by
 unfold listedP at h
 by_cases k : [a, b].all (fun l => decide ((l.length : Int) ≤ 80)) = true
 ·simp at k; omega
 ·rw [if_neg k] at h; cases h
theorem e18 {l : Lexicon} (h : thinL l) (sw : List Swap) {a b : List Bytes} (ha : ∀ s ∈ a, Sh s) (hb : ∀ s ∈ b, Sh s) : m18 l sw a b = some (TroubleE l sw a b) := by
 unfold m18 TroubleE
 rw [e51 h, Option.bind_some]
 by_cases k : fault l sw = 0
 ·simp only [k, if_true]
  rw [if_neg (by simp), e52 (by intro x hx; simp at hx; rcases hx with rfl | rfl; exact ha; exact hb), Option.bind_some]
  by_cases k2 : listedP [a, b] = 0
  ·obtain ⟨la, lb⟩ := listedP_80 k2
   rw [if_neg (by simp [k2]), e54 _ (by show _ ≤ _; omega) ha, Option.bind_some, e54 _ (by show _ ≤ _; omega) hb, Option.bind_some, senseP_eq, senseP_eq, e53 _ (by have := sense_len l a; omega) (by have := sense_len l b; omega)]
   simp [k2]
  ·rw [if_pos k2]; simp [k2]
 ·simp only [k, if_false]; rw [if_pos k]
end T4
namespace T4
open Go Go.Proofs Pk
theorem w_sh {r : Report} (h : ∀ x ∈ r.words, x.text.length ≤ 40) : ∀ x ∈ r.words, Sh x.text := fun x hx => Nat.le_trans (h x hx) (by decide)
theorem e91 {w : Said} (h : Sh w.text) : m91 w = some (okSaid w) := by
 unfold m91 okSaid; rw [e78 h, Option.bind_some, e84]; cases Text w.text <;> simp
theorem q92 (l : List Said) (f : Said → Option Bool) : m92 l f = gAll l f := rfl
theorem q120 (l : List Said) (f : Said → Option Bool) : m120 l f = gHas l f := rfl
theorem q145 (l : List Request) (f : Request → Option Bool) : m145 l f = gHas l f := rfl
theorem e61 {r : Report} (h : ∀ x ∈ r.words, Sh x.text) : m61 r = some (if RightReport r then 0 else 1) := by
 unfold m61 RightReport
 rw [q92, gAll_some okSaid (fun w hw => e91 (h w hw)), e84, e84]
 by_cases a : 80 < r.words.length
 ·rw [if_pos (by omega), Option.bind_some, if_pos rfl]
  have : decide ((r.words.length : Int) ≤ 80) = false := by rw [decide_eq_false_iff_not]; omega
  simp [this]
 ·rw [if_neg (by omega)]
  have : decide ((r.words.length : Int) ≤ 80) = true := by rw [decide_eq_true_iff]; omega
  rw [this]
  cases r.words.all okSaid <;> cases In r.out 0 100000 <;> cases In r.within 0 100000 <;> simp
theorem e36 {r : Report} (h : ∀ x ∈ r.words, Sh x.text) : m36 r = some (if RightReport r then 0 else 1) := by unfold m36; rw [e61 h]; rfl
theorem e37 {r : Report} (h : ∀ x ∈ r.words, Sh x.text) : m37 r = some (RightReport r) := by
 have h1 : loopO (m37_1 r) 0 = some (if r.words.all okSaid then .inl () else .inr false) := by
  refine loop_all r.words okSaid _ _ (fun i x hi hx => ?_) ?_
  ·unfold m37_1 okSaid
   rw [if_pos (by omega), hx, Option.bind_some, e60 (h x (List.mem_of_getElem? hx)), Option.bind_some, e28]
   cases Text x.text <;> cases In x.speaker 0 999 <;> simp
  ·unfold m37_1; simp
 unfold m37 RightReport
 rw [h1, e28, e28]
 by_cases a : r.words.all okSaid = true
 ·simp only [a, if_true, Option.bind_some]
  by_cases b : (r.words.length : Int) ≤ 80
  ·simp only [b, if_true, decide_true, Option.bind_some]
   cases In r.out 0 100000 <;> cases In r.within 0 100000 <;> simp
  ·simp [b]
 ·simp [a]
theorem e31 {r : Report} (h : r.words.length ≤ 1000000) : m31 r = some r := by
 have h1 : loopO (m31_1 r) (0, ([] : List Said)) = some r.words := by
  have := loop_map r.words (fun n => n) (fun a => a) (step := m31_1 r) (fun i x a hi hx ha => ?_) (fun a => ?_)
  ·rw [this]; simp
  ·unfold m31_1; rw [if_pos (by simpa using hi)]; simp only [hx, Option.bind_some]; rw [chk_t (by simp; omega)]
  ·unfold m31_1; simp
 unfold m31; rw [h1]; rfl
theorem e32 {q : List Request} (h : q.length ≤ 1000000) (h2 : ∀ x ∈ q, Sh x.put_) : m32 q = some q := by
 have h1 : loopO (m32_1 q) (0, ([] : List Request)) = some q := by
  have := loop_map q (fun n => n) (fun a => a) (step := m32_1 q) (fun i x a hi hx ha => ?_) (fun a => ?_)
  ·rw [this]; simp
  ·unfold m32_1; rw [if_pos (by simpa using hi)]; simp only [hx, Option.bind_some]; rw [e21 (h2 x (List.mem_of_getElem? hx)), Option.bind_some, chk_t (by simp; omega)]
  ·unfold m32_1; simp
 unfold m32; rw [h1]; rfl
structure RQ (r : Report) (q : List Request) : Prop where
 words1 : r.words.length ≤ 85
 words2 : ∀ x ∈ r.words, x.text.length ≤ 40
 req1 : q.length ≤ 25
 req2 : ∀ x ∈ q, x.put_.length ≤ 12 ∧ ∀ s ∈ x.put_, s.length ≤ 40
theorem few_of {r : Report} {q : List Request} (h : Few r q = true) : RQ r q := by
 unfold Few at h
 simp only [Bool.and_eq_true, decide_eq_true_eq] at h
 obtain ⟨⟨h1, h2⟩, h3, h4⟩ := h
 rw [List.take_of_length_le (by omega)] at h1 h2
 simp only [List.all_eq_true, decide_eq_true_eq, short_iff] at h1 h2
 exact ⟨by omega, h1, by omega, fun x hx => ⟨by have := (h2 x hx).2; omega, (h2 x hx).1⟩⟩
def ready (l : Lexicon) (sw : List Swap) (r : Report) (q : List Request) : Bool := Thin l sw && Few r q && decide (wrong l sw r q = 0)
theorem olds_eq (r : Report) (i j : Int) : Olds r i j = ((r.words.drop i.toNat).take (j.toNat - i.toNat)).map (·.text) := rfl
theorem olds_len (r : Report) (i j : Int) : (Olds r i j).length ≤ r.words.length := by rw [olds_eq]; simp; omega
theorem olds_mem {r : Report} {i j : Int} {s : Bytes} (h : s ∈ Olds r i j) : ∃ x ∈ r.words, x.text = s := by
 rw [olds_eq, List.mem_map] at h
 obtain ⟨x, hx, rfl⟩ := h
 exact ⟨x, List.mem_of_mem_drop (List.mem_of_mem_take hx), rfl⟩
theorem e68 {r : Report} {i j : Int} (h0 : 0 ≤ i) (h1 : i ≤ j) (h2 : j ≤ r.words.length) (h3 : r.words.length ≤ 1000000) : m68 r i j = some (Olds r i j) := by
 have hl : loopO (m68_1 r i j) (0, ([] : List Bytes)) = some (Olds r i j) := by
  refine loop_map _ (fun w : Said => w.text) (fun a => a) (step := m68_1 r i j) (fun k x a hi hx ha => ?_) (fun a => ?_)
  ·have : ((r.words.drop i.toNat).take (j.toNat - i.toNat)).length ≤ r.words.length := by simp; omega
   unfold m68_1; rw [if_pos (by simp at hi ⊢; omega)]; simp only [hx, Option.bind_some]; rw [chk_t (by simp; omega)]
  ·unfold m68_1; simp
 unfold m68
 rw [chk_t h0, chk_t (by omega), chk_t (by omega), hl]; rfl
theorem e47 {r : Report} {i j : Int} (h0 : 0 ≤ i) (h1 : i ≤ j) (h2 : j ≤ r.words.length) (h3 : r.words.length ≤ 1000000) : m47 r i j = some (Olds r i j) := by
 have key : ∀ (k : Nat) (p : Int) (a : List Bytes), (j - p).toNat = k → 0 ≤ p → p ≤ j → a.length + (j - p).toNat ≤ 1000000 → loopO (m47_1 j r) (p, a) = some (a ++ Olds r p j) := by
  intro k
  induction k with
  | zero =>
   intro p a hk hp hpj ha
   obtain rfl : p = j := by omega
   have : Olds r p p = [] := by rw [olds_eq]; simp
   rw [this, List.append_nil]
   exact loopO_out (by unfold m47_1; simp)
  | succ k ih =>
   intro p a hk hp hpj ha
   have hlt : p < j := by omega
   have hx : r.words[p.toNat]? = some (r.words[p.toNat]'(by omega)) := List.getElem?_eq_getElem (by omega)
   have hs : m47_1 j r (p, a) = some (.inl (p + 1, a ++ [(r.words[p.toNat]'(by omega)).text])) := by
    unfold m47_1
    rw [if_pos hlt, chk_t hp]; simp only [hx, Option.bind_some]
    rw [chk_t (by omega), chk_t (by omega)]
   rw [loopO_next hs, ih (p + 1) _ (by omega) (by omega) (by omega) (by simp; omega)]
   rw [List.append_assoc]
   congr 2
   rw [olds_eq, olds_eq]
   rw [List.drop_eq_getElem_cons (show p.toNat < r.words.length by omega), show (p + 1).toNat = p.toNat + 1 by omega, show j.toNat - p.toNat = (j.toNat - (p.toNat + 1)) + 1 by omega, List.take_succ_cons, List.map_cons]
   rfl
 unfold m47
 rw [key _ i [] rfl h0 h1 (by simp; omega)]; rfl
abbrev insideQ (r : Report) (q : Request) : Prop := 0 ≤ q.from_ ∧ 0 ≤ q.cut ∧ q.from_ ≤ (r.words.length : Int) - q.cut
theorem e69 {r : Report} {q : Request} (h : insideQ r q) (h2 : r.words.length ≤ 1000000) : m69 q = some (q.from_ + q.cut) := by
 obtain ⟨a, b, c⟩ := h
 unfold m69; rw [chk_t (by omega)]
theorem e114 (d : decided) (q : Request) (h : d.report.words.length ≤ 1000000) (h64 : q.cut ≤ 9223372036854775807) : m114 d q = some (decide (0 ≤ q.from_ ∧ 0 ≤ q.cut ∧ q.from_ ≤ (d.report.words.length : Int) - q.cut)) := by
 unfold m114
 by_cases a : 0 ≤ q.from_
 ·by_cases b : 0 ≤ q.cut
  ·simp only [a, b, if_true]; rw [chk_t (by omega)]; simp
  ·simp [a, b]
 ·simp [a]
def properQ (q : Request) : Bool := decide (q.cut ≤ 8) && decide ((q.put_.length : Int) ≤ 8) && q.put_.all Text && decide (0 < q.cut + (q.put_.length : Int)) && In q.by_ 0 999
theorem e115 (d : decided) {q : Request} (h : 0 ≤ q.cut) (h2 : ∀ s ∈ q.put_, Sh s) : m115 d q = some (properQ q) := by
 unfold m115 properQ
 rw [e77 h2, e84]
 by_cases a : q.cut ≤ 8
 ·by_cases b : (q.put_.length : Int) ≤ 8
  ·simp only [a, b, if_true, Option.bind_some, decide_true, Bool.true_and]
   cases q.put_.all Text
   ·simp
   ·simp only [if_true, Bool.true_and]; rw [chk_t (by omega)]
    by_cases c : 0 < q.cut + (q.put_.length : Int) <;> simp [c]
  ·simp [a, b]
 ·simp [a]
end T4
namespace T4
open Go Go.Proofs Pk
theorem becomes_list (sw : List Swap) : ∀ (a b : List Mark), eqF (becomes sw) a b = Becomes sw a b
 | [], [] => rfl
 | x :: a, y :: b => by simp only [eqF, Becomes, becomes_list sw a b]
 | [], _ :: _ => rfl
 | _ :: _, [] => rfl
theorem q161 (a b : List Mark) (f : Mark → Mark → Option Bool) : m161 a b f = gEqF a b f := rfl
theorem q94 (sw : List Swap) (a b : List Mark) : m94 sw a b = gEqF a b (m56 sw) := rfl
theorem e144 (r : rules) (a b : List Mark) : m144 r a b = some (Becomes r.swaps a b) := by
 unfold m144; rw [q161, gEqF_some (becomes r.swaps) (fun x _ y _ => e79' r x y), becomes_list]; rfl
theorem e56 (sw : List Swap) (a b : Mark) : m56 sw a b = some (becomes sw a b) := by
 unfold m56
 by_cases h : a = b
 ·rw [if_pos h]; simp [becomes, h]
 ·rw [if_neg h]
  have h1 : loopO (m56_1 sw a b) 0 = some (goN (ε := Unit ⊕ Bool) (fun _ s => if T4.sw a b s then some (.inr true) else none) (.inl ()) sw 0) := by
   refine loop_n sw _ _ (fun i x hi hx => ?_) ?_
   ·unfold m56_1
    rw [if_pos (by omega), hx, Option.bind_some]
    unfold T4.sw
    by_cases k1 : a.kind = b.kind
    ·rw [k1]; by_cases k2 : x.kind = b.kind <;> by_cases k3 : x.old_ = a.value <;> by_cases k4 : x.new_ = b.value <;> simp [k2, k3, k4]
    ·simp [k1]
   ·unfold m56_1; simp
  rw [h1, goN_find (fun s => if T4.sw a b s then some (Sum.inr true : Unit ⊕ Bool) else none)]
  unfold becomes
  have : decide (a = b) = false := by simp [h]
  rw [this, Bool.false_or]
  cases hf : sw.findSome? (fun s => if T4.sw a b s then some (Sum.inr true : Unit ⊕ Bool) else none) with
  | none =>
   rw [List.findSome?_eq_none_iff] at hf
   have : sw.any (T4.sw a b) = false := by
    rw [List.any_eq_false]; intro s hs c
    have := hf s hs
    simp [c] at this
   rw [this]; rfl
  | some z =>
   obtain ⟨s, hs, hz⟩ := List.exists_of_findSome?_eq_some hf
   by_cases c : T4.sw a b s = true
   ·simp only [c, if_true, Option.some.injEq] at hz
    subst hz
    have : sw.any (T4.sw a b) = true := List.any_eq_true.2 ⟨s, hs, c⟩
    rw [this]; rfl
   ·simp [c] at hz
theorem owns_def (r : Report) (i m : Int) : owns r i m = (decide (0 ≤ i) && ((r.words[i.toNat]?).map (fun w => decide (w.speaker = m))).getD false) := by
 unfold owns; cases r.words[i.toNat]? <;> rfl
theorem ownsAll_eq (r : Report) (m : Int) : ∀ (n : Nat) (i : Int), 0 ≤ i → i.toNat + n ≤ r.words.length → ownsAll r m n i = ((r.words.drop i.toNat).take n).all (fun w => decide (w.speaker = m))
 | 0, i, _, _ => by simp [ownsAll]
 | n + 1, i, h0, h1 => by
  have hlt : i.toNat < r.words.length := by omega
  simp only [ownsAll]
  rw [ownsAll_eq r m n (i + 1) (by omega) (by omega), List.drop_eq_getElem_cons hlt, List.take_succ_cons, List.all_cons, show (i + 1).toNat = i.toNat + 1 by omega]
  congr 1
  unfold owns
  rw [List.getElem?_eq_getElem hlt]; simp [h0]
def ownQ (r : Report) (q : Request) : Bool := if q.cut = 0 then owns r (q.from_ - 1) q.by_ || owns r q.from_ q.by_ else ownsAll r q.by_ q.cut.toNat q.from_
theorem e143 (w : Said) (q : Request) : m143 w q = some (decide (w.speaker = q.by_)) := rfl
theorem e116 {d : decided} {q : Request} (h : insideQ d.report q) (h2 : d.report.words.length ≤ 1000000) : m116 d q = some (ownQ d.report q) := by
 obtain ⟨a, b, c⟩ := id h
 unfold m116 ownQ
 by_cases k : 0 < q.cut
 ·rw [if_pos k, e69 h h2, Option.bind_some, chk_t a, chk_t (by omega), chk_t (by omega), q92, gAll_some (fun w => decide (w.speaker = q.by_)) (fun w _ => e143 w q), Option.bind_some, if_neg (by omega), ownsAll_eq _ _ _ _ a (by omega)]
  rw [show (q.from_ + q.cut).toNat - q.from_.toNat = q.cut.toNat by omega]
 ·have k0 : q.cut = 0 := by omega
  rw [if_neg k, if_pos k0]
  rw [chk_t (by omega), chk_t (by omega), chk_t (by omega), chk_t (by omega), q120, gHas_some (fun w => decide (w.speaker = q.by_)) (fun w _ => e143 w q), Option.bind_some]
  congr 1
  rw [owns_def, owns_def]
  by_cases hf : 0 < q.from_
  ·have h1 : (max 0 (q.from_ - 1)).toNat = q.from_.toNat - 1 := by omega
   have hlt : q.from_.toNat - 1 < d.report.words.length := by omega
   have d1 : decide (0 ≤ q.from_ - 1) = true := by rw [decide_eq_true_iff]; omega
   have d2 : decide (0 ≤ q.from_) = true := by rw [decide_eq_true_iff]; omega
   rw [h1, d1, d2, Bool.true_and, Bool.true_and, show (q.from_ - 1).toNat = q.from_.toNat - 1 by omega, List.getElem?_eq_getElem hlt, List.drop_eq_getElem_cons hlt]
   by_cases e : q.from_.toNat < d.report.words.length
   ·rw [show (min (d.report.words.length : Int) (q.from_ + 1)).toNat - (q.from_.toNat - 1) = 2 by omega, show q.from_.toNat - 1 + 1 = q.from_.toNat by omega, List.drop_eq_getElem_cons e, List.getElem?_eq_getElem e]
    simp only [List.take_succ_cons, List.take_zero, List.any_cons, List.any_nil, Bool.or_false, Option.map_some, Option.getD_some]
   ·rw [show (min (d.report.words.length : Int) (q.from_ + 1)).toNat - (q.from_.toNat - 1) = 1 by omega, List.getElem?_eq_none (by omega)]
    simp only [List.take_succ_cons, List.take_zero, List.any_cons, List.any_nil, Bool.or_false, Option.map_some, Option.map_none, Option.getD_some, Option.getD_none]
  ·have hz : q.from_ = 0 := by omega
   rw [hz]
   have h1 : (max (0 : Int) (0 - 1)).toNat = 0 := by decide
   rw [h1]
   by_cases e : 0 < d.report.words.length
   ·rw [show (min (d.report.words.length : Int) (0 + 1)).toNat - 0 = 1 by omega, show (0 : Int).toNat = 0 from rfl, List.getElem?_eq_getElem e]
    rw [List.drop_eq_getElem_cons e]
    simp
   ·have : d.report.words = [] := List.length_eq_zero_iff.1 (by omega)
    simp [this]
end T4
namespace T4
open Go Go.Proofs Pk
abbrev endOK (q : Request) : Prop := -9223372036854775808 ≤ q.from_ + q.cut ∧ q.from_ + q.cut ≤ 9223372036854775807
theorem inside_end {r : Report} {q : Request} (h : insideQ r q) (h2 : r.words.length ≤ 1000000) : endOK q := by
 obtain ⟨a, b, c⟩ := h; unfold endOK; omega
theorem e69' {q : Request} (h : endOK q) : m69 q = some (q.from_ + q.cut) := by unfold m69; rw [chk_t h]
theorem l146 : ∀ (n : Nat) {a b : Request}, endOK a → endOK b → (m146F n a b = none ∨ m146F n a b = some (Meet a b)) ∧ (2 ≤ n → m146F n a b = some (Meet a b)) ∧ ((a.cut = 0 ∨ b.cut ≠ 0) → 1 ≤ n → m146F n a b = some (Meet a b))
 | 0, a, b, _, _ => ⟨.inl rfl, by omega, by omega⟩
 | n + 1, a, b, ha, hb => by
  by_cases k1 : a.cut = 0
  ·have : m146F (n + 1) a b = some (Meet a b) := by
    unfold m146F Meet
    by_cases k2 : b.cut = 0
    ·simp [k1, k2]
    ·simp only [k1, k2, if_true, if_false, and_false, Option.bind_some, decide_false, Bool.false_eq_true, e69' hb]
     by_cases k3 : b.from_ < a.from_ <;> simp [k3]
   exact ⟨.inr this, fun _ => this, fun _ _ => this⟩
  ·by_cases k2 : b.cut = 0
   ·have ih := l146 n hb ha
    have hm : Meet b a = Meet a b := by
     unfold Meet; simp [k1, k2]
    have hs : m146F (n + 1) a b = (m146F n b a).bind fun r => some r := by
     rw [m146F]; simp [k1, k2]
    rw [hs, bd_self]
    rw [hm] at ih
    refine ⟨ih.1, fun h => ih.2.2 (.inl k2) (by omega), ?_⟩
    rintro (h | h)
    ·exact absurd h k1
    ·exact absurd k2 h
   ·have : m146F (n + 1) a b = some (Meet a b) := by
     unfold m146F Meet
     simp only [k1, k2, if_false, false_and, Option.bind_some, Bool.false_eq_true, e69' ha, e69' hb]
     by_cases k3 : a.from_ < b.from_ + b.cut <;> simp [k3]
    exact ⟨.inr this, fun _ => this, fun _ _ => this⟩
theorem e146 {a b : Request} (ha : endOK a) (hb : endOK b) : m146 a b = some (Meet a b) := by
 unfold m146
 refine recO_eq 2 ((l146 2 ha hb).2.1 (by omega)) (fun m r' h => ?_)
 rcases (l146 m ha hb).1 with h1 | h1
 ·rw [h1] at h; cases h
 ·rw [h1] at h; cases h; rfl
theorem e119 {d : decided} {q : Request} (hq : endOK q) (ha : ∀ x ∈ d.accepted, endOK x) : m119 d q = some (!d.accepted.any (Meet q)) := by
 unfold m119
 rw [q145, gHas_some (Meet q) (fun x hx => e146 hq (ha x hx))]; rfl
theorem e117 {d : decided} (q : Request) (h : 0 ≤ d.report.out ∧ d.report.out ≤ 100000) (h2 : 0 ≤ d.report.within ∧ d.report.within ≤ 100000) : m117 d q = some (In q.minute d.report.out (d.report.out + d.report.within)) := by
 unfold m117; rw [chk_t (by omega), e84]; rfl
def keptQ (l : Lexicon) (sw : List Swap) (r : Report) (q : Request) : Bool := Becomes sw (Sense l (Olds r q.from_ (q.from_ + q.cut))) (Sense l q.put_)
theorem e118 {d : decided} {l : Lexicon} {q : Request} (hd : d.rules.meanings = table l) (h : insideQ d.report q) (h2 : d.report.words.length ≤ 1000000) (h3 : ∀ x ∈ d.report.words, Sh x.text) (h4 : Sh q.put_) (h5 : ∀ s ∈ q.put_, Sh s) : m118 d q = some (keptQ l d.rules.swaps d.report q) := by
 obtain ⟨a, b, c⟩ := id h
 unfold m118 keptQ
 rw [e69 h h2, Option.bind_some, e68 a (by omega) (by omega) h2, Option.bind_some, hd, e54, Option.bind_some, e54 _ h4 h5, Option.bind_some, e144, senseP_eq, senseP_eq]
 ·rfl
 ·have := olds_len d.report q.from_ (q.from_ + q.cut); show _ ≤ _; omega
 ·intro s hs
  obtain ⟨x, hx, rfl⟩ := olds_mem hs
  exact h3 x hx
end T4
namespace T4
open Go Go.Proofs Pk
def errQ (l : Lexicon) (sw : List Swap) (r : Report) (acc : List Request) (q : Request) : Int := if Alone l sw r q ≠ 0 then Alone l sw r q else if acc.any (Meet q) then 6 else 0
theorem alone_parts (l : Lexicon) (sw : List Swap) (r : Report) (q : Request) : Alone l sw r q =
  if ¬ insideQ r q then 2 else if properQ q = false then 1 else if ownQ r q = false then 5 else if In q.minute r.out (r.out + r.within) = false then 11 else if keptQ l sw r q then 0 else 9 := by
 unfold Alone
 by_cases hin : insideQ r q
 ·have hin' := hin
  obtain ⟨a, b, c⟩ := hin'
  have nin : ¬ ¬ insideQ r q := fun h => h hin
  rw [if_neg (show ¬ (q.from_ < 0 ∨ q.cut < 0 ∨ (r.words.length : Int) - q.cut < q.from_) by omega), if_neg nin]
  have hp : (8 < q.cut ∨ Texts q.put_ 8 = false ∨ (q.cut = 0 ∧ (q.put_.length : Int) = 0) ∨ ¬ (0 ≤ q.by_ ∧ q.by_ ≤ 999)) ↔ properQ q = false := by
   unfold properQ Texts In
   simp only [Bool.and_eq_false_iff, decide_eq_false_iff_not]
   constructor
   ·rintro (h | (h | h) | h | h)
    ·exact .inl (.inl (.inl (.inl (by omega))))
    ·exact .inl (.inl (.inr h))
    ·exact .inl (.inl (.inl (.inr (by omega))))
    ·exact .inl (.inr (by omega))
    ·exact .inr h
   ·rintro ((((h | h) | h) | h) | h)
    ·exact .inl (by omega)
    ·exact .inr (.inl (.inr (by omega)))
    ·exact .inr (.inl (.inl h))
    ·exact .inr (.inr (.inl (by omega)))
    ·exact .inr (.inr (.inr h))
  by_cases hpr : properQ q = false
  ·rw [if_pos (hp.2 hpr), if_pos hpr]
  ·rw [if_neg (fun h => hpr (hp.1 h)), if_neg hpr]
   by_cases hw : ownQ r q = false
   ·rw [if_pos hw]
    unfold ownQ at hw
    by_cases k : q.cut = 0
    ·rw [if_pos k, Bool.or_eq_false_iff] at hw
     rw [if_pos ⟨k, hw⟩]
    ·rw [if_neg k] at hw
     rw [if_neg (fun h => k h.1), if_pos hw]
   ·rw [if_neg hw]
    unfold ownQ at hw
    have h1 : ¬ (q.cut = 0 ∧ owns r (q.from_ - 1) q.by_ = false ∧ owns r q.from_ q.by_ = false) := by
     rintro ⟨k, h2, h3⟩; rw [if_pos k, h2, h3] at hw; exact hw rfl
    have h2 : ¬ ownsAll r q.by_ q.cut.toNat q.from_ = false := by
     by_cases k : q.cut = 0
     ·rw [k]; simp [ownsAll]
     ·rw [if_neg k] at hw; exact hw
    rw [if_neg h1, if_neg h2]
    by_cases ht : In q.minute r.out (r.out + r.within) = false
    ·rw [if_pos ht, if_pos]
     simp only [In, decide_eq_false_iff_not] at ht; omega
    ·rw [if_neg ht, if_neg]
     ·rfl
     ·rw [Bool.not_eq_false] at ht; simp only [In, decide_eq_true_eq] at ht; omega
 ·rw [if_pos hin, if_pos]
  unfold insideQ at hin; omega
theorem alone_inside {l : Lexicon} {sw : List Swap} {r : Report} {q : Request} (h : Alone l sw r q = 0) : insideQ r q := by
 rw [alone_parts] at h
 by_cases hin : insideQ r q
 ·exact hin
 ·rw [if_pos hin] at h; cases h
structure Fine (r : Report) (q : List Request) : Prop where
 w1 : r.words.length ≤ 85
 w2 : ∀ x ∈ r.words, Sh x.text
 out : 0 ≤ r.out ∧ r.out ≤ 100000
 within : 0 ≤ r.within ∧ r.within ≤ 100000
 q1 : q.length ≤ 25
 q2 : ∀ x ∈ q, Sh x.put_ ∧ (∀ s ∈ x.put_, Sh s) ∧ x.cut ≤ 9223372036854775807
theorem e90 {l : Lexicon} {sw : List Swap} {d : decided} {q : Request} (h1 : d.report.words.length ≤ 85) (h2 : ∀ x ∈ d.report.words, Sh x.text) (h3 : 0 ≤ d.report.out ∧ d.report.out ≤ 100000) (h4 : 0 ≤ d.report.within ∧ d.report.within ≤ 100000)
  (h5 : Sh q.put_ ∧ (∀ s ∈ q.put_, Sh s) ∧ q.cut ≤ 9223372036854775807) (hd : d.rules = ⟨table l, sw⟩) (ha : ∀ x ∈ d.accepted, endOK x) : m90 d q = some (errQ l sw d.report d.accepted q) := by
 unfold m90 errQ
 rw [alone_parts, e114 _ _ (by omega) h5.2.2, Option.bind_some]
 by_cases hin : insideQ d.report q
 ·have nin : ¬ ¬ insideQ d.report q := fun h => h hin
  rw [if_neg nin]
  have hin' := hin
  unfold insideQ at hin'
  rw [if_pos (by rw [decide_eq_true_iff]; exact hin'), e115 _ hin'.2.1 h5.2.1, Option.bind_some]
  cases hp : properQ q
  ·simp
  ·simp only [if_true, Bool.true_eq_false, if_false]
   rw [e116 hin (by omega), Option.bind_some]
   cases hw : ownQ d.report q
   ·simp
   ·simp only [if_true, Bool.true_eq_false, if_false]
    rw [e117 _ h3 h4, Option.bind_some]
    cases ht : In q.minute d.report.out (d.report.out + d.report.within)
    ·simp
    ·simp only [if_true, Bool.true_eq_false, if_false]
     rw [e118 (l := l) (by rw [hd]) hin (by omega) h2 h5.1 h5.2.1, Option.bind_some, hd]
     cases hk : keptQ l sw d.report q
     ·simp
     ·simp only [if_true]
      rw [e119 (inside_end hin (by omega)) ha, Option.bind_some]
      cases d.accepted.any (Meet q) <;> simp
 ·rw [if_pos hin]
  unfold insideQ at hin
  rw [if_neg (by rw [decide_eq_true_iff]; exact hin)]
  simp
def insI (q : List Request) (x : Int) : List Int → List Int
 | [] => [x]
 | y :: ys => if sooner q x y then x :: y :: ys else y :: insI q x ys
def idxs (n : Nat) : List Int := (List.range n).map (fun (k : Nat) => (k : Int))
def order (q : List Request) : List Int := (idxs q.length).foldl (fun a x => insI q x a) []
def okI (q : List Request) (i : Int) : Prop := 0 ≤ i ∧ i.toNat < q.length
theorem sooner_ok {q : List Request} {i k : Int} (hi : okI q i) (hk : okI q k) : sooner q i k = soonerQ (q[i.toNat]'hi.2) (q[k.toNat]'hk.2) i k := by
 unfold sooner; rw [List.getElem?_eq_getElem hi.2, List.getElem?_eq_getElem hk.2]
theorem soonerQ_iff (x y : Request) (i k : Int) : soonerQ x y i k = true ↔ x.minute < y.minute ∨ (x.minute = y.minute ∧ (x.by_ < y.by_ ∨ (x.by_ = y.by_ ∧ i < k))) := by
 unfold soonerQ
 by_cases a : x.minute = y.minute
 ·rw [if_pos a]
  by_cases b : x.by_ = y.by_
  ·rw [if_pos b, decide_eq_true_iff]; omega
  ·rw [if_neg b, decide_eq_true_iff]; omega
 ·rw [if_neg a, decide_eq_true_iff]; omega
theorem sooner_trans {q : List Request} {i j k : Int} (hi : okI q i) (hj : okI q j) (hk : okI q k) (h1 : sooner q i j = true) (h2 : sooner q j k = true) : sooner q i k = true := by
 rw [sooner_ok hi hj, soonerQ_iff] at h1
 rw [sooner_ok hj hk, soonerQ_iff] at h2
 rw [sooner_ok hi hk, soonerQ_iff]; omega
theorem sooner_total {q : List Request} {i j : Int} (hi : okI q i) (hj : okI q j) (h : i ≠ j) : sooner q i j = true ∨ sooner q j i = true := by
 rw [sooner_ok hi hj, soonerQ_iff, sooner_ok hj hi, soonerQ_iff]; omega
theorem insI_perm (q : List Request) (x : Int) : ∀ l : List Int, (insI q x l).Perm (x :: l)
 | [] => .refl _
 | y :: l => by
  simp only [insI]
  split
  ·exact .refl _
  ·exact ((insI_perm q x l).cons y).trans (.swap x y l)
theorem insI_sorted {q : List Request} {x : Int} (hx : okI q x) : ∀ {l : List Int}, (∀ y ∈ l, okI q y ∧ y ≠ x) → l.Pairwise (fun i k => sooner q i k = true) → (insI q x l).Pairwise (fun i k => sooner q i k = true)
 | [], _, _ => by simp [insI]
 | y :: l, h, hp => by
  rw [List.pairwise_cons] at hp
  have hy := h y List.mem_cons_self
  simp only [insI]
  by_cases hs : sooner q x y = true
  ·rw [if_pos hs, List.pairwise_cons]
   refine ⟨fun z hz => ?_, List.pairwise_cons.2 hp⟩
   rcases List.mem_cons.1 hz with rfl | hz
   ·exact hs
   ·exact sooner_trans hx hy.1 (h z (List.mem_cons_of_mem _ hz)).1 hs (hp.1 z hz)
  ·rw [if_neg hs, List.pairwise_cons]
   refine ⟨fun z hz => ?_, insI_sorted hx (fun z hz => h z (List.mem_cons_of_mem _ hz)) hp.2⟩
   have := (insI_perm q x l).mem_iff.1 hz
   rcases List.mem_cons.1 this with rfl | hz
   ·exact (sooner_total hx hy.1 (Ne.symm hy.2)).resolve_left hs
   ·exact hp.1 z hz
def ord (q : List Request) (n : Nat) : List Int := (idxs n).foldl (fun a x => insI q x a) []
theorem idxs_succ (n : Nat) : idxs (n + 1) = idxs n ++ [(n : Int)] := by simp [idxs, List.range_succ]
theorem ord_succ (q : List Request) (n : Nat) : ord q (n + 1) = insI q n (ord q n) := by simp [ord, idxs_succ]
theorem ord_perm (q : List Request) : ∀ n, (ord q n).Perm (idxs n)
 | 0 => .refl _
 | n + 1 => by
  rw [ord_succ, idxs_succ]
  refine (insI_perm q n _).trans (((ord_perm q n).cons _).trans ?_)
  exact (List.perm_append_comm (l₁ := [(n : Int)]) (l₂ := idxs n))
theorem mem_idxs {n : Nat} {i : Int} : i ∈ idxs n ↔ 0 ≤ i ∧ i.toNat < n := by
 simp only [idxs, List.mem_map, List.mem_range]
 constructor
 ·rintro ⟨k, hk, rfl⟩; omega
 ·rintro ⟨h0, h1⟩; exact ⟨i.toNat, h1, by omega⟩
theorem ord_mem {q : List Request} {n : Nat} {i : Int} : i ∈ ord q n ↔ 0 ≤ i ∧ i.toNat < n := by rw [(ord_perm q n).mem_iff, mem_idxs]
theorem ord_len (q : List Request) (n : Nat) : (ord q n).length = n := by rw [(ord_perm q n).length_eq]; simp [idxs]
theorem ord_sorted (q : List Request) : ∀ n, n ≤ q.length → (ord q n).Pairwise (fun i k => sooner q i k = true)
 | 0, _ => by simp [ord, idxs]
 | n + 1, h => by
  rw [ord_succ]
  refine insI_sorted ⟨by omega, by omega⟩ (fun y hy => ?_) (ord_sorted q n (by omega))
  rw [ord_mem] at hy
  exact ⟨⟨hy.1, by omega⟩, by omega⟩
theorem order_ord (q : List Request) : order q = ord q q.length := rfl
end T4
namespace T4
open Go Go.Proofs Pk
def cmpI (x y : Int) : Int := if x < y then -1 else if y < x then 1 else 0
theorem e89 (x y : Int) : m89 x y = some (cmpI x y) := by
 unfold cmpI
 unfold m89 m113
 simp only [ne_eq, not_true, decide_false, Option.bind_some, Bool.false_eq_true, if_false]
 by_cases a : x < y
 ·simp [a]
 ·by_cases b : y < x <;> simp [a, b]
theorem e97 (a b : Int) : m97 [a, b] = some (if a ≠ 0 then a else b) := by
 have h1 : loopO (m97_1 [a, b]) 0 = some (goN (ε := Unit ⊕ Int) (fun _ x => if x ≠ 0 then some (.inr x) else none) (.inl ()) [a, b] 0) := by
  refine loop_n [a, b] _ _ (fun i x hi hx => ?_) ?_
  ·unfold m97_1
   rw [if_pos (by omega), hx, Option.bind_some]
   by_cases h : x ≠ 0 <;> simp [h]
  ·unfold m97_1; simp
 unfold m97
 rw [h1]
 by_cases ha : a = 0
 ·by_cases hb : b = 0 <;> simp [goN, ha, hb]
 ·simp [goN, ha]
theorem e88 {q : List Request} {i k : Int} (hi : okI q i) (hk : okI q k) : ∃ c, m88 i k q = some c ∧ (c < 0 ↔ ((q[i.toNat]'hi.2).minute < (q[k.toNat]'hk.2).minute ∨ ((q[i.toNat]'hi.2).minute = (q[k.toNat]'hk.2).minute ∧ (q[i.toNat]'hi.2).by_ < (q[k.toNat]'hk.2).by_))) := by
 refine ⟨if cmpI (q[i.toNat]'hi.2).minute (q[k.toNat]'hk.2).minute ≠ 0 then cmpI (q[i.toNat]'hi.2).minute (q[k.toNat]'hk.2).minute else cmpI (q[i.toNat]'hi.2).by_ (q[k.toNat]'hk.2).by_, ?_, ?_⟩
 ·unfold m88 m66
  rw [chk_t hi.1, List.getElem?_eq_getElem hi.2, Option.bind_some, chk_t hk.1, List.getElem?_eq_getElem hk.2, Option.bind_some, e89, Option.bind_some, e89, Option.bind_some, e97]
  rfl
 ·generalize (q[i.toNat]'hi.2) = x
  generalize (q[k.toNat]'hk.2) = y
  unfold cmpI
  by_cases a : x.minute < y.minute
  ·simp [a]
  ·by_cases b : y.minute < x.minute
   ·simp [a, b]; omega
   ·have e : x.minute = y.minute := by omega
    by_cases c : x.by_ < y.by_
    ·simp [e, c]
    ·by_cases d : y.by_ < x.by_ <;> simp [e, c, d]
theorem l29_6 {q : List Request} {e2 : Nat × List Int} (he : e2.1 = 0) {x : Int} (hx : okI q x) : ∀ (n : Nat) (A B : List Int), A.length = n → n ≤ 1000000 → (∀ y ∈ A, okI q y ∧ y < x) → A.Pairwise (fun i k => sooner q i k = true) → loopO (m29_6 e2 q) ((n : Int), A ++ x :: B) = some (insI q x A ++ B) := by
 intro n
 induction n with
 | zero =>
  intro A B hn _ _ _
  obtain rfl := List.length_eq_zero_iff.1 hn
  exact loopO_out (by unfold m29_6; rw [he]; simp [insI])
 | succ n ih =>
  intro A B hn hb hA hs
  obtain ⟨A', y, rfl⟩ : ∃ m c, A = m ++ [c] := ⟨A.dropLast, A.getLast (by intro c; rw [c] at hn; cases hn), (List.dropLast_concat_getLast _).symm⟩
  have hn' : A'.length = n := by simpa using hn
  have hy := hA y (by simp)
  have hL : (A' ++ [y]) ++ x :: B = A' ++ y :: x :: B := by simp
  rw [hL]
  have g1 : (A' ++ y :: x :: B)[(((n + 1 : Nat) : Int)).toNat]? = some x := by
   rw [show (((n + 1 : Nat) : Int)).toNat = A'.length + 1 by omega, List.getElem?_append_right (by omega)]; simp
  have g2 : (A' ++ y :: x :: B)[((((n + 1 : Nat) : Int)) - 1).toNat]? = some y := by
   rw [show ((((n + 1 : Nat) : Int)) - 1).toNat = A'.length by omega, List.getElem?_append_right (by omega)]; simp
  obtain ⟨c, hc, hciff⟩ := e88 hx hy.1
  have hsoon : sooner q x y = true ↔ c < 0 := by
   rw [hciff, sooner_ok hx hy.1, soonerQ_iff]; have := hy.2; omega
  by_cases hxy : sooner q x y = true
  ·have hset : ((A' ++ y :: x :: B).set (((n + 1 : Nat) : Int)).toNat y).set ((((n + 1 : Nat) : Int)) - 1).toNat x = A' ++ x :: y :: B := by
    rw [show (((n + 1 : Nat) : Int)).toNat = A'.length + 1 by omega, show ((((n + 1 : Nat) : Int)) - 1).toNat = A'.length by omega]
    rw [List.set_append_right _ _ (by omega), List.set_append_right _ _ (by omega)]
    simp
   have g3 : ((A' ++ y :: x :: B).set (((n + 1 : Nat) : Int)).toNat y)[((((n + 1 : Nat) : Int)) - 1).toNat]? = some y := by
    rw [show (((n + 1 : Nat) : Int)).toNat = A'.length + 1 by omega, show ((((n + 1 : Nat) : Int)) - 1).toNat = A'.length by omega]
    rw [List.set_append_right _ _ (by omega), List.getElem?_append_right (by omega)]
    simp
   have hstep : m29_6 e2 q ((((n + 1 : Nat) : Int)), A' ++ y :: x :: B) = some (.inl ((n : Int), A' ++ x :: y :: B)) := by
    unfold m29_6
    rw [he]
    simp only [g1, g2, hc, Option.bind_some]
    rw [if_pos (by omega), chk_t (by omega), chk_t (by omega), chk_t (by omega)]
    simp only [Option.bind_some]
    rw [if_pos (by rw [decide_eq_true_iff]; exact hsoon.1 hxy), chk_t (by omega), chk_t (by omega), chk_t (by omega)]
    simp only [g3, Option.bind_some, hset]
    congr 4; omega
   rw [loopO_next hstep, ih A' (y :: B) hn' (by omega) (fun z hz => hA z (by simp [hz])) (List.pairwise_append.1 hs).1]
   have : insI q x (A' ++ [y]) = insI q x A' ++ [y] := by
    clear ih hset g3 hstep g1 g2 hL hn hs hA hn'
    induction A' with
    | nil => simp [insI, hxy]
    | cons z A' ih => simp only [List.cons_append, insI]; split <;> simp [ih]
   rw [this]; simp
  ·have hstop : m29_6 e2 q ((((n + 1 : Nat) : Int)), A' ++ y :: x :: B) = some (.inr (A' ++ y :: x :: B)) := by
    unfold m29_6
    rw [he]
    simp only [g1, g2, hc, Option.bind_some]
    rw [if_pos (by omega), chk_t (by omega), chk_t (by omega), chk_t (by omega)]
    simp only [Option.bind_some]
    rw [if_neg (by rw [decide_eq_true_iff]; exact fun h => hxy (hsoon.2 h))]
   rw [loopO_out hstop]
   have : ∀ (C : List Int), (∀ z ∈ C, okI q z ∧ sooner q z y = true) → insI q x (C ++ [y]) = C ++ [y, x] := by
    intro C
    induction C with
    | nil => intro _; simp [insI, hxy]
    | cons z C ih =>
     intro hC
     have hz := hC z List.mem_cons_self
     have : ¬ sooner q x z = true := fun h => hxy (sooner_trans hx hz.1 hy.1 h hz.2)
     simp only [List.cons_append, insI, if_neg this]
     rw [ih (fun w hw => hC w (List.mem_cons_of_mem _ hw))]
   rw [this A' (fun z hz => ⟨(hA z (by simp [hz])).1, (List.pairwise_append.1 hs).2.2 z hz y (by simp)⟩)]
   simp
theorem l29_in {q : List Request} {n : Nat} (hn : n = q.length) (hb : n ≤ 1000000) (e2 : Nat × List Int) (he : e2.1 = 0) (i : Nat) (hi : i < n) : loopO (m29_6 e2 q) ((i : Int), ord q i ++ (idxs n).drop i) = some (ord q (i + 1) ++ (idxs n).drop (i + 1)) := by
 have hd : (idxs n).drop i = (i : Int) :: (idxs n).drop (i + 1) := by
  rw [List.drop_eq_getElem_cons (by simp [idxs]; omega)]; simp [idxs]
 rw [hd, ord_succ]
 refine l29_6 he ⟨by omega, by omega⟩ i (ord q i) _ (ord_len q i) (by omega) (fun y hy => ?_) (ord_sorted q i (by omega))
 rw [ord_mem] at hy
 exact ⟨⟨hy.1, by omega⟩, by omega⟩
theorem l29_5 {q : List Request} {n : Nat} (hn : n = q.length) (hb : n ≤ 1000000) (e1 : List Int) (h1 : e1.length = n) (e2 : Nat × List Int) (he : e2.1 = 0) : ∀ (k i : Nat), n - i = k → i ≤ n → loopO (m29_5 e1 e2 q) (i, ord q i ++ (idxs n).drop i) = some (ord q n) := by
 intro k
 induction k with
 | zero =>
  intro i hk hi
  obtain rfl : i = n := by omega
  have : (idxs i).drop i = [] := List.drop_eq_nil_of_le (by simp [idxs])
  rw [this, List.append_nil]
  exact loopO_out (by unfold m29_5; simp [h1])
 | succ k ih =>
  intro i hk hi
  rw [loopO_next (s' := (i + 1, ord q (i + 1) ++ (idxs n).drop (i + 1)))]
  ·exact ih (i + 1) (by omega) (by omega)
  ·unfold m29_5
   rw [if_pos (by simp; omega)]
   simp only [l29_in hn hb e2 he i (by omega), Option.bind_some]
theorem q29_4 (s : Nat × Nat × List Int) (q : List Request) : m29_4 s q = m29_6 (s.1, s.2.2) q := rfl
theorem l29_3 {q : List Request} {n : Nat} (hn : n = q.length) (hb : n ≤ 1000000) (s : Nat × Nat × List Int) (hs1 : s.1 = 0) (hs2 : s.2.1 = n) : ∀ (k i : Nat), n - i = k → i ≤ n → loopO (m29_3 s q) (i, ord q i ++ (idxs n).drop i) = some (ord q n) := by
 intro k
 induction k with
 | zero =>
  intro i hk hi
  obtain rfl : i = n := by omega
  have : (idxs i).drop i = [] := List.drop_eq_nil_of_le (by simp [idxs])
  rw [this, List.append_nil]
  exact loopO_out (by unfold m29_3; simp [hs2])
 | succ k ih =>
  intro i hk hi
  rw [loopO_next (s' := (i + 1, ord q (i + 1) ++ (idxs n).drop (i + 1)))]
  ·exact ih (i + 1) (by omega) (by omega)
  ·unfold m29_3
   rw [if_pos (by simp; omega), q29_4]
   simp only [l29_in hn hb (s.1, s.2.2) hs1 i (by omega), Option.bind_some]
   rw [chk_t (by omega)]
theorem ord_one (q : List Request) {n : Nat} (h : 1 ≤ n) : ord q 1 ++ (idxs n).drop 1 = idxs n := by
 obtain ⟨m, rfl⟩ : ∃ m, n = m + 1 := ⟨n - 1, by omega⟩
 simp [ord, idxs, insI, List.range_succ_eq_map]
theorem l29_sort {q : List Request} (h : q.length ≤ 20) : (((loopO (m29_2 (idxs q.length) q) (0, 20, idxs q.length)).bind fun e2991 =>
        ((chk (-9223372036854775808 ≤ ((e2991.1 : Int) + 1) ∧ ((e2991.1 : Int) + 1) ≤ 9223372036854775807) <|
          (loopO (m29_5 (idxs q.length) e2991 q) ((e2991.1 + 1), e2991.2)).bind fun e4341 => some e4341) : Option (List Int)).bind fun t4137 =>
        (loopO (m29_7 (idxs q.length)) 20).bind fun _ => some t4137) : Option (List Int)) = some (order q) := by
  have hlen : (idxs q.length).length = q.length := by simp [idxs]
  have h7 : loopO (m29_7 (idxs q.length)) 20 = some () := loopO_out (by unfold m29_7; rw [if_neg (by omega)])
  rcases Nat.lt_or_ge q.length 20 with h20 | h20
  · have h2 : loopO (m29_2 (idxs q.length) q) (0, 20, idxs q.length) = some (0, idxs q.length) := loopO_out (by unfold m29_2; rw [if_neg (by simp; omega)])
    rw [h2, Option.bind_some]
    simp only
    rw [chk_t (by omega)]
    rcases Nat.eq_zero_or_pos q.length with h0 | h0
    · have hi0 : idxs q.length = [] := by rw [h0]; rfl
      have h5 : loopO (m29_5 (idxs q.length) (0, idxs q.length) q) (0 + 1, idxs q.length) = some (idxs q.length) := loopO_out (by unfold m29_5; rw [if_neg (by simp; omega)])
      rw [h5, Option.bind_some, Option.bind_some, h7, Option.bind_some]
      rw [order_ord, h0]; rfl
    · have h5 := l29_5 (q := q) rfl (by omega) (idxs q.length) hlen (0, idxs q.length) rfl (q.length - 1) 1 rfl (by omega)
      rw [ord_one q h0] at h5
      rw [h5, Option.bind_some, Option.bind_some, h7, Option.bind_some]; rfl
  · have e20 : q.length = 20 := by omega
    have h3 := l29_3 (q := q) (n := 20) e20.symm (by omega) (0, 20, idxs 20) rfl rfl 19 1 rfl (by omega)
    rw [ord_one q (by omega)] at h3
    have h2 : loopO (m29_2 (idxs q.length) q) (0, 20, idxs q.length) = some (20, ord q 20) := by
      rw [e20]
      rw [loopO_next (s' := (20, 40, ord q 20)) (by unfold m29_2; rw [if_pos (by simp [idxs]), chk_t (by omega), h3, Option.bind_some, Option.bind_some, chk_t (by dsimp only; omega)])]
      exact loopO_out (by unfold m29_2; rw [if_neg (by simp [idxs])])
    rw [h2, Option.bind_some]
    simp only
    rw [chk_t (by omega)]
    have h5 : loopO (m29_5 (idxs q.length) (20, ord q 20) q) (20 + 1, ord q 20) = some (ord q 20) := loopO_out (by unfold m29_5; rw [if_neg (by simp; omega)])
    rw [h5, Option.bind_some, Option.bind_some, h7, Option.bind_some, order_ord, e20]
end T4
namespace T4
open Go Go.Proofs Pk
abbrev DS := List Int × List Request × List Int
def decStep (l : Lexicon) (sw : List Swap) (r : Report) (q : List Request) (s : DS) (i : Int) : DS :=
 match q[i.toNat]? with
 | none => s
 | some x => if errQ l sw r s.2.1 x = 0 then (s.1 ++ [i], s.2.1 ++ [x], s.2.2.set i.toNat 0) else (s.1, s.2.1, s.2.2.set i.toNat (errQ l sw r s.2.1 x))
def decAll (l : Lexicon) (sw : List Swap) (r : Report) (q : List Request) : DS := (order q).foldl (decStep l sw r q) ([], [], List.replicate q.length 0)
def Decide (l : Lexicon) (sw : List Swap) (r : Report) (q : List Request) : List Int := (decAll l sw r q).2.2
theorem fine_of {l : Lexicon} {sw : List Swap} {r : Report} {q : List Request} (h : RQ r q) (hr : RightReport r = true) (hq : ∀ x ∈ q, x.cut ≤ 9223372036854775807) : Fine r q := by
 unfold RightReport at hr
 simp only [Bool.and_eq_true, In, decide_eq_true_eq] at hr
 exact ⟨h.words1, w_sh h.words2, hr.1.2, hr.2, h.req1, fun x hx => ⟨Nat.le_trans (h.req2 x hx).1 (by decide), fun s hs => Nat.le_trans ((h.req2 x hx).2 s hs) (by decide), hq x hx⟩⟩
structure Inv (r : Report) (n i : Nat) (s : DS) : Prop where
 a : s.1.length ≤ i
 b : s.2.1.length ≤ i
 c : s.2.2.length = n
 d : ∀ x ∈ s.2.1, insideQ r x
theorem Inv.step {l : Lexicon} {sw : List Swap} {r : Report} {q : List Request} {n i : Nat} {s : DS} {x : Int} (h : Inv r n i s) : Inv r n (i + 1) (decStep l sw r q s x) := by
 obtain ⟨a, b, c, d⟩ := h
 unfold decStep
 cases hx : q[x.toNat]? with
 | none => exact ⟨by dsimp only; omega, by dsimp only; omega, c, d⟩
 | some y =>
  dsimp only
  by_cases e : errQ l sw r s.2.1 y = 0
  ·rw [if_pos e]
   refine ⟨by simp; omega, by simp; omega, by simp [c], fun z hz => ?_⟩
   simp only [List.mem_append, List.mem_singleton] at hz
   rcases hz with hz | rfl
   ·exact d z hz
   ·unfold errQ at e
    by_cases k : Alone l sw r z ≠ 0
    ·rw [if_pos k] at e; exact absurd e k
    ·exact alone_inside (Decidable.not_not.1 k)
  ·rw [if_neg e]
   exact ⟨by dsimp only; omega, by dsimp only; omega, by simp [c], d⟩
theorem l29_9 {l : Lexicon} {sw : List Swap} {r : Report} {q : List Request} (hf : Fine r q) (e1 : List Int) (he : e1.length = q.length) (rr : rules × Int) (hrr : rr.1 = ⟨table l, sw⟩) :
  loopO (m29_9 e1 (order q) q r rr) (0, ([] : List Int), ([] : List Request), (List.replicate q.length (0 : Int))) = some (decAll l sw r q) := by
 have hol : (order q).length = q.length := by rw [order_ord, ord_len]
 refine loop_fold (σ := DS) (order q) (decStep l sw r q) (fun s => (s.1, s.2.1, s.2.2)) (fun i s => Inv r q.length i s) (fun i x s hi hx hI => ?_) (fun i x s hi hx hI => hI.step) (fun s hI => ?_) ⟨by simp, by simp, by simp, by simp⟩
 ·have hm := List.mem_of_getElem? hx
  rw [order_ord, ord_mem] at hm
  have hq : q[x.toNat]? = some (q[x.toNat]'hm.2) := List.getElem?_eq_getElem hm.2
  have hql := hf.q1
  have h9 := e90 (l := l) (sw := sw) (d := (⟨r, rr.1, s.2.1, s.1, s.2.2⟩ : decided)) (q := q[x.toNat]'hm.2) hf.w1 hf.w2 hf.out hf.within (hf.q2 _ (List.mem_of_getElem? hq)) hrr (fun y hy => inside_end (hI.d y hy) (by have := hf.w1; omega))
  unfold m29_9 decStep
  rw [if_pos (by simp; omega)]
  simp only [hx, Option.bind_some]
  rw [chk_t hm.1]
  simp only [hq, Option.bind_some, h9]
  have hlt : x.toNat < s.2.2.length := by rw [hI.c]; exact hm.2
  rw [List.getElem?_eq_getElem hlt, Option.bind_some, List.getElem?_set_self hlt, Option.bind_some]
  have ha := hI.a; have hb := hI.b
  by_cases e : errQ l sw r s.2.1 (q[x.toNat]'hm.2) = 0
  ·simp only [e, if_true]
   rw [chk_t (by simp; omega), chk_t (by simp; omega)]; rfl
  ·simp only [e, if_false]; rfl
 ·rw [hol]; unfold m29_9; rw [if_neg (by simp [he])]
def DecideE (l : Lexicon) (sw : List Swap) (r : Report) (q : List Request) : List Int × Int := if wrong l sw r q = 0 then (Decide l sw r q, 0) else ([], wrong l sw r q)
theorem e29 {l : Lexicon} (h : thinL l) (sw : List Swap) {r : Report} {q : List Request} (hRQ : RQ r q) (hq : ∀ x ∈ q, x.cut ≤ 9223372036854775807) : m29 l sw r q = some (DecideE l sw r q) := by
 have hsh := w_sh hRQ.words2
 have hql := hRQ.req1
 have h1 : loopO (m29_1 q) (0, ([] : List Int)) = some (idxs q.length) := by
  have := loop_map (List.range q.length) (fun (k : Nat) => (k : Int)) (fun a => a) (step := m29_1 q) (fun i x a hi hx ha => ?_) (fun a => ?_)
  ·exact this
  ·simp only [List.length_range] at hi
   have hxi : x = i := by rw [List.getElem?_range hi] at hx; simpa using hx.symm
   subst hxi
   unfold m29_1
   rw [if_pos (by simp; omega), chk_t (by simp; omega)]
  ·simp only [List.length_range]; unfold m29_1; simp
 unfold m29 DecideE wrong
 rw [e51 h, Option.bind_some, e61 hsh]
 by_cases a : fault l sw = 0
 ·simp only [a, if_true]
  rw [if_neg (by simp), Option.bind_some]
  by_cases b : RightReport r = true
  ·simp only [b, if_true]
   rw [if_neg (by simp)]
   by_cases c : 20 < q.length
   ·rw [if_pos (by omega)]; simp [c]
   ·rw [if_neg (by omega), chk_t (by omega), h1, Option.bind_some]
    have hs := l29_sort (q := q) (by omega)
    simp only [c, if_false]
    have hf := fine_of (l := l) (sw := sw) hRQ b hq
    have h9 := l29_9 (l := l) (sw := sw) hf (idxs q.length) (by simp [idxs]) (⟨table l, sw⟩, 0) rfl
    rw [hs]
    simp only [Option.bind_some]
    rw [h9]
    rfl
  ·simp [b]
 ·simp [a]
end T4
namespace T4
open Go Go.Proofs Pk
theorem q50 (a b : List Int) : m50 a b = gSame a b := rfl
theorem e50 (a b : List Int) : m50 a b = some (decide (a = b)) := by rw [q50, gSame_some]
def wordsL : Lexicon := ⟨[⟨[116, 101, 110], 10⟩, ⟨[109, 105, 108, 108, 105, 111, 110], 1000000⟩], [[[83, 109, 105, 116, 104], [83, 109, 121, 116, 104]], [[74, 111, 110, 101, 115]]], [[110, 111, 116], [110, 101, 118, 101, 114]]⟩
def wordsS : List Swap := [⟨1, 10, 12⟩]
theorem e48 : m48 = some (wordsL, wordsS) := rfl
def askedR : Report := ⟨[⟨[83, 109, 105, 116, 104], 1⟩, ⟨[112, 97, 105, 100], 1⟩, ⟨[116, 101, 110], 1⟩, ⟨[121, 101, 115], 2⟩], 100, 60⟩
def askedQ : List Request := [⟨1, 120, 1, 1, [[104, 97, 115], [112, 97, 105, 100]]⟩, ⟨1, 110, 2, 1, [[49, 50]]⟩, ⟨2, 130, 2, 1, [[49, 48]]⟩, ⟨2, 161, 3, 1, [[110, 111]]⟩, ⟨2, 160, 3, 1, [[110, 111, 116]]⟩]
theorem e49 : m49 = some (askedR, askedQ) := rfl
theorem thin_words : thinL wordsL := (thin_of (sw := []) (by decide)).1
theorem rq_asked : RQ askedR askedQ := few_of (by decide)
theorem all_sh {l : List Bytes} (h : (l.all fun s => decide (s.length ≤ 40)) = true) : ∀ s ∈ l, Sh s := fun s hs => by
 have := List.all_eq_true.1 h s hs
 simp only [decide_eq_true_eq] at this
 exact Nat.le_trans this (by decide)
theorem e17 : m17 = some true := by
 unfold m17
 rw [e48, Option.bind_some]
 rw [e26 thin_words (by decide) (all_sh (by decide)), Option.bind_some]
 rw [e18 thin_words _ (all_sh (by decide)) (all_sh (by decide)), Option.bind_some]
 rw [e49, Option.bind_some]
 rw [e29 thin_words _ rq_asked (by decide), Option.bind_some]
 have h1 : SenseE wordsL [[83, 109, 121, 116, 104], [100, 105, 100], [110, 111, 116], [112, 97, 121], [116, 101, 110], [48, 48, 55], [56]] = ([⟨2, 0⟩, ⟨3, 0⟩, ⟨1, 10⟩, ⟨1, 8⟩], 0) := by decide
 have h2 : TroubleE wordsL wordsS [[110, 111, 116], [116, 101, 110]] [[110, 101, 118, 101, 114], [49, 50]] = (0, 0) := by decide
 have h3 : DecideE wordsL wordsS askedR askedQ = ([0, 0, 5, 11, 9], 0) := by decide
 simp only [h1, h2, h3, e41, e50, Option.bind_some]
 decide
end T4
namespace T4
open Go Go.Proofs Pk
end T4
namespace T4
open Go Go.Proofs Pk
end T4
namespace T4
open Go Go.Proofs Pk
end T4
namespace T4
open Go Go.Proofs Pk
end T4
namespace T4
open Go Go.Proofs Pk
end T4
namespace T4
open Go Go.Proofs Pk
end T4
namespace T4
open Go Go.Proofs Pk
section
variable {l : Lexicon} {sw : List Swap} {r : Report} {q : List Request}
end
end T4
namespace T4
open Go Go.Proofs Pk
section
variable {l : Lexicon} {sw : List Swap} {r : Report} {q : List Request}
end
end T4
namespace T4
open Go Go.Proofs Pk
section
variable {l : Lexicon} {sw : List Swap} {r : Report} {q : List Request}
end
end T4
namespace T4
open Go Go.Proofs Pk
end T4
namespace T4
open Go Go.Proofs Pk
end T4
namespace T4
open Go Go.Proofs Pk
end T4
namespace T4
open Go Go.Proofs Pk
section
variable {l : Lexicon} {sw : List Swap} {r : Report} {q t : List Request} {w : Int → Int}
end
end T4
namespace T4
open Go Go.Proofs Pk
section
variable {l : Lexicon} {sw : List Swap} {r : Report} {q : List Request}
end
end T4
namespace T4
open Go Go.Proofs Pk
def ED (sw : List Swap) : List Mark → List Mark → Int
 | [], b => b.length
 | x :: a, [] => (x :: a).length
 | x :: a, y :: b => min (min (if becomes sw x y then ED sw a b else ED sw a b + 1) (ED sw a (y :: b) + 1)) (ED sw (x :: a) b + 1)
termination_by a b => a.length + b.length
theorem ED_nil (sw : List Swap) (b : List Mark) : ED sw [] b = b.length := by rw [ED]
theorem ED_nil' (sw : List Swap) (a : List Mark) : ED sw a [] = a.length := by cases a <;> rw [ED]
theorem ED_cons (sw : List Swap) (x y : Mark) (a b : List Mark) : ED sw (x :: a) (y :: b) = min (min (if becomes sw x y then ED sw a b else ED sw a b + 1) (ED sw a (y :: b) + 1)) (ED sw (x :: a) b + 1) := by rw [ED]
def rowF (sw : List Swap) (a : List Mark) : List Mark → List Mark → List Int
 | u, [] => [ED sw a u]
 | u, y :: b => ED sw a u :: rowF sw a (y :: u) b
theorem rowF_head (sw : List Swap) (a u b : List Mark) : ∃ t, rowF sw a u b = ED sw a u :: t := by cases b <;> exact ⟨_, rfl⟩
theorem rowF_len (sw : List Swap) (a : List Mark) : ∀ (b u : List Mark), (rowF sw a u b).length = b.length + 1
 | [], u => rfl
 | y :: b, u => by simp only [rowF, List.length_cons, rowF_len sw a b]
theorem rowF_get (sw : List Swap) (a : List Mark) : ∀ (b u : List Mark) (k : Nat), k ≤ b.length → (rowF sw a u b)[k]? = some (ED sw a ((b.take k).reverse ++ u))
 | [], u, k, h => by
  obtain rfl : k = 0 := by simpa using h
  simp [rowF]
 | y :: b, u, 0, h => by simp [rowF]
 | y :: b, u, k + 1, h => by
  simp only [rowF, List.getElem?_cons_succ, List.take_succ_cons, List.reverse_cons, List.append_assoc]
  exact rowF_get sw a b (y :: u) k (by simpa using h)
theorem dpRow_F (sw : List Swap) (x : Mark) (a : List Mark) : ∀ (b u : List Mark), ED sw (x :: a) u :: dpRow sw x b (rowF sw a u b) (ED sw (x :: a) u) = rowF sw (x :: a) u b
 | [], u => by simp [rowF, dpRow]
 | y :: b, u => by
  obtain ⟨t, ht⟩ := rowF_head sw a (y :: u) b
  have ih := dpRow_F sw x a b (y :: u)
  simp only [rowF]
  rw [ht]
  simp only [dpRow]
  have : dpV sw x y (ED sw a u) (ED sw a (y :: u)) (ED sw (x :: a) u) = ED sw (x :: a) (y :: u) := by rw [ED_cons]; rfl
  rw [this, ← ht, ih]
theorem dp_F (sw : List Swap) (b : List Mark) : ∀ (a p : List Mark) (i : Nat), p.length = i → dp sw b a i (rowF sw p [] b) = rowF sw (a.reverse ++ p) [] b
 | [], p, i, h => rfl
 | x :: a, p, i, h => by
  simp only [dp]
  have h1 : ED sw (x :: p) [] = (i : Int) + 1 := by rw [ED_nil']; simp [h]
  have h2 := dpRow_F sw x p b []
  rw [h1] at h2
  rw [h2, dp_F sw b a (x :: p) (i + 1) (by simp [h])]
  simp
theorem row0_F (sw : List Swap) (b : List Mark) : row0 b.length = rowF sw [] [] b := by
 apply List.ext_getElem? 
 intro k
 by_cases h : k ≤ b.length
 ·rw [rowF_get sw [] b [] k h, ED_nil]
  unfold row0
  rw [List.getElem?_map, List.getElem?_range (by omega)]
  simp; omega
 ·rw [List.getElem?_eq_none (by simp [row0]; omega), List.getElem?_eq_none (by rw [rowF_len]; omega)]
theorem Trouble_ED (sw : List Swap) (a b : List Mark) : Trouble sw a b = ED sw a.reverse b.reverse := by
 unfold Trouble
 rw [row0_F sw b, dp_F sw b a [] 0 rfl, rowF_get _ _ _ _ _ (Nat.le_refl _)]
 simp
theorem ED_nonneg (sw : List Swap) : ∀ a b : List Mark, 0 ≤ ED sw a b
 | [], b => by rw [ED_nil]; omega
 | x :: a, [] => by rw [ED_nil']; omega
 | x :: a, y :: b => by
  have h1 := ED_nonneg sw a b
  have h2 := ED_nonneg sw a (y :: b)
  have h3 := ED_nonneg sw (x :: a) b
  rw [ED_cons]
  split <;> omega
termination_by a b => a.length + b.length
theorem ED_max (sw : List Swap) : ∀ a b : List Mark, ED sw a b ≤ max a.length b.length
 | [], b => by rw [ED_nil]; simp
 | x :: a, [] => by rw [ED_nil']; simp
 | x :: a, y :: b => by
  have h1 := ED_max sw a b
  rw [ED_cons]
  simp only [List.length_cons] at *
  split <;> omega
end T4
namespace T4
open Go Go.Proofs Pk
section
variable {l : Lexicon} {sw : List Swap} {r : Report} {q : List Request}
end
end T4
namespace T4
open Go Go.Proofs Pk
section
variable {l : Lexicon} {sw : List Swap} {r : Report} {q : List Request}
end
end T4
namespace T4
open Go Go.Proofs Pk
section
variable {sw : List Swap} {a b : List Mark}
def TR (sw : List Swap) (a b : List Mark) (i : Nat) : List Int := rowF sw (a.take i).reverse [] b
theorem TR_len (i : Nat) : (TR sw a b i).length = b.length + 1 := rowF_len _ _ _ _
theorem TR_get {i k : Nat} (h : k ≤ b.length) : (TR sw a b i)[k]? = some (ED sw (a.take i).reverse (b.take k).reverse) := by
 unfold TR; rw [rowF_get _ _ _ _ _ h, List.append_nil]
theorem take_rev {α : Type} {l : List α} {i : Nat} {x : α} (h : l[i]? = some x) : (l.take (i + 1)).reverse = x :: (l.take i).reverse := by
 rw [List.take_add_one, h]; simp
theorem ED_b (sw : List Swap) (a b : List Mark) (i k : Nat) : 0 ≤ ED sw (a.take i).reverse (b.take k).reverse ∧ ED sw (a.take i).reverse (b.take k).reverse ≤ max a.length b.length := by
 refine ⟨ED_nonneg _ _ _, ?_⟩
 have := ED_max sw (a.take i).reverse (b.take k).reverse
 simp only [List.length_reverse, List.length_take] at this
 omega
def TP (sw : List Swap) (a b : List Mark) (i k : Nat) : List Int := (TR sw a b i).take k ++ List.replicate (b.length + 1 - k) 0
theorem TP_set {i k : Nat} {v : Int} (h : k ≤ b.length) (hv : (TR sw a b i)[k]? = some v) : (TP sw a b i k).set k v = TP sw a b i (k + 1) := by
 have hl := TR_len (sw := sw) (a := a) (b := b) i
 unfold TP
 have hk : ((TR sw a b i).take k).length = k := by rw [List.length_take]; omega
 rw [List.set_append_right _ _ (by omega), hk, Nat.sub_self, show b.length + 1 - k = (b.length + 1 - (k + 1)) + 1 by omega, List.replicate_succ, List.set_cons_zero, List.take_add_one, hv]
 simp
theorem TP_old {i k j : Nat} (h : j < k) (hk : k ≤ b.length + 1) : (TP sw a b i k)[j]? = (TR sw a b i)[j]? := by
 have hl := TR_len (sw := sw) (a := a) (b := b) i
 unfold TP
 rw [List.getElem?_append_left (by rw [List.length_take]; omega), List.getElem?_take, if_pos h]
theorem TP_len {i k : Nat} (hk : k ≤ b.length + 1) : (TP sw a b i k).length = b.length + 1 := by
 have hl := TR_len (sw := sw) (a := a) (b := b) i
 unfold TP; simp only [List.length_append, List.length_take, List.length_replicate]; omega
theorem l24_2 (ha : a.length ≤ 1000) (hb : b.length ≤ 1000) {g : List (List Int)} {i : Nat} (hi : i ≤ a.length) (hg : i < g.length) (hp : ∀ j, i = j + 1 → g[j]? = some (TR sw a b j)) (g0 : List (List Int)) :
  ∀ (n k : Nat), b.length + 1 - k = n → k ≤ b.length + 1 → loopO (m24_2 b (i, g0) a sw) (k, g.set i (TP sw a b i k)) = some (g.set i (TR sw a b i)) := by
 intro n
 induction n with
 | zero =>
  intro k hn hk
  obtain rfl : k = b.length + 1 := by omega
  have : TP sw a b i (b.length + 1) = TR sw a b i := by
   unfold TP
   rw [Nat.sub_self, List.replicate_zero, List.append_nil, List.take_of_length_le (by rw [TR_len]; omega)]
  rw [this]
  exact loopO_out (by unfold m24_2; dsimp only; rw [if_neg (by omega)])
 | succ n ih =>
  intro k hn hk
  have hkb : k ≤ b.length := by omega
  have hv := TR_get (sw := sw) (a := a) (b := b) (i := i) hkb
  have hrow : (g.set i (TP sw a b i k))[i]? = some (TP sw a b i k) := List.getElem?_set_self hg
  have hpl := TP_len (sw := sw) (a := a) (b := b) (i := i) (k := k) (by omega)
  have hkk : (TP sw a b i k)[k]? = some ((TP sw a b i k)[k]'(by omega)) := List.getElem?_eq_getElem _
  have hset := TP_set (sw := sw) (a := a) (b := b) (i := i) hkb hv
  have hnext : ∀ v, v = ED sw (a.take i).reverse (b.take k).reverse → (g.set i (TP sw a b i k)).set i ((TP sw a b i k).set k v) = g.set i (TP sw a b i (k + 1)) := by
   rintro v rfl
   rw [List.set_set, hset]
  rw [loopO_next (s' := (k + 1, g.set i (TP sw a b i (k + 1)))), ih (k + 1) (by omega) (by omega)]
  have hEb := ED_b sw a b i k
  unfold m24_2
  dsimp only
  rw [if_pos (by omega)]
  by_cases hz : i = 0 ∨ k = 0
  ·have hd : ED sw (a.take i).reverse (b.take k).reverse = (i : Int) + k := by
    rcases hz with rfl | rfl
    ·rw [List.take_zero, List.reverse_nil, ED_nil]; simp; omega
    ·rw [List.take_zero, List.reverse_nil, ED_nil']; simp; omega
   have hcond : (if (i : Int) = 0 then some true else some (decide ((k : Int) = 0))) = some true := by
    rcases hz with rfl | rfl
    ·simp
    ·simp
   rw [hcond, Option.bind_some]
   simp only [if_true, hrow, Option.bind_some]
   rw [chk_t (by omega), hkk, Option.bind_some, Option.bind_some, hnext _ hd.symm, chk_t (by omega)]
  ·obtain ⟨i', rfl⟩ : ∃ i', i = i' + 1 := ⟨i - 1, by omega⟩
   obtain ⟨k', rfl⟩ : ∃ k', k = k' + 1 := ⟨k - 1, by omega⟩
   have hcond : (if ((i' + 1 : Nat) : Int) = 0 then some true else some (decide (((k' + 1 : Nat) : Int) = 0))) = some false := by
    rw [if_neg (by omega)]; simp; omega
   rw [hcond, Option.bind_some]
   have hpr : (g.set (i' + 1) (TP sw a b (i' + 1) (k' + 1)))[i']? = some (TR sw a b i') := by rw [List.getElem?_set_ne (by omega)]; exact hp i' rfl
   have e1 : (((i' + 1 : Nat) : Int) - 1).toNat = i' := by omega
   have e2 : (((k' + 1 : Nat) : Int) - 1).toNat = k' := by omega
   have hx : a[i']? = some (a[i']'(by omega)) := List.getElem?_eq_getElem _
   have hy : b[k']? = some (b[k']'(by omega)) := List.getElem?_eq_getElem _
   generalize a[i']'(by omega) = x at hx
   generalize b[k']'(by omega) = y at hy
   have h1 := TR_get (sw := sw) (a := a) (b := b) (i := i') (k := k') (by omega)
   have h2 := TR_get (sw := sw) (a := a) (b := b) (i := i') (k := k' + 1) (by omega)
   have h3 := TP_old (sw := sw) (a := a) (b := b) (i := i' + 1) (k := k' + 1) (j := k') (by omega) (by omega)
   rw [TR_get (by omega)] at h3
   have b1 := ED_b sw a b i' k'
   have b2 := ED_b sw a b i' (k' + 1)
   have b3 := ED_b sw a b (i' + 1) k'
   have hE : ED sw (a.take (i' + 1)).reverse (b.take (k' + 1)).reverse = min (min (if becomes sw x y then ED sw (a.take i').reverse (b.take k').reverse else ED sw (a.take i').reverse (b.take k').reverse + 1) (ED sw (a.take i').reverse (b.take (k' + 1)).reverse + 1)) (ED sw (a.take (i' + 1)).reverse (b.take k').reverse + 1) := by
    rw [take_rev hx, take_rev hy, ED_cons]
   simp only [Bool.false_eq_true, if_false]
   rw [chk_t (by omega), e1, hpr, Option.bind_some, chk_t (by omega), e2, h1, Option.bind_some, chk_t (by omega), hx, Option.bind_some, hy, Option.bind_some, e56, Option.bind_some]
   have ht : (if becomes sw x y = true then chk (-9223372036854775808 ≤ ED sw (a.take i').reverse (b.take k').reverse + 1 - 1 ∧ ED sw (a.take i').reverse (b.take k').reverse + 1 - 1 ≤ 9223372036854775807) (some (ED sw (a.take i').reverse (b.take k').reverse + 1 - 1)) else some (ED sw (a.take i').reverse (b.take k').reverse + 1)) = some (if becomes sw x y then ED sw (a.take i').reverse (b.take k').reverse else ED sw (a.take i').reverse (b.take k').reverse + 1) := by
    cases becomes sw x y
    ·simp
    ·simp only [if_true]
     rw [chk_t (by omega)]
     congr 1; omega
   rw [ht, Option.bind_some, hrow, Option.bind_some, h2, Option.bind_some, chk_t (by omega), h3, Option.bind_some, chk_t (by omega), hkk, Option.bind_some, Option.bind_some, hnext _ hE.symm, chk_t (by omega)]
theorem l24_1 (ha : a.length ≤ 1000) (hb : b.length ≤ 1000) : ∀ (n i : Nat), a.length + 1 - i = n → i ≤ a.length + 1 → loopO (m24_1 a b sw) (i, (List.range i).map (TR sw a b) ++ List.replicate (a.length + 1 - i) []) = some ((List.range (a.length + 1)).map (TR sw a b)) := by
 intro n
 induction n with
 | zero =>
  intro i hn hi
  obtain rfl : i = a.length + 1 := by omega
  rw [Nat.sub_self, List.replicate_zero, List.append_nil]
  exact loopO_out (by unfold m24_1; dsimp only; rw [if_neg (by omega)])
 | succ n ih =>
  intro i hn hi
  have hlen : ((List.range i).map (TR sw a b)).length = i := by simp
  have hgl : i < ((List.range i).map (TR sw a b) ++ List.replicate (a.length + 1 - i) ([] : List Int)).length := by simp; omega
  have hset : ((List.range i).map (TR sw a b) ++ List.replicate (a.length + 1 - i) ([] : List Int)).set i (TR sw a b i) = (List.range (i + 1)).map (TR sw a b) ++ List.replicate (a.length + 1 - (i + 1)) [] := by
   rw [List.set_append_right _ _ (by omega), hlen, Nat.sub_self, show a.length + 1 - i = (a.length + 1 - (i + 1)) + 1 by omega, List.replicate_succ, List.set_cons_zero, List.range_succ]
   simp
  rw [loopO_next (s' := (i + 1, (List.range (i + 1)).map (TR sw a b) ++ List.replicate (a.length + 1 - (i + 1)) [])), ih (i + 1) (by omega) (by omega)]
  have h2 := l24_2 (sw := sw) (a := a) (b := b) ha hb (g := (List.range i).map (TR sw a b) ++ List.replicate (a.length + 1 - i) []) (i := i) (by omega) hgl (fun j hj => by
   rw [List.getElem?_append_left (by simp; omega), List.getElem?_map, List.getElem?_range (by omega)]; rfl) ((List.range i).map (TR sw a b) ++ List.replicate (a.length + 1 - i) []) (b.length + 1) 0 (by omega) (by omega)
  have hp0 : TP sw a b i 0 = List.replicate (b.length + 1) 0 := by unfold TP; simp
  rw [hp0, hset] at h2
  have hx : ((List.range i).map (TR sw a b) ++ List.replicate (a.length + 1 - i) ([] : List Int))[i]? = some (((List.range i).map (TR sw a b) ++ List.replicate (a.length + 1 - i) ([] : List Int))[i]'hgl) := List.getElem?_eq_getElem _
  have eb : ((b.length : Int) + 1).toNat = b.length + 1 := by omega
  unfold m24_1
  dsimp only
  rw [if_pos (by omega), chk_t (by omega), eb, chk_t (by omega), hx, Option.bind_some, h2, Option.bind_some, chk_t (by omega)]
theorem e24 (sw : List Swap) {a b : List Mark} (ha : a.length ≤ 1000) (hb : b.length ≤ 1000) : m24 sw a b = some (Trouble sw a b) := by
 have h := l24_1 (sw := sw) ha hb (a.length + 1) 0 (by omega) (by omega)
 simp only [List.range_zero, List.map_nil, List.nil_append, Nat.sub_zero] at h
 have ea : ((a.length : Int) + 1).toNat = a.length + 1 := by omega
 unfold m24
 rw [chk_t (by omega), ea, chk_t (by omega), h, Option.bind_some, List.getElem?_map, List.getElem?_range (by omega)]
 simp only [Option.map_some, Option.bind_some]
 rw [TR_get (Nat.le_refl _), Trouble_ED]
 simp
end
end T4
namespace T4
open Go Go.Proofs Pk
theorem want_eq (a b : List Bytes) : (if 80 < (a.length : Int) ∨ 80 < (b.length : Int) then 3 else if listed a = 0 then listed b else listed a) = listedP [a, b] := by
 unfold listedP listed Texts
 by_cases ha : 80 < a.length
 ·have : ¬ (a.length : Int) ≤ 80 := by omega
  rw [if_pos (.inl (by omega))]; simp [this]
 ·by_cases hb : 80 < b.length
  ·have : ¬ (b.length : Int) ≤ 80 := by omega
   rw [if_pos (.inr (by omega))]; simp [this]
  ·have h1 : (a.length : Int) ≤ 80 := by omega
   have h2 : (b.length : Int) ≤ 80 := by omega
   rw [if_neg (by omega)]
   cases c : a.all Text <;> cases d : b.all Text <;> simp [h1, h2, ha, hb, c, d]
theorem short_sh {t : List Bytes} {n : Int} (h : short t n = true) : ∀ s ∈ t, Sh s := fun s hs => by
 have := ((short_iff t n).1 h).1 s hs
 exact Nat.le_trans this (by decide)
theorem law3 (l : Lexicon) (sw : List Swap) (a b : List Bytes) : m3 l sw a b = some true := by
 unfold m3
 rw [e15, Option.bind_some]
 cases h1 : Thin l sw
 ·simp [e17]
 ·obtain ⟨hL, hsw⟩ := thin_of h1
  simp only [if_true]
  rw [e16, Option.bind_some]
  cases h2 : short a 90
  ·simp [e17]
  ·simp only [if_true]
   rw [e16, Option.bind_some]
   cases h3 : short b 90
   ·simp [e17]
   ·simp only [Option.bind_some, Bool.not_true, Bool.false_eq_true, if_false]
    have ha := short_sh h2
    have hb := short_sh h3
    have hal := ((short_iff a 90).1 h2).2
    have hbl := ((short_iff b 90).1 h3).2
    rw [e19 hL, Option.bind_some, e20 (by show _ ≤ _; omega), Option.bind_some, e21 (by show _ ≤ _; omega), Option.bind_some, e21 (by show _ ≤ _; omega), Option.bind_some, e18 hL sw ha hb, Option.bind_some, e22 hL, Option.bind_some, e23 ha, e23 hb]
    unfold TroubleE
    by_cases hf : fault l sw = 0
    ·simp only [hf, if_true, Option.bind_some]
     have hw := want_eq a b
     have hc : (if 80 < (a.length : Int) then some true else some (decide (80 < (b.length : Int)))) = some (decide (80 < (a.length : Int) ∨ 80 < (b.length : Int))) := by
      by_cases c : 80 < (a.length : Int) <;> simp [c]
     have ht : (if listed a = 0 then some (listed b) else some (listed a)) = some (if listed a = 0 then listed b else listed a) := by split <;> rfl
     rw [ht, Option.bind_some, hc, Option.bind_some]
     have ht2 : (if decide (80 < (a.length : Int) ∨ 80 < (b.length : Int)) = true then some 3 else some (if listed a = 0 then listed b else listed a)) = some (listedP [a, b]) := by
      rw [← hw]
      by_cases c : 80 < (a.length : Int) ∨ 80 < (b.length : Int) <;> simp [c]
     rw [ht2, Option.bind_some]
     by_cases hz : listedP [a, b] = 0
     ·simp only [hz, if_true, ne_eq, not_true, if_false]
      rw [e25 l (by show _ ≤ _; omega), Option.bind_some, e25 l (by show _ ≤ _; omega), Option.bind_some, e24 sw (by have := sense_len l a; omega) (by have := sense_len l b; omega)]
      simp [e17]
     ·simp only [hz, if_false, ne_eq, not_false_eq_true, if_true]
      simp [e17]
    ·simp only [hf, if_false, Option.bind_some, ne_eq, not_false_eq_true, if_true, Bool.false_eq_true]
     simp [e17]
end T4
namespace T4
open Go Go.Proofs Pk
end T4
