/-
  The plain laws: what the models of layer 10 come to.
-/
import Derived.Test.YtfdcbjoihcdneaaGreatDoorMade
import Derived.Test.YtfdcbjoihcdneaaGreatDoorKitSix
set_option linter.all false
namespace Pk
open Go
def digE : Nat → Nat → List UInt8
 | 0, u => [UInt8.ofNat (48 + u)]
 | f + 1, u => if u < 10 then [UInt8.ofNat (48 + u)] else digE f (u / 10) ++ [UInt8.ofNat (48 + u % 10)]
theorem digE_eq : ∀ (f u : Nat), u < 10 ^ f → digE f u = Lib.decDigits u
 | 0, u, h => by
  have : u = 0 := by simpa using h
  subst this; rw [Lib.decDigits, dif_pos (by decide)]; rfl
 | f + 1, u, h => by
  rw [Lib.decDigits, digE]
  split
  ·rfl
  ·rw [digE_eq f (u / 10) (by rw [Nat.pow_succ] at h; omega)]
def itoaE (n : Int) : Option Bytes := if 0 ≤ n ∧ n ≤ 999999 then some (digE 6 n.toNat) else none
theorem litoa (n : Int) : LeO (itoaE n) (itoaM n) := fun r hr => by
  unfold itoaE at hr
  split at hr
  · rename_i h
    cases hr
    unfold itoaM
    rw [chk_t (by omega)]
    unfold Lib.itoa
    rw [if_neg (by omega), digE_eq 6 _ (by have : (10 : Nat) ^ 6 = 1000000 := by decide
                                           omega)]
  · cases hr
end Pk
namespace T10.E
open Go Go.Proofs Pk
def m87 (s : Bytes) : Option (Int × Bool) := chkE (s.length ≤ 1073741824) (some (atoiR s))
theorem lm87 (s : Bytes) : LeO (T10.E.m87 s) (T10.m87 s) := LeO.chk (LeO.refl _)
def m58 (n : Int) : Option Bytes := itoaE n
theorem lm58 (n : Int) : LeO (T10.E.m58 n) (T10.m58 n) := litoa n
def m86 (s t : Bytes) : Option (Bytes × Bytes × Bool) := chkE (s.length ≤ 1073741824) (some (Lib.cut s t))
theorem lm86 (s t : Bytes) : LeO (T10.E.m86 s t) (T10.m86 s t) := LeO.chk (LeO.refl _)
def m88 (s t : Bytes) : Option (Bytes × Bool) := some (Lib.trimPrefix s t, Lib.hasPrefix s t)
theorem lm88 (s t : Bytes) : LeO (T10.E.m88 s t) (T10.m88 s t) := LeO.refl _
def m89 (s t : Bytes) : Option Bool := chkE (s.length ≤ 1073741824) (some (Lib.contains s t))
theorem lm89 (s t : Bytes) : LeO (T10.E.m89 s t) (T10.m89 s t) := LeO.chk (LeO.refl _)
def anyE : Any → Option Bytes
 | .i n => itoaE n
 | .s b => some b
def spellE : List Any → Option Bytes
 | [] => some []
 | x :: l => (anyE x).bind fun a => (spellE l).bind fun b => some (a ++ b)
theorem anyE_ok {x : Any} {b : Bytes} (h : anyE x = some b) : anyOk x ∧ anyB x = b := by
 cases x with
 | s c => cases h; exact ⟨trivial, rfl⟩
 | i n =>
  have h2 := litoa n b h
  unfold itoaM at h2
  obtain ⟨h3, h4⟩ := chk_some h2
  refine ⟨h3, Option.some.inj h4⟩
theorem spellE_ok : ∀ {l : List Any} {b : Bytes}, spellE l = some b → (∀ x ∈ l, anyOk x) ∧ spell l = b
 | [], b, h => by cases h; exact ⟨(fun x hx => by cases hx), rfl⟩
 | x :: l, b, h => by
  unfold spellE at h
  obtain ⟨a, h1, h⟩ := Option.bind_eq_some_iff.1 h
  obtain ⟨c, h2, h⟩ := Option.bind_eq_some_iff.1 h
  cases h
  obtain ⟨q1, q2⟩ := anyE_ok h1
  have q34 := spellE_ok h2
  obtain ⟨q3, q4⟩ := q34
  refine ⟨fun y hy => ?_, ?_⟩
  ·rcases List.mem_cons.1 hy with rfl | hy
   ·exact q1
   ·exact q3 y hy
  ·unfold spell at *; rw [List.flatMap_cons, q2, q4]
def m38 (l : List Any) : Option Bytes := (spellE l).bind fun b => chkE (b.length ≤ 1073741824) (some b)
theorem lm38 (l : List Any) : LeO (T10.E.m38 l) (T10.m38 l) := fun r hr => by
 unfold T10.E.m38 at hr
 obtain ⟨b, h1, h⟩ := Option.bind_eq_some_iff.1 hr
 obtain ⟨q1, rfl⟩ := spellE_ok h1
 unfold chkE at h
 split at h
 ·rename_i hc
  unfold T10.m38; rw [chk_t ⟨q1, hc⟩]; exact h
 ·cases h
end T10.E
set_option maxHeartbeats 4000000
namespace T10.E
open Go Go.Proofs Pk
def m31_2 (x86 : Part) (s123 : Nat) : Option ((Nat) ⊕ ((Unit) ⊕ ((Nat) ⊕ ((Unit) ⊕ Bool)))) :=
 if (s123 : Int) < (x86.paragraphs.length : Int) then (
  (x86.paragraphs[s123]?).bind fun x143 =>
  if 210 < (x143.text.length : Int) then (
   some (.inr (.inr (.inr (.inr false)))))
  else
  some (.inl (s123 + 1)))
 else
 some (.inr (.inl ()))
def m31_1 (v_0 : Volume) (s46 : Nat) : Option ((Nat) ⊕ ((Unit) ⊕ Bool)) :=
 if (s46 : Int) < (v_0.parts.length : Int) then (
  (v_0.parts[s46]?).bind fun x86 =>
  if 35 < (x86.paragraphs.length : Int) then (
   some (.inr (.inr false)))
  else
  (loopE (m31_2 x86) 0).bind fun e119 => match e119 with
  | .inr z => some z
  | .inl t122 =>
  some (.inl (s46 + 1)))
 else
 some (.inr (.inl ()))
def m31_3 (errata : List Erratum) (s178 : Nat) : Option ((Nat) ⊕ ((Unit) ⊕ Bool)) :=
 if (s178 : Int) < (errata.length : Int) then (
  (errata[s178]?).bind fun x198 =>
  if 210 < (x198.text.length : Int) then (
   some (.inr (.inr false)))
  else
  some (.inl (s178 + 1)))
 else
 some (.inr (.inl ()))
def m31 (v_0 : Volume) (errata : List Erratum) : Option (Bool) :=
 (loopE (m31_1 v_0) 0).bind fun e42 => match e42 with
 | .inr z => some z
 | .inl t45 =>
 (loopE (m31_3 errata) 0).bind fun e174 => match e174 with
 | .inr z => some z
 | .inl t177 =>
 ((
  if (v_0.parts.length : Int) ≤ 8 then (
   some (decide ((errata.length : Int) ≤ 25)))
  else
  some false
 ) : Option (Bool)).bind fun t216 =>
 some t216
def m71_1 (v_0 : Volume) (s78 : Nat × List Paragraph) : Option ((Nat × List Paragraph) ⊕ (List Paragraph)) :=
 if (s78.1 : Int) < (v_0.parts.length : Int) then (
  (v_0.parts[s78.1]?).bind fun x105 =>
  chkE (s78.2.length + x105.paragraphs.length ≤ 1073741824) <|
  some (.inl ((s78.1 + 1), (s78.2 ++ x105.paragraphs))))
 else
 some (.inr s78.2)
def m71 (v_0 : Volume) : Option (List Paragraph) :=
 (loopE (m71_1 v_0) (0, ([] : List Paragraph))).bind fun e73 =>
 some e73
def m72 (n_0 : Int) (low : Int) (high : Int) : Option (Bool) :=
 ((
  if low ≤ n_0 then (
   some (decide (n_0 ≤ high)))
  else
  some false
 ) : Option (Bool)).bind fun t4 =>
 some t4
def m73_1 (s_0 : Bytes) (s21 : Nat) : Option ((Nat) ⊕ ((Unit) ⊕ Bool)) :=
 if (s21 : Int) < (s_0.length : Int) then (
  ((
   (s_0[s21]?).bind fun x49 =>
   if (x49.toNat : Int) < 32 then (
    some true)
   else
   some (decide (126 < (x49.toNat : Int)))
  ) : Option (Bool)).bind fun t46 =>
  if t46 then (
   some (.inr (.inr false)))
  else
  chkE (-9223372036854775808 ≤ ((s21 : Int) + 1) ∧ ((s21 : Int) + 1) ≤ 9223372036854775807) <|
  some (.inl (s21 + 1)))
 else
 some (.inr (.inl ()))
def m73 (s_0 : Bytes) : Option (Bool) :=
 (loopE (m73_1 s_0) 0).bind fun e17 => match e17 with
 | .inr z => some z
 | .inl t20 =>
 (m72 (s_0.length : Int) 1 200).bind fun r64 =>
 some r64
def m50_1 (v_0 : Volume) (s127 : Nat) : Option ((Nat) ⊕ ((Unit) ⊕ Int)) :=
 if (s127 : Int) < (v_0.parts.length : Int) then (
  ((
   (v_0.parts[s127]?).bind fun x213 =>
   (m72 x213.day 0 v_0.bound).bind fun r225 =>
   if r225 then (
    if 0 < (s127 : Int) then (
     (v_0.parts[((s127 : Int) - 1).toNat]?).bind fun x232 =>
     some (decide (x213.day ≤ x232.day)))
    else
    some false)
   else
   some true
  ) : Option (Bool)).bind fun t210 =>
  if t210 then (
   some (.inr (.inr 1)))
  else
  some (.inl (s127 + 1)))
 else
 some (.inr (.inl ()))
def m50_2 (r7 : List Paragraph) (s284 : Nat) : Option ((Nat) ⊕ ((Unit) ⊕ Int)) :=
 if (s284 : Int) < (r7.length : Int) then (
  ((
   (r7[s284]?).bind fun x334 =>
   (m72 x334.anchor 1 999).bind fun r342 =>
   if r342 then (
    (m73 x334.text).bind fun r347 =>
    some (!r347))
   else
   some true
  ) : Option (Bool)).bind fun t331 =>
  if t331 then (
   some (.inr (.inr 1)))
  else
  some (.inl (s284 + 1)))
 else
 some (.inr (.inl ()))
def m50_4 (s392 : Nat) (r7 : List Paragraph) (s456 : Nat) : Option ((Nat) ⊕ ((Unit) ⊕ ((Nat) ⊕ ((Unit) ⊕ Int)))) :=
 if (s456 : Int) < (s392 : Int) then (
  (r7[s456]?).bind fun x484 =>
  (r7[s392]?).bind fun x492 =>
  if x484.anchor = x492.anchor then (
   some (.inr (.inr (.inr (.inr 6)))))
  else
  chkE (-9223372036854775808 ≤ ((s456 : Int) + 1) ∧ ((s456 : Int) + 1) ≤ 9223372036854775807) <|
  some (.inl (s456 + 1)))
 else
 some (.inr (.inl ()))
def m50_3 (r7 : List Paragraph) (s392 : Nat) : Option ((Nat) ⊕ ((Unit) ⊕ Int)) :=
 if (s392 : Int) < (r7.length : Int) then (
  (loopE (m50_4 s392 r7) 0).bind fun e452 => match e452 with
  | .inr z => some z
  | .inl t455 =>
  some (.inl (s392 + 1)))
 else
 some (.inr (.inl ()))
def m50 (v_0 : Volume) : Option (Int) :=
 (m71 v_0).bind fun r7 =>
 ((
  if 6 < (v_0.parts.length : Int) then (
   some true)
  else
  some (decide (30 < (r7.length : Int)))
 ) : Option (Bool)).bind fun t17 =>
 if t17 then (
  some 3)
 else
 ((
  (m72 v_0.number 1 99).bind fun r53 =>
  if r53 then (
   (m72 v_0.bound 0 99999).bind fun r58 =>
   if r58 then (
    (m72 v_0.height 1 60).bind fun r63 =>
    if r63 then (
     (m72 v_0.width 10 80).bind fun r68 =>
     some (!r68))
    else
    some true)
   else
   some true)
  else
  some true
 ) : Option (Bool)).bind fun t50 =>
 if t50 then (
  some 1)
 else
 (loopE (m50_1 v_0) 0).bind fun e123 => match e123 with
 | .inr z => some z
 | .inl t126 =>
 (loopE (m50_2 r7) 0).bind fun e280 => match e280 with
 | .inr z => some z
 | .inl t283 =>
 (loopE (m50_3 r7) 0).bind fun e388 => match e388 with
 | .inr z => some z
 | .inl t391 =>
 some 0
def m49 (a_0 : Erratum) (b_1 : Erratum) : Option (Bool) :=
 ((
  if a_0.day < b_1.day then (
   some true)
  else
  if a_0.day = b_1.day then (
   some (decide (a_0.number < b_1.number)))
  else
  some false
 ) : Option (Bool)).bind fun t13 =>
 some t13
def m25  : Option (Volume × List Erratum) :=
 some ((⟨3, 50, 3, 10, ([(⟨40, ([(⟨11, [84, 104, 101, 32, 72, 111, 117, 115, 101, 32, 109, 101, 116, 32, 97, 116, 32, 116, 119, 111, 46]⟩ : Paragraph), (⟨12, [80, 114, 97, 121, 101, 114, 115, 46]⟩ : Paragraph)] : List Paragraph)⟩ : Part), (⟨44, ([(⟨15, [65, 32, 98, 105, 108, 108, 32, 119, 97, 115, 32, 114, 101, 97, 100, 46]⟩ : Paragraph)] : List Paragraph)⟩ : Part)] : List Part)⟩ : Volume), ([(⟨1, 45, 0, 12, [80, 114, 97, 121, 101, 114, 115, 32, 119, 101, 114, 101, 32, 115, 97, 105, 100, 46], 0⟩ : Erratum), (⟨2, 60, 1, 11, [], 0⟩ : Erratum), (⟨3, 60, 2, 11, [84, 104, 101, 32, 83, 112, 101, 97, 107, 101, 114, 32, 116, 111, 111, 107, 32, 116, 104, 101, 32, 99, 104, 97, 105, 114, 46], 20⟩ : Erratum)] : List Erratum))
theorem lm25  : LeO (T10.E.m25 ) (T10.m25 ) := by
 unfold T10.E.m25 T10.m25
 repeat' first
  | (with_reducible exact LeO.refl _)
  | (with_reducible refine LeO.loopE (fun _ => ?_) _)
  | (with_reducible refine LeO.sort (fun _ _ => ?_) _)
  | (with_reducible refine LeO.chk ?_)
  | (with_reducible refine LeO.ite ?_ ?_)
  | (with_reducible refine LeO.bindS ?_ (fun _ => ?_) (fun _ => ?_) <;> try dsimp only)
  | (with_reducible refine LeO.bind ?_ fun _ => ?_)
  | (refine LeO.map ?_)
def m47_1 (v_0 : Volume) (s87 : Nat × List Paragraph) : Option ((Nat × List Paragraph) ⊕ (List Paragraph)) :=
 if (s87.1 : Int) < (v_0.parts.length : Int) then (
  (v_0.parts[s87.1]?).bind fun x117 =>
  chkE (s87.2.length + x117.paragraphs.length ≤ 1073741824) <|
  some (.inl ((s87.1 + 1), (s87.2 ++ x117.paragraphs))))
 else
 some (.inr s87.2)
theorem lm47_1 (v_0 : Volume) (s87 : Nat × List Paragraph) : LeO (T10.E.m47_1 v_0 s87) (T10.m47_1 v_0 s87) := by
 unfold T10.E.m47_1 T10.m47_1
 repeat' first
  | (with_reducible exact LeO.refl _)
  | (with_reducible refine LeO.loopE (fun _ => ?_) _)
  | (with_reducible refine LeO.sort (fun _ _ => ?_) _)
  | (with_reducible refine LeO.chk ?_)
  | (with_reducible refine LeO.ite ?_ ?_)
  | (with_reducible refine LeO.bindS ?_ (fun _ => ?_) (fun _ => ?_) <;> try dsimp only)
  | (with_reducible refine LeO.bind ?_ fun _ => ?_)
  | (refine LeO.map ?_)
def m47 (v_0 : Volume) : Option (List Paragraph) :=
 (loopE (m47_1 v_0) (0, ([] : List Paragraph))).bind fun e82 =>
 some e82
theorem lm47 (v_0 : Volume) : LeO (T10.E.m47 v_0) (T10.m47 v_0) := by
 unfold T10.E.m47 T10.m47
 repeat' first
  | (with_reducible exact LeO.refl _)
  | (with_reducible exact lm47_1 _ _)
  | (with_reducible refine LeO.loopE (fun _ => ?_) _)
  | (with_reducible refine LeO.sort (fun _ _ => ?_) _)
  | (with_reducible refine LeO.chk ?_)
  | (with_reducible refine LeO.ite ?_ ?_)
  | (with_reducible refine LeO.bindS ?_ (fun _ => ?_) (fun _ => ?_) <;> try dsimp only)
  | (with_reducible refine LeO.bind ?_ fun _ => ?_)
  | (refine LeO.map ?_)
def m40 (n_0 : Int) (low : Int) (high : Int) : Option (Bool) :=
 ((
  if low ≤ n_0 then (
   some (decide (n_0 ≤ high)))
  else
  some false
 ) : Option (Bool)).bind fun t4 =>
 some t4
theorem lm40 (n_0 : Int) (low : Int) (high : Int) : LeO (T10.E.m40 n_0 low high) (T10.m40 n_0 low high) := by
 unfold T10.E.m40 T10.m40
 repeat' first
  | (with_reducible exact LeO.refl _)
  | (with_reducible refine LeO.loopE (fun _ => ?_) _)
  | (with_reducible refine LeO.sort (fun _ _ => ?_) _)
  | (with_reducible refine LeO.chk ?_)
  | (with_reducible refine LeO.ite ?_ ?_)
  | (with_reducible refine LeO.bindS ?_ (fun _ => ?_) (fun _ => ?_) <;> try dsimp only)
  | (with_reducible refine LeO.bind ?_ fun _ => ?_)
  | (refine LeO.map ?_)
def m34 (n_0 : Int) : Option (Bool) :=
 (m40 n_0 0 99999).bind fun r1 =>
 some r1
theorem lm34 (n_0 : Int) : LeO (T10.E.m34 n_0) (T10.m34 n_0) := by
 unfold T10.E.m34 T10.m34
 repeat' first
  | (with_reducible exact LeO.refl _)
  | (with_reducible exact lm40 _ _ _)
  | (with_reducible refine LeO.loopE (fun _ => ?_) _)
  | (with_reducible refine LeO.sort (fun _ _ => ?_) _)
  | (with_reducible refine LeO.chk ?_)
  | (with_reducible refine LeO.ite ?_ ?_)
  | (with_reducible refine LeO.bindS ?_ (fun _ => ?_) (fun _ => ?_) <;> try dsimp only)
  | (with_reducible refine LeO.bind ?_ fun _ => ?_)
  | (refine LeO.map ?_)
def m102 (x_0 : Paragraph) (f0_ : Paragraph → Option Bool) : Option (Bool) :=
 (f0_ x_0).bind fun r4 =>
 some (!r4)
theorem lm102 (x_0 : Paragraph) {f0_ f0_' : Paragraph → Option Bool} (hf0_ : ∀ y0, LeO (f0_ y0) (f0_' y0)) : LeO (T10.E.m102 x_0 f0_) (T10.m102 x_0 f0_') := by
 unfold T10.E.m102 T10.m102
 repeat' first
  | (with_reducible exact LeO.refl _)
  | (with_reducible exact hf0_ _)
  | (with_reducible refine LeO.loopE (fun _ => ?_) _)
  | (with_reducible refine LeO.sort (fun _ _ => ?_) _)
  | (with_reducible refine LeO.chk ?_)
  | (with_reducible refine LeO.ite ?_ ?_)
  | (with_reducible refine LeO.bindS ?_ (fun _ => ?_) (fun _ => ?_) <;> try dsimp only)
  | (with_reducible refine LeO.bind ?_ fun _ => ?_)
  | (refine LeO.map ?_)
def m120_1 (s_0 : List Paragraph) (f_1 : Paragraph → Option Bool) (s23 : Nat) : Option ((Nat) ⊕ ((Unit) ⊕ Int)) :=
 if (s23 : Int) < (s_0.length : Int) then (
  (s_0[s23]?).bind fun x46 =>
  (f_1 x46).bind fun r54 =>
  if r54 then (
   some (.inr (.inr (s23 : Int))))
  else
  some (.inl (s23 + 1)))
 else
 some (.inr (.inl ()))
theorem lm120_1 (s_0 : List Paragraph) {f_1 f_1' : Paragraph → Option Bool} (hf_1 : ∀ y0, LeO (f_1 y0) (f_1' y0)) (s23 : Nat) : LeO (T10.E.m120_1 s_0 f_1 s23) (T10.m120_1 s_0 f_1' s23) := by
 unfold T10.E.m120_1 T10.m120_1
 repeat' first
  | (with_reducible exact LeO.refl _)
  | (with_reducible exact hf_1 _)
  | (with_reducible refine LeO.loopE (fun _ => ?_) _)
  | (with_reducible refine LeO.sort (fun _ _ => ?_) _)
  | (with_reducible refine LeO.chk ?_)
  | (with_reducible refine LeO.ite ?_ ?_)
  | (with_reducible refine LeO.bindS ?_ (fun _ => ?_) (fun _ => ?_) <;> try dsimp only)
  | (with_reducible refine LeO.bind ?_ fun _ => ?_)
  | (refine LeO.map ?_)
def m120 (s_0 : List Paragraph) (f_1 : Paragraph → Option Bool) : Option (Int) :=
 (loopE (m120_1 s_0 f_1) 0).bind fun e19 => match e19 with
 | .inr z => some z
 | .inl t22 =>
 some (-1)
theorem lm120 (s_0 : List Paragraph) {f_1 f_1' : Paragraph → Option Bool} (hf_1 : ∀ y0, LeO (f_1 y0) (f_1' y0)) : LeO (T10.E.m120 s_0 f_1) (T10.m120 s_0 f_1') := by
 unfold T10.E.m120 T10.m120
 repeat' first
  | (with_reducible exact LeO.refl _)
  | (with_reducible refine lm120_1 _ (fun _ => ?_) _)
  | (with_reducible exact hf_1 _)
  | (with_reducible refine LeO.loopE (fun _ => ?_) _)
  | (with_reducible refine LeO.sort (fun _ _ => ?_) _)
  | (with_reducible refine LeO.chk ?_)
  | (with_reducible refine LeO.ite ?_ ?_)
  | (with_reducible refine LeO.bindS ?_ (fun _ => ?_) (fun _ => ?_) <;> try dsimp only)
  | (with_reducible refine LeO.bind ?_ fun _ => ?_)
  | (refine LeO.map ?_)
def m101 (s_0 : List Paragraph) (f_1 : Paragraph → Option Bool) : Option (Bool) :=
 (m120 s_0 f_1).bind fun r1 =>
 some (decide (0 ≤ r1))
theorem lm101 (s_0 : List Paragraph) {f_1 f_1' : Paragraph → Option Bool} (hf_1 : ∀ y0, LeO (f_1 y0) (f_1' y0)) : LeO (T10.E.m101 s_0 f_1) (T10.m101 s_0 f_1') := by
 unfold T10.E.m101 T10.m101
 repeat' first
  | (with_reducible exact LeO.refl _)
  | (with_reducible refine lm120 _ (fun _ => ?_))
  | (with_reducible exact hf_1 _)
  | (with_reducible refine LeO.loopE (fun _ => ?_) _)
  | (with_reducible refine LeO.sort (fun _ _ => ?_) _)
  | (with_reducible refine LeO.chk ?_)
  | (with_reducible refine LeO.ite ?_ ?_)
  | (with_reducible refine LeO.bindS ?_ (fun _ => ?_) (fun _ => ?_) <;> try dsimp only)
  | (with_reducible refine LeO.bind ?_ fun _ => ?_)
  | (refine LeO.map ?_)
def m67 (l_0 : List Paragraph) (right : Paragraph → Option Bool) : Option (Bool) :=
 (m101 l_0 (fun x0_ => m102 x0_ right)).bind fun r5 =>
 some (!r5)
theorem lm67 (l_0 : List Paragraph) {right right' : Paragraph → Option Bool} (hright : ∀ y0, LeO (right y0) (right' y0)) : LeO (T10.E.m67 l_0 right) (T10.m67 l_0 right') := by
 unfold T10.E.m67 T10.m67
 repeat' first
  | (with_reducible exact LeO.refl _)
  | (with_reducible refine lm101 _ (fun _ => ?_))
  | (with_reducible refine lm102 _ (fun _ => ?_))
  | (with_reducible exact hright _)
  | (with_reducible refine LeO.loopE (fun _ => ?_) _)
  | (with_reducible refine LeO.sort (fun _ _ => ?_) _)
  | (with_reducible refine LeO.chk ?_)
  | (with_reducible refine LeO.ite ?_ ?_)
  | (with_reducible refine LeO.bindS ?_ (fun _ => ?_) (fun _ => ?_) <;> try dsimp only)
  | (with_reducible refine LeO.bind ?_ fun _ => ?_)
  | (refine LeO.map ?_)
def m69 (n_0 : Int) : Option (Bool) :=
 (m40 n_0 1 999).bind fun r1 =>
 some r1
theorem lm69 (n_0 : Int) : LeO (T10.E.m69 n_0) (T10.m69 n_0) := by
 unfold T10.E.m69 T10.m69
 repeat' first
  | (with_reducible exact LeO.refl _)
  | (with_reducible exact lm40 _ _ _)
  | (with_reducible refine LeO.loopE (fun _ => ?_) _)
  | (with_reducible refine LeO.sort (fun _ _ => ?_) _)
  | (with_reducible refine LeO.chk ?_)
  | (with_reducible refine LeO.ite ?_ ?_)
  | (with_reducible refine LeO.bindS ?_ (fun _ => ?_) (fun _ => ?_) <;> try dsimp only)
  | (with_reducible refine LeO.bind ?_ fun _ => ?_)
  | (refine LeO.map ?_)
def m122 (x_0 : Int) (f0_ : Int → Option Bool) : Option (Bool) :=
 (f0_ x_0).bind fun r1 =>
 some (!r1)
theorem lm122 (x_0 : Int) {f0_ f0_' : Int → Option Bool} (hf0_ : ∀ y0, LeO (f0_ y0) (f0_' y0)) : LeO (T10.E.m122 x_0 f0_) (T10.m122 x_0 f0_') := by
 unfold T10.E.m122 T10.m122
 repeat' first
  | (with_reducible exact LeO.refl _)
  | (with_reducible exact hf0_ _)
  | (with_reducible refine LeO.loopE (fun _ => ?_) _)
  | (with_reducible refine LeO.sort (fun _ _ => ?_) _)
  | (with_reducible refine LeO.chk ?_)
  | (with_reducible refine LeO.ite ?_ ?_)
  | (with_reducible refine LeO.bindS ?_ (fun _ => ?_) (fun _ => ?_) <;> try dsimp only)
  | (with_reducible refine LeO.bind ?_ fun _ => ?_)
  | (refine LeO.map ?_)
def m136_1 (s_0 : List UInt8) (f_1 : Int → Option Bool) (s23 : Nat) : Option ((Nat) ⊕ ((Unit) ⊕ Int)) :=
 if (s23 : Int) < (s_0.length : Int) then (
  (s_0[s23]?).bind fun x46 =>
  (f_1 (x46.toNat : Int)).bind fun r54 =>
  if r54 then (
   some (.inr (.inr (s23 : Int))))
  else
  some (.inl (s23 + 1)))
 else
 some (.inr (.inl ()))
theorem lm136_1 (s_0 : List UInt8) {f_1 f_1' : Int → Option Bool} (hf_1 : ∀ y0, LeO (f_1 y0) (f_1' y0)) (s23 : Nat) : LeO (T10.E.m136_1 s_0 f_1 s23) (T10.m136_1 s_0 f_1' s23) := by
 unfold T10.E.m136_1 T10.m136_1
 repeat' first
  | (with_reducible exact LeO.refl _)
  | (with_reducible exact hf_1 _)
  | (with_reducible refine LeO.loopE (fun _ => ?_) _)
  | (with_reducible refine LeO.sort (fun _ _ => ?_) _)
  | (with_reducible refine LeO.chk ?_)
  | (with_reducible refine LeO.ite ?_ ?_)
  | (with_reducible refine LeO.bindS ?_ (fun _ => ?_) (fun _ => ?_) <;> try dsimp only)
  | (with_reducible refine LeO.bind ?_ fun _ => ?_)
  | (refine LeO.map ?_)
def m136 (s_0 : List UInt8) (f_1 : Int → Option Bool) : Option (Int) :=
 (loopE (m136_1 s_0 f_1) 0).bind fun e19 => match e19 with
 | .inr z => some z
 | .inl t22 =>
 some (-1)
theorem lm136 (s_0 : List UInt8) {f_1 f_1' : Int → Option Bool} (hf_1 : ∀ y0, LeO (f_1 y0) (f_1' y0)) : LeO (T10.E.m136 s_0 f_1) (T10.m136 s_0 f_1') := by
 unfold T10.E.m136 T10.m136
 repeat' first
  | (with_reducible exact LeO.refl _)
  | (with_reducible refine lm136_1 _ (fun _ => ?_) _)
  | (with_reducible exact hf_1 _)
  | (with_reducible refine LeO.loopE (fun _ => ?_) _)
  | (with_reducible refine LeO.sort (fun _ _ => ?_) _)
  | (with_reducible refine LeO.chk ?_)
  | (with_reducible refine LeO.ite ?_ ?_)
  | (with_reducible refine LeO.bindS ?_ (fun _ => ?_) (fun _ => ?_) <;> try dsimp only)
  | (with_reducible refine LeO.bind ?_ fun _ => ?_)
  | (refine LeO.map ?_)
def m121 (s_0 : List UInt8) (f_1 : Int → Option Bool) : Option (Bool) :=
 (m136 s_0 f_1).bind fun r1 =>
 some (decide (0 ≤ r1))
theorem lm121 (s_0 : List UInt8) {f_1 f_1' : Int → Option Bool} (hf_1 : ∀ y0, LeO (f_1 y0) (f_1' y0)) : LeO (T10.E.m121 s_0 f_1) (T10.m121 s_0 f_1') := by
 unfold T10.E.m121 T10.m121
 repeat' first
  | (with_reducible exact LeO.refl _)
  | (with_reducible refine lm136 _ (fun _ => ?_))
  | (with_reducible exact hf_1 _)
  | (with_reducible refine LeO.loopE (fun _ => ?_) _)
  | (with_reducible refine LeO.sort (fun _ _ => ?_) _)
  | (with_reducible refine LeO.chk ?_)
  | (with_reducible refine LeO.ite ?_ ?_)
  | (with_reducible refine LeO.bindS ?_ (fun _ => ?_) (fun _ => ?_) <;> try dsimp only)
  | (with_reducible refine LeO.bind ?_ fun _ => ?_)
  | (refine LeO.map ?_)
def m103 (l_0 : List UInt8) (right : Int → Option Bool) : Option (Bool) :=
 (m121 l_0 (fun x0_ => m122 x0_ right)).bind fun r5 =>
 some (!r5)
theorem lm103 (l_0 : List UInt8) {right right' : Int → Option Bool} (hright : ∀ y0, LeO (right y0) (right' y0)) : LeO (T10.E.m103 l_0 right) (T10.m103 l_0 right') := by
 unfold T10.E.m103 T10.m103
 repeat' first
  | (with_reducible exact LeO.refl _)
  | (with_reducible refine lm121 _ (fun _ => ?_))
  | (with_reducible refine lm122 _ (fun _ => ?_))
  | (with_reducible exact hright _)
  | (with_reducible refine LeO.loopE (fun _ => ?_) _)
  | (with_reducible refine LeO.sort (fun _ _ => ?_) _)
  | (with_reducible refine LeO.chk ?_)
  | (with_reducible refine LeO.ite ?_ ?_)
  | (with_reducible refine LeO.bindS ?_ (fun _ => ?_) (fun _ => ?_) <;> try dsimp only)
  | (with_reducible refine LeO.bind ?_ fun _ => ?_)
  | (refine LeO.map ?_)
def m104 (c_0 : Int) : Option (Bool) :=
 ((
  if (32 : Int) ≤ c_0 then (
   some (decide (c_0 ≤ 126)))
  else
  some false
 ) : Option (Bool)).bind fun t4 =>
 some t4
theorem lm104 (c_0 : Int) : LeO (T10.E.m104 c_0) (T10.m104 c_0) := by
 unfold T10.E.m104 T10.m104
 repeat' first
  | (with_reducible exact LeO.refl _)
  | (with_reducible refine LeO.loopE (fun _ => ?_) _)
  | (with_reducible refine LeO.sort (fun _ _ => ?_) _)
  | (with_reducible refine LeO.chk ?_)
  | (with_reducible refine LeO.ite ?_ ?_)
  | (with_reducible refine LeO.bindS ?_ (fun _ => ?_) (fun _ => ?_) <;> try dsimp only)
  | (with_reducible refine LeO.bind ?_ fun _ => ?_)
  | (refine LeO.map ?_)
def m70 (s_0 : Bytes) : Option (Bool) :=
 ((
  (m40 (s_0.length : Int) 1 200).bind fun r20 =>
  if r20 then (
   chkE (s_0.length ≤ 1073741824) <|
   (m103 s_0 (m104)).bind fun r32 =>
   some r32)
  else
  some false
 ) : Option (Bool)).bind fun t17 =>
 some t17
theorem lm70 (s_0 : Bytes) : LeO (T10.E.m70 s_0) (T10.m70 s_0) := by
 unfold T10.E.m70 T10.m70
 repeat' first
  | (with_reducible exact LeO.refl _)
  | (with_reducible exact lm40 _ _ _)
  | (with_reducible refine lm103 _ (fun _ => ?_))
  | (with_reducible exact lm104 _)
  | (with_reducible refine LeO.loopE (fun _ => ?_) _)
  | (with_reducible refine LeO.sort (fun _ _ => ?_) _)
  | (with_reducible refine LeO.chk ?_)
  | (with_reducible refine LeO.ite ?_ ?_)
  | (with_reducible refine LeO.bindS ?_ (fun _ => ?_) (fun _ => ?_) <;> try dsimp only)
  | (with_reducible refine LeO.bind ?_ fun _ => ?_)
  | (refine LeO.map ?_)
def m68 (p_0 : Paragraph) : Option (Bool) :=
 ((
  (m69 p_0.anchor).bind fun r16 =>
  if r16 then (
   (m70 p_0.text).bind fun r21 =>
   some r21)
  else
  some false
 ) : Option (Bool)).bind fun t13 =>
 some t13
theorem lm68 (p_0 : Paragraph) : LeO (T10.E.m68 p_0) (T10.m68 p_0) := by
 unfold T10.E.m68 T10.m68
 repeat' first
  | (with_reducible exact LeO.refl _)
  | (with_reducible exact lm69 _)
  | (with_reducible exact lm70 _)
  | (with_reducible refine LeO.loopE (fun _ => ?_) _)
  | (with_reducible refine LeO.sort (fun _ _ => ?_) _)
  | (with_reducible refine LeO.chk ?_)
  | (with_reducible refine LeO.ite ?_ ?_)
  | (with_reducible refine LeO.bindS ?_ (fun _ => ?_) (fun _ => ?_) <;> try dsimp only)
  | (with_reducible refine LeO.bind ?_ fun _ => ?_)
  | (refine LeO.map ?_)
def m48_1 (v_0 : Volume) (s59 : Nat) : Option ((Nat) ⊕ ((Unit) ⊕ Bool)) :=
 if (s59 : Int) < (v_0.parts.length : Int) then (
  (v_0.parts[s59]?).bind fun x112 =>
  ((
   (m34 x112.day).bind fun r155 =>
   if r155 then (
    if v_0.bound < x112.day then (
     some true)
    else
    if 0 < (s59 : Int) then (
     (v_0.parts[((s59 : Int) - 1).toNat]?).bind fun x166 =>
     some (decide (x112.day ≤ x166.day)))
    else
    some false)
   else
   some true
  ) : Option (Bool)).bind fun t152 =>
  if t152 then (
   some (.inr (.inr false)))
  else
  some (.inl (s59 + 1)))
 else
 some (.inr (.inl ()))
theorem lm48_1 (v_0 : Volume) (s59 : Nat) : LeO (T10.E.m48_1 v_0 s59) (T10.m48_1 v_0 s59) := by
 unfold T10.E.m48_1 T10.m48_1
 repeat' first
  | (with_reducible exact LeO.refl _)
  | (with_reducible exact lm34 _)
  | (with_reducible refine LeO.loopE (fun _ => ?_) _)
  | (with_reducible refine LeO.sort (fun _ _ => ?_) _)
  | (with_reducible refine LeO.chk ?_)
  | (with_reducible refine LeO.ite ?_ ?_)
  | (with_reducible refine LeO.bindS ?_ (fun _ => ?_) (fun _ => ?_) <;> try dsimp only)
  | (with_reducible refine LeO.bind ?_ fun _ => ?_)
  | (refine LeO.map ?_)
def m48 (v_0 : Volume) : Option (Bool) :=
 (loopE (m48_1 v_0) 0).bind fun e55 => match e55 with
 | .inr z => some z
 | .inl t58 =>
 ((
  (m40 v_0.number 1 99).bind fun r227 =>
  if r227 then (
   (m34 v_0.bound).bind fun r232 =>
   if r232 then (
    (m40 v_0.height 1 60).bind fun r237 =>
    if r237 then (
     (m40 v_0.width 10 80).bind fun r242 =>
     if r242 then (
      (m47 v_0).bind fun r247 =>
      (m67 r247 (m68)).bind fun r255 =>
      some r255)
     else
     some false)
    else
    some false)
   else
   some false)
  else
  some false
 ) : Option (Bool)).bind fun t224 =>
 some t224
theorem lm48 (v_0 : Volume) : LeO (T10.E.m48 v_0) (T10.m48 v_0) := by
 unfold T10.E.m48 T10.m48
 repeat' first
  | (with_reducible exact LeO.refl _)
  | (with_reducible exact lm48_1 _ _)
  | (with_reducible exact lm40 _ _ _)
  | (with_reducible exact lm34 _)
  | (with_reducible exact lm47 _)
  | (with_reducible refine lm67 _ (fun _ => ?_))
  | (with_reducible exact lm68 _)
  | (with_reducible refine LeO.loopE (fun _ => ?_) _)
  | (with_reducible refine LeO.sort (fun _ _ => ?_) _)
  | (with_reducible refine LeO.chk ?_)
  | (with_reducible refine LeO.ite ?_ ?_)
  | (with_reducible refine LeO.bindS ?_ (fun _ => ?_) (fun _ => ?_) <;> try dsimp only)
  | (with_reducible refine LeO.bind ?_ fun _ => ?_)
  | (refine LeO.map ?_)
def m27_1 (r7 : List Paragraph) (s98 : Nat × (List (Int × Bool))) : Option ((Nat × (List (Int × Bool))) ⊕ (((List (Int × Bool))) ⊕ Int)) :=
 if (s98.1 : Int) < (r7.length : Int) then (
  (r7[s98.1]?).bind fun x121 =>
  if (lkp s98.2 x121.anchor).getD false then (
   some (.inr (.inr 6)))
  else
  some (.inl ((s98.1 + 1), (put s98.2 x121.anchor true))))
 else
 some (.inr (.inl s98.2))
theorem lm27_1 (r7 : List Paragraph) (s98 : Nat × (List (Int × Bool))) : LeO (T10.E.m27_1 r7 s98) (T10.m27_1 r7 s98) := by
 unfold T10.E.m27_1 T10.m27_1
 repeat' first
  | (with_reducible exact LeO.refl _)
  | (with_reducible refine LeO.loopE (fun _ => ?_) _)
  | (with_reducible refine LeO.sort (fun _ _ => ?_) _)
  | (with_reducible refine LeO.chk ?_)
  | (with_reducible refine LeO.ite ?_ ?_)
  | (with_reducible refine LeO.bindS ?_ (fun _ => ?_) (fun _ => ?_) <;> try dsimp only)
  | (with_reducible refine LeO.bind ?_ fun _ => ?_)
  | (refine LeO.map ?_)
def m27 (v_0 : Volume) : Option (Int) :=
 (m47 v_0).bind fun r7 =>
 ((
  if 6 < (v_0.parts.length : Int) then (
   some true)
  else
  some (decide (30 < (r7.length : Int)))
 ) : Option (Bool)).bind fun t30 =>
 if t30 then (
  some 3)
 else
 (m48 v_0).bind fun r48 =>
 if r48 then (
  (loopE (m27_1 r7) (0, ([] : List (Int × Bool)))).bind fun e94 => match e94 with
  | .inr z => some z
  | .inl t97 =>
  some 0)
 else
 some 1
theorem lm27 (v_0 : Volume) : LeO (T10.E.m27 v_0) (T10.m27 v_0) := by
 unfold T10.E.m27 T10.m27
 repeat' first
  | (with_reducible exact LeO.refl _)
  | (with_reducible exact lm47 _)
  | (with_reducible exact lm48 _)
  | (with_reducible exact lm27_1 _ _)
  | (with_reducible refine LeO.loopE (fun _ => ?_) _)
  | (with_reducible refine LeO.sort (fun _ _ => ?_) _)
  | (with_reducible refine LeO.chk ?_)
  | (with_reducible refine LeO.ite ?_ ?_)
  | (with_reducible refine LeO.bindS ?_ (fun _ => ?_) (fun _ => ?_) <;> try dsimp only)
  | (with_reducible refine LeO.bind ?_ fun _ => ?_)
  | (refine LeO.map ?_)
def m76 (x_0 : Erratum) (f0_ : Erratum → Option Bool) : Option (Bool) :=
 (f0_ x_0).bind fun r4 =>
 some (!r4)
theorem lm76 (x_0 : Erratum) {f0_ f0_' : Erratum → Option Bool} (hf0_ : ∀ y0, LeO (f0_ y0) (f0_' y0)) : LeO (T10.E.m76 x_0 f0_) (T10.m76 x_0 f0_') := by
 unfold T10.E.m76 T10.m76
 repeat' first
  | (with_reducible exact LeO.refl _)
  | (with_reducible exact hf0_ _)
  | (with_reducible refine LeO.loopE (fun _ => ?_) _)
  | (with_reducible refine LeO.sort (fun _ _ => ?_) _)
  | (with_reducible refine LeO.chk ?_)
  | (with_reducible refine LeO.ite ?_ ?_)
  | (with_reducible refine LeO.bindS ?_ (fun _ => ?_) (fun _ => ?_) <;> try dsimp only)
  | (with_reducible refine LeO.bind ?_ fun _ => ?_)
  | (refine LeO.map ?_)
def m105_1 (s_0 : List Erratum) (f_1 : Erratum → Option Bool) (s23 : Nat) : Option ((Nat) ⊕ ((Unit) ⊕ Int)) :=
 if (s23 : Int) < (s_0.length : Int) then (
  (s_0[s23]?).bind fun x46 =>
  (f_1 x46).bind fun r54 =>
  if r54 then (
   some (.inr (.inr (s23 : Int))))
  else
  some (.inl (s23 + 1)))
 else
 some (.inr (.inl ()))
theorem lm105_1 (s_0 : List Erratum) {f_1 f_1' : Erratum → Option Bool} (hf_1 : ∀ y0, LeO (f_1 y0) (f_1' y0)) (s23 : Nat) : LeO (T10.E.m105_1 s_0 f_1 s23) (T10.m105_1 s_0 f_1' s23) := by
 unfold T10.E.m105_1 T10.m105_1
 repeat' first
  | (with_reducible exact LeO.refl _)
  | (with_reducible exact hf_1 _)
  | (with_reducible refine LeO.loopE (fun _ => ?_) _)
  | (with_reducible refine LeO.sort (fun _ _ => ?_) _)
  | (with_reducible refine LeO.chk ?_)
  | (with_reducible refine LeO.ite ?_ ?_)
  | (with_reducible refine LeO.bindS ?_ (fun _ => ?_) (fun _ => ?_) <;> try dsimp only)
  | (with_reducible refine LeO.bind ?_ fun _ => ?_)
  | (refine LeO.map ?_)
def m105 (s_0 : List Erratum) (f_1 : Erratum → Option Bool) : Option (Int) :=
 (loopE (m105_1 s_0 f_1) 0).bind fun e19 => match e19 with
 | .inr z => some z
 | .inl t22 =>
 some (-1)
theorem lm105 (s_0 : List Erratum) {f_1 f_1' : Erratum → Option Bool} (hf_1 : ∀ y0, LeO (f_1 y0) (f_1' y0)) : LeO (T10.E.m105 s_0 f_1) (T10.m105 s_0 f_1') := by
 unfold T10.E.m105 T10.m105
 repeat' first
  | (with_reducible exact LeO.refl _)
  | (with_reducible refine lm105_1 _ (fun _ => ?_) _)
  | (with_reducible exact hf_1 _)
  | (with_reducible refine LeO.loopE (fun _ => ?_) _)
  | (with_reducible refine LeO.sort (fun _ _ => ?_) _)
  | (with_reducible refine LeO.chk ?_)
  | (with_reducible refine LeO.ite ?_ ?_)
  | (with_reducible refine LeO.bindS ?_ (fun _ => ?_) (fun _ => ?_) <;> try dsimp only)
  | (with_reducible refine LeO.bind ?_ fun _ => ?_)
  | (refine LeO.map ?_)
def m75 (s_0 : List Erratum) (f_1 : Erratum → Option Bool) : Option (Bool) :=
 (m105 s_0 f_1).bind fun r1 =>
 some (decide (0 ≤ r1))
theorem lm75 (s_0 : List Erratum) {f_1 f_1' : Erratum → Option Bool} (hf_1 : ∀ y0, LeO (f_1 y0) (f_1' y0)) : LeO (T10.E.m75 s_0 f_1) (T10.m75 s_0 f_1') := by
 unfold T10.E.m75 T10.m75
 repeat' first
  | (with_reducible exact LeO.refl _)
  | (with_reducible refine lm105 _ (fun _ => ?_))
  | (with_reducible exact hf_1 _)
  | (with_reducible refine LeO.loopE (fun _ => ?_) _)
  | (with_reducible refine LeO.sort (fun _ _ => ?_) _)
  | (with_reducible refine LeO.chk ?_)
  | (with_reducible refine LeO.ite ?_ ?_)
  | (with_reducible refine LeO.bindS ?_ (fun _ => ?_) (fun _ => ?_) <;> try dsimp only)
  | (with_reducible refine LeO.bind ?_ fun _ => ?_)
  | (refine LeO.map ?_)
def m52 (l_0 : List Erratum) (right : Erratum → Option Bool) : Option (Bool) :=
 (m75 l_0 (fun x0_ => m76 x0_ right)).bind fun r5 =>
 some (!r5)
theorem lm52 (l_0 : List Erratum) {right right' : Erratum → Option Bool} (hright : ∀ y0, LeO (right y0) (right' y0)) : LeO (T10.E.m52 l_0 right) (T10.m52 l_0 right') := by
 unfold T10.E.m52 T10.m52
 repeat' first
  | (with_reducible exact LeO.refl _)
  | (with_reducible refine lm75 _ (fun _ => ?_))
  | (with_reducible refine lm76 _ (fun _ => ?_))
  | (with_reducible exact hright _)
  | (with_reducible refine LeO.loopE (fun _ => ?_) _)
  | (with_reducible refine LeO.sort (fun _ _ => ?_) _)
  | (with_reducible refine LeO.chk ?_)
  | (with_reducible refine LeO.ite ?_ ?_)
  | (with_reducible refine LeO.bindS ?_ (fun _ => ?_) (fun _ => ?_) <;> try dsimp only)
  | (with_reducible refine LeO.bind ?_ fun _ => ?_)
  | (refine LeO.map ?_)
def m53 (x_0 : Erratum) : Option (Bool) :=
 ((
  (m40 x_0.number 1 999).bind fun r22 =>
  if r22 then (
   (m34 x_0.day).bind fun r27 =>
   if r27 then (
    (m69 x_0.anchor).bind fun r32 =>
    some (!r32))
   else
   some true)
  else
  some true
 ) : Option (Bool)).bind fun t19 =>
 if t19 then (
  some false)
 else
 if x_0.kind = 0 then (
  ((
   (m70 x_0.text).bind fun r114 =>
   if r114 then (
    some (decide (x_0.new_ = 0)))
   else
   some false
  ) : Option (Bool)).bind fun t111 =>
  some t111)
 else
 if x_0.kind = 1 then (
  ((
   if x_0.text = [] then (
    some (decide (x_0.new_ = 0)))
   else
   some false
  ) : Option (Bool)).bind fun t146 =>
  some t146)
 else
 if x_0.kind = 2 then (
  ((
   (m70 x_0.text).bind fun r180 =>
   if r180 then (
    (m69 x_0.new_).bind fun r185 =>
    some r185)
   else
   some false
  ) : Option (Bool)).bind fun t177 =>
  some t177)
 else
 some false
theorem lm53 (x_0 : Erratum) : LeO (T10.E.m53 x_0) (T10.m53 x_0) := by
 unfold T10.E.m53 T10.m53
 repeat' first
  | (with_reducible exact LeO.refl _)
  | (with_reducible exact lm40 _ _ _)
  | (with_reducible exact lm34 _)
  | (with_reducible exact lm69 _)
  | (with_reducible exact lm70 _)
  | (with_reducible refine LeO.loopE (fun _ => ?_) _)
  | (with_reducible refine LeO.sort (fun _ _ => ?_) _)
  | (with_reducible refine LeO.chk ?_)
  | (with_reducible refine LeO.ite ?_ ?_)
  | (with_reducible refine LeO.bindS ?_ (fun _ => ?_) (fun _ => ?_) <;> try dsimp only)
  | (with_reducible refine LeO.bind ?_ fun _ => ?_)
  | (refine LeO.map ?_)
def m78 (s_0 : List Erratum) : Option (List Erratum) :=
 chkE (([] : List Erratum).length + s_0.length ≤ 1073741824) <|
 some (([] : List Erratum) ++ s_0)
def m100 (x_0 : Int) : Option (Bool) :=
 some (decide (x_0 ≠ x_0))
theorem lm100 (x_0 : Int) : LeO (T10.E.m100 x_0) (T10.m100 x_0) := by
 unfold T10.E.m100 T10.m100
 repeat' first
  | (with_reducible exact LeO.refl _)
  | (with_reducible refine LeO.loopE (fun _ => ?_) _)
  | (with_reducible refine LeO.sort (fun _ _ => ?_) _)
  | (with_reducible refine LeO.chk ?_)
  | (with_reducible refine LeO.ite ?_ ?_)
  | (with_reducible refine LeO.bindS ?_ (fun _ => ?_) (fun _ => ?_) <;> try dsimp only)
  | (with_reducible refine LeO.bind ?_ fun _ => ?_)
  | (refine LeO.map ?_)
def m66 (x_0 : Int) (y_1 : Int) : Option (Int) :=
 (m100 x_0).bind fun r1 =>
 (m100 y_1).bind fun r4 =>
 if r1 then (
  if r4 then (
   some 0)
  else
  some (-1))
 else
 if r4 then (
  some 1)
 else
 if x_0 < y_1 then (
  some (-1))
 else
 if y_1 < x_0 then (
  some 1)
 else
 some 0
theorem lm66 (x_0 : Int) (y_1 : Int) : LeO (T10.E.m66 x_0 y_1) (T10.m66 x_0 y_1) := by
 unfold T10.E.m66 T10.m66
 repeat' first
  | (with_reducible exact LeO.refl _)
  | (with_reducible exact lm100 _)
  | (with_reducible refine LeO.loopE (fun _ => ?_) _)
  | (with_reducible refine LeO.sort (fun _ _ => ?_) _)
  | (with_reducible refine LeO.chk ?_)
  | (with_reducible refine LeO.ite ?_ ?_)
  | (with_reducible refine LeO.bindS ?_ (fun _ => ?_) (fun _ => ?_) <;> try dsimp only)
  | (with_reducible refine LeO.bind ?_ fun _ => ?_)
  | (refine LeO.map ?_)
def m65_1 (vals : List Int) (s20 : Nat) : Option ((Nat) ⊕ ((Unit) ⊕ Int)) :=
 if (s20 : Int) < (vals.length : Int) then (
  (vals[s20]?).bind fun x40 =>
  if x40 ≠ 0 then (
   some (.inr (.inr x40)))
  else
  some (.inl (s20 + 1)))
 else
 some (.inr (.inl ()))
theorem lm65_1 (vals : List Int) (s20 : Nat) : LeO (T10.E.m65_1 vals s20) (T10.m65_1 vals s20) := by
 unfold T10.E.m65_1 T10.m65_1
 repeat' first
  | (with_reducible exact LeO.refl _)
  | (with_reducible refine LeO.loopE (fun _ => ?_) _)
  | (with_reducible refine LeO.sort (fun _ _ => ?_) _)
  | (with_reducible refine LeO.chk ?_)
  | (with_reducible refine LeO.ite ?_ ?_)
  | (with_reducible refine LeO.bindS ?_ (fun _ => ?_) (fun _ => ?_) <;> try dsimp only)
  | (with_reducible refine LeO.bind ?_ fun _ => ?_)
  | (refine LeO.map ?_)
def m65 (vals : List Int) : Option (Int) :=
 (loopE (m65_1 vals) 0).bind fun e16 => match e16 with
 | .inr z => some z
 | .inl t19 =>
 some 0
theorem lm65 (vals : List Int) : LeO (T10.E.m65 vals) (T10.m65 vals) := by
 unfold T10.E.m65 T10.m65
 repeat' first
  | (with_reducible exact LeO.refl _)
  | (with_reducible exact lm65_1 _ _)
  | (with_reducible refine LeO.loopE (fun _ => ?_) _)
  | (with_reducible refine LeO.sort (fun _ _ => ?_) _)
  | (with_reducible refine LeO.chk ?_)
  | (with_reducible refine LeO.ite ?_ ?_)
  | (with_reducible refine LeO.bindS ?_ (fun _ => ?_) (fun _ => ?_) <;> try dsimp only)
  | (with_reducible refine LeO.bind ?_ fun _ => ?_)
  | (refine LeO.map ?_)
def m46 (a_0 : Erratum) (b_1 : Erratum) : Option (Int) :=
 (m66 a_0.day b_1.day).bind fun r7 =>
 (m66 a_0.number b_1.number).bind fun r11 =>
 (m65 ([r7, r11] : List Int)).bind fun r19 =>
 some r19
theorem lm46 (a_0 : Erratum) (b_1 : Erratum) : LeO (T10.E.m46 a_0 b_1) (T10.m46 a_0 b_1) := by
 unfold T10.E.m46 T10.m46
 repeat' first
  | (with_reducible exact LeO.refl _)
  | (with_reducible exact lm66 _ _)
  | (with_reducible exact lm65 _)
  | (with_reducible refine LeO.loopE (fun _ => ?_) _)
  | (with_reducible refine LeO.sort (fun _ _ => ?_) _)
  | (with_reducible refine LeO.chk ?_)
  | (with_reducible refine LeO.ite ?_ ?_)
  | (with_reducible refine LeO.bindS ?_ (fun _ => ?_) (fun _ => ?_) <;> try dsimp only)
  | (with_reducible refine LeO.bind ?_ fun _ => ?_)
  | (refine LeO.map ?_)
def m77_1 (t8 : List Erratum) (l22 : List Erratum) (f1_ : Int) (yield : Erratum → Option Bool) (s51 : Nat) : Option ((Nat) ⊕ ((Unit) ⊕ Unit)) :=
 if (s51 : Int) < (t8.length : Int) then (
  (l22[s51]?).bind fun x77 =>
  ((
   if f1_ < x77.day then (
    some true)
   else
   (yield x77).bind fun r96 =>
   some (!r96)
  ) : Option (Bool)).bind fun t90 =>
  if t90 then (
   some (.inr (.inr ())))
  else
  some (.inl (s51 + 1)))
 else
 some (.inr (.inl ()))
def m77 (yield : Erratum → Option Bool) (f0_ : List Erratum) (f1_ : Int) : Option (Unit) :=
 ((
  chkE (([] : List Erratum).length + f0_.length ≤ 1073741824) <|
  some (([] : List Erratum) ++ f0_)
 ) : Option (List Erratum)).bind fun t8 =>
 (sortF (m46) t8).bind fun l22 =>
 (loopE (m77_1 t8 l22 f1_ yield) 0).bind fun e47 => match e47 with
 | .inr z => some z
 | .inl t50 =>
 some ()
def m54_1 (r10 : List Paragraph) (s50 : Nat × (List (Int × Bool))) : Option ((Nat × (List (Int × Bool))) ⊕ ((List (Int × Bool)))) :=
 if (s50.1 : Int) < (r10.length : Int) then (
  (r10[s50.1]?).bind fun x70 =>
  some (.inl ((s50.1 + 1), (put s50.2 x70.anchor true))))
 else
 some (.inr s50.2)
theorem lm54_1 (r10 : List Paragraph) (s50 : Nat × (List (Int × Bool))) : LeO (T10.E.m54_1 r10 s50) (T10.m54_1 r10 s50) := by
 unfold T10.E.m54_1 T10.m54_1
 repeat' first
  | (with_reducible exact LeO.refl _)
  | (with_reducible refine LeO.loopE (fun _ => ?_) _)
  | (with_reducible refine LeO.sort (fun _ _ => ?_) _)
  | (with_reducible refine LeO.chk ?_)
  | (with_reducible refine LeO.ite ?_ ?_)
  | (with_reducible refine LeO.bindS ?_ (fun _ => ?_) (fun _ => ?_) <;> try dsimp only)
  | (with_reducible refine LeO.bind ?_ fun _ => ?_)
  | (refine LeO.map ?_)
def m54_2 (t273 : List Erratum) (l287 : List Erratum) (s353 : Nat × (List (Int × Bool))) : Option ((Nat × (List (Int × Bool))) ⊕ (((List (Int × Bool))) ⊕ (((List (Int × Bool))) ⊕ (Nat × (List (Int × Bool)))))) :=
 if (s353.1 : Int) < (t273.length : Int) then (
  (l287[s353.1]?).bind fun x387 =>
  if 99999 < x387.day then (
   some (.inr (.inr (.inl s353.2))))
  else
  ((
   if (lkp s353.2 x387.anchor).getD false then (
    ((
     if x387.kind = 2 then (
      some (put s353.2 x387.new_ true))
     else
     some s353.2
    ) : Option ((List (Int × Bool)))).bind fun t449 =>
    some (.inr t449))
   else
   some (.inl 7)
  ) : Option ((Nat) ⊕ ((List (Int × Bool))))).bind fun t425 => match t425 with
  | .inl t428 => (
   some (.inr (.inr (.inr (t428, s353.2)))))
  | .inr t429 => (
   some (.inl ((s353.1 + 1), t429))))
 else
 some (.inr (.inl s353.2))
theorem lm54_2 (t273 : List Erratum) (l287 : List Erratum) (s353 : Nat × (List (Int × Bool))) : LeO (T10.E.m54_2 t273 l287 s353) (T10.m54_2 t273 l287 s353) := by
 unfold T10.E.m54_2 T10.m54_2
 repeat' first
  | (with_reducible exact LeO.refl _)
  | (with_reducible refine LeO.loopE (fun _ => ?_) _)
  | (with_reducible refine LeO.sort (fun _ _ => ?_) _)
  | (with_reducible refine LeO.chk ?_)
  | (with_reducible refine LeO.ite ?_ ?_)
  | (with_reducible refine LeO.bindS ?_ (fun _ => ?_) (fun _ => ?_) <;> try dsimp only)
  | (with_reducible refine LeO.bind ?_ fun _ => ?_)
  | (refine LeO.map ?_)
def m54 (v_0 : Volume) (errata : List Erratum) : Option (Int) :=
 (m47 v_0).bind fun r10 =>
 (loopE (m54_1 r10) (0, ([] : List (Int × Bool)))).bind fun e47 =>
 ((
  ((
   chkE (([] : List Erratum).length + errata.length ≤ 1073741824) <|
   some (([] : List Erratum) ++ errata)
  ) : Option (List Erratum)).bind fun t273 =>
  (sortF (m46) t273).bind fun l287 =>
  (loopE (m54_2 t273 l287) (0, e47)).bind fun e349 => match e349 with
  | .inr z => some z
  | .inl t352 =>
  some (.inl t352)
 ) : Option (((List (Int × Bool))) ⊕ (Nat × (List (Int × Bool))))).bind fun t261 => match t261 with
 | .inl t264 => (
  some 0)
 | .inr t265 => (
  some (t265.1 : Int))
theorem lm54 (v_0 : Volume) (errata : List Erratum) : LeO (T10.E.m54 v_0 errata) (T10.m54 v_0 errata) := by
 unfold T10.E.m54 T10.m54
 repeat' first
  | (with_reducible exact LeO.refl _)
  | (with_reducible exact lm47 _)
  | (with_reducible exact lm54_1 _ _)
  | (with_reducible exact lm46 _ _)
  | (with_reducible exact lm54_2 _ _ _)
  | (with_reducible refine LeO.loopE (fun _ => ?_) _)
  | (with_reducible refine LeO.sort (fun _ _ => ?_) _)
  | (with_reducible refine LeO.chk ?_)
  | (with_reducible refine LeO.ite ?_ ?_)
  | (with_reducible refine LeO.bindS ?_ (fun _ => ?_) (fun _ => ?_) <;> try dsimp only)
  | (with_reducible refine LeO.bind ?_ fun _ => ?_)
  | (refine LeO.map ?_)
def m33_1 (r51 : List Paragraph) (s91 : Nat × (List (Int × Bool))) : Option ((Nat × (List (Int × Bool))) ⊕ ((List (Int × Bool)))) :=
 if (s91.1 : Int) < (r51.length : Int) then (
  (r51[s91.1]?).bind fun x111 =>
  some (.inl ((s91.1 + 1), (put s91.2 x111.anchor true))))
 else
 some (.inr s91.2)
theorem lm33_1 (r51 : List Paragraph) (s91 : Nat × (List (Int × Bool))) : LeO (T10.E.m33_1 r51 s91) (T10.m33_1 r51 s91) := by
 unfold T10.E.m33_1 T10.m33_1
 repeat' first
  | (with_reducible exact LeO.refl _)
  | (with_reducible refine LeO.loopE (fun _ => ?_) _)
  | (with_reducible refine LeO.sort (fun _ _ => ?_) _)
  | (with_reducible refine LeO.chk ?_)
  | (with_reducible refine LeO.ite ?_ ?_)
  | (with_reducible refine LeO.bindS ?_ (fun _ => ?_) (fun _ => ?_) <;> try dsimp only)
  | (with_reducible refine LeO.bind ?_ fun _ => ?_)
  | (refine LeO.map ?_)
def m33_2 (errata : List Erratum) (s185 : Nat × (List (Int × Bool)) × (List (Int × Bool))) : Option ((Nat × (List (Int × Bool)) × (List (Int × Bool))) ⊕ (((List (Int × Bool)) × (List (Int × Bool))) ⊕ Int)) :=
 if (s185.1 : Int) < (errata.length : Int) then (
  (errata[s185.1]?).bind fun x219 =>
  ((
   if (lkp s185.2.1 x219.number).getD false then (
    some true)
   else
   if x219.kind = 2 then (
    some ((lkp s185.2.2 x219.new_).getD false))
   else
   some false
  ) : Option (Bool)).bind fun t236 =>
  if t236 then (
   some (.inr (.inr 6)))
  else
  ((
   if x219.kind = 2 then (
    some (put s185.2.2 x219.new_ true))
   else
   some s185.2.2
  ) : Option ((List (Int × Bool)))).bind fun t254 =>
  some (.inl ((s185.1 + 1), (put s185.2.1 x219.number true), t254)))
 else
 some (.inr (.inl (s185.2.1, s185.2.2)))
theorem lm33_2 (errata : List Erratum) (s185 : Nat × (List (Int × Bool)) × (List (Int × Bool))) : LeO (T10.E.m33_2 errata s185) (T10.m33_2 errata s185) := by
 unfold T10.E.m33_2 T10.m33_2
 repeat' first
  | (with_reducible exact LeO.refl _)
  | (with_reducible refine LeO.loopE (fun _ => ?_) _)
  | (with_reducible refine LeO.sort (fun _ _ => ?_) _)
  | (with_reducible refine LeO.chk ?_)
  | (with_reducible refine LeO.ite ?_ ?_)
  | (with_reducible refine LeO.bindS ?_ (fun _ => ?_) (fun _ => ?_) <;> try dsimp only)
  | (with_reducible refine LeO.bind ?_ fun _ => ?_)
  | (refine LeO.map ?_)
def m33 (v_0 : Volume) (errata : List Erratum) : Option (Int) :=
 (m27 v_0).bind fun r7 =>
 if r7 ≠ 0 then (
  some r7)
 else
 if 20 < (errata.length : Int) then (
  some 3)
 else
 (m52 errata (m53)).bind fun r40 =>
 if r40 then (
  (m47 v_0).bind fun r51 =>
  (loopE (m33_1 r51) (0, ([] : List (Int × Bool)))).bind fun e88 =>
  (loopE (m33_2 errata) (0, ([] : List (Int × Bool)), e88)).bind fun e181 => match e181 with
  | .inr z => some z
  | .inl t184 =>
  (m54 v_0 errata).bind fun r261 =>
  some r261)
 else
 some 1
theorem lm33 (v_0 : Volume) (errata : List Erratum) : LeO (T10.E.m33 v_0 errata) (T10.m33 v_0 errata) := by
 unfold T10.E.m33 T10.m33
 repeat' first
  | (with_reducible exact LeO.refl _)
  | (with_reducible exact lm27 _)
  | (with_reducible refine lm52 _ (fun _ => ?_))
  | (with_reducible exact lm53 _)
  | (with_reducible exact lm47 _)
  | (with_reducible exact lm33_1 _ _)
  | (with_reducible exact lm33_2 _ _)
  | (with_reducible exact lm54 _ _)
  | (with_reducible refine LeO.loopE (fun _ => ?_) _)
  | (with_reducible refine LeO.sort (fun _ _ => ?_) _)
  | (with_reducible refine LeO.chk ?_)
  | (with_reducible refine LeO.ite ?_ ?_)
  | (with_reducible refine LeO.bindS ?_ (fun _ => ?_) (fun _ => ?_) <;> try dsimp only)
  | (with_reducible refine LeO.bind ?_ fun _ => ?_)
  | (refine LeO.map ?_)
def m41_2 (x81 : List entry) (anchor : Int) (s43 : Nat × Nat × Nat × Bool) (s113 : Nat × Nat × Nat × Bool) : Option ((Nat × Nat × Nat × Bool) ⊕ ((Nat × Nat × Bool) ⊕ ((Nat × Nat × Nat × Bool) ⊕ (Nat × Nat × Bool)))) :=
 if (s113.2.2.1 : Int) < (x81.length : Int) then (
  (x81[s113.2.2.1]?).bind fun x134 =>
  if x134.paragraph.anchor = anchor then (
   Option.map (fun z => .inr (.inr z)) (
   some (.inr (s43.2.2.1, s113.2.2.1, true))))
  else
  some (.inl (s113.1, s113.2.1, (s113.2.2.1 + 1), s113.2.2.2)))
 else
 some (.inr (.inl (s113.1, s113.2.1, s113.2.2.2)))
def m41_1 (b_0 : edition) (anchor : Int) (s43 : Nat × Nat × Nat × Bool) : Option ((Nat × Nat × Nat × Bool) ⊕ (Nat × Nat × Bool)) :=
 if (s43.2.2.1 : Int) < (b_0.parts.length : Int) then (
  (b_0.parts[s43.2.2.1]?).bind fun x81 =>
  (loopE (m41_2 x81 anchor s43) (s43.1, s43.2.1, 0, s43.2.2.2)).bind fun e109 => match e109 with
  | .inr z => some z
  | .inl t112 =>
  some (.inl (t112.1, t112.2.1, (s43.2.2.1 + 1), t112.2.2)))
 else
 some (.inr (s43.1, s43.2.1, s43.2.2.2))
def m41 (b_0 : edition) (anchor : Int) : Option (Int × Int × Bool) :=
 (loopE (m41_1 b_0 anchor) (0, 0, 0, false)).bind fun e40 =>
 some ((e40.1 : Int), (e40.2.1 : Int), e40.2.2)
def m56  : Option (Unit) :=
 some ()
theorem lm56  : LeO (T10.E.m56 ) (T10.m56 ) := by
 unfold T10.E.m56 T10.m56
 repeat' first
  | (with_reducible exact LeO.refl _)
  | (with_reducible refine LeO.loopE (fun _ => ?_) _)
  | (with_reducible refine LeO.sort (fun _ _ => ?_) _)
  | (with_reducible refine LeO.chk ?_)
  | (with_reducible refine LeO.ite ?_ ?_)
  | (with_reducible refine LeO.bindS ?_ (fun _ => ?_) (fun _ => ?_) <;> try dsimp only)
  | (with_reducible refine LeO.bind ?_ fun _ => ?_)
  | (refine LeO.map ?_)
def m35_2 (x559 : Part) (s645 : Nat × List entry) : Option ((Nat × List entry) ⊕ (List entry)) :=
 if (s645.1 : Int) < (x559.paragraphs.length : Int) then (
  (x559.paragraphs[s645.1]?).bind fun x672 =>
  chkE (s645.2.length + 1 ≤ 1073741824) <|
  some (.inl ((s645.1 + 1), (s645.2 ++ [(⟨x672, false⟩ : entry)]))))
 else
 some (.inr s645.2)
theorem lm35_2 (x559 : Part) (s645 : Nat × List entry) : LeO (T10.E.m35_2 x559 s645) (T10.m35_2 x559 s645) := by
 unfold T10.E.m35_2 T10.m35_2
 repeat' first
  | (with_reducible exact LeO.refl _)
  | (with_reducible refine LeO.loopE (fun _ => ?_) _)
  | (with_reducible refine LeO.sort (fun _ _ => ?_) _)
  | (with_reducible refine LeO.chk ?_)
  | (with_reducible refine LeO.ite ?_ ?_)
  | (with_reducible refine LeO.bindS ?_ (fun _ => ?_) (fun _ => ?_) <;> try dsimp only)
  | (with_reducible refine LeO.bind ?_ fun _ => ?_)
  | (refine LeO.map ?_)
def m35_1 (v_0 : Volume) (s446 : Nat × List (List entry)) : Option ((Nat × List (List entry)) ⊕ (List (List entry))) :=
 if (s446.1 : Int) < (v_0.parts.length : Int) then (
  (v_0.parts[s446.1]?).bind fun x559 =>
  (loopE (m35_2 x559) (0, ([] : List entry))).bind fun e640 =>
  chkE (s446.2.length + 1 ≤ 1073741824) <|
  some (.inl ((s446.1 + 1), (s446.2 ++ [e640]))))
 else
 some (.inr s446.2)
theorem lm35_1 (v_0 : Volume) (s446 : Nat × List (List entry)) : LeO (T10.E.m35_1 v_0 s446) (T10.m35_1 v_0 s446) := by
 unfold T10.E.m35_1 T10.m35_1
 repeat' first
  | (with_reducible exact LeO.refl _)
  | (with_reducible exact lm35_2 _ _)
  | (with_reducible refine LeO.loopE (fun _ => ?_) _)
  | (with_reducible refine LeO.sort (fun _ _ => ?_) _)
  | (with_reducible refine LeO.chk ?_)
  | (with_reducible refine LeO.ite ?_ ?_)
  | (with_reducible refine LeO.bindS ?_ (fun _ => ?_) (fun _ => ?_) <;> try dsimp only)
  | (with_reducible refine LeO.bind ?_ fun _ => ?_)
  | (refine LeO.map ?_)
def m35_5 (x3142 : List entry) (x2432 : Erratum) (s3110 : Nat × Nat × Nat × Bool) (s3168 : Nat × Nat × Nat × Bool) : Option ((Nat × Nat × Nat × Bool) ⊕ ((Nat × Nat × Bool) ⊕ ((Nat × Nat × Nat × Bool) ⊕ (Nat × Nat × Bool)))) :=
 if (s3168.2.2.1 : Int) < (x3142.length : Int) then (
  (x3142[s3168.2.2.1]?).bind fun x3185 =>
  if x3185.paragraph.anchor = x2432.anchor then (
   Option.map (fun z => .inr (.inr z)) (
   some (.inr (s3110.2.2.1, s3168.2.2.1, true))))
  else
  chkE (-9223372036854775808 ≤ ((s3168.2.2.1 : Int) + 1) ∧ ((s3168.2.2.1 : Int) + 1) ≤ 9223372036854775807) <|
  some (.inl (s3168.1, s3168.2.1, (s3168.2.2.1 + 1), s3168.2.2.2)))
 else
 some (.inr (.inl (s3168.1, s3168.2.1, s3168.2.2.2)))
theorem lm35_5 (x3142 : List entry) (x2432 : Erratum) (s3110 : Nat × Nat × Nat × Bool) (s3168 : Nat × Nat × Nat × Bool) : LeO (T10.E.m35_5 x3142 x2432 s3110 s3168) (T10.m35_5 x3142 x2432 s3110 s3168) := by
 unfold T10.E.m35_5 T10.m35_5
 repeat' first
  | (with_reducible exact LeO.refl _)
  | (with_reducible refine LeO.loopE (fun _ => ?_) _)
  | (with_reducible refine LeO.sort (fun _ _ => ?_) _)
  | (with_reducible refine LeO.chk ?_)
  | (with_reducible refine LeO.ite ?_ ?_)
  | (with_reducible refine LeO.bindS ?_ (fun _ => ?_) (fun _ => ?_) <;> try dsimp only)
  | (with_reducible refine LeO.bind ?_ fun _ => ?_)
  | (refine LeO.map ?_)
def m35_4 (s2201 : Nat × List (List entry)) (x2432 : Erratum) (s3110 : Nat × Nat × Nat × Bool) : Option ((Nat × Nat × Nat × Bool) ⊕ (Nat × Nat × Bool)) :=
 if (s3110.2.2.1 : Int) < (s2201.2.length : Int) then (
  (s2201.2[s3110.2.2.1]?).bind fun x3142 =>
  (loopE (m35_5 x3142 x2432 s3110) (s3110.1, s3110.2.1, 0, s3110.2.2.2)).bind fun e3164 => match e3164 with
  | .inr z => some z
  | .inl t3167 =>
  chkE (-9223372036854775808 ≤ ((s3110.2.2.1 : Int) + 1) ∧ ((s3110.2.2.1 : Int) + 1) ≤ 9223372036854775807) <|
  some (.inl (t3167.1, t3167.2.1, (s3110.2.2.1 + 1), t3167.2.2)))
 else
 some (.inr (s3110.1, s3110.2.1, s3110.2.2.2))
theorem lm35_4 (s2201 : Nat × List (List entry)) (x2432 : Erratum) (s3110 : Nat × Nat × Nat × Bool) : LeO (T10.E.m35_4 s2201 x2432 s3110) (T10.m35_4 s2201 x2432 s3110) := by
 unfold T10.E.m35_4 T10.m35_4
 repeat' first
  | (with_reducible exact LeO.refl _)
  | (with_reducible exact lm35_5 _ _ _ _)
  | (with_reducible refine LeO.loopE (fun _ => ?_) _)
  | (with_reducible refine LeO.sort (fun _ _ => ?_) _)
  | (with_reducible refine LeO.chk ?_)
  | (with_reducible refine LeO.ite ?_ ?_)
  | (with_reducible refine LeO.bindS ?_ (fun _ => ?_) (fun _ => ?_) <;> try dsimp only)
  | (with_reducible refine LeO.bind ?_ fun _ => ?_)
  | (refine LeO.map ?_)
def m35_3 (t1715 : List Erratum) (l1729 : List Erratum) (to_2 : Int) (s2201 : Nat × List (List entry)) : Option ((Nat × List (List entry)) ⊕ ((List (List entry)) ⊕ (List (List entry)))) :=
 if (s2201.1 : Int) < (t1715.length : Int) then (
  (l1729[s2201.1]?).bind fun x2432 =>
  ((
   if to_2 < x2432.day then (
    some (true, s2201.2))
   else
   ((
    ((
     (loopE (m35_4 s2201 x2432) (0, 0, 0, false)).bind fun e3107 =>
     some (e3107.2.1, e3107.1, e3107.2.2)
    ) : Option (Nat × Nat × Bool)).bind fun t3075 =>
    ((
     if t3075.2.2 then (
      (m56).bind fun r3365 =>
      chkE (0 ≤ x2432.kind) <|
      if x2432.kind = 0 then (
       ((
        (s2201.2[t3075.2.1]?).bind fun x3419 =>
        (x3419[t3075.1]?).bind fun x3427 =>
        ((
         if x3427.removed then (
          some s2201.2)
         else
         some (s2201.2.set t3075.2.1 (x3419.set t3075.1 (⟨(⟨x3427.paragraph.anchor, x2432.text⟩ : Paragraph), x3427.removed⟩ : entry)))
        ) : Option (List (List entry))).bind fun t3435 =>
        some t3435
       ) : Option (List (List entry))).bind fun t3409 =>
       some t3409)
      else
      if x2432.kind = 1 then (
       ((
        (s2201.2[t3075.2.1]?).bind fun x3488 =>
        (x3488[t3075.1]?).bind fun x3496 =>
        some (s2201.2.set t3075.2.1 (x3488.set t3075.1 (⟨x3496.paragraph, true⟩ : entry)))
       ) : Option (List (List entry))).bind fun t3478 =>
       some t3478)
      else
      if x2432.kind = 2 then (
       ((
        (s2201.2[t3075.2.1]?).bind fun x3557 =>
        chkE (-9223372036854775808 ≤ ((t3075.1 : Int) + 1) ∧ ((t3075.1 : Int) + 1) ≤ 9223372036854775807) <|
        chkE (x3557.length + 1 ≤ 1073741824) <|
        chkE (((t3075.1 : Int) + 1).toNat ≤ x3557.length) <|
        some (s2201.2.set t3075.2.1 (x3557.take (((t3075.1 : Int) + 1).toNat) ++ [(⟨(⟨x2432.new_, x2432.text⟩ : Paragraph), false⟩ : entry)] ++ x3557.drop (((t3075.1 : Int) + 1).toNat)))
       ) : Option (List (List entry))).bind fun t3547 =>
       some t3547)
      else
      none)
     else
     some s2201.2
    ) : Option (List (List entry))).bind fun t3356 =>
    some t3356
   ) : Option (List (List entry))).bind fun t2845 =>
   some (false, t2845)
  ) : Option (Bool × List (List entry))).bind fun t2642 =>
  if t2642.1 then (
   some (.inr (.inr t2642.2)))
  else
  some (.inl ((s2201.1 + 1), t2642.2)))
 else
 some (.inr (.inl s2201.2))
theorem lm35_3 (t1715 : List Erratum) (l1729 : List Erratum) (to_2 : Int) (s2201 : Nat × List (List entry)) : LeO (T10.E.m35_3 t1715 l1729 to_2 s2201) (T10.m35_3 t1715 l1729 to_2 s2201) := by
 unfold T10.E.m35_3 T10.m35_3
 repeat' first
  | (with_reducible exact LeO.refl _)
  | (with_reducible exact lm35_4 _ _ _)
  | (with_reducible exact lm56)
  | (with_reducible refine LeO.loopE (fun _ => ?_) _)
  | (with_reducible refine LeO.sort (fun _ _ => ?_) _)
  | (with_reducible refine LeO.chk ?_)
  | (with_reducible refine LeO.ite ?_ ?_)
  | (with_reducible refine LeO.bindS ?_ (fun _ => ?_) (fun _ => ?_) <;> try dsimp only)
  | (with_reducible refine LeO.bind ?_ fun _ => ?_)
  | (refine LeO.map ?_)
def m35 (v_0 : Volume) (errata : List Erratum) (to_2 : Int) : Option (edition) :=
 (loopE (m35_1 v_0) (0, ([] : List (List entry)))).bind fun e437 =>
 ((
  ((
   chkE (([] : List Erratum).length + errata.length ≤ 1073741824) <|
   some (([] : List Erratum) ++ errata)
  ) : Option (List Erratum)).bind fun t1715 =>
  (sortF (m46) t1715).bind fun l1729 =>
  (loopE (m35_3 t1715 l1729 to_2) (0, e437)).bind fun e2193 => match e2193 with
  | .inr z => some z
  | .inl t2196 =>
  some t2196
 ) : Option (List (List entry))).bind fun t1701 =>
 some (⟨v_0, t1701⟩ : edition)
theorem lm35 (v_0 : Volume) (errata : List Erratum) (to_2 : Int) : LeO (T10.E.m35 v_0 errata to_2) (T10.m35 v_0 errata to_2) := by
 unfold T10.E.m35 T10.m35
 repeat' first
  | (with_reducible exact LeO.refl _)
  | (with_reducible exact lm35_1 _ _)
  | (with_reducible exact lm46 _ _)
  | (with_reducible exact lm35_3 _ _ _ _)
  | (with_reducible refine LeO.loopE (fun _ => ?_) _)
  | (with_reducible refine LeO.sort (fun _ _ => ?_) _)
  | (with_reducible refine LeO.chk ?_)
  | (with_reducible refine LeO.ite ?_ ?_)
  | (with_reducible refine LeO.bindS ?_ (fun _ => ?_) (fun _ => ?_) <;> try dsimp only)
  | (with_reducible refine LeO.bind ?_ fun _ => ?_)
  | (refine LeO.map ?_)
def m13_2 (x475 : List entry) (s575 : Nat × List Paragraph) : Option ((Nat × List Paragraph) ⊕ (List Paragraph)) :=
 if (s575.1 : Int) < (x475.length : Int) then (
  (x475[s575.1]?).bind fun x608 =>
  ((
   if x608.removed then (
    some s575.2)
   else
   chkE (s575.2.length + 1 ≤ 1073741824) <|
   some (s575.2 ++ [x608.paragraph])
  ) : Option (List Paragraph)).bind fun t627 =>
  some (.inl ((s575.1 + 1), t627)))
 else
 some (.inr s575.2)
theorem lm13_2 (x475 : List entry) (s575 : Nat × List Paragraph) : LeO (T10.E.m13_2 x475 s575) (T10.m13_2 x475 s575) := by
 unfold T10.E.m13_2 T10.m13_2
 repeat' first
  | (with_reducible exact LeO.refl _)
  | (with_reducible refine LeO.loopE (fun _ => ?_) _)
  | (with_reducible refine LeO.sort (fun _ _ => ?_) _)
  | (with_reducible refine LeO.chk ?_)
  | (with_reducible refine LeO.ite ?_ ?_)
  | (with_reducible refine LeO.bindS ?_ (fun _ => ?_) (fun _ => ?_) <;> try dsimp only)
  | (with_reducible refine LeO.bind ?_ fun _ => ?_)
  | (refine LeO.map ?_)
def m13_1 (r25 : edition) (s366 : Nat × List Paragraph) : Option ((Nat × List Paragraph) ⊕ (List Paragraph)) :=
 if (s366.1 : Int) < (r25.parts.length : Int) then (
  (r25.parts[s366.1]?).bind fun x475 =>
  (loopE (m13_2 x475) (0, s366.2)).bind fun e570 =>
  some (.inl ((s366.1 + 1), e570)))
 else
 some (.inr s366.2)
theorem lm13_1 (r25 : edition) (s366 : Nat × List Paragraph) : LeO (T10.E.m13_1 r25 s366) (T10.m13_1 r25 s366) := by
 unfold T10.E.m13_1 T10.m13_1
 repeat' first
  | (with_reducible exact LeO.refl _)
  | (with_reducible exact lm13_2 _ _)
  | (with_reducible refine LeO.loopE (fun _ => ?_) _)
  | (with_reducible refine LeO.sort (fun _ _ => ?_) _)
  | (with_reducible refine LeO.chk ?_)
  | (with_reducible refine LeO.ite ?_ ?_)
  | (with_reducible refine LeO.bindS ?_ (fun _ => ?_) (fun _ => ?_) <;> try dsimp only)
  | (with_reducible refine LeO.bind ?_ fun _ => ?_)
  | (refine LeO.map ?_)
def m13 (v_0 : Volume) (errata : List Erratum) (to_2 : Int) : Option (List Paragraph × Int) :=
 (m33 v_0 errata).bind fun r7 =>
 if r7 ≠ 0 then (
  some (([] : List Paragraph), r7))
 else
 (m34 to_2).bind fun r16 =>
 if r16 then (
  (m35 v_0 errata to_2).bind fun r25 =>
  (loopE (m13_1 r25) (0, ([] : List Paragraph))).bind fun e361 =>
  some (e361, 0))
 else
 some (([] : List Paragraph), 2)
theorem lm13 (v_0 : Volume) (errata : List Erratum) (to_2 : Int) : LeO (T10.E.m13 v_0 errata to_2) (T10.m13 v_0 errata to_2) := by
 unfold T10.E.m13 T10.m13
 repeat' first
  | (with_reducible exact LeO.refl _)
  | (with_reducible exact lm33 _ _)
  | (with_reducible exact lm34 _)
  | (with_reducible exact lm35 _ _ _)
  | (with_reducible exact lm13_1 _ _)
  | (with_reducible refine LeO.loopE (fun _ => ?_) _)
  | (with_reducible refine LeO.sort (fun _ _ => ?_) _)
  | (with_reducible refine LeO.chk ?_)
  | (with_reducible refine LeO.ite ?_ ?_)
  | (with_reducible refine LeO.bindS ?_ (fun _ => ?_) (fun _ => ?_) <;> try dsimp only)
  | (with_reducible refine LeO.bind ?_ fun _ => ?_)
  | (refine LeO.map ?_)
def m37_2 (x994 : List entry) (v_0 : Volume) (s763 : Nat × Int × List printed) (s1208 : Nat × Nat × Int × List printed) : Option ((Nat × Nat × Int × List printed) ⊕ (Int × List printed)) :=
 if (s1208.2.1 : Int) < (x994.length : Int) then (
  ((
   (x994[s1208.2.1]?).bind fun x1281 =>
   if x1281.removed then (
    some (s1208.1, s1208.2.2.1, s1208.2.2.2))
   else
   chkE (-9223372036854775808 ≤ ((s1208.1 : Int) + 1) ∧ ((s1208.1 : Int) + 1) ≤ 9223372036854775807) <|
   chkE (-9223372036854775808 ≤ ((x1281.paragraph.text.length : Int) + v_0.width) ∧ ((x1281.paragraph.text.length : Int) + v_0.width) ≤ 9223372036854775807) <|
   chkE (-9223372036854775808 ≤ (((x1281.paragraph.text.length : Int) + v_0.width) - 1) ∧ (((x1281.paragraph.text.length : Int) + v_0.width) - 1) ≤ 9223372036854775807) <|
   chkE (0 ≤ (((x1281.paragraph.text.length : Int) + v_0.width) - 1) ∧ (((x1281.paragraph.text.length : Int) + v_0.width) - 1) ≤ 9223372036854775807 ∧ 0 < v_0.width) <|
   chkE (0 ≤ s1208.2.2.1 ∧ s1208.2.2.1 ≤ 9223372036854775807 ∧ 0 < v_0.height) <|
   chkE (-9223372036854775808 ≤ (s763.2.1 + (s1208.2.2.1 / v_0.height)) ∧ (s763.2.1 + (s1208.2.2.1 / v_0.height)) ≤ 9223372036854775807) <|
   chkE (0 ≤ s1208.2.2.1 ∧ 0 < v_0.height) <|
   chkE (-9223372036854775808 ≤ ((s1208.2.2.1 % v_0.height) + 1) ∧ ((s1208.2.2.1 % v_0.height) + 1) ≤ 9223372036854775807) <|
   (v_0.parts[s763.1]?).bind fun x1314 =>
   chkE (s1208.2.2.2.length + ([(⟨(⟨x1281.paragraph.anchor, (s763.2.1 + (s1208.2.2.1 / v_0.height)), ((s1208.2.2.1 % v_0.height) + 1), ((((x1281.paragraph.text.length : Int) + v_0.width) - 1) / v_0.width)⟩ : Place), x1314.day, ((s1208.1 : Int) + 1)⟩ : printed)] : List printed).length ≤ 1073741824) <|
   chkE (-9223372036854775808 ≤ (s1208.2.2.1 + ((((x1281.paragraph.text.length : Int) + v_0.width) - 1) / v_0.width)) ∧ (s1208.2.2.1 + ((((x1281.paragraph.text.length : Int) + v_0.width) - 1) / v_0.width)) ≤ 9223372036854775807) <|
   some ((s1208.1 + 1), (s1208.2.2.1 + ((((x1281.paragraph.text.length : Int) + v_0.width) - 1) / v_0.width)), (s1208.2.2.2 ++ ([(⟨(⟨x1281.paragraph.anchor, (s763.2.1 + (s1208.2.2.1 / v_0.height)), ((s1208.2.2.1 % v_0.height) + 1), ((((x1281.paragraph.text.length : Int) + v_0.width) - 1) / v_0.width)⟩ : Place), x1314.day, ((s1208.1 : Int) + 1)⟩ : printed)] : List printed)))
  ) : Option (Nat × Int × List printed)).bind fun t1276 =>
  some (.inl (t1276.1, (s1208.2.1 + 1), t1276.2.1, t1276.2.2)))
 else
 some (.inr (s1208.2.2.1, s1208.2.2.2))
theorem lm37_2 (x994 : List entry) (v_0 : Volume) (s763 : Nat × Int × List printed) (s1208 : Nat × Nat × Int × List printed) : LeO (T10.E.m37_2 x994 v_0 s763 s1208) (T10.m37_2 x994 v_0 s763 s1208) := by
 unfold T10.E.m37_2 T10.m37_2
 repeat' first
  | (with_reducible exact LeO.refl _)
  | (with_reducible refine LeO.loopE (fun _ => ?_) _)
  | (with_reducible refine LeO.sort (fun _ _ => ?_) _)
  | (with_reducible refine LeO.chk ?_)
  | (with_reducible refine LeO.ite ?_ ?_)
  | (with_reducible refine LeO.bindS ?_ (fun _ => ?_) (fun _ => ?_) <;> try dsimp only)
  | (with_reducible refine LeO.bind ?_ fun _ => ?_)
  | (refine LeO.map ?_)
def m37_1 (r7 : edition) (v_0 : Volume) (s763 : Nat × Int × List printed) : Option ((Nat × Int × List printed) ⊕ (List printed)) :=
 if (s763.1 : Int) < (r7.parts.length : Int) then (
  (r7.parts[s763.1]?).bind fun x994 =>
  (loopE (m37_2 x994 v_0 s763) (0, 0, 0, s763.2.2)).bind fun e1203 =>
  chkE (-9223372036854775808 ≤ (e1203.1 + v_0.height) ∧ (e1203.1 + v_0.height) ≤ 9223372036854775807) <|
  chkE (-9223372036854775808 ≤ ((e1203.1 + v_0.height) - 1) ∧ ((e1203.1 + v_0.height) - 1) ≤ 9223372036854775807) <|
  chkE (0 ≤ ((e1203.1 + v_0.height) - 1) ∧ ((e1203.1 + v_0.height) - 1) ≤ 9223372036854775807 ∧ 0 < v_0.height) <|
  chkE (-9223372036854775808 ≤ (s763.2.1 + (((e1203.1 + v_0.height) - 1) / v_0.height)) ∧ (s763.2.1 + (((e1203.1 + v_0.height) - 1) / v_0.height)) ≤ 9223372036854775807) <|
  some (.inl ((s763.1 + 1), (s763.2.1 + (((e1203.1 + v_0.height) - 1) / v_0.height)), e1203.2)))
 else
 some (.inr s763.2.2)
theorem lm37_1 (r7 : edition) (v_0 : Volume) (s763 : Nat × Int × List printed) : LeO (T10.E.m37_1 r7 v_0 s763) (T10.m37_1 r7 v_0 s763) := by
 unfold T10.E.m37_1 T10.m37_1
 repeat' first
  | (with_reducible exact LeO.refl _)
  | (with_reducible exact lm37_2 _ _ _ _)
  | (with_reducible refine LeO.loopE (fun _ => ?_) _)
  | (with_reducible refine LeO.sort (fun _ _ => ?_) _)
  | (with_reducible refine LeO.chk ?_)
  | (with_reducible refine LeO.ite ?_ ?_)
  | (with_reducible refine LeO.bindS ?_ (fun _ => ?_) (fun _ => ?_) <;> try dsimp only)
  | (with_reducible refine LeO.bind ?_ fun _ => ?_)
  | (refine LeO.map ?_)
def m37 (v_0 : Volume) (errata : List Erratum) : Option (List printed) :=
 (m35 v_0 errata v_0.bound).bind fun r7 =>
 (loopE (m37_1 r7 v_0) (0, 1, ([] : List printed))).bind fun e758 =>
 some e758
theorem lm37 (v_0 : Volume) (errata : List Erratum) : LeO (T10.E.m37 v_0 errata) (T10.m37 v_0 errata) := by
 unfold T10.E.m37 T10.m37
 repeat' first
  | (with_reducible exact LeO.refl _)
  | (with_reducible exact lm35 _ _ _)
  | (with_reducible exact lm37_1 _ _ _)
  | (with_reducible refine LeO.loopE (fun _ => ?_) _)
  | (with_reducible refine LeO.sort (fun _ _ => ?_) _)
  | (with_reducible refine LeO.chk ?_)
  | (with_reducible refine LeO.ite ?_ ?_)
  | (with_reducible refine LeO.bindS ?_ (fun _ => ?_) (fun _ => ?_) <;> try dsimp only)
  | (with_reducible refine LeO.bind ?_ fun _ => ?_)
  | (refine LeO.map ?_)
def m17_1 (r16 : List printed) (s94 : Nat × List Place) : Option ((Nat × List Place) ⊕ (List Place)) :=
 if (s94.1 : Int) < (r16.length : Int) then (
  (r16[s94.1]?).bind fun x121 =>
  chkE (s94.2.length + 1 ≤ 1073741824) <|
  some (.inl ((s94.1 + 1), (s94.2 ++ [x121.place]))))
 else
 some (.inr s94.2)
theorem lm17_1 (r16 : List printed) (s94 : Nat × List Place) : LeO (T10.E.m17_1 r16 s94) (T10.m17_1 r16 s94) := by
 unfold T10.E.m17_1 T10.m17_1
 repeat' first
  | (with_reducible exact LeO.refl _)
  | (with_reducible refine LeO.loopE (fun _ => ?_) _)
  | (with_reducible refine LeO.sort (fun _ _ => ?_) _)
  | (with_reducible refine LeO.chk ?_)
  | (with_reducible refine LeO.ite ?_ ?_)
  | (with_reducible refine LeO.bindS ?_ (fun _ => ?_) (fun _ => ?_) <;> try dsimp only)
  | (with_reducible refine LeO.bind ?_ fun _ => ?_)
  | (refine LeO.map ?_)
def m17 (v_0 : Volume) (errata : List Erratum) : Option (List Place × Int) :=
 (m33 v_0 errata).bind fun r7 =>
 if r7 ≠ 0 then (
  some (([] : List Place), r7))
 else
 (m37 v_0 errata).bind fun r16 =>
 (loopE (m17_1 r16) (0, ([] : List Place))).bind fun e89 =>
 some (e89, 0)
theorem lm17 (v_0 : Volume) (errata : List Erratum) : LeO (T10.E.m17 v_0 errata) (T10.m17 v_0 errata) := by
 unfold T10.E.m17 T10.m17
 repeat' first
  | (with_reducible exact LeO.refl _)
  | (with_reducible exact lm33 _ _)
  | (with_reducible exact lm37 _ _)
  | (with_reducible exact lm17_1 _ _)
  | (with_reducible refine LeO.loopE (fun _ => ?_) _)
  | (with_reducible refine LeO.sort (fun _ _ => ?_) _)
  | (with_reducible refine LeO.chk ?_)
  | (with_reducible refine LeO.ite ?_ ?_)
  | (with_reducible refine LeO.bindS ?_ (fun _ => ?_) (fun _ => ?_) <;> try dsimp only)
  | (with_reducible refine LeO.bind ?_ fun _ => ?_)
  | (refine LeO.map ?_)
def m23_2 (x151 : List entry) (anchor : Int) (s113 : Nat × Nat × Nat × Bool) (s183 : Nat × Nat × Nat × Bool) : Option ((Nat × Nat × Nat × Bool) ⊕ ((Nat × Nat × Bool) ⊕ ((Nat × Nat × Nat × Bool) ⊕ (Nat × Nat × Bool)))) :=
 if (s183.2.2.1 : Int) < (x151.length : Int) then (
  (x151[s183.2.2.1]?).bind fun x204 =>
  if x204.paragraph.anchor = anchor then (
   Option.map (fun z => .inr (.inr z)) (
   some (.inr (s113.2.2.1, s183.2.2.1, true))))
  else
  some (.inl (s183.1, s183.2.1, (s183.2.2.1 + 1), s183.2.2.2)))
 else
 some (.inr (.inl (s183.1, s183.2.1, s183.2.2.2)))
theorem lm23_2 (x151 : List entry) (anchor : Int) (s113 : Nat × Nat × Nat × Bool) (s183 : Nat × Nat × Nat × Bool) : LeO (T10.E.m23_2 x151 anchor s113 s183) (T10.m23_2 x151 anchor s113 s183) := by
 unfold T10.E.m23_2 T10.m23_2
 repeat' first
  | (with_reducible exact LeO.refl _)
  | (with_reducible refine LeO.loopE (fun _ => ?_) _)
  | (with_reducible refine LeO.sort (fun _ _ => ?_) _)
  | (with_reducible refine LeO.chk ?_)
  | (with_reducible refine LeO.ite ?_ ?_)
  | (with_reducible refine LeO.bindS ?_ (fun _ => ?_) (fun _ => ?_) <;> try dsimp only)
  | (with_reducible refine LeO.bind ?_ fun _ => ?_)
  | (refine LeO.map ?_)
def m23_1 (r25 : edition) (anchor : Int) (s113 : Nat × Nat × Nat × Bool) : Option ((Nat × Nat × Nat × Bool) ⊕ (Nat × Nat × Bool)) :=
 if (s113.2.2.1 : Int) < (r25.parts.length : Int) then (
  (r25.parts[s113.2.2.1]?).bind fun x151 =>
  (loopE (m23_2 x151 anchor s113) (s113.1, s113.2.1, 0, s113.2.2.2)).bind fun e179 => match e179 with
  | .inr z => some z
  | .inl t182 =>
  some (.inl (t182.1, t182.2.1, (s113.2.2.1 + 1), t182.2.2)))
 else
 some (.inr (s113.1, s113.2.1, s113.2.2.2))
theorem lm23_1 (r25 : edition) (anchor : Int) (s113 : Nat × Nat × Nat × Bool) : LeO (T10.E.m23_1 r25 anchor s113) (T10.m23_1 r25 anchor s113) := by
 unfold T10.E.m23_1 T10.m23_1
 repeat' first
  | (with_reducible exact LeO.refl _)
  | (with_reducible exact lm23_2 _ _ _ _)
  | (with_reducible refine LeO.loopE (fun _ => ?_) _)
  | (with_reducible refine LeO.sort (fun _ _ => ?_) _)
  | (with_reducible refine LeO.chk ?_)
  | (with_reducible refine LeO.ite ?_ ?_)
  | (with_reducible refine LeO.bindS ?_ (fun _ => ?_) (fun _ => ?_) <;> try dsimp only)
  | (with_reducible refine LeO.bind ?_ fun _ => ?_)
  | (refine LeO.map ?_)
def m23 (v_0 : Volume) (errata : List Erratum) (anchor : Int) (to_3 : Int) : Option (Bytes × Bool × Int) :=
 (m33 v_0 errata).bind fun r7 =>
 if r7 ≠ 0 then (
  some ([], false, r7))
 else
 (m34 to_3).bind fun r16 =>
 if r16 then (
  (m35 v_0 errata to_3).bind fun r25 =>
  ((
   (loopE (m23_1 r25 anchor) (0, 0, 0, false)).bind fun e110 =>
   some (e110.2.1, e110.1, e110.2.2)
  ) : Option (Nat × Nat × Bool)).bind fun t74 =>
  if t74.2.2 then (
   (r25.parts[t74.2.1]?).bind fun x229 =>
   (x229[t74.1]?).bind fun x241 =>
   some (x241.paragraph.text, x241.removed, 0))
  else
  some ([], false, 7))
 else
 some ([], false, 2)
theorem lm23 (v_0 : Volume) (errata : List Erratum) (anchor : Int) (to_3 : Int) : LeO (T10.E.m23 v_0 errata anchor to_3) (T10.m23 v_0 errata anchor to_3) := by
 unfold T10.E.m23 T10.m23
 repeat' first
  | (with_reducible exact LeO.refl _)
  | (with_reducible exact lm33 _ _)
  | (with_reducible exact lm34 _)
  | (with_reducible exact lm35 _ _ _)
  | (with_reducible exact lm23_1 _ _ _)
  | (with_reducible refine LeO.loopE (fun _ => ?_) _)
  | (with_reducible refine LeO.sort (fun _ _ => ?_) _)
  | (with_reducible refine LeO.chk ?_)
  | (with_reducible refine LeO.ite ?_ ?_)
  | (with_reducible refine LeO.bindS ?_ (fun _ => ?_) (fun _ => ?_) <;> try dsimp only)
  | (with_reducible refine LeO.bind ?_ fun _ => ?_)
  | (refine LeO.map ?_)
def m20_1 (r80 : List printed) (anchor : Int) (style : Int) (v_0 : Volume) (s128 : Nat) : Option ((Nat) ⊕ ((Unit) ⊕ (Bytes × Int))) :=
 if (s128 : Int) < (r80.length : Int) then (
  (r80[s128]?).bind fun x170 =>
  if x170.place.anchor ≠ anchor then (
   some (.inl (s128 + 1)))
  else
  if style = 0 then (
   (m38 ([(.s [118, 111, 108, 46, 32] : Any), (.i v_0.number : Any), (.s [44, 32, 99, 111, 108, 46, 32] : Any), (.i x170.place.column : Any), (.s [44, 32, 108, 46, 32] : Any), (.i x170.place.line : Any)] : List Any)).bind fun r254 =>
   some (.inr (.inr (r254, 0))))
  else
  (m38 ([(.s [118, 111, 108, 46, 32] : Any), (.i v_0.number : Any), (.s [44, 32] : Any), (.i x170.day : Any), (.s [44, 32, 112, 97, 114, 46, 32] : Any), (.i x170.number : Any)] : List Any)).bind fun r263 =>
  some (.inr (.inr (r263, 0))))
 else
 some (.inr (.inl ()))
theorem lm20_1 (r80 : List printed) (anchor : Int) (style : Int) (v_0 : Volume) (s128 : Nat) : LeO (T10.E.m20_1 r80 anchor style v_0 s128) (T10.m20_1 r80 anchor style v_0 s128) := by
 unfold T10.E.m20_1 T10.m20_1
 repeat' first
  | (with_reducible exact LeO.refl _)
  | (with_reducible exact lm38 _)
  | (with_reducible refine LeO.loopE (fun _ => ?_) _)
  | (with_reducible refine LeO.sort (fun _ _ => ?_) _)
  | (with_reducible refine LeO.chk ?_)
  | (with_reducible refine LeO.ite ?_ ?_)
  | (with_reducible refine LeO.bindS ?_ (fun _ => ?_) (fun _ => ?_) <;> try dsimp only)
  | (with_reducible refine LeO.bind ?_ fun _ => ?_)
  | (refine LeO.map ?_)
def m20 (v_0 : Volume) (errata : List Erratum) (anchor : Int) (style : Int) (to_4 : Int) : Option (Bytes × Int) :=
 (m33 v_0 errata).bind fun r7 =>
 if r7 ≠ 0 then (
  some ([], r7))
 else
 ((
  if 2 < style then (
   some true)
  else
  if style = 2 then (
   (m34 to_4).bind fun r33 =>
   some (!r33))
  else
  some false
 ) : Option (Bool)).bind fun t25 =>
 if t25 then (
  some ([], 2))
 else
 if style = 2 then (
  (m23 v_0 errata anchor to_4).bind fun r62 =>
  if r62.2.2 ≠ 0 then (
   some ([], r62.2.2))
  else
  (m38 ([(.i anchor : Any), (.s [64] : Any), (.i to_4 : Any)] : List Any)).bind fun r76 =>
  some (r76, 0))
 else
 (m37 v_0 errata).bind fun r80 =>
 (loopE (m20_1 r80 anchor style v_0) 0).bind fun e124 => match e124 with
 | .inr z => some z
 | .inl t127 =>
 some ([], 7)
theorem lm20 (v_0 : Volume) (errata : List Erratum) (anchor : Int) (style : Int) (to_4 : Int) : LeO (T10.E.m20 v_0 errata anchor style to_4) (T10.m20 v_0 errata anchor style to_4) := by
 unfold T10.E.m20 T10.m20
 repeat' first
  | (with_reducible exact LeO.refl _)
  | (with_reducible exact lm33 _ _)
  | (with_reducible exact lm34 _)
  | (with_reducible exact lm23 _ _ _ _)
  | (with_reducible exact lm38 _)
  | (with_reducible exact lm37 _ _)
  | (with_reducible exact lm20_1 _ _ _ _ _)
  | (with_reducible refine LeO.loopE (fun _ => ?_) _)
  | (with_reducible refine LeO.sort (fun _ _ => ?_) _)
  | (with_reducible refine LeO.chk ?_)
  | (with_reducible refine LeO.ite ?_ ?_)
  | (with_reducible refine LeO.bindS ?_ (fun _ => ?_) (fun _ => ?_) <;> try dsimp only)
  | (with_reducible refine LeO.bind ?_ fun _ => ?_)
  | (refine LeO.map ?_)
def m61 (cite : Bytes) : Option (cited ⊕ Unit) :=
 (m88 cite [118, 111, 108, 46, 32]).bind fun r6 =>
 ((
  if r6.2 then (
   (m89 cite [99, 111, 108, 46, 32]).bind fun r658 =>
   ((
    if r658 then (
     ((
      (m86 r6.1 [44, 32, 99, 111, 108, 46, 32]).bind fun r882 =>
      if r882.2.2 then (
       (m87 r882.1).bind fun r891 =>
       ((
        if r891.2 then (
         some true)
        else
        (m58 r891.1).bind fun r915 =>
        if r915 ≠ r882.1 then (
         some true)
        else
        (m40 r891.1 0 999999).bind fun r921 =>
        some (!r921)
       ) : Option (Bool)).bind fun t909 =>
       if t909 then (
        some (.inr (.inr (.inr (.inr ())))))
       else
       some (.inl (r891.1, r882.2.1)))
      else
      some (.inr (.inr (.inr (.inr ()))))
     ) : Option ((Int × Bytes) ⊕ ((Int × Int × Int × Int × Bytes) ⊕ ((Int × Int × Int × Int × Bytes) ⊕ (cited ⊕ Unit))))).bind fun t878 => match t878 with
     | .inr z => some z
     | .inl t881 =>
     ((
      (m86 t881.2 [44, 32, 108, 46, 32]).bind fun r962 =>
      if r962.2.2 then (
       (m87 r962.1).bind fun r971 =>
       ((
        if r971.2 then (
         some true)
        else
        (m58 r971.1).bind fun r995 =>
        if r995 ≠ r962.1 then (
         some true)
        else
        (m40 r971.1 0 999999).bind fun r1001 =>
        some (!r1001)
       ) : Option (Bool)).bind fun t989 =>
       if t989 then (
        some (.inr (.inr (.inr (.inr ())))))
       else
       some (.inl (r971.1, r962.2.1)))
      else
      some (.inr (.inr (.inr (.inr ()))))
     ) : Option ((Int × Bytes) ⊕ ((Int × Int × Int × Int × Bytes) ⊕ ((Int × Int × Int × Int × Bytes) ⊕ (cited ⊕ Unit))))).bind fun t958 => match t958 with
     | .inr z => some z
     | .inl t961 =>
     ((
      (m87 t961.2).bind fun r1036 =>
      ((
       if r1036.2 then (
        some true)
       else
       (m58 r1036.1).bind fun r1060 =>
       if r1060 ≠ t961.2 then (
        some true)
       else
       (m40 r1036.1 0 999999).bind fun r1066 =>
       some (!r1066)
      ) : Option (Bool)).bind fun t1054 =>
      if t1054 then (
       some (.inr (.inr (.inr (.inr ())))))
      else
      some (.inl r1036.1)
     ) : Option ((Int) ⊕ ((Int × Int × Int × Int × Bytes) ⊕ ((Int × Int × Int × Int × Bytes) ⊕ (cited ⊕ Unit))))).bind fun t1032 => match t1032 with
     | .inr z => some z
     | .inl t1035 =>
     some (.inl (0, t881.1, t961.1, t1035, t961.2)))
    else
    ((
     (m86 r6.1 [44, 32]).bind fun r1108 =>
     if r1108.2.2 then (
      (m87 r1108.1).bind fun r1117 =>
      ((
       if r1117.2 then (
        some true)
       else
       (m58 r1117.1).bind fun r1141 =>
       if r1141 ≠ r1108.1 then (
        some true)
       else
       (m40 r1117.1 0 999999).bind fun r1147 =>
       some (!r1147)
      ) : Option (Bool)).bind fun t1135 =>
      if t1135 then (
       some (.inr (.inr (.inr (.inr ())))))
      else
      some (.inl (r1117.1, r1108.2.1)))
     else
     some (.inr (.inr (.inr (.inr ()))))
    ) : Option ((Int × Bytes) ⊕ ((Int × Int × Int × Int × Bytes) ⊕ ((Int × Int × Int × Int × Bytes) ⊕ (cited ⊕ Unit))))).bind fun t1104 => match t1104 with
    | .inr z => some z
    | .inl t1107 =>
    ((
     (m86 t1107.2 [44, 32, 112, 97, 114, 46, 32]).bind fun r1188 =>
     if r1188.2.2 then (
      (m87 r1188.1).bind fun r1197 =>
      ((
       if r1197.2 then (
        some true)
       else
       (m58 r1197.1).bind fun r1221 =>
       if r1221 ≠ r1188.1 then (
        some true)
       else
       (m40 r1197.1 0 999999).bind fun r1227 =>
       some (!r1227)
      ) : Option (Bool)).bind fun t1215 =>
      if t1215 then (
       some (.inr (.inr (.inr (.inr ())))))
      else
      some (.inl (r1197.1, r1188.2.1)))
     else
     some (.inr (.inr (.inr (.inr ()))))
    ) : Option ((Int × Bytes) ⊕ ((Int × Int × Int × Int × Bytes) ⊕ ((Int × Int × Int × Int × Bytes) ⊕ (cited ⊕ Unit))))).bind fun t1184 => match t1184 with
    | .inr z => some z
    | .inl t1187 =>
    ((
     (m87 t1187.2).bind fun r1262 =>
     ((
      if r1262.2 then (
       some true)
      else
      (m58 r1262.1).bind fun r1286 =>
      if r1286 ≠ t1187.2 then (
       some true)
      else
      (m40 r1262.1 0 999999).bind fun r1292 =>
      some (!r1292)
     ) : Option (Bool)).bind fun t1280 =>
     if t1280 then (
      some (.inr (.inr (.inr (.inr ())))))
     else
     some (.inl r1262.1)
    ) : Option ((Int) ⊕ ((Int × Int × Int × Int × Bytes) ⊕ ((Int × Int × Int × Int × Bytes) ⊕ (cited ⊕ Unit))))).bind fun t1258 => match t1258 with
    | .inr z => some z
    | .inl t1261 =>
    some (.inl (1, t1107.1, t1187.1, t1261, t1187.2))
   ) : Option ((Int × Int × Int × Int × Bytes) ⊕ ((Int × Int × Int × Int × Bytes) ⊕ (cited ⊕ Unit)))).bind fun t844 => match t844 with
   | .inr z => some z
   | .inl t847 =>
   some (.inl (t847.1, t847.2.1, t847.2.2.1, t847.2.2.2.1, t847.2.2.2.2)))
  else
  ((
   (m86 cite [64]).bind fun r544 =>
   if r544.2.2 then (
    (m87 r544.1).bind fun r553 =>
    ((
     if r553.2 then (
      some true)
     else
     (m58 r553.1).bind fun r577 =>
     if r577 ≠ r544.1 then (
      some true)
     else
     (m40 r553.1 0 999999).bind fun r583 =>
     some (!r583)
    ) : Option (Bool)).bind fun t571 =>
    if t571 then (
     some (.inr (.inr (.inr ()))))
    else
    some (.inl (r553.1, r544.2.1)))
   else
   some (.inr (.inr (.inr ())))
  ) : Option ((Int × Bytes) ⊕ ((Int × Int × Int × Int × Bytes) ⊕ (cited ⊕ Unit)))).bind fun t540 => match t540 with
  | .inr z => some z
  | .inl t543 =>
  ((
   (m87 t543.2).bind fun r618 =>
   ((
    if r618.2 then (
     some true)
    else
    (m58 r618.1).bind fun r642 =>
    if r642 ≠ t543.2 then (
     some true)
    else
    (m40 r618.1 0 999999).bind fun r648 =>
    some (!r648)
   ) : Option (Bool)).bind fun t636 =>
   if t636 then (
    some (.inr (.inr (.inr ()))))
   else
   some (.inl r618.1)
  ) : Option ((Int) ⊕ ((Int × Int × Int × Int × Bytes) ⊕ (cited ⊕ Unit)))).bind fun t614 => match t614 with
  | .inr z => some z
  | .inl t617 =>
  some (.inl (2, t543.1, t617, 0, t543.2))
 ) : Option ((Int × Int × Int × Int × Bytes) ⊕ (cited ⊕ Unit))).bind fun t506 => match t506 with
 | .inr z => some z
 | .inl t509 =>
 ((
  if t509.1 ≠ 0 then (
   (m34 t509.2.2.1).bind fun r1312 =>
   some (!r1312))
  else
  some false
 ) : Option (Bool)).bind fun t1307 =>
 if t1307 then (
  some (.inr ()))
 else
 some (.inl (⟨t509.1, (⟨t509.2.1, t509.2.2.1, t509.2.2.2.1⟩ : A3_Int)⟩ : cited))
theorem lm61 (cite : Bytes) : LeO (T10.E.m61 cite) (T10.m61 cite) := by
 unfold T10.E.m61 T10.m61
 repeat' first
  | (with_reducible exact LeO.refl _)
  | (with_reducible exact lm88 _ _)
  | (with_reducible exact lm89 _ _)
  | (with_reducible exact lm86 _ _)
  | (with_reducible exact lm87 _)
  | (with_reducible exact lm58 _)
  | (with_reducible exact lm40 _ _ _)
  | (with_reducible exact lm34 _)
  | (with_reducible refine LeO.loopE (fun _ => ?_) _)
  | (with_reducible refine LeO.sort (fun _ _ => ?_) _)
  | (with_reducible refine LeO.chk ?_)
  | (with_reducible refine LeO.ite ?_ ?_)
  | (with_reducible refine LeO.bindS ?_ (fun _ => ?_) (fun _ => ?_) <;> try dsimp only)
  | (with_reducible refine LeO.bind ?_ fun _ => ?_)
  | (refine LeO.map ?_)
def m39 (s : Bytes) : Option (cited × Bool) := (m61 s).map fun o => match o with
 | .inl c => (c, true)
 | .inr _ => (⟨0, ⟨0, 0, 0⟩⟩, false)
theorem lm39 (s : Bytes) : LeO (T10.E.m39 s) (T10.m39 s) := by
 unfold T10.E.m39 T10.m39
 repeat' first
  | (with_reducible exact LeO.refl _)
  | (with_reducible exact lm61 _)
  | (with_reducible refine LeO.loopE (fun _ => ?_) _)
  | (with_reducible refine LeO.sort (fun _ _ => ?_) _)
  | (with_reducible refine LeO.chk ?_)
  | (with_reducible refine LeO.ite ?_ ?_)
  | (with_reducible refine LeO.bindS ?_ (fun _ => ?_) (fun _ => ?_) <;> try dsimp only)
  | (with_reducible refine LeO.bind ?_ fun _ => ?_)
  | (refine LeO.map ?_)
def m21_1 (r54 : List printed) (r16 : cited × Bool) (v_0 : Volume) (s116 : Nat) : Option ((Nat) ⊕ ((Unit) ⊕ (Int × Int × Int))) :=
 if (s116 : Int) < (r54.length : Int) then (
  (r54[s116]?).bind fun x172 =>
  chkE (-9223372036854775808 ≤ (r16.1.numbers.e1 - x172.place.column) ∧ (r16.1.numbers.e1 - x172.place.column) ≤ 9223372036854775807) <|
  chkE (-9223372036854775808 ≤ ((r16.1.numbers.e1 - x172.place.column) * v_0.height) ∧ ((r16.1.numbers.e1 - x172.place.column) * v_0.height) ≤ 9223372036854775807) <|
  chkE (-9223372036854775808 ≤ (((r16.1.numbers.e1 - x172.place.column) * v_0.height) + r16.1.numbers.e2) ∧ (((r16.1.numbers.e1 - x172.place.column) * v_0.height) + r16.1.numbers.e2) ≤ 9223372036854775807) <|
  chkE (-9223372036854775808 ≤ ((((r16.1.numbers.e1 - x172.place.column) * v_0.height) + r16.1.numbers.e2) - x172.place.line) ∧ ((((r16.1.numbers.e1 - x172.place.column) * v_0.height) + r16.1.numbers.e2) - x172.place.line) ≤ 9223372036854775807) <|
  ((
   if x172.day = r16.1.numbers.e1 then (
    some (decide (x172.number = r16.1.numbers.e2)))
   else
   some false
  ) : Option (Bool)).bind fun t194 =>
  ((
   if r16.1.style = 0 then (
    ((
     (m40 r16.1.numbers.e2 1 v_0.height).bind fun r234 =>
     if r234 then (
      chkE (-9223372036854775808 ≤ (x172.place.lines - 1) ∧ (x172.place.lines - 1) ≤ 9223372036854775807) <|
      (m40 ((((r16.1.numbers.e1 - x172.place.column) * v_0.height) + r16.1.numbers.e2) - x172.place.line) 0 (x172.place.lines - 1)).bind fun r241 =>
      some r241)
     else
     some false
    ) : Option (Bool)).bind fun t231 =>
    some t231)
   else
   some t194
  ) : Option (Bool)).bind fun t215 =>
  ((
   if t215 then (
    some (decide (r16.1.numbers.e0 = v_0.number)))
   else
   some false
  ) : Option (Bool)).bind fun t249 =>
  if t249 then (
   some (.inr (.inr (x172.place.anchor, v_0.bound, 0))))
  else
  some (.inl (s116 + 1)))
 else
 some (.inr (.inl ()))
theorem lm21_1 (r54 : List printed) (r16 : cited × Bool) (v_0 : Volume) (s116 : Nat) : LeO (T10.E.m21_1 r54 r16 v_0 s116) (T10.m21_1 r54 r16 v_0 s116) := by
 unfold T10.E.m21_1 T10.m21_1
 repeat' first
  | (with_reducible exact LeO.refl _)
  | (with_reducible exact lm40 _ _ _)
  | (with_reducible refine LeO.loopE (fun _ => ?_) _)
  | (with_reducible refine LeO.sort (fun _ _ => ?_) _)
  | (with_reducible refine LeO.chk ?_)
  | (with_reducible refine LeO.ite ?_ ?_)
  | (with_reducible refine LeO.bindS ?_ (fun _ => ?_) (fun _ => ?_) <;> try dsimp only)
  | (with_reducible refine LeO.bind ?_ fun _ => ?_)
  | (refine LeO.map ?_)
def m21 (v_0 : Volume) (errata : List Erratum) (cite : Bytes) : Option (Int × Int × Int) :=
 (m33 v_0 errata).bind fun r7 =>
 if r7 ≠ 0 then (
  some (0, 0, r7))
 else
 (m39 cite).bind fun r16 =>
 if r16.2 then (
  if r16.1.style = 2 then (
   (m23 v_0 errata r16.1.numbers.e0 r16.1.numbers.e1).bind fun r43 =>
   if r43.2.2 ≠ 0 then (
    some (0, 0, r43.2.2))
   else
   some (r16.1.numbers.e0, r16.1.numbers.e1, 0))
  else
  (m37 v_0 errata).bind fun r54 =>
  (loopE (m21_1 r54 r16 v_0) 0).bind fun e112 => match e112 with
  | .inr z => some z
  | .inl t115 =>
  some (0, 0, 7))
 else
 some (0, 0, 4)
theorem lm21 (v_0 : Volume) (errata : List Erratum) (cite : Bytes) : LeO (T10.E.m21 v_0 errata cite) (T10.m21 v_0 errata cite) := by
 unfold T10.E.m21 T10.m21
 repeat' first
  | (with_reducible exact LeO.refl _)
  | (with_reducible exact lm33 _ _)
  | (with_reducible exact lm39 _)
  | (with_reducible exact lm23 _ _ _ _)
  | (with_reducible exact lm37 _ _)
  | (with_reducible exact lm21_1 _ _ _ _)
  | (with_reducible refine LeO.loopE (fun _ => ?_) _)
  | (with_reducible refine LeO.sort (fun _ _ => ?_) _)
  | (with_reducible refine LeO.chk ?_)
  | (with_reducible refine LeO.ite ?_ ?_)
  | (with_reducible refine LeO.bindS ?_ (fun _ => ?_) (fun _ => ?_) <;> try dsimp only)
  | (with_reducible refine LeO.bind ?_ fun _ => ?_)
  | (refine LeO.map ?_)
def m16_1 (a_0 : List Paragraph) (b_1 : List Paragraph) (s35 : Nat) : Option ((Nat) ⊕ ((Unit) ⊕ Bool)) :=
 if (s35 : Int) < (a_0.length : Int) then (
  (a_0[s35]?).bind fun x64 =>
  (b_1[s35]?).bind fun x72 =>
  if x64 = x72 then (
   some (.inl (s35 + 1)))
  else
  some (.inr (.inr false)))
 else
 some (.inr (.inl ()))
theorem lm16_1 (a_0 : List Paragraph) (b_1 : List Paragraph) (s35 : Nat) : LeO (T10.E.m16_1 a_0 b_1 s35) (T10.m16_1 a_0 b_1 s35) := by
 unfold T10.E.m16_1 T10.m16_1
 repeat' first
  | (with_reducible exact LeO.refl _)
  | (with_reducible refine LeO.loopE (fun _ => ?_) _)
  | (with_reducible refine LeO.sort (fun _ _ => ?_) _)
  | (with_reducible refine LeO.chk ?_)
  | (with_reducible refine LeO.ite ?_ ?_)
  | (with_reducible refine LeO.bindS ?_ (fun _ => ?_) (fun _ => ?_) <;> try dsimp only)
  | (with_reducible refine LeO.bind ?_ fun _ => ?_)
  | (refine LeO.map ?_)
def m16 (a_0 : List Paragraph) (b_1 : List Paragraph) : Option (Bool) :=
 if (a_0.length : Int) ≠ (b_1.length : Int) then (
  some false)
 else
 (loopE (m16_1 a_0 b_1) 0).bind fun e31 => match e31 with
 | .inr z => some z
 | .inl t34 =>
 some true
theorem lm16 (a_0 : List Paragraph) (b_1 : List Paragraph) : LeO (T10.E.m16 a_0 b_1) (T10.m16 a_0 b_1) := by
 unfold T10.E.m16 T10.m16
 repeat' first
  | (with_reducible exact LeO.refl _)
  | (with_reducible exact lm16_1 _ _ _)
  | (with_reducible refine LeO.loopE (fun _ => ?_) _)
  | (with_reducible refine LeO.sort (fun _ _ => ?_) _)
  | (with_reducible refine LeO.chk ?_)
  | (with_reducible refine LeO.ite ?_ ?_)
  | (with_reducible refine LeO.bindS ?_ (fun _ => ?_) (fun _ => ?_) <;> try dsimp only)
  | (with_reducible refine LeO.bind ?_ fun _ => ?_)
  | (refine LeO.map ?_)
def m18_1 (a_0 : List Place) (b_1 : List Place) (s35 : Nat) : Option ((Nat) ⊕ ((Unit) ⊕ Bool)) :=
 if (s35 : Int) < (a_0.length : Int) then (
  (a_0[s35]?).bind fun x64 =>
  (b_1[s35]?).bind fun x72 =>
  if x64 = x72 then (
   some (.inl (s35 + 1)))
  else
  some (.inr (.inr false)))
 else
 some (.inr (.inl ()))
theorem lm18_1 (a_0 : List Place) (b_1 : List Place) (s35 : Nat) : LeO (T10.E.m18_1 a_0 b_1 s35) (T10.m18_1 a_0 b_1 s35) := by
 unfold T10.E.m18_1 T10.m18_1
 repeat' first
  | (with_reducible exact LeO.refl _)
  | (with_reducible refine LeO.loopE (fun _ => ?_) _)
  | (with_reducible refine LeO.sort (fun _ _ => ?_) _)
  | (with_reducible refine LeO.chk ?_)
  | (with_reducible refine LeO.ite ?_ ?_)
  | (with_reducible refine LeO.bindS ?_ (fun _ => ?_) (fun _ => ?_) <;> try dsimp only)
  | (with_reducible refine LeO.bind ?_ fun _ => ?_)
  | (refine LeO.map ?_)
def m18 (a_0 : List Place) (b_1 : List Place) : Option (Bool) :=
 if (a_0.length : Int) ≠ (b_1.length : Int) then (
  some false)
 else
 (loopE (m18_1 a_0 b_1) 0).bind fun e31 => match e31 with
 | .inr z => some z
 | .inl t34 =>
 some true
theorem lm18 (a_0 : List Place) (b_1 : List Place) : LeO (T10.E.m18 a_0 b_1) (T10.m18 a_0 b_1) := by
 unfold T10.E.m18 T10.m18
 repeat' first
  | (with_reducible exact LeO.refl _)
  | (with_reducible exact lm18_1 _ _ _)
  | (with_reducible refine LeO.loopE (fun _ => ?_) _)
  | (with_reducible refine LeO.sort (fun _ _ => ?_) _)
  | (with_reducible refine LeO.chk ?_)
  | (with_reducible refine LeO.ite ?_ ?_)
  | (with_reducible refine LeO.bindS ?_ (fun _ => ?_) (fun _ => ?_) <;> try dsimp only)
  | (with_reducible refine LeO.bind ?_ fun _ => ?_)
  | (refine LeO.map ?_)
def m12  : Option (Bool) :=
 (m25).bind fun r1 =>
 (m13 r1.1 r1.2 60).bind fun r17 =>
 (m17 r1.1 r1.2).bind fun r24 =>
 (m20 r1.1 r1.2 12 0 0).bind fun r31 =>
 (m20 r1.1 r1.2 12 1 0).bind fun r34 =>
 (m21 r1.1 r1.2 [118, 111, 108, 46, 32, 51, 44, 32, 99, 111, 108, 46, 32, 49, 44, 32, 108, 46, 32, 51]).bind fun r37 =>
 ((
  if r17.2 = 0 then (
   if r24.2 = 0 then (
    if r31.2 = 0 then (
     if r34.2 = 0 then (
      if r37.2.2 = 0 then (
       (m16 r17.1 ([(⟨20, [84, 104, 101, 32, 83, 112, 101, 97, 107, 101, 114, 32, 116, 111, 111, 107, 32, 116, 104, 101, 32, 99, 104, 97, 105, 114, 46]⟩ : Paragraph), (⟨12, [80, 114, 97, 121, 101, 114, 115, 32, 119, 101, 114, 101, 32, 115, 97, 105, 100, 46]⟩ : Paragraph), (⟨15, [65, 32, 98, 105, 108, 108, 32, 119, 97, 115, 32, 114, 101, 97, 100, 46]⟩ : Paragraph)] : List Paragraph)).bind fun r104 =>
       if r104 then (
        (m18 r24.1 ([(⟨11, 1, 1, 3⟩ : Place), (⟨12, 2, 1, 2⟩ : Place), (⟨15, 3, 1, 2⟩ : Place)] : List Place)).bind fun r114 =>
        if r114 then (
         if r31.1 = [118, 111, 108, 46, 32, 51, 44, 32, 99, 111, 108, 46, 32, 50, 44, 32, 108, 46, 32, 49] then (
          if r34.1 = [118, 111, 108, 46, 32, 51, 44, 32, 52, 48, 44, 32, 112, 97, 114, 46, 32, 50] then (
           if r37.1 = 11 then (
            some (decide (r37.2.1 = 50)))
           else
           some false)
          else
          some false)
         else
         some false)
        else
        some false)
       else
       some false)
      else
      some false)
     else
     some false)
    else
    some false)
   else
   some false)
  else
  some false
 ) : Option (Bool)).bind fun t86 =>
 some t86
theorem lm12  : LeO (T10.E.m12 ) (T10.m12 ) := by
 unfold T10.E.m12 T10.m12
 repeat' first
  | (with_reducible exact LeO.refl _)
  | (with_reducible exact lm25)
  | (with_reducible exact lm13 _ _ _)
  | (with_reducible exact lm17 _ _)
  | (with_reducible exact lm20 _ _ _ _ _)
  | (with_reducible exact lm21 _ _ _)
  | (with_reducible exact lm16 _ _)
  | (with_reducible exact lm18 _ _)
  | (with_reducible refine LeO.loopE (fun _ => ?_) _)
  | (with_reducible refine LeO.sort (fun _ _ => ?_) _)
  | (with_reducible refine LeO.chk ?_)
  | (with_reducible refine LeO.ite ?_ ?_)
  | (with_reducible refine LeO.bindS ?_ (fun _ => ?_) (fun _ => ?_) <;> try dsimp only)
  | (with_reducible refine LeO.bind ?_ fun _ => ?_)
  | (refine LeO.map ?_)
def m36 (x_0 : Erratum) : Option (Erratum) :=
 some x_0
def m15_1 (l_0 : List Erratum) (s72 : Nat × List Erratum) : Option ((Nat × List Erratum) ⊕ (List Erratum)) :=
 if (s72.1 : Int) < (l_0.length : Int) then (
  (l_0[s72.1]?).bind fun x99 =>
  (m36 x99).bind fun r107 =>
  chkE (s72.2.length + 1 ≤ 1073741824) <|
  some (.inl ((s72.1 + 1), (s72.2 ++ [r107]))))
 else
 some (.inr s72.2)
def m15 (l_0 : List Erratum) : Option (List Erratum) :=
 (loopE (m15_1 l_0) (0, ([] : List Erratum))).bind fun e67 =>
 some e67
def m29_2  (s374 : Int × List Erratum) : Option ((Int × List Erratum) ⊕ (List Erratum)) :=
 ((
  if 0 < s374.1 then (
   (s374.2[s374.1.toNat]?).bind fun x401 =>
   chkE (-9223372036854775808 ≤ (s374.1 - 1) ∧ (s374.1 - 1) ≤ 9223372036854775807) <|
   (s374.2[(s374.1 - 1).toNat]?).bind fun x407 =>
   (m49 x401 x407).bind fun r411 =>
   some r411)
  else
  some false
 ) : Option (Bool)).bind fun t396 =>
 if t396 then (
  chkE (-9223372036854775808 ≤ (s374.1 - 1) ∧ (s374.1 - 1) ≤ 9223372036854775807) <|
  chkE (0 ≤ (s374.1 - 1)) <|
  (s374.2[(s374.1 - 1).toNat]?).bind fun x444 =>
  chkE (0 ≤ s374.1) <|
  (s374.2[s374.1.toNat]?).bind fun x450 =>
  ((s374.2.set s374.1.toNat x444)[(s374.1 - 1).toNat]?).bind fun x455 =>
  some (.inl ((s374.1 - 1), ((s374.2.set s374.1.toNat x444).set ((s374.1 - 1).toNat) x450))))
 else
 some (.inr s374.2)
def m29_1 (l_0 : List Erratum) (s190 : Nat × List Erratum) : Option ((Nat × List Erratum) ⊕ (List Erratum)) :=
 if (s190.1 : Int) < ((([] : List Erratum) ++ l_0).length : Int) then (
  (loopE m29_2 ((s190.1 : Int), s190.2)).bind fun e370 =>
  some (.inl ((s190.1 + 1), e370)))
 else
 some (.inr s190.2)
def m29 (l_0 : List Erratum) : Option (List Erratum) :=
 chkE (([] : List Erratum).length + l_0.length ≤ 1073741824) <|
 (loopE (m29_1 l_0) (1, (([] : List Erratum) ++ l_0))).bind fun e186 =>
 some e186
def m19_2 (v_0 : Volume) (s316 : Nat × List Entry) (s519 : Nat × List Entry) : Option ((Nat × List Entry) ⊕ (List Entry)) :=
 (v_0.parts[s316.1]?).bind fun x525 =>
 if (s519.1 : Int) < (x525.paragraphs.length : Int) then (
  (x525.paragraphs[s519.1]?).bind fun x555 =>
  chkE (s519.2.length + 1 ≤ 1073741824) <|
  some (.inl ((s519.1 + 1), (s519.2 ++ [(⟨x555, (s316.1 : Int), false⟩ : Entry)]))))
 else
 some (.inr s519.2)
def m19_1 (v_0 : Volume) (s316 : Nat × List Entry) : Option ((Nat × List Entry) ⊕ (List Entry)) :=
 if (s316.1 : Int) < (v_0.parts.length : Int) then (
  (loopE (m19_2 v_0 s316) (0, s316.2)).bind fun e514 =>
  some (.inl ((s316.1 + 1), e514)))
 else
 some (.inr s316.2)
def m19_4 (s970 : Nat × List Entry) (x1184 : Erratum) (s1362 : Nat × List Entry) : Option ((Nat × List Entry) ⊕ (List Entry)) :=
 if (s1362.1 : Int) < (s970.2.length : Int) then (
  (s970.2[s1362.1]?).bind fun x1421 =>
  ((
   if x1421.paragraph.anchor = x1184.anchor then (
    if x1184.kind = 0 then (
     some (!x1421.removed))
    else
    some false)
   else
   some false
  ) : Option (Bool)).bind fun t1436 =>
  ((
   if t1436 then (
    some x1184.text)
   else
   some x1421.paragraph.text
  ) : Option (Bytes)).bind fun t1448 =>
  ((
   if x1421.paragraph.anchor = x1184.anchor then (
    some (decide (x1184.kind = 1)))
   else
   some false
  ) : Option (Bool)).bind fun t1457 =>
  ((
   if t1457 then (
    some true)
   else
   some x1421.removed
  ) : Option (Bool)).bind fun t1466 =>
  chkE (s1362.2.length + 1 ≤ 1073741824) <|
  ((
   if x1421.paragraph.anchor = x1184.anchor then (
    some (decide (x1184.kind = 2)))
   else
   some false
  ) : Option (Bool)).bind fun t1480 =>
  ((
   if t1480 then (
    chkE ((s1362.2 ++ [(⟨(⟨x1421.paragraph.anchor, t1448⟩ : Paragraph), x1421.part, t1466⟩ : Entry)]).length + 1 ≤ 1073741824) <|
    some ((s1362.2 ++ [(⟨(⟨x1421.paragraph.anchor, t1448⟩ : Paragraph), x1421.part, t1466⟩ : Entry)]) ++ [(⟨(⟨x1184.new_, x1184.text⟩ : Paragraph), x1421.part, false⟩ : Entry)]))
   else
   some (s1362.2 ++ [(⟨(⟨x1421.paragraph.anchor, t1448⟩ : Paragraph), x1421.part, t1466⟩ : Entry)])
  ) : Option (List Entry)).bind fun t1494 =>
  some (.inl ((s1362.1 + 1), t1494)))
 else
 some (.inr s1362.2)
def m19_3 (r570 : List Erratum) (day : Int) (s970 : Nat × List Entry) : Option ((Nat × List Entry) ⊕ (List Entry)) :=
 ((
  if (s970.1 : Int) < (r570.length : Int) then (
   (r570[s970.1]?).bind fun x994 =>
   some (decide (x994.day ≤ day)))
  else
  some false
 ) : Option (Bool)).bind fun t989 =>
 if t989 then (
  (r570[s970.1]?).bind fun x1184 =>
  (loopE (m19_4 s970 x1184) (0, ([] : List Entry))).bind fun e1357 =>
  chkE (-9223372036854775808 ≤ ((s970.1 : Int) + 1) ∧ ((s970.1 : Int) + 1) ≤ 9223372036854775807) <|
  some (.inl ((s970.1 + 1), e1357)))
 else
 some (.inr s970.2)
def m19 (v_0 : Volume) (errata : List Erratum) (day : Int) : Option (List Entry) :=
 (loopE (m19_1 v_0) (0, ([] : List Entry))).bind fun e311 =>
 (m29 errata).bind fun r570 =>
 (loopE (m19_3 r570 day) (0, e311)).bind fun e963 =>
 some e963
def m44_1 (slices : List (List Erratum)) (s25 : Nat × Nat) : Option ((Nat × Nat) ⊕ (Nat)) :=
 if (s25.2 : Int) < (slices.length : Int) then (
  (slices[s25.2]?).bind fun x51 =>
  chkE (-9223372036854775808 ≤ ((s25.1 : Int) + (x51.length : Int)) ∧ ((s25.1 : Int) + (x51.length : Int)) ≤ 9223372036854775807) <|
  if ((s25.1 : Int) + (x51.length : Int)) < 0 then (
   none)
  else
  some (.inl ((s25.1 + x51.length), (s25.2 + 1))))
 else
 some (.inr s25.1)
def m44_2 (slices : List (List Erratum)) (s146 : Nat × List Erratum) : Option ((Nat × List Erratum) ⊕ (List Erratum)) :=
 if (s146.1 : Int) < (slices.length : Int) then (
  (slices[s146.1]?).bind fun x173 =>
  chkE (s146.2.length + x173.length ≤ 1073741824) <|
  some (.inl ((s146.1 + 1), (s146.2 ++ x173))))
 else
 some (.inr s146.2)
def m44 (slices : List (List Erratum)) : Option (List Erratum) :=
 (loopE (m44_1 slices) (0, 0)).bind fun e22 =>
 chkE (e22 ≤ 1073741824) <|
 (loopE (m44_2 slices) (0, ([] : List Erratum))).bind fun e141 =>
 some e141
def m26_1 (a_0 : List Erratum) (b_1 : List Erratum) (s126 : Nat × Nat) : Option ((Nat × Nat) ⊕ (Nat)) :=
 if (s126.2 : Int) < 2 then (
  (([a_0, b_1] : List (List Erratum))[s126.2]?).bind fun x151 =>
  chkE (-9223372036854775808 ≤ ((s126.1 : Int) + (x151.length : Int)) ∧ ((s126.1 : Int) + (x151.length : Int)) ≤ 9223372036854775807) <|
  if ((s126.1 : Int) + (x151.length : Int)) < 0 then (
   none)
  else
  some (.inl ((s126.1 + x151.length), (s126.2 + 1))))
 else
 some (.inr s126.1)
theorem lm26_1 (a_0 : List Erratum) (b_1 : List Erratum) (s126 : Nat × Nat) : LeO (T10.E.m26_1 a_0 b_1 s126) (T10.m26_1 a_0 b_1 s126) := by
 unfold T10.E.m26_1 T10.m26_1
 repeat' first
  | (with_reducible exact LeO.refl _)
  | (with_reducible refine LeO.loopE (fun _ => ?_) _)
  | (with_reducible refine LeO.sort (fun _ _ => ?_) _)
  | (with_reducible refine LeO.chk ?_)
  | (with_reducible refine LeO.ite ?_ ?_)
  | (with_reducible refine LeO.bindS ?_ (fun _ => ?_) (fun _ => ?_) <;> try dsimp only)
  | (with_reducible refine LeO.bind ?_ fun _ => ?_)
  | (refine LeO.map ?_)
def m26_2 (a_0 : List Erratum) (b_1 : List Erratum) (s242 : Nat × List Erratum) : Option ((Nat × List Erratum) ⊕ (List Erratum)) :=
 if (s242.1 : Int) < 2 then (
  (([a_0, b_1] : List (List Erratum))[s242.1]?).bind fun x268 =>
  chkE (s242.2.length + x268.length ≤ 1073741824) <|
  some (.inl ((s242.1 + 1), (s242.2 ++ x268))))
 else
 some (.inr s242.2)
theorem lm26_2 (a_0 : List Erratum) (b_1 : List Erratum) (s242 : Nat × List Erratum) : LeO (T10.E.m26_2 a_0 b_1 s242) (T10.m26_2 a_0 b_1 s242) := by
 unfold T10.E.m26_2 T10.m26_2
 repeat' first
  | (with_reducible exact LeO.refl _)
  | (with_reducible refine LeO.loopE (fun _ => ?_) _)
  | (with_reducible refine LeO.sort (fun _ _ => ?_) _)
  | (with_reducible refine LeO.chk ?_)
  | (with_reducible refine LeO.ite ?_ ?_)
  | (with_reducible refine LeO.bindS ?_ (fun _ => ?_) (fun _ => ?_) <;> try dsimp only)
  | (with_reducible refine LeO.bind ?_ fun _ => ?_)
  | (refine LeO.map ?_)
def m26_3 (t98 : List Erratum) (s400 : Nat × List Erratum × (List (Int × Erratum))) : Option ((Nat × List Erratum × (List (Int × Erratum))) ⊕ ((List Erratum × (List (Int × Erratum))) ⊕ (List Erratum × Int))) :=
 if (s400.1 : Int) < (t98.length : Int) then (
  (t98[s400.1]?).bind fun x439 =>
  ((
   if (lkp s400.2.2 x439.number).isSome then (
    some (!(decide (x439 = ((lkp s400.2.2 x439.number).getD (⟨0, 0, 0, 0, [], 0⟩ : Erratum))))))
   else
   some false
  ) : Option (Bool)).bind fun t452 =>
  if t452 then (
   some (.inr (.inr (([] : List Erratum), 6))))
  else
  ((
   if (lkp s400.2.2 x439.number).isSome then (
    some (s400.2.1, s400.2.2))
   else
   chkE (s400.2.1.length + 1 ≤ 1073741824) <|
   some ((s400.2.1 ++ [x439]), (put s400.2.2 x439.number x439))
  ) : Option (List Erratum × (List (Int × Erratum)))).bind fun t472 =>
  some (.inl ((s400.1 + 1), t472.1, t472.2)))
 else
 some (.inr (.inl (s400.2.1, s400.2.2)))
theorem lm26_3 (t98 : List Erratum) (s400 : Nat × List Erratum × (List (Int × Erratum))) : LeO (T10.E.m26_3 t98 s400) (T10.m26_3 t98 s400) := by
 unfold T10.E.m26_3 T10.m26_3
 repeat' first
  | (with_reducible exact LeO.refl _)
  | (with_reducible refine LeO.loopE (fun _ => ?_) _)
  | (with_reducible refine LeO.sort (fun _ _ => ?_) _)
  | (with_reducible refine LeO.chk ?_)
  | (with_reducible refine LeO.ite ?_ ?_)
  | (with_reducible refine LeO.bindS ?_ (fun _ => ?_) (fun _ => ?_) <;> try dsimp only)
  | (with_reducible refine LeO.bind ?_ fun _ => ?_)
  | (refine LeO.map ?_)
def m26 (a_0 : List Erratum) (b_1 : List Erratum) : Option (List Erratum × Int) :=
 ((
  (loopE (m26_1 a_0 b_1) (0, 0)).bind fun e123 =>
  chkE (e123 ≤ 1073741824) <|
  (loopE (m26_2 a_0 b_1) (0, ([] : List Erratum))).bind fun e237 =>
  some e237
 ) : Option (List Erratum)).bind fun t98 =>
 (loopE (m26_3 t98) (0, ([] : List Erratum), ([] : List (Int × Erratum)))).bind fun e394 => match e394 with
 | .inr z => some z
 | .inl t397 =>
 (sortF (m46) t397.1).bind fun l486 =>
 some (l486, 0)
theorem lm26 (a_0 : List Erratum) (b_1 : List Erratum) : LeO (T10.E.m26 a_0 b_1) (T10.m26 a_0 b_1) := by
 unfold T10.E.m26 T10.m26
 repeat' first
  | (with_reducible exact LeO.refl _)
  | (with_reducible exact lm26_1 _ _ _)
  | (with_reducible exact lm26_2 _ _ _)
  | (with_reducible exact lm26_3 _ _)
  | (with_reducible exact lm46 _ _)
  | (with_reducible refine LeO.loopE (fun _ => ?_) _)
  | (with_reducible refine LeO.sort (fun _ _ => ?_) _)
  | (with_reducible refine LeO.chk ?_)
  | (with_reducible refine LeO.ite ?_ ?_)
  | (with_reducible refine LeO.bindS ?_ (fun _ => ?_) (fun _ => ?_) <;> try dsimp only)
  | (with_reducible refine LeO.bind ?_ fun _ => ?_)
  | (refine LeO.map ?_)
def m9  : Option (Bool) :=
 (m25).bind fun r1 =>
 (m13 r1.1 r1.2 44).bind fun r17 =>
 (m23 r1.1 r1.2 11 60).bind fun r24 =>
 (m23 r1.1 r1.2 20 59).bind fun r27 =>
 (m20 r1.1 r1.2 12 2 44).bind fun r30 =>
 (m21 r1.1 r1.2 [49, 50, 64, 52, 52]).bind fun r33 =>
 ((
  if r17.2 ≠ 0 then (
   some true)
  else
  if r24.2.2 ≠ 0 then (
   some true)
  else
  if r30.2 ≠ 0 then (
   some true)
  else
  if r33.2.2 ≠ 0 then (
   some true)
  else
  (m16 r17.1 ([(⟨11, [84, 104, 101, 32, 72, 111, 117, 115, 101, 32, 109, 101, 116, 32, 97, 116, 32, 116, 119, 111, 46]⟩ : Paragraph), (⟨12, [80, 114, 97, 121, 101, 114, 115, 46]⟩ : Paragraph), (⟨15, [65, 32, 98, 105, 108, 108, 32, 119, 97, 115, 32, 114, 101, 97, 100, 46]⟩ : Paragraph)] : List Paragraph)).bind fun r94 =>
  if r94 then (
   if r24.1 ≠ [84, 104, 101, 32, 72, 111, 117, 115, 101, 32, 109, 101, 116, 32, 97, 116, 32, 116, 119, 111, 46] then (
    some true)
   else
   if r24.2.1 then (
    if r27.2.2 ≠ 7 then (
     some true)
    else
    if r30.1 ≠ [49, 50, 64, 52, 52] then (
     some true)
    else
    if r33.1 ≠ 12 then (
     some true)
    else
    some (decide (r33.2.1 ≠ 44)))
   else
   some true)
  else
  some true
 ) : Option (Bool)).bind fun t74 =>
 if t74 then (
  some false)
 else
 (m26 r1.2 ([(⟨2, 0, 0, 0, [], 0⟩ : Erratum)] : List Erratum)).bind fun r126 =>
 (m13 r1.1 r1.2 (-1)).bind fun r133 =>
 chkE (([] : List Erratum).length + r1.2.length ≤ 1073741824) <|
 (r1.2[0]?).bind fun x145 =>
 chkE ((([] : List Erratum) ++ r1.2).length + ([x145] : List Erratum).length ≤ 1073741824) <|
 (m13 r1.1 ((([] : List Erratum) ++ r1.2) ++ ([x145] : List Erratum)) 0).bind fun r167 =>
 chkE ((([] : List Erratum) ++ r1.2).length + ([(⟨4, 59, 0, 20, [120], 0⟩ : Erratum)] : List Erratum).length ≤ 1073741824) <|
 (m13 r1.1 ((([] : List Erratum) ++ r1.2) ++ ([(⟨4, 59, 0, 20, [120], 0⟩ : Erratum)] : List Erratum)) 0).bind fun r213 =>
 (m20 r1.1 r1.2 20 0 0).bind fun r227 =>
 (m20 r1.1 r1.2 12 3 0).bind fun r230 =>
 (m21 r1.1 r1.2 [118, 111, 108, 46, 32, 51, 44, 32, 99, 111, 108, 46, 32, 50, 44, 32, 108, 46, 32, 51]).bind fun r233 =>
 (m21 r1.1 r1.2 [118, 111, 108, 46, 32, 51, 44, 32, 99, 111, 108, 46, 32, 48, 50, 44, 32, 108, 46, 32, 49]).bind fun r236 =>
 (m21 r1.1 r1.2 [118, 111, 108, 46, 32, 52, 44, 32, 52, 48, 44, 32, 112, 97, 114, 46, 32, 50]).bind fun r239 =>
 ((
  if r126.2 = 6 then (
   if r133.2 = 2 then (
    if r167.2 = 6 then (
     if r213.2 = 7 then (
      if r227.2 = 7 then (
       if r230.2 = 2 then (
        if r233.2.2 = 7 then (
         if r236.2.2 = 4 then (
          if r239.2.2 = 7 then (
           (m27 (⟨r1.1.number, r1.1.bound, r1.1.height, r1.1.width, ([(⟨40, ([(⟨1, [97]⟩ : Paragraph), (⟨1, [97]⟩ : Paragraph)] : List Paragraph)⟩ : Part)] : List Part)⟩ : Volume)).bind fun r330 =>
           if r330 = 6 then (
            (m27 (⟨r1.1.number, 43, r1.1.height, r1.1.width, r1.1.parts⟩ : Volume)).bind fun r335 =>
            if r335 = 1 then (
             chkE (7 ≤ 1073741824) <|
             (m27 (⟨0, 0, 0, 0, (List.replicate 7 (⟨0, ([] : List Paragraph)⟩ : Part))⟩ : Volume)).bind fun r346 =>
             if r346 = 3 then (
              (m12).bind fun r351 =>
              some r351)
             else
             some false)
            else
            some false)
           else
           some false)
          else
          some false)
         else
         some false)
        else
        some false)
       else
       some false)
      else
      some false)
     else
     some false)
    else
    some false)
   else
   some false)
  else
  some false
 ) : Option (Bool)).bind fun t309 =>
 some t309
theorem lm9  : LeO (T10.E.m9 ) (T10.m9 ) := by
 unfold T10.E.m9 T10.m9
 repeat' first
  | (with_reducible exact LeO.refl _)
  | (with_reducible exact lm25)
  | (with_reducible exact lm13 _ _ _)
  | (with_reducible exact lm23 _ _ _ _)
  | (with_reducible exact lm20 _ _ _ _ _)
  | (with_reducible exact lm21 _ _ _)
  | (with_reducible exact lm16 _ _)
  | (with_reducible exact lm26 _ _)
  | (with_reducible exact lm27 _)
  | (with_reducible exact lm12)
  | (with_reducible refine LeO.loopE (fun _ => ?_) _)
  | (with_reducible refine LeO.sort (fun _ _ => ?_) _)
  | (with_reducible refine LeO.chk ?_)
  | (with_reducible refine LeO.ite ?_ ?_)
  | (with_reducible refine LeO.bindS ?_ (fun _ => ?_) (fun _ => ?_) <;> try dsimp only)
  | (with_reducible refine LeO.bind ?_ fun _ => ?_)
  | (refine LeO.map ?_)
end T10.E
namespace T10
open Go Go.Proofs Pk
theorem law9 : m9 = some true := E.lm9 _ (show E.m9 = some true by kernel_rfl)
end T10
