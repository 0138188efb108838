/-
  The plain laws: what the models of an index come to.
-/
import Derived.Test.YtejccogankgniaaGreatDoorMade
import Derived.Test.YtejccogankgniaaGreatDoorKitSix
set_option linter.all false
namespace Pk
open Go
def digE : Nat → Nat → List UInt8
 | 0, u => [UInt8.ofNat (48 + u)]
 | f + 1, u => if u < 10 then [UInt8.ofNat (48 + u)] else digE f (u / 10) ++ [UInt8.ofNat (48 + u % 10)]
theorem digE_eq : ∀ (f u : Nat), u < 10 ^ f → digE f u = Lib.decDigits u
 | 0, u, h => by
  have : u = 0 := by simpa using h
  subst this; rw [Lib.decDigits, dif_pos (by decide)]; rfl
 | f + 1, u, h => by
  rw [Lib.decDigits, digE]
  split
  ·rfl
  ·rw [digE_eq f (u / 10) (by rw [Nat.pow_succ] at h; omega)]
def itoaE (n : Int) : Option Bytes := if 0 ≤ n ∧ n ≤ 999999 then some (digE 6 n.toNat) else none
theorem litoa (n : Int) : LeO (itoaE n) (itoaM n) := fun r hr => by
  unfold itoaE at hr
  split at hr
  · rename_i h
    cases hr
    unfold itoaM
    rw [chk_t (by omega)]
    unfold Lib.itoa
    rw [if_neg (by omega), digE_eq 6 _ (by have : (10 : Nat) ^ 6 = 1000000 := by decide
                                           omega)]
  · cases hr
end Pk
namespace T11.E
open Go Go.Proofs Pk
def m189 (s : Bytes) : Option (Int × Bool) := chkE (s.length ≤ 1073741824) (some (atoiR s))
theorem lm189 (s : Bytes) : LeO (T11.E.m189 s) (T11.m189 s) := LeO.chk (LeO.refl _)
def m179 (n : Int) : Option Bytes := itoaE n
theorem lm179 (n : Int) : LeO (T11.E.m179 n) (T11.m179 n) := litoa n
def m68 (s t : Bytes) : Option (Bytes × Bytes × Bool) := chkE (s.length ≤ 1073741824) (some (Lib.cut s t))
theorem lm68 (s t : Bytes) : LeO (T11.E.m68 s t) (T11.m68 s t) := LeO.chk (LeO.refl _)
def m154 (s t : Bytes) : Option Bool := chkE (s.length ≤ 1073741824) (some (Lib.contains s t))
theorem lm154 (s t : Bytes) : LeO (T11.E.m154 s t) (T11.m154 s t) := LeO.chk (LeO.refl _)
def m110 (s t : Bytes) : Option Bytes := some (Lib.trimPrefix s t)
theorem lm110 (s t : Bytes) : LeO (T11.E.m110 s t) (T11.m110 s t) := LeO.refl _
def m87 (a b : Bytes) : Option Int := some (Lib.compareBytes a b)
theorem lm87 (s t : Bytes) : LeO (T11.E.m87 s t) (T11.m87 s t) := LeO.refl _
def m151 (s : Bytes) (r : Int) : Option Bool := chkE (0 ≤ r ∧ r < 128) (some (decide (0 ≤ Lib.indexByte s r.toNat.toUInt8)))
theorem lm151 (s : Bytes) (r : Int) : LeO (T11.E.m151 s r) (T11.m151 s r) := LeO.chk (LeO.refl _)
def m153 (s t : Bytes) : Option Bytes := match t with
 | [c] => chkE (s.length ≤ 1073741824 ∧ c.toNat < 128) (some (Lib.trimB s c))
 | _ => none
theorem lm153 (s t : Bytes) : LeO (T11.E.m153 s t) (T11.m153 s t) := by
 intro r h
 unfold T11.E.m153 at h
 split at h
 ·exact LeO.chk (LeO.refl _) r h
 ·cases h
def m67 (s t : Bytes) : Option (List Bytes) := chkE (s.length ≤ 1073741824 ∧ 1 ≤ t.length) (some ((Lib.splitB (bs t) 0 (Lib.countB (bs s) (bs t)) (bs s)).map (·.data.toList)))
theorem lm67 (s t : Bytes) : LeO (T11.E.m67 s t) (T11.m67 s t) := LeO.chk (LeO.refl _)
def m140 (l : List Bytes) (sep : Bytes) : Option Bytes := chkE (l.length ≤ 1073741824 ∧ (Lib.join l sep).length ≤ 1073741824) (some (Lib.join l sep))
theorem lm140 (l : List Bytes) (sep : Bytes) : LeO (T11.E.m140 l sep) (T11.m140 l sep) := LeO.chk (LeO.refl _)
end T11.E
set_option maxHeartbeats 4000000
namespace T11.E
open Go Go.Proofs Pk
def m47  : Option (List (List Heading)) :=
 some ([([(⟨[67, 111, 114, 110, 32, 76, 97, 119, 115], ([] : List Bytes), ([[84, 114, 97, 100, 101]] : List Bytes), ([(⟨3, 12, 14⟩ : Place), (⟨4, 1, 1⟩ : Place)] : List Place)⟩ : Heading), (⟨[76, 101, 101, 32, 65, 110, 110], ([[65, 32, 76, 101, 101]] : List Bytes), ([] : List Bytes), ([(⟨3, 7, 7⟩ : Place)] : List Place)⟩ : Heading), (⟨[84, 114, 97, 100, 101], ([] : List Bytes), ([] : List Bytes), ([(⟨3, 13, 13⟩ : Place)] : List Place)⟩ : Heading)] : List Heading), ([(⟨[65, 32, 76, 101, 101], ([[76, 97, 100, 121, 32, 76, 101, 101]] : List Bytes), ([] : List Bytes), ([(⟨9, 1, 2⟩ : Place)] : List Place)⟩ : Heading), (⟨[67, 111, 114, 110, 32, 108, 97, 119, 115], ([[67, 111, 114, 110, 32, 76, 97, 119, 115]] : List Bytes), ([] : List Bytes), ([(⟨4, 2, 2⟩ : Place)] : List Place)⟩ : Heading)] : List Heading)] : List (List Heading))
theorem lm47  : LeO (T11.E.m47 ) (T11.m47 ) := by
 unfold T11.E.m47 T11.m47
 repeat' with_reducible first|exact lq0 _|refine lq1 (fun _=>?_) _|refine lq2 (fun _ _=>?_) _|refine lq3 (fun _ _=>?_) (fun _=>?_) _|refine lq4 (fun _ _=>?_) (fun _=>?_) _|refine lq5 ?_|refine lq6 ?_|refine lq7 ?_ ?_|(refine lq8 ?_ (fun _=>?_) (fun _=>?_)<;>try dsimp only)|refine lq9 ?_ fun _=>?_|refine lq10 ?_
def m115 (x_0 : Heading) (f0_ : Heading → Option Bool) : Option (Bool) :=
 (f0_ x_0).bind fun r13 =>
 some (!r13)
theorem lm115 (x_0 : Heading) {f0_ f0_' : Heading → Option Bool} (hf0_ : ∀ y0, LeO (f0_ y0) (f0_' y0)) : LeO (T11.E.m115 x_0 f0_) (T11.m115 x_0 f0_') := by
 unfold T11.E.m115 T11.m115
 repeat' with_reducible first|exact lq0 _|exact hf0_ _|refine lq1 (fun _=>?_) _|refine lq2 (fun _ _=>?_) _|refine lq3 (fun _ _=>?_) (fun _=>?_) _|refine lq4 (fun _ _=>?_) (fun _=>?_) _|refine lq5 ?_|refine lq6 ?_|refine lq7 ?_ ?_|(refine lq8 ?_ (fun _=>?_) (fun _=>?_)<;>try dsimp only)|refine lq9 ?_ fun _=>?_|refine lq10 ?_
def m149_1 (s_0 : List Heading) (f_1 : Heading → Option Bool) (s33 : Nat) : Option ((Nat) ⊕ ((Unit) ⊕ Int)) :=
 if (s33 : Int) < (s_0.length : Int) then (
  (s_0[s33]?).bind fun x66 =>
  (f_1 x66).bind fun r84 =>
  if r84 then (
   some (.inr (.inr (s33 : Int))))
  else
  some (.inl (s33 + 1)))
 else
 some (.inr (.inl ()))
theorem lm149_1 (s_0 : List Heading) {f_1 f_1' : Heading → Option Bool} (hf_1 : ∀ y0, LeO (f_1 y0) (f_1' y0)) (s33 : Nat) : LeO (T11.E.m149_1 s_0 f_1 s33) (T11.m149_1 s_0 f_1' s33) := by
 unfold T11.E.m149_1 T11.m149_1
 repeat' with_reducible first|exact lq0 _|exact hf_1 _|refine lq1 (fun _=>?_) _|refine lq2 (fun _ _=>?_) _|refine lq3 (fun _ _=>?_) (fun _=>?_) _|refine lq4 (fun _ _=>?_) (fun _=>?_) _|refine lq5 ?_|refine lq6 ?_|refine lq7 ?_ ?_|(refine lq8 ?_ (fun _=>?_) (fun _=>?_)<;>try dsimp only)|refine lq9 ?_ fun _=>?_|refine lq10 ?_
def m149 (s_0 : List Heading) (f_1 : Heading → Option Bool) : Option (Int) :=
 (loopE (m149_1 s_0 f_1) 0).bind fun e29 => match e29 with
 | .inr z => some z
 | .inl t32 =>
 some (-1)
theorem lm149 (s_0 : List Heading) {f_1 f_1' : Heading → Option Bool} (hf_1 : ∀ y0, LeO (f_1 y0) (f_1' y0)) : LeO (T11.E.m149 s_0 f_1) (T11.m149 s_0 f_1') := by
 unfold T11.E.m149 T11.m149
 repeat' with_reducible first|exact lq0 _|refine lm149_1 _ (fun _ =>?_) _|exact hf_1 _|refine lq1 (fun _=>?_) _|refine lq2 (fun _ _=>?_) _|refine lq3 (fun _ _=>?_) (fun _=>?_) _|refine lq4 (fun _ _=>?_) (fun _=>?_) _|refine lq5 ?_|refine lq6 ?_|refine lq7 ?_ ?_|(refine lq8 ?_ (fun _=>?_) (fun _=>?_)<;>try dsimp only)|refine lq9 ?_ fun _=>?_|refine lq10 ?_
def m114 (s_0 : List Heading) (f_1 : Heading → Option Bool) : Option (Bool) :=
 (m149 s_0 f_1).bind fun r1 =>
 some (decide (0 ≤ r1))
theorem lm114 (s_0 : List Heading) {f_1 f_1' : Heading → Option Bool} (hf_1 : ∀ y0, LeO (f_1 y0) (f_1' y0)) : LeO (T11.E.m114 s_0 f_1) (T11.m114 s_0 f_1') := by
 unfold T11.E.m114 T11.m114
 repeat' with_reducible first|exact lq0 _|refine lm149 _ (fun _ =>?_)|exact hf_1 _|refine lq1 (fun _=>?_) _|refine lq2 (fun _ _=>?_) _|refine lq3 (fun _ _=>?_) (fun _=>?_) _|refine lq4 (fun _ _=>?_) (fun _=>?_) _|refine lq5 ?_|refine lq6 ?_|refine lq7 ?_ ?_|(refine lq8 ?_ (fun _=>?_) (fun _=>?_)<;>try dsimp only)|refine lq9 ?_ fun _=>?_|refine lq10 ?_
def m77 (l_0 : List Heading) (right : Heading → Option Bool) : Option (Bool) :=
 (m114 l_0 (fun x0_ => m115 x0_ right)).bind fun r5 =>
 some (!r5)
theorem lm77 (l_0 : List Heading) {right right' : Heading → Option Bool} (hright : ∀ y0, LeO (right y0) (right' y0)) : LeO (T11.E.m77 l_0 right) (T11.m77 l_0 right') := by
 unfold T11.E.m77 T11.m77
 repeat' with_reducible first|exact lq0 _|refine lm114 _ (fun _ =>?_)|refine lm115 _ (fun _ =>?_)|exact hright _|refine lq1 (fun _=>?_) _|refine lq2 (fun _ _=>?_) _|refine lq3 (fun _ _=>?_) (fun _=>?_) _|refine lq4 (fun _ _=>?_) (fun _=>?_) _|refine lq5 ?_|refine lq6 ?_|refine lq7 ?_ ?_|(refine lq8 ?_ (fun _=>?_) (fun _=>?_)<;>try dsimp only)|refine lq9 ?_ fun _=>?_|refine lq10 ?_
def m123 (x_0 : Bytes) (f0_ : Bytes → Option Bool) : Option (Bool) :=
 (f0_ x_0).bind fun r1 =>
 some (!r1)
theorem lm123 (x_0 : Bytes) {f0_ f0_' : Bytes → Option Bool} (hf0_ : ∀ y0, LeO (f0_ y0) (f0_' y0)) : LeO (T11.E.m123 x_0 f0_) (T11.m123 x_0 f0_') := by
 unfold T11.E.m123 T11.m123
 repeat' with_reducible first|exact lq0 _|exact hf0_ _|refine lq1 (fun _=>?_) _|refine lq2 (fun _ _=>?_) _|refine lq3 (fun _ _=>?_) (fun _=>?_) _|refine lq4 (fun _ _=>?_) (fun _=>?_) _|refine lq5 ?_|refine lq6 ?_|refine lq7 ?_ ?_|(refine lq8 ?_ (fun _=>?_) (fun _=>?_)<;>try dsimp only)|refine lq9 ?_ fun _=>?_|refine lq10 ?_
def m127_1 (s_0 : List Bytes) (f_1 : Bytes → Option Bool) (s23 : Nat) : Option ((Nat) ⊕ ((Unit) ⊕ Int)) :=
 if (s23 : Int) < (s_0.length : Int) then (
  (s_0[s23]?).bind fun x46 =>
  (f_1 x46).bind fun r54 =>
  if r54 then (
   some (.inr (.inr (s23 : Int))))
  else
  some (.inl (s23 + 1)))
 else
 some (.inr (.inl ()))
theorem lm127_1 (s_0 : List Bytes) {f_1 f_1' : Bytes → Option Bool} (hf_1 : ∀ y0, LeO (f_1 y0) (f_1' y0)) (s23 : Nat) : LeO (T11.E.m127_1 s_0 f_1 s23) (T11.m127_1 s_0 f_1' s23) := by
 unfold T11.E.m127_1 T11.m127_1
 repeat' with_reducible first|exact lq0 _|exact hf_1 _|refine lq1 (fun _=>?_) _|refine lq2 (fun _ _=>?_) _|refine lq3 (fun _ _=>?_) (fun _=>?_) _|refine lq4 (fun _ _=>?_) (fun _=>?_) _|refine lq5 ?_|refine lq6 ?_|refine lq7 ?_ ?_|(refine lq8 ?_ (fun _=>?_) (fun _=>?_)<;>try dsimp only)|refine lq9 ?_ fun _=>?_|refine lq10 ?_
def m127 (s_0 : List Bytes) (f_1 : Bytes → Option Bool) : Option (Int) :=
 (loopE (m127_1 s_0 f_1) 0).bind fun e19 => match e19 with
 | .inr z => some z
 | .inl t22 =>
 some (-1)
theorem lm127 (s_0 : List Bytes) {f_1 f_1' : Bytes → Option Bool} (hf_1 : ∀ y0, LeO (f_1 y0) (f_1' y0)) : LeO (T11.E.m127 s_0 f_1) (T11.m127 s_0 f_1') := by
 unfold T11.E.m127 T11.m127
 repeat' with_reducible first|exact lq0 _|refine lm127_1 _ (fun _ =>?_) _|exact hf_1 _|refine lq1 (fun _=>?_) _|refine lq2 (fun _ _=>?_) _|refine lq3 (fun _ _=>?_) (fun _=>?_) _|refine lq4 (fun _ _=>?_) (fun _=>?_) _|refine lq5 ?_|refine lq6 ?_|refine lq7 ?_ ?_|(refine lq8 ?_ (fun _=>?_) (fun _=>?_)<;>try dsimp only)|refine lq9 ?_ fun _=>?_|refine lq10 ?_
def m122 (s_0 : List Bytes) (f_1 : Bytes → Option Bool) : Option (Bool) :=
 (m127 s_0 f_1).bind fun r1 =>
 some (decide (0 ≤ r1))
theorem lm122 (s_0 : List Bytes) {f_1 f_1' : Bytes → Option Bool} (hf_1 : ∀ y0, LeO (f_1 y0) (f_1' y0)) : LeO (T11.E.m122 s_0 f_1) (T11.m122 s_0 f_1') := by
 unfold T11.E.m122 T11.m122
 repeat' with_reducible first|exact lq0 _|refine lm127 _ (fun _ =>?_)|exact hf_1 _|refine lq1 (fun _=>?_) _|refine lq2 (fun _ _=>?_) _|refine lq3 (fun _ _=>?_) (fun _=>?_) _|refine lq4 (fun _ _=>?_) (fun _=>?_) _|refine lq5 ?_|refine lq6 ?_|refine lq7 ?_ ?_|(refine lq8 ?_ (fun _=>?_) (fun _=>?_)<;>try dsimp only)|refine lq9 ?_ fun _=>?_|refine lq10 ?_
def m80 (l_0 : List Bytes) (right : Bytes → Option Bool) : Option (Bool) :=
 (m122 l_0 (fun x0_ => m123 x0_ right)).bind fun r5 =>
 some (!r5)
theorem lm80 (l_0 : List Bytes) {right right' : Bytes → Option Bool} (hright : ∀ y0, LeO (right y0) (right' y0)) : LeO (T11.E.m80 l_0 right) (T11.m80 l_0 right') := by
 unfold T11.E.m80 T11.m80
 repeat' with_reducible first|exact lq0 _|refine lm122 _ (fun _ =>?_)|refine lm123 _ (fun _ =>?_)|exact hright _|refine lq1 (fun _=>?_) _|refine lq2 (fun _ _=>?_) _|refine lq3 (fun _ _=>?_) (fun _=>?_) _|refine lq4 (fun _ _=>?_) (fun _=>?_) _|refine lq5 ?_|refine lq6 ?_|refine lq7 ?_ ?_|(refine lq8 ?_ (fun _=>?_) (fun _=>?_)<;>try dsimp only)|refine lq9 ?_ fun _=>?_|refine lq10 ?_
def m150 (b_0 : Int) : Option (Bool) :=
 ((
  if (32 : Int) ≤ b_0 then (
   if b_0 ≤ 126 then (
    (m151 [44, 58, 59, 61] b_0).bind fun r17 =>
    some (!r17))
   else
   some false)
  else
  some false
 ) : Option (Bool)).bind fun t10 =>
 some t10
theorem lm150 (b_0 : Int) : LeO (T11.E.m150 b_0) (T11.m150 b_0) := by
 unfold T11.E.m150 T11.m150
 repeat' with_reducible first|exact lq0 _|exact lm151 _ _|refine lq1 (fun _=>?_) _|refine lq2 (fun _ _=>?_) _|refine lq3 (fun _ _=>?_) (fun _=>?_) _|refine lq4 (fun _ _=>?_) (fun _=>?_) _|refine lq5 ?_|refine lq6 ?_|refine lq7 ?_ ?_|(refine lq8 ?_ (fun _=>?_) (fun _=>?_)<;>try dsimp only)|refine lq9 ?_ fun _=>?_|refine lq10 ?_
def m72 (n_0 : Int) (low : Int) (high : Int) : Option (Bool) :=
 ((
  if low ≤ n_0 then (
   some (decide (n_0 ≤ high)))
  else
  some false
 ) : Option (Bool)).bind fun t4 =>
 some t4
theorem lm72 (n_0 : Int) (low : Int) (high : Int) : LeO (T11.E.m72 n_0 low high) (T11.m72 n_0 low high) := by
 unfold T11.E.m72 T11.m72
 repeat' with_reducible first|exact lq0 _|refine lq1 (fun _=>?_) _|refine lq2 (fun _ _=>?_) _|refine lq3 (fun _ _=>?_) (fun _=>?_) _|refine lq4 (fun _ _=>?_) (fun _=>?_) _|refine lq5 ?_|refine lq6 ?_|refine lq7 ?_ ?_|(refine lq8 ?_ (fun _=>?_) (fun _=>?_)<;>try dsimp only)|refine lq9 ?_ fun _=>?_|refine lq10 ?_
def m193 (x_0 : Int) (f0_ : Int → Option Bool) : Option (Bool) :=
 (f0_ x_0).bind fun r1 =>
 some (!r1)
theorem lm193 (x_0 : Int) {f0_ f0_' : Int → Option Bool} (hf0_ : ∀ y0, LeO (f0_ y0) (f0_' y0)) : LeO (T11.E.m193 x_0 f0_) (T11.m193 x_0 f0_') := by
 unfold T11.E.m193 T11.m193
 repeat' with_reducible first|exact lq0 _|exact hf0_ _|refine lq1 (fun _=>?_) _|refine lq2 (fun _ _=>?_) _|refine lq3 (fun _ _=>?_) (fun _=>?_) _|refine lq4 (fun _ _=>?_) (fun _=>?_) _|refine lq5 ?_|refine lq6 ?_|refine lq7 ?_ ?_|(refine lq8 ?_ (fun _=>?_) (fun _=>?_)<;>try dsimp only)|refine lq9 ?_ fun _=>?_|refine lq10 ?_
def m218_1 (s_0 : List UInt8) (f_1 : Int → Option Bool) (s23 : Nat) : Option ((Nat) ⊕ ((Unit) ⊕ Int)) :=
 if (s23 : Int) < (s_0.length : Int) then (
  (s_0[s23]?).bind fun x46 =>
  (f_1 (x46.toNat : Int)).bind fun r54 =>
  if r54 then (
   some (.inr (.inr (s23 : Int))))
  else
  some (.inl (s23 + 1)))
 else
 some (.inr (.inl ()))
theorem lm218_1 (s_0 : List UInt8) {f_1 f_1' : Int → Option Bool} (hf_1 : ∀ y0, LeO (f_1 y0) (f_1' y0)) (s23 : Nat) : LeO (T11.E.m218_1 s_0 f_1 s23) (T11.m218_1 s_0 f_1' s23) := by
 unfold T11.E.m218_1 T11.m218_1
 repeat' with_reducible first|exact lq0 _|exact hf_1 _|refine lq1 (fun _=>?_) _|refine lq2 (fun _ _=>?_) _|refine lq3 (fun _ _=>?_) (fun _=>?_) _|refine lq4 (fun _ _=>?_) (fun _=>?_) _|refine lq5 ?_|refine lq6 ?_|refine lq7 ?_ ?_|(refine lq8 ?_ (fun _=>?_) (fun _=>?_)<;>try dsimp only)|refine lq9 ?_ fun _=>?_|refine lq10 ?_
def m218 (s_0 : List UInt8) (f_1 : Int → Option Bool) : Option (Int) :=
 (loopE (m218_1 s_0 f_1) 0).bind fun e19 => match e19 with
 | .inr z => some z
 | .inl t22 =>
 some (-1)
theorem lm218 (s_0 : List UInt8) {f_1 f_1' : Int → Option Bool} (hf_1 : ∀ y0, LeO (f_1 y0) (f_1' y0)) : LeO (T11.E.m218 s_0 f_1) (T11.m218 s_0 f_1') := by
 unfold T11.E.m218 T11.m218
 repeat' with_reducible first|exact lq0 _|refine lm218_1 _ (fun _ =>?_) _|exact hf_1 _|refine lq1 (fun _=>?_) _|refine lq2 (fun _ _=>?_) _|refine lq3 (fun _ _=>?_) (fun _=>?_) _|refine lq4 (fun _ _=>?_) (fun _=>?_) _|refine lq5 ?_|refine lq6 ?_|refine lq7 ?_ ?_|(refine lq8 ?_ (fun _=>?_) (fun _=>?_)<;>try dsimp only)|refine lq9 ?_ fun _=>?_|refine lq10 ?_
def m192 (s_0 : List UInt8) (f_1 : Int → Option Bool) : Option (Bool) :=
 (m218 s_0 f_1).bind fun r1 =>
 some (decide (0 ≤ r1))
theorem lm192 (s_0 : List UInt8) {f_1 f_1' : Int → Option Bool} (hf_1 : ∀ y0, LeO (f_1 y0) (f_1' y0)) : LeO (T11.E.m192 s_0 f_1) (T11.m192 s_0 f_1') := by
 unfold T11.E.m192 T11.m192
 repeat' with_reducible first|exact lq0 _|refine lm218 _ (fun _ =>?_)|exact hf_1 _|refine lq1 (fun _=>?_) _|refine lq2 (fun _ _=>?_) _|refine lq3 (fun _ _=>?_) (fun _=>?_) _|refine lq4 (fun _ _=>?_) (fun _=>?_) _|refine lq5 ?_|refine lq6 ?_|refine lq7 ?_ ?_|(refine lq8 ?_ (fun _=>?_) (fun _=>?_)<;>try dsimp only)|refine lq9 ?_ fun _=>?_|refine lq10 ?_
def m152 (l_0 : List UInt8) (right : Int → Option Bool) : Option (Bool) :=
 (m192 l_0 (fun x0_ => m193 x0_ right)).bind fun r5 =>
 some (!r5)
theorem lm152 (l_0 : List UInt8) {right right' : Int → Option Bool} (hright : ∀ y0, LeO (right y0) (right' y0)) : LeO (T11.E.m152 l_0 right) (T11.m152 l_0 right') := by
 unfold T11.E.m152 T11.m152
 repeat' with_reducible first|exact lq0 _|refine lm192 _ (fun _ =>?_)|refine lm193 _ (fun _ =>?_)|exact hright _|refine lq1 (fun _=>?_) _|refine lq2 (fun _ _=>?_) _|refine lq3 (fun _ _=>?_) (fun _=>?_) _|refine lq4 (fun _ _=>?_) (fun _=>?_) _|refine lq5 ?_|refine lq6 ?_|refine lq7 ?_ ?_|(refine lq8 ?_ (fun _=>?_) (fun _=>?_)<;>try dsimp only)|refine lq9 ?_ fun _=>?_|refine lq10 ?_
def m117 (s_0 : Bytes) : Option (Bool) :=
 ((
  (m72 (s_0.length : Int) 1 40).bind fun r32 =>
  if r32 then (
   chkE (s_0.length ≤ 1073741824) <|
   (m152 s_0 (m150)).bind fun r44 =>
   if r44 then (
    (m153 s_0 [32]).bind fun r49 =>
    if r49 = s_0 then (
     (m154 s_0 [32, 32]).bind fun r54 =>
     some (!r54))
    else
    some false)
   else
   some false)
  else
  some false
 ) : Option (Bool)).bind fun t29 =>
 some t29
theorem lm117 (s_0 : Bytes) : LeO (T11.E.m117 s_0) (T11.m117 s_0) := by
 unfold T11.E.m117 T11.m117
 repeat' with_reducible first|exact lq0 _|exact lm72 _ _ _|refine lm152 _ (fun _ =>?_)|exact lm150 _|exact lm153 _ _|exact lm154 _ _|refine lq1 (fun _=>?_) _|refine lq2 (fun _ _=>?_) _|refine lq3 (fun _ _=>?_) (fun _=>?_) _|refine lq4 (fun _ _=>?_) (fun _=>?_) _|refine lq5 ?_|refine lq6 ?_|refine lq7 ?_ ?_|(refine lq8 ?_ (fun _=>?_) (fun _=>?_)<;>try dsimp only)|refine lq9 ?_ fun _=>?_|refine lq10 ?_
def m118_1 (l_0 : List Bytes) (before : Bytes → Bytes → Option Bool) (s36 : Nat) : Option ((Nat) ⊕ ((Unit) ⊕ Bool)) :=
 if (s36 : Int) < (l_0.length : Int) then (
  ((
   if 0 < (s36 : Int) then (
    (l_0[((s36 : Int) - 1).toNat]?).bind fun x100 =>
    (l_0[s36]?).bind fun x108 =>
    (before x100 x108).bind fun r116 =>
    some (!r116))
   else
   some false
  ) : Option (Bool)).bind fun t95 =>
  if t95 then (
   some (.inr (.inr false)))
  else
  some (.inl (s36 + 1)))
 else
 some (.inr (.inl ()))
theorem lm118_1 (l_0 : List Bytes) {before before' : Bytes → Bytes → Option Bool} (hbefore : ∀ y0 y1, LeO (before y0 y1) (before' y0 y1)) (s36 : Nat) : LeO (T11.E.m118_1 l_0 before s36) (T11.m118_1 l_0 before' s36) := by
 unfold T11.E.m118_1 T11.m118_1
 repeat' with_reducible first|exact lq0 _|exact hbefore _ _|refine lq1 (fun _=>?_) _|refine lq2 (fun _ _=>?_) _|refine lq3 (fun _ _=>?_) (fun _=>?_) _|refine lq4 (fun _ _=>?_) (fun _=>?_) _|refine lq5 ?_|refine lq6 ?_|refine lq7 ?_ ?_|(refine lq8 ?_ (fun _=>?_) (fun _=>?_)<;>try dsimp only)|refine lq9 ?_ fun _=>?_|refine lq10 ?_
def m118 (l_0 : List Bytes) (before : Bytes → Bytes → Option Bool) : Option (Bool) :=
 (loopE (m118_1 l_0 before) 0).bind fun e32 => match e32 with
 | .inr z => some z
 | .inl t35 =>
 some true
theorem lm118 (l_0 : List Bytes) {before before' : Bytes → Bytes → Option Bool} (hbefore : ∀ y0 y1, LeO (before y0 y1) (before' y0 y1)) : LeO (T11.E.m118 l_0 before) (T11.m118 l_0 before') := by
 unfold T11.E.m118 T11.m118
 repeat' with_reducible first|exact lq0 _|refine lm118_1 _ (fun _ _ =>?_) _|exact hbefore _ _|refine lq1 (fun _=>?_) _|refine lq2 (fun _ _=>?_) _|refine lq3 (fun _ _=>?_) (fun _=>?_) _|refine lq4 (fun _ _=>?_) (fun _=>?_) _|refine lq5 ?_|refine lq6 ?_|refine lq7 ?_ ?_|(refine lq8 ?_ (fun _=>?_) (fun _=>?_)<;>try dsimp only)|refine lq9 ?_ fun _=>?_|refine lq10 ?_
def m88_1 (s_0 : Bytes) (s229 : Nat × List UInt8) : Option ((Nat × List UInt8) ⊕ (List UInt8)) :=
 if (s229.1 : Int) < (s_0.length : Int) then (
  (s_0[s229.1]?).bind fun x291 =>
  ((
   if (65 : Int) ≤ (x291.toNat : Int) then (
    some (decide ((x291.toNat : Int) ≤ 90)))
   else
   some false
  ) : Option (Bool)).bind fun t345 =>
  ((
   if t345 then (
    chkE (0 ≤ ((x291.toNat : Int) - 65) ∧ ((x291.toNat : Int) - 65) ≤ 255) <|
    chkE (0 ≤ (((x291.toNat : Int) - 65) + 97) ∧ (((x291.toNat : Int) - 65) + 97) ≤ 255) <|
    chkE (s229.2.length + 1 ≤ 1073741824) <|
    some (s229.2 ++ [(UInt8.ofNat (((x291.toNat : Int) - 65) + 97).toNat)]))
   else
   ((
    if (97 : Int) ≤ (x291.toNat : Int) then (
     if (x291.toNat : Int) ≤ 122 then (
      some true)
     else
     if (48 : Int) ≤ (x291.toNat : Int) then (
      some (decide ((x291.toNat : Int) ≤ 57)))
     else
     some false)
    else
    if (48 : Int) ≤ (x291.toNat : Int) then (
     some (decide ((x291.toNat : Int) ≤ 57)))
    else
    some false
   ) : Option (Bool)).bind fun t416 =>
   ((
    if t416 then (
     chkE (s229.2.length + 1 ≤ 1073741824) <|
     some (s229.2 ++ [x291]))
    else
    some s229.2
   ) : Option (List UInt8)).bind fun t439 =>
   some t439
  ) : Option (List UInt8)).bind fun t387 =>
  some (.inl ((s229.1 + 1), t387)))
 else
 some (.inr s229.2)
theorem lm88_1 (s_0 : Bytes) (s229 : Nat × List UInt8) : LeO (T11.E.m88_1 s_0 s229) (T11.m88_1 s_0 s229) := by
 unfold T11.E.m88_1 T11.m88_1
 repeat' with_reducible first|exact lq0 _|refine lq1 (fun _=>?_) _|refine lq2 (fun _ _=>?_) _|refine lq3 (fun _ _=>?_) (fun _=>?_) _|refine lq4 (fun _ _=>?_) (fun _=>?_) _|refine lq5 ?_|refine lq6 ?_|refine lq7 ?_ ?_|(refine lq8 ?_ (fun _=>?_) (fun _=>?_)<;>try dsimp only)|refine lq9 ?_ fun _=>?_|refine lq10 ?_
def m88 (s_0 : Bytes) : Option (Bytes) :=
 chkE (s_0.length ≤ 1073741824) <|
 (loopE (m88_1 s_0) (0, ([] : List UInt8))).bind fun e224 =>
 some e224
theorem lm88 (s_0 : Bytes) : LeO (T11.E.m88 s_0) (T11.m88 s_0) := by
 unfold T11.E.m88 T11.m88
 repeat' with_reducible first|exact lq0 _|exact lm88_1 _ _|refine lq1 (fun _=>?_) _|refine lq2 (fun _ _=>?_) _|refine lq3 (fun _ _=>?_) (fun _=>?_) _|refine lq4 (fun _ _=>?_) (fun _=>?_) _|refine lq5 ?_|refine lq6 ?_|refine lq7 ?_ ?_|(refine lq8 ?_ (fun _=>?_) (fun _=>?_)<;>try dsimp only)|refine lq9 ?_ fun _=>?_|refine lq10 ?_
def m86_1 (vals : List Int) (s20 : Nat) : Option ((Nat) ⊕ ((Unit) ⊕ Int)) :=
 if (s20 : Int) < (vals.length : Int) then (
  (vals[s20]?).bind fun x40 =>
  if x40 ≠ 0 then (
   some (.inr (.inr x40)))
  else
  some (.inl (s20 + 1)))
 else
 some (.inr (.inl ()))
theorem lm86_1 (vals : List Int) (s20 : Nat) : LeO (T11.E.m86_1 vals s20) (T11.m86_1 vals s20) := by
 unfold T11.E.m86_1 T11.m86_1
 repeat' with_reducible first|exact lq0 _|refine lq1 (fun _=>?_) _|refine lq2 (fun _ _=>?_) _|refine lq3 (fun _ _=>?_) (fun _=>?_) _|refine lq4 (fun _ _=>?_) (fun _=>?_) _|refine lq5 ?_|refine lq6 ?_|refine lq7 ?_ ?_|(refine lq8 ?_ (fun _=>?_) (fun _=>?_)<;>try dsimp only)|refine lq9 ?_ fun _=>?_|refine lq10 ?_
def m86 (vals : List Int) : Option (Int) :=
 (loopE (m86_1 vals) 0).bind fun e16 => match e16 with
 | .inr z => some z
 | .inl t19 =>
 some 0
theorem lm86 (vals : List Int) : LeO (T11.E.m86 vals) (T11.m86 vals) := by
 unfold T11.E.m86 T11.m86
 repeat' with_reducible first|exact lq0 _|exact lm86_1 _ _|refine lq1 (fun _=>?_) _|refine lq2 (fun _ _=>?_) _|refine lq3 (fun _ _=>?_) (fun _=>?_) _|refine lq4 (fun _ _=>?_) (fun _=>?_) _|refine lq5 ?_|refine lq6 ?_|refine lq7 ?_ ?_|(refine lq8 ?_ (fun _=>?_) (fun _=>?_)<;>try dsimp only)|refine lq9 ?_ fun _=>?_|refine lq10 ?_
def m55 (a_0 : Bytes) (b_1 : Bytes) : Option (Int) :=
 (m88 a_0).bind fun r1 =>
 (m88 b_1).bind fun r4 =>
 (m87 r1 r4).bind fun r7 =>
 (m87 a_0 b_1).bind fun r10 =>
 (m86 ([r7, r10] : List Int)).bind fun r18 =>
 some r18
theorem lm55 (a_0 : Bytes) (b_1 : Bytes) : LeO (T11.E.m55 a_0 b_1) (T11.m55 a_0 b_1) := by
 unfold T11.E.m55 T11.m55
 repeat' with_reducible first|exact lq0 _|exact lm88 _|exact lm87 _ _|exact lm86 _|refine lq1 (fun _=>?_) _|refine lq2 (fun _ _=>?_) _|refine lq3 (fun _ _=>?_) (fun _=>?_) _|refine lq4 (fun _ _=>?_) (fun _=>?_) _|refine lq5 ?_|refine lq6 ?_|refine lq7 ?_ ?_|(refine lq8 ?_ (fun _=>?_) (fun _=>?_)<;>try dsimp only)|refine lq9 ?_ fun _=>?_|refine lq10 ?_
def m32 (a_0 : Bytes) (b_1 : Bytes) : Option (Bool) :=
 (m55 a_0 b_1).bind fun r1 =>
 some (decide (r1 < 0))
theorem lm32 (a_0 : Bytes) (b_1 : Bytes) : LeO (T11.E.m32 a_0 b_1) (T11.m32 a_0 b_1) := by
 unfold T11.E.m32 T11.m32
 repeat' with_reducible first|exact lq0 _|exact lm55 _ _|refine lq1 (fun _=>?_) _|refine lq2 (fun _ _=>?_) _|refine lq3 (fun _ _=>?_) (fun _=>?_) _|refine lq4 (fun _ _=>?_) (fun _=>?_) _|refine lq5 ?_|refine lq6 ?_|refine lq7 ?_ ?_|(refine lq8 ?_ (fun _=>?_) (fun _=>?_)<;>try dsimp only)|refine lq9 ?_ fun _=>?_|refine lq10 ?_
def m116 (l_0 : List Bytes) : Option (Bool) :=
 ((
  if (l_0.length : Int) ≤ 8 then (
   (m80 l_0 (m117)).bind fun r21 =>
   if r21 then (
    (m118 l_0 (m32)).bind fun r27 =>
    some r27)
   else
   some false)
  else
  some false
 ) : Option (Bool)).bind fun t15 =>
 some t15
theorem lm116 (l_0 : List Bytes) : LeO (T11.E.m116 l_0) (T11.m116 l_0) := by
 unfold T11.E.m116 T11.m116
 repeat' with_reducible first|exact lq0 _|refine lm80 _ (fun _ =>?_)|exact lm117 _|refine lm118 _ (fun _ _ =>?_)|exact lm32 _ _|refine lq1 (fun _=>?_) _|refine lq2 (fun _ _=>?_) _|refine lq3 (fun _ _=>?_) (fun _=>?_) _|refine lq4 (fun _ _=>?_) (fun _=>?_) _|refine lq5 ?_|refine lq6 ?_|refine lq7 ?_ ?_|(refine lq8 ?_ (fun _=>?_) (fun _=>?_)<;>try dsimp only)|refine lq9 ?_ fun _=>?_|refine lq10 ?_
def m156 (x_0 : Place) (f0_ : Place → Option Bool) : Option (Bool) :=
 (f0_ x_0).bind fun r4 =>
 some (!r4)
theorem lm156 (x_0 : Place) {f0_ f0_' : Place → Option Bool} (hf0_ : ∀ y0, LeO (f0_ y0) (f0_' y0)) : LeO (T11.E.m156 x_0 f0_) (T11.m156 x_0 f0_') := by
 unfold T11.E.m156 T11.m156
 repeat' with_reducible first|exact lq0 _|exact hf0_ _|refine lq1 (fun _=>?_) _|refine lq2 (fun _ _=>?_) _|refine lq3 (fun _ _=>?_) (fun _=>?_) _|refine lq4 (fun _ _=>?_) (fun _=>?_) _|refine lq5 ?_|refine lq6 ?_|refine lq7 ?_ ?_|(refine lq8 ?_ (fun _=>?_) (fun _=>?_)<;>try dsimp only)|refine lq9 ?_ fun _=>?_|refine lq10 ?_
def m201_1 (s_0 : List Place) (f_1 : Place → Option Bool) (s23 : Nat) : Option ((Nat) ⊕ ((Unit) ⊕ Int)) :=
 if (s23 : Int) < (s_0.length : Int) then (
  (s_0[s23]?).bind fun x46 =>
  (f_1 x46).bind fun r54 =>
  if r54 then (
   some (.inr (.inr (s23 : Int))))
  else
  some (.inl (s23 + 1)))
 else
 some (.inr (.inl ()))
theorem lm201_1 (s_0 : List Place) {f_1 f_1' : Place → Option Bool} (hf_1 : ∀ y0, LeO (f_1 y0) (f_1' y0)) (s23 : Nat) : LeO (T11.E.m201_1 s_0 f_1 s23) (T11.m201_1 s_0 f_1' s23) := by
 unfold T11.E.m201_1 T11.m201_1
 repeat' with_reducible first|exact lq0 _|exact hf_1 _|refine lq1 (fun _=>?_) _|refine lq2 (fun _ _=>?_) _|refine lq3 (fun _ _=>?_) (fun _=>?_) _|refine lq4 (fun _ _=>?_) (fun _=>?_) _|refine lq5 ?_|refine lq6 ?_|refine lq7 ?_ ?_|(refine lq8 ?_ (fun _=>?_) (fun _=>?_)<;>try dsimp only)|refine lq9 ?_ fun _=>?_|refine lq10 ?_
def m201 (s_0 : List Place) (f_1 : Place → Option Bool) : Option (Int) :=
 (loopE (m201_1 s_0 f_1) 0).bind fun e19 => match e19 with
 | .inr z => some z
 | .inl t22 =>
 some (-1)
theorem lm201 (s_0 : List Place) {f_1 f_1' : Place → Option Bool} (hf_1 : ∀ y0, LeO (f_1 y0) (f_1' y0)) : LeO (T11.E.m201 s_0 f_1) (T11.m201 s_0 f_1') := by
 unfold T11.E.m201 T11.m201
 repeat' with_reducible first|exact lq0 _|refine lm201_1 _ (fun _ =>?_) _|exact hf_1 _|refine lq1 (fun _=>?_) _|refine lq2 (fun _ _=>?_) _|refine lq3 (fun _ _=>?_) (fun _=>?_) _|refine lq4 (fun _ _=>?_) (fun _=>?_) _|refine lq5 ?_|refine lq6 ?_|refine lq7 ?_ ?_|(refine lq8 ?_ (fun _=>?_) (fun _=>?_)<;>try dsimp only)|refine lq9 ?_ fun _=>?_|refine lq10 ?_
def m155 (s_0 : List Place) (f_1 : Place → Option Bool) : Option (Bool) :=
 (m201 s_0 f_1).bind fun r1 =>
 some (decide (0 ≤ r1))
theorem lm155 (s_0 : List Place) {f_1 f_1' : Place → Option Bool} (hf_1 : ∀ y0, LeO (f_1 y0) (f_1' y0)) : LeO (T11.E.m155 s_0 f_1) (T11.m155 s_0 f_1') := by
 unfold T11.E.m155 T11.m155
 repeat' with_reducible first|exact lq0 _|refine lm201 _ (fun _ =>?_)|exact hf_1 _|refine lq1 (fun _=>?_) _|refine lq2 (fun _ _=>?_) _|refine lq3 (fun _ _=>?_) (fun _=>?_) _|refine lq4 (fun _ _=>?_) (fun _=>?_) _|refine lq5 ?_|refine lq6 ?_|refine lq7 ?_ ?_|(refine lq8 ?_ (fun _=>?_) (fun _=>?_)<;>try dsimp only)|refine lq9 ?_ fun _=>?_|refine lq10 ?_
def m119 (l_0 : List Place) (right : Place → Option Bool) : Option (Bool) :=
 (m155 l_0 (fun x0_ => m156 x0_ right)).bind fun r5 =>
 some (!r5)
theorem lm119 (l_0 : List Place) {right right' : Place → Option Bool} (hright : ∀ y0, LeO (right y0) (right' y0)) : LeO (T11.E.m119 l_0 right) (T11.m119 l_0 right') := by
 unfold T11.E.m119 T11.m119
 repeat' with_reducible first|exact lq0 _|refine lm155 _ (fun _ =>?_)|refine lm156 _ (fun _ =>?_)|exact hright _|refine lq1 (fun _=>?_) _|refine lq2 (fun _ _=>?_) _|refine lq3 (fun _ _=>?_) (fun _=>?_) _|refine lq4 (fun _ _=>?_) (fun _=>?_) _|refine lq5 ?_|refine lq6 ?_|refine lq7 ?_ ?_|(refine lq8 ?_ (fun _=>?_) (fun _=>?_)<;>try dsimp only)|refine lq9 ?_ fun _=>?_|refine lq10 ?_
def m120 (p_0 : Place) : Option (Bool) :=
 ((
  (m72 p_0.volume 1 999).bind fun r19 =>
  if r19 then (
   (m72 p_0.from_ 1 p_0.to_).bind fun r24 =>
   if r24 then (
    some (decide (p_0.to_ ≤ 9999)))
   else
   some false)
  else
  some false
 ) : Option (Bool)).bind fun t16 =>
 some t16
theorem lm120 (p_0 : Place) : LeO (T11.E.m120 p_0) (T11.m120 p_0) := by
 unfold T11.E.m120 T11.m120
 repeat' with_reducible first|exact lq0 _|exact lm72 _ _ _|refine lq1 (fun _=>?_) _|refine lq2 (fun _ _=>?_) _|refine lq3 (fun _ _=>?_) (fun _=>?_) _|refine lq4 (fun _ _=>?_) (fun _=>?_) _|refine lq5 ?_|refine lq6 ?_|refine lq7 ?_ ?_|(refine lq8 ?_ (fun _=>?_) (fun _=>?_)<;>try dsimp only)|refine lq9 ?_ fun _=>?_|refine lq10 ?_
def m121_1 (l_0 : List Place) (before : Place → Place → Option Bool) (s36 : Nat) : Option ((Nat) ⊕ ((Unit) ⊕ Bool)) :=
 if (s36 : Int) < (l_0.length : Int) then (
  ((
   if 0 < (s36 : Int) then (
    (l_0[((s36 : Int) - 1).toNat]?).bind fun x100 =>
    (l_0[s36]?).bind fun x108 =>
    (before x100 x108).bind fun r116 =>
    some (!r116))
   else
   some false
  ) : Option (Bool)).bind fun t95 =>
  if t95 then (
   some (.inr (.inr false)))
  else
  some (.inl (s36 + 1)))
 else
 some (.inr (.inl ()))
theorem lm121_1 (l_0 : List Place) {before before' : Place → Place → Option Bool} (hbefore : ∀ y0 y1, LeO (before y0 y1) (before' y0 y1)) (s36 : Nat) : LeO (T11.E.m121_1 l_0 before s36) (T11.m121_1 l_0 before' s36) := by
 unfold T11.E.m121_1 T11.m121_1
 repeat' with_reducible first|exact lq0 _|exact hbefore _ _|refine lq1 (fun _=>?_) _|refine lq2 (fun _ _=>?_) _|refine lq3 (fun _ _=>?_) (fun _=>?_) _|refine lq4 (fun _ _=>?_) (fun _=>?_) _|refine lq5 ?_|refine lq6 ?_|refine lq7 ?_ ?_|(refine lq8 ?_ (fun _=>?_) (fun _=>?_)<;>try dsimp only)|refine lq9 ?_ fun _=>?_|refine lq10 ?_
def m121 (l_0 : List Place) (before : Place → Place → Option Bool) : Option (Bool) :=
 (loopE (m121_1 l_0 before) 0).bind fun e32 => match e32 with
 | .inr z => some z
 | .inl t35 =>
 some true
theorem lm121 (l_0 : List Place) {before before' : Place → Place → Option Bool} (hbefore : ∀ y0 y1, LeO (before y0 y1) (before' y0 y1)) : LeO (T11.E.m121 l_0 before) (T11.m121 l_0 before') := by
 unfold T11.E.m121 T11.m121
 repeat' with_reducible first|exact lq0 _|refine lm121_1 _ (fun _ _ =>?_) _|exact hbefore _ _|refine lq1 (fun _=>?_) _|refine lq2 (fun _ _=>?_) _|refine lq3 (fun _ _=>?_) (fun _=>?_) _|refine lq4 (fun _ _=>?_) (fun _=>?_) _|refine lq5 ?_|refine lq6 ?_|refine lq7 ?_ ?_|(refine lq8 ?_ (fun _=>?_) (fun _=>?_)<;>try dsimp only)|refine lq9 ?_ fun _=>?_|refine lq10 ?_
def m96 (p_0 : Place) (o_1 : Place) : Option (Bool) :=
 ((
  if p_0.volume < o_1.volume then (
   some true)
  else
  if p_0.volume = o_1.volume then (
   chkE (-9223372036854775808 ≤ (p_0.to_ + 1) ∧ (p_0.to_ + 1) ≤ 9223372036854775807) <|
   some (decide ((p_0.to_ + 1) < o_1.from_)))
  else
  some false
 ) : Option (Bool)).bind fun t15 =>
 some t15
theorem lm96 (p_0 : Place) (o_1 : Place) : LeO (T11.E.m96 p_0 o_1) (T11.m96 p_0 o_1) := by
 unfold T11.E.m96 T11.m96
 repeat' with_reducible first|exact lq0 _|refine lq1 (fun _=>?_) _|refine lq2 (fun _ _=>?_) _|refine lq3 (fun _ _=>?_) (fun _=>?_) _|refine lq4 (fun _ _=>?_) (fun _=>?_) _|refine lq5 ?_|refine lq6 ?_|refine lq7 ?_ ?_|(refine lq8 ?_ (fun _=>?_) (fun _=>?_)<;>try dsimp only)|refine lq9 ?_ fun _=>?_|refine lq10 ?_
def m78 (h_0 : Heading) : Option (Bool) :=
 ((
  (m117 h_0.name).bind fun r48 =>
  if r48 then (
   (m116 h_0.variants).bind fun r53 =>
   if r53 then (
    (m116 h_0.also).bind fun r58 =>
    if r58 then (
     if (h_0.places.length : Int) ≤ 30 then (
      (m119 h_0.places (m120)).bind fun r66 =>
      if r66 then (
       (m121 h_0.places (m96)).bind fun r72 =>
       some r72)
      else
      some false)
     else
     some false)
    else
    some false)
   else
   some false)
  else
  some false
 ) : Option (Bool)).bind fun t45 =>
 some t45
theorem lm78 (h_0 : Heading) : LeO (T11.E.m78 h_0) (T11.m78 h_0) := by
 unfold T11.E.m78 T11.m78
 repeat' with_reducible first|exact lq0 _|exact lm117 _|exact lm116 _|refine lm119 _ (fun _ =>?_)|exact lm120 _|refine lm121 _ (fun _ _ =>?_)|exact lm96 _ _|refine lq1 (fun _=>?_) _|refine lq2 (fun _ _=>?_) _|refine lq3 (fun _ _=>?_) (fun _=>?_) _|refine lq4 (fun _ _=>?_) (fun _=>?_) _|refine lq5 ?_|refine lq6 ?_|refine lq7 ?_ ?_|(refine lq8 ?_ (fun _=>?_) (fun _=>?_)<;>try dsimp only)|refine lq9 ?_ fun _=>?_|refine lq10 ?_
def m81 (s_0 : Bytes) (f0_ : List (Bytes × Int)) (f1_ : List Heading) (f2_ : Heading) : Option (Bool) :=
 ((
  if (lkp f0_ s_0).isSome then (
   chkE (0 ≤ ((lkp f0_ s_0).getD (0 : Int))) <|
   (f1_[((lkp f0_ s_0).getD (0 : Int)).toNat]?).bind fun x43 =>
   if x43.name = s_0 then (
    some (decide (s_0 ≠ f2_.name)))
   else
   some false)
  else
  some false
 ) : Option (Bool)).bind fun t36 =>
 some t36
theorem lm81 (s_0 : Bytes) (f0_ : List (Bytes × Int)) (f1_ : List Heading) (f2_ : Heading) : LeO (T11.E.m81 s_0 f0_ f1_ f2_) (T11.m81 s_0 f0_ f1_ f2_) := by
 unfold T11.E.m81 T11.m81
 repeat' with_reducible first|exact lq0 _|refine lq1 (fun _=>?_) _|refine lq2 (fun _ _=>?_) _|refine lq3 (fun _ _=>?_) (fun _=>?_) _|refine lq4 (fun _ _=>?_) (fun _=>?_) _|refine lq5 ?_|refine lq6 ?_|refine lq7 ?_ ?_|(refine lq8 ?_ (fun _=>?_) (fun _=>?_)<;>try dsimp only)|refine lq9 ?_ fun _=>?_|refine lq10 ?_
def m79 (h_0 : Heading) (f0_ : List (Bytes × Int)) (f1_ : List Heading) : Option (Bool) :=
 (m80 h_0.also (fun x0_ => m81 x0_ f0_ f1_ h_0)).bind fun r14 =>
 some r14
theorem lm79 (h_0 : Heading) (f0_ : List (Bytes × Int)) (f1_ : List Heading) : LeO (T11.E.m79 h_0 f0_ f1_) (T11.m79 h_0 f0_ f1_) := by
 unfold T11.E.m79 T11.m79
 repeat' with_reducible first|exact lq0 _|refine lm80 _ (fun _ =>?_)|exact lm81 _ _ _ _|refine lq1 (fun _=>?_) _|refine lq2 (fun _ _=>?_) _|refine lq3 (fun _ _=>?_) (fun _=>?_) _|refine lq4 (fun _ _=>?_) (fun _=>?_) _|refine lq5 ?_|refine lq6 ?_|refine lq7 ?_ ?_|(refine lq8 ?_ (fun _=>?_) (fun _=>?_)<;>try dsimp only)|refine lq9 ?_ fun _=>?_|refine lq10 ?_
def m82_1 (l_0 : List Heading) (before : Heading → Heading → Option Bool) (s56 : Nat) : Option ((Nat) ⊕ ((Unit) ⊕ Bool)) :=
 if (s56 : Int) < (l_0.length : Int) then (
  ((
   if 0 < (s56 : Int) then (
    (l_0[((s56 : Int) - 1).toNat]?).bind fun x160 =>
    (l_0[s56]?).bind fun x178 =>
    (before x160 x178).bind fun r196 =>
    some (!r196))
   else
   some false
  ) : Option (Bool)).bind fun t155 =>
  if t155 then (
   some (.inr (.inr false)))
  else
  some (.inl (s56 + 1)))
 else
 some (.inr (.inl ()))
theorem lm82_1 (l_0 : List Heading) {before before' : Heading → Heading → Option Bool} (hbefore : ∀ y0 y1, LeO (before y0 y1) (before' y0 y1)) (s56 : Nat) : LeO (T11.E.m82_1 l_0 before s56) (T11.m82_1 l_0 before' s56) := by
 unfold T11.E.m82_1 T11.m82_1
 repeat' with_reducible first|exact lq0 _|exact hbefore _ _|refine lq1 (fun _=>?_) _|refine lq2 (fun _ _=>?_) _|refine lq3 (fun _ _=>?_) (fun _=>?_) _|refine lq4 (fun _ _=>?_) (fun _=>?_) _|refine lq5 ?_|refine lq6 ?_|refine lq7 ?_ ?_|(refine lq8 ?_ (fun _=>?_) (fun _=>?_)<;>try dsimp only)|refine lq9 ?_ fun _=>?_|refine lq10 ?_
def m82 (l_0 : List Heading) (before : Heading → Heading → Option Bool) : Option (Bool) :=
 (loopE (m82_1 l_0 before) 0).bind fun e52 => match e52 with
 | .inr z => some z
 | .inl t55 =>
 some true
theorem lm82 (l_0 : List Heading) {before before' : Heading → Heading → Option Bool} (hbefore : ∀ y0 y1, LeO (before y0 y1) (before' y0 y1)) : LeO (T11.E.m82 l_0 before) (T11.m82 l_0 before') := by
 unfold T11.E.m82 T11.m82
 repeat' with_reducible first|exact lq0 _|refine lm82_1 _ (fun _ _ =>?_) _|exact hbefore _ _|refine lq1 (fun _=>?_) _|refine lq2 (fun _ _=>?_) _|refine lq3 (fun _ _=>?_) (fun _=>?_) _|refine lq4 (fun _ _=>?_) (fun _=>?_) _|refine lq5 ?_|refine lq6 ?_|refine lq7 ?_ ?_|(refine lq8 ?_ (fun _=>?_) (fun _=>?_)<;>try dsimp only)|refine lq9 ?_ fun _=>?_|refine lq10 ?_
def m83 (a_0 : Heading) (b_1 : Heading) : Option (Bool) :=
 (m32 a_0.name b_1.name).bind fun r25 =>
 some r25
theorem lm83 (a_0 : Heading) (b_1 : Heading) : LeO (T11.E.m83 a_0 b_1) (T11.m83 a_0 b_1) := by
 unfold T11.E.m83 T11.m83
 repeat' with_reducible first|exact lq0 _|exact lm32 _ _|refine lq1 (fun _=>?_) _|refine lq2 (fun _ _=>?_) _|refine lq3 (fun _ _=>?_) (fun _=>?_) _|refine lq4 (fun _ _=>?_) (fun _=>?_) _|refine lq5 ?_|refine lq6 ?_|refine lq7 ?_ ?_|(refine lq8 ?_ (fun _=>?_) (fun _=>?_)<;>try dsimp only)|refine lq9 ?_ fun _=>?_|refine lq10 ?_
def m50_2 (x316 : Heading) (s223 : Nat × (List (Bytes × Int))) (s523 : Nat × (List (Bytes × Int))) : Option ((Nat × (List (Bytes × Int))) ⊕ (((List (Bytes × Int))) ⊕ ((Nat × (List (Bytes × Int))) ⊕ ((List (Bytes × Int)))))) :=
 if (s523.1 : Int) < (x316.variants.length : Int) then (
  (x316.variants[s523.1]?).bind fun x548 =>
  ((
   if (lkp s523.2 x548).isSome then (
    some (.inl 6))
   else
   some (.inr (put s523.2 x548 (s223.1 : Int)))
  ) : Option ((Nat) ⊕ ((List (Bytes × Int))))).bind fun t559 => match t559 with
  | .inl t562 => (
   some (.inr (.inr (.inl (t562, s523.2)))))
  | .inr t563 => (
   some (.inl ((s523.1 + 1), t563))))
 else
 some (.inr (.inl s523.2))
theorem lm50_2 (x316 : Heading) (s223 : Nat × (List (Bytes × Int))) (s523 : Nat × (List (Bytes × Int))) : LeO (T11.E.m50_2 x316 s223 s523) (T11.m50_2 x316 s223 s523) := by
 unfold T11.E.m50_2 T11.m50_2
 repeat' with_reducible first|exact lq0 _|refine lq1 (fun _=>?_) _|refine lq2 (fun _ _=>?_) _|refine lq3 (fun _ _=>?_) (fun _=>?_) _|refine lq4 (fun _ _=>?_) (fun _=>?_) _|refine lq5 ?_|refine lq6 ?_|refine lq7 ?_ ?_|(refine lq8 ?_ (fun _=>?_) (fun _=>?_)<;>try dsimp only)|refine lq9 ?_ fun _=>?_|refine lq10 ?_
def m50_1 (l_0 : List Heading) (s223 : Nat × (List (Bytes × Int))) : Option ((Nat × (List (Bytes × Int))) ⊕ (((List (Bytes × Int))) ⊕ ((List (Bytes × Int)) × Int))) :=
 if (s223.1 : Int) < (l_0.length : Int) then (
  (l_0[s223.1]?).bind fun x316 =>
  ((
   ((
    if (lkp s223.2 x316.name).isSome then (
     some (.inl 6))
    else
    some (.inr (put s223.2 x316.name (s223.1 : Int)))
   ) : Option ((Nat) ⊕ ((List (Bytes × Int))))).bind fun t465 => match t465 with
   | .inl t468 => (
    some (.inl (t468, s223.2)))
   | .inr t469 => (
    (loopE (m50_2 x316 s223) (0, t469)).bind fun e519 => match e519 with
    | .inr z => some z
    | .inl t522 =>
    some (.inr t522))
  ) : Option ((Nat × (List (Bytes × Int))) ⊕ ((List (Bytes × Int))))).bind fun t457 => match t457 with
  | .inl t460 => (
   some (.inr (.inr ([], (t460.1 : Int)))))
  | .inr t461 => (
   some (.inl ((s223.1 + 1), t461))))
 else
 some (.inr (.inl s223.2))
theorem lm50_1 (l_0 : List Heading) (s223 : Nat × (List (Bytes × Int))) : LeO (T11.E.m50_1 l_0 s223) (T11.m50_1 l_0 s223) := by
 unfold T11.E.m50_1 T11.m50_1
 repeat' with_reducible first|exact lq0 _|exact lm50_2 _ _ _|refine lq1 (fun _=>?_) _|refine lq2 (fun _ _=>?_) _|refine lq3 (fun _ _=>?_) (fun _=>?_) _|refine lq4 (fun _ _=>?_) (fun _=>?_) _|refine lq5 ?_|refine lq6 ?_|refine lq7 ?_ ?_|(refine lq8 ?_ (fun _=>?_) (fun _=>?_)<;>try dsimp only)|refine lq9 ?_ fun _=>?_|refine lq10 ?_
def m50 (l_0 : List Heading) : Option ((List (Bytes × Int)) × Int) :=
 if 60 < (l_0.length : Int) then (
  some ([], 3))
 else
 (m77 l_0 (m78)).bind fun r30 =>
 if r30 then (
  (loopE (m50_1 l_0) (0, ([] : List (Bytes × Int)))).bind fun e218 => match e218 with
  | .inr z => some z
  | .inl t221 =>
  ((
   (m77 l_0 (fun x0_ => m79 x0_ t221 l_0)).bind fun r590 =>
   if r590 then (
    (m82 l_0 (m83)).bind fun r596 =>
    some (!r596))
   else
   some true
  ) : Option (Bool)).bind fun t586 =>
  if t586 then (
   some ([], 1))
  else
  some (t221, 0))
 else
 some ([], 1)
theorem lm50 (l_0 : List Heading) : LeO (T11.E.m50 l_0) (T11.m50 l_0) := by
 unfold T11.E.m50 T11.m50
 repeat' with_reducible first|exact lq0 _|refine lm77 _ (fun _ =>?_)|exact lm78 _|exact lm50_1 _ _|exact lm79 _ _ _|refine lm82 _ (fun _ _ =>?_)|exact lm83 _ _|refine lq1 (fun _=>?_) _|refine lq2 (fun _ _=>?_) _|refine lq3 (fun _ _=>?_) (fun _=>?_) _|refine lq4 (fun _ _=>?_) (fun _=>?_) _|refine lq5 ?_|refine lq6 ?_|refine lq7 ?_ ?_|(refine lq8 ?_ (fun _=>?_) (fun _=>?_)<;>try dsimp only)|refine lq9 ?_ fun _=>?_|refine lq10 ?_
def m85F : Nat → Bytes → (List (Bytes × Bytes)) → Option (Bytes)
 | 0, _, _ => none
 | n_ + 1, s_0, f0_ =>
 ((
  if (lkp f0_ s_0).isSome then (
   some (decide (((lkp f0_ s_0).getD ([] : Bytes)) ≠ s_0)))
  else
  some false
 ) : Option (Bool)).bind fun t4 =>
 if t4 then (
  (m85F n_ ((lkp f0_ s_0).getD ([] : Bytes)) f0_).bind fun r18 =>
  some r18)
 else
 some s_0
theorem lm85F (n_ : Nat) : ∀ x0 x1, LeO (T11.E.m85F n_ x0 x1) (T11.m85F n_ x0 x1) := by
 induction n_ with
 | zero => intro x0 x1 r h; cases h
 | succ n_ ih =>
  intro x0 x1
  rw [T11.E.m85F, T11.m85F]
  repeat' with_reducible first|exact lq0 _|exact ih _ _|refine lq1 (fun _=>?_) _|refine lq2 (fun _ _=>?_) _|refine lq3 (fun _ _=>?_) (fun _=>?_) _|refine lq4 (fun _ _=>?_) (fun _=>?_) _|refine lq5 ?_|refine lq6 ?_|refine lq7 ?_ ?_|(refine lq8 ?_ (fun _=>?_) (fun _=>?_)<;>try dsimp only)|refine lq9 ?_ fun _=>?_|refine lq10 ?_
theorem sm85F (n_ : Nat) : ∀ x0 x1, LeO (T11.m85F n_ x0 x1) (T11.m85F (n_ + 1) x0 x1) := by
 induction n_ with
 | zero => intro x0 x1 r h; cases h
 | succ n_ ih =>
  intro x0 x1
  rw [T11.m85F, T11.m85F]
  repeat' with_reducible first|exact lq0 _|exact ih _ _|refine lq1 (fun _=>?_) _|refine lq2 (fun _ _=>?_) _|refine lq3 (fun _ _=>?_) (fun _=>?_) _|refine lq4 (fun _ _=>?_) (fun _=>?_) _|refine lq5 ?_|refine lq6 ?_|refine lq7 ?_ ?_|(refine lq8 ?_ (fun _=>?_) (fun _=>?_)<;>try dsimp only)|refine lq9 ?_ fun _=>?_|refine lq10 ?_
def m85 (s_0 : Bytes) (f0_ : List (Bytes × Bytes)) : Option (Bytes) := m85F 100000 s_0 f0_
theorem lm85  (s_0 : Bytes) (f0_ : List (Bytes × Bytes)) : LeO (T11.E.m85 s_0 f0_) (T11.m85 s_0 f0_) := (lm85F 100000 s_0 f0_).trans (LeO.recO (fun n => sm85F n s_0 f0_) 100000)
def m53 (l_0 : List (Bytes × Bytes)) (s_1 : Bytes) : Option (Bytes) :=
 (m85 s_1 l_0).bind fun r6 =>
 some r6
theorem lm53 (l_0 : List (Bytes × Bytes)) (s_1 : Bytes) : LeO (T11.E.m53 l_0 s_1) (T11.m53 l_0 s_1) := by
 unfold T11.E.m53 T11.m53
 repeat' with_reducible first|exact lq0 _|exact lm85 _ _|refine lq1 (fun _=>?_) _|refine lq2 (fun _ _=>?_) _|refine lq3 (fun _ _=>?_) (fun _=>?_) _|refine lq4 (fun _ _=>?_) (fun _=>?_) _|refine lq5 ?_|refine lq6 ?_|refine lq7 ?_ ?_|(refine lq8 ?_ (fun _=>?_) (fun _=>?_)<;>try dsimp only)|refine lq9 ?_ fun _=>?_|refine lq10 ?_
def m54_1 (x_0 : List Bytes) (cmp : Bytes → Bytes → Option Int) (s36 : Nat × Bytes) : Option ((Nat × Bytes) ⊕ (Bytes)) :=
 if (s36.1 : Int) < (x_0.length : Int) then (
  (x_0[s36.1]?).bind fun x59 =>
  (cmp x59 s36.2).bind fun r66 =>
  ((
   if r66 < 0 then (
    some x59)
   else
   some s36.2
  ) : Option (Bytes)).bind fun t72 =>
  some (.inl ((s36.1 + 1), t72)))
 else
 some (.inr s36.2)
theorem lm54_1 (x_0 : List Bytes) {cmp cmp' : Bytes → Bytes → Option Int} (hcmp : ∀ y0 y1, LeO (cmp y0 y1) (cmp' y0 y1)) (s36 : Nat × Bytes) : LeO (T11.E.m54_1 x_0 cmp s36) (T11.m54_1 x_0 cmp' s36) := by
 unfold T11.E.m54_1 T11.m54_1
 repeat' with_reducible first|exact lq0 _|exact hcmp _ _|refine lq1 (fun _=>?_) _|refine lq2 (fun _ _=>?_) _|refine lq3 (fun _ _=>?_) (fun _=>?_) _|refine lq4 (fun _ _=>?_) (fun _=>?_) _|refine lq5 ?_|refine lq6 ?_|refine lq7 ?_ ?_|(refine lq8 ?_ (fun _=>?_) (fun _=>?_)<;>try dsimp only)|refine lq9 ?_ fun _=>?_|refine lq10 ?_
def m54 (x_0 : List Bytes) (cmp : Bytes → Bytes → Option Int) : Option (Bytes) :=
 if (x_0.length : Int) < 1 then (
  none)
 else
 (x_0[0]?).bind fun x7 =>
 (loopE (m54_1 x_0 cmp) (1, x7)).bind fun e33 =>
 some e33
theorem lm54 (x_0 : List Bytes) {cmp cmp' : Bytes → Bytes → Option Int} (hcmp : ∀ y0 y1, LeO (cmp y0 y1) (cmp' y0 y1)) : LeO (T11.E.m54 x_0 cmp) (T11.m54 x_0 cmp') := by
 unfold T11.E.m54 T11.m54
 repeat' with_reducible first|exact lq0 _|refine lm54_1 _ (fun _ _ =>?_) _|exact hcmp _ _|refine lq1 (fun _=>?_) _|refine lq2 (fun _ _=>?_) _|refine lq3 (fun _ _=>?_) (fun _=>?_) _|refine lq4 (fun _ _=>?_) (fun _=>?_) _|refine lq5 ?_|refine lq6 ?_|refine lq7 ?_ ?_|(refine lq8 ?_ (fun _=>?_) (fun _=>?_)<;>try dsimp only)|refine lq9 ?_ fun _=>?_|refine lq10 ?_
def m56_1 (lists : List (List Bytes)) (s127 : Nat × Nat) : Option ((Nat × Nat) ⊕ (Nat)) :=
 if (s127.2 : Int) < (lists.length : Int) then (
  (lists[s127.2]?).bind fun x153 =>
  chkE (-9223372036854775808 ≤ ((s127.1 : Int) + (x153.length : Int)) ∧ ((s127.1 : Int) + (x153.length : Int)) ≤ 9223372036854775807) <|
  if ((s127.1 : Int) + (x153.length : Int)) < 0 then (
   none)
  else
  some (.inl ((s127.1 + x153.length), (s127.2 + 1))))
 else
 some (.inr s127.1)
theorem lm56_1 (lists : List (List Bytes)) (s127 : Nat × Nat) : LeO (T11.E.m56_1 lists s127) (T11.m56_1 lists s127) := by
 unfold T11.E.m56_1 T11.m56_1
 repeat' with_reducible first|exact lq0 _|refine lq1 (fun _=>?_) _|refine lq2 (fun _ _=>?_) _|refine lq3 (fun _ _=>?_) (fun _=>?_) _|refine lq4 (fun _ _=>?_) (fun _=>?_) _|refine lq5 ?_|refine lq6 ?_|refine lq7 ?_ ?_|(refine lq8 ?_ (fun _=>?_) (fun _=>?_)<;>try dsimp only)|refine lq9 ?_ fun _=>?_|refine lq10 ?_
def m56_2 (lists : List (List Bytes)) (s248 : Nat × List Bytes) : Option ((Nat × List Bytes) ⊕ (List Bytes)) :=
 if (s248.1 : Int) < (lists.length : Int) then (
  (lists[s248.1]?).bind fun x275 =>
  chkE (s248.2.length + x275.length ≤ 1073741824) <|
  some (.inl ((s248.1 + 1), (s248.2 ++ x275))))
 else
 some (.inr s248.2)
theorem lm56_2 (lists : List (List Bytes)) (s248 : Nat × List Bytes) : LeO (T11.E.m56_2 lists s248) (T11.m56_2 lists s248) := by
 unfold T11.E.m56_2 T11.m56_2
 repeat' with_reducible first|exact lq0 _|refine lq1 (fun _=>?_) _|refine lq2 (fun _ _=>?_) _|refine lq3 (fun _ _=>?_) (fun _=>?_) _|refine lq4 (fun _ _=>?_) (fun _=>?_) _|refine lq5 ?_|refine lq6 ?_|refine lq7 ?_ ?_|(refine lq8 ?_ (fun _=>?_) (fun _=>?_)<;>try dsimp only)|refine lq9 ?_ fun _=>?_|refine lq10 ?_
def m56 (but : Bytes) (lists : List (List Bytes)) : Option (List Bytes) :=
 ((
  (loopE (m56_1 lists) (0, 0)).bind fun e124 =>
  chkE (e124 ≤ 1073741824) <|
  (loopE (m56_2 lists) (0, ([] : List Bytes))).bind fun e243 =>
  some e243
 ) : Option (List Bytes)).bind fun t98 =>
 (sortG (m55) t98).bind fun l292 =>
 some ((Lib.compact l292).filter fun x => !decide (x = but))
theorem lm56 (but : Bytes) (lists : List (List Bytes)) : LeO (T11.E.m56 but lists) (T11.m56 but lists) := by
 unfold T11.E.m56 T11.m56
 repeat' with_reducible first|exact lq0 _|exact lm56_1 _ _|exact lm56_2 _ _|exact lm55 _ _|refine lq1 (fun _=>?_) _|refine lq2 (fun _ _=>?_) _|refine lq3 (fun _ _=>?_) (fun _=>?_) _|refine lq4 (fun _ _=>?_) (fun _=>?_) _|refine lq5 ?_|refine lq6 ?_|refine lq7 ?_ ?_|(refine lq8 ?_ (fun _=>?_) (fun _=>?_)<;>try dsimp only)|refine lq9 ?_ fun _=>?_|refine lq10 ?_
def m95 (a_0 : Place) (b_1 : Place) : Option (Int) :=
 chkE (-9223372036854775808 ≤ (a_0.volume - b_1.volume) ∧ (a_0.volume - b_1.volume) ≤ 9223372036854775807) <|
 chkE (-9223372036854775808 ≤ (a_0.from_ - b_1.from_) ∧ (a_0.from_ - b_1.from_) ≤ 9223372036854775807) <|
 (m86 ([(a_0.volume - b_1.volume), (a_0.from_ - b_1.from_)] : List Int)).bind fun r16 =>
 some r16
theorem lm95 (a_0 : Place) (b_1 : Place) : LeO (T11.E.m95 a_0 b_1) (T11.m95 a_0 b_1) := by
 unfold T11.E.m95 T11.m95
 repeat' with_reducible first|exact lq0 _|exact lm86 _|refine lq1 (fun _=>?_) _|refine lq2 (fun _ _=>?_) _|refine lq3 (fun _ _=>?_) (fun _=>?_) _|refine lq4 (fun _ _=>?_) (fun _=>?_) _|refine lq5 ?_|refine lq6 ?_|refine lq7 ?_ ?_|(refine lq8 ?_ (fun _=>?_) (fun _=>?_)<;>try dsimp only)|refine lq9 ?_ fun _=>?_|refine lq10 ?_
def m57_1 (l_0 : List Place) (l1 : List Place) (s181 : Nat × Int × Int × Int × List Place) : Option ((Nat × Int × Int × Int × List Place) ⊕ (Int × Int × Int × List Place)) :=
 if (s181.1 : Int) < (l_0.length : Int) then (
  (l1[s181.1]?).bind fun x230 =>
  ((
   if (⟨s181.2.1, s181.2.2.1, s181.2.2.2.1⟩ : Place) = (⟨0, 0, 0⟩ : Place) then (
    some false)
   else
   (m96 (⟨s181.2.1, s181.2.2.1, s181.2.2.2.1⟩ : Place) x230).bind fun r249 =>
   some (!r249)
  ) : Option (Bool)).bind fun t243 =>
  ((
   if t243 then (
    chkE (0 ≤ ((s181.2.2.2.2.length : Int) - 1)) <|
    (s181.2.2.2.2[((s181.2.2.2.2.length : Int) - 1).toNat]?).bind fun x276 =>
    some (s181.2.2.2.2.set (((s181.2.2.2.2.length : Int) - 1).toNat) (⟨x276.volume, x276.from_, (max s181.2.2.2.1 x230.to_)⟩ : Place)))
   else
   chkE (s181.2.2.2.2.length + 1 ≤ 1073741824) <|
   some (s181.2.2.2.2 ++ [x230])
  ) : Option (List Place)).bind fun t267 =>
  chkE (0 ≤ ((t267.length : Int) - 1)) <|
  (t267[((t267.length : Int) - 1).toNat]?).bind fun x289 =>
  some (.inl ((s181.1 + 1), x289.volume, x289.from_, x289.to_, t267)))
 else
 some (.inr (s181.2.1, s181.2.2.1, s181.2.2.2.1, s181.2.2.2.2))
theorem lm57_1 (l_0 : List Place) (l1 : List Place) (s181 : Nat × Int × Int × Int × List Place) : LeO (T11.E.m57_1 l_0 l1 s181) (T11.m57_1 l_0 l1 s181) := by
 unfold T11.E.m57_1 T11.m57_1
 repeat' with_reducible first|exact lq0 _|exact lm96 _ _|refine lq1 (fun _=>?_) _|refine lq2 (fun _ _=>?_) _|refine lq3 (fun _ _=>?_) (fun _=>?_) _|refine lq4 (fun _ _=>?_) (fun _=>?_) _|refine lq5 ?_|refine lq6 ?_|refine lq7 ?_ ?_|(refine lq8 ?_ (fun _=>?_) (fun _=>?_)<;>try dsimp only)|refine lq9 ?_ fun _=>?_|refine lq10 ?_
def m57 (l_0 : List Place) : Option (List Place) :=
 sortV (m95) l_0 fun l1 =>
 (loopE (m57_1 l_0 l1) (0, 0, 0, 0, ([] : List Place))).bind fun e176 =>
 some e176.2.2.2
theorem lm57 (l_0 : List Place) : LeO (T11.E.m57 l_0) (T11.m57 l_0) := by
 unfold T11.E.m57 T11.m57
 repeat' with_reducible first|exact lq0 _|exact lm95 _ _|exact lm57_1 _ _ _|refine lq1 (fun _=>?_) _|refine lq2 (fun _ _=>?_) _|refine lq3 (fun _ _=>?_) (fun _=>?_) _|refine lq4 (fun _ _=>?_) (fun _=>?_) _|refine lq5 ?_|refine lq6 ?_|refine lq7 ?_ ?_|(refine lq8 ?_ (fun _=>?_) (fun _=>?_)<;>try dsimp only)|refine lq9 ?_ fun _=>?_|refine lq10 ?_
def m59 (a_0 : Heading) (b_1 : Heading) : Option (Int) :=
 (m55 a_0.name b_1.name).bind fun r25 =>
 some r25
theorem lm59 (a_0 : Heading) (b_1 : Heading) : LeO (T11.E.m59 a_0 b_1) (T11.m59 a_0 b_1) := by
 unfold T11.E.m59 T11.m59
 repeat' with_reducible first|exact lq0 _|exact lm55 _ _|refine lq1 (fun _=>?_) _|refine lq2 (fun _ _=>?_) _|refine lq3 (fun _ _=>?_) (fun _=>?_) _|refine lq4 (fun _ _=>?_) (fun _=>?_) _|refine lq5 ?_|refine lq6 ?_|refine lq7 ?_ ?_|(refine lq8 ?_ (fun _=>?_) (fun _=>?_)<;>try dsimp only)|refine lq9 ?_ fun _=>?_|refine lq10 ?_
def m18_3 (x1289 : Heading) (s1525 : Nat × (List (Bytes × Bytes))) : Option ((Nat × (List (Bytes × Bytes))) ⊕ ((List (Bytes × Bytes)))) :=
 if (s1525.1 : Int) < (x1289.variants.length : Int) then (
  (x1289.variants[s1525.1]?).bind fun x1554 =>
  ((
   ((
    (m53 s1525.2 x1554).bind fun r1592 =>
    (m53 s1525.2 x1289.name).bind fun r1595 =>
    some (put s1525.2 r1592 r1595)
   ) : Option ((List (Bytes × Bytes)))).bind fun t1589 =>
   some t1589
  ) : Option ((List (Bytes × Bytes)))).bind fun t1571 =>
  some (.inl ((s1525.1 + 1), t1571)))
 else
 some (.inr s1525.2)
theorem lm18_3 (x1289 : Heading) (s1525 : Nat × (List (Bytes × Bytes))) : LeO (T11.E.m18_3 x1289 s1525) (T11.m18_3 x1289 s1525) := by
 unfold T11.E.m18_3 T11.m18_3
 repeat' with_reducible first|exact lq0 _|exact lm53 _ _|refine lq1 (fun _=>?_) _|refine lq2 (fun _ _=>?_) _|refine lq3 (fun _ _=>?_) (fun _=>?_) _|refine lq4 (fun _ _=>?_) (fun _=>?_) _|refine lq5 ?_|refine lq6 ?_|refine lq7 ?_ ?_|(refine lq8 ?_ (fun _=>?_) (fun _=>?_)<;>try dsimp only)|refine lq9 ?_ fun _=>?_|refine lq10 ?_
def m18_2 (x967 : List Heading) (s1188 : Nat × (List (Bytes × Bytes))) : Option ((Nat × (List (Bytes × Bytes))) ⊕ ((List (Bytes × Bytes)))) :=
 if (s1188.1 : Int) < (x967.length : Int) then (
  (x967[s1188.1]?).bind fun x1289 =>
  ((
   ((
    ((
     (m53 s1188.2 x1289.name).bind fun r1471 =>
     some (put s1188.2 r1471 r1471)
    ) : Option ((List (Bytes × Bytes)))).bind fun t1468 =>
    some t1468
   ) : Option ((List (Bytes × Bytes)))).bind fun t1456 =>
   (loopE (m18_3 x1289) (0, t1456)).bind fun e1522 =>
   some e1522
  ) : Option ((List (Bytes × Bytes)))).bind fun t1447 =>
  some (.inl ((s1188.1 + 1), t1447)))
 else
 some (.inr s1188.2)
theorem lm18_2 (x967 : List Heading) (s1188 : Nat × (List (Bytes × Bytes))) : LeO (T11.E.m18_2 x967 s1188) (T11.m18_2 x967 s1188) := by
 unfold T11.E.m18_2 T11.m18_2
 repeat' with_reducible first|exact lq0 _|exact lm53 _ _|exact lm18_3 _ _|refine lq1 (fun _=>?_) _|refine lq2 (fun _ _=>?_) _|refine lq3 (fun _ _=>?_) (fun _=>?_) _|refine lq4 (fun _ _=>?_) (fun _=>?_) _|refine lq5 ?_|refine lq6 ?_|refine lq7 ?_ ?_|(refine lq8 ?_ (fun _=>?_) (fun _=>?_)<;>try dsimp only)|refine lq9 ?_ fun _=>?_|refine lq10 ?_
def m18_1 (indices : List (List Heading)) (s727 : Nat × List Heading × (List (Bytes × Bytes))) : Option ((Nat × List Heading × (List (Bytes × Bytes))) ⊕ ((List Heading × (List (Bytes × Bytes))) ⊕ (List Heading × Int))) :=
 if (s727.1 : Int) < (indices.length : Int) then (
  (indices[s727.1]?).bind fun x967 =>
  (m50 x967).bind fun r979 =>
  if r979.2 ≠ 0 then (
   some (.inr (.inr (([] : List Heading), r979.2))))
  else
  (loopE (m18_2 x967) (0, s727.2.2)).bind fun e1184 =>
  chkE (s727.2.1.length + x967.length ≤ 1073741824) <|
  some (.inl ((s727.1 + 1), (s727.2.1 ++ x967), e1184)))
 else
 some (.inr (.inl (s727.2.1, s727.2.2)))
theorem lm18_1 (indices : List (List Heading)) (s727 : Nat × List Heading × (List (Bytes × Bytes))) : LeO (T11.E.m18_1 indices s727) (T11.m18_1 indices s727) := by
 unfold T11.E.m18_1 T11.m18_1
 repeat' with_reducible first|exact lq0 _|exact lm50 _|exact lm18_2 _ _|refine lq1 (fun _=>?_) _|refine lq2 (fun _ _=>?_) _|refine lq3 (fun _ _=>?_) (fun _=>?_) _|refine lq4 (fun _ _=>?_) (fun _=>?_) _|refine lq5 ?_|refine lq6 ?_|refine lq7 ?_ ?_|(refine lq8 ?_ (fun _=>?_) (fun _=>?_)<;>try dsimp only)|refine lq9 ?_ fun _=>?_|refine lq10 ?_
def m18_4 (t720 : List Heading × (List (Bytes × Bytes))) (s1878 : Nat × (List (Bytes × grown))) : Option ((Nat × (List (Bytes × grown))) ⊕ ((List (Bytes × grown)))) :=
 if (s1878.1 : Int) < (t720.1.length : Int) then (
  (t720.1[s1878.1]?).bind fun x1969 =>
  (m53 t720.2 x1969.name).bind fun r1991 =>
  ((
   if (lkp s1878.2 r1991).isSome then (
    some s1878.2)
   else
   some (put s1878.2 r1991 zeroG)
  ) : Option ((List (Bytes × grown)))).bind fun t1999 =>
  (lkp t1999 r1991).bind fun y2010 =>
  chkE (y2010.heads.length + ([x1969.name] : List Bytes).length ≤ 1073741824) <|
  chkE (y2010.heading.variants.length + x1969.variants.length ≤ 1073741824) <|
  chkE (y2010.heading.also.length + x1969.also.length ≤ 1073741824) <|
  chkE (y2010.heading.places.length + x1969.places.length ≤ 1073741824) <|
  some (.inl ((s1878.1 + 1), (put t1999 r1991 (⟨⟨y2010.heading.name, (y2010.heading.variants ++ x1969.variants), (y2010.heading.also ++ x1969.also), (y2010.heading.places ++ x1969.places)⟩, (y2010.heads ++ ([x1969.name] : List Bytes))⟩ : grown)))))
 else
 some (.inr s1878.2)
theorem lm18_4 (t720 : List Heading × (List (Bytes × Bytes))) (s1878 : Nat × (List (Bytes × grown))) : LeO (T11.E.m18_4 t720 s1878) (T11.m18_4 t720 s1878) := by
 unfold T11.E.m18_4 T11.m18_4
 repeat' with_reducible first|exact lq0 _|exact lm53 _ _|refine lq1 (fun _=>?_) _|refine lq2 (fun _ _=>?_) _|refine lq3 (fun _ _=>?_) (fun _=>?_) _|refine lq4 (fun _ _=>?_) (fun _=>?_) _|refine lq5 ?_|refine lq6 ?_|refine lq7 ?_ ?_|(refine lq8 ?_ (fun _=>?_) (fun _=>?_)<;>try dsimp only)|refine lq9 ?_ fun _=>?_|refine lq10 ?_
def m18_9 (q2811 : Bytes × grown) (t720 : List Heading × (List (Bytes × Bytes))) (s2127 : (List (Bytes × grown))) (s3149 : Nat × List Bytes) : Option ((Nat × List Bytes) ⊕ (List Bytes)) :=
 if (s3149.1 : Int) < (q2811.2.heading.also.length : Int) then (
  (q2811.2.heading.also[s3149.1]?).bind fun x3190 =>
  (m53 t720.2 x3190).bind fun r3198 =>
  (lkp s2127 r3198).bind fun y3201 =>
  chkE (s3149.2.length + 1 ≤ 1073741824) <|
  some (.inl ((s3149.1 + 1), (s3149.2 ++ [y3201.heading.name]))))
 else
 some (.inr s3149.2)
theorem lm18_9 (q2811 : Bytes × grown) (t720 : List Heading × (List (Bytes × Bytes))) (s2127 : (List (Bytes × grown))) (s3149 : Nat × List Bytes) : LeO (T11.E.m18_9 q2811 t720 s2127 s3149) (T11.m18_9 q2811 t720 s2127 s3149) := by
 unfold T11.E.m18_9 T11.m18_9
 repeat' with_reducible first|exact lq0 _|exact lm53 _ _|refine lq1 (fun _=>?_) _|refine lq2 (fun _ _=>?_) _|refine lq3 (fun _ _=>?_) (fun _=>?_) _|refine lq4 (fun _ _=>?_) (fun _=>?_) _|refine lq5 ?_|refine lq6 ?_|refine lq7 ?_ ?_|(refine lq8 ?_ (fun _=>?_) (fun _=>?_)<;>try dsimp only)|refine lq9 ?_ fun _=>?_|refine lq10 ?_
def m18_8  (s2778 : List Heading) : Option (List Heading × Int) :=
 if 60 < (s2778.length : Int) then (
  some (([] : List Heading), 3))
 else
 chkE (s2778.Nodup) <|
 (sortG (m59) s2778).bind fun l2801 =>
 some (l2801, 0)
theorem lm18_8 (s2778 : List Heading) : LeO (T11.E.m18_8 s2778) (T11.m18_8 s2778) := by
 unfold T11.E.m18_8 T11.m18_8
 repeat' with_reducible first|exact lq0 _|exact lm59 _ _|refine lq1 (fun _=>?_) _|refine lq2 (fun _ _=>?_) _|refine lq3 (fun _ _=>?_) (fun _=>?_) _|refine lq4 (fun _ _=>?_) (fun _=>?_) _|refine lq5 ?_|refine lq6 ?_|refine lq7 ?_ ?_|(refine lq8 ?_ (fun _=>?_) (fun _=>?_)<;>try dsimp only)|refine lq9 ?_ fun _=>?_|refine lq10 ?_
def m18_7 (s2127 : (List (Bytes × grown))) (t720 : List Heading × (List (Bytes × Bytes))) (s2778 : List Heading) (i2785 : Nat) : Option ((List Heading) ⊕ (List Heading × Int)) :=
 (s2127[i2785]?).bind fun q2811 =>
 (m56 q2811.2.heading.name ([q2811.2.heading.variants, q2811.2.heads] : List (List Bytes))).bind fun r3013 =>
 (m57 q2811.2.heading.places).bind fun r3023 =>
 (loopE (m18_9 q2811 t720 s2127) (0, ([] : List Bytes))).bind fun e3144 =>
 (m56 q2811.2.heading.name ([e3144] : List (List Bytes))).bind fun r3229 =>
 ((
  if 8 < (r3013.length : Int) then (
   some true)
  else
  if 8 < (r3229.length : Int) then (
   some true)
  else
  some (decide (30 < (r3023.length : Int)))
 ) : Option (Bool)).bind fun t3242 =>
 if t3242 then (
  some (.inr (([] : List Heading), 3)))
 else
 chkE (s2778.length + 1 ≤ 1073741824) <|
 some (.inl (s2778 ++ [(⟨q2811.2.heading.name, r3013, r3229, r3023⟩ : Heading)]))
theorem lm18_7 (s2127 : (List (Bytes × grown))) (t720 : List Heading × (List (Bytes × Bytes))) (s2778 : List Heading) (i2785 : Nat) : LeO (T11.E.m18_7 s2127 t720 s2778 i2785) (T11.m18_7 s2127 t720 s2778 i2785) := by
 unfold T11.E.m18_7 T11.m18_7
 repeat' with_reducible first|exact lq0 _|exact lm56 _ _|exact lm57 _|exact lm18_9 _ _ _ _|refine lq1 (fun _=>?_) _|refine lq2 (fun _ _=>?_) _|refine lq3 (fun _ _=>?_) (fun _=>?_) _|refine lq4 (fun _ _=>?_) (fun _=>?_) _|refine lq5 ?_|refine lq6 ?_|refine lq7 ?_ ?_|(refine lq8 ?_ (fun _=>?_) (fun _=>?_)<;>try dsimp only)|refine lq9 ?_ fun _=>?_|refine lq10 ?_
def m18_6 (t720 : List Heading × (List (Bytes × Bytes))) (s2127 : (List (Bytes × grown))) : Option (List Heading × Int) :=
 ordE s2127.length (m18_7 s2127 t720) m18_8 ([] : List Heading)
theorem lm18_6 (t720 : List Heading × (List (Bytes × Bytes))) (s2127 : (List (Bytes × grown))) : LeO (T11.E.m18_6 t720 s2127) (T11.m18_6 t720 s2127) := by
 unfold T11.E.m18_6 T11.m18_6
 repeat' with_reducible first|exact lq0 _|exact lm18_7 _ _ _ _|exact lm18_8 _|refine lq1 (fun _=>?_) _|refine lq2 (fun _ _=>?_) _|refine lq3 (fun _ _=>?_) (fun _=>?_) _|refine lq4 (fun _ _=>?_) (fun _=>?_) _|refine lq5 ?_|refine lq6 ?_|refine lq7 ?_ ?_|(refine lq8 ?_ (fun _=>?_) (fun _=>?_)<;>try dsimp only)|refine lq9 ?_ fun _=>?_|refine lq10 ?_
def m18_5  (s2127 : (List (Bytes × grown))) (i2131 : Nat) : Option (((List (Bytes × grown))) ⊕ (List Heading × Int)) :=
 (s2127[i2131]?).bind fun q3269 =>
 (m54 q3269.2.heads (m55)).bind fun r3288 =>
 some (.inl (s2127.set i2131 (q3269.1, (⟨⟨r3288, q3269.2.heading.variants, q3269.2.heading.also, q3269.2.heading.places⟩, q3269.2.heads⟩ : grown))))
theorem lm18_5 (s2127 : (List (Bytes × grown))) (i2131 : Nat) : LeO (T11.E.m18_5 s2127 i2131) (T11.m18_5 s2127 i2131) := by
 unfold T11.E.m18_5 T11.m18_5
 repeat' with_reducible first|exact lq0 _|refine lm54 _ (fun _ _ =>?_)|exact lm55 _ _|refine lq1 (fun _=>?_) _|refine lq2 (fun _ _=>?_) _|refine lq3 (fun _ _=>?_) (fun _=>?_) _|refine lq4 (fun _ _=>?_) (fun _=>?_) _|refine lq5 ?_|refine lq6 ?_|refine lq7 ?_ ?_|(refine lq8 ?_ (fun _=>?_) (fun _=>?_)<;>try dsimp only)|refine lq9 ?_ fun _=>?_|refine lq10 ?_
def m18 (indices : List (List Heading)) : Option (List Heading × Int) :=
 if 12 < (indices.length : Int) then (
  some (([] : List Heading), 3))
 else
 (loopE (m18_1 indices) (0, ([] : List Heading), ([] : List (Bytes × Bytes)))).bind fun e717 => match e717 with
 | .inr z => some z
 | .inl t720 =>
 (loopE (m18_4 t720) (0, ([] : List (Bytes × grown)))).bind fun e1872 =>
 ordE e1872.length m18_5 (m18_6 t720) e1872
theorem lm18 (indices : List (List Heading)) : LeO (T11.E.m18 indices) (T11.m18 indices) := by
 unfold T11.E.m18 T11.m18
 repeat' with_reducible first|exact lq0 _|exact lm18_1 _ _|exact lm18_4 _ _|exact lm18_5 _ _|exact lm18_6 _ _|refine lq1 (fun _=>?_) _|refine lq2 (fun _ _=>?_) _|refine lq3 (fun _ _=>?_) (fun _=>?_) _|refine lq4 (fun _ _=>?_) (fun _=>?_) _|refine lq5 ?_|refine lq6 ?_|refine lq7 ?_ ?_|(refine lq8 ?_ (fun _=>?_) (fun _=>?_)<;>try dsimp only)|refine lq9 ?_ fun _=>?_|refine lq10 ?_
def m139 (p_0 : Place) : Option (Bytes) :=
 (m179 p_0.volume).bind fun r4 =>
 chkE (r4.length + [47].length ≤ 1073741824) <|
 (m179 p_0.from_).bind fun r9 =>
 chkE ((r4 ++ [47]).length + r9.length ≤ 1073741824) <|
 ((
  if p_0.from_ < p_0.to_ then (
   (m179 p_0.to_).bind fun r30 =>
   chkE ([45].length + r30.length ≤ 1073741824) <|
   chkE (((r4 ++ [47]) ++ r9).length + ([45] ++ r30).length ≤ 1073741824) <|
   some (((r4 ++ [47]) ++ r9) ++ ([45] ++ r30)))
  else
  some ((r4 ++ [47]) ++ r9)
 ) : Option (Bytes)).bind fun t25 =>
 some t25
theorem lm139 (p_0 : Place) : LeO (T11.E.m139 p_0) (T11.m139 p_0) := by
 unfold T11.E.m139 T11.m139
 repeat' with_reducible first|exact lq0 _|exact lm179 _|refine lq1 (fun _=>?_) _|refine lq2 (fun _ _=>?_) _|refine lq3 (fun _ _=>?_) (fun _=>?_) _|refine lq4 (fun _ _=>?_) (fun _=>?_) _|refine lq5 ?_|refine lq6 ?_|refine lq7 ?_ ?_|(refine lq8 ?_ (fun _=>?_) (fun _=>?_)<;>try dsimp only)|refine lq9 ?_ fun _=>?_|refine lq10 ?_
def m100_1 (h_0 : Heading) (s99 : Nat × List Bytes) : Option ((Nat × List Bytes) ⊕ (List Bytes)) :=
 if (s99.1 : Int) < (h_0.places.length : Int) then (
  (h_0.places[s99.1]?).bind fun x131 =>
  (m139 x131).bind fun r142 =>
  chkE ([32].length + r142.length ≤ 1073741824) <|
  chkE (s99.2.length + 1 ≤ 1073741824) <|
  some (.inl ((s99.1 + 1), (s99.2 ++ [([32] ++ r142)]))))
 else
 some (.inr s99.2)
theorem lm100_1 (h_0 : Heading) (s99 : Nat × List Bytes) : LeO (T11.E.m100_1 h_0 s99) (T11.m100_1 h_0 s99) := by
 unfold T11.E.m100_1 T11.m100_1
 repeat' with_reducible first|exact lq0 _|exact lm139 _|refine lq1 (fun _=>?_) _|refine lq2 (fun _ _=>?_) _|refine lq3 (fun _ _=>?_) (fun _=>?_) _|refine lq4 (fun _ _=>?_) (fun _=>?_) _|refine lq5 ?_|refine lq6 ?_|refine lq7 ?_ ?_|(refine lq8 ?_ (fun _=>?_) (fun _=>?_)<;>try dsimp only)|refine lq9 ?_ fun _=>?_|refine lq10 ?_
def m100 (h_0 : Heading) : Option (Bytes) :=
 (loopE (m100_1 h_0) (0, ([] : List Bytes))).bind fun e94 =>
 chkE (h_0.name.length + [58].length ≤ 1073741824) <|
 (m140 e94 [44]).bind fun r155 =>
 chkE ((h_0.name ++ [58]).length + r155.length ≤ 1073741824) <|
 ((
  if 0 < (h_0.also.length : Int) then (
   (m140 h_0.also [44, 32]).bind fun r176 =>
   chkE ([59, 32].length + r176.length ≤ 1073741824) <|
   chkE (((h_0.name ++ [58]) ++ r155).length + ([59, 32] ++ r176).length ≤ 1073741824) <|
   some (((h_0.name ++ [58]) ++ r155) ++ ([59, 32] ++ r176)))
  else
  some ((h_0.name ++ [58]) ++ r155)
 ) : Option (Bytes)).bind fun t171 =>
 some t171
theorem lm100 (h_0 : Heading) : LeO (T11.E.m100 h_0) (T11.m100 h_0) := by
 unfold T11.E.m100 T11.m100
 repeat' with_reducible first|exact lq0 _|exact lm100_1 _ _|exact lm140 _ _|refine lq1 (fun _=>?_) _|refine lq2 (fun _ _=>?_) _|refine lq3 (fun _ _=>?_) (fun _=>?_) _|refine lq4 (fun _ _=>?_) (fun _=>?_) _|refine lq5 ?_|refine lq6 ?_|refine lq7 ?_ ?_|(refine lq8 ?_ (fun _=>?_) (fun _=>?_)<;>try dsimp only)|refine lq9 ?_ fun _=>?_|refine lq10 ?_
def m63_2 (x709 : Heading) (s1078 : Nat × List Bytes × (List (Bytes × Bytes))) : Option ((Nat × List Bytes × (List (Bytes × Bytes))) ⊕ (List Bytes × (List (Bytes × Bytes)))) :=
 if (s1078.1 : Int) < (x709.variants.length : Int) then (
  (x709.variants[s1078.1]?).bind fun x1111 =>
  ((
   chkE (s1078.2.1.length + 1 ≤ 1073741824) <|
   chkE (x1111.length + [32, 61, 32].length ≤ 1073741824) <|
   chkE ((x1111 ++ [32, 61, 32]).length + x709.name.length ≤ 1073741824) <|
   some ((s1078.2.1 ++ [x1111]), (put s1078.2.2 x1111 ((x1111 ++ [32, 61, 32]) ++ x709.name)))
  ) : Option (List Bytes × (List (Bytes × Bytes)))).bind fun t1128 =>
  some (.inl ((s1078.1 + 1), t1128.1, t1128.2)))
 else
 some (.inr (s1078.2.1, s1078.2.2))
theorem lm63_2 (x709 : Heading) (s1078 : Nat × List Bytes × (List (Bytes × Bytes))) : LeO (T11.E.m63_2 x709 s1078) (T11.m63_2 x709 s1078) := by
 unfold T11.E.m63_2 T11.m63_2
 repeat' with_reducible first|exact lq0 _|refine lq1 (fun _=>?_) _|refine lq2 (fun _ _=>?_) _|refine lq3 (fun _ _=>?_) (fun _=>?_) _|refine lq4 (fun _ _=>?_) (fun _=>?_) _|refine lq5 ?_|refine lq6 ?_|refine lq7 ?_ ?_|(refine lq8 ?_ (fun _=>?_) (fun _=>?_)<;>try dsimp only)|refine lq9 ?_ fun _=>?_|refine lq10 ?_
def m63_1 (l_0 : List Heading) (s558 : Nat × List Bytes × (List (Bytes × Bytes))) : Option ((Nat × List Bytes × (List (Bytes × Bytes))) ⊕ (List Bytes × (List (Bytes × Bytes)))) :=
 if (s558.1 : Int) < (l_0.length : Int) then (
  (l_0[s558.1]?).bind fun x709 =>
  ((
   ((
    chkE (s558.2.1.length + 1 ≤ 1073741824) <|
    chkE (x709.name.length + [32, 61, 32].length ≤ 1073741824) <|
    chkE ((x709.name ++ [32, 61, 32]).length + x709.name.length ≤ 1073741824) <|
    some ((s558.2.1 ++ [x709.name]), (put s558.2.2 x709.name ((x709.name ++ [32, 61, 32]) ++ x709.name)))
   ) : Option (List Bytes × (List (Bytes × Bytes)))).bind fun t967 =>
   (loopE (m63_2 x709) (0, t967.1, t967.2)).bind fun e1073 =>
   some (e1073.1, e1073.2)
  ) : Option (List Bytes × (List (Bytes × Bytes)))).bind fun t953 =>
  (m100 x709).bind fun r1152 =>
  some (.inl ((s558.1 + 1), t953.1, (put t953.2 x709.name r1152))))
 else
 some (.inr (s558.2.1, s558.2.2))
theorem lm63_1 (l_0 : List Heading) (s558 : Nat × List Bytes × (List (Bytes × Bytes))) : LeO (T11.E.m63_1 l_0 s558) (T11.m63_1 l_0 s558) := by
 unfold T11.E.m63_1 T11.m63_1
 repeat' with_reducible first|exact lq0 _|exact lm63_2 _ _|exact lm100 _|refine lq1 (fun _=>?_) _|refine lq2 (fun _ _=>?_) _|refine lq3 (fun _ _=>?_) (fun _=>?_) _|refine lq4 (fun _ _=>?_) (fun _=>?_) _|refine lq5 ?_|refine lq6 ?_|refine lq7 ?_ ?_|(refine lq8 ?_ (fun _=>?_) (fun _=>?_)<;>try dsimp only)|refine lq9 ?_ fun _=>?_|refine lq10 ?_
def m63_3 (e552 : List Bytes × (List (Bytes × Bytes))) (l1157 : List Bytes) (s1234 : Nat × Bool × List UInt8) : Option ((Nat × Bool × List UInt8) ⊕ (Bool × List UInt8)) :=
 if (s1234.1 : Int) < (e552.1.length : Int) then (
  (l1157[s1234.1]?).bind fun x1260 =>
  chkE (((lkp e552.2 x1260).getD ([] : Bytes)).length + [10].length ≤ 1073741824) <|
  ((
   chkE (s1234.2.2.length + (((lkp e552.2 x1260).getD ([] : Bytes)) ++ [10]).length ≤ 1073741824) <|
   some ((((lkp e552.2 x1260).getD ([] : Bytes)) ++ [10]).length, true, (s1234.2.2 ++ (((lkp e552.2 x1260).getD ([] : Bytes)) ++ [10])))
  ) : Option (Nat × Bool × List UInt8)).bind fun t1270 =>
  some (.inl ((s1234.1 + 1), t1270.2.1, t1270.2.2)))
 else
 some (.inr (s1234.2.1, s1234.2.2))
theorem lm63_3 (e552 : List Bytes × (List (Bytes × Bytes))) (l1157 : List Bytes) (s1234 : Nat × Bool × List UInt8) : LeO (T11.E.m63_3 e552 l1157 s1234) (T11.m63_3 e552 l1157 s1234) := by
 unfold T11.E.m63_3 T11.m63_3
 repeat' with_reducible first|exact lq0 _|refine lq1 (fun _=>?_) _|refine lq2 (fun _ _=>?_) _|refine lq3 (fun _ _=>?_) (fun _=>?_) _|refine lq4 (fun _ _=>?_) (fun _=>?_) _|refine lq5 ?_|refine lq6 ?_|refine lq7 ?_ ?_|(refine lq8 ?_ (fun _=>?_) (fun _=>?_)<;>try dsimp only)|refine lq9 ?_ fun _=>?_|refine lq10 ?_
def m63 (l_0 : List Heading) : Option (Bytes) :=
 (loopE (m63_1 l_0) (0, ([] : List Bytes), ([] : List (Bytes × Bytes)))).bind fun e552 =>
 (sortG (m55) e552.1).bind fun l1157 =>
 (loopE (m63_3 e552 l1157) (0, false, ([] : List UInt8))).bind fun e1229 =>
 some e1229.2
theorem lm63 (l_0 : List Heading) : LeO (T11.E.m63 l_0) (T11.m63 l_0) := by
 unfold T11.E.m63 T11.m63
 repeat' with_reducible first|exact lq0 _|exact lm63_1 _ _|exact lm55 _ _|exact lm63_3 _ _ _|refine lq1 (fun _=>?_) _|refine lq2 (fun _ _=>?_) _|refine lq3 (fun _ _=>?_) (fun _=>?_) _|refine lq4 (fun _ _=>?_) (fun _=>?_) _|refine lq5 ?_|refine lq6 ?_|refine lq7 ?_ ?_|(refine lq8 ?_ (fun _=>?_) (fun _=>?_)<;>try dsimp only)|refine lq9 ?_ fun _=>?_|refine lq10 ?_
def m25 (l_0 : List Heading) : Option (List UInt8 × Int) :=
 (m50 l_0).bind fun r1 =>
 if r1.2 ≠ 0 then (
  some (([] : List UInt8), r1.2))
 else
 (m63 l_0).bind fun r13 =>
 chkE (r13.length ≤ 1073741824) <|
 some (r13, 0)
theorem lm25 (l_0 : List Heading) : LeO (T11.E.m25 l_0) (T11.m25 l_0) := by
 unfold T11.E.m25 T11.m25
 repeat' with_reducible first|exact lq0 _|exact lm50 _|exact lm63 _|refine lq1 (fun _=>?_) _|refine lq2 (fun _ _=>?_) _|refine lq3 (fun _ _=>?_) (fun _=>?_) _|refine lq4 (fun _ _=>?_) (fun _=>?_) _|refine lq5 ?_|refine lq6 ?_|refine lq7 ?_ ?_|(refine lq8 ?_ (fun _=>?_) (fun _=>?_)<;>try dsimp only)|refine lq9 ?_ fun _=>?_|refine lq10 ?_
def m48  : Option (Bytes) :=
 some [65, 32, 76, 101, 101, 58, 32, 51, 47, 55, 44, 32, 57, 47, 49, 45, 50, 10, 67, 111, 114, 110, 32, 76, 97, 119, 115, 58, 32, 51, 47, 49, 50, 45, 49, 52, 44, 32, 52, 47, 49, 45, 50, 59, 32, 84, 114, 97, 100, 101, 10, 67, 111, 114, 110, 32, 108, 97, 119, 115, 32, 61, 32, 67, 111, 114, 110, 32, 76, 97, 119, 115, 10, 76, 97, 100, 121, 32, 76, 101, 101, 32, 61, 32, 65, 32, 76, 101, 101, 10, 76, 101, 101, 32, 65, 110, 110, 32, 61, 32, 65, 32, 76, 101, 101, 10, 84, 114, 97, 100, 101, 58, 32, 51, 47, 49, 51, 10]
theorem lm48  : LeO (T11.E.m48 ) (T11.m48 ) := by
 unfold T11.E.m48 T11.m48
 repeat' with_reducible first|exact lq0 _|refine lq1 (fun _=>?_) _|refine lq2 (fun _ _=>?_) _|refine lq3 (fun _ _=>?_) (fun _=>?_) _|refine lq4 (fun _ _=>?_) (fun _=>?_) _|refine lq5 ?_|refine lq6 ?_|refine lq7 ?_ ?_|(refine lq8 ?_ (fun _=>?_) (fun _=>?_)<;>try dsimp only)|refine lq9 ?_ fun _=>?_|refine lq10 ?_
def m146 (o_0 : odd) (s_1 : Bytes) : Option (Int ⊕ Unit) :=
 (m189 s_1).bind fun r4 =>
 if r4.2 then (
  some (.inr ()))
 else
 some (.inl r4.1)
theorem lm146 (o_0 : odd) (s_1 : Bytes) : LeO (T11.E.m146 o_0 s_1) (T11.m146 o_0 s_1) := by
 unfold T11.E.m146 T11.m146
 repeat' with_reducible first|exact lq0 _|exact lm189 _|refine lq1 (fun _=>?_) _|refine lq2 (fun _ _=>?_) _|refine lq3 (fun _ _=>?_) (fun _=>?_) _|refine lq4 (fun _ _=>?_) (fun _=>?_) _|refine lq5 ?_|refine lq6 ?_|refine lq7 ?_ ?_|(refine lq8 ?_ (fun _=>?_) (fun _=>?_)<;>try dsimp only)|refine lq9 ?_ fun _=>?_|refine lq10 ?_
def m109 (o_0 : odd) (s_1 : Bytes) : Option (Place ⊕ Unit) :=
 (m68 s_1 [47]).bind fun r5 =>
 (m68 r5.2.1 [45]).bind fun r8 =>
 (m146 o_0 r5.1).bind fun r11 => match r11 with
 | .inl y14 => (
  (m146 o_0 r8.1).bind fun r16 => match r16 with
  | .inl y19 => (
   ((
    if r8.2.2 then (
     (m146 o_0 r8.2.1).bind fun r36 => match r36 with
     | .inl y39 => (
      some (.inl y39))
     | .inr _ => (
      some (.inr (.inr ()))))
    else
    some (.inl y19)
   ) : Option ((Int) ⊕ (Place ⊕ Unit))).bind fun t30 => match t30 with
   | .inr z => some z
   | .inl t33 =>
   some (.inl (⟨y14, y19, t33⟩ : Place)))
  | .inr _ => (
   some (.inr ())))
 | .inr _ => (
  some (.inr ()))
theorem lm109 (o_0 : odd) (s_1 : Bytes) : LeO (T11.E.m109 o_0 s_1) (T11.m109 o_0 s_1) := by
 unfold T11.E.m109 T11.m109
 repeat' with_reducible first|exact lq0 _|exact lm68 _ _|exact lm146 _ _|refine lq1 (fun _=>?_) _|refine lq2 (fun _ _=>?_) _|refine lq3 (fun _ _=>?_) (fun _=>?_) _|refine lq4 (fun _ _=>?_) (fun _=>?_) _|refine lq5 ?_|refine lq6 ?_|refine lq7 ?_ ?_|(refine lq8 ?_ (fun _=>?_) (fun _=>?_)<;>try dsimp only)|refine lq9 ?_ fun _=>?_|refine lq10 ?_
def m69_1 (r238 : List Bytes) (o_0 : odd) (s329 : Nat × List Place) : Option ((Nat × List Place) ⊕ ((List Place) ⊕ ((List Place) ⊕ (Heading ⊕ Unit)))) :=
 if (s329.1 : Int) < (r238.length : Int) then (
  (r238[s329.1]?).bind fun x372 =>
  (m110 x372 [32]).bind fun r380 =>
  (m109 o_0 r380).bind fun r383 => match r383 with
  | .inl y386 => (
   chkE (s329.2.length + ([y386] : List Place).length ≤ 1073741824) <|
   some (.inl ((s329.1 + 1), (s329.2 ++ ([y386] : List Place)))))
  | .inr _ => (
   some (.inr (.inr (.inr (.inr ()))))))
 else
 some (.inr (.inl s329.2))
theorem lm69_1 (r238 : List Bytes) (o_0 : odd) (s329 : Nat × List Place) : LeO (T11.E.m69_1 r238 o_0 s329) (T11.m69_1 r238 o_0 s329) := by
 unfold T11.E.m69_1 T11.m69_1
 repeat' with_reducible first|exact lq0 _|exact lm110 _ _|exact lm109 _ _|refine lq1 (fun _=>?_) _|refine lq2 (fun _ _=>?_) _|refine lq3 (fun _ _=>?_) (fun _=>?_) _|refine lq4 (fun _ _=>?_) (fun _=>?_) _|refine lq5 ?_|refine lq6 ?_|refine lq7 ?_ ?_|(refine lq8 ?_ (fun _=>?_) (fun _=>?_)<;>try dsimp only)|refine lq9 ?_ fun _=>?_|refine lq10 ?_
def m69 (o_0 : odd) : Option (Heading ⊕ Unit) :=
 (m68 o_0.line [58]).bind fun r5 =>
 (m68 r5.2.1 [59, 32]).bind fun r8 =>
 ((
  if r8.1 ≠ [] then (
   (m67 r8.1 [44]).bind fun r238 =>
   (loopE (m69_1 r238 o_0) (0, ([] : List Place))).bind fun e323 => match e323 with
   | .inr z => some z
   | .inl t326 =>
   some (.inl t326))
  else
  some (.inl ([] : List Place))
 ) : Option ((List Place) ⊕ (Heading ⊕ Unit))).bind fun t230 => match t230 with
 | .inr z => some z
 | .inl t233 =>
 ((
  if r8.2.2 then (
   (m67 r8.2.1 [44, 32]).bind fun r425 =>
   some r425)
  else
  some ([] : List Bytes)
 ) : Option (List Bytes)).bind fun t416 =>
 some (.inl (⟨r5.1, ([] : List Bytes), t416, t233⟩ : Heading))
theorem lm69 (o_0 : odd) : LeO (T11.E.m69 o_0) (T11.m69 o_0) := by
 unfold T11.E.m69 T11.m69
 repeat' with_reducible first|exact lq0 _|exact lm68 _ _|exact lm67 _ _|exact lm69_1 _ _ _|refine lq1 (fun _=>?_) _|refine lq2 (fun _ _=>?_) _|refine lq3 (fun _ _=>?_) (fun _=>?_) _|refine lq4 (fun _ _=>?_) (fun _=>?_) _|refine lq5 ?_|refine lq6 ?_|refine lq7 ?_ ?_|(refine lq8 ?_ (fun _=>?_) (fun _=>?_)<;>try dsimp only)|refine lq9 ?_ fun _=>?_|refine lq10 ?_
def m28_1 (r9 : List Bytes) (s385 : Nat × List Heading × (List (Bytes × (List Bytes)))) : Option ((Nat × List Heading × (List (Bytes × (List Bytes)))) ⊕ ((List Heading × (List (Bytes × (List Bytes)))) ⊕ (List Heading × Int))) :=
 if (s385.1 : Int) < ((r9.take (((r9.length : Int) - 1).toNat)).length : Int) then (
  ((r9.take (((r9.length : Int) - 1).toNat))[s385.1]?).bind fun x485 =>
  (m68 x485 [32, 61, 32]).bind fun r493 =>
  ((
   if r493.2.2 then (
    chkE (((lkp s385.2.2 r493.2.1).getD []).length + 1 ≤ 1073741824) <|
    some (.inl (s385.2.1, (put s385.2.2 r493.2.1 (((lkp s385.2.2 r493.2.1).getD []) ++ [r493.1])))))
   else
   (m69 (⟨x485⟩ : odd)).bind fun r583 => match r583 with
   | .inl y586 => (
    chkE (s385.2.1.length + ([y586] : List Heading).length ≤ 1073741824) <|
    some (.inl ((s385.2.1 ++ ([y586] : List Heading)), s385.2.2)))
   | .inr _ => (
    some (.inr (.inr (.inr (([] : List Heading), 4)))))
  ) : Option ((List Heading × (List (Bytes × (List Bytes)))) ⊕ ((Nat × List Heading × (List (Bytes × (List Bytes)))) ⊕ ((List Heading × (List (Bytes × (List Bytes)))) ⊕ (List Heading × Int))))).bind fun t559 => match t559 with
  | .inr z => some z
  | .inl t562 =>
  some (.inl ((s385.1 + 1), t562.1, t562.2)))
 else
 some (.inr (.inl (s385.2.1, s385.2.2)))
theorem lm28_1 (r9 : List Bytes) (s385 : Nat × List Heading × (List (Bytes × (List Bytes)))) : LeO (T11.E.m28_1 r9 s385) (T11.m28_1 r9 s385) := by
 unfold T11.E.m28_1 T11.m28_1
 repeat' with_reducible first|exact lq0 _|exact lm68 _ _|exact lm69 _|refine lq1 (fun _=>?_) _|refine lq2 (fun _ _=>?_) _|refine lq3 (fun _ _=>?_) (fun _=>?_) _|refine lq4 (fun _ _=>?_) (fun _=>?_) _|refine lq5 ?_|refine lq6 ?_|refine lq7 ?_ ?_|(refine lq8 ?_ (fun _=>?_) (fun _=>?_)<;>try dsimp only)|refine lq9 ?_ fun _=>?_|refine lq10 ?_
def m28_2 (t376 : List Heading × (List (Bytes × (List Bytes)))) (s752 : Nat × (List (Bytes × (List Bytes))) × List Heading) : Option ((Nat × (List (Bytes × (List Bytes))) × List Heading) ⊕ (List Heading)) :=
 if (s752.1 : Int) < (t376.1.length : Int) then (
  (s752.2.2[s752.1]?).bind fun x798 =>
  some (.inl ((s752.1 + 1), s752.2.1, (s752.2.2.set s752.1 (⟨x798.name, ((lkp s752.2.1 x798.name).getD []), x798.also, x798.places⟩ : Heading)))))
 else
 some (.inr s752.2.2)
theorem lm28_2 (t376 : List Heading × (List (Bytes × (List Bytes)))) (s752 : Nat × (List (Bytes × (List Bytes))) × List Heading) : LeO (T11.E.m28_2 t376 s752) (T11.m28_2 t376 s752) := by
 unfold T11.E.m28_2 T11.m28_2
 repeat' with_reducible first|exact lq0 _|refine lq1 (fun _=>?_) _|refine lq2 (fun _ _=>?_) _|refine lq3 (fun _ _=>?_) (fun _=>?_) _|refine lq4 (fun _ _=>?_) (fun _=>?_) _|refine lq5 ?_|refine lq6 ?_|refine lq7 ?_ ?_|(refine lq8 ?_ (fun _=>?_) (fun _=>?_)<;>try dsimp only)|refine lq9 ?_ fun _=>?_|refine lq10 ?_
def m28 (b_0 : List UInt8) : Option (List Heading × Int) :=
 if 200000 < (b_0.length : Int) then (
  some (([] : List Heading), 3))
 else
 (m67 b_0 [10]).bind fun r9 =>
 chkE (0 ≤ ((r9.length : Int) - 1)) <|
 chkE (((r9.length : Int) - 1).toNat ≤ r9.length) <|
 (loopE (m28_1 r9) (0, ([] : List Heading), ([] : List (Bytes × (List Bytes))))).bind fun e373 => match e373 with
 | .inr z => some z
 | .inl t376 =>
 (loopE (m28_2 t376) (0, t376.2, t376.1)).bind fun e744 =>
 (m50 e744).bind fun r830 =>
 ((
  if r830.2 ≠ 0 then (
   some true)
  else
  (m63 e744).bind fun r851 =>
  some (decide (r851 ≠ b_0))
 ) : Option (Bool)).bind fun t844 =>
 if t844 then (
  some (([] : List Heading), 4))
 else
 some (e744, 0)
theorem lm28 (b_0 : List UInt8) : LeO (T11.E.m28 b_0) (T11.m28 b_0) := by
 unfold T11.E.m28 T11.m28
 repeat' with_reducible first|exact lq0 _|exact lm67 _ _|exact lm28_1 _ _|exact lm28_2 _ _|exact lm50 _|exact lm63 _|refine lq1 (fun _=>?_) _|refine lq2 (fun _ _=>?_) _|refine lq3 (fun _ _=>?_) (fun _=>?_) _|refine lq4 (fun _ _=>?_) (fun _=>?_) _|refine lq5 ?_|refine lq6 ?_|refine lq7 ?_ ?_|(refine lq8 ?_ (fun _=>?_) (fun _=>?_)<;>try dsimp only)|refine lq9 ?_ fun _=>?_|refine lq10 ?_
def m73 (p_0 : Place) (c_1 : A2_Int) : Option (Bool) :=
 ((
  if p_0.volume = c_1.e0 then (
   (m72 c_1.e1 p_0.from_ p_0.to_).bind fun r18 =>
   some r18)
  else
  some false
 ) : Option (Bool)).bind fun t13 =>
 some t13
theorem lm73 (p_0 : Place) (c_1 : A2_Int) : LeO (T11.E.m73 p_0 c_1) (T11.m73 p_0 c_1) := by
 unfold T11.E.m73 T11.m73
 repeat' with_reducible first|exact lq0 _|exact lm72 _ _ _|refine lq1 (fun _=>?_) _|refine lq2 (fun _ _=>?_) _|refine lq3 (fun _ _=>?_) (fun _=>?_) _|refine lq4 (fun _ _=>?_) (fun _=>?_) _|refine lq5 ?_|refine lq6 ?_|refine lq7 ?_ ?_|(refine lq8 ?_ (fun _=>?_) (fun _=>?_)<;>try dsimp only)|refine lq9 ?_ fun _=>?_|refine lq10 ?_
def m33_2 (x337 : Heading) (volume : Int) (number : Int) (s273 : Nat × List Bytes) (s388 : Nat) : Option ((Nat) ⊕ ((Unit) ⊕ (List Bytes))) :=
 if (s388 : Int) < (x337.places.length : Int) then (
  (x337.places[s388]?).bind fun x419 =>
  (m73 x419 (⟨volume, number⟩ : A2_Int)).bind fun r430 =>
  if r430 then (
   chkE (s273.2.length + 1 ≤ 1073741824) <|
   Option.map (fun z => .inr (.inr z)) (
   some (s273.2 ++ [x337.name])))
  else
  some (.inl (s388 + 1)))
 else
 some (.inr (.inl ()))
theorem lm33_2 (x337 : Heading) (volume : Int) (number : Int) (s273 : Nat × List Bytes) (s388 : Nat) : LeO (T11.E.m33_2 x337 volume number s273 s388) (T11.m33_2 x337 volume number s273 s388) := by
 unfold T11.E.m33_2 T11.m33_2
 repeat' with_reducible first|exact lq0 _|exact lm73 _ _|refine lq1 (fun _=>?_) _|refine lq2 (fun _ _=>?_) _|refine lq3 (fun _ _=>?_) (fun _=>?_) _|refine lq4 (fun _ _=>?_) (fun _=>?_) _|refine lq5 ?_|refine lq6 ?_|refine lq7 ?_ ?_|(refine lq8 ?_ (fun _=>?_) (fun _=>?_)<;>try dsimp only)|refine lq9 ?_ fun _=>?_|refine lq10 ?_
def m33_1 (l_0 : List Heading) (volume : Int) (number : Int) (s273 : Nat × List Bytes) : Option ((Nat × List Bytes) ⊕ (List Bytes)) :=
 if (s273.1 : Int) < (l_0.length : Int) then (
  ((
   (l_0[s273.1]?).bind fun x337 =>
   (loopE (m33_2 x337 volume number s273) 0).bind fun e384 => match e384 with
   | .inr z => some z
   | .inl t387 =>
   some s273.2
  ) : Option (List Bytes)).bind fun t332 =>
  some (.inl ((s273.1 + 1), t332)))
 else
 some (.inr s273.2)
theorem lm33_1 (l_0 : List Heading) (volume : Int) (number : Int) (s273 : Nat × List Bytes) : LeO (T11.E.m33_1 l_0 volume number s273) (T11.m33_1 l_0 volume number s273) := by
 unfold T11.E.m33_1 T11.m33_1
 repeat' with_reducible first|exact lq0 _|exact lm33_2 _ _ _ _ _|refine lq1 (fun _=>?_) _|refine lq2 (fun _ _=>?_) _|refine lq3 (fun _ _=>?_) (fun _=>?_) _|refine lq4 (fun _ _=>?_) (fun _=>?_) _|refine lq5 ?_|refine lq6 ?_|refine lq7 ?_ ?_|(refine lq8 ?_ (fun _=>?_) (fun _=>?_)<;>try dsimp only)|refine lq9 ?_ fun _=>?_|refine lq10 ?_
def m33 (l_0 : List Heading) (volume : Int) (number : Int) : Option (List Bytes × Int) :=
 (m50 l_0).bind fun r1 =>
 if r1.2 ≠ 0 then (
  some (([] : List Bytes), r1.2))
 else
 ((
  (m72 volume 1 999).bind fun r25 =>
  if r25 then (
   (m72 number 1 9999).bind fun r30 =>
   some (!r30))
  else
  some true
 ) : Option (Bool)).bind fun t22 =>
 if t22 then (
  some (([] : List Bytes), 2))
 else
 (loopE (m33_1 l_0 volume number) (0, ([] : List Bytes))).bind fun e268 =>
 some (e268, 0)
theorem lm33 (l_0 : List Heading) (volume : Int) (number : Int) : LeO (T11.E.m33 l_0 volume number) (T11.m33 l_0 volume number) := by
 unfold T11.E.m33 T11.m33
 repeat' with_reducible first|exact lq0 _|exact lm50 _|exact lm72 _ _ _|exact lm33_1 _ _ _ _|refine lq1 (fun _=>?_) _|refine lq2 (fun _ _=>?_) _|refine lq3 (fun _ _=>?_) (fun _=>?_) _|refine lq4 (fun _ _=>?_) (fun _=>?_) _|refine lq5 ?_|refine lq6 ?_|refine lq7 ?_ ?_|(refine lq8 ?_ (fun _=>?_) (fun _=>?_)<;>try dsimp only)|refine lq9 ?_ fun _=>?_|refine lq10 ?_
def m44_1 (a_0 : List Bytes) (b_1 : List Bytes) (s35 : Nat) : Option ((Nat) ⊕ ((Unit) ⊕ Bool)) :=
 if (s35 : Int) < (a_0.length : Int) then (
  (a_0[s35]?).bind fun x64 =>
  (b_1[s35]?).bind fun x72 =>
  if x64 ≠ x72 then (
   some (.inr (.inr false)))
  else
  some (.inl (s35 + 1)))
 else
 some (.inr (.inl ()))
theorem lm44_1 (a_0 : List Bytes) (b_1 : List Bytes) (s35 : Nat) : LeO (T11.E.m44_1 a_0 b_1 s35) (T11.m44_1 a_0 b_1 s35) := by
 unfold T11.E.m44_1 T11.m44_1
 repeat' with_reducible first|exact lq0 _|refine lq1 (fun _=>?_) _|refine lq2 (fun _ _=>?_) _|refine lq3 (fun _ _=>?_) (fun _=>?_) _|refine lq4 (fun _ _=>?_) (fun _=>?_) _|refine lq5 ?_|refine lq6 ?_|refine lq7 ?_ ?_|(refine lq8 ?_ (fun _=>?_) (fun _=>?_)<;>try dsimp only)|refine lq9 ?_ fun _=>?_|refine lq10 ?_
def m44 (a_0 : List Bytes) (b_1 : List Bytes) : Option (Bool) :=
 if (a_0.length : Int) ≠ (b_1.length : Int) then (
  some false)
 else
 (loopE (m44_1 a_0 b_1) 0).bind fun e31 => match e31 with
 | .inr z => some z
 | .inl t34 =>
 some true
theorem lm44 (a_0 : List Bytes) (b_1 : List Bytes) : LeO (T11.E.m44 a_0 b_1) (T11.m44 a_0 b_1) := by
 unfold T11.E.m44 T11.m44
 repeat' with_reducible first|exact lq0 _|exact lm44_1 _ _ _|refine lq1 (fun _=>?_) _|refine lq2 (fun _ _=>?_) _|refine lq3 (fun _ _=>?_) (fun _=>?_) _|refine lq4 (fun _ _=>?_) (fun _=>?_) _|refine lq5 ?_|refine lq6 ?_|refine lq7 ?_ ?_|(refine lq8 ?_ (fun _=>?_) (fun _=>?_)<;>try dsimp only)|refine lq9 ?_ fun _=>?_|refine lq10 ?_
def m40_1 (a_0 : Heading) (b_1 : Heading) (s92 : Nat) : Option ((Nat) ⊕ ((Unit) ⊕ Bool)) :=
 if (s92 : Int) < (a_0.places.length : Int) then (
  (a_0.places[s92]?).bind fun x121 =>
  (b_1.places[s92]?).bind fun x129 =>
  if x121 = x129 then (
   some (.inl (s92 + 1)))
  else
  some (.inr (.inr false)))
 else
 some (.inr (.inl ()))
theorem lm40_1 (a_0 : Heading) (b_1 : Heading) (s92 : Nat) : LeO (T11.E.m40_1 a_0 b_1 s92) (T11.m40_1 a_0 b_1 s92) := by
 unfold T11.E.m40_1 T11.m40_1
 repeat' with_reducible first|exact lq0 _|refine lq1 (fun _=>?_) _|refine lq2 (fun _ _=>?_) _|refine lq3 (fun _ _=>?_) (fun _=>?_) _|refine lq4 (fun _ _=>?_) (fun _=>?_) _|refine lq5 ?_|refine lq6 ?_|refine lq7 ?_ ?_|(refine lq8 ?_ (fun _=>?_) (fun _=>?_)<;>try dsimp only)|refine lq9 ?_ fun _=>?_|refine lq10 ?_
def m40 (a_0 : Heading) (b_1 : Heading) : Option (Bool) :=
 ((
  if a_0.name ≠ b_1.name then (
   some true)
  else
  (m44 a_0.variants b_1.variants).bind fun r46 =>
  if r46 then (
   (m44 a_0.also b_1.also).bind fun r51 =>
   if r51 then (
    some (decide ((a_0.places.length : Int) ≠ (b_1.places.length : Int))))
   else
   some true)
  else
  some true
 ) : Option (Bool)).bind fun t40 =>
 if t40 then (
  some false)
 else
 (loopE (m40_1 a_0 b_1) 0).bind fun e88 => match e88 with
 | .inr z => some z
 | .inl t91 =>
 some true
theorem lm40 (a_0 : Heading) (b_1 : Heading) : LeO (T11.E.m40 a_0 b_1) (T11.m40 a_0 b_1) := by
 unfold T11.E.m40 T11.m40
 repeat' with_reducible first|exact lq0 _|exact lm44 _ _|exact lm40_1 _ _ _|refine lq1 (fun _=>?_) _|refine lq2 (fun _ _=>?_) _|refine lq3 (fun _ _=>?_) (fun _=>?_) _|refine lq4 (fun _ _=>?_) (fun _=>?_) _|refine lq5 ?_|refine lq6 ?_|refine lq7 ?_ ?_|(refine lq8 ?_ (fun _=>?_) (fun _=>?_)<;>try dsimp only)|refine lq9 ?_ fun _=>?_|refine lq10 ?_
def m23_1 (a_0 : List Heading) (b_1 : List Heading) (s58 : Nat) : Option ((Nat) ⊕ ((Unit) ⊕ Bool)) :=
 if (s58 : Int) < (a_0.length : Int) then (
  (a_0[s58]?).bind fun x110 =>
  (b_1[s58]?).bind fun x128 =>
  (m40 x110 x128).bind fun r147 =>
  if r147 then (
   some (.inl (s58 + 1)))
  else
  some (.inr (.inr false)))
 else
 some (.inr (.inl ()))
theorem lm23_1 (a_0 : List Heading) (b_1 : List Heading) (s58 : Nat) : LeO (T11.E.m23_1 a_0 b_1 s58) (T11.m23_1 a_0 b_1 s58) := by
 unfold T11.E.m23_1 T11.m23_1
 repeat' with_reducible first|exact lq0 _|exact lm40 _ _|refine lq1 (fun _=>?_) _|refine lq2 (fun _ _=>?_) _|refine lq3 (fun _ _=>?_) (fun _=>?_) _|refine lq4 (fun _ _=>?_) (fun _=>?_) _|refine lq5 ?_|refine lq6 ?_|refine lq7 ?_ ?_|(refine lq8 ?_ (fun _=>?_) (fun _=>?_)<;>try dsimp only)|refine lq9 ?_ fun _=>?_|refine lq10 ?_
def m23 (a_0 : List Heading) (b_1 : List Heading) : Option (Bool) :=
 if (a_0.length : Int) ≠ (b_1.length : Int) then (
  some false)
 else
 (loopE (m23_1 a_0 b_1) 0).bind fun e54 => match e54 with
 | .inr z => some z
 | .inl t57 =>
 some true
theorem lm23 (a_0 : List Heading) (b_1 : List Heading) : LeO (T11.E.m23 a_0 b_1) (T11.m23 a_0 b_1) := by
 unfold T11.E.m23 T11.m23
 repeat' with_reducible first|exact lq0 _|exact lm23_1 _ _ _|refine lq1 (fun _=>?_) _|refine lq2 (fun _ _=>?_) _|refine lq3 (fun _ _=>?_) (fun _=>?_) _|refine lq4 (fun _ _=>?_) (fun _=>?_) _|refine lq5 ?_|refine lq6 ?_|refine lq7 ?_ ?_|(refine lq8 ?_ (fun _=>?_) (fun _=>?_)<;>try dsimp only)|refine lq9 ?_ fun _=>?_|refine lq10 ?_
def m16  : Option (Bool) :=
 (m47).bind fun r1 =>
 (m18 r1).bind fun r8 =>
 (m25 r8.1).bind fun r15 =>
 (m48).bind fun r22 =>
 chkE (r22.length ≤ 1073741824) <|
 (m28 r22).bind fun r31 =>
 (m33 r8.1 3 13).bind fun r38 =>
 ((
  if r8.2 = 0 then (
   if r15.2 = 0 then (
    if r15.1 = r22 then (
     if r31.2 = 0 then (
      (m23 r8.1 r31.1).bind fun r95 =>
      if r95 then (
       if r38.2 = 0 then (
        (m44 r38.1 ([[67, 111, 114, 110, 32, 76, 97, 119, 115], [84, 114, 97, 100, 101]] : List Bytes)).bind fun r111 =>
        some r111)
       else
       some false)
      else
      some false)
     else
     some false)
    else
    some false)
   else
   some false)
  else
  some false
 ) : Option (Bool)).bind fun t84 =>
 some t84
theorem lm16  : LeO (T11.E.m16 ) (T11.m16 ) := by
 unfold T11.E.m16 T11.m16
 repeat' with_reducible first|exact lq0 _|exact lm47|exact lm18 _|exact lm25 _|exact lm48|exact lm28 _|exact lm33 _ _ _|exact lm23 _ _|exact lm44 _ _|refine lq1 (fun _=>?_) _|refine lq2 (fun _ _=>?_) _|refine lq3 (fun _ _=>?_) (fun _=>?_) _|refine lq4 (fun _ _=>?_) (fun _=>?_) _|refine lq5 ?_|refine lq6 ?_|refine lq7 ?_ ?_|(refine lq8 ?_ (fun _=>?_) (fun _=>?_)<;>try dsimp only)|refine lq9 ?_ fun _=>?_|refine lq10 ?_
def m34 (l_0 : List Heading) : Option (Int) :=
 (m50 l_0).bind fun r1 =>
 some r1.2
theorem lm34 (l_0 : List Heading) : LeO (T11.E.m34 l_0) (T11.m34 l_0) := by
 unfold T11.E.m34 T11.m34
 repeat' with_reducible first|exact lq0 _|exact lm50 _|refine lq1 (fun _=>?_) _|refine lq2 (fun _ _=>?_) _|refine lq3 (fun _ _=>?_) (fun _=>?_) _|refine lq4 (fun _ _=>?_) (fun _=>?_) _|refine lq5 ?_|refine lq6 ?_|refine lq7 ?_ ?_|(refine lq8 ?_ (fun _=>?_) (fun _=>?_)<;>try dsimp only)|refine lq9 ?_ fun _=>?_|refine lq10 ?_
def m112 (s_0 : List Bytes) : Option (List Bytes) :=
 chkE (([] : List Bytes).length + s_0.length ≤ 1073741824) <|
 some (([] : List Bytes) ++ s_0)
theorem lm112 (s_0 : List Bytes) : LeO (T11.E.m112 s_0) (T11.m112 s_0) := by
 unfold T11.E.m112 T11.m112
 repeat' with_reducible first|exact lq0 _|refine lq1 (fun _=>?_) _|refine lq2 (fun _ _=>?_) _|refine lq3 (fun _ _=>?_) (fun _=>?_) _|refine lq4 (fun _ _=>?_) (fun _=>?_) _|refine lq5 ?_|refine lq6 ?_|refine lq7 ?_ ?_|(refine lq8 ?_ (fun _=>?_) (fun _=>?_)<;>try dsimp only)|refine lq9 ?_ fun _=>?_|refine lq10 ?_
def m113 (s_0 : List Place) : Option (List Place) :=
 chkE (([] : List Place).length + s_0.length ≤ 1073741824) <|
 some (([] : List Place) ++ s_0)
theorem lm113 (s_0 : List Place) : LeO (T11.E.m113 s_0) (T11.m113 s_0) := by
 unfold T11.E.m113 T11.m113
 repeat' with_reducible first|exact lq0 _|refine lq1 (fun _=>?_) _|refine lq2 (fun _ _=>?_) _|refine lq3 (fun _ _=>?_) (fun _=>?_) _|refine lq4 (fun _ _=>?_) (fun _=>?_) _|refine lq5 ?_|refine lq6 ?_|refine lq7 ?_ ?_|(refine lq8 ?_ (fun _=>?_) (fun _=>?_)<;>try dsimp only)|refine lq9 ?_ fun _=>?_|refine lq10 ?_
def m75 (h_0 : Heading) : Option (Heading) :=
 (m112 h_0.variants).bind fun r14 =>
 (m112 h_0.also).bind fun r24 =>
 (m113 h_0.places).bind fun r34 =>
 some (⟨h_0.name, r14, r24, r34⟩ : Heading)
theorem lm75 (h_0 : Heading) : LeO (T11.E.m75 h_0) (T11.m75 h_0) := by
 unfold T11.E.m75 T11.m75
 repeat' with_reducible first|exact lq0 _|exact lm112 _|exact lm113 _|refine lq1 (fun _=>?_) _|refine lq2 (fun _ _=>?_) _|refine lq3 (fun _ _=>?_) (fun _=>?_) _|refine lq4 (fun _ _=>?_) (fun _=>?_) _|refine lq5 ?_|refine lq6 ?_|refine lq7 ?_ ?_|(refine lq8 ?_ (fun _=>?_) (fun _=>?_)<;>try dsimp only)|refine lq9 ?_ fun _=>?_|refine lq10 ?_
def m39 (l_0 : List Heading) (name : Bytes) : Option (Heading × Int) :=
 (m50 l_0).bind fun r2 =>
 if r2.2 ≠ 0 then (
  some ((⟨[], ([] : List Bytes), ([] : List Bytes), ([] : List Place)⟩ : Heading), r2.2))
 else
 if (lkp r2.1 name).isSome then (
  chkE (0 ≤ ((lkp r2.1 name).getD (0 : Int))) <|
  (l_0[((lkp r2.1 name).getD (0 : Int)).toNat]?).bind fun x22 =>
  (m75 x22).bind fun r40 =>
  some (r40, 0))
 else
 some ((⟨[], ([] : List Bytes), ([] : List Bytes), ([] : List Place)⟩ : Heading), 7)
theorem lm39 (l_0 : List Heading) (name : Bytes) : LeO (T11.E.m39 l_0 name) (T11.m39 l_0 name) := by
 unfold T11.E.m39 T11.m39
 repeat' with_reducible first|exact lq0 _|exact lm50 _|exact lm75 _|refine lq1 (fun _=>?_) _|refine lq2 (fun _ _=>?_) _|refine lq3 (fun _ _=>?_) (fun _=>?_) _|refine lq4 (fun _ _=>?_) (fun _=>?_) _|refine lq5 ?_|refine lq6 ?_|refine lq7 ?_ ?_|(refine lq8 ?_ (fun _=>?_) (fun _=>?_)<;>try dsimp only)|refine lq9 ?_ fun _=>?_|refine lq10 ?_
def m45_3 (x1592 : Heading) (r1 : (List (Bytes × Int)) × Int) (s1689 : Nat × List Int × (List (Int × Bool))) : Option ((Nat × List Int × (List (Int × Bool))) ⊕ (List Int × (List (Int × Bool)))) :=
 if (s1689.1 : Int) < (x1592.also.length : Int) then (
  (x1592.also[s1689.1]?).bind fun x1719 =>
  ((
   if (lkp s1689.2.2 ((lkp r1.1 x1719).getD (0 : Int))).getD false then (
    some (s1689.2.1, s1689.2.2))
   else
   chkE (s1689.2.1.length + 1 ≤ 1073741824) <|
   some ((s1689.2.1 ++ [((lkp r1.1 x1719).getD (0 : Int))]), (put s1689.2.2 ((lkp r1.1 x1719).getD (0 : Int)) true))
  ) : Option (List Int × (List (Int × Bool)))).bind fun t1735 =>
  some (.inl ((s1689.1 + 1), t1735.1, t1735.2)))
 else
 some (.inr (s1689.2.1, s1689.2.2))
theorem lm45_3 (x1592 : Heading) (r1 : (List (Bytes × Int)) × Int) (s1689 : Nat × List Int × (List (Int × Bool))) : LeO (T11.E.m45_3 x1592 r1 s1689) (T11.m45_3 x1592 r1 s1689) := by
 unfold T11.E.m45_3 T11.m45_3
 repeat' with_reducible first|exact lq0 _|refine lq1 (fun _=>?_) _|refine lq2 (fun _ _=>?_) _|refine lq3 (fun _ _=>?_) (fun _=>?_) _|refine lq4 (fun _ _=>?_) (fun _=>?_) _|refine lq5 ?_|refine lq6 ?_|refine lq7 ?_ ?_|(refine lq8 ?_ (fun _=>?_) (fun _=>?_)<;>try dsimp only)|refine lq9 ?_ fun _=>?_|refine lq10 ?_
def m45_2 (s752 : Int × List Int × (List (Int × Bool))) (l_0 : List Heading) (r1 : (List (Bytes × Int)) × Int) (s1466 : Nat × List Int × (List (Int × Bool))) : Option ((Nat × List Int × (List (Int × Bool))) ⊕ (List Int × (List (Int × Bool)))) :=
 if (s1466.1 : Int) < (s752.2.1.length : Int) then (
  (s752.2.1[s1466.1]?).bind fun x1582 =>
  chkE (0 ≤ x1582) <|
  (l_0[x1582.toNat]?).bind fun x1592 =>
  (loopE (m45_3 x1592 r1) (0, s1466.2.1, s1466.2.2)).bind fun e1684 =>
  some (.inl ((s1466.1 + 1), e1684.1, e1684.2)))
 else
 some (.inr (s1466.2.1, s1466.2.2))
theorem lm45_2 (s752 : Int × List Int × (List (Int × Bool))) (l_0 : List Heading) (r1 : (List (Bytes × Int)) × Int) (s1466 : Nat × List Int × (List (Int × Bool))) : LeO (T11.E.m45_2 s752 l_0 r1 s1466) (T11.m45_2 s752 l_0 r1 s1466) := by
 unfold T11.E.m45_2 T11.m45_2
 repeat' with_reducible first|exact lq0 _|exact lm45_3 _ _ _|refine lq1 (fun _=>?_) _|refine lq2 (fun _ _=>?_) _|refine lq3 (fun _ _=>?_) (fun _=>?_) _|refine lq4 (fun _ _=>?_) (fun _=>?_) _|refine lq5 ?_|refine lq6 ?_|refine lq7 ?_ ?_|(refine lq8 ?_ (fun _=>?_) (fun _=>?_)<;>try dsimp only)|refine lq9 ?_ fun _=>?_|refine lq10 ?_
def m45_1 (l_0 : List Heading) (r1 : (List (Bytes × Int)) × Int) (s752 : Int × List Int × (List (Int × Bool))) : Option ((Int × List Int × (List (Int × Bool))) ⊕ ((List (Int × Bool)))) :=
 ((
  if 0 < s752.1 then (
   some (decide (0 < (s752.2.1.length : Int))))
  else
  some false
 ) : Option (Bool)).bind fun t763 =>
 if t763 then (
  (loopE (m45_2 s752 l_0 r1) (0, ([] : List Int), s752.2.2)).bind fun e1461 =>
  chkE (-9223372036854775808 ≤ (s752.1 - 1) ∧ (s752.1 - 1) ≤ 9223372036854775807) <|
  some (.inl ((s752.1 - 1), e1461.1, e1461.2)))
 else
 some (.inr s752.2.2)
theorem lm45_1 (l_0 : List Heading) (r1 : (List (Bytes × Int)) × Int) (s752 : Int × List Int × (List (Int × Bool))) : LeO (T11.E.m45_1 l_0 r1 s752) (T11.m45_1 l_0 r1 s752) := by
 unfold T11.E.m45_1 T11.m45_1
 repeat' with_reducible first|exact lq0 _|exact lm45_2 _ _ _ _|refine lq1 (fun _=>?_) _|refine lq2 (fun _ _=>?_) _|refine lq3 (fun _ _=>?_) (fun _=>?_) _|refine lq4 (fun _ _=>?_) (fun _=>?_) _|refine lq5 ?_|refine lq6 ?_|refine lq7 ?_ ?_|(refine lq8 ?_ (fun _=>?_) (fun _=>?_)<;>try dsimp only)|refine lq9 ?_ fun _=>?_|refine lq10 ?_
def m45_4 (l_0 : List Heading) (e749 : (List (Int × Bool))) (name : Bytes) (s1876 : Nat × List Bytes) : Option ((Nat × List Bytes) ⊕ (List Bytes)) :=
 if (s1876.1 : Int) < (l_0.length : Int) then (
  (l_0[s1876.1]?).bind fun x1917 =>
  ((
   if (lkp e749 (s1876.1 : Int)).getD false then (
    chkE (s1876.2.length + 1 ≤ 1073741824) <|
    some (s1876.2 ++ [x1917.name]))
   else
   some s1876.2
  ) : Option (List Bytes)).bind fun t1944 =>
  some (.inl ((s1876.1 + 1), t1944)))
 else
 some (.inr s1876.2)
theorem lm45_4 (l_0 : List Heading) (e749 : (List (Int × Bool))) (name : Bytes) (s1876 : Nat × List Bytes) : LeO (T11.E.m45_4 l_0 e749 name s1876) (T11.m45_4 l_0 e749 name s1876) := by
 unfold T11.E.m45_4 T11.m45_4
 repeat' with_reducible first|exact lq0 _|refine lq1 (fun _=>?_) _|refine lq2 (fun _ _=>?_) _|refine lq3 (fun _ _=>?_) (fun _=>?_) _|refine lq4 (fun _ _=>?_) (fun _=>?_) _|refine lq5 ?_|refine lq6 ?_|refine lq7 ?_ ?_|(refine lq8 ?_ (fun _=>?_) (fun _=>?_)<;>try dsimp only)|refine lq9 ?_ fun _=>?_|refine lq10 ?_
def m45 (l_0 : List Heading) (name : Bytes) (steps : Int) : Option (List Bytes × Int) :=
 (m50 l_0).bind fun r1 =>
 if r1.2 ≠ 0 then (
  some (([] : List Bytes), r1.2))
 else
 (m72 steps 0 60).bind fun r13 =>
 if r13 then (
  if (lkp r1.1 name).isSome then (
   (loopE (m45_1 l_0 r1) (steps, ([((lkp r1.1 name).getD (0 : Int))] : List Int), (put ([] : List (Int × Bool)) ((lkp r1.1 name).getD (0 : Int)) true))).bind fun e749 =>
   (loopE (m45_4 l_0 e749 name) (0, ([] : List Bytes))).bind fun e1871 =>
   some (e1871, 0))
  else
  some (([] : List Bytes), 7))
 else
 some (([] : List Bytes), 2)
theorem lm45 (l_0 : List Heading) (name : Bytes) (steps : Int) : LeO (T11.E.m45 l_0 name steps) (T11.m45 l_0 name steps) := by
 unfold T11.E.m45 T11.m45
 repeat' with_reducible first|exact lq0 _|exact lm50 _|exact lm72 _ _ _|exact lm45_1 _ _ _|exact lm45_4 _ _ _ _|refine lq1 (fun _=>?_) _|refine lq2 (fun _ _=>?_) _|refine lq3 (fun _ _=>?_) (fun _=>?_) _|refine lq4 (fun _ _=>?_) (fun _=>?_) _|refine lq5 ?_|refine lq6 ?_|refine lq7 ?_ ?_|(refine lq8 ?_ (fun _=>?_) (fun _=>?_)<;>try dsimp only)|refine lq9 ?_ fun _=>?_|refine lq10 ?_
def m15  : Option (Bool) :=
 (m47).bind fun r1 =>
 (m18 r1).bind fun r8 =>
 (m39 r8.1 [76, 97, 100, 121, 32, 76, 101, 101]).bind fun r15 =>
 (m45 r8.1 [67, 111, 114, 110, 32, 108, 97, 119, 115] 1).bind fun r34 =>
 ((
  if r8.2 ≠ 0 then (
   some true)
  else
  if (r8.1.length : Int) ≠ 3 then (
   some true)
  else
  if r15.2 ≠ 0 then (
   some true)
  else
  (m40 r15.1 (⟨[65, 32, 76, 101, 101], ([[76, 97, 100, 121, 32, 76, 101, 101], [76, 101, 101, 32, 65, 110, 110]] : List Bytes), ([] : List Bytes), ([(⟨3, 7, 7⟩ : Place), (⟨9, 1, 2⟩ : Place)] : List Place)⟩ : Heading)).bind fun r99 =>
  if r99 then (
   if r34.2 ≠ 0 then (
    some true)
   else
   (m44 r34.1 ([[67, 111, 114, 110, 32, 76, 97, 119, 115], [84, 114, 97, 100, 101]] : List Bytes)).bind fun r112 =>
   some (!r112))
  else
  some true
 ) : Option (Bool)).bind fun t77 =>
 if t77 then (
  some false)
 else
 (m39 r8.1 [78, 111, 98, 111, 100, 121]).bind fun r122 =>
 (m33 r8.1 0 1).bind fun r141 =>
 (m45 r8.1 [78, 111, 98, 111, 100, 121] (-1)).bind fun r148 =>
 chkE (13 ≤ 1073741824) <|
 (m18 (List.replicate 13 ([] : List Heading))).bind fun r161 =>
 (m28 ([(65 : UInt8), (58 : UInt8), (32 : UInt8), (49 : UInt8), (47 : UInt8), (50 : UInt8), (44 : UInt8), (32 : UInt8), (49 : UInt8), (47 : UInt8), (51 : UInt8), (10 : UInt8)] : List UInt8)).bind fun r173 =>
 chkE (200001 ≤ 1073741824) <|
 (some (([] : List Heading), (3 : Int)) : Option (List Heading × Int)).bind fun r185 =>
 (m28 ([(65 : UInt8), (58 : UInt8), (32 : UInt8), (49 : UInt8), (47 : UInt8), (48 : UInt8), (50 : UInt8), (10 : UInt8)] : List UInt8)).bind fun r197 =>
 (m28 ([] : List UInt8)).bind fun r204 =>
 (m34 ([(⟨[66], ([] : List Bytes), ([] : List Bytes), ([] : List Place)⟩ : Heading), (⟨[65], ([] : List Bytes), ([] : List Bytes), ([] : List Place)⟩ : Heading)] : List Heading)).bind fun r217 =>
 (m34 ([(⟨[65], ([[65]] : List Bytes), ([] : List Bytes), ([] : List Place)⟩ : Heading)] : List Heading)).bind fun r231 =>
 (m34 ([(⟨[65], ([] : List Bytes), ([[65]] : List Bytes), ([] : List Place)⟩ : Heading)] : List Heading)).bind fun r245 =>
 ((
  if r122.2 = 7 then (
   if r141.2 = 2 then (
    if r148.2 = 2 then (
     if r161.2 = 3 then (
      if r173.2 = 4 then (
       if r185.2 = 3 then (
        if r197.2 = 4 then (
         if (r204.1.length : Int) = 0 then (
          if r204.2 = 0 then (
           if r217 = 1 then (
            if r231 = 6 then (
             if r245 = 1 then (
              chkE (61 ≤ 1073741824) <|
              (m34 (List.replicate 61 (⟨[], ([] : List Bytes), ([] : List Bytes), ([] : List Place)⟩ : Heading))).bind fun r350 =>
              if r350 = 3 then (
               (m32 [67, 111, 114, 110, 32, 76, 97, 119, 115] [67, 111, 114, 110, 32, 108, 97, 119, 115]).bind fun r355 =>
               if r355 then (
                (m32 [67, 111, 114, 110, 32, 108, 97, 119, 115] [67, 111, 114, 110, 76, 97, 119, 122]).bind fun r360 =>
                if r360 then (
                 (m32 [76, 101, 101, 32, 65, 110, 110] [65, 32, 76, 101, 101]).bind fun r365 =>
                 if r365 then (
                  some false)
                 else
                 (m16).bind fun r371 =>
                 some r371)
                else
                some false)
               else
               some false)
              else
              some false)
             else
             some false)
            else
            some false)
           else
           some false)
          else
          some false)
         else
         some false)
        else
        some false)
       else
       some false)
      else
      some false)
     else
     some false)
    else
    some false)
   else
   some false)
  else
  some false
 ) : Option (Bool)).bind fun t317 =>
 some t317
theorem lbig : LeO (some (([] : List Heading), (3 : Int))) (T11.m28 (List.replicate 200001 (0 : UInt8))) := fun r h => by
 cases h
 unfold T11.m28
 rw [if_pos (by rw [List.length_replicate]; omega)]
theorem lm15  : LeO (T11.E.m15 ) (T11.m15 ) := by
 unfold T11.E.m15 T11.m15
 repeat' with_reducible first|exact lq0 _|exact lbig|exact lm47|exact lm18 _|exact lm39 _ _|exact lm45 _ _ _|exact lm40 _ _|exact lm44 _ _|exact lm33 _ _ _|exact lm28 _|exact lm34 _|exact lm32 _ _|exact lm16|refine lq1 (fun _=>?_) _|refine lq2 (fun _ _=>?_) _|refine lq3 (fun _ _=>?_) (fun _=>?_) _|refine lq4 (fun _ _=>?_) (fun _=>?_) _|refine lq5 ?_|refine lq6 ?_|refine lq7 ?_ ?_|(refine lq8 ?_ (fun _=>?_) (fun _=>?_)<;>try dsimp only)|refine lq9 ?_ fun _=>?_|refine lq10 ?_
end T11.E
namespace T11
open Go Go.Proofs Pk
theorem law15 : m15 = some true := E.lm15 _ (show E.m15 = some true by kernel_rfl)
end T11
