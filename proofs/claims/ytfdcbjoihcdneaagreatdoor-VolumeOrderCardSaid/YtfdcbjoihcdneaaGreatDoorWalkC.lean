/-
 Walks of functions of layer 10: each call comes to what the model says. Printed by a program of ours.
-/
import Derived.Test.YtfdcbjoihcdneaaGreatDoorWalkB
set_option linter.all false
set_option maxHeartbeats 4000000
namespace T10
open Go Go.Proofs Pk
theorem w28 {M : Prop} {W : World} {H : Hp} (hH : H.le (hp W)) {ad_l_0 : Option Addr} {cap_l_0 : Nat} {l_0 : List Erratum} (h_l_0 : Sl (Flat encErratum) 6 H ad_l_0 cap_l_0 l_0) (by_1 : Int) (at_2 : Int) {r : List Erratum} (hr : m28 l_0 by_1 at_2 = some r) : Calls Tryz.prog 28 [.slice ad_l_0 l_0.length cap_l_0, .int .u8 by_1, .int .u8 at_2].toArray W (RetK M H W (fun v K => ∃ (ad0 : Option Addr) (cap0 : Nat), v = .slice ad0 r.length cap0 ∧ Sl (Flat encErratum) 6 K ad0 cap0 r)) := by
 have := h_l_0.len
 unfold m28 at hr
 refine enterG (M := M) Tryz.func28 rfl Tryz.ntmps28 rfl hH ?_
 refine sq (rg (a1 rfl (on (sq (rg (m1 rfl (lnL U39 rfl rfl (a1 rfl (on (sq (sq ?_)))))))))))
 refine rg (m1 rfl (eqI rfl rfl rfl (on ?_)))
 refine ci rfl (fun hc4 => ?_) (fun hc4 => ?_)
 ·have hr5 := if_p hc4 hr
  refine sq (rg (a1 rfl (on (rt_ ?_))))
  cases hr5
  intro a w hS hA
  refine ret1 hA rfl rfl ?_
  exact ⟨⟨_, _, rfl, (Sl.nil _ _ _ _ _ (by decide))⟩, hS.ext⟩
 ·have hr6 := if_n hc4 hr
  refine sk (sq ?_)
  obtain ⟨hk8, hr9⟩ := chk_some hr6
  obtain ⟨hk10, hr11⟩ := chk_some hr9
  have : 0 ≤ (by_1 % (l_0.length : Int)) ∧ (by_1 % (l_0.length : Int)) < (l_0.length : Int) := have h := (hk10 : 0 ≤ by_1 ∧ 0 < (l_0.length : Int)); ⟨Int.emod_nonneg _ (by omega), Int.emod_lt_of_pos _ h.2⟩
  obtain ⟨hk12, hr13⟩ := chk_some hr11
  obtain ⟨hk20, hr21⟩ := chk_some hr13
  have := lenA ([] : List Erratum) (l_0.drop ((by_1 % (l_0.length : Int)).toNat))
  refine drG3 14 [0, 7] [] mixed (fun _ _ _ _ _ h => h) (by kernel_rfl) (by kernel_rfl) (by kernel_rfl) rfl (by kernel_rfl) (.nil) (DC.turn (α := Nat) 0 (fun b7 => .slice (some ⟨b7, 0, none⟩) (([] : List Erratum).length) 0) (fun _ _ => True) (fun b7 => [(1, Own.list (some ⟨b7, 0, none⟩) 0 77 6 encErratum ([] : List Erratum))]) rfl (fun _ _ _ _ h => h) (by kernel_rfl) rfl rfl (fun a w K hS hA hF => TG.pa hS hA (bSL 1 encErratum ([] : List Erratum) (cs := []) T10.E39 rfl rfl rfl rfl rfl rfl fun b7 => finT (f := fun b7 => .slice (some ⟨b7, 0, none⟩) (([] : List Erratum).length) 0) (G := fun _ _ => True) (σ1 := fun b7 => [(1, Own.list (some ⟨b7, 0, none⟩) 0 77 6 encErratum ([] : List Erratum))]) b7 tv)) fun b7 => (DC.det (fun τ => τ = [(1, Own.list (some ⟨b7, 0, none⟩) 0 77 6 encErratum ([] : List Erratum))] ∨ τ = []) rfl (.inl rfl) (by kernel_rfl) ⟨.inl (.inr (rfl)), tv⟩ rfl rfl (fun τ hτ a w K hS hA hF => by rcases hτ with rfl | rfl <;> exact TG.pa hS hA (m1 rfl fin1)) (DC.det (fun τ => τ = [(1, Own.list (some ⟨b7, 0, none⟩) 0 77 6 encErratum ([] : List Erratum))] ∨ τ = []) rfl (.inl rfl) (by kernel_rfl) ⟨.inl (.inr (rfl)), tv⟩ rfl rfl (fun τ hτ a w K hS hA hF => by rcases hτ with rfl | rfl <;> exact TG.pa hS hA (m1 rfl fin1)) (DC.det (fun τ => τ = [(1, Own.list (some ⟨b7, 0, none⟩) 0 77 6 encErratum ([] : List Erratum))] ∨ τ = []) rfl (.inl rfl) (by kernel_rfl) ⟨.inl (.inr (rfl)), tv⟩ rfl rfl (fun τ hτ a w K hS hA hF => by rcases hτ with rfl | rfl <;> exact TG.pa hS hA (cvI U5 U3 rfl rfl (wr_i64 hk8) fin1)) (DC.det (fun τ => τ = [(1, Own.list (some ⟨b7, 0, none⟩) 0 77 6 encErratum ([] : List Erratum))] ∨ τ = []) rfl (.inl rfl) (by kernel_rfl) ⟨.inl (.inr (rfl)), tv⟩ rfl rfl (fun τ hτ a w K hS hA hF => by rcases hτ with rfl | rfl <;> exact TG.pa hS hA (m1 rfl fin1)) (DC.det (fun τ => τ = [(1, Own.list (some ⟨b7, 0, none⟩) 0 77 6 encErratum ([] : List Erratum))] ∨ τ = []) rfl (.inl rfl) (by kernel_rfl) ⟨.inl (.inr (rfl)), tv⟩ rfl rfl (fun τ hτ a w K hS hA hF => by rcases hτ with rfl | rfl <;> exact TG.pa hS hA (rmI rfl rfl rfl hk10 fin1)) (DC.und (α := Option Addr × Nat) (none, 0) (fun q => .slice q.1 ((l_0.drop ((by_1 % (l_0.length : Int)).toNat)).length) q.2) (fun (q : Option Addr × Nat) K => Sl (Flat encErratum) 6 K q.1 q.2 (l_0.drop ((by_1 % (l_0.length : Int)).toNat))) (fun τ => τ = [(1, Own.list (some ⟨b7, 0, none⟩) 0 77 6 encErratum ([] : List Erratum))] ∨ τ = []) rfl (.inl rfl) (by kernel_rfl) ⟨.inl (.inr (rfl)), tv⟩ (fun _ _ _ h x => x.mono (Flat.mono _) h) (by kernel_rfl) rfl rfl (fun τ hτ a w K hS hA hF => by rcases hτ with rfl | rfl <;> exact TG.pa hS hA (slF ((by_1 % (l_0.length : Int)).toNat) U39 Z77 h_l_0 rfl rfl rfl rfl (by omega) hk12 fun ad14 cap15 hl16 => TG.pack (fun K => Sl (Flat encErratum) 6 K ad14 cap15 (l_0.drop ((by_1 % (l_0.length : Int)).toNat))) (fun H le => hl16.mono (Flat.mono _) (le.at 1 rfl)) fun _ hl16 => finU (f := fun q => .slice q.1 ((l_0.drop ((by_1 % (l_0.length : Int)).toNat)).length) q.2) (G := (fun (q : Option Addr × Nat) K => Sl (Flat encErratum) 6 K q.1 q.2 (l_0.drop ((by_1 % (l_0.length : Int)).toNat)))) (_, _) (fun _ _ _ h x => x.mono (Flat.mono _) h) hl16)) ?_)))))))
  rintro ⟨ad18, cap19⟩
  refine DC.turn (α := Option Addr × Nat) (none, 0) (fun q => .slice q.1 ((([] : List Erratum) ++ (l_0.drop ((by_1 % (l_0.length : Int)).toNat))).length) q.2) (fun _ _ => True) (fun q => [(1, Own.list q.1 q.2 77 6 encErratum (([] : List Erratum) ++ (l_0.drop ((by_1 % (l_0.length : Int)).toNat))))]) rfl (fun _ _ _ _ h => h) (by kernel_rfl) rfl rfl (fun a w K hS hA hF => TG.pa hS hA (apS 1 (enc := encErratum) (l := ([] : List Erratum)) (m := (l_0.drop ((by_1 % (l_0.length : Int)).toNat))) T10.E39 rfl rfl rfl rfl rfl rfl (hF.1 rfl) 0 rfl (fun _ => rfl) (fun _ => rfl) rfl hk20 fun ad22 cap23 => finT (f := fun q => .slice q.1 ((([] : List Erratum) ++ (l_0.drop ((by_1 % (l_0.length : Int)).toNat))).length) q.2) (G := fun _ _ => True) (σ1 := fun q => [(1, Own.list q.1 q.2 77 6 encErratum (([] : List Erratum) ++ (l_0.drop ((by_1 % (l_0.length : Int)).toNat))))]) (_, _) tv)) ?_
  rintro ⟨ad22, cap23⟩
  refine DC.det (fun τ => τ = [(1, Own.list ad22 cap23 77 6 encErratum (([] : List Erratum) ++ (l_0.drop ((by_1 % (l_0.length : Int)).toNat))))] ∨ τ = [] ∨ τ = [(1, Own.list (some ⟨b7, 0, none⟩) 0 77 6 encErratum ([] : List Erratum))]) rfl (.inl rfl) (by kernel_rfl) ⟨.inl (.inr (.inr (rfl))), .inl (.inr (.inl rfl)), tv⟩ rfl rfl (fun τ hτ a w K hS hA hF => by rcases hτ with rfl | rfl | rfl <;> exact TG.pa hS hA (m1 rfl fin1)) (DC.det (fun τ => τ = [(1, Own.list ad22 cap23 77 6 encErratum (([] : List Erratum) ++ (l_0.drop ((by_1 % (l_0.length : Int)).toNat))))] ∨ τ = [] ∨ τ = [(1, Own.list (some ⟨b7, 0, none⟩) 0 77 6 encErratum ([] : List Erratum))]) rfl (.inl rfl) (by kernel_rfl) ⟨.inl (.inr (.inr (rfl))), .inl (.inr (.inl rfl)), tv⟩ rfl rfl (fun τ hτ a w K hS hA hF => by rcases hτ with rfl | rfl | rfl <;> exact TG.pa hS hA (m1 rfl fin1)) (DC.det (fun τ => τ = [(1, Own.list ad22 cap23 77 6 encErratum (([] : List Erratum) ++ (l_0.drop ((by_1 % (l_0.length : Int)).toNat))))] ∨ τ = [] ∨ τ = [(1, Own.list (some ⟨b7, 0, none⟩) 0 77 6 encErratum ([] : List Erratum))]) rfl (.inl rfl) (by kernel_rfl) ⟨.inl (.inr (.inr (rfl))), .inl (.inr (.inl rfl)), tv⟩ rfl rfl (fun τ hτ a w K hS hA hF => by rcases hτ with rfl | rfl | rfl <;> exact TG.pa hS hA (cvI U5 U3 rfl rfl (wr_i64 hk8) fin1)) (DC.det (fun τ => τ = [(1, Own.list ad22 cap23 77 6 encErratum (([] : List Erratum) ++ (l_0.drop ((by_1 % (l_0.length : Int)).toNat))))] ∨ τ = [] ∨ τ = [(1, Own.list (some ⟨b7, 0, none⟩) 0 77 6 encErratum ([] : List Erratum))]) rfl (.inl rfl) (by kernel_rfl) ⟨.inl (.inr (.inr (rfl))), .inl (.inr (.inl rfl)), tv⟩ rfl rfl (fun τ hτ a w K hS hA hF => by rcases hτ with rfl | rfl | rfl <;> exact TG.pa hS hA (m1 rfl fin1)) (DC.det (fun τ => τ = [(1, Own.list ad22 cap23 77 6 encErratum (([] : List Erratum) ++ (l_0.drop ((by_1 % (l_0.length : Int)).toNat))))] ∨ τ = [] ∨ τ = [(1, Own.list (some ⟨b7, 0, none⟩) 0 77 6 encErratum ([] : List Erratum))]) rfl (.inl rfl) (by kernel_rfl) ⟨.inl (.inr (.inr (rfl))), .inl (.inr (.inl rfl)), tv⟩ rfl rfl (fun τ hτ a w K hS hA hF => by rcases hτ with rfl | rfl | rfl <;> exact TG.pa hS hA (rmI rfl rfl rfl hk10 fin1)) (DC.und (α := Option Addr × Nat) (none, 0) (fun q => .slice q.1 ((l_0.take ((by_1 % (l_0.length : Int)).toNat)).length) q.2) (fun (q : Option Addr × Nat) K => Sl (Flat encErratum) 6 K q.1 q.2 (l_0.take ((by_1 % (l_0.length : Int)).toNat))) (fun τ => τ = [(1, Own.list ad22 cap23 77 6 encErratum (([] : List Erratum) ++ (l_0.drop ((by_1 % (l_0.length : Int)).toNat))))] ∨ τ = [] ∨ τ = [(1, Own.list (some ⟨b7, 0, none⟩) 0 77 6 encErratum ([] : List Erratum))]) rfl (.inl rfl) (by kernel_rfl) ⟨.inl (.inr (.inr (rfl))), .inl (.inr (.inl rfl)), tv⟩ (fun _ _ _ h x => x.mono (Flat.mono _) h) (by kernel_rfl) rfl rfl (fun τ hτ a w K hS hA hF => by rcases hτ with rfl | rfl | rfl <;> exact TG.pa hS hA (slT ((by_1 % (l_0.length : Int)).toNat) U39 Z77 h_l_0 rfl rfl rfl rfl (by omega) hk12 fun ad24 cap25 hl26 => TG.pack (fun K => Sl (Flat encErratum) 6 K ad24 cap25 (l_0.take ((by_1 % (l_0.length : Int)).toNat))) (fun H le => hl26.mono (Flat.mono _) (le.at 1 rfl)) fun _ hl26 => finU (f := fun q => .slice q.1 ((l_0.take ((by_1 % (l_0.length : Int)).toNat)).length) q.2) (G := (fun (q : Option Addr × Nat) K => Sl (Flat encErratum) 6 K q.1 q.2 (l_0.take ((by_1 % (l_0.length : Int)).toNat)))) (_, _) (fun _ _ _ h x => x.mono (Flat.mono _) h) hl26)) ?_)))))
  rintro ⟨ad28, cap29⟩
  refine DC.nil fun K30 hF => ?_
  obtain ⟨hu27, _, hu17, _, _⟩ := hF
  have := hu17.len
  have := hu27.len
  obtain ⟨hk31, hr32⟩ := chk_some hr21
  have := lenA (([] : List Erratum) ++ (l_0.drop ((by_1 % (l_0.length : Int)).toNat))) (l_0.take ((by_1 % (l_0.length : Int)).toNat))
  refine apS 1 (enc := encErratum) (l := (([] : List Erratum) ++ (l_0.drop ((by_1 % (l_0.length : Int)).toNat)))) (m := (l_0.take ((by_1 % (l_0.length : Int)).toNat))) T10.E39 rfl rfl rfl rfl rfl rfl hu27 0 rfl (fun _ => rfl) (fun _ => rfl) rfl hk31 fun ad33 cap34 => (a1 rfl (on (sq ?_)))
  obtain ⟨hk35, hr36⟩ := chk_some hr32
  obtain ⟨hk37, hr38⟩ := chk_some hr36
  have : 0 ≤ (at_2 % (l_0.length : Int)) ∧ (at_2 % (l_0.length : Int)) < (l_0.length : Int) := have h := (hk37 : 0 ≤ at_2 ∧ 0 < (l_0.length : Int)); ⟨Int.emod_nonneg _ (by omega), Int.emod_lt_of_pos _ h.2⟩
  obtain ⟨x39, hx40, hr41⟩ := bd_some hr38
  refine TG.addr 1 rfl (lt_of0 hx40) fun b42 h => ?_; subst h
  obtain ⟨x43, hx44, hr45⟩ := bd_some hr41
  refine drG3 16 [] [(1, 29, .slice (some ⟨b42, 0, none⟩) (((([] : List Erratum) ++ (l_0.drop ((by_1 % (l_0.length : Int)).toNat))) ++ (l_0.take ((by_1 % (l_0.length : Int)).toNat))).length) cap34), (2, 30, .int .u8 at_2), (3, 31, .int .i64 at_2), (4, 32, .int .i64 (l_0.length : Int)), (5, 33, .int .i64 (at_2 % (l_0.length : Int)))] mixed (fun _ _ _ _ _ h => h) (by kernel_rfl) (by kernel_rfl) (by kernel_rfl) rfl (by kernel_rfl) (.cons rfl rfl rfl (fun _ => rfl) (by kernel_rfl) (by kernel_rfl) (fun _ _ => rfl) (mvY rfl) (.cons rfl rfl rfl (fun _ => rfl) (by kernel_rfl) (by kernel_rfl) (fun _ _ => rfl) (mvY rfl) (.cons rfl rfl rfl (fun _ => rfl) (by kernel_rfl) (by kernel_rfl) (fun _ _ => rfl) (cvIY U5 U3 rfl (wr_i64 hk35)) (.cons rfl rfl rfl (fun _ => rfl) (by kernel_rfl) (by kernel_rfl) (fun _ _ => rfl) (mvY rfl) (.cons rfl rfl rfl (fun _ => rfl) (by kernel_rfl) (by kernel_rfl) (fun _ _ => rfl) (rmIY rfl rfl hk37) (.nil)))))) (dc rfl (by kernel_rfl) tv rfl rfl (m1 rfl fin1) (DC.pre (.head _) rfl (DC.pre (.tail _ (.head _)) rfl (DC.pre (.tail _ (.tail _ (.head _))) rfl (DC.pre (.tail _ (.tail _ (.tail _ (.head _)))) rfl (DC.pre (.tail _ (.tail _ (.tail _ (.tail _ (.head _))))) rfl (dc rfl (by kernel_rfl) tv rfl rfl (m1 rfl fin1) (dc rfl (by kernel_rfl) tv rfl rfl (m1 rfl fin1) (dc rfl (by kernel_rfl) tv rfl rfl (cvI U5 U3 rfl rfl (wr_i64 hk35) fin1) (dc rfl (by kernel_rfl) tv rfl rfl (m1 rfl fin1) (dc rfl (by kernel_rfl) tv rfl rfl (rmI rfl rfl rfl hk37 fin1) ?_)))))))))))
  refine dc rfl (by kernel_rfl) tv rfl rfl (iaP U39 Z77 rfl rfl rfl (by omega) (lt_of hx40) fin1) (dc rfl (by kernel_rfl) tv rfl rfl (ldA G77 Z77 rfl rfl (sE 1 rfl (fun _ => rfl) hx40) rfl fin1) (dc rfl (by kernel_rfl) tv rfl rfl (m1 rfl fin1) (dc rfl (by kernel_rfl) tv rfl rfl (iaP U39 Z77 rfl rfl rfl rfl (lt_of hx44) fin1) (dc rfl (by kernel_rfl) tv rfl rfl (ldA G77 Z77 rfl rfl (sE 1 rfl (fun _ => rfl) hx44) rfl fin1) (DC.nil fun K46 hF => (iaP U39 Z77 rfl rfl rfl rfl (lt_of hx44) ?_))))))
  have hln47 : (((([] : List Erratum) ++ (l_0.drop ((by_1 % (l_0.length : Int)).toNat))) ++ (l_0.take ((by_1 % (l_0.length : Int)).toNat))).set 0 x39).length = ((([] : List Erratum) ++ (l_0.drop ((by_1 % (l_0.length : Int)).toNat))) ++ (l_0.take ((by_1 % (l_0.length : Int)).toNat))).length := (lenS _ _ _)
  refine stE 1 x39 (q := ⟨b42, 0, none⟩) (j := 0) (size := 6) (cs := [.int .i64 x39.number, .int .i64 x39.day, .int .u8 x39.kind, .int .i64 x39.anchor, .string (bs x39.text), .int .i64 x39.new_]) (off := 0) Z77 rfl rfl rfl (fun _ => rfl) hx44 rfl rfl rfl rfl rfl ?_
  obtain ⟨x48, hx49, hr50⟩ := bd_some hr45
  refine iaP U39 Z77 rfl rfl rfl (by omega) (Nat.lt_of_lt_of_eq (lt_of hx49) hln47) ?_
  have hln51 : ((((([] : List Erratum) ++ (l_0.drop ((by_1 % (l_0.length : Int)).toNat))) ++ (l_0.take ((by_1 % (l_0.length : Int)).toNat))).set 0 x39).set ((at_2 % (l_0.length : Int)).toNat) x43).length = ((([] : List Erratum) ++ (l_0.drop ((by_1 % (l_0.length : Int)).toNat))) ++ (l_0.take ((by_1 % (l_0.length : Int)).toNat))).length := (lenS _ _ _).trans hln47
  refine stE 1 x43 (q := ⟨b42, 0, none⟩) (j := (at_2 % (l_0.length : Int)).toNat) (size := 6) (cs := [.int .i64 x43.number, .int .i64 x43.day, .int .u8 x43.kind, .int .i64 x43.anchor, .string (bs x43.text), .int .i64 x43.new_]) (off := 0) Z77 rfl rfl rfl (fun _ => rfl) hx49 rfl rfl rfl rfl rfl (on (sq (rg (m1 rfl (a1 rfl (on (rt_ ?_)))))))
  refine TG.cut (L' := [(0, .slice ad_l_0 l_0.length cap_l_0), (1, .int .u8 by_1), (2, .int .u8 at_2), (6, .slice (some ⟨b42, 0, none⟩) (((((([] : List Erratum) ++ (l_0.drop ((by_1 % (l_0.length : Int)).toNat))) ++ (l_0.take ((by_1 % (l_0.length : Int)).toNat))).set 0 x39).set ((at_2 % (l_0.length : Int)).toNat) x43).length) cap34), (7, .int .i64 (l_0.length : Int)), (8, .slice (some ⟨b42, 0, none⟩) (((((([] : List Erratum) ++ (l_0.drop ((by_1 % (l_0.length : Int)).toNat))) ++ (l_0.take ((by_1 % (l_0.length : Int)).toNat))).set 0 x39).set ((at_2 % (l_0.length : Int)).toNat) x43).length) cap34), (9, .slice ad_l_0 l_0.length cap_l_0), (10, .int .i64 (l_0.length : Int)), (11, .int .i64 (l_0.length : Int)), (12, .bool (decide ((l_0.length : Int) = 0))), (13, .slice (some ⟨b7, 0, none⟩) (([] : List Erratum).length) 0), (14, .slice ad_l_0 l_0.length cap_l_0), (15, .int .u8 by_1), (16, .int .i64 by_1), (17, .int .i64 (l_0.length : Int)), (18, .int .i64 (by_1 % (l_0.length : Int))), (19, .slice ad18 ((l_0.drop ((by_1 % (l_0.length : Int)).toNat)).length) cap19), (20, .slice ad22 ((([] : List Erratum) ++ (l_0.drop ((by_1 % (l_0.length : Int)).toNat))).length) cap23), (21, .slice ad_l_0 l_0.length cap_l_0), (22, .int .u8 by_1), (23, .int .i64 by_1), (24, .int .i64 (l_0.length : Int)), (25, .int .i64 (by_1 % (l_0.length : Int))), (26, .slice ad28 ((l_0.take ((by_1 % (l_0.length : Int)).toNat)).length) cap29), (27, .slice (some ⟨b42, 0, none⟩) (((((([] : List Erratum) ++ (l_0.drop ((by_1 % (l_0.length : Int)).toNat))) ++ (l_0.take ((by_1 % (l_0.length : Int)).toNat))).set 0 x39).set ((at_2 % (l_0.length : Int)).toNat) x43).length) cap34), (28, .slice (some ⟨b42, 0, none⟩) (((((([] : List Erratum) ++ (l_0.drop ((by_1 % (l_0.length : Int)).toNat))) ++ (l_0.take ((by_1 % (l_0.length : Int)).toNat))).set 0 x39).set ((at_2 % (l_0.length : Int)).toNat) x43).length) cap34), (29, .slice (some ⟨b42, 0, none⟩) (((((([] : List Erratum) ++ (l_0.drop ((by_1 % (l_0.length : Int)).toNat))) ++ (l_0.take ((by_1 % (l_0.length : Int)).toNat))).set 0 x39).set ((at_2 % (l_0.length : Int)).toNat) x43).length) cap34), (30, .int .u8 at_2), (31, .int .i64 at_2), (32, .int .i64 (l_0.length : Int)), (33, .int .i64 (at_2 % (l_0.length : Int))), (34, .slice (some ⟨b42, 0, none⟩) (((((([] : List Erratum) ++ (l_0.drop ((by_1 % (l_0.length : Int)).toNat))) ++ (l_0.take ((by_1 % (l_0.length : Int)).toNat))).set 0 x39).set ((at_2 % (l_0.length : Int)).toNat) x43).length) cap34), (35, .int .u8 at_2), (36, .int .i64 at_2), (37, .int .i64 (l_0.length : Int)), (38, .int .i64 (at_2 % (l_0.length : Int))), (39, .pointer (some ((⟨b42, 0, none⟩ : Addr).add ((at_2 % (l_0.length : Int)).toNat * 6)))), (40, .agg [.int .i64 x39.number, .int .i64 x39.day, .int .u8 x39.kind, .int .i64 x39.anchor, .string (bs x39.text), .int .i64 x39.new_].toArray), (41, .slice (some ⟨b42, 0, none⟩) (((((([] : List Erratum) ++ (l_0.drop ((by_1 % (l_0.length : Int)).toNat))) ++ (l_0.take ((by_1 % (l_0.length : Int)).toNat))).set 0 x39).set ((at_2 % (l_0.length : Int)).toNat) x43).length) cap34), (42, .pointer (some ((⟨b42, 0, none⟩ : Addr).add (0 * 6)))), (43, .agg [.int .i64 x43.number, .int .i64 x43.day, .int .u8 x43.kind, .int .i64 x43.anchor, .string (bs x43.text), .int .i64 x43.new_].toArray), (44, .pointer (some ((⟨b42, 0, none⟩ : Addr).add (0 * 6)))), (45, .pointer (some ((⟨b42, 0, none⟩ : Addr).add ((at_2 % (l_0.length : Int)).toNat * 6)))), (46, .slice (some ⟨b42, 0, none⟩) (((((([] : List Erratum) ++ (l_0.drop ((by_1 % (l_0.length : Int)).toNat))) ++ (l_0.take ((by_1 % (l_0.length : Int)).toNat))).set 0 x39).set ((at_2 % (l_0.length : Int)).toNat) x43).length) cap34)]) ⟨rfl, rfl, rfl, (by rw [hln51]; rfl), rfl, (by rw [hln51]; rfl), rfl, rfl, rfl, rfl, rfl, rfl, rfl, rfl, rfl, rfl, rfl, rfl, rfl, rfl, rfl, rfl, rfl, rfl, (by rw [hln51]; rfl), (by rw [hln51]; rfl), (by rw [hln51]; rfl), rfl, rfl, rfl, rfl, (by rw [hln51]; rfl), rfl, rfl, rfl, rfl, rfl, rfl, (by rw [hln51]; rfl), rfl, rfl, rfl, rfl, (by rw [hln51]; rfl), tv⟩ ?_
  cases hr50
  intro a w hS hA
  refine ret1 hA rfl rfl ?_
  exact ⟨⟨_, _, rfl, (hS.listOut 1 rfl (fun _ => rfl))⟩, hS.ext⟩

theorem w30 {M : Prop} {W : World} {H : Hp} (hH : H.le (hp W)) {ad_a_0 : Option Addr} {cap_a_0 : Nat} {a_0 : List Erratum} (h_a_0 : Sl (Flat encErratum) 6 H ad_a_0 cap_a_0 a_0) {ad_b_1 : Option Addr} {cap_b_1 : Nat} {b_1 : List Erratum} (h_b_1 : Sl (Flat encErratum) 6 H ad_b_1 cap_b_1 b_1) {r : Bool} (hr : m30 a_0 b_1 = some r) : Calls Tryz.prog 30 [.slice ad_a_0 a_0.length cap_a_0, .slice ad_b_1 b_1.length cap_b_1].toArray W (RetS M W (.bool r)) := by
 have := h_a_0.len
 have := h_b_1.len
 unfold m30 at hr
 refine enterG (M := M) Tryz.func30 rfl Tryz.ntmps30 rfl hH ?_
 refine sq (rg (a1 rfl (on (sq (sq (rg (m1 rfl (lnL U39 rfl rfl (m1 rfl (lnL U39 rfl rfl (neI rfl rfl rfl ?_)))))))))))
 refine on ?_
 refine ci rfl (fun hc4 => ?_) (fun hc4 => ?_)
 ·have hr5 := if_p hc4 hr
  refine sq (rg (a1 rfl (on (rt_ ?_))))
  cases hr5
  intro a w hS hA
  refine ret1 hA rfl rfl ?_
  exact ⟨rfl, hS.ext⟩
 ·have hr6 := if_n hc4 hr
  refine sk (sq (sq (rg (a1 rfl (on ?_)))))
  obtain ⟨e31, hl32, hr33⟩ := bd_some hr6
  refine jn (fun a w => ∃ t34, e31 = .inl t34 ∧ St M W H [H] [] w ∧ Has [] 26 a []) ?_ ?_
  ·refine bk ?_
   refine lp hl32 (fun s35 a w => St M W H [H] [] w ∧ Has [] 26 a [(0, .slice ad_a_0 a_0.length cap_a_0), (1, .slice ad_b_1 b_1.length cap_b_1), (5, .int .i64 (s35 : Int))]) ?_ ?_
   ·exact cu ⟨rfl, rfl, rfl, tv⟩
   ·rintro j s35 y38 hr36 hz37 a w ⟨hS, hA⟩
    refine TG.ap ?_ hS hA
    unfold m30_1 at hr36
    refine sq (sq (rg (m1 rfl (m1 rfl (lnL U39 rfl rfl (ltI rfl rfl rfl (on ?_)))))))
    refine ci rfl (fun hc42 => ?_) (fun hc42 => ?_)
    ·have hr43 := if_p hc42 hr36
     refine sk (sq (bk (sq ?_)))
     obtain ⟨x64, hx65, hr66⟩ := bd_some hr43
     obtain ⟨p67, rfl⟩ := h_a_0.adr hx65
     obtain ⟨cs68, hcs69, hq70, hr71⟩ := h_a_0.at hx65
     obtain rfl := hr71
     obtain ⟨x72, hx73, hr74⟩ := bd_some hr66
     obtain ⟨p75, rfl⟩ := h_b_1.adr hx73
     obtain ⟨cs76, hcs77, hq78, hr79⟩ := h_b_1.at hx73
     obtain rfl := hr79
     refine drG 8 mixed (by kernel_rfl) rfl (dt rfl (m1 rfl fin1) (dt rfl (m1 rfl fin1) (dt rfl (iaP U39 Z77 rfl rfl rfl rfl (lt_of hx65) fin1) (dt rfl (ldA G77 Z77 rfl rfl (sS 1 rfl hq70) rfl fin1) (dt rfl (m1 rfl fin1) (dt rfl (m1 rfl fin1) (dt rfl (iaP U39 Z77 rfl rfl rfl rfl (lt_of hx73) fin1) (dt rfl (ldA G77 Z77 rfl rfl (sS 1 rfl hq78) rfl fin1) (DF.nil fun K80 hF => (neA x64 x72 T10.Q77 rfl rfl rfl (on ?_)))))))))))
     refine cb rfl (fun hc84 => ?_) (fun hc84 => ?_)
     ·replace hc84 := nbt hc84
      replace hc84 := of_decide_eq_false hc84
      have hr85 := if_n hc84 hr74
      refine sq (rg (a1 rfl (on (rt_ ?_))))
      cases hr85
      obtain rfl := Fin.out hz37
      cases hr33
      intro a w hS hA
      refine ret1 hA rfl rfl ?_
      exact ⟨rfl, hS.ext⟩
     ·replace hc84 := nbf hc84
      replace hc84 := of_decide_eq_true hc84
      have hr86 := if_p hc84 hr74
      refine sk (rg (m1 rfl (adI rfl rfl rfl (by omega) (a1 rfl (on ?_)))))
      cases hr86
      intro a w hS hA
      exact ⟨_, hz37, hS.selH [1] rfl, hA.cut ⟨rfl, rfl, rfl, tv⟩⟩
    ·have hr87 := if_n hc42 hr36
     refine xt rfl ?_
     cases hr87
     obtain rfl := Fin.out hz37
     intro a w hS hA
     exact ⟨_, rfl, hS, hA.cut tv⟩
  ·rintro a w ⟨t34, rfl, hS, hA⟩
   refine TG.ap ?_ hS hA
   refine sq (rg (a1 rfl (on (rt_ ?_))))
   cases hr33
   intro a w hS hA
   refine ret1 hA rfl rfl ?_
   exact ⟨rfl, hS.ext⟩

theorem w10 {M : Prop} {W : World} {H : Hp} (hH : H.le (hp W)) (hg : Gv M H) {cs_v_0 : List Value} (v_0 : Volume) (h_v_0 : (RVolume) H cs_v_0 v_0) {ad_errata : Option Addr} {cap_errata : Nat} {errata : List Erratum} (h_errata : Sl (Flat encErratum) 6 H ad_errata cap_errata errata) (day : Int) (by_3 : Int) (at_4 : Int) (cut : Int) (end_6 : Int) {r : Bool} (hr : m10 v_0 errata day by_3 at_4 cut end_6 = some r) : Calls Tryz.prog 10 [.agg cs_v_0.toArray, .slice ad_errata errata.length cap_errata, .int .u16 day, .int .u8 by_3, .int .u8 at_4, .int .u8 cut, .int .u8 end_6].toArray W (RetS M W (.bool r)) := by
 have hh_v_0 := h_v_0
 obtain ⟨ad1, cap2, rfl, hl3⟩ := h_v_0
 have := hl3.len
 have := h_errata.len
 unfold m10 at hr
 refine enterG (M := M) Tryz.func10 rfl Tryz.ntmps10 rfl hH ?_
 refine sq (rg (bI (cs := [.int .i64 v_0.number, .int .i64 v_0.bound, .int .i64 v_0.height, .int .i64 v_0.width, .slice ad1 v_0.parts.length cap2]) rfl rfl rfl fun q4 K5 hK6 => (a1 rfl (on (sq (sq (rg (ldA G24 Z24 rfl rfl (sS 0 rfl hK6) rfl (m1 rfl ?_)))))))))
 obtain ⟨r7, hx8, hr9⟩ := bd_some hr
 refine clS C11 rfl rfl rfl rfl (fun w H hH le => w11 hH v_0 (RVolume.mono _ _ _ _ (le.at 1 rfl) hh_v_0) (h_errata.mono (Flat.mono _) (le.at 1 rfl)) hx8) (nt rfl rfl (on ?_))
 refine cb rfl (fun hc16 => ?_) (fun hc16 => ?_)
 ·replace hc16 := nbt hc16
  have hr17 := if_f hc16 hr9
  refine sq (rg ?_)
  obtain ⟨r18, hx19, hr20⟩ := bd_some hr17
  refine clS C12 rfl rfl rfl rfl (fun w H hH le => w12 hH (hg.mono (le.at 1 rfl))  hx19) (a1 rfl (on (rt_ ?_)))
  cases hr20
  intro a w hS hA
  refine ret1 hA rfl rfl ?_
  exact ⟨rfl, hS.ext⟩
 ·replace hc16 := nbf hc16
  have hr21 := if_p hc16 hr9
  refine sk (sq (rg (m1 rfl ?_)))
  obtain ⟨r22, hx23, hr24⟩ := bd_some hr21
  refine clK C15 rfl rfl rfl rfl (fun w H hH le => w15 hH (h_errata.mono (Flat.mono _) (le.at 1 rfl)) hx23) ?_
  rintro v_ K25 ⟨ad26, cap27, rfl, hl28⟩
  have := hl28.len
  refine a1 rfl (on (sq (rg (m1 rfl (m1 rfl (m1 rfl ?_))))))
  obtain ⟨r29, hx30, hr31⟩ := bd_some hr24
  refine clK C28 rfl rfl rfl rfl (fun w H hH le => w28 hH (hl28.mono (Flat.mono _) (le.at 0 rfl)) by_3 at_4 hx30) ?_
  rintro v_ K32 ⟨ad33, cap34, rfl, hl35⟩
  have := hl35.len
  refine a1 rfl (on (sq (rg (ldA G24 Z24 rfl rfl (sS 2 rfl hK6) rfl ?_))))
  obtain ⟨r36, hx37, hr38⟩ := bd_some hr31
  refine clK C14 rfl rfl rfl rfl (fun w H hH le => w14 hH v_0 (RVolume.mono _ _ _ _ (le.at 3 rfl) hh_v_0) hx37) ?_
  rintro v_ K39 ⟨cs40, rfl, hr41⟩
  have hr42 := hr41
  obtain ⟨ad43, cap44, rfl, hl45⟩ := hr41
  have := hl45.len
  refine m1 rfl (m1 rfl ?_)
  obtain ⟨hk46, hr47⟩ := chk_some hr38
  refine cvI U28 U3 rfl rfl (wr_i64 hk46) ?_
  obtain ⟨r48, hx49, hr50⟩ := bd_some hr47
  refine clK C13 rfl rfl rfl rfl (fun w H hH le => w13 hH r36 (RVolume.mono _ _ _ _ (le.at 0 rfl) hr42) (hl28.mono (Flat.mono _) (le.at 2 rfl)) day hx49) ?_
  rintro v_ K51 ⟨ad52, cap53, rfl, hl54⟩
  have := hl54.len
  refine m1 rfl (ex rfl rfl rfl (ex rfl rfl rfl (a1 rfl (a1 rfl (on (sq (rg (ldA G24 Z24 rfl rfl (sS 4 rfl hK6) rfl (clK C14 rfl rfl rfl rfl (fun w H hH le => w14 hH v_0 (RVolume.mono _ _ _ _ (le.at 5 rfl) hh_v_0) hx37) ?_)))))))))
  rintro v_ K55 ⟨cs56, rfl, hr57⟩
  have hr58 := hr57
  obtain ⟨ad59, cap60, rfl, hl61⟩ := hr57
  have := hl61.len
  refine m1 rfl (m1 rfl (cvI U28 U3 rfl rfl (wr_i64 hk46) ?_))
  obtain ⟨r62, hx63, hr64⟩ := bd_some hr50
  refine clK C13 rfl rfl rfl rfl (fun w H hH le => w13 hH r36 (RVolume.mono _ _ _ _ (le.at 0 rfl) hr58) (hl35.mono (Flat.mono _) (le.at 3 rfl)) day hx63) ?_
  rintro v_ K65 ⟨ad66, cap67, rfl, hl68⟩
  have := hl68.len
  refine m1 rfl (ex rfl rfl rfl (ex rfl rfl rfl (a1 rfl (a1 rfl (on (sq (rg (ldA G24 Z24 rfl rfl (sS 6 rfl hK6) rfl (clK C14 rfl rfl rfl rfl (fun w H hH le => w14 hH v_0 (RVolume.mono _ _ _ _ (le.at 7 rfl) hh_v_0) hx37) ?_)))))))))
  rintro v_ K69 ⟨cs70, rfl, hr71⟩
  have hr72 := hr71
  obtain ⟨ad73, cap74, rfl, hl75⟩ := hr71
  have := hl75.len
  refine m1 rfl ?_
  obtain ⟨r76, hx77, hr78⟩ := bd_some hr64
  refine clK C17 rfl rfl rfl rfl (fun w H hH le => w17 hH r36 (RVolume.mono _ _ _ _ (le.at 0 rfl) hr72) (hl28.mono (Flat.mono _) (le.at 6 rfl)) hx77) ?_
  rintro v_ K79 ⟨ad80, cap81, rfl, hl82⟩
  have := hl82.len
  refine m1 rfl (ex rfl rfl rfl (ex rfl rfl rfl (a1 rfl (a1 rfl (on (sq (rg (ldA G24 Z24 rfl rfl (sS 8 rfl hK6) rfl (clK C14 rfl rfl rfl rfl (fun w H hH le => w14 hH v_0 (RVolume.mono _ _ _ _ (le.at 9 rfl) hh_v_0) hx37) ?_)))))))))
  rintro v_ K83 ⟨cs84, rfl, hr85⟩
  have hr86 := hr85
  obtain ⟨ad87, cap88, rfl, hl89⟩ := hr85
  have := hl89.len
  refine m1 rfl ?_
  obtain ⟨r90, hx91, hr92⟩ := bd_some hr78
  refine clK C17 rfl rfl rfl rfl (fun w H hH le => w17 hH r36 (RVolume.mono _ _ _ _ (le.at 0 rfl) hr86) (hl35.mono (Flat.mono _) (le.at 7 rfl)) hx91) ?_
  rintro v_ K93 ⟨ad94, cap95, rfl, hl96⟩
  have := hl96.len
  refine m1 rfl (ex rfl rfl rfl (ex rfl rfl rfl (a1 rfl (a1 rfl (on (sq (sq ?_)))))))
  obtain ⟨t118, hx119, hr120⟩ := bd_some hr92
  refine jn (fun a w => St M W H [K93, K83, K79, K69, K65, K55, K51, K39, K32, K25, K5, H] [] w ∧ Has [] 215 a [(1, .slice ad_errata errata.length cap_errata), (5, .int .u8 cut), (6, .int .u8 end_6), (15, .slice ad26 r22.length cap27), (16, .slice ad33 r29.length cap34), (107, .bool t118)]) ?_ ?_
  ·refine rg (m1 rfl (neI rfl rfl rfl (m1 rfl ?_)))
   by_cases hb121 : r48.2 ≠ 0
   ·have hr122 := if_p hb121 hx119
    refine gf' hb121 rfl (gf' hb121 rfl (pt hb121 rfl rfl (m1 rfl (gF rfl rfl rfl rfl (gF rfl rfl rfl rfl (pT rfl rfl rfl rfl (m1 rfl (gF rfl rfl rfl rfl (gF rfl rfl rfl rfl (pT rfl rfl rfl rfl (m1 rfl ?_)))))))))))
    refine gF rfl rfl rfl rfl (gF rfl rfl rfl rfl (gF rfl rfl rfl rfl (gF rfl rfl rfl rfl (pT rfl rfl rfl rfl (m1 rfl (gF rfl rfl rfl rfl (gF rfl rfl rfl rfl (gF rfl rfl rfl rfl (gF rfl rfl rfl rfl (pT rfl rfl rfl rfl (on ?_)))))))))))
    cases hr122
    exact cu ⟨rfl, rfl, rfl, rfl, rfl, rfl, tv⟩
   ·have hr123 := if_n hb121 hx119
    refine gt' hb121 rfl (m1 rfl (gt' hb121 rfl (neI rfl rfl rfl (pf hb121 rfl rfl (m1 rfl ?_)))))
    by_cases hb124 : r62.2 ≠ 0
    ·have hr125 := if_p hb124 hr123
     refine gf' hb124 rfl (gf' hb124 rfl (pt hb124 rfl rfl (m1 rfl (gF rfl rfl rfl rfl (gF rfl rfl rfl rfl (pT rfl rfl rfl rfl (m1 rfl (gF rfl rfl rfl rfl (gF rfl rfl rfl rfl (gF rfl rfl rfl rfl (gF rfl rfl rfl rfl ?_)))))))))))
     refine pT rfl rfl rfl rfl (m1 rfl (gF rfl rfl rfl rfl (gF rfl rfl rfl rfl (gF rfl rfl rfl rfl (gF rfl rfl rfl rfl (pT rfl rfl rfl rfl (on ?_)))))))
     cases hr125
     exact cu ⟨rfl, rfl, rfl, rfl, rfl, rfl, tv⟩
    ·have hr126 := if_n hb124 hr123
     refine gt' hb124 rfl (m1 rfl (gt' hb124 rfl (neI rfl rfl rfl (pf hb124 rfl rfl (m1 rfl ?_)))))
     by_cases hb127 : r76.2 ≠ 0
     ·have hr128 := if_p hb127 hr126
      refine gf' hb127 rfl (gf' hb127 rfl (pt hb127 rfl rfl (m1 rfl (gF rfl rfl rfl rfl (gF rfl rfl rfl rfl (gF rfl rfl rfl rfl (gF rfl rfl rfl rfl (pT rfl rfl rfl rfl (m1 rfl (gF rfl rfl rfl rfl (gF rfl rfl rfl rfl ?_)))))))))))
      refine gF rfl rfl rfl rfl (gF rfl rfl rfl rfl (pT rfl rfl rfl rfl (on ?_)))
      cases hr128
      exact cu ⟨rfl, rfl, rfl, rfl, rfl, rfl, tv⟩
     ·have hr129 := if_n hb127 hr126
      refine gt' hb127 rfl (m1 rfl (gt' hb127 rfl (neI rfl rfl rfl (pf hb127 rfl rfl (m1 rfl ?_)))))
      by_cases hb130 : r90.2 ≠ 0
      ·have hr131 := if_p hb130 hr129
       refine gf' hb130 rfl (gf' hb130 rfl (gf' hb130 rfl (gf' hb130 rfl (pt hb130 rfl rfl (m1 rfl (gF rfl rfl rfl rfl (gF rfl rfl rfl rfl (gF rfl rfl rfl rfl (gF rfl rfl rfl rfl (pT rfl rfl rfl rfl (on ?_)))))))))))
       cases hr131
       exact cu ⟨rfl, rfl, rfl, rfl, rfl, rfl, tv⟩
      ·have hr132 := if_n hb130 hr129
       refine gt' hb130 rfl (m1 rfl (gt' hb130 rfl (m1 rfl (gt' hb130 rfl ?_))))
       obtain ⟨r133, hx134, hr135⟩ := bd_some hr132
       refine clS C16 rfl rfl rfl rfl (fun w H hH le => w16 hH (hl54.mono (Flat.mono _) (le.at 6 rfl)) (hl68.mono (Flat.mono _) (le.at 4 rfl)) hx134) (gt' hb130 rfl (nt rfl rfl (pf hb130 rfl rfl (m1 rfl ?_))))
       rcases Bool.eq_false_or_eq_true (r133) with hb136 | hb136
       ·have hr137 := if_p hb136 hr135
        refine gN rfl rfl (congrArg not (hb136)) (m1 rfl (gN rfl rfl (congrArg not (hb136)) (m1 rfl (gN rfl rfl (congrArg not (hb136)) ?_))))
        obtain ⟨r138, hx139, hr140⟩ := bd_some hr137
        refine clS C18 rfl rfl rfl rfl (fun w H hH le => w18 hH (hl82.mono (Flat.mono _) (le.at 2 rfl)) (hl96.mono (Flat.mono _) (le.at 0 rfl)) hx139) (gN rfl rfl (congrArg not (hb136)) (nt rfl rfl (pF rfl rfl (congrArg not (hb136)) rfl (on ?_))))
        cases hr140
        exact cu ⟨rfl, rfl, rfl, rfl, rfl, rfl, tv⟩
       ·have hr141 := if_f hb136 hr135
        refine gF rfl rfl (congrArg not (hb136)) rfl (gF rfl rfl (congrArg not (hb136)) rfl (gF rfl rfl (congrArg not (hb136)) rfl (gF rfl rfl (congrArg not (hb136)) rfl (pT rfl rfl (congrArg not (hb136)) rfl (on ?_)))))
        cases hr141
        exact cu ⟨rfl, rfl, rfl, rfl, rfl, rfl, tv⟩
  ·rintro a w ⟨hS, hA⟩
   refine TG.ap ?_ hS hA
   refine cb rfl (fun hc145 => ?_) (fun hc145 => ?_)
   ·have hr146 := if_p hc145 hr120
    refine sq (rg (a1 rfl (on (rt_ ?_))))
    cases hr146
    intro a w hS hA
    refine ret1 hA rfl rfl ?_
    exact ⟨rfl, hS.ext⟩
   ·have hr147 := if_f hc145 hr120
    refine sk (sq (rg (m1 rfl ?_)))
    obtain ⟨hk148, hr149⟩ := chk_some hr147
    refine cvI U5 U3 rfl rfl (wr_i64 hk148) (m1 rfl (lnL U39 rfl rfl ?_))
    obtain ⟨hk150, hr151⟩ := chk_some hr149
    refine adI rfl rfl rfl hk150 ?_
    obtain ⟨hk152, hr153⟩ := chk_some hr151
    have : 0 ≤ (cut % ((r22.length : Int) + 1)) ∧ (cut % ((r22.length : Int) + 1)) < ((r22.length : Int) + 1) := have h := (hk152 : 0 ≤ cut ∧ 0 < ((r22.length : Int) + 1)); ⟨Int.emod_nonneg _ (by omega), Int.emod_lt_of_pos _ h.2⟩
    refine rmI rfl rfl rfl hk152 (a1 rfl (on (sq (rg (m1 rfl (m1 rfl ?_))))))
    obtain ⟨hk154, hr155⟩ := chk_some hr153
    refine cvI U5 U3 rfl rfl (wr_i64 hk154) (m1 rfl (lnL U39 rfl rfl (m1 rfl (sbI rfl rfl rfl (by omega) ?_))))
    obtain ⟨hk156, hr157⟩ := chk_some hr155
    refine adI rfl rfl rfl hk156 ?_
    obtain ⟨hk158, hr159⟩ := chk_some hr157
    have : 0 ≤ (end_6 % (((r22.length : Int) - (cut % ((r22.length : Int) + 1))) + 1)) ∧ (end_6 % (((r22.length : Int) - (cut % ((r22.length : Int) + 1))) + 1)) < (((r22.length : Int) - (cut % ((r22.length : Int) + 1))) + 1) := have h := (hk158 : 0 ≤ end_6 ∧ 0 < (((r22.length : Int) - (cut % ((r22.length : Int) + 1))) + 1)); ⟨Int.emod_nonneg _ (by omega), Int.emod_lt_of_pos _ h.2⟩
    refine rmI rfl rfl rfl hk158 ?_
    obtain ⟨hk160, hr161⟩ := chk_some hr159
    refine adI rfl rfl rfl hk160 (a1 rfl (on (sq ?_)))
    obtain ⟨hk162, hr163⟩ := chk_some hr161
    obtain ⟨hk170, hr171⟩ := chk_some hr163
    refine drG 9 mixed (by kernel_rfl) rfl (dt rfl (m1 rfl fin1) (dt rfl (m1 rfl fin1) (DF.und (α := Option Addr × Nat) (none, 0) (fun q => .slice q.1 ((r22.take (((cut % ((r22.length : Int) + 1)) + (end_6 % (((r22.length : Int) - (cut % ((r22.length : Int) + 1))) + 1))).toNat)).length) q.2) (fun (q : Option Addr × Nat) K => Sl (Flat encErratum) 6 K q.1 q.2 (r22.take (((cut % ((r22.length : Int) + 1)) + (end_6 % (((r22.length : Int) - (cut % ((r22.length : Int) + 1))) + 1))).toNat))) (fun _ _ _ h x => x.mono (Flat.mono _) h) (by kernel_rfl) rfl (fun a w K hS hA hF => TG.pa hS hA (slT (((cut % ((r22.length : Int) + 1)) + (end_6 % (((r22.length : Int) - (cut % ((r22.length : Int) + 1))) + 1))).toNat) U39 Z77 hl28 rfl rfl rfl rfl (by omega) hk162 fun ad164 cap165 hl166 => TG.pack (fun K => Sl (Flat encErratum) 6 K ad164 cap165 (r22.take (((cut % ((r22.length : Int) + 1)) + (end_6 % (((r22.length : Int) - (cut % ((r22.length : Int) + 1))) + 1))).toNat))) (fun H le => hl166.mono (Flat.mono _) (le.at 10 rfl)) fun _ hl166 => finU (f := fun q => .slice q.1 ((r22.take (((cut % ((r22.length : Int) + 1)) + (end_6 % (((r22.length : Int) - (cut % ((r22.length : Int) + 1))) + 1))).toNat)).length) q.2) (G := (fun (q : Option Addr × Nat) K => Sl (Flat encErratum) 6 K q.1 q.2 (r22.take (((cut % ((r22.length : Int) + 1)) + (end_6 % (((r22.length : Int) - (cut % ((r22.length : Int) + 1))) + 1))).toNat)))) (_, _) (fun _ _ _ h x => x.mono (Flat.mono _) h) hl166)) ?_)))
    rintro ⟨ad168, cap169⟩
    refine dt rfl (m1 rfl fin1) (dt rfl (m1 rfl fin1) (DF.und (α := Option Addr × Nat) (none, 0) (fun q => .slice q.1 ((r22.drop ((cut % ((r22.length : Int) + 1)).toNat)).length) q.2) (fun (q : Option Addr × Nat) K => Sl (Flat encErratum) 6 K q.1 q.2 (r22.drop ((cut % ((r22.length : Int) + 1)).toNat))) (fun _ _ _ h x => x.mono (Flat.mono _) h) (by kernel_rfl) rfl (fun a w K hS hA hF => TG.pa hS hA (slF ((cut % ((r22.length : Int) + 1)).toNat) U39 Z77 hl28 rfl rfl rfl rfl (by omega) hk170 fun ad172 cap173 hl174 => TG.pack (fun K => Sl (Flat encErratum) 6 K ad172 cap173 (r22.drop ((cut % ((r22.length : Int) + 1)).toNat))) (fun H le => hl174.mono (Flat.mono _) (le.at 10 rfl)) fun _ hl174 => finU (f := fun q => .slice q.1 ((r22.drop ((cut % ((r22.length : Int) + 1)).toNat)).length) q.2) (G := (fun (q : Option Addr × Nat) K => Sl (Flat encErratum) 6 K q.1 q.2 (r22.drop ((cut % ((r22.length : Int) + 1)).toNat)))) (_, _) (fun _ _ _ h x => x.mono (Flat.mono _) h) hl174)) ?_))
    rintro ⟨ad176, cap177⟩
    refine dt rfl (m1 rfl fin1) (DF.und () (fun _ => .slice ad168 ((r22.take (((cut % ((r22.length : Int) + 1)) + (end_6 % (((r22.length : Int) - (cut % ((r22.length : Int) + 1))) + 1))).toNat)).length) cap169) (fun _ K => Sl (Flat encErratum) 6 K ad168 cap169 (r22.take (((cut % ((r22.length : Int) + 1)) + (end_6 % (((r22.length : Int) - (cut % ((r22.length : Int) + 1))) + 1))).toNat))) (fun _ _ _ h x => x.mono (Flat.mono _) h) (by kernel_rfl) rfl (fun a w K hS hA hF => TG.pa hS hA (a1 rfl (finF (f := fun _ => .slice ad168 ((r22.take (((cut % ((r22.length : Int) + 1)) + (end_6 % (((r22.length : Int) - (cut % ((r22.length : Int) + 1))) + 1))).toNat)).length) cap169) (G := fun _ K => Sl (Flat encErratum) 6 K ad168 cap169 (r22.take (((cut % ((r22.length : Int) + 1)) + (end_6 % (((r22.length : Int) - (cut % ((r22.length : Int) + 1))) + 1))).toNat))) () (hF.2.1 rfl)))) fun _ => (DF.und () (fun _ => .slice ad176 ((r22.drop ((cut % ((r22.length : Int) + 1)).toNat)).length) cap177) (fun _ K => Sl (Flat encErratum) 6 K ad176 cap177 (r22.drop ((cut % ((r22.length : Int) + 1)).toNat))) (fun _ _ _ h x => x.mono (Flat.mono _) h) (by kernel_rfl) rfl (fun a w K hS hA hF => TG.pa hS hA (a1 rfl (finF (f := fun _ => .slice ad176 ((r22.drop ((cut % ((r22.length : Int) + 1)).toNat)).length) cap177) (G := fun _ K => Sl (Flat encErratum) 6 K ad176 cap177 (r22.drop ((cut % ((r22.length : Int) + 1)).toNat))) () (hF.2.1 rfl)))) fun _ => (DF.nil fun K180 hF => ?_)))
    obtain ⟨hu179, hu178, hu175, hu167, _⟩ := hF
    have := hu167.len
    have := hu175.len
    refine a1 rfl (on (sq (rg (m1 rfl (m1 rfl ?_)))))
    obtain ⟨r181, hx182, hr183⟩ := bd_some hr171
    refine clK C26 rfl rfl rfl rfl (fun w H hH le => w26 hH (hu178.mono (Flat.mono _) (le.at 0 rfl)) (hu179.mono (Flat.mono _) (le.at 0 rfl)) hx182) ?_
    rintro v_ K184 ⟨ad185, cap186, rfl, hl187⟩
    have := hl187.len
    refine m1 rfl (ex rfl rfl rfl (ex rfl rfl rfl (a1 rfl (a1 rfl (on (sq (rg (m1 rfl (m1 rfl ?_)))))))))
    obtain ⟨r188, hx189, hr190⟩ := bd_some hr183
    refine clK C26 rfl rfl rfl rfl (fun w H hH le => w26 hH (hu179.mono (Flat.mono _) (le.at 1 rfl)) (hu178.mono (Flat.mono _) (le.at 1 rfl)) hx189) ?_
    rintro v_ K191 ⟨ad192, cap193, rfl, hl194⟩
    have := hl194.len
    refine m1 rfl (ex rfl rfl rfl (ex rfl rfl rfl (a1 rfl (a1 rfl (on (sq (rg (m1 rfl (m1 rfl ?_)))))))))
    obtain ⟨r195, hx196, hr197⟩ := bd_some hr190
    refine clK C26 rfl rfl rfl rfl (fun w H hH le => w26 hH (hu179.mono (Flat.mono _) (le.at 2 rfl)) (hl35.mono (Flat.mono _) (le.at 11 rfl)) hx196) ?_
    rintro v_ K198 ⟨ad199, cap200, rfl, hl201⟩
    have := hl201.len
    refine m1 rfl (ex rfl rfl rfl (ex rfl rfl rfl (a1 rfl (a1 rfl (on (sq (rg (m1 rfl (m1 rfl ?_)))))))))
    obtain ⟨r202, hx203, hr204⟩ := bd_some hr197
    refine clK C26 rfl rfl rfl rfl (fun w H hH le => w26 hH (hl187.mono (Flat.mono _) (le.at 2 rfl)) (hl35.mono (Flat.mono _) (le.at 12 rfl)) hx203) ?_
    rintro v_ K205 ⟨ad206, cap207, rfl, hl208⟩
    have := hl208.len
    refine m1 rfl (ex rfl rfl rfl (ex rfl rfl rfl (a1 rfl (a1 rfl (on (sq (rg (m1 rfl (m1 rfl ?_)))))))))
    obtain ⟨r209, hx210, hr211⟩ := bd_some hr204
    refine clK C26 rfl rfl rfl rfl (fun w H hH le => w26 hH (hu178.mono (Flat.mono _) (le.at 4 rfl)) (hl201.mono (Flat.mono _) (le.at 1 rfl)) hx210) ?_
    rintro v_ K212 ⟨ad213, cap214, rfl, hl215⟩
    have := hl215.len
    refine m1 rfl (ex rfl rfl rfl (ex rfl rfl rfl (a1 rfl (a1 rfl (on (sq (rg (m1 rfl (m1 rfl ?_)))))))))
    obtain ⟨r216, hx217, hr218⟩ := bd_some hr211
    refine clK C26 rfl rfl rfl rfl (fun w H hH le => w26 hH (hl28.mono (Flat.mono _) (le.at 15 rfl)) (hl35.mono (Flat.mono _) (le.at 14 rfl)) hx217) ?_
    rintro v_ K219 ⟨ad220, cap221, rfl, hl222⟩
    have := hl222.len
    refine m1 rfl (ex rfl rfl rfl (ex rfl rfl rfl (a1 rfl (a1 rfl (on (sq (rg (m1 rfl ?_))))))))
    obtain ⟨r223, hx224, hr225⟩ := bd_some hr218
    refine clK C29 rfl rfl rfl rfl (fun w H hH le => w29 hH (h_errata.mono (Flat.mono _) (le.at 18 rfl)) hx224) ?_
    rintro v_ K226 ⟨ad227, cap228, rfl, hl229⟩
    have := hl229.len
    obtain ⟨r230, hx231, hr232⟩ := bd_some hr225
    refine clK C15 rfl rfl rfl rfl (fun w H hH le => w15 hH (hl229.mono (Flat.mono _) (le.at 0 rfl)) hx231) ?_
    rintro v_ K233 ⟨ad234, cap235, rfl, hl236⟩
    have := hl236.len
    refine a1 rfl (on (sq ?_))
    obtain ⟨t282, hx283, hr284⟩ := bd_some hr232
    refine jn (fun a w => St M W H [K233, K226, K219, K212, K205, K198, K191, K184, K180, K93, K83, K79, K69, K65, K55, K51, K39, K32, K25, K5, H] [] w ∧ Has [] 215 a [(14, .bool t282)]) ?_ ?_
    ·refine rg (m1 rfl (eqI rfl rfl rfl (m1 rfl ?_)))
     by_cases hb285 : r181.2 = 0
     ·have hr286 := if_p hb285 hx283
      refine gt hb285 rfl (m1 rfl (gt hb285 rfl (eqI rfl rfl rfl (pt hb285 rfl rfl (m1 rfl ?_)))))
      by_cases hb287 : r188.2 = 0
      ·have hr288 := if_p hb287 hr286
       refine gt hb287 rfl (m1 rfl (gt hb287 rfl (eqI rfl rfl rfl (pt hb287 rfl rfl (m1 rfl ?_)))))
       by_cases hb289 : r195.2 = 0
       ·have hr290 := if_p hb289 hr288
        refine gt hb289 rfl (m1 rfl (gt hb289 rfl (eqI rfl rfl rfl (pt hb289 rfl rfl (m1 rfl ?_)))))
        by_cases hb291 : r202.2 = 0
        ·have hr292 := if_p hb291 hr290
         refine gt hb291 rfl (m1 rfl (gt hb291 rfl (eqI rfl rfl rfl (pt hb291 rfl rfl (m1 rfl ?_)))))
         by_cases hb293 : r209.2 = 0
         ·have hr294 := if_p hb293 hr292
          refine gt hb293 rfl (m1 rfl (gt hb293 rfl (eqI rfl rfl rfl (pt hb293 rfl rfl (m1 rfl ?_)))))
          by_cases hb295 : r216.2 = 0
          ·have hr296 := if_p hb295 hr294
           refine gt hb295 rfl (m1 rfl (gt hb295 rfl (m1 rfl (gt hb295 rfl ?_))))
           obtain ⟨r297, hx298, hr299⟩ := bd_some hr296
           refine clS C30 rfl rfl rfl rfl (fun w H hH le => w30 hH (hl187.mono (Flat.mono _) (le.at 7 rfl)) (hl194.mono (Flat.mono _) (le.at 6 rfl)) hx298) (pt hb295 rfl rfl (m1 rfl ?_))
           rcases Bool.eq_false_or_eq_true (r297) with hb300 | hb300
           ·have hr301 := if_p hb300 hr299
            refine gN rfl rfl (hb300) (m1 rfl (gN rfl rfl (hb300) (m1 rfl (gN rfl rfl (hb300) ?_))))
            obtain ⟨r302, hx303, hr304⟩ := bd_some hr301
            refine clS C30 rfl rfl rfl rfl (fun w H hH le => w30 hH (hl208.mono (Flat.mono _) (le.at 4 rfl)) (hl215.mono (Flat.mono _) (le.at 3 rfl)) hx303) (pT rfl rfl (hb300) rfl (m1 rfl ?_))
            rcases Bool.eq_false_or_eq_true (r302) with hb305 | hb305
            ·have hr306 := if_p hb305 hr304
             refine gN rfl rfl (hb305) (m1 rfl (gN rfl rfl (hb305) (m1 rfl (gN rfl rfl (hb305) ?_))))
             obtain ⟨r307, hx308, hr309⟩ := bd_some hr306
             refine clS C30 rfl rfl rfl rfl (fun w H hH le => w30 hH (hl222.mono (Flat.mono _) (le.at 2 rfl)) (hl236.mono (Flat.mono _) (le.at 0 rfl)) hx308) (pT rfl rfl (hb305) rfl (m1 rfl ?_))
             rcases Bool.eq_false_or_eq_true (r307) with hb310 | hb310
             ·have hr311 := if_p hb310 hr309
              refine gN rfl rfl (hb310) (m1 rfl (gN rfl rfl (hb310) (m1 rfl (gN rfl rfl (hb310) ?_))))
              obtain ⟨r312, hx313, hr314⟩ := bd_some hr311
              refine clS C30 rfl rfl rfl rfl (fun w H hH le => w30 hH (hl208.mono (Flat.mono _) (le.at 4 rfl)) (hl236.mono (Flat.mono _) (le.at 0 rfl)) hx313) (pT rfl rfl (hb310) rfl (m1 rfl ?_))
              rcases Bool.eq_false_or_eq_true (r312) with hb315 | hb315
              ·have hr316 := if_p hb315 hr314
               refine gN rfl rfl (hb315) ?_
               obtain ⟨r317, hx318, hr319⟩ := bd_some hr316
               refine clS C12 rfl rfl rfl rfl (fun w H hH le => w12 hH (hg.mono (le.at 20 rfl))  hx318) (pT rfl rfl (hb315) rfl (a1 rfl (on ?_)))
               cases hr319
               exact cu ⟨rfl, tv⟩
              ·have hr320 := if_f hb315 hr314
               refine gF rfl rfl (hb315) rfl (pF rfl rfl (hb315) rfl (a1 rfl (on ?_)))
               cases hr320
               exact cu ⟨rfl, tv⟩
             ·have hr321 := if_f hb310 hr309
              refine gF rfl rfl (hb310) rfl (gF rfl rfl (hb310) rfl (gF rfl rfl (hb310) rfl (pF rfl rfl (hb310) rfl (m1 rfl (gF rfl rfl rfl rfl (pF rfl rfl rfl rfl (a1 rfl (on ?_))))))))
              cases hr321
              exact cu ⟨rfl, tv⟩
            ·have hr322 := if_f hb305 hr304
             refine gF rfl rfl (hb305) rfl (gF rfl rfl (hb305) rfl (gF rfl rfl (hb305) rfl (pF rfl rfl (hb305) rfl (m1 rfl (gF rfl rfl rfl rfl (gF rfl rfl rfl rfl (gF rfl rfl rfl rfl (pF rfl rfl rfl rfl (m1 rfl (gF rfl rfl rfl rfl (pF rfl rfl rfl rfl ?_)))))))))))
             refine a1 rfl (on ?_)
             cases hr322
             exact cu ⟨rfl, tv⟩
           ·have hr323 := if_f hb300 hr299
            refine gF rfl rfl (hb300) rfl (gF rfl rfl (hb300) rfl (gF rfl rfl (hb300) rfl (pF rfl rfl (hb300) rfl (m1 rfl (gF rfl rfl rfl rfl (gF rfl rfl rfl rfl (gF rfl rfl rfl rfl (pF rfl rfl rfl rfl (m1 rfl (gF rfl rfl rfl rfl (gF rfl rfl rfl rfl ?_)))))))))))
            refine gF rfl rfl rfl rfl (pF rfl rfl rfl rfl (m1 rfl (gF rfl rfl rfl rfl (pF rfl rfl rfl rfl (a1 rfl (on ?_))))))
            cases hr323
            exact cu ⟨rfl, tv⟩
          ·have hr324 := if_n hb295 hr294
           refine gf hb295 rfl (gf hb295 rfl (gf hb295 rfl (pf hb295 rfl rfl (m1 rfl (gF rfl rfl rfl rfl (gF rfl rfl rfl rfl (gF rfl rfl rfl rfl (pF rfl rfl rfl rfl (m1 rfl (gF rfl rfl rfl rfl (gF rfl rfl rfl rfl ?_)))))))))))
           refine gF rfl rfl rfl rfl (pF rfl rfl rfl rfl (m1 rfl (gF rfl rfl rfl rfl (gF rfl rfl rfl rfl (gF rfl rfl rfl rfl (pF rfl rfl rfl rfl (m1 rfl (gF rfl rfl rfl rfl (pF rfl rfl rfl rfl (a1 rfl (on ?_)))))))))))
           cases hr324
           exact cu ⟨rfl, tv⟩
         ·have hr325 := if_n hb293 hr292
          refine gf hb293 rfl (gf hb293 rfl (pf hb293 rfl rfl (m1 rfl (gF rfl rfl rfl rfl (gF rfl rfl rfl rfl (gF rfl rfl rfl rfl (pF rfl rfl rfl rfl (m1 rfl (gF rfl rfl rfl rfl (gF rfl rfl rfl rfl (gF rfl rfl rfl rfl ?_)))))))))))
          refine pF rfl rfl rfl rfl (m1 rfl (gF rfl rfl rfl rfl (gF rfl rfl rfl rfl (gF rfl rfl rfl rfl (pF rfl rfl rfl rfl (m1 rfl (gF rfl rfl rfl rfl (gF rfl rfl rfl rfl (gF rfl rfl rfl rfl (pF rfl rfl rfl rfl (m1 rfl ?_)))))))))))
          refine gF rfl rfl rfl rfl (pF rfl rfl rfl rfl (a1 rfl (on ?_)))
          cases hr325
          exact cu ⟨rfl, tv⟩
        ·have hr326 := if_n hb291 hr290
         refine gf hb291 rfl (gf hb291 rfl (pf hb291 rfl rfl (m1 rfl (gF rfl rfl rfl rfl (gF rfl rfl rfl rfl (pF rfl rfl rfl rfl (m1 rfl (gF rfl rfl rfl rfl (gF rfl rfl rfl rfl (gF rfl rfl rfl rfl (pF rfl rfl rfl rfl ?_)))))))))))
         refine m1 rfl (gF rfl rfl rfl rfl (gF rfl rfl rfl rfl (gF rfl rfl rfl rfl (pF rfl rfl rfl rfl (m1 rfl (gF rfl rfl rfl rfl (gF rfl rfl rfl rfl (gF rfl rfl rfl rfl (pF rfl rfl rfl rfl (m1 rfl (gF rfl rfl rfl rfl ?_)))))))))))
         refine gF rfl rfl rfl rfl (gF rfl rfl rfl rfl (pF rfl rfl rfl rfl (m1 rfl (gF rfl rfl rfl rfl (pF rfl rfl rfl rfl (a1 rfl (on ?_)))))))
         cases hr326
         exact cu ⟨rfl, tv⟩
       ·have hr327 := if_n hb289 hr288
        refine gf hb289 rfl (gf hb289 rfl (pf hb289 rfl rfl (m1 rfl (gF rfl rfl rfl rfl (gF rfl rfl rfl rfl (pF rfl rfl rfl rfl (m1 rfl (gF rfl rfl rfl rfl (gF rfl rfl rfl rfl (pF rfl rfl rfl rfl (m1 rfl ?_)))))))))))
        refine gF rfl rfl rfl rfl (gF rfl rfl rfl rfl (gF rfl rfl rfl rfl (pF rfl rfl rfl rfl (m1 rfl (gF rfl rfl rfl rfl (gF rfl rfl rfl rfl (gF rfl rfl rfl rfl (pF rfl rfl rfl rfl (m1 rfl (gF rfl rfl rfl rfl (gF rfl rfl rfl rfl ?_)))))))))))
        refine gF rfl rfl rfl rfl (pF rfl rfl rfl rfl (m1 rfl (gF rfl rfl rfl rfl (gF rfl rfl rfl rfl (gF rfl rfl rfl rfl (pF rfl rfl rfl rfl (m1 rfl (gF rfl rfl rfl rfl (pF rfl rfl rfl rfl (a1 rfl (on ?_)))))))))))
        cases hr327
        exact cu ⟨rfl, tv⟩
      ·have hr328 := if_n hb287 hr286
       refine gf hb287 rfl (gf hb287 rfl (pf hb287 rfl rfl (m1 rfl (gF rfl rfl rfl rfl (gF rfl rfl rfl rfl (pF rfl rfl rfl rfl (m1 rfl (gF rfl rfl rfl rfl (gF rfl rfl rfl rfl (pF rfl rfl rfl rfl (m1 rfl ?_)))))))))))
       refine gF rfl rfl rfl rfl (gF rfl rfl rfl rfl (pF rfl rfl rfl rfl (m1 rfl (gF rfl rfl rfl rfl (gF rfl rfl rfl rfl (gF rfl rfl rfl rfl (pF rfl rfl rfl rfl (m1 rfl (gF rfl rfl rfl rfl (gF rfl rfl rfl rfl (gF rfl rfl rfl rfl ?_)))))))))))
       refine pF rfl rfl rfl rfl (m1 rfl (gF rfl rfl rfl rfl (gF rfl rfl rfl rfl (gF rfl rfl rfl rfl (pF rfl rfl rfl rfl (m1 rfl (gF rfl rfl rfl rfl (gF rfl rfl rfl rfl (gF rfl rfl rfl rfl (pF rfl rfl rfl rfl (m1 rfl ?_)))))))))))
       refine gF rfl rfl rfl rfl (pF rfl rfl rfl rfl (a1 rfl (on ?_)))
       cases hr328
       exact cu ⟨rfl, tv⟩
     ·have hr329 := if_n hb285 hx283
      refine gf hb285 rfl (gf hb285 rfl (pf hb285 rfl rfl (m1 rfl (gF rfl rfl rfl rfl (gF rfl rfl rfl rfl (pF rfl rfl rfl rfl (m1 rfl (gF rfl rfl rfl rfl (gF rfl rfl rfl rfl (pF rfl rfl rfl rfl (m1 rfl ?_)))))))))))
      refine gF rfl rfl rfl rfl (gF rfl rfl rfl rfl (pF rfl rfl rfl rfl (m1 rfl (gF rfl rfl rfl rfl (gF rfl rfl rfl rfl (pF rfl rfl rfl rfl (m1 rfl (gF rfl rfl rfl rfl (gF rfl rfl rfl rfl (gF rfl rfl rfl rfl (pF rfl rfl rfl rfl ?_)))))))))))
      refine m1 rfl (gF rfl rfl rfl rfl (gF rfl rfl rfl rfl (gF rfl rfl rfl rfl (pF rfl rfl rfl rfl (m1 rfl (gF rfl rfl rfl rfl (gF rfl rfl rfl rfl (gF rfl rfl rfl rfl (pF rfl rfl rfl rfl (m1 rfl (gF rfl rfl rfl rfl ?_)))))))))))
      refine gF rfl rfl rfl rfl (gF rfl rfl rfl rfl (pF rfl rfl rfl rfl (m1 rfl (gF rfl rfl rfl rfl (pF rfl rfl rfl rfl (a1 rfl (on ?_)))))))
      cases hr329
      exact cu ⟨rfl, tv⟩
    ·rintro a w ⟨hS, hA⟩
     refine TG.ap ?_ hS hA
     refine rt_ ?_
     cases hr284
     intro a w hS hA
     refine ret1 hA rfl rfl ?_
     exact ⟨rfl, hS.ext⟩

end T10
