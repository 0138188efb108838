/-
  For every input IndexNames answers true, and each argument reads afterwards as it did; the listed package variables are tied to the program text.
-/
import Derived.Test.YtejccogankgniaaGreatDoorWalkB
import Derived.Test.YtejccogankgniaaGreatDoorPlain
import Derived.Test.YtejccogankgniaaGreatDoorRows
import Derived.Test.YtejccogankgniaaGreatDoorCards
import Derived.Test.YtejccogankgniaaGreatDoorTie
import Derived.SevenTiedAt
import Derived.Lay
set_option linter.all false
set_option maxHeartbeats 4000000
namespace T11
open Go Go.Proofs Pk Go.RowKit Go.ChangeShapes Go.WideShapes
end T11
namespace Go.Proofs.YtejccogankgniaaGreatDoor
open Go Pk T11 Go.RowKit Go.ChangeShapes Go.WideShapes Go.ChangeAt Go.WideMaps Go.WideElems
theorem ownK : ownKnob Tryz.prog.godebug = none := by kernel_rfl
theorem laidOutP : laidOutB Tryz.prog = true := by kernel_rfl
def laidL : List (String × DataW Unit) := Rows.indexNamesRow.laid
theorem gv_of {W : World} (h : laidMetH Tryz.prog laidL W) (hs : W.ShapedOpen Tryz.prog) : Gv False (hp W) := by
 refine ⟨?_, ?_⟩
 ·rw [MakeChecks.laidMetH_plain _ _ _ (by kernel_rfl)] at h
  obtain ⟨ps, ⟨g0, t0, cs0, f0, p0, q0, hg0, ht0, hv0, hd0, ⟨g1, t1, cs1, f1, p1, q1, hg1, ht1, hv1, hd1, ⟨g2, t2, cs2, f2, p2, q2, hg2, ht2, hv2, hd2, ⟨g3, t3, cs3, f3, p3, q3, hg3, ht3, hv3, hd3, ⟨g4, t4, cs4, f4, p4, q4, hg4, ht4, hv4, hd4, ⟨g5, t5, cs5, f5, p5, q5, hg5, ht5, hv5, hd5, ⟨g6, t6, cs6, f6, p6, q6, hg6, ht6, hv6, hd6, _, _⟩, _⟩, _⟩, _⟩, _⟩, _⟩, _⟩, _, _⟩ := h
  obtain rfl := Option.some.inj (hg2.symm.trans (show _ = some 5 by kernel_rfl))
  obtain rfl := Option.some.inj (hg4.symm.trans (show _ = some 4 by kernel_rfl))
  obtain rfl := Option.some.inj (hg5.symm.trans (show _ = some 3 by kernel_rfl))
  obtain rfl := Option.some.inj (ht2.symm.trans (show _ = some 255 by kernel_rfl))
  obtain rfl := Option.some.inj (ht4.symm.trans (show _ = some 149 by kernel_rfl))
  obtain rfl := Option.some.inj (ht5.symm.trans (show _ = some 149 by kernel_rfl))
  obtain ⟨vR, hR, iR⟩ := rd_iface Tryz.underlying149 hd4
  obtain ⟨vS, hS, iS⟩ := rd_iface Tryz.underlying149 hd5
  have hT := rd_tab (zs := Lib.pow10Tab) Tryz.underlying255 Tryz.underlying178 (by kernel_rfl) (by kernel_rfl) (hd2.trans (show _ = some (DataW.agg (Lib.pow10Tab.map fun z => .lit (.int .u64 z)), p2) by kernel_rfl))
  exact gl_mk hg5 hv5 hS iS hg4 hv4 hR iR hg2 hv2 hT
 ·obtain ⟨m, hm⟩ := cell_of_shapedOpen_int (P := Tryz.prog) (g := 0) (t := 3) (zero := #[.int .i64 0]) hs (of_decide_eq_true (by kernel_rfl)) (by kernel_rfl) rfl (by kernel_rfl) (by kernel_rfl) Tryz.underlying3
  exact ⟨m, cells_one hm⟩
theorem met15 (os : Os) : laidMetH Tryz.prog laidL ((World.laidAll Tryz.prog os laidL).forCall (fun _ _ => 0) ⟨#[], #[], []⟩).memory := by
 rw [MakeChecks.laidMetH_plain _ _ _ (by kernel_rfl)]; exact laidMet_laidAll _ (by kernel_rfl) (by kernel_rfl)
set_option maxRecDepth 100000 in
theorem lifted15 (os : Os) (started : os.Started) (H : Type) (enc : TypeId × Value → H) :
  ReturnsInHanded {} Tryz.checked os 15 .any (fun w args => (Rows.indexNamesSpec.pre enc Tryz.prog Tryz.f15 [] false w args ∧ laidMetH Tryz.prog laidL w) ∧ sizedMet enc Tryz.prog Tryz.f15 (OpenSpec.ofChange Rows.indexNamesSpec) false w args)
   (Rows.indexNamesSpec.post enc Tryz.prog Tryz.f15 false true false false) := by
 refine rihS (C := Tryz.checked) (X := fun w => laidMetH Tryz.prog laidL w) (fun _ _ hh h => h.of_heap hh) ownK started (by kernel_rfl) Tryz.func15
  (ChangeSpec.witness_shaped (enc := enc) (C := Tryz.checked) (os := os) (X := fun w _ => laidMetH Tryz.prog laidL w) false (World.laidAll Tryz.prog os laidL) #[] 8 (World.laidAll_os _ _ _) (World.shaped_of_ZipB (by kernel_rfl) (by kernel_rfl)) (by kernel_rfl) (by kernel_rfl) (by kernel_rfl) (met15 os)) ?_
 intro W base args ds gs before hval0 hW hwt hL hsh
 have hval : ∀ (j : Nat) t v, Tryz.f15.params[j]? = some t → args[j]? = some v → Value.okWide Tryz.prog W .any base t v := hval0
 have hW1 := hW
 obtain ⟨p, q, hA0, hV, rfl, hfz, hnd⟩ := hW
 have hA : DataW.TrodAll enc Tryz.prog W 0 (fun _ => true) true Tryz.f15.params.toList args.toList ds p := hA0
 rw [Tryz.params15] at hA hval
 obtain ⟨en, rfl, rfl⟩ := trodAll_nil hA
 obtain rfl : args = #[] := by cases args; simp_all
 have hm : m15  = some true := law15
 refine (w15 (M := False) (Hp.le.refl (hp W)) (gv_of hL hsh)  hm).mono fun e W2 he => ?_
 cases e with
 | returned u =>
  obtain ⟨rfl, hE⟩ := he
  exact ⟨_, rfl, post_law hW1 rfl laidOutP (by rw [Tryz.params15]; decide +kernel) rfl rfl Tryz.underlying4 hE⟩
 | panicked c => exact he.elim
 | outgrown => exact he.elim
theorem said15 : Rows.IndexNamesSaid :=
 OpenClaim.holds_of_wide 15 Tryz.f15 rfl rfl rfl rfl rfl rfl rfl ⟨rfl, rfl, rfl, rfl, rfl⟩ rfl rfl rfl rfl rfl (by as_aux_lemma => kernel_rfl) Tryz.func15 (by unfold joinedFacts; (repeat' (with_reducible refine Pk.and_t ?_ ?_)); all_goals (as_aux_lemma => kernel_rfl))
  (of_decide_eq_true (by kernel_rfl)) (by unfold Func.isWrapper; first | (rw [if_pos (by decide +kernel)]; kernel_rfl) | (rw [if_neg (by decide +kernel)]; exact ⟨rfl, rfl⟩))
  (fun os started H enc _ => lifted15 os started H enc)
theorem card15 : Rows.IndexNamesCardSaid :=
 Claim7.holds_tied_plain_at .later [] [.data, .data, .data, .data, .sentinel, .sentinel, .pinned] true (true, "8560fcf8dd08595597f7da9e8cac75596f6de4f674c249afd6e8f1d0b53ad774") true
  said15 (fun _ h => by cases h) (by as_aux_lemma => kernel_rfl) (fun _ h => by cases h) indexNames_row_tie rfl ⟨rfl, rfl⟩ (by as_aux_lemma => kernel_rfl) rfl
  (fun f fn hf hfn => by
   obtain rfl : f = 15 := Option.some.inj ((show Tryz.prog.funcNamed Tryz.f15.name = some 15 by as_aux_lemma => kernel_rfl).symm.trans hf) |>.symm
   obtain rfl : fn = Tryz.f15 := (Option.some.inj (Tryz.func15.symm.trans hfn)).symm
   exact ⟨by as_aux_lemma => kernel_rfl, fun j t ht => by
    rw [Tryz.params15] at ht
    have hm : t ∈ ([] : List TypeId) := by simpa using Array.mem_of_getElem? ht
    have hall : (([] : List TypeId).all fun u => !Tryz.prog.wantsStandIn u) = true := by kernel_rfl
    exact (show Tryz.prog.wantsStandIn t = false by simpa using List.all_eq_true.1 hall t hm)⟩)
  (by as_aux_lemma => kernel_rfl)
#print axioms card15
end Go.Proofs.YtejccogankgniaaGreatDoor
