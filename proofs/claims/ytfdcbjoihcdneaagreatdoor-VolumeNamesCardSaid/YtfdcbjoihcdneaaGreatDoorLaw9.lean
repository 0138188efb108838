/-
  For every input VolumeNames answers true, and each argument reads afterwards as it did; the listed package variables are tied to the program text.
-/
import Derived.Test.YtfdcbjoihcdneaaGreatDoorWalkB
import Derived.Test.YtfdcbjoihcdneaaGreatDoorPlain
import Derived.Test.YtfdcbjoihcdneaaGreatDoorRows
import Derived.Test.YtfdcbjoihcdneaaGreatDoorCards
import Derived.Test.YtfdcbjoihcdneaaGreatDoorTie
import Derived.SevenTiedAt
set_option linter.all false
namespace T10
open Go Go.Proofs Pk Go.RowKit Go.ChangeShapes Go.WideShapes
end T10
namespace Go.Proofs.YtfdcbjoihcdneaaGreatDoor
open Go Pk T10 Go.RowKit Go.ChangeShapes Go.WideShapes Go.ChangeAt Go.WideMaps Go.WideElems
theorem ownK : ownKnob Tryz.prog.godebug = none := by kernel_rfl
theorem laidOutP : laidOutB Tryz.prog = true := by kernel_rfl
def laidL : List (String × DataW Unit) := Rows.volumeEverRow.laid
theorem gv_of {W : World} (h : laidMetH Tryz.prog laidL W) (hs : W.ShapedOpen Tryz.prog) : Gv False (hp W) := by
 refine ⟨?_, ?_⟩
 ·rw [MakeChecks.laidMetH_plain _ _ _ (by kernel_rfl)] at h
  obtain ⟨ps, ⟨g0, t0, cs0, f0, p0, q0, hg0, ht0, hv0, hd0, ⟨g1, t1, cs1, f1, p1, q1, hg1, ht1, hv1, hd1, ⟨g2, t2, cs2, f2, p2, q2, hg2, ht2, hv2, hd2, ⟨g3, t3, cs3, f3, p3, q3, hg3, ht3, hv3, hd3, ⟨g4, t4, cs4, f4, p4, q4, hg4, ht4, hv4, hd4, _, _⟩, _⟩, _⟩, _⟩, _⟩, _, _⟩ := h
  obtain rfl := Option.some.inj (hg2.symm.trans (show _ = some 0 by kernel_rfl))
  obtain rfl := Option.some.inj (hg3.symm.trans (show _ = some 3 by kernel_rfl))
  obtain rfl := Option.some.inj (hg4.symm.trans (show _ = some 2 by kernel_rfl))
  obtain rfl := Option.some.inj (ht2.symm.trans (show _ = some 222 by kernel_rfl))
  obtain rfl := Option.some.inj (ht3.symm.trans (show _ = some 146 by kernel_rfl))
  obtain rfl := Option.some.inj (ht4.symm.trans (show _ = some 146 by kernel_rfl))
  obtain ⟨vR, hR, iR⟩ := rd_iface Tryz.underlying146 hd3
  obtain ⟨vS, hS, iS⟩ := rd_iface Tryz.underlying146 hd4
  have hT := rd_tab (zs := Lib.pow10Tab) Tryz.underlying222 Tryz.underlying187 (by kernel_rfl) (by kernel_rfl) (hd2.trans (show _ = some (DataW.agg (Lib.pow10Tab.map fun z => .lit (.int .u64 z)), p2) by kernel_rfl))
  exact gl_mk hg4 hv4 hS iS hg3 hv3 hR iR hg2 hv2 hT
 ·obtain ⟨m, hm⟩ := cell_of_shapedOpen_int (P := Tryz.prog) (g := 1) (t := 3) (zero := #[.int .i64 0]) hs (of_decide_eq_true (by kernel_rfl)) (by kernel_rfl) rfl (by kernel_rfl) (by kernel_rfl) Tryz.underlying3
  exact ⟨m, cells_one hm⟩
theorem met9 (os : Os) : laidMetH Tryz.prog laidL ((World.doorLaid Tryz.prog 400 os).forCall (fun _ _ => 0) ⟨#[], #[], []⟩).memory :=
 laidMetH_of_parts3 (fuel := 8) (laidMet_of_run' 8 (by kernel_rfl) (by kernel_rfl)) (by kernel_rfl) (by kernel_rfl)
set_option maxRecDepth 100000 in
theorem lifted9 (os : Os) (started : os.Started) (H : Type) (enc : TypeId × Value → H) :
  ReturnsInHanded {} Tryz.checked os 9 .any (fun w args => (Rows.volumeNamesSpec.pre enc Tryz.prog Tryz.f9 [] false w args ∧ laidMetH Tryz.prog laidL w) ∧ sizedMet enc Tryz.prog Tryz.f9 (OpenSpec.ofChange Rows.volumeNamesSpec) false w args)
   (Rows.volumeNamesSpec.post enc Tryz.prog Tryz.f9 false true false false) := by
 refine rihS (C := Tryz.checked) (X := fun w => laidMetH Tryz.prog laidL w) (fun _ _ hh h => h.of_heap hh) ownK started (by kernel_rfl) Tryz.func9
  (ChangeSpec.witness_shaped (enc := enc) (C := Tryz.checked) (os := os) (X := fun w _ => laidMetH Tryz.prog laidL w) false (World.doorLaid Tryz.prog 400 os) #[] 8 rfl (World.shaped_of_RefB (by kernel_rfl) (by kernel_rfl)) (by kernel_rfl) (by kernel_rfl) (by kernel_rfl) (met9 os)) ?_
 intro W base args ds gs before hval0 hW hwt hL hsh
 have hval : ∀ (j : Nat) t v, Tryz.f9.params[j]? = some t → args[j]? = some v → Value.okWide Tryz.prog W .any base t v := hval0
 have hW1 := hW
 obtain ⟨p, q, hA0, hV, rfl, hfz, hnd⟩ := hW
 have hA : DataW.TrodAll enc Tryz.prog W 0 (fun _ => true) true Tryz.f9.params.toList args.toList ds p := hA0
 rw [Tryz.params9] at hA hval
 obtain ⟨en, rfl, rfl⟩ := trodAll_nil hA
 obtain rfl : args = #[] := by cases args; simp_all
 have hm : m9  = some true := law9
 refine (w9 (M := False) (Hp.le.refl (hp W)) (gv_of hL hsh)  hm).mono fun e W2 he => ?_
 cases e with
 | returned u =>
  obtain ⟨rfl, hE⟩ := he
  exact ⟨_, rfl, post_law hW1 rfl laidOutP (by rw [Tryz.params9]; decide +kernel) rfl rfl Tryz.underlying4 hE⟩
 | panicked c => exact he.elim
 | outgrown => exact he.elim
theorem said9 : Rows.VolumeNamesSaid :=
 OpenClaim.holds_of_wide 9 Tryz.f9 rfl rfl rfl rfl rfl rfl rfl ⟨rfl, rfl, rfl, rfl, rfl⟩ rfl rfl rfl rfl rfl (by kernel_rfl) Tryz.func9 (by kernel_rfl)
  (of_decide_eq_true (by kernel_rfl)) (by unfold Func.isWrapper; first | (rw [if_pos (by decide +kernel)]; kernel_rfl) | (rw [if_neg (by decide +kernel)]; exact ⟨rfl, rfl⟩))
  (fun os started H enc _ => lifted9 os started H enc)
theorem card9 : Rows.VolumeNamesCardSaid :=
 Claim7.holds_tied_plain_at .later [] [.data, .data, .data, .sentinel, .sentinel] true (true, "3f0750684767fb5c76fed738a528635a78963ad99a5522d2521a2acb81435c90") true
  said9 (fun _ h => by cases h) (by kernel_rfl) (fun _ h => by cases h) volumeNames_row_tie rfl ⟨rfl, rfl⟩ (by kernel_rfl) rfl
  (fun f fn hf hfn => by
   obtain rfl : f = 9 := Option.some.inj ((show Tryz.prog.funcNamed Tryz.f9.name = some 9 by kernel_rfl).symm.trans hf) |>.symm
   obtain rfl : fn = Tryz.f9 := (Option.some.inj (Tryz.func9.symm.trans hfn)).symm
   exact ⟨by kernel_rfl, fun j t ht => by
    rw [Tryz.params9] at ht
    have hm : t ∈ ([] : List TypeId) := by simpa using Array.mem_of_getElem? ht
    have hall : (([] : List TypeId).all fun u => !Tryz.prog.wantsStandIn u) = true := by kernel_rfl
    exact (show Tryz.prog.wantsStandIn t = false by simpa using List.all_eq_true.1 hall t hm)⟩)
  (by kernel_rfl)
#print axioms card9
end Go.Proofs.YtfdcbjoihcdneaaGreatDoor
