/-
  For every input MendTroubles answers true, and each argument reads afterwards as it did; the listed package variables are tied to the program text.
-/
import Derived.Test.YtelimceikglofaaGreatDoorWalkB
import Derived.Test.YtelimceikglofaaGreatDoorPlain
import Derived.Test.YtelimceikglofaaGreatDoorRows
import Derived.Test.YtelimceikglofaaGreatDoorCards
import Derived.Test.YtelimceikglofaaGreatDoorTie
import Derived.SevenTiedAt
set_option linter.all false
namespace T4
open Go Go.Proofs Pk Go.RowKit Go.ChangeShapes Go.WideShapes
def ok112 (x : Number) : Prop := ((fun s : Bytes => s.length ≤ maxLen)) x.text ∧ (okInt .i64) x.value
theorem rd112 (w : World) : Rdg Tryz.prog w 112 2 (Flat encNumber) ok112 := by
 refine ⟨by kernel_rfl, fun {H} enc base sp held fuel cs x h => ?_⟩
 obtain ⟨hl, fuel2, hf⟩ := trod_struct Tryz.underlying112 h
 have hl : cs.length = 2 := hl.trans (by kernel_rfl)
 obtain ⟨y0, h0⟩ := hf _ (List.mem_of_getElem? (i := 0) rfl)
 have g0 : Rdg Tryz.prog w 9 1 (Flat encS) ((fun s : Bytes => s.length ≤ maxLen)) := (rd_string Tryz.underlying9 (by kernel_rfl))
 have h0 : DataW.trod enc Tryz.prog w base sp held fuel2 9 ((cs.drop 0).take (Tryz.prog.cellsOf 9)) = some y0 := h0
 rw [g0.1] at h0
 obtain ⟨_, a0, r0, o0⟩ := g0.2 enc base sp held fuel2 _ _ h0
 obtain ⟨y1, h1⟩ := hf _ (List.mem_of_getElem? (i := 1) rfl)
 have g1 : Rdg Tryz.prog w 3 1 (Flat (Pk.encI .i64)) (okInt .i64) := (rd_int Tryz.underlying3 (by kernel_rfl))
 have h1 : DataW.trod enc Tryz.prog w base sp held fuel2 3 ((cs.drop 1).take (Tryz.prog.cellsOf 3)) = some y1 := h1
 rw [g1.1] at h1
 obtain ⟨_, a1, r1, o1⟩ := g1.2 enc base sp held fuel2 _ _ h1
 have e : cs = [(cs.drop 0).take 1, (cs.drop 1).take 1].flatten := pcs_eq cs [1, 1] 0 (by rw [hl]; rfl)
 have q0 : (cs.drop 0).take 1 = _ := r0
 rw [q0] at e
 have q1 : (cs.drop 1).take 1 = _ := r1
 rw [q1] at e
 exact ⟨hl, ⟨a0, a1⟩, e, o0, o1⟩
def ok26 (x : Lexicon) : Prop := (okL (ok112)) x.numbers ∧ (okL (okL ((fun s : Bytes => s.length ≤ maxLen)))) x.names ∧ (okL ((fun s : Bytes => s.length ≤ maxLen))) x.nots
theorem rd26 (w : World) : Rdg Tryz.prog w 26 3 (RLexicon) ok26 := by
 refine ⟨by kernel_rfl, fun {H} enc base sp held fuel cs x h => ?_⟩
 obtain ⟨hl, fuel2, hf⟩ := trod_struct Tryz.underlying26 h
 have hl : cs.length = 3 := hl.trans (by kernel_rfl)
 obtain ⟨y0, h0⟩ := hf _ (List.mem_of_getElem? (i := 0) rfl)
 have g0 : Rdg Tryz.prog w 22 1 (RSl (Flat encNumber) 2) (okL (ok112)) := (rd_slice Tryz.underlying22 (by kernel_rfl) (by decide) (rd112 _))
 have h0 : DataW.trod enc Tryz.prog w base sp held fuel2 22 ((cs.drop 0).take (Tryz.prog.cellsOf 22)) = some y0 := h0
 rw [g0.1] at h0
 obtain ⟨_, a0, r0, o0⟩ := g0.2 enc base sp held fuel2 _ _ h0
 obtain ⟨y1, h1⟩ := hf _ (List.mem_of_getElem? (i := 1) rfl)
 have g1 : Rdg Tryz.prog w 23 1 (RSl (RSl (Flat encS) 1) 1) (okL (okL ((fun s : Bytes => s.length ≤ maxLen)))) := (rd_slice Tryz.underlying23 (by kernel_rfl) (by decide) (rd_slice Tryz.underlying24 (by kernel_rfl) (by decide) (rd_string Tryz.underlying9 (by kernel_rfl))))
 have h1 : DataW.trod enc Tryz.prog w base sp held fuel2 23 ((cs.drop 1).take (Tryz.prog.cellsOf 23)) = some y1 := h1
 rw [g1.1] at h1
 obtain ⟨_, a1, r1, o1⟩ := g1.2 enc base sp held fuel2 _ _ h1
 obtain ⟨y2, h2⟩ := hf _ (List.mem_of_getElem? (i := 2) rfl)
 have g2 : Rdg Tryz.prog w 24 1 (RSl (Flat encS) 1) (okL ((fun s : Bytes => s.length ≤ maxLen))) := (rd_slice Tryz.underlying24 (by kernel_rfl) (by decide) (rd_string Tryz.underlying9 (by kernel_rfl)))
 have h2 : DataW.trod enc Tryz.prog w base sp held fuel2 24 ((cs.drop 2).take (Tryz.prog.cellsOf 24)) = some y2 := h2
 rw [g2.1] at h2
 obtain ⟨_, a2, r2, o2⟩ := g2.2 enc base sp held fuel2 _ _ h2
 have e : cs = [(cs.drop 0).take 1, (cs.drop 1).take 1, (cs.drop 2).take 1].flatten := pcs_eq cs [1, 1, 1] 0 (by rw [hl]; rfl)
 obtain ⟨ad0, cap0, q0, f0⟩ := r0
 rw [q0] at e
 obtain ⟨ad1, cap1, q1, f1⟩ := r1
 rw [q1] at e
 obtain ⟨ad2, cap2, q2, f2⟩ := r2
 rw [q2] at e
 exact ⟨hl, ⟨a0, a1, a2⟩, ⟨ad0, cap0, ad1, cap1, ad2, cap2, e, f0, f1, f2⟩, o0, o1, o2⟩
def ok48 (x : Swap) : Prop := (okInt .u8) x.kind ∧ (okInt .i64) x.old_ ∧ (okInt .i64) x.new_
theorem rd48 (w : World) : Rdg Tryz.prog w 48 3 (Flat encSwap) ok48 := by
 refine ⟨by kernel_rfl, fun {H} enc base sp held fuel cs x h => ?_⟩
 obtain ⟨hl, fuel2, hf⟩ := trod_struct Tryz.underlying48 h
 have hl : cs.length = 3 := hl.trans (by kernel_rfl)
 obtain ⟨y0, h0⟩ := hf _ (List.mem_of_getElem? (i := 0) rfl)
 have g0 : Rdg Tryz.prog w 5 1 (Flat (Pk.encI .u8)) (okInt .u8) := (rd_int Tryz.underlying5 (by kernel_rfl))
 have h0 : DataW.trod enc Tryz.prog w base sp held fuel2 5 ((cs.drop 0).take (Tryz.prog.cellsOf 5)) = some y0 := h0
 rw [g0.1] at h0
 obtain ⟨_, a0, r0, o0⟩ := g0.2 enc base sp held fuel2 _ _ h0
 obtain ⟨y1, h1⟩ := hf _ (List.mem_of_getElem? (i := 1) rfl)
 have g1 : Rdg Tryz.prog w 3 1 (Flat (Pk.encI .i64)) (okInt .i64) := (rd_int Tryz.underlying3 (by kernel_rfl))
 have h1 : DataW.trod enc Tryz.prog w base sp held fuel2 3 ((cs.drop 1).take (Tryz.prog.cellsOf 3)) = some y1 := h1
 rw [g1.1] at h1
 obtain ⟨_, a1, r1, o1⟩ := g1.2 enc base sp held fuel2 _ _ h1
 obtain ⟨y2, h2⟩ := hf _ (List.mem_of_getElem? (i := 2) rfl)
 have g2 : Rdg Tryz.prog w 3 1 (Flat (Pk.encI .i64)) (okInt .i64) := (rd_int Tryz.underlying3 (by kernel_rfl))
 have h2 : DataW.trod enc Tryz.prog w base sp held fuel2 3 ((cs.drop 2).take (Tryz.prog.cellsOf 3)) = some y2 := h2
 rw [g2.1] at h2
 obtain ⟨_, a2, r2, o2⟩ := g2.2 enc base sp held fuel2 _ _ h2
 have e : cs = [(cs.drop 0).take 1, (cs.drop 1).take 1, (cs.drop 2).take 1].flatten := pcs_eq cs [1, 1, 1] 0 (by rw [hl]; rfl)
 have q0 : (cs.drop 0).take 1 = _ := r0
 rw [q0] at e
 have q1 : (cs.drop 1).take 1 = _ := r1
 rw [q1] at e
 have q2 : (cs.drop 2).take 1 = _ := r2
 rw [q2] at e
 exact ⟨hl, ⟨a0, a1, a2⟩, e, o0, o1, o2⟩
end T4
namespace Go.Proofs.YtelimceikglofaaGreatDoor
open Go Pk T4 Go.RowKit Go.ChangeShapes Go.WideShapes Go.ChangeAt Go.WideMaps Go.WideElems
theorem ownK : ownKnob Tryz.prog.godebug = none := by kernel_rfl
theorem laidOutP : laidOutB Tryz.prog = true := by kernel_rfl
def laidL : List (String × DataW Unit) := Rows.mendTroublesRow.laid
theorem gl_of {W : World} (h : laidMetH Tryz.prog laidL W) : Gv False (hp W) := by
 rw [MakeChecks.laidMetH_plain _ _ _ (by kernel_rfl)] at h
 obtain ⟨ps, ⟨g0, t0, cs0, f0, p0, q0, hg0, ht0, hv0, hd0, ⟨g1, t1, cs1, f1, p1, q1, hg1, ht1, hv1, hd1, ⟨g2, t2, cs2, f2, p2, q2, hg2, ht2, hv2, hd2, ⟨g3, t3, cs3, f3, p3, q3, hg3, ht3, hv3, hd3, ⟨g4, t4, cs4, f4, p4, q4, hg4, ht4, hv4, hd4, _, _⟩, _⟩, _⟩, _⟩, _⟩, _, _⟩ := h
 obtain rfl := Option.some.inj (hg2.symm.trans (show _ = some 2 by kernel_rfl))
 obtain rfl := Option.some.inj (hg3.symm.trans (show _ = some 1 by kernel_rfl))
 obtain rfl := Option.some.inj (hg4.symm.trans (show _ = some 0 by kernel_rfl))
 obtain rfl := Option.some.inj (ht2.symm.trans (show _ = some 241 by kernel_rfl))
 obtain rfl := Option.some.inj (ht3.symm.trans (show _ = some 174 by kernel_rfl))
 obtain rfl := Option.some.inj (ht4.symm.trans (show _ = some 174 by kernel_rfl))
 obtain ⟨vR, hR, iR⟩ := rd_iface Tryz.underlying174 hd3
 obtain ⟨vS, hS, iS⟩ := rd_iface Tryz.underlying174 hd4
 have hT := rd_tab (zs := Lib.pow10Tab) Tryz.underlying241 Tryz.underlying195 (by kernel_rfl) (by kernel_rfl) (hd2.trans (show _ = some (DataW.agg (Lib.pow10Tab.map fun z => .lit (.int .u64 z)), p2) by kernel_rfl))
 exact gl_mk hg4 hv4 hS iS hg3 hv3 hR iR hg2 hv2 hT
theorem met3 (os : Os) : laidMetH Tryz.prog laidL ((World.doorLaid Tryz.prog 400 os).forCall (fun _ _ => 0) ⟨#[], #[.agg #[.slice none 0 0, .slice none 0 0, .slice none 0 0], .slice none 0 0, .slice none 0 0, .slice none 0 0], []⟩).memory :=
 laidMetH_of_parts3 (fuel := 8) (laidMet_of_run' 8 (by kernel_rfl) (by kernel_rfl)) (by kernel_rfl) (by kernel_rfl)
set_option maxRecDepth 100000 in
theorem lifted3 (os : Os) (started : os.Started) (H : Type) (enc : TypeId × Value → H) :
  ReturnsInHanded {} Tryz.checked os 3 .any (fun w args => (Rows.mendTroublesSpec.pre enc Tryz.prog Tryz.f3 [] false w args ∧ laidMetH Tryz.prog laidL w) ∧ sizedMet enc Tryz.prog Tryz.f3 (OpenSpec.ofChange Rows.mendTroublesSpec) false w args)
   (Rows.mendTroublesSpec.post enc Tryz.prog Tryz.f3 false true false false) := by
 refine returnsInHanded_of_change_and (C := Tryz.checked) (X := fun w _ => laidMetH Tryz.prog laidL w) (fun _ _ _ hh h => h.of_heap hh) ownK started (by kernel_rfl) Tryz.func3
  (ChangeSpec.witness_shaped (enc := enc) (C := Tryz.checked) (os := os) (X := fun w _ => laidMetH Tryz.prog laidL w) false (World.doorLaid Tryz.prog 400 os) #[.agg #[.slice none 0 0, .slice none 0 0, .slice none 0 0], .slice none 0 0, .slice none 0 0, .slice none 0 0] 8 rfl (World.shaped_of_RefB (by kernel_rfl) (by kernel_rfl)) (by kernel_rfl) (by kernel_rfl) (by kernel_rfl) (met3 os)) ?_
 intro W base args ds gs before hval0 hW _ _ hL _
 have hval : ∀ (j : Nat) t v, Tryz.f3.params[j]? = some t → args[j]? = some v → Value.okWide Tryz.prog W .any base t v := hval0
 have hW1 := hW
 obtain ⟨p, q, hA0, hV, rfl, hfz, hnd⟩ := hW
 have hA : DataW.TrodAll enc Tryz.prog W 0 (fun _ => true) true Tryz.f3.params.toList args.toList ds p := hA0
 rw [Tryz.params3] at hA hval
 obtain ⟨v0, vs0, d0, ds0, p0, p0_, e0, rfl, rfl, h0, hA0⟩ := trodAll_cons hA
 obtain ⟨v1, vs1, d1, ds1, p1, p1_, e1, rfl, rfl, h1, hA1⟩ := trodAll_cons hA0
 subst e1
 obtain ⟨v2, vs2, d2, ds2, p2, p2_, e2, rfl, rfl, h2, hA2⟩ := trodAll_cons hA1
 subst e2
 obtain ⟨v3, vs3, d3, ds3, p3, p3_, e3, rfl, rfl, h3, hA3⟩ := trodAll_cons hA2
 subst e3
 obtain ⟨en, rfl, rfl⟩ := trodAll_nil hA3
 subst en
 obtain rfl : args = #[v0, v1, v2, v3] := by cases args; simp_all
 obtain ⟨cs0, x0, rfl, r0, o0⟩ := rd_aggarg (rd26 W) Tryz.underlying26 (hval 0 26 _ rfl rfl) h0
 obtain ⟨x1, ⟨ad1, cap1, e1, r1⟩, o1⟩ := rd_arg (R := (RSl (Flat encSwap) 3)) (ok := (okL (ok48))) (rd_slice Tryz.underlying27 (by kernel_rfl) (by decide) (rd48 _)) (hval 1 27 _ rfl rfl) (nsl Tryz.underlying27 (hval 1 27 _ rfl rfl)) h1
 cases e1
 obtain ⟨x2, ⟨ad2, cap2, e2, r2⟩, o2⟩ := rd_arg (R := (RSl (Flat encS) 1)) (ok := (okL ((fun s : Bytes => s.length ≤ maxLen)))) (rd_slice Tryz.underlying24 (by kernel_rfl) (by decide) (rd_string Tryz.underlying9 (by kernel_rfl))) (hval 2 24 _ rfl rfl) (nsl Tryz.underlying24 (hval 2 24 _ rfl rfl)) h2
 cases e2
 obtain ⟨x3, ⟨ad3, cap3, e3, r3⟩, o3⟩ := rd_arg (R := (RSl (Flat encS) 1)) (ok := (okL ((fun s : Bytes => s.length ≤ maxLen)))) (rd_slice Tryz.underlying24 (by kernel_rfl) (by decide) (rd_string Tryz.underlying9 (by kernel_rfl))) (hval 3 24 _ rfl rfl) (nsl Tryz.underlying24 (hval 3 24 _ rfl rfl)) h3
 cases e3
 have hm : m3 x0 x1 x2 x3 = some true := law3 x0 x1 x2 x3
 refine (w3 (M := False) (Hp.le.refl (hp W)) (gl_of hL) x0 r0 r1 r2 r3 hm).mono fun e W2 he => ?_
 cases e with
 | returned u =>
  obtain ⟨rfl, hE⟩ := he
  exact ⟨_, rfl, post_law hW1 rfl laidOutP (by rw [Tryz.params3]; decide +kernel) rfl rfl Tryz.underlying4 hE⟩
 | panicked c => exact he.elim
 | outgrown => exact he.elim
theorem said3 : Rows.MendTroublesSaid :=
 OpenClaim.holds_of_wide 3 Tryz.f3 rfl rfl rfl rfl rfl rfl rfl ⟨rfl, rfl, rfl, rfl, rfl⟩ rfl rfl rfl rfl rfl (by kernel_rfl) Tryz.func3 (by kernel_rfl)
  (of_decide_eq_true (by kernel_rfl)) (by unfold Func.isWrapper; first | (rw [if_pos (by decide +kernel)]; kernel_rfl) | (rw [if_neg (by decide +kernel)]; exact ⟨rfl, rfl⟩))
  (fun os started H enc _ => lifted3 os started H enc)
theorem card3 : Rows.MendTroublesCardSaid :=
 Claim7.holds_tied_plain_at .later [] [.data, .data, .data, .sentinel, .sentinel] true (true, "64c985c3923e1740e577ee94513312246d7157dbc03c3ede4d2a633a236cf9ce") true
  said3 (fun _ h => by cases h) (by kernel_rfl) (fun _ h => by cases h) mendTroubles_row_tie rfl ⟨rfl, rfl⟩ (by kernel_rfl) rfl
  (fun f fn hf hfn => by
   obtain rfl : f = 3 := Option.some.inj ((show Tryz.prog.funcNamed Tryz.f3.name = some 3 by kernel_rfl).symm.trans hf) |>.symm
   obtain rfl : fn = Tryz.f3 := (Option.some.inj (Tryz.func3.symm.trans hfn)).symm
   exact ⟨by kernel_rfl, fun j t ht => by
    rw [Tryz.params3] at ht
    have hm : t ∈ [26, 27, 24, 24] := by simpa using Array.mem_of_getElem? ht
    have hall : ([26, 27, 24, 24].all fun u => !Tryz.prog.wantsStandIn u) = true := by kernel_rfl
    exact (show Tryz.prog.wantsStandIn t = false by simpa using List.all_eq_true.1 hall t hm)⟩)
  (by kernel_rfl)
#print axioms card3
end Go.Proofs.YtelimceikglofaaGreatDoor
