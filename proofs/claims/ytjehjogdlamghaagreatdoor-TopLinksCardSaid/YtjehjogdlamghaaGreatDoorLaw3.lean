/-
  For every input TopLinks answers true, and each argument reads afterwards as it did; the listed package variables are tied to the program text.
-/
import Derived.Test.YtjehjogdlamghaaGreatDoorWalkC
import Derived.Test.YtjehjogdlamghaaGreatDoorPlain
import Derived.Test.YtjehjogdlamghaaGreatDoorRows
import Derived.Test.YtjehjogdlamghaaGreatDoorCards
import Derived.Test.YtjehjogdlamghaaGreatDoorTie
import Derived.SevenTiedAt
import Derived.Lay
set_option linter.all false
namespace T10
open Go Go.Proofs Pk Go.RowKit Go.ChangeShapes Go.WideShapes
def ok95 (x : Paragraph) : Prop := (okInt .i64) x.anchor ∧ ((fun s : Bytes => s.length ≤ maxLen)) x.text
theorem rd95 (w : World) : Rdg Tryz.prog w 95 2 (Flat encParagraph) ok95 := by
 refine ⟨by kernel_rfl, fun {H} enc base sp held fuel cs x h => ?_⟩
 obtain ⟨hl, fuel2, hf⟩ := trod_struct Tryz.underlying95 h
 have hl : cs.length = 2 := hl.trans (by kernel_rfl)
 obtain ⟨y0, h0⟩ := hf _ (List.mem_of_getElem? (i := 0) rfl)
 have g0 : Rdg Tryz.prog w 3 1 (Flat (Pk.encI .i64)) (okInt .i64) := (rd_int Tryz.underlying3 (by kernel_rfl))
 have h0 : DataW.trod enc Tryz.prog w base sp held fuel2 3 ((cs.drop 0).take (Tryz.prog.cellsOf 3)) = some y0 := h0
 rw [g0.1] at h0
 obtain ⟨_, a0, r0, o0⟩ := g0.2 enc base sp held fuel2 _ _ h0
 obtain ⟨y1, h1⟩ := hf _ (List.mem_of_getElem? (i := 1) rfl)
 have g1 : Rdg Tryz.prog w 9 1 (Flat encS) ((fun s : Bytes => s.length ≤ maxLen)) := (rd_string Tryz.underlying9 (by kernel_rfl))
 have h1 : DataW.trod enc Tryz.prog w base sp held fuel2 9 ((cs.drop 1).take (Tryz.prog.cellsOf 9)) = some y1 := h1
 rw [g1.1] at h1
 obtain ⟨_, a1, r1, o1⟩ := g1.2 enc base sp held fuel2 _ _ h1
 have e : cs = [(cs.drop 0).take 1, (cs.drop 1).take 1].flatten := pcs_eq cs [1, 1] 0 (by rw [hl]; rfl)
 have q0 : (cs.drop 0).take 1 = _ := r0
 rw [q0] at e
 have q1 : (cs.drop 1).take 1 = _ := r1
 rw [q1] at e
 exact ⟨hl, ⟨a0, a1⟩, e, o0, o1⟩
def ok94 (x : Part) : Prop := (okInt .i64) x.day ∧ (okL (ok95)) x.paragraphs
theorem rd94 (w : World) : Rdg Tryz.prog w 94 2 (RPart) ok94 := by
 refine ⟨by kernel_rfl, fun {H} enc base sp held fuel cs x h => ?_⟩
 obtain ⟨hl, fuel2, hf⟩ := trod_struct Tryz.underlying94 h
 have hl : cs.length = 2 := hl.trans (by kernel_rfl)
 obtain ⟨y0, h0⟩ := hf _ (List.mem_of_getElem? (i := 0) rfl)
 have g0 : Rdg Tryz.prog w 3 1 (Flat (Pk.encI .i64)) (okInt .i64) := (rd_int Tryz.underlying3 (by kernel_rfl))
 have h0 : DataW.trod enc Tryz.prog w base sp held fuel2 3 ((cs.drop 0).take (Tryz.prog.cellsOf 3)) = some y0 := h0
 rw [g0.1] at h0
 obtain ⟨_, a0, r0, o0⟩ := g0.2 enc base sp held fuel2 _ _ h0
 obtain ⟨y1, h1⟩ := hf _ (List.mem_of_getElem? (i := 1) rfl)
 have g1 : Rdg Tryz.prog w 92 1 (RSl (Flat encParagraph) 2) (okL (ok95)) := (rd_slice Tryz.underlying92 (by kernel_rfl) (by decide) (rd95 _))
 have h1 : DataW.trod enc Tryz.prog w base sp held fuel2 92 ((cs.drop 1).take (Tryz.prog.cellsOf 92)) = some y1 := h1
 rw [g1.1] at h1
 obtain ⟨_, a1, r1, o1⟩ := g1.2 enc base sp held fuel2 _ _ h1
 have e : cs = [(cs.drop 0).take 1, (cs.drop 1).take 1].flatten := pcs_eq cs [1, 1] 0 (by rw [hl]; rfl)
 have q0 : (cs.drop 0).take 1 = _ := r0
 rw [q0] at e
 obtain ⟨ad1, cap1, q1, f1⟩ := r1
 rw [q1] at e
 exact ⟨hl, ⟨a0, a1⟩, ⟨ad1, cap1, e, f1⟩, o0, o1⟩
def ok24 (x : Volume) : Prop := (okInt .i64) x.number ∧ (okInt .i64) x.bound ∧ (okInt .i64) x.height ∧ (okInt .i64) x.width ∧ (okL (ok94)) x.parts
theorem rd24 (w : World) : Rdg Tryz.prog w 24 5 (RVolume) ok24 := by
 refine ⟨by kernel_rfl, fun {H} enc base sp held fuel cs x h => ?_⟩
 obtain ⟨hl, fuel2, hf⟩ := trod_struct Tryz.underlying24 h
 have hl : cs.length = 5 := hl.trans (by kernel_rfl)
 obtain ⟨y0, h0⟩ := hf _ (List.mem_of_getElem? (i := 0) rfl)
 have g0 : Rdg Tryz.prog w 3 1 (Flat (Pk.encI .i64)) (okInt .i64) := (rd_int Tryz.underlying3 (by kernel_rfl))
 have h0 : DataW.trod enc Tryz.prog w base sp held fuel2 3 ((cs.drop 0).take (Tryz.prog.cellsOf 3)) = some y0 := h0
 rw [g0.1] at h0
 obtain ⟨_, a0, r0, o0⟩ := g0.2 enc base sp held fuel2 _ _ h0
 obtain ⟨y1, h1⟩ := hf _ (List.mem_of_getElem? (i := 1) rfl)
 have g1 : Rdg Tryz.prog w 3 1 (Flat (Pk.encI .i64)) (okInt .i64) := (rd_int Tryz.underlying3 (by kernel_rfl))
 have h1 : DataW.trod enc Tryz.prog w base sp held fuel2 3 ((cs.drop 1).take (Tryz.prog.cellsOf 3)) = some y1 := h1
 rw [g1.1] at h1
 obtain ⟨_, a1, r1, o1⟩ := g1.2 enc base sp held fuel2 _ _ h1
 obtain ⟨y2, h2⟩ := hf _ (List.mem_of_getElem? (i := 2) rfl)
 have g2 : Rdg Tryz.prog w 3 1 (Flat (Pk.encI .i64)) (okInt .i64) := (rd_int Tryz.underlying3 (by kernel_rfl))
 have h2 : DataW.trod enc Tryz.prog w base sp held fuel2 3 ((cs.drop 2).take (Tryz.prog.cellsOf 3)) = some y2 := h2
 rw [g2.1] at h2
 obtain ⟨_, a2, r2, o2⟩ := g2.2 enc base sp held fuel2 _ _ h2
 obtain ⟨y3, h3⟩ := hf _ (List.mem_of_getElem? (i := 3) rfl)
 have g3 : Rdg Tryz.prog w 3 1 (Flat (Pk.encI .i64)) (okInt .i64) := (rd_int Tryz.underlying3 (by kernel_rfl))
 have h3 : DataW.trod enc Tryz.prog w base sp held fuel2 3 ((cs.drop 3).take (Tryz.prog.cellsOf 3)) = some y3 := h3
 rw [g3.1] at h3
 obtain ⟨_, a3, r3, o3⟩ := g3.2 enc base sp held fuel2 _ _ h3
 obtain ⟨y4, h4⟩ := hf _ (List.mem_of_getElem? (i := 4) rfl)
 have g4 : Rdg Tryz.prog w 22 1 (RSl (RPart) 2) (okL (ok94)) := (rd_slice Tryz.underlying22 (by kernel_rfl) (by decide) (rd94 _))
 have h4 : DataW.trod enc Tryz.prog w base sp held fuel2 22 ((cs.drop 4).take (Tryz.prog.cellsOf 22)) = some y4 := h4
 rw [g4.1] at h4
 obtain ⟨_, a4, r4, o4⟩ := g4.2 enc base sp held fuel2 _ _ h4
 have e : cs = [(cs.drop 0).take 1, (cs.drop 1).take 1, (cs.drop 2).take 1, (cs.drop 3).take 1, (cs.drop 4).take 1].flatten := pcs_eq cs [1, 1, 1, 1, 1] 0 (by rw [hl]; rfl)
 have q0 : (cs.drop 0).take 1 = _ := r0
 rw [q0] at e
 have q1 : (cs.drop 1).take 1 = _ := r1
 rw [q1] at e
 have q2 : (cs.drop 2).take 1 = _ := r2
 rw [q2] at e
 have q3 : (cs.drop 3).take 1 = _ := r3
 rw [q3] at e
 obtain ⟨ad4, cap4, q4, f4⟩ := r4
 rw [q4] at e
 exact ⟨hl, ⟨a0, a1, a2, a3, a4⟩, ⟨ad4, cap4, e, f4⟩, o0, o1, o2, o3, o4⟩
def ok97 (x : Erratum) : Prop := (okInt .i64) x.number ∧ (okInt .i64) x.day ∧ (okInt .u8) x.kind ∧ (okInt .i64) x.anchor ∧ ((fun s : Bytes => s.length ≤ maxLen)) x.text ∧ (okInt .i64) x.new_
theorem rd97 (w : World) : Rdg Tryz.prog w 97 6 (Flat encErratum) ok97 := by
 refine ⟨by kernel_rfl, fun {H} enc base sp held fuel cs x h => ?_⟩
 obtain ⟨hl, fuel2, hf⟩ := trod_struct Tryz.underlying97 h
 have hl : cs.length = 6 := hl.trans (by kernel_rfl)
 obtain ⟨y0, h0⟩ := hf _ (List.mem_of_getElem? (i := 0) rfl)
 have g0 : Rdg Tryz.prog w 3 1 (Flat (Pk.encI .i64)) (okInt .i64) := (rd_int Tryz.underlying3 (by kernel_rfl))
 have h0 : DataW.trod enc Tryz.prog w base sp held fuel2 3 ((cs.drop 0).take (Tryz.prog.cellsOf 3)) = some y0 := h0
 rw [g0.1] at h0
 obtain ⟨_, a0, r0, o0⟩ := g0.2 enc base sp held fuel2 _ _ h0
 obtain ⟨y1, h1⟩ := hf _ (List.mem_of_getElem? (i := 1) rfl)
 have g1 : Rdg Tryz.prog w 3 1 (Flat (Pk.encI .i64)) (okInt .i64) := (rd_int Tryz.underlying3 (by kernel_rfl))
 have h1 : DataW.trod enc Tryz.prog w base sp held fuel2 3 ((cs.drop 1).take (Tryz.prog.cellsOf 3)) = some y1 := h1
 rw [g1.1] at h1
 obtain ⟨_, a1, r1, o1⟩ := g1.2 enc base sp held fuel2 _ _ h1
 obtain ⟨y2, h2⟩ := hf _ (List.mem_of_getElem? (i := 2) rfl)
 have g2 : Rdg Tryz.prog w 5 1 (Flat (Pk.encI .u8)) (okInt .u8) := (rd_int Tryz.underlying5 (by kernel_rfl))
 have h2 : DataW.trod enc Tryz.prog w base sp held fuel2 5 ((cs.drop 2).take (Tryz.prog.cellsOf 5)) = some y2 := h2
 rw [g2.1] at h2
 obtain ⟨_, a2, r2, o2⟩ := g2.2 enc base sp held fuel2 _ _ h2
 obtain ⟨y3, h3⟩ := hf _ (List.mem_of_getElem? (i := 3) rfl)
 have g3 : Rdg Tryz.prog w 3 1 (Flat (Pk.encI .i64)) (okInt .i64) := (rd_int Tryz.underlying3 (by kernel_rfl))
 have h3 : DataW.trod enc Tryz.prog w base sp held fuel2 3 ((cs.drop 3).take (Tryz.prog.cellsOf 3)) = some y3 := h3
 rw [g3.1] at h3
 obtain ⟨_, a3, r3, o3⟩ := g3.2 enc base sp held fuel2 _ _ h3
 obtain ⟨y4, h4⟩ := hf _ (List.mem_of_getElem? (i := 4) rfl)
 have g4 : Rdg Tryz.prog w 9 1 (Flat encS) ((fun s : Bytes => s.length ≤ maxLen)) := (rd_string Tryz.underlying9 (by kernel_rfl))
 have h4 : DataW.trod enc Tryz.prog w base sp held fuel2 9 ((cs.drop 4).take (Tryz.prog.cellsOf 9)) = some y4 := h4
 rw [g4.1] at h4
 obtain ⟨_, a4, r4, o4⟩ := g4.2 enc base sp held fuel2 _ _ h4
 obtain ⟨y5, h5⟩ := hf _ (List.mem_of_getElem? (i := 5) rfl)
 have g5 : Rdg Tryz.prog w 3 1 (Flat (Pk.encI .i64)) (okInt .i64) := (rd_int Tryz.underlying3 (by kernel_rfl))
 have h5 : DataW.trod enc Tryz.prog w base sp held fuel2 3 ((cs.drop 5).take (Tryz.prog.cellsOf 3)) = some y5 := h5
 rw [g5.1] at h5
 obtain ⟨_, a5, r5, o5⟩ := g5.2 enc base sp held fuel2 _ _ h5
 have e : cs = [(cs.drop 0).take 1, (cs.drop 1).take 1, (cs.drop 2).take 1, (cs.drop 3).take 1, (cs.drop 4).take 1, (cs.drop 5).take 1].flatten := pcs_eq cs [1, 1, 1, 1, 1, 1] 0 (by rw [hl]; rfl)
 have q0 : (cs.drop 0).take 1 = _ := r0
 rw [q0] at e
 have q1 : (cs.drop 1).take 1 = _ := r1
 rw [q1] at e
 have q2 : (cs.drop 2).take 1 = _ := r2
 rw [q2] at e
 have q3 : (cs.drop 3).take 1 = _ := r3
 rw [q3] at e
 have q4 : (cs.drop 4).take 1 = _ := r4
 rw [q4] at e
 have q5 : (cs.drop 5).take 1 = _ := r5
 rw [q5] at e
 exact ⟨hl, ⟨a0, a1, a2, a3, a4, a5⟩, e, o0, o1, o2, o3, o4, o5⟩
def ok126 (x : Order) : Prop := (okInt .i64) x.from_ ∧ (okInt .i64) x.to_ ∧ (okInt .i64) x.kind ∧ (okInt .i64) x.until_
theorem rd126 (w : World) : Rdg Tryz.prog w 126 4 (Flat encOrder) ok126 := by
 refine ⟨by kernel_rfl, fun {H} enc base sp held fuel cs x h => ?_⟩
 obtain ⟨hl, fuel2, hf⟩ := trod_struct Tryz.underlying126 h
 have hl : cs.length = 4 := hl.trans (by kernel_rfl)
 obtain ⟨y0, h0⟩ := hf _ (List.mem_of_getElem? (i := 0) rfl)
 have g0 : Rdg Tryz.prog w 3 1 (Flat (Pk.encI .i64)) (okInt .i64) := (rd_int Tryz.underlying3 (by kernel_rfl))
 have h0 : DataW.trod enc Tryz.prog w base sp held fuel2 3 ((cs.drop 0).take (Tryz.prog.cellsOf 3)) = some y0 := h0
 rw [g0.1] at h0
 obtain ⟨_, a0, r0, o0⟩ := g0.2 enc base sp held fuel2 _ _ h0
 obtain ⟨y1, h1⟩ := hf _ (List.mem_of_getElem? (i := 1) rfl)
 have g1 : Rdg Tryz.prog w 3 1 (Flat (Pk.encI .i64)) (okInt .i64) := (rd_int Tryz.underlying3 (by kernel_rfl))
 have h1 : DataW.trod enc Tryz.prog w base sp held fuel2 3 ((cs.drop 1).take (Tryz.prog.cellsOf 3)) = some y1 := h1
 rw [g1.1] at h1
 obtain ⟨_, a1, r1, o1⟩ := g1.2 enc base sp held fuel2 _ _ h1
 obtain ⟨y2, h2⟩ := hf _ (List.mem_of_getElem? (i := 2) rfl)
 have g2 : Rdg Tryz.prog w 3 1 (Flat (Pk.encI .i64)) (okInt .i64) := (rd_int Tryz.underlying3 (by kernel_rfl))
 have h2 : DataW.trod enc Tryz.prog w base sp held fuel2 3 ((cs.drop 2).take (Tryz.prog.cellsOf 3)) = some y2 := h2
 rw [g2.1] at h2
 obtain ⟨_, a2, r2, o2⟩ := g2.2 enc base sp held fuel2 _ _ h2
 obtain ⟨y3, h3⟩ := hf _ (List.mem_of_getElem? (i := 3) rfl)
 have g3 : Rdg Tryz.prog w 3 1 (Flat (Pk.encI .i64)) (okInt .i64) := (rd_int Tryz.underlying3 (by kernel_rfl))
 have h3 : DataW.trod enc Tryz.prog w base sp held fuel2 3 ((cs.drop 3).take (Tryz.prog.cellsOf 3)) = some y3 := h3
 rw [g3.1] at h3
 obtain ⟨_, a3, r3, o3⟩ := g3.2 enc base sp held fuel2 _ _ h3
 have e : cs = [(cs.drop 0).take 1, (cs.drop 1).take 1, (cs.drop 2).take 1, (cs.drop 3).take 1].flatten := pcs_eq cs [1, 1, 1, 1] 0 (by rw [hl]; rfl)
 have q0 : (cs.drop 0).take 1 = _ := r0
 rw [q0] at e
 have q1 : (cs.drop 1).take 1 = _ := r1
 rw [q1] at e
 have q2 : (cs.drop 2).take 1 = _ := r2
 rw [q2] at e
 have q3 : (cs.drop 3).take 1 = _ := r3
 rw [q3] at e
 exact ⟨hl, ⟨a0, a1, a2, a3⟩, e, o0, o1, o2, o3⟩
def ok30 (x : Reader) : Prop := (okInt .i64) x.year ∧ (okL (okInt .i64)) x.may
theorem rd30 (w : World) : Rdg Tryz.prog w 30 2 (RReader) ok30 := by
 refine ⟨by kernel_rfl, fun {H} enc base sp held fuel cs x h => ?_⟩
 obtain ⟨hl, fuel2, hf⟩ := trod_struct Tryz.underlying30 h
 have hl : cs.length = 2 := hl.trans (by kernel_rfl)
 obtain ⟨y0, h0⟩ := hf _ (List.mem_of_getElem? (i := 0) rfl)
 have g0 : Rdg Tryz.prog w 3 1 (Flat (Pk.encI .i64)) (okInt .i64) := (rd_int Tryz.underlying3 (by kernel_rfl))
 have h0 : DataW.trod enc Tryz.prog w base sp held fuel2 3 ((cs.drop 0).take (Tryz.prog.cellsOf 3)) = some y0 := h0
 rw [g0.1] at h0
 obtain ⟨_, a0, r0, o0⟩ := g0.2 enc base sp held fuel2 _ _ h0
 obtain ⟨y1, h1⟩ := hf _ (List.mem_of_getElem? (i := 1) rfl)
 have g1 : Rdg Tryz.prog w 28 1 (RSl (Flat (Pk.encI .i64)) 1) (okL (okInt .i64)) := (rd_slice Tryz.underlying28 (by kernel_rfl) (by decide) (rd_int Tryz.underlying3 (by kernel_rfl)))
 have h1 : DataW.trod enc Tryz.prog w base sp held fuel2 28 ((cs.drop 1).take (Tryz.prog.cellsOf 28)) = some y1 := h1
 rw [g1.1] at h1
 obtain ⟨_, a1, r1, o1⟩ := g1.2 enc base sp held fuel2 _ _ h1
 have e : cs = [(cs.drop 0).take 1, (cs.drop 1).take 1].flatten := pcs_eq cs [1, 1] 0 (by rw [hl]; rfl)
 have q0 : (cs.drop 0).take 1 = _ := r0
 rw [q0] at e
 obtain ⟨ad1, cap1, q1, f1⟩ := r1
 rw [q1] at e
 exact ⟨hl, ⟨a0, a1⟩, ⟨ad1, cap1, e, f1⟩, o0, o1⟩
end T10
namespace Go.Proofs.YtjehjogdlamghaaGreatDoor
open Go Pk T10 Go.RowKit Go.ChangeShapes Go.WideShapes Go.ChangeAt Go.WideMaps Go.WideElems
theorem ownK : ownKnob Tryz.prog.godebug = none := by kernel_rfl
theorem laidOutP : laidOutB Tryz.prog = true := by kernel_rfl
def laidL : List (String × DataW Unit) := Rows.topLinksRow.laid
theorem gv_of {W : World} (h : laidMetH Tryz.prog laidL W) (hs : W.ShapedOpen Tryz.prog) : Gv False (hp W) := by
 refine ⟨?_, ?_⟩
 ·rw [MakeChecks.laidMetH_plain _ _ _ (by kernel_rfl)] at h
  obtain ⟨ps, ⟨g0, t0, cs0, f0, p0, q0, hg0, ht0, hv0, hd0, ⟨g1, t1, cs1, f1, p1, q1, hg1, ht1, hv1, hd1, ⟨g2, t2, cs2, f2, p2, q2, hg2, ht2, hv2, hd2, ⟨g3, t3, cs3, f3, p3, q3, hg3, ht3, hv3, hd3, ⟨g4, t4, cs4, f4, p4, q4, hg4, ht4, hv4, hd4, _, _⟩, _⟩, _⟩, _⟩, _⟩, _, _⟩ := h
  obtain rfl := Option.some.inj (hg2.symm.trans (show _ = some 0 by kernel_rfl))
  obtain rfl := Option.some.inj (hg3.symm.trans (show _ = some 3 by kernel_rfl))
  obtain rfl := Option.some.inj (hg4.symm.trans (show _ = some 2 by kernel_rfl))
  obtain rfl := Option.some.inj (ht2.symm.trans (show _ = some 289 by kernel_rfl))
  obtain rfl := Option.some.inj (ht3.symm.trans (show _ = some 177 by kernel_rfl))
  obtain rfl := Option.some.inj (ht4.symm.trans (show _ = some 177 by kernel_rfl))
  obtain ⟨vR, hR, iR⟩ := rd_iface Tryz.underlying177 hd3
  obtain ⟨vS, hS, iS⟩ := rd_iface Tryz.underlying177 hd4
  have hT := rd_tab (zs := Lib.pow10Tab) Tryz.underlying289 Tryz.underlying255 (by kernel_rfl) (by kernel_rfl) (hd2.trans (show _ = some (DataW.agg (Lib.pow10Tab.map fun z => .lit (.int .u64 z)), p2) by kernel_rfl))
  exact gl_mk hg4 hv4 hS iS hg3 hv3 hR iR hg2 hv2 hT
 ·obtain ⟨m, hm⟩ := cell_of_shapedOpen_int (P := Tryz.prog) (g := 1) (t := 3) (zero := #[.int .i64 0]) hs (of_decide_eq_true (by kernel_rfl)) (by kernel_rfl) rfl (by kernel_rfl) (by kernel_rfl) Tryz.underlying3
  exact ⟨m, cells_one hm⟩
theorem met3 (os : Os) : laidMetH Tryz.prog laidL ((World.doorLaid Tryz.prog 400 os).forCall (fun _ _ => 0) ⟨#[], #[.agg #[.int .i64 0, .int .i64 0, .int .i64 0, .int .i64 0, .slice none 0 0], .slice none 0 0, .int .u16 0, .slice none 0 0, .agg #[.int .i64 0, .slice none 0 0]], []⟩).memory :=
 laidMetH_of_parts3 (fuel := 8) (laidMet_of_run' 8 (by kernel_rfl) (by kernel_rfl)) (by kernel_rfl) (by kernel_rfl)
set_option maxRecDepth 100000 in
theorem lifted3 (os : Os) (started : os.Started) (H : Type) (enc : TypeId × Value → H) :
  ReturnsInHanded {} Tryz.checked os 3 .any (fun w args => (Rows.topLinksSpec.pre enc Tryz.prog Tryz.f3 [] false w args ∧ laidMetH Tryz.prog laidL w) ∧ sizedMet enc Tryz.prog Tryz.f3 (OpenSpec.ofChange Rows.topLinksSpec) false w args)
   (Rows.topLinksSpec.post enc Tryz.prog Tryz.f3 false true false false) := by
 refine rihS (C := Tryz.checked) (X := fun w => laidMetH Tryz.prog laidL w) (fun _ _ hh h => h.of_heap hh) ownK started (by kernel_rfl) Tryz.func3
  (ChangeSpec.witness_shaped (enc := enc) (C := Tryz.checked) (os := os) (X := fun w _ => laidMetH Tryz.prog laidL w) false (World.doorLaid Tryz.prog 400 os) #[.agg #[.int .i64 0, .int .i64 0, .int .i64 0, .int .i64 0, .slice none 0 0], .slice none 0 0, .int .u16 0, .slice none 0 0, .agg #[.int .i64 0, .slice none 0 0]] 8 rfl (World.shaped_of_RefB (by kernel_rfl) (by kernel_rfl)) (by kernel_rfl) (by kernel_rfl) (by kernel_rfl) (met3 os)) ?_
 intro W base args ds gs before hval0 hW hwt hL hsh
 have hval : ∀ (j : Nat) t v, Tryz.f3.params[j]? = some t → args[j]? = some v → Value.okWide Tryz.prog W .any base t v := hval0
 have hW1 := hW
 obtain ⟨p, q, hA0, hV, rfl, hfz, hnd⟩ := hW
 have hA : DataW.TrodAll enc Tryz.prog W 0 (fun _ => true) true Tryz.f3.params.toList args.toList ds p := hA0
 rw [Tryz.params3] at hA hval
 obtain ⟨v0, vs0, d0, ds0, p0, p0_, e0, rfl, rfl, h0, hA0⟩ := trodAll_cons hA
 obtain ⟨v1, vs1, d1, ds1, p1, p1_, e1, rfl, rfl, h1, hA1⟩ := trodAll_cons hA0
 subst e1
 obtain ⟨v2, vs2, d2, ds2, p2, p2_, e2, rfl, rfl, h2, hA2⟩ := trodAll_cons hA1
 subst e2
 obtain ⟨v3, vs3, d3, ds3, p3, p3_, e3, rfl, rfl, h3, hA3⟩ := trodAll_cons hA2
 subst e3
 obtain ⟨v4, vs4, d4, ds4, p4, p4_, e4, rfl, rfl, h4, hA4⟩ := trodAll_cons hA3
 subst e4
 obtain ⟨en, rfl, rfl⟩ := trodAll_nil hA4
 subst en
 obtain rfl : args = #[v0, v1, v2, v3, v4] := by cases args; simp_all
 obtain ⟨cs0, x0, rfl, r0, o0⟩ := rd_aggarg (rd24 W) Tryz.underlying24 (hval 0 24 _ rfl rfl) h0
 obtain ⟨x1, ⟨ad1, cap1, e1, r1⟩, o1⟩ := rd_arg (R := (RSl (Flat encErratum) 6)) (ok := (okL (ok97))) (rd_slice Tryz.underlying25 (by kernel_rfl) (by decide) (rd97 _)) (hval 1 25 _ rfl rfl) (nsl Tryz.underlying25 (hval 1 25 _ rfl rfl)) h1
 cases e1
 obtain ⟨x2, e2, o2⟩ := rd_arg (R := (Flat (Pk.encI .u16))) (ok := (okInt .u16)) (rd_int Tryz.underlying26 (by kernel_rfl)) (hval 2 26 _ rfl rfl) (nint Tryz.underlying26 (hval 2 26 _ rfl rfl)) h2
 cases e2
 obtain ⟨x3, ⟨ad3, cap3, e3, r3⟩, o3⟩ := rd_arg (R := (RSl (Flat encOrder) 4)) (ok := (okL (ok126))) (rd_slice Tryz.underlying27 (by kernel_rfl) (by decide) (rd126 _)) (hval 3 27 _ rfl rfl) (nsl Tryz.underlying27 (hval 3 27 _ rfl rfl)) h3
 cases e3
 obtain ⟨cs4, x4, rfl, r4, o4⟩ := rd_aggarg (rd30 W) Tryz.underlying30 (hval 4 30 _ rfl rfl) h4
 have hm : m3 x0 x1 x2 x3 x4 = some true := law3 e9 x0 x1 x2 x3 x4 ⟨o2.1, Int.le_trans o2.2 (by decide)⟩
 refine (w3 (M := False) (Hp.le.refl (hp W)) (gv_of hL hsh) x0 r0 r1 x2 r3 x4 r4 hm).mono fun e W2 he => ?_
 cases e with
 | returned u =>
  obtain ⟨rfl, hE⟩ := he
  exact ⟨_, rfl, post_law hW1 rfl laidOutP (by rw [Tryz.params3]; decide +kernel) rfl rfl Tryz.underlying4 hE⟩
 | panicked c => exact he.elim
 | outgrown => exact he.elim
theorem said3 : Rows.TopLinksSaid :=
 OpenClaim.holds_of_wide 3 Tryz.f3 rfl rfl rfl rfl rfl rfl rfl ⟨rfl, rfl, rfl, rfl, rfl⟩ rfl rfl rfl rfl rfl (by kernel_rfl) Tryz.func3 (by kernel_rfl)
  (of_decide_eq_true (by kernel_rfl)) (by unfold Func.isWrapper; first | (rw [if_pos (by decide +kernel)]; kernel_rfl) | (rw [if_neg (by decide +kernel)]; exact ⟨rfl, rfl⟩))
  (fun os started H enc _ => lifted3 os started H enc)
theorem card3 : Rows.TopLinksCardSaid :=
 Claim7.holds_tied_plain_at .later [] [.data, .data, .data, .sentinel, .sentinel] true (true, "336e9879746cf7c721a85e7c14f27e9a4ac64ca9132018342ef7a08f0573c420") true
  said3 (fun _ h => by cases h) (by kernel_rfl) (fun _ h => by cases h) topLinks_row_tie rfl ⟨rfl, rfl⟩ (by kernel_rfl) rfl
  (fun f fn hf hfn => by
   obtain rfl : f = 3 := Option.some.inj ((show Tryz.prog.funcNamed Tryz.f3.name = some 3 by kernel_rfl).symm.trans hf) |>.symm
   obtain rfl : fn = Tryz.f3 := (Option.some.inj (Tryz.func3.symm.trans hfn)).symm
   exact ⟨by kernel_rfl, fun j t ht => by
    rw [Tryz.params3] at ht
    have hm : t ∈ [24, 25, 26, 27, 30] := by simpa using Array.mem_of_getElem? ht
    have hall : ([24, 25, 26, 27, 30].all fun u => !Tryz.prog.wantsStandIn u) = true := by kernel_rfl
    exact (show Tryz.prog.wantsStandIn t = false by simpa using List.all_eq_true.1 hall t hm)⟩)
  (by kernel_rfl)
#print axioms card3
end Go.Proofs.YtjehjogdlamghaaGreatDoor
