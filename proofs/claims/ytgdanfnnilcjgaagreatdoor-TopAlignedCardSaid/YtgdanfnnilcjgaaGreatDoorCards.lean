/-
  DERIVED. GIVEN WITH THE SEED: THE CARDS: each row of YtgdanfnnilcjgaaGreatDoorRows.lean that lists a variable, with what it lists TIED to the program's text (the seventh form; the later family's looks); each row that meets fmt, with fmt's text TOLD by the authors' own Lean function (tested against real Go, not proved from fmt's source: count such statements apart). THE CARD IS WHAT COUNTS. Prove the row's statement (the work); the ties are given (YtgdanfnnilcjgaaGreatDoorTie.lean); close each card by the builder's one call (the guide's Derived/Test/ToyasCard.lean, 'card_holds'). Laid BY PROGRAM, IN A SANDBOX (cutbox-door.mjs). By AI agents, Wed Nov 11 2026. No macro, syntax, notation, axiom, sorry.
-/
import Derived.Test.YtgdanfnnilcjgaaGreatDoorRows
import GoSem.ClaimSeven
namespace Go.Proofs.YtgdanfnnilcjgaaGreatDoor
namespace Rows

/-- THE TIED CARD OF 'palantypetop.TopAligned'. -/
def topAlignedCard : Claim7 := { stood := { row := topAlignedRow, standIns := [], harness := (true, "dd4b312a85470559cbafe70fa46aa3a3b8de19e1cb8dcac48ab0c9464b0683ac"), looks := true }, kinds := [], alts := [], laidByText := true, laidKinds := [.data, .data, .data, .sentinel, .sentinel], laidTests := true, laidLooks := .later }
def TopAlignedCardSaid : Prop := Claim7.holds Tryz.pinned (.plain (OpenSpec.ofChange topAlignedSpec)) topAlignedCard

/-- THE TIED CARD OF 'palantypetop.TopChanged'. -/
def topChangedCard : Claim7 := { stood := { row := topChangedRow, standIns := [], harness := (true, "dd4b312a85470559cbafe70fa46aa3a3b8de19e1cb8dcac48ab0c9464b0683ac"), looks := true }, kinds := [], alts := [], laidByText := true, laidKinds := [.data, .data, .data, .sentinel, .sentinel], laidTests := true, laidLooks := .later }
def TopChangedCardSaid : Prop := Claim7.holds Tryz.pinned (.plain (OpenSpec.ofChange topChangedSpec)) topChangedCard

/-- THE SECOND FORM's CARD OF 'palantypetop.TopAligned'. -/
def topAlignedUptoCard : Claim7 := { stood := { row := topAlignedUptoRow, standIns := [], harness := (true, "dd4b312a85470559cbafe70fa46aa3a3b8de19e1cb8dcac48ab0c9464b0683ac"), looks := true }, kinds := [], alts := [], laidByText := true, laidKinds := [.data, .data, .data, .sentinel, .sentinel], laidTests := true, laidLooks := .later }
def TopAlignedUptoCardSaid : Prop := Claim7.holds Tryz.pinned (.plain (OpenSpec.upto topAlignedSpec)) topAlignedUptoCard

/-- THE SECOND FORM's CARD OF 'palantypetop.TopChanged'. -/
def topChangedUptoCard : Claim7 := { stood := { row := topChangedUptoRow, standIns := [], harness := (true, "dd4b312a85470559cbafe70fa46aa3a3b8de19e1cb8dcac48ab0c9464b0683ac"), looks := true }, kinds := [], alts := [], laidByText := true, laidKinds := [.data, .data, .data, .sentinel, .sentinel], laidTests := true, laidLooks := .later }
def TopChangedUptoCardSaid : Prop := Claim7.holds Tryz.pinned (.plain (OpenSpec.upto topChangedSpec)) topChangedUptoCard
end Rows
end Go.Proofs.YtgdanfnnilcjgaaGreatDoor
