/-
  DERIVED. GIVEN WITH THE SEED: THE CARDS: each row of YthooledamhmalaaGreatDoorRows.lean that lists a variable, with what it lists TIED to the program's text (the seventh form; the later family's looks); each row that meets fmt, with fmt's text TOLD by the authors' own Lean function (tested against real Go, not proved from fmt's source: count such statements apart). THE CARD IS WHAT COUNTS. Prove the row's statement (the work); the ties are given (YthooledamhmalaaGreatDoorTie.lean); close each card by the builder's one call (the guide's Derived/Test/ToyasCard.lean, 'card_holds'). Laid BY PROGRAM, IN A SANDBOX (cutbox-door.mjs). By AI agents, Wed Nov 11 2026. No macro, syntax, notation, axiom, sorry.
-/
import Derived.Test.YthooledamhmalaaGreatDoorRows
import GoSem.ClaimSeven
namespace Go.Proofs.YthooledamhmalaaGreatDoor
namespace Rows

/-- THE TIED CARD OF 'palantypelaw12.DeskStops'. -/
def deskStopsCard : Claim7 := { stood := { row := deskStopsRow, standIns := [], harness := (true, "acea019ac0f10cc5bca46b603c985a2fe893df85caa5fa3960ba60eed27db540"), looks := true }, kinds := [], alts := [], laidByText := true, laidKinds := [.data, .data, .data, .sentinel, .sentinel], laidTests := true, laidLooks := .later }
def DeskStopsCardSaid : Prop := Claim7.holds Tryz.pinned (.plain (OpenSpec.ofChange deskStopsSpec)) deskStopsCard

/-- THE SECOND FORM's CARD OF 'palantypelaw12.DeskStops'. -/
def deskStopsUptoCard : Claim7 := { stood := { row := deskStopsUptoRow, standIns := [], harness := (true, "acea019ac0f10cc5bca46b603c985a2fe893df85caa5fa3960ba60eed27db540"), looks := true }, kinds := [], alts := [], laidByText := true, laidKinds := [.data, .data, .data, .sentinel, .sentinel], laidTests := true, laidLooks := .later }
def DeskStopsUptoCardSaid : Prop := Claim7.holds Tryz.pinned (.plain (OpenSpec.upto deskStopsSpec)) deskStopsUptoCard
end Rows
end Go.Proofs.YthooledamhmalaaGreatDoor
