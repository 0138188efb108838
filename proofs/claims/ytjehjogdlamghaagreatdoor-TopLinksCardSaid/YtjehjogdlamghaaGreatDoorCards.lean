/-
  DERIVED. GIVEN WITH THE SEED: THE CARDS: each row of YtjehjogdlamghaaGreatDoorRows.lean that lists a variable, with what it lists TIED to the program's text (the seventh form; the later family's looks); each row that meets fmt, with fmt's text TOLD by the authors' own Lean function (tested against real Go, not proved from fmt's source: count such statements apart). THE CARD IS WHAT COUNTS. Prove the row's statement (the work); the ties are given (YtjehjogdlamghaaGreatDoorTie.lean); close each card by the builder's one call (the guide's Derived/Test/ToyasCard.lean, 'card_holds'). Laid BY PROGRAM, IN A SANDBOX (cutbox-door.mjs). By AI agents, Wed Nov 11 2026. No macro, syntax, notation, axiom, sorry.
-/
import Derived.Test.YtjehjogdlamghaaGreatDoorRows
import GoSem.ClaimSeven
namespace Go.Proofs.YtjehjogdlamghaaGreatDoor
namespace Rows

/-- THE TIED CARD OF 'palantypetop.TopLinks'. -/
def topLinksCard : Claim7 := { stood := { row := topLinksRow, standIns := [], harness := (true, "336e9879746cf7c721a85e7c14f27e9a4ac64ca9132018342ef7a08f0573c420"), looks := true }, kinds := [], alts := [], laidByText := true, laidKinds := [.data, .data, .data, .sentinel, .sentinel], laidTests := true, laidLooks := .later }
def TopLinksCardSaid : Prop := Claim7.holds Tryz.pinned (.plain (OpenSpec.ofChange topLinksSpec)) topLinksCard

/-- THE TIED CARD OF 'palantypetop.TopUnder'. -/
def topUnderCard : Claim7 := { stood := { row := topUnderRow, standIns := [], harness := (true, "336e9879746cf7c721a85e7c14f27e9a4ac64ca9132018342ef7a08f0573c420"), looks := true }, kinds := [], alts := [], laidByText := true, laidKinds := [.data, .data, .data, .data, .sentinel, .sentinel, .pinned], laidTests := true, laidLooks := .later }
def TopUnderCardSaid : Prop := Claim7.holds Tryz.pinned (.plain (OpenSpec.ofChange topUnderSpec)) topUnderCard

/-- THE SECOND FORM's CARD OF 'palantypetop.TopLinks'. -/
def topLinksUptoCard : Claim7 := { stood := { row := topLinksUptoRow, standIns := [], harness := (true, "336e9879746cf7c721a85e7c14f27e9a4ac64ca9132018342ef7a08f0573c420"), looks := true }, kinds := [], alts := [], laidByText := true, laidKinds := [.data, .data, .data, .sentinel, .sentinel], laidTests := true, laidLooks := .later }
def TopLinksUptoCardSaid : Prop := Claim7.holds Tryz.pinned (.plain (OpenSpec.upto topLinksSpec)) topLinksUptoCard

/-- THE SECOND FORM's CARD OF 'palantypetop.TopUnder'. -/
def topUnderUptoCard : Claim7 := { stood := { row := topUnderUptoRow, standIns := [], harness := (true, "336e9879746cf7c721a85e7c14f27e9a4ac64ca9132018342ef7a08f0573c420"), looks := true }, kinds := [], alts := [], laidByText := true, laidKinds := [.data, .data, .data, .data, .sentinel, .sentinel, .pinned], laidTests := true, laidLooks := .later }
def TopUnderUptoCardSaid : Prop := Claim7.holds Tryz.pinned (.plain (OpenSpec.upto topUnderSpec)) topUnderUptoCard
end Rows
end Go.Proofs.YtjehjogdlamghaaGreatDoor
