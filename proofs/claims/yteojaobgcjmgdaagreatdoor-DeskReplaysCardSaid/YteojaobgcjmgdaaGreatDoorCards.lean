/-
  DERIVED. GIVEN WITH THE SEED: THE CARDS: each row of YteojaobgcjmgdaaGreatDoorRows.lean that lists a variable, with what it lists TIED to the program's text (the seventh form; the later family's looks); each row that meets fmt, with fmt's text TOLD by the authors' own Lean function (tested against real Go, not proved from fmt's source: count such statements apart). THE CARD IS WHAT COUNTS. Prove the row's statement (the work); the ties are given (YteojaobgcjmgdaaGreatDoorTie.lean); close each card by the builder's one call (the guide's Derived/Test/ToyasCard.lean, 'card_holds'). Laid BY PROGRAM, IN A SANDBOX (cutbox-door.mjs). By AI agents, Wed Nov 11 2026. No macro, syntax, notation, axiom, sorry.
-/
import Derived.Test.YteojaobgcjmgdaaGreatDoorRows
import GoSem.ClaimSeven
namespace Go.Proofs.YteojaobgcjmgdaaGreatDoor
namespace Rows

/-- THE TIED CARD OF 'palantypelaw12.DeskReplays'. -/
def deskReplaysCard : Claim7 := { stood := { row := deskReplaysRow, standIns := [], harness := (true, "662bd0d110710f66fef83378b2520d5166ff9b99ee10893e210678770a19aae4"), looks := true }, kinds := [], alts := [], laidByText := true, laidKinds := [.data, .data, .data, .sentinel, .sentinel], laidTests := true, laidLooks := .later }
def DeskReplaysCardSaid : Prop := Claim7.holds Tryz.pinned (.plain (OpenSpec.ofChange deskReplaysSpec)) deskReplaysCard

/-- THE TIED CARD OF 'palantypelaw12.DeskGoesOn'. -/
def deskGoesOnCard : Claim7 := { stood := { row := deskGoesOnRow, standIns := [], harness := (true, "662bd0d110710f66fef83378b2520d5166ff9b99ee10893e210678770a19aae4"), looks := true }, kinds := [], alts := [], laidByText := true, laidKinds := [.data, .data, .data, .sentinel, .sentinel], laidTests := true, laidLooks := .later }
def DeskGoesOnCardSaid : Prop := Claim7.holds Tryz.pinned (.plain (OpenSpec.ofChange deskGoesOnSpec)) deskGoesOnCard

/-- THE SECOND FORM's CARD OF 'palantypelaw12.DeskReplays'. -/
def deskReplaysUptoCard : Claim7 := { stood := { row := deskReplaysUptoRow, standIns := [], harness := (true, "662bd0d110710f66fef83378b2520d5166ff9b99ee10893e210678770a19aae4"), looks := true }, kinds := [], alts := [], laidByText := true, laidKinds := [.data, .data, .data, .sentinel, .sentinel], laidTests := true, laidLooks := .later }
def DeskReplaysUptoCardSaid : Prop := Claim7.holds Tryz.pinned (.plain (OpenSpec.upto deskReplaysSpec)) deskReplaysUptoCard

/-- THE SECOND FORM's CARD OF 'palantypelaw12.DeskGoesOn'. -/
def deskGoesOnUptoCard : Claim7 := { stood := { row := deskGoesOnUptoRow, standIns := [], harness := (true, "662bd0d110710f66fef83378b2520d5166ff9b99ee10893e210678770a19aae4"), looks := true }, kinds := [], alts := [], laidByText := true, laidKinds := [.data, .data, .data, .sentinel, .sentinel], laidTests := true, laidLooks := .later }
def DeskGoesOnUptoCardSaid : Prop := Claim7.holds Tryz.pinned (.plain (OpenSpec.upto deskGoesOnSpec)) deskGoesOnUptoCard
end Rows
end Go.Proofs.YteojaobgcjmgdaaGreatDoor
