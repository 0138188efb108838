/-
  DERIVED. GIVEN WITH THE SEED: THE CARDS: each row of YtehbdldbihhleaaGreatDoorRows.lean that lists a variable, with what it lists TIED to the program's text (the seventh form; the later family's looks); each row that meets fmt, with fmt's text TOLD by the authors' own Lean function (tested against real Go, not proved from fmt's source: count such statements apart). THE CARD IS WHAT COUNTS. Prove the row's statement (the work); the ties are given (YtehbdldbihhleaaGreatDoorTie.lean); close each card by the builder's one call (the guide's Derived/Test/ToyasCard.lean, 'card_holds'). Laid BY PROGRAM, IN A SANDBOX (cutbox-door.mjs). By AI agents, Wed Nov 11 2026. No macro, syntax, notation, axiom, sorry.
-/
import Derived.Test.YtehbdldbihhleaaGreatDoorRows
import GoSem.ClaimSeven
namespace Go.Proofs.YtehbdldbihhleaaGreatDoor
namespace Rows

/-- THE TIED CARD OF 'palantypelaw12.DeskBinds'. -/
def deskBindsCard : Claim7 := { stood := { row := deskBindsRow, standIns := [], harness := (true, "ad9b27f75a583ef4314fcfb4e27015c8a463eb301d6a54869bf4bcda2b2276e1"), looks := true }, kinds := [], alts := [], laidByText := true, laidKinds := [.data, .data, .data, .sentinel, .sentinel], laidTests := true, laidLooks := .later }
def DeskBindsCardSaid : Prop := Claim7.holds Tryz.pinned (.plain (OpenSpec.ofChange deskBindsSpec)) deskBindsCard

/-- THE TIED CARD OF 'palantypelaw12.DeskHides'. -/
def deskHidesCard : Claim7 := { stood := { row := deskHidesRow, standIns := [], harness := (true, "ad9b27f75a583ef4314fcfb4e27015c8a463eb301d6a54869bf4bcda2b2276e1"), looks := true }, kinds := [], alts := [], laidByText := true, laidKinds := [.data, .data, .data, .sentinel, .sentinel], laidTests := true, laidLooks := .later }
def DeskHidesCardSaid : Prop := Claim7.holds Tryz.pinned (.plain (OpenSpec.ofChange deskHidesSpec)) deskHidesCard

/-- THE SECOND FORM's CARD OF 'palantypelaw12.DeskBinds'. -/
def deskBindsUptoCard : Claim7 := { stood := { row := deskBindsUptoRow, standIns := [], harness := (true, "ad9b27f75a583ef4314fcfb4e27015c8a463eb301d6a54869bf4bcda2b2276e1"), looks := true }, kinds := [], alts := [], laidByText := true, laidKinds := [.data, .data, .data, .sentinel, .sentinel], laidTests := true, laidLooks := .later }
def DeskBindsUptoCardSaid : Prop := Claim7.holds Tryz.pinned (.plain (OpenSpec.upto deskBindsSpec)) deskBindsUptoCard

/-- THE SECOND FORM's CARD OF 'palantypelaw12.DeskHides'. -/
def deskHidesUptoCard : Claim7 := { stood := { row := deskHidesUptoRow, standIns := [], harness := (true, "ad9b27f75a583ef4314fcfb4e27015c8a463eb301d6a54869bf4bcda2b2276e1"), looks := true }, kinds := [], alts := [], laidByText := true, laidKinds := [.data, .data, .data, .sentinel, .sentinel], laidTests := true, laidLooks := .later }
def DeskHidesUptoCardSaid : Prop := Claim7.holds Tryz.pinned (.plain (OpenSpec.upto deskHidesSpec)) deskHidesUptoCard
end Rows
end Go.Proofs.YtehbdldbihhleaaGreatDoor
