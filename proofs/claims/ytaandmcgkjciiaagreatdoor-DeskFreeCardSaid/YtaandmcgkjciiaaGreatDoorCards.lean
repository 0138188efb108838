/-
  DERIVED. GIVEN WITH THE SEED: THE CARDS: each row of YtaandmcgkjciiaaGreatDoorRows.lean that lists a variable, with what it lists TIED to the program's text (the seventh form; the later family's looks); each row that meets fmt, with fmt's text TOLD by the authors' own Lean function (tested against real Go, not proved from fmt's source: count such statements apart). THE CARD IS WHAT COUNTS. Prove the row's statement (the work); the ties are given (YtaandmcgkjciiaaGreatDoorTie.lean); close each card by the builder's one call (the guide's Derived/Test/ToyasCard.lean, 'card_holds'). Laid BY PROGRAM, IN A SANDBOX (cutbox-door.mjs). By AI agents, Wed Nov 11 2026. No macro, syntax, notation, axiom, sorry.
-/
import Derived.Test.YtaandmcgkjciiaaGreatDoorRows
import GoSem.ClaimSeven
namespace Go.Proofs.YtaandmcgkjciiaaGreatDoor
namespace Rows

/-- THE TIED CARD OF 'palantypelaw12.DeskOrders'. -/
def deskOrdersCard : Claim7 := { stood := { row := deskOrdersRow, standIns := [], harness := (true, "a67339787055d185c0a9da2e3cf4b1b6a0f16e336d3af7934678ac25c28c3e44"), looks := true }, kinds := [], alts := [], laidByText := true, laidKinds := [.data, .data, .data, .sentinel, .sentinel], laidTests := true, laidLooks := .later }
def DeskOrdersCardSaid : Prop := Claim7.holds Tryz.pinned (.plain (OpenSpec.ofChange deskOrdersSpec)) deskOrdersCard

/-- THE TIED CARD OF 'palantypelaw12.DeskSure'. -/
def deskSureCard : Claim7 := { stood := { row := deskSureRow, standIns := [], harness := (true, "a67339787055d185c0a9da2e3cf4b1b6a0f16e336d3af7934678ac25c28c3e44"), looks := true }, kinds := [], alts := [], laidByText := true, laidKinds := [.data, .data, .data, .sentinel, .sentinel], laidTests := true, laidLooks := .later }
def DeskSureCardSaid : Prop := Claim7.holds Tryz.pinned (.plain (OpenSpec.ofChange deskSureSpec)) deskSureCard

/-- THE TIED CARD OF 'palantypelaw12.DeskFree'. -/
def deskFreeCard : Claim7 := { stood := { row := deskFreeRow, standIns := [], harness := (true, "a67339787055d185c0a9da2e3cf4b1b6a0f16e336d3af7934678ac25c28c3e44"), looks := true }, kinds := [], alts := [], laidByText := true, laidKinds := [.data, .data, .data, .sentinel, .sentinel], laidTests := true, laidLooks := .later }
def DeskFreeCardSaid : Prop := Claim7.holds Tryz.pinned (.plain (OpenSpec.ofChange deskFreeSpec)) deskFreeCard

/-- THE SECOND FORM's CARD OF 'palantypelaw12.DeskOrders'. -/
def deskOrdersUptoCard : Claim7 := { stood := { row := deskOrdersUptoRow, standIns := [], harness := (true, "a67339787055d185c0a9da2e3cf4b1b6a0f16e336d3af7934678ac25c28c3e44"), looks := true }, kinds := [], alts := [], laidByText := true, laidKinds := [.data, .data, .data, .sentinel, .sentinel], laidTests := true, laidLooks := .later }
def DeskOrdersUptoCardSaid : Prop := Claim7.holds Tryz.pinned (.plain (OpenSpec.upto deskOrdersSpec)) deskOrdersUptoCard

/-- THE SECOND FORM's CARD OF 'palantypelaw12.DeskSure'. -/
def deskSureUptoCard : Claim7 := { stood := { row := deskSureUptoRow, standIns := [], harness := (true, "a67339787055d185c0a9da2e3cf4b1b6a0f16e336d3af7934678ac25c28c3e44"), looks := true }, kinds := [], alts := [], laidByText := true, laidKinds := [.data, .data, .data, .sentinel, .sentinel], laidTests := true, laidLooks := .later }
def DeskSureUptoCardSaid : Prop := Claim7.holds Tryz.pinned (.plain (OpenSpec.upto deskSureSpec)) deskSureUptoCard

/-- THE SECOND FORM's CARD OF 'palantypelaw12.DeskFree'. -/
def deskFreeUptoCard : Claim7 := { stood := { row := deskFreeUptoRow, standIns := [], harness := (true, "a67339787055d185c0a9da2e3cf4b1b6a0f16e336d3af7934678ac25c28c3e44"), looks := true }, kinds := [], alts := [], laidByText := true, laidKinds := [.data, .data, .data, .sentinel, .sentinel], laidTests := true, laidLooks := .later }
def DeskFreeUptoCardSaid : Prop := Claim7.holds Tryz.pinned (.plain (OpenSpec.upto deskFreeSpec)) deskFreeUptoCard
end Rows
end Go.Proofs.YtaandmcgkjciiaaGreatDoor
