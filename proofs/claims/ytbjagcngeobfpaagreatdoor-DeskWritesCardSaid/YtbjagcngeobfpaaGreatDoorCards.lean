/-
  DERIVED. GIVEN WITH THE SEED: THE CARDS: each row of YtbjagcngeobfpaaGreatDoorRows.lean that lists a variable, with what it lists TIED to the program's text (the seventh form; the later family's looks); each row that meets fmt, with fmt's text TOLD by the authors' own Lean function (tested against real Go, not proved from fmt's source: count such statements apart). THE CARD IS WHAT COUNTS. Prove the row's statement (the work); the ties are given (YtbjagcngeobfpaaGreatDoorTie.lean); close each card by the builder's one call (the guide's Derived/Test/ToyasCard.lean, 'card_holds'). Laid BY PROGRAM, IN A SANDBOX (cutbox-door.mjs). By AI agents, Wed Nov 11 2026. No macro, syntax, notation, axiom, sorry.
-/
import Derived.Test.YtbjagcngeobfpaaGreatDoorRows
import GoSem.ClaimSeven
namespace Go.Proofs.YtbjagcngeobfpaaGreatDoor
namespace Rows

/-- THE TIED CARD OF 'palantypelaw12.DeskWrites'. -/
def deskWritesCard : Claim7 := { stood := { row := deskWritesRow, standIns := [], harness := (true, "897014cae85631198fe831af3144dd120e294b74cd1f0d2e5394e531a46fb793"), looks := true }, kinds := [], alts := [], laidByText := true, laidKinds := [.data, .data, .data, .sentinel, .sentinel], laidTests := true, laidLooks := .later }
def DeskWritesCardSaid : Prop := Claim7.holds Tryz.pinned (.plain (OpenSpec.ofChange deskWritesSpec)) deskWritesCard

/-- THE TIED CARD OF 'palantypelaw12.DeskNames'. -/
def deskNamesCard : Claim7 := { stood := { row := deskNamesRow, standIns := [], harness := (true, "897014cae85631198fe831af3144dd120e294b74cd1f0d2e5394e531a46fb793"), looks := true }, kinds := [], alts := [], laidByText := true, laidKinds := [.data, .data, .data, .sentinel, .sentinel], laidTests := true, laidLooks := .later }
def DeskNamesCardSaid : Prop := Claim7.holds Tryz.pinned (.plain (OpenSpec.ofChange deskNamesSpec)) deskNamesCard

/-- THE SECOND FORM's CARD OF 'palantypelaw12.DeskWrites'. -/
def deskWritesUptoCard : Claim7 := { stood := { row := deskWritesUptoRow, standIns := [], harness := (true, "897014cae85631198fe831af3144dd120e294b74cd1f0d2e5394e531a46fb793"), looks := true }, kinds := [], alts := [], laidByText := true, laidKinds := [.data, .data, .data, .sentinel, .sentinel], laidTests := true, laidLooks := .later }
def DeskWritesUptoCardSaid : Prop := Claim7.holds Tryz.pinned (.plain (OpenSpec.upto deskWritesSpec)) deskWritesUptoCard

/-- THE SECOND FORM's CARD OF 'palantypelaw12.DeskNames'. -/
def deskNamesUptoCard : Claim7 := { stood := { row := deskNamesUptoRow, standIns := [], harness := (true, "897014cae85631198fe831af3144dd120e294b74cd1f0d2e5394e531a46fb793"), looks := true }, kinds := [], alts := [], laidByText := true, laidKinds := [.data, .data, .data, .sentinel, .sentinel], laidTests := true, laidLooks := .later }
def DeskNamesUptoCardSaid : Prop := Claim7.holds Tryz.pinned (.plain (OpenSpec.upto deskNamesSpec)) deskNamesUptoCard
end Rows
end Go.Proofs.YtbjagcngeobfpaaGreatDoor
