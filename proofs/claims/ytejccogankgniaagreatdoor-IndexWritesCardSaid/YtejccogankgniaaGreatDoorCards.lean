/-
  DERIVED. GIVEN WITH THE SEED: THE CARDS: each row of YtejccogankgniaaGreatDoorRows.lean that lists a variable, with what it lists TIED to the program's text (the seventh form; the later family's looks); each row that meets fmt, with fmt's text TOLD by the authors' own Lean function (tested against real Go, not proved from fmt's source: count such statements apart). THE CARD IS WHAT COUNTS. Prove the row's statement (the work); the ties are given (YtejccogankgniaaGreatDoorTie.lean); close each card by the builder's one call (the guide's Derived/Test/ToyasCard.lean, 'card_holds'). Laid BY PROGRAM, IN A SANDBOX (cutbox-door.mjs). By AI agents, Wed Nov 11 2026. No macro, syntax, notation, axiom, sorry.
-/
import Derived.Test.YtejccogankgniaaGreatDoorRows
import GoSem.ClaimSeven
namespace Go.Proofs.YtejccogankgniaaGreatDoor
namespace Rows

/-- THE TIED CARD OF 'palantypelaw11.IndexJoins'. -/
def indexJoinsCard : Claim7 := { stood := { row := indexJoinsRow, standIns := [], harness := (true, "8560fcf8dd08595597f7da9e8cac75596f6de4f674c249afd6e8f1d0b53ad774"), looks := true }, kinds := [], alts := [], laidByText := true, laidKinds := [.data, .data, .data, .data, .sentinel, .sentinel, .pinned], laidTests := true, laidLooks := .later }
def IndexJoinsCardSaid : Prop := Claim7.holds Tryz.pinned (.plain (OpenSpec.ofChange indexJoinsSpec)) indexJoinsCard

/-- THE TIED CARD OF 'palantypelaw11.IndexWrites'. -/
def indexWritesCard : Claim7 := { stood := { row := indexWritesRow, standIns := [], harness := (true, "8560fcf8dd08595597f7da9e8cac75596f6de4f674c249afd6e8f1d0b53ad774"), looks := true }, kinds := [], alts := [], laidByText := true, laidKinds := [.data, .data, .data, .data, .sentinel, .sentinel, .pinned], laidTests := true, laidLooks := .later }
def IndexWritesCardSaid : Prop := Claim7.holds Tryz.pinned (.plain (OpenSpec.ofChange indexWritesSpec)) indexWritesCard

/-- THE TIED CARD OF 'palantypelaw11.IndexOrder'. -/
def indexOrderCard : Claim7 := { stood := { row := indexOrderRow, standIns := [], harness := (true, "8560fcf8dd08595597f7da9e8cac75596f6de4f674c249afd6e8f1d0b53ad774"), looks := true }, kinds := [], alts := [], laidByText := true, laidKinds := [.data, .data, .data, .data, .sentinel, .sentinel, .pinned], laidTests := true, laidLooks := .later }
def IndexOrderCardSaid : Prop := Claim7.holds Tryz.pinned (.plain (OpenSpec.ofChange indexOrderSpec)) indexOrderCard

/-- THE TIED CARD OF 'palantypelaw11.IndexFiles'. -/
def indexFilesCard : Claim7 := { stood := { row := indexFilesRow, standIns := [], harness := (true, "8560fcf8dd08595597f7da9e8cac75596f6de4f674c249afd6e8f1d0b53ad774"), looks := true }, kinds := [], alts := [], laidByText := true, laidKinds := [.data, .data, .data, .data, .sentinel, .sentinel, .pinned], laidTests := true, laidLooks := .later }
def IndexFilesCardSaid : Prop := Claim7.holds Tryz.pinned (.plain (OpenSpec.ofChange indexFilesSpec)) indexFilesCard

/-- THE TIED CARD OF 'palantypelaw11.IndexSorted'. -/
def indexSortedCard : Claim7 := { stood := { row := indexSortedRow, standIns := [], harness := (true, "8560fcf8dd08595597f7da9e8cac75596f6de4f674c249afd6e8f1d0b53ad774"), looks := true }, kinds := [], alts := [], laidByText := true, laidKinds := [.data, .data, .data, .data, .sentinel, .sentinel, .pinned], laidTests := true, laidLooks := .later }
def IndexSortedCardSaid : Prop := Claim7.holds Tryz.pinned (.plain (OpenSpec.ofChange indexSortedSpec)) indexSortedCard

/-- THE TIED CARD OF 'palantypelaw11.IndexColumns'. -/
def indexColumnsCard : Claim7 := { stood := { row := indexColumnsRow, standIns := [], harness := (true, "8560fcf8dd08595597f7da9e8cac75596f6de4f674c249afd6e8f1d0b53ad774"), looks := true }, kinds := [], alts := [], laidByText := true, laidKinds := [.data, .data, .data, .data, .sentinel, .sentinel, .pinned], laidTests := true, laidLooks := .later }
def IndexColumnsCardSaid : Prop := Claim7.holds Tryz.pinned (.plain (OpenSpec.ofChange indexColumnsSpec)) indexColumnsCard

/-- THE TIED CARD OF 'palantypelaw11.IndexChecks'. -/
def indexChecksCard : Claim7 := { stood := { row := indexChecksRow, standIns := [], harness := (true, "8560fcf8dd08595597f7da9e8cac75596f6de4f674c249afd6e8f1d0b53ad774"), looks := true }, kinds := [], alts := [], laidByText := true, laidKinds := [.data, .data, .data, .data, .sentinel, .sentinel, .pinned], laidTests := true, laidLooks := .later }
def IndexChecksCardSaid : Prop := Claim7.holds Tryz.pinned (.plain (OpenSpec.ofChange indexChecksSpec)) indexChecksCard

/-- THE TIED CARD OF 'palantypelaw11.IndexAgain'. -/
def indexAgainCard : Claim7 := { stood := { row := indexAgainRow, standIns := [], harness := (true, "8560fcf8dd08595597f7da9e8cac75596f6de4f674c249afd6e8f1d0b53ad774"), looks := true }, kinds := [], alts := [], laidByText := true, laidKinds := [.data, .data, .data, .data, .sentinel, .sentinel, .pinned], laidTests := true, laidLooks := .later }
def IndexAgainCardSaid : Prop := Claim7.holds Tryz.pinned (.plain (OpenSpec.ofChange indexAgainSpec)) indexAgainCard

/-- THE TIED CARD OF 'palantypelaw11.IndexLeads'. -/
def indexLeadsCard : Claim7 := { stood := { row := indexLeadsRow, standIns := [], harness := (true, "8560fcf8dd08595597f7da9e8cac75596f6de4f674c249afd6e8f1d0b53ad774"), looks := true }, kinds := [], alts := [], laidByText := true, laidKinds := [.data, .data, .data, .data, .sentinel, .sentinel, .pinned], laidTests := true, laidLooks := .later }
def IndexLeadsCardSaid : Prop := Claim7.holds Tryz.pinned (.plain (OpenSpec.ofChange indexLeadsSpec)) indexLeadsCard

/-- THE TIED CARD OF 'palantypelaw11.IndexEach'. -/
def indexEachCard : Claim7 := { stood := { row := indexEachRow, standIns := [], harness := (true, "8560fcf8dd08595597f7da9e8cac75596f6de4f674c249afd6e8f1d0b53ad774"), looks := true }, kinds := [], alts := [], laidByText := true, laidKinds := [.data, .data, .data, .data, .sentinel, .sentinel, .pinned], laidTests := true, laidLooks := .later }
def IndexEachCardSaid : Prop := Claim7.holds Tryz.pinned (.plain (OpenSpec.ofChange indexEachSpec)) indexEachCard

/-- THE TIED CARD OF 'palantypelaw11.IndexRelates'. -/
def indexRelatesCard : Claim7 := { stood := { row := indexRelatesRow, standIns := [], harness := (true, "8560fcf8dd08595597f7da9e8cac75596f6de4f674c249afd6e8f1d0b53ad774"), looks := true }, kinds := [], alts := [], laidByText := true, laidKinds := [.data, .data, .data, .data, .sentinel, .sentinel, .pinned], laidTests := true, laidLooks := .later }
def IndexRelatesCardSaid : Prop := Claim7.holds Tryz.pinned (.plain (OpenSpec.ofChange indexRelatesSpec)) indexRelatesCard

/-- THE TIED CARD OF 'palantypelaw11.IndexRelated'. -/
def indexRelatedCard : Claim7 := { stood := { row := indexRelatedRow, standIns := [], harness := (true, "8560fcf8dd08595597f7da9e8cac75596f6de4f674c249afd6e8f1d0b53ad774"), looks := true }, kinds := [], alts := [], laidByText := true, laidKinds := [.data, .data, .data, .data, .sentinel, .sentinel, .pinned], laidTests := true, laidLooks := .later }
def IndexRelatedCardSaid : Prop := Claim7.holds Tryz.pinned (.plain (OpenSpec.ofChange indexRelatedSpec)) indexRelatedCard

/-- THE TIED CARD OF 'palantypelaw11.IndexNames'. -/
def indexNamesCard : Claim7 := { stood := { row := indexNamesRow, standIns := [], harness := (true, "8560fcf8dd08595597f7da9e8cac75596f6de4f674c249afd6e8f1d0b53ad774"), looks := true }, kinds := [], alts := [], laidByText := true, laidKinds := [.data, .data, .data, .data, .sentinel, .sentinel, .pinned], laidTests := true, laidLooks := .later }
def IndexNamesCardSaid : Prop := Claim7.holds Tryz.pinned (.plain (OpenSpec.ofChange indexNamesSpec)) indexNamesCard

/-- THE SECOND FORM's CARD OF 'palantypelaw11.IndexJoins'. -/
def indexJoinsUptoCard : Claim7 := { stood := { row := indexJoinsUptoRow, standIns := [], harness := (true, "8560fcf8dd08595597f7da9e8cac75596f6de4f674c249afd6e8f1d0b53ad774"), looks := true }, kinds := [], alts := [], laidByText := true, laidKinds := [.data, .data, .data, .data, .sentinel, .sentinel, .pinned], laidTests := true, laidLooks := .later }
def IndexJoinsUptoCardSaid : Prop := Claim7.holds Tryz.pinned (.plain (OpenSpec.upto indexJoinsSpec)) indexJoinsUptoCard

/-- THE SECOND FORM's CARD OF 'palantypelaw11.IndexWrites'. -/
def indexWritesUptoCard : Claim7 := { stood := { row := indexWritesUptoRow, standIns := [], harness := (true, "8560fcf8dd08595597f7da9e8cac75596f6de4f674c249afd6e8f1d0b53ad774"), looks := true }, kinds := [], alts := [], laidByText := true, laidKinds := [.data, .data, .data, .data, .sentinel, .sentinel, .pinned], laidTests := true, laidLooks := .later }
def IndexWritesUptoCardSaid : Prop := Claim7.holds Tryz.pinned (.plain (OpenSpec.upto indexWritesSpec)) indexWritesUptoCard

/-- THE SECOND FORM's CARD OF 'palantypelaw11.IndexOrder'. -/
def indexOrderUptoCard : Claim7 := { stood := { row := indexOrderUptoRow, standIns := [], harness := (true, "8560fcf8dd08595597f7da9e8cac75596f6de4f674c249afd6e8f1d0b53ad774"), looks := true }, kinds := [], alts := [], laidByText := true, laidKinds := [.data, .data, .data, .data, .sentinel, .sentinel, .pinned], laidTests := true, laidLooks := .later }
def IndexOrderUptoCardSaid : Prop := Claim7.holds Tryz.pinned (.plain (OpenSpec.upto indexOrderSpec)) indexOrderUptoCard

/-- THE SECOND FORM's CARD OF 'palantypelaw11.IndexFiles'. -/
def indexFilesUptoCard : Claim7 := { stood := { row := indexFilesUptoRow, standIns := [], harness := (true, "8560fcf8dd08595597f7da9e8cac75596f6de4f674c249afd6e8f1d0b53ad774"), looks := true }, kinds := [], alts := [], laidByText := true, laidKinds := [.data, .data, .data, .data, .sentinel, .sentinel, .pinned], laidTests := true, laidLooks := .later }
def IndexFilesUptoCardSaid : Prop := Claim7.holds Tryz.pinned (.plain (OpenSpec.upto indexFilesSpec)) indexFilesUptoCard

/-- THE SECOND FORM's CARD OF 'palantypelaw11.IndexSorted'. -/
def indexSortedUptoCard : Claim7 := { stood := { row := indexSortedUptoRow, standIns := [], harness := (true, "8560fcf8dd08595597f7da9e8cac75596f6de4f674c249afd6e8f1d0b53ad774"), looks := true }, kinds := [], alts := [], laidByText := true, laidKinds := [.data, .data, .data, .data, .sentinel, .sentinel, .pinned], laidTests := true, laidLooks := .later }
def IndexSortedUptoCardSaid : Prop := Claim7.holds Tryz.pinned (.plain (OpenSpec.upto indexSortedSpec)) indexSortedUptoCard

/-- THE SECOND FORM's CARD OF 'palantypelaw11.IndexColumns'. -/
def indexColumnsUptoCard : Claim7 := { stood := { row := indexColumnsUptoRow, standIns := [], harness := (true, "8560fcf8dd08595597f7da9e8cac75596f6de4f674c249afd6e8f1d0b53ad774"), looks := true }, kinds := [], alts := [], laidByText := true, laidKinds := [.data, .data, .data, .data, .sentinel, .sentinel, .pinned], laidTests := true, laidLooks := .later }
def IndexColumnsUptoCardSaid : Prop := Claim7.holds Tryz.pinned (.plain (OpenSpec.upto indexColumnsSpec)) indexColumnsUptoCard

/-- THE SECOND FORM's CARD OF 'palantypelaw11.IndexChecks'. -/
def indexChecksUptoCard : Claim7 := { stood := { row := indexChecksUptoRow, standIns := [], harness := (true, "8560fcf8dd08595597f7da9e8cac75596f6de4f674c249afd6e8f1d0b53ad774"), looks := true }, kinds := [], alts := [], laidByText := true, laidKinds := [.data, .data, .data, .data, .sentinel, .sentinel, .pinned], laidTests := true, laidLooks := .later }
def IndexChecksUptoCardSaid : Prop := Claim7.holds Tryz.pinned (.plain (OpenSpec.upto indexChecksSpec)) indexChecksUptoCard

/-- THE SECOND FORM's CARD OF 'palantypelaw11.IndexAgain'. -/
def indexAgainUptoCard : Claim7 := { stood := { row := indexAgainUptoRow, standIns := [], harness := (true, "8560fcf8dd08595597f7da9e8cac75596f6de4f674c249afd6e8f1d0b53ad774"), looks := true }, kinds := [], alts := [], laidByText := true, laidKinds := [.data, .data, .data, .data, .sentinel, .sentinel, .pinned], laidTests := true, laidLooks := .later }
def IndexAgainUptoCardSaid : Prop := Claim7.holds Tryz.pinned (.plain (OpenSpec.upto indexAgainSpec)) indexAgainUptoCard

/-- THE SECOND FORM's CARD OF 'palantypelaw11.IndexLeads'. -/
def indexLeadsUptoCard : Claim7 := { stood := { row := indexLeadsUptoRow, standIns := [], harness := (true, "8560fcf8dd08595597f7da9e8cac75596f6de4f674c249afd6e8f1d0b53ad774"), looks := true }, kinds := [], alts := [], laidByText := true, laidKinds := [.data, .data, .data, .data, .sentinel, .sentinel, .pinned], laidTests := true, laidLooks := .later }
def IndexLeadsUptoCardSaid : Prop := Claim7.holds Tryz.pinned (.plain (OpenSpec.upto indexLeadsSpec)) indexLeadsUptoCard

/-- THE SECOND FORM's CARD OF 'palantypelaw11.IndexEach'. -/
def indexEachUptoCard : Claim7 := { stood := { row := indexEachUptoRow, standIns := [], harness := (true, "8560fcf8dd08595597f7da9e8cac75596f6de4f674c249afd6e8f1d0b53ad774"), looks := true }, kinds := [], alts := [], laidByText := true, laidKinds := [.data, .data, .data, .data, .sentinel, .sentinel, .pinned], laidTests := true, laidLooks := .later }
def IndexEachUptoCardSaid : Prop := Claim7.holds Tryz.pinned (.plain (OpenSpec.upto indexEachSpec)) indexEachUptoCard

/-- THE SECOND FORM's CARD OF 'palantypelaw11.IndexRelates'. -/
def indexRelatesUptoCard : Claim7 := { stood := { row := indexRelatesUptoRow, standIns := [], harness := (true, "8560fcf8dd08595597f7da9e8cac75596f6de4f674c249afd6e8f1d0b53ad774"), looks := true }, kinds := [], alts := [], laidByText := true, laidKinds := [.data, .data, .data, .data, .sentinel, .sentinel, .pinned], laidTests := true, laidLooks := .later }
def IndexRelatesUptoCardSaid : Prop := Claim7.holds Tryz.pinned (.plain (OpenSpec.upto indexRelatesSpec)) indexRelatesUptoCard

/-- THE SECOND FORM's CARD OF 'palantypelaw11.IndexRelated'. -/
def indexRelatedUptoCard : Claim7 := { stood := { row := indexRelatedUptoRow, standIns := [], harness := (true, "8560fcf8dd08595597f7da9e8cac75596f6de4f674c249afd6e8f1d0b53ad774"), looks := true }, kinds := [], alts := [], laidByText := true, laidKinds := [.data, .data, .data, .data, .sentinel, .sentinel, .pinned], laidTests := true, laidLooks := .later }
def IndexRelatedUptoCardSaid : Prop := Claim7.holds Tryz.pinned (.plain (OpenSpec.upto indexRelatedSpec)) indexRelatedUptoCard

/-- THE SECOND FORM's CARD OF 'palantypelaw11.IndexNames'. -/
def indexNamesUptoCard : Claim7 := { stood := { row := indexNamesUptoRow, standIns := [], harness := (true, "8560fcf8dd08595597f7da9e8cac75596f6de4f674c249afd6e8f1d0b53ad774"), looks := true }, kinds := [], alts := [], laidByText := true, laidKinds := [.data, .data, .data, .data, .sentinel, .sentinel, .pinned], laidTests := true, laidLooks := .later }
def IndexNamesUptoCardSaid : Prop := Claim7.holds Tryz.pinned (.plain (OpenSpec.upto indexNamesSpec)) indexNamesUptoCard
end Rows
end Go.Proofs.YtejccogankgniaaGreatDoor
