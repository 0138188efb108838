/-
  DERIVED. GIVEN WITH THE SEED: THE CARDS: each row of YtelimceikglofaaGreatDoorRows.lean that lists a variable, with what it lists TIED to the program's text (the seventh form; the later family's looks); each row that meets fmt, with fmt's text TOLD by the authors' own Lean function (tested against real Go, not proved from fmt's source: count such statements apart). THE CARD IS WHAT COUNTS. Prove the row's statement (the work); the ties are given (YtelimceikglofaaGreatDoorTie.lean); close each card by the builder's one call (the guide's Derived/Test/ToyasCard.lean, 'card_holds'). Laid BY PROGRAM, IN A SANDBOX (cutbox-door.mjs). By AI agents, Wed Nov 11 2026. No macro, syntax, notation, axiom, sorry.
-/
import Derived.Test.YtelimceikglofaaGreatDoorRows
import GoSem.ClaimSeven
namespace Go.Proofs.YtelimceikglofaaGreatDoor
namespace Rows

/-- THE TIED CARD OF 'palantypelaw04.MendTroubles'. -/
def mendTroublesCard : Claim7 := { stood := { row := mendTroublesRow, standIns := [], harness := (true, "64c985c3923e1740e577ee94513312246d7157dbc03c3ede4d2a633a236cf9ce"), looks := true }, kinds := [], alts := [], laidByText := true, laidKinds := [.data, .data, .data, .sentinel, .sentinel], laidTests := true, laidLooks := .later }
def MendTroublesCardSaid : Prop := Claim7.holds Tryz.pinned (.plain (OpenSpec.ofChange mendTroublesSpec)) mendTroublesCard

/-- THE TIED CARD OF 'palantypelaw04.MendTrouble'. -/
def mendTroubleCard : Claim7 := { stood := { row := mendTroubleRow, standIns := [], harness := (true, "64c985c3923e1740e577ee94513312246d7157dbc03c3ede4d2a633a236cf9ce"), looks := true }, kinds := [], alts := [], laidByText := true, laidKinds := [.data, .data, .data, .sentinel, .sentinel], laidTests := true, laidLooks := .later }
def MendTroubleCardSaid : Prop := Claim7.holds Tryz.pinned (.plain (OpenSpec.ofChange mendTroubleSpec)) mendTroubleCard

/-- THE TIED CARD OF 'palantypelaw04.MendOwn'. -/
def mendOwnCard : Claim7 := { stood := { row := mendOwnRow, standIns := [], harness := (true, "64c985c3923e1740e577ee94513312246d7157dbc03c3ede4d2a633a236cf9ce"), looks := true }, kinds := [], alts := [], laidByText := true, laidKinds := [.data, .data, .data, .sentinel, .sentinel], laidTests := true, laidLooks := .later }
def MendOwnCardSaid : Prop := Claim7.holds Tryz.pinned (.plain (OpenSpec.ofChange mendOwnSpec)) mendOwnCard

/-- THE TIED CARD OF 'palantypelaw04.MendAlone'. -/
def mendAloneCard : Claim7 := { stood := { row := mendAloneRow, standIns := [], harness := (true, "64c985c3923e1740e577ee94513312246d7157dbc03c3ede4d2a633a236cf9ce"), looks := true }, kinds := [], alts := [], laidByText := true, laidKinds := [.data, .data, .data, .sentinel, .sentinel], laidTests := true, laidLooks := .later }
def MendAloneCardSaid : Prop := Claim7.holds Tryz.pinned (.plain (OpenSpec.ofChange mendAloneSpec)) mendAloneCard

/-- THE TIED CARD OF 'palantypelaw04.MendJoined'. -/
def mendJoinedCard : Claim7 := { stood := { row := mendJoinedRow, standIns := [], harness := (true, "64c985c3923e1740e577ee94513312246d7157dbc03c3ede4d2a633a236cf9ce"), looks := true }, kinds := [], alts := [], laidByText := true, laidKinds := [.data, .data, .data, .sentinel, .sentinel], laidTests := true, laidLooks := .later }
def MendJoinedCardSaid : Prop := Claim7.holds Tryz.pinned (.plain (OpenSpec.ofChange mendJoinedSpec)) mendJoinedCard

/-- THE TIED CARD OF 'palantypelaw04.MendDecides'. -/
def mendDecidesCard : Claim7 := { stood := { row := mendDecidesRow, standIns := [], harness := (true, "64c985c3923e1740e577ee94513312246d7157dbc03c3ede4d2a633a236cf9ce"), looks := true }, kinds := [], alts := [], laidByText := true, laidKinds := [.data, .data, .data, .sentinel, .sentinel], laidTests := true, laidLooks := .later }
def MendDecidesCardSaid : Prop := Claim7.holds Tryz.pinned (.plain (OpenSpec.ofChange mendDecidesSpec)) mendDecidesCard

/-- THE TIED CARD OF 'palantypelaw04.MendSenses'. -/
def mendSensesCard : Claim7 := { stood := { row := mendSensesRow, standIns := [], harness := (true, "64c985c3923e1740e577ee94513312246d7157dbc03c3ede4d2a633a236cf9ce"), looks := true }, kinds := [], alts := [], laidByText := true, laidKinds := [.data, .data, .data, .sentinel, .sentinel], laidTests := true, laidLooks := .later }
def MendSensesCardSaid : Prop := Claim7.holds Tryz.pinned (.plain (OpenSpec.ofChange mendSensesSpec)) mendSensesCard

/-- THE TIED CARD OF 'palantypelaw04.MendVersions'. -/
def mendVersionsCard : Claim7 := { stood := { row := mendVersionsRow, standIns := [], harness := (true, "64c985c3923e1740e577ee94513312246d7157dbc03c3ede4d2a633a236cf9ce"), looks := true }, kinds := [], alts := [], laidByText := true, laidKinds := [.data, .data, .data, .sentinel, .sentinel], laidTests := true, laidLooks := .later }
def MendVersionsCardSaid : Prop := Claim7.holds Tryz.pinned (.plain (OpenSpec.ofChange mendVersionsSpec)) mendVersionsCard

/-- THE TIED CARD OF 'palantypelaw04.MendSame'. -/
def mendSameCard : Claim7 := { stood := { row := mendSameRow, standIns := [], harness := (true, "64c985c3923e1740e577ee94513312246d7157dbc03c3ede4d2a633a236cf9ce"), looks := true }, kinds := [], alts := [], laidByText := true, laidKinds := [.data, .data, .data, .sentinel, .sentinel], laidTests := true, laidLooks := .later }
def MendSameCardSaid : Prop := Claim7.holds Tryz.pinned (.plain (OpenSpec.ofChange mendSameSpec)) mendSameCard

/-- THE TIED CARD OF 'palantypelaw04.MendBoth'. -/
def mendBothCard : Claim7 := { stood := { row := mendBothRow, standIns := [], harness := (true, "64c985c3923e1740e577ee94513312246d7157dbc03c3ede4d2a633a236cf9ce"), looks := true }, kinds := [], alts := [], laidByText := true, laidKinds := [.data, .data, .data, .sentinel, .sentinel], laidTests := true, laidLooks := .later }
def MendBothCardSaid : Prop := Claim7.holds Tryz.pinned (.plain (OpenSpec.ofChange mendBothSpec)) mendBothCard

/-- THE TIED CARD OF 'palantypelaw04.MendOrder'. -/
def mendOrderCard : Claim7 := { stood := { row := mendOrderRow, standIns := [], harness := (true, "64c985c3923e1740e577ee94513312246d7157dbc03c3ede4d2a633a236cf9ce"), looks := true }, kinds := [], alts := [], laidByText := true, laidKinds := [.data, .data, .data, .sentinel, .sentinel], laidTests := true, laidLooks := .later }
def MendOrderCardSaid : Prop := Claim7.holds Tryz.pinned (.plain (OpenSpec.ofChange mendOrderSpec)) mendOrderCard

/-- THE TIED CARD OF 'palantypelaw04.MendNames'. -/
def mendNamesCard : Claim7 := { stood := { row := mendNamesRow, standIns := [], harness := (true, "64c985c3923e1740e577ee94513312246d7157dbc03c3ede4d2a633a236cf9ce"), looks := true }, kinds := [], alts := [], laidByText := true, laidKinds := [.data, .data, .data, .sentinel, .sentinel], laidTests := true, laidLooks := .later }
def MendNamesCardSaid : Prop := Claim7.holds Tryz.pinned (.plain (OpenSpec.ofChange mendNamesSpec)) mendNamesCard

/-- THE SECOND FORM's CARD OF 'palantypelaw04.MendTroubles'. -/
def mendTroublesUptoCard : Claim7 := { stood := { row := mendTroublesUptoRow, standIns := [], harness := (true, "64c985c3923e1740e577ee94513312246d7157dbc03c3ede4d2a633a236cf9ce"), looks := true }, kinds := [], alts := [], laidByText := true, laidKinds := [.data, .data, .data, .sentinel, .sentinel], laidTests := true, laidLooks := .later }
def MendTroublesUptoCardSaid : Prop := Claim7.holds Tryz.pinned (.plain (OpenSpec.upto mendTroublesSpec)) mendTroublesUptoCard

/-- THE SECOND FORM's CARD OF 'palantypelaw04.MendTrouble'. -/
def mendTroubleUptoCard : Claim7 := { stood := { row := mendTroubleUptoRow, standIns := [], harness := (true, "64c985c3923e1740e577ee94513312246d7157dbc03c3ede4d2a633a236cf9ce"), looks := true }, kinds := [], alts := [], laidByText := true, laidKinds := [.data, .data, .data, .sentinel, .sentinel], laidTests := true, laidLooks := .later }
def MendTroubleUptoCardSaid : Prop := Claim7.holds Tryz.pinned (.plain (OpenSpec.upto mendTroubleSpec)) mendTroubleUptoCard

/-- THE SECOND FORM's CARD OF 'palantypelaw04.MendOwn'. -/
def mendOwnUptoCard : Claim7 := { stood := { row := mendOwnUptoRow, standIns := [], harness := (true, "64c985c3923e1740e577ee94513312246d7157dbc03c3ede4d2a633a236cf9ce"), looks := true }, kinds := [], alts := [], laidByText := true, laidKinds := [.data, .data, .data, .sentinel, .sentinel], laidTests := true, laidLooks := .later }
def MendOwnUptoCardSaid : Prop := Claim7.holds Tryz.pinned (.plain (OpenSpec.upto mendOwnSpec)) mendOwnUptoCard

/-- THE SECOND FORM's CARD OF 'palantypelaw04.MendAlone'. -/
def mendAloneUptoCard : Claim7 := { stood := { row := mendAloneUptoRow, standIns := [], harness := (true, "64c985c3923e1740e577ee94513312246d7157dbc03c3ede4d2a633a236cf9ce"), looks := true }, kinds := [], alts := [], laidByText := true, laidKinds := [.data, .data, .data, .sentinel, .sentinel], laidTests := true, laidLooks := .later }
def MendAloneUptoCardSaid : Prop := Claim7.holds Tryz.pinned (.plain (OpenSpec.upto mendAloneSpec)) mendAloneUptoCard

/-- THE SECOND FORM's CARD OF 'palantypelaw04.MendJoined'. -/
def mendJoinedUptoCard : Claim7 := { stood := { row := mendJoinedUptoRow, standIns := [], harness := (true, "64c985c3923e1740e577ee94513312246d7157dbc03c3ede4d2a633a236cf9ce"), looks := true }, kinds := [], alts := [], laidByText := true, laidKinds := [.data, .data, .data, .sentinel, .sentinel], laidTests := true, laidLooks := .later }
def MendJoinedUptoCardSaid : Prop := Claim7.holds Tryz.pinned (.plain (OpenSpec.upto mendJoinedSpec)) mendJoinedUptoCard

/-- THE SECOND FORM's CARD OF 'palantypelaw04.MendDecides'. -/
def mendDecidesUptoCard : Claim7 := { stood := { row := mendDecidesUptoRow, standIns := [], harness := (true, "64c985c3923e1740e577ee94513312246d7157dbc03c3ede4d2a633a236cf9ce"), looks := true }, kinds := [], alts := [], laidByText := true, laidKinds := [.data, .data, .data, .sentinel, .sentinel], laidTests := true, laidLooks := .later }
def MendDecidesUptoCardSaid : Prop := Claim7.holds Tryz.pinned (.plain (OpenSpec.upto mendDecidesSpec)) mendDecidesUptoCard

/-- THE SECOND FORM's CARD OF 'palantypelaw04.MendSenses'. -/
def mendSensesUptoCard : Claim7 := { stood := { row := mendSensesUptoRow, standIns := [], harness := (true, "64c985c3923e1740e577ee94513312246d7157dbc03c3ede4d2a633a236cf9ce"), looks := true }, kinds := [], alts := [], laidByText := true, laidKinds := [.data, .data, .data, .sentinel, .sentinel], laidTests := true, laidLooks := .later }
def MendSensesUptoCardSaid : Prop := Claim7.holds Tryz.pinned (.plain (OpenSpec.upto mendSensesSpec)) mendSensesUptoCard

/-- THE SECOND FORM's CARD OF 'palantypelaw04.MendVersions'. -/
def mendVersionsUptoCard : Claim7 := { stood := { row := mendVersionsUptoRow, standIns := [], harness := (true, "64c985c3923e1740e577ee94513312246d7157dbc03c3ede4d2a633a236cf9ce"), looks := true }, kinds := [], alts := [], laidByText := true, laidKinds := [.data, .data, .data, .sentinel, .sentinel], laidTests := true, laidLooks := .later }
def MendVersionsUptoCardSaid : Prop := Claim7.holds Tryz.pinned (.plain (OpenSpec.upto mendVersionsSpec)) mendVersionsUptoCard

/-- THE SECOND FORM's CARD OF 'palantypelaw04.MendSame'. -/
def mendSameUptoCard : Claim7 := { stood := { row := mendSameUptoRow, standIns := [], harness := (true, "64c985c3923e1740e577ee94513312246d7157dbc03c3ede4d2a633a236cf9ce"), looks := true }, kinds := [], alts := [], laidByText := true, laidKinds := [.data, .data, .data, .sentinel, .sentinel], laidTests := true, laidLooks := .later }
def MendSameUptoCardSaid : Prop := Claim7.holds Tryz.pinned (.plain (OpenSpec.upto mendSameSpec)) mendSameUptoCard

/-- THE SECOND FORM's CARD OF 'palantypelaw04.MendBoth'. -/
def mendBothUptoCard : Claim7 := { stood := { row := mendBothUptoRow, standIns := [], harness := (true, "64c985c3923e1740e577ee94513312246d7157dbc03c3ede4d2a633a236cf9ce"), looks := true }, kinds := [], alts := [], laidByText := true, laidKinds := [.data, .data, .data, .sentinel, .sentinel], laidTests := true, laidLooks := .later }
def MendBothUptoCardSaid : Prop := Claim7.holds Tryz.pinned (.plain (OpenSpec.upto mendBothSpec)) mendBothUptoCard

/-- THE SECOND FORM's CARD OF 'palantypelaw04.MendOrder'. -/
def mendOrderUptoCard : Claim7 := { stood := { row := mendOrderUptoRow, standIns := [], harness := (true, "64c985c3923e1740e577ee94513312246d7157dbc03c3ede4d2a633a236cf9ce"), looks := true }, kinds := [], alts := [], laidByText := true, laidKinds := [.data, .data, .data, .sentinel, .sentinel], laidTests := true, laidLooks := .later }
def MendOrderUptoCardSaid : Prop := Claim7.holds Tryz.pinned (.plain (OpenSpec.upto mendOrderSpec)) mendOrderUptoCard

/-- THE SECOND FORM's CARD OF 'palantypelaw04.MendNames'. -/
def mendNamesUptoCard : Claim7 := { stood := { row := mendNamesUptoRow, standIns := [], harness := (true, "64c985c3923e1740e577ee94513312246d7157dbc03c3ede4d2a633a236cf9ce"), looks := true }, kinds := [], alts := [], laidByText := true, laidKinds := [.data, .data, .data, .sentinel, .sentinel], laidTests := true, laidLooks := .later }
def MendNamesUptoCardSaid : Prop := Claim7.holds Tryz.pinned (.plain (OpenSpec.upto mendNamesSpec)) mendNamesUptoCard
end Rows
end Go.Proofs.YtelimceikglofaaGreatDoor
