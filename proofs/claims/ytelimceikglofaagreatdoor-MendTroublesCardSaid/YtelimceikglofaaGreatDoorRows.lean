/-
  NARROWER THAN 'FOR EVERY INPUT', by the rows' own cells (each row's printed sentence says how): MendTroubles: laid · MendTrouble: laid · MendOwn: laid · MendAlone: laid · MendJoined: laid · MendDecides: laid · MendSenses: laid · MendVersions: laid · MendSame: laid · MendBoth: laid · MendOrder: laid · MendNames: laid.
  DERIVED. THE GIVEN ROWS OF THIS SEAT. 12 by the template 'for every input the law returns true; each argument reads behind the call as it read before'; 0 by the template 'total and deterministic' (their statements: YtelimceikglofaaGreatDoorTotals.lean).
  GIVEN WITH THE SEED: the statements are not yours to turn. If you find one false, say at which input.
  Laid BY PROGRAM, IN A SANDBOX (cutbox-rows.mjs): the forced cells as the released guide's own fill.sh prints them over the translation 3c890e1ea53c5e2a… (all of the seat's roots in one cut). By AI agents, Wed Nov 11 2026. No macro, syntax, notation, axiom, sorry.
-/
import Derived.Test.YtelimceikglofaaGreatDoorChecked
import GoSem.Claim
import GoSem.ClaimJoined
import GoSem.ClaimMapViews
import Derived.JoinedTies
import Derived.KernelRfl
namespace Go.Proofs.YtelimceikglofaaGreatDoor
/- THE CELL 'sum', in the pinned program and in every row, IS THE sha256 OF THE DUMP (.gsa) THAT YtelimceikglofaaGreatDoorProg.lean LOADS. Nothing in Lean hashes anything: it is a label: what it is worth is what the hold of that sum in a sandbox is worth. -/
noncomputable def Tryz.pinned : Pinned := { name := "ytelimceikglofaagreatdoor", sum := "3c890e1ea53c5e2a76e922dfc9883a076cc7ba58a73dba59ea2f6444e3f7d65b", checked := Tryz.checked }
namespace Rows
def none {H : Type} : Left H := { results := [], args := [] }

/- WHAT THE LISTED PACKAGE-LEVEL VARIABLES READ AS WHEN THE CALL BEGINS. Each datum BY PROGRAM (the guide's laid-datum.mjs) off the statement by which the dump's own 'gosem.cut.vars' lays the variable. In a bare row this is a premise. The card (YtelimceikglofaaGreatDoorCards.lean) ties it to the program's text. -/
def laid_math_bits_deBruijn32tab {H : Type} : DataW H := .agg [.lit (.int .u8 0), .lit (.int .u8 1), .lit (.int .u8 28), .lit (.int .u8 2), .lit (.int .u8 29), .lit (.int .u8 14), .lit (.int .u8 24), .lit (.int .u8 3), .lit (.int .u8 30), .lit (.int .u8 22), .lit (.int .u8 20), .lit (.int .u8 15), .lit (.int .u8 25), .lit (.int .u8 17), .lit (.int .u8 4), .lit (.int .u8 8), .lit (.int .u8 31), .lit (.int .u8 27), .lit (.int .u8 13), .lit (.int .u8 23), .lit (.int .u8 21), .lit (.int .u8 19), .lit (.int .u8 16), .lit (.int .u8 7), .lit (.int .u8 26), .lit (.int .u8 12), .lit (.int .u8 18), .lit (.int .u8 6), .lit (.int .u8 11), .lit (.int .u8 5), .lit (.int .u8 10), .lit (.int .u8 9)]
def laid_math_bits_deBruijn64tab {H : Type} : DataW H := .agg [.lit (.int .u8 0), .lit (.int .u8 1), .lit (.int .u8 56), .lit (.int .u8 2), .lit (.int .u8 57), .lit (.int .u8 49), .lit (.int .u8 28), .lit (.int .u8 3), .lit (.int .u8 61), .lit (.int .u8 58), .lit (.int .u8 42), .lit (.int .u8 50), .lit (.int .u8 38), .lit (.int .u8 29), .lit (.int .u8 17), .lit (.int .u8 4), .lit (.int .u8 62), .lit (.int .u8 47), .lit (.int .u8 59), .lit (.int .u8 36), .lit (.int .u8 45), .lit (.int .u8 43), .lit (.int .u8 51), .lit (.int .u8 22), .lit (.int .u8 53), .lit (.int .u8 39), .lit (.int .u8 33), .lit (.int .u8 30), .lit (.int .u8 24), .lit (.int .u8 18), .lit (.int .u8 12), .lit (.int .u8 5), .lit (.int .u8 63), .lit (.int .u8 55), .lit (.int .u8 48), .lit (.int .u8 27), .lit (.int .u8 60), .lit (.int .u8 41), .lit (.int .u8 37), .lit (.int .u8 16), .lit (.int .u8 46), .lit (.int .u8 35), .lit (.int .u8 44), .lit (.int .u8 21), .lit (.int .u8 52), .lit (.int .u8 32), .lit (.int .u8 23), .lit (.int .u8 11), .lit (.int .u8 54), .lit (.int .u8 26), .lit (.int .u8 40), .lit (.int .u8 15), .lit (.int .u8 34), .lit (.int .u8 20), .lit (.int .u8 31), .lit (.int .u8 10), .lit (.int .u8 25), .lit (.int .u8 14), .lit (.int .u8 19), .lit (.int .u8 9), .lit (.int .u8 13), .lit (.int .u8 8), .lit (.int .u8 7), .lit (.int .u8 6)]
def laid_internal_strconv_uint64pow10 {H : Type} : DataW H := .agg [.lit (.int .u64 1), .lit (.int .u64 10), .lit (.int .u64 100), .lit (.int .u64 1000), .lit (.int .u64 10000), .lit (.int .u64 100000), .lit (.int .u64 1000000), .lit (.int .u64 10000000), .lit (.int .u64 100000000), .lit (.int .u64 1000000000), .lit (.int .u64 10000000000), .lit (.int .u64 100000000000), .lit (.int .u64 1000000000000), .lit (.int .u64 10000000000000), .lit (.int .u64 100000000000000), .lit (.int .u64 1000000000000000), .lit (.int .u64 10000000000000000), .lit (.int .u64 100000000000000000), .lit (.int .u64 1000000000000000000), .lit (.int .u64 10000000000000000000)]
def laid_strconv_ErrRange {H : Type} : DataW H := .iface "*errors.errorString" (.ptr (.agg [.lit (.string [118, 97, 108, 117, 101, 32, 111, 117, 116, 32, 111, 102, 32, 114, 97, 110, 103, 101])]))
def laid_strconv_ErrSyntax {H : Type} : DataW H := .iface "*errors.errorString" (.ptr (.agg [.lit (.string [105, 110, 118, 97, 108, 105, 100, 32, 115, 121, 110, 116, 97, 120])]))

/-- 'palantypelaw04.MendTroubles': WHATEVER THE INPUT: true; the input reads as it did. -/
def mendTroublesSpec : ChangeSpec := { name := "mendTroubles", fn := fun _ => fun
  | [d1, d2, d3, d4] => { results := [.lit (.bool true)], args := [d1, d2, d3, d4] }
  | _ => none }
def mendTroublesRow : OpenClaim := { program := "ytelimceikglofaagreatdoor", sum := "3c890e1ea53c5e2a76e922dfc9883a076cc7ba58a73dba59ea2f6444e3f7d65b", func := "palantype/palantypelaw04.MendTroubles", spec := "mendTroubles", unfollowed := true, recurses := true, named := ["strconv.ErrSyntax", "strconv.ErrRange", "internal/strconv.uint64pow10", "math/bits.deBruijn32tab", "math/bits.deBruijn64tab"], apart := false, laid := [("math/bits.deBruijn32tab", laid_math_bits_deBruijn32tab), ("math/bits.deBruijn64tab", laid_math_bits_deBruijn64tab), ("internal/strconv.uint64pow10", laid_internal_strconv_uint64pow10), ("strconv.ErrRange", laid_strconv_ErrRange), ("strconv.ErrSyntax", laid_strconv_ErrSyntax)] }
def MendTroublesSaid : Prop := mendTroublesRow.holds Tryz.pinned (OpenSpec.ofChange mendTroublesSpec)

/-- ITS FALSE NEIGHBOUR: 'it returns false'. Refute it at one input. -/
def mendTroublesWrong : ChangeSpec := { name := "mendTroubles", fn := fun _ => fun
  | [d1, d2, d3, d4] => { results := [.lit (.bool false)], args := [d1, d2, d3, d4] }
  | _ => none }
def MendTroublesWrongFalsely : Prop := mendTroublesRow.holds Tryz.pinned (OpenSpec.ofChange mendTroublesWrong)

/-- 'palantypelaw04.MendTrouble': WHATEVER THE INPUT: true; the input reads as it did. -/
def mendTroubleSpec : ChangeSpec := { name := "mendTrouble", fn := fun _ => fun
  | [d1, d2, d3, d4, d5] => { results := [.lit (.bool true)], args := [d1, d2, d3, d4, d5] }
  | _ => none }
def mendTroubleRow : OpenClaim := { program := "ytelimceikglofaagreatdoor", sum := "3c890e1ea53c5e2a76e922dfc9883a076cc7ba58a73dba59ea2f6444e3f7d65b", func := "palantype/palantypelaw04.MendTrouble", spec := "mendTrouble", unfollowed := true, recurses := true, named := ["strconv.ErrSyntax", "strconv.ErrRange", "internal/strconv.uint64pow10", "math/bits.deBruijn32tab", "math/bits.deBruijn64tab"], apart := false, laid := [("math/bits.deBruijn32tab", laid_math_bits_deBruijn32tab), ("math/bits.deBruijn64tab", laid_math_bits_deBruijn64tab), ("internal/strconv.uint64pow10", laid_internal_strconv_uint64pow10), ("strconv.ErrRange", laid_strconv_ErrRange), ("strconv.ErrSyntax", laid_strconv_ErrSyntax)] }
def MendTroubleSaid : Prop := mendTroubleRow.holds Tryz.pinned (OpenSpec.ofChange mendTroubleSpec)

/-- ITS FALSE NEIGHBOUR: 'it returns false'. Refute it at one input. -/
def mendTroubleWrong : ChangeSpec := { name := "mendTrouble", fn := fun _ => fun
  | [d1, d2, d3, d4, d5] => { results := [.lit (.bool false)], args := [d1, d2, d3, d4, d5] }
  | _ => none }
def MendTroubleWrongFalsely : Prop := mendTroubleRow.holds Tryz.pinned (OpenSpec.ofChange mendTroubleWrong)

/-- 'palantypelaw04.MendOwn': WHATEVER THE INPUT: true; the input reads as it did. -/
def mendOwnSpec : ChangeSpec := { name := "mendOwn", fn := fun _ => fun
  | [d1, d2, d3, d4] => { results := [.lit (.bool true)], args := [d1, d2, d3, d4] }
  | _ => none }
def mendOwnRow : OpenClaim := { program := "ytelimceikglofaagreatdoor", sum := "3c890e1ea53c5e2a76e922dfc9883a076cc7ba58a73dba59ea2f6444e3f7d65b", func := "palantype/palantypelaw04.MendOwn", spec := "mendOwn", unfollowed := true, recurses := true, named := ["strconv.ErrSyntax", "strconv.ErrRange", "internal/strconv.uint64pow10", "math/bits.deBruijn32tab", "math/bits.deBruijn64tab"], apart := false, laid := [("math/bits.deBruijn32tab", laid_math_bits_deBruijn32tab), ("math/bits.deBruijn64tab", laid_math_bits_deBruijn64tab), ("internal/strconv.uint64pow10", laid_internal_strconv_uint64pow10), ("strconv.ErrRange", laid_strconv_ErrRange), ("strconv.ErrSyntax", laid_strconv_ErrSyntax)] }
def MendOwnSaid : Prop := mendOwnRow.holds Tryz.pinned (OpenSpec.ofChange mendOwnSpec)

/-- ITS FALSE NEIGHBOUR: 'it returns false'. Refute it at one input. -/
def mendOwnWrong : ChangeSpec := { name := "mendOwn", fn := fun _ => fun
  | [d1, d2, d3, d4] => { results := [.lit (.bool false)], args := [d1, d2, d3, d4] }
  | _ => none }
def MendOwnWrongFalsely : Prop := mendOwnRow.holds Tryz.pinned (OpenSpec.ofChange mendOwnWrong)

/-- 'palantypelaw04.MendAlone': WHATEVER THE INPUT: true; the input reads as it did. -/
def mendAloneSpec : ChangeSpec := { name := "mendAlone", fn := fun _ => fun
  | [d1, d2, d3, d4, d5] => { results := [.lit (.bool true)], args := [d1, d2, d3, d4, d5] }
  | _ => none }
def mendAloneRow : OpenClaim := { program := "ytelimceikglofaagreatdoor", sum := "3c890e1ea53c5e2a76e922dfc9883a076cc7ba58a73dba59ea2f6444e3f7d65b", func := "palantype/palantypelaw04.MendAlone", spec := "mendAlone", unfollowed := true, recurses := true, named := ["strconv.ErrSyntax", "strconv.ErrRange", "internal/strconv.uint64pow10", "math/bits.deBruijn32tab", "math/bits.deBruijn64tab"], apart := false, laid := [("math/bits.deBruijn32tab", laid_math_bits_deBruijn32tab), ("math/bits.deBruijn64tab", laid_math_bits_deBruijn64tab), ("internal/strconv.uint64pow10", laid_internal_strconv_uint64pow10), ("strconv.ErrRange", laid_strconv_ErrRange), ("strconv.ErrSyntax", laid_strconv_ErrSyntax)] }
def MendAloneSaid : Prop := mendAloneRow.holds Tryz.pinned (OpenSpec.ofChange mendAloneSpec)

/-- ITS FALSE NEIGHBOUR: 'it returns false'. Refute it at one input. -/
def mendAloneWrong : ChangeSpec := { name := "mendAlone", fn := fun _ => fun
  | [d1, d2, d3, d4, d5] => { results := [.lit (.bool false)], args := [d1, d2, d3, d4, d5] }
  | _ => none }
def MendAloneWrongFalsely : Prop := mendAloneRow.holds Tryz.pinned (OpenSpec.ofChange mendAloneWrong)

/-- 'palantypelaw04.MendJoined': WHATEVER THE INPUT: true; the input reads as it did. -/
def mendJoinedSpec : ChangeSpec := { name := "mendJoined", fn := fun _ => fun
  | [d1, d2, d3] => { results := [.lit (.bool true)], args := [d1, d2, d3] }
  | _ => none }
def mendJoinedRow : OpenClaim := { program := "ytelimceikglofaagreatdoor", sum := "3c890e1ea53c5e2a76e922dfc9883a076cc7ba58a73dba59ea2f6444e3f7d65b", func := "palantype/palantypelaw04.MendJoined", spec := "mendJoined", unfollowed := true, recurses := true, named := ["strconv.ErrSyntax", "strconv.ErrRange", "internal/strconv.uint64pow10", "math/bits.deBruijn32tab", "math/bits.deBruijn64tab"], apart := false, laid := [("math/bits.deBruijn32tab", laid_math_bits_deBruijn32tab), ("math/bits.deBruijn64tab", laid_math_bits_deBruijn64tab), ("internal/strconv.uint64pow10", laid_internal_strconv_uint64pow10), ("strconv.ErrRange", laid_strconv_ErrRange), ("strconv.ErrSyntax", laid_strconv_ErrSyntax)] }
def MendJoinedSaid : Prop := mendJoinedRow.holds Tryz.pinned (OpenSpec.ofChange mendJoinedSpec)

/-- ITS FALSE NEIGHBOUR: 'it returns false'. Refute it at one input. -/
def mendJoinedWrong : ChangeSpec := { name := "mendJoined", fn := fun _ => fun
  | [d1, d2, d3] => { results := [.lit (.bool false)], args := [d1, d2, d3] }
  | _ => none }
def MendJoinedWrongFalsely : Prop := mendJoinedRow.holds Tryz.pinned (OpenSpec.ofChange mendJoinedWrong)

/-- 'palantypelaw04.MendDecides': WHATEVER THE INPUT: true; the input reads as it did. -/
def mendDecidesSpec : ChangeSpec := { name := "mendDecides", fn := fun _ => fun
  | [d1, d2, d3, d4] => { results := [.lit (.bool true)], args := [d1, d2, d3, d4] }
  | _ => none }
def mendDecidesRow : OpenClaim := { program := "ytelimceikglofaagreatdoor", sum := "3c890e1ea53c5e2a76e922dfc9883a076cc7ba58a73dba59ea2f6444e3f7d65b", func := "palantype/palantypelaw04.MendDecides", spec := "mendDecides", unfollowed := true, recurses := true, named := ["strconv.ErrSyntax", "strconv.ErrRange", "internal/strconv.uint64pow10", "math/bits.deBruijn32tab", "math/bits.deBruijn64tab"], apart := false, laid := [("math/bits.deBruijn32tab", laid_math_bits_deBruijn32tab), ("math/bits.deBruijn64tab", laid_math_bits_deBruijn64tab), ("internal/strconv.uint64pow10", laid_internal_strconv_uint64pow10), ("strconv.ErrRange", laid_strconv_ErrRange), ("strconv.ErrSyntax", laid_strconv_ErrSyntax)] }
def MendDecidesSaid : Prop := mendDecidesRow.holds Tryz.pinned (OpenSpec.ofChange mendDecidesSpec)

/-- ITS FALSE NEIGHBOUR: 'it returns false'. Refute it at one input. -/
def mendDecidesWrong : ChangeSpec := { name := "mendDecides", fn := fun _ => fun
  | [d1, d2, d3, d4] => { results := [.lit (.bool false)], args := [d1, d2, d3, d4] }
  | _ => none }
def MendDecidesWrongFalsely : Prop := mendDecidesRow.holds Tryz.pinned (OpenSpec.ofChange mendDecidesWrong)

/-- 'palantypelaw04.MendSenses': WHATEVER THE INPUT: true; the input reads as it did. -/
def mendSensesSpec : ChangeSpec := { name := "mendSenses", fn := fun _ => fun
  | [d1, d2] => { results := [.lit (.bool true)], args := [d1, d2] }
  | _ => none }
def mendSensesRow : OpenClaim := { program := "ytelimceikglofaagreatdoor", sum := "3c890e1ea53c5e2a76e922dfc9883a076cc7ba58a73dba59ea2f6444e3f7d65b", func := "palantype/palantypelaw04.MendSenses", spec := "mendSenses", unfollowed := true, recurses := true, named := ["strconv.ErrSyntax", "strconv.ErrRange", "internal/strconv.uint64pow10", "math/bits.deBruijn32tab", "math/bits.deBruijn64tab"], apart := false, laid := [("math/bits.deBruijn32tab", laid_math_bits_deBruijn32tab), ("math/bits.deBruijn64tab", laid_math_bits_deBruijn64tab), ("internal/strconv.uint64pow10", laid_internal_strconv_uint64pow10), ("strconv.ErrRange", laid_strconv_ErrRange), ("strconv.ErrSyntax", laid_strconv_ErrSyntax)] }
def MendSensesSaid : Prop := mendSensesRow.holds Tryz.pinned (OpenSpec.ofChange mendSensesSpec)

/-- ITS FALSE NEIGHBOUR: 'it returns false'. Refute it at one input. -/
def mendSensesWrong : ChangeSpec := { name := "mendSenses", fn := fun _ => fun
  | [d1, d2] => { results := [.lit (.bool false)], args := [d1, d2] }
  | _ => none }
def MendSensesWrongFalsely : Prop := mendSensesRow.holds Tryz.pinned (OpenSpec.ofChange mendSensesWrong)

/-- 'palantypelaw04.MendVersions': WHATEVER THE INPUT: true; the input reads as it did. -/
def mendVersionsSpec : ChangeSpec := { name := "mendVersions", fn := fun _ => fun
  | [d1, d2, d3, d4] => { results := [.lit (.bool true)], args := [d1, d2, d3, d4] }
  | _ => none }
def mendVersionsRow : OpenClaim := { program := "ytelimceikglofaagreatdoor", sum := "3c890e1ea53c5e2a76e922dfc9883a076cc7ba58a73dba59ea2f6444e3f7d65b", func := "palantype/palantypelaw04.MendVersions", spec := "mendVersions", unfollowed := true, recurses := true, named := ["strconv.ErrSyntax", "strconv.ErrRange", "internal/strconv.uint64pow10", "math/bits.deBruijn32tab", "math/bits.deBruijn64tab"], apart := false, laid := [("math/bits.deBruijn32tab", laid_math_bits_deBruijn32tab), ("math/bits.deBruijn64tab", laid_math_bits_deBruijn64tab), ("internal/strconv.uint64pow10", laid_internal_strconv_uint64pow10), ("strconv.ErrRange", laid_strconv_ErrRange), ("strconv.ErrSyntax", laid_strconv_ErrSyntax)] }
def MendVersionsSaid : Prop := mendVersionsRow.holds Tryz.pinned (OpenSpec.ofChange mendVersionsSpec)

/-- ITS FALSE NEIGHBOUR: 'it returns false'. Refute it at one input. -/
def mendVersionsWrong : ChangeSpec := { name := "mendVersions", fn := fun _ => fun
  | [d1, d2, d3, d4] => { results := [.lit (.bool false)], args := [d1, d2, d3, d4] }
  | _ => none }
def MendVersionsWrongFalsely : Prop := mendVersionsRow.holds Tryz.pinned (OpenSpec.ofChange mendVersionsWrong)

/-- 'palantypelaw04.MendSame': WHATEVER THE INPUT: true; the input reads as it did. -/
def mendSameSpec : ChangeSpec := { name := "mendSame", fn := fun _ => fun
  | [d1, d2, d3, d4] => { results := [.lit (.bool true)], args := [d1, d2, d3, d4] }
  | _ => none }
def mendSameRow : OpenClaim := { program := "ytelimceikglofaagreatdoor", sum := "3c890e1ea53c5e2a76e922dfc9883a076cc7ba58a73dba59ea2f6444e3f7d65b", func := "palantype/palantypelaw04.MendSame", spec := "mendSame", unfollowed := true, recurses := true, named := ["strconv.ErrSyntax", "strconv.ErrRange", "internal/strconv.uint64pow10", "math/bits.deBruijn32tab", "math/bits.deBruijn64tab"], apart := false, laid := [("math/bits.deBruijn32tab", laid_math_bits_deBruijn32tab), ("math/bits.deBruijn64tab", laid_math_bits_deBruijn64tab), ("internal/strconv.uint64pow10", laid_internal_strconv_uint64pow10), ("strconv.ErrRange", laid_strconv_ErrRange), ("strconv.ErrSyntax", laid_strconv_ErrSyntax)] }
def MendSameSaid : Prop := mendSameRow.holds Tryz.pinned (OpenSpec.ofChange mendSameSpec)

/-- ITS FALSE NEIGHBOUR: 'it returns false'. Refute it at one input. -/
def mendSameWrong : ChangeSpec := { name := "mendSame", fn := fun _ => fun
  | [d1, d2, d3, d4] => { results := [.lit (.bool false)], args := [d1, d2, d3, d4] }
  | _ => none }
def MendSameWrongFalsely : Prop := mendSameRow.holds Tryz.pinned (OpenSpec.ofChange mendSameWrong)

/-- 'palantypelaw04.MendBoth': WHATEVER THE INPUT: true; the input reads as it did. -/
def mendBothSpec : ChangeSpec := { name := "mendBoth", fn := fun _ => fun
  | [d1, d2, d3, d4] => { results := [.lit (.bool true)], args := [d1, d2, d3, d4] }
  | _ => none }
def mendBothRow : OpenClaim := { program := "ytelimceikglofaagreatdoor", sum := "3c890e1ea53c5e2a76e922dfc9883a076cc7ba58a73dba59ea2f6444e3f7d65b", func := "palantype/palantypelaw04.MendBoth", spec := "mendBoth", unfollowed := true, recurses := true, named := ["strconv.ErrSyntax", "strconv.ErrRange", "internal/strconv.uint64pow10", "math/bits.deBruijn32tab", "math/bits.deBruijn64tab"], apart := false, laid := [("math/bits.deBruijn32tab", laid_math_bits_deBruijn32tab), ("math/bits.deBruijn64tab", laid_math_bits_deBruijn64tab), ("internal/strconv.uint64pow10", laid_internal_strconv_uint64pow10), ("strconv.ErrRange", laid_strconv_ErrRange), ("strconv.ErrSyntax", laid_strconv_ErrSyntax)] }
def MendBothSaid : Prop := mendBothRow.holds Tryz.pinned (OpenSpec.ofChange mendBothSpec)

/-- ITS FALSE NEIGHBOUR: 'it returns false'. Refute it at one input. -/
def mendBothWrong : ChangeSpec := { name := "mendBoth", fn := fun _ => fun
  | [d1, d2, d3, d4] => { results := [.lit (.bool false)], args := [d1, d2, d3, d4] }
  | _ => none }
def MendBothWrongFalsely : Prop := mendBothRow.holds Tryz.pinned (OpenSpec.ofChange mendBothWrong)

/-- 'palantypelaw04.MendOrder': WHATEVER THE INPUT: true; the input reads as it did. -/
def mendOrderSpec : ChangeSpec := { name := "mendOrder", fn := fun _ => fun
  | [d1, d2, d3, d4, d5, d6] => { results := [.lit (.bool true)], args := [d1, d2, d3, d4, d5, d6] }
  | _ => none }
def mendOrderRow : OpenClaim := { program := "ytelimceikglofaagreatdoor", sum := "3c890e1ea53c5e2a76e922dfc9883a076cc7ba58a73dba59ea2f6444e3f7d65b", func := "palantype/palantypelaw04.MendOrder", spec := "mendOrder", unfollowed := true, recurses := true, named := ["strconv.ErrSyntax", "strconv.ErrRange", "internal/strconv.uint64pow10", "math/bits.deBruijn32tab", "math/bits.deBruijn64tab"], apart := false, laid := [("math/bits.deBruijn32tab", laid_math_bits_deBruijn32tab), ("math/bits.deBruijn64tab", laid_math_bits_deBruijn64tab), ("internal/strconv.uint64pow10", laid_internal_strconv_uint64pow10), ("strconv.ErrRange", laid_strconv_ErrRange), ("strconv.ErrSyntax", laid_strconv_ErrSyntax)] }
def MendOrderSaid : Prop := mendOrderRow.holds Tryz.pinned (OpenSpec.ofChange mendOrderSpec)

/-- ITS FALSE NEIGHBOUR: 'it returns false'. Refute it at one input. -/
def mendOrderWrong : ChangeSpec := { name := "mendOrder", fn := fun _ => fun
  | [d1, d2, d3, d4, d5, d6] => { results := [.lit (.bool false)], args := [d1, d2, d3, d4, d5, d6] }
  | _ => none }
def MendOrderWrongFalsely : Prop := mendOrderRow.holds Tryz.pinned (OpenSpec.ofChange mendOrderWrong)

/-- 'palantypelaw04.MendNames': WHATEVER THE INPUT: true; the input reads as it did. -/
def mendNamesSpec : ChangeSpec := { name := "mendNames", fn := fun _ => fun
  | [] => { results := [.lit (.bool true)], args := [] }
  | _ => none }
def mendNamesRow : OpenClaim := { program := "ytelimceikglofaagreatdoor", sum := "3c890e1ea53c5e2a76e922dfc9883a076cc7ba58a73dba59ea2f6444e3f7d65b", func := "palantype/palantypelaw04.MendNames", spec := "mendNames", unfollowed := true, recurses := true, named := ["strconv.ErrSyntax", "strconv.ErrRange", "internal/strconv.uint64pow10", "math/bits.deBruijn32tab", "math/bits.deBruijn64tab"], apart := false, laid := [("math/bits.deBruijn32tab", laid_math_bits_deBruijn32tab), ("math/bits.deBruijn64tab", laid_math_bits_deBruijn64tab), ("internal/strconv.uint64pow10", laid_internal_strconv_uint64pow10), ("strconv.ErrRange", laid_strconv_ErrRange), ("strconv.ErrSyntax", laid_strconv_ErrSyntax)] }
def MendNamesSaid : Prop := mendNamesRow.holds Tryz.pinned (OpenSpec.ofChange mendNamesSpec)

/-- ITS FALSE NEIGHBOUR: 'it returns false'. Refute it at one input. -/
def mendNamesWrong : ChangeSpec := { name := "mendNames", fn := fun _ => fun
  | [] => { results := [.lit (.bool false)], args := [] }
  | _ => none }
def MendNamesWrongFalsely : Prop := mendNamesRow.holds Tryz.pinned (OpenSpec.ofChange mendNamesWrong)

/- THE SECOND FORM. 'bulk': how many values and letters a reading holds, each counted each time it is reached (what is shared counts as often as it is met; a slice's spare places count too). A statement '..UptoSaid' is the law's where the arguments, and the package variables that the reading takes, are together of bulk at most 1048576: NARROWER than '..Said'. Prove '..Said' where nothing that the law and all that it calls make is longer than what came in: it says more and counts as full. Else prove '..UptoSaid'. A law counts once. -/
mutual
def uptoBulk {H : Type} : DataW H → Nat
  | .lit (.string bytes) => bytes.length + 1
  | .lit _ => 1
  | .nil => 1
  | .ptr d => uptoBulk d + 1
  | .slice elems spare => uptoBulkAll elems + uptoBulkAll spare + 1
  | .agg parts => uptoBulkAll parts + 1
  | .iface _ d => uptoBulk d + 1
  | .map entries => uptoBulkEntries entries + 1
  | .held _ => 1
def uptoBulkAll {H : Type} : List (DataW H) → Nat
  | [] => 0
  | d :: r => uptoBulk d + uptoBulkAll r
def uptoBulkEntries {H : Type} : List (Lit × DataW H) → Nat
  | [] => 0
  | x :: r => uptoBulkEntry x + uptoBulkEntries r
def uptoBulkEntry {H : Type} : Lit × DataW H → Nat
  | (.string bytes, d) => bytes.length + uptoBulk d + 1
  | (_, d) => uptoBulk d + 1
 end
def uptoSmall : (H : Type) → List (DataW H) → Bool := fun _ ds => decide (uptoBulkAll ds ≤ 1048576)
def OpenSpec.upto (s : _root_.Go.ChangeSpec) : _root_.Go.OpenSpec := { _root_.Go.OpenSpec.ofChange s with cond := some uptoSmall }

/-- 'palantypelaw04.MendTroubles', WHERE WHAT IT READS IS OF BULK AT MOST 1048576: true; the input reads as it did. -/
def mendTroublesUptoRow : OpenClaim := { program := "ytelimceikglofaagreatdoor", sum := "3c890e1ea53c5e2a76e922dfc9883a076cc7ba58a73dba59ea2f6444e3f7d65b", func := "palantype/palantypelaw04.MendTroubles", spec := "mendTroubles", unfollowed := true, recurses := true, named := ["strconv.ErrSyntax", "strconv.ErrRange", "internal/strconv.uint64pow10", "math/bits.deBruijn32tab", "math/bits.deBruijn64tab"], apart := false, laid := [("math/bits.deBruijn32tab", laid_math_bits_deBruijn32tab), ("math/bits.deBruijn64tab", laid_math_bits_deBruijn64tab), ("internal/strconv.uint64pow10", laid_internal_strconv_uint64pow10), ("strconv.ErrRange", laid_strconv_ErrRange), ("strconv.ErrSyntax", laid_strconv_ErrSyntax)], narrowed := true }
def MendTroublesUptoSaid : Prop := mendTroublesUptoRow.holds Tryz.pinned (OpenSpec.upto mendTroublesSpec)

/-- 'palantypelaw04.MendTrouble', WHERE WHAT IT READS IS OF BULK AT MOST 1048576: true; the input reads as it did. -/
def mendTroubleUptoRow : OpenClaim := { program := "ytelimceikglofaagreatdoor", sum := "3c890e1ea53c5e2a76e922dfc9883a076cc7ba58a73dba59ea2f6444e3f7d65b", func := "palantype/palantypelaw04.MendTrouble", spec := "mendTrouble", unfollowed := true, recurses := true, named := ["strconv.ErrSyntax", "strconv.ErrRange", "internal/strconv.uint64pow10", "math/bits.deBruijn32tab", "math/bits.deBruijn64tab"], apart := false, laid := [("math/bits.deBruijn32tab", laid_math_bits_deBruijn32tab), ("math/bits.deBruijn64tab", laid_math_bits_deBruijn64tab), ("internal/strconv.uint64pow10", laid_internal_strconv_uint64pow10), ("strconv.ErrRange", laid_strconv_ErrRange), ("strconv.ErrSyntax", laid_strconv_ErrSyntax)], narrowed := true }
def MendTroubleUptoSaid : Prop := mendTroubleUptoRow.holds Tryz.pinned (OpenSpec.upto mendTroubleSpec)

/-- 'palantypelaw04.MendOwn', WHERE WHAT IT READS IS OF BULK AT MOST 1048576: true; the input reads as it did. -/
def mendOwnUptoRow : OpenClaim := { program := "ytelimceikglofaagreatdoor", sum := "3c890e1ea53c5e2a76e922dfc9883a076cc7ba58a73dba59ea2f6444e3f7d65b", func := "palantype/palantypelaw04.MendOwn", spec := "mendOwn", unfollowed := true, recurses := true, named := ["strconv.ErrSyntax", "strconv.ErrRange", "internal/strconv.uint64pow10", "math/bits.deBruijn32tab", "math/bits.deBruijn64tab"], apart := false, laid := [("math/bits.deBruijn32tab", laid_math_bits_deBruijn32tab), ("math/bits.deBruijn64tab", laid_math_bits_deBruijn64tab), ("internal/strconv.uint64pow10", laid_internal_strconv_uint64pow10), ("strconv.ErrRange", laid_strconv_ErrRange), ("strconv.ErrSyntax", laid_strconv_ErrSyntax)], narrowed := true }
def MendOwnUptoSaid : Prop := mendOwnUptoRow.holds Tryz.pinned (OpenSpec.upto mendOwnSpec)

/-- 'palantypelaw04.MendAlone', WHERE WHAT IT READS IS OF BULK AT MOST 1048576: true; the input reads as it did. -/
def mendAloneUptoRow : OpenClaim := { program := "ytelimceikglofaagreatdoor", sum := "3c890e1ea53c5e2a76e922dfc9883a076cc7ba58a73dba59ea2f6444e3f7d65b", func := "palantype/palantypelaw04.MendAlone", spec := "mendAlone", unfollowed := true, recurses := true, named := ["strconv.ErrSyntax", "strconv.ErrRange", "internal/strconv.uint64pow10", "math/bits.deBruijn32tab", "math/bits.deBruijn64tab"], apart := false, laid := [("math/bits.deBruijn32tab", laid_math_bits_deBruijn32tab), ("math/bits.deBruijn64tab", laid_math_bits_deBruijn64tab), ("internal/strconv.uint64pow10", laid_internal_strconv_uint64pow10), ("strconv.ErrRange", laid_strconv_ErrRange), ("strconv.ErrSyntax", laid_strconv_ErrSyntax)], narrowed := true }
def MendAloneUptoSaid : Prop := mendAloneUptoRow.holds Tryz.pinned (OpenSpec.upto mendAloneSpec)

/-- 'palantypelaw04.MendJoined', WHERE WHAT IT READS IS OF BULK AT MOST 1048576: true; the input reads as it did. -/
def mendJoinedUptoRow : OpenClaim := { program := "ytelimceikglofaagreatdoor", sum := "3c890e1ea53c5e2a76e922dfc9883a076cc7ba58a73dba59ea2f6444e3f7d65b", func := "palantype/palantypelaw04.MendJoined", spec := "mendJoined", unfollowed := true, recurses := true, named := ["strconv.ErrSyntax", "strconv.ErrRange", "internal/strconv.uint64pow10", "math/bits.deBruijn32tab", "math/bits.deBruijn64tab"], apart := false, laid := [("math/bits.deBruijn32tab", laid_math_bits_deBruijn32tab), ("math/bits.deBruijn64tab", laid_math_bits_deBruijn64tab), ("internal/strconv.uint64pow10", laid_internal_strconv_uint64pow10), ("strconv.ErrRange", laid_strconv_ErrRange), ("strconv.ErrSyntax", laid_strconv_ErrSyntax)], narrowed := true }
def MendJoinedUptoSaid : Prop := mendJoinedUptoRow.holds Tryz.pinned (OpenSpec.upto mendJoinedSpec)

/-- 'palantypelaw04.MendDecides', WHERE WHAT IT READS IS OF BULK AT MOST 1048576: true; the input reads as it did. -/
def mendDecidesUptoRow : OpenClaim := { program := "ytelimceikglofaagreatdoor", sum := "3c890e1ea53c5e2a76e922dfc9883a076cc7ba58a73dba59ea2f6444e3f7d65b", func := "palantype/palantypelaw04.MendDecides", spec := "mendDecides", unfollowed := true, recurses := true, named := ["strconv.ErrSyntax", "strconv.ErrRange", "internal/strconv.uint64pow10", "math/bits.deBruijn32tab", "math/bits.deBruijn64tab"], apart := false, laid := [("math/bits.deBruijn32tab", laid_math_bits_deBruijn32tab), ("math/bits.deBruijn64tab", laid_math_bits_deBruijn64tab), ("internal/strconv.uint64pow10", laid_internal_strconv_uint64pow10), ("strconv.ErrRange", laid_strconv_ErrRange), ("strconv.ErrSyntax", laid_strconv_ErrSyntax)], narrowed := true }
def MendDecidesUptoSaid : Prop := mendDecidesUptoRow.holds Tryz.pinned (OpenSpec.upto mendDecidesSpec)

/-- 'palantypelaw04.MendSenses', WHERE WHAT IT READS IS OF BULK AT MOST 1048576: true; the input reads as it did. -/
def mendSensesUptoRow : OpenClaim := { program := "ytelimceikglofaagreatdoor", sum := "3c890e1ea53c5e2a76e922dfc9883a076cc7ba58a73dba59ea2f6444e3f7d65b", func := "palantype/palantypelaw04.MendSenses", spec := "mendSenses", unfollowed := true, recurses := true, named := ["strconv.ErrSyntax", "strconv.ErrRange", "internal/strconv.uint64pow10", "math/bits.deBruijn32tab", "math/bits.deBruijn64tab"], apart := false, laid := [("math/bits.deBruijn32tab", laid_math_bits_deBruijn32tab), ("math/bits.deBruijn64tab", laid_math_bits_deBruijn64tab), ("internal/strconv.uint64pow10", laid_internal_strconv_uint64pow10), ("strconv.ErrRange", laid_strconv_ErrRange), ("strconv.ErrSyntax", laid_strconv_ErrSyntax)], narrowed := true }
def MendSensesUptoSaid : Prop := mendSensesUptoRow.holds Tryz.pinned (OpenSpec.upto mendSensesSpec)

/-- 'palantypelaw04.MendVersions', WHERE WHAT IT READS IS OF BULK AT MOST 1048576: true; the input reads as it did. -/
def mendVersionsUptoRow : OpenClaim := { program := "ytelimceikglofaagreatdoor", sum := "3c890e1ea53c5e2a76e922dfc9883a076cc7ba58a73dba59ea2f6444e3f7d65b", func := "palantype/palantypelaw04.MendVersions", spec := "mendVersions", unfollowed := true, recurses := true, named := ["strconv.ErrSyntax", "strconv.ErrRange", "internal/strconv.uint64pow10", "math/bits.deBruijn32tab", "math/bits.deBruijn64tab"], apart := false, laid := [("math/bits.deBruijn32tab", laid_math_bits_deBruijn32tab), ("math/bits.deBruijn64tab", laid_math_bits_deBruijn64tab), ("internal/strconv.uint64pow10", laid_internal_strconv_uint64pow10), ("strconv.ErrRange", laid_strconv_ErrRange), ("strconv.ErrSyntax", laid_strconv_ErrSyntax)], narrowed := true }
def MendVersionsUptoSaid : Prop := mendVersionsUptoRow.holds Tryz.pinned (OpenSpec.upto mendVersionsSpec)

/-- 'palantypelaw04.MendSame', WHERE WHAT IT READS IS OF BULK AT MOST 1048576: true; the input reads as it did. -/
def mendSameUptoRow : OpenClaim := { program := "ytelimceikglofaagreatdoor", sum := "3c890e1ea53c5e2a76e922dfc9883a076cc7ba58a73dba59ea2f6444e3f7d65b", func := "palantype/palantypelaw04.MendSame", spec := "mendSame", unfollowed := true, recurses := true, named := ["strconv.ErrSyntax", "strconv.ErrRange", "internal/strconv.uint64pow10", "math/bits.deBruijn32tab", "math/bits.deBruijn64tab"], apart := false, laid := [("math/bits.deBruijn32tab", laid_math_bits_deBruijn32tab), ("math/bits.deBruijn64tab", laid_math_bits_deBruijn64tab), ("internal/strconv.uint64pow10", laid_internal_strconv_uint64pow10), ("strconv.ErrRange", laid_strconv_ErrRange), ("strconv.ErrSyntax", laid_strconv_ErrSyntax)], narrowed := true }
def MendSameUptoSaid : Prop := mendSameUptoRow.holds Tryz.pinned (OpenSpec.upto mendSameSpec)

/-- 'palantypelaw04.MendBoth', WHERE WHAT IT READS IS OF BULK AT MOST 1048576: true; the input reads as it did. -/
def mendBothUptoRow : OpenClaim := { program := "ytelimceikglofaagreatdoor", sum := "3c890e1ea53c5e2a76e922dfc9883a076cc7ba58a73dba59ea2f6444e3f7d65b", func := "palantype/palantypelaw04.MendBoth", spec := "mendBoth", unfollowed := true, recurses := true, named := ["strconv.ErrSyntax", "strconv.ErrRange", "internal/strconv.uint64pow10", "math/bits.deBruijn32tab", "math/bits.deBruijn64tab"], apart := false, laid := [("math/bits.deBruijn32tab", laid_math_bits_deBruijn32tab), ("math/bits.deBruijn64tab", laid_math_bits_deBruijn64tab), ("internal/strconv.uint64pow10", laid_internal_strconv_uint64pow10), ("strconv.ErrRange", laid_strconv_ErrRange), ("strconv.ErrSyntax", laid_strconv_ErrSyntax)], narrowed := true }
def MendBothUptoSaid : Prop := mendBothUptoRow.holds Tryz.pinned (OpenSpec.upto mendBothSpec)

/-- 'palantypelaw04.MendOrder', WHERE WHAT IT READS IS OF BULK AT MOST 1048576: true; the input reads as it did. -/
def mendOrderUptoRow : OpenClaim := { program := "ytelimceikglofaagreatdoor", sum := "3c890e1ea53c5e2a76e922dfc9883a076cc7ba58a73dba59ea2f6444e3f7d65b", func := "palantype/palantypelaw04.MendOrder", spec := "mendOrder", unfollowed := true, recurses := true, named := ["strconv.ErrSyntax", "strconv.ErrRange", "internal/strconv.uint64pow10", "math/bits.deBruijn32tab", "math/bits.deBruijn64tab"], apart := false, laid := [("math/bits.deBruijn32tab", laid_math_bits_deBruijn32tab), ("math/bits.deBruijn64tab", laid_math_bits_deBruijn64tab), ("internal/strconv.uint64pow10", laid_internal_strconv_uint64pow10), ("strconv.ErrRange", laid_strconv_ErrRange), ("strconv.ErrSyntax", laid_strconv_ErrSyntax)], narrowed := true }
def MendOrderUptoSaid : Prop := mendOrderUptoRow.holds Tryz.pinned (OpenSpec.upto mendOrderSpec)

/-- 'palantypelaw04.MendNames', WHERE WHAT IT READS IS OF BULK AT MOST 1048576: true; the input reads as it did. -/
def mendNamesUptoRow : OpenClaim := { program := "ytelimceikglofaagreatdoor", sum := "3c890e1ea53c5e2a76e922dfc9883a076cc7ba58a73dba59ea2f6444e3f7d65b", func := "palantype/palantypelaw04.MendNames", spec := "mendNames", unfollowed := true, recurses := true, named := ["strconv.ErrSyntax", "strconv.ErrRange", "internal/strconv.uint64pow10", "math/bits.deBruijn32tab", "math/bits.deBruijn64tab"], apart := false, laid := [("math/bits.deBruijn32tab", laid_math_bits_deBruijn32tab), ("math/bits.deBruijn64tab", laid_math_bits_deBruijn64tab), ("internal/strconv.uint64pow10", laid_internal_strconv_uint64pow10), ("strconv.ErrRange", laid_strconv_ErrRange), ("strconv.ErrSyntax", laid_strconv_ErrSyntax)], narrowed := true }
def MendNamesUptoSaid : Prop := mendNamesUptoRow.holds Tryz.pinned (OpenSpec.upto mendNamesSpec)

end Rows
end Go.Proofs.YtelimceikglofaaGreatDoor
