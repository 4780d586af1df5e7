/-
  NARROWER THAN 'FOR EVERY INPUT', by the rows' own cells (each row's printed sentence says how): WholeDivides: laid · WholeDivisors: laid · WholeSums: laid · WholeDivision: laid · WholeCommon: laid · WholeRing: laid · WholeForms: laid · WholeWraps: laid · WholeTexts: laid · WholeBack: laid · WholePowers: laid · WholeFermat: laid · WholeBits: laid · WholeTwos: laid · WholeConstants: laid.
  DERIVED. THE GIVEN ROWS OF THIS SEAT. 15 by the template 'for every input the law returns true; each argument reads behind the call as it read before'; 0 by the template 'total and deterministic' (their statements: YtjohcjagbodicaaGreatDoorTotals.lean).
  GIVEN WITH THE SEED: the statements are not yours to turn. If you find one false, say at which input.
  Laid BY PROGRAM, IN A SANDBOX (cutbox-rows.mjs): the forced cells as the released guide's own fill.sh prints them over the translation 29bc932a3f58fc55… (all of the seat's roots in one cut). By AI agents, Wed Nov 11 2026. No macro, syntax, notation, axiom, sorry.
-/
import Derived.Test.YtjohcjagbodicaaGreatDoorChecked
import GoSem.PinnedTables
import GoSem.Claim
import GoSem.ClaimJoined
import GoSem.ClaimMapViews
import Derived.JoinedTies
import Derived.KernelRfl
namespace Go.Proofs.YtjohcjagbodicaaGreatDoor
/- THE CELL 'sum', in the pinned program and in every row, IS THE sha256 OF THE DUMP (.gsa) THAT YtjohcjagbodicaaGreatDoorProg.lean LOADS. Nothing in Lean hashes anything: it is a label: what it is worth is what the hold of that sum in a sandbox is worth. -/
noncomputable def Tryz.pinned : Pinned := { name := "ytjohcjagbodicaagreatdoor", sum := "29bc932a3f58fc55f40fe41e8bbe8c21383f4f38040ea0e448dc644cad7fd6b9", checked := Tryz.checked }
namespace Rows
def none {H : Type} : Left H := { results := [], args := [] }

/- WHAT THE LISTED PACKAGE-LEVEL VARIABLES READ AS WHEN THE CALL BEGINS. Each datum BY PROGRAM (the guide's laid-datum.mjs) off the statement by which the dump's own 'gosem.cut.vars' lays the variable. In a bare row this is a premise. The card (YtjohcjagbodicaaGreatDoorCards.lean) ties it to the program's text. -/
def laid_unicode_utf8_acceptRanges {H : Type} : DataW H := .agg [.agg [.lit (.int .u8 128), .lit (.int .u8 191)], .agg [.lit (.int .u8 160), .lit (.int .u8 191)], .agg [.lit (.int .u8 128), .lit (.int .u8 159)], .agg [.lit (.int .u8 144), .lit (.int .u8 191)], .agg [.lit (.int .u8 128), .lit (.int .u8 143)], .agg [.lit (.int .u8 0), .lit (.int .u8 0)], .agg [.lit (.int .u8 0), .lit (.int .u8 0)], .agg [.lit (.int .u8 0), .lit (.int .u8 0)], .agg [.lit (.int .u8 0), .lit (.int .u8 0)], .agg [.lit (.int .u8 0), .lit (.int .u8 0)], .agg [.lit (.int .u8 0), .lit (.int .u8 0)], .agg [.lit (.int .u8 0), .lit (.int .u8 0)], .agg [.lit (.int .u8 0), .lit (.int .u8 0)], .agg [.lit (.int .u8 0), .lit (.int .u8 0)], .agg [.lit (.int .u8 0), .lit (.int .u8 0)], .agg [.lit (.int .u8 0), .lit (.int .u8 0)]]
/-- One of Go's own tables, pinned by name: the form's constant. -/
def laid_unicode_CaseRanges : DataW Unit := Go.Pinned.caseRanges
/-- One of Go's own tables, pinned by name: the form's constant. -/
def laid_unicode_utf8_first : DataW Unit := Go.Pinned.utf8First
def laid_soroban_whole_types {H : Type} : DataW H := .agg [.agg [.agg [.lit (.int .i64 0), .lit (.bool false)], .lit (.int .i64 31)], .agg [.agg [.lit (.int .i64 0), .lit (.bool true)], .lit (.int .i64 32)], .agg [.agg [.lit (.int .i64 1), .lit (.bool false)], .lit (.int .i64 63)], .agg [.agg [.lit (.int .i64 1), .lit (.bool true)], .lit (.int .i64 64)], .agg [.agg [.lit (.int .i64 2), .lit (.bool false)], .lit (.int .i64 63)], .agg [.agg [.lit (.int .i64 2), .lit (.bool true)], .lit (.int .i64 64)]]

/-- 'sorobanlaw02.WholeDivides': WHATEVER THE INPUT: true; the input reads as it did. -/
def wholeDividesSpec : ChangeSpec := { name := "wholeDivides", fn := fun _ => fun
  | [d1, d2, d3] => { results := [.lit (.bool true)], args := [d1, d2, d3] }
  | _ => none }
def wholeDividesRow : OpenClaim := { program := "ytjohcjagbodicaagreatdoor", sum := "29bc932a3f58fc55f40fe41e8bbe8c21383f4f38040ea0e448dc644cad7fd6b9", func := "soroban/sorobanlaw02.WholeDivides", spec := "wholeDivides", inPlace := ["internal/abi.NoEscape", "internal/bytealg.MakeNoZero"], unfollowed := true, recurses := true, named := ["unicode/utf8.first", "unicode/utf8.acceptRanges", "unicode.CaseRanges"], apart := false, laid := [("unicode/utf8.acceptRanges", laid_unicode_utf8_acceptRanges), ("unicode.CaseRanges", laid_unicode_CaseRanges), ("unicode/utf8.first", laid_unicode_utf8_first)] }
def WholeDividesSaid : Prop := wholeDividesRow.holds Tryz.pinned (OpenSpec.ofChange wholeDividesSpec)

/-- ITS FALSE NEIGHBOUR: 'it returns false'. Refute it at one input. -/
def wholeDividesWrong : ChangeSpec := { name := "wholeDivides", fn := fun _ => fun
  | [d1, d2, d3] => { results := [.lit (.bool false)], args := [d1, d2, d3] }
  | _ => none }
def WholeDividesWrongFalsely : Prop := wholeDividesRow.holds Tryz.pinned (OpenSpec.ofChange wholeDividesWrong)

/-- 'sorobanlaw02.WholeDivisors': WHATEVER THE INPUT: true; the input reads as it did. -/
def wholeDivisorsSpec : ChangeSpec := { name := "wholeDivisors", fn := fun _ => fun
  | [d1, d2] => { results := [.lit (.bool true)], args := [d1, d2] }
  | _ => none }
def wholeDivisorsRow : OpenClaim := { program := "ytjohcjagbodicaagreatdoor", sum := "29bc932a3f58fc55f40fe41e8bbe8c21383f4f38040ea0e448dc644cad7fd6b9", func := "soroban/sorobanlaw02.WholeDivisors", spec := "wholeDivisors", inPlace := ["internal/abi.NoEscape", "internal/bytealg.MakeNoZero"], unfollowed := true, recurses := true, named := ["unicode/utf8.first", "unicode/utf8.acceptRanges", "unicode.CaseRanges"], apart := false, laid := [("unicode/utf8.acceptRanges", laid_unicode_utf8_acceptRanges), ("unicode.CaseRanges", laid_unicode_CaseRanges), ("unicode/utf8.first", laid_unicode_utf8_first)] }
def WholeDivisorsSaid : Prop := wholeDivisorsRow.holds Tryz.pinned (OpenSpec.ofChange wholeDivisorsSpec)

/-- ITS FALSE NEIGHBOUR: 'it returns false'. Refute it at one input. -/
def wholeDivisorsWrong : ChangeSpec := { name := "wholeDivisors", fn := fun _ => fun
  | [d1, d2] => { results := [.lit (.bool false)], args := [d1, d2] }
  | _ => none }
def WholeDivisorsWrongFalsely : Prop := wholeDivisorsRow.holds Tryz.pinned (OpenSpec.ofChange wholeDivisorsWrong)

/-- 'sorobanlaw02.WholeSums': WHATEVER THE INPUT: true; the input reads as it did. -/
def wholeSumsSpec : ChangeSpec := { name := "wholeSums", fn := fun _ => fun
  | [d1, d2] => { results := [.lit (.bool true)], args := [d1, d2] }
  | _ => none }
def wholeSumsRow : OpenClaim := { program := "ytjohcjagbodicaagreatdoor", sum := "29bc932a3f58fc55f40fe41e8bbe8c21383f4f38040ea0e448dc644cad7fd6b9", func := "soroban/sorobanlaw02.WholeSums", spec := "wholeSums", inPlace := ["internal/abi.NoEscape", "internal/bytealg.MakeNoZero"], unfollowed := true, recurses := true, named := ["unicode/utf8.first", "unicode/utf8.acceptRanges", "unicode.CaseRanges"], apart := false, laid := [("unicode/utf8.acceptRanges", laid_unicode_utf8_acceptRanges), ("unicode.CaseRanges", laid_unicode_CaseRanges), ("unicode/utf8.first", laid_unicode_utf8_first)] }
def WholeSumsSaid : Prop := wholeSumsRow.holds Tryz.pinned (OpenSpec.ofChange wholeSumsSpec)

/-- ITS FALSE NEIGHBOUR: 'it returns false'. Refute it at one input. -/
def wholeSumsWrong : ChangeSpec := { name := "wholeSums", fn := fun _ => fun
  | [d1, d2] => { results := [.lit (.bool false)], args := [d1, d2] }
  | _ => none }
def WholeSumsWrongFalsely : Prop := wholeSumsRow.holds Tryz.pinned (OpenSpec.ofChange wholeSumsWrong)

/-- 'sorobanlaw02.WholeDivision': WHATEVER THE INPUT: true; the input reads as it did. -/
def wholeDivisionSpec : ChangeSpec := { name := "wholeDivision", fn := fun _ => fun
  | [d1, d2] => { results := [.lit (.bool true)], args := [d1, d2] }
  | _ => none }
def wholeDivisionRow : OpenClaim := { program := "ytjohcjagbodicaagreatdoor", sum := "29bc932a3f58fc55f40fe41e8bbe8c21383f4f38040ea0e448dc644cad7fd6b9", func := "soroban/sorobanlaw02.WholeDivision", spec := "wholeDivision", inPlace := ["internal/abi.NoEscape", "internal/bytealg.MakeNoZero"], unfollowed := true, recurses := true, named := ["unicode/utf8.first", "unicode/utf8.acceptRanges", "unicode.CaseRanges"], apart := false, laid := [("unicode/utf8.acceptRanges", laid_unicode_utf8_acceptRanges), ("unicode.CaseRanges", laid_unicode_CaseRanges), ("unicode/utf8.first", laid_unicode_utf8_first)] }
def WholeDivisionSaid : Prop := wholeDivisionRow.holds Tryz.pinned (OpenSpec.ofChange wholeDivisionSpec)

/-- ITS FALSE NEIGHBOUR: 'it returns false'. Refute it at one input. -/
def wholeDivisionWrong : ChangeSpec := { name := "wholeDivision", fn := fun _ => fun
  | [d1, d2] => { results := [.lit (.bool false)], args := [d1, d2] }
  | _ => none }
def WholeDivisionWrongFalsely : Prop := wholeDivisionRow.holds Tryz.pinned (OpenSpec.ofChange wholeDivisionWrong)

/-- 'sorobanlaw02.WholeCommon': WHATEVER THE INPUT: true; the input reads as it did. -/
def wholeCommonSpec : ChangeSpec := { name := "wholeCommon", fn := fun _ => fun
  | [d1, d2, d3] => { results := [.lit (.bool true)], args := [d1, d2, d3] }
  | _ => none }
def wholeCommonRow : OpenClaim := { program := "ytjohcjagbodicaagreatdoor", sum := "29bc932a3f58fc55f40fe41e8bbe8c21383f4f38040ea0e448dc644cad7fd6b9", func := "soroban/sorobanlaw02.WholeCommon", spec := "wholeCommon", inPlace := ["internal/abi.NoEscape", "internal/bytealg.MakeNoZero"], unfollowed := true, recurses := true, named := ["unicode/utf8.first", "unicode/utf8.acceptRanges", "unicode.CaseRanges"], apart := false, laid := [("unicode/utf8.acceptRanges", laid_unicode_utf8_acceptRanges), ("unicode.CaseRanges", laid_unicode_CaseRanges), ("unicode/utf8.first", laid_unicode_utf8_first)] }
def WholeCommonSaid : Prop := wholeCommonRow.holds Tryz.pinned (OpenSpec.ofChange wholeCommonSpec)

/-- ITS FALSE NEIGHBOUR: 'it returns false'. Refute it at one input. -/
def wholeCommonWrong : ChangeSpec := { name := "wholeCommon", fn := fun _ => fun
  | [d1, d2, d3] => { results := [.lit (.bool false)], args := [d1, d2, d3] }
  | _ => none }
def WholeCommonWrongFalsely : Prop := wholeCommonRow.holds Tryz.pinned (OpenSpec.ofChange wholeCommonWrong)

/-- 'sorobanlaw02.WholeRing': WHATEVER THE INPUT: true; the input reads as it did. -/
def wholeRingSpec : ChangeSpec := { name := "wholeRing", fn := fun _ => fun
  | [d1, d2, d3] => { results := [.lit (.bool true)], args := [d1, d2, d3] }
  | _ => none }
def wholeRingRow : OpenClaim := { program := "ytjohcjagbodicaagreatdoor", sum := "29bc932a3f58fc55f40fe41e8bbe8c21383f4f38040ea0e448dc644cad7fd6b9", func := "soroban/sorobanlaw02.WholeRing", spec := "wholeRing", inPlace := ["internal/abi.NoEscape", "internal/bytealg.MakeNoZero"], unfollowed := true, recurses := true, named := ["unicode/utf8.first", "unicode/utf8.acceptRanges", "unicode.CaseRanges"], apart := false, laid := [("unicode/utf8.acceptRanges", laid_unicode_utf8_acceptRanges), ("unicode.CaseRanges", laid_unicode_CaseRanges), ("unicode/utf8.first", laid_unicode_utf8_first)] }
def WholeRingSaid : Prop := wholeRingRow.holds Tryz.pinned (OpenSpec.ofChange wholeRingSpec)

/-- ITS FALSE NEIGHBOUR: 'it returns false'. Refute it at one input. -/
def wholeRingWrong : ChangeSpec := { name := "wholeRing", fn := fun _ => fun
  | [d1, d2, d3] => { results := [.lit (.bool false)], args := [d1, d2, d3] }
  | _ => none }
def WholeRingWrongFalsely : Prop := wholeRingRow.holds Tryz.pinned (OpenSpec.ofChange wholeRingWrong)

/-- 'sorobanlaw02.WholeForms': WHATEVER THE INPUT: true; the input reads as it did. -/
def wholeFormsSpec : ChangeSpec := { name := "wholeForms", fn := fun _ => fun
  | [d1, d2, d3] => { results := [.lit (.bool true)], args := [d1, d2, d3] }
  | _ => none }
def wholeFormsRow : OpenClaim := { program := "ytjohcjagbodicaagreatdoor", sum := "29bc932a3f58fc55f40fe41e8bbe8c21383f4f38040ea0e448dc644cad7fd6b9", func := "soroban/sorobanlaw02.WholeForms", spec := "wholeForms", inPlace := ["internal/abi.NoEscape", "internal/bytealg.MakeNoZero"], unfollowed := true, recurses := true, named := ["unicode/utf8.first", "unicode/utf8.acceptRanges", "unicode.CaseRanges"], apart := false, laid := [("unicode/utf8.acceptRanges", laid_unicode_utf8_acceptRanges), ("unicode.CaseRanges", laid_unicode_CaseRanges), ("unicode/utf8.first", laid_unicode_utf8_first)] }
def WholeFormsSaid : Prop := wholeFormsRow.holds Tryz.pinned (OpenSpec.ofChange wholeFormsSpec)

/-- ITS FALSE NEIGHBOUR: 'it returns false'. Refute it at one input. -/
def wholeFormsWrong : ChangeSpec := { name := "wholeForms", fn := fun _ => fun
  | [d1, d2, d3] => { results := [.lit (.bool false)], args := [d1, d2, d3] }
  | _ => none }
def WholeFormsWrongFalsely : Prop := wholeFormsRow.holds Tryz.pinned (OpenSpec.ofChange wholeFormsWrong)

/-- 'sorobanlaw02.WholeWraps': WHATEVER THE INPUT: true; the input reads as it did. -/
def wholeWrapsSpec : ChangeSpec := { name := "wholeWraps", fn := fun _ => fun
  | [d1, d2, d3, d4] => { results := [.lit (.bool true)], args := [d1, d2, d3, d4] }
  | _ => none }
def wholeWrapsRow : OpenClaim := { program := "ytjohcjagbodicaagreatdoor", sum := "29bc932a3f58fc55f40fe41e8bbe8c21383f4f38040ea0e448dc644cad7fd6b9", func := "soroban/sorobanlaw02.WholeWraps", spec := "wholeWraps", inPlace := ["internal/abi.NoEscape", "internal/bytealg.MakeNoZero"], unfollowed := true, recurses := true, named := ["unicode/utf8.first", "unicode/utf8.acceptRanges", "unicode.CaseRanges"], apart := false, laid := [("unicode/utf8.acceptRanges", laid_unicode_utf8_acceptRanges), ("unicode.CaseRanges", laid_unicode_CaseRanges), ("unicode/utf8.first", laid_unicode_utf8_first)] }
def WholeWrapsSaid : Prop := wholeWrapsRow.holds Tryz.pinned (OpenSpec.ofChange wholeWrapsSpec)

/-- ITS FALSE NEIGHBOUR: 'it returns false'. Refute it at one input. -/
def wholeWrapsWrong : ChangeSpec := { name := "wholeWraps", fn := fun _ => fun
  | [d1, d2, d3, d4] => { results := [.lit (.bool false)], args := [d1, d2, d3, d4] }
  | _ => none }
def WholeWrapsWrongFalsely : Prop := wholeWrapsRow.holds Tryz.pinned (OpenSpec.ofChange wholeWrapsWrong)

/-- 'sorobanlaw02.WholeTexts': WHATEVER THE INPUT: true; the input reads as it did. -/
def wholeTextsSpec : ChangeSpec := { name := "wholeTexts", fn := fun _ => fun
  | [d1, d2, d3, d4] => { results := [.lit (.bool true)], args := [d1, d2, d3, d4] }
  | _ => none }
def wholeTextsRow : OpenClaim := { program := "ytjohcjagbodicaagreatdoor", sum := "29bc932a3f58fc55f40fe41e8bbe8c21383f4f38040ea0e448dc644cad7fd6b9", func := "soroban/sorobanlaw02.WholeTexts", spec := "wholeTexts", inPlace := ["internal/abi.NoEscape", "internal/bytealg.MakeNoZero", "internal/bytealg.IndexByteString"], unfollowed := true, recurses := true, named := ["unicode/utf8.first", "unicode/utf8.acceptRanges", "unicode.CaseRanges"], apart := false, laid := [("unicode/utf8.acceptRanges", laid_unicode_utf8_acceptRanges), ("unicode.CaseRanges", laid_unicode_CaseRanges), ("unicode/utf8.first", laid_unicode_utf8_first)] }
def WholeTextsSaid : Prop := wholeTextsRow.holds Tryz.pinned (OpenSpec.ofChange wholeTextsSpec)

/-- ITS FALSE NEIGHBOUR: 'it returns false'. Refute it at one input. -/
def wholeTextsWrong : ChangeSpec := { name := "wholeTexts", fn := fun _ => fun
  | [d1, d2, d3, d4] => { results := [.lit (.bool false)], args := [d1, d2, d3, d4] }
  | _ => none }
def WholeTextsWrongFalsely : Prop := wholeTextsRow.holds Tryz.pinned (OpenSpec.ofChange wholeTextsWrong)

/-- 'sorobanlaw02.WholeBack': WHATEVER THE INPUT: true; the input reads as it did. -/
def wholeBackSpec : ChangeSpec := { name := "wholeBack", fn := fun _ => fun
  | [d1, d2, d3] => { results := [.lit (.bool true)], args := [d1, d2, d3] }
  | _ => none }
def wholeBackRow : OpenClaim := { program := "ytjohcjagbodicaagreatdoor", sum := "29bc932a3f58fc55f40fe41e8bbe8c21383f4f38040ea0e448dc644cad7fd6b9", func := "soroban/sorobanlaw02.WholeBack", spec := "wholeBack", inPlace := ["internal/abi.NoEscape", "internal/bytealg.MakeNoZero", "internal/bytealg.IndexByteString"], unfollowed := true, recurses := true, named := ["unicode/utf8.first", "unicode/utf8.acceptRanges", "unicode.CaseRanges"], apart := false, laid := [("unicode/utf8.acceptRanges", laid_unicode_utf8_acceptRanges), ("unicode.CaseRanges", laid_unicode_CaseRanges), ("unicode/utf8.first", laid_unicode_utf8_first)] }
def WholeBackSaid : Prop := wholeBackRow.holds Tryz.pinned (OpenSpec.ofChange wholeBackSpec)

/-- ITS FALSE NEIGHBOUR: 'it returns false'. Refute it at one input. -/
def wholeBackWrong : ChangeSpec := { name := "wholeBack", fn := fun _ => fun
  | [d1, d2, d3] => { results := [.lit (.bool false)], args := [d1, d2, d3] }
  | _ => none }
def WholeBackWrongFalsely : Prop := wholeBackRow.holds Tryz.pinned (OpenSpec.ofChange wholeBackWrong)

/-- 'sorobanlaw02.WholePowers': WHATEVER THE INPUT: true; the input reads as it did. -/
def wholePowersSpec : ChangeSpec := { name := "wholePowers", fn := fun _ => fun
  | [d1, d2, d3, d4] => { results := [.lit (.bool true)], args := [d1, d2, d3, d4] }
  | _ => none }
def wholePowersRow : OpenClaim := { program := "ytjohcjagbodicaagreatdoor", sum := "29bc932a3f58fc55f40fe41e8bbe8c21383f4f38040ea0e448dc644cad7fd6b9", func := "soroban/sorobanlaw02.WholePowers", spec := "wholePowers", inPlace := ["internal/abi.NoEscape", "internal/bytealg.MakeNoZero"], unfollowed := true, recurses := true, named := ["unicode/utf8.first", "unicode/utf8.acceptRanges", "unicode.CaseRanges"], apart := false, laid := [("unicode/utf8.acceptRanges", laid_unicode_utf8_acceptRanges), ("unicode.CaseRanges", laid_unicode_CaseRanges), ("unicode/utf8.first", laid_unicode_utf8_first)] }
def WholePowersSaid : Prop := wholePowersRow.holds Tryz.pinned (OpenSpec.ofChange wholePowersSpec)

/-- ITS FALSE NEIGHBOUR: 'it returns false'. Refute it at one input. -/
def wholePowersWrong : ChangeSpec := { name := "wholePowers", fn := fun _ => fun
  | [d1, d2, d3, d4] => { results := [.lit (.bool false)], args := [d1, d2, d3, d4] }
  | _ => none }
def WholePowersWrongFalsely : Prop := wholePowersRow.holds Tryz.pinned (OpenSpec.ofChange wholePowersWrong)

/-- 'sorobanlaw02.WholeFermat': WHATEVER THE INPUT: true; the input reads as it did. -/
def wholeFermatSpec : ChangeSpec := { name := "wholeFermat", fn := fun _ => fun
  | [d1, d2, d3, d4, d5] => { results := [.lit (.bool true)], args := [d1, d2, d3, d4, d5] }
  | _ => none }
def wholeFermatRow : OpenClaim := { program := "ytjohcjagbodicaagreatdoor", sum := "29bc932a3f58fc55f40fe41e8bbe8c21383f4f38040ea0e448dc644cad7fd6b9", func := "soroban/sorobanlaw02.WholeFermat", spec := "wholeFermat", inPlace := ["internal/abi.NoEscape", "internal/bytealg.MakeNoZero"], unfollowed := true, recurses := true, named := ["unicode/utf8.first", "unicode/utf8.acceptRanges", "unicode.CaseRanges"], apart := false, laid := [("unicode/utf8.acceptRanges", laid_unicode_utf8_acceptRanges), ("unicode.CaseRanges", laid_unicode_CaseRanges), ("unicode/utf8.first", laid_unicode_utf8_first)] }
def WholeFermatSaid : Prop := wholeFermatRow.holds Tryz.pinned (OpenSpec.ofChange wholeFermatSpec)

/-- ITS FALSE NEIGHBOUR: 'it returns false'. Refute it at one input. -/
def wholeFermatWrong : ChangeSpec := { name := "wholeFermat", fn := fun _ => fun
  | [d1, d2, d3, d4, d5] => { results := [.lit (.bool false)], args := [d1, d2, d3, d4, d5] }
  | _ => none }
def WholeFermatWrongFalsely : Prop := wholeFermatRow.holds Tryz.pinned (OpenSpec.ofChange wholeFermatWrong)

/-- 'sorobanlaw02.WholeBits': WHATEVER THE INPUT: true; the input reads as it did. -/
def wholeBitsSpec : ChangeSpec := { name := "wholeBits", fn := fun _ => fun
  | [d1, d2, d3, d4, d5, d6] => { results := [.lit (.bool true)], args := [d1, d2, d3, d4, d5, d6] }
  | _ => none }
def wholeBitsRow : OpenClaim := { program := "ytjohcjagbodicaagreatdoor", sum := "29bc932a3f58fc55f40fe41e8bbe8c21383f4f38040ea0e448dc644cad7fd6b9", func := "soroban/sorobanlaw02.WholeBits", spec := "wholeBits", inPlace := ["internal/abi.NoEscape", "internal/bytealg.MakeNoZero"], unfollowed := true, recurses := true, named := ["unicode/utf8.first", "unicode/utf8.acceptRanges", "unicode.CaseRanges"], apart := false, laid := [("unicode/utf8.acceptRanges", laid_unicode_utf8_acceptRanges), ("unicode.CaseRanges", laid_unicode_CaseRanges), ("unicode/utf8.first", laid_unicode_utf8_first)] }
def WholeBitsSaid : Prop := wholeBitsRow.holds Tryz.pinned (OpenSpec.ofChange wholeBitsSpec)

/-- ITS FALSE NEIGHBOUR: 'it returns false'. Refute it at one input. -/
def wholeBitsWrong : ChangeSpec := { name := "wholeBits", fn := fun _ => fun
  | [d1, d2, d3, d4, d5, d6] => { results := [.lit (.bool false)], args := [d1, d2, d3, d4, d5, d6] }
  | _ => none }
def WholeBitsWrongFalsely : Prop := wholeBitsRow.holds Tryz.pinned (OpenSpec.ofChange wholeBitsWrong)

/-- 'sorobanlaw02.WholeTwos': WHATEVER THE INPUT: true; the input reads as it did. -/
def wholeTwosSpec : ChangeSpec := { name := "wholeTwos", fn := fun _ => fun
  | [d1, d2, d3] => { results := [.lit (.bool true)], args := [d1, d2, d3] }
  | _ => none }
def wholeTwosRow : OpenClaim := { program := "ytjohcjagbodicaagreatdoor", sum := "29bc932a3f58fc55f40fe41e8bbe8c21383f4f38040ea0e448dc644cad7fd6b9", func := "soroban/sorobanlaw02.WholeTwos", spec := "wholeTwos", inPlace := ["internal/abi.NoEscape", "internal/bytealg.MakeNoZero"], unfollowed := true, recurses := true, named := ["unicode/utf8.first", "unicode/utf8.acceptRanges", "unicode.CaseRanges"], apart := false, laid := [("unicode/utf8.acceptRanges", laid_unicode_utf8_acceptRanges), ("unicode.CaseRanges", laid_unicode_CaseRanges), ("unicode/utf8.first", laid_unicode_utf8_first)] }
def WholeTwosSaid : Prop := wholeTwosRow.holds Tryz.pinned (OpenSpec.ofChange wholeTwosSpec)

/-- ITS FALSE NEIGHBOUR: 'it returns false'. Refute it at one input. -/
def wholeTwosWrong : ChangeSpec := { name := "wholeTwos", fn := fun _ => fun
  | [d1, d2, d3] => { results := [.lit (.bool false)], args := [d1, d2, d3] }
  | _ => none }
def WholeTwosWrongFalsely : Prop := wholeTwosRow.holds Tryz.pinned (OpenSpec.ofChange wholeTwosWrong)

/-- 'sorobanlaw02.WholeConstants': WHATEVER THE INPUT: true; the input reads as it did. -/
def wholeConstantsSpec : ChangeSpec := { name := "wholeConstants", fn := fun _ => fun
  | [d1, d2] => { results := [.lit (.bool true)], args := [d1, d2] }
  | _ => none }
def wholeConstantsRow : OpenClaim := { program := "ytjohcjagbodicaagreatdoor", sum := "29bc932a3f58fc55f40fe41e8bbe8c21383f4f38040ea0e448dc644cad7fd6b9", func := "soroban/sorobanlaw02.WholeConstants", spec := "wholeConstants", inPlace := ["internal/abi.NoEscape", "internal/bytealg.MakeNoZero", "internal/bytealg.IndexByteString"], unfollowed := true, recurses := true, named := ["unicode/utf8.first", "unicode/utf8.acceptRanges", "unicode.CaseRanges", "soroban/whole.types"], apart := false, laid := [("unicode/utf8.acceptRanges", laid_unicode_utf8_acceptRanges), ("soroban/whole.types", laid_soroban_whole_types), ("unicode.CaseRanges", laid_unicode_CaseRanges), ("unicode/utf8.first", laid_unicode_utf8_first)] }
def WholeConstantsSaid : Prop := wholeConstantsRow.holds Tryz.pinned (OpenSpec.ofChange wholeConstantsSpec)

/-- ITS FALSE NEIGHBOUR: 'it returns false'. Refute it at one input. -/
def wholeConstantsWrong : ChangeSpec := { name := "wholeConstants", fn := fun _ => fun
  | [d1, d2] => { results := [.lit (.bool false)], args := [d1, d2] }
  | _ => none }
def WholeConstantsWrongFalsely : Prop := wholeConstantsRow.holds Tryz.pinned (OpenSpec.ofChange wholeConstantsWrong)

/- THE SECOND FORM. 'bulk': how many values and letters a reading holds, each counted each time it is reached (what is shared counts as often as it is met; a slice's spare places count too). A statement '..UptoSaid' is the law's where the arguments, and the package variables that the reading takes, are together of bulk at most 1048576: NARROWER than '..Said'. Prove '..Said' where nothing that the law and all that it calls make is longer than what came in: it says more and counts as full. Else prove '..UptoSaid'. A law counts once. -/
mutual
def uptoBulk {H : Type} : DataW H → Nat
  | .lit (.string bytes) => bytes.length + 1
  | .lit _ => 1
  | .nil => 1
  | .ptr d => uptoBulk d + 1
  | .slice elems spare => uptoBulkAll elems + uptoBulkAll spare + 1
  | .agg parts => uptoBulkAll parts + 1
  | .iface _ d => uptoBulk d + 1
  | .map entries => uptoBulkEntries entries + 1
  | .held _ => 1
def uptoBulkAll {H : Type} : List (DataW H) → Nat
  | [] => 0
  | d :: r => uptoBulk d + uptoBulkAll r
def uptoBulkEntries {H : Type} : List (Lit × DataW H) → Nat
  | [] => 0
  | x :: r => uptoBulkEntry x + uptoBulkEntries r
def uptoBulkEntry {H : Type} : Lit × DataW H → Nat
  | (.string bytes, d) => bytes.length + uptoBulk d + 1
  | (_, d) => uptoBulk d + 1
 end
def uptoSmall : (H : Type) → List (DataW H) → Bool := fun _ ds => decide (uptoBulkAll ds ≤ 1048576)
def OpenSpec.upto (s : _root_.Go.ChangeSpec) : _root_.Go.OpenSpec := { _root_.Go.OpenSpec.ofChange s with cond := some uptoSmall }

/-- 'sorobanlaw02.WholeDivides', WHERE WHAT IT READS IS OF BULK AT MOST 1048576: true; the input reads as it did. -/
def wholeDividesUptoRow : OpenClaim := { program := "ytjohcjagbodicaagreatdoor", sum := "29bc932a3f58fc55f40fe41e8bbe8c21383f4f38040ea0e448dc644cad7fd6b9", func := "soroban/sorobanlaw02.WholeDivides", spec := "wholeDivides", inPlace := ["internal/abi.NoEscape", "internal/bytealg.MakeNoZero"], unfollowed := true, recurses := true, named := ["unicode/utf8.first", "unicode/utf8.acceptRanges", "unicode.CaseRanges"], apart := false, laid := [("unicode/utf8.acceptRanges", laid_unicode_utf8_acceptRanges), ("unicode.CaseRanges", laid_unicode_CaseRanges), ("unicode/utf8.first", laid_unicode_utf8_first)], narrowed := true }
def WholeDividesUptoSaid : Prop := wholeDividesUptoRow.holds Tryz.pinned (OpenSpec.upto wholeDividesSpec)

/-- 'sorobanlaw02.WholeDivisors', WHERE WHAT IT READS IS OF BULK AT MOST 1048576: true; the input reads as it did. -/
def wholeDivisorsUptoRow : OpenClaim := { program := "ytjohcjagbodicaagreatdoor", sum := "29bc932a3f58fc55f40fe41e8bbe8c21383f4f38040ea0e448dc644cad7fd6b9", func := "soroban/sorobanlaw02.WholeDivisors", spec := "wholeDivisors", inPlace := ["internal/abi.NoEscape", "internal/bytealg.MakeNoZero"], unfollowed := true, recurses := true, named := ["unicode/utf8.first", "unicode/utf8.acceptRanges", "unicode.CaseRanges"], apart := false, laid := [("unicode/utf8.acceptRanges", laid_unicode_utf8_acceptRanges), ("unicode.CaseRanges", laid_unicode_CaseRanges), ("unicode/utf8.first", laid_unicode_utf8_first)], narrowed := true }
def WholeDivisorsUptoSaid : Prop := wholeDivisorsUptoRow.holds Tryz.pinned (OpenSpec.upto wholeDivisorsSpec)

/-- 'sorobanlaw02.WholeSums', WHERE WHAT IT READS IS OF BULK AT MOST 1048576: true; the input reads as it did. -/
def wholeSumsUptoRow : OpenClaim := { program := "ytjohcjagbodicaagreatdoor", sum := "29bc932a3f58fc55f40fe41e8bbe8c21383f4f38040ea0e448dc644cad7fd6b9", func := "soroban/sorobanlaw02.WholeSums", spec := "wholeSums", inPlace := ["internal/abi.NoEscape", "internal/bytealg.MakeNoZero"], unfollowed := true, recurses := true, named := ["unicode/utf8.first", "unicode/utf8.acceptRanges", "unicode.CaseRanges"], apart := false, laid := [("unicode/utf8.acceptRanges", laid_unicode_utf8_acceptRanges), ("unicode.CaseRanges", laid_unicode_CaseRanges), ("unicode/utf8.first", laid_unicode_utf8_first)], narrowed := true }
def WholeSumsUptoSaid : Prop := wholeSumsUptoRow.holds Tryz.pinned (OpenSpec.upto wholeSumsSpec)

/-- 'sorobanlaw02.WholeDivision', WHERE WHAT IT READS IS OF BULK AT MOST 1048576: true; the input reads as it did. -/
def wholeDivisionUptoRow : OpenClaim := { program := "ytjohcjagbodicaagreatdoor", sum := "29bc932a3f58fc55f40fe41e8bbe8c21383f4f38040ea0e448dc644cad7fd6b9", func := "soroban/sorobanlaw02.WholeDivision", spec := "wholeDivision", inPlace := ["internal/abi.NoEscape", "internal/bytealg.MakeNoZero"], unfollowed := true, recurses := true, named := ["unicode/utf8.first", "unicode/utf8.acceptRanges", "unicode.CaseRanges"], apart := false, laid := [("unicode/utf8.acceptRanges", laid_unicode_utf8_acceptRanges), ("unicode.CaseRanges", laid_unicode_CaseRanges), ("unicode/utf8.first", laid_unicode_utf8_first)], narrowed := true }
def WholeDivisionUptoSaid : Prop := wholeDivisionUptoRow.holds Tryz.pinned (OpenSpec.upto wholeDivisionSpec)

/-- 'sorobanlaw02.WholeCommon', WHERE WHAT IT READS IS OF BULK AT MOST 1048576: true; the input reads as it did. -/
def wholeCommonUptoRow : OpenClaim := { program := "ytjohcjagbodicaagreatdoor", sum := "29bc932a3f58fc55f40fe41e8bbe8c21383f4f38040ea0e448dc644cad7fd6b9", func := "soroban/sorobanlaw02.WholeCommon", spec := "wholeCommon", inPlace := ["internal/abi.NoEscape", "internal/bytealg.MakeNoZero"], unfollowed := true, recurses := true, named := ["unicode/utf8.first", "unicode/utf8.acceptRanges", "unicode.CaseRanges"], apart := false, laid := [("unicode/utf8.acceptRanges", laid_unicode_utf8_acceptRanges), ("unicode.CaseRanges", laid_unicode_CaseRanges), ("unicode/utf8.first", laid_unicode_utf8_first)], narrowed := true }
def WholeCommonUptoSaid : Prop := wholeCommonUptoRow.holds Tryz.pinned (OpenSpec.upto wholeCommonSpec)

/-- 'sorobanlaw02.WholeRing', WHERE WHAT IT READS IS OF BULK AT MOST 1048576: true; the input reads as it did. -/
def wholeRingUptoRow : OpenClaim := { program := "ytjohcjagbodicaagreatdoor", sum := "29bc932a3f58fc55f40fe41e8bbe8c21383f4f38040ea0e448dc644cad7fd6b9", func := "soroban/sorobanlaw02.WholeRing", spec := "wholeRing", inPlace := ["internal/abi.NoEscape", "internal/bytealg.MakeNoZero"], unfollowed := true, recurses := true, named := ["unicode/utf8.first", "unicode/utf8.acceptRanges", "unicode.CaseRanges"], apart := false, laid := [("unicode/utf8.acceptRanges", laid_unicode_utf8_acceptRanges), ("unicode.CaseRanges", laid_unicode_CaseRanges), ("unicode/utf8.first", laid_unicode_utf8_first)], narrowed := true }
def WholeRingUptoSaid : Prop := wholeRingUptoRow.holds Tryz.pinned (OpenSpec.upto wholeRingSpec)

/-- 'sorobanlaw02.WholeForms', WHERE WHAT IT READS IS OF BULK AT MOST 1048576: true; the input reads as it did. -/
def wholeFormsUptoRow : OpenClaim := { program := "ytjohcjagbodicaagreatdoor", sum := "29bc932a3f58fc55f40fe41e8bbe8c21383f4f38040ea0e448dc644cad7fd6b9", func := "soroban/sorobanlaw02.WholeForms", spec := "wholeForms", inPlace := ["internal/abi.NoEscape", "internal/bytealg.MakeNoZero"], unfollowed := true, recurses := true, named := ["unicode/utf8.first", "unicode/utf8.acceptRanges", "unicode.CaseRanges"], apart := false, laid := [("unicode/utf8.acceptRanges", laid_unicode_utf8_acceptRanges), ("unicode.CaseRanges", laid_unicode_CaseRanges), ("unicode/utf8.first", laid_unicode_utf8_first)], narrowed := true }
def WholeFormsUptoSaid : Prop := wholeFormsUptoRow.holds Tryz.pinned (OpenSpec.upto wholeFormsSpec)

/-- 'sorobanlaw02.WholeWraps', WHERE WHAT IT READS IS OF BULK AT MOST 1048576: true; the input reads as it did. -/
def wholeWrapsUptoRow : OpenClaim := { program := "ytjohcjagbodicaagreatdoor", sum := "29bc932a3f58fc55f40fe41e8bbe8c21383f4f38040ea0e448dc644cad7fd6b9", func := "soroban/sorobanlaw02.WholeWraps", spec := "wholeWraps", inPlace := ["internal/abi.NoEscape", "internal/bytealg.MakeNoZero"], unfollowed := true, recurses := true, named := ["unicode/utf8.first", "unicode/utf8.acceptRanges", "unicode.CaseRanges"], apart := false, laid := [("unicode/utf8.acceptRanges", laid_unicode_utf8_acceptRanges), ("unicode.CaseRanges", laid_unicode_CaseRanges), ("unicode/utf8.first", laid_unicode_utf8_first)], narrowed := true }
def WholeWrapsUptoSaid : Prop := wholeWrapsUptoRow.holds Tryz.pinned (OpenSpec.upto wholeWrapsSpec)

/-- 'sorobanlaw02.WholeTexts', WHERE WHAT IT READS IS OF BULK AT MOST 1048576: true; the input reads as it did. -/
def wholeTextsUptoRow : OpenClaim := { program := "ytjohcjagbodicaagreatdoor", sum := "29bc932a3f58fc55f40fe41e8bbe8c21383f4f38040ea0e448dc644cad7fd6b9", func := "soroban/sorobanlaw02.WholeTexts", spec := "wholeTexts", inPlace := ["internal/abi.NoEscape", "internal/bytealg.MakeNoZero", "internal/bytealg.IndexByteString"], unfollowed := true, recurses := true, named := ["unicode/utf8.first", "unicode/utf8.acceptRanges", "unicode.CaseRanges"], apart := false, laid := [("unicode/utf8.acceptRanges", laid_unicode_utf8_acceptRanges), ("unicode.CaseRanges", laid_unicode_CaseRanges), ("unicode/utf8.first", laid_unicode_utf8_first)], narrowed := true }
def WholeTextsUptoSaid : Prop := wholeTextsUptoRow.holds Tryz.pinned (OpenSpec.upto wholeTextsSpec)

/-- 'sorobanlaw02.WholeBack', WHERE WHAT IT READS IS OF BULK AT MOST 1048576: true; the input reads as it did. -/
def wholeBackUptoRow : OpenClaim := { program := "ytjohcjagbodicaagreatdoor", sum := "29bc932a3f58fc55f40fe41e8bbe8c21383f4f38040ea0e448dc644cad7fd6b9", func := "soroban/sorobanlaw02.WholeBack", spec := "wholeBack", inPlace := ["internal/abi.NoEscape", "internal/bytealg.MakeNoZero", "internal/bytealg.IndexByteString"], unfollowed := true, recurses := true, named := ["unicode/utf8.first", "unicode/utf8.acceptRanges", "unicode.CaseRanges"], apart := false, laid := [("unicode/utf8.acceptRanges", laid_unicode_utf8_acceptRanges), ("unicode.CaseRanges", laid_unicode_CaseRanges), ("unicode/utf8.first", laid_unicode_utf8_first)], narrowed := true }
def WholeBackUptoSaid : Prop := wholeBackUptoRow.holds Tryz.pinned (OpenSpec.upto wholeBackSpec)

/-- 'sorobanlaw02.WholePowers', WHERE WHAT IT READS IS OF BULK AT MOST 1048576: true; the input reads as it did. -/
def wholePowersUptoRow : OpenClaim := { program := "ytjohcjagbodicaagreatdoor", sum := "29bc932a3f58fc55f40fe41e8bbe8c21383f4f38040ea0e448dc644cad7fd6b9", func := "soroban/sorobanlaw02.WholePowers", spec := "wholePowers", inPlace := ["internal/abi.NoEscape", "internal/bytealg.MakeNoZero"], unfollowed := true, recurses := true, named := ["unicode/utf8.first", "unicode/utf8.acceptRanges", "unicode.CaseRanges"], apart := false, laid := [("unicode/utf8.acceptRanges", laid_unicode_utf8_acceptRanges), ("unicode.CaseRanges", laid_unicode_CaseRanges), ("unicode/utf8.first", laid_unicode_utf8_first)], narrowed := true }
def WholePowersUptoSaid : Prop := wholePowersUptoRow.holds Tryz.pinned (OpenSpec.upto wholePowersSpec)

/-- 'sorobanlaw02.WholeFermat', WHERE WHAT IT READS IS OF BULK AT MOST 1048576: true; the input reads as it did. -/
def wholeFermatUptoRow : OpenClaim := { program := "ytjohcjagbodicaagreatdoor", sum := "29bc932a3f58fc55f40fe41e8bbe8c21383f4f38040ea0e448dc644cad7fd6b9", func := "soroban/sorobanlaw02.WholeFermat", spec := "wholeFermat", inPlace := ["internal/abi.NoEscape", "internal/bytealg.MakeNoZero"], unfollowed := true, recurses := true, named := ["unicode/utf8.first", "unicode/utf8.acceptRanges", "unicode.CaseRanges"], apart := false, laid := [("unicode/utf8.acceptRanges", laid_unicode_utf8_acceptRanges), ("unicode.CaseRanges", laid_unicode_CaseRanges), ("unicode/utf8.first", laid_unicode_utf8_first)], narrowed := true }
def WholeFermatUptoSaid : Prop := wholeFermatUptoRow.holds Tryz.pinned (OpenSpec.upto wholeFermatSpec)

/-- 'sorobanlaw02.WholeBits', WHERE WHAT IT READS IS OF BULK AT MOST 1048576: true; the input reads as it did. -/
def wholeBitsUptoRow : OpenClaim := { program := "ytjohcjagbodicaagreatdoor", sum := "29bc932a3f58fc55f40fe41e8bbe8c21383f4f38040ea0e448dc644cad7fd6b9", func := "soroban/sorobanlaw02.WholeBits", spec := "wholeBits", inPlace := ["internal/abi.NoEscape", "internal/bytealg.MakeNoZero"], unfollowed := true, recurses := true, named := ["unicode/utf8.first", "unicode/utf8.acceptRanges", "unicode.CaseRanges"], apart := false, laid := [("unicode/utf8.acceptRanges", laid_unicode_utf8_acceptRanges), ("unicode.CaseRanges", laid_unicode_CaseRanges), ("unicode/utf8.first", laid_unicode_utf8_first)], narrowed := true }
def WholeBitsUptoSaid : Prop := wholeBitsUptoRow.holds Tryz.pinned (OpenSpec.upto wholeBitsSpec)

/-- 'sorobanlaw02.WholeTwos', WHERE WHAT IT READS IS OF BULK AT MOST 1048576: true; the input reads as it did. -/
def wholeTwosUptoRow : OpenClaim := { program := "ytjohcjagbodicaagreatdoor", sum := "29bc932a3f58fc55f40fe41e8bbe8c21383f4f38040ea0e448dc644cad7fd6b9", func := "soroban/sorobanlaw02.WholeTwos", spec := "wholeTwos", inPlace := ["internal/abi.NoEscape", "internal/bytealg.MakeNoZero"], unfollowed := true, recurses := true, named := ["unicode/utf8.first", "unicode/utf8.acceptRanges", "unicode.CaseRanges"], apart := false, laid := [("unicode/utf8.acceptRanges", laid_unicode_utf8_acceptRanges), ("unicode.CaseRanges", laid_unicode_CaseRanges), ("unicode/utf8.first", laid_unicode_utf8_first)], narrowed := true }
def WholeTwosUptoSaid : Prop := wholeTwosUptoRow.holds Tryz.pinned (OpenSpec.upto wholeTwosSpec)

/-- 'sorobanlaw02.WholeConstants', WHERE WHAT IT READS IS OF BULK AT MOST 1048576: true; the input reads as it did. -/
def wholeConstantsUptoRow : OpenClaim := { program := "ytjohcjagbodicaagreatdoor", sum := "29bc932a3f58fc55f40fe41e8bbe8c21383f4f38040ea0e448dc644cad7fd6b9", func := "soroban/sorobanlaw02.WholeConstants", spec := "wholeConstants", inPlace := ["internal/abi.NoEscape", "internal/bytealg.MakeNoZero", "internal/bytealg.IndexByteString"], unfollowed := true, recurses := true, named := ["unicode/utf8.first", "unicode/utf8.acceptRanges", "unicode.CaseRanges", "soroban/whole.types"], apart := false, laid := [("unicode/utf8.acceptRanges", laid_unicode_utf8_acceptRanges), ("soroban/whole.types", laid_soroban_whole_types), ("unicode.CaseRanges", laid_unicode_CaseRanges), ("unicode/utf8.first", laid_unicode_utf8_first)], narrowed := true }
def WholeConstantsUptoSaid : Prop := wholeConstantsUptoRow.holds Tryz.pinned (OpenSpec.upto wholeConstantsSpec)

end Rows
end Go.Proofs.YtjohcjagbodicaaGreatDoor
