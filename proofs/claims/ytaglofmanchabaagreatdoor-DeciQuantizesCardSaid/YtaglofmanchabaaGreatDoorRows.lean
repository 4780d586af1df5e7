/-
  NARROWER THAN 'FOR EVERY INPUT', by the rows' own cells (each row's printed sentence says how): DeciSums: laid · DeciProducts: laid · DeciRoots: laid · DeciRests: laid · DeciQuantizes: laid · DeciFused: laid · DeciCohorts: laid · DeciAlgebra: laid · DeciDirections: laid · DeciRounds: laid · DeciLeft: laid · DeciQuanta: laid · DeciShifts: laid · DeciMoves: laid.
  DERIVED. THE GIVEN ROWS OF THIS SEAT. 14 by the template 'for every input the law returns true; each argument reads behind the call as it read before'; 0 by the template 'total and deterministic' (their statements: YtaglofmanchabaaGreatDoorTotals.lean).
  GIVEN WITH THE SEED: the statements are not yours to turn. If you find one false, say at which input.
  Laid BY PROGRAM, IN A SANDBOX (cutbox-rows.mjs): the forced cells as the released guide's own fill.sh prints them over the translation 2cfc4690d87acdc3… (all of the seat's roots in one cut). By AI agents, Wed Nov 11 2026. No macro, syntax, notation, axiom, sorry.
-/
import Derived.Test.YtaglofmanchabaaGreatDoorChecked
import GoSem.PinnedTables
import GoSem.Claim
import GoSem.ClaimJoined
import GoSem.ClaimMapViews
import Derived.JoinedTies
import Derived.KernelRfl
namespace Go.Proofs.YtaglofmanchabaaGreatDoor
/- THE CELL 'sum', in the pinned program and in every row, IS THE sha256 OF THE DUMP (.gsa) THAT YtaglofmanchabaaGreatDoorProg.lean LOADS. Nothing in Lean hashes anything: it is a label: what it is worth is what the hold of that sum in a sandbox is worth. -/
noncomputable def Tryz.pinned : Pinned := { name := "ytaglofmanchabaagreatdoor", sum := "2cfc4690d87acdc32041f9e97bc039ff9dcfafa461f8fa93f1238ada6abe47b6", checked := Tryz.checked }
namespace Rows
def none {H : Type} : Left H := { results := [], args := [] }

/- WHAT THE LISTED PACKAGE-LEVEL VARIABLES READ AS WHEN THE CALL BEGINS. Each datum BY PROGRAM (the guide's laid-datum.mjs) off the statement by which the dump's own 'gosem.cut.vars' lays the variable. In a bare row this is a premise. The card (YtaglofmanchabaaGreatDoorCards.lean) ties it to the program's text. -/
def laid_soroban_decimal_formats {H : Type} : DataW H := .agg [.agg [.lit (.int .i64 7), .lit (.int .i64 (-101)), .lit (.int .i64 90), .lit (.int .i64 6), .lit (.int .i64 20)], .agg [.lit (.int .i64 16), .lit (.int .i64 (-398)), .lit (.int .i64 369), .lit (.int .i64 8), .lit (.int .i64 50)], .agg [.lit (.int .i64 34), .lit (.int .i64 (-6176)), .lit (.int .i64 6111), .lit (.int .i64 12), .lit (.int .i64 110)]]
def laid_math_bits_deBruijn32tab {H : Type} : DataW H := .agg [.lit (.int .u8 0), .lit (.int .u8 1), .lit (.int .u8 28), .lit (.int .u8 2), .lit (.int .u8 29), .lit (.int .u8 14), .lit (.int .u8 24), .lit (.int .u8 3), .lit (.int .u8 30), .lit (.int .u8 22), .lit (.int .u8 20), .lit (.int .u8 15), .lit (.int .u8 25), .lit (.int .u8 17), .lit (.int .u8 4), .lit (.int .u8 8), .lit (.int .u8 31), .lit (.int .u8 27), .lit (.int .u8 13), .lit (.int .u8 23), .lit (.int .u8 21), .lit (.int .u8 19), .lit (.int .u8 16), .lit (.int .u8 7), .lit (.int .u8 26), .lit (.int .u8 12), .lit (.int .u8 18), .lit (.int .u8 6), .lit (.int .u8 11), .lit (.int .u8 5), .lit (.int .u8 10), .lit (.int .u8 9)]
def laid_math_bits_deBruijn64tab {H : Type} : DataW H := .agg [.lit (.int .u8 0), .lit (.int .u8 1), .lit (.int .u8 56), .lit (.int .u8 2), .lit (.int .u8 57), .lit (.int .u8 49), .lit (.int .u8 28), .lit (.int .u8 3), .lit (.int .u8 61), .lit (.int .u8 58), .lit (.int .u8 42), .lit (.int .u8 50), .lit (.int .u8 38), .lit (.int .u8 29), .lit (.int .u8 17), .lit (.int .u8 4), .lit (.int .u8 62), .lit (.int .u8 47), .lit (.int .u8 59), .lit (.int .u8 36), .lit (.int .u8 45), .lit (.int .u8 43), .lit (.int .u8 51), .lit (.int .u8 22), .lit (.int .u8 53), .lit (.int .u8 39), .lit (.int .u8 33), .lit (.int .u8 30), .lit (.int .u8 24), .lit (.int .u8 18), .lit (.int .u8 12), .lit (.int .u8 5), .lit (.int .u8 63), .lit (.int .u8 55), .lit (.int .u8 48), .lit (.int .u8 27), .lit (.int .u8 60), .lit (.int .u8 41), .lit (.int .u8 37), .lit (.int .u8 16), .lit (.int .u8 46), .lit (.int .u8 35), .lit (.int .u8 44), .lit (.int .u8 21), .lit (.int .u8 52), .lit (.int .u8 32), .lit (.int .u8 23), .lit (.int .u8 11), .lit (.int .u8 54), .lit (.int .u8 26), .lit (.int .u8 40), .lit (.int .u8 15), .lit (.int .u8 34), .lit (.int .u8 20), .lit (.int .u8 31), .lit (.int .u8 10), .lit (.int .u8 25), .lit (.int .u8 14), .lit (.int .u8 19), .lit (.int .u8 9), .lit (.int .u8 13), .lit (.int .u8 8), .lit (.int .u8 7), .lit (.int .u8 6)]
def laid_internal_strconv_uint64pow10 {H : Type} : DataW H := .agg [.lit (.int .u64 1), .lit (.int .u64 10), .lit (.int .u64 100), .lit (.int .u64 1000), .lit (.int .u64 10000), .lit (.int .u64 100000), .lit (.int .u64 1000000), .lit (.int .u64 10000000), .lit (.int .u64 100000000), .lit (.int .u64 1000000000), .lit (.int .u64 10000000000), .lit (.int .u64 100000000000), .lit (.int .u64 1000000000000), .lit (.int .u64 10000000000000), .lit (.int .u64 100000000000000), .lit (.int .u64 1000000000000000), .lit (.int .u64 10000000000000000), .lit (.int .u64 100000000000000000), .lit (.int .u64 1000000000000000000), .lit (.int .u64 10000000000000000000)]
def laid_unicode_utf8_acceptRanges {H : Type} : DataW H := .agg [.agg [.lit (.int .u8 128), .lit (.int .u8 191)], .agg [.lit (.int .u8 160), .lit (.int .u8 191)], .agg [.lit (.int .u8 128), .lit (.int .u8 159)], .agg [.lit (.int .u8 144), .lit (.int .u8 191)], .agg [.lit (.int .u8 128), .lit (.int .u8 143)], .agg [.lit (.int .u8 0), .lit (.int .u8 0)], .agg [.lit (.int .u8 0), .lit (.int .u8 0)], .agg [.lit (.int .u8 0), .lit (.int .u8 0)], .agg [.lit (.int .u8 0), .lit (.int .u8 0)], .agg [.lit (.int .u8 0), .lit (.int .u8 0)], .agg [.lit (.int .u8 0), .lit (.int .u8 0)], .agg [.lit (.int .u8 0), .lit (.int .u8 0)], .agg [.lit (.int .u8 0), .lit (.int .u8 0)], .agg [.lit (.int .u8 0), .lit (.int .u8 0)], .agg [.lit (.int .u8 0), .lit (.int .u8 0)], .agg [.lit (.int .u8 0), .lit (.int .u8 0)]]
/-- One of Go's own tables, pinned by name: the form's constant. -/
def laid_unicode_utf8_first : DataW Unit := Go.Pinned.utf8First

/-- 'sorobanlaw09.DeciSums': WHATEVER THE INPUT: true; the input reads as it did. -/
def deciSumsSpec : ChangeSpec := { name := "deciSums", fn := fun _ => fun
  | [d1, d2, d3] => { results := [.lit (.bool true)], args := [d1, d2, d3] }
  | _ => none }
def deciSumsRow : OpenClaim := { program := "ytaglofmanchabaagreatdoor", sum := "2cfc4690d87acdc32041f9e97bc039ff9dcfafa461f8fa93f1238ada6abe47b6", func := "soroban/sorobanlaw09.DeciSums", spec := "deciSums", unfollowed := true, recurses := true, named := ["soroban/decimal.formats"], plainKeys := false, apart := false, laid := [("soroban/decimal.formats", laid_soroban_decimal_formats)] }
def DeciSumsSaid : Prop := deciSumsRow.holds Tryz.pinned (OpenSpec.ofChange deciSumsSpec)

/-- ITS FALSE NEIGHBOUR: 'it returns false'. Refute it at one input. -/
def deciSumsWrong : ChangeSpec := { name := "deciSums", fn := fun _ => fun
  | [d1, d2, d3] => { results := [.lit (.bool false)], args := [d1, d2, d3] }
  | _ => none }
def DeciSumsWrongFalsely : Prop := deciSumsRow.holds Tryz.pinned (OpenSpec.ofChange deciSumsWrong)

/-- 'sorobanlaw09.DeciProducts': WHATEVER THE INPUT: true; the input reads as it did. -/
def deciProductsSpec : ChangeSpec := { name := "deciProducts", fn := fun _ => fun
  | [d1, d2, d3] => { results := [.lit (.bool true)], args := [d1, d2, d3] }
  | _ => none }
def deciProductsRow : OpenClaim := { program := "ytaglofmanchabaagreatdoor", sum := "2cfc4690d87acdc32041f9e97bc039ff9dcfafa461f8fa93f1238ada6abe47b6", func := "soroban/sorobanlaw09.DeciProducts", spec := "deciProducts", unfollowed := true, recurses := true, named := ["soroban/decimal.formats"], plainKeys := false, apart := false, laid := [("soroban/decimal.formats", laid_soroban_decimal_formats)] }
def DeciProductsSaid : Prop := deciProductsRow.holds Tryz.pinned (OpenSpec.ofChange deciProductsSpec)

/-- ITS FALSE NEIGHBOUR: 'it returns false'. Refute it at one input. -/
def deciProductsWrong : ChangeSpec := { name := "deciProducts", fn := fun _ => fun
  | [d1, d2, d3] => { results := [.lit (.bool false)], args := [d1, d2, d3] }
  | _ => none }
def DeciProductsWrongFalsely : Prop := deciProductsRow.holds Tryz.pinned (OpenSpec.ofChange deciProductsWrong)

/-- 'sorobanlaw09.DeciRoots': WHATEVER THE INPUT: true; the input reads as it did. -/
def deciRootsSpec : ChangeSpec := { name := "deciRoots", fn := fun _ => fun
  | [d1, d2] => { results := [.lit (.bool true)], args := [d1, d2] }
  | _ => none }
def deciRootsRow : OpenClaim := { program := "ytaglofmanchabaagreatdoor", sum := "2cfc4690d87acdc32041f9e97bc039ff9dcfafa461f8fa93f1238ada6abe47b6", func := "soroban/sorobanlaw09.DeciRoots", spec := "deciRoots", unfollowed := true, recurses := true, named := ["soroban/decimal.formats"], plainKeys := false, apart := false, laid := [("soroban/decimal.formats", laid_soroban_decimal_formats)] }
def DeciRootsSaid : Prop := deciRootsRow.holds Tryz.pinned (OpenSpec.ofChange deciRootsSpec)

/-- ITS FALSE NEIGHBOUR: 'it returns false'. Refute it at one input. -/
def deciRootsWrong : ChangeSpec := { name := "deciRoots", fn := fun _ => fun
  | [d1, d2] => { results := [.lit (.bool false)], args := [d1, d2] }
  | _ => none }
def DeciRootsWrongFalsely : Prop := deciRootsRow.holds Tryz.pinned (OpenSpec.ofChange deciRootsWrong)

/-- 'sorobanlaw09.DeciRests': WHATEVER THE INPUT: true; the input reads as it did. -/
def deciRestsSpec : ChangeSpec := { name := "deciRests", fn := fun _ => fun
  | [d1, d2] => { results := [.lit (.bool true)], args := [d1, d2] }
  | _ => none }
def deciRestsRow : OpenClaim := { program := "ytaglofmanchabaagreatdoor", sum := "2cfc4690d87acdc32041f9e97bc039ff9dcfafa461f8fa93f1238ada6abe47b6", func := "soroban/sorobanlaw09.DeciRests", spec := "deciRests", unfollowed := true, recurses := true, named := ["soroban/decimal.formats"], plainKeys := false, apart := false, laid := [("soroban/decimal.formats", laid_soroban_decimal_formats)] }
def DeciRestsSaid : Prop := deciRestsRow.holds Tryz.pinned (OpenSpec.ofChange deciRestsSpec)

/-- ITS FALSE NEIGHBOUR: 'it returns false'. Refute it at one input. -/
def deciRestsWrong : ChangeSpec := { name := "deciRests", fn := fun _ => fun
  | [d1, d2] => { results := [.lit (.bool false)], args := [d1, d2] }
  | _ => none }
def DeciRestsWrongFalsely : Prop := deciRestsRow.holds Tryz.pinned (OpenSpec.ofChange deciRestsWrong)

/-- 'sorobanlaw09.DeciQuantizes': WHATEVER THE INPUT: true; the input reads as it did. -/
def deciQuantizesSpec : ChangeSpec := { name := "deciQuantizes", fn := fun _ => fun
  | [d1, d2, d3] => { results := [.lit (.bool true)], args := [d1, d2, d3] }
  | _ => none }
def deciQuantizesRow : OpenClaim := { program := "ytaglofmanchabaagreatdoor", sum := "2cfc4690d87acdc32041f9e97bc039ff9dcfafa461f8fa93f1238ada6abe47b6", func := "soroban/sorobanlaw09.DeciQuantizes", spec := "deciQuantizes", unfollowed := true, recurses := true, named := ["soroban/decimal.formats"], plainKeys := false, apart := false, laid := [("soroban/decimal.formats", laid_soroban_decimal_formats)] }
def DeciQuantizesSaid : Prop := deciQuantizesRow.holds Tryz.pinned (OpenSpec.ofChange deciQuantizesSpec)

/-- ITS FALSE NEIGHBOUR: 'it returns false'. Refute it at one input. -/
def deciQuantizesWrong : ChangeSpec := { name := "deciQuantizes", fn := fun _ => fun
  | [d1, d2, d3] => { results := [.lit (.bool false)], args := [d1, d2, d3] }
  | _ => none }
def DeciQuantizesWrongFalsely : Prop := deciQuantizesRow.holds Tryz.pinned (OpenSpec.ofChange deciQuantizesWrong)

/-- 'sorobanlaw09.DeciFused': WHATEVER THE INPUT: true; the input reads as it did. -/
def deciFusedSpec : ChangeSpec := { name := "deciFused", fn := fun _ => fun
  | [d1, d2, d3, d4] => { results := [.lit (.bool true)], args := [d1, d2, d3, d4] }
  | _ => none }
def deciFusedRow : OpenClaim := { program := "ytaglofmanchabaagreatdoor", sum := "2cfc4690d87acdc32041f9e97bc039ff9dcfafa461f8fa93f1238ada6abe47b6", func := "soroban/sorobanlaw09.DeciFused", spec := "deciFused", unfollowed := true, recurses := true, named := ["soroban/decimal.formats"], plainKeys := false, apart := false, laid := [("soroban/decimal.formats", laid_soroban_decimal_formats)] }
def DeciFusedSaid : Prop := deciFusedRow.holds Tryz.pinned (OpenSpec.ofChange deciFusedSpec)

/-- ITS FALSE NEIGHBOUR: 'it returns false'. Refute it at one input. -/
def deciFusedWrong : ChangeSpec := { name := "deciFused", fn := fun _ => fun
  | [d1, d2, d3, d4] => { results := [.lit (.bool false)], args := [d1, d2, d3, d4] }
  | _ => none }
def DeciFusedWrongFalsely : Prop := deciFusedRow.holds Tryz.pinned (OpenSpec.ofChange deciFusedWrong)

/-- 'sorobanlaw09.DeciCohorts': WHATEVER THE INPUT: true; the input reads as it did. -/
def deciCohortsSpec : ChangeSpec := { name := "deciCohorts", fn := fun _ => fun
  | [d1, d2, d3, d4, d5] => { results := [.lit (.bool true)], args := [d1, d2, d3, d4, d5] }
  | _ => none }
def deciCohortsRow : OpenClaim := { program := "ytaglofmanchabaagreatdoor", sum := "2cfc4690d87acdc32041f9e97bc039ff9dcfafa461f8fa93f1238ada6abe47b6", func := "soroban/sorobanlaw09.DeciCohorts", spec := "deciCohorts", unfollowed := true, recurses := true, named := ["soroban/decimal.formats"], plainKeys := false, apart := false, laid := [("soroban/decimal.formats", laid_soroban_decimal_formats)] }
def DeciCohortsSaid : Prop := deciCohortsRow.holds Tryz.pinned (OpenSpec.ofChange deciCohortsSpec)

/-- ITS FALSE NEIGHBOUR: 'it returns false'. Refute it at one input. -/
def deciCohortsWrong : ChangeSpec := { name := "deciCohorts", fn := fun _ => fun
  | [d1, d2, d3, d4, d5] => { results := [.lit (.bool false)], args := [d1, d2, d3, d4, d5] }
  | _ => none }
def DeciCohortsWrongFalsely : Prop := deciCohortsRow.holds Tryz.pinned (OpenSpec.ofChange deciCohortsWrong)

/-- 'sorobanlaw09.DeciAlgebra': WHATEVER THE INPUT: true; the input reads as it did. -/
def deciAlgebraSpec : ChangeSpec := { name := "deciAlgebra", fn := fun _ => fun
  | [d1, d2, d3] => { results := [.lit (.bool true)], args := [d1, d2, d3] }
  | _ => none }
def deciAlgebraRow : OpenClaim := { program := "ytaglofmanchabaagreatdoor", sum := "2cfc4690d87acdc32041f9e97bc039ff9dcfafa461f8fa93f1238ada6abe47b6", func := "soroban/sorobanlaw09.DeciAlgebra", spec := "deciAlgebra", unfollowed := true, recurses := true, named := ["soroban/decimal.formats"], plainKeys := false, apart := false, laid := [("soroban/decimal.formats", laid_soroban_decimal_formats)] }
def DeciAlgebraSaid : Prop := deciAlgebraRow.holds Tryz.pinned (OpenSpec.ofChange deciAlgebraSpec)

/-- ITS FALSE NEIGHBOUR: 'it returns false'. Refute it at one input. -/
def deciAlgebraWrong : ChangeSpec := { name := "deciAlgebra", fn := fun _ => fun
  | [d1, d2, d3] => { results := [.lit (.bool false)], args := [d1, d2, d3] }
  | _ => none }
def DeciAlgebraWrongFalsely : Prop := deciAlgebraRow.holds Tryz.pinned (OpenSpec.ofChange deciAlgebraWrong)

/-- 'sorobanlaw09.DeciDirections': WHATEVER THE INPUT: true; the input reads as it did. -/
def deciDirectionsSpec : ChangeSpec := { name := "deciDirections", fn := fun _ => fun
  | [d1, d2] => { results := [.lit (.bool true)], args := [d1, d2] }
  | _ => none }
def deciDirectionsRow : OpenClaim := { program := "ytaglofmanchabaagreatdoor", sum := "2cfc4690d87acdc32041f9e97bc039ff9dcfafa461f8fa93f1238ada6abe47b6", func := "soroban/sorobanlaw09.DeciDirections", spec := "deciDirections", unfollowed := true, recurses := true, named := ["soroban/decimal.formats"], plainKeys := false, apart := false, laid := [("soroban/decimal.formats", laid_soroban_decimal_formats)] }
def DeciDirectionsSaid : Prop := deciDirectionsRow.holds Tryz.pinned (OpenSpec.ofChange deciDirectionsSpec)

/-- ITS FALSE NEIGHBOUR: 'it returns false'. Refute it at one input. -/
def deciDirectionsWrong : ChangeSpec := { name := "deciDirections", fn := fun _ => fun
  | [d1, d2] => { results := [.lit (.bool false)], args := [d1, d2] }
  | _ => none }
def DeciDirectionsWrongFalsely : Prop := deciDirectionsRow.holds Tryz.pinned (OpenSpec.ofChange deciDirectionsWrong)

/-- 'sorobanlaw09.DeciRounds': WHATEVER THE INPUT: true; the input reads as it did. -/
def deciRoundsSpec : ChangeSpec := { name := "deciRounds", fn := fun _ => fun
  | [d1, d2, d3, d4] => { results := [.lit (.bool true)], args := [d1, d2, d3, d4] }
  | _ => none }
def deciRoundsRow : OpenClaim := { program := "ytaglofmanchabaagreatdoor", sum := "2cfc4690d87acdc32041f9e97bc039ff9dcfafa461f8fa93f1238ada6abe47b6", func := "soroban/sorobanlaw09.DeciRounds", spec := "deciRounds", unfollowed := true, recurses := true, named := ["soroban/decimal.formats"], plainKeys := false, apart := false, laid := [("soroban/decimal.formats", laid_soroban_decimal_formats)] }
def DeciRoundsSaid : Prop := deciRoundsRow.holds Tryz.pinned (OpenSpec.ofChange deciRoundsSpec)

/-- ITS FALSE NEIGHBOUR: 'it returns false'. Refute it at one input. -/
def deciRoundsWrong : ChangeSpec := { name := "deciRounds", fn := fun _ => fun
  | [d1, d2, d3, d4] => { results := [.lit (.bool false)], args := [d1, d2, d3, d4] }
  | _ => none }
def DeciRoundsWrongFalsely : Prop := deciRoundsRow.holds Tryz.pinned (OpenSpec.ofChange deciRoundsWrong)

/-- 'sorobanlaw09.DeciLeft': WHATEVER THE INPUT: true; the input reads as it did. -/
def deciLeftSpec : ChangeSpec := { name := "deciLeft", fn := fun _ => fun
  | [d1, d2] => { results := [.lit (.bool true)], args := [d1, d2] }
  | _ => none }
def deciLeftRow : OpenClaim := { program := "ytaglofmanchabaagreatdoor", sum := "2cfc4690d87acdc32041f9e97bc039ff9dcfafa461f8fa93f1238ada6abe47b6", func := "soroban/sorobanlaw09.DeciLeft", spec := "deciLeft", unfollowed := true, recurses := true, named := ["soroban/decimal.formats"], plainKeys := false, apart := false, laid := [("soroban/decimal.formats", laid_soroban_decimal_formats)] }
def DeciLeftSaid : Prop := deciLeftRow.holds Tryz.pinned (OpenSpec.ofChange deciLeftSpec)

/-- ITS FALSE NEIGHBOUR: 'it returns false'. Refute it at one input. -/
def deciLeftWrong : ChangeSpec := { name := "deciLeft", fn := fun _ => fun
  | [d1, d2] => { results := [.lit (.bool false)], args := [d1, d2] }
  | _ => none }
def DeciLeftWrongFalsely : Prop := deciLeftRow.holds Tryz.pinned (OpenSpec.ofChange deciLeftWrong)

/-- 'sorobanlaw09.DeciQuanta': WHATEVER THE INPUT: true; the input reads as it did. -/
def deciQuantaSpec : ChangeSpec := { name := "deciQuanta", fn := fun _ => fun
  | [d1, d2, d3] => { results := [.lit (.bool true)], args := [d1, d2, d3] }
  | _ => none }
def deciQuantaRow : OpenClaim := { program := "ytaglofmanchabaagreatdoor", sum := "2cfc4690d87acdc32041f9e97bc039ff9dcfafa461f8fa93f1238ada6abe47b6", func := "soroban/sorobanlaw09.DeciQuanta", spec := "deciQuanta", unfollowed := true, recurses := true, named := ["soroban/decimal.formats"], plainKeys := false, apart := false, laid := [("soroban/decimal.formats", laid_soroban_decimal_formats)] }
def DeciQuantaSaid : Prop := deciQuantaRow.holds Tryz.pinned (OpenSpec.ofChange deciQuantaSpec)

/-- ITS FALSE NEIGHBOUR: 'it returns false'. Refute it at one input. -/
def deciQuantaWrong : ChangeSpec := { name := "deciQuanta", fn := fun _ => fun
  | [d1, d2, d3] => { results := [.lit (.bool false)], args := [d1, d2, d3] }
  | _ => none }
def DeciQuantaWrongFalsely : Prop := deciQuantaRow.holds Tryz.pinned (OpenSpec.ofChange deciQuantaWrong)

/-- 'sorobanlaw09.DeciShifts': WHATEVER THE INPUT: true; the input reads as it did. -/
def deciShiftsSpec : ChangeSpec := { name := "deciShifts", fn := fun _ => fun
  | [d1, d2] => { results := [.lit (.bool true)], args := [d1, d2] }
  | _ => none }
def deciShiftsRow : OpenClaim := { program := "ytaglofmanchabaagreatdoor", sum := "2cfc4690d87acdc32041f9e97bc039ff9dcfafa461f8fa93f1238ada6abe47b6", func := "soroban/sorobanlaw09.DeciShifts", spec := "deciShifts", inPlace := ["internal/abi.NoEscape", "internal/bytealg.MakeNoZero", "internal/bytealg.IndexByteString", "internal/bytealg.IndexString"], unfollowed := true, recurses := true, named := ["soroban/decimal.formats", "internal/strconv.uint64pow10", "math/bits.deBruijn32tab", "math/bits.deBruijn64tab", "unicode/utf8.first", "unicode/utf8.acceptRanges", "internal/bytealg.MaxLen"], plainKeys := false, apart := false, laid := [("math/bits.deBruijn32tab", laid_math_bits_deBruijn32tab), ("math/bits.deBruijn64tab", laid_math_bits_deBruijn64tab), ("internal/strconv.uint64pow10", laid_internal_strconv_uint64pow10), ("unicode/utf8.acceptRanges", laid_unicode_utf8_acceptRanges), ("soroban/decimal.formats", laid_soroban_decimal_formats), ("unicode/utf8.first", laid_unicode_utf8_first)] }
def DeciShiftsSaid : Prop := deciShiftsRow.holds Tryz.pinned (OpenSpec.ofChange deciShiftsSpec)

/-- ITS FALSE NEIGHBOUR: 'it returns false'. Refute it at one input. -/
def deciShiftsWrong : ChangeSpec := { name := "deciShifts", fn := fun _ => fun
  | [d1, d2] => { results := [.lit (.bool false)], args := [d1, d2] }
  | _ => none }
def DeciShiftsWrongFalsely : Prop := deciShiftsRow.holds Tryz.pinned (OpenSpec.ofChange deciShiftsWrong)

/-- 'sorobanlaw09.DeciMoves': WHATEVER THE INPUT: true; the input reads as it did. -/
def deciMovesSpec : ChangeSpec := { name := "deciMoves", fn := fun _ => fun
  | [d1, d2] => { results := [.lit (.bool true)], args := [d1, d2] }
  | _ => none }
def deciMovesRow : OpenClaim := { program := "ytaglofmanchabaagreatdoor", sum := "2cfc4690d87acdc32041f9e97bc039ff9dcfafa461f8fa93f1238ada6abe47b6", func := "soroban/sorobanlaw09.DeciMoves", spec := "deciMoves", inPlace := ["internal/abi.NoEscape", "internal/bytealg.MakeNoZero", "internal/bytealg.IndexByteString", "internal/bytealg.IndexString"], unfollowed := true, recurses := true, named := ["soroban/decimal.formats", "internal/strconv.uint64pow10", "math/bits.deBruijn32tab", "math/bits.deBruijn64tab", "unicode/utf8.first", "unicode/utf8.acceptRanges", "internal/bytealg.MaxLen"], plainKeys := false, apart := false, laid := [("math/bits.deBruijn32tab", laid_math_bits_deBruijn32tab), ("math/bits.deBruijn64tab", laid_math_bits_deBruijn64tab), ("internal/strconv.uint64pow10", laid_internal_strconv_uint64pow10), ("unicode/utf8.acceptRanges", laid_unicode_utf8_acceptRanges), ("soroban/decimal.formats", laid_soroban_decimal_formats), ("unicode/utf8.first", laid_unicode_utf8_first)] }
def DeciMovesSaid : Prop := deciMovesRow.holds Tryz.pinned (OpenSpec.ofChange deciMovesSpec)

/-- ITS FALSE NEIGHBOUR: 'it returns false'. Refute it at one input. -/
def deciMovesWrong : ChangeSpec := { name := "deciMoves", fn := fun _ => fun
  | [d1, d2] => { results := [.lit (.bool false)], args := [d1, d2] }
  | _ => none }
def DeciMovesWrongFalsely : Prop := deciMovesRow.holds Tryz.pinned (OpenSpec.ofChange deciMovesWrong)

/- THE SECOND FORM. 'bulk': how many values and letters a reading holds, each counted each time it is reached (what is shared counts as often as it is met; a slice's spare places count too). A statement '..UptoSaid' is the law's where the arguments, and the package variables that the reading takes, are together of bulk at most 1048576: NARROWER than '..Said'. Prove '..Said' where nothing that the law and all that it calls make is longer than what came in: it says more and counts as full. Else prove '..UptoSaid'. A law counts once. -/
mutual
def uptoBulk {H : Type} : DataW H → Nat
  | .lit (.string bytes) => bytes.length + 1
  | .lit _ => 1
  | .nil => 1
  | .ptr d => uptoBulk d + 1
  | .slice elems spare => uptoBulkAll elems + uptoBulkAll spare + 1
  | .agg parts => uptoBulkAll parts + 1
  | .iface _ d => uptoBulk d + 1
  | .map entries => uptoBulkEntries entries + 1
  | .held _ => 1
def uptoBulkAll {H : Type} : List (DataW H) → Nat
  | [] => 0
  | d :: r => uptoBulk d + uptoBulkAll r
def uptoBulkEntries {H : Type} : List (Lit × DataW H) → Nat
  | [] => 0
  | x :: r => uptoBulkEntry x + uptoBulkEntries r
def uptoBulkEntry {H : Type} : Lit × DataW H → Nat
  | (.string bytes, d) => bytes.length + uptoBulk d + 1
  | (_, d) => uptoBulk d + 1
 end
def uptoSmall : (H : Type) → List (DataW H) → Bool := fun _ ds => decide (uptoBulkAll ds ≤ 1048576)
def OpenSpec.upto (s : _root_.Go.ChangeSpec) : _root_.Go.OpenSpec := { _root_.Go.OpenSpec.ofChange s with cond := some uptoSmall }

/-- 'sorobanlaw09.DeciSums', WHERE WHAT IT READS IS OF BULK AT MOST 1048576: true; the input reads as it did. -/
def deciSumsUptoRow : OpenClaim := { program := "ytaglofmanchabaagreatdoor", sum := "2cfc4690d87acdc32041f9e97bc039ff9dcfafa461f8fa93f1238ada6abe47b6", func := "soroban/sorobanlaw09.DeciSums", spec := "deciSums", unfollowed := true, recurses := true, named := ["soroban/decimal.formats"], plainKeys := false, apart := false, laid := [("soroban/decimal.formats", laid_soroban_decimal_formats)], narrowed := true }
def DeciSumsUptoSaid : Prop := deciSumsUptoRow.holds Tryz.pinned (OpenSpec.upto deciSumsSpec)

/-- 'sorobanlaw09.DeciProducts', WHERE WHAT IT READS IS OF BULK AT MOST 1048576: true; the input reads as it did. -/
def deciProductsUptoRow : OpenClaim := { program := "ytaglofmanchabaagreatdoor", sum := "2cfc4690d87acdc32041f9e97bc039ff9dcfafa461f8fa93f1238ada6abe47b6", func := "soroban/sorobanlaw09.DeciProducts", spec := "deciProducts", unfollowed := true, recurses := true, named := ["soroban/decimal.formats"], plainKeys := false, apart := false, laid := [("soroban/decimal.formats", laid_soroban_decimal_formats)], narrowed := true }
def DeciProductsUptoSaid : Prop := deciProductsUptoRow.holds Tryz.pinned (OpenSpec.upto deciProductsSpec)

/-- 'sorobanlaw09.DeciRoots', WHERE WHAT IT READS IS OF BULK AT MOST 1048576: true; the input reads as it did. -/
def deciRootsUptoRow : OpenClaim := { program := "ytaglofmanchabaagreatdoor", sum := "2cfc4690d87acdc32041f9e97bc039ff9dcfafa461f8fa93f1238ada6abe47b6", func := "soroban/sorobanlaw09.DeciRoots", spec := "deciRoots", unfollowed := true, recurses := true, named := ["soroban/decimal.formats"], plainKeys := false, apart := false, laid := [("soroban/decimal.formats", laid_soroban_decimal_formats)], narrowed := true }
def DeciRootsUptoSaid : Prop := deciRootsUptoRow.holds Tryz.pinned (OpenSpec.upto deciRootsSpec)

/-- 'sorobanlaw09.DeciRests', WHERE WHAT IT READS IS OF BULK AT MOST 1048576: true; the input reads as it did. -/
def deciRestsUptoRow : OpenClaim := { program := "ytaglofmanchabaagreatdoor", sum := "2cfc4690d87acdc32041f9e97bc039ff9dcfafa461f8fa93f1238ada6abe47b6", func := "soroban/sorobanlaw09.DeciRests", spec := "deciRests", unfollowed := true, recurses := true, named := ["soroban/decimal.formats"], plainKeys := false, apart := false, laid := [("soroban/decimal.formats", laid_soroban_decimal_formats)], narrowed := true }
def DeciRestsUptoSaid : Prop := deciRestsUptoRow.holds Tryz.pinned (OpenSpec.upto deciRestsSpec)

/-- 'sorobanlaw09.DeciQuantizes', WHERE WHAT IT READS IS OF BULK AT MOST 1048576: true; the input reads as it did. -/
def deciQuantizesUptoRow : OpenClaim := { program := "ytaglofmanchabaagreatdoor", sum := "2cfc4690d87acdc32041f9e97bc039ff9dcfafa461f8fa93f1238ada6abe47b6", func := "soroban/sorobanlaw09.DeciQuantizes", spec := "deciQuantizes", unfollowed := true, recurses := true, named := ["soroban/decimal.formats"], plainKeys := false, apart := false, laid := [("soroban/decimal.formats", laid_soroban_decimal_formats)], narrowed := true }
def DeciQuantizesUptoSaid : Prop := deciQuantizesUptoRow.holds Tryz.pinned (OpenSpec.upto deciQuantizesSpec)

/-- 'sorobanlaw09.DeciFused', WHERE WHAT IT READS IS OF BULK AT MOST 1048576: true; the input reads as it did. -/
def deciFusedUptoRow : OpenClaim := { program := "ytaglofmanchabaagreatdoor", sum := "2cfc4690d87acdc32041f9e97bc039ff9dcfafa461f8fa93f1238ada6abe47b6", func := "soroban/sorobanlaw09.DeciFused", spec := "deciFused", unfollowed := true, recurses := true, named := ["soroban/decimal.formats"], plainKeys := false, apart := false, laid := [("soroban/decimal.formats", laid_soroban_decimal_formats)], narrowed := true }
def DeciFusedUptoSaid : Prop := deciFusedUptoRow.holds Tryz.pinned (OpenSpec.upto deciFusedSpec)

/-- 'sorobanlaw09.DeciCohorts', WHERE WHAT IT READS IS OF BULK AT MOST 1048576: true; the input reads as it did. -/
def deciCohortsUptoRow : OpenClaim := { program := "ytaglofmanchabaagreatdoor", sum := "2cfc4690d87acdc32041f9e97bc039ff9dcfafa461f8fa93f1238ada6abe47b6", func := "soroban/sorobanlaw09.DeciCohorts", spec := "deciCohorts", unfollowed := true, recurses := true, named := ["soroban/decimal.formats"], plainKeys := false, apart := false, laid := [("soroban/decimal.formats", laid_soroban_decimal_formats)], narrowed := true }
def DeciCohortsUptoSaid : Prop := deciCohortsUptoRow.holds Tryz.pinned (OpenSpec.upto deciCohortsSpec)

/-- 'sorobanlaw09.DeciAlgebra', WHERE WHAT IT READS IS OF BULK AT MOST 1048576: true; the input reads as it did. -/
def deciAlgebraUptoRow : OpenClaim := { program := "ytaglofmanchabaagreatdoor", sum := "2cfc4690d87acdc32041f9e97bc039ff9dcfafa461f8fa93f1238ada6abe47b6", func := "soroban/sorobanlaw09.DeciAlgebra", spec := "deciAlgebra", unfollowed := true, recurses := true, named := ["soroban/decimal.formats"], plainKeys := false, apart := false, laid := [("soroban/decimal.formats", laid_soroban_decimal_formats)], narrowed := true }
def DeciAlgebraUptoSaid : Prop := deciAlgebraUptoRow.holds Tryz.pinned (OpenSpec.upto deciAlgebraSpec)

/-- 'sorobanlaw09.DeciDirections', WHERE WHAT IT READS IS OF BULK AT MOST 1048576: true; the input reads as it did. -/
def deciDirectionsUptoRow : OpenClaim := { program := "ytaglofmanchabaagreatdoor", sum := "2cfc4690d87acdc32041f9e97bc039ff9dcfafa461f8fa93f1238ada6abe47b6", func := "soroban/sorobanlaw09.DeciDirections", spec := "deciDirections", unfollowed := true, recurses := true, named := ["soroban/decimal.formats"], plainKeys := false, apart := false, laid := [("soroban/decimal.formats", laid_soroban_decimal_formats)], narrowed := true }
def DeciDirectionsUptoSaid : Prop := deciDirectionsUptoRow.holds Tryz.pinned (OpenSpec.upto deciDirectionsSpec)

/-- 'sorobanlaw09.DeciRounds', WHERE WHAT IT READS IS OF BULK AT MOST 1048576: true; the input reads as it did. -/
def deciRoundsUptoRow : OpenClaim := { program := "ytaglofmanchabaagreatdoor", sum := "2cfc4690d87acdc32041f9e97bc039ff9dcfafa461f8fa93f1238ada6abe47b6", func := "soroban/sorobanlaw09.DeciRounds", spec := "deciRounds", unfollowed := true, recurses := true, named := ["soroban/decimal.formats"], plainKeys := false, apart := false, laid := [("soroban/decimal.formats", laid_soroban_decimal_formats)], narrowed := true }
def DeciRoundsUptoSaid : Prop := deciRoundsUptoRow.holds Tryz.pinned (OpenSpec.upto deciRoundsSpec)

/-- 'sorobanlaw09.DeciLeft', WHERE WHAT IT READS IS OF BULK AT MOST 1048576: true; the input reads as it did. -/
def deciLeftUptoRow : OpenClaim := { program := "ytaglofmanchabaagreatdoor", sum := "2cfc4690d87acdc32041f9e97bc039ff9dcfafa461f8fa93f1238ada6abe47b6", func := "soroban/sorobanlaw09.DeciLeft", spec := "deciLeft", unfollowed := true, recurses := true, named := ["soroban/decimal.formats"], plainKeys := false, apart := false, laid := [("soroban/decimal.formats", laid_soroban_decimal_formats)], narrowed := true }
def DeciLeftUptoSaid : Prop := deciLeftUptoRow.holds Tryz.pinned (OpenSpec.upto deciLeftSpec)

/-- 'sorobanlaw09.DeciQuanta', WHERE WHAT IT READS IS OF BULK AT MOST 1048576: true; the input reads as it did. -/
def deciQuantaUptoRow : OpenClaim := { program := "ytaglofmanchabaagreatdoor", sum := "2cfc4690d87acdc32041f9e97bc039ff9dcfafa461f8fa93f1238ada6abe47b6", func := "soroban/sorobanlaw09.DeciQuanta", spec := "deciQuanta", unfollowed := true, recurses := true, named := ["soroban/decimal.formats"], plainKeys := false, apart := false, laid := [("soroban/decimal.formats", laid_soroban_decimal_formats)], narrowed := true }
def DeciQuantaUptoSaid : Prop := deciQuantaUptoRow.holds Tryz.pinned (OpenSpec.upto deciQuantaSpec)

/-- 'sorobanlaw09.DeciShifts', WHERE WHAT IT READS IS OF BULK AT MOST 1048576: true; the input reads as it did. -/
def deciShiftsUptoRow : OpenClaim := { program := "ytaglofmanchabaagreatdoor", sum := "2cfc4690d87acdc32041f9e97bc039ff9dcfafa461f8fa93f1238ada6abe47b6", func := "soroban/sorobanlaw09.DeciShifts", spec := "deciShifts", inPlace := ["internal/abi.NoEscape", "internal/bytealg.MakeNoZero", "internal/bytealg.IndexByteString", "internal/bytealg.IndexString"], unfollowed := true, recurses := true, named := ["soroban/decimal.formats", "internal/strconv.uint64pow10", "math/bits.deBruijn32tab", "math/bits.deBruijn64tab", "unicode/utf8.first", "unicode/utf8.acceptRanges", "internal/bytealg.MaxLen"], plainKeys := false, apart := false, laid := [("math/bits.deBruijn32tab", laid_math_bits_deBruijn32tab), ("math/bits.deBruijn64tab", laid_math_bits_deBruijn64tab), ("internal/strconv.uint64pow10", laid_internal_strconv_uint64pow10), ("unicode/utf8.acceptRanges", laid_unicode_utf8_acceptRanges), ("soroban/decimal.formats", laid_soroban_decimal_formats), ("unicode/utf8.first", laid_unicode_utf8_first)], narrowed := true }
def DeciShiftsUptoSaid : Prop := deciShiftsUptoRow.holds Tryz.pinned (OpenSpec.upto deciShiftsSpec)

/-- 'sorobanlaw09.DeciMoves', WHERE WHAT IT READS IS OF BULK AT MOST 1048576: true; the input reads as it did. -/
def deciMovesUptoRow : OpenClaim := { program := "ytaglofmanchabaagreatdoor", sum := "2cfc4690d87acdc32041f9e97bc039ff9dcfafa461f8fa93f1238ada6abe47b6", func := "soroban/sorobanlaw09.DeciMoves", spec := "deciMoves", inPlace := ["internal/abi.NoEscape", "internal/bytealg.MakeNoZero", "internal/bytealg.IndexByteString", "internal/bytealg.IndexString"], unfollowed := true, recurses := true, named := ["soroban/decimal.formats", "internal/strconv.uint64pow10", "math/bits.deBruijn32tab", "math/bits.deBruijn64tab", "unicode/utf8.first", "unicode/utf8.acceptRanges", "internal/bytealg.MaxLen"], plainKeys := false, apart := false, laid := [("math/bits.deBruijn32tab", laid_math_bits_deBruijn32tab), ("math/bits.deBruijn64tab", laid_math_bits_deBruijn64tab), ("internal/strconv.uint64pow10", laid_internal_strconv_uint64pow10), ("unicode/utf8.acceptRanges", laid_unicode_utf8_acceptRanges), ("soroban/decimal.formats", laid_soroban_decimal_formats), ("unicode/utf8.first", laid_unicode_utf8_first)], narrowed := true }
def DeciMovesUptoSaid : Prop := deciMovesUptoRow.holds Tryz.pinned (OpenSpec.upto deciMovesSpec)

end Rows
end Go.Proofs.YtaglofmanchabaaGreatDoor
