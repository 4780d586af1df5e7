/-
  NARROWER THAN 'FOR EVERY INPUT', by the rows' own cells (each row's printed sentence says how): ScanReads: laid · ScanLists: laid · ScanSets: laid · ScanBack: laid · ScanAgain: laid · ScanSetBack: laid · ScanJoins: laid · ScanOffsets: laid.
  DERIVED. THE GIVEN ROWS OF THIS SEAT. 8 by the template 'for every input the law returns true; each argument reads behind the call as it read before'; 0 by the template 'total and deterministic' (their statements: YthankfodgdfgaaaDoorTotals.lean).
  GIVEN WITH THE SEED: the statements are not yours to turn. If you find one false, say at which input.
  Laid BY PROGRAM, IN A SANDBOX (cutbox-rows.mjs): the forced cells as the released guide's own fill.sh prints them over the translation f5bd95b14713c962… (all of the seat's roots in one cut). By AI agents, Wed Nov 11 2026. No macro, syntax, notation, axiom, sorry.
-/
import Derived.Test.YthankfodgdfgaaaDoorChecked
import GoSem.Claim
import GoSem.ClaimJoined
import GoSem.ClaimMapViews
import Derived.JoinedTies
import Derived.KernelRfl
namespace Go.Proofs.YthankfodgdfgaaaDoor
/- THE CELL 'sum', in the pinned program and in every row, IS THE sha256 OF THE DUMP (.gsa) THAT YthankfodgdfgaaaDoorProg.lean LOADS. Nothing in Lean hashes anything: it is a label: what it is worth is what the hold of that sum in a sandbox is worth. -/
noncomputable def Tryd.pinned : Pinned := { name := "ythankfodgdfgaaadoor", sum := "f5bd95b14713c962aaf8affa4566244ef32048eb03e2cb981ac0fbd1b71178c7", checked := Tryd.checked }
namespace Rows
def none {H : Type} : Left H := { results := [], args := [] }

/- WHAT THE LISTED PACKAGE-LEVEL VARIABLES READ AS WHEN THE CALL BEGINS. Each datum BY PROGRAM (the guide's laid-datum.mjs) off the statement by which the dump's own 'gosem.cut.vars' lays the variable. In a bare row this is a premise. The card (YthankfodgdfgaaaDoorCards.lean) ties it to the program's text. -/
def laid_math_bits_deBruijn32tab {H : Type} : DataW H := .agg [.lit (.int .u8 0), .lit (.int .u8 1), .lit (.int .u8 28), .lit (.int .u8 2), .lit (.int .u8 29), .lit (.int .u8 14), .lit (.int .u8 24), .lit (.int .u8 3), .lit (.int .u8 30), .lit (.int .u8 22), .lit (.int .u8 20), .lit (.int .u8 15), .lit (.int .u8 25), .lit (.int .u8 17), .lit (.int .u8 4), .lit (.int .u8 8), .lit (.int .u8 31), .lit (.int .u8 27), .lit (.int .u8 13), .lit (.int .u8 23), .lit (.int .u8 21), .lit (.int .u8 19), .lit (.int .u8 16), .lit (.int .u8 7), .lit (.int .u8 26), .lit (.int .u8 12), .lit (.int .u8 18), .lit (.int .u8 6), .lit (.int .u8 11), .lit (.int .u8 5), .lit (.int .u8 10), .lit (.int .u8 9)]
def laid_math_bits_deBruijn64tab {H : Type} : DataW H := .agg [.lit (.int .u8 0), .lit (.int .u8 1), .lit (.int .u8 56), .lit (.int .u8 2), .lit (.int .u8 57), .lit (.int .u8 49), .lit (.int .u8 28), .lit (.int .u8 3), .lit (.int .u8 61), .lit (.int .u8 58), .lit (.int .u8 42), .lit (.int .u8 50), .lit (.int .u8 38), .lit (.int .u8 29), .lit (.int .u8 17), .lit (.int .u8 4), .lit (.int .u8 62), .lit (.int .u8 47), .lit (.int .u8 59), .lit (.int .u8 36), .lit (.int .u8 45), .lit (.int .u8 43), .lit (.int .u8 51), .lit (.int .u8 22), .lit (.int .u8 53), .lit (.int .u8 39), .lit (.int .u8 33), .lit (.int .u8 30), .lit (.int .u8 24), .lit (.int .u8 18), .lit (.int .u8 12), .lit (.int .u8 5), .lit (.int .u8 63), .lit (.int .u8 55), .lit (.int .u8 48), .lit (.int .u8 27), .lit (.int .u8 60), .lit (.int .u8 41), .lit (.int .u8 37), .lit (.int .u8 16), .lit (.int .u8 46), .lit (.int .u8 35), .lit (.int .u8 44), .lit (.int .u8 21), .lit (.int .u8 52), .lit (.int .u8 32), .lit (.int .u8 23), .lit (.int .u8 11), .lit (.int .u8 54), .lit (.int .u8 26), .lit (.int .u8 40), .lit (.int .u8 15), .lit (.int .u8 34), .lit (.int .u8 20), .lit (.int .u8 31), .lit (.int .u8 10), .lit (.int .u8 25), .lit (.int .u8 14), .lit (.int .u8 19), .lit (.int .u8 9), .lit (.int .u8 13), .lit (.int .u8 8), .lit (.int .u8 7), .lit (.int .u8 6)]
def laid_internal_strconv_uint64pow10 {H : Type} : DataW H := .agg [.lit (.int .u64 1), .lit (.int .u64 10), .lit (.int .u64 100), .lit (.int .u64 1000), .lit (.int .u64 10000), .lit (.int .u64 100000), .lit (.int .u64 1000000), .lit (.int .u64 10000000), .lit (.int .u64 100000000), .lit (.int .u64 1000000000), .lit (.int .u64 10000000000), .lit (.int .u64 100000000000), .lit (.int .u64 1000000000000), .lit (.int .u64 10000000000000), .lit (.int .u64 100000000000000), .lit (.int .u64 1000000000000000), .lit (.int .u64 10000000000000000), .lit (.int .u64 100000000000000000), .lit (.int .u64 1000000000000000000), .lit (.int .u64 10000000000000000000)]
def laid_soroban_scanspec_rows {H : Type} : DataW H := .map [(.int .u8 65, .lit (.int .i64 2)), (.int .u8 69, .lit (.int .i64 2)), (.int .u8 70, .lit (.int .i64 2)), (.int .u8 71, .lit (.int .i64 2)), (.int .u8 88, .lit (.int .i64 1)), (.int .u8 91, .lit (.int .i64 3)), (.int .u8 97, .lit (.int .i64 2)), (.int .u8 98, .lit (.int .i64 1)), (.int .u8 99, .lit (.int .i64 3)), (.int .u8 100, .lit (.int .i64 1)), (.int .u8 101, .lit (.int .i64 2)), (.int .u8 102, .lit (.int .i64 2)), (.int .u8 103, .lit (.int .i64 2)), (.int .u8 105, .lit (.int .i64 1)), (.int .u8 110, .lit (.int .i64 5)), (.int .u8 111, .lit (.int .i64 1)), (.int .u8 112, .lit (.int .i64 4)), (.int .u8 115, .lit (.int .i64 3)), (.int .u8 117, .lit (.int .i64 1)), (.int .u8 120, .lit (.int .i64 1))]
def laid_soroban_scanspec_lengths {H : Type} : DataW H := .agg [.lit (.string []), .lit (.string [104, 104]), .lit (.string [104]), .lit (.string [108]), .lit (.string [108, 108]), .lit (.string [106]), .lit (.string [122]), .lit (.string [116]), .lit (.string [76]), .lit (.string [72]), .lit (.string [68]), .lit (.string [68, 68])]

/-- 'sorobanlaw24.ScanReads': WHATEVER THE INPUT: true; the input reads as it did. -/
def scanReadsSpec : ChangeSpec := { name := "scanReads", fn := fun _ => fun
  | [d] => { results := [.lit (.bool true)], args := [d] }
  | _ => none }
def scanReadsRow : OpenClaim := { program := "ythankfodgdfgaaadoor", sum := "f5bd95b14713c962aaf8affa4566244ef32048eb03e2cb981ac0fbd1b71178c7", func := "soroban/sorobanlaw24.ScanReads", spec := "scanReads", inPlace := ["internal/bytealg.IndexByteString", "internal/abi.NoEscape"], unfollowed := true, recurses := true, named := ["soroban/scanspec.rows", "soroban/scanspec.lengths", "internal/strconv.uint64pow10", "math/bits.deBruijn32tab", "math/bits.deBruijn64tab"], apart := false, laid := [("math/bits.deBruijn32tab", laid_math_bits_deBruijn32tab), ("math/bits.deBruijn64tab", laid_math_bits_deBruijn64tab), ("internal/strconv.uint64pow10", laid_internal_strconv_uint64pow10), ("soroban/scanspec.rows", laid_soroban_scanspec_rows), ("soroban/scanspec.lengths", laid_soroban_scanspec_lengths)] }
def ScanReadsSaid : Prop := scanReadsRow.holds Tryd.pinned (OpenSpec.ofChange scanReadsSpec)

/-- ITS FALSE NEIGHBOUR: 'it returns false'. Refute it at one input. -/
def scanReadsWrong : ChangeSpec := { name := "scanReads", fn := fun _ => fun
  | [d] => { results := [.lit (.bool false)], args := [d] }
  | _ => none }
def ScanReadsWrongFalsely : Prop := scanReadsRow.holds Tryd.pinned (OpenSpec.ofChange scanReadsWrong)

/-- 'sorobanlaw24.ScanLists': WHATEVER THE INPUT: true; the input reads as it did. -/
def scanListsSpec : ChangeSpec := { name := "scanLists", fn := fun _ => fun
  | [d] => { results := [.lit (.bool true)], args := [d] }
  | _ => none }
def scanListsRow : OpenClaim := { program := "ythankfodgdfgaaadoor", sum := "f5bd95b14713c962aaf8affa4566244ef32048eb03e2cb981ac0fbd1b71178c7", func := "soroban/sorobanlaw24.ScanLists", spec := "scanLists", inPlace := ["internal/bytealg.IndexByteString", "internal/abi.NoEscape"], unfollowed := true, recurses := true, named := ["soroban/scanspec.rows", "soroban/scanspec.lengths", "internal/strconv.uint64pow10", "math/bits.deBruijn32tab", "math/bits.deBruijn64tab"], apart := false, laid := [("math/bits.deBruijn32tab", laid_math_bits_deBruijn32tab), ("math/bits.deBruijn64tab", laid_math_bits_deBruijn64tab), ("internal/strconv.uint64pow10", laid_internal_strconv_uint64pow10), ("soroban/scanspec.rows", laid_soroban_scanspec_rows), ("soroban/scanspec.lengths", laid_soroban_scanspec_lengths)] }
def ScanListsSaid : Prop := scanListsRow.holds Tryd.pinned (OpenSpec.ofChange scanListsSpec)

/-- ITS FALSE NEIGHBOUR: 'it returns false'. Refute it at one input. -/
def scanListsWrong : ChangeSpec := { name := "scanLists", fn := fun _ => fun
  | [d] => { results := [.lit (.bool false)], args := [d] }
  | _ => none }
def ScanListsWrongFalsely : Prop := scanListsRow.holds Tryd.pinned (OpenSpec.ofChange scanListsWrong)

/-- 'sorobanlaw24.ScanSets': WHATEVER THE INPUT: true; the input reads as it did. -/
def scanSetsSpec : ChangeSpec := { name := "scanSets", fn := fun _ => fun
  | [d1, d2] => { results := [.lit (.bool true)], args := [d1, d2] }
  | _ => none }
def scanSetsRow : OpenClaim := { program := "ythankfodgdfgaaadoor", sum := "f5bd95b14713c962aaf8affa4566244ef32048eb03e2cb981ac0fbd1b71178c7", func := "soroban/sorobanlaw24.ScanSets", spec := "scanSets", inPlace := ["internal/bytealg.IndexByteString", "internal/abi.NoEscape"], unfollowed := true, recurses := true, named := ["soroban/scanspec.rows", "soroban/scanspec.lengths", "internal/strconv.uint64pow10", "math/bits.deBruijn32tab", "math/bits.deBruijn64tab"], apart := false, laid := [("math/bits.deBruijn32tab", laid_math_bits_deBruijn32tab), ("math/bits.deBruijn64tab", laid_math_bits_deBruijn64tab), ("internal/strconv.uint64pow10", laid_internal_strconv_uint64pow10), ("soroban/scanspec.rows", laid_soroban_scanspec_rows), ("soroban/scanspec.lengths", laid_soroban_scanspec_lengths)] }
def ScanSetsSaid : Prop := scanSetsRow.holds Tryd.pinned (OpenSpec.ofChange scanSetsSpec)

/-- ITS FALSE NEIGHBOUR: 'it returns false'. Refute it at one input. -/
def scanSetsWrong : ChangeSpec := { name := "scanSets", fn := fun _ => fun
  | [d1, d2] => { results := [.lit (.bool false)], args := [d1, d2] }
  | _ => none }
def ScanSetsWrongFalsely : Prop := scanSetsRow.holds Tryd.pinned (OpenSpec.ofChange scanSetsWrong)

/-- 'sorobanlaw24.ScanBack': WHATEVER THE INPUT: true; the input reads as it did. -/
def scanBackSpec : ChangeSpec := { name := "scanBack", fn := fun _ => fun
  | [d] => { results := [.lit (.bool true)], args := [d] }
  | _ => none }
def scanBackRow : OpenClaim := { program := "ythankfodgdfgaaadoor", sum := "f5bd95b14713c962aaf8affa4566244ef32048eb03e2cb981ac0fbd1b71178c7", func := "soroban/sorobanlaw24.ScanBack", spec := "scanBack", inPlace := ["internal/bytealg.IndexByteString", "internal/abi.NoEscape"], unfollowed := true, recurses := true, named := ["soroban/scanspec.rows", "soroban/scanspec.lengths", "internal/strconv.uint64pow10", "math/bits.deBruijn32tab", "math/bits.deBruijn64tab"], apart := false, laid := [("math/bits.deBruijn32tab", laid_math_bits_deBruijn32tab), ("math/bits.deBruijn64tab", laid_math_bits_deBruijn64tab), ("internal/strconv.uint64pow10", laid_internal_strconv_uint64pow10), ("soroban/scanspec.rows", laid_soroban_scanspec_rows), ("soroban/scanspec.lengths", laid_soroban_scanspec_lengths)] }
def ScanBackSaid : Prop := scanBackRow.holds Tryd.pinned (OpenSpec.ofChange scanBackSpec)

/-- ITS FALSE NEIGHBOUR: 'it returns false'. Refute it at one input. -/
def scanBackWrong : ChangeSpec := { name := "scanBack", fn := fun _ => fun
  | [d] => { results := [.lit (.bool false)], args := [d] }
  | _ => none }
def ScanBackWrongFalsely : Prop := scanBackRow.holds Tryd.pinned (OpenSpec.ofChange scanBackWrong)

/-- 'sorobanlaw24.ScanAgain': WHATEVER THE INPUT: true; the input reads as it did. -/
def scanAgainSpec : ChangeSpec := { name := "scanAgain", fn := fun _ => fun
  | [d] => { results := [.lit (.bool true)], args := [d] }
  | _ => none }
def scanAgainRow : OpenClaim := { program := "ythankfodgdfgaaadoor", sum := "f5bd95b14713c962aaf8affa4566244ef32048eb03e2cb981ac0fbd1b71178c7", func := "soroban/sorobanlaw24.ScanAgain", spec := "scanAgain", inPlace := ["internal/bytealg.IndexByteString", "internal/abi.NoEscape"], unfollowed := true, recurses := true, named := ["soroban/scanspec.rows", "soroban/scanspec.lengths", "internal/strconv.uint64pow10", "math/bits.deBruijn32tab", "math/bits.deBruijn64tab"], apart := false, laid := [("math/bits.deBruijn32tab", laid_math_bits_deBruijn32tab), ("math/bits.deBruijn64tab", laid_math_bits_deBruijn64tab), ("internal/strconv.uint64pow10", laid_internal_strconv_uint64pow10), ("soroban/scanspec.rows", laid_soroban_scanspec_rows), ("soroban/scanspec.lengths", laid_soroban_scanspec_lengths)] }
def ScanAgainSaid : Prop := scanAgainRow.holds Tryd.pinned (OpenSpec.ofChange scanAgainSpec)

/-- ITS FALSE NEIGHBOUR: 'it returns false'. Refute it at one input. -/
def scanAgainWrong : ChangeSpec := { name := "scanAgain", fn := fun _ => fun
  | [d] => { results := [.lit (.bool false)], args := [d] }
  | _ => none }
def ScanAgainWrongFalsely : Prop := scanAgainRow.holds Tryd.pinned (OpenSpec.ofChange scanAgainWrong)

/-- 'sorobanlaw24.ScanSetBack': WHATEVER THE INPUT: true; the input reads as it did. -/
def scanSetBackSpec : ChangeSpec := { name := "scanSetBack", fn := fun _ => fun
  | [d1, d2, d3] => { results := [.lit (.bool true)], args := [d1, d2, d3] }
  | _ => none }
def scanSetBackRow : OpenClaim := { program := "ythankfodgdfgaaadoor", sum := "f5bd95b14713c962aaf8affa4566244ef32048eb03e2cb981ac0fbd1b71178c7", func := "soroban/sorobanlaw24.ScanSetBack", spec := "scanSetBack", inPlace := ["internal/bytealg.IndexByteString", "internal/abi.NoEscape"], unfollowed := true, recurses := true, named := ["soroban/scanspec.rows", "soroban/scanspec.lengths", "internal/strconv.uint64pow10", "math/bits.deBruijn32tab", "math/bits.deBruijn64tab"], apart := false, laid := [("math/bits.deBruijn32tab", laid_math_bits_deBruijn32tab), ("math/bits.deBruijn64tab", laid_math_bits_deBruijn64tab), ("internal/strconv.uint64pow10", laid_internal_strconv_uint64pow10), ("soroban/scanspec.rows", laid_soroban_scanspec_rows), ("soroban/scanspec.lengths", laid_soroban_scanspec_lengths)] }
def ScanSetBackSaid : Prop := scanSetBackRow.holds Tryd.pinned (OpenSpec.ofChange scanSetBackSpec)

/-- ITS FALSE NEIGHBOUR: 'it returns false'. Refute it at one input. -/
def scanSetBackWrong : ChangeSpec := { name := "scanSetBack", fn := fun _ => fun
  | [d1, d2, d3] => { results := [.lit (.bool false)], args := [d1, d2, d3] }
  | _ => none }
def ScanSetBackWrongFalsely : Prop := scanSetBackRow.holds Tryd.pinned (OpenSpec.ofChange scanSetBackWrong)

/-- 'sorobanlaw24.ScanJoins': WHATEVER THE INPUT: true; the input reads as it did. -/
def scanJoinsSpec : ChangeSpec := { name := "scanJoins", fn := fun _ => fun
  | [d1, d2] => { results := [.lit (.bool true)], args := [d1, d2] }
  | _ => none }
def scanJoinsRow : OpenClaim := { program := "ythankfodgdfgaaadoor", sum := "f5bd95b14713c962aaf8affa4566244ef32048eb03e2cb981ac0fbd1b71178c7", func := "soroban/sorobanlaw24.ScanJoins", spec := "scanJoins", inPlace := ["internal/bytealg.IndexByteString", "internal/abi.NoEscape"], unfollowed := true, recurses := true, named := ["soroban/scanspec.rows", "soroban/scanspec.lengths", "internal/strconv.uint64pow10", "math/bits.deBruijn32tab", "math/bits.deBruijn64tab"], apart := false, laid := [("math/bits.deBruijn32tab", laid_math_bits_deBruijn32tab), ("math/bits.deBruijn64tab", laid_math_bits_deBruijn64tab), ("internal/strconv.uint64pow10", laid_internal_strconv_uint64pow10), ("soroban/scanspec.rows", laid_soroban_scanspec_rows), ("soroban/scanspec.lengths", laid_soroban_scanspec_lengths)] }
def ScanJoinsSaid : Prop := scanJoinsRow.holds Tryd.pinned (OpenSpec.ofChange scanJoinsSpec)

/-- ITS FALSE NEIGHBOUR: 'it returns false'. Refute it at one input. -/
def scanJoinsWrong : ChangeSpec := { name := "scanJoins", fn := fun _ => fun
  | [d1, d2] => { results := [.lit (.bool false)], args := [d1, d2] }
  | _ => none }
def ScanJoinsWrongFalsely : Prop := scanJoinsRow.holds Tryd.pinned (OpenSpec.ofChange scanJoinsWrong)

/-- 'sorobanlaw24.ScanOffsets': WHATEVER THE INPUT: true; the input reads as it did. -/
def scanOffsetsSpec : ChangeSpec := { name := "scanOffsets", fn := fun _ => fun
  | [d] => { results := [.lit (.bool true)], args := [d] }
  | _ => none }
def scanOffsetsRow : OpenClaim := { program := "ythankfodgdfgaaadoor", sum := "f5bd95b14713c962aaf8affa4566244ef32048eb03e2cb981ac0fbd1b71178c7", func := "soroban/sorobanlaw24.ScanOffsets", spec := "scanOffsets", inPlace := ["internal/bytealg.IndexByteString", "internal/abi.NoEscape"], unfollowed := true, recurses := true, named := ["soroban/scanspec.rows", "soroban/scanspec.lengths", "internal/strconv.uint64pow10", "math/bits.deBruijn32tab", "math/bits.deBruijn64tab"], apart := false, laid := [("math/bits.deBruijn32tab", laid_math_bits_deBruijn32tab), ("math/bits.deBruijn64tab", laid_math_bits_deBruijn64tab), ("internal/strconv.uint64pow10", laid_internal_strconv_uint64pow10), ("soroban/scanspec.rows", laid_soroban_scanspec_rows), ("soroban/scanspec.lengths", laid_soroban_scanspec_lengths)] }
def ScanOffsetsSaid : Prop := scanOffsetsRow.holds Tryd.pinned (OpenSpec.ofChange scanOffsetsSpec)

/-- ITS FALSE NEIGHBOUR: 'it returns false'. Refute it at one input. -/
def scanOffsetsWrong : ChangeSpec := { name := "scanOffsets", fn := fun _ => fun
  | [d] => { results := [.lit (.bool false)], args := [d] }
  | _ => none }
def ScanOffsetsWrongFalsely : Prop := scanOffsetsRow.holds Tryd.pinned (OpenSpec.ofChange scanOffsetsWrong)

/- THE SECOND FORM. 'bulk': how many values and letters a reading holds, each counted each time it is reached (what is shared counts as often as it is met; a slice's spare places count too). A statement '..UptoSaid' is the law's where the arguments, and the package variables that the reading takes, are together of bulk at most 1048576: NARROWER than '..Said'. Prove '..Said' where nothing that the law and all that it calls make is longer than what came in: it says more and counts as full. Else prove '..UptoSaid'. A law counts once. -/
mutual
def uptoBulk {H : Type} : DataW H → Nat
  | .lit (.string bytes) => bytes.length + 1
  | .lit _ => 1
  | .nil => 1
  | .ptr d => uptoBulk d + 1
  | .slice elems spare => uptoBulkAll elems + uptoBulkAll spare + 1
  | .agg parts => uptoBulkAll parts + 1
  | .iface _ d => uptoBulk d + 1
  | .map entries => uptoBulkEntries entries + 1
  | .held _ => 1
def uptoBulkAll {H : Type} : List (DataW H) → Nat
  | [] => 0
  | d :: r => uptoBulk d + uptoBulkAll r
def uptoBulkEntries {H : Type} : List (Lit × DataW H) → Nat
  | [] => 0
  | x :: r => uptoBulkEntry x + uptoBulkEntries r
def uptoBulkEntry {H : Type} : Lit × DataW H → Nat
  | (.string bytes, d) => bytes.length + uptoBulk d + 1
  | (_, d) => uptoBulk d + 1
 end
def uptoSmall : (H : Type) → List (DataW H) → Bool := fun _ ds => decide (uptoBulkAll ds ≤ 1048576)
def OpenSpec.upto (s : _root_.Go.ChangeSpec) : _root_.Go.OpenSpec := { _root_.Go.OpenSpec.ofChange s with cond := some uptoSmall }

/-- 'sorobanlaw24.ScanReads', WHERE WHAT IT READS IS OF BULK AT MOST 1048576: true; the input reads as it did. -/
def scanReadsUptoRow : OpenClaim := { program := "ythankfodgdfgaaadoor", sum := "f5bd95b14713c962aaf8affa4566244ef32048eb03e2cb981ac0fbd1b71178c7", func := "soroban/sorobanlaw24.ScanReads", spec := "scanReads", inPlace := ["internal/bytealg.IndexByteString", "internal/abi.NoEscape"], unfollowed := true, recurses := true, named := ["soroban/scanspec.rows", "soroban/scanspec.lengths", "internal/strconv.uint64pow10", "math/bits.deBruijn32tab", "math/bits.deBruijn64tab"], apart := false, laid := [("math/bits.deBruijn32tab", laid_math_bits_deBruijn32tab), ("math/bits.deBruijn64tab", laid_math_bits_deBruijn64tab), ("internal/strconv.uint64pow10", laid_internal_strconv_uint64pow10), ("soroban/scanspec.rows", laid_soroban_scanspec_rows), ("soroban/scanspec.lengths", laid_soroban_scanspec_lengths)], narrowed := true }
def ScanReadsUptoSaid : Prop := scanReadsUptoRow.holds Tryd.pinned (OpenSpec.upto scanReadsSpec)

/-- 'sorobanlaw24.ScanLists', WHERE WHAT IT READS IS OF BULK AT MOST 1048576: true; the input reads as it did. -/
def scanListsUptoRow : OpenClaim := { program := "ythankfodgdfgaaadoor", sum := "f5bd95b14713c962aaf8affa4566244ef32048eb03e2cb981ac0fbd1b71178c7", func := "soroban/sorobanlaw24.ScanLists", spec := "scanLists", inPlace := ["internal/bytealg.IndexByteString", "internal/abi.NoEscape"], unfollowed := true, recurses := true, named := ["soroban/scanspec.rows", "soroban/scanspec.lengths", "internal/strconv.uint64pow10", "math/bits.deBruijn32tab", "math/bits.deBruijn64tab"], apart := false, laid := [("math/bits.deBruijn32tab", laid_math_bits_deBruijn32tab), ("math/bits.deBruijn64tab", laid_math_bits_deBruijn64tab), ("internal/strconv.uint64pow10", laid_internal_strconv_uint64pow10), ("soroban/scanspec.rows", laid_soroban_scanspec_rows), ("soroban/scanspec.lengths", laid_soroban_scanspec_lengths)], narrowed := true }
def ScanListsUptoSaid : Prop := scanListsUptoRow.holds Tryd.pinned (OpenSpec.upto scanListsSpec)

/-- 'sorobanlaw24.ScanSets', WHERE WHAT IT READS IS OF BULK AT MOST 1048576: true; the input reads as it did. -/
def scanSetsUptoRow : OpenClaim := { program := "ythankfodgdfgaaadoor", sum := "f5bd95b14713c962aaf8affa4566244ef32048eb03e2cb981ac0fbd1b71178c7", func := "soroban/sorobanlaw24.ScanSets", spec := "scanSets", inPlace := ["internal/bytealg.IndexByteString", "internal/abi.NoEscape"], unfollowed := true, recurses := true, named := ["soroban/scanspec.rows", "soroban/scanspec.lengths", "internal/strconv.uint64pow10", "math/bits.deBruijn32tab", "math/bits.deBruijn64tab"], apart := false, laid := [("math/bits.deBruijn32tab", laid_math_bits_deBruijn32tab), ("math/bits.deBruijn64tab", laid_math_bits_deBruijn64tab), ("internal/strconv.uint64pow10", laid_internal_strconv_uint64pow10), ("soroban/scanspec.rows", laid_soroban_scanspec_rows), ("soroban/scanspec.lengths", laid_soroban_scanspec_lengths)], narrowed := true }
def ScanSetsUptoSaid : Prop := scanSetsUptoRow.holds Tryd.pinned (OpenSpec.upto scanSetsSpec)

/-- 'sorobanlaw24.ScanBack', WHERE WHAT IT READS IS OF BULK AT MOST 1048576: true; the input reads as it did. -/
def scanBackUptoRow : OpenClaim := { program := "ythankfodgdfgaaadoor", sum := "f5bd95b14713c962aaf8affa4566244ef32048eb03e2cb981ac0fbd1b71178c7", func := "soroban/sorobanlaw24.ScanBack", spec := "scanBack", inPlace := ["internal/bytealg.IndexByteString", "internal/abi.NoEscape"], unfollowed := true, recurses := true, named := ["soroban/scanspec.rows", "soroban/scanspec.lengths", "internal/strconv.uint64pow10", "math/bits.deBruijn32tab", "math/bits.deBruijn64tab"], apart := false, laid := [("math/bits.deBruijn32tab", laid_math_bits_deBruijn32tab), ("math/bits.deBruijn64tab", laid_math_bits_deBruijn64tab), ("internal/strconv.uint64pow10", laid_internal_strconv_uint64pow10), ("soroban/scanspec.rows", laid_soroban_scanspec_rows), ("soroban/scanspec.lengths", laid_soroban_scanspec_lengths)], narrowed := true }
def ScanBackUptoSaid : Prop := scanBackUptoRow.holds Tryd.pinned (OpenSpec.upto scanBackSpec)

/-- 'sorobanlaw24.ScanAgain', WHERE WHAT IT READS IS OF BULK AT MOST 1048576: true; the input reads as it did. -/
def scanAgainUptoRow : OpenClaim := { program := "ythankfodgdfgaaadoor", sum := "f5bd95b14713c962aaf8affa4566244ef32048eb03e2cb981ac0fbd1b71178c7", func := "soroban/sorobanlaw24.ScanAgain", spec := "scanAgain", inPlace := ["internal/bytealg.IndexByteString", "internal/abi.NoEscape"], unfollowed := true, recurses := true, named := ["soroban/scanspec.rows", "soroban/scanspec.lengths", "internal/strconv.uint64pow10", "math/bits.deBruijn32tab", "math/bits.deBruijn64tab"], apart := false, laid := [("math/bits.deBruijn32tab", laid_math_bits_deBruijn32tab), ("math/bits.deBruijn64tab", laid_math_bits_deBruijn64tab), ("internal/strconv.uint64pow10", laid_internal_strconv_uint64pow10), ("soroban/scanspec.rows", laid_soroban_scanspec_rows), ("soroban/scanspec.lengths", laid_soroban_scanspec_lengths)], narrowed := true }
def ScanAgainUptoSaid : Prop := scanAgainUptoRow.holds Tryd.pinned (OpenSpec.upto scanAgainSpec)

/-- 'sorobanlaw24.ScanSetBack', WHERE WHAT IT READS IS OF BULK AT MOST 1048576: true; the input reads as it did. -/
def scanSetBackUptoRow : OpenClaim := { program := "ythankfodgdfgaaadoor", sum := "f5bd95b14713c962aaf8affa4566244ef32048eb03e2cb981ac0fbd1b71178c7", func := "soroban/sorobanlaw24.ScanSetBack", spec := "scanSetBack", inPlace := ["internal/bytealg.IndexByteString", "internal/abi.NoEscape"], unfollowed := true, recurses := true, named := ["soroban/scanspec.rows", "soroban/scanspec.lengths", "internal/strconv.uint64pow10", "math/bits.deBruijn32tab", "math/bits.deBruijn64tab"], apart := false, laid := [("math/bits.deBruijn32tab", laid_math_bits_deBruijn32tab), ("math/bits.deBruijn64tab", laid_math_bits_deBruijn64tab), ("internal/strconv.uint64pow10", laid_internal_strconv_uint64pow10), ("soroban/scanspec.rows", laid_soroban_scanspec_rows), ("soroban/scanspec.lengths", laid_soroban_scanspec_lengths)], narrowed := true }
def ScanSetBackUptoSaid : Prop := scanSetBackUptoRow.holds Tryd.pinned (OpenSpec.upto scanSetBackSpec)

/-- 'sorobanlaw24.ScanJoins', WHERE WHAT IT READS IS OF BULK AT MOST 1048576: true; the input reads as it did. -/
def scanJoinsUptoRow : OpenClaim := { program := "ythankfodgdfgaaadoor", sum := "f5bd95b14713c962aaf8affa4566244ef32048eb03e2cb981ac0fbd1b71178c7", func := "soroban/sorobanlaw24.ScanJoins", spec := "scanJoins", inPlace := ["internal/bytealg.IndexByteString", "internal/abi.NoEscape"], unfollowed := true, recurses := true, named := ["soroban/scanspec.rows", "soroban/scanspec.lengths", "internal/strconv.uint64pow10", "math/bits.deBruijn32tab", "math/bits.deBruijn64tab"], apart := false, laid := [("math/bits.deBruijn32tab", laid_math_bits_deBruijn32tab), ("math/bits.deBruijn64tab", laid_math_bits_deBruijn64tab), ("internal/strconv.uint64pow10", laid_internal_strconv_uint64pow10), ("soroban/scanspec.rows", laid_soroban_scanspec_rows), ("soroban/scanspec.lengths", laid_soroban_scanspec_lengths)], narrowed := true }
def ScanJoinsUptoSaid : Prop := scanJoinsUptoRow.holds Tryd.pinned (OpenSpec.upto scanJoinsSpec)

/-- 'sorobanlaw24.ScanOffsets', WHERE WHAT IT READS IS OF BULK AT MOST 1048576: true; the input reads as it did. -/
def scanOffsetsUptoRow : OpenClaim := { program := "ythankfodgdfgaaadoor", sum := "f5bd95b14713c962aaf8affa4566244ef32048eb03e2cb981ac0fbd1b71178c7", func := "soroban/sorobanlaw24.ScanOffsets", spec := "scanOffsets", inPlace := ["internal/bytealg.IndexByteString", "internal/abi.NoEscape"], unfollowed := true, recurses := true, named := ["soroban/scanspec.rows", "soroban/scanspec.lengths", "internal/strconv.uint64pow10", "math/bits.deBruijn32tab", "math/bits.deBruijn64tab"], apart := false, laid := [("math/bits.deBruijn32tab", laid_math_bits_deBruijn32tab), ("math/bits.deBruijn64tab", laid_math_bits_deBruijn64tab), ("internal/strconv.uint64pow10", laid_internal_strconv_uint64pow10), ("soroban/scanspec.rows", laid_soroban_scanspec_rows), ("soroban/scanspec.lengths", laid_soroban_scanspec_lengths)], narrowed := true }
def ScanOffsetsUptoSaid : Prop := scanOffsetsUptoRow.holds Tryd.pinned (OpenSpec.upto scanOffsetsSpec)

end Rows
end Go.Proofs.YthankfodgdfgaaaDoor
