/-
  DERIVED. GIVEN WITH THE SEED: THE CARDS: each row of YthankfodgdfgaaaDoorRows.lean that lists a variable, with what it lists TIED to the program's text (the seventh form; the later family's looks); each row that meets fmt, with fmt's text TOLD by the authors' own Lean function (tested against real Go, not proved from fmt's source: count such statements apart). THE CARD IS WHAT COUNTS. Prove the row's statement (the work); the ties are given (YthankfodgdfgaaaDoorTie.lean); close each card by the builder's one call (the guide's Derived/Test/ToyasCard.lean, 'card_holds'). Laid BY PROGRAM, IN A SANDBOX (cutbox-door.mjs). By AI agents, Wed Nov 11 2026. No macro, syntax, notation, axiom, sorry.
-/
import Derived.Test.YthankfodgdfgaaaDoorRows
import GoSem.ClaimSeven
namespace Go.Proofs.YthankfodgdfgaaaDoor
namespace Rows

/-- THE TIED CARD OF 'sorobanlaw24.ScanReads'. -/
def scanReadsCard : Claim7 := { stood := { row := scanReadsRow, standIns := [], harness := (true, "4a358535a3fdcf16b8f6994064c82af79c63477f10344ea5494afcbe3a711897"), looks := true }, kinds := [], alts := [], laidByText := true, laidKinds := [.data, .data, .data, .mapped, .data], laidTests := true, laidLooks := .later }
def ScanReadsCardSaid : Prop := Claim7.holds Tryd.pinned (.plain (OpenSpec.ofChange scanReadsSpec)) scanReadsCard

/-- THE TIED CARD OF 'sorobanlaw24.ScanLists'. -/
def scanListsCard : Claim7 := { stood := { row := scanListsRow, standIns := [], harness := (true, "4a358535a3fdcf16b8f6994064c82af79c63477f10344ea5494afcbe3a711897"), looks := true }, kinds := [], alts := [], laidByText := true, laidKinds := [.data, .data, .data, .mapped, .data], laidTests := true, laidLooks := .later }
def ScanListsCardSaid : Prop := Claim7.holds Tryd.pinned (.plain (OpenSpec.ofChange scanListsSpec)) scanListsCard

/-- THE TIED CARD OF 'sorobanlaw24.ScanSets'. -/
def scanSetsCard : Claim7 := { stood := { row := scanSetsRow, standIns := [], harness := (true, "4a358535a3fdcf16b8f6994064c82af79c63477f10344ea5494afcbe3a711897"), looks := true }, kinds := [], alts := [], laidByText := true, laidKinds := [.data, .data, .data, .mapped, .data], laidTests := true, laidLooks := .later }
def ScanSetsCardSaid : Prop := Claim7.holds Tryd.pinned (.plain (OpenSpec.ofChange scanSetsSpec)) scanSetsCard

/-- THE TIED CARD OF 'sorobanlaw24.ScanBack'. -/
def scanBackCard : Claim7 := { stood := { row := scanBackRow, standIns := [], harness := (true, "4a358535a3fdcf16b8f6994064c82af79c63477f10344ea5494afcbe3a711897"), looks := true }, kinds := [], alts := [], laidByText := true, laidKinds := [.data, .data, .data, .mapped, .data], laidTests := true, laidLooks := .later }
def ScanBackCardSaid : Prop := Claim7.holds Tryd.pinned (.plain (OpenSpec.ofChange scanBackSpec)) scanBackCard

/-- THE TIED CARD OF 'sorobanlaw24.ScanAgain'. -/
def scanAgainCard : Claim7 := { stood := { row := scanAgainRow, standIns := [], harness := (true, "4a358535a3fdcf16b8f6994064c82af79c63477f10344ea5494afcbe3a711897"), looks := true }, kinds := [], alts := [], laidByText := true, laidKinds := [.data, .data, .data, .mapped, .data], laidTests := true, laidLooks := .later }
def ScanAgainCardSaid : Prop := Claim7.holds Tryd.pinned (.plain (OpenSpec.ofChange scanAgainSpec)) scanAgainCard

/-- THE TIED CARD OF 'sorobanlaw24.ScanSetBack'. -/
def scanSetBackCard : Claim7 := { stood := { row := scanSetBackRow, standIns := [], harness := (true, "4a358535a3fdcf16b8f6994064c82af79c63477f10344ea5494afcbe3a711897"), looks := true }, kinds := [], alts := [], laidByText := true, laidKinds := [.data, .data, .data, .mapped, .data], laidTests := true, laidLooks := .later }
def ScanSetBackCardSaid : Prop := Claim7.holds Tryd.pinned (.plain (OpenSpec.ofChange scanSetBackSpec)) scanSetBackCard

/-- THE TIED CARD OF 'sorobanlaw24.ScanJoins'. -/
def scanJoinsCard : Claim7 := { stood := { row := scanJoinsRow, standIns := [], harness := (true, "4a358535a3fdcf16b8f6994064c82af79c63477f10344ea5494afcbe3a711897"), looks := true }, kinds := [], alts := [], laidByText := true, laidKinds := [.data, .data, .data, .mapped, .data], laidTests := true, laidLooks := .later }
def ScanJoinsCardSaid : Prop := Claim7.holds Tryd.pinned (.plain (OpenSpec.ofChange scanJoinsSpec)) scanJoinsCard

/-- THE TIED CARD OF 'sorobanlaw24.ScanOffsets'. -/
def scanOffsetsCard : Claim7 := { stood := { row := scanOffsetsRow, standIns := [], harness := (true, "4a358535a3fdcf16b8f6994064c82af79c63477f10344ea5494afcbe3a711897"), looks := true }, kinds := [], alts := [], laidByText := true, laidKinds := [.data, .data, .data, .mapped, .data], laidTests := true, laidLooks := .later }
def ScanOffsetsCardSaid : Prop := Claim7.holds Tryd.pinned (.plain (OpenSpec.ofChange scanOffsetsSpec)) scanOffsetsCard

/-- THE SECOND FORM's CARD OF 'sorobanlaw24.ScanReads'. -/
def scanReadsUptoCard : Claim7 := { stood := { row := scanReadsUptoRow, standIns := [], harness := (true, "4a358535a3fdcf16b8f6994064c82af79c63477f10344ea5494afcbe3a711897"), looks := true }, kinds := [], alts := [], laidByText := true, laidKinds := [.data, .data, .data, .mapped, .data], laidTests := true, laidLooks := .later }
def ScanReadsUptoCardSaid : Prop := Claim7.holds Tryd.pinned (.plain (OpenSpec.upto scanReadsSpec)) scanReadsUptoCard

/-- THE SECOND FORM's CARD OF 'sorobanlaw24.ScanLists'. -/
def scanListsUptoCard : Claim7 := { stood := { row := scanListsUptoRow, standIns := [], harness := (true, "4a358535a3fdcf16b8f6994064c82af79c63477f10344ea5494afcbe3a711897"), looks := true }, kinds := [], alts := [], laidByText := true, laidKinds := [.data, .data, .data, .mapped, .data], laidTests := true, laidLooks := .later }
def ScanListsUptoCardSaid : Prop := Claim7.holds Tryd.pinned (.plain (OpenSpec.upto scanListsSpec)) scanListsUptoCard

/-- THE SECOND FORM's CARD OF 'sorobanlaw24.ScanSets'. -/
def scanSetsUptoCard : Claim7 := { stood := { row := scanSetsUptoRow, standIns := [], harness := (true, "4a358535a3fdcf16b8f6994064c82af79c63477f10344ea5494afcbe3a711897"), looks := true }, kinds := [], alts := [], laidByText := true, laidKinds := [.data, .data, .data, .mapped, .data], laidTests := true, laidLooks := .later }
def ScanSetsUptoCardSaid : Prop := Claim7.holds Tryd.pinned (.plain (OpenSpec.upto scanSetsSpec)) scanSetsUptoCard

/-- THE SECOND FORM's CARD OF 'sorobanlaw24.ScanBack'. -/
def scanBackUptoCard : Claim7 := { stood := { row := scanBackUptoRow, standIns := [], harness := (true, "4a358535a3fdcf16b8f6994064c82af79c63477f10344ea5494afcbe3a711897"), looks := true }, kinds := [], alts := [], laidByText := true, laidKinds := [.data, .data, .data, .mapped, .data], laidTests := true, laidLooks := .later }
def ScanBackUptoCardSaid : Prop := Claim7.holds Tryd.pinned (.plain (OpenSpec.upto scanBackSpec)) scanBackUptoCard

/-- THE SECOND FORM's CARD OF 'sorobanlaw24.ScanAgain'. -/
def scanAgainUptoCard : Claim7 := { stood := { row := scanAgainUptoRow, standIns := [], harness := (true, "4a358535a3fdcf16b8f6994064c82af79c63477f10344ea5494afcbe3a711897"), looks := true }, kinds := [], alts := [], laidByText := true, laidKinds := [.data, .data, .data, .mapped, .data], laidTests := true, laidLooks := .later }
def ScanAgainUptoCardSaid : Prop := Claim7.holds Tryd.pinned (.plain (OpenSpec.upto scanAgainSpec)) scanAgainUptoCard

/-- THE SECOND FORM's CARD OF 'sorobanlaw24.ScanSetBack'. -/
def scanSetBackUptoCard : Claim7 := { stood := { row := scanSetBackUptoRow, standIns := [], harness := (true, "4a358535a3fdcf16b8f6994064c82af79c63477f10344ea5494afcbe3a711897"), looks := true }, kinds := [], alts := [], laidByText := true, laidKinds := [.data, .data, .data, .mapped, .data], laidTests := true, laidLooks := .later }
def ScanSetBackUptoCardSaid : Prop := Claim7.holds Tryd.pinned (.plain (OpenSpec.upto scanSetBackSpec)) scanSetBackUptoCard

/-- THE SECOND FORM's CARD OF 'sorobanlaw24.ScanJoins'. -/
def scanJoinsUptoCard : Claim7 := { stood := { row := scanJoinsUptoRow, standIns := [], harness := (true, "4a358535a3fdcf16b8f6994064c82af79c63477f10344ea5494afcbe3a711897"), looks := true }, kinds := [], alts := [], laidByText := true, laidKinds := [.data, .data, .data, .mapped, .data], laidTests := true, laidLooks := .later }
def ScanJoinsUptoCardSaid : Prop := Claim7.holds Tryd.pinned (.plain (OpenSpec.upto scanJoinsSpec)) scanJoinsUptoCard

/-- THE SECOND FORM's CARD OF 'sorobanlaw24.ScanOffsets'. -/
def scanOffsetsUptoCard : Claim7 := { stood := { row := scanOffsetsUptoRow, standIns := [], harness := (true, "4a358535a3fdcf16b8f6994064c82af79c63477f10344ea5494afcbe3a711897"), looks := true }, kinds := [], alts := [], laidByText := true, laidKinds := [.data, .data, .data, .mapped, .data], laidTests := true, laidLooks := .later }
def ScanOffsetsUptoCardSaid : Prop := Claim7.holds Tryd.pinned (.plain (OpenSpec.upto scanOffsetsSpec)) scanOffsetsUptoCard
end Rows
end Go.Proofs.YthankfodgdfgaaaDoor
