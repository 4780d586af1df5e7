/-
  DERIVED. GIVEN WITH THE SEED: THE CARDS: each row of YtaglofmanchabaaGreatDoorRows.lean that lists a variable, with what it lists TIED to the program's text (the seventh form; the later family's looks); each row that meets fmt, with fmt's text TOLD by the authors' own Lean function (tested against real Go, not proved from fmt's source: count such statements apart). THE CARD IS WHAT COUNTS. Prove the row's statement (the work); the ties are given (YtaglofmanchabaaGreatDoorTie.lean); close each card by the builder's one call (the guide's Derived/Test/ToyasCard.lean, 'card_holds'). Laid BY PROGRAM, IN A SANDBOX (cutbox-door.mjs). By AI agents, Wed Nov 11 2026. No macro, syntax, notation, axiom, sorry.
-/
import Derived.Test.YtaglofmanchabaaGreatDoorRows
import GoSem.ClaimSeven
namespace Go.Proofs.YtaglofmanchabaaGreatDoor
namespace Rows

/-- THE TIED CARD OF 'sorobanlaw09.DeciSums'. -/
def deciSumsCard : Claim7 := { stood := { row := deciSumsRow, standIns := [], harness := (true, "58c42f9d67fc7e9e7262abd59a18499bba7912e1bd170f361a558a6280eacf8e"), looks := true }, kinds := [], alts := [], laidByText := true, laidKinds := [.data], laidTests := true, laidLooks := .later }
def DeciSumsCardSaid : Prop := Claim7.holds Tryz.pinned (.plain (OpenSpec.ofChange deciSumsSpec)) deciSumsCard

/-- THE TIED CARD OF 'sorobanlaw09.DeciProducts'. -/
def deciProductsCard : Claim7 := { stood := { row := deciProductsRow, standIns := [], harness := (true, "58c42f9d67fc7e9e7262abd59a18499bba7912e1bd170f361a558a6280eacf8e"), looks := true }, kinds := [], alts := [], laidByText := true, laidKinds := [.data], laidTests := true, laidLooks := .later }
def DeciProductsCardSaid : Prop := Claim7.holds Tryz.pinned (.plain (OpenSpec.ofChange deciProductsSpec)) deciProductsCard

/-- THE TIED CARD OF 'sorobanlaw09.DeciRoots'. -/
def deciRootsCard : Claim7 := { stood := { row := deciRootsRow, standIns := [], harness := (true, "58c42f9d67fc7e9e7262abd59a18499bba7912e1bd170f361a558a6280eacf8e"), looks := true }, kinds := [], alts := [], laidByText := true, laidKinds := [.data], laidTests := true, laidLooks := .later }
def DeciRootsCardSaid : Prop := Claim7.holds Tryz.pinned (.plain (OpenSpec.ofChange deciRootsSpec)) deciRootsCard

/-- THE TIED CARD OF 'sorobanlaw09.DeciRests'. -/
def deciRestsCard : Claim7 := { stood := { row := deciRestsRow, standIns := [], harness := (true, "58c42f9d67fc7e9e7262abd59a18499bba7912e1bd170f361a558a6280eacf8e"), looks := true }, kinds := [], alts := [], laidByText := true, laidKinds := [.data], laidTests := true, laidLooks := .later }
def DeciRestsCardSaid : Prop := Claim7.holds Tryz.pinned (.plain (OpenSpec.ofChange deciRestsSpec)) deciRestsCard

/-- THE TIED CARD OF 'sorobanlaw09.DeciQuantizes'. -/
def deciQuantizesCard : Claim7 := { stood := { row := deciQuantizesRow, standIns := [], harness := (true, "58c42f9d67fc7e9e7262abd59a18499bba7912e1bd170f361a558a6280eacf8e"), looks := true }, kinds := [], alts := [], laidByText := true, laidKinds := [.data], laidTests := true, laidLooks := .later }
def DeciQuantizesCardSaid : Prop := Claim7.holds Tryz.pinned (.plain (OpenSpec.ofChange deciQuantizesSpec)) deciQuantizesCard

/-- THE TIED CARD OF 'sorobanlaw09.DeciFused'. -/
def deciFusedCard : Claim7 := { stood := { row := deciFusedRow, standIns := [], harness := (true, "58c42f9d67fc7e9e7262abd59a18499bba7912e1bd170f361a558a6280eacf8e"), looks := true }, kinds := [], alts := [], laidByText := true, laidKinds := [.data], laidTests := true, laidLooks := .later }
def DeciFusedCardSaid : Prop := Claim7.holds Tryz.pinned (.plain (OpenSpec.ofChange deciFusedSpec)) deciFusedCard

/-- THE TIED CARD OF 'sorobanlaw09.DeciCohorts'. -/
def deciCohortsCard : Claim7 := { stood := { row := deciCohortsRow, standIns := [], harness := (true, "58c42f9d67fc7e9e7262abd59a18499bba7912e1bd170f361a558a6280eacf8e"), looks := true }, kinds := [], alts := [], laidByText := true, laidKinds := [.data], laidTests := true, laidLooks := .later }
def DeciCohortsCardSaid : Prop := Claim7.holds Tryz.pinned (.plain (OpenSpec.ofChange deciCohortsSpec)) deciCohortsCard

/-- THE TIED CARD OF 'sorobanlaw09.DeciAlgebra'. -/
def deciAlgebraCard : Claim7 := { stood := { row := deciAlgebraRow, standIns := [], harness := (true, "58c42f9d67fc7e9e7262abd59a18499bba7912e1bd170f361a558a6280eacf8e"), looks := true }, kinds := [], alts := [], laidByText := true, laidKinds := [.data], laidTests := true, laidLooks := .later }
def DeciAlgebraCardSaid : Prop := Claim7.holds Tryz.pinned (.plain (OpenSpec.ofChange deciAlgebraSpec)) deciAlgebraCard

/-- THE TIED CARD OF 'sorobanlaw09.DeciDirections'. -/
def deciDirectionsCard : Claim7 := { stood := { row := deciDirectionsRow, standIns := [], harness := (true, "58c42f9d67fc7e9e7262abd59a18499bba7912e1bd170f361a558a6280eacf8e"), looks := true }, kinds := [], alts := [], laidByText := true, laidKinds := [.data], laidTests := true, laidLooks := .later }
def DeciDirectionsCardSaid : Prop := Claim7.holds Tryz.pinned (.plain (OpenSpec.ofChange deciDirectionsSpec)) deciDirectionsCard

/-- THE TIED CARD OF 'sorobanlaw09.DeciRounds'. -/
def deciRoundsCard : Claim7 := { stood := { row := deciRoundsRow, standIns := [], harness := (true, "58c42f9d67fc7e9e7262abd59a18499bba7912e1bd170f361a558a6280eacf8e"), looks := true }, kinds := [], alts := [], laidByText := true, laidKinds := [.data], laidTests := true, laidLooks := .later }
def DeciRoundsCardSaid : Prop := Claim7.holds Tryz.pinned (.plain (OpenSpec.ofChange deciRoundsSpec)) deciRoundsCard

/-- THE TIED CARD OF 'sorobanlaw09.DeciLeft'. -/
def deciLeftCard : Claim7 := { stood := { row := deciLeftRow, standIns := [], harness := (true, "58c42f9d67fc7e9e7262abd59a18499bba7912e1bd170f361a558a6280eacf8e"), looks := true }, kinds := [], alts := [], laidByText := true, laidKinds := [.data], laidTests := true, laidLooks := .later }
def DeciLeftCardSaid : Prop := Claim7.holds Tryz.pinned (.plain (OpenSpec.ofChange deciLeftSpec)) deciLeftCard

/-- THE TIED CARD OF 'sorobanlaw09.DeciQuanta'. -/
def deciQuantaCard : Claim7 := { stood := { row := deciQuantaRow, standIns := [], harness := (true, "58c42f9d67fc7e9e7262abd59a18499bba7912e1bd170f361a558a6280eacf8e"), looks := true }, kinds := [], alts := [], laidByText := true, laidKinds := [.data], laidTests := true, laidLooks := .later }
def DeciQuantaCardSaid : Prop := Claim7.holds Tryz.pinned (.plain (OpenSpec.ofChange deciQuantaSpec)) deciQuantaCard

/-- THE TIED CARD OF 'sorobanlaw09.DeciShifts'. -/
def deciShiftsCard : Claim7 := { stood := { row := deciShiftsRow, standIns := [], harness := (true, "58c42f9d67fc7e9e7262abd59a18499bba7912e1bd170f361a558a6280eacf8e"), looks := true }, kinds := [], alts := [], laidByText := true, laidKinds := [.data, .data, .data, .data, .data, .pinned], laidTests := true, laidLooks := .later }
def DeciShiftsCardSaid : Prop := Claim7.holds Tryz.pinned (.plain (OpenSpec.ofChange deciShiftsSpec)) deciShiftsCard

/-- THE TIED CARD OF 'sorobanlaw09.DeciMoves'. -/
def deciMovesCard : Claim7 := { stood := { row := deciMovesRow, standIns := [], harness := (true, "58c42f9d67fc7e9e7262abd59a18499bba7912e1bd170f361a558a6280eacf8e"), looks := true }, kinds := [], alts := [], laidByText := true, laidKinds := [.data, .data, .data, .data, .data, .pinned], laidTests := true, laidLooks := .later }
def DeciMovesCardSaid : Prop := Claim7.holds Tryz.pinned (.plain (OpenSpec.ofChange deciMovesSpec)) deciMovesCard

/-- THE SECOND FORM's CARD OF 'sorobanlaw09.DeciSums'. -/
def deciSumsUptoCard : Claim7 := { stood := { row := deciSumsUptoRow, standIns := [], harness := (true, "58c42f9d67fc7e9e7262abd59a18499bba7912e1bd170f361a558a6280eacf8e"), looks := true }, kinds := [], alts := [], laidByText := true, laidKinds := [.data], laidTests := true, laidLooks := .later }
def DeciSumsUptoCardSaid : Prop := Claim7.holds Tryz.pinned (.plain (OpenSpec.upto deciSumsSpec)) deciSumsUptoCard

/-- THE SECOND FORM's CARD OF 'sorobanlaw09.DeciProducts'. -/
def deciProductsUptoCard : Claim7 := { stood := { row := deciProductsUptoRow, standIns := [], harness := (true, "58c42f9d67fc7e9e7262abd59a18499bba7912e1bd170f361a558a6280eacf8e"), looks := true }, kinds := [], alts := [], laidByText := true, laidKinds := [.data], laidTests := true, laidLooks := .later }
def DeciProductsUptoCardSaid : Prop := Claim7.holds Tryz.pinned (.plain (OpenSpec.upto deciProductsSpec)) deciProductsUptoCard

/-- THE SECOND FORM's CARD OF 'sorobanlaw09.DeciRoots'. -/
def deciRootsUptoCard : Claim7 := { stood := { row := deciRootsUptoRow, standIns := [], harness := (true, "58c42f9d67fc7e9e7262abd59a18499bba7912e1bd170f361a558a6280eacf8e"), looks := true }, kinds := [], alts := [], laidByText := true, laidKinds := [.data], laidTests := true, laidLooks := .later }
def DeciRootsUptoCardSaid : Prop := Claim7.holds Tryz.pinned (.plain (OpenSpec.upto deciRootsSpec)) deciRootsUptoCard

/-- THE SECOND FORM's CARD OF 'sorobanlaw09.DeciRests'. -/
def deciRestsUptoCard : Claim7 := { stood := { row := deciRestsUptoRow, standIns := [], harness := (true, "58c42f9d67fc7e9e7262abd59a18499bba7912e1bd170f361a558a6280eacf8e"), looks := true }, kinds := [], alts := [], laidByText := true, laidKinds := [.data], laidTests := true, laidLooks := .later }
def DeciRestsUptoCardSaid : Prop := Claim7.holds Tryz.pinned (.plain (OpenSpec.upto deciRestsSpec)) deciRestsUptoCard

/-- THE SECOND FORM's CARD OF 'sorobanlaw09.DeciQuantizes'. -/
def deciQuantizesUptoCard : Claim7 := { stood := { row := deciQuantizesUptoRow, standIns := [], harness := (true, "58c42f9d67fc7e9e7262abd59a18499bba7912e1bd170f361a558a6280eacf8e"), looks := true }, kinds := [], alts := [], laidByText := true, laidKinds := [.data], laidTests := true, laidLooks := .later }
def DeciQuantizesUptoCardSaid : Prop := Claim7.holds Tryz.pinned (.plain (OpenSpec.upto deciQuantizesSpec)) deciQuantizesUptoCard

/-- THE SECOND FORM's CARD OF 'sorobanlaw09.DeciFused'. -/
def deciFusedUptoCard : Claim7 := { stood := { row := deciFusedUptoRow, standIns := [], harness := (true, "58c42f9d67fc7e9e7262abd59a18499bba7912e1bd170f361a558a6280eacf8e"), looks := true }, kinds := [], alts := [], laidByText := true, laidKinds := [.data], laidTests := true, laidLooks := .later }
def DeciFusedUptoCardSaid : Prop := Claim7.holds Tryz.pinned (.plain (OpenSpec.upto deciFusedSpec)) deciFusedUptoCard

/-- THE SECOND FORM's CARD OF 'sorobanlaw09.DeciCohorts'. -/
def deciCohortsUptoCard : Claim7 := { stood := { row := deciCohortsUptoRow, standIns := [], harness := (true, "58c42f9d67fc7e9e7262abd59a18499bba7912e1bd170f361a558a6280eacf8e"), looks := true }, kinds := [], alts := [], laidByText := true, laidKinds := [.data], laidTests := true, laidLooks := .later }
def DeciCohortsUptoCardSaid : Prop := Claim7.holds Tryz.pinned (.plain (OpenSpec.upto deciCohortsSpec)) deciCohortsUptoCard

/-- THE SECOND FORM's CARD OF 'sorobanlaw09.DeciAlgebra'. -/
def deciAlgebraUptoCard : Claim7 := { stood := { row := deciAlgebraUptoRow, standIns := [], harness := (true, "58c42f9d67fc7e9e7262abd59a18499bba7912e1bd170f361a558a6280eacf8e"), looks := true }, kinds := [], alts := [], laidByText := true, laidKinds := [.data], laidTests := true, laidLooks := .later }
def DeciAlgebraUptoCardSaid : Prop := Claim7.holds Tryz.pinned (.plain (OpenSpec.upto deciAlgebraSpec)) deciAlgebraUptoCard

/-- THE SECOND FORM's CARD OF 'sorobanlaw09.DeciDirections'. -/
def deciDirectionsUptoCard : Claim7 := { stood := { row := deciDirectionsUptoRow, standIns := [], harness := (true, "58c42f9d67fc7e9e7262abd59a18499bba7912e1bd170f361a558a6280eacf8e"), looks := true }, kinds := [], alts := [], laidByText := true, laidKinds := [.data], laidTests := true, laidLooks := .later }
def DeciDirectionsUptoCardSaid : Prop := Claim7.holds Tryz.pinned (.plain (OpenSpec.upto deciDirectionsSpec)) deciDirectionsUptoCard

/-- THE SECOND FORM's CARD OF 'sorobanlaw09.DeciRounds'. -/
def deciRoundsUptoCard : Claim7 := { stood := { row := deciRoundsUptoRow, standIns := [], harness := (true, "58c42f9d67fc7e9e7262abd59a18499bba7912e1bd170f361a558a6280eacf8e"), looks := true }, kinds := [], alts := [], laidByText := true, laidKinds := [.data], laidTests := true, laidLooks := .later }
def DeciRoundsUptoCardSaid : Prop := Claim7.holds Tryz.pinned (.plain (OpenSpec.upto deciRoundsSpec)) deciRoundsUptoCard

/-- THE SECOND FORM's CARD OF 'sorobanlaw09.DeciLeft'. -/
def deciLeftUptoCard : Claim7 := { stood := { row := deciLeftUptoRow, standIns := [], harness := (true, "58c42f9d67fc7e9e7262abd59a18499bba7912e1bd170f361a558a6280eacf8e"), looks := true }, kinds := [], alts := [], laidByText := true, laidKinds := [.data], laidTests := true, laidLooks := .later }
def DeciLeftUptoCardSaid : Prop := Claim7.holds Tryz.pinned (.plain (OpenSpec.upto deciLeftSpec)) deciLeftUptoCard

/-- THE SECOND FORM's CARD OF 'sorobanlaw09.DeciQuanta'. -/
def deciQuantaUptoCard : Claim7 := { stood := { row := deciQuantaUptoRow, standIns := [], harness := (true, "58c42f9d67fc7e9e7262abd59a18499bba7912e1bd170f361a558a6280eacf8e"), looks := true }, kinds := [], alts := [], laidByText := true, laidKinds := [.data], laidTests := true, laidLooks := .later }
def DeciQuantaUptoCardSaid : Prop := Claim7.holds Tryz.pinned (.plain (OpenSpec.upto deciQuantaSpec)) deciQuantaUptoCard

/-- THE SECOND FORM's CARD OF 'sorobanlaw09.DeciShifts'. -/
def deciShiftsUptoCard : Claim7 := { stood := { row := deciShiftsUptoRow, standIns := [], harness := (true, "58c42f9d67fc7e9e7262abd59a18499bba7912e1bd170f361a558a6280eacf8e"), looks := true }, kinds := [], alts := [], laidByText := true, laidKinds := [.data, .data, .data, .data, .data, .pinned], laidTests := true, laidLooks := .later }
def DeciShiftsUptoCardSaid : Prop := Claim7.holds Tryz.pinned (.plain (OpenSpec.upto deciShiftsSpec)) deciShiftsUptoCard

/-- THE SECOND FORM's CARD OF 'sorobanlaw09.DeciMoves'. -/
def deciMovesUptoCard : Claim7 := { stood := { row := deciMovesUptoRow, standIns := [], harness := (true, "58c42f9d67fc7e9e7262abd59a18499bba7912e1bd170f361a558a6280eacf8e"), looks := true }, kinds := [], alts := [], laidByText := true, laidKinds := [.data, .data, .data, .data, .data, .pinned], laidTests := true, laidLooks := .later }
def DeciMovesUptoCardSaid : Prop := Claim7.holds Tryz.pinned (.plain (OpenSpec.upto deciMovesSpec)) deciMovesUptoCard
end Rows
end Go.Proofs.YtaglofmanchabaaGreatDoor
