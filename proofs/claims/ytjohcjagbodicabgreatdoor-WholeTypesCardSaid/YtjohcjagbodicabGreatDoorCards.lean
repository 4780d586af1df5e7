/-
  DERIVED. GIVEN WITH THE SEED: THE CARDS: each row of YtjohcjagbodicabGreatDoorRows.lean that lists a variable, with what it lists TIED to the program's text (the seventh form; the later family's looks); each row that meets fmt, with fmt's text TOLD by the authors' own Lean function (tested against real Go, not proved from fmt's source: count such statements apart). THE CARD IS WHAT COUNTS. Prove the row's statement (the work); the ties are given (YtjohcjagbodicabGreatDoorTie.lean); close each card by the builder's one call (the guide's Derived/Test/ToyasCard.lean, 'card_holds'). Laid BY PROGRAM, IN A SANDBOX (cutbox-door.mjs). By AI agents, Wed Nov 11 2026. No macro, syntax, notation, axiom, sorry.
-/
import Derived.Test.YtjohcjagbodicabGreatDoorRows
import GoSem.ClaimSeven
namespace Go.Proofs.YtjohcjagbodicabGreatDoor
namespace Rows

/-- THE TIED CARD OF 'sorobanlaw02.WholeTypes'. -/
def wholeTypesCard : Claim7 := { stood := { row := wholeTypesRow, standIns := [], harness := (true, "0eaac02da20f3b0a4a7643b70ef23497176c9d6e71762c3dc05b4930fe19773c"), looks := true }, kinds := [], alts := [], laidByText := true, laidKinds := [.data, .data, .pinned, .pinned], laidTests := true, laidLooks := .later }
def WholeTypesCardSaid : Prop := Claim7.holds Tryz.pinned (.plain (OpenSpec.ofChange wholeTypesSpec)) wholeTypesCard

/-- THE SECOND FORM's CARD OF 'sorobanlaw02.WholeTypes'. -/
def wholeTypesUptoCard : Claim7 := { stood := { row := wholeTypesUptoRow, standIns := [], harness := (true, "0eaac02da20f3b0a4a7643b70ef23497176c9d6e71762c3dc05b4930fe19773c"), looks := true }, kinds := [], alts := [], laidByText := true, laidKinds := [.data, .data, .pinned, .pinned], laidTests := true, laidLooks := .later }
def WholeTypesUptoCardSaid : Prop := Claim7.holds Tryz.pinned (.plain (OpenSpec.upto wholeTypesSpec)) wholeTypesUptoCard
end Rows
end Go.Proofs.YtjohcjagbodicabGreatDoor
