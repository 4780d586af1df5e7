/- WholeTypes: ParseC undoes PrintC, types have their values, and marks between digits change nothing, for any text, constant and integer as the statement's guards let them in; no other condition. -/
import Derived.Test.YtjohcjagbodicabGreatDoorRXR2
set_option linter.unusedVariables false
set_option linter.unusedSimpArgs false
set_option maxRecDepth 100000
namespace Go.Proofs.YtjohcjagbodicabGreatDoor
open Go.ChangeShapes Go.WideShapes Go.ChangeAt Go.RowKit Go.V
theorem wholeTypes_byText : Rows.wholeTypesRow.wfByText (OpenSpec.ofChange Rows.wholeTypesSpec) = true := by kernel_rfl
theorem wholeTypes_goes : false = Rows.wholeTypesRow.goesBy Tryz.pinned.checked.prog := by kernel_rfl
theorem wholeTypes_card_holds : Rows.WholeTypesCardSaid :=
  Claim7.holds_tied_plain_at .later [] [.data, .data, .pinned, .pinned] true (true, "0eaac02da20f3b0a4a7643b70ef23497176c9d6e71762c3dc05b4930fe19773c") true wholeTypes_holds (fun _ h => by cases h) wholeTypes_byText (fun _ h => by cases h) wholeTypes_row_tie rfl ⟨rfl, rfl⟩ z_main rfl
    (fun f fn hf hfn => by
      obtain rfl : f = 3 := Option.some.inj (wholeTypes_named.symm.trans hf) |>.symm
      obtain rfl : fn = Tryz.f3 := (Option.some.inj (Tryz.func3.symm.trans hfn)).symm
      exact ⟨z_looks, fun j t ht => by
        rw [Tryz.params3] at ht
        have hm : t ∈ [9, 25, 27] := by simpa using Array.mem_of_getElem? ht
        have hall : ([9, 25, 27].all fun u => !Tryz.prog.wantsStandIn u) = true := by kernel_rfl
        exact (show Tryz.prog.wantsStandIn t = false by simpa using List.all_eq_true.1 hall t hm)⟩)
    wholeTypes_goes
#print axioms wholeTypes_card_holds
end Go.Proofs.YtjohcjagbodicabGreatDoor
