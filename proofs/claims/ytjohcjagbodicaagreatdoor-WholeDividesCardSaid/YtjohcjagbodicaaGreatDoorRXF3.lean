/- WholeDivides: for every two integers and every int, Div agrees with the specification, in all four ways and any other one: the law returns true and leaves its arguments as they were; no condition beyond the row. -/
import Derived.Test.YtjohcjagbodicaaGreatDoorRXF2
set_option linter.unusedVariables false
set_option linter.unusedSimpArgs false
set_option maxRecDepth 100000
namespace Go.Proofs.YtjohcjagbodicaaGreatDoor
open Go.ChangeShapes Go.WideShapes Go.ChangeAt Go.RowKit Go.V

theorem wholeDivides_byText : Rows.wholeDividesRow.wfByText (OpenSpec.ofChange Rows.wholeDividesSpec) = true := by kernel_rfl
theorem wholeDivides_goes : false = Rows.wholeDividesRow.goesBy Tryz.pinned.checked.prog := by kernel_rfl
theorem wholeDivides_card_holds : Rows.WholeDividesCardSaid :=
  Claim7.holds_tied_plain_at .later [] [.data, .pinned, .pinned] true (true, "5b8a1e8da34a88fc5bd34c331ad38cb7b46866bf85af6ffc6bc920dabf7d6da1") true wholeDivides_holds (fun _ h => by cases h) wholeDivides_byText (fun _ h => by cases h) wholeDivides_row_tie rfl ⟨rfl, rfl⟩ z_main rfl
    (fun f fn hf hfn => by
      obtain rfl : f = 3 := Option.some.inj (wholeDivides_named.symm.trans hf) |>.symm
      obtain rfl : fn = Tryz.f3 := (Option.some.inj (Tryz.func3.symm.trans hfn)).symm
      exact ⟨z_looks, fun j t ht => by
        rw [Tryz.params3] at ht
        have hm : t ∈ [25, 25, 3] := by simpa using Array.mem_of_getElem? ht
        have hall : ([25, 25, 3].all fun u => !Tryz.prog.wantsStandIn u) = true := by kernel_rfl
        exact (show Tryz.prog.wantsStandIn t = false by simpa using List.all_eq_true.1 hall t hm)⟩)
    wholeDivides_goes
#print axioms wholeDivides_card_holds
end Go.Proofs.YtjohcjagbodicaaGreatDoor
