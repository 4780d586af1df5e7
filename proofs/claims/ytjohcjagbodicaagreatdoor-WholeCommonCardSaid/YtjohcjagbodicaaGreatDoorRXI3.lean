/- WholeCommon: for every three integers, the greatest common divisor divides both and is divided by common ones, its factors give it, and the inverse of the inverse is the rest: the law returns true and leaves its arguments as they were; no condition beyond the row. -/
import Derived.Test.YtjohcjagbodicaaGreatDoorRXI2
set_option linter.unusedVariables false
set_option linter.unusedSimpArgs false
set_option maxRecDepth 100000
namespace Go.Proofs.YtjohcjagbodicaaGreatDoor
open Go.ChangeShapes Go.WideShapes Go.ChangeAt Go.RowKit Go.V
theorem wholeCommon_byText : Rows.wholeCommonRow.wfByText (OpenSpec.ofChange Rows.wholeCommonSpec) = true := by kernel_rfl
theorem wholeCommon_goes : false = Rows.wholeCommonRow.goesBy Tryz.pinned.checked.prog := by kernel_rfl
theorem wholeCommon_card_holds : Rows.WholeCommonCardSaid :=
  Claim7.holds_tied_plain_at .later [] [.data, .pinned, .pinned] true (true, "5b8a1e8da34a88fc5bd34c331ad38cb7b46866bf85af6ffc6bc920dabf7d6da1") true wholeCommon_holds (fun _ h => by cases h) wholeCommon_byText (fun _ h => by cases h) wholeCommon_row_tie rfl ⟨rfl, rfl⟩ z_main rfl
    (fun f fn hf hfn => by
      obtain rfl : f = 7 := Option.some.inj (wholeCommon_named.symm.trans hf) |>.symm
      obtain rfl : fn = Tryz.f7 := (Option.some.inj (Tryz.func7.symm.trans hfn)).symm
      exact ⟨z_looks, fun j t ht => by
        rw [Tryz.params7] at ht
        have hm : t ∈ [25, 25, 25] := by simpa using Array.mem_of_getElem? ht
        have hall : ([25, 25, 25].all fun u => !Tryz.prog.wantsStandIn u) = true := by kernel_rfl
        exact (show Tryz.prog.wantsStandIn t = false by simpa using List.all_eq_true.1 hall t hm)⟩)
    wholeCommon_goes
#print axioms wholeCommon_card_holds
end Go.Proofs.YtjohcjagbodicaaGreatDoor
