/- WholeWraps: for every two integers, every number of bits and sign, Wrap keeps the low bits of sums and products, and is within its bounds: the law returns true and leaves its arguments as they were; no condition beyond the row. -/
import Derived.Test.YtjohcjagbodicaaGreatDoorRXJ2
set_option linter.unusedVariables false
set_option linter.unusedSimpArgs false
set_option maxRecDepth 100000
namespace Go.Proofs.YtjohcjagbodicaaGreatDoor
open Go.ChangeShapes Go.WideShapes Go.ChangeAt Go.RowKit Go.V
theorem wholeWraps_byText : Rows.wholeWrapsRow.wfByText (OpenSpec.ofChange Rows.wholeWrapsSpec) = true := by kernel_rfl
theorem wholeWraps_goes : false = Rows.wholeWrapsRow.goesBy Tryz.pinned.checked.prog := by kernel_rfl
theorem wholeWraps_card_holds : Rows.WholeWrapsCardSaid :=
  Claim7.holds_tied_plain_at .later [] [.data, .pinned, .pinned] true (true, "5b8a1e8da34a88fc5bd34c331ad38cb7b46866bf85af6ffc6bc920dabf7d6da1") true wholeWraps_holds (fun _ h => by cases h) wholeWraps_byText (fun _ h => by cases h) wholeWraps_row_tie rfl ⟨rfl, rfl⟩ z_main rfl
    (fun f fn hf hfn => by
      obtain rfl : f = 10 := Option.some.inj (wholeWraps_named.symm.trans hf) |>.symm
      obtain rfl : fn = Tryz.f10 := (Option.some.inj (Tryz.func10.symm.trans hfn)).symm
      exact ⟨z_looks, fun j t ht => by
        rw [Tryz.params10] at ht
        have hm : t ∈ [25, 25, 3, 4] := by simpa using Array.mem_of_getElem? ht
        have hall : ([25, 25, 3, 4].all fun u => !Tryz.prog.wantsStandIn u) = true := by kernel_rfl
        exact (show Tryz.prog.wantsStandIn t = false by simpa using List.all_eq_true.1 hall t hm)⟩)
    wholeWraps_goes
#print axioms wholeWraps_card_holds
end Go.Proofs.YtjohcjagbodicaaGreatDoor
