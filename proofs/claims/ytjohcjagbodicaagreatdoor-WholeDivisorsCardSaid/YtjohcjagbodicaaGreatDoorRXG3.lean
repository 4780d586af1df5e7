/- WholeDivisors: for every two integers, Gcd and Inverse agree with the specification: the law returns true and leaves its arguments as they were; no condition beyond the row. -/
import Derived.Test.YtjohcjagbodicaaGreatDoorRXG2
set_option linter.unusedVariables false
set_option linter.unusedSimpArgs false
set_option maxRecDepth 100000
namespace Go.Proofs.YtjohcjagbodicaaGreatDoor
open Go.ChangeShapes Go.WideShapes Go.ChangeAt Go.RowKit Go.V
theorem wholeDivisors_byText : Rows.wholeDivisorsRow.wfByText (OpenSpec.ofChange Rows.wholeDivisorsSpec) = true := by kernel_rfl
theorem wholeDivisors_goes : false = Rows.wholeDivisorsRow.goesBy Tryz.pinned.checked.prog := by kernel_rfl
theorem wholeDivisors_card_holds : Rows.WholeDivisorsCardSaid :=
  Claim7.holds_tied_plain_at .later [] [.data, .pinned, .pinned] true (true, "5b8a1e8da34a88fc5bd34c331ad38cb7b46866bf85af6ffc6bc920dabf7d6da1") true wholeDivisors_holds (fun _ h => by cases h) wholeDivisors_byText (fun _ h => by cases h) wholeDivisors_row_tie rfl ⟨rfl, rfl⟩ z_main rfl
    (fun f fn hf hfn => by
      obtain rfl : f = 4 := Option.some.inj (wholeDivisors_named.symm.trans hf) |>.symm
      obtain rfl : fn = Tryz.f4 := (Option.some.inj (Tryz.func4.symm.trans hfn)).symm
      exact ⟨z_looks, fun j t ht => by
        rw [Tryz.params4] at ht
        have hm : t ∈ [25, 25] := by simpa using Array.mem_of_getElem? ht
        have hall : ([25, 25].all fun u => !Tryz.prog.wantsStandIn u) = true := by kernel_rfl
        exact (show Tryz.prog.wantsStandIn t = false by simpa using List.all_eq_true.1 hall t hm)⟩)
    wholeDivisors_goes
#print axioms wholeDivisors_card_holds
end Go.Proofs.YtjohcjagbodicaaGreatDoor
