/- WholeBack: Parse undoes Text to each base, and a text to the base 16 is that to the base 2, four digits at a time, for any integer, base and case as the statement's guards let them in; no other condition. -/
import Derived.Test.YtjohcjagbodicaaGreatDoorRXP2
set_option linter.unusedVariables false
set_option linter.unusedSimpArgs false
set_option maxRecDepth 100000
namespace Go.Proofs.YtjohcjagbodicaaGreatDoor
open Go.ChangeShapes Go.WideShapes Go.ChangeAt Go.RowKit Go.V
theorem wholeBack_byText : Rows.wholeBackRow.wfByText (OpenSpec.ofChange Rows.wholeBackSpec) = true := by kernel_rfl
theorem wholeBack_goes : false = Rows.wholeBackRow.goesBy Tryz.pinned.checked.prog := by kernel_rfl
theorem wholeBack_card_holds : Rows.WholeBackCardSaid :=
  Claim7.holds_tied_plain_at .later [] [.data, .pinned, .pinned] true (true, "5b8a1e8da34a88fc5bd34c331ad38cb7b46866bf85af6ffc6bc920dabf7d6da1") true wholeBack_holds (fun _ h => by cases h) wholeBack_byText (fun _ h => by cases h) wholeBack_row_tie rfl ⟨rfl, rfl⟩ z_main rfl
    (fun f fn hf hfn => by
      obtain rfl : f = 12 := Option.some.inj (wholeBack_named.symm.trans hf) |>.symm
      obtain rfl : fn = Tryz.f12 := (Option.some.inj (Tryz.func12.symm.trans hfn)).symm
      exact ⟨z_looks, fun j t ht => by
        rw [Tryz.params12] at ht
        have hm : t ∈ [25, 3, 4] := by simpa using Array.mem_of_getElem? ht
        have hall : ([25, 3, 4].all fun u => !Tryz.prog.wantsStandIn u) = true := by kernel_rfl
        exact (show Tryz.prog.wantsStandIn t = false by simpa using List.all_eq_true.1 hall t hm)⟩)
    wholeBack_goes
#print axioms wholeBack_card_holds
end Go.Proofs.YtjohcjagbodicaaGreatDoor
