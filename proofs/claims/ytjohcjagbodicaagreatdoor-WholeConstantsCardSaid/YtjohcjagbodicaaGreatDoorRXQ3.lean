/- WholeConstants: ParseC, PrintC and TypeC agree with the specification, for any text and constant as the statement's guards let them in; no other condition. -/
import Derived.Test.YtjohcjagbodicaaGreatDoorRXQ2
set_option linter.unusedVariables false
set_option linter.unusedSimpArgs false
set_option maxRecDepth 100000
namespace Go.Proofs.YtjohcjagbodicaaGreatDoor
open Go.ChangeShapes Go.WideShapes Go.ChangeAt Go.RowKit Go.V
theorem wholeConstants_byText : Rows.wholeConstantsRow.wfByText (OpenSpec.ofChange Rows.wholeConstantsSpec) = true := by kernel_rfl
theorem wholeConstants_goes : false = Rows.wholeConstantsRow.goesBy Tryz.pinned.checked.prog := by kernel_rfl
theorem wholeConstants_card_holds : Rows.WholeConstantsCardSaid :=
  Claim7.holds_tied_plain_at .later [] [.data, .data, .pinned, .pinned] true (true, "5b8a1e8da34a88fc5bd34c331ad38cb7b46866bf85af6ffc6bc920dabf7d6da1") true wholeConstants_holds (fun _ h => by cases h) wholeConstants_byText (fun _ h => by cases h) wholeConstants_row_tie rfl ⟨rfl, rfl⟩ z_main rfl
    (fun f fn hf hfn => by
      obtain rfl : f = 17 := Option.some.inj (wholeConstants_named.symm.trans hf) |>.symm
      obtain rfl : fn = Tryz.f17 := (Option.some.inj (Tryz.func17.symm.trans hfn)).symm
      exact ⟨z_looks, fun j t ht => by
        rw [Tryz.params17] at ht
        have hm : t ∈ [9, 87] := by simpa using Array.mem_of_getElem? ht
        have hall : ([9, 87].all fun u => !Tryz.prog.wantsStandIn u) = true := by kernel_rfl
        exact (show Tryz.prog.wantsStandIn t = false by simpa using List.all_eq_true.1 hall t hm)⟩)
    wholeConstants_goes
#print axioms wholeConstants_card_holds
end Go.Proofs.YtjohcjagbodicaaGreatDoor
