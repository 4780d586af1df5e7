/- WholeTexts: Text and Parse agree with the specification, for any integer, base, case and text, as the statement's guards let them in; no other condition. -/
import Derived.Test.YtjohcjagbodicaaGreatDoorRXO2
set_option linter.unusedVariables false
set_option linter.unusedSimpArgs false
set_option maxRecDepth 100000
namespace Go.Proofs.YtjohcjagbodicaaGreatDoor
open Go.ChangeShapes Go.WideShapes Go.ChangeAt Go.RowKit Go.V
theorem wholeTexts_byText : Rows.wholeTextsRow.wfByText (OpenSpec.ofChange Rows.wholeTextsSpec) = true := by kernel_rfl
theorem wholeTexts_goes : false = Rows.wholeTextsRow.goesBy Tryz.pinned.checked.prog := by kernel_rfl
theorem wholeTexts_card_holds : Rows.WholeTextsCardSaid :=
  Claim7.holds_tied_plain_at .later [] [.data, .pinned, .pinned] true (true, "5b8a1e8da34a88fc5bd34c331ad38cb7b46866bf85af6ffc6bc920dabf7d6da1") true wholeTexts_holds (fun _ h => by cases h) wholeTexts_byText (fun _ h => by cases h) wholeTexts_row_tie rfl ⟨rfl, rfl⟩ z_main rfl
    (fun f fn hf hfn => by
      obtain rfl : f = 11 := Option.some.inj (wholeTexts_named.symm.trans hf) |>.symm
      obtain rfl : fn = Tryz.f11 := (Option.some.inj (Tryz.func11.symm.trans hfn)).symm
      exact ⟨z_looks, fun j t ht => by
        rw [Tryz.params11] at ht
        have hm : t ∈ [25, 3, 4, 9] := by simpa using Array.mem_of_getElem? ht
        have hall : ([25, 3, 4, 9].all fun u => !Tryz.prog.wantsStandIn u) = true := by kernel_rfl
        exact (show Tryz.prog.wantsStandIn t = false by simpa using List.all_eq_true.1 hall t hm)⟩)
    wholeTexts_goes
#print axioms wholeTexts_card_holds
end Go.Proofs.YtjohcjagbodicaaGreatDoor
