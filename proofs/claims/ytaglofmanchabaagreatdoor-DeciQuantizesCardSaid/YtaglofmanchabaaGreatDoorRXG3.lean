/- DeciQuantizes: for every two data with coefficients of at most 1100 elements, and every direction, Quantize and SameQuantum return what the specification returns; no condition but the tables as they are laid. -/
import Derived.Test.YtaglofmanchabaaGreatDoorRXG2
set_option linter.unusedVariables false
set_option linter.unusedSimpArgs false
set_option linter.unnecessarySimpa false
set_option maxRecDepth 100000
namespace Go.Proofs.YtaglofmanchabaaGreatDoor
open Go.ChangeShapes Go.WideShapes Go.ChangeAt Go.RowKit Go.V
theorem deciQuantizes_byText : Rows.deciQuantizesRow.wfByText (OpenSpec.ofChange Rows.deciQuantizesSpec) = true := by kernel_rfl
theorem deciQuantizes_goes : false = Rows.deciQuantizesRow.goesBy Tryz.pinned.checked.prog := by kernel_rfl
theorem deciQuantizes_card_holds : Rows.DeciQuantizesCardSaid :=
  Claim7.holds_tied_plain_at .later [] [.data] true (true, "58c42f9d67fc7e9e7262abd59a18499bba7912e1bd170f361a558a6280eacf8e") true deciQuantizes_holds (fun _ h => by cases h) deciQuantizes_byText (fun _ h => by cases h) deciQuantizes_row_tie rfl ⟨rfl, rfl⟩ ZjI rfl
    (fun f fn hf hfn => by
      obtain rfl : f = 7 := Option.some.inj (deciQuantizes_named.symm.trans hf) |>.symm
      obtain rfl : fn = Tryz.f7 := (Option.some.inj (Tryz.func7.symm.trans hfn)).symm
      exact ⟨Zhs, fun j t ht => by
        rw [Tryz.params7] at ht
        have hm : t ∈ [25, 25, 3] := by simpa using Array.mem_of_getElem? ht
        have hall : ([25, 25, 3].all fun u => !Tryz.prog.wantsStandIn u) = true := by kernel_rfl
        exact (show Tryz.prog.wantsStandIn t = false by simpa using List.all_eq_true.1 hall t hm)⟩)
    deciQuantizes_goes
#print axioms deciQuantizes_card_holds
end Go.Proofs.YtaglofmanchabaaGreatDoor
