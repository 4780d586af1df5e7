/- DeciProducts: for every two data with coefficients of at most 1100 elements, and every direction, Mul and Div return what the specification returns; no condition but the tables as they are laid. -/
import Derived.Test.YtaglofmanchabaaGreatDoorRXC2
set_option linter.unusedVariables false
set_option linter.unusedSimpArgs false
set_option linter.unnecessarySimpa false
set_option maxRecDepth 100000
namespace Go.Proofs.YtaglofmanchabaaGreatDoor
open Go.ChangeShapes Go.WideShapes Go.ChangeAt Go.RowKit Go.V
theorem deciProducts_byText : Rows.deciProductsRow.wfByText (OpenSpec.ofChange Rows.deciProductsSpec) = true := by kernel_rfl
theorem deciProducts_goes : false = Rows.deciProductsRow.goesBy Tryz.pinned.checked.prog := by kernel_rfl
theorem deciProducts_card_holds : Rows.DeciProductsCardSaid :=
  Claim7.holds_tied_plain_at .later [] [.data] true (true, "58c42f9d67fc7e9e7262abd59a18499bba7912e1bd170f361a558a6280eacf8e") true deciProducts_holds (fun _ h => by cases h) deciProducts_byText (fun _ h => by cases h) deciProducts_row_tie rfl ⟨rfl, rfl⟩ ZjI rfl
    (fun f fn hf hfn => by
      obtain rfl : f = 4 := Option.some.inj (deciProducts_named.symm.trans hf) |>.symm
      obtain rfl : fn = Tryz.f4 := (Option.some.inj (Tryz.func4.symm.trans hfn)).symm
      exact ⟨Zhs, fun j t ht => by
        rw [Tryz.params4] at ht
        have hm : t ∈ [25, 25, 3] := by simpa using Array.mem_of_getElem? ht
        have hall : ([25, 25, 3].all fun u => !Tryz.prog.wantsStandIn u) = true := by kernel_rfl
        exact (show Tryz.prog.wantsStandIn t = false by simpa using List.all_eq_true.1 hall t hm)⟩)
    deciProducts_goes
#print axioms deciProducts_card_holds
end Go.Proofs.YtaglofmanchabaaGreatDoor
