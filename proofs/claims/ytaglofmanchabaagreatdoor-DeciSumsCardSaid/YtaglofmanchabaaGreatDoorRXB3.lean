/- DeciSums: for every two data with coefficients of at most 1100 elements, and every direction, Add and Sub return what the specification returns; no condition but the tables as they are laid. -/
import Derived.Test.YtaglofmanchabaaGreatDoorRXB2
set_option linter.unusedVariables false
set_option linter.unusedSimpArgs false
set_option linter.unnecessarySimpa false
set_option maxRecDepth 100000
namespace Go.Proofs.YtaglofmanchabaaGreatDoor
open Go.ChangeShapes Go.WideShapes Go.ChangeAt Go.RowKit Go.V
theorem deciSums_byText : Rows.deciSumsRow.wfByText (OpenSpec.ofChange Rows.deciSumsSpec) = true := by kernel_rfl
theorem deciSums_goes : false = Rows.deciSumsRow.goesBy Tryz.pinned.checked.prog := by kernel_rfl
theorem deciSums_card_holds : Rows.DeciSumsCardSaid :=
  Claim7.holds_tied_plain_at .later [] [.data] true (true, "58c42f9d67fc7e9e7262abd59a18499bba7912e1bd170f361a558a6280eacf8e") true deciSums_holds (fun _ h => by cases h) deciSums_byText (fun _ h => by cases h) deciSums_row_tie rfl ⟨rfl, rfl⟩ ZjI rfl
    (fun f fn hf hfn => by
      obtain rfl : f = 3 := Option.some.inj (deciSums_named.symm.trans hf) |>.symm
      obtain rfl : fn = Tryz.f3 := (Option.some.inj (Tryz.func3.symm.trans hfn)).symm
      exact ⟨Zhs, fun j t ht => by
        rw [Tryz.params3] at ht
        have hm : t ∈ [25, 25, 3] := by simpa using Array.mem_of_getElem? ht
        have hall : ([25, 25, 3].all fun u => !Tryz.prog.wantsStandIn u) = true := by kernel_rfl
        exact (show Tryz.prog.wantsStandIn t = false by simpa using List.all_eq_true.1 hall t hm)⟩)
    deciSums_goes
#print axioms deciSums_card_holds
end Go.Proofs.YtaglofmanchabaaGreatDoor
