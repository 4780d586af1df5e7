/- DeciRests: for every two data with coefficients of at most 1100 elements whose exponents are not farther from each other than 700, Rem returns what the specification returns; no condition but the tables as they are laid. -/
import Derived.Test.YtaglofmanchabaaGreatDoorRXF2
set_option linter.unusedVariables false
set_option linter.unusedSimpArgs false
set_option linter.unnecessarySimpa false
set_option maxRecDepth 100000
namespace Go.Proofs.YtaglofmanchabaaGreatDoor
open Go.ChangeShapes Go.WideShapes Go.ChangeAt Go.RowKit Go.V
theorem deciRests_byText : Rows.deciRestsRow.wfByText (OpenSpec.ofChange Rows.deciRestsSpec) = true := by kernel_rfl
theorem deciRests_goes : false = Rows.deciRestsRow.goesBy Tryz.pinned.checked.prog := by kernel_rfl
theorem deciRests_card_holds : Rows.DeciRestsCardSaid :=
  Claim7.holds_tied_plain_at .later [] [.data] true (true, "58c42f9d67fc7e9e7262abd59a18499bba7912e1bd170f361a558a6280eacf8e") true deciRests_holds (fun _ h => by cases h) deciRests_byText (fun _ h => by cases h) deciRests_row_tie rfl ⟨rfl, rfl⟩ ZjI rfl
    (fun f fn hf hfn => by
      obtain rfl : f = 6 := Option.some.inj (deciRests_named.symm.trans hf) |>.symm
      obtain rfl : fn = Tryz.f6 := (Option.some.inj (Tryz.func6.symm.trans hfn)).symm
      exact ⟨Zhs, fun j t ht => by
        rw [Tryz.params6] at ht
        have hm : t ∈ [25, 25] := by simpa using Array.mem_of_getElem? ht
        have hall : ([25, 25].all fun u => !Tryz.prog.wantsStandIn u) = true := by kernel_rfl
        exact (show Tryz.prog.wantsStandIn t = false by simpa using List.all_eq_true.1 hall t hm)⟩)
    deciRests_goes
#print axioms deciRests_card_holds
end Go.Proofs.YtaglofmanchabaaGreatDoor
