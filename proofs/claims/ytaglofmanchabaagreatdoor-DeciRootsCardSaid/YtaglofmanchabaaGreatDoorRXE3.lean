/- DeciRoots: for every datum with a coefficient of at most 1100 elements, and every direction, Sqrt returns what the specification returns; no condition but the tables as they are laid. -/
import Derived.Test.YtaglofmanchabaaGreatDoorRXE2
set_option linter.unusedVariables false
set_option linter.unusedSimpArgs false
set_option linter.unnecessarySimpa false
set_option maxRecDepth 100000
namespace Go.Proofs.YtaglofmanchabaaGreatDoor
open Go.ChangeShapes Go.WideShapes Go.ChangeAt Go.RowKit Go.V
theorem deciRoots_byText : Rows.deciRootsRow.wfByText (OpenSpec.ofChange Rows.deciRootsSpec) = true := by kernel_rfl
theorem deciRoots_goes : false = Rows.deciRootsRow.goesBy Tryz.pinned.checked.prog := by kernel_rfl
theorem deciRoots_card_holds : Rows.DeciRootsCardSaid :=
  Claim7.holds_tied_plain_at .later [] [.data] true (true, "58c42f9d67fc7e9e7262abd59a18499bba7912e1bd170f361a558a6280eacf8e") true deciRoots_holds (fun _ h => by cases h) deciRoots_byText (fun _ h => by cases h) deciRoots_row_tie rfl ⟨rfl, rfl⟩ ZjI rfl
    (fun f fn hf hfn => by
      obtain rfl : f = 5 := Option.some.inj (deciRoots_named.symm.trans hf) |>.symm
      obtain rfl : fn = Tryz.f5 := (Option.some.inj (Tryz.func5.symm.trans hfn)).symm
      exact ⟨Zhs, fun j t ht => by
        rw [Tryz.params5] at ht
        have hm : t ∈ [25, 3] := by simpa using Array.mem_of_getElem? ht
        have hall : ([25, 3].all fun u => !Tryz.prog.wantsStandIn u) = true := by kernel_rfl
        exact (show Tryz.prog.wantsStandIn t = false by simpa using List.all_eq_true.1 hall t hm)⟩)
    deciRoots_goes
#print axioms deciRoots_card_holds
end Go.Proofs.YtaglofmanchabaaGreatDoor
