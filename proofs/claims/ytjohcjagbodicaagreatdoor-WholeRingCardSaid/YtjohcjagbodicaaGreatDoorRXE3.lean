/- WholeRing: for every three integers, sums and products form a ring that the order respects: the law returns true and leaves its arguments as they were; no condition beyond the row. -/
import Derived.Test.YtjohcjagbodicaaGreatDoorRXE2
set_option linter.unusedVariables false
set_option linter.unusedSimpArgs false
set_option maxRecDepth 100000
namespace Go.Proofs.YtjohcjagbodicaaGreatDoor
open Go.ChangeShapes Go.WideShapes Go.ChangeAt Go.RowKit Go.V

theorem wholeRing_byText : Rows.wholeRingRow.wfByText (OpenSpec.ofChange Rows.wholeRingSpec) = true := by kernel_rfl
theorem wholeRing_goes : false = Rows.wholeRingRow.goesBy Tryz.pinned.checked.prog := by kernel_rfl
theorem wholeRing_card_holds : Rows.WholeRingCardSaid :=
  Claim7.holds_tied_plain_at .later [] [.data, .pinned, .pinned] true (true, "5b8a1e8da34a88fc5bd34c331ad38cb7b46866bf85af6ffc6bc920dabf7d6da1") true wholeRing_holds (fun _ h => by cases h) wholeRing_byText (fun _ h => by cases h) wholeRing_row_tie rfl ⟨rfl, rfl⟩ z_main rfl
    (fun f fn hf hfn => by
      obtain rfl : f = 8 := Option.some.inj (wholeRing_named.symm.trans hf) |>.symm
      obtain rfl : fn = Tryz.f8 := (Option.some.inj (Tryz.func8.symm.trans hfn)).symm
      exact ⟨z_looks, fun j t ht => by
        rw [Tryz.params8] at ht
        have hm : t ∈ [25, 25, 25] := by simpa using Array.mem_of_getElem? ht
        have hall : ([25, 25, 25].all fun u => !Tryz.prog.wantsStandIn u) = true := by kernel_rfl
        exact (show Tryz.prog.wantsStandIn t = false by simpa using List.all_eq_true.1 hall t hm)⟩)
    wholeRing_goes
#print axioms wholeRing_card_holds
end Go.Proofs.YtjohcjagbodicaaGreatDoor
