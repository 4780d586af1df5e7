/- WholePowers: for every three integers and every int, Pow and ModPow agree with the specification: the law returns true and leaves its arguments as they were; no condition beyond the row. -/
import Derived.Test.YtjohcjagbodicaaGreatDoorRXK2
set_option linter.unusedVariables false
set_option linter.unusedSimpArgs false
set_option maxRecDepth 100000
namespace Go.Proofs.YtjohcjagbodicaaGreatDoor
open Go.ChangeShapes Go.WideShapes Go.ChangeAt Go.RowKit Go.V
theorem wholePowers_byText : Rows.wholePowersRow.wfByText (OpenSpec.ofChange Rows.wholePowersSpec) = true := by kernel_rfl
theorem wholePowers_goes : false = Rows.wholePowersRow.goesBy Tryz.pinned.checked.prog := by kernel_rfl
theorem wholePowers_card_holds : Rows.WholePowersCardSaid :=
  Claim7.holds_tied_plain_at .later [] [.data, .pinned, .pinned] true (true, "5b8a1e8da34a88fc5bd34c331ad38cb7b46866bf85af6ffc6bc920dabf7d6da1") true wholePowers_holds (fun _ h => by cases h) wholePowers_byText (fun _ h => by cases h) wholePowers_row_tie rfl ⟨rfl, rfl⟩ z_main rfl
    (fun f fn hf hfn => by
      obtain rfl : f = 13 := Option.some.inj (wholePowers_named.symm.trans hf) |>.symm
      obtain rfl : fn = Tryz.f13 := (Option.some.inj (Tryz.func13.symm.trans hfn)).symm
      exact ⟨z_looks, fun j t ht => by
        rw [Tryz.params13] at ht
        have hm : t ∈ [25, 3, 25, 25] := by simpa using Array.mem_of_getElem? ht
        have hall : ([25, 3, 25, 25].all fun u => !Tryz.prog.wantsStandIn u) = true := by kernel_rfl
        exact (show Tryz.prog.wantsStandIn t = false by simpa using List.all_eq_true.1 hall t hm)⟩)
    wholePowers_goes
#print axioms wholePowers_card_holds
end Go.Proofs.YtjohcjagbodicaaGreatDoor
