/- WholeFermat: for every two integers and every numbers, powers add up, ModPow is the rest of Pow, and the p-th power is the base by seven primes: the law returns true and leaves its arguments as they were; no condition beyond the row. -/
import Derived.Test.YtjohcjagbodicaaGreatDoorRXL2
set_option linter.unusedVariables false
set_option linter.unusedSimpArgs false
set_option maxRecDepth 100000
namespace Go.Proofs.YtjohcjagbodicaaGreatDoor
open Go.ChangeShapes Go.WideShapes Go.ChangeAt Go.RowKit Go.V
theorem wholeFermat_byText : Rows.wholeFermatRow.wfByText (OpenSpec.ofChange Rows.wholeFermatSpec) = true := by kernel_rfl
theorem wholeFermat_goes : false = Rows.wholeFermatRow.goesBy Tryz.pinned.checked.prog := by kernel_rfl
theorem wholeFermat_card_holds : Rows.WholeFermatCardSaid :=
  Claim7.holds_tied_plain_at .later [] [.data, .pinned, .pinned] true (true, "5b8a1e8da34a88fc5bd34c331ad38cb7b46866bf85af6ffc6bc920dabf7d6da1") true wholeFermat_holds (fun _ h => by cases h) wholeFermat_byText (fun _ h => by cases h) wholeFermat_row_tie rfl ⟨rfl, rfl⟩ z_main rfl
    (fun f fn hf hfn => by
      obtain rfl : f = 14 := Option.some.inj (wholeFermat_named.symm.trans hf) |>.symm
      obtain rfl : fn = Tryz.f14 := (Option.some.inj (Tryz.func14.symm.trans hfn)).symm
      exact ⟨z_looks, fun j t ht => by
        rw [Tryz.params14] at ht
        have hm : t ∈ [25, 3, 3, 25, 5] := by simpa using Array.mem_of_getElem? ht
        have hall : ([25, 3, 3, 25, 5].all fun u => !Tryz.prog.wantsStandIn u) = true := by kernel_rfl
        exact (show Tryz.prog.wantsStandIn t = false by simpa using List.all_eq_true.1 hall t hm)⟩)
    wholeFermat_goes
#print axioms wholeFermat_card_holds
end Go.Proofs.YtjohcjagbodicaaGreatDoor
