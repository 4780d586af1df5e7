/- WholeTwos: the contract lifted to the row's words; no condition. -/
import Derived.Test.YtjohcjagbodicaaGreatDoorRXN2
set_option linter.unusedVariables false
set_option linter.unusedSimpArgs false
set_option maxRecDepth 100000
namespace Go.Proofs.YtjohcjagbodicaaGreatDoor
open Go.ChangeShapes Go.WideShapes Go.ChangeAt Go.RowKit Go.V
theorem wholeTwos_byText : Rows.wholeTwosRow.wfByText (OpenSpec.ofChange Rows.wholeTwosSpec) = true := by kernel_rfl
theorem wholeTwos_goes : false = Rows.wholeTwosRow.goesBy Tryz.pinned.checked.prog := by kernel_rfl
theorem wholeTwos_card_holds : Rows.WholeTwosCardSaid :=
  Claim7.holds_tied_plain_at .later [] [.data, .pinned, .pinned] true (true, "5b8a1e8da34a88fc5bd34c331ad38cb7b46866bf85af6ffc6bc920dabf7d6da1") true wholeTwos_holds (fun _ h => by cases h) wholeTwos_byText (fun _ h => by cases h) wholeTwos_row_tie rfl ⟨rfl, rfl⟩ z_main rfl
    (fun f fn hf hfn => by
      obtain rfl : f = 16 := Option.some.inj (wholeTwos_named.symm.trans hf) |>.symm
      obtain rfl : fn = Tryz.f16 := (Option.some.inj (Tryz.func16.symm.trans hfn)).symm
      exact ⟨z_looks, fun j t ht => by
        rw [Tryz.params16] at ht
        have hm : t ∈ [25, 25, 3] := by simpa using Array.mem_of_getElem? ht
        have hall : ([25, 25, 3].all fun u => !Tryz.prog.wantsStandIn u) = true := by kernel_rfl
        exact (show Tryz.prog.wantsStandIn t = false by simpa using List.all_eq_true.1 hall t hm)⟩)
    wholeTwos_goes
#print axioms wholeTwos_card_holds
end Go.Proofs.YtjohcjagbodicaaGreatDoor
