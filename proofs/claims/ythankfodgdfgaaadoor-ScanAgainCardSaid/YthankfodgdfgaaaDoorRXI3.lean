/- ScanAgain: what ScanParse reads, printed, reads as the same, for any text; no other condition. -/
import Derived.Test.YthankfodgdfgaaaDoorRXI2
set_option linter.unusedVariables false
set_option linter.unusedSimpArgs false
set_option linter.unnecessarySimpa false
set_option maxRecDepth 100000
namespace Go.Proofs.YthankfodgdfgaaaDoor
open Go.ChangeShapes Go.WideShapes Go.ChangeAt Go.RowKit Go.V
theorem scanAgain_byText : Rows.scanAgainRow.wfByText (OpenSpec.ofChange Rows.scanAgainSpec) = true := by kernel_rfl
theorem scanAgain_goes : false = Rows.scanAgainRow.goesBy Tryd.pinned.checked.prog := by kernel_rfl
theorem scanAgain_card_holds : Rows.ScanAgainCardSaid :=
  Claim7.holds_tied_plain_at .later [] [.data, .data, .data, .mapped, .data] true (true, "4a358535a3fdcf16b8f6994064c82af79c63477f10344ea5494afcbe3a711897") true scanAgain_holds (fun _ h => by cases h) scanAgain_byText (fun _ h => by cases h) scanAgain_row_tie rfl ⟨rfl, rfl⟩ z_main rfl
    (fun f fn hf hfn => by
      obtain rfl : f = 7 := Option.some.inj (scanAgain_named.symm.trans hf) |>.symm
      obtain rfl : fn = Tryd.f7 := (Option.some.inj (Tryd.func7.symm.trans hfn)).symm
      exact ⟨z_looks, fun j t ht => by
        rw [Tryd.params7] at ht
        have hm : t ∈ [9] := by simpa using Array.mem_of_getElem? ht
        have hall : ([9].all fun u => !Tryd.prog.wantsStandIn u) = true := by kernel_rfl
        exact (show Tryd.prog.wantsStandIn t = false by simpa using List.all_eq_true.1 hall t hm)⟩)
    scanAgain_goes
#print axioms scanAgain_card_holds
end Go.Proofs.YthankfodgdfgaaaDoor
