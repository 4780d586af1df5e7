/- ScanBackUpto: what ScanPrint writes reads as the list, for any list of bulk at most 1048576; no other condition. -/
import Derived.Test.YthankfodgdfgaaaDoorRXH2
set_option linter.unusedVariables false
set_option linter.unusedSimpArgs false
set_option linter.unnecessarySimpa false
set_option maxRecDepth 100000
namespace Go.Proofs.YthankfodgdfgaaaDoor
open Go.ChangeShapes Go.WideShapes Go.ChangeAt Go.RowKit Go.V
theorem scanBackUpto_byText : Rows.scanBackUptoRow.wfByText (Rows.OpenSpec.upto Rows.scanBackSpec) = true := by kernel_rfl
theorem scanBackUpto_goes : false = Rows.scanBackUptoRow.goesBy Tryd.pinned.checked.prog := by kernel_rfl
theorem scanBackUpto_card_holds : Rows.ScanBackUptoCardSaid :=
  Claim7.holds_tied_plain_at .later [] [.data, .data, .data, .mapped, .data] true (true, "4a358535a3fdcf16b8f6994064c82af79c63477f10344ea5494afcbe3a711897") true scanBackUpto_holds (fun _ h => by cases h) scanBackUpto_byText (fun _ h => by cases h) scanBackUpto_row_tie rfl ⟨rfl, rfl⟩ z_main rfl
    (fun f fn hf hfn => by
      obtain rfl : f = 6 := Option.some.inj (scanBackUpto_named.symm.trans hf) |>.symm
      obtain rfl : fn = Tryd.f6 := (Option.some.inj (Tryd.func6.symm.trans hfn)).symm
      exact ⟨z_looks, fun j t ht => by
        rw [Tryd.params6] at ht
        have hm : t ∈ [23] := by simpa using Array.mem_of_getElem? ht
        have hall : ([23].all fun u => !Tryd.prog.wantsStandIn u) = true := by kernel_rfl
        exact (show Tryd.prog.wantsStandIn t = false by simpa using List.all_eq_true.1 hall t hm)⟩)
    scanBackUpto_goes
#print axioms scanBackUpto_card_holds
end Go.Proofs.YthankfodgdfgaaaDoor
