/- ScanSets: both packages' SetText and Has agree, for any set and any byte; no other condition. -/
import Derived.Test.YthankfodgdfgaaaDoorRXC2
set_option linter.unusedVariables false
set_option linter.unusedSimpArgs false
set_option linter.unnecessarySimpa false
set_option maxRecDepth 100000
namespace Go.Proofs.YthankfodgdfgaaaDoor
open Go.ChangeShapes Go.WideShapes Go.ChangeAt Go.RowKit Go.V
theorem scanSets_byText : Rows.scanSetsRow.wfByText (OpenSpec.ofChange Rows.scanSetsSpec) = true := by kernel_rfl
theorem scanSets_goes : false = Rows.scanSetsRow.goesBy Tryd.pinned.checked.prog := by kernel_rfl
theorem scanSets_card_holds : Rows.ScanSetsCardSaid :=
  Claim7.holds_tied_plain_at .later [] [.data, .data, .data, .mapped, .data] true (true, "4a358535a3fdcf16b8f6994064c82af79c63477f10344ea5494afcbe3a711897") true scanSets_holds (fun _ h => by cases h) scanSets_byText (fun _ h => by cases h) scanSets_row_tie rfl ⟨rfl, rfl⟩ z_main rfl
    (fun f fn hf hfn => by
      obtain rfl : f = 5 := Option.some.inj (scanSets_named.symm.trans hf) |>.symm
      obtain rfl : fn = Tryd.f5 := (Option.some.inj (Tryd.func5.symm.trans hfn)).symm
      exact ⟨z_looks, fun j t ht => by
        rw [Tryd.params5] at ht
        have hm : t ∈ [28, 5] := by simpa using Array.mem_of_getElem? ht
        have hall : ([28, 5].all fun u => !Tryd.prog.wantsStandIn u) = true := by kernel_rfl
        exact (show Tryd.prog.wantsStandIn t = false by simpa using List.all_eq_true.1 hall t hm)⟩)
    scanSets_goes
#print axioms scanSets_card_holds
end Go.Proofs.YthankfodgdfgaaaDoor
