/- ScanOffsets: what ScanParse says of the place of an error, for any text; no other condition. -/
import Derived.Test.YthankfodgdfgaaaDoorRXG2
set_option linter.unusedVariables false
set_option linter.unusedSimpArgs false
set_option linter.unnecessarySimpa false
set_option maxRecDepth 100000
namespace Go.Proofs.YthankfodgdfgaaaDoor
open Go.ChangeShapes Go.WideShapes Go.ChangeAt Go.RowKit Go.V
theorem scanOffsets_byText : Rows.scanOffsetsRow.wfByText (OpenSpec.ofChange Rows.scanOffsetsSpec) = true := by kernel_rfl
theorem scanOffsets_goes : false = Rows.scanOffsetsRow.goesBy Tryd.pinned.checked.prog := by kernel_rfl
theorem scanOffsets_card_holds : Rows.ScanOffsetsCardSaid :=
  Claim7.holds_tied_plain_at .later [] [.data, .data, .data, .mapped, .data] true (true, "4a358535a3fdcf16b8f6994064c82af79c63477f10344ea5494afcbe3a711897") true scanOffsets_holds (fun _ h => by cases h) scanOffsets_byText (fun _ h => by cases h) scanOffsets_row_tie rfl ⟨rfl, rfl⟩ z_main rfl
    (fun f fn hf hfn => by
      obtain rfl : f = 10 := Option.some.inj (scanOffsets_named.symm.trans hf) |>.symm
      obtain rfl : fn = Tryd.f10 := (Option.some.inj (Tryd.func10.symm.trans hfn)).symm
      exact ⟨z_looks, fun j t ht => by
        rw [Tryd.params10] at ht
        have hm : t ∈ [9] := by simpa using Array.mem_of_getElem? ht
        have hall : ([9].all fun u => !Tryd.prog.wantsStandIn u) = true := by kernel_rfl
        exact (show Tryd.prog.wantsStandIn t = false by simpa using List.all_eq_true.1 hall t hm)⟩)
    scanOffsets_goes
#print axioms scanOffsets_card_holds
end Go.Proofs.YthankfodgdfgaaaDoor
