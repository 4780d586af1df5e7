/- ScanSetBack: a set's text reads as the set; a text behind ^ reads as the contrary; for any set, text and byte; no other condition. -/
import Derived.Test.YthankfodgdfgaaaDoorRXE2
set_option linter.unusedVariables false
set_option linter.unusedSimpArgs false
set_option linter.unnecessarySimpa false
set_option maxRecDepth 100000
namespace Go.Proofs.YthankfodgdfgaaaDoor
open Go.ChangeShapes Go.WideShapes Go.ChangeAt Go.RowKit Go.V
theorem scanSetBack_byText : Rows.scanSetBackRow.wfByText (OpenSpec.ofChange Rows.scanSetBackSpec) = true := by kernel_rfl
theorem scanSetBack_goes : false = Rows.scanSetBackRow.goesBy Tryd.pinned.checked.prog := by kernel_rfl
theorem scanSetBack_card_holds : Rows.ScanSetBackCardSaid :=
  Claim7.holds_tied_plain_at .later [] [.data, .data, .data, .mapped, .data] true (true, "4a358535a3fdcf16b8f6994064c82af79c63477f10344ea5494afcbe3a711897") true scanSetBack_holds (fun _ h => by cases h) scanSetBack_byText (fun _ h => by cases h) scanSetBack_row_tie rfl ⟨rfl, rfl⟩ z_main rfl
    (fun f fn hf hfn => by
      obtain rfl : f = 8 := Option.some.inj (scanSetBack_named.symm.trans hf) |>.symm
      obtain rfl : fn = Tryd.f8 := (Option.some.inj (Tryd.func8.symm.trans hfn)).symm
      exact ⟨z_looks, fun j t ht => by
        rw [Tryd.params8] at ht
        have hm : t ∈ [28, 9, 5] := by simpa using Array.mem_of_getElem? ht
        have hall : ([28, 9, 5].all fun u => !Tryd.prog.wantsStandIn u) = true := by kernel_rfl
        exact (show Tryd.prog.wantsStandIn t = false by simpa using List.all_eq_true.1 hall t hm)⟩)
    scanSetBack_goes
#print axioms scanSetBack_card_holds
end Go.Proofs.YthankfodgdfgaaaDoor
