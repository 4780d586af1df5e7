/- ScanJoins: two texts without a dollar sign, read one behind the other, read as the joined lists, or go beyond a limit; for any texts; no other condition. -/
import Derived.Test.YthankfodgdfgaaaDoorRXJ2
set_option linter.unusedVariables false
set_option linter.unusedSimpArgs false
set_option linter.unnecessarySimpa false
set_option maxRecDepth 100000
namespace Go.Proofs.YthankfodgdfgaaaDoor
open Go.ChangeShapes Go.WideShapes Go.ChangeAt Go.RowKit Go.V
theorem scanJoins_byText : Rows.scanJoinsRow.wfByText (OpenSpec.ofChange Rows.scanJoinsSpec) = true := by kernel_rfl
theorem scanJoins_goes : false = Rows.scanJoinsRow.goesBy Tryd.pinned.checked.prog := by kernel_rfl
theorem scanJoins_card_holds : Rows.ScanJoinsCardSaid :=
  Claim7.holds_tied_plain_at .later [] [.data, .data, .data, .mapped, .data] true (true, "4a358535a3fdcf16b8f6994064c82af79c63477f10344ea5494afcbe3a711897") true scanJoins_holds (fun _ h => by cases h) scanJoins_byText (fun _ h => by cases h) scanJoins_row_tie rfl ⟨rfl, rfl⟩ z_main rfl
    (fun f fn hf hfn => by
      obtain rfl : f = 9 := Option.some.inj (scanJoins_named.symm.trans hf) |>.symm
      obtain rfl : fn = Tryd.f9 := (Option.some.inj (Tryd.func9.symm.trans hfn)).symm
      exact ⟨z_looks, fun j t ht => by
        rw [Tryd.params9] at ht
        have hm : t ∈ [9, 9] := by simpa using Array.mem_of_getElem? ht
        have hall : ([9, 9].all fun u => !Tryd.prog.wantsStandIn u) = true := by kernel_rfl
        exact (show Tryd.prog.wantsStandIn t = false by simpa using List.all_eq_true.1 hall t hm)⟩)
    scanJoins_goes
#print axioms scanJoins_card_holds
end Go.Proofs.YthankfodgdfgaaaDoor
