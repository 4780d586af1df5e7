/- ScanSets: the row; no condition. -/
import Derived.Test.YthankfodgdfgaaaDoorRXC1
set_option linter.unusedVariables false
set_option linter.unusedSimpArgs false
set_option linter.unnecessarySimpa false
set_option maxRecDepth 100000
namespace Go.Proofs.YthankfodgdfgaaaDoor
open Go.ChangeShapes Go.WideShapes Go.ChangeAt Go.RowKit Go.V
theorem scanSets_k1 : (Rows.scanSetsRow.wf (OpenSpec.ofChange Rows.scanSetsSpec)) = true := by kernel_rfl
theorem scanSets_k4 : (Tryd.f5.params.all (Tryd.prog.readableRec ·)) = true := by kernel_rfl
theorem scanSets_k5 : (namedTie Tryd.prog Rows.scanSetsRow.named Rows.scanSetsSpec.vars) = true := by kernel_rfl
theorem scanSets_k6 : ((Rows.scanSetsRow.stops == [])) = true := by kernel_rfl
theorem scanSets_k7 : ((Tryd.prog.stops == [])) = true := by kernel_rfl
theorem scanSets_k8 : ((Rows.scanSetsRow.knobs == [])) = true := by kernel_rfl
theorem scanSets_k9 : ((Tryd.prog.stopKnobs == [])) = true := by kernel_rfl
theorem scanSets_k10 : ((Rows.scanSetsRow.inPlace == Tryd.prog.inPlace 5)) = true := by kernel_rfl
theorem scanSets_k11 : ((Rows.scanSetsRow.unfollowed == Tryd.prog.unfollowed 5)) = true := by kernel_rfl
theorem scanSets_k12 : ((Rows.scanSetsRow.recurses == Tryd.prog.recurses 5)) = true := by kernel_rfl
theorem scanSets_k13 : ((Rows.scanSetsRow.named == Tryd.prog.varsNamed 5)) = true := by kernel_rfl
theorem scanSets_k14 : ((Rows.scanSetsRow.maps == (Tryd.f5.params.toList ++ Rows.scanSetsSpec.plain.varTypes Tryd.prog).any (Tryd.prog.mapsRec ·))) = true := by kernel_rfl
theorem scanSets_k15 : ((Rows.scanSetsRow.ifaces == (Tryd.f5.params.toList ++ Rows.scanSetsSpec.plain.varTypes Tryd.prog).any (Tryd.prog.ifacesRec ·))) = true := by kernel_rfl
theorem scanSets_k16 : ((Rows.scanSetsRow.mapsOut == Tryd.prog.mapsAmong Tryd.f5.resultTypes.toList)) = true := by kernel_rfl
theorem scanSets_k17 : ((Rows.scanSetsRow.loops == (Tryd.f5.params.toList ++ Rows.scanSetsSpec.plain.varTypes Tryd.prog).any (Tryd.prog.loopsFrom ·))) = true := by kernel_rfl
theorem scanSets_k18 : ((Rows.scanSetsRow.wideKeys == (Tryd.f5.params.toList ++ Rows.scanSetsSpec.plain.varTypes Tryd.prog ++ Tryd.f5.resultTypes.toList).any (Tryd.prog.wideKeysFrom ·))) = true := by kernel_rfl
theorem scanSets_k19 : (Rows.scanSetsSpec.vars.all (Tryd.prog.varReadable ·)) = true := by kernel_rfl
theorem scanSets_k20 : (Tryd.f5.resultTypes.all (fun t => Tryd.prog.readableRec t && decide (t < Tryd.prog.types.size))) = true := by kernel_rfl
theorem scanSets_k21 : ((Rows.scanSetsRow.ifacesOut == Tryd.f5.resultTypes.toList.any (Tryd.prog.ifacesRec ·))) = true := by kernel_rfl
theorem scanSets_k22 : ((Rows.scanSetsRow.loopsOut == Tryd.f5.resultTypes.toList.any (Tryd.prog.loopsFrom ·))) = true := by kernel_rfl
theorem scanSets_k24 : (Rows.scanSetsRow.shortTexts.isNone) = true := by kernel_rfl
theorem scanSets_k29 : ((Rows.scanSetsRow.kinds == (if Rows.scanSetsRow.domain.isEmpty then [] else Tryd.f5.params.toList.map fun t => match Tryd.prog.underlying t with | some (.int k) => some k | _ => none))) = true := by kernel_rfl
theorem scanSets_k30 : ((Rows.scanSetsRow.pinned == Rows.scanSetsRow.pinnedBy)) = true := by kernel_rfl
theorem scanSets_k31 : ((Rows.scanSetsRow.veiled == (Tryd.f5.params.toList ++ Rows.scanSetsSpec.plain.varTypes Tryd.prog ++ Tryd.f5.resultTypes.toList).any (Tryd.prog.veiledRec ·))) = true := by kernel_rfl
theorem scanSets_k32 : (Rows.scanSetsRow.veiledFits Tryd.prog Tryd.f5.params.toList (Tryd.f5.params.toList ++ Rows.scanSetsSpec.plain.varTypes Tryd.prog ++ Tryd.f5.resultTypes.toList)) = true := by kernel_rfl
theorem scanSets_named : Tryd.prog.funcNamed "soroban/sorobanlaw24.ScanSets" = some 5 := by kernel_rfl
theorem scanSets_closed : joinedFacts Tryd.prog 5 Tryd.f5 Rows.scanSetsSpec Rows.scanSetsRow = true := joined_of scanSets_k1 laidOutZ z_maps scanSets_k4 scanSets_k5 scanSets_k6 scanSets_k7 scanSets_k8 scanSets_k9 scanSets_k10 scanSets_k11 scanSets_k12 scanSets_k13 scanSets_k14 scanSets_k15 scanSets_k16 scanSets_k17 scanSets_k18 scanSets_k19 scanSets_k20 scanSets_k21 scanSets_k22 z_plainKeys scanSets_k24 z_stopsHeard z_enter z_lifts z_make scanSets_k29 scanSets_k30 scanSets_k31 scanSets_k32
theorem scanSets_inst : Tryd.f5.isInstance Tryd.prog Rows.scanSetsRow.origin Rows.scanSetsRow.targs := of_decide_eq_true (by kernel_rfl)
theorem scanSets_wrap : Tryd.f5.isWrapper Tryd.prog Rows.scanSetsRow.wrapper Rows.scanSetsRow.mainSum := by unfold Func.isWrapper; first | (rw [if_pos (by decide +kernel)]; kernel_rfl) | (rw [if_neg (by decide +kernel)]; exact ⟨rfl, rfl⟩)
theorem scanSets_holds : Rows.ScanSetsSaid :=
  OpenClaim.holds_of_wide 5 Tryd.f5 rfl rfl rfl rfl rfl rfl rfl ⟨rfl, rfl, rfl, rfl, rfl⟩ rfl rfl rfl rfl rfl scanSets_named Tryd.func5 scanSets_closed
    scanSets_inst scanSets_wrap
    (fun os started H enc _ => scanSets_lifted os started H enc)
end Go.Proofs.YthankfodgdfgaaaDoor
