/- ScanOffsets: the row; no condition. -/
import Derived.Test.YthankfodgdfgaaaDoorRXG1
set_option linter.unusedVariables false
set_option linter.unusedSimpArgs false
set_option linter.unnecessarySimpa false
set_option maxRecDepth 100000
namespace Go.Proofs.YthankfodgdfgaaaDoor
open Go.ChangeShapes Go.WideShapes Go.ChangeAt Go.RowKit Go.V
theorem scanOffsets_k1 : (Rows.scanOffsetsRow.wf (OpenSpec.ofChange Rows.scanOffsetsSpec)) = true := by kernel_rfl
theorem scanOffsets_k4 : (Tryd.f10.params.all (Tryd.prog.readableRec ·)) = true := by kernel_rfl
theorem scanOffsets_k5 : (namedTie Tryd.prog Rows.scanOffsetsRow.named Rows.scanOffsetsSpec.vars) = true := by kernel_rfl
theorem scanOffsets_k6 : ((Rows.scanOffsetsRow.stops == [])) = true := by kernel_rfl
theorem scanOffsets_k7 : ((Tryd.prog.stops == [])) = true := by kernel_rfl
theorem scanOffsets_k8 : ((Rows.scanOffsetsRow.knobs == [])) = true := by kernel_rfl
theorem scanOffsets_k9 : ((Tryd.prog.stopKnobs == [])) = true := by kernel_rfl
theorem scanOffsets_k10 : ((Rows.scanOffsetsRow.inPlace == Tryd.prog.inPlace 10)) = true := by kernel_rfl
theorem scanOffsets_k11 : ((Rows.scanOffsetsRow.unfollowed == Tryd.prog.unfollowed 10)) = true := by kernel_rfl
theorem scanOffsets_k12 : ((Rows.scanOffsetsRow.recurses == Tryd.prog.recurses 10)) = true := by kernel_rfl
theorem scanOffsets_k13 : ((Rows.scanOffsetsRow.named == Tryd.prog.varsNamed 10)) = true := by kernel_rfl
theorem scanOffsets_k14 : ((Rows.scanOffsetsRow.maps == (Tryd.f10.params.toList ++ Rows.scanOffsetsSpec.plain.varTypes Tryd.prog).any (Tryd.prog.mapsRec ·))) = true := by kernel_rfl
theorem scanOffsets_k15 : ((Rows.scanOffsetsRow.ifaces == (Tryd.f10.params.toList ++ Rows.scanOffsetsSpec.plain.varTypes Tryd.prog).any (Tryd.prog.ifacesRec ·))) = true := by kernel_rfl
theorem scanOffsets_k16 : ((Rows.scanOffsetsRow.mapsOut == Tryd.prog.mapsAmong Tryd.f10.resultTypes.toList)) = true := by kernel_rfl
theorem scanOffsets_k17 : ((Rows.scanOffsetsRow.loops == (Tryd.f10.params.toList ++ Rows.scanOffsetsSpec.plain.varTypes Tryd.prog).any (Tryd.prog.loopsFrom ·))) = true := by kernel_rfl
theorem scanOffsets_k18 : ((Rows.scanOffsetsRow.wideKeys == (Tryd.f10.params.toList ++ Rows.scanOffsetsSpec.plain.varTypes Tryd.prog ++ Tryd.f10.resultTypes.toList).any (Tryd.prog.wideKeysFrom ·))) = true := by kernel_rfl
theorem scanOffsets_k19 : (Rows.scanOffsetsSpec.vars.all (Tryd.prog.varReadable ·)) = true := by kernel_rfl
theorem scanOffsets_k20 : (Tryd.f10.resultTypes.all (fun t => Tryd.prog.readableRec t && decide (t < Tryd.prog.types.size))) = true := by kernel_rfl
theorem scanOffsets_k21 : ((Rows.scanOffsetsRow.ifacesOut == Tryd.f10.resultTypes.toList.any (Tryd.prog.ifacesRec ·))) = true := by kernel_rfl
theorem scanOffsets_k22 : ((Rows.scanOffsetsRow.loopsOut == Tryd.f10.resultTypes.toList.any (Tryd.prog.loopsFrom ·))) = true := by kernel_rfl
theorem scanOffsets_k24 : (Rows.scanOffsetsRow.shortTexts.isNone) = true := by kernel_rfl
theorem scanOffsets_k29 : ((Rows.scanOffsetsRow.kinds == (if Rows.scanOffsetsRow.domain.isEmpty then [] else Tryd.f10.params.toList.map fun t => match Tryd.prog.underlying t with | some (.int k) => some k | _ => none))) = true := by kernel_rfl
theorem scanOffsets_k30 : ((Rows.scanOffsetsRow.pinned == Rows.scanOffsetsRow.pinnedBy)) = true := by kernel_rfl
theorem scanOffsets_k31 : ((Rows.scanOffsetsRow.veiled == (Tryd.f10.params.toList ++ Rows.scanOffsetsSpec.plain.varTypes Tryd.prog ++ Tryd.f10.resultTypes.toList).any (Tryd.prog.veiledRec ·))) = true := by kernel_rfl
theorem scanOffsets_k32 : (Rows.scanOffsetsRow.veiledFits Tryd.prog Tryd.f10.params.toList (Tryd.f10.params.toList ++ Rows.scanOffsetsSpec.plain.varTypes Tryd.prog ++ Tryd.f10.resultTypes.toList)) = true := by kernel_rfl
theorem scanOffsets_named : Tryd.prog.funcNamed "soroban/sorobanlaw24.ScanOffsets" = some 10 := by kernel_rfl
theorem scanOffsets_closed : joinedFacts Tryd.prog 10 Tryd.f10 Rows.scanOffsetsSpec Rows.scanOffsetsRow = true := joined_of scanOffsets_k1 laidOutZ z_maps scanOffsets_k4 scanOffsets_k5 scanOffsets_k6 scanOffsets_k7 scanOffsets_k8 scanOffsets_k9 scanOffsets_k10 scanOffsets_k11 scanOffsets_k12 scanOffsets_k13 scanOffsets_k14 scanOffsets_k15 scanOffsets_k16 scanOffsets_k17 scanOffsets_k18 scanOffsets_k19 scanOffsets_k20 scanOffsets_k21 scanOffsets_k22 z_plainKeys scanOffsets_k24 z_stopsHeard z_enter z_lifts z_make scanOffsets_k29 scanOffsets_k30 scanOffsets_k31 scanOffsets_k32
theorem scanOffsets_inst : Tryd.f10.isInstance Tryd.prog Rows.scanOffsetsRow.origin Rows.scanOffsetsRow.targs := of_decide_eq_true (by kernel_rfl)
theorem scanOffsets_wrap : Tryd.f10.isWrapper Tryd.prog Rows.scanOffsetsRow.wrapper Rows.scanOffsetsRow.mainSum := by unfold Func.isWrapper; first | (rw [if_pos (by decide +kernel)]; kernel_rfl) | (rw [if_neg (by decide +kernel)]; exact ⟨rfl, rfl⟩)
theorem scanOffsets_holds : Rows.ScanOffsetsSaid :=
  OpenClaim.holds_of_wide 10 Tryd.f10 rfl rfl rfl rfl rfl rfl rfl ⟨rfl, rfl, rfl, rfl, rfl⟩ rfl rfl rfl rfl rfl scanOffsets_named Tryd.func10 scanOffsets_closed
    scanOffsets_inst scanOffsets_wrap
    (fun os started H enc _ => scanOffsets_lifted os started H enc)
end Go.Proofs.YthankfodgdfgaaaDoor
