/- WholeCommon: the row; no condition. -/
import Derived.Test.YtjohcjagbodicaaGreatDoorRXI1
set_option linter.unusedVariables false
set_option linter.unusedSimpArgs false
set_option maxRecDepth 100000
namespace Go.Proofs.YtjohcjagbodicaaGreatDoor
open Go.ChangeShapes Go.WideShapes Go.ChangeAt Go.RowKit Go.V
theorem wholeCommon_k1 : (Rows.wholeCommonRow.wf (OpenSpec.ofChange Rows.wholeCommonSpec)) = true := by kernel_rfl
theorem wholeCommon_k4 : (Tryz.f7.params.all (Tryz.prog.readableRec ·)) = true := by kernel_rfl
theorem wholeCommon_k5 : (namedTie Tryz.prog Rows.wholeCommonRow.named Rows.wholeCommonSpec.vars) = true := by kernel_rfl
theorem wholeCommon_k6 : ((Rows.wholeCommonRow.stops == [])) = true := by kernel_rfl
theorem wholeCommon_k7 : ((Tryz.prog.stops == [])) = true := by kernel_rfl
theorem wholeCommon_k8 : ((Rows.wholeCommonRow.knobs == [])) = true := by kernel_rfl
theorem wholeCommon_k9 : ((Tryz.prog.stopKnobs == [])) = true := by kernel_rfl
theorem wholeCommon_k10 : ((Rows.wholeCommonRow.inPlace == Tryz.prog.inPlace 7)) = true := by kernel_rfl
theorem wholeCommon_k11 : ((Rows.wholeCommonRow.unfollowed == Tryz.prog.unfollowed 7)) = true := by kernel_rfl
theorem wholeCommon_k12 : ((Rows.wholeCommonRow.recurses == Tryz.prog.recurses 7)) = true := by kernel_rfl
theorem wholeCommon_k13 : ((Rows.wholeCommonRow.named == Tryz.prog.varsNamed 7)) = true := by kernel_rfl
theorem wholeCommon_k14 : ((Rows.wholeCommonRow.maps == (Tryz.f7.params.toList ++ Rows.wholeCommonSpec.plain.varTypes Tryz.prog).any (Tryz.prog.mapsRec ·))) = true := by kernel_rfl
theorem wholeCommon_k15 : ((Rows.wholeCommonRow.ifaces == (Tryz.f7.params.toList ++ Rows.wholeCommonSpec.plain.varTypes Tryz.prog).any (Tryz.prog.ifacesRec ·))) = true := by kernel_rfl
theorem wholeCommon_k16 : ((Rows.wholeCommonRow.mapsOut == Tryz.prog.mapsAmong Tryz.f7.resultTypes.toList)) = true := by kernel_rfl
theorem wholeCommon_k17 : ((Rows.wholeCommonRow.loops == (Tryz.f7.params.toList ++ Rows.wholeCommonSpec.plain.varTypes Tryz.prog).any (Tryz.prog.loopsFrom ·))) = true := by kernel_rfl
theorem wholeCommon_k18 : ((Rows.wholeCommonRow.wideKeys == (Tryz.f7.params.toList ++ Rows.wholeCommonSpec.plain.varTypes Tryz.prog ++ Tryz.f7.resultTypes.toList).any (Tryz.prog.wideKeysFrom ·))) = true := by kernel_rfl
theorem wholeCommon_k19 : (Rows.wholeCommonSpec.vars.all (Tryz.prog.varReadable ·)) = true := by kernel_rfl
theorem wholeCommon_k20 : (Tryz.f7.resultTypes.all (fun t => Tryz.prog.readableRec t && decide (t < Tryz.prog.types.size))) = true := by kernel_rfl
theorem wholeCommon_k21 : ((Rows.wholeCommonRow.ifacesOut == Tryz.f7.resultTypes.toList.any (Tryz.prog.ifacesRec ·))) = true := by kernel_rfl
theorem wholeCommon_k22 : ((Rows.wholeCommonRow.loopsOut == Tryz.f7.resultTypes.toList.any (Tryz.prog.loopsFrom ·))) = true := by kernel_rfl
theorem wholeCommon_k24 : (Rows.wholeCommonRow.shortTexts.isNone) = true := by kernel_rfl
theorem wholeCommon_k29 : ((Rows.wholeCommonRow.kinds == (if Rows.wholeCommonRow.domain.isEmpty then [] else Tryz.f7.params.toList.map fun t => match Tryz.prog.underlying t with | some (.int k) => some k | _ => none))) = true := by kernel_rfl
theorem wholeCommon_k30 : ((Rows.wholeCommonRow.pinned == Rows.wholeCommonRow.pinnedBy)) = true := by kernel_rfl
theorem wholeCommon_k31 : ((Rows.wholeCommonRow.veiled == (Tryz.f7.params.toList ++ Rows.wholeCommonSpec.plain.varTypes Tryz.prog ++ Tryz.f7.resultTypes.toList).any (Tryz.prog.veiledRec ·))) = true := by kernel_rfl
theorem wholeCommon_k32 : (Rows.wholeCommonRow.veiledFits Tryz.prog Tryz.f7.params.toList (Tryz.f7.params.toList ++ Rows.wholeCommonSpec.plain.varTypes Tryz.prog ++ Tryz.f7.resultTypes.toList)) = true := by kernel_rfl
theorem wholeCommon_named : Tryz.prog.funcNamed "soroban/sorobanlaw02.WholeCommon" = some 7 := by kernel_rfl
theorem wholeCommon_closed : joinedFacts Tryz.prog 7 Tryz.f7 Rows.wholeCommonSpec Rows.wholeCommonRow = true := joined_of wholeCommon_k1 laidOutZ z_maps wholeCommon_k4 wholeCommon_k5 wholeCommon_k6 wholeCommon_k7 wholeCommon_k8 wholeCommon_k9 wholeCommon_k10 wholeCommon_k11 wholeCommon_k12 wholeCommon_k13 wholeCommon_k14 wholeCommon_k15 wholeCommon_k16 wholeCommon_k17 wholeCommon_k18 wholeCommon_k19 wholeCommon_k20 wholeCommon_k21 wholeCommon_k22 z_plainKeys wholeCommon_k24 z_stopsHeard z_enter z_lifts z_make wholeCommon_k29 wholeCommon_k30 wholeCommon_k31 wholeCommon_k32
theorem wholeCommon_inst : Tryz.f7.isInstance Tryz.prog Rows.wholeCommonRow.origin Rows.wholeCommonRow.targs := of_decide_eq_true (by kernel_rfl)
theorem wholeCommon_wrap : Tryz.f7.isWrapper Tryz.prog Rows.wholeCommonRow.wrapper Rows.wholeCommonRow.mainSum := by unfold Func.isWrapper; first | (rw [if_pos (by decide +kernel)]; kernel_rfl) | (rw [if_neg (by decide +kernel)]; exact ⟨rfl, rfl⟩)
theorem wholeCommon_holds : Rows.WholeCommonSaid :=
  OpenClaim.holds_of_wide 7 Tryz.f7 rfl rfl rfl rfl rfl rfl rfl ⟨rfl, rfl, rfl, rfl, rfl⟩ rfl rfl rfl rfl rfl wholeCommon_named Tryz.func7 wholeCommon_closed
    wholeCommon_inst wholeCommon_wrap
    (fun os started H enc _ => wholeCommon_lifted os started H enc)
end Go.Proofs.YtjohcjagbodicaaGreatDoor
