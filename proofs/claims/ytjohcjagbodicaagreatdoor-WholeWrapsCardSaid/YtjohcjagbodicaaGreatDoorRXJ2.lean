/- WholeWraps: the row; no condition. -/
import Derived.Test.YtjohcjagbodicaaGreatDoorRXJ1
set_option linter.unusedVariables false
set_option linter.unusedSimpArgs false
set_option maxRecDepth 100000
namespace Go.Proofs.YtjohcjagbodicaaGreatDoor
open Go.ChangeShapes Go.WideShapes Go.ChangeAt Go.RowKit Go.V
theorem wholeWraps_k1 : (Rows.wholeWrapsRow.wf (OpenSpec.ofChange Rows.wholeWrapsSpec)) = true := by kernel_rfl
theorem wholeWraps_k4 : (Tryz.f10.params.all (Tryz.prog.readableRec ·)) = true := by kernel_rfl
theorem wholeWraps_k5 : (namedTie Tryz.prog Rows.wholeWrapsRow.named Rows.wholeWrapsSpec.vars) = true := by kernel_rfl
theorem wholeWraps_k6 : ((Rows.wholeWrapsRow.stops == [])) = true := by kernel_rfl
theorem wholeWraps_k7 : ((Tryz.prog.stops == [])) = true := by kernel_rfl
theorem wholeWraps_k8 : ((Rows.wholeWrapsRow.knobs == [])) = true := by kernel_rfl
theorem wholeWraps_k9 : ((Tryz.prog.stopKnobs == [])) = true := by kernel_rfl
theorem wholeWraps_k10 : ((Rows.wholeWrapsRow.inPlace == Tryz.prog.inPlace 10)) = true := by kernel_rfl
theorem wholeWraps_k11 : ((Rows.wholeWrapsRow.unfollowed == Tryz.prog.unfollowed 10)) = true := by kernel_rfl
theorem wholeWraps_k12 : ((Rows.wholeWrapsRow.recurses == Tryz.prog.recurses 10)) = true := by kernel_rfl
theorem wholeWraps_k13 : ((Rows.wholeWrapsRow.named == Tryz.prog.varsNamed 10)) = true := by kernel_rfl
theorem wholeWraps_k14 : ((Rows.wholeWrapsRow.maps == (Tryz.f10.params.toList ++ Rows.wholeWrapsSpec.plain.varTypes Tryz.prog).any (Tryz.prog.mapsRec ·))) = true := by kernel_rfl
theorem wholeWraps_k15 : ((Rows.wholeWrapsRow.ifaces == (Tryz.f10.params.toList ++ Rows.wholeWrapsSpec.plain.varTypes Tryz.prog).any (Tryz.prog.ifacesRec ·))) = true := by kernel_rfl
theorem wholeWraps_k16 : ((Rows.wholeWrapsRow.mapsOut == Tryz.prog.mapsAmong Tryz.f10.resultTypes.toList)) = true := by kernel_rfl
theorem wholeWraps_k17 : ((Rows.wholeWrapsRow.loops == (Tryz.f10.params.toList ++ Rows.wholeWrapsSpec.plain.varTypes Tryz.prog).any (Tryz.prog.loopsFrom ·))) = true := by kernel_rfl
theorem wholeWraps_k18 : ((Rows.wholeWrapsRow.wideKeys == (Tryz.f10.params.toList ++ Rows.wholeWrapsSpec.plain.varTypes Tryz.prog ++ Tryz.f10.resultTypes.toList).any (Tryz.prog.wideKeysFrom ·))) = true := by kernel_rfl
theorem wholeWraps_k19 : (Rows.wholeWrapsSpec.vars.all (Tryz.prog.varReadable ·)) = true := by kernel_rfl
theorem wholeWraps_k20 : (Tryz.f10.resultTypes.all (fun t => Tryz.prog.readableRec t && decide (t < Tryz.prog.types.size))) = true := by kernel_rfl
theorem wholeWraps_k21 : ((Rows.wholeWrapsRow.ifacesOut == Tryz.f10.resultTypes.toList.any (Tryz.prog.ifacesRec ·))) = true := by kernel_rfl
theorem wholeWraps_k22 : ((Rows.wholeWrapsRow.loopsOut == Tryz.f10.resultTypes.toList.any (Tryz.prog.loopsFrom ·))) = true := by kernel_rfl
theorem wholeWraps_k24 : (Rows.wholeWrapsRow.shortTexts.isNone) = true := by kernel_rfl
theorem wholeWraps_k29 : ((Rows.wholeWrapsRow.kinds == (if Rows.wholeWrapsRow.domain.isEmpty then [] else Tryz.f10.params.toList.map fun t => match Tryz.prog.underlying t with | some (.int k) => some k | _ => none))) = true := by kernel_rfl
theorem wholeWraps_k30 : ((Rows.wholeWrapsRow.pinned == Rows.wholeWrapsRow.pinnedBy)) = true := by kernel_rfl
theorem wholeWraps_k31 : ((Rows.wholeWrapsRow.veiled == (Tryz.f10.params.toList ++ Rows.wholeWrapsSpec.plain.varTypes Tryz.prog ++ Tryz.f10.resultTypes.toList).any (Tryz.prog.veiledRec ·))) = true := by kernel_rfl
theorem wholeWraps_k32 : (Rows.wholeWrapsRow.veiledFits Tryz.prog Tryz.f10.params.toList (Tryz.f10.params.toList ++ Rows.wholeWrapsSpec.plain.varTypes Tryz.prog ++ Tryz.f10.resultTypes.toList)) = true := by kernel_rfl
theorem wholeWraps_named : Tryz.prog.funcNamed "soroban/sorobanlaw02.WholeWraps" = some 10 := by kernel_rfl
theorem wholeWraps_closed : joinedFacts Tryz.prog 10 Tryz.f10 Rows.wholeWrapsSpec Rows.wholeWrapsRow = true := joined_of wholeWraps_k1 laidOutZ z_maps wholeWraps_k4 wholeWraps_k5 wholeWraps_k6 wholeWraps_k7 wholeWraps_k8 wholeWraps_k9 wholeWraps_k10 wholeWraps_k11 wholeWraps_k12 wholeWraps_k13 wholeWraps_k14 wholeWraps_k15 wholeWraps_k16 wholeWraps_k17 wholeWraps_k18 wholeWraps_k19 wholeWraps_k20 wholeWraps_k21 wholeWraps_k22 z_plainKeys wholeWraps_k24 z_stopsHeard z_enter z_lifts z_make wholeWraps_k29 wholeWraps_k30 wholeWraps_k31 wholeWraps_k32
theorem wholeWraps_inst : Tryz.f10.isInstance Tryz.prog Rows.wholeWrapsRow.origin Rows.wholeWrapsRow.targs := of_decide_eq_true (by kernel_rfl)
theorem wholeWraps_wrap : Tryz.f10.isWrapper Tryz.prog Rows.wholeWrapsRow.wrapper Rows.wholeWrapsRow.mainSum := by unfold Func.isWrapper; first | (rw [if_pos (by decide +kernel)]; kernel_rfl) | (rw [if_neg (by decide +kernel)]; exact ⟨rfl, rfl⟩)
theorem wholeWraps_holds : Rows.WholeWrapsSaid :=
  OpenClaim.holds_of_wide 10 Tryz.f10 rfl rfl rfl rfl rfl rfl rfl ⟨rfl, rfl, rfl, rfl, rfl⟩ rfl rfl rfl rfl rfl wholeWraps_named Tryz.func10 wholeWraps_closed
    wholeWraps_inst wholeWraps_wrap
    (fun os started H enc _ => wholeWraps_lifted os started H enc)
end Go.Proofs.YtjohcjagbodicaaGreatDoor
