/- WholeConstants: the row; no condition. -/
import Derived.Test.YtjohcjagbodicaaGreatDoorRXQ1
set_option linter.unusedVariables false
set_option linter.unusedSimpArgs false
set_option maxRecDepth 100000
namespace Go.Proofs.YtjohcjagbodicaaGreatDoor
open Go.ChangeShapes Go.WideShapes Go.ChangeAt Go.RowKit Go.V
theorem wholeConstants_k1 : (Rows.wholeConstantsRow.wf (OpenSpec.ofChange Rows.wholeConstantsSpec)) = true := by kernel_rfl
theorem wholeConstants_k4 : (Tryz.f17.params.all (Tryz.prog.readableRec ·)) = true := by kernel_rfl
theorem wholeConstants_k5 : (namedTie Tryz.prog Rows.wholeConstantsRow.named Rows.wholeConstantsSpec.vars) = true := by kernel_rfl
theorem wholeConstants_k6 : ((Rows.wholeConstantsRow.stops == [])) = true := by kernel_rfl
theorem wholeConstants_k7 : ((Tryz.prog.stops == [])) = true := by kernel_rfl
theorem wholeConstants_k8 : ((Rows.wholeConstantsRow.knobs == [])) = true := by kernel_rfl
theorem wholeConstants_k9 : ((Tryz.prog.stopKnobs == [])) = true := by kernel_rfl
theorem wholeConstants_k10 : ((Rows.wholeConstantsRow.inPlace == Tryz.prog.inPlace 17)) = true := by kernel_rfl
theorem wholeConstants_k11 : ((Rows.wholeConstantsRow.unfollowed == Tryz.prog.unfollowed 17)) = true := by kernel_rfl
theorem wholeConstants_k12 : ((Rows.wholeConstantsRow.recurses == Tryz.prog.recurses 17)) = true := by kernel_rfl
theorem wholeConstants_k13 : ((Rows.wholeConstantsRow.named == Tryz.prog.varsNamed 17)) = true := by kernel_rfl
theorem wholeConstants_k14 : ((Rows.wholeConstantsRow.maps == (Tryz.f17.params.toList ++ Rows.wholeConstantsSpec.plain.varTypes Tryz.prog).any (Tryz.prog.mapsRec ·))) = true := by kernel_rfl
theorem wholeConstants_k15 : ((Rows.wholeConstantsRow.ifaces == (Tryz.f17.params.toList ++ Rows.wholeConstantsSpec.plain.varTypes Tryz.prog).any (Tryz.prog.ifacesRec ·))) = true := by kernel_rfl
theorem wholeConstants_k16 : ((Rows.wholeConstantsRow.mapsOut == Tryz.prog.mapsAmong Tryz.f17.resultTypes.toList)) = true := by kernel_rfl
theorem wholeConstants_k17 : ((Rows.wholeConstantsRow.loops == (Tryz.f17.params.toList ++ Rows.wholeConstantsSpec.plain.varTypes Tryz.prog).any (Tryz.prog.loopsFrom ·))) = true := by kernel_rfl
theorem wholeConstants_k18 : ((Rows.wholeConstantsRow.wideKeys == (Tryz.f17.params.toList ++ Rows.wholeConstantsSpec.plain.varTypes Tryz.prog ++ Tryz.f17.resultTypes.toList).any (Tryz.prog.wideKeysFrom ·))) = true := by kernel_rfl
theorem wholeConstants_k19 : (Rows.wholeConstantsSpec.vars.all (Tryz.prog.varReadable ·)) = true := by kernel_rfl
theorem wholeConstants_k20 : (Tryz.f17.resultTypes.all (fun t => Tryz.prog.readableRec t && decide (t < Tryz.prog.types.size))) = true := by kernel_rfl
theorem wholeConstants_k21 : ((Rows.wholeConstantsRow.ifacesOut == Tryz.f17.resultTypes.toList.any (Tryz.prog.ifacesRec ·))) = true := by kernel_rfl
theorem wholeConstants_k22 : ((Rows.wholeConstantsRow.loopsOut == Tryz.f17.resultTypes.toList.any (Tryz.prog.loopsFrom ·))) = true := by kernel_rfl
theorem wholeConstants_k24 : (Rows.wholeConstantsRow.shortTexts.isNone) = true := by kernel_rfl
theorem wholeConstants_k29 : ((Rows.wholeConstantsRow.kinds == (if Rows.wholeConstantsRow.domain.isEmpty then [] else Tryz.f17.params.toList.map fun t => match Tryz.prog.underlying t with | some (.int k) => some k | _ => none))) = true := by kernel_rfl
theorem wholeConstants_k30 : ((Rows.wholeConstantsRow.pinned == Rows.wholeConstantsRow.pinnedBy)) = true := by kernel_rfl
theorem wholeConstants_k31 : ((Rows.wholeConstantsRow.veiled == (Tryz.f17.params.toList ++ Rows.wholeConstantsSpec.plain.varTypes Tryz.prog ++ Tryz.f17.resultTypes.toList).any (Tryz.prog.veiledRec ·))) = true := by kernel_rfl
theorem wholeConstants_k32 : (Rows.wholeConstantsRow.veiledFits Tryz.prog Tryz.f17.params.toList (Tryz.f17.params.toList ++ Rows.wholeConstantsSpec.plain.varTypes Tryz.prog ++ Tryz.f17.resultTypes.toList)) = true := by kernel_rfl
theorem wholeConstants_named : Tryz.prog.funcNamed "soroban/sorobanlaw02.WholeConstants" = some 17 := by kernel_rfl
theorem wholeConstants_closed : joinedFacts Tryz.prog 17 Tryz.f17 Rows.wholeConstantsSpec Rows.wholeConstantsRow = true := joined_of wholeConstants_k1 laidOutZ z_maps wholeConstants_k4 wholeConstants_k5 wholeConstants_k6 wholeConstants_k7 wholeConstants_k8 wholeConstants_k9 wholeConstants_k10 wholeConstants_k11 wholeConstants_k12 wholeConstants_k13 wholeConstants_k14 wholeConstants_k15 wholeConstants_k16 wholeConstants_k17 wholeConstants_k18 wholeConstants_k19 wholeConstants_k20 wholeConstants_k21 wholeConstants_k22 z_plainKeys wholeConstants_k24 z_stopsHeard z_enter z_lifts z_make wholeConstants_k29 wholeConstants_k30 wholeConstants_k31 wholeConstants_k32
theorem wholeConstants_inst : Tryz.f17.isInstance Tryz.prog Rows.wholeConstantsRow.origin Rows.wholeConstantsRow.targs := of_decide_eq_true (by kernel_rfl)
theorem wholeConstants_wrap : Tryz.f17.isWrapper Tryz.prog Rows.wholeConstantsRow.wrapper Rows.wholeConstantsRow.mainSum := by unfold Func.isWrapper; first | (rw [if_pos (by decide +kernel)]; kernel_rfl) | (rw [if_neg (by decide +kernel)]; exact ⟨rfl, rfl⟩)
theorem wholeConstants_holds : Rows.WholeConstantsSaid :=
  OpenClaim.holds_of_wide 17 Tryz.f17 rfl rfl rfl rfl rfl rfl rfl ⟨rfl, rfl, rfl, rfl, rfl⟩ rfl rfl rfl rfl rfl wholeConstants_named Tryz.func17 wholeConstants_closed
    wholeConstants_inst wholeConstants_wrap
    (fun os started H enc _ => wholeConstants_lifted os started H enc)
end Go.Proofs.YtjohcjagbodicaaGreatDoor
