/- WholeTexts: the row; no condition. -/
import Derived.Test.YtjohcjagbodicaaGreatDoorRXO1
set_option linter.unusedVariables false
set_option linter.unusedSimpArgs false
set_option maxRecDepth 100000
namespace Go.Proofs.YtjohcjagbodicaaGreatDoor
open Go.ChangeShapes Go.WideShapes Go.ChangeAt Go.RowKit Go.V
theorem wholeTexts_k1 : (Rows.wholeTextsRow.wf (OpenSpec.ofChange Rows.wholeTextsSpec)) = true := by kernel_rfl
theorem wholeTexts_k4 : (Tryz.f11.params.all (Tryz.prog.readableRec ·)) = true := by kernel_rfl
theorem wholeTexts_k5 : (namedTie Tryz.prog Rows.wholeTextsRow.named Rows.wholeTextsSpec.vars) = true := by kernel_rfl
theorem wholeTexts_k6 : ((Rows.wholeTextsRow.stops == [])) = true := by kernel_rfl
theorem wholeTexts_k7 : ((Tryz.prog.stops == [])) = true := by kernel_rfl
theorem wholeTexts_k8 : ((Rows.wholeTextsRow.knobs == [])) = true := by kernel_rfl
theorem wholeTexts_k9 : ((Tryz.prog.stopKnobs == [])) = true := by kernel_rfl
theorem wholeTexts_k10 : ((Rows.wholeTextsRow.inPlace == Tryz.prog.inPlace 11)) = true := by kernel_rfl
theorem wholeTexts_k11 : ((Rows.wholeTextsRow.unfollowed == Tryz.prog.unfollowed 11)) = true := by kernel_rfl
theorem wholeTexts_k12 : ((Rows.wholeTextsRow.recurses == Tryz.prog.recurses 11)) = true := by kernel_rfl
theorem wholeTexts_k13 : ((Rows.wholeTextsRow.named == Tryz.prog.varsNamed 11)) = true := by kernel_rfl
theorem wholeTexts_k14 : ((Rows.wholeTextsRow.maps == (Tryz.f11.params.toList ++ Rows.wholeTextsSpec.plain.varTypes Tryz.prog).any (Tryz.prog.mapsRec ·))) = true := by kernel_rfl
theorem wholeTexts_k15 : ((Rows.wholeTextsRow.ifaces == (Tryz.f11.params.toList ++ Rows.wholeTextsSpec.plain.varTypes Tryz.prog).any (Tryz.prog.ifacesRec ·))) = true := by kernel_rfl
theorem wholeTexts_k16 : ((Rows.wholeTextsRow.mapsOut == Tryz.prog.mapsAmong Tryz.f11.resultTypes.toList)) = true := by kernel_rfl
theorem wholeTexts_k17 : ((Rows.wholeTextsRow.loops == (Tryz.f11.params.toList ++ Rows.wholeTextsSpec.plain.varTypes Tryz.prog).any (Tryz.prog.loopsFrom ·))) = true := by kernel_rfl
theorem wholeTexts_k18 : ((Rows.wholeTextsRow.wideKeys == (Tryz.f11.params.toList ++ Rows.wholeTextsSpec.plain.varTypes Tryz.prog ++ Tryz.f11.resultTypes.toList).any (Tryz.prog.wideKeysFrom ·))) = true := by kernel_rfl
theorem wholeTexts_k19 : (Rows.wholeTextsSpec.vars.all (Tryz.prog.varReadable ·)) = true := by kernel_rfl
theorem wholeTexts_k20 : (Tryz.f11.resultTypes.all (fun t => Tryz.prog.readableRec t && decide (t < Tryz.prog.types.size))) = true := by kernel_rfl
theorem wholeTexts_k21 : ((Rows.wholeTextsRow.ifacesOut == Tryz.f11.resultTypes.toList.any (Tryz.prog.ifacesRec ·))) = true := by kernel_rfl
theorem wholeTexts_k22 : ((Rows.wholeTextsRow.loopsOut == Tryz.f11.resultTypes.toList.any (Tryz.prog.loopsFrom ·))) = true := by kernel_rfl
theorem wholeTexts_k24 : (Rows.wholeTextsRow.shortTexts.isNone) = true := by kernel_rfl
theorem wholeTexts_k29 : ((Rows.wholeTextsRow.kinds == (if Rows.wholeTextsRow.domain.isEmpty then [] else Tryz.f11.params.toList.map fun t => match Tryz.prog.underlying t with | some (.int k) => some k | _ => none))) = true := by kernel_rfl
theorem wholeTexts_k30 : ((Rows.wholeTextsRow.pinned == Rows.wholeTextsRow.pinnedBy)) = true := by kernel_rfl
theorem wholeTexts_k31 : ((Rows.wholeTextsRow.veiled == (Tryz.f11.params.toList ++ Rows.wholeTextsSpec.plain.varTypes Tryz.prog ++ Tryz.f11.resultTypes.toList).any (Tryz.prog.veiledRec ·))) = true := by kernel_rfl
theorem wholeTexts_k32 : (Rows.wholeTextsRow.veiledFits Tryz.prog Tryz.f11.params.toList (Tryz.f11.params.toList ++ Rows.wholeTextsSpec.plain.varTypes Tryz.prog ++ Tryz.f11.resultTypes.toList)) = true := by kernel_rfl
theorem wholeTexts_named : Tryz.prog.funcNamed "soroban/sorobanlaw02.WholeTexts" = some 11 := by kernel_rfl
theorem wholeTexts_closed : joinedFacts Tryz.prog 11 Tryz.f11 Rows.wholeTextsSpec Rows.wholeTextsRow = true := joined_of wholeTexts_k1 laidOutZ z_maps wholeTexts_k4 wholeTexts_k5 wholeTexts_k6 wholeTexts_k7 wholeTexts_k8 wholeTexts_k9 wholeTexts_k10 wholeTexts_k11 wholeTexts_k12 wholeTexts_k13 wholeTexts_k14 wholeTexts_k15 wholeTexts_k16 wholeTexts_k17 wholeTexts_k18 wholeTexts_k19 wholeTexts_k20 wholeTexts_k21 wholeTexts_k22 z_plainKeys wholeTexts_k24 z_stopsHeard z_enter z_lifts z_make wholeTexts_k29 wholeTexts_k30 wholeTexts_k31 wholeTexts_k32
theorem wholeTexts_inst : Tryz.f11.isInstance Tryz.prog Rows.wholeTextsRow.origin Rows.wholeTextsRow.targs := of_decide_eq_true (by kernel_rfl)
theorem wholeTexts_wrap : Tryz.f11.isWrapper Tryz.prog Rows.wholeTextsRow.wrapper Rows.wholeTextsRow.mainSum := by unfold Func.isWrapper; first | (rw [if_pos (by decide +kernel)]; kernel_rfl) | (rw [if_neg (by decide +kernel)]; exact ⟨rfl, rfl⟩)
theorem wholeTexts_holds : Rows.WholeTextsSaid :=
  OpenClaim.holds_of_wide 11 Tryz.f11 rfl rfl rfl rfl rfl rfl rfl ⟨rfl, rfl, rfl, rfl, rfl⟩ rfl rfl rfl rfl rfl wholeTexts_named Tryz.func11 wholeTexts_closed
    wholeTexts_inst wholeTexts_wrap
    (fun os started H enc _ => wholeTexts_lifted os started H enc)
end Go.Proofs.YtjohcjagbodicaaGreatDoor
