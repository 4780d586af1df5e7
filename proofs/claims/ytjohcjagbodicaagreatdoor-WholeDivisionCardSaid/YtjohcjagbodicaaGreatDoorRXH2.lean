/- WholeDivision: the row; no condition. -/
import Derived.Test.YtjohcjagbodicaaGreatDoorRXH1
set_option linter.unusedVariables false
set_option linter.unusedSimpArgs false
set_option maxRecDepth 100000
namespace Go.Proofs.YtjohcjagbodicaaGreatDoor
open Go.ChangeShapes Go.WideShapes Go.ChangeAt Go.RowKit Go.V
theorem wholeDivision_k1 : (Rows.wholeDivisionRow.wf (OpenSpec.ofChange Rows.wholeDivisionSpec)) = true := by kernel_rfl
theorem wholeDivision_k4 : (Tryz.f6.params.all (Tryz.prog.readableRec ·)) = true := by kernel_rfl
theorem wholeDivision_k5 : (namedTie Tryz.prog Rows.wholeDivisionRow.named Rows.wholeDivisionSpec.vars) = true := by kernel_rfl
theorem wholeDivision_k6 : ((Rows.wholeDivisionRow.stops == [])) = true := by kernel_rfl
theorem wholeDivision_k7 : ((Tryz.prog.stops == [])) = true := by kernel_rfl
theorem wholeDivision_k8 : ((Rows.wholeDivisionRow.knobs == [])) = true := by kernel_rfl
theorem wholeDivision_k9 : ((Tryz.prog.stopKnobs == [])) = true := by kernel_rfl
theorem wholeDivision_k10 : ((Rows.wholeDivisionRow.inPlace == Tryz.prog.inPlace 6)) = true := by kernel_rfl
theorem wholeDivision_k11 : ((Rows.wholeDivisionRow.unfollowed == Tryz.prog.unfollowed 6)) = true := by kernel_rfl
theorem wholeDivision_k12 : ((Rows.wholeDivisionRow.recurses == Tryz.prog.recurses 6)) = true := by kernel_rfl
theorem wholeDivision_k13 : ((Rows.wholeDivisionRow.named == Tryz.prog.varsNamed 6)) = true := by kernel_rfl
theorem wholeDivision_k14 : ((Rows.wholeDivisionRow.maps == (Tryz.f6.params.toList ++ Rows.wholeDivisionSpec.plain.varTypes Tryz.prog).any (Tryz.prog.mapsRec ·))) = true := by kernel_rfl
theorem wholeDivision_k15 : ((Rows.wholeDivisionRow.ifaces == (Tryz.f6.params.toList ++ Rows.wholeDivisionSpec.plain.varTypes Tryz.prog).any (Tryz.prog.ifacesRec ·))) = true := by kernel_rfl
theorem wholeDivision_k16 : ((Rows.wholeDivisionRow.mapsOut == Tryz.prog.mapsAmong Tryz.f6.resultTypes.toList)) = true := by kernel_rfl
theorem wholeDivision_k17 : ((Rows.wholeDivisionRow.loops == (Tryz.f6.params.toList ++ Rows.wholeDivisionSpec.plain.varTypes Tryz.prog).any (Tryz.prog.loopsFrom ·))) = true := by kernel_rfl
theorem wholeDivision_k18 : ((Rows.wholeDivisionRow.wideKeys == (Tryz.f6.params.toList ++ Rows.wholeDivisionSpec.plain.varTypes Tryz.prog ++ Tryz.f6.resultTypes.toList).any (Tryz.prog.wideKeysFrom ·))) = true := by kernel_rfl
theorem wholeDivision_k19 : (Rows.wholeDivisionSpec.vars.all (Tryz.prog.varReadable ·)) = true := by kernel_rfl
theorem wholeDivision_k20 : (Tryz.f6.resultTypes.all (fun t => Tryz.prog.readableRec t && decide (t < Tryz.prog.types.size))) = true := by kernel_rfl
theorem wholeDivision_k21 : ((Rows.wholeDivisionRow.ifacesOut == Tryz.f6.resultTypes.toList.any (Tryz.prog.ifacesRec ·))) = true := by kernel_rfl
theorem wholeDivision_k22 : ((Rows.wholeDivisionRow.loopsOut == Tryz.f6.resultTypes.toList.any (Tryz.prog.loopsFrom ·))) = true := by kernel_rfl
theorem wholeDivision_k24 : (Rows.wholeDivisionRow.shortTexts.isNone) = true := by kernel_rfl
theorem wholeDivision_k29 : ((Rows.wholeDivisionRow.kinds == (if Rows.wholeDivisionRow.domain.isEmpty then [] else Tryz.f6.params.toList.map fun t => match Tryz.prog.underlying t with | some (.int k) => some k | _ => none))) = true := by kernel_rfl
theorem wholeDivision_k30 : ((Rows.wholeDivisionRow.pinned == Rows.wholeDivisionRow.pinnedBy)) = true := by kernel_rfl
theorem wholeDivision_k31 : ((Rows.wholeDivisionRow.veiled == (Tryz.f6.params.toList ++ Rows.wholeDivisionSpec.plain.varTypes Tryz.prog ++ Tryz.f6.resultTypes.toList).any (Tryz.prog.veiledRec ·))) = true := by kernel_rfl
theorem wholeDivision_k32 : (Rows.wholeDivisionRow.veiledFits Tryz.prog Tryz.f6.params.toList (Tryz.f6.params.toList ++ Rows.wholeDivisionSpec.plain.varTypes Tryz.prog ++ Tryz.f6.resultTypes.toList)) = true := by kernel_rfl
theorem wholeDivision_named : Tryz.prog.funcNamed "soroban/sorobanlaw02.WholeDivision" = some 6 := by kernel_rfl
theorem wholeDivision_closed : joinedFacts Tryz.prog 6 Tryz.f6 Rows.wholeDivisionSpec Rows.wholeDivisionRow = true := joined_of wholeDivision_k1 laidOutZ z_maps wholeDivision_k4 wholeDivision_k5 wholeDivision_k6 wholeDivision_k7 wholeDivision_k8 wholeDivision_k9 wholeDivision_k10 wholeDivision_k11 wholeDivision_k12 wholeDivision_k13 wholeDivision_k14 wholeDivision_k15 wholeDivision_k16 wholeDivision_k17 wholeDivision_k18 wholeDivision_k19 wholeDivision_k20 wholeDivision_k21 wholeDivision_k22 z_plainKeys wholeDivision_k24 z_stopsHeard z_enter z_lifts z_make wholeDivision_k29 wholeDivision_k30 wholeDivision_k31 wholeDivision_k32
theorem wholeDivision_inst : Tryz.f6.isInstance Tryz.prog Rows.wholeDivisionRow.origin Rows.wholeDivisionRow.targs := of_decide_eq_true (by kernel_rfl)
theorem wholeDivision_wrap : Tryz.f6.isWrapper Tryz.prog Rows.wholeDivisionRow.wrapper Rows.wholeDivisionRow.mainSum := by unfold Func.isWrapper; first | (rw [if_pos (by decide +kernel)]; kernel_rfl) | (rw [if_neg (by decide +kernel)]; exact ⟨rfl, rfl⟩)
theorem wholeDivision_holds : Rows.WholeDivisionSaid :=
  OpenClaim.holds_of_wide 6 Tryz.f6 rfl rfl rfl rfl rfl rfl rfl ⟨rfl, rfl, rfl, rfl, rfl⟩ rfl rfl rfl rfl rfl wholeDivision_named Tryz.func6 wholeDivision_closed
    wholeDivision_inst wholeDivision_wrap
    (fun os started H enc _ => wholeDivision_lifted os started H enc)
end Go.Proofs.YtjohcjagbodicaaGreatDoor
