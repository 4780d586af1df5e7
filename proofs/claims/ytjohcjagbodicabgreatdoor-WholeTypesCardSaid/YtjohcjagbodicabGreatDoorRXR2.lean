/- WholeTypes: the row; no condition. -/
import Derived.Test.YtjohcjagbodicabGreatDoorRXR1
set_option linter.unusedVariables false
set_option linter.unusedSimpArgs false
set_option maxRecDepth 100000
namespace Go.Proofs.YtjohcjagbodicabGreatDoor
open Go.ChangeShapes Go.WideShapes Go.ChangeAt Go.RowKit Go.V
theorem wholeTypes_k1 : (Rows.wholeTypesRow.wf (OpenSpec.ofChange Rows.wholeTypesSpec)) = true := by kernel_rfl
theorem wholeTypes_k4 : (Tryz.f3.params.all (Tryz.prog.readableRec ·)) = true := by kernel_rfl
theorem wholeTypes_k5 : (namedTie Tryz.prog Rows.wholeTypesRow.named Rows.wholeTypesSpec.vars) = true := by kernel_rfl
theorem wholeTypes_k6 : ((Rows.wholeTypesRow.stops == [])) = true := by kernel_rfl
theorem wholeTypes_k7 : ((Tryz.prog.stops == [])) = true := by kernel_rfl
theorem wholeTypes_k8 : ((Rows.wholeTypesRow.knobs == [])) = true := by kernel_rfl
theorem wholeTypes_k9 : ((Tryz.prog.stopKnobs == [])) = true := by kernel_rfl
theorem wholeTypes_k10 : ((Rows.wholeTypesRow.inPlace == Tryz.prog.inPlace 3)) = true := by kernel_rfl
theorem wholeTypes_k11 : ((Rows.wholeTypesRow.unfollowed == Tryz.prog.unfollowed 3)) = true := by kernel_rfl
theorem wholeTypes_k12 : ((Rows.wholeTypesRow.recurses == Tryz.prog.recurses 3)) = true := by kernel_rfl
theorem wholeTypes_k13 : ((Rows.wholeTypesRow.named == Tryz.prog.varsNamed 3)) = true := by kernel_rfl
theorem wholeTypes_k14 : ((Rows.wholeTypesRow.maps == (Tryz.f3.params.toList ++ Rows.wholeTypesSpec.plain.varTypes Tryz.prog).any (Tryz.prog.mapsRec ·))) = true := by kernel_rfl
theorem wholeTypes_k15 : ((Rows.wholeTypesRow.ifaces == (Tryz.f3.params.toList ++ Rows.wholeTypesSpec.plain.varTypes Tryz.prog).any (Tryz.prog.ifacesRec ·))) = true := by kernel_rfl
theorem wholeTypes_k16 : ((Rows.wholeTypesRow.mapsOut == Tryz.prog.mapsAmong Tryz.f3.resultTypes.toList)) = true := by kernel_rfl
theorem wholeTypes_k17 : ((Rows.wholeTypesRow.loops == (Tryz.f3.params.toList ++ Rows.wholeTypesSpec.plain.varTypes Tryz.prog).any (Tryz.prog.loopsFrom ·))) = true := by kernel_rfl
theorem wholeTypes_k18 : ((Rows.wholeTypesRow.wideKeys == (Tryz.f3.params.toList ++ Rows.wholeTypesSpec.plain.varTypes Tryz.prog ++ Tryz.f3.resultTypes.toList).any (Tryz.prog.wideKeysFrom ·))) = true := by kernel_rfl
theorem wholeTypes_k19 : (Rows.wholeTypesSpec.vars.all (Tryz.prog.varReadable ·)) = true := by kernel_rfl
theorem wholeTypes_k20 : (Tryz.f3.resultTypes.all (fun t => Tryz.prog.readableRec t && decide (t < Tryz.prog.types.size))) = true := by kernel_rfl
theorem wholeTypes_k21 : ((Rows.wholeTypesRow.ifacesOut == Tryz.f3.resultTypes.toList.any (Tryz.prog.ifacesRec ·))) = true := by kernel_rfl
theorem wholeTypes_k22 : ((Rows.wholeTypesRow.loopsOut == Tryz.f3.resultTypes.toList.any (Tryz.prog.loopsFrom ·))) = true := by kernel_rfl
theorem wholeTypes_k24 : (Rows.wholeTypesRow.shortTexts.isNone) = true := by kernel_rfl
theorem wholeTypes_k29 : ((Rows.wholeTypesRow.kinds == (if Rows.wholeTypesRow.domain.isEmpty then [] else Tryz.f3.params.toList.map fun t => match Tryz.prog.underlying t with | some (.int k) => some k | _ => none))) = true := by kernel_rfl
theorem wholeTypes_k30 : ((Rows.wholeTypesRow.pinned == Rows.wholeTypesRow.pinnedBy)) = true := by kernel_rfl
theorem wholeTypes_k31 : ((Rows.wholeTypesRow.veiled == (Tryz.f3.params.toList ++ Rows.wholeTypesSpec.plain.varTypes Tryz.prog ++ Tryz.f3.resultTypes.toList).any (Tryz.prog.veiledRec ·))) = true := by kernel_rfl
theorem wholeTypes_k32 : (Rows.wholeTypesRow.veiledFits Tryz.prog Tryz.f3.params.toList (Tryz.f3.params.toList ++ Rows.wholeTypesSpec.plain.varTypes Tryz.prog ++ Tryz.f3.resultTypes.toList)) = true := by kernel_rfl
theorem wholeTypes_named : Tryz.prog.funcNamed "soroban/sorobanlaw02.WholeTypes" = some 3 := by kernel_rfl
theorem wholeTypes_closed : joinedFacts Tryz.prog 3 Tryz.f3 Rows.wholeTypesSpec Rows.wholeTypesRow = true := joined_of wholeTypes_k1 laidOutZ z_maps wholeTypes_k4 wholeTypes_k5 wholeTypes_k6 wholeTypes_k7 wholeTypes_k8 wholeTypes_k9 wholeTypes_k10 wholeTypes_k11 wholeTypes_k12 wholeTypes_k13 wholeTypes_k14 wholeTypes_k15 wholeTypes_k16 wholeTypes_k17 wholeTypes_k18 wholeTypes_k19 wholeTypes_k20 wholeTypes_k21 wholeTypes_k22 z_plainKeys wholeTypes_k24 z_stopsHeard z_enter z_lifts z_make wholeTypes_k29 wholeTypes_k30 wholeTypes_k31 wholeTypes_k32
theorem wholeTypes_inst : Tryz.f3.isInstance Tryz.prog Rows.wholeTypesRow.origin Rows.wholeTypesRow.targs := of_decide_eq_true (by kernel_rfl)
theorem wholeTypes_wrap : Tryz.f3.isWrapper Tryz.prog Rows.wholeTypesRow.wrapper Rows.wholeTypesRow.mainSum := by unfold Func.isWrapper; first | (rw [if_pos (by decide +kernel)]; kernel_rfl) | (rw [if_neg (by decide +kernel)]; exact ⟨rfl, rfl⟩)
theorem wholeTypes_holds : Rows.WholeTypesSaid :=
  OpenClaim.holds_of_wide 3 Tryz.f3 rfl rfl rfl rfl rfl rfl rfl ⟨rfl, rfl, rfl, rfl, rfl⟩ rfl rfl rfl rfl rfl wholeTypes_named Tryz.func3 wholeTypes_closed
    wholeTypes_inst wholeTypes_wrap
    (fun os started H enc _ => wholeTypes_lifted os started H enc)
end Go.Proofs.YtjohcjagbodicabGreatDoor
