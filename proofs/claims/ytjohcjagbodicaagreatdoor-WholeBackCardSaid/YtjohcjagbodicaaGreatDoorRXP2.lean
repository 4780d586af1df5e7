/- WholeBack: the row; no condition. -/
import Derived.Test.YtjohcjagbodicaaGreatDoorRXP1
set_option linter.unusedVariables false
set_option linter.unusedSimpArgs false
set_option maxRecDepth 100000
namespace Go.Proofs.YtjohcjagbodicaaGreatDoor
open Go.ChangeShapes Go.WideShapes Go.ChangeAt Go.RowKit Go.V
theorem wholeBack_k1 : (Rows.wholeBackRow.wf (OpenSpec.ofChange Rows.wholeBackSpec)) = true := by kernel_rfl
theorem wholeBack_k4 : (Tryz.f12.params.all (Tryz.prog.readableRec ·)) = true := by kernel_rfl
theorem wholeBack_k5 : (namedTie Tryz.prog Rows.wholeBackRow.named Rows.wholeBackSpec.vars) = true := by kernel_rfl
theorem wholeBack_k6 : ((Rows.wholeBackRow.stops == [])) = true := by kernel_rfl
theorem wholeBack_k7 : ((Tryz.prog.stops == [])) = true := by kernel_rfl
theorem wholeBack_k8 : ((Rows.wholeBackRow.knobs == [])) = true := by kernel_rfl
theorem wholeBack_k9 : ((Tryz.prog.stopKnobs == [])) = true := by kernel_rfl
theorem wholeBack_k10 : ((Rows.wholeBackRow.inPlace == Tryz.prog.inPlace 12)) = true := by kernel_rfl
theorem wholeBack_k11 : ((Rows.wholeBackRow.unfollowed == Tryz.prog.unfollowed 12)) = true := by kernel_rfl
theorem wholeBack_k12 : ((Rows.wholeBackRow.recurses == Tryz.prog.recurses 12)) = true := by kernel_rfl
theorem wholeBack_k13 : ((Rows.wholeBackRow.named == Tryz.prog.varsNamed 12)) = true := by kernel_rfl
theorem wholeBack_k14 : ((Rows.wholeBackRow.maps == (Tryz.f12.params.toList ++ Rows.wholeBackSpec.plain.varTypes Tryz.prog).any (Tryz.prog.mapsRec ·))) = true := by kernel_rfl
theorem wholeBack_k15 : ((Rows.wholeBackRow.ifaces == (Tryz.f12.params.toList ++ Rows.wholeBackSpec.plain.varTypes Tryz.prog).any (Tryz.prog.ifacesRec ·))) = true := by kernel_rfl
theorem wholeBack_k16 : ((Rows.wholeBackRow.mapsOut == Tryz.prog.mapsAmong Tryz.f12.resultTypes.toList)) = true := by kernel_rfl
theorem wholeBack_k17 : ((Rows.wholeBackRow.loops == (Tryz.f12.params.toList ++ Rows.wholeBackSpec.plain.varTypes Tryz.prog).any (Tryz.prog.loopsFrom ·))) = true := by kernel_rfl
theorem wholeBack_k18 : ((Rows.wholeBackRow.wideKeys == (Tryz.f12.params.toList ++ Rows.wholeBackSpec.plain.varTypes Tryz.prog ++ Tryz.f12.resultTypes.toList).any (Tryz.prog.wideKeysFrom ·))) = true := by kernel_rfl
theorem wholeBack_k19 : (Rows.wholeBackSpec.vars.all (Tryz.prog.varReadable ·)) = true := by kernel_rfl
theorem wholeBack_k20 : (Tryz.f12.resultTypes.all (fun t => Tryz.prog.readableRec t && decide (t < Tryz.prog.types.size))) = true := by kernel_rfl
theorem wholeBack_k21 : ((Rows.wholeBackRow.ifacesOut == Tryz.f12.resultTypes.toList.any (Tryz.prog.ifacesRec ·))) = true := by kernel_rfl
theorem wholeBack_k22 : ((Rows.wholeBackRow.loopsOut == Tryz.f12.resultTypes.toList.any (Tryz.prog.loopsFrom ·))) = true := by kernel_rfl
theorem wholeBack_k24 : (Rows.wholeBackRow.shortTexts.isNone) = true := by kernel_rfl
theorem wholeBack_k29 : ((Rows.wholeBackRow.kinds == (if Rows.wholeBackRow.domain.isEmpty then [] else Tryz.f12.params.toList.map fun t => match Tryz.prog.underlying t with | some (.int k) => some k | _ => none))) = true := by kernel_rfl
theorem wholeBack_k30 : ((Rows.wholeBackRow.pinned == Rows.wholeBackRow.pinnedBy)) = true := by kernel_rfl
theorem wholeBack_k31 : ((Rows.wholeBackRow.veiled == (Tryz.f12.params.toList ++ Rows.wholeBackSpec.plain.varTypes Tryz.prog ++ Tryz.f12.resultTypes.toList).any (Tryz.prog.veiledRec ·))) = true := by kernel_rfl
theorem wholeBack_k32 : (Rows.wholeBackRow.veiledFits Tryz.prog Tryz.f12.params.toList (Tryz.f12.params.toList ++ Rows.wholeBackSpec.plain.varTypes Tryz.prog ++ Tryz.f12.resultTypes.toList)) = true := by kernel_rfl
theorem wholeBack_named : Tryz.prog.funcNamed "soroban/sorobanlaw02.WholeBack" = some 12 := by kernel_rfl
theorem wholeBack_closed : joinedFacts Tryz.prog 12 Tryz.f12 Rows.wholeBackSpec Rows.wholeBackRow = true := joined_of wholeBack_k1 laidOutZ z_maps wholeBack_k4 wholeBack_k5 wholeBack_k6 wholeBack_k7 wholeBack_k8 wholeBack_k9 wholeBack_k10 wholeBack_k11 wholeBack_k12 wholeBack_k13 wholeBack_k14 wholeBack_k15 wholeBack_k16 wholeBack_k17 wholeBack_k18 wholeBack_k19 wholeBack_k20 wholeBack_k21 wholeBack_k22 z_plainKeys wholeBack_k24 z_stopsHeard z_enter z_lifts z_make wholeBack_k29 wholeBack_k30 wholeBack_k31 wholeBack_k32
theorem wholeBack_inst : Tryz.f12.isInstance Tryz.prog Rows.wholeBackRow.origin Rows.wholeBackRow.targs := of_decide_eq_true (by kernel_rfl)
theorem wholeBack_wrap : Tryz.f12.isWrapper Tryz.prog Rows.wholeBackRow.wrapper Rows.wholeBackRow.mainSum := by unfold Func.isWrapper; first | (rw [if_pos (by decide +kernel)]; kernel_rfl) | (rw [if_neg (by decide +kernel)]; exact ⟨rfl, rfl⟩)
theorem wholeBack_holds : Rows.WholeBackSaid :=
  OpenClaim.holds_of_wide 12 Tryz.f12 rfl rfl rfl rfl rfl rfl rfl ⟨rfl, rfl, rfl, rfl, rfl⟩ rfl rfl rfl rfl rfl wholeBack_named Tryz.func12 wholeBack_closed
    wholeBack_inst wholeBack_wrap
    (fun os started H enc _ => wholeBack_lifted os started H enc)
end Go.Proofs.YtjohcjagbodicaaGreatDoor
