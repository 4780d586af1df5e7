/- WholeDivides: the row; no condition. -/
import Derived.Test.YtjohcjagbodicaaGreatDoorRXF1
set_option linter.unusedVariables false
set_option linter.unusedSimpArgs false
set_option maxRecDepth 100000
namespace Go.Proofs.YtjohcjagbodicaaGreatDoor
open Go.ChangeShapes Go.WideShapes Go.ChangeAt Go.RowKit Go.V

theorem wholeDivides_k1 : (Rows.wholeDividesRow.wf (OpenSpec.ofChange Rows.wholeDividesSpec)) = true := by kernel_rfl
theorem wholeDivides_k4 : (Tryz.f3.params.all (Tryz.prog.readableRec ·)) = true := by kernel_rfl
theorem wholeDivides_k5 : (namedTie Tryz.prog Rows.wholeDividesRow.named Rows.wholeDividesSpec.vars) = true := by kernel_rfl
theorem wholeDivides_k6 : ((Rows.wholeDividesRow.stops == [])) = true := by kernel_rfl
theorem wholeDivides_k7 : ((Tryz.prog.stops == [])) = true := by kernel_rfl
theorem wholeDivides_k8 : ((Rows.wholeDividesRow.knobs == [])) = true := by kernel_rfl
theorem wholeDivides_k9 : ((Tryz.prog.stopKnobs == [])) = true := by kernel_rfl
theorem wholeDivides_k10 : ((Rows.wholeDividesRow.inPlace == Tryz.prog.inPlace 3)) = true := by kernel_rfl
theorem wholeDivides_k11 : ((Rows.wholeDividesRow.unfollowed == Tryz.prog.unfollowed 3)) = true := by kernel_rfl
theorem wholeDivides_k12 : ((Rows.wholeDividesRow.recurses == Tryz.prog.recurses 3)) = true := by kernel_rfl
theorem wholeDivides_k13 : ((Rows.wholeDividesRow.named == Tryz.prog.varsNamed 3)) = true := by kernel_rfl
theorem wholeDivides_k14 : ((Rows.wholeDividesRow.maps == (Tryz.f3.params.toList ++ Rows.wholeDividesSpec.plain.varTypes Tryz.prog).any (Tryz.prog.mapsRec ·))) = true := by kernel_rfl
theorem wholeDivides_k15 : ((Rows.wholeDividesRow.ifaces == (Tryz.f3.params.toList ++ Rows.wholeDividesSpec.plain.varTypes Tryz.prog).any (Tryz.prog.ifacesRec ·))) = true := by kernel_rfl
theorem wholeDivides_k16 : ((Rows.wholeDividesRow.mapsOut == Tryz.prog.mapsAmong Tryz.f3.resultTypes.toList)) = true := by kernel_rfl
theorem wholeDivides_k17 : ((Rows.wholeDividesRow.loops == (Tryz.f3.params.toList ++ Rows.wholeDividesSpec.plain.varTypes Tryz.prog).any (Tryz.prog.loopsFrom ·))) = true := by kernel_rfl
theorem wholeDivides_k18 : ((Rows.wholeDividesRow.wideKeys == (Tryz.f3.params.toList ++ Rows.wholeDividesSpec.plain.varTypes Tryz.prog ++ Tryz.f3.resultTypes.toList).any (Tryz.prog.wideKeysFrom ·))) = true := by kernel_rfl
theorem wholeDivides_k19 : (Rows.wholeDividesSpec.vars.all (Tryz.prog.varReadable ·)) = true := by kernel_rfl
theorem wholeDivides_k20 : (Tryz.f3.resultTypes.all (fun t => Tryz.prog.readableRec t && decide (t < Tryz.prog.types.size))) = true := by kernel_rfl
theorem wholeDivides_k21 : ((Rows.wholeDividesRow.ifacesOut == Tryz.f3.resultTypes.toList.any (Tryz.prog.ifacesRec ·))) = true := by kernel_rfl
theorem wholeDivides_k22 : ((Rows.wholeDividesRow.loopsOut == Tryz.f3.resultTypes.toList.any (Tryz.prog.loopsFrom ·))) = true := by kernel_rfl
theorem wholeDivides_k24 : (Rows.wholeDividesRow.shortTexts.isNone) = true := by kernel_rfl
theorem wholeDivides_k29 : ((Rows.wholeDividesRow.kinds == (if Rows.wholeDividesRow.domain.isEmpty then [] else Tryz.f3.params.toList.map fun t => match Tryz.prog.underlying t with | some (.int k) => some k | _ => none))) = true := by kernel_rfl
theorem wholeDivides_k30 : ((Rows.wholeDividesRow.pinned == Rows.wholeDividesRow.pinnedBy)) = true := by kernel_rfl
theorem wholeDivides_k31 : ((Rows.wholeDividesRow.veiled == (Tryz.f3.params.toList ++ Rows.wholeDividesSpec.plain.varTypes Tryz.prog ++ Tryz.f3.resultTypes.toList).any (Tryz.prog.veiledRec ·))) = true := by kernel_rfl
theorem wholeDivides_k32 : (Rows.wholeDividesRow.veiledFits Tryz.prog Tryz.f3.params.toList (Tryz.f3.params.toList ++ Rows.wholeDividesSpec.plain.varTypes Tryz.prog ++ Tryz.f3.resultTypes.toList)) = true := by kernel_rfl
theorem wholeDivides_named : Tryz.prog.funcNamed "soroban/sorobanlaw02.WholeDivides" = some 3 := by kernel_rfl
theorem wholeDivides_closed : joinedFacts Tryz.prog 3 Tryz.f3 Rows.wholeDividesSpec Rows.wholeDividesRow = true := joined_of wholeDivides_k1 laidOutZ z_maps wholeDivides_k4 wholeDivides_k5 wholeDivides_k6 wholeDivides_k7 wholeDivides_k8 wholeDivides_k9 wholeDivides_k10 wholeDivides_k11 wholeDivides_k12 wholeDivides_k13 wholeDivides_k14 wholeDivides_k15 wholeDivides_k16 wholeDivides_k17 wholeDivides_k18 wholeDivides_k19 wholeDivides_k20 wholeDivides_k21 wholeDivides_k22 z_plainKeys wholeDivides_k24 z_stopsHeard z_enter z_lifts z_make wholeDivides_k29 wholeDivides_k30 wholeDivides_k31 wholeDivides_k32
theorem wholeDivides_inst : Tryz.f3.isInstance Tryz.prog Rows.wholeDividesRow.origin Rows.wholeDividesRow.targs := of_decide_eq_true (by kernel_rfl)
theorem wholeDivides_wrap : Tryz.f3.isWrapper Tryz.prog Rows.wholeDividesRow.wrapper Rows.wholeDividesRow.mainSum := by unfold Func.isWrapper; first | (rw [if_pos (by decide +kernel)]; kernel_rfl) | (rw [if_neg (by decide +kernel)]; exact ⟨rfl, rfl⟩)
theorem wholeDivides_holds : Rows.WholeDividesSaid :=
  OpenClaim.holds_of_wide 3 Tryz.f3 rfl rfl rfl rfl rfl rfl rfl ⟨rfl, rfl, rfl, rfl, rfl⟩ rfl rfl rfl rfl rfl wholeDivides_named Tryz.func3 wholeDivides_closed
    wholeDivides_inst wholeDivides_wrap
    (fun os started H enc _ => wholeDivides_lifted os started H enc)
end Go.Proofs.YtjohcjagbodicaaGreatDoor
