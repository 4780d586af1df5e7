/- WholeRing: the row; no condition. -/
import Derived.Test.YtjohcjagbodicaaGreatDoorRXE1
set_option linter.unusedVariables false
set_option linter.unusedSimpArgs false
set_option maxRecDepth 100000
namespace Go.Proofs.YtjohcjagbodicaaGreatDoor
open Go.ChangeShapes Go.WideShapes Go.ChangeAt Go.RowKit Go.V

theorem wholeRing_k1 : (Rows.wholeRingRow.wf (OpenSpec.ofChange Rows.wholeRingSpec)) = true := by kernel_rfl
theorem wholeRing_k4 : (Tryz.f8.params.all (Tryz.prog.readableRec ·)) = true := by kernel_rfl
theorem wholeRing_k5 : (namedTie Tryz.prog Rows.wholeRingRow.named Rows.wholeRingSpec.vars) = true := by kernel_rfl
theorem wholeRing_k6 : ((Rows.wholeRingRow.stops == [])) = true := by kernel_rfl
theorem wholeRing_k7 : ((Tryz.prog.stops == [])) = true := by kernel_rfl
theorem wholeRing_k8 : ((Rows.wholeRingRow.knobs == [])) = true := by kernel_rfl
theorem wholeRing_k9 : ((Tryz.prog.stopKnobs == [])) = true := by kernel_rfl
theorem wholeRing_k10 : ((Rows.wholeRingRow.inPlace == Tryz.prog.inPlace 8)) = true := by kernel_rfl
theorem wholeRing_k11 : ((Rows.wholeRingRow.unfollowed == Tryz.prog.unfollowed 8)) = true := by kernel_rfl
theorem wholeRing_k12 : ((Rows.wholeRingRow.recurses == Tryz.prog.recurses 8)) = true := by kernel_rfl
theorem wholeRing_k13 : ((Rows.wholeRingRow.named == Tryz.prog.varsNamed 8)) = true := by kernel_rfl
theorem wholeRing_k14 : ((Rows.wholeRingRow.maps == (Tryz.f8.params.toList ++ Rows.wholeRingSpec.plain.varTypes Tryz.prog).any (Tryz.prog.mapsRec ·))) = true := by kernel_rfl
theorem wholeRing_k15 : ((Rows.wholeRingRow.ifaces == (Tryz.f8.params.toList ++ Rows.wholeRingSpec.plain.varTypes Tryz.prog).any (Tryz.prog.ifacesRec ·))) = true := by kernel_rfl
theorem wholeRing_k16 : ((Rows.wholeRingRow.mapsOut == Tryz.prog.mapsAmong Tryz.f8.resultTypes.toList)) = true := by kernel_rfl
theorem wholeRing_k17 : ((Rows.wholeRingRow.loops == (Tryz.f8.params.toList ++ Rows.wholeRingSpec.plain.varTypes Tryz.prog).any (Tryz.prog.loopsFrom ·))) = true := by kernel_rfl
theorem wholeRing_k18 : ((Rows.wholeRingRow.wideKeys == (Tryz.f8.params.toList ++ Rows.wholeRingSpec.plain.varTypes Tryz.prog ++ Tryz.f8.resultTypes.toList).any (Tryz.prog.wideKeysFrom ·))) = true := by kernel_rfl
theorem wholeRing_k19 : (Rows.wholeRingSpec.vars.all (Tryz.prog.varReadable ·)) = true := by kernel_rfl
theorem wholeRing_k20 : (Tryz.f8.resultTypes.all (fun t => Tryz.prog.readableRec t && decide (t < Tryz.prog.types.size))) = true := by kernel_rfl
theorem wholeRing_k21 : ((Rows.wholeRingRow.ifacesOut == Tryz.f8.resultTypes.toList.any (Tryz.prog.ifacesRec ·))) = true := by kernel_rfl
theorem wholeRing_k22 : ((Rows.wholeRingRow.loopsOut == Tryz.f8.resultTypes.toList.any (Tryz.prog.loopsFrom ·))) = true := by kernel_rfl
theorem wholeRing_k24 : (Rows.wholeRingRow.shortTexts.isNone) = true := by kernel_rfl
theorem wholeRing_k29 : ((Rows.wholeRingRow.kinds == (if Rows.wholeRingRow.domain.isEmpty then [] else Tryz.f8.params.toList.map fun t => match Tryz.prog.underlying t with | some (.int k) => some k | _ => none))) = true := by kernel_rfl
theorem wholeRing_k30 : ((Rows.wholeRingRow.pinned == Rows.wholeRingRow.pinnedBy)) = true := by kernel_rfl
theorem wholeRing_k31 : ((Rows.wholeRingRow.veiled == (Tryz.f8.params.toList ++ Rows.wholeRingSpec.plain.varTypes Tryz.prog ++ Tryz.f8.resultTypes.toList).any (Tryz.prog.veiledRec ·))) = true := by kernel_rfl
theorem wholeRing_k32 : (Rows.wholeRingRow.veiledFits Tryz.prog Tryz.f8.params.toList (Tryz.f8.params.toList ++ Rows.wholeRingSpec.plain.varTypes Tryz.prog ++ Tryz.f8.resultTypes.toList)) = true := by kernel_rfl
theorem wholeRing_named : Tryz.prog.funcNamed "soroban/sorobanlaw02.WholeRing" = some 8 := by kernel_rfl
theorem wholeRing_closed : joinedFacts Tryz.prog 8 Tryz.f8 Rows.wholeRingSpec Rows.wholeRingRow = true := joined_of wholeRing_k1 laidOutZ z_maps wholeRing_k4 wholeRing_k5 wholeRing_k6 wholeRing_k7 wholeRing_k8 wholeRing_k9 wholeRing_k10 wholeRing_k11 wholeRing_k12 wholeRing_k13 wholeRing_k14 wholeRing_k15 wholeRing_k16 wholeRing_k17 wholeRing_k18 wholeRing_k19 wholeRing_k20 wholeRing_k21 wholeRing_k22 z_plainKeys wholeRing_k24 z_stopsHeard z_enter z_lifts z_make wholeRing_k29 wholeRing_k30 wholeRing_k31 wholeRing_k32
theorem wholeRing_inst : Tryz.f8.isInstance Tryz.prog Rows.wholeRingRow.origin Rows.wholeRingRow.targs := of_decide_eq_true (by kernel_rfl)
theorem wholeRing_wrap : Tryz.f8.isWrapper Tryz.prog Rows.wholeRingRow.wrapper Rows.wholeRingRow.mainSum := by unfold Func.isWrapper; first | (rw [if_pos (by decide +kernel)]; kernel_rfl) | (rw [if_neg (by decide +kernel)]; exact ⟨rfl, rfl⟩)
theorem wholeRing_holds : Rows.WholeRingSaid :=
  OpenClaim.holds_of_wide 8 Tryz.f8 rfl rfl rfl rfl rfl rfl rfl ⟨rfl, rfl, rfl, rfl, rfl⟩ rfl rfl rfl rfl rfl wholeRing_named Tryz.func8 wholeRing_closed
    wholeRing_inst wholeRing_wrap
    (fun os started H enc _ => wholeRing_lifted os started H enc)
end Go.Proofs.YtjohcjagbodicaaGreatDoor
