/- WholeDivisors: the row; no condition. -/
import Derived.Test.YtjohcjagbodicaaGreatDoorRXG1
set_option linter.unusedVariables false
set_option linter.unusedSimpArgs false
set_option maxRecDepth 100000
namespace Go.Proofs.YtjohcjagbodicaaGreatDoor
open Go.ChangeShapes Go.WideShapes Go.ChangeAt Go.RowKit Go.V
theorem wholeDivisors_k1 : (Rows.wholeDivisorsRow.wf (OpenSpec.ofChange Rows.wholeDivisorsSpec)) = true := by kernel_rfl
theorem wholeDivisors_k4 : (Tryz.f4.params.all (Tryz.prog.readableRec ·)) = true := by kernel_rfl
theorem wholeDivisors_k5 : (namedTie Tryz.prog Rows.wholeDivisorsRow.named Rows.wholeDivisorsSpec.vars) = true := by kernel_rfl
theorem wholeDivisors_k6 : ((Rows.wholeDivisorsRow.stops == [])) = true := by kernel_rfl
theorem wholeDivisors_k7 : ((Tryz.prog.stops == [])) = true := by kernel_rfl
theorem wholeDivisors_k8 : ((Rows.wholeDivisorsRow.knobs == [])) = true := by kernel_rfl
theorem wholeDivisors_k9 : ((Tryz.prog.stopKnobs == [])) = true := by kernel_rfl
theorem wholeDivisors_k10 : ((Rows.wholeDivisorsRow.inPlace == Tryz.prog.inPlace 4)) = true := by kernel_rfl
theorem wholeDivisors_k11 : ((Rows.wholeDivisorsRow.unfollowed == Tryz.prog.unfollowed 4)) = true := by kernel_rfl
theorem wholeDivisors_k12 : ((Rows.wholeDivisorsRow.recurses == Tryz.prog.recurses 4)) = true := by kernel_rfl
theorem wholeDivisors_k13 : ((Rows.wholeDivisorsRow.named == Tryz.prog.varsNamed 4)) = true := by kernel_rfl
theorem wholeDivisors_k14 : ((Rows.wholeDivisorsRow.maps == (Tryz.f4.params.toList ++ Rows.wholeDivisorsSpec.plain.varTypes Tryz.prog).any (Tryz.prog.mapsRec ·))) = true := by kernel_rfl
theorem wholeDivisors_k15 : ((Rows.wholeDivisorsRow.ifaces == (Tryz.f4.params.toList ++ Rows.wholeDivisorsSpec.plain.varTypes Tryz.prog).any (Tryz.prog.ifacesRec ·))) = true := by kernel_rfl
theorem wholeDivisors_k16 : ((Rows.wholeDivisorsRow.mapsOut == Tryz.prog.mapsAmong Tryz.f4.resultTypes.toList)) = true := by kernel_rfl
theorem wholeDivisors_k17 : ((Rows.wholeDivisorsRow.loops == (Tryz.f4.params.toList ++ Rows.wholeDivisorsSpec.plain.varTypes Tryz.prog).any (Tryz.prog.loopsFrom ·))) = true := by kernel_rfl
theorem wholeDivisors_k18 : ((Rows.wholeDivisorsRow.wideKeys == (Tryz.f4.params.toList ++ Rows.wholeDivisorsSpec.plain.varTypes Tryz.prog ++ Tryz.f4.resultTypes.toList).any (Tryz.prog.wideKeysFrom ·))) = true := by kernel_rfl
theorem wholeDivisors_k19 : (Rows.wholeDivisorsSpec.vars.all (Tryz.prog.varReadable ·)) = true := by kernel_rfl
theorem wholeDivisors_k20 : (Tryz.f4.resultTypes.all (fun t => Tryz.prog.readableRec t && decide (t < Tryz.prog.types.size))) = true := by kernel_rfl
theorem wholeDivisors_k21 : ((Rows.wholeDivisorsRow.ifacesOut == Tryz.f4.resultTypes.toList.any (Tryz.prog.ifacesRec ·))) = true := by kernel_rfl
theorem wholeDivisors_k22 : ((Rows.wholeDivisorsRow.loopsOut == Tryz.f4.resultTypes.toList.any (Tryz.prog.loopsFrom ·))) = true := by kernel_rfl
theorem wholeDivisors_k24 : (Rows.wholeDivisorsRow.shortTexts.isNone) = true := by kernel_rfl
theorem wholeDivisors_k29 : ((Rows.wholeDivisorsRow.kinds == (if Rows.wholeDivisorsRow.domain.isEmpty then [] else Tryz.f4.params.toList.map fun t => match Tryz.prog.underlying t with | some (.int k) => some k | _ => none))) = true := by kernel_rfl
theorem wholeDivisors_k30 : ((Rows.wholeDivisorsRow.pinned == Rows.wholeDivisorsRow.pinnedBy)) = true := by kernel_rfl
theorem wholeDivisors_k31 : ((Rows.wholeDivisorsRow.veiled == (Tryz.f4.params.toList ++ Rows.wholeDivisorsSpec.plain.varTypes Tryz.prog ++ Tryz.f4.resultTypes.toList).any (Tryz.prog.veiledRec ·))) = true := by kernel_rfl
theorem wholeDivisors_k32 : (Rows.wholeDivisorsRow.veiledFits Tryz.prog Tryz.f4.params.toList (Tryz.f4.params.toList ++ Rows.wholeDivisorsSpec.plain.varTypes Tryz.prog ++ Tryz.f4.resultTypes.toList)) = true := by kernel_rfl
theorem wholeDivisors_named : Tryz.prog.funcNamed "soroban/sorobanlaw02.WholeDivisors" = some 4 := by kernel_rfl
theorem wholeDivisors_closed : joinedFacts Tryz.prog 4 Tryz.f4 Rows.wholeDivisorsSpec Rows.wholeDivisorsRow = true := joined_of wholeDivisors_k1 laidOutZ z_maps wholeDivisors_k4 wholeDivisors_k5 wholeDivisors_k6 wholeDivisors_k7 wholeDivisors_k8 wholeDivisors_k9 wholeDivisors_k10 wholeDivisors_k11 wholeDivisors_k12 wholeDivisors_k13 wholeDivisors_k14 wholeDivisors_k15 wholeDivisors_k16 wholeDivisors_k17 wholeDivisors_k18 wholeDivisors_k19 wholeDivisors_k20 wholeDivisors_k21 wholeDivisors_k22 z_plainKeys wholeDivisors_k24 z_stopsHeard z_enter z_lifts z_make wholeDivisors_k29 wholeDivisors_k30 wholeDivisors_k31 wholeDivisors_k32
theorem wholeDivisors_inst : Tryz.f4.isInstance Tryz.prog Rows.wholeDivisorsRow.origin Rows.wholeDivisorsRow.targs := of_decide_eq_true (by kernel_rfl)
theorem wholeDivisors_wrap : Tryz.f4.isWrapper Tryz.prog Rows.wholeDivisorsRow.wrapper Rows.wholeDivisorsRow.mainSum := by unfold Func.isWrapper; first | (rw [if_pos (by decide +kernel)]; kernel_rfl) | (rw [if_neg (by decide +kernel)]; exact ⟨rfl, rfl⟩)
theorem wholeDivisors_holds : Rows.WholeDivisorsSaid :=
  OpenClaim.holds_of_wide 4 Tryz.f4 rfl rfl rfl rfl rfl rfl rfl ⟨rfl, rfl, rfl, rfl, rfl⟩ rfl rfl rfl rfl rfl wholeDivisors_named Tryz.func4 wholeDivisors_closed
    wholeDivisors_inst wholeDivisors_wrap
    (fun os started H enc _ => wholeDivisors_lifted os started H enc)
end Go.Proofs.YtjohcjagbodicaaGreatDoor
