/- DeciQuantizes: the row; no condition. -/
import Derived.Test.YtaglofmanchabaaGreatDoorRXG1
set_option linter.unusedVariables false
set_option linter.unusedSimpArgs false
set_option linter.unnecessarySimpa false
set_option maxRecDepth 100000
namespace Go.Proofs.YtaglofmanchabaaGreatDoor
open Go.ChangeShapes Go.WideShapes Go.ChangeAt Go.RowKit Go.V
theorem deciQuantizes_k1 : (Rows.deciQuantizesRow.wf (OpenSpec.ofChange Rows.deciQuantizesSpec)) = true := by kernel_rfl
theorem deciQuantizes_k4 : (Tryz.f7.params.all (Tryz.prog.readableRec ·)) = true := by kernel_rfl
theorem deciQuantizes_k5 : (namedTie Tryz.prog Rows.deciQuantizesRow.named Rows.deciQuantizesSpec.vars) = true := by kernel_rfl
theorem deciQuantizes_k6 : ((Rows.deciQuantizesRow.stops == [])) = true := by kernel_rfl
theorem deciQuantizes_k7 : ((Tryz.prog.stops == [])) = true := by kernel_rfl
theorem deciQuantizes_k8 : ((Rows.deciQuantizesRow.knobs == [])) = true := by kernel_rfl
theorem deciQuantizes_k9 : ((Tryz.prog.stopKnobs == [])) = true := by kernel_rfl
theorem deciQuantizes_k10 : ((Rows.deciQuantizesRow.inPlace == Tryz.prog.inPlace 7)) = true := by kernel_rfl
theorem deciQuantizes_k11 : ((Rows.deciQuantizesRow.unfollowed == Tryz.prog.unfollowed 7)) = true := by kernel_rfl
theorem deciQuantizes_k12 : ((Rows.deciQuantizesRow.recurses == Tryz.prog.recurses 7)) = true := by kernel_rfl
theorem deciQuantizes_k13 : ((Rows.deciQuantizesRow.named == Tryz.prog.varsNamed 7)) = true := by kernel_rfl
theorem deciQuantizes_k14 : ((Rows.deciQuantizesRow.maps == (Tryz.f7.params.toList ++ Rows.deciQuantizesSpec.plain.varTypes Tryz.prog).any (Tryz.prog.mapsRec ·))) = true := by kernel_rfl
theorem deciQuantizes_k15 : ((Rows.deciQuantizesRow.ifaces == (Tryz.f7.params.toList ++ Rows.deciQuantizesSpec.plain.varTypes Tryz.prog).any (Tryz.prog.ifacesRec ·))) = true := by kernel_rfl
theorem deciQuantizes_k16 : ((Rows.deciQuantizesRow.mapsOut == Tryz.prog.mapsAmong Tryz.f7.resultTypes.toList)) = true := by kernel_rfl
theorem deciQuantizes_k17 : ((Rows.deciQuantizesRow.loops == (Tryz.f7.params.toList ++ Rows.deciQuantizesSpec.plain.varTypes Tryz.prog).any (Tryz.prog.loopsFrom ·))) = true := by kernel_rfl
theorem deciQuantizes_k18 : ((Rows.deciQuantizesRow.wideKeys == (Tryz.f7.params.toList ++ Rows.deciQuantizesSpec.plain.varTypes Tryz.prog ++ Tryz.f7.resultTypes.toList).any (Tryz.prog.wideKeysFrom ·))) = true := by kernel_rfl
theorem deciQuantizes_k19 : (Rows.deciQuantizesSpec.vars.all (Tryz.prog.varReadable ·)) = true := by kernel_rfl
theorem deciQuantizes_k20 : (Tryz.f7.resultTypes.all (fun t => Tryz.prog.readableRec t && decide (t < Tryz.prog.types.size))) = true := by kernel_rfl
theorem deciQuantizes_k21 : ((Rows.deciQuantizesRow.ifacesOut == Tryz.f7.resultTypes.toList.any (Tryz.prog.ifacesRec ·))) = true := by kernel_rfl
theorem deciQuantizes_k22 : ((Rows.deciQuantizesRow.loopsOut == Tryz.f7.resultTypes.toList.any (Tryz.prog.loopsFrom ·))) = true := by kernel_rfl
theorem deciQuantizes_k24 : (Rows.deciQuantizesRow.shortTexts.isNone) = true := by kernel_rfl
theorem deciQuantizes_k29 : ((Rows.deciQuantizesRow.kinds == (if Rows.deciQuantizesRow.domain.isEmpty then [] else Tryz.f7.params.toList.map fun t => match Tryz.prog.underlying t with | some (.int k) => some k | _ => none))) = true := by kernel_rfl
theorem deciQuantizes_k30 : ((Rows.deciQuantizesRow.pinned == Rows.deciQuantizesRow.pinnedBy)) = true := by kernel_rfl
theorem deciQuantizes_k31 : ((Rows.deciQuantizesRow.veiled == (Tryz.f7.params.toList ++ Rows.deciQuantizesSpec.plain.varTypes Tryz.prog ++ Tryz.f7.resultTypes.toList).any (Tryz.prog.veiledRec ·))) = true := by kernel_rfl
theorem deciQuantizes_k32 : (Rows.deciQuantizesRow.veiledFits Tryz.prog Tryz.f7.params.toList (Tryz.f7.params.toList ++ Rows.deciQuantizesSpec.plain.varTypes Tryz.prog ++ Tryz.f7.resultTypes.toList)) = true := by kernel_rfl
theorem deciQuantizes_named : Tryz.prog.funcNamed "soroban/sorobanlaw09.DeciQuantizes" = some 7 := by kernel_rfl
theorem deciQuantizes_closed : joinedFacts Tryz.prog 7 Tryz.f7 Rows.deciQuantizesSpec Rows.deciQuantizesRow = true := ZeY deciQuantizes_k1 ZeX ZjG deciQuantizes_k4 deciQuantizes_k5 deciQuantizes_k6 deciQuantizes_k7 deciQuantizes_k8 deciQuantizes_k9 deciQuantizes_k10 deciQuantizes_k11 deciQuantizes_k12 deciQuantizes_k13 deciQuantizes_k14 deciQuantizes_k15 deciQuantizes_k16 deciQuantizes_k17 deciQuantizes_k18 deciQuantizes_k19 deciQuantizes_k20 deciQuantizes_k21 deciQuantizes_k22 ZdB deciQuantizes_k24 Zc5 Zht Zhr ZjH deciQuantizes_k29 deciQuantizes_k30 deciQuantizes_k31 deciQuantizes_k32
theorem deciQuantizes_inst : Tryz.f7.isInstance Tryz.prog Rows.deciQuantizesRow.origin Rows.deciQuantizesRow.targs := of_decide_eq_true (by kernel_rfl)
theorem deciQuantizes_wrap : Tryz.f7.isWrapper Tryz.prog Rows.deciQuantizesRow.wrapper Rows.deciQuantizesRow.mainSum := by unfold Func.isWrapper; first | (rw [if_pos (by decide +kernel)]; kernel_rfl) | (rw [if_neg (by decide +kernel)]; exact ⟨rfl, rfl⟩)
theorem deciQuantizes_holds : Rows.DeciQuantizesSaid :=
  OpenClaim.holds_of_wide 7 Tryz.f7 rfl rfl rfl rfl rfl rfl rfl ⟨rfl, rfl, rfl, rfl, rfl⟩ rfl rfl rfl rfl rfl deciQuantizes_named Tryz.func7 deciQuantizes_closed
    deciQuantizes_inst deciQuantizes_wrap
    (fun os started H enc _ => deciQuantizes_lifted os started H enc)
end Go.Proofs.YtaglofmanchabaaGreatDoor
