/- DeciSums: the row; no condition. -/
import Derived.Test.YtaglofmanchabaaGreatDoorRXB1
set_option linter.unusedVariables false
set_option linter.unusedSimpArgs false
set_option linter.unnecessarySimpa false
set_option maxRecDepth 100000
namespace Go.Proofs.YtaglofmanchabaaGreatDoor
open Go.ChangeShapes Go.WideShapes Go.ChangeAt Go.RowKit Go.V
theorem deciSums_k1 : (Rows.deciSumsRow.wf (OpenSpec.ofChange Rows.deciSumsSpec)) = true := by kernel_rfl
theorem deciSums_k4 : (Tryz.f3.params.all (Tryz.prog.readableRec ·)) = true := by kernel_rfl
theorem deciSums_k5 : (namedTie Tryz.prog Rows.deciSumsRow.named Rows.deciSumsSpec.vars) = true := by kernel_rfl
theorem deciSums_k6 : ((Rows.deciSumsRow.stops == [])) = true := by kernel_rfl
theorem deciSums_k7 : ((Tryz.prog.stops == [])) = true := by kernel_rfl
theorem deciSums_k8 : ((Rows.deciSumsRow.knobs == [])) = true := by kernel_rfl
theorem deciSums_k9 : ((Tryz.prog.stopKnobs == [])) = true := by kernel_rfl
theorem deciSums_k10 : ((Rows.deciSumsRow.inPlace == Tryz.prog.inPlace 3)) = true := by kernel_rfl
theorem deciSums_k11 : ((Rows.deciSumsRow.unfollowed == Tryz.prog.unfollowed 3)) = true := by kernel_rfl
theorem deciSums_k12 : ((Rows.deciSumsRow.recurses == Tryz.prog.recurses 3)) = true := by kernel_rfl
theorem deciSums_k13 : ((Rows.deciSumsRow.named == Tryz.prog.varsNamed 3)) = true := by kernel_rfl
theorem deciSums_k14 : ((Rows.deciSumsRow.maps == (Tryz.f3.params.toList ++ Rows.deciSumsSpec.plain.varTypes Tryz.prog).any (Tryz.prog.mapsRec ·))) = true := by kernel_rfl
theorem deciSums_k15 : ((Rows.deciSumsRow.ifaces == (Tryz.f3.params.toList ++ Rows.deciSumsSpec.plain.varTypes Tryz.prog).any (Tryz.prog.ifacesRec ·))) = true := by kernel_rfl
theorem deciSums_k16 : ((Rows.deciSumsRow.mapsOut == Tryz.prog.mapsAmong Tryz.f3.resultTypes.toList)) = true := by kernel_rfl
theorem deciSums_k17 : ((Rows.deciSumsRow.loops == (Tryz.f3.params.toList ++ Rows.deciSumsSpec.plain.varTypes Tryz.prog).any (Tryz.prog.loopsFrom ·))) = true := by kernel_rfl
theorem deciSums_k18 : ((Rows.deciSumsRow.wideKeys == (Tryz.f3.params.toList ++ Rows.deciSumsSpec.plain.varTypes Tryz.prog ++ Tryz.f3.resultTypes.toList).any (Tryz.prog.wideKeysFrom ·))) = true := by kernel_rfl
theorem deciSums_k19 : (Rows.deciSumsSpec.vars.all (Tryz.prog.varReadable ·)) = true := by kernel_rfl
theorem deciSums_k20 : (Tryz.f3.resultTypes.all (fun t => Tryz.prog.readableRec t && decide (t < Tryz.prog.types.size))) = true := by kernel_rfl
theorem deciSums_k21 : ((Rows.deciSumsRow.ifacesOut == Tryz.f3.resultTypes.toList.any (Tryz.prog.ifacesRec ·))) = true := by kernel_rfl
theorem deciSums_k22 : ((Rows.deciSumsRow.loopsOut == Tryz.f3.resultTypes.toList.any (Tryz.prog.loopsFrom ·))) = true := by kernel_rfl
theorem deciSums_k24 : (Rows.deciSumsRow.shortTexts.isNone) = true := by kernel_rfl
theorem deciSums_k29 : ((Rows.deciSumsRow.kinds == (if Rows.deciSumsRow.domain.isEmpty then [] else Tryz.f3.params.toList.map fun t => match Tryz.prog.underlying t with | some (.int k) => some k | _ => none))) = true := by kernel_rfl
theorem deciSums_k30 : ((Rows.deciSumsRow.pinned == Rows.deciSumsRow.pinnedBy)) = true := by kernel_rfl
theorem deciSums_k31 : ((Rows.deciSumsRow.veiled == (Tryz.f3.params.toList ++ Rows.deciSumsSpec.plain.varTypes Tryz.prog ++ Tryz.f3.resultTypes.toList).any (Tryz.prog.veiledRec ·))) = true := by kernel_rfl
theorem deciSums_k32 : (Rows.deciSumsRow.veiledFits Tryz.prog Tryz.f3.params.toList (Tryz.f3.params.toList ++ Rows.deciSumsSpec.plain.varTypes Tryz.prog ++ Tryz.f3.resultTypes.toList)) = true := by kernel_rfl
theorem deciSums_named : Tryz.prog.funcNamed "soroban/sorobanlaw09.DeciSums" = some 3 := by kernel_rfl
theorem deciSums_closed : joinedFacts Tryz.prog 3 Tryz.f3 Rows.deciSumsSpec Rows.deciSumsRow = true := ZeY deciSums_k1 ZeX ZjG deciSums_k4 deciSums_k5 deciSums_k6 deciSums_k7 deciSums_k8 deciSums_k9 deciSums_k10 deciSums_k11 deciSums_k12 deciSums_k13 deciSums_k14 deciSums_k15 deciSums_k16 deciSums_k17 deciSums_k18 deciSums_k19 deciSums_k20 deciSums_k21 deciSums_k22 ZdB deciSums_k24 Zc5 Zht Zhr ZjH deciSums_k29 deciSums_k30 deciSums_k31 deciSums_k32
theorem deciSums_inst : Tryz.f3.isInstance Tryz.prog Rows.deciSumsRow.origin Rows.deciSumsRow.targs := of_decide_eq_true (by kernel_rfl)
theorem deciSums_wrap : Tryz.f3.isWrapper Tryz.prog Rows.deciSumsRow.wrapper Rows.deciSumsRow.mainSum := by unfold Func.isWrapper; first | (rw [if_pos (by decide +kernel)]; kernel_rfl) | (rw [if_neg (by decide +kernel)]; exact ⟨rfl, rfl⟩)
theorem deciSums_holds : Rows.DeciSumsSaid :=
  OpenClaim.holds_of_wide 3 Tryz.f3 rfl rfl rfl rfl rfl rfl rfl ⟨rfl, rfl, rfl, rfl, rfl⟩ rfl rfl rfl rfl rfl deciSums_named Tryz.func3 deciSums_closed
    deciSums_inst deciSums_wrap
    (fun os started H enc _ => deciSums_lifted os started H enc)
end Go.Proofs.YtaglofmanchabaaGreatDoor
