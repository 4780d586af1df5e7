/- DeciRests: the row; no condition. -/
import Derived.Test.YtaglofmanchabaaGreatDoorRXF1
set_option linter.unusedVariables false
set_option linter.unusedSimpArgs false
set_option linter.unnecessarySimpa false
set_option maxRecDepth 100000
namespace Go.Proofs.YtaglofmanchabaaGreatDoor
open Go.ChangeShapes Go.WideShapes Go.ChangeAt Go.RowKit Go.V
theorem deciRests_k1 : (Rows.deciRestsRow.wf (OpenSpec.ofChange Rows.deciRestsSpec)) = true := by kernel_rfl
theorem deciRests_k4 : (Tryz.f6.params.all (Tryz.prog.readableRec ·)) = true := by kernel_rfl
theorem deciRests_k5 : (namedTie Tryz.prog Rows.deciRestsRow.named Rows.deciRestsSpec.vars) = true := by kernel_rfl
theorem deciRests_k6 : ((Rows.deciRestsRow.stops == [])) = true := by kernel_rfl
theorem deciRests_k7 : ((Tryz.prog.stops == [])) = true := by kernel_rfl
theorem deciRests_k8 : ((Rows.deciRestsRow.knobs == [])) = true := by kernel_rfl
theorem deciRests_k9 : ((Tryz.prog.stopKnobs == [])) = true := by kernel_rfl
theorem deciRests_k10 : ((Rows.deciRestsRow.inPlace == Tryz.prog.inPlace 6)) = true := by kernel_rfl
theorem deciRests_k11 : ((Rows.deciRestsRow.unfollowed == Tryz.prog.unfollowed 6)) = true := by kernel_rfl
theorem deciRests_k12 : ((Rows.deciRestsRow.recurses == Tryz.prog.recurses 6)) = true := by kernel_rfl
theorem deciRests_k13 : ((Rows.deciRestsRow.named == Tryz.prog.varsNamed 6)) = true := by kernel_rfl
theorem deciRests_k14 : ((Rows.deciRestsRow.maps == (Tryz.f6.params.toList ++ Rows.deciRestsSpec.plain.varTypes Tryz.prog).any (Tryz.prog.mapsRec ·))) = true := by kernel_rfl
theorem deciRests_k15 : ((Rows.deciRestsRow.ifaces == (Tryz.f6.params.toList ++ Rows.deciRestsSpec.plain.varTypes Tryz.prog).any (Tryz.prog.ifacesRec ·))) = true := by kernel_rfl
theorem deciRests_k16 : ((Rows.deciRestsRow.mapsOut == Tryz.prog.mapsAmong Tryz.f6.resultTypes.toList)) = true := by kernel_rfl
theorem deciRests_k17 : ((Rows.deciRestsRow.loops == (Tryz.f6.params.toList ++ Rows.deciRestsSpec.plain.varTypes Tryz.prog).any (Tryz.prog.loopsFrom ·))) = true := by kernel_rfl
theorem deciRests_k18 : ((Rows.deciRestsRow.wideKeys == (Tryz.f6.params.toList ++ Rows.deciRestsSpec.plain.varTypes Tryz.prog ++ Tryz.f6.resultTypes.toList).any (Tryz.prog.wideKeysFrom ·))) = true := by kernel_rfl
theorem deciRests_k19 : (Rows.deciRestsSpec.vars.all (Tryz.prog.varReadable ·)) = true := by kernel_rfl
theorem deciRests_k20 : (Tryz.f6.resultTypes.all (fun t => Tryz.prog.readableRec t && decide (t < Tryz.prog.types.size))) = true := by kernel_rfl
theorem deciRests_k21 : ((Rows.deciRestsRow.ifacesOut == Tryz.f6.resultTypes.toList.any (Tryz.prog.ifacesRec ·))) = true := by kernel_rfl
theorem deciRests_k22 : ((Rows.deciRestsRow.loopsOut == Tryz.f6.resultTypes.toList.any (Tryz.prog.loopsFrom ·))) = true := by kernel_rfl
theorem deciRests_k24 : (Rows.deciRestsRow.shortTexts.isNone) = true := by kernel_rfl
theorem deciRests_k29 : ((Rows.deciRestsRow.kinds == (if Rows.deciRestsRow.domain.isEmpty then [] else Tryz.f6.params.toList.map fun t => match Tryz.prog.underlying t with | some (.int k) => some k | _ => none))) = true := by kernel_rfl
theorem deciRests_k30 : ((Rows.deciRestsRow.pinned == Rows.deciRestsRow.pinnedBy)) = true := by kernel_rfl
theorem deciRests_k31 : ((Rows.deciRestsRow.veiled == (Tryz.f6.params.toList ++ Rows.deciRestsSpec.plain.varTypes Tryz.prog ++ Tryz.f6.resultTypes.toList).any (Tryz.prog.veiledRec ·))) = true := by kernel_rfl
theorem deciRests_k32 : (Rows.deciRestsRow.veiledFits Tryz.prog Tryz.f6.params.toList (Tryz.f6.params.toList ++ Rows.deciRestsSpec.plain.varTypes Tryz.prog ++ Tryz.f6.resultTypes.toList)) = true := by kernel_rfl
theorem deciRests_named : Tryz.prog.funcNamed "soroban/sorobanlaw09.DeciRests" = some 6 := by kernel_rfl
theorem deciRests_closed : joinedFacts Tryz.prog 6 Tryz.f6 Rows.deciRestsSpec Rows.deciRestsRow = true := ZeY deciRests_k1 ZeX ZjG deciRests_k4 deciRests_k5 deciRests_k6 deciRests_k7 deciRests_k8 deciRests_k9 deciRests_k10 deciRests_k11 deciRests_k12 deciRests_k13 deciRests_k14 deciRests_k15 deciRests_k16 deciRests_k17 deciRests_k18 deciRests_k19 deciRests_k20 deciRests_k21 deciRests_k22 ZdB deciRests_k24 Zc5 Zht Zhr ZjH deciRests_k29 deciRests_k30 deciRests_k31 deciRests_k32
theorem deciRests_inst : Tryz.f6.isInstance Tryz.prog Rows.deciRestsRow.origin Rows.deciRestsRow.targs := of_decide_eq_true (by kernel_rfl)
theorem deciRests_wrap : Tryz.f6.isWrapper Tryz.prog Rows.deciRestsRow.wrapper Rows.deciRestsRow.mainSum := by unfold Func.isWrapper; first | (rw [if_pos (by decide +kernel)]; kernel_rfl) | (rw [if_neg (by decide +kernel)]; exact ⟨rfl, rfl⟩)
theorem deciRests_holds : Rows.DeciRestsSaid :=
  OpenClaim.holds_of_wide 6 Tryz.f6 rfl rfl rfl rfl rfl rfl rfl ⟨rfl, rfl, rfl, rfl, rfl⟩ rfl rfl rfl rfl rfl deciRests_named Tryz.func6 deciRests_closed
    deciRests_inst deciRests_wrap
    (fun os started H enc _ => deciRests_lifted os started H enc)
end Go.Proofs.YtaglofmanchabaaGreatDoor
