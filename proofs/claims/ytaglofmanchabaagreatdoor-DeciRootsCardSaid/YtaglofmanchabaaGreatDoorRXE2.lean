/- DeciRoots: the row; no condition. -/
import Derived.Test.YtaglofmanchabaaGreatDoorRXE1
set_option linter.unusedVariables false
set_option linter.unusedSimpArgs false
set_option linter.unnecessarySimpa false
set_option maxRecDepth 100000
namespace Go.Proofs.YtaglofmanchabaaGreatDoor
open Go.ChangeShapes Go.WideShapes Go.ChangeAt Go.RowKit Go.V
theorem deciRoots_k1 : (Rows.deciRootsRow.wf (OpenSpec.ofChange Rows.deciRootsSpec)) = true := by kernel_rfl
theorem deciRoots_k4 : (Tryz.f5.params.all (Tryz.prog.readableRec ·)) = true := by kernel_rfl
theorem deciRoots_k5 : (namedTie Tryz.prog Rows.deciRootsRow.named Rows.deciRootsSpec.vars) = true := by kernel_rfl
theorem deciRoots_k6 : ((Rows.deciRootsRow.stops == [])) = true := by kernel_rfl
theorem deciRoots_k7 : ((Tryz.prog.stops == [])) = true := by kernel_rfl
theorem deciRoots_k8 : ((Rows.deciRootsRow.knobs == [])) = true := by kernel_rfl
theorem deciRoots_k9 : ((Tryz.prog.stopKnobs == [])) = true := by kernel_rfl
theorem deciRoots_k10 : ((Rows.deciRootsRow.inPlace == Tryz.prog.inPlace 5)) = true := by kernel_rfl
theorem deciRoots_k11 : ((Rows.deciRootsRow.unfollowed == Tryz.prog.unfollowed 5)) = true := by kernel_rfl
theorem deciRoots_k12 : ((Rows.deciRootsRow.recurses == Tryz.prog.recurses 5)) = true := by kernel_rfl
theorem deciRoots_k13 : ((Rows.deciRootsRow.named == Tryz.prog.varsNamed 5)) = true := by kernel_rfl
theorem deciRoots_k14 : ((Rows.deciRootsRow.maps == (Tryz.f5.params.toList ++ Rows.deciRootsSpec.plain.varTypes Tryz.prog).any (Tryz.prog.mapsRec ·))) = true := by kernel_rfl
theorem deciRoots_k15 : ((Rows.deciRootsRow.ifaces == (Tryz.f5.params.toList ++ Rows.deciRootsSpec.plain.varTypes Tryz.prog).any (Tryz.prog.ifacesRec ·))) = true := by kernel_rfl
theorem deciRoots_k16 : ((Rows.deciRootsRow.mapsOut == Tryz.prog.mapsAmong Tryz.f5.resultTypes.toList)) = true := by kernel_rfl
theorem deciRoots_k17 : ((Rows.deciRootsRow.loops == (Tryz.f5.params.toList ++ Rows.deciRootsSpec.plain.varTypes Tryz.prog).any (Tryz.prog.loopsFrom ·))) = true := by kernel_rfl
theorem deciRoots_k18 : ((Rows.deciRootsRow.wideKeys == (Tryz.f5.params.toList ++ Rows.deciRootsSpec.plain.varTypes Tryz.prog ++ Tryz.f5.resultTypes.toList).any (Tryz.prog.wideKeysFrom ·))) = true := by kernel_rfl
theorem deciRoots_k19 : (Rows.deciRootsSpec.vars.all (Tryz.prog.varReadable ·)) = true := by kernel_rfl
theorem deciRoots_k20 : (Tryz.f5.resultTypes.all (fun t => Tryz.prog.readableRec t && decide (t < Tryz.prog.types.size))) = true := by kernel_rfl
theorem deciRoots_k21 : ((Rows.deciRootsRow.ifacesOut == Tryz.f5.resultTypes.toList.any (Tryz.prog.ifacesRec ·))) = true := by kernel_rfl
theorem deciRoots_k22 : ((Rows.deciRootsRow.loopsOut == Tryz.f5.resultTypes.toList.any (Tryz.prog.loopsFrom ·))) = true := by kernel_rfl
theorem deciRoots_k24 : (Rows.deciRootsRow.shortTexts.isNone) = true := by kernel_rfl
theorem deciRoots_k29 : ((Rows.deciRootsRow.kinds == (if Rows.deciRootsRow.domain.isEmpty then [] else Tryz.f5.params.toList.map fun t => match Tryz.prog.underlying t with | some (.int k) => some k | _ => none))) = true := by kernel_rfl
theorem deciRoots_k30 : ((Rows.deciRootsRow.pinned == Rows.deciRootsRow.pinnedBy)) = true := by kernel_rfl
theorem deciRoots_k31 : ((Rows.deciRootsRow.veiled == (Tryz.f5.params.toList ++ Rows.deciRootsSpec.plain.varTypes Tryz.prog ++ Tryz.f5.resultTypes.toList).any (Tryz.prog.veiledRec ·))) = true := by kernel_rfl
theorem deciRoots_k32 : (Rows.deciRootsRow.veiledFits Tryz.prog Tryz.f5.params.toList (Tryz.f5.params.toList ++ Rows.deciRootsSpec.plain.varTypes Tryz.prog ++ Tryz.f5.resultTypes.toList)) = true := by kernel_rfl
theorem deciRoots_named : Tryz.prog.funcNamed "soroban/sorobanlaw09.DeciRoots" = some 5 := by kernel_rfl
theorem deciRoots_closed : joinedFacts Tryz.prog 5 Tryz.f5 Rows.deciRootsSpec Rows.deciRootsRow = true := ZeY deciRoots_k1 ZeX ZjG deciRoots_k4 deciRoots_k5 deciRoots_k6 deciRoots_k7 deciRoots_k8 deciRoots_k9 deciRoots_k10 deciRoots_k11 deciRoots_k12 deciRoots_k13 deciRoots_k14 deciRoots_k15 deciRoots_k16 deciRoots_k17 deciRoots_k18 deciRoots_k19 deciRoots_k20 deciRoots_k21 deciRoots_k22 ZdB deciRoots_k24 Zc5 Zht Zhr ZjH deciRoots_k29 deciRoots_k30 deciRoots_k31 deciRoots_k32
theorem deciRoots_inst : Tryz.f5.isInstance Tryz.prog Rows.deciRootsRow.origin Rows.deciRootsRow.targs := of_decide_eq_true (by kernel_rfl)
theorem deciRoots_wrap : Tryz.f5.isWrapper Tryz.prog Rows.deciRootsRow.wrapper Rows.deciRootsRow.mainSum := by unfold Func.isWrapper; first | (rw [if_pos (by decide +kernel)]; kernel_rfl) | (rw [if_neg (by decide +kernel)]; exact ⟨rfl, rfl⟩)
theorem deciRoots_holds : Rows.DeciRootsSaid :=
  OpenClaim.holds_of_wide 5 Tryz.f5 rfl rfl rfl rfl rfl rfl rfl ⟨rfl, rfl, rfl, rfl, rfl⟩ rfl rfl rfl rfl rfl deciRoots_named Tryz.func5 deciRoots_closed
    deciRoots_inst deciRoots_wrap
    (fun os started H enc _ => deciRoots_lifted os started H enc)
end Go.Proofs.YtaglofmanchabaaGreatDoor
