/- DeciProducts: the row; no condition. -/
import Derived.Test.YtaglofmanchabaaGreatDoorRXC1
set_option linter.unusedVariables false
set_option linter.unusedSimpArgs false
set_option linter.unnecessarySimpa false
set_option maxRecDepth 100000
namespace Go.Proofs.YtaglofmanchabaaGreatDoor
open Go.ChangeShapes Go.WideShapes Go.ChangeAt Go.RowKit Go.V
theorem deciProducts_k1 : (Rows.deciProductsRow.wf (OpenSpec.ofChange Rows.deciProductsSpec)) = true := by kernel_rfl
theorem deciProducts_k4 : (Tryz.f4.params.all (Tryz.prog.readableRec ·)) = true := by kernel_rfl
theorem deciProducts_k5 : (namedTie Tryz.prog Rows.deciProductsRow.named Rows.deciProductsSpec.vars) = true := by kernel_rfl
theorem deciProducts_k6 : ((Rows.deciProductsRow.stops == [])) = true := by kernel_rfl
theorem deciProducts_k7 : ((Tryz.prog.stops == [])) = true := by kernel_rfl
theorem deciProducts_k8 : ((Rows.deciProductsRow.knobs == [])) = true := by kernel_rfl
theorem deciProducts_k9 : ((Tryz.prog.stopKnobs == [])) = true := by kernel_rfl
theorem deciProducts_k10 : ((Rows.deciProductsRow.inPlace == Tryz.prog.inPlace 4)) = true := by kernel_rfl
theorem deciProducts_k11 : ((Rows.deciProductsRow.unfollowed == Tryz.prog.unfollowed 4)) = true := by kernel_rfl
theorem deciProducts_k12 : ((Rows.deciProductsRow.recurses == Tryz.prog.recurses 4)) = true := by kernel_rfl
theorem deciProducts_k13 : ((Rows.deciProductsRow.named == Tryz.prog.varsNamed 4)) = true := by kernel_rfl
theorem deciProducts_k14 : ((Rows.deciProductsRow.maps == (Tryz.f4.params.toList ++ Rows.deciProductsSpec.plain.varTypes Tryz.prog).any (Tryz.prog.mapsRec ·))) = true := by kernel_rfl
theorem deciProducts_k15 : ((Rows.deciProductsRow.ifaces == (Tryz.f4.params.toList ++ Rows.deciProductsSpec.plain.varTypes Tryz.prog).any (Tryz.prog.ifacesRec ·))) = true := by kernel_rfl
theorem deciProducts_k16 : ((Rows.deciProductsRow.mapsOut == Tryz.prog.mapsAmong Tryz.f4.resultTypes.toList)) = true := by kernel_rfl
theorem deciProducts_k17 : ((Rows.deciProductsRow.loops == (Tryz.f4.params.toList ++ Rows.deciProductsSpec.plain.varTypes Tryz.prog).any (Tryz.prog.loopsFrom ·))) = true := by kernel_rfl
theorem deciProducts_k18 : ((Rows.deciProductsRow.wideKeys == (Tryz.f4.params.toList ++ Rows.deciProductsSpec.plain.varTypes Tryz.prog ++ Tryz.f4.resultTypes.toList).any (Tryz.prog.wideKeysFrom ·))) = true := by kernel_rfl
theorem deciProducts_k19 : (Rows.deciProductsSpec.vars.all (Tryz.prog.varReadable ·)) = true := by kernel_rfl
theorem deciProducts_k20 : (Tryz.f4.resultTypes.all (fun t => Tryz.prog.readableRec t && decide (t < Tryz.prog.types.size))) = true := by kernel_rfl
theorem deciProducts_k21 : ((Rows.deciProductsRow.ifacesOut == Tryz.f4.resultTypes.toList.any (Tryz.prog.ifacesRec ·))) = true := by kernel_rfl
theorem deciProducts_k22 : ((Rows.deciProductsRow.loopsOut == Tryz.f4.resultTypes.toList.any (Tryz.prog.loopsFrom ·))) = true := by kernel_rfl
theorem deciProducts_k24 : (Rows.deciProductsRow.shortTexts.isNone) = true := by kernel_rfl
theorem deciProducts_k29 : ((Rows.deciProductsRow.kinds == (if Rows.deciProductsRow.domain.isEmpty then [] else Tryz.f4.params.toList.map fun t => match Tryz.prog.underlying t with | some (.int k) => some k | _ => none))) = true := by kernel_rfl
theorem deciProducts_k30 : ((Rows.deciProductsRow.pinned == Rows.deciProductsRow.pinnedBy)) = true := by kernel_rfl
theorem deciProducts_k31 : ((Rows.deciProductsRow.veiled == (Tryz.f4.params.toList ++ Rows.deciProductsSpec.plain.varTypes Tryz.prog ++ Tryz.f4.resultTypes.toList).any (Tryz.prog.veiledRec ·))) = true := by kernel_rfl
theorem deciProducts_k32 : (Rows.deciProductsRow.veiledFits Tryz.prog Tryz.f4.params.toList (Tryz.f4.params.toList ++ Rows.deciProductsSpec.plain.varTypes Tryz.prog ++ Tryz.f4.resultTypes.toList)) = true := by kernel_rfl
theorem deciProducts_named : Tryz.prog.funcNamed "soroban/sorobanlaw09.DeciProducts" = some 4 := by kernel_rfl
theorem deciProducts_closed : joinedFacts Tryz.prog 4 Tryz.f4 Rows.deciProductsSpec Rows.deciProductsRow = true := ZeY deciProducts_k1 ZeX ZjG deciProducts_k4 deciProducts_k5 deciProducts_k6 deciProducts_k7 deciProducts_k8 deciProducts_k9 deciProducts_k10 deciProducts_k11 deciProducts_k12 deciProducts_k13 deciProducts_k14 deciProducts_k15 deciProducts_k16 deciProducts_k17 deciProducts_k18 deciProducts_k19 deciProducts_k20 deciProducts_k21 deciProducts_k22 ZdB deciProducts_k24 Zc5 Zht Zhr ZjH deciProducts_k29 deciProducts_k30 deciProducts_k31 deciProducts_k32
theorem deciProducts_inst : Tryz.f4.isInstance Tryz.prog Rows.deciProductsRow.origin Rows.deciProductsRow.targs := of_decide_eq_true (by kernel_rfl)
theorem deciProducts_wrap : Tryz.f4.isWrapper Tryz.prog Rows.deciProductsRow.wrapper Rows.deciProductsRow.mainSum := by unfold Func.isWrapper; first | (rw [if_pos (by decide +kernel)]; kernel_rfl) | (rw [if_neg (by decide +kernel)]; exact ⟨rfl, rfl⟩)
theorem deciProducts_holds : Rows.DeciProductsSaid :=
  OpenClaim.holds_of_wide 4 Tryz.f4 rfl rfl rfl rfl rfl rfl rfl ⟨rfl, rfl, rfl, rfl, rfl⟩ rfl rfl rfl rfl rfl deciProducts_named Tryz.func4 deciProducts_closed
    deciProducts_inst deciProducts_wrap
    (fun os started H enc _ => deciProducts_lifted os started H enc)
end Go.Proofs.YtaglofmanchabaaGreatDoor
