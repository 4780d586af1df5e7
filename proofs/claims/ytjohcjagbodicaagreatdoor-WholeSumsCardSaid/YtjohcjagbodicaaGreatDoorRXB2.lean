/- WholeSums: the row; no condition. -/
import Derived.Test.YtjohcjagbodicaaGreatDoorRXB1
set_option linter.unusedVariables false
set_option linter.unusedSimpArgs false
set_option maxRecDepth 100000
namespace Go.Proofs.YtjohcjagbodicaaGreatDoor
open Go.ChangeShapes Go.WideShapes Go.ChangeAt Go.RowKit Go.V

theorem wholeSums_k1 : (Rows.wholeSumsRow.wf (OpenSpec.ofChange Rows.wholeSumsSpec)) = true := by kernel_rfl
theorem wholeSums_k4 : (Tryz.f5.params.all (Tryz.prog.readableRec ·)) = true := by kernel_rfl
theorem wholeSums_k5 : (namedTie Tryz.prog Rows.wholeSumsRow.named Rows.wholeSumsSpec.vars) = true := by kernel_rfl
theorem wholeSums_k6 : ((Rows.wholeSumsRow.stops == [])) = true := by kernel_rfl
theorem wholeSums_k7 : ((Tryz.prog.stops == [])) = true := by kernel_rfl
theorem wholeSums_k8 : ((Rows.wholeSumsRow.knobs == [])) = true := by kernel_rfl
theorem wholeSums_k9 : ((Tryz.prog.stopKnobs == [])) = true := by kernel_rfl
theorem wholeSums_k10 : ((Rows.wholeSumsRow.inPlace == Tryz.prog.inPlace 5)) = true := by kernel_rfl
theorem wholeSums_k11 : ((Rows.wholeSumsRow.unfollowed == Tryz.prog.unfollowed 5)) = true := by kernel_rfl
theorem wholeSums_k12 : ((Rows.wholeSumsRow.recurses == Tryz.prog.recurses 5)) = true := by kernel_rfl
theorem wholeSums_k13 : ((Rows.wholeSumsRow.named == Tryz.prog.varsNamed 5)) = true := by kernel_rfl
theorem wholeSums_k14 : ((Rows.wholeSumsRow.maps == (Tryz.f5.params.toList ++ Rows.wholeSumsSpec.plain.varTypes Tryz.prog).any (Tryz.prog.mapsRec ·))) = true := by kernel_rfl
theorem wholeSums_k15 : ((Rows.wholeSumsRow.ifaces == (Tryz.f5.params.toList ++ Rows.wholeSumsSpec.plain.varTypes Tryz.prog).any (Tryz.prog.ifacesRec ·))) = true := by kernel_rfl
theorem wholeSums_k16 : ((Rows.wholeSumsRow.mapsOut == Tryz.prog.mapsAmong Tryz.f5.resultTypes.toList)) = true := by kernel_rfl
theorem wholeSums_k17 : ((Rows.wholeSumsRow.loops == (Tryz.f5.params.toList ++ Rows.wholeSumsSpec.plain.varTypes Tryz.prog).any (Tryz.prog.loopsFrom ·))) = true := by kernel_rfl
theorem wholeSums_k18 : ((Rows.wholeSumsRow.wideKeys == (Tryz.f5.params.toList ++ Rows.wholeSumsSpec.plain.varTypes Tryz.prog ++ Tryz.f5.resultTypes.toList).any (Tryz.prog.wideKeysFrom ·))) = true := by kernel_rfl
theorem wholeSums_k19 : (Rows.wholeSumsSpec.vars.all (Tryz.prog.varReadable ·)) = true := by kernel_rfl
theorem wholeSums_k20 : (Tryz.f5.resultTypes.all (fun t => Tryz.prog.readableRec t && decide (t < Tryz.prog.types.size))) = true := by kernel_rfl
theorem wholeSums_k21 : ((Rows.wholeSumsRow.ifacesOut == Tryz.f5.resultTypes.toList.any (Tryz.prog.ifacesRec ·))) = true := by kernel_rfl
theorem wholeSums_k22 : ((Rows.wholeSumsRow.loopsOut == Tryz.f5.resultTypes.toList.any (Tryz.prog.loopsFrom ·))) = true := by kernel_rfl
theorem wholeSums_k24 : (Rows.wholeSumsRow.shortTexts.isNone) = true := by kernel_rfl
theorem wholeSums_k29 : ((Rows.wholeSumsRow.kinds == (if Rows.wholeSumsRow.domain.isEmpty then [] else Tryz.f5.params.toList.map fun t => match Tryz.prog.underlying t with | some (.int k) => some k | _ => none))) = true := by kernel_rfl
theorem wholeSums_k30 : ((Rows.wholeSumsRow.pinned == Rows.wholeSumsRow.pinnedBy)) = true := by kernel_rfl
theorem wholeSums_k31 : ((Rows.wholeSumsRow.veiled == (Tryz.f5.params.toList ++ Rows.wholeSumsSpec.plain.varTypes Tryz.prog ++ Tryz.f5.resultTypes.toList).any (Tryz.prog.veiledRec ·))) = true := by kernel_rfl
theorem wholeSums_k32 : (Rows.wholeSumsRow.veiledFits Tryz.prog Tryz.f5.params.toList (Tryz.f5.params.toList ++ Rows.wholeSumsSpec.plain.varTypes Tryz.prog ++ Tryz.f5.resultTypes.toList)) = true := by kernel_rfl
theorem wholeSums_named : Tryz.prog.funcNamed "soroban/sorobanlaw02.WholeSums" = some 5 := by kernel_rfl
theorem wholeSums_closed : joinedFacts Tryz.prog 5 Tryz.f5 Rows.wholeSumsSpec Rows.wholeSumsRow = true := joined_of wholeSums_k1 laidOutZ z_maps wholeSums_k4 wholeSums_k5 wholeSums_k6 wholeSums_k7 wholeSums_k8 wholeSums_k9 wholeSums_k10 wholeSums_k11 wholeSums_k12 wholeSums_k13 wholeSums_k14 wholeSums_k15 wholeSums_k16 wholeSums_k17 wholeSums_k18 wholeSums_k19 wholeSums_k20 wholeSums_k21 wholeSums_k22 z_plainKeys wholeSums_k24 z_stopsHeard z_enter z_lifts z_make wholeSums_k29 wholeSums_k30 wholeSums_k31 wholeSums_k32
theorem wholeSums_inst : Tryz.f5.isInstance Tryz.prog Rows.wholeSumsRow.origin Rows.wholeSumsRow.targs := of_decide_eq_true (by kernel_rfl)
theorem wholeSums_wrap : Tryz.f5.isWrapper Tryz.prog Rows.wholeSumsRow.wrapper Rows.wholeSumsRow.mainSum := by unfold Func.isWrapper; first | (rw [if_pos (by decide +kernel)]; kernel_rfl) | (rw [if_neg (by decide +kernel)]; exact ⟨rfl, rfl⟩)
theorem wholeSums_holds : Rows.WholeSumsSaid :=
  OpenClaim.holds_of_wide 5 Tryz.f5 rfl rfl rfl rfl rfl rfl rfl ⟨rfl, rfl, rfl, rfl, rfl⟩ rfl rfl rfl rfl rfl wholeSums_named Tryz.func5 wholeSums_closed
    wholeSums_inst wholeSums_wrap
    (fun os started H enc _ => wholeSums_lifted os started H enc)
end Go.Proofs.YtjohcjagbodicaaGreatDoor
