/- WholeForms: the row; no condition. -/
import Derived.Test.YtjohcjagbodicaaGreatDoorRXC1
set_option linter.unusedVariables false
set_option linter.unusedSimpArgs false
set_option maxRecDepth 100000
namespace Go.Proofs.YtjohcjagbodicaaGreatDoor
open Go.ChangeShapes Go.WideShapes Go.ChangeAt Go.RowKit Go.V

theorem wholeForms_k1 : (Rows.wholeFormsRow.wf (OpenSpec.ofChange Rows.wholeFormsSpec)) = true := by kernel_rfl
theorem wholeForms_k4 : (Tryz.f9.params.all (Tryz.prog.readableRec ·)) = true := by kernel_rfl
theorem wholeForms_k5 : (namedTie Tryz.prog Rows.wholeFormsRow.named Rows.wholeFormsSpec.vars) = true := by kernel_rfl
theorem wholeForms_k6 : ((Rows.wholeFormsRow.stops == [])) = true := by kernel_rfl
theorem wholeForms_k7 : ((Tryz.prog.stops == [])) = true := by kernel_rfl
theorem wholeForms_k8 : ((Rows.wholeFormsRow.knobs == [])) = true := by kernel_rfl
theorem wholeForms_k9 : ((Tryz.prog.stopKnobs == [])) = true := by kernel_rfl
theorem wholeForms_k10 : ((Rows.wholeFormsRow.inPlace == Tryz.prog.inPlace 9)) = true := by kernel_rfl
theorem wholeForms_k11 : ((Rows.wholeFormsRow.unfollowed == Tryz.prog.unfollowed 9)) = true := by kernel_rfl
theorem wholeForms_k12 : ((Rows.wholeFormsRow.recurses == Tryz.prog.recurses 9)) = true := by kernel_rfl
theorem wholeForms_k13 : ((Rows.wholeFormsRow.named == Tryz.prog.varsNamed 9)) = true := by kernel_rfl
theorem wholeForms_k14 : ((Rows.wholeFormsRow.maps == (Tryz.f9.params.toList ++ Rows.wholeFormsSpec.plain.varTypes Tryz.prog).any (Tryz.prog.mapsRec ·))) = true := by kernel_rfl
theorem wholeForms_k15 : ((Rows.wholeFormsRow.ifaces == (Tryz.f9.params.toList ++ Rows.wholeFormsSpec.plain.varTypes Tryz.prog).any (Tryz.prog.ifacesRec ·))) = true := by kernel_rfl
theorem wholeForms_k16 : ((Rows.wholeFormsRow.mapsOut == Tryz.prog.mapsAmong Tryz.f9.resultTypes.toList)) = true := by kernel_rfl
theorem wholeForms_k17 : ((Rows.wholeFormsRow.loops == (Tryz.f9.params.toList ++ Rows.wholeFormsSpec.plain.varTypes Tryz.prog).any (Tryz.prog.loopsFrom ·))) = true := by kernel_rfl
theorem wholeForms_k18 : ((Rows.wholeFormsRow.wideKeys == (Tryz.f9.params.toList ++ Rows.wholeFormsSpec.plain.varTypes Tryz.prog ++ Tryz.f9.resultTypes.toList).any (Tryz.prog.wideKeysFrom ·))) = true := by kernel_rfl
theorem wholeForms_k19 : (Rows.wholeFormsSpec.vars.all (Tryz.prog.varReadable ·)) = true := by kernel_rfl
theorem wholeForms_k20 : (Tryz.f9.resultTypes.all (fun t => Tryz.prog.readableRec t && decide (t < Tryz.prog.types.size))) = true := by kernel_rfl
theorem wholeForms_k21 : ((Rows.wholeFormsRow.ifacesOut == Tryz.f9.resultTypes.toList.any (Tryz.prog.ifacesRec ·))) = true := by kernel_rfl
theorem wholeForms_k22 : ((Rows.wholeFormsRow.loopsOut == Tryz.f9.resultTypes.toList.any (Tryz.prog.loopsFrom ·))) = true := by kernel_rfl
theorem wholeForms_k24 : (Rows.wholeFormsRow.shortTexts.isNone) = true := by kernel_rfl
theorem wholeForms_k29 : ((Rows.wholeFormsRow.kinds == (if Rows.wholeFormsRow.domain.isEmpty then [] else Tryz.f9.params.toList.map fun t => match Tryz.prog.underlying t with | some (.int k) => some k | _ => none))) = true := by kernel_rfl
theorem wholeForms_k30 : ((Rows.wholeFormsRow.pinned == Rows.wholeFormsRow.pinnedBy)) = true := by kernel_rfl
theorem wholeForms_k31 : ((Rows.wholeFormsRow.veiled == (Tryz.f9.params.toList ++ Rows.wholeFormsSpec.plain.varTypes Tryz.prog ++ Tryz.f9.resultTypes.toList).any (Tryz.prog.veiledRec ·))) = true := by kernel_rfl
theorem wholeForms_k32 : (Rows.wholeFormsRow.veiledFits Tryz.prog Tryz.f9.params.toList (Tryz.f9.params.toList ++ Rows.wholeFormsSpec.plain.varTypes Tryz.prog ++ Tryz.f9.resultTypes.toList)) = true := by kernel_rfl
theorem wholeForms_named : Tryz.prog.funcNamed "soroban/sorobanlaw02.WholeForms" = some 9 := by kernel_rfl
theorem wholeForms_closed : joinedFacts Tryz.prog 9 Tryz.f9 Rows.wholeFormsSpec Rows.wholeFormsRow = true := joined_of wholeForms_k1 laidOutZ z_maps wholeForms_k4 wholeForms_k5 wholeForms_k6 wholeForms_k7 wholeForms_k8 wholeForms_k9 wholeForms_k10 wholeForms_k11 wholeForms_k12 wholeForms_k13 wholeForms_k14 wholeForms_k15 wholeForms_k16 wholeForms_k17 wholeForms_k18 wholeForms_k19 wholeForms_k20 wholeForms_k21 wholeForms_k22 z_plainKeys wholeForms_k24 z_stopsHeard z_enter z_lifts z_make wholeForms_k29 wholeForms_k30 wholeForms_k31 wholeForms_k32
theorem wholeForms_inst : Tryz.f9.isInstance Tryz.prog Rows.wholeFormsRow.origin Rows.wholeFormsRow.targs := of_decide_eq_true (by kernel_rfl)
theorem wholeForms_wrap : Tryz.f9.isWrapper Tryz.prog Rows.wholeFormsRow.wrapper Rows.wholeFormsRow.mainSum := by unfold Func.isWrapper; first | (rw [if_pos (by decide +kernel)]; kernel_rfl) | (rw [if_neg (by decide +kernel)]; exact ⟨rfl, rfl⟩)
theorem wholeForms_holds : Rows.WholeFormsSaid :=
  OpenClaim.holds_of_wide 9 Tryz.f9 rfl rfl rfl rfl rfl rfl rfl ⟨rfl, rfl, rfl, rfl, rfl⟩ rfl rfl rfl rfl rfl wholeForms_named Tryz.func9 wholeForms_closed
    wholeForms_inst wholeForms_wrap
    (fun os started H enc _ => wholeForms_lifted os started H enc)
end Go.Proofs.YtjohcjagbodicaaGreatDoor
