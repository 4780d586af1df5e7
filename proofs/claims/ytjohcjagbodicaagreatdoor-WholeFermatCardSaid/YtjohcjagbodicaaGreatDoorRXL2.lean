/- WholeFermat: the row; no condition. -/
import Derived.Test.YtjohcjagbodicaaGreatDoorRXL1
set_option linter.unusedVariables false
set_option linter.unusedSimpArgs false
set_option maxRecDepth 100000
namespace Go.Proofs.YtjohcjagbodicaaGreatDoor
open Go.ChangeShapes Go.WideShapes Go.ChangeAt Go.RowKit Go.V
theorem wholeFermat_k1 : (Rows.wholeFermatRow.wf (OpenSpec.ofChange Rows.wholeFermatSpec)) = true := by kernel_rfl
theorem wholeFermat_k4 : (Tryz.f14.params.all (Tryz.prog.readableRec ·)) = true := by kernel_rfl
theorem wholeFermat_k5 : (namedTie Tryz.prog Rows.wholeFermatRow.named Rows.wholeFermatSpec.vars) = true := by kernel_rfl
theorem wholeFermat_k6 : ((Rows.wholeFermatRow.stops == [])) = true := by kernel_rfl
theorem wholeFermat_k7 : ((Tryz.prog.stops == [])) = true := by kernel_rfl
theorem wholeFermat_k8 : ((Rows.wholeFermatRow.knobs == [])) = true := by kernel_rfl
theorem wholeFermat_k9 : ((Tryz.prog.stopKnobs == [])) = true := by kernel_rfl
theorem wholeFermat_k10 : ((Rows.wholeFermatRow.inPlace == Tryz.prog.inPlace 14)) = true := by kernel_rfl
theorem wholeFermat_k11 : ((Rows.wholeFermatRow.unfollowed == Tryz.prog.unfollowed 14)) = true := by kernel_rfl
theorem wholeFermat_k12 : ((Rows.wholeFermatRow.recurses == Tryz.prog.recurses 14)) = true := by kernel_rfl
theorem wholeFermat_k13 : ((Rows.wholeFermatRow.named == Tryz.prog.varsNamed 14)) = true := by kernel_rfl
theorem wholeFermat_k14 : ((Rows.wholeFermatRow.maps == (Tryz.f14.params.toList ++ Rows.wholeFermatSpec.plain.varTypes Tryz.prog).any (Tryz.prog.mapsRec ·))) = true := by kernel_rfl
theorem wholeFermat_k15 : ((Rows.wholeFermatRow.ifaces == (Tryz.f14.params.toList ++ Rows.wholeFermatSpec.plain.varTypes Tryz.prog).any (Tryz.prog.ifacesRec ·))) = true := by kernel_rfl
theorem wholeFermat_k16 : ((Rows.wholeFermatRow.mapsOut == Tryz.prog.mapsAmong Tryz.f14.resultTypes.toList)) = true := by kernel_rfl
theorem wholeFermat_k17 : ((Rows.wholeFermatRow.loops == (Tryz.f14.params.toList ++ Rows.wholeFermatSpec.plain.varTypes Tryz.prog).any (Tryz.prog.loopsFrom ·))) = true := by kernel_rfl
theorem wholeFermat_k18 : ((Rows.wholeFermatRow.wideKeys == (Tryz.f14.params.toList ++ Rows.wholeFermatSpec.plain.varTypes Tryz.prog ++ Tryz.f14.resultTypes.toList).any (Tryz.prog.wideKeysFrom ·))) = true := by kernel_rfl
theorem wholeFermat_k19 : (Rows.wholeFermatSpec.vars.all (Tryz.prog.varReadable ·)) = true := by kernel_rfl
theorem wholeFermat_k20 : (Tryz.f14.resultTypes.all (fun t => Tryz.prog.readableRec t && decide (t < Tryz.prog.types.size))) = true := by kernel_rfl
theorem wholeFermat_k21 : ((Rows.wholeFermatRow.ifacesOut == Tryz.f14.resultTypes.toList.any (Tryz.prog.ifacesRec ·))) = true := by kernel_rfl
theorem wholeFermat_k22 : ((Rows.wholeFermatRow.loopsOut == Tryz.f14.resultTypes.toList.any (Tryz.prog.loopsFrom ·))) = true := by kernel_rfl
theorem wholeFermat_k24 : (Rows.wholeFermatRow.shortTexts.isNone) = true := by kernel_rfl
theorem wholeFermat_k29 : ((Rows.wholeFermatRow.kinds == (if Rows.wholeFermatRow.domain.isEmpty then [] else Tryz.f14.params.toList.map fun t => match Tryz.prog.underlying t with | some (.int k) => some k | _ => none))) = true := by kernel_rfl
theorem wholeFermat_k30 : ((Rows.wholeFermatRow.pinned == Rows.wholeFermatRow.pinnedBy)) = true := by kernel_rfl
theorem wholeFermat_k31 : ((Rows.wholeFermatRow.veiled == (Tryz.f14.params.toList ++ Rows.wholeFermatSpec.plain.varTypes Tryz.prog ++ Tryz.f14.resultTypes.toList).any (Tryz.prog.veiledRec ·))) = true := by kernel_rfl
theorem wholeFermat_k32 : (Rows.wholeFermatRow.veiledFits Tryz.prog Tryz.f14.params.toList (Tryz.f14.params.toList ++ Rows.wholeFermatSpec.plain.varTypes Tryz.prog ++ Tryz.f14.resultTypes.toList)) = true := by kernel_rfl
theorem wholeFermat_named : Tryz.prog.funcNamed "soroban/sorobanlaw02.WholeFermat" = some 14 := by kernel_rfl
theorem wholeFermat_closed : joinedFacts Tryz.prog 14 Tryz.f14 Rows.wholeFermatSpec Rows.wholeFermatRow = true := joined_of wholeFermat_k1 laidOutZ z_maps wholeFermat_k4 wholeFermat_k5 wholeFermat_k6 wholeFermat_k7 wholeFermat_k8 wholeFermat_k9 wholeFermat_k10 wholeFermat_k11 wholeFermat_k12 wholeFermat_k13 wholeFermat_k14 wholeFermat_k15 wholeFermat_k16 wholeFermat_k17 wholeFermat_k18 wholeFermat_k19 wholeFermat_k20 wholeFermat_k21 wholeFermat_k22 z_plainKeys wholeFermat_k24 z_stopsHeard z_enter z_lifts z_make wholeFermat_k29 wholeFermat_k30 wholeFermat_k31 wholeFermat_k32
theorem wholeFermat_inst : Tryz.f14.isInstance Tryz.prog Rows.wholeFermatRow.origin Rows.wholeFermatRow.targs := of_decide_eq_true (by kernel_rfl)
theorem wholeFermat_wrap : Tryz.f14.isWrapper Tryz.prog Rows.wholeFermatRow.wrapper Rows.wholeFermatRow.mainSum := by unfold Func.isWrapper; first | (rw [if_pos (by decide +kernel)]; kernel_rfl) | (rw [if_neg (by decide +kernel)]; exact ⟨rfl, rfl⟩)
theorem wholeFermat_holds : Rows.WholeFermatSaid :=
  OpenClaim.holds_of_wide 14 Tryz.f14 rfl rfl rfl rfl rfl rfl rfl ⟨rfl, rfl, rfl, rfl, rfl⟩ rfl rfl rfl rfl rfl wholeFermat_named Tryz.func14 wholeFermat_closed
    wholeFermat_inst wholeFermat_wrap
    (fun os started H enc _ => wholeFermat_lifted os started H enc)
end Go.Proofs.YtjohcjagbodicaaGreatDoor
