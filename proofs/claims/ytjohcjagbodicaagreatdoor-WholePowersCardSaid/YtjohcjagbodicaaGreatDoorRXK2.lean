/- WholePowers: the row; no condition. -/
import Derived.Test.YtjohcjagbodicaaGreatDoorRXK1
set_option linter.unusedVariables false
set_option linter.unusedSimpArgs false
set_option maxRecDepth 100000
namespace Go.Proofs.YtjohcjagbodicaaGreatDoor
open Go.ChangeShapes Go.WideShapes Go.ChangeAt Go.RowKit Go.V
theorem wholePowers_k1 : (Rows.wholePowersRow.wf (OpenSpec.ofChange Rows.wholePowersSpec)) = true := by kernel_rfl
theorem wholePowers_k4 : (Tryz.f13.params.all (Tryz.prog.readableRec ·)) = true := by kernel_rfl
theorem wholePowers_k5 : (namedTie Tryz.prog Rows.wholePowersRow.named Rows.wholePowersSpec.vars) = true := by kernel_rfl
theorem wholePowers_k6 : ((Rows.wholePowersRow.stops == [])) = true := by kernel_rfl
theorem wholePowers_k7 : ((Tryz.prog.stops == [])) = true := by kernel_rfl
theorem wholePowers_k8 : ((Rows.wholePowersRow.knobs == [])) = true := by kernel_rfl
theorem wholePowers_k9 : ((Tryz.prog.stopKnobs == [])) = true := by kernel_rfl
theorem wholePowers_k10 : ((Rows.wholePowersRow.inPlace == Tryz.prog.inPlace 13)) = true := by kernel_rfl
theorem wholePowers_k11 : ((Rows.wholePowersRow.unfollowed == Tryz.prog.unfollowed 13)) = true := by kernel_rfl
theorem wholePowers_k12 : ((Rows.wholePowersRow.recurses == Tryz.prog.recurses 13)) = true := by kernel_rfl
theorem wholePowers_k13 : ((Rows.wholePowersRow.named == Tryz.prog.varsNamed 13)) = true := by kernel_rfl
theorem wholePowers_k14 : ((Rows.wholePowersRow.maps == (Tryz.f13.params.toList ++ Rows.wholePowersSpec.plain.varTypes Tryz.prog).any (Tryz.prog.mapsRec ·))) = true := by kernel_rfl
theorem wholePowers_k15 : ((Rows.wholePowersRow.ifaces == (Tryz.f13.params.toList ++ Rows.wholePowersSpec.plain.varTypes Tryz.prog).any (Tryz.prog.ifacesRec ·))) = true := by kernel_rfl
theorem wholePowers_k16 : ((Rows.wholePowersRow.mapsOut == Tryz.prog.mapsAmong Tryz.f13.resultTypes.toList)) = true := by kernel_rfl
theorem wholePowers_k17 : ((Rows.wholePowersRow.loops == (Tryz.f13.params.toList ++ Rows.wholePowersSpec.plain.varTypes Tryz.prog).any (Tryz.prog.loopsFrom ·))) = true := by kernel_rfl
theorem wholePowers_k18 : ((Rows.wholePowersRow.wideKeys == (Tryz.f13.params.toList ++ Rows.wholePowersSpec.plain.varTypes Tryz.prog ++ Tryz.f13.resultTypes.toList).any (Tryz.prog.wideKeysFrom ·))) = true := by kernel_rfl
theorem wholePowers_k19 : (Rows.wholePowersSpec.vars.all (Tryz.prog.varReadable ·)) = true := by kernel_rfl
theorem wholePowers_k20 : (Tryz.f13.resultTypes.all (fun t => Tryz.prog.readableRec t && decide (t < Tryz.prog.types.size))) = true := by kernel_rfl
theorem wholePowers_k21 : ((Rows.wholePowersRow.ifacesOut == Tryz.f13.resultTypes.toList.any (Tryz.prog.ifacesRec ·))) = true := by kernel_rfl
theorem wholePowers_k22 : ((Rows.wholePowersRow.loopsOut == Tryz.f13.resultTypes.toList.any (Tryz.prog.loopsFrom ·))) = true := by kernel_rfl
theorem wholePowers_k24 : (Rows.wholePowersRow.shortTexts.isNone) = true := by kernel_rfl
theorem wholePowers_k29 : ((Rows.wholePowersRow.kinds == (if Rows.wholePowersRow.domain.isEmpty then [] else Tryz.f13.params.toList.map fun t => match Tryz.prog.underlying t with | some (.int k) => some k | _ => none))) = true := by kernel_rfl
theorem wholePowers_k30 : ((Rows.wholePowersRow.pinned == Rows.wholePowersRow.pinnedBy)) = true := by kernel_rfl
theorem wholePowers_k31 : ((Rows.wholePowersRow.veiled == (Tryz.f13.params.toList ++ Rows.wholePowersSpec.plain.varTypes Tryz.prog ++ Tryz.f13.resultTypes.toList).any (Tryz.prog.veiledRec ·))) = true := by kernel_rfl
theorem wholePowers_k32 : (Rows.wholePowersRow.veiledFits Tryz.prog Tryz.f13.params.toList (Tryz.f13.params.toList ++ Rows.wholePowersSpec.plain.varTypes Tryz.prog ++ Tryz.f13.resultTypes.toList)) = true := by kernel_rfl
theorem wholePowers_named : Tryz.prog.funcNamed "soroban/sorobanlaw02.WholePowers" = some 13 := by kernel_rfl
theorem wholePowers_closed : joinedFacts Tryz.prog 13 Tryz.f13 Rows.wholePowersSpec Rows.wholePowersRow = true := joined_of wholePowers_k1 laidOutZ z_maps wholePowers_k4 wholePowers_k5 wholePowers_k6 wholePowers_k7 wholePowers_k8 wholePowers_k9 wholePowers_k10 wholePowers_k11 wholePowers_k12 wholePowers_k13 wholePowers_k14 wholePowers_k15 wholePowers_k16 wholePowers_k17 wholePowers_k18 wholePowers_k19 wholePowers_k20 wholePowers_k21 wholePowers_k22 z_plainKeys wholePowers_k24 z_stopsHeard z_enter z_lifts z_make wholePowers_k29 wholePowers_k30 wholePowers_k31 wholePowers_k32
theorem wholePowers_inst : Tryz.f13.isInstance Tryz.prog Rows.wholePowersRow.origin Rows.wholePowersRow.targs := of_decide_eq_true (by kernel_rfl)
theorem wholePowers_wrap : Tryz.f13.isWrapper Tryz.prog Rows.wholePowersRow.wrapper Rows.wholePowersRow.mainSum := by unfold Func.isWrapper; first | (rw [if_pos (by decide +kernel)]; kernel_rfl) | (rw [if_neg (by decide +kernel)]; exact ⟨rfl, rfl⟩)
theorem wholePowers_holds : Rows.WholePowersSaid :=
  OpenClaim.holds_of_wide 13 Tryz.f13 rfl rfl rfl rfl rfl rfl rfl ⟨rfl, rfl, rfl, rfl, rfl⟩ rfl rfl rfl rfl rfl wholePowers_named Tryz.func13 wholePowers_closed
    wholePowers_inst wholePowers_wrap
    (fun os started H enc _ => wholePowers_lifted os started H enc)
end Go.Proofs.YtjohcjagbodicaaGreatDoor
