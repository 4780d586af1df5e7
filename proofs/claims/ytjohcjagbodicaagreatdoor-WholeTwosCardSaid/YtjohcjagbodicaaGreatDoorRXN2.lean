/- WholeTwos: the row; no condition. -/
import Derived.Test.YtjohcjagbodicaaGreatDoorRXN1
set_option linter.unusedVariables false
set_option linter.unusedSimpArgs false
set_option maxRecDepth 100000
namespace Go.Proofs.YtjohcjagbodicaaGreatDoor
open Go.ChangeShapes Go.WideShapes Go.ChangeAt Go.RowKit Go.V
theorem wholeTwos_k1 : (Rows.wholeTwosRow.wf (OpenSpec.ofChange Rows.wholeTwosSpec)) = true := by kernel_rfl
theorem wholeTwos_k4 : (Tryz.f16.params.all (Tryz.prog.readableRec ·)) = true := by kernel_rfl
theorem wholeTwos_k5 : (namedTie Tryz.prog Rows.wholeTwosRow.named Rows.wholeTwosSpec.vars) = true := by kernel_rfl
theorem wholeTwos_k6 : ((Rows.wholeTwosRow.stops == [])) = true := by kernel_rfl
theorem wholeTwos_k7 : ((Tryz.prog.stops == [])) = true := by kernel_rfl
theorem wholeTwos_k8 : ((Rows.wholeTwosRow.knobs == [])) = true := by kernel_rfl
theorem wholeTwos_k9 : ((Tryz.prog.stopKnobs == [])) = true := by kernel_rfl
theorem wholeTwos_k10 : ((Rows.wholeTwosRow.inPlace == Tryz.prog.inPlace 16)) = true := by kernel_rfl
theorem wholeTwos_k11 : ((Rows.wholeTwosRow.unfollowed == Tryz.prog.unfollowed 16)) = true := by kernel_rfl
theorem wholeTwos_k12 : ((Rows.wholeTwosRow.recurses == Tryz.prog.recurses 16)) = true := by kernel_rfl
theorem wholeTwos_k13 : ((Rows.wholeTwosRow.named == Tryz.prog.varsNamed 16)) = true := by kernel_rfl
theorem wholeTwos_k14 : ((Rows.wholeTwosRow.maps == (Tryz.f16.params.toList ++ Rows.wholeTwosSpec.plain.varTypes Tryz.prog).any (Tryz.prog.mapsRec ·))) = true := by kernel_rfl
theorem wholeTwos_k15 : ((Rows.wholeTwosRow.ifaces == (Tryz.f16.params.toList ++ Rows.wholeTwosSpec.plain.varTypes Tryz.prog).any (Tryz.prog.ifacesRec ·))) = true := by kernel_rfl
theorem wholeTwos_k16 : ((Rows.wholeTwosRow.mapsOut == Tryz.prog.mapsAmong Tryz.f16.resultTypes.toList)) = true := by kernel_rfl
theorem wholeTwos_k17 : ((Rows.wholeTwosRow.loops == (Tryz.f16.params.toList ++ Rows.wholeTwosSpec.plain.varTypes Tryz.prog).any (Tryz.prog.loopsFrom ·))) = true := by kernel_rfl
theorem wholeTwos_k18 : ((Rows.wholeTwosRow.wideKeys == (Tryz.f16.params.toList ++ Rows.wholeTwosSpec.plain.varTypes Tryz.prog ++ Tryz.f16.resultTypes.toList).any (Tryz.prog.wideKeysFrom ·))) = true := by kernel_rfl
theorem wholeTwos_k19 : (Rows.wholeTwosSpec.vars.all (Tryz.prog.varReadable ·)) = true := by kernel_rfl
theorem wholeTwos_k20 : (Tryz.f16.resultTypes.all (fun t => Tryz.prog.readableRec t && decide (t < Tryz.prog.types.size))) = true := by kernel_rfl
theorem wholeTwos_k21 : ((Rows.wholeTwosRow.ifacesOut == Tryz.f16.resultTypes.toList.any (Tryz.prog.ifacesRec ·))) = true := by kernel_rfl
theorem wholeTwos_k22 : ((Rows.wholeTwosRow.loopsOut == Tryz.f16.resultTypes.toList.any (Tryz.prog.loopsFrom ·))) = true := by kernel_rfl
theorem wholeTwos_k24 : (Rows.wholeTwosRow.shortTexts.isNone) = true := by kernel_rfl
theorem wholeTwos_k29 : ((Rows.wholeTwosRow.kinds == (if Rows.wholeTwosRow.domain.isEmpty then [] else Tryz.f16.params.toList.map fun t => match Tryz.prog.underlying t with | some (.int k) => some k | _ => none))) = true := by kernel_rfl
theorem wholeTwos_k30 : ((Rows.wholeTwosRow.pinned == Rows.wholeTwosRow.pinnedBy)) = true := by kernel_rfl
theorem wholeTwos_k31 : ((Rows.wholeTwosRow.veiled == (Tryz.f16.params.toList ++ Rows.wholeTwosSpec.plain.varTypes Tryz.prog ++ Tryz.f16.resultTypes.toList).any (Tryz.prog.veiledRec ·))) = true := by kernel_rfl
theorem wholeTwos_k32 : (Rows.wholeTwosRow.veiledFits Tryz.prog Tryz.f16.params.toList (Tryz.f16.params.toList ++ Rows.wholeTwosSpec.plain.varTypes Tryz.prog ++ Tryz.f16.resultTypes.toList)) = true := by kernel_rfl
theorem wholeTwos_named : Tryz.prog.funcNamed "soroban/sorobanlaw02.WholeTwos" = some 16 := by kernel_rfl
theorem wholeTwos_closed : joinedFacts Tryz.prog 16 Tryz.f16 Rows.wholeTwosSpec Rows.wholeTwosRow = true := joined_of wholeTwos_k1 laidOutZ z_maps wholeTwos_k4 wholeTwos_k5 wholeTwos_k6 wholeTwos_k7 wholeTwos_k8 wholeTwos_k9 wholeTwos_k10 wholeTwos_k11 wholeTwos_k12 wholeTwos_k13 wholeTwos_k14 wholeTwos_k15 wholeTwos_k16 wholeTwos_k17 wholeTwos_k18 wholeTwos_k19 wholeTwos_k20 wholeTwos_k21 wholeTwos_k22 z_plainKeys wholeTwos_k24 z_stopsHeard z_enter z_lifts z_make wholeTwos_k29 wholeTwos_k30 wholeTwos_k31 wholeTwos_k32
theorem wholeTwos_inst : Tryz.f16.isInstance Tryz.prog Rows.wholeTwosRow.origin Rows.wholeTwosRow.targs := of_decide_eq_true (by kernel_rfl)
theorem wholeTwos_wrap : Tryz.f16.isWrapper Tryz.prog Rows.wholeTwosRow.wrapper Rows.wholeTwosRow.mainSum := by unfold Func.isWrapper; first | (rw [if_pos (by decide +kernel)]; kernel_rfl) | (rw [if_neg (by decide +kernel)]; exact ⟨rfl, rfl⟩)
theorem wholeTwos_holds : Rows.WholeTwosSaid :=
  OpenClaim.holds_of_wide 16 Tryz.f16 rfl rfl rfl rfl rfl rfl rfl ⟨rfl, rfl, rfl, rfl, rfl⟩ rfl rfl rfl rfl rfl wholeTwos_named Tryz.func16 wholeTwos_closed
    wholeTwos_inst wholeTwos_wrap
    (fun os started H enc _ => wholeTwos_lifted os started H enc)
end Go.Proofs.YtjohcjagbodicaaGreatDoor
