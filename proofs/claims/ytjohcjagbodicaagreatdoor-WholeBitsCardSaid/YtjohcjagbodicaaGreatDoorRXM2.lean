/- WholeBits: the row; no condition. -/
import Derived.Test.YtjohcjagbodicaaGreatDoorRXM1
set_option linter.unusedVariables false
set_option linter.unusedSimpArgs false
set_option maxRecDepth 100000
namespace Go.Proofs.YtjohcjagbodicaaGreatDoor
open Go.ChangeShapes Go.WideShapes Go.ChangeAt Go.RowKit Go.V
theorem wholeBits_k1 : (Rows.wholeBitsRow.wf (OpenSpec.ofChange Rows.wholeBitsSpec)) = true := by kernel_rfl
theorem wholeBits_k4 : (Tryz.f15.params.all (Tryz.prog.readableRec ·)) = true := by kernel_rfl
theorem wholeBits_k5 : (namedTie Tryz.prog Rows.wholeBitsRow.named Rows.wholeBitsSpec.vars) = true := by kernel_rfl
theorem wholeBits_k6 : ((Rows.wholeBitsRow.stops == [])) = true := by kernel_rfl
theorem wholeBits_k7 : ((Tryz.prog.stops == [])) = true := by kernel_rfl
theorem wholeBits_k8 : ((Rows.wholeBitsRow.knobs == [])) = true := by kernel_rfl
theorem wholeBits_k9 : ((Tryz.prog.stopKnobs == [])) = true := by kernel_rfl
theorem wholeBits_k10 : ((Rows.wholeBitsRow.inPlace == Tryz.prog.inPlace 15)) = true := by kernel_rfl
theorem wholeBits_k11 : ((Rows.wholeBitsRow.unfollowed == Tryz.prog.unfollowed 15)) = true := by kernel_rfl
theorem wholeBits_k12 : ((Rows.wholeBitsRow.recurses == Tryz.prog.recurses 15)) = true := by kernel_rfl
theorem wholeBits_k13 : ((Rows.wholeBitsRow.named == Tryz.prog.varsNamed 15)) = true := by kernel_rfl
theorem wholeBits_k14 : ((Rows.wholeBitsRow.maps == (Tryz.f15.params.toList ++ Rows.wholeBitsSpec.plain.varTypes Tryz.prog).any (Tryz.prog.mapsRec ·))) = true := by kernel_rfl
theorem wholeBits_k15 : ((Rows.wholeBitsRow.ifaces == (Tryz.f15.params.toList ++ Rows.wholeBitsSpec.plain.varTypes Tryz.prog).any (Tryz.prog.ifacesRec ·))) = true := by kernel_rfl
theorem wholeBits_k16 : ((Rows.wholeBitsRow.mapsOut == Tryz.prog.mapsAmong Tryz.f15.resultTypes.toList)) = true := by kernel_rfl
theorem wholeBits_k17 : ((Rows.wholeBitsRow.loops == (Tryz.f15.params.toList ++ Rows.wholeBitsSpec.plain.varTypes Tryz.prog).any (Tryz.prog.loopsFrom ·))) = true := by kernel_rfl
theorem wholeBits_k18 : ((Rows.wholeBitsRow.wideKeys == (Tryz.f15.params.toList ++ Rows.wholeBitsSpec.plain.varTypes Tryz.prog ++ Tryz.f15.resultTypes.toList).any (Tryz.prog.wideKeysFrom ·))) = true := by kernel_rfl
theorem wholeBits_k19 : (Rows.wholeBitsSpec.vars.all (Tryz.prog.varReadable ·)) = true := by kernel_rfl
theorem wholeBits_k20 : (Tryz.f15.resultTypes.all (fun t => Tryz.prog.readableRec t && decide (t < Tryz.prog.types.size))) = true := by kernel_rfl
theorem wholeBits_k21 : ((Rows.wholeBitsRow.ifacesOut == Tryz.f15.resultTypes.toList.any (Tryz.prog.ifacesRec ·))) = true := by kernel_rfl
theorem wholeBits_k22 : ((Rows.wholeBitsRow.loopsOut == Tryz.f15.resultTypes.toList.any (Tryz.prog.loopsFrom ·))) = true := by kernel_rfl
theorem wholeBits_k24 : (Rows.wholeBitsRow.shortTexts.isNone) = true := by kernel_rfl
theorem wholeBits_k29 : ((Rows.wholeBitsRow.kinds == (if Rows.wholeBitsRow.domain.isEmpty then [] else Tryz.f15.params.toList.map fun t => match Tryz.prog.underlying t with | some (.int k) => some k | _ => none))) = true := by kernel_rfl
theorem wholeBits_k30 : ((Rows.wholeBitsRow.pinned == Rows.wholeBitsRow.pinnedBy)) = true := by kernel_rfl
theorem wholeBits_k31 : ((Rows.wholeBitsRow.veiled == (Tryz.f15.params.toList ++ Rows.wholeBitsSpec.plain.varTypes Tryz.prog ++ Tryz.f15.resultTypes.toList).any (Tryz.prog.veiledRec ·))) = true := by kernel_rfl
theorem wholeBits_k32 : (Rows.wholeBitsRow.veiledFits Tryz.prog Tryz.f15.params.toList (Tryz.f15.params.toList ++ Rows.wholeBitsSpec.plain.varTypes Tryz.prog ++ Tryz.f15.resultTypes.toList)) = true := by kernel_rfl
theorem wholeBits_named : Tryz.prog.funcNamed "soroban/sorobanlaw02.WholeBits" = some 15 := by kernel_rfl
theorem wholeBits_closed : joinedFacts Tryz.prog 15 Tryz.f15 Rows.wholeBitsSpec Rows.wholeBitsRow = true := joined_of wholeBits_k1 laidOutZ z_maps wholeBits_k4 wholeBits_k5 wholeBits_k6 wholeBits_k7 wholeBits_k8 wholeBits_k9 wholeBits_k10 wholeBits_k11 wholeBits_k12 wholeBits_k13 wholeBits_k14 wholeBits_k15 wholeBits_k16 wholeBits_k17 wholeBits_k18 wholeBits_k19 wholeBits_k20 wholeBits_k21 wholeBits_k22 z_plainKeys wholeBits_k24 z_stopsHeard z_enter z_lifts z_make wholeBits_k29 wholeBits_k30 wholeBits_k31 wholeBits_k32
theorem wholeBits_inst : Tryz.f15.isInstance Tryz.prog Rows.wholeBitsRow.origin Rows.wholeBitsRow.targs := of_decide_eq_true (by kernel_rfl)
theorem wholeBits_wrap : Tryz.f15.isWrapper Tryz.prog Rows.wholeBitsRow.wrapper Rows.wholeBitsRow.mainSum := by unfold Func.isWrapper; first | (rw [if_pos (by decide +kernel)]; kernel_rfl) | (rw [if_neg (by decide +kernel)]; exact ⟨rfl, rfl⟩)
theorem wholeBits_holds : Rows.WholeBitsSaid :=
  OpenClaim.holds_of_wide 15 Tryz.f15 rfl rfl rfl rfl rfl rfl rfl ⟨rfl, rfl, rfl, rfl, rfl⟩ rfl rfl rfl rfl rfl wholeBits_named Tryz.func15 wholeBits_closed
    wholeBits_inst wholeBits_wrap
    (fun os started H enc _ => wholeBits_lifted os started H enc)
end Go.Proofs.YtjohcjagbodicaaGreatDoor
