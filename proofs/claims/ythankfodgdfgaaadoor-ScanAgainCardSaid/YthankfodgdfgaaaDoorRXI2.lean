/- ScanAgain: the row; no condition. -/
import Derived.Test.YthankfodgdfgaaaDoorRXI1
set_option linter.unusedVariables false
set_option linter.unusedSimpArgs false
set_option linter.unnecessarySimpa false
set_option maxRecDepth 100000
namespace Go.Proofs.YthankfodgdfgaaaDoor
open Go.ChangeShapes Go.WideShapes Go.ChangeAt Go.RowKit Go.V
theorem scanAgain_k1 : (Rows.scanAgainRow.wf (OpenSpec.ofChange Rows.scanAgainSpec)) = true := by kernel_rfl
theorem scanAgain_k4 : (Tryd.f7.params.all (Tryd.prog.readableRec ·)) = true := by kernel_rfl
theorem scanAgain_k5 : (namedTie Tryd.prog Rows.scanAgainRow.named Rows.scanAgainSpec.vars) = true := by kernel_rfl
theorem scanAgain_k6 : ((Rows.scanAgainRow.stops == [])) = true := by kernel_rfl
theorem scanAgain_k7 : ((Tryd.prog.stops == [])) = true := by kernel_rfl
theorem scanAgain_k8 : ((Rows.scanAgainRow.knobs == [])) = true := by kernel_rfl
theorem scanAgain_k9 : ((Tryd.prog.stopKnobs == [])) = true := by kernel_rfl
theorem scanAgain_k10 : ((Rows.scanAgainRow.inPlace == Tryd.prog.inPlace 7)) = true := by kernel_rfl
theorem scanAgain_k11 : ((Rows.scanAgainRow.unfollowed == Tryd.prog.unfollowed 7)) = true := by kernel_rfl
theorem scanAgain_k12 : ((Rows.scanAgainRow.recurses == Tryd.prog.recurses 7)) = true := by kernel_rfl
theorem scanAgain_k13 : ((Rows.scanAgainRow.named == Tryd.prog.varsNamed 7)) = true := by kernel_rfl
theorem scanAgain_k14 : ((Rows.scanAgainRow.maps == (Tryd.f7.params.toList ++ Rows.scanAgainSpec.plain.varTypes Tryd.prog).any (Tryd.prog.mapsRec ·))) = true := by kernel_rfl
theorem scanAgain_k15 : ((Rows.scanAgainRow.ifaces == (Tryd.f7.params.toList ++ Rows.scanAgainSpec.plain.varTypes Tryd.prog).any (Tryd.prog.ifacesRec ·))) = true := by kernel_rfl
theorem scanAgain_k16 : ((Rows.scanAgainRow.mapsOut == Tryd.prog.mapsAmong Tryd.f7.resultTypes.toList)) = true := by kernel_rfl
theorem scanAgain_k17 : ((Rows.scanAgainRow.loops == (Tryd.f7.params.toList ++ Rows.scanAgainSpec.plain.varTypes Tryd.prog).any (Tryd.prog.loopsFrom ·))) = true := by kernel_rfl
theorem scanAgain_k18 : ((Rows.scanAgainRow.wideKeys == (Tryd.f7.params.toList ++ Rows.scanAgainSpec.plain.varTypes Tryd.prog ++ Tryd.f7.resultTypes.toList).any (Tryd.prog.wideKeysFrom ·))) = true := by kernel_rfl
theorem scanAgain_k19 : (Rows.scanAgainSpec.vars.all (Tryd.prog.varReadable ·)) = true := by kernel_rfl
theorem scanAgain_k20 : (Tryd.f7.resultTypes.all (fun t => Tryd.prog.readableRec t && decide (t < Tryd.prog.types.size))) = true := by kernel_rfl
theorem scanAgain_k21 : ((Rows.scanAgainRow.ifacesOut == Tryd.f7.resultTypes.toList.any (Tryd.prog.ifacesRec ·))) = true := by kernel_rfl
theorem scanAgain_k22 : ((Rows.scanAgainRow.loopsOut == Tryd.f7.resultTypes.toList.any (Tryd.prog.loopsFrom ·))) = true := by kernel_rfl
theorem scanAgain_k24 : (Rows.scanAgainRow.shortTexts.isNone) = true := by kernel_rfl
theorem scanAgain_k29 : ((Rows.scanAgainRow.kinds == (if Rows.scanAgainRow.domain.isEmpty then [] else Tryd.f7.params.toList.map fun t => match Tryd.prog.underlying t with | some (.int k) => some k | _ => none))) = true := by kernel_rfl
theorem scanAgain_k30 : ((Rows.scanAgainRow.pinned == Rows.scanAgainRow.pinnedBy)) = true := by kernel_rfl
theorem scanAgain_k31 : ((Rows.scanAgainRow.veiled == (Tryd.f7.params.toList ++ Rows.scanAgainSpec.plain.varTypes Tryd.prog ++ Tryd.f7.resultTypes.toList).any (Tryd.prog.veiledRec ·))) = true := by kernel_rfl
theorem scanAgain_k32 : (Rows.scanAgainRow.veiledFits Tryd.prog Tryd.f7.params.toList (Tryd.f7.params.toList ++ Rows.scanAgainSpec.plain.varTypes Tryd.prog ++ Tryd.f7.resultTypes.toList)) = true := by kernel_rfl
theorem scanAgain_named : Tryd.prog.funcNamed "soroban/sorobanlaw24.ScanAgain" = some 7 := by kernel_rfl
theorem scanAgain_closed : joinedFacts Tryd.prog 7 Tryd.f7 Rows.scanAgainSpec Rows.scanAgainRow = true := joined_of scanAgain_k1 laidOutZ z_maps scanAgain_k4 scanAgain_k5 scanAgain_k6 scanAgain_k7 scanAgain_k8 scanAgain_k9 scanAgain_k10 scanAgain_k11 scanAgain_k12 scanAgain_k13 scanAgain_k14 scanAgain_k15 scanAgain_k16 scanAgain_k17 scanAgain_k18 scanAgain_k19 scanAgain_k20 scanAgain_k21 scanAgain_k22 z_plainKeys scanAgain_k24 z_stopsHeard z_enter z_lifts z_make scanAgain_k29 scanAgain_k30 scanAgain_k31 scanAgain_k32
theorem scanAgain_inst : Tryd.f7.isInstance Tryd.prog Rows.scanAgainRow.origin Rows.scanAgainRow.targs := of_decide_eq_true (by kernel_rfl)
theorem scanAgain_wrap : Tryd.f7.isWrapper Tryd.prog Rows.scanAgainRow.wrapper Rows.scanAgainRow.mainSum := by unfold Func.isWrapper; first | (rw [if_pos (by decide +kernel)]; kernel_rfl) | (rw [if_neg (by decide +kernel)]; exact ⟨rfl, rfl⟩)
theorem scanAgain_holds : Rows.ScanAgainSaid :=
  OpenClaim.holds_of_wide 7 Tryd.f7 rfl rfl rfl rfl rfl rfl rfl ⟨rfl, rfl, rfl, rfl, rfl⟩ rfl rfl rfl rfl rfl scanAgain_named Tryd.func7 scanAgain_closed
    scanAgain_inst scanAgain_wrap
    (fun os started H enc _ => scanAgain_lifted os started H enc)
end Go.Proofs.YthankfodgdfgaaaDoor
