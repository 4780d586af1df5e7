/- ScanBackUpto: the row; no condition. -/
import Derived.Test.YthankfodgdfgaaaDoorRXH1
set_option linter.unusedVariables false
set_option linter.unusedSimpArgs false
set_option linter.unnecessarySimpa false
set_option maxRecDepth 100000
namespace Go.Proofs.YthankfodgdfgaaaDoor
open Go.ChangeShapes Go.WideShapes Go.ChangeAt Go.RowKit Go.V
theorem scanBackUpto_k1 : (Rows.scanBackUptoRow.wf (OpenSpec.ofChange (Rows.OpenSpec.upto Rows.scanBackSpec).bare)) = true := by kernel_rfl
theorem scanBackUpto_k4 : (Tryd.f6.params.all (Tryd.prog.readableRec ·)) = true := by kernel_rfl
theorem scanBackUpto_k5 : (namedTie Tryd.prog Rows.scanBackUptoRow.named (Rows.OpenSpec.upto Rows.scanBackSpec).bare.vars) = true := by kernel_rfl
theorem scanBackUpto_k6 : ((Rows.scanBackUptoRow.stops == [])) = true := by kernel_rfl
theorem scanBackUpto_k7 : ((Tryd.prog.stops == [])) = true := by kernel_rfl
theorem scanBackUpto_k8 : ((Rows.scanBackUptoRow.knobs == [])) = true := by kernel_rfl
theorem scanBackUpto_k9 : ((Tryd.prog.stopKnobs == [])) = true := by kernel_rfl
theorem scanBackUpto_k10 : ((Rows.scanBackUptoRow.inPlace == Tryd.prog.inPlace 6)) = true := by kernel_rfl
theorem scanBackUpto_k11 : ((Rows.scanBackUptoRow.unfollowed == Tryd.prog.unfollowed 6)) = true := by kernel_rfl
theorem scanBackUpto_k12 : ((Rows.scanBackUptoRow.recurses == Tryd.prog.recurses 6)) = true := by kernel_rfl
theorem scanBackUpto_k13 : ((Rows.scanBackUptoRow.named == Tryd.prog.varsNamed 6)) = true := by kernel_rfl
theorem scanBackUpto_k14 : ((Rows.scanBackUptoRow.maps == (Tryd.f6.params.toList ++ (Rows.OpenSpec.upto Rows.scanBackSpec).bare.plain.varTypes Tryd.prog).any (Tryd.prog.mapsRec ·))) = true := by kernel_rfl
theorem scanBackUpto_k15 : ((Rows.scanBackUptoRow.ifaces == (Tryd.f6.params.toList ++ (Rows.OpenSpec.upto Rows.scanBackSpec).bare.plain.varTypes Tryd.prog).any (Tryd.prog.ifacesRec ·))) = true := by kernel_rfl
theorem scanBackUpto_k16 : ((Rows.scanBackUptoRow.mapsOut == Tryd.prog.mapsAmong Tryd.f6.resultTypes.toList)) = true := by kernel_rfl
theorem scanBackUpto_k17 : ((Rows.scanBackUptoRow.loops == (Tryd.f6.params.toList ++ (Rows.OpenSpec.upto Rows.scanBackSpec).bare.plain.varTypes Tryd.prog).any (Tryd.prog.loopsFrom ·))) = true := by kernel_rfl
theorem scanBackUpto_k18 : ((Rows.scanBackUptoRow.wideKeys == (Tryd.f6.params.toList ++ (Rows.OpenSpec.upto Rows.scanBackSpec).bare.plain.varTypes Tryd.prog ++ Tryd.f6.resultTypes.toList).any (Tryd.prog.wideKeysFrom ·))) = true := by kernel_rfl
theorem scanBackUpto_k19 : ((Rows.OpenSpec.upto Rows.scanBackSpec).bare.vars.all (Tryd.prog.varReadable ·)) = true := by kernel_rfl
theorem scanBackUpto_k20 : (Tryd.f6.resultTypes.all (fun t => Tryd.prog.readableRec t && decide (t < Tryd.prog.types.size))) = true := by kernel_rfl
theorem scanBackUpto_k21 : ((Rows.scanBackUptoRow.ifacesOut == Tryd.f6.resultTypes.toList.any (Tryd.prog.ifacesRec ·))) = true := by kernel_rfl
theorem scanBackUpto_k22 : ((Rows.scanBackUptoRow.loopsOut == Tryd.f6.resultTypes.toList.any (Tryd.prog.loopsFrom ·))) = true := by kernel_rfl
theorem scanBackUpto_k24 : (Rows.scanBackUptoRow.shortTexts.isNone) = true := by kernel_rfl
theorem scanBackUpto_k29 : ((Rows.scanBackUptoRow.kinds == (if Rows.scanBackUptoRow.domain.isEmpty then [] else Tryd.f6.params.toList.map fun t => match Tryd.prog.underlying t with | some (.int k) => some k | _ => none))) = true := by kernel_rfl
theorem scanBackUpto_k30 : ((Rows.scanBackUptoRow.pinned == Rows.scanBackUptoRow.pinnedBy)) = true := by kernel_rfl
theorem scanBackUpto_k31 : ((Rows.scanBackUptoRow.veiled == (Tryd.f6.params.toList ++ (Rows.OpenSpec.upto Rows.scanBackSpec).bare.plain.varTypes Tryd.prog ++ Tryd.f6.resultTypes.toList).any (Tryd.prog.veiledRec ·))) = true := by kernel_rfl
theorem scanBackUpto_k32 : (Rows.scanBackUptoRow.veiledFits Tryd.prog Tryd.f6.params.toList (Tryd.f6.params.toList ++ (Rows.OpenSpec.upto Rows.scanBackSpec).bare.plain.varTypes Tryd.prog ++ Tryd.f6.resultTypes.toList)) = true := by kernel_rfl
theorem scanBackUpto_named : Tryd.prog.funcNamed "soroban/sorobanlaw24.ScanBack" = some 6 := by kernel_rfl
theorem scanBackUpto_closed : joinedFacts Tryd.prog 6 Tryd.f6 (Rows.OpenSpec.upto Rows.scanBackSpec).bare Rows.scanBackUptoRow = true := joined_of scanBackUpto_k1 laidOutZ z_maps scanBackUpto_k4 scanBackUpto_k5 scanBackUpto_k6 scanBackUpto_k7 scanBackUpto_k8 scanBackUpto_k9 scanBackUpto_k10 scanBackUpto_k11 scanBackUpto_k12 scanBackUpto_k13 scanBackUpto_k14 scanBackUpto_k15 scanBackUpto_k16 scanBackUpto_k17 scanBackUpto_k18 scanBackUpto_k19 scanBackUpto_k20 scanBackUpto_k21 scanBackUpto_k22 z_plainKeys scanBackUpto_k24 z_stopsHeard z_enter z_lifts z_make scanBackUpto_k29 scanBackUpto_k30 scanBackUpto_k31 scanBackUpto_k32
theorem scanBackUpto_inst : Tryd.f6.isInstance Tryd.prog Rows.scanBackUptoRow.origin Rows.scanBackUptoRow.targs := of_decide_eq_true (by kernel_rfl)
theorem scanBackUpto_wrap : Tryd.f6.isWrapper Tryd.prog Rows.scanBackUptoRow.wrapper Rows.scanBackUptoRow.mainSum := by unfold Func.isWrapper; first | (rw [if_pos (by decide +kernel)]; kernel_rfl) | (rw [if_neg (by decide +kernel)]; exact ⟨rfl, rfl⟩)
theorem scanBackUpto_holds : Rows.ScanBackUptoSaid :=
  OpenClaim.holds_of_cond 6 Tryd.f6 rfl rfl rfl rfl rfl rfl rfl ⟨rfl, rfl, rfl, rfl, rfl⟩ rfl rfl rfl rfl rfl scanBackUpto_named Tryd.func6 scanBackUpto_closed
    scanBackUpto_inst scanBackUpto_wrap
    (fun os started H enc _ F => by rw [OpenClaim.pre_eq_preRow]; exact scanBackUpto_lifted os started H enc F)
end Go.Proofs.YthankfodgdfgaaaDoor
