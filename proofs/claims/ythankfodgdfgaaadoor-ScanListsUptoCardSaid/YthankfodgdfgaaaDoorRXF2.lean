/- ScanListsUpto: the row; no condition. -/
import Derived.Test.YthankfodgdfgaaaDoorRXF1
set_option linter.unusedVariables false
set_option linter.unusedSimpArgs false
set_option linter.unnecessarySimpa false
set_option maxRecDepth 100000
namespace Go.Proofs.YthankfodgdfgaaaDoor
open Go.ChangeShapes Go.WideShapes Go.ChangeAt Go.RowKit Go.V
theorem scanListsUpto_k1 : (Rows.scanListsUptoRow.wf (OpenSpec.ofChange (Rows.OpenSpec.upto Rows.scanListsSpec).bare)) = true := by kernel_rfl
theorem scanListsUpto_k4 : (Tryd.f4.params.all (Tryd.prog.readableRec ·)) = true := by kernel_rfl
theorem scanListsUpto_k5 : (namedTie Tryd.prog Rows.scanListsUptoRow.named (Rows.OpenSpec.upto Rows.scanListsSpec).bare.vars) = true := by kernel_rfl
theorem scanListsUpto_k6 : ((Rows.scanListsUptoRow.stops == [])) = true := by kernel_rfl
theorem scanListsUpto_k7 : ((Tryd.prog.stops == [])) = true := by kernel_rfl
theorem scanListsUpto_k8 : ((Rows.scanListsUptoRow.knobs == [])) = true := by kernel_rfl
theorem scanListsUpto_k9 : ((Tryd.prog.stopKnobs == [])) = true := by kernel_rfl
theorem scanListsUpto_k10 : ((Rows.scanListsUptoRow.inPlace == Tryd.prog.inPlace 4)) = true := by kernel_rfl
theorem scanListsUpto_k11 : ((Rows.scanListsUptoRow.unfollowed == Tryd.prog.unfollowed 4)) = true := by kernel_rfl
theorem scanListsUpto_k12 : ((Rows.scanListsUptoRow.recurses == Tryd.prog.recurses 4)) = true := by kernel_rfl
theorem scanListsUpto_k13 : ((Rows.scanListsUptoRow.named == Tryd.prog.varsNamed 4)) = true := by kernel_rfl
theorem scanListsUpto_k14 : ((Rows.scanListsUptoRow.maps == (Tryd.f4.params.toList ++ (Rows.OpenSpec.upto Rows.scanListsSpec).bare.plain.varTypes Tryd.prog).any (Tryd.prog.mapsRec ·))) = true := by kernel_rfl
theorem scanListsUpto_k15 : ((Rows.scanListsUptoRow.ifaces == (Tryd.f4.params.toList ++ (Rows.OpenSpec.upto Rows.scanListsSpec).bare.plain.varTypes Tryd.prog).any (Tryd.prog.ifacesRec ·))) = true := by kernel_rfl
theorem scanListsUpto_k16 : ((Rows.scanListsUptoRow.mapsOut == Tryd.prog.mapsAmong Tryd.f4.resultTypes.toList)) = true := by kernel_rfl
theorem scanListsUpto_k17 : ((Rows.scanListsUptoRow.loops == (Tryd.f4.params.toList ++ (Rows.OpenSpec.upto Rows.scanListsSpec).bare.plain.varTypes Tryd.prog).any (Tryd.prog.loopsFrom ·))) = true := by kernel_rfl
theorem scanListsUpto_k18 : ((Rows.scanListsUptoRow.wideKeys == (Tryd.f4.params.toList ++ (Rows.OpenSpec.upto Rows.scanListsSpec).bare.plain.varTypes Tryd.prog ++ Tryd.f4.resultTypes.toList).any (Tryd.prog.wideKeysFrom ·))) = true := by kernel_rfl
theorem scanListsUpto_k19 : ((Rows.OpenSpec.upto Rows.scanListsSpec).bare.vars.all (Tryd.prog.varReadable ·)) = true := by kernel_rfl
theorem scanListsUpto_k20 : (Tryd.f4.resultTypes.all (fun t => Tryd.prog.readableRec t && decide (t < Tryd.prog.types.size))) = true := by kernel_rfl
theorem scanListsUpto_k21 : ((Rows.scanListsUptoRow.ifacesOut == Tryd.f4.resultTypes.toList.any (Tryd.prog.ifacesRec ·))) = true := by kernel_rfl
theorem scanListsUpto_k22 : ((Rows.scanListsUptoRow.loopsOut == Tryd.f4.resultTypes.toList.any (Tryd.prog.loopsFrom ·))) = true := by kernel_rfl
theorem scanListsUpto_k24 : (Rows.scanListsUptoRow.shortTexts.isNone) = true := by kernel_rfl
theorem scanListsUpto_k29 : ((Rows.scanListsUptoRow.kinds == (if Rows.scanListsUptoRow.domain.isEmpty then [] else Tryd.f4.params.toList.map fun t => match Tryd.prog.underlying t with | some (.int k) => some k | _ => none))) = true := by kernel_rfl
theorem scanListsUpto_k30 : ((Rows.scanListsUptoRow.pinned == Rows.scanListsUptoRow.pinnedBy)) = true := by kernel_rfl
theorem scanListsUpto_k31 : ((Rows.scanListsUptoRow.veiled == (Tryd.f4.params.toList ++ (Rows.OpenSpec.upto Rows.scanListsSpec).bare.plain.varTypes Tryd.prog ++ Tryd.f4.resultTypes.toList).any (Tryd.prog.veiledRec ·))) = true := by kernel_rfl
theorem scanListsUpto_k32 : (Rows.scanListsUptoRow.veiledFits Tryd.prog Tryd.f4.params.toList (Tryd.f4.params.toList ++ (Rows.OpenSpec.upto Rows.scanListsSpec).bare.plain.varTypes Tryd.prog ++ Tryd.f4.resultTypes.toList)) = true := by kernel_rfl
theorem scanListsUpto_named : Tryd.prog.funcNamed "soroban/sorobanlaw24.ScanLists" = some 4 := by kernel_rfl
theorem scanListsUpto_closed : joinedFacts Tryd.prog 4 Tryd.f4 (Rows.OpenSpec.upto Rows.scanListsSpec).bare Rows.scanListsUptoRow = true := joined_of scanListsUpto_k1 laidOutZ z_maps scanListsUpto_k4 scanListsUpto_k5 scanListsUpto_k6 scanListsUpto_k7 scanListsUpto_k8 scanListsUpto_k9 scanListsUpto_k10 scanListsUpto_k11 scanListsUpto_k12 scanListsUpto_k13 scanListsUpto_k14 scanListsUpto_k15 scanListsUpto_k16 scanListsUpto_k17 scanListsUpto_k18 scanListsUpto_k19 scanListsUpto_k20 scanListsUpto_k21 scanListsUpto_k22 z_plainKeys scanListsUpto_k24 z_stopsHeard z_enter z_lifts z_make scanListsUpto_k29 scanListsUpto_k30 scanListsUpto_k31 scanListsUpto_k32
theorem scanListsUpto_inst : Tryd.f4.isInstance Tryd.prog Rows.scanListsUptoRow.origin Rows.scanListsUptoRow.targs := of_decide_eq_true (by kernel_rfl)
theorem scanListsUpto_wrap : Tryd.f4.isWrapper Tryd.prog Rows.scanListsUptoRow.wrapper Rows.scanListsUptoRow.mainSum := by unfold Func.isWrapper; first | (rw [if_pos (by decide +kernel)]; kernel_rfl) | (rw [if_neg (by decide +kernel)]; exact ⟨rfl, rfl⟩)
theorem scanListsUpto_holds : Rows.ScanListsUptoSaid :=
  OpenClaim.holds_of_cond 4 Tryd.f4 rfl rfl rfl rfl rfl rfl rfl ⟨rfl, rfl, rfl, rfl, rfl⟩ rfl rfl rfl rfl rfl scanListsUpto_named Tryd.func4 scanListsUpto_closed
    scanListsUpto_inst scanListsUpto_wrap
    (fun os started H enc _ F => by rw [OpenClaim.pre_eq_preRow]; exact scanListsUpto_lifted os started H enc F)
end Go.Proofs.YthankfodgdfgaaaDoor
