/- ScanJoins: the row; no condition. -/
import Derived.Test.YthankfodgdfgaaaDoorRXJ1
set_option linter.unusedVariables false
set_option linter.unusedSimpArgs false
set_option linter.unnecessarySimpa false
set_option maxRecDepth 100000
namespace Go.Proofs.YthankfodgdfgaaaDoor
open Go.ChangeShapes Go.WideShapes Go.ChangeAt Go.RowKit Go.V
theorem scanJoins_k1 : (Rows.scanJoinsRow.wf (OpenSpec.ofChange Rows.scanJoinsSpec)) = true := by kernel_rfl
theorem scanJoins_k4 : (Tryd.f9.params.all (Tryd.prog.readableRec ·)) = true := by kernel_rfl
theorem scanJoins_k5 : (namedTie Tryd.prog Rows.scanJoinsRow.named Rows.scanJoinsSpec.vars) = true := by kernel_rfl
theorem scanJoins_k6 : ((Rows.scanJoinsRow.stops == [])) = true := by kernel_rfl
theorem scanJoins_k7 : ((Tryd.prog.stops == [])) = true := by kernel_rfl
theorem scanJoins_k8 : ((Rows.scanJoinsRow.knobs == [])) = true := by kernel_rfl
theorem scanJoins_k9 : ((Tryd.prog.stopKnobs == [])) = true := by kernel_rfl
theorem scanJoins_k10 : ((Rows.scanJoinsRow.inPlace == Tryd.prog.inPlace 9)) = true := by kernel_rfl
theorem scanJoins_k11 : ((Rows.scanJoinsRow.unfollowed == Tryd.prog.unfollowed 9)) = true := by kernel_rfl
theorem scanJoins_k12 : ((Rows.scanJoinsRow.recurses == Tryd.prog.recurses 9)) = true := by kernel_rfl
theorem scanJoins_k13 : ((Rows.scanJoinsRow.named == Tryd.prog.varsNamed 9)) = true := by kernel_rfl
theorem scanJoins_k14 : ((Rows.scanJoinsRow.maps == (Tryd.f9.params.toList ++ Rows.scanJoinsSpec.plain.varTypes Tryd.prog).any (Tryd.prog.mapsRec ·))) = true := by kernel_rfl
theorem scanJoins_k15 : ((Rows.scanJoinsRow.ifaces == (Tryd.f9.params.toList ++ Rows.scanJoinsSpec.plain.varTypes Tryd.prog).any (Tryd.prog.ifacesRec ·))) = true := by kernel_rfl
theorem scanJoins_k16 : ((Rows.scanJoinsRow.mapsOut == Tryd.prog.mapsAmong Tryd.f9.resultTypes.toList)) = true := by kernel_rfl
theorem scanJoins_k17 : ((Rows.scanJoinsRow.loops == (Tryd.f9.params.toList ++ Rows.scanJoinsSpec.plain.varTypes Tryd.prog).any (Tryd.prog.loopsFrom ·))) = true := by kernel_rfl
theorem scanJoins_k18 : ((Rows.scanJoinsRow.wideKeys == (Tryd.f9.params.toList ++ Rows.scanJoinsSpec.plain.varTypes Tryd.prog ++ Tryd.f9.resultTypes.toList).any (Tryd.prog.wideKeysFrom ·))) = true := by kernel_rfl
theorem scanJoins_k19 : (Rows.scanJoinsSpec.vars.all (Tryd.prog.varReadable ·)) = true := by kernel_rfl
theorem scanJoins_k20 : (Tryd.f9.resultTypes.all (fun t => Tryd.prog.readableRec t && decide (t < Tryd.prog.types.size))) = true := by kernel_rfl
theorem scanJoins_k21 : ((Rows.scanJoinsRow.ifacesOut == Tryd.f9.resultTypes.toList.any (Tryd.prog.ifacesRec ·))) = true := by kernel_rfl
theorem scanJoins_k22 : ((Rows.scanJoinsRow.loopsOut == Tryd.f9.resultTypes.toList.any (Tryd.prog.loopsFrom ·))) = true := by kernel_rfl
theorem scanJoins_k24 : (Rows.scanJoinsRow.shortTexts.isNone) = true := by kernel_rfl
theorem scanJoins_k29 : ((Rows.scanJoinsRow.kinds == (if Rows.scanJoinsRow.domain.isEmpty then [] else Tryd.f9.params.toList.map fun t => match Tryd.prog.underlying t with | some (.int k) => some k | _ => none))) = true := by kernel_rfl
theorem scanJoins_k30 : ((Rows.scanJoinsRow.pinned == Rows.scanJoinsRow.pinnedBy)) = true := by kernel_rfl
theorem scanJoins_k31 : ((Rows.scanJoinsRow.veiled == (Tryd.f9.params.toList ++ Rows.scanJoinsSpec.plain.varTypes Tryd.prog ++ Tryd.f9.resultTypes.toList).any (Tryd.prog.veiledRec ·))) = true := by kernel_rfl
theorem scanJoins_k32 : (Rows.scanJoinsRow.veiledFits Tryd.prog Tryd.f9.params.toList (Tryd.f9.params.toList ++ Rows.scanJoinsSpec.plain.varTypes Tryd.prog ++ Tryd.f9.resultTypes.toList)) = true := by kernel_rfl
theorem scanJoins_named : Tryd.prog.funcNamed "soroban/sorobanlaw24.ScanJoins" = some 9 := by kernel_rfl
theorem scanJoins_closed : joinedFacts Tryd.prog 9 Tryd.f9 Rows.scanJoinsSpec Rows.scanJoinsRow = true := joined_of scanJoins_k1 laidOutZ z_maps scanJoins_k4 scanJoins_k5 scanJoins_k6 scanJoins_k7 scanJoins_k8 scanJoins_k9 scanJoins_k10 scanJoins_k11 scanJoins_k12 scanJoins_k13 scanJoins_k14 scanJoins_k15 scanJoins_k16 scanJoins_k17 scanJoins_k18 scanJoins_k19 scanJoins_k20 scanJoins_k21 scanJoins_k22 z_plainKeys scanJoins_k24 z_stopsHeard z_enter z_lifts z_make scanJoins_k29 scanJoins_k30 scanJoins_k31 scanJoins_k32
theorem scanJoins_inst : Tryd.f9.isInstance Tryd.prog Rows.scanJoinsRow.origin Rows.scanJoinsRow.targs := of_decide_eq_true (by kernel_rfl)
theorem scanJoins_wrap : Tryd.f9.isWrapper Tryd.prog Rows.scanJoinsRow.wrapper Rows.scanJoinsRow.mainSum := by unfold Func.isWrapper; first | (rw [if_pos (by decide +kernel)]; kernel_rfl) | (rw [if_neg (by decide +kernel)]; exact ⟨rfl, rfl⟩)
theorem scanJoins_holds : Rows.ScanJoinsSaid :=
  OpenClaim.holds_of_wide 9 Tryd.f9 rfl rfl rfl rfl rfl rfl rfl ⟨rfl, rfl, rfl, rfl, rfl⟩ rfl rfl rfl rfl rfl scanJoins_named Tryd.func9 scanJoins_closed
    scanJoins_inst scanJoins_wrap
    (fun os started H enc _ => scanJoins_lifted os started H enc)
end Go.Proofs.YthankfodgdfgaaaDoor
