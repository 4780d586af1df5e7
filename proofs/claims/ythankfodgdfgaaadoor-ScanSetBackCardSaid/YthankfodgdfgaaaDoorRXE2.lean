/- ScanSetBack: the row; no condition. -/
import Derived.Test.YthankfodgdfgaaaDoorRXE1
set_option linter.unusedVariables false
set_option linter.unusedSimpArgs false
set_option linter.unnecessarySimpa false
set_option maxRecDepth 100000
namespace Go.Proofs.YthankfodgdfgaaaDoor
open Go.ChangeShapes Go.WideShapes Go.ChangeAt Go.RowKit Go.V
theorem scanSetBack_k1 : (Rows.scanSetBackRow.wf (OpenSpec.ofChange Rows.scanSetBackSpec)) = true := by kernel_rfl
theorem scanSetBack_k4 : (Tryd.f8.params.all (Tryd.prog.readableRec ·)) = true := by kernel_rfl
theorem scanSetBack_k5 : (namedTie Tryd.prog Rows.scanSetBackRow.named Rows.scanSetBackSpec.vars) = true := by kernel_rfl
theorem scanSetBack_k6 : ((Rows.scanSetBackRow.stops == [])) = true := by kernel_rfl
theorem scanSetBack_k7 : ((Tryd.prog.stops == [])) = true := by kernel_rfl
theorem scanSetBack_k8 : ((Rows.scanSetBackRow.knobs == [])) = true := by kernel_rfl
theorem scanSetBack_k9 : ((Tryd.prog.stopKnobs == [])) = true := by kernel_rfl
theorem scanSetBack_k10 : ((Rows.scanSetBackRow.inPlace == Tryd.prog.inPlace 8)) = true := by kernel_rfl
theorem scanSetBack_k11 : ((Rows.scanSetBackRow.unfollowed == Tryd.prog.unfollowed 8)) = true := by kernel_rfl
theorem scanSetBack_k12 : ((Rows.scanSetBackRow.recurses == Tryd.prog.recurses 8)) = true := by kernel_rfl
theorem scanSetBack_k13 : ((Rows.scanSetBackRow.named == Tryd.prog.varsNamed 8)) = true := by kernel_rfl
theorem scanSetBack_k14 : ((Rows.scanSetBackRow.maps == (Tryd.f8.params.toList ++ Rows.scanSetBackSpec.plain.varTypes Tryd.prog).any (Tryd.prog.mapsRec ·))) = true := by kernel_rfl
theorem scanSetBack_k15 : ((Rows.scanSetBackRow.ifaces == (Tryd.f8.params.toList ++ Rows.scanSetBackSpec.plain.varTypes Tryd.prog).any (Tryd.prog.ifacesRec ·))) = true := by kernel_rfl
theorem scanSetBack_k16 : ((Rows.scanSetBackRow.mapsOut == Tryd.prog.mapsAmong Tryd.f8.resultTypes.toList)) = true := by kernel_rfl
theorem scanSetBack_k17 : ((Rows.scanSetBackRow.loops == (Tryd.f8.params.toList ++ Rows.scanSetBackSpec.plain.varTypes Tryd.prog).any (Tryd.prog.loopsFrom ·))) = true := by kernel_rfl
theorem scanSetBack_k18 : ((Rows.scanSetBackRow.wideKeys == (Tryd.f8.params.toList ++ Rows.scanSetBackSpec.plain.varTypes Tryd.prog ++ Tryd.f8.resultTypes.toList).any (Tryd.prog.wideKeysFrom ·))) = true := by kernel_rfl
theorem scanSetBack_k19 : (Rows.scanSetBackSpec.vars.all (Tryd.prog.varReadable ·)) = true := by kernel_rfl
theorem scanSetBack_k20 : (Tryd.f8.resultTypes.all (fun t => Tryd.prog.readableRec t && decide (t < Tryd.prog.types.size))) = true := by kernel_rfl
theorem scanSetBack_k21 : ((Rows.scanSetBackRow.ifacesOut == Tryd.f8.resultTypes.toList.any (Tryd.prog.ifacesRec ·))) = true := by kernel_rfl
theorem scanSetBack_k22 : ((Rows.scanSetBackRow.loopsOut == Tryd.f8.resultTypes.toList.any (Tryd.prog.loopsFrom ·))) = true := by kernel_rfl
theorem scanSetBack_k24 : (Rows.scanSetBackRow.shortTexts.isNone) = true := by kernel_rfl
theorem scanSetBack_k29 : ((Rows.scanSetBackRow.kinds == (if Rows.scanSetBackRow.domain.isEmpty then [] else Tryd.f8.params.toList.map fun t => match Tryd.prog.underlying t with | some (.int k) => some k | _ => none))) = true := by kernel_rfl
theorem scanSetBack_k30 : ((Rows.scanSetBackRow.pinned == Rows.scanSetBackRow.pinnedBy)) = true := by kernel_rfl
theorem scanSetBack_k31 : ((Rows.scanSetBackRow.veiled == (Tryd.f8.params.toList ++ Rows.scanSetBackSpec.plain.varTypes Tryd.prog ++ Tryd.f8.resultTypes.toList).any (Tryd.prog.veiledRec ·))) = true := by kernel_rfl
theorem scanSetBack_k32 : (Rows.scanSetBackRow.veiledFits Tryd.prog Tryd.f8.params.toList (Tryd.f8.params.toList ++ Rows.scanSetBackSpec.plain.varTypes Tryd.prog ++ Tryd.f8.resultTypes.toList)) = true := by kernel_rfl
theorem scanSetBack_named : Tryd.prog.funcNamed "soroban/sorobanlaw24.ScanSetBack" = some 8 := by kernel_rfl
theorem scanSetBack_closed : joinedFacts Tryd.prog 8 Tryd.f8 Rows.scanSetBackSpec Rows.scanSetBackRow = true := joined_of scanSetBack_k1 laidOutZ z_maps scanSetBack_k4 scanSetBack_k5 scanSetBack_k6 scanSetBack_k7 scanSetBack_k8 scanSetBack_k9 scanSetBack_k10 scanSetBack_k11 scanSetBack_k12 scanSetBack_k13 scanSetBack_k14 scanSetBack_k15 scanSetBack_k16 scanSetBack_k17 scanSetBack_k18 scanSetBack_k19 scanSetBack_k20 scanSetBack_k21 scanSetBack_k22 z_plainKeys scanSetBack_k24 z_stopsHeard z_enter z_lifts z_make scanSetBack_k29 scanSetBack_k30 scanSetBack_k31 scanSetBack_k32
theorem scanSetBack_inst : Tryd.f8.isInstance Tryd.prog Rows.scanSetBackRow.origin Rows.scanSetBackRow.targs := of_decide_eq_true (by kernel_rfl)
theorem scanSetBack_wrap : Tryd.f8.isWrapper Tryd.prog Rows.scanSetBackRow.wrapper Rows.scanSetBackRow.mainSum := by unfold Func.isWrapper; first | (rw [if_pos (by decide +kernel)]; kernel_rfl) | (rw [if_neg (by decide +kernel)]; exact ⟨rfl, rfl⟩)
theorem scanSetBack_holds : Rows.ScanSetBackSaid :=
  OpenClaim.holds_of_wide 8 Tryd.f8 rfl rfl rfl rfl rfl rfl rfl ⟨rfl, rfl, rfl, rfl, rfl⟩ rfl rfl rfl rfl rfl scanSetBack_named Tryd.func8 scanSetBack_closed
    scanSetBack_inst scanSetBack_wrap
    (fun os started H enc _ => scanSetBack_lifted os started H enc)
end Go.Proofs.YthankfodgdfgaaaDoor
