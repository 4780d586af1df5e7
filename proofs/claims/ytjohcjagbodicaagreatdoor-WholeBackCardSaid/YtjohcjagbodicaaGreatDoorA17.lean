/- A part of the proof: abstract values, rules for the steps of the program's form, and contracts of its functions, each proved; no condition. -/
import Derived.Test.YtjohcjagbodicaaGreatDoorA16
import Derived.Test.YtjohcjagbodicaaGreatDoorTie
import Derived.Test.YtjohcjagbodicaaGreatDoorCards
import Derived.ProofKit
import Derived.OpenShut
import Derived.LaidMore
import Derived.Lay
import Derived.SevenTiedAt
import Derived.Carry
import Derived.Stop.Joined
set_option linter.unusedVariables false
set_option linter.unusedSimpArgs false
set_option maxHeartbeats 8000000
set_option maxRecDepth 100000
set_option synthInstance.maxSize 100000
set_option synthInstance.maxHeartbeats 2000000
namespace Go.V
open Go.RowKit Go.Proofs
abbrev atD (r : Int × Int × Int) : D := .agg [.bool (decide (r.1 < 0)), numD r.1.natAbs, .int .i64 r.2.1, .int .i64 r.2.2]
theorem fz_at {H : Heap} (e n : Int) : Fz H (.agg [.bool false, .nilsl, .int .i64 e, .int .i64 n]) (atD (0, e, n)) [] := by
  have h : atD (0, e, n) = .agg [.bool false, .sl 0 [], .int .i64 e, .int .i64 n] := by show D.agg [.bool (decide ((0 : Int) < 0)), sln .u32 (lim 0), _, _] = _; rw [lim_zero]; rfl
  rw [h]
  exact .agg (.cons (.same _) (.cons .nil (.cons (.same _) (.cons (.same _) .nil))))
theorem isM {s : ByteArray} (h : 0 < s.size) : isAt s 0 sMinus = decide ((((sby s).getD 0 0 : Nat) : Int) = 45) := by
  rw [isAt_one, decide_eq_true h, Bool.true_and]
  exact decide_eq_decide.2 ⟨fun h => by rw [h]; rfl, fun h => by have : (45 : UInt8).toNat = 45 := rfl; omega⟩
theorem isP {s : ByteArray} (h : 0 < s.size) : isAt s 0 sPlus = decide ((((sby s).getD 0 0 : Nat) : Int) = 43) := by
  rw [isAt_one, decide_eq_true h, Bool.true_and]
  exact decide_eq_decide.2 ⟨fun h => by rw [h]; rfl, fun h => by have : (43 : UInt8).toNat = 43 := rfl; omega⟩
theorem is0 {s : ByteArray} (h : ¬ 0 < s.size) (c : UInt8) : isAt s 0 ⟨#[c]⟩ = false := by
  rw [isAt_one, decide_eq_false h, Bool.false_and]
theorem Zip (s : ByteArray) (base : Int) : PC C ZkU [.str s, .int .i64 base] (fun o => o = .ret (atD (parseR base s))) := by
  refine PC.run Ze8 Zju rfl Zjv rfl (rs := [.cell 4 68]) (by rw [Zjw]) (by simp only [List.length_cons, List.length_nil, Nat.reduceAdd, Nat.reduceSub, List.replicate_succ, List.replicate_zero, List.cons_append, List.nil_append]; exact rfl) ?_
  refine ARun.seq (ARun.region ?_)
  refine y_new rfl (Zak rfl rfl rfl rfl) ?_
  refine AOps.nil (ARun.seq (ARun.seq (ARun.region ?_)))
  refine y_op rfl (q_move rfl) ?_
  refine y_op rfl (q_int rfl rfl rfl) ?_
  refine y_op rfl (q_move rfl) ?_
  refine AOps.bool 10 rfl (fun g1 => ?_) (fun g1 => ?_)
  · skip
    have g1 := of_decide_eq_true g1
    have hP : parseR base s = (0, 1, 0) := by unfold parseR; rw [if_pos (by omega)]
    rw [hP]
    refine y_skip rfl ?_
    refine y_skip rfl ?_
    refine y_op rfl (q_pick rfl rfl rfl rfl) ?_
    refine AOps.nil ?_
    refine ARun.condT rfl ?_
    refine ARun.seq (ARun.region ?_)
    refine y_op rfl (Zap rfl rfl rfl rfl rfl) ?_
    refine y_new rfl (Zad rfl rfl rfl rfl rfl rfl rfl rfl (Nat.le_of_ble_eq_true rfl) rfl) ?_
    refine AOps.nil ?_
    refine ARun.ret ?_
    refine ⟨_, _, _, ResR.cellA rfl rfl rfl rfl rfl rfl .nil, .cons (fz_at 1 0) .nil, rfl, ?_⟩
    rfl
  · skip
    have g1 := of_decide_eq_false g1
    refine y_op rfl (q_move rfl) ?_
    refine y_op rfl (q_int rfl rfl rfl) ?_
    refine y_op rfl (q_pick rfl rfl rfl rfl) ?_
    refine AOps.nil ?_
    refine ARun.ite rfl (fun g2 => ?_) (fun g2 => ?_)
    · skip
      have hP : parseR base s = (0, 1, 0) := by unfold parseR; rw [if_pos (by omega)]
      rw [hP]
      refine ARun.seq (ARun.region ?_)
      refine y_op rfl (Zap rfl rfl rfl rfl rfl) ?_
      refine y_new rfl (Zad rfl rfl rfl rfl rfl rfl rfl rfl (Nat.le_of_ble_eq_true rfl) rfl) ?_
      refine AOps.nil ?_
      refine ARun.ret ?_
      refine ⟨_, _, _, ResR.cellA rfl rfl rfl rfl rfl rfl .nil, .cons (fz_at 1 0) .nil, rfl, ?_⟩
      rfl
    · skip
      refine ARun.skip (ARun.seq (ARun.seq (ARun.region ?_)))
      refine y_op rfl (q_move rfl) ?_
      refine y_op rfl (ZaB rfl rfl) ?_
      refine y_op rfl (q_int rfl rfl rfl) ?_
      refine AOps.nil ?_
      refine ARun.ite rfl (fun g3 => ?_) (fun g3 => ?_)
      · skip
        have hP : parseR base s = (0, 2, 0) := by unfold parseR; rw [if_neg (by omega), if_pos (by omega)]
        rw [hP]
        refine ARun.seq (ARun.region ?_)
        refine y_op rfl (Zap rfl rfl rfl rfl rfl) ?_
        refine y_new rfl (Zad rfl rfl rfl rfl rfl rfl rfl rfl (Nat.le_of_ble_eq_true rfl) rfl) ?_
        refine AOps.nil ?_
        refine ARun.ret ?_
        refine ⟨_, _, _, ResR.cellA rfl rfl rfl rfl rfl rfl .nil, .cons (fz_at 2 0) .nil, rfl, ?_⟩
        rfl
      · skip
        obtain ⟨b, rfl⟩ : ∃ b : Nat, base = (b : Int) := ⟨base.toNat, by omega⟩
        have hP : parseR (b : Int) s = if (dgAt b s (sgAt s)).length = 0 then (0, 6, ((sgAt s : Nat) : Int)) else if sgAt s + (dgAt b s (sgAt s)).length < s.size then (0, 6, ((sgAt s + (dgAt b s (sgAt s)).length : Nat) : Int)) else if (lim (nv b (dgAt b s (sgAt s)))).length ≤ 1024 then (sgnd (isAt s 0 sMinus) (nv b (dgAt b s (sgAt s))), 0, 0) else (0, 2, 0) := by
          unfold parseR
          rw [if_neg (by omega), if_neg (by omega), Int.toNat_natCast]
        rw [hP]
        refine ARun.skip (ARun.seq (ARun.region ?_))
        refine y_op rfl (Zaa rfl) ?_
        refine AOps.nil (ARun.seq (ARun.seq ?_))
        refine ARun.join (S := Bool) (fun u : Bool => [(19, .any), (20, .any), (21, .any), (22, .any), (23, .any), (24, .any), (25, .any), (26, .any), (27, .any), (28, .any), (29, .any), (30, .any), (31, .bool u)]) (fun u : Bool => u = (isAt s 0 sMinus || isAt s 0 sPlus)) (fun run => ?_) ?_
        · skip
          refine ARun.region ?_
          refine y_op rfl (q_move rfl) ?_
          refine y_op rfl (ZaB rfl rfl) ?_
          refine y_op rfl (q_int rfl rfl rfl) ?_
          refine y_op rfl (q_move rfl) ?_
          refine AOps.bool 22 rfl (fun g4 => ?_) (fun g4 => ?_)
          · skip
            have g4 : 0 < s.size := by have := of_decide_eq_true g4; omega
            refine y_op rfl (q_move rfl) ?_
            refine y_op rfl (Zaw rfl rfl rfl (by omega) (by omega) (sby_get (i := 0) _)) ?_
            refine y_op rfl (q_int rfl rfl rfl) ?_
            refine y_op rfl (q_move rfl) ?_
            refine AOps.bool 26 rfl (fun g5 => ?_) (fun g5 => ?_)
            · skip
              refine y_skip rfl ?_
              refine y_skip rfl ?_
              refine y_skip rfl ?_
              refine y_op rfl (q_pick rfl rfl rfl rfl) ?_
              refine y_op rfl (q_pick rfl rfl rfl rfl) ?_
              refine AOps.nil ?_
              exact ARun.again (run (true) (by rw [isP g4]; simp_all)) (by (repeat' first | exact envLe_nil | apply envLe_any | apply envLe_same)) rfl
            · skip
              refine y_op rfl (q_move rfl) ?_
              refine y_op rfl (Zaw rfl rfl rfl (by omega) (by omega) (sby_get (i := 0) _)) ?_
              refine y_op rfl (q_int rfl rfl rfl) ?_
              refine y_op rfl (q_pick rfl rfl rfl rfl) ?_
              refine y_op rfl (q_pick rfl rfl rfl rfl) ?_
              refine AOps.nil ?_
              exact ARun.again (run (decide ((((sby s).getD 0 0 : Nat) : Int) = 45)) (by rw [isM g4, isP g4]; simp_all)) (by (repeat' first | exact envLe_nil | apply envLe_any | apply envLe_same)) rfl
          · skip
            have g4 : ¬ 0 < s.size := by have := of_decide_eq_false g4; omega
            refine y_skip rfl ?_
            refine y_skip rfl ?_
            refine y_skip rfl ?_
            refine y_skip rfl ?_
            refine y_skip rfl ?_
            refine y_skip rfl ?_
            refine y_skip rfl ?_
            refine y_skip rfl ?_
            refine y_op rfl (q_pick rfl rfl rfl rfl) ?_
            refine AOps.nil ?_
            exact ARun.again (run (false) (by rw [is0 g4, is0 g4]; rfl)) (by (repeat' first | exact envLe_nil | apply envLe_any | apply envLe_same)) rfl
        · rintro u hj
          try dsimp only at hj ⊢
          refine ARun.join (S := Nat) (fun f : Nat => [(5, .int .i64 (f : Int))]) (fun f : Nat => f = sgAt s) (fun run => ?_) ?_
          · skip
            refine ARun.cond rfl (fun hu => ?_) (fun hu => ?_)
            · skip
              refine ARun.region ?_
              refine y_op rfl (Zaa rfl) ?_
              refine AOps.nil ?_
              exact ARun.again (run (1) (by unfold sgAt; rw [← hj, hu]; rfl)) (by (repeat' first | exact envLe_nil | apply envLe_any | apply envLe_same)) rfl
            · skip
              refine ARun.skip ?_
              exact ARun.again (run (0) (by unfold sgAt; rw [← hj, hu]; rfl)) (by (repeat' first | exact envLe_nil | apply envLe_any | apply envLe_same)) rfl
          · rintro f hj
            try dsimp only at hj ⊢
            subst hj
            have hfs : sgAt s ≤ s.size := by
              by_cases h0 : 0 < s.size
              · unfold sgAt; cases (isAt s 0 sMinus || isAt s 0 sPlus)
                · exact Nat.zero_le _
                · exact h0
              · unfold sgAt; rw [is0 h0, is0 h0]; exact Nat.zero_le _
            generalize sgAt s = f at *
            have hfl : f + (dgAt b s f).length ≤ s.size := by
              by_cases h0 : (dgAt b s f).length = 0
              · omega
              · have := (dgAt_lt (b := b) (s := s) (i := f) ((dgAt b s f).length - 1) (by omega)).1; omega
            refine ARun.seq (ARun.seq (ARun.region ?_))
            refine y_op rfl (q_move rfl) ?_
            refine y_op rfl (Zaa rfl) ?_
            refine AOps.nil (ARun.block ?_)
            refine ARun.loopI (S := Nat) (fun i : Nat => [(33, .any), (34, .any), (35, .any), (36, .any), (37, .any), (38, .any), (39, .any), (40, .any), (41, .any), (42, .any), (43, .any), (44, .any), (45, .any), (46, .any), (6, .int .i64 (i : Int))]) (fun i : Nat => [some ⟨[.bool false, .nilsl, .int .i64 0, .int .i64 0], 68, 1, true, none⟩]) (fun i : Nat => f ≤ i ∧ i ≤ f + (dgAt b s f).length) (fun i : Nat => s.size - i) (f) ?_ ?_ ?_ ?_
            · exact ⟨Nat.le_refl _, Nat.le_add_right _ _⟩
            · (repeat' first | exact envLe_nil | apply envLe_any | apply envLe_same)
            · rfl
            rintro i hinv ih
            obtain ⟨i1, i2⟩ := hinv
            refine ARun.seq (ARun.seq (ARun.region ?_))
            refine y_op rfl (q_move rfl) ?_
            refine y_op rfl (q_move rfl) ?_
            refine y_op rfl (ZaB rfl rfl) ?_
            refine y_op rfl (q_int rfl rfl rfl) ?_
            refine AOps.nil ?_
            refine ARun.ite rfl (fun h => ?_) (fun h => ?_)
            · skip
              refine ARun.skip (ARun.seq (ARun.block (ARun.seq (ARun.region ?_))))
              refine y_op rfl (q_move rfl) ?_
              refine y_op rfl (q_move rfl) ?_
              refine y_op rfl (Zaw rfl rfl rfl (by omega) (by omega) (sby_get _)) ?_
              refine y_op rfl (q_move rfl) ?_
              refine y_op rfl (q_call rfl rfl (Zfp ((sby s).getD i 0) (sby_lt _) b (by omega))) ?_
              refine y_op rfl (q_not rfl) ?_
              refine AOps.nil ?_
              refine ARun.cond rfl (fun hd => ?_) (fun hd => ?_)
              · skip
                have hnd : ¬ digV ((sby s).getD i 0) < b := by simpa using hd
                have hi : i = f + (dgAt b s f).length := by
                  apply Classical.byContradiction
                  intro hne
                  have h5 := (dgAt_lt (b := b) (s := s) (i := f) (i - f) (by omega)).2.2
                  rw [show f + (i - f) = i by omega] at h5
                  exact hnd h5
                have hv : (if (dgAt b s f).length = 0 then ((0, 6, ((f : Nat) : Int)) : Int × Int × Int) else if f + (dgAt b s f).length < s.size then (0, 6, ((f + (dgAt b s f).length : Nat) : Int)) else if (lim (nv b (dgAt b s f))).length ≤ 1024 then (sgnd (isAt s 0 sMinus) (nv b (dgAt b s f)), 0, 0) else (0, 2, 0)) = (0, 6, (i : Int)) := by
                  split
                  · rw [show i = f by omega]
                  · rw [if_pos (by omega), hi]
                rw [hv]
                refine ARun.seq (ARun.region ?_)
                refine y_op rfl (q_move rfl) ?_
                refine y_op rfl (Zap rfl rfl rfl rfl rfl) ?_
                refine y_new rfl (Zad rfl rfl rfl rfl rfl rfl rfl rfl (Nat.le_of_ble_eq_true rfl) rfl) ?_
                refine AOps.nil ?_
                refine ARun.ret ?_
                refine ⟨_, _, _, ResR.cellA rfl rfl rfl rfl rfl rfl .nil, .cons (fz_at 6 (i : Int)) .nil, rfl, ?_⟩
                rfl
              · skip
                have hdd : digV ((sby s).getD i 0) < b := by simpa using hd
                have hi : i < f + (dgAt b s f).length := by
                  rcases Nat.lt_or_ge i (f + (dgAt b s f).length) with h6 | h6
                  · exact h6
                  · exfalso
                    have h7 : i = f + (dgAt b s f).length := by omega
                    exact dgAt_end (b := b) (s := s) (i := f) (by omega) (by rw [← h7]; exact hdd)
                refine ARun.skip (ARun.inBlock (ARun.region ?_))
                refine y_op rfl (q_move rfl) ?_
                refine y_op rfl (q_add rfl rfl (nadd1_i64 (by omega))) ?_
                refine y_op rfl (Zaa rfl) ?_
                refine AOps.nil ?_
                refine ARun.again (ih (i + 1) ?_ ?_) ?_ ?_
                · exact ⟨by omega, by omega⟩
                · omega
                · (repeat' first | exact envLe_nil | apply envLe_any | apply envLe_same)
                · rfl
            · skip
              have hall : f + (dgAt b s f).length = s.size := by omega
              refine ARun.exit rfl ?_
              refine ARun.seq (ARun.seq (ARun.region ?_))
              refine y_op rfl (q_move rfl) ?_
              refine y_op rfl (q_move rfl) ?_
              refine y_op rfl (ZaB rfl rfl) ?_
              refine y_op rfl (q_int rfl rfl rfl) ?_
              refine AOps.nil ?_
              refine ARun.ite rfl (fun h8 => ?_) (fun h8 => ?_)
              · skip
                rw [if_pos (by omega)]
                refine ARun.seq (ARun.region ?_)
                refine y_op rfl (q_move rfl) ?_
                refine y_op rfl (Zap rfl rfl rfl rfl rfl) ?_
                refine y_new rfl (Zad rfl rfl rfl rfl rfl rfl rfl rfl (Nat.le_of_ble_eq_true rfl) rfl) ?_
                refine AOps.nil ?_
                refine ARun.ret ?_
                refine ⟨_, _, _, ResR.cellA rfl rfl rfl rfl rfl rfl .nil, .cons (fz_at 6 (f : Int)) .nil, rfl, ?_⟩
                rfl
              · skip
                rw [if_neg (by omega), if_neg (by omega)]
                have h0 : 0 < s.size := by omega
                have hex : sby (s.extract f s.size) = (sby s).drop f := by
                  unfold sby
                  rw [ByteArray.data_extract, Array.toList_extract]
                  show List.map _ ((s.data.toList.drop f).take (s.size - f)) = _
                  rw [List.take_of_length_le (by rw [List.length_drop, Array.length_toList]; exact Nat.le_refl _), List.map_drop]
                have hsz : (s.extract f s.size).size ≤ 20000 := by rw [← sby_len, hex, List.length_drop, sby_len]; omega
                have hnum := Zlt (s.extract f s.size) hsz b (by omega) (by omega)
                rw [hex, nmV_dgAt hfs hall] at hnum
                have hln : (lim (nv b (dgAt b s f))).length ≤ 20000 := by
                  rw [← nmV_dgAt hfs hall]
                  have := nmV_ln (b := b) (by omega) (by omega) ((sby s).drop f)
                  rw [List.length_drop, sby_len] at this
                  omega
                rw [isM h0]
                refine ARun.skip (ARun.seq ?_)
                refine ARun.drawnF (n := 12) (fun S : Nat → Bool => _) [(10, 7, 45, [.bool false, .nilsl, .int .i64 0], some (11, [.bool (decide ((resZ true (fitO (sgnd (decide ((((sby s).getD 0 0 : Nat) : Int) = 45)) (nv b (dgAt b s f))))).1 < 0)), numD (resZ true (fitO (sgnd (decide ((((sby s).getD 0 0 : Nat) : Int) = 45)) (nv b (dgAt b s f))))).1.natAbs, .int .i64 (resZ true (fitO (sgnd (decide ((((sby s).getD 0 0 : Nat) : Int) = 45)) (nv b (dgAt b s f))))).2]))] (fun _ => False) (sk := [(10, some 11)]) mixC rfl rfl (by kernel_rfl) rfl (by kernel_rfl) rfl rfl (fun _ _ _ h => h.elim) ?_
                refine DChG.op rfl (fun _ => q_move rfl) (fun _ => rfl) rfl rfl ?_
                refine DChG.op rfl (fun _ => Zaw rfl rfl rfl (by omega) (by omega) (sby_get (i := 0) _)) (fun _ => rfl) rfl rfl ?_
                refine DChG.op rfl (fun _ => q_int rfl rfl rfl) (fun _ => rfl) rfl rfl ?_
                refine DChG.op rfl (fun _ => q_move rfl) (fun _ => rfl) rfl rfl ?_
                refine DChG.op rfl (fun _ => q_move rfl) (fun _ => rfl) rfl rfl ?_
                refine DChG.op rfl (fun _ => Zmm (lo := f) (hi := s.size) rfl rfl (bnd_nat rfl rfl) rfl hfs (Nat.le_refl _)) (fun _ => rfl) rfl rfl ?_
                refine DChG.op rfl (fun _ => q_move rfl) (fun _ => rfl) rfl rfl ?_
                refine DChG.op rfl (fun _ => q_call rfl rfl (hnum)) (fun _ => rfl) rfl rfl ?_
                refine DChG.op rfl (fun _ => q_call rfl rfl (Zlr (decide ((((sby s).getD 0 0 : Nat) : Int) = 45)) (nv b (dgAt b s f)) (by omega))) (fun _ => rfl) rfl rfl ?_
                refine DChG.op rfl (fun _ => q_call rfl rfl (ZkF (sgnd (decide ((((sby s).getD 0 0 : Nat) : Int) = 45)) (nv b (dgAt b s f))))) (fun _ => rfl) rfl rfl ?_
                refine .al rfl rfl rfl rfl (fun _ => rfl) rfl rfl rfl ?_
                refine .sp (j := 10) rfl rfl rfl rfl rfl rfl rfl (fun _ => rfl) rfl rfl rfl (by kernel_rfl) ?_
                refine .nil (fun hG => AOps.fixed (as' := [(10, 7, 45, [.bool (decide ((resZ true (fitO (sgnd (decide ((((sby s).getD 0 0 : Nat) : Int) = 45)) (nv b (dgAt b s f))))).1 < 0)), numD (resZ true (fitO (sgnd (decide ((((sby s).getD 0 0 : Nat) : Int) = 45)) (nv b (dgAt b s f))))).1.natAbs, .int .i64 (resZ true (fitO (sgnd (decide ((((sby s).getD 0 0 : Nat) : Int) = 45)) (nv b (dgAt b s f))))).2])]) rfl ?_)
                refine AOps.nil (ARun.seq (ARun.region ?_))
                refine y_op rfl (q_fldS rfl rfl rfl (by decide)) ?_
                refine y_op rfl (Zai rfl rfl rfl rfl rfl) ?_
                refine y_op rfl (q_fldS rfl rfl rfl (by decide)) ?_
                refine y_op rfl (q_load rfl rfl rfl rfl) ?_
                refine y_op rfl (Zap rfl rfl rfl rfl rfl) ?_
                refine y_new rfl (Zad rfl rfl rfl rfl rfl rfl rfl rfl (Nat.le_of_ble_eq_true rfl) rfl) ?_
                refine AOps.nil ?_
                refine ARun.ret ?_
                refine ⟨_, _, _, ResR.cellA rfl rfl rfl rfl rfl rfl .nil, .cons (.same _) .nil, rfl, ?_⟩
                have hfin : ∀ z : Int, z.natAbs = nv b (dgAt b s f) → (atD (if (lim (nv b (dgAt b s f))).length ≤ 1024 then (z, 0, 0) else (0, 2, 0))) = .agg [.bool (decide ((resZ true (fitO z)).1 < 0)), numD (resZ true (fitO z)).1.natAbs, .int .i64 (resZ true (fitO z)).2, .int .i64 0] := fun z hz => by
                  by_cases hc : (lim (nv b (dgAt b s f))).length ≤ 1024
                  · rw [if_pos hc, fitO_t (by unfold fitZ; rw [hz]; exact hc)]; rfl
                  · rw [if_neg hc, fitO_f (by unfold fitZ; rw [hz]; exact hc)]; rfl
                rw [hfin _ (sgnd_abs _ _)]
                rfl
end Go.V
set_option maxHeartbeats 8000000
set_option maxRecDepth 100000
set_option synthInstance.maxSize 100000
set_option synthInstance.maxHeartbeats 2000000
namespace Go.V
open Go.RowKit Go.Proofs
theorem Zha (hD : ∀ (a b : Nat) (up : Bool), (lim a).length ≤ 1024 → 2 ≤ b → b ≤ 36 → PC C Zb6 [numD a, .int .i64 (b : Int), .bool up] (fun o => o = .ret (.str (bytesOf (bif up then (txt b a).map upN else txt b a))))) (d : Bool × List Nat) (hd : U32 d.2) (base : Int) (up : Bool) : PC C ZlK [intA d.1 d.2, .int .i64 base, .bool up] (fun o => o = .ret (.tup [.str (bytesOf (textR d base up).1), .int .i64 (textR d base up).2])) := by
  refine PC.run Zgj ZkR rfl ZkS rfl (rs := [.tmp 6, .tmp 7]) (by rw [ZkT]) (by simp only [List.length_cons, List.length_nil, Nat.reduceAdd, Nat.reduceSub, List.replicate_succ, List.replicate_zero, List.cons_append, List.nil_append]; exact rfl) ?_
  refine ARun.seq (ARun.region ?_)
  refine y_op rfl (q_boxF rfl rfl rfl rfl) ?_
  refine y_op rfl (Zaa rfl) ?_
  refine y_op rfl (Zaa rfl) ?_
  refine AOps.nil (ARun.seq (ARun.seq (ARun.region ?_)))
  refine y_op rfl (Zai rfl rfl rfl rfl rfl) ?_
  refine y_op rfl (q_call rfl rfl (Zms d)) ?_
  refine y_op rfl (q_not rfl) ?_
  refine y_op rfl (q_move rfl) ?_
  refine AOps.bool 12 rfl (fun h1 => ?_) (fun h1 => ?_)
  · skip
    have h1 : okI d = false := by simpa using h1
    refine y_skip rfl ?_
    refine y_skip rfl ?_
    refine y_op rfl (q_pick rfl rfl rfl rfl) ?_
    refine y_op rfl (q_move rfl) ?_
    refine y_skip rfl ?_
    refine y_skip rfl ?_
    refine y_op rfl (q_pick rfl rfl rfl rfl) ?_
    refine AOps.nil ?_
    refine ARun.condT rfl ?_
    refine ARun.seq (ARun.region ?_)
    refine y_op rfl (Zaa rfl) ?_
    refine y_op rfl (Zaa rfl) ?_
    refine AOps.nil ?_
    refine ARun.ret ?_
    refine ⟨_, _, _, .tmp rfl (.tmp rfl .nil), .cons (.same _) (.cons (.same _) .nil), rfl, ?_⟩
    unfold textR; rw [h1]; rfl
  · skip
    have h1 : okI d = true := by simpa using h1
    obtain ⟨z, rfl, fz⟩ := okI_int hd h1
    refine y_op rfl (q_move rfl) ?_
    refine y_op rfl (q_int rfl rfl rfl) ?_
    refine y_op rfl (q_pick rfl rfl rfl rfl) ?_
    refine y_op rfl (q_move rfl) ?_
    refine AOps.bool 16 rfl (fun h2 => ?_) (fun h2 => ?_)
    · skip
      have h2 := of_decide_eq_true h2
      refine y_skip rfl ?_
      refine y_skip rfl ?_
      refine y_op rfl (q_pick rfl rfl rfl rfl) ?_
      refine AOps.nil ?_
      refine ARun.condT rfl ?_
      refine ARun.seq (ARun.region ?_)
      refine y_op rfl (Zaa rfl) ?_
      refine y_op rfl (Zaa rfl) ?_
      refine AOps.nil ?_
      refine ARun.ret ?_
      refine ⟨_, _, _, .tmp rfl (.tmp rfl .nil), .cons (.same _) (.cons (.same _) .nil), rfl, ?_⟩
      unfold textR; rw [h1, decide_eq_false (show ¬ 2 ≤ base by omega)]; rfl
    · skip
      have h2 := of_decide_eq_false h2
      refine y_op rfl (q_move rfl) ?_
      refine y_op rfl (q_int rfl rfl rfl) ?_
      refine y_op rfl (q_pick rfl rfl rfl rfl) ?_
      refine AOps.nil ?_
      refine ARun.cond rfl (fun h3 => ?_) (fun h3 => ?_)
      · skip
        have h3 := of_decide_eq_true h3
        refine ARun.seq (ARun.region ?_)
        refine y_op rfl (Zaa rfl) ?_
        refine y_op rfl (Zaa rfl) ?_
        refine AOps.nil ?_
        refine ARun.ret ?_
        refine ⟨_, _, _, .tmp rfl (.tmp rfl .nil), .cons (.same _) (.cons (.same _) .nil), rfl, ?_⟩
        unfold textR; rw [h1, decide_eq_true (show 2 ≤ base by omega), decide_eq_false (show ¬ base ≤ 36 by omega)]; rfl
      · skip
        have h3 := of_decide_eq_false h3
        obtain ⟨b, rfl⟩ : ∃ b : Nat, base = b := ⟨base.toNat, by omega⟩
        have hb2 : 2 ≤ b := by omega
        have hb36 : b ≤ 36 := by omega
        have hR : textR (decide (z < 0), lim z.natAbs) (b : Int) up = (strZ b up z, 0) := by
          unfold textR; rw [h1, decide_eq_true (show (2 : Int) ≤ (b : Int) by omega), decide_eq_true (show (b : Int) ≤ 36 by omega), valI_int]; rfl
        rw [hR]
        have hlen := txt_len hb2 (a := z.natAbs) fz
        have hlen2 : (bif up then (txt b z.natAbs).map upN else txt b z.natAbs).length ≤ 32768 := by cases up <;> simpa using hlen
        refine ARun.skip (ARun.seq (ARun.region ?_))
        refine y_op rfl (q_fldS rfl rfl rfl (by decide)) ?_
        refine y_op rfl (q_load rfl rfl rfl rfl) ?_
        refine y_op rfl (q_move rfl) ?_
        refine y_op rfl (q_move rfl) ?_
        refine y_op rfl (q_call rfl rfl (hD z.natAbs b up fz hb2 hb36)) ?_
        refine y_op rfl (Zaa rfl) ?_
        refine AOps.nil (ARun.seq (ARun.seq (ARun.region ?_)))
        refine y_op rfl (q_fldS rfl rfl rfl (by decide)) ?_
        refine y_op rfl (q_load rfl rfl rfl rfl) ?_
        refine AOps.nil ?_
        refine ARun.cond rfl (fun h5 => ?_) (fun h5 => ?_)
        · skip
          have h5 : decide (z < 0) = true := h5
          refine ARun.seq (ARun.region ?_)
          refine y_op rfl (q_move rfl) ?_
          refine y_op rfl (Ziq rfl rfl (by rw [bytesOf_size]; show 1 + _ ≤ _; cases up <;> simp <;> omega)) ?_
          rw [show (⟨#[45]⟩ : ByteArray) ++ bytesOf (bif up then (txt b z.natAbs).map upN else txt b z.natAbs) = bytesOf (strZ b up z) by unfold strZ; rw [h5]; exact (bytesOf_append [45] _).symm]
          refine y_op rfl (Zaa rfl) ?_
          refine y_op rfl (Zaa rfl) ?_
          refine AOps.nil ?_
          refine ARun.ret ?_
          refine ⟨_, _, _, .tmp rfl (.tmp rfl .nil), .cons (.same _) (.cons (.same _) .nil), rfl, ?_⟩
          rfl
        · skip
          have h5 : decide (z < 0) = false := h5
          have e : strZ b up z = (bif up then (txt b z.natAbs).map upN else txt b z.natAbs) := by unfold strZ; rw [h5]; rfl
          rw [e]
          refine ARun.skip (ARun.seq (ARun.region ?_))
          refine y_op rfl (q_move rfl) ?_
          refine y_op rfl (Zaa rfl) ?_
          refine y_op rfl (Zaa rfl) ?_
          refine AOps.nil ?_
          refine ARun.ret ?_
          refine ⟨_, _, _, .tmp rfl (.tmp rfl .nil), .cons (.same _) (.cons (.same _) .nil), rfl, ?_⟩
          rfl
end Go.V
set_option maxHeartbeats 8000000
set_option maxRecDepth 100000
set_option synthInstance.maxSize 100000
set_option synthInstance.maxHeartbeats 2000000
namespace Go.V
open Go.RowKit Go.Proofs
theorem ZkH (hD : ∀ (a b : Nat) (up : Bool), (lim a).length ≤ 1024 → 2 ≤ b → b ≤ 36 → PC C Zb6 [numD a, .int .i64 (b : Int), .bool up] (fun o => o = .ret (.str (bytesOf (bif up then (txt b a).map upN else txt b a))))) (d : Bool × List Nat) (hd : U32 d.2) (base : Int) (up : Bool) (s : ByteArray) : PC C Zb1 [intA d.1 d.2, .int .i64 base, .bool up, .str s] (fun o => o = .ret (.bool true)) := by
  refine PC.run ZbN ZdL rfl ZdM rfl (rs := [.tmp 8]) (by rw [ZdN]) (by simp only [List.length_cons, List.length_nil, Nat.reduceAdd, Nat.reduceSub, List.replicate_succ, List.replicate_zero, List.cons_append, List.nil_append]; exact rfl) ?_
  refine ARun.seq (ARun.region ?_)
  refine y_op rfl (q_boxF rfl rfl rfl rfl) ?_
  refine y_op rfl (Zaa rfl) ?_
  refine AOps.nil (ARun.seq (ARun.seq (ARun.region ?_)))
  refine y_op rfl (Zai rfl rfl rfl rfl rfl) ?_
  refine y_op rfl (q_call rfl rfl (Zmt d 40)) ?_
  refine y_op rfl (q_not rfl) ?_
  refine y_op rfl (q_move rfl) ?_
  refine AOps.bool 20 rfl (fun g1 => ?_) (fun g1 => ?_)
  · skip
    refine y_skip rfl ?_
    refine y_skip rfl ?_
    refine y_skip rfl ?_
    refine y_skip rfl ?_
    refine y_skip rfl ?_
    refine y_skip rfl ?_
    refine y_skip rfl ?_
    refine y_skip rfl ?_
    refine y_op rfl (q_pick rfl rfl rfl rfl) ?_
    refine AOps.nil ?_
    refine ARun.condT rfl ?_
    refine ARun.seq (ARun.region ?_)
    refine y_op rfl (q_call rfl rfl (Zci)) ?_
    refine y_op rfl (Zaa rfl) ?_
    refine AOps.nil ?_
    refine ARun.ret ?_
    refine ⟨_, _, _, .tmp rfl .nil, .cons (.same _) .nil, rfl, ?_⟩
    rfl
  · skip
    refine y_op rfl (q_move rfl) ?_
    refine y_op rfl (ZaB rfl rfl) ?_
    refine y_op rfl (q_int rfl rfl rfl) ?_
    refine y_op rfl (q_move rfl) ?_
    refine AOps.bool 24 rfl (fun g2 => ?_) (fun g2 => ?_)
    · skip
      refine y_op rfl (q_move rfl) ?_
      refine y_op rfl (ZaB rfl rfl) ?_
      refine y_op rfl (q_int rfl rfl rfl) ?_
      refine y_op rfl (q_pick rfl rfl rfl rfl) ?_
      refine y_op rfl (q_pick rfl rfl rfl rfl) ?_
      refine AOps.nil ?_
      refine ARun.cond rfl (fun g3 => ?_) (fun g3 => ?_)
      · skip
        refine ARun.seq (ARun.region ?_)
        refine y_op rfl (q_call rfl rfl (Zci)) ?_
        refine y_op rfl (Zaa rfl) ?_
        refine AOps.nil ?_
        refine ARun.ret ?_
        refine ⟨_, _, _, .tmp rfl .nil, .cons (.same _) .nil, rfl, ?_⟩
        rfl
      · skip
        refine ARun.skip (ARun.seq (ARun.region ?_))
        refine y_op rfl (Zai rfl rfl rfl rfl rfl) ?_
        refine y_op rfl (q_move rfl) ?_
        refine y_op rfl (q_move rfl) ?_
        refine y_op rfl (q_call rfl rfl (Zez d hd base up)) ?_
        refine y_op rfl (q_move rfl) ?_
        refine y_op rfl (Zab rfl rfl) ?_
        refine y_op rfl (Zab rfl rfl) ?_
        refine y_op rfl (Zaa rfl) ?_
        refine y_op rfl (Zaa rfl) ?_
        refine AOps.nil (ARun.seq (ARun.region ?_))
        refine y_op rfl (Zai rfl rfl rfl rfl rfl) ?_
        refine y_op rfl (q_move rfl) ?_
        refine y_op rfl (q_move rfl) ?_
        refine y_op rfl (q_call rfl rfl (Zha hD d hd base up)) ?_
        refine y_op rfl (q_move rfl) ?_
        refine y_op rfl (Zab rfl rfl) ?_
        refine y_op rfl (Zab rfl rfl) ?_
        refine y_op rfl (Zaa rfl) ?_
        refine y_op rfl (Zaa rfl) ?_
        refine AOps.nil (ARun.seq (ARun.region ?_))
        refine y_op rfl (q_move rfl) ?_
        refine y_op rfl (q_move rfl) ?_
        refine y_op rfl (q_call rfl rfl (Zdn s base)) ?_
        refine y_op rfl (q_move rfl) ?_
        refine y_op rfl (Zab rfl rfl) ?_
        refine y_op rfl (Zab rfl rfl) ?_
        refine y_op rfl (Zab rfl rfl) ?_
        refine Zbu rfl rfl rfl rfl rfl rfl rfl rfl rfl rfl rfl ?_
        refine y_op rfl (Zaa rfl) ?_
        refine y_op rfl (Zaa rfl) ?_
        refine AOps.nil (ARun.seq (ARun.region ?_))
        refine y_op rfl (q_move rfl) ?_
        refine y_op rfl (q_move rfl) ?_
        refine y_op rfl (q_call rfl rfl (Zip s base)) ?_
        refine Zbu rfl rfl rfl rfl rfl rfl rfl rfl rfl rfl rfl ?_
        refine AOps.nil (ARun.seq (ARun.region ?_))
        refine y_op rfl (q_call rfl rfl (Zci)) ?_
        refine y_op rfl (q_move rfl) ?_
        refine y_op rfl (q_move rfl) ?_
        refine y_op rfl (q_move rfl) ?_
        refine y_op rfl (OpQ.cast (d' := .bool true) (ZmX rfl rfl) (by simp)) ?_
        refine y_op rfl (q_pick rfl rfl rfl rfl) ?_
        refine y_op rfl (q_move rfl) ?_
        refine y_op rfl (q_move rfl) ?_
        refine y_op rfl (q_move rfl) ?_
        refine y_op rfl (Zcv rfl rfl rfl) ?_
        refine y_op rfl (q_pick rfl rfl rfl rfl) ?_
        refine y_op rfl (q_move rfl) ?_
        refine y_op rfl (Zai rfl rfl rfl rfl rfl) ?_
        refine y_op rfl (q_move rfl) ?_
        refine y_op rfl (q_fldS rfl rfl rfl (by decide)) ?_
        refine y_op rfl (Zai rfl rfl rfl rfl rfl) ?_
        refine y_op rfl (q_fldS rfl rfl rfl (by decide)) ?_
        refine y_op rfl (q_load rfl rfl rfl rfl) ?_
        refine y_op rfl (Zap rfl rfl rfl rfl rfl) ?_
        refine y_op rfl (q_call rfl rfl (ZlC ((parseR base s).1, (parseR base s).2.1))) ?_
        refine y_op rfl (q_pick rfl rfl rfl rfl) ?_
        refine y_op rfl (q_move rfl) ?_
        refine y_op rfl (q_move rfl) ?_
        refine y_op rfl (q_fldS rfl rfl rfl (by decide)) ?_
        refine y_op rfl (q_load rfl rfl rfl rfl) ?_
        refine y_op rfl (Zcv rfl rfl rfl) ?_
        refine y_op rfl (q_pick rfl rfl rfl rfl) ?_
        refine y_op rfl (Zaa rfl) ?_
        refine AOps.nil ?_
        refine ARun.ret ?_
        refine ⟨_, _, _, .tmp rfl .nil, .cons (.same _) .nil, rfl, ?_⟩
        rfl
    · skip
      refine y_skip rfl ?_
      refine y_skip rfl ?_
      refine y_skip rfl ?_
      refine y_op rfl (q_pick rfl rfl rfl rfl) ?_
      refine y_op rfl (q_pick rfl rfl rfl rfl) ?_
      refine AOps.nil ?_
      refine ARun.condF rfl ?_
      refine ARun.skip (ARun.seq (ARun.region ?_))
      refine y_op rfl (Zai rfl rfl rfl rfl rfl) ?_
      refine y_op rfl (q_move rfl) ?_
      refine y_op rfl (q_move rfl) ?_
      refine y_op rfl (q_call rfl rfl (Zez d hd base up)) ?_
      refine y_op rfl (q_move rfl) ?_
      refine y_op rfl (Zab rfl rfl) ?_
      refine y_op rfl (Zab rfl rfl) ?_
      refine y_op rfl (Zaa rfl) ?_
      refine y_op rfl (Zaa rfl) ?_
      refine AOps.nil (ARun.seq (ARun.region ?_))
      refine y_op rfl (Zai rfl rfl rfl rfl rfl) ?_
      refine y_op rfl (q_move rfl) ?_
      refine y_op rfl (q_move rfl) ?_
      refine y_op rfl (q_call rfl rfl (Zha hD d hd base up)) ?_
      refine y_op rfl (q_move rfl) ?_
      refine y_op rfl (Zab rfl rfl) ?_
      refine y_op rfl (Zab rfl rfl) ?_
      refine y_op rfl (Zaa rfl) ?_
      refine y_op rfl (Zaa rfl) ?_
      refine AOps.nil (ARun.seq (ARun.region ?_))
      refine y_op rfl (q_move rfl) ?_
      refine y_op rfl (q_move rfl) ?_
      refine y_op rfl (q_call rfl rfl (Zdn s base)) ?_
      refine y_op rfl (q_move rfl) ?_
      refine y_op rfl (Zab rfl rfl) ?_
      refine y_op rfl (Zab rfl rfl) ?_
      refine y_op rfl (Zab rfl rfl) ?_
      refine Zbu rfl rfl rfl rfl rfl rfl rfl rfl rfl rfl rfl ?_
      refine y_op rfl (Zaa rfl) ?_
      refine y_op rfl (Zaa rfl) ?_
      refine AOps.nil (ARun.seq (ARun.region ?_))
      refine y_op rfl (q_move rfl) ?_
      refine y_op rfl (q_move rfl) ?_
      refine y_op rfl (q_call rfl rfl (Zip s base)) ?_
      refine Zbu rfl rfl rfl rfl rfl rfl rfl rfl rfl rfl rfl ?_
      refine AOps.nil (ARun.seq (ARun.region ?_))
      refine y_op rfl (q_call rfl rfl (Zci)) ?_
      refine y_op rfl (q_move rfl) ?_
      refine y_op rfl (q_move rfl) ?_
      refine y_op rfl (q_move rfl) ?_
      refine y_op rfl (OpQ.cast (d' := .bool true) (ZmX rfl rfl) (by simp)) ?_
      refine y_op rfl (q_pick rfl rfl rfl rfl) ?_
      refine y_op rfl (q_move rfl) ?_
      refine y_op rfl (q_move rfl) ?_
      refine y_op rfl (q_move rfl) ?_
      refine y_op rfl (Zcv rfl rfl rfl) ?_
      refine y_op rfl (q_pick rfl rfl rfl rfl) ?_
      refine y_op rfl (q_move rfl) ?_
      refine y_op rfl (Zai rfl rfl rfl rfl rfl) ?_
      refine y_op rfl (q_move rfl) ?_
      refine y_op rfl (q_fldS rfl rfl rfl (by decide)) ?_
      refine y_op rfl (Zai rfl rfl rfl rfl rfl) ?_
      refine y_op rfl (q_fldS rfl rfl rfl (by decide)) ?_
      refine y_op rfl (q_load rfl rfl rfl rfl) ?_
      refine y_op rfl (Zap rfl rfl rfl rfl rfl) ?_
      refine y_op rfl (q_call rfl rfl (ZlC ((parseR base s).1, (parseR base s).2.1))) ?_
      refine y_op rfl (q_pick rfl rfl rfl rfl) ?_
      refine y_op rfl (q_move rfl) ?_
      refine y_op rfl (q_move rfl) ?_
      refine y_op rfl (q_fldS rfl rfl rfl (by decide)) ?_
      refine y_op rfl (q_load rfl rfl rfl rfl) ?_
      refine y_op rfl (Zcv rfl rfl rfl) ?_
      refine y_op rfl (q_pick rfl rfl rfl rfl) ?_
      refine y_op rfl (Zaa rfl) ?_
      refine AOps.nil ?_
      refine ARun.ret ?_
      refine ⟨_, _, _, .tmp rfl .nil, .cons (.same _) .nil, rfl, ?_⟩
      rfl
end Go.V
set_option maxHeartbeats 4000000
set_option maxRecDepth 100000
set_option synthInstance.maxSize 100000
set_option synthInstance.maxHeartbeats 2000000
namespace Go.V
open Go.RowKit Go.Proofs
end Go.V
namespace Go.V
def sb (op : Int) (x y : Bool) : Bool := if op = 1 then x && y else if op = 2 then x || y else Bool.xor x y
def rsN (b : Bool) : Nat := bif b then 4294967295 else 0
def tw (n : Nat) (a : Int) : Nat := (a % ((B ^ n : Nat) : Int)).toNat
theorem Bn_pos (n : Nat) : 0 < B ^ n := Nat.pow_pos B_pos
theorem tw_cast (n : Nat) (a : Int) : ((tw n a : Nat) : Int) = a % ((B ^ n : Nat) : Int) := by
  have h := Bn_pos n
  have h1 := Int.emod_nonneg a (show ((B ^ n : Nat) : Int) ≠ 0 by omega)
  unfold tw; omega
def inB (n : Nat) (a : Int) : Prop := -((B ^ n : Nat) : Int) ≤ a ∧ a < ((B ^ n : Nat) : Int)
theorem inB.of {a : Int} {n : Nat} (h : (lim a.natAbs).length ≤ n) : inB n a := by
  have := ln_le_iff.1 h
  unfold inB; omega
theorem inB.tw {n : Nat} {a : Int} (h : inB n a) : ((tw n a : Nat) : Int) = a + (bif decide (a < 0) then ((B ^ n : Nat) : Int) else 0) := by
  rw [tw_cast]
  obtain ⟨h1, h2⟩ := h
  by_cases h0 : a < 0
  · rw [decide_eq_true h0, cond_true, ← Int.add_emod_right, Int.emod_eq_of_lt (by omega) (by omega)]
  · rw [decide_eq_false h0, cond_false, Int.emod_eq_of_lt (by omega) h2, Int.add_zero]
theorem inB.mono {n m : Nat} {a : Int} (h : inB n a) (hm : n ≤ m) : inB m a := by
  have := Nat.pow_le_pow_right B_pos hm
  unfold inB at *; omega
theorem inB.succ {n : Nat} {a : Int} (h : inB n a) : Go.V.tw (n + 1) a = Go.V.tw n a + B ^ n * rsN (decide (a < 0)) := by
  have h1 := h.tw
  have h2 := (h.mono (show n ≤ n + 1 by omega)).tw
  have h3 : B ^ (n + 1) = B ^ n * 4294967296 := Nat.pow_succ ..
  by_cases h0 : a < 0
  · rw [decide_eq_true h0, cond_true] at *
    show _ = _ + _ * 4294967295
    omega
  · rw [decide_eq_false h0, cond_false] at *
    show _ = _ + _ * 0
    omega
end Go.V
set_option maxHeartbeats 4000000
set_option maxRecDepth 100000
set_option synthInstance.maxSize 100000
set_option synthInstance.maxHeartbeats 2000000
namespace Go.V
open Go.RowKit Go.Proofs
theorem Fz.grow {B J : Heap} {e : TypeId} {cs : List D} {m : Nat} (hm : m = B.length + J.length) (hp : D.pure.pures cs = true) : ∃ ids, Fz (B ++ growT J e cs) (growD m cs) (.sl cs.length cs) ids := by
  subst hm
  cases cs with
  | nil => exact ⟨_, .nil⟩
  | cons c cs =>
    refine ⟨_, Fz.row (o := ⟨c :: cs, e, 1, true, none⟩) ?_ hp⟩
    show (B ++ (J ++ [_]))[B.length + J.length]? = _
    rw [List.getElem?_append_right (by omega), Nat.add_sub_cancel_left, List.getElem?_append_right (Nat.le_refl _), Nat.sub_self]
    rfl
end Go.V
set_option maxHeartbeats 4000000
set_option maxRecDepth 100000
set_option synthInstance.maxSize 100000
set_option synthInstance.maxHeartbeats 2000000
namespace Go.V
open Go.RowKit Go.Proofs
end Go.V
set_option maxHeartbeats 4000000
set_option maxRecDepth 100000
set_option synthInstance.maxSize 100000
set_option synthInstance.maxHeartbeats 2000000
namespace Go.V
open Go.RowKit Go.Proofs
end Go.V
namespace Go.V
end Go.V
set_option maxHeartbeats 4000000
set_option maxRecDepth 100000
set_option synthInstance.maxSize 100000
set_option synthInstance.maxHeartbeats 2000000
namespace Go.V
open Go.RowKit Go.Proofs
theorem ZkI (l : List Nat) (i : Nat) : PC C Zej [sln .u32 l, .int .i64 (i : Int)] (fun o => o = .ret (.int .u32 ((l.getD i 0 : Nat) : Int))) := by
  refine PC.run ZdF ZhI rfl ZhJ rfl (rs := [.tmp 4]) (by rw [ZhK]) (by simp only [List.length_cons, List.length_nil, Nat.reduceAdd, Nat.reduceSub, List.replicate_succ, List.replicate_zero, List.cons_append, List.nil_append]; exact rfl) ?_
  refine ARun.seq (ARun.region ?_)
  refine y_op rfl (Zaa rfl) ?_
  refine AOps.nil (ARun.seq (ARun.seq (ARun.region ?_)))
  refine y_op rfl (q_move rfl) ?_
  refine y_op rfl (q_move rfl) ?_
  refine y_op rfl (Zac rfl rfl) ?_
  refine y_op rfl (q_int rfl rfl rfl) ?_
  refine AOps.nil ?_
  refine ARun.ite rfl (fun h => ?_) (fun h => ?_)
  · skip
    refine ARun.seq (ARun.region ?_)
    refine y_op rfl (q_move rfl) ?_
    refine y_op rfl (q_move rfl) ?_
    refine y_op rfl (Zam (i := i) rfl rfl rfl rfl (by omega) (by omega) (nts_ne (by omega)) (drop_nat rfl)) ?_
    refine y_op rfl (q_load rfl rfl rfl (nts_load (i := i) (by omega))) ?_
    refine y_op rfl (Zaa rfl) ?_
    refine AOps.nil ?_
    refine ARun.ret ?_
    refine ⟨_, _, _, .tmp rfl .nil, .cons (.same _) .nil, rfl, ?_⟩
    rfl
  · skip
    have e : l.getD i 0 = 0 := by rw [List.getD_eq_getElem?_getD, List.getElem?_eq_none (by omega)]; rfl
    refine ARun.skip (ARun.seq (ARun.region ?_))
    refine y_op rfl (Zaa rfl) ?_
    refine AOps.nil ?_
    refine ARun.ret ?_
    refine ⟨_, _, _, .tmp rfl .nil, .cons (.same _) .nil, rfl, ?_⟩
    rw [e]; rfl
end Go.V
set_option maxHeartbeats 8000000
set_option maxRecDepth 100000
set_option synthInstance.maxSize 100000
set_option synthInstance.maxHeartbeats 2000000
namespace Go.V
open Go.RowKit Go.Proofs
theorem getJ0 {J : Heap} {x : Option AObj} : (J ++ [x])[J.length]? = some x := by simp
theorem setJ0 {J : Heap} {x y : Option AObj} : (J ++ [x]).set J.length y = J ++ [y] := by simp
theorem lim_get0 {d : Nat} (h : d < B) : (lim d).getD 0 0 = d := by
  rcases Nat.eq_zero_or_pos d with h0 | h0
  · subst h0; rw [lim_zero]; rfl
  · rw [lim_dig1 h0 h]; rfl
theorem figU_str (b a : Nat) (up : Bool) (h : 0 < a) : ((dgs b a).map (figU up)).reverse = bif up then (txt b a).map upN else txt b a := by
  unfold txt
  rw [if_neg (by omega)]
  cases up
  · rfl
  · show _ = List.map upN _
    rw [List.map_reverse, List.map_map]; rfl
theorem figU_lt (up : Bool) {d : Nat} (h : d < 36) : figU up d < 256 := by
  unfold figU fig upN; cases up <;> simp only [cond_true, cond_false] <;> (repeat' split) <;> omega
theorem Zje (a b : Nat) (up : Bool) (ha : (lim a).length ≤ 1024) (hb2 : 2 ≤ b) (hb36 : b ≤ 36) : PC C Zb6 [numD a, .int .i64 (b : Int), .bool up] (fun o => o = .ret (.str (bytesOf (bif up then (txt b a).map upN else txt b a)))) := by
  have hfit := dgs_fit hb2 ha
  refine PC.run Zc5 Zgz rfl ZgA rfl (rs := [.tmp 6]) (by rw [ZgB]) (by simp only [List.length_cons, List.length_nil, Nat.reduceAdd, Nat.reduceSub, List.replicate_succ, List.replicate_zero, List.cons_append, List.nil_append]; exact rfl) ?_
  refine ARun.seq (ARun.region ?_)
  refine y_op rfl (Zaa rfl) ?_
  refine AOps.nil (ARun.seq (ARun.seq (ARun.region ?_)))
  refine y_op rfl (q_move rfl) ?_
  refine y_op rfl (Zac rfl rfl) ?_
  refine y_op rfl (q_int rfl rfl rfl) ?_
  refine AOps.nil ?_
  refine ARun.ite rfl (fun h => ?_) (fun h => ?_)
  · skip
    have h0 : a = 0 := by
      rcases Nat.eq_zero_or_pos a with h0 | h0
      · exact h0
      · exfalso; rw [lim_pos (by omega), List.length_cons] at h; omega
    subst h0
    refine ARun.seq (ARun.region ?_)
    refine y_op rfl (Zaa rfl) ?_
    refine AOps.nil ?_
    refine ARun.ret ?_
    refine ⟨_, _, _, .tmp rfl .nil, .cons (.same _) .nil, rfl, ?_⟩
    cases up <;> rfl
  · skip
    have hpos : 0 < a := by
      rcases Nat.eq_zero_or_pos a with h0 | h0
      · subst h0; exfalso; apply h; rw [lim_zero]; rfl
      · exact h0
    refine ARun.skip (ARun.seq (ARun.region ?_))
    refine y_op rfl (Zaa rfl) ?_
    refine AOps.nil (ARun.seq (ARun.block ?_))
    refine ARun.hp (H' := growT [] Zcj (nts .u8 (([] : List Nat).map (figU up)))) rfl ?_
    refine ARun.loopI (S := Nat × List Nat × Heap) (fun σ : Nat × List Nat × Heap => [(8, .any), (14, .any), (15, .any), (16, .any), (17, .any), (18, .any), (19, .any), (20, .any), (21, .any), (22, .any), (23, .any), (24, .any), (25, .any), (26, .any), (27, .any), (28, .any), (29, .any), (30, .any), (31, .any), (32, .any), (0, numD σ.1), (7, growD (0 + σ.2.2.length) (nts .u8 (σ.2.1.map (figU up))))]) (fun σ : Nat × List Nat × Heap => growT σ.2.2 Zcj (nts .u8 (σ.2.1.map (figU up)))) (fun σ : Nat × List Nat × Heap => dgs b a = σ.2.1 ++ dgs b σ.1 ∧ (lim σ.1).length ≤ 1024) (fun σ : Nat × List Nat × Heap => σ.1) ((a, [], [])) ?_ ?_ ?_ ?_
    · exact ⟨rfl, ha⟩
    · (repeat' first | exact envLe_nil | apply envLe_any | apply envLe_same)
    · rfl
    rintro ⟨v, L, J⟩ hinv ih
    dsimp only at hinv ih ⊢
    obtain ⟨hL, hv⟩ := hinv
    refine ARun.seq (ARun.seq (ARun.region ?_))
    refine y_op rfl (q_move rfl) ?_
    refine y_op rfl (Zac rfl rfl) ?_
    refine y_op rfl (q_int rfl rfl rfl) ?_
    refine AOps.nil ?_
    refine ARun.ite rfl (fun g => ?_) (fun g => ?_)
    · skip
      have hv0 : 0 < v := by
        rcases Nat.eq_zero_or_pos v with h0 | h0
        · subst h0; exfalso; rw [lim_zero] at g; exact absurd g (by decide)
        · exact h0
      have hd := dgs_pos hb2 hv0
      have hvb : v % b < b := Nat.mod_lt _ (by omega)
      have hlen : L.length + 1 ≤ 32768 := by
        have := congrArg List.length hL
        rw [hd, List.length_append, List.length_cons] at this
        omega
      have hnl : (nts .u8 (L.map (figU up))).length = L.length := by rw [nts_length, List.length_map]
      have hel : PC C Zej [numD (v % b), .int .i64 0] (fun o => o = .ret (.int .u32 ((v % b : Nat) : Int))) := (ZkI (lim (v % b)) 0).mono fun o ho => by rw [ho, lim_get0 (by rw [B_eq]; omega)]
      refine ARun.skip (ARun.block (ARun.seq (ARun.region ?_)))
      refine y_op rfl (q_move rfl) ?_
      refine y_op rfl (q_move rfl) ?_
      refine y_op rfl (q_conv rfl rfl rfl (show _ = (b : Int) by rw [IntKind.wrap_u32]; omega)) ?_
      refine y_op rfl (OpQ.cast (ZaE rfl rfl rfl rfl rfl rfl rfl rfl rfl rfl rfl (by decide) (by decide) rfl) (numD_dig1 (b := b) (by omega) (by rw [B_eq]; omega))) ?_
      refine y_op rfl (q_call rfl rfl (ZnL v b (by omega) (by rw [lim_dig1 (by omega) (by rw [B_eq]; omega)]; show 1 ≤ _; decide) (by omega))) ?_
      refine Zbu rfl rfl rfl rfl rfl rfl rfl rfl rfl rfl rfl ?_
      refine AOps.nil (ARun.seq (ARun.region ?_))
      refine y_op rfl (q_move rfl) ?_
      refine y_op rfl (q_fldS rfl rfl rfl (by decide)) ?_
      refine y_op rfl (q_load rfl rfl rfl rfl) ?_
      refine y_op rfl (q_call rfl rfl (hel)) ?_
      refine y_op rfl (q_conv rfl rfl rfl (show _ = ((v % b : Nat) : Int) by rw [IntWalk.i64_in _ (by omega)])) ?_
      refine y_op rfl (q_move rfl) ?_
      refine y_op rfl (q_call rfl rfl (Zls (v % b) (by omega) up)) ?_
      refine y_op rfl (ZaE rfl rfl rfl rfl rfl rfl rfl rfl rfl rfl rfl (by decide) (by decide) rfl) ?_
      refine Zna (dx := .int .u8 ((figU up (v % b) : Nat) : Int)) rfl rfl rfl rfl rfl rfl rfl rfl rfl (by show (_ + 1) * 1 ≤ _; omega) (by omega) (fun J' => ?_)
      rw [show nts .u8 (L.map (figU up)) ++ [D.int .u8 ((figU up (v % b) : Nat) : Int)] = nts .u8 ((L ++ [v % b]).map (figU up)) by simp [nts]]
      refine y_op rfl (Zaa rfl) ?_
      refine AOps.nil (ARun.region ?_)
      refine y_op rfl (q_fldS rfl rfl rfl (by decide)) ?_
      refine y_op rfl (q_load rfl rfl rfl rfl) ?_
      refine y_op rfl (Zaa rfl) ?_
      refine AOps.nil (ARun.inBlock ?_)
      refine ARun.again (ih ((v / b, L ++ [v % b], J')) ?_ ?_) ?_ ?_
      · exact ⟨by dsimp only; rw [hL, hd, List.append_assoc]; rfl, Nat.le_trans (ln_mono (Nat.div_le_self v b)) hv⟩
      · exact Nat.div_lt_self hv0 (by omega)
      · (repeat' first | exact envLe_nil | apply envLe_any | apply envLe_same)
      · rfl
    · skip
      have hv0 : v = 0 := by
        rcases Nat.eq_zero_or_pos v with h0 | h0
        · exact h0
        · exfalso; apply g; rw [lim_pos (by omega), List.length_cons]; omega
      subst hv0
      rw [dgs_zero, List.append_nil] at hL
      subst hL
      rw [← figU_str b a up hpos]
      have hne : (dgs b a).map (figU up) ≠ [] := by rw [dgs_pos hb2 hpos]; simp
      have hln : ((dgs b a).map (figU up)).length ≤ 32768 := by simpa using hfit
      have hu8 : ∀ x ∈ (dgs b a).map (figU up), x < 256 := by
        intro x hx
        obtain ⟨d, hd, rfl⟩ := List.mem_map.1 hx
        have := dgs_lt hb2 a d hd
        exact figU_lt up (by omega)
      generalize (dgs b a).map (figU up) = X at *
      obtain ⟨x, l, rfl⟩ := List.exists_cons_of_ne_nil hne
      rw [show growD (0 + J.length) (nts .u8 (x :: l)) = D.row J.length (x :: l).length by simp [growD, nts]]
      refine ARun.hp (H' := J ++ [rowB (x :: l)]) (by simp [growT, nts]) ?_
      refine ARun.exit rfl ?_
      refine ARun.seq (ARun.seq (ARun.region ?_))
      refine y_op rfl (Zaa rfl) ?_
      refine AOps.nil (ARun.block ?_)
      refine ARun.loopI (S := Nat × List Nat) (fun σ : Nat × List Nat => [(10, .any), (33, .any), (34, .any), (35, .any), (36, .any), (37, .any), (38, .any), (39, .any), (40, .any), (41, .any), (42, .any), (43, .any), (44, .any), (45, .any), (46, .any), (47, .any), (48, .any), (49, .any), (50, .any), (51, .any), (52, .any), (53, .any), (54, .any), (55, .any), (56, .any), (57, .any), (58, .any), (59, .any), (60, .any), (61, .any), (62, .any), (9, .int .i64 (σ.1 : Int))]) (fun σ : Nat × List Nat => J ++ [rowB σ.2]) (fun σ : Nat × List Nat => RevI (x :: l) σ.2 σ.1) (fun σ : Nat × List Nat => (x :: l).length - σ.1) ((0, x :: l)) ?_ ?_ ?_ ?_
      · exact RevI.start (x :: l)
      · (repeat' first | exact envLe_nil | apply envLe_any | apply envLe_same)
      · rfl
      rintro ⟨i, ys⟩ hinv ih
      dsimp only at hinv ih ⊢
      have hl := hinv.l
      have hh := hinv.h
      have hu8' := hu8
      refine ARun.seq (ARun.seq (ARun.region ?_))
      refine y_op rfl (q_move rfl) ?_
      refine y_op rfl (q_move rfl) ?_
      refine y_op rfl (ZaI rfl getJ0 rfl) ?_
      refine y_op rfl (q_quo rfl rfl (by omega) (nquo_i64 (n := 2) rfl (by omega))) ?_
      refine y_op rfl (q_int rfl rfl rfl) ?_
      refine AOps.nil ?_
      refine ARun.ite rfl (fun q => ?_) (fun q => ?_)
      · skip
        obtain ⟨j, hj⟩ : ∃ j : Nat, j + i + 1 = (x :: l).length := ⟨(x :: l).length - 1 - i, by omega⟩
        have hij : i < j := by omega
        refine ARun.skip (ARun.seq (ARun.block (ARun.seq (ARun.region ?_))))
        refine y_op rfl (q_move rfl) ?_
        refine y_op rfl (q_move rfl) ?_
        refine y_op rfl (Zal rfl rfl rfl rfl getJ0 (by omega) (by omega) (idx_nat rfl)) ?_
        refine y_op rfl (Zaf rfl rfl rfl getJ0 (nts_get (xs := ys) (i := i) (by omega))) ?_
        refine y_op rfl (Zaa rfl) ?_
        refine AOps.nil (ARun.seq (ARun.region ?_))
        refine y_op rfl (q_move rfl) ?_
        refine y_op rfl (q_move rfl) ?_
        refine y_op rfl (q_move rfl) ?_
        refine y_op rfl (q_move rfl) ?_
        refine y_op rfl (ZaI rfl getJ0 rfl) ?_
        refine y_op rfl (q_sub rfl rfl (show _ = (((x :: l).length - 1 : Nat) : Int) by rw [IntWalk.i64_in _ (by omega)]; omega)) ?_
        refine y_op rfl (q_move rfl) ?_
        refine y_op rfl (q_sub rfl rfl (show _ = (j : Int) by rw [IntWalk.i64_in _ (by omega)]; omega)) ?_
        refine y_op rfl (Zal rfl rfl rfl rfl getJ0 (by omega) (by omega) (idx_nat rfl)) ?_
        refine y_op rfl (Zaf rfl rfl rfl getJ0 (nts_get (xs := ys) (i := j) (by omega))) ?_
        refine y_op rfl (Zal rfl rfl rfl rfl getJ0 (by omega) (by omega) (idx_nat rfl)) ?_
        refine y_new rfl (Zag (pl := ⟨setJ0⟩) (ob := ⟨nts .u8 ys, Zcj, 1, true, none⟩) (cs := nts .u8 (ys.set i (ys.getD j 0))) rfl rfl rfl rfl getJ0 rfl (by simp; omega) nts_set) ?_
        refine AOps.nil (ARun.region ?_)
        refine y_op rfl (q_move rfl) ?_
        refine y_op rfl (q_move rfl) ?_
        refine y_op rfl (ZaI rfl getJ0 rfl) ?_
        refine y_op rfl (q_sub rfl rfl (show _ = (((x :: l).length - 1 : Nat) : Int) by rw [IntWalk.i64_in _ (by omega)]; omega)) ?_
        refine y_op rfl (q_move rfl) ?_
        refine y_op rfl (q_sub rfl rfl (show _ = (j : Int) by rw [IntWalk.i64_in _ (by omega)]; omega)) ?_
        refine y_op rfl (q_move rfl) ?_
        refine y_op rfl (Zal rfl rfl rfl rfl getJ0 (by omega) (by omega) (idx_nat rfl)) ?_
        refine y_new rfl (Zag (pl := ⟨setJ0⟩) (ob := ⟨nts .u8 (ys.set i (ys.getD j 0)), Zcj, 1, true, none⟩) (cs := nts .u8 ((ys.set i (ys.getD j 0)).set j (ys.getD i 0))) rfl rfl rfl rfl getJ0 rfl (by simp; omega) nts_set) ?_
        refine AOps.nil (ARun.inBlock (ARun.region ?_))
        refine y_op rfl (q_move rfl) ?_
        refine y_op rfl (q_add rfl rfl (nadd1_i64 (by omega))) ?_
        refine y_op rfl (Zaa rfl) ?_
        refine AOps.nil ?_
        refine ARun.again (ih ((i + 1, (ys.set i (ys.getD j 0)).set j (ys.getD i 0))) ?_ ?_) ?_ ?_
        · exact hinv.step hij hj
        · (dsimp only; omega)
        · (repeat' first | exact envLe_nil | apply envLe_any | apply envLe_same)
        · rfl
      · skip
        have hy : ys = (x :: l).reverse := hinv.fin (by omega)
        subst hy
        refine ARun.exit rfl ?_
        refine ARun.seq (ARun.region ?_)
        refine y_op rfl (q_move rfl) ?_
        refine y_op rfl (Zij (n := (x :: l).length) (l := (x :: l).reverse) rfl (by kernel_rfl) rfl rfl (srcD_row (o := ⟨nts .u8 (x :: l).reverse, Zcj, 1, true, none⟩) getJ0) (by simp)) ?_
        refine y_op rfl (Zaa rfl) ?_
        refine AOps.nil ?_
        refine ARun.ret ?_
        refine ⟨_, _, _, .tmp rfl .nil, .cons (.same _) .nil, rfl, ?_⟩
        rfl
end Go.V
namespace Go.V
open Go.RowKit Go.Proofs
theorem Zmx (d : Bool × List Nat) (hd : U32 d.2) (base : Int) (up : Bool) (s : ByteArray) : PC C Zb1 [intA d.1 d.2, .int .i64 base, .bool up, .str s] (fun o => o = .ret (.bool true)) :=
  ZkH (fun a b up ha h2 h36 => Zje a b up ha h2 h36) d hd base up s
end Go.V
/- THE ROWS: what the arguments read as, and what is left behind a call. -/
set_option maxRecDepth 100000
namespace Go.V
open Go.RowKit Go.Proofs Go.ChangeShapes Go.WideShapes Go.ChangeAt Go.ChangeMaps
theorem laidOutZ : laidOutB Tryz.prog = true := by kernel_rfl
theorem ownZ : ownKnob Tryz.prog.godebug = none := by kernel_rfl
theorem cell_lt {w : World} {a : Addr} {v : Value} (h : w.cell? a = some v) : a.block < w.heap.size := by
  apply Classical.byContradiction
  intro hn
  have : w.heap[a.block]? = none := by rw [Array.getElem?_eq_none_iff]; omega
  simp [World.cell?, this] at h
theorem SR0 (W : World) : SR C (fun _ => False) W [] [] :=
  ⟨rfl, fun i o b h => by simp at h, fun i j oi oj b h => by simp at h, fun i o b h => by simp at h, fun b h => h.elim, fun g cs h => by cases h⟩
theorem forb0 : forb (fun _ => False) [] [] = fun _ => False := by
  funext b
  apply propext
  constructor
  · rintro (h | ⟨i, o, h, _⟩)
    · exact h
    · simp at h
  · exact fun h => h.elim
section
variable {H : Type} {enc : TypeId × Value → H} {W : World}
theorem vr_limbs {fuel : Nat} {cs : List Value} {x : DataW H × List MemPlace} (h : DataW.trod enc Tryz.prog W 0 (fun _ => true) true fuel 23 cs = some x) :
    ∃ (v : Value) (xs : List Nat), cs = [v] ∧ U32 xs ∧ VR W (fun _ => False) [] [] (sln .u32 xs) v := by
  rcases open_ints Tryz.underlying23 Tryz.underlying54 (by kernel_rfl) h with ⟨rfl, _⟩ | ⟨a, len, cap, zs, rfl, _, hl, hm, hz, _, hcell, hwf⟩
  · refine ⟨_, [], rfl, fun _ h => (by cases h), ?_⟩
    simp only [VR]
    exact ⟨none, 0, rfl, Nat.le_refl _, Nat.zero_le _, fun h => (h rfl).elim⟩
  · simp only [if_true] at hz
    have hb : ∀ n ∈ zs, 0 ≤ n ∧ n < 4294967296 := by
      intro n hn
      have := hwf n hn
      simp [Lit.wf, IntKind.min, IntKind.max, IntKind.signed, IntKind.bits] at this
      omega
    have hu : U32 ((zs.take len).map Int.toNat) := by
      intro y hy
      obtain ⟨n, hn, rfl⟩ := List.mem_map.1 hy
      have := hb n (List.mem_of_mem_take hn)
      show n.toNat < 4294967296
      omega
    have hlen : ((zs.take len).map Int.toNat).length = len := by rw [List.length_map, List.length_take]; omega
    refine ⟨_, (zs.take len).map Int.toNat, rfl, hu, ?_⟩
    have hget : ∀ j : Nat, j < len → nts .u32 ((zs.take len).map Int.toNat) = nts .u32 ((zs.take len).map Int.toNat) → ((nts .u32 ((zs.take len).map Int.toNat))[j]? = some (.int .u32 (zs.getD j 0))) := by
      intro j hj _
      have hjz : j < zs.length := by omega
      have hn := hb (zs[j]'hjz) (List.getElem_mem hjz)
      simp only [nts, List.map_map, List.getElem?_map, List.getElem?_take, if_pos hj, List.getElem?_eq_getElem hjz, Option.map_some, Function.comp, List.getD_eq_getElem?_getD, Option.getD_some]
      congr 2
      omega
    simp only [VR]
    refine ⟨some a, cap, by rw [hlen], by rw [hlen]; exact hl, hm, fun hne => ⟨a, rfl, ?_, id, VRL_mk fun j d hd => ?_⟩⟩
    · have h0 : 0 < zs.length := by
        rcases Nat.eq_zero_or_pos zs.length with h | h
        · have : zs = [] := List.eq_nil_of_length_eq_zero h
          subst this
          simp [nts] at hne
        · exact h
      exact cell_lt (hcell 0 h0)
    · have hj : j < len := by
        have := (List.getElem?_eq_some_iff.1 hd).1
        simp only [nts, List.length_map, List.length_take] at this
        omega
      rw [hget j hj rfl] at hd
      injection hd with hd
      subst hd
      exact ⟨_, by rw [Nat.zero_add]; exact hcell j (by omega), rfl, by simp only [VR]⟩
theorem vr_Int {base : Nat} {v : Value} {d : DataW H} {p : List MemPlace} (hv : Value.okWide Tryz.prog W .any base 25 v) (h : DataW.Trod enc Tryz.prog W 0 (fun _ => true) true 25 v d p) :
    ∃ e : Bool × List Nat, U32 e.2 ∧ VR W (fun _ => False) [] [] (.agg [.bool e.1, sln .u32 e.2]) v := by
  obtain ⟨cs, rfl, hsz⟩ := okWide_struct Tryz.underlying25 hv
  obtain ⟨fuel, hf⟩ := h
  obtain ⟨y0, y1, n, _, hl, h0, h1⟩ := trod_struct2 Tryz.underlying25 hf
  have c25 : Tryz.prog.cellsOf 25 = 2 := by kernel_rfl
  have c4 : Tryz.prog.cellsOf 4 = 1 := by kernel_rfl
  have c23 : Tryz.prog.cellsOf 23 = 1 := by kernel_rfl
  rw [c25] at hsz
  obtain ⟨l⟩ := cs
  match l, hsz with
  | [c0, c1], _ =>
    simp only [Value.cells] at h0 h1
    rw [c4] at h0
    rw [c23] at h1
    obtain ⟨b, e0, _⟩ := DataW.trod_bool Tryz.underlying4 h0
    obtain ⟨v1, xs, e1, hu, hx⟩ := vr_limbs h1
    simp at e0 e1
    subst e0; subst e1
    refine ⟨(b, xs), hu, ?_⟩
    simp only [VR, VRs]
    refine ⟨[.bool b, c1], rfl, .bool b, [c1], rfl, rfl, c1, [], rfl, ?_, rfl⟩
    simpa only [VR] using hx
theorem vr_int {base : Nat} {v : Value} {d : DataW H} {p : List MemPlace} (hv : Value.okWide Tryz.prog W .any base 3 v) (h : DataW.Trod enc Tryz.prog W 0 (fun _ => true) true 3 v d p) :
    ∃ n : Int, -9223372036854775808 ≤ n ∧ n ≤ 9223372036854775807 ∧ VR W (fun _ => False) [] [] (.int .i64 n) v := by
  obtain ⟨n, rfl, _, _, hw⟩ := open_int Tryz.underlying3 hv h
  simp [Lit.wf, IntKind.min, IntKind.max, IntKind.signed, IntKind.bits] at hw
  exact ⟨n, by omega, by omega, by simp only [VR]⟩
theorem vr_bool {base : Nat} {v : Value} {d : DataW H} {p : List MemPlace} (hv : Value.okWide Tryz.prog W .any base 4 v) (h : DataW.Trod enc Tryz.prog W 0 (fun _ => true) true 4 v d p) :
    ∃ b : Bool, VR W (fun _ => False) [] [] (.bool b) v := by
  obtain ⟨b, rfl, _, _⟩ := open_bool Tryz.underlying4 hv h
  exact ⟨b, by simp only [VR]⟩
theorem vr_string {base : Nat} {v : Value} {d : DataW H} {p : List MemPlace} (hv : Value.okWide Tryz.prog W .any base 9 v) (h : DataW.Trod enc Tryz.prog W 0 (fun _ => true) true 9 v d p) :
    ∃ s : ByteArray, s.size ≤ maxLen ∧ VR W (fun _ => False) [] [] (.str s) v := by
  obtain ⟨s, rfl, _, _, hs⟩ := open_string Tryz.underlying9 hv h
  exact ⟨s, hs, by simp only [VR]⟩
theorem trodAll_stays {W' : World} (hb : Below W.heap.size W W') {sp : Nat → Bool} : ∀ {ts : List TypeId} {vs : List Value} {ds : List (DataW H)} {p : List MemPlace}, (∀ t ∈ ts, Tryz.prog.readableRec t = true ∧ t < Tryz.prog.types.size) →
    DataW.TrodAll enc Tryz.prog W 0 (fun _ => true) true ts vs ds p → (∀ x ∈ p, x.block < W.heap.size ∧ sp x.block = true) → DataW.TrodAll enc Tryz.prog W' 0 sp true ts vs ds p
  | [], _, _, _, _, h, _ => by
    obtain ⟨rfl, rfl, rfl⟩ := trodAll_nil h
    simp [DataW.TrodAll]
  | t :: ts, _, _, _, ht, h, hp => by
    obtain ⟨v, vs, d, ds, a, b, rfl, rfl, rfl, h1, h2⟩ := trodAll_cons h
    obtain ⟨r1, r2⟩ := ht t (List.mem_cons_self ..)
    exact ⟨a, b, WideElems.Trod_stays laidOutZ r1 r2 h1 (fun x hx => hb.same (hp x (List.mem_append_left _ hx)).1) (fun x hx => (hp x (List.mem_append_left _ hx)).2),
      trodAll_stays hb (fun t ht' => ht t (List.mem_cons_of_mem _ ht')) h2 (fun x hx => hp x (List.mem_append_right _ hx)), rfl⟩
theorem law_post {fn : Func} {s : ChangeSpec} {W' : World} {args : Array Value} {ds : List (DataW H)} {before : List MemPlace} (hs : s.vars = []) (hW : DataW.Whole enc Tryz.prog fn.params.toList s.vars false W args.toList ds [] before) (hf : s.fn H ds = { results := [.lit (.bool true)], args := ds })
    (hr : fn.resultTypes = #[4]) (hts : ∀ t ∈ fn.params.toList, Tryz.prog.readableRec t = true ∧ t < Tryz.prog.types.size) (hb : Below W.heap.size W W') : s.post enc Tryz.prog fn false true false false W args (.bool true) W' := by
  have hW' := hW
  obtain ⟨p, q, hA, hV, rfl, _, _⟩ := hW
  rw [hs] at hV
  obtain ⟨_, rfl⟩ := trodVars_none hV
  have hlt : ∀ x ∈ p, x.block < W.heap.size := fun x hx => by simpa using hW'.lt x (List.mem_append_left _ hx)
  refine ⟨ds, [], p ++ [], [], p, [], hW', ?_, ?_, ?_, hb.frame _, fun h => by cases h⟩
  · rw [List.append_nil, hf, hr]
    exact trodAll_mk1 (shut_bool Tryz.underlying4 _)
  · rw [List.append_nil, hf]
    exact trodAll_stays hb hts hA fun x hx => ⟨hlt x hx, by simpa using hlt x hx⟩
  · rw [List.append_nil, hf, hs]
    rfl
end
theorem law_calls {f : FuncId} {ds : List D} {W : World} {vs : List Value} (hc : PC C f ds (fun o => o = .ret (.bool true))) (hv : VRs W (fun _ => False) [] [] ds vs) : Calls Tryz.prog f vs.toArray W fun e W' => e = .returned (.bool true) ∧ Below W.heap.size W W' := by
  have h := (hc []).2 (fun _ => False) W [] vs (SR0 W) (by rw [forb0]; exact hv)
  refine h.mono ?_
  rintro e W' ⟨o, H', μ', ⟨rfl, rfl⟩, _, ⟨v, he, hv'⟩, hevo⟩
  simp only [VR] at hv'
  subst hv'
  exact ⟨he, hevo.os, hevo.tape, hevo.output, hevo.size, fun k hk => hevo.chg k hk fun ⟨i, o, h, _⟩ => by simp at h⟩
end Go.V
/- The closed facts of a row, one by one: what holds of the program itself, and how they are joined; no condition. -/
set_option maxRecDepth 100000
namespace Go.V
open Go.Proofs
theorem and_t {a b : Bool} (h1 : a = true) (h2 : b = true) : (a && b) = true := by rw [h1, h2]; rfl
theorem joined_of {P : Program} {f : FuncId} {fn : Func} {s : ChangeSpec} {c : OpenClaim}
    (k1 : (c.wf (OpenSpec.ofChange s)) = true)
    (k2 : (laidOutB P) = true)
    (k3 : (mapsRowed P) = true)
    (k4 : (fn.params.all (P.readableRec ·)) = true)
    (k5 : (namedTie P c.named s.vars) = true)
    (k6 : (c.stops == []) = true)
    (k7 : (P.stops == []) = true)
    (k8 : (c.knobs == []) = true)
    (k9 : (P.stopKnobs == []) = true)
    (k10 : (c.inPlace == P.inPlace f) = true)
    (k11 : (c.unfollowed == P.unfollowed f) = true)
    (k12 : (c.recurses == P.recurses f) = true)
    (k13 : (c.named == P.varsNamed f) = true)
    (k14 : ((c.maps == (fn.params.toList ++ s.plain.varTypes P).any (P.mapsRec ·))) = true)
    (k15 : ((c.ifaces == (fn.params.toList ++ s.plain.varTypes P).any (P.ifacesRec ·))) = true)
    (k16 : (c.mapsOut == P.mapsAmong fn.resultTypes.toList) = true)
    (k17 : ((c.loops == (fn.params.toList ++ s.plain.varTypes P).any (P.loopsFrom ·))) = true)
    (k18 : ((c.wideKeys == (fn.params.toList ++ s.plain.varTypes P ++ fn.resultTypes.toList).any (P.wideKeysFrom ·))) = true)
    (k19 : (s.vars.all (P.varReadable ·)) = true)
    (k20 : (fn.resultTypes.all (fun t => P.readableRec t && decide (t < P.types.size))) = true)
    (k21 : ((c.ifacesOut == fn.resultTypes.toList.any (P.ifacesRec ·))) = true)
    (k22 : ((c.loopsOut == fn.resultTypes.toList.any (P.loopsFrom ·))) = true)
    (k23 : (c.plainKeys == P.plainKeys) = true)
    (k24 : (c.shortTexts.isNone) = true)
    (k25 : (P.stopsHeard) = true)
    (k26 : (P.mayEnter) = true)
    (k27 : (c.lifted == P.liftsFinal) = true)
    (k28 : (P.make == some c.make) = true)
    (k29 : ((c.kinds == (if c.domain.isEmpty then [] else fn.params.toList.map fun t => match P.underlying t with | some (.int k) => some k | _ => none))) = true)
    (k30 : (c.pinned == c.pinnedBy) = true)
    (k31 : ((c.veiled == (fn.params.toList ++ s.plain.varTypes P ++ fn.resultTypes.toList).any (P.veiledRec ·))) = true)
    (k32 : (c.veiledFits P fn.params.toList (fn.params.toList ++ s.plain.varTypes P ++ fn.resultTypes.toList)) = true)
    : joinedFacts P f fn s c = true := by
  unfold joinedFacts
  exact and_t (and_t (and_t (and_t (and_t (and_t (and_t (and_t (and_t (and_t (and_t (and_t (and_t (and_t (and_t (and_t (and_t (and_t (and_t (and_t (and_t (and_t (and_t (and_t (and_t (and_t (and_t (and_t (and_t (and_t (and_t k1 k2) k3) k4) k5) k6) k7) k8) k9) k10) k11) k12) k13) k14) k15) k16) k17) k18) k19) k20) k21) k22) k23) k24) k25) k26) k27) k28) k29) k30) k31) k32
theorem z_maps : mapsRowed Tryz.prog = true := by kernel_rfl
theorem z_plainKeys : (Go.Proofs.YtjohcjagbodicaaGreatDoor.Rows.wholeSumsRow.plainKeys == Tryz.prog.plainKeys) = true := by kernel_rfl
theorem z_stopsHeard : Tryz.prog.stopsHeard = true := by kernel_rfl
theorem z_lifts : (Go.Proofs.YtjohcjagbodicaaGreatDoor.Rows.wholeSumsRow.lifted == Tryz.prog.liftsFinal) = true := by kernel_rfl
theorem z_make : (Tryz.prog.make == some Go.Proofs.YtjohcjagbodicaaGreatDoor.Rows.wholeSumsRow.make) = true := by kernel_rfl
theorem z_main : YtjohcjagbodicaaGreatDoor.Tryz.pinned.checked.prog.mainIs = some (true, "5b8a1e8da34a88fc5bd34c331ad38cb7b46866bf85af6ffc6bc920dabf7d6da1".toList) := by kernel_rfl
theorem z_looks : true = Tryz.prog.looks [] := by kernel_rfl
theorem z_enter : Tryz.prog.mayEnter = true := by kernel_rfl
end Go.V
namespace Go.V
theorem nv_dgs {b : Nat} (hb : 2 ≤ b) (a : Nat) : nv b (dgs b a).reverse = a := by
  induction a using Nat.strongRecOn with
  | _ a ih =>
    rcases Nat.eq_zero_or_pos a with h0 | h0
    · subst h0; rw [dgs_zero]; rfl
    · rw [dgs_pos hb h0, List.reverse_cons, nv_snoc, ih _ (Nat.div_lt_self h0 (by omega))]
      exact Nat.div_add_mod' a b
def digs (b a : Nat) : List Nat := if a = 0 then [0] else (dgs b a).reverse
theorem digs_nv {b : Nat} (hb : 2 ≤ b) (a : Nat) : nv b (digs b a) = a := by
  unfold digs; split
  · rename_i h; subst h; simp [nv]
  · exact nv_dgs hb a
theorem digs_lt {b : Nat} (hb : 2 ≤ b) (a : Nat) : ∀ d ∈ digs b a, d < b := by
  unfold digs; split
  · intro d hd; rw [List.mem_singleton] at hd; omega
  · intro d hd; exact dgs_lt hb a d (List.mem_reverse.1 hd)
theorem digs_pos {b : Nat} (hb : 2 ≤ b) (a : Nat) : 0 < (digs b a).length := by
  unfold digs; split
  · exact Nat.one_pos
  · rw [dgs_pos hb (by omega)]; simp
theorem txt_digs (b a : Nat) : txt b a = (digs b a).map fig := by
  unfold txt digs; split
  · rfl
  · rw [List.map_reverse]
theorem digV_fig {d : Nat} (h : d < 36) : digV (fig d) = d := by unfold fig digV; (repeat' split) <;> omega
theorem digV_up {d : Nat} (h : d < 36) : digV (upN (fig d)) = d := by unfold fig digV upN; (repeat' split) <;> omega
theorem fig_lt {d : Nat} (h : d < 36) : fig d < 256 := by unfold fig; split <;> omega
theorem up_lt {d : Nat} (h : d < 36) : upN (fig d) < 256 := by unfold fig upN; (repeat' split) <;> omega
theorem sby_bytesOf {l : List Nat} (h : ∀ c ∈ l, c < 256) : sby (bytesOf l) = l := by
  unfold sby bytesOf
  simp only [List.map_map]
  conv => rhs; rw [← List.map_id l]
  apply List.map_congr_left
  intro c hc
  show (UInt8.ofNat c).toNat = c
  rw [UInt8.toNat_ofNat']
  have := h c hc
  omega
theorem takeWhile_all {α : Type} {p : α → Bool} : ∀ (l : List α), (∀ c ∈ l, p c = true) → l.takeWhile p = l
  | [], _ => rfl
  | c :: l, h => by rw [List.takeWhile_cons, if_pos (h c (List.mem_cons_self ..)), takeWhile_all l fun x hx => h x (List.mem_cons_of_mem _ hx)]
theorem parse_ok {b : Nat} (hb2 : 2 ≤ b) (hb36 : b ≤ 36) (neg : Bool) (T : List Nat) (hT : ∀ c ∈ T, digV c < b) (hne : 0 < T.length) (hlen : T.length ≤ 19999) (hc : ∀ c ∈ T, c < 256) (hfit : (lim (nv b (T.map digV))).length ≤ 1024) :
    parseR (b : Int) (bytesOf ((bif neg then [45] else []) ++ T)) = (sgnd neg (nv b (T.map digV)), 0, 0) := by
  have hS : sby (bytesOf ((bif neg then [45] else []) ++ T)) = (bif neg then [45] else []) ++ T := by
    apply sby_bytesOf
    intro c h
    rcases List.mem_append.1 h with h | h
    · cases neg
      · cases h
      · have : c = 45 := by simpa using h
        omega
    · exact hc c h
  have hsz : (bytesOf ((bif neg then [45] else []) ++ T)).size = (bif neg then 1 else 0) + T.length := by
    rw [bytesOf_size]; cases neg
    · simp
    · simp; omega
  obtain ⟨c, T', rfl⟩ : ∃ c T', T = c :: T' := List.exists_cons_of_length_pos hne
  have hc0 := hT c (List.mem_cons_self ..)
  generalize hs : bytesOf ((bif neg then [45] else []) ++ c :: T') = s at hS hsz ⊢
  have hpos : 0 < s.size := by rw [hsz]; exact Nat.lt_of_lt_of_le hne (Nat.le_add_left _ _)
  have d45 : digV 45 = 36 := by decide
  have d43 : digV 43 = 36 := by decide
  have hm : isAt s 0 sMinus = neg := by
    rw [isAt_one, decide_eq_true hpos, Bool.true_and, hS]
    cases neg
    · exact decide_eq_false (fun e => by have e : c = 45 := e; subst e; omega)
    · rfl
  have hp : isAt s 0 sPlus = false := by
    rw [isAt_one, decide_eq_true hpos, Bool.true_and, hS]
    cases neg
    · exact decide_eq_false (fun e => by have e : c = 43 := e; subst e; omega)
    · rfl
  have hsg : sgAt s = bif neg then 1 else 0 := by unfold sgAt; rw [hm, hp, Bool.or_false]
  have hdg : dgAt b s (sgAt s) = (c :: T').map digV := by
    unfold dgAt
    rw [hS, hsg]
    have : List.drop (bif neg then 1 else 0) ((bif neg then [45] else []) ++ c :: T') = c :: T' := by cases neg <;> rfl
    rw [this, takeWhile_all _ (fun x hx => decide_eq_true (hT x hx))]
  have hl : (dgAt b s (sgAt s)).length = (c :: T').length := by rw [hdg, List.length_map]
  have hle : sgAt s ≤ 1 := by rw [hsg]; cases neg <;> decide
  have hl2 : s.size = sgAt s + (c :: T').length := by rw [hsz, hsg]
  unfold parseR
  rw [if_neg (by omega), if_neg (by omega), Int.toNat_natCast, hl, if_neg (by omega), if_neg (by omega), hdg, if_pos hfit, hm]
theorem dgs_ln {b a n : Nat} (hb : 2 ≤ b) (ha : (lim a).length ≤ n) : (dgs b a).length ≤ 32 * n := by
  suffices h : ∀ N, 32 * (lim a).length ≤ N → (dgs b a).length ≤ N from h _ (by omega)
  intro N hN
  apply dgs_len hb
  have h1 := ln_lt a
  rw [B_pow2] at h1
  exact Nat.lt_of_lt_of_le h1 (Nat.pow_le_pow_right (by decide) hN)
theorem digs_ln {b a n : Nat} (hb : 2 ≤ b) (ha : (lim a).length ≤ n) : (digs b a).length ≤ 32 * n + 1 := by
  unfold digs; split
  · simp
  · rw [List.length_reverse]; have := dgs_ln hb ha; omega
theorem sgnd_self (z : Int) : sgnd (decide (z < 0)) z.natAbs = z := by
  unfold sgnd
  by_cases h : z < 0
  · rw [decide_eq_true h]; show -(z.natAbs : Int) = z; omega
  · rw [decide_eq_false h]; show (z.natAbs : Int) = z; omega
theorem parse_strZ {b : Nat} (hb2 : 2 ≤ b) (hb36 : b ≤ 36) (up : Bool) (z : Int) (hz : (lim z.natAbs).length ≤ 60) : parseR (b : Int) (bytesOf (strZ b up z)) = (z, 0, 0) := by
  have hln := digs_ln hb2 hz
  have hlt := digs_lt hb2 z.natAbs
  have hps := digs_pos hb2 z.natAbs
  have hnv := digs_nv hb2 z.natAbs
  have key : ∀ (f : Nat → Nat), (∀ d, d < 36 → digV (f d) = d ∧ f d < 256) → parseR (b : Int) (bytesOf ((bif decide (z < 0) then [45] else []) ++ (digs b z.natAbs).map f)) = (z, 0, 0) := by
    intro f hf
    have e : ((digs b z.natAbs).map f).map digV = digs b z.natAbs := by
      rw [List.map_map]
      conv => rhs; rw [← List.map_id (digs b z.natAbs)]
      apply List.map_congr_left
      intro d hd
      exact (hf d (by have := hlt d hd; omega)).1
    have h := parse_ok hb2 hb36 (decide (z < 0)) ((digs b z.natAbs).map f) (fun c hc => by
      obtain ⟨d, hd, rfl⟩ := List.mem_map.1 hc
      have := hlt d hd
      rw [(hf d (by omega)).1]; exact this) (by rw [List.length_map]; exact hps) (by rw [List.length_map]; omega) (fun c hc => by
      obtain ⟨d, hd, rfl⟩ := List.mem_map.1 hc
      have := hlt d hd
      exact (hf d (by omega)).2) (by rw [e, hnv]; omega)
    rw [h, e, hnv, sgnd_self]
  unfold strZ
  rw [txt_digs]
  cases up
  · exact key fig fun d hd => ⟨digV_fig hd, fig_lt hd⟩
  · have := key (fun d => upN (fig d)) fun d hd => ⟨digV_up hd, up_lt hd⟩
    rw [cond_true, List.map_map]; exact this
def b4 (n : Nat) : List Nat := [48 + n / 8 % 2, 48 + n / 4 % 2, 48 + n / 2 % 2, 48 + n % 2]
def fourC (c : Nat) : List Nat := if c = 45 then [45] else b4 (digV c)
theorem b4_nv (n : Nat) (h : n < 16) : nv 2 ((b4 n).map digV) = n := by
  have key : ∀ m : _root_.Fin 16, nv 2 ((b4 m.val).map digV) = m.val := by decide
  exact key ⟨n, h⟩
theorem b4_dig (n : Nat) : ∀ c ∈ b4 n, digV c < 2 ∧ c < 256 := by
  intro c hc
  have key : c = 48 ∨ c = 49 := by
    simp only [b4, List.mem_cons, List.not_mem_nil, or_false] at hc
    omega
  rcases key with rfl | rfl <;> decide
theorem four_len : ∀ l : List Nat, (l.flatMap b4).length = 4 * l.length
  | [] => rfl
  | d :: l => by rw [List.flatMap_cons, List.length_append, four_len l, List.length_cons]; show 4 + _ = _; omega
theorem four_nv : ∀ l : List Nat, (∀ d ∈ l, d < 16) → nv 2 ((l.flatMap b4).map digV) = nv 16 l
  | [], _ => rfl
  | d :: l, h => by
    have ih := four_nv l (fun x hx => h x (List.mem_cons_of_mem _ hx))
    rw [List.flatMap_cons, List.map_append, nv_app, ih, b4_nv d (h d (List.mem_cons_self ..)), List.length_map, four_len]
    have := nv_app 16 [d] l
    rw [List.singleton_append] at this
    rw [this, Nat.pow_mul, show nv 16 [d] = d by simp [nv], show (2 : Nat) ^ 4 = 16 from rfl]
theorem fourC_fig {d : Nat} (h : d < 16) : fourC (fig d) = b4 d := by
  have e := digV_fig (show d < 36 by omega)
  unfold fourC
  rw [if_neg, e]
  intro h2; rw [h2] at e
  have : digV 45 = 36 := by decide
  omega
theorem four_str (z : Int) : (strZ 16 false z).flatMap fourC = (bif decide (z < 0) then [45] else []) ++ (digs 16 z.natAbs).flatMap b4 := by
  unfold strZ
  rw [List.flatMap_append, cond_false, txt_digs, List.flatMap_map]
  congr 1
  · cases decide (z < 0) <;> rfl
  · have hl := digs_lt (b := 16) (by decide) z.natAbs
    generalize digs 16 z.natAbs = l at hl
    induction l with
    | nil => rfl
    | cons d l ih => rw [List.flatMap_cons, List.flatMap_cons, ih (fun x hx => hl x (List.mem_cons_of_mem _ hx)), fourC_fig (hl d (List.mem_cons_self ..))]
theorem parse_four (z : Int) (hz : (lim z.natAbs).length ≤ 60) : parseR 2 (bytesOf ((strZ 16 false z).flatMap fourC)) = (z, 0, 0) := by
  have hln := digs_ln (b := 16) (by decide) hz
  have hlt := digs_lt (b := 16) (by decide) z.natAbs
  have hps := digs_pos (b := 16) (by decide) z.natAbs
  have hnv := digs_nv (b := 16) (by decide) z.natAbs
  have hnv2 := four_nv _ hlt
  rw [hnv] at hnv2
  rw [four_str]
  have hl := four_len (digs 16 z.natAbs)
  have hm : ∀ c ∈ (digs 16 z.natAbs).flatMap b4, digV c < 2 ∧ c < 256 := by
    intro c hc
    obtain ⟨d, _, hd⟩ := List.mem_flatMap.1 hc
    exact b4_dig d c hd
  have h := parse_ok (b := 2) (by decide) (by decide) (decide (z < 0)) ((digs 16 z.natAbs).flatMap b4) (fun c hc => (hm c hc).1) (by omega) (by omega) (fun c hc => (hm c hc).2) (by rw [hnv2]; omega)
  rw [hnv2, sgnd_self] at h
  exact h
theorem dgs_16_2 (a : Nat) (h0 : 0 < a) : (dgs 2 a).length ≤ 4 * (dgs 16 a).length ∧ 4 * (dgs 16 a).length < (dgs 2 a).length + 4 := by
  induction a using Nat.strongRecOn with
  | _ a ih =>
    rcases Nat.lt_or_ge a 16 with h | h
    · have e : dgs 16 a = [a] := by rw [dgs_pos (by decide) h0, Nat.div_eq_of_lt h, dgs_zero, Nat.mod_eq_of_lt h]
      have h1 := dgs_len (b := 2) (by decide) 4 a (by omega)
      have h2 : 0 < (dgs 2 a).length := by rw [dgs_pos (by decide) h0]; simp
      rw [e]; simp only [List.length_cons, List.length_nil]; omega
    · have e1 : (dgs 16 a).length = (dgs 16 (a / 16)).length + 1 := by rw [dgs_pos (by decide) h0]; simp
      have e2 : (dgs 2 a).length = (dgs 2 (a / 16)).length + 4 := by
        rw [dgs_pos (by decide) h0, dgs_pos (v := a / 2) (by decide) (by omega), dgs_pos (v := a / 2 / 2) (by decide) (by omega), dgs_pos (v := a / 2 / 2 / 2) (by decide) (by omega), show a / 2 / 2 / 2 / 2 = a / 16 by omega]
        simp
      have := ih (a / 16) (by omega) (by omega)
      omega
theorem four_size (z : Int) : (strZ 2 false z).length ≤ ((strZ 16 false z).flatMap fourC).length ∧ ((strZ 16 false z).flatMap fourC).length < (strZ 2 false z).length + 4 := by
  rw [four_str, List.length_append, four_len]
  unfold strZ
  rw [List.length_append, cond_false, txt_digs, List.length_map]
  unfold digs
  split
  · simp
  · have := dgs_16_2 z.natAbs (by omega)
    rw [List.length_reverse, List.length_reverse]
    omega
end Go.V
