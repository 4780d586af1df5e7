/- A part of the proof: abstract values, rules for the steps of the program's form, and contracts of its functions, each proved; no condition. -/
import Derived.Test.YtjohcjagbodicaaGreatDoorA16
import Derived.Test.YtjohcjagbodicaaGreatDoorTie
import Derived.Test.YtjohcjagbodicaaGreatDoorCards
import Derived.ProofKit
import Derived.OpenShut
import Derived.LaidMore
import Derived.Lay
import Derived.SevenTiedAt
import Derived.Carry
import Derived.Stop.Joined
set_option linter.unusedVariables false
set_option linter.unusedSimpArgs false
set_option maxHeartbeats 4000000
set_option maxRecDepth 100000
set_option synthInstance.maxSize 100000
set_option synthInstance.maxHeartbeats 2000000
namespace Go.V
open Go.RowKit Go.Proofs
theorem pc_r_Bit (a i : Nat) (hi : i ≤ 9223372036854775807) : PC C n_R01_Bit [numD a, .int .i64 (i : Int)] (fun o => o = .ret (.int .u64 ((a / 2 ^ i % 2 : Nat) : Int))) := by
  have hd := dig_lt a (i / 32)
  have hdl : dig a (i / 32) / 2 ^ (i % 32) < 4294967296 := Nat.lt_of_le_of_lt (Nat.div_le_self _ _) hd
  refine PC.run fn_R01_Bit en_R01_Bit rfl nt_R01_Bit rfl (rs := [.tmp 4]) (by rw [rs_R01_Bit]) (by simp only [List.length_cons, List.length_nil, Nat.reduceAdd, Nat.reduceSub, List.replicate_succ, List.replicate_zero, List.cons_append, List.nil_append]; exact rfl) ?_
  refine ARun.seq ?_
  refine ARun.region ?_
  refine y_op rfl (q_assign rfl) ?_
  refine AOps.nil ?_
  refine ARun.seq ?_
  refine ARun.region ?_
  refine y_op rfl (q_move rfl) ?_
  refine y_op rfl (q_move rfl) ?_
  refine y_op rfl (q_quo rfl rfl (by omega) (nquo_i64 (n := 32) rfl (by omega))) ?_
  refine y_op rfl (q_call rfl rfl (pc_r_atN a (i / 32))) ?_
  refine y_op rfl (q_move rfl) ?_
  refine y_op rfl (q_rem rfl rfl (by omega) (nrem (n := 32) rfl)) ?_
  refine y_op rfl (q_shr rfl rfl (by omega) (nshr rfl (by show i % 32 ≤ 64; omega))) ?_
  refine y_op rfl (q_rem rfl rfl (by omega) (nrem (n := 2) rfl)) ?_
  refine y_op rfl (q_assign rfl) ?_
  refine AOps.nil ?_
  refine ARun.ret ?_
  refine ⟨_, _, _, .tmp rfl .nil, .cons (.same _) .nil, rfl, ?_⟩
  rw [bit_dig]; rfl
theorem r_same1 (a : Nat) : PC C n_R01_Same [numD a, .sl 1 [.int .u32 1]] (fun o => o = .ret (.bool (decide (a = 1)))) := by
  have h := pc_r_Same (lim a) (lim 1)
  rw [show sln .u32 (lim 1) = D.sl 1 [.int .u32 1] from numD_one.symm] at h
  refine h.mono fun o ho => ?_
  rw [ho]
  congr 3
  exact propext ⟨fun h => by rw [← val_lim a, h, val_lim], fun h => by rw [h]⟩
/-- The specification's power: the number and whether it has not too many elements. -/
theorem pc_r_Pow (a n : Nat) (ha : (lim a).length ≤ 1024) (hn : n ≤ 9223372036854775807) : PC C n_R01_Pow [numD a, .int .i64 (n : Int)] (fun o => o = .ret (.tup [numD (powR a n).1, .bool (decide ((lim (a ^ n)).length ≤ 1024))])) := by
  have hp1 : (lim (a ^ n)).length ≤ 1024 → powR a n = (a ^ n, 0) := fun h => by unfold powR; rw [if_pos h]
  have hp2 : ¬ (lim (a ^ n)).length ≤ 1024 → powR a n = (0, 2) := fun h => by unfold powR; rw [if_neg h]
  refine PC.run fn_R01_Pow en_R01_Pow rfl nt_R01_Pow rfl (rs := [.tmp 4, .tmp 5]) (by rw [rs_R01_Pow]) (by simp only [List.length_cons, List.length_nil, Nat.reduceAdd, Nat.reduceSub, List.replicate_succ, List.replicate_zero, List.cons_append, List.nil_append]; exact rfl) ?_
  refine ARun.seq ?_
  refine ARun.region ?_
  refine y_op rfl (q_assign rfl) ?_
  refine y_op rfl (q_assign rfl) ?_
  refine AOps.nil ?_
  refine ARun.seq ?_
  refine ARun.seq ?_
  refine ARun.join (S := Bool) (fun t : Bool => [(8, .any), (9, .any), (10, .any), (11, .any), (12, .any), (13, .any), (14, .bool t)]) (fun t : Bool => t = decide (n = 0 ∨ a = 1)) (fun run => ?_) ?_
  · skip
    refine ARun.region ?_
    refine y_op rfl (q_move rfl) ?_
    refine y_op rfl (q_intB (b := decide (n = 0)) rfl rfl rfl (by rw [Bool.eq_iff_iff, beq_iff_eq, decide_eq_true_iff]; omega)) ?_
    refine y_op rfl (q_move rfl) ?_
    refine AOps.bool 10 rfl (fun c1 => ?_) (fun c1 => ?_)
    · skip
      have c1 := of_decide_eq_true c1
      refine y_skip rfl ?_
      refine y_skip rfl ?_
      refine y_skip rfl ?_
      refine y_op rfl (q_pick rfl rfl rfl rfl) ?_
      refine AOps.nil ?_
      exact ARun.again (run (true) ((decide_eq_true (.inl c1)).symm)) (by (repeat' first | exact envLe_nil | apply envLe_any | apply envLe_same)) rfl
    · skip
      have c1 := of_decide_eq_false c1
      refine y_op rfl (q_move rfl) ?_
      refine y_op rfl (q_buildF rfl rfl rfl rfl rfl rfl rfl rfl rfl rfl rfl (by decide) (by decide) rfl) ?_
      refine y_op rfl (q_call rfl rfl (r_same1 a)) ?_
      refine y_op rfl (q_pick rfl rfl rfl rfl) ?_
      refine AOps.nil ?_
      exact ARun.again (run (decide (a = 1)) (decide_eq_decide.2 ⟨fun h => .inr h, fun h => h.resolve_left c1⟩)) (by (repeat' first | exact envLe_nil | apply envLe_any | apply envLe_same)) rfl
  · rintro t hj
    try dsimp only at hj ⊢
    subst hj
    refine ARun.ite rfl (fun h => ?_) (fun h => ?_)
    · skip
      have hp : a ^ n = 1 := by
        rcases h with rfl | rfl
        · exact Nat.pow_zero a
        · exact Nat.one_pow n
      have hf : (lim (a ^ n)).length ≤ 1024 := by rw [hp]; exact one_fit
      refine ARun.seq ?_
      refine ARun.region ?_
      refine y_op rfl (OpQ.cast (q_buildF rfl rfl rfl rfl rfl rfl rfl rfl rfl rfl rfl (by decide) (by decide) rfl) numD_one) ?_
      refine y_op rfl (q_assign rfl) ?_
      refine y_op rfl (q_assign rfl) ?_
      refine AOps.nil ?_
      refine ARun.ret ?_
      refine ⟨_, _, _, .tmp rfl (.tmp rfl .nil), .cons (.same _) (.cons (.same _) .nil), rfl, ?_⟩
      rw [hp1 hf, decide_eq_true hf, hp]; rfl
    · skip
      refine ARun.skip ?_
      refine ARun.seq ?_
      refine ARun.seq ?_
      refine ARun.region ?_
      refine y_op rfl (q_move rfl) ?_
      refine y_op rfl (q_lenSl rfl rfl) ?_
      refine y_op rfl (q_intB (b := decide (a = 0)) rfl rfl rfl lenN_zero_iff) ?_
      refine AOps.nil ?_
      refine ARun.ite rfl (fun h0 => ?_) (fun h0 => ?_)
      · skip
        have hp : a ^ n = 0 := by subst h0; exact Nat.zero_pow (by omega)
        have hf : (lim (a ^ n)).length ≤ 1024 := by rw [hp, lim_zero]; decide
        refine ARun.seq ?_
        refine ARun.region ?_
        refine y_op rfl (q_move rfl) ?_
        refine y_op rfl (q_assign rfl) ?_
        refine y_op rfl (q_assign rfl) ?_
        refine AOps.nil ?_
        refine ARun.ret ?_
        refine ⟨_, _, _, .tmp rfl (.tmp rfl .nil), .cons (.same _) (.cons (.same _) .nil), rfl, ?_⟩
        rw [hp1 hf, decide_eq_true hf, hp, h0]; rfl
      · skip
        refine ARun.skip ?_
        refine ARun.seq ?_
        refine ARun.region ?_
        refine y_op rfl (OpQ.cast (q_buildF rfl rfl rfl rfl rfl rfl rfl rfl rfl rfl rfl (by decide) (by decide) rfl) numD_one) ?_
        refine y_op rfl (q_assign rfl) ?_
        refine AOps.nil ?_
        refine ARun.seq ?_
        refine ARun.seq ?_
        refine ARun.region ?_
        refine y_op rfl (q_assign rfl) ?_
        refine AOps.nil ?_
        refine ARun.block ?_
        refine ARun.loopI (S := Nat) (fun i : Nat => [(4, .any), (5, .any), (21, .any), (22, .any), (23, .any), (24, .any), (25, .any), (26, .any), (27, .any), (28, .any), (29, .any), (30, .any), (31, .any), (6, numD (a ^ i)), (7, .int .i64 (i : Int))]) (fun i : Nat => []) (fun i : Nat => i ≤ n ∧ (lim (a ^ i)).length ≤ 1024) (fun i : Nat => n - i) (0) ?_ ?_ ?_ ?_
        · exact ⟨Nat.zero_le _, by rw [Nat.pow_zero]; exact one_fit⟩
        · (repeat' first | exact envLe_nil | apply envLe_any | apply envLe_same)
        · rfl
        rintro i hinv ih
        obtain ⟨hi, hl⟩ := hinv
        refine ARun.seq ?_
        refine ARun.seq ?_
        refine ARun.region ?_
        refine y_op rfl (q_move rfl) ?_
        refine y_op rfl (q_move rfl) ?_
        refine y_op rfl (q_int rfl rfl rfl) ?_
        refine AOps.nil ?_
        refine ARun.ite rfl (fun h2 => ?_) (fun h2 => ?_)
        · skip
          refine ARun.skip ?_
          refine ARun.seq ?_
          refine ARun.block ?_
          refine ARun.seq ?_
          refine ARun.region ?_
          refine y_op rfl (q_move rfl) ?_
          refine y_op rfl (q_move rfl) ?_
          refine y_op rfl (q_call rfl rfl ((pc_r_Mul (a ^ i) a (by omega) (by omega)).mono fun o ho => by rw [ho, ← Nat.pow_succ])) ?_
          refine y_op rfl (q_assign rfl) ?_
          refine AOps.nil ?_
          refine ARun.seq ?_
          refine ARun.region ?_
          refine y_op rfl (q_move rfl) ?_
          refine y_op rfl (q_call rfl rfl (pc_r_Fits (lim (a ^ (i + 1))))) ?_
          refine y_op rfl (q_not rfl) ?_
          refine AOps.nil ?_
          refine ARun.cond rfl (fun h3 => ?_) (fun h3 => ?_)
          · skip
            have h3 : ¬ (lim (a ^ (i + 1))).length ≤ 1024 := by simpa using h3
            have hf : ¬ (lim (a ^ n)).length ≤ 1024 := fun h => h3 (Nat.le_trans (ln_mono (Nat.pow_le_pow_right (by omega) (by omega))) h)
            refine ARun.seq ?_
            refine ARun.region ?_
            refine y_op rfl (q_assign rfl) ?_
            refine y_op rfl (q_assign rfl) ?_
            refine AOps.nil ?_
            refine ARun.ret ?_
            refine ⟨_, _, _, .tmp rfl (.tmp rfl .nil), .cons .nil (.cons (.same _) .nil), rfl, ?_⟩
            rw [hp2 hf, decide_eq_false hf, numD_zero]; rfl
          · skip
            have h3 : (lim (a ^ (i + 1))).length ≤ 1024 := by simpa using h3
            refine ARun.skip ?_
            refine ARun.inBlock ?_
            refine ARun.region ?_
            refine y_op rfl (q_move rfl) ?_
            refine y_op rfl (q_add rfl rfl (nadd1_i64 (by omega))) ?_
            refine y_op rfl (q_assign rfl) ?_
            refine AOps.nil ?_
            refine ARun.again (ih ((i + 1)) ?_ ?_) ?_ ?_
            · exact ⟨by omega, h3⟩
            · omega
            · (repeat' first | exact envLe_nil | apply envLe_any | apply envLe_same)
            · rfl
        · skip
          obtain rfl : i = n := by omega
          refine ARun.exit rfl ?_
          refine ARun.seq ?_
          refine ARun.region ?_
          refine y_op rfl (q_move rfl) ?_
          refine y_op rfl (q_assign rfl) ?_
          refine y_op rfl (q_assign rfl) ?_
          refine AOps.nil ?_
          refine ARun.ret ?_
          refine ⟨_, _, _, .tmp rfl (.tmp rfl .nil), .cons (.same _) (.cons (.same _) .nil), rfl, ?_⟩
          rw [hp1 hl, decide_eq_true hl]; rfl
theorem pc_s_Pow (d : Bool × List Nat) (hd : U32 d.2) (n : Int) (hn : n ≤ 9223372036854775807) : PC C n_R02_Pow [intA d.1 d.2, .int .i64 n] (fun o => o = .ret (gotR (resZ ([d].all okI) (powO (valI d) n)))) := by
  refine PC.run fn_R02_Pow en_R02_Pow rfl nt_R02_Pow rfl (rs := [.cell 4 45]) (by rw [rs_R02_Pow]) (by simp only [List.length_cons, List.length_nil, Nat.reduceAdd, Nat.reduceSub, List.replicate_succ, List.replicate_zero, List.cons_append, List.nil_append]; exact rfl) ?_
  refine ARun.seq ?_
  refine ARun.region ?_
  refine y_op rfl (q_boxF rfl rfl rfl rfl) ?_
  refine y_new rfl (n_alloc rfl rfl rfl rfl) ?_
  refine AOps.nil ?_
  refine ARun.seq ?_
  refine ARun.seq ?_
  refine ARun.region ?_
  refine y_op rfl (q_loadAgg rfl rfl rfl rfl rfl) ?_
  refine y_op rfl (q_call rfl rfl (pc_s_Valid d)) ?_
  refine y_op rfl (q_not rfl) ?_
  refine y_op rfl (q_move rfl) ?_
  refine AOps.bool 10 rfl (fun g1 => ?_) (fun g1 => ?_)
  · skip
    have g1 : okI d = false := by simpa using g1
    have hc : [d].all okI = false := by simp only [List.all_cons, g1, Bool.false_and]
    refine y_skip rfl ?_
    refine y_skip rfl ?_
    refine y_op rfl (q_pick rfl rfl rfl rfl) ?_
    refine AOps.nil ?_
    refine ARun.condT rfl ?_
    refine ARun.seq ?_
    refine ARun.region ?_
    refine y_op rfl (q_build rfl rfl rfl rfl rfl) ?_
    refine y_new rfl (n_storeN rfl rfl rfl rfl rfl rfl rfl rfl (Nat.le_of_ble_eq_true rfl) rfl) ?_
    refine AOps.nil ?_
    refine ARun.ret ?_
    refine ⟨_, _, _, ResR.cellA rfl rfl rfl rfl rfl rfl .nil, .cons (fz_got 1) .nil, rfl, ?_⟩
    rw [hc]; rfl
  · skip
    have g1 : okI d = true := by simpa using g1
    have hc : [d].all okI = true := by simp only [List.all_cons, List.all_nil, g1, Bool.and_true]
    rw [hc]
    refine y_op rfl (q_move rfl) ?_
    refine y_op rfl (q_int rfl rfl rfl) ?_
    refine y_op rfl (q_pick rfl rfl rfl rfl) ?_
    refine AOps.nil ?_
    refine ARun.ite rfl (fun g2 => ?_) (fun g2 => ?_)
    · skip
      refine ARun.seq ?_
      refine ARun.region ?_
      refine y_op rfl (q_build rfl rfl rfl rfl rfl) ?_
      refine y_new rfl (n_storeN rfl rfl rfl rfl rfl rfl rfl rfl (Nat.le_of_ble_eq_true rfl) rfl) ?_
      refine AOps.nil ?_
      refine ARun.ret ?_
      refine ⟨_, _, _, ResR.cellA rfl rfl rfl rfl rfl rfl .nil, .cons (fz_got 1) .nil, rfl, ?_⟩
      unfold powO
      rw [if_pos g2]; rfl
    · skip
      obtain ⟨m, rfl⟩ : ∃ m : Nat, n = (m : Int) := ⟨n.toNat, by omega⟩
      obtain ⟨a, rfl, f1⟩ := okI_int hd g1
      rw [valI_int]
      have hO : powO a (m : Int) = fitO (a ^ m) := by unfold powO; rw [if_neg (by omega)]; rfl
      rw [hO]
      have f1' : (lim a.natAbs).length ≤ 1024 := f1
      refine ARun.skip ?_
      refine ARun.seq ?_
      refine ARun.region ?_
      refine y_op rfl (q_fldS rfl rfl rfl (by decide)) ?_
      refine y_op rfl (q_load rfl rfl rfl rfl) ?_
      refine y_op rfl (q_move rfl) ?_
      refine y_op rfl (q_call rfl rfl (pc_r_Pow a.natAbs m f1' (by omega))) ?_
      refine y_op rfl (q_move rfl) ?_
      refine y_op rfl (q_extract rfl rfl) ?_
      refine y_op rfl (q_extract rfl rfl) ?_
      refine y_op rfl (q_assign rfl) ?_
      refine y_op rfl (q_assign rfl) ?_
      refine AOps.nil ?_
      refine ARun.seq ?_
      refine ARun.seq ?_
      refine ARun.region ?_
      refine y_op rfl (q_move rfl) ?_
      refine y_op rfl (q_not rfl) ?_
      refine AOps.nil ?_
      refine ARun.cond rfl (fun g3 => ?_) (fun g3 => ?_)
      · skip
        have g3 : ¬ (lim (a.natAbs ^ m)).length ≤ 1024 := by simpa using g3
        refine ARun.seq ?_
        refine ARun.region ?_
        refine y_op rfl (q_build rfl rfl rfl rfl rfl) ?_
        refine y_new rfl (n_storeN rfl rfl rfl rfl rfl rfl rfl rfl (Nat.le_of_ble_eq_true rfl) rfl) ?_
        refine AOps.nil ?_
        refine ARun.ret ?_
        refine ⟨_, _, _, ResR.cellA rfl rfl rfl rfl rfl rfl .nil, .cons (fz_got 2) .nil, rfl, ?_⟩
        rw [fitO_f (fun h => g3 (fit_pow.1 h))]; rfl
      · skip
        have g3 : (lim (a.natAbs ^ m)).length ≤ 1024 := by simpa using g3
        have hpr : (powR a.natAbs m).1 = a.natAbs ^ m := by unfold powR; rw [if_pos g3]
        rw [hpr]
        have hsp := sgnd_pow a m
        have hodd : (((m : Int).tmod 2) == 1) = decide (m % 2 = 1) := by
          rw [show (m : Int).tmod 2 = ((m % 2 : Nat) : Int) from rfl, Bool.eq_iff_iff, beq_iff_eq, decide_eq_true_iff]; omega
        refine ARun.skip ?_
        refine ARun.seq ?_
        refine ARun.region ?_
        refine y_op rfl (q_fldS rfl rfl rfl (by decide)) ?_
        refine y_op rfl (q_load rfl rfl rfl rfl) ?_
        refine y_op rfl (q_move rfl) ?_
        refine AOps.bool 27 rfl (fun g4 => ?_) (fun g4 => ?_)
        · skip
          refine y_op rfl (q_move rfl) ?_
          refine y_op rfl (q_rem rfl rfl (by decide) rfl) ?_
          refine y_op rfl (q_intB (b := decide (m % 2 = 1)) rfl rfl rfl hodd) ?_
          refine y_op rfl (q_pick rfl rfl rfl rfl) ?_
          refine y_op rfl (q_move rfl) ?_
          refine y_op rfl (q_call rfl rfl (pc_s_Of (decide (m % 2 = 1)) (a.natAbs ^ m) (by omega))) ?_
          refine y_op rfl (q_build rfl rfl rfl rfl rfl) ?_
          refine y_new rfl (n_storeN rfl rfl rfl rfl rfl rfl rfl rfl (Nat.le_of_ble_eq_true rfl) rfl) ?_
          refine AOps.nil ?_
          refine ARun.ret ?_
          refine ⟨_, _, _, ResR.cellA rfl rfl rfl rfl rfl rfl .nil, .cons (.same _) .nil, rfl, ?_⟩
          have g4 : decide (a < 0) = true := g4
          rw [g4, Bool.true_and] at hsp
          rw [fitO_t (fit_pow.2 g3), hsp]; rfl
        · skip
          refine y_skip rfl ?_
          refine y_skip rfl ?_
          refine y_skip rfl ?_
          refine y_op rfl (q_pick rfl rfl rfl rfl) ?_
          refine y_op rfl (q_move rfl) ?_
          refine y_op rfl (q_call rfl rfl (pc_s_Of false (a.natAbs ^ m) (by omega))) ?_
          refine y_op rfl (q_build rfl rfl rfl rfl rfl) ?_
          refine y_new rfl (n_storeN rfl rfl rfl rfl rfl rfl rfl rfl (Nat.le_of_ble_eq_true rfl) rfl) ?_
          refine AOps.nil ?_
          refine ARun.ret ?_
          refine ⟨_, _, _, ResR.cellA rfl rfl rfl rfl rfl rfl .nil, .cons (.same _) .nil, rfl, ?_⟩
          have g4 : decide (a < 0) = false := g4
          rw [g4, Bool.false_and] at hsp
          rw [fitO_t (fit_pow.2 g3), hsp]; rfl
theorem sq_emod {a m : Int} {e : Nat} : a ^ e % m * (a ^ e % m) % m = a ^ (2 * e) % m := by
  rw [← Int.mul_emod, ← Int.pow_add]; congr 2; omega
theorem mul_emod1 {a m : Int} {e : Nat} : a ^ e % m * a % m = a ^ (e + 1) % m := by
  rw [Int.pow_succ, Int.mul_emod, Int.emod_emod_of_dvd _ (Int.dvd_refl m), ← Int.mul_emod]
theorem pc_s_ModPow (d1 d2 d3 : Bool × List Nat) (h1 : U32 d1.2) (h2 : U32 d2.2) (h3 : U32 d3.2) : PC C n_R02_ModPow [intA d1.1 d1.2, intA d2.1 d2.2, intA d3.1 d3.2] (fun o => o = .ret (gotR (resZ ([d1, d2, d3].all okI) (mpO (valI d1) (valI d2) (valI d3))))) := by
  refine PC.run fn_R02_ModPow en_R02_ModPow rfl nt_R02_ModPow rfl (rs := [.cell 6 45]) (by rw [rs_R02_ModPow]) (by simp only [List.length_cons, List.length_nil, Nat.reduceAdd, Nat.reduceSub, List.replicate_succ, List.replicate_zero, List.cons_append, List.nil_append]; exact rfl) ?_
  refine ARun.seq ?_
  refine ARun.region ?_
  refine y_op rfl (q_boxF rfl rfl rfl rfl) ?_
  refine y_op rfl (q_boxF rfl rfl rfl rfl) ?_
  refine y_op rfl (q_boxF rfl rfl rfl rfl) ?_
  refine y_new rfl (n_alloc rfl rfl rfl rfl) ?_
  refine AOps.nil ?_
  refine ARun.seq ?_
  refine ARun.seq ?_
  refine ARun.region ?_
  refine y_op rfl (q_loadAgg rfl rfl rfl rfl rfl) ?_
  refine y_op rfl (q_call rfl rfl (pc_s_Valid d1)) ?_
  refine y_op rfl (q_not rfl) ?_
  refine y_op rfl (q_move rfl) ?_
  refine AOps.bool 12 rfl (fun g1 => ?_) (fun g1 => ?_)
  · skip
    have g1 : okI d1 = false := by simpa using g1
    have hc : [d1, d2, d3].all okI = false := by simp only [List.all_cons, g1, Bool.false_and]
    refine y_skip rfl ?_
    refine y_skip rfl ?_
    refine y_skip rfl ?_
    refine y_op rfl (q_pick rfl rfl rfl rfl) ?_
    refine y_op rfl (q_move rfl) ?_
    refine y_skip rfl ?_
    refine y_skip rfl ?_
    refine y_skip rfl ?_
    refine y_op rfl (q_pick rfl rfl rfl rfl) ?_
    refine AOps.nil ?_
    refine ARun.condT rfl ?_
    refine ARun.seq ?_
    refine ARun.region ?_
    refine y_op rfl (q_build rfl rfl rfl rfl rfl) ?_
    refine y_new rfl (n_storeN rfl rfl rfl rfl rfl rfl rfl rfl (Nat.le_of_ble_eq_true rfl) rfl) ?_
    refine AOps.nil ?_
    refine ARun.ret ?_
    refine ⟨_, _, _, ResR.cellA rfl rfl rfl rfl rfl rfl .nil, .cons (fz_got 1) .nil, rfl, ?_⟩
    rw [hc]; rfl
  · skip
    have g1 : okI d1 = true := by simpa using g1
    refine y_op rfl (q_loadAgg rfl rfl rfl rfl rfl) ?_
    refine y_op rfl (q_call rfl rfl (pc_s_Valid d2)) ?_
    refine y_op rfl (q_not rfl) ?_
    refine y_op rfl (q_pick rfl rfl rfl rfl) ?_
    refine y_op rfl (q_move rfl) ?_
    refine AOps.bool 17 rfl (fun g2 => ?_) (fun g2 => ?_)
    · skip
      have g2 : okI d2 = false := by simpa using g2
      have hc : [d1, d2, d3].all okI = false := by simp only [List.all_cons, g2, Bool.false_and, Bool.and_false]
      refine y_skip rfl ?_
      refine y_skip rfl ?_
      refine y_skip rfl ?_
      refine y_op rfl (q_pick rfl rfl rfl rfl) ?_
      refine AOps.nil ?_
      refine ARun.condT rfl ?_
      refine ARun.seq ?_
      refine ARun.region ?_
      refine y_op rfl (q_build rfl rfl rfl rfl rfl) ?_
      refine y_new rfl (n_storeN rfl rfl rfl rfl rfl rfl rfl rfl (Nat.le_of_ble_eq_true rfl) rfl) ?_
      refine AOps.nil ?_
      refine ARun.ret ?_
      refine ⟨_, _, _, ResR.cellA rfl rfl rfl rfl rfl rfl .nil, .cons (fz_got 1) .nil, rfl, ?_⟩
      rw [hc]; rfl
    · skip
      have g2 : okI d2 = true := by simpa using g2
      refine y_op rfl (q_loadAgg rfl rfl rfl rfl rfl) ?_
      refine y_op rfl (q_call rfl rfl (pc_s_Valid d3)) ?_
      refine y_op rfl (q_not rfl) ?_
      refine y_op rfl (q_pick rfl rfl rfl rfl) ?_
      refine AOps.nil ?_
      refine ARun.cond rfl (fun g3 => ?_) (fun g3 => ?_)
      · skip
        have g3 : okI d3 = false := by simpa using g3
        have hc : [d1, d2, d3].all okI = false := by simp only [List.all_cons, g3, Bool.false_and, Bool.and_false]
        refine ARun.seq ?_
        refine ARun.region ?_
        refine y_op rfl (q_build rfl rfl rfl rfl rfl) ?_
        refine y_new rfl (n_storeN rfl rfl rfl rfl rfl rfl rfl rfl (Nat.le_of_ble_eq_true rfl) rfl) ?_
        refine AOps.nil ?_
        refine ARun.ret ?_
        refine ⟨_, _, _, ResR.cellA rfl rfl rfl rfl rfl rfl .nil, .cons (fz_got 1) .nil, rfl, ?_⟩
        rw [hc]; rfl
      · skip
        have g3 : okI d3 = true := by simpa using g3
        have hc : [d1, d2, d3].all okI = true := by simp only [List.all_cons, List.all_nil, g1, g2, g3, Bool.and_true]
        obtain ⟨a, n, m, rfl, f1, rfl, f2, rfl, f3⟩ := okI3 h1 h2 h3 hc
        rw [hc, valI_int, valI_int, valI_int]
        have f1' : (lim a.natAbs).length ≤ 1024 := f1
        have f2' : (lim n.natAbs).length ≤ 1024 := f2
        have f3' : (lim m.natAbs).length ≤ 1024 := f3
        refine ARun.skip ?_
        refine ARun.seq ?_
        refine ARun.seq ?_
        refine ARun.region ?_
        refine y_op rfl (q_fldS rfl rfl rfl (by decide)) ?_
        refine y_op rfl (q_load rfl rfl rfl rfl) ?_
        refine y_op rfl (q_lenSl rfl rfl) ?_
        refine y_op rfl (q_intB (b := decide (m = 0)) rfl rfl rfl len_zero_iff) ?_
        refine AOps.nil ?_
        refine ARun.ite rfl (fun m0 => ?_) (fun m0 => ?_)
        · skip
          refine ARun.seq ?_
          refine ARun.region ?_
          refine y_op rfl (q_build rfl rfl rfl rfl rfl) ?_
          refine y_new rfl (n_storeN rfl rfl rfl rfl rfl rfl rfl rfl (Nat.le_of_ble_eq_true rfl) rfl) ?_
          refine AOps.nil ?_
          refine ARun.ret ?_
          refine ⟨_, _, _, ResR.cellA rfl rfl rfl rfl rfl rfl .nil, .cons (fz_got 8) .nil, rfl, ?_⟩
          unfold mpO
          rw [if_pos m0]; rfl
        · skip
          refine ARun.skip ?_
          refine ARun.seq ?_
          refine ARun.seq ?_
          refine ARun.region ?_
          refine y_op rfl (q_fldS rfl rfl rfl (by decide)) ?_
          refine y_op rfl (q_load rfl rfl rfl rfl) ?_
          refine y_op rfl (q_move rfl) ?_
          refine AOps.bool 30 rfl (fun m1 => ?_) (fun m1 => ?_)
          · skip
            have m1 := of_decide_eq_true m1
            refine y_skip rfl ?_
            refine y_skip rfl ?_
            refine y_op rfl (q_pick rfl rfl rfl rfl) ?_
            refine AOps.nil ?_
            refine ARun.condT rfl ?_
            refine ARun.seq ?_
            refine ARun.region ?_
            refine y_op rfl (q_build rfl rfl rfl rfl rfl) ?_
            refine y_new rfl (n_storeN rfl rfl rfl rfl rfl rfl rfl rfl (Nat.le_of_ble_eq_true rfl) rfl) ?_
            refine AOps.nil ?_
            refine ARun.ret ?_
            refine ⟨_, _, _, ResR.cellA rfl rfl rfl rfl rfl rfl .nil, .cons (fz_got 1) .nil, rfl, ?_⟩
            unfold mpO
            rw [if_neg m0, if_pos (.inl m1)]; rfl
          · skip
            have m1 := of_decide_eq_false m1
            refine y_op rfl (q_fldS rfl rfl rfl (by decide)) ?_
            refine y_op rfl (q_load rfl rfl rfl rfl) ?_
            refine y_op rfl (q_pick rfl rfl rfl rfl) ?_
            refine AOps.nil ?_
            refine ARun.ite rfl (fun n1 => ?_) (fun n1 => ?_)
            · skip
              refine ARun.seq ?_
              refine ARun.region ?_
              refine y_op rfl (q_build rfl rfl rfl rfl rfl) ?_
              refine y_new rfl (n_storeN rfl rfl rfl rfl rfl rfl rfl rfl (Nat.le_of_ble_eq_true rfl) rfl) ?_
              refine AOps.nil ?_
              refine ARun.ret ?_
              refine ⟨_, _, _, ResR.cellA rfl rfl rfl rfl rfl rfl .nil, .cons (fz_got 1) .nil, rfl, ?_⟩
              unfold mpO
              rw [if_neg m0, if_pos (.inr n1)]; rfl
            · skip
              have hmp : 0 < m := by omega
              have hO : mpO a n m = .inl (a ^ n.natAbs % m) := by unfold mpO; rw [if_neg m0, if_neg (by rintro (h | h) <;> omega), show n.toNat = n.natAbs by omega]
              rw [hO]
              have hrl : ∀ x : Int, (lim (x % m).natAbs).length ≤ 1024 := fun x => fit_emod (a := x) f3 hmp
              have hbn := bl_le_ln n.natAbs
              refine ARun.skip ?_
              refine ARun.seq ?_
              refine ARun.drawnG (n := 4) (fun S : Nat → Bool => [some ⟨[.bool false, .nilsl, .int .i64 0], t_sorobanref02_Got, 1, true, none⟩]) [(3, 7, 25, [.bool false, .nilsl], none)] (fun _ => False) (sk := [(3, none)]) mixC rfl rfl (by kernel_rfl) rfl (by kernel_rfl) rfl (fun _ _ _ h => h.elim) ?_
              refine DChG.op rfl (fun _ => q_call rfl rfl (pc_s_One)) (fun _ => rfl) rfl rfl ?_
              refine DChG.op rfl (fun _ => q_loadAgg rfl rfl rfl rfl rfl) (fun _ => rfl) rfl rfl ?_
              refine DChG.op rfl (fun _ => q_call rfl rfl (pc_s_rest 1 m (Nat.le_trans lnZ_1 (by decide)) (by omega) hmp)) (fun _ => rfl) rfl rfl ?_
              refine .al rfl rfl rfl rfl (fun _ => rfl) rfl rfl rfl ?_
              refine .nil (fun hG => AOps.fin (n := 1) (as' := [(3, 7, 25, [.bool false, .nilsl])]) (H' := [some ⟨[.bool false, .nilsl, .int .i64 0], t_sorobanref02_Got, 1, true, none⟩, cell0]) rfl rfl rfl ?_)
              refine y_new rfl (n_storeN rfl rfl rfl rfl rfl rfl rfl rfl (Nat.le_of_ble_eq_true rfl) rfl) ?_
              refine AOps.nil ?_
              refine ARun.seq ?_
              refine ARun.seq ?_
              refine ARun.region ?_
              refine y_op rfl (q_fldS rfl rfl rfl (by decide)) ?_
              refine y_op rfl (q_load rfl rfl rfl rfl) ?_
              refine y_op rfl (q_call rfl rfl (pc_r_Bits n.natAbs (by omega))) ?_
              refine y_op rfl (q_sub rfl rfl (IntWalk.i64_in _ (by omega))) ?_
              refine y_op rfl (q_assign rfl) ?_
              refine AOps.nil ?_
              refine ARun.block ?_
              refine ARun.loopI (S := Nat × Int) (fun σ : Nat × Int => [(42, .any), (43, .any), (44, .any), (45, .any), (46, .any), (47, .any), (48, .any), (49, .any), (50, .any), (51, .any), (52, .any), (53, .any), (54, .any), (55, .any), (56, .any), (57, .any), (58, .any), (59, .any), (60, .any), (8, .int .i64 ((σ.1 : Int) - 1))]) (fun σ : Nat × Int => [some ⟨[.bool false, .nilsl, .int .i64 0], t_sorobanref02_Got, 1, true, none⟩, cellZ σ.2]) (fun σ : Nat × Int => σ.1 ≤ bl n.natAbs ∧ σ.2 = a ^ (n.natAbs / 2 ^ σ.1) % m) (fun σ : Nat × Int => σ.1) ((bl n.natAbs, 1 % m)) ?_ ?_ ?_ ?_
              · exact ⟨Nat.le_refl _, by dsimp only; rw [Nat.div_eq_of_lt (lt_bl n.natAbs), Int.pow_zero]⟩
              · (repeat' first | exact envLe_nil | apply envLe_any | apply envLe_same)
              · rfl
              rintro ⟨k, x⟩ hinv ih
              dsimp only at hinv ih ⊢
              obtain ⟨hk, rfl⟩ := hinv
              refine ARun.seq ?_
              refine ARun.seq ?_
              refine ARun.region ?_
              refine y_op rfl (q_move rfl) ?_
              refine y_op rfl (q_int rfl rfl rfl) ?_
              refine AOps.nil ?_
              refine ARun.ite rfl (fun h => ?_) (fun h => ?_)
              · skip
                obtain ⟨j, rfl⟩ : ∃ j, k = j + 1 := ⟨k - 1, by omega⟩
                rw [show (((j + 1 : Nat) : Int) - 1) = (j : Int) by omega]
                have hs := half_step n.natAbs j
                have lx := hrl (a ^ (n.natAbs / 2 ^ (j + 1)))
                have ly := hrl (a ^ (2 * (n.natAbs / 2 ^ (j + 1))))
                have lxx : (lim (a ^ (n.natAbs / 2 ^ (j + 1)) % m * (a ^ (n.natAbs / 2 ^ (j + 1)) % m)).natAbs).length ≤ 2048 := by
                  rw [Int.natAbs_mul]; have := ln_mul (a ^ (n.natAbs / 2 ^ (j + 1)) % m).natAbs (a ^ (n.natAbs / 2 ^ (j + 1)) % m).natAbs; omega
                have lya : (lim (a ^ (2 * (n.natAbs / 2 ^ (j + 1))) % m * a).natAbs).length ≤ 2048 := by
                  rw [Int.natAbs_mul]; have := ln_mul (a ^ (2 * (n.natAbs / 2 ^ (j + 1))) % m).natAbs a.natAbs; omega
                refine ARun.skip ?_
                refine ARun.seq ?_
                refine ARun.block ?_
                refine ARun.seq ?_
                refine ARun.drawnP 5 (fun _ => False) mixC rfl rfl (by kernel_rfl) (fun _ _ h => h.elim) ?_
                refine .op rfl (q_loadAggP rfl rfl rfl rfl rfl rfl) ?_
                refine .op rfl (q_loadAggP rfl rfl rfl rfl rfl rfl) ?_
                refine .op rfl (q_call rfl rfl (pc_s_Times _ _ (by omega) (by omega))) ?_
                refine .op rfl (q_loadAgg rfl rfl rfl rfl rfl) ?_
                refine .op rfl (q_call rfl rfl ((pc_s_rest _ m (by omega) (by omega) hmp).mono fun o ho => by rw [ho, sq_emod])) ?_
                refine .nil (fun hG => ?_)
                refine y_new rfl (n_storeN rfl rfl rfl rfl rfl rfl rfl rfl (Nat.le_of_ble_eq_true rfl) rfl) ?_
                refine AOps.nil ?_
                refine ARun.seq ?_
                refine ARun.region ?_
                refine y_op rfl (q_fldS rfl rfl rfl (by decide)) ?_
                refine y_op rfl (q_load rfl rfl rfl rfl) ?_
                refine y_op rfl (q_move rfl) ?_
                refine y_op rfl (q_call rfl rfl (pc_r_Bit n.natAbs j (by omega))) ?_
                refine y_op rfl (q_int rfl rfl rfl) ?_
                refine AOps.nil ?_
                refine ARun.cond rfl (fun h2 => ?_) (fun h2 => ?_)
                · skip
                  have h2 : n.natAbs / 2 ^ j % 2 = 1 := by
                    have : ((n.natAbs / 2 ^ j % 2 : Nat) : Int) = 1 := by simpa using h2
                    omega
                  refine ARun.drawnP 5 (fun _ => False) mixC rfl rfl (by kernel_rfl) (fun _ _ h => h.elim) ?_
                  refine .op rfl (q_loadAggP rfl rfl rfl rfl rfl rfl) ?_
                  refine .op rfl (q_loadAgg rfl rfl rfl rfl rfl) ?_
                  refine .op rfl (q_call rfl rfl (pc_s_Times _ _ (by omega) (by omega))) ?_
                  refine .op rfl (q_loadAgg rfl rfl rfl rfl rfl) ?_
                  refine .op rfl (q_call rfl rfl ((pc_s_rest _ m (by omega) (by omega) hmp).mono fun o ho => by rw [ho, mul_emod1, show 2 * (n.natAbs / 2 ^ (j + 1)) + 1 = n.natAbs / 2 ^ j by omega])) ?_
                  refine .nil (fun hG => ?_)
                  refine y_new rfl (n_storeN rfl rfl rfl rfl rfl rfl rfl rfl (Nat.le_of_ble_eq_true rfl) rfl) ?_
                  refine AOps.nil ?_
                  refine ARun.inBlock ?_
                  refine ARun.region ?_
                  refine y_op rfl (q_move rfl) ?_
                  refine y_op rfl (q_sub rfl rfl (IntWalk.i64_in _ (by omega))) ?_
                  refine y_op rfl (q_assign rfl) ?_
                  refine AOps.nil ?_
                  refine ARun.again (ih ((j, a ^ (n.natAbs / 2 ^ j) % m)) ?_ ?_) ?_ ?_
                  · exact ⟨by dsimp only; omega, rfl⟩
                  · exact Nat.lt_succ_self _
                  · (repeat' first | exact envLe_nil | apply envLe_any | apply envLe_same)
                  · rfl
                · skip
                  have h2 : n.natAbs / 2 ^ j % 2 = 0 := by
                    have : ¬ ((n.natAbs / 2 ^ j % 2 : Nat) : Int) = 1 := by simpa using h2
                    omega
                  rw [show 2 * (n.natAbs / 2 ^ (j + 1)) = n.natAbs / 2 ^ j by omega]
                  refine ARun.skip ?_
                  refine ARun.inBlock ?_
                  refine ARun.region ?_
                  refine y_op rfl (q_move rfl) ?_
                  refine y_op rfl (q_sub rfl rfl (IntWalk.i64_in _ (by omega))) ?_
                  refine y_op rfl (q_assign rfl) ?_
                  refine AOps.nil ?_
                  refine ARun.again (ih ((j, a ^ (n.natAbs / 2 ^ j) % m)) ?_ ?_) ?_ ?_
                  · exact ⟨by dsimp only; omega, rfl⟩
                  · exact Nat.lt_succ_self _
                  · (repeat' first | exact envLe_nil | apply envLe_any | apply envLe_same)
                  · rfl
              · skip
                have hk0 : k = 0 := by omega
                subst hk0
                rw [Nat.pow_zero, Nat.div_one]
                refine ARun.exit rfl ?_
                refine ARun.seq ?_
                refine ARun.region ?_
                refine y_op rfl (q_loadAggP rfl rfl rfl rfl rfl rfl) ?_
                refine y_op rfl (q_build rfl rfl rfl rfl rfl) ?_
                refine y_new rfl (n_storeN rfl rfl rfl rfl rfl rfl rfl rfl (Nat.le_of_ble_eq_true rfl) rfl) ?_
                refine AOps.nil ?_
                refine ARun.ret ?_
                refine ⟨_, _, _, ResR.cellA rfl rfl rfl rfl rfl rfl .nil, .cons (.same _) .nil, rfl, ?_⟩
                rfl
end Go.V
set_option maxHeartbeats 4000000
set_option maxRecDepth 100000
set_option synthInstance.maxSize 100000
set_option synthInstance.maxHeartbeats 2000000
namespace Go.V
open Go.RowKit Go.Proofs
theorem pc_l_Powers (d1 d2 d3 : Bool × List Nat) (h1 : U32 d1.2) (h2 : U32 d2.2) (h3 : U32 d3.2) (k : Int) (hk : k ≤ 9223372036854775807) : PC C n_law02_WholePowers [intA d1.1 d1.2, .int .i64 k, intA d2.1 d2.2, intA d3.1 d3.2] (fun o => o = .ret (.bool true)) := by
  refine PC.run fn_law02_WholePowers en_law02_WholePowers rfl nt_law02_WholePowers rfl (rs := [.tmp 8]) (by rw [rs_law02_WholePowers]) (by simp only [List.length_cons, List.length_nil, Nat.reduceAdd, Nat.reduceSub, List.replicate_succ, List.replicate_zero, List.cons_append, List.nil_append]; exact rfl) ?_
  refine ARun.seq ?_
  refine ARun.region ?_
  refine y_op rfl (q_boxF rfl rfl rfl rfl) ?_
  refine y_op rfl (q_boxF rfl rfl rfl rfl) ?_
  refine y_op rfl (q_boxF rfl rfl rfl rfl) ?_
  refine y_op rfl (q_assign rfl) ?_
  refine AOps.nil ?_
  refine ARun.seq ?_
  refine ARun.seq ?_
  refine ARun.join (S := Bool) (fun t : Bool => [(13, .any), (14, .any), (15, .any), (16, .any), (17, .any), (18, .any), (19, .any), (20, .any), (21, .any), (22, .any), (23, .any), (24, .any), (25, .any), (26, .any), (27, .any), (28, .any), (29, .any), (30, .any), (31, .any), (32, .any), (33, .any), (34, .any), (35, .bool t)]) (fun t : Bool => True) (fun run => ?_) ?_
  · skip
    refine ARun.region ?_
    refine y_op rfl (q_loadAgg rfl rfl rfl rfl rfl) ?_
    refine y_op rfl (q_call rfl rfl (pc_l_small d1 8)) ?_
    refine y_op rfl (q_not rfl) ?_
    refine y_op rfl (q_move rfl) ?_
    refine AOps.bool 16 rfl (fun c1 => ?_) (fun c1 => ?_)
    · skip
      refine y_skip rfl ?_
      refine y_skip rfl ?_
      refine y_skip rfl ?_
      refine y_op rfl (q_pick rfl rfl rfl rfl) ?_
      refine y_op rfl (q_move rfl) ?_
      refine y_skip rfl ?_
      refine y_skip rfl ?_
      refine y_skip rfl ?_
      refine y_op rfl (q_pick rfl rfl rfl rfl) ?_
      refine y_op rfl (q_move rfl) ?_
      refine y_skip rfl ?_
      refine y_skip rfl ?_
      refine y_skip rfl ?_
      refine y_skip rfl ?_
      refine y_skip rfl ?_
      refine y_skip rfl ?_
      refine y_skip rfl ?_
      refine y_skip rfl ?_
      refine y_op rfl (q_pick rfl rfl rfl rfl) ?_
      refine AOps.nil ?_
      exact ARun.again (run (true) (trivial)) (by (repeat' first | exact envLe_nil | apply envLe_any | apply envLe_same)) rfl
    · skip
      refine y_op rfl (q_loadAgg rfl rfl rfl rfl rfl) ?_
      refine y_op rfl (q_call rfl rfl (pc_l_small d2 2)) ?_
      refine y_op rfl (q_not rfl) ?_
      refine y_op rfl (q_pick rfl rfl rfl rfl) ?_
      refine y_op rfl (q_move rfl) ?_
      refine AOps.bool 21 rfl (fun c2 => ?_) (fun c2 => ?_)
      · skip
        refine y_skip rfl ?_
        refine y_skip rfl ?_
        refine y_skip rfl ?_
        refine y_op rfl (q_pick rfl rfl rfl rfl) ?_
        refine y_op rfl (q_move rfl) ?_
        refine y_skip rfl ?_
        refine y_skip rfl ?_
        refine y_skip rfl ?_
        refine y_skip rfl ?_
        refine y_skip rfl ?_
        refine y_skip rfl ?_
        refine y_skip rfl ?_
        refine y_skip rfl ?_
        refine y_op rfl (q_pick rfl rfl rfl rfl) ?_
        refine AOps.nil ?_
        exact ARun.again (run (true) (trivial)) (by (repeat' first | exact envLe_nil | apply envLe_any | apply envLe_same)) rfl
      · skip
        refine y_op rfl (q_loadAgg rfl rfl rfl rfl rfl) ?_
        refine y_op rfl (q_call rfl rfl (pc_l_small d3 6)) ?_
        refine y_op rfl (q_not rfl) ?_
        refine y_op rfl (q_pick rfl rfl rfl rfl) ?_
        refine y_op rfl (q_move rfl) ?_
        refine AOps.bool 26 rfl (fun c3 => ?_) (fun c3 => ?_)
        · skip
          refine y_skip rfl ?_
          refine y_skip rfl ?_
          refine y_skip rfl ?_
          refine y_skip rfl ?_
          refine y_skip rfl ?_
          refine y_skip rfl ?_
          refine y_skip rfl ?_
          refine y_skip rfl ?_
          refine y_op rfl (q_pick rfl rfl rfl rfl) ?_
          refine AOps.nil ?_
          exact ARun.again (run (true) (trivial)) (by (repeat' first | exact envLe_nil | apply envLe_any | apply envLe_same)) rfl
        · skip
          refine y_op rfl (q_move rfl) ?_
          refine y_op rfl (q_int rfl rfl rfl) ?_
          refine y_op rfl (q_move rfl) ?_
          refine AOps.bool 29 rfl (fun c4 => ?_) (fun c4 => ?_)
          · skip
            refine y_op rfl (q_fldS rfl rfl rfl (by decide)) ?_
            refine y_op rfl (q_load rfl rfl rfl rfl) ?_
            refine y_op rfl (q_lenSl rfl rfl) ?_
            refine y_op rfl (q_int rfl rfl rfl) ?_
            refine y_op rfl (q_pick rfl rfl rfl rfl) ?_
            refine y_op rfl (q_pick rfl rfl rfl rfl) ?_
            refine AOps.nil ?_
            exact ARun.again (run (decide (((d1.2.length : Nat) : Int) > 0)) (trivial)) (by (repeat' first | exact envLe_nil | apply envLe_any | apply envLe_same)) rfl
          · skip
            refine y_skip rfl ?_
            refine y_skip rfl ?_
            refine y_skip rfl ?_
            refine y_skip rfl ?_
            refine y_op rfl (q_pick rfl rfl rfl rfl) ?_
            refine y_op rfl (q_pick rfl rfl rfl rfl) ?_
            refine AOps.nil ?_
            exact ARun.again (run (false) (trivial)) (by (repeat' first | exact envLe_nil | apply envLe_any | apply envLe_same)) rfl
  · rintro t hj
    try dsimp only at hj ⊢
    refine ARun.cond rfl (fun c => ?_) (fun c => ?_)
    · skip
      refine ARun.seq ?_
      refine ARun.region ?_
      refine y_op rfl (q_call rfl rfl (pc_l_awake)) ?_
      refine y_op rfl (q_assign rfl) ?_
      refine AOps.nil ?_
      refine ARun.ret ?_
      refine ⟨_, _, _, .tmp rfl .nil, .cons (.same _) .nil, rfl, ?_⟩
      rfl
    · skip
      refine ARun.skip ?_
      refine ARun.seq ?_
      refine ARun.region ?_
      refine y_op rfl (q_loadAgg rfl rfl rfl rfl rfl) ?_
      refine y_op rfl (q_move rfl) ?_
      refine y_op rfl (q_call rfl rfl (pc_w_Pow d1 h1 k hk)) ?_
      refine y_op rfl (q_move rfl) ?_
      refine y_op rfl (q_extract rfl rfl) ?_
      refine y_op rfl (q_extract rfl rfl) ?_
      refine y_allocF rfl rfl rfl rfl rfl rfl rfl rfl rfl rfl rfl ?_
      refine y_op rfl (q_assign rfl) ?_
      refine AOps.nil ?_
      refine ARun.seq ?_
      refine ARun.region ?_
      refine y_op rfl (q_loadAgg rfl rfl rfl rfl rfl) ?_
      refine y_op rfl (q_loadAgg rfl rfl rfl rfl rfl) ?_
      refine y_op rfl (q_loadAgg rfl rfl rfl rfl rfl) ?_
      refine y_op rfl (q_call rfl rfl (pc_w_ModPow d1 d2 d3 h1 h2 h3)) ?_
      refine y_op rfl (q_move rfl) ?_
      refine y_op rfl (q_extract rfl rfl) ?_
      refine y_op rfl (q_extract rfl rfl) ?_
      refine y_allocF rfl rfl rfl rfl rfl rfl rfl rfl rfl rfl rfl ?_
      refine y_op rfl (q_assign rfl) ?_
      refine AOps.nil ?_
      refine ARun.seq ?_
      refine ARun.drawnP 18 (fun _ => False) mixC rfl rfl (by kernel_rfl) (fun _ _ h => h.elim) ?_
      refine .op rfl (q_call rfl rfl (pc_l_awake)) ?_
      refine .op rfl (q_move rfl) ?_
      refine .op rfl (q_loadAgg rfl rfl rfl rfl rfl) ?_
      refine .op rfl (q_move rfl) ?_
      refine .op rfl (q_loadAgg rfl rfl rfl rfl rfl) ?_
      refine .op rfl (q_move rfl) ?_
      refine .op rfl (q_call rfl rfl (pc_s_Pow d1 h1 k hk)) ?_
      refine .op rfl (q_call rfl rfl (pc_l_got _)) ?_
      refine .op rfl (q_pick rfl rfl rfl rfl) ?_
      refine .op rfl (q_move rfl) ?_
      refine .op rfl (q_loadAgg rfl rfl rfl rfl rfl) ?_
      refine .op rfl (q_move rfl) ?_
      refine .op rfl (q_loadAgg rfl rfl rfl rfl rfl) ?_
      refine .op rfl (q_loadAgg rfl rfl rfl rfl rfl) ?_
      refine .op rfl (q_loadAgg rfl rfl rfl rfl rfl) ?_
      refine .op rfl (q_call rfl rfl (pc_s_ModPow d1 d2 d3 h1 h2 h3)) ?_
      refine .op rfl (q_call rfl rfl (pc_l_got _)) ?_
      refine .op rfl (q_pick rfl rfl rfl rfl) ?_
      refine .nil (fun hG => ?_)
      refine y_op rfl (q_assign rfl) ?_
      refine AOps.nil ?_
      refine ARun.ret ?_
      refine ⟨_, _, _, .tmp rfl .nil, .cons (.same _) .nil, rfl, ?_⟩
      rfl
end Go.V
/- THE ROWS: what the arguments read as, and what is left behind a call. -/
set_option maxRecDepth 100000
namespace Go.V
open Go.RowKit Go.Proofs Go.ChangeShapes Go.WideShapes Go.ChangeAt Go.ChangeMaps
theorem laidOutZ : laidOutB Tryz.prog = true := by kernel_rfl
theorem ownZ : ownKnob Tryz.prog.godebug = none := by kernel_rfl
theorem cell_lt {w : World} {a : Addr} {v : Value} (h : w.cell? a = some v) : a.block < w.heap.size := by
  apply Classical.byContradiction
  intro hn
  have : w.heap[a.block]? = none := by rw [Array.getElem?_eq_none_iff]; omega
  simp [World.cell?, this] at h
theorem SR0 (W : World) : SR C (fun _ => False) W [] [] :=
  ⟨rfl, fun i o b h => by simp at h, fun i j oi oj b h => by simp at h, fun i o b h => by simp at h, fun b h => h.elim, fun g cs h => by cases h⟩
theorem forb0 : forb (fun _ => False) [] [] = fun _ => False := by
  funext b
  apply propext
  constructor
  · rintro (h | ⟨i, o, h, _⟩)
    · exact h
    · simp at h
  · exact fun h => h.elim
section
variable {H : Type} {enc : TypeId × Value → H} {W : World}
theorem vr_limbs {fuel : Nat} {cs : List Value} {x : DataW H × List MemPlace} (h : DataW.trod enc Tryz.prog W 0 (fun _ => true) true fuel 23 cs = some x) :
    ∃ (v : Value) (xs : List Nat), cs = [v] ∧ U32 xs ∧ VR W (fun _ => False) [] [] (sln .u32 xs) v := by
  rcases open_ints Tryz.underlying23 Tryz.underlying54 (by kernel_rfl) h with ⟨rfl, _⟩ | ⟨a, len, cap, zs, rfl, _, hl, hm, hz, _, hcell, hwf⟩
  · refine ⟨_, [], rfl, fun _ h => (by cases h), ?_⟩
    simp only [VR]
    exact ⟨none, 0, rfl, Nat.le_refl _, Nat.zero_le _, fun h => (h rfl).elim⟩
  · simp only [if_true] at hz
    have hb : ∀ n ∈ zs, 0 ≤ n ∧ n < 4294967296 := by
      intro n hn
      have := hwf n hn
      simp [Lit.wf, IntKind.min, IntKind.max, IntKind.signed, IntKind.bits] at this
      omega
    have hu : U32 ((zs.take len).map Int.toNat) := by
      intro y hy
      obtain ⟨n, hn, rfl⟩ := List.mem_map.1 hy
      have := hb n (List.mem_of_mem_take hn)
      show n.toNat < 4294967296
      omega
    have hlen : ((zs.take len).map Int.toNat).length = len := by rw [List.length_map, List.length_take]; omega
    refine ⟨_, (zs.take len).map Int.toNat, rfl, hu, ?_⟩
    have hget : ∀ j : Nat, j < len → nts .u32 ((zs.take len).map Int.toNat) = nts .u32 ((zs.take len).map Int.toNat) → ((nts .u32 ((zs.take len).map Int.toNat))[j]? = some (.int .u32 (zs.getD j 0))) := by
      intro j hj _
      have hjz : j < zs.length := by omega
      have hn := hb (zs[j]'hjz) (List.getElem_mem hjz)
      simp only [nts, List.map_map, List.getElem?_map, List.getElem?_take, if_pos hj, List.getElem?_eq_getElem hjz, Option.map_some, Function.comp, List.getD_eq_getElem?_getD, Option.getD_some]
      congr 2
      omega
    simp only [VR]
    refine ⟨some a, cap, by rw [hlen], by rw [hlen]; exact hl, hm, fun hne => ⟨a, rfl, ?_, id, VRL_mk fun j d hd => ?_⟩⟩
    · have h0 : 0 < zs.length := by
        rcases Nat.eq_zero_or_pos zs.length with h | h
        · have : zs = [] := List.eq_nil_of_length_eq_zero h
          subst this
          simp [nts] at hne
        · exact h
      exact cell_lt (hcell 0 h0)
    · have hj : j < len := by
        have := (List.getElem?_eq_some_iff.1 hd).1
        simp only [nts, List.length_map, List.length_take] at this
        omega
      rw [hget j hj rfl] at hd
      injection hd with hd
      subst hd
      exact ⟨_, by rw [Nat.zero_add]; exact hcell j (by omega), rfl, by simp only [VR]⟩
theorem vr_Int {base : Nat} {v : Value} {d : DataW H} {p : List MemPlace} (hv : Value.okWide Tryz.prog W .any base 25 v) (h : DataW.Trod enc Tryz.prog W 0 (fun _ => true) true 25 v d p) :
    ∃ e : Bool × List Nat, U32 e.2 ∧ VR W (fun _ => False) [] [] (.agg [.bool e.1, sln .u32 e.2]) v := by
  obtain ⟨cs, rfl, hsz⟩ := okWide_struct Tryz.underlying25 hv
  obtain ⟨fuel, hf⟩ := h
  obtain ⟨y0, y1, n, _, hl, h0, h1⟩ := trod_struct2 Tryz.underlying25 hf
  have c25 : Tryz.prog.cellsOf 25 = 2 := by kernel_rfl
  have c4 : Tryz.prog.cellsOf 4 = 1 := by kernel_rfl
  have c23 : Tryz.prog.cellsOf 23 = 1 := by kernel_rfl
  rw [c25] at hsz
  obtain ⟨l⟩ := cs
  match l, hsz with
  | [c0, c1], _ =>
    simp only [Value.cells] at h0 h1
    rw [c4] at h0
    rw [c23] at h1
    obtain ⟨b, e0, _⟩ := DataW.trod_bool Tryz.underlying4 h0
    obtain ⟨v1, xs, e1, hu, hx⟩ := vr_limbs h1
    simp at e0 e1
    subst e0; subst e1
    refine ⟨(b, xs), hu, ?_⟩
    simp only [VR, VRs]
    refine ⟨[.bool b, c1], rfl, .bool b, [c1], rfl, rfl, c1, [], rfl, ?_, rfl⟩
    simpa only [VR] using hx
theorem vr_int {base : Nat} {v : Value} {d : DataW H} {p : List MemPlace} (hv : Value.okWide Tryz.prog W .any base 3 v) (h : DataW.Trod enc Tryz.prog W 0 (fun _ => true) true 3 v d p) :
    ∃ n : Int, -9223372036854775808 ≤ n ∧ n ≤ 9223372036854775807 ∧ VR W (fun _ => False) [] [] (.int .i64 n) v := by
  obtain ⟨n, rfl, _, _, hw⟩ := open_int Tryz.underlying3 hv h
  simp [Lit.wf, IntKind.min, IntKind.max, IntKind.signed, IntKind.bits] at hw
  exact ⟨n, by omega, by omega, by simp only [VR]⟩
theorem trodAll_stays {W' : World} (hb : Below W.heap.size W W') {sp : Nat → Bool} : ∀ {ts : List TypeId} {vs : List Value} {ds : List (DataW H)} {p : List MemPlace}, (∀ t ∈ ts, Tryz.prog.readableRec t = true ∧ t < Tryz.prog.types.size) →
    DataW.TrodAll enc Tryz.prog W 0 (fun _ => true) true ts vs ds p → (∀ x ∈ p, x.block < W.heap.size ∧ sp x.block = true) → DataW.TrodAll enc Tryz.prog W' 0 sp true ts vs ds p
  | [], _, _, _, _, h, _ => by
    obtain ⟨rfl, rfl, rfl⟩ := trodAll_nil h
    simp [DataW.TrodAll]
  | t :: ts, _, _, _, ht, h, hp => by
    obtain ⟨v, vs, d, ds, a, b, rfl, rfl, rfl, h1, h2⟩ := trodAll_cons h
    obtain ⟨r1, r2⟩ := ht t (List.mem_cons_self ..)
    exact ⟨a, b, WideElems.Trod_stays laidOutZ r1 r2 h1 (fun x hx => hb.same (hp x (List.mem_append_left _ hx)).1) (fun x hx => (hp x (List.mem_append_left _ hx)).2),
      trodAll_stays hb (fun t ht' => ht t (List.mem_cons_of_mem _ ht')) h2 (fun x hx => hp x (List.mem_append_right _ hx)), rfl⟩
theorem law_post {fn : Func} {s : ChangeSpec} {W' : World} {args : Array Value} {ds : List (DataW H)} {before : List MemPlace} (hs : s.vars = []) (hW : DataW.Whole enc Tryz.prog fn.params.toList s.vars false W args.toList ds [] before) (hf : s.fn H ds = { results := [.lit (.bool true)], args := ds })
    (hr : fn.resultTypes = #[4]) (hts : ∀ t ∈ fn.params.toList, Tryz.prog.readableRec t = true ∧ t < Tryz.prog.types.size) (hb : Below W.heap.size W W') : s.post enc Tryz.prog fn false true false false W args (.bool true) W' := by
  have hW' := hW
  obtain ⟨p, q, hA, hV, rfl, _, _⟩ := hW
  rw [hs] at hV
  obtain ⟨_, rfl⟩ := trodVars_none hV
  have hlt : ∀ x ∈ p, x.block < W.heap.size := fun x hx => by simpa using hW'.lt x (List.mem_append_left _ hx)
  refine ⟨ds, [], p ++ [], [], p, [], hW', ?_, ?_, ?_, hb.frame _, fun h => by cases h⟩
  · rw [List.append_nil, hf, hr]
    exact trodAll_mk1 (shut_bool Tryz.underlying4 _)
  · rw [List.append_nil, hf]
    exact trodAll_stays hb hts hA fun x hx => ⟨hlt x hx, by simpa using hlt x hx⟩
  · rw [List.append_nil, hf, hs]
    rfl
end
/-- A law's call, out of its contract. -/
theorem law_calls {f : FuncId} {ds : List D} {W : World} {vs : List Value} (hc : PC C f ds (fun o => o = .ret (.bool true))) (hv : VRs W (fun _ => False) [] [] ds vs) : Calls Tryz.prog f vs.toArray W fun e W' => e = .returned (.bool true) ∧ Below W.heap.size W W' := by
  have h := (hc []).2 (fun _ => False) W [] vs (SR0 W) (by rw [forb0]; exact hv)
  refine h.mono ?_
  rintro e W' ⟨o, H', μ', ⟨rfl, rfl⟩, _, ⟨v, he, hv'⟩, hevo⟩
  simp only [VR] at hv'
  subst hv'
  exact ⟨he, hevo.os, hevo.tape, hevo.output, hevo.size, fun k hk => hevo.chg k hk fun ⟨i, o, h, _⟩ => by simp at h⟩
end Go.V
/- The closed facts of a row, one by one: what holds of the program itself, and how they are joined; no condition. -/
set_option maxRecDepth 100000
namespace Go.V
open Go.Proofs
theorem and_t {a b : Bool} (h1 : a = true) (h2 : b = true) : (a && b) = true := by rw [h1, h2]; rfl
theorem joined_of {P : Program} {f : FuncId} {fn : Func} {s : ChangeSpec} {c : OpenClaim}
    (k1 : (c.wf (OpenSpec.ofChange s)) = true)
    (k2 : (laidOutB P) = true)
    (k3 : (mapsRowed P) = true)
    (k4 : (fn.params.all (P.readableRec ·)) = true)
    (k5 : (namedTie P c.named s.vars) = true)
    (k6 : (c.stops == []) = true)
    (k7 : (P.stops == []) = true)
    (k8 : (c.knobs == []) = true)
    (k9 : (P.stopKnobs == []) = true)
    (k10 : (c.inPlace == P.inPlace f) = true)
    (k11 : (c.unfollowed == P.unfollowed f) = true)
    (k12 : (c.recurses == P.recurses f) = true)
    (k13 : (c.named == P.varsNamed f) = true)
    (k14 : ((c.maps == (fn.params.toList ++ s.plain.varTypes P).any (P.mapsRec ·))) = true)
    (k15 : ((c.ifaces == (fn.params.toList ++ s.plain.varTypes P).any (P.ifacesRec ·))) = true)
    (k16 : (c.mapsOut == P.mapsAmong fn.resultTypes.toList) = true)
    (k17 : ((c.loops == (fn.params.toList ++ s.plain.varTypes P).any (P.loopsFrom ·))) = true)
    (k18 : ((c.wideKeys == (fn.params.toList ++ s.plain.varTypes P ++ fn.resultTypes.toList).any (P.wideKeysFrom ·))) = true)
    (k19 : (s.vars.all (P.varReadable ·)) = true)
    (k20 : (fn.resultTypes.all (fun t => P.readableRec t && decide (t < P.types.size))) = true)
    (k21 : ((c.ifacesOut == fn.resultTypes.toList.any (P.ifacesRec ·))) = true)
    (k22 : ((c.loopsOut == fn.resultTypes.toList.any (P.loopsFrom ·))) = true)
    (k23 : (c.plainKeys == P.plainKeys) = true)
    (k24 : (c.shortTexts.isNone) = true)
    (k25 : (P.stopsHeard) = true)
    (k26 : (P.mayEnter) = true)
    (k27 : (c.lifted == P.liftsFinal) = true)
    (k28 : (P.make == some c.make) = true)
    (k29 : ((c.kinds == (if c.domain.isEmpty then [] else fn.params.toList.map fun t => match P.underlying t with | some (.int k) => some k | _ => none))) = true)
    (k30 : (c.pinned == c.pinnedBy) = true)
    (k31 : ((c.veiled == (fn.params.toList ++ s.plain.varTypes P ++ fn.resultTypes.toList).any (P.veiledRec ·))) = true)
    (k32 : (c.veiledFits P fn.params.toList (fn.params.toList ++ s.plain.varTypes P ++ fn.resultTypes.toList)) = true)
    : joinedFacts P f fn s c = true := by
  unfold joinedFacts
  exact and_t (and_t (and_t (and_t (and_t (and_t (and_t (and_t (and_t (and_t (and_t (and_t (and_t (and_t (and_t (and_t (and_t (and_t (and_t (and_t (and_t (and_t (and_t (and_t (and_t (and_t (and_t (and_t (and_t (and_t (and_t k1 k2) k3) k4) k5) k6) k7) k8) k9) k10) k11) k12) k13) k14) k15) k16) k17) k18) k19) k20) k21) k22) k23) k24) k25) k26) k27) k28) k29) k30) k31) k32
theorem z_maps : mapsRowed Tryz.prog = true := by kernel_rfl
theorem z_plainKeys : (Go.Proofs.YtjohcjagbodicaaGreatDoor.Rows.wholeSumsRow.plainKeys == Tryz.prog.plainKeys) = true := by kernel_rfl
theorem z_stopsHeard : Tryz.prog.stopsHeard = true := by kernel_rfl
theorem z_lifts : (Go.Proofs.YtjohcjagbodicaaGreatDoor.Rows.wholeSumsRow.lifted == Tryz.prog.liftsFinal) = true := by kernel_rfl
theorem z_make : (Tryz.prog.make == some Go.Proofs.YtjohcjagbodicaaGreatDoor.Rows.wholeSumsRow.make) = true := by kernel_rfl
theorem z_main : YtjohcjagbodicaaGreatDoor.Tryz.pinned.checked.prog.mainIs = some (true, "5b8a1e8da34a88fc5bd34c331ad38cb7b46866bf85af6ffc6bc920dabf7d6da1".toList) := by kernel_rfl
theorem z_looks : true = Tryz.prog.looks [] := by kernel_rfl
theorem z_enter : Tryz.prog.mayEnter = true := by kernel_rfl
end Go.V
