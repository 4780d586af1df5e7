/- A part of the proof: abstract values, rules for the steps of the program's form, and contracts of its functions, each proved; no condition. -/
import Derived.Test.YtjohcjagbodicaaGreatDoorA13
import Derived.Test.YtjohcjagbodicaaGreatDoorTie
import Derived.Test.YtjohcjagbodicaaGreatDoorCards
import Derived.ProofKit
import Derived.OpenShut
import Derived.LaidMore
import Derived.Lay
import Derived.SevenTiedAt
import Derived.Carry
import Derived.Stop.Joined
set_option linter.unusedVariables false
set_option linter.unusedSimpArgs false
set_option maxHeartbeats 4000000
set_option maxRecDepth 100000
set_option synthInstance.maxSize 100000
set_option synthInstance.maxHeartbeats 2000000
namespace Go.V
open Go.RowKit Go.Proofs
def invO (a m : Int) : Int ⊕ Int := if m = 0 then .inr 8 else if m < 0 then .inr 1 else if gG a m = 1 then .inl (gcdX a m) else .inr 5
theorem resZ_inv (ok : Bool) (a m : Int) : resZ ok (invO a m) = invR ok a m := by
  unfold invO invR
  cases ok
  · rfl
  · repeat' split
    all_goals rfl
theorem len_pos_iff {z : Int} : decide (((lim z.natAbs).length : Int) > 0) = decide (z ≠ 0) := by
  have := @ln_pos z.natAbs
  exact decide_eq_decide.2 ⟨fun h e => (by subst e; rw [show (0 : Int).natAbs = 0 from rfl, lim_zero] at h; cases h), fun h => (by have := this.2 (by omega); omega)⟩
theorem cmpZ_one {z : Int} : (cmpZ z 1 == 0) = decide (z = 1) := cmpZ_zero z 1
theorem pc_w_Inverse_1 (a m : Int) (ha : fitZ a) (hm : fitZ m) : PC C n_whole_Inverse_1 [capZ m, capZ a] (fun o => o = outZ (invO a m)) := by
  obtain ⟨q1, q2, q3⟩ := fit_gcd (a := a) (b := m) ha hm
  refine PC.run fn_whole_Inverse_1 en_whole_Inverse_1 rfl nt_whole_Inverse_1 rfl (rs := [.cell 2 25]) (by rw [rs_whole_Inverse_1]) (by simp only [List.length_cons, List.length_nil, Nat.reduceAdd, Nat.reduceSub, List.replicate_succ, List.replicate_zero, List.cons_append, List.nil_append]; exact rfl) ?_
  refine ARun.seq ?_
  refine ARun.region ?_
  refine y_new rfl (n_alloc rfl rfl rfl rfl) ?_
  refine AOps.nil ?_
  refine ARun.seq ?_
  refine ARun.region ?_
  refine y_op rfl (q_fldS rfl rfl rfl (by decide)) ?_
  refine y_op rfl (q_load rfl rfl rfl rfl) ?_
  refine y_op rfl (q_lenSl rfl rfl) ?_
  refine y_op rfl (q_intB (b := decide (m ≠ 0)) rfl rfl rfl len_pos_iff) ?_
  refine y_gop rfl (g_call rfl rfl (PC.gp (pc_w_need _ 8))) (fun hg => ?_) (fun q hq => by obtain ⟨hq, rfl⟩ := hq; exact ⟨_, _, .same _, rfl, by have hq : m = 0 := (by simpa using hq); unfold invO; rw [if_pos hq]; rfl⟩)
  have hm0 : m ≠ 0 := of_decide_eq_true hg
  refine AOps.nil ?_
  refine ARun.seq ?_
  refine ARun.region ?_
  refine y_op rfl (q_fldS rfl rfl rfl (by decide)) ?_
  refine y_op rfl (q_load rfl rfl rfl rfl) ?_
  refine y_op rfl (q_not rfl) ?_
  refine y_gop rfl (g_call rfl rfl (PC.gp (pc_w_need _ 1))) (fun hg2 => ?_) (fun q hq => by obtain ⟨hq, rfl⟩ := hq; exact ⟨_, _, .same _, rfl, by have hq : m < 0 := (by simpa using hq); unfold invO; rw [if_neg (by omega), if_pos hq]; rfl⟩)
  have hm1 : ¬ m < 0 := by simpa using hg2
  refine AOps.nil ?_
  refine ARun.seq ?_
  refine ARun.region ?_
  refine y_op rfl (q_loadAgg rfl rfl rfl rfl rfl) ?_
  refine y_op rfl (q_loadAgg rfl rfl rfl rfl rfl) ?_
  refine y_op rfl (q_call rfl rfl (pc_w_gcd a m ha hm)) ?_
  refine y_op rfl (q_move rfl) ?_
  refine y_op rfl (q_extract rfl rfl) ?_
  refine y_op rfl (q_extract rfl rfl) ?_
  refine y_op rfl (q_extract rfl rfl) ?_
  refine y_allocF3 (alW rfl rfl rfl rfl rfl rfl rfl rfl rfl rfl rfl) (alW rfl rfl rfl rfl rfl rfl rfl rfl rfl rfl rfl) (alW rfl rfl rfl rfl rfl rfl rfl rfl rfl rfl rfl) rfl rfl rfl ?_
  refine AOps.nil ?_
  refine ARun.seq ?_
  refine ARun.drawnP 5 (fun q => ¬ gG a m = 1 ∧ q = failW 5) mixC rfl rfl (by kernel_rfl) (fun _ d hd => by obtain ⟨hd, rfl⟩ := hd; exact ⟨_, _, .same _, rfl, by unfold invO; rw [if_neg hm0, if_neg hm1, if_neg hd]; rfl⟩) ?_
  refine .op rfl (q_loadAgg rfl rfl rfl rfl rfl) ?_
  refine .op rfl (q_call rfl rfl (pc_w_FromInt 1 (by decide) (by decide))) ?_
  refine .op rfl (q_call rfl rfl (pc_w_cmp (gG a m : Int) 1 q1 (fit_small (by decide)))) ?_
  refine .op rfl (q_intB (b := decide (gG a m = 1)) rfl rfl rfl (by rw [cmpZ_one]; exact decide_eq_decide.2 (by omega))) ?_
  refine .opP rfl (g_call rfl rfl ((pc_w_need _ 5).mono fun o ho => ho.imp id (fun ⟨x, y⟩ => ⟨_, ⟨of_decide_eq_false x, rfl⟩, y⟩))) ?_
  refine .nil (fun hG => ?_)
  refine AOps.nil ?_
  refine ARun.seq ?_
  refine ARun.region ?_
  refine y_op rfl (q_loadAgg rfl rfl rfl rfl rfl) ?_
  have hg3 : gG a m = 1 := of_decide_eq_true hG.2
  refine y_op rfl (q_call rfl rfl (pc_w_own (gcdX a m) q2)) ?_
  refine y_new rfl (n_storeN rfl rfl rfl rfl rfl rfl rfl rfl (Nat.le_of_ble_eq_true rfl) rfl) ?_
  refine AOps.nil ?_
  refine ARun.ret ?_
  refine ⟨_, _, _, ResR.cellA rfl rfl rfl rfl rfl rfl .nil, .cons (.same _) .nil, rfl, ?_⟩
  unfold invO; rw [if_neg hm0, if_neg hm1, if_pos hg3]; rfl
theorem pc_w_Inverse (d1 d2 : Bool × List Nat) (h1 : U32 d1.2) (h2 : U32 d2.2) : PC C n_whole_Inverse [intA d1.1 d1.2, intA d2.1 d2.2] (fun o => o = .ret (.tup [intD (invR ([d1, d2].all okI) (valI d1) (valI d2)).1, .int .i64 (invR ([d1, d2].all okI) (valI d1) (valI d2)).2])) := by
  have hr := resZ_inv ([d1, d2].all okI) (valI d1) (valI d2)
  refine PC.run fn_whole_Inverse en_whole_Inverse rfl nt_whole_Inverse rfl (rs := [.cell 4 25, .tmp 5]) (by rw [rs_whole_Inverse]) (by simp only [List.length_cons, List.length_nil, Nat.reduceAdd, Nat.reduceSub, List.replicate_succ, List.replicate_zero, List.cons_append, List.nil_append]; exact rfl) ?_
  refine ARun.seq ?_
  refine ARun.region ?_
  refine y_op rfl (q_boxF rfl rfl rfl rfl) ?_
  refine y_op rfl (q_boxF rfl rfl rfl rfl) ?_
  refine y_new rfl (n_alloc rfl rfl rfl rfl) ?_
  refine y_op rfl (q_assign rfl) ?_
  refine AOps.nil ?_
  refine ARun.seq ?_
  refine ARun.region ?_
  refine y_op rfl (q_mkFunc rfl) ?_
  refine y_op rfl (q_loadAgg rfl rfl rfl rfl rfl) ?_
  refine y_op rfl (q_loadAgg rfl rfl rfl rfl rfl) ?_
  refine y_op rfl (q_buildF rfl rfl rfl rfl rfl rfl rfl rfl rfl rfl rfl (by decide) (by decide) rfl) ?_
  refine y_op rfl (q_call rfl rfl (pc_w_compute [d1, d2] 2 rfl n_whole_Inverse_1 [.sptr [.bool d2.1, sln .u32 d2.2], .sptr [.bool d1.1, sln .u32 d1.2]] rfl (invO (valI d1) (valI d2)) (fun h => by obtain ⟨x, y, rfl, f1, rfl, f2⟩ := okI2 h1 h2 h; rw [valI_int, valI_int]; exact pc_w_Inverse_1 x y f1 f2))) ?_
  refine y_op rfl (q_extract rfl rfl) ?_
  refine y_op rfl (q_extract rfl rfl) ?_
  refine y_new rfl (n_storeN rfl rfl rfl rfl rfl rfl rfl rfl (Nat.le_of_ble_eq_true rfl) rfl) ?_
  refine y_op rfl (q_assign rfl) ?_
  refine AOps.nil ?_
  refine ARun.ret ?_
  refine ⟨_, _, _, ResR.cellA rfl rfl rfl rfl rfl rfl (.tmp rfl .nil), .cons (.same _) (.cons (.same _) .nil), rfl, ?_⟩
  rw [← hr]
  rfl
end Go.V
/- THE FOUR WAYS OF DIVISION: what quotients and rests satisfy: plain Lean. -/
namespace Go.V
theorem divW_abs {a b : Int} (h0 : b ≠ 0) (w : Bool) : divW w a b = if a.natAbs % b.natAbs = 0 ∨ w = false then (sgnd (!(decide (a < 0) == decide (b < 0))) (a.natAbs / b.natAbs), sgnd (decide (a < 0)) (a.natAbs % b.natAbs)) else (sgnd (!(decide (a < 0) == decide (b < 0))) (a.natAbs / b.natAbs + 1), sgnd (!(decide (a < 0))) (b.natAbs - a.natAbs % b.natAbs)) := by
  unfold divW
  rw [← sgnd_tdiv, ← sgnd_tmod]
  have hz : (sgnd (decide (a < 0)) (a.natAbs % b.natAbs) = 0) ↔ a.natAbs % b.natAbs = 0 := by
    cases decide (a < 0) <;> simp only [sgnd, cond_true, cond_false] <;> omega
  have hlt : a.natAbs % b.natAbs < b.natAbs := Nat.mod_lt _ (by omega)
  by_cases h : a.natAbs % b.natAbs = 0 ∨ w = false
  · rw [if_pos h, if_pos (by rw [hz]; exact h)]
  · rw [if_neg h, if_neg (by rw [hz]; exact h)]
    unfold stepZ
    refine Prod.ext ?_ ?_
    · dsimp only
      cases (!(decide (a < 0) == decide (b < 0))) <;> simp only [sgnd, cond_true, cond_false] <;> omega
    · dsimp only
      cases decide (a < 0) <;> simp only [sgnd, cond_true, cond_false, Bool.not_true, Bool.not_false] <;> omega
structure DvF (k a b q r : Int) : Prop where
  e : q * b + r = a
  lt : r.natAbs < b.natAbs
  f1 : k = 1 → r ≠ 0 → decide (r < 0) = decide (a < 0)
  f2 : k = 2 → r ≠ 0 → decide (r < 0) = decide (b < 0)
  f3 : k = 3 → ¬ r < 0
  f4 : k = 4 → 2 * r.natAbs < b.natAbs ∨ (2 * r.natAbs = b.natAbs ∧ q.natAbs % 2 = 0)
  lq : q.natAbs ≤ a.natAbs + 1
theorem divW_facts {a b : Int} (h0 : b ≠ 0) (k : Int) : DvF k a b (divW (awayZ k (a.tdiv b) (a.tmod b) a b) a b).1 (divW (awayZ k (a.tdiv b) (a.tmod b) a b) a b).2 := by
  have he := divW_rest (a := a) (b := b) (awayZ k (a.tdiv b) (a.tmod b) a b)
  have hlt : a.natAbs % b.natAbs < b.natAbs := Nat.mod_lt _ (by omega)
  have hT : a.natAbs / b.natAbs ≤ a.natAbs := Nat.div_le_self _ _
  have haw : awayZ k (a.tdiv b) (a.tmod b) a b = (if k = 2 then !(decide (a < 0) == decide (b < 0)) else if k = 3 then decide (a < 0) else if k = 4 then decide (b.natAbs < 2 * (a.natAbs % b.natAbs)) || (decide (2 * (a.natAbs % b.natAbs) = b.natAbs) && decide (a.natAbs / b.natAbs % 2 = 1)) else false) := by
    unfold awayZ
    rw [abs_tmod, Int.natAbs_tdiv]
    rfl
  rw [divW_abs h0, haw] at he ⊢
  generalize a.natAbs % b.natAbs = M at hlt he ⊢
  generalize a.natAbs / b.natAbs = T at hT he ⊢
  generalize hw : (if k = 2 then !(decide (a < 0) == decide (b < 0)) else if k = 3 then decide (a < 0) else if k = 4 then decide (b.natAbs < 2 * M) || (decide (2 * M = b.natAbs) && decide (T % 2 = 1)) else false) = w at he ⊢
  have hw1 : k = 1 → w = false := fun hk => by subst hk; exact hw.symm
  have hw2 : k = 2 → w = !(decide (a < 0) == decide (b < 0)) := fun hk => by subst hk; exact hw.symm
  have hw3 : k = 3 → w = decide (a < 0) := fun hk => by subst hk; exact hw.symm
  have hw4 : k = 4 → w = (decide (b.natAbs < 2 * M) || (decide (2 * M = b.natAbs) && decide (T % 2 = 1))) := fun hk => by subst hk; exact hw.symm
  clear hw haw
  by_cases hc : M = 0 ∨ w = false
  · rw [if_pos hc] at he ⊢
    dsimp only at he ⊢
    refine ⟨by omega, by rw [sgnd_abs]; exact hlt, fun hk hr => ?_, fun hk hr => ?_, fun hk => ?_, fun hk => ?_, by rw [sgnd_abs]; omega⟩
    · have hM : 0 < M := by
        rcases Nat.eq_zero_or_pos M with h | h
        · subst h; cases decide (a < 0) <;> simp [sgnd] at hr
        · exact h
      rw [sgnd_neg, decide_eq_true hM, Bool.and_true]
    · have hM : 0 < M := by
        rcases Nat.eq_zero_or_pos M with h | h
        · subst h; cases decide (a < 0) <;> simp [sgnd] at hr
        · exact h
      have h1 : w = false := hc.resolve_left (by omega)
      rw [hw2 hk] at h1
      rw [sgnd_neg, decide_eq_true hM, Bool.and_true]
      simpa using h1
    · rcases hc with h | h
      · subst h; cases decide (a < 0) <;> simp [sgnd]
      · rw [hw3 hk] at h
        rw [h]; simp only [sgnd, cond_false]; omega
    · rw [sgnd_abs, sgnd_abs]
      rcases hc with h | h
      · omega
      · rw [hw4 hk] at h
        simp only [Bool.or_eq_false_iff, Bool.and_eq_false_iff, decide_eq_false_iff_not] at h
        omega
  · rw [if_neg hc] at he ⊢
    dsimp only at he ⊢
    have hM : ¬ M = 0 := fun e => hc (.inl e)
    have hwt : w = true := by cases w with | true => rfl | false => exact (hc (.inr rfl)).elim
    refine ⟨by omega, by rw [sgnd_abs]; omega, fun hk hr => ?_, fun hk hr => ?_, fun hk => ?_, fun hk => ?_, by rw [sgnd_abs]; omega⟩
    · rw [hw1 hk] at hwt; cases hwt
    · rw [hw2 hk] at hwt
      rw [sgnd_neg, show decide (0 < b.natAbs - M) = true from decide_eq_true (by omega), Bool.and_true]
      revert hwt
      cases decide (a < 0) <;> cases decide (b < 0) <;> simp
    · rw [hw3 hk] at hwt
      rw [hwt]; simp only [sgnd, Bool.not_true, cond_false]; omega
    · rw [sgnd_abs, sgnd_abs]
      rw [hw4 hk] at hwt
      simp only [Bool.or_eq_true, Bool.and_eq_true, decide_eq_true_eq] at hwt
      omega
/-- Two quotients with rests that are small enough differ by 1 at most. -/
theorem quo_near {a b p q r s : Int} (h1 : p * b + r = a) (h2 : r.natAbs < b.natAbs) (h3 : q * b + s = a) (h4 : s.natAbs < b.natAbs) : p - q ≤ 1 := by
  apply Classical.byContradiction
  intro hn
  have h5 : (p - q) * b = s - r := by rw [Int.sub_mul]; omega
  have h6 : (p - q).natAbs * b.natAbs = (s - r).natAbs := by rw [← Int.natAbs_mul, h5]
  have h7 : 2 * b.natAbs ≤ (p - q).natAbs * b.natAbs := Nat.mul_le_mul_right _ (by omega)
  omega
end Go.V
set_option maxHeartbeats 8000000
set_option maxRecDepth 100000
set_option synthInstance.maxSize 100000
set_option synthInstance.maxHeartbeats 2000000
namespace Go.V
open Go.RowKit Go.Proofs
theorem intD_nat (n : Nat) : intD (n : Int) = .agg [.bool false, numD n] := by
  show D.agg [.bool (decide ((n : Int) < 0)), numD (n : Int).natAbs] = _
  rw [decide_eq_false (by omega), Int.natAbs_natCast]
theorem pc_l_cmpN (m n : Nat) (hm : (lim m).length ≤ 1024) (hn : (lim n).length ≤ 1024) : PC C n_law02_cmp [.agg [.bool false, numD m], .agg [.bool false, numD n]] (fun o => o = .ret (.int .i64 (cmpZ m n))) := by
  have h := pc_l_cmp (m : Int) (n : Int) (by unfold fitZ; rw [Int.natAbs_natCast]; exact hm) (by unfold fitZ; rw [Int.natAbs_natCast]; exact hn)
  rwa [intD_nat, intD_nat] at h
theorem w_Div_ok {a b k : Int} (fa : fitZ a) (fb : fitZ b) (h0 : b ≠ 0) (h1 : 1 ≤ k) (h4 : k ≤ 4) : ∃ q r, DvF k a b q r ∧ PC C n_whole_Div [intD a, intD b, .int .i64 k] (fun o => o = .ret (.tup [intD q, intD r, .int .i64 0])) := by
  refine ⟨_, _, divW_facts (a := a) h0 k, (pc_w_Div (decide (a < 0), lim a.natAbs) (decide (b < 0), lim b.natAbs) (U32_lim _) (U32_lim _) k).mono fun o ho => ?_⟩
  rw [ho, valI_int, valI_int, okI_of2 fa fb]
  unfold divR
  rw [cond_true, if_neg (fun e => by rcases kindF_none.1 e with h | h <;> omega), if_neg h0]
theorem len_zero_iff {z : Int} : (((lim z.natAbs).length : Int) == 0) = decide (z = 0) := by
  rw [Bool.eq_iff_iff, beq_iff_eq, decide_eq_true_iff]
  have := @ln_pos z.natAbs
  constructor
  · intro h
    apply Classical.byContradiction
    intro hn
    have := this.2 (by omega)
    omega
  · rintro rfl; rw [show (0 : Int).natAbs = 0 from rfl, lim_zero]; rfl
theorem lnZ_abs {x : Int} {n m k : Nat} (h : x.natAbs ≤ n) (hn : (lim n).length ≤ m) (hk : m ≤ k := by decide) : lnZ x ≤ k := Nat.le_trans (ln_mono h) (Nat.le_trans hn hk)
theorem lnZ_2 : lnZ 2 ≤ 1 := ln_le (by decide)
theorem pc_l_Division (d1 d2 : Bool × List Nat) (h1 : U32 d1.2) (h2 : U32 d2.2) : PC C n_law02_WholeDivision [intA d1.1 d1.2, intA d2.1 d2.2] (fun o => o = .ret (.bool true)) := by
  refine PC.run fn_law02_WholeDivision en_law02_WholeDivision rfl nt_law02_WholeDivision rfl (rs := [.tmp 4]) (by rw [rs_law02_WholeDivision]) (by simp only [List.length_cons, List.length_nil, Nat.reduceAdd, Nat.reduceSub, List.replicate_succ, List.replicate_zero, List.cons_append, List.nil_append]; exact rfl) ?_
  refine ARun.seq ?_
  refine ARun.region ?_
  refine y_op rfl (q_boxF rfl rfl rfl rfl) ?_
  refine y_op rfl (q_boxF rfl rfl rfl rfl) ?_
  refine y_op rfl (q_assign rfl) ?_
  refine AOps.nil ?_
  refine ARun.seq ?_
  refine ARun.region ?_
  refine y_op rfl (q_call rfl rfl (pc_l_awake)) ?_
  refine y_op rfl (q_assign rfl) ?_
  refine AOps.nil ?_
  refine ARun.seq ?_
  refine ARun.seq ?_
  refine ARun.region ?_
  refine y_op rfl (q_loadAgg rfl rfl rfl rfl rfl) ?_
  refine y_op rfl (q_loadAgg rfl rfl rfl rfl rfl) ?_
  refine y_op rfl (q_buildF rfl rfl rfl rfl rfl rfl rfl rfl rfl rfl rfl (by decide) (by decide) rfl) ?_
  refine y_op rfl (q_call rfl rfl (pc_l_fine [d1, d2] 2 rfl 60)) ?_
  refine y_op rfl (q_not rfl) ?_
  refine y_op rfl (q_move rfl) ?_
  refine AOps.bool 21 rfl (fun g => ?_) (fun g => ?_)
  · skip
    refine y_skip rfl ?_
    refine y_skip rfl ?_
    refine y_skip rfl ?_
    refine y_skip rfl ?_
    refine y_op rfl (q_pick rfl rfl rfl rfl) ?_
    refine AOps.nil ?_
    refine ARun.condT rfl ?_
    refine ARun.seq ?_
    refine ARun.region ?_
    refine y_op rfl (q_move rfl) ?_
    refine y_op rfl (q_assign rfl) ?_
    refine AOps.nil ?_
    refine ARun.ret ?_
    refine ⟨_, _, _, .tmp rfl .nil, .cons (.same _) .nil, rfl, ?_⟩
    rfl
  · skip
    have g := not_false_true g
    simp only [List.all_cons, List.all_nil, Bool.and_true, Bool.and_eq_true, decide_eq_true_eq] at g
    obtain ⟨⟨g1, k1⟩, g2, k2⟩ := g
    obtain ⟨a, rfl, la⟩ := fine_int h1 g1 k1
    obtain ⟨b, rfl, lb⟩ := fine_int h2 g2 k2
    refine y_op rfl (q_fldS rfl rfl rfl (by decide)) ?_
    refine y_op rfl (q_load rfl rfl rfl rfl) ?_
    refine y_op rfl (q_lenSl rfl rfl) ?_
    refine y_op rfl (q_intB (b := decide (b = 0)) rfl rfl rfl len_zero_iff) ?_
    refine y_op rfl (q_pick rfl rfl rfl rfl) ?_
    refine AOps.nil ?_
    refine ARun.ite rfl (fun hb0 => ?_) (fun hb0 => ?_)
    · skip
      refine ARun.seq ?_
      refine ARun.region ?_
      refine y_op rfl (q_move rfl) ?_
      refine y_op rfl (q_assign rfl) ?_
      refine AOps.nil ?_
      refine ARun.ret ?_
      refine ⟨_, _, _, .tmp rfl .nil, .cons (.same _) .nil, rfl, ?_⟩
      rfl
    · skip
      have lb' : (lim b.natAbs).length ≤ 60 := lb
      have la' : (lim (a.natAbs + 1)).length ≤ 61 := by
        have := ln_add a.natAbs 1
        have e1 : (lim 1).length = 1 := by rw [lim_one]; rfl
        have e2 : (lim a.natAbs).length ≤ 60 := la
        omega
      refine ARun.skip ?_
      refine ARun.seq ?_
      refine ARun.region ?_
      refine y_op rfl (q_call rfl rfl (pc_w_FromInt 0 (by decide) (by decide))) ?_
      refine y_new rfl (n_alloc rfl rfl rfl rfl) ?_
      refine y_new rfl (n_storeN rfl rfl rfl rfl rfl rfl rfl rfl (Nat.le_of_ble_eq_true rfl) rfl) ?_
      refine AOps.nil ?_
      refine ARun.seq ?_
      refine ARun.region ?_
      refine y_op rfl (q_call rfl rfl (pc_w_FromInt 0 (by decide) (by decide))) ?_
      refine y_new rfl (n_alloc rfl rfl rfl rfl) ?_
      refine y_new rfl (n_storeN rfl rfl rfl rfl rfl rfl rfl rfl (Nat.le_of_ble_eq_true rfl) rfl) ?_
      refine AOps.nil ?_
      refine ARun.seq ?_
      refine ARun.region ?_
      refine y_op rfl (q_fldS rfl rfl rfl (by decide)) ?_
      refine y_op rfl (q_load rfl rfl rfl rfl) ?_
      refine y_op rfl (q_build rfl rfl rfl rfl rfl) ?_
      refine y_allocF rfl rfl rfl rfl rfl rfl rfl rfl rfl rfl rfl ?_
      refine AOps.nil ?_
      refine ARun.seq ?_
      refine ARun.seq ?_
      refine ARun.region ?_
      refine y_op rfl (q_assign rfl) ?_
      refine AOps.nil ?_
      refine ARun.block ?_
      refine ARun.loopI (S := Int × Int × Int) (fun σ : Int × Int × Int => [(4, .any), (10, .any), (11, .any), (12, .any), (13, .any), (14, .any), (33, .any), (34, .any), (35, .any), (36, .any), (37, .any), (38, .any), (39, .any), (40, .any), (41, .any), (42, .any), (43, .any), (44, .any), (45, .any), (46, .any), (47, .any), (48, .any), (49, .any), (50, .any), (51, .any), (52, .any), (53, .any), (54, .any), (55, .any), (56, .any), (57, .any), (58, .any), (59, .any), (60, .any), (61, .any), (62, .any), (63, .any), (64, .any), (65, .any), (66, .any), (67, .any), (68, .any), (69, .any), (70, .any), (71, .any), (72, .any), (73, .any), (74, .any), (75, .any), (76, .any), (77, .any), (78, .any), (79, .any), (80, .any), (81, .any), (82, .any), (83, .any), (84, .any), (85, .any), (86, .any), (87, .any), (88, .any), (89, .any), (90, .any), (91, .any), (92, .any), (93, .any), (94, .any), (95, .any), (96, .any), (97, .any), (98, .any), (99, .any), (100, .any), (101, .any), (102, .any), (103, .any), (104, .any), (105, .any), (106, .any), (107, .any), (108, .any), (109, .any), (110, .any), (111, .any), (112, .any), (113, .any), (114, .any), (115, .any), (116, .any), (117, .any), (118, .any), (119, .any), (120, .any), (121, .any), (122, .any), (123, .any), (124, .any), (125, .any), (126, .any), (127, .any), (128, .any), (129, .any), (130, .any), (131, .any), (132, .any), (133, .any), (134, .any), (135, .any), (136, .any), (137, .any), (138, .any), (139, .any), (140, .any), (141, .any), (142, .any), (143, .any), (144, .any), (145, .any), (146, .any), (147, .any), (148, .any), (9, .int .i64 σ.1)]) (fun σ : Int × Int × Int => [cellZ σ.2.1, cellZ σ.2.2]) (fun σ : Int × Int × Int => 1 ≤ σ.1 ∧ σ.1 ≤ 5 ∧ lnZ σ.2.1 ≤ 61 ∧ lnZ σ.2.2 ≤ 61 ∧ (1 < σ.1 → (∃ r, σ.2.1 * b + r = a ∧ r.natAbs < b.natAbs) ∧ ∃ r, σ.2.2 * b + r = a ∧ r.natAbs < b.natAbs)) (fun σ : Int × Int × Int => (5 - σ.1).toNat) ((1, 0, 0)) ?_ ?_ ?_ ?_
      · exact ⟨by decide, by decide, Nat.le_trans lnZ_0 (by decide), Nat.le_trans lnZ_0 (by decide), fun h => absurd h (by decide)⟩
      · (repeat' first | exact envLe_nil | apply envLe_any | apply envLe_same)
      · rfl
      rintro ⟨k, lo, hi⟩ hinv ih
      dsimp only at hinv ih ⊢
      obtain ⟨k1, k5, llo, lhi, hnear⟩ := hinv
      refine ARun.seq ?_
      refine ARun.seq ?_
      refine ARun.region ?_
      refine y_op rfl (q_move rfl) ?_
      refine y_op rfl (q_int rfl rfl rfl) ?_
      refine AOps.nil ?_
      refine ARun.ite rfl (fun h5 => ?_) (fun h5 => ?_)
      · skip
        obtain ⟨q, r, hF, hdiv⟩ := w_Div_ok (a := a) (b := b) (lnZ_fit la) (lnZ_fit lb) hb0 k1 h5
        have lq : lnZ q ≤ 61 := lnZ_abs hF.lq la'
        have lr : lnZ r ≤ 60 := lnZ_abs (Nat.le_of_lt hF.lt) lb'
        have lqb := lnZ_mul 121 lq lb
        have lr' : (lim r.natAbs).length ≤ 60 := lr
        have hrb := hF.lt
        refine ARun.skip ?_
        refine ARun.seq ?_
        refine ARun.block ?_
        refine ARun.seq ?_
        refine ARun.region ?_
        refine y_op rfl (q_loadAgg rfl rfl rfl rfl rfl) ?_
        refine y_op rfl (q_loadAgg rfl rfl rfl rfl rfl) ?_
        refine y_op rfl (q_move rfl) ?_
        refine y_op rfl (q_call rfl rfl (hdiv)) ?_
        refine y_op rfl (q_move rfl) ?_
        refine y_op rfl (q_extract rfl rfl) ?_
        refine y_op rfl (q_extract rfl rfl) ?_
        refine y_op rfl (q_extract rfl rfl) ?_
        refine y_allocF2 (alW rfl rfl rfl rfl rfl rfl rfl rfl rfl rfl rfl) (alW rfl rfl rfl rfl rfl rfl rfl rfl rfl rfl rfl) rfl ?_
        refine y_op rfl (q_assign rfl) ?_
        refine AOps.nil ?_
        refine ARun.seq ?_
        refine ARun.seq ?_
        refine ARun.drawnP 20 (fun _ => False) mixC rfl rfl (by kernel_rfl) (fun _ _ h => h.elim) ?_
        refine .op rfl (q_move rfl) ?_
        refine .op rfl (q_intNeF rfl rfl rfl) ?_
        refine .op rfl (q_move rfl) ?_
        refine .op rfl (q_loadAgg rfl rfl rfl rfl rfl) ?_
        refine .op rfl (q_loadAgg rfl rfl rfl rfl rfl) ?_
        refine .op rfl (q_call rfl rfl (pc_l_mul q b (lnZ_fit lq) (lnZ_fit lb) (lnZ_fit lqb))) ?_
        refine .op rfl (q_loadAgg rfl rfl rfl rfl rfl) ?_
        refine .op rfl (q_call rfl rfl (pc_l_add (q * b) r (lnZ_fit lqb) (lnZ_fit lr) (lnZ_fit (lnZ_add 122 lqb lr)))) ?_
        refine .op rfl (q_loadAgg rfl rfl rfl rfl rfl) ?_
        refine .op rfl (q_call rfl rfl (pc_l_equalT (q * b + r) a (lnZ_fit (lnZ_add 122 lqb lr)) hF.e)) ?_
        refine .op rfl (q_not rfl) ?_
        refine .op rfl (q_pick rfl rfl rfl rfl) ?_
        refine .op rfl (q_move rfl) ?_
        refine .op rfl (q_fldS rfl rfl rfl (by decide)) ?_
        refine .op rfl (q_load rfl rfl rfl rfl) ?_
        refine .op rfl (q_build rfl rfl rfl rfl rfl) ?_
        refine .op rfl (q_loadAgg rfl rfl rfl rfl rfl) ?_
        refine .op rfl (q_call rfl rfl (pc_l_cmpN r.natAbs b.natAbs (by omega) (by omega))) ?_
        refine .op rfl (q_intB (b := false) rfl rfl rfl (by unfold cmpZ; rw [if_pos (by omega)]; rfl)) ?_
        refine .op rfl (q_pick rfl rfl rfl rfl) ?_
        refine .nil (fun hG => ?_)
        refine AOps.nil ?_
        refine ARun.condF rfl ?_
        refine ARun.skip ?_
        refine ARun.seq ?_
        refine ARun.join (S := Bool) (fun t : Bool => [(65, .any), (66, .any), (67, .any), (68, .any), (69, .any), (70, .any), (71, .any), (72, .any), (73, .any), (74, .any), (75, .any), (76, .any), (77, .any), (78, .any), (79, .any), (80, .any), (81, .any), (82, .any), (83, .any), (84, .any), (85, .any), (86, .any), (87, .any), (88, .any), (89, .any), (90, .any), (91, .any), (92, .any), (93, .any), (94, .any), (95, .any), (96, .any), (97, .any), (98, .any), (99, .any), (13, .bool t)]) (fun t : Bool => k ≠ 4 → t = true) (fun run => ?_) ?_
        · skip
          refine ARun.region ?_
          refine y_op rfl (q_fldS rfl rfl rfl (by decide)) ?_
          refine y_op rfl (q_load rfl rfl rfl rfl) ?_
          refine y_op rfl (q_lenSl rfl rfl) ?_
          refine y_op rfl (q_intB (b := decide (r = 0)) rfl rfl rfl len_zero_iff) ?_
          refine y_op rfl (q_move rfl) ?_
          refine AOps.bool 69 rfl (fun c0 => ?_) (fun c0 => ?_)
          · skip
            refine y_skip rfl ?_
            refine y_skip rfl ?_
            refine y_skip rfl ?_
            refine y_skip rfl ?_
            refine y_skip rfl ?_
            refine y_skip rfl ?_
            refine y_skip rfl ?_
            refine y_skip rfl ?_
            refine y_skip rfl ?_
            refine y_op rfl (q_pick rfl rfl rfl rfl) ?_
            refine y_op rfl (q_move rfl) ?_
            refine y_skip rfl ?_
            refine y_skip rfl ?_
            refine y_skip rfl ?_
            refine y_skip rfl ?_
            refine y_skip rfl ?_
            refine y_skip rfl ?_
            refine y_skip rfl ?_
            refine y_skip rfl ?_
            refine y_skip rfl ?_
            refine y_op rfl (q_pick rfl rfl rfl rfl) ?_
            refine y_op rfl (q_move rfl) ?_
            refine y_skip rfl ?_
            refine y_skip rfl ?_
            refine y_skip rfl ?_
            refine y_skip rfl ?_
            refine y_skip rfl ?_
            refine y_skip rfl ?_
            refine y_skip rfl ?_
            refine y_op rfl (q_pick rfl rfl rfl rfl) ?_
            refine y_op rfl (q_assign rfl) ?_
            refine AOps.nil ?_
            exact ARun.again (run (true) (fun _ => rfl)) (by (repeat' first | exact envLe_nil | apply envLe_any | apply envLe_same)) rfl
          · skip
            have c0 := of_decide_eq_false c0
            refine y_op rfl (q_move rfl) ?_
            refine y_op rfl (q_int rfl rfl rfl) ?_
            refine y_op rfl (q_move rfl) ?_
            refine AOps.bool 72 rfl (fun c1 => ?_) (fun c1 => ?_)
            · skip
              have c1 : k = 1 := by simpa using c1
              refine y_op rfl (q_fldS rfl rfl rfl (by decide)) ?_
              refine y_op rfl (q_load rfl rfl rfl rfl) ?_
              refine y_op rfl (q_fldS rfl rfl rfl (by decide)) ?_
              refine y_op rfl (q_load rfl rfl rfl rfl) ?_
              refine y_op rfl (q_boolEqT rfl rfl rfl (hF.f1 c1 c0)) ?_
              refine y_op rfl (q_pick rfl rfl rfl rfl) ?_
              refine y_op rfl (q_pick rfl rfl rfl rfl) ?_
              refine y_op rfl (q_move rfl) ?_
              refine y_skip rfl ?_
              refine y_skip rfl ?_
              refine y_skip rfl ?_
              refine y_skip rfl ?_
              refine y_skip rfl ?_
              refine y_skip rfl ?_
              refine y_skip rfl ?_
              refine y_skip rfl ?_
              refine y_skip rfl ?_
              refine y_op rfl (q_pick rfl rfl rfl rfl) ?_
              refine y_op rfl (q_move rfl) ?_
              refine y_skip rfl ?_
              refine y_skip rfl ?_
              refine y_skip rfl ?_
              refine y_skip rfl ?_
              refine y_skip rfl ?_
              refine y_skip rfl ?_
              refine y_skip rfl ?_
              refine y_op rfl (q_pick rfl rfl rfl rfl) ?_
              refine y_op rfl (q_assign rfl) ?_
              refine AOps.nil ?_
              exact ARun.again (run (true) (fun _ => rfl)) (by (repeat' first | exact envLe_nil | apply envLe_any | apply envLe_same)) rfl
            · skip
              have c1 : ¬ k = 1 := by simpa using c1
              refine y_skip rfl ?_
              refine y_skip rfl ?_
              refine y_skip rfl ?_
              refine y_skip rfl ?_
              refine y_skip rfl ?_
              refine y_op rfl (q_pick rfl rfl rfl rfl) ?_
              refine y_op rfl (q_pick rfl rfl rfl rfl) ?_
              refine y_op rfl (q_move rfl) ?_
              refine y_op rfl (q_move rfl) ?_
              refine y_op rfl (q_int rfl rfl rfl) ?_
              refine y_op rfl (q_move rfl) ?_
              refine AOps.bool 83 rfl (fun c2 => ?_) (fun c2 => ?_)
              · skip
                have c2 : k = 2 := by simpa using c2
                refine y_op rfl (q_fldS rfl rfl rfl (by decide)) ?_
                refine y_op rfl (q_load rfl rfl rfl rfl) ?_
                refine y_op rfl (q_fldS rfl rfl rfl (by decide)) ?_
                refine y_op rfl (q_load rfl rfl rfl rfl) ?_
                refine y_op rfl (q_boolEqT rfl rfl rfl (hF.f2 c2 c0)) ?_
                refine y_op rfl (q_pick rfl rfl rfl rfl) ?_
                refine y_op rfl (q_pick rfl rfl rfl rfl) ?_
                refine y_op rfl (q_move rfl) ?_
                refine y_skip rfl ?_
                refine y_skip rfl ?_
                refine y_skip rfl ?_
                refine y_skip rfl ?_
                refine y_skip rfl ?_
                refine y_skip rfl ?_
                refine y_skip rfl ?_
                refine y_op rfl (q_pick rfl rfl rfl rfl) ?_
                refine y_op rfl (q_assign rfl) ?_
                refine AOps.nil ?_
                exact ARun.again (run (true) (fun _ => rfl)) (by (repeat' first | exact envLe_nil | apply envLe_any | apply envLe_same)) rfl
              · skip
                have c2 : ¬ k = 2 := by simpa using c2
                refine y_skip rfl ?_
                refine y_skip rfl ?_
                refine y_skip rfl ?_
                refine y_skip rfl ?_
                refine y_skip rfl ?_
                refine y_op rfl (q_pick rfl rfl rfl rfl) ?_
                refine y_op rfl (q_pick rfl rfl rfl rfl) ?_
                refine y_op rfl (q_move rfl) ?_
                refine y_op rfl (q_move rfl) ?_
                refine y_op rfl (q_int rfl rfl rfl) ?_
                refine y_op rfl (q_move rfl) ?_
                refine AOps.bool 94 rfl (fun c3 => ?_) (fun c3 => ?_)
                · skip
                  have c3 : k = 3 := by simpa using c3
                  refine y_op rfl (q_fldS rfl rfl rfl (by decide)) ?_
                  refine y_op rfl (q_load rfl rfl rfl rfl) ?_
                  refine y_op rfl (q_not rfl) ?_
                  refine y_op rfl (q_pick rfl rfl rfl rfl) ?_
                  refine y_op rfl (q_pick rfl rfl rfl rfl) ?_
                  refine y_op rfl (q_assign rfl) ?_
                  refine AOps.nil ?_
                  exact ARun.again (run (!(decide (r < 0))) (fun _ => by rw [decide_eq_false (hF.f3 c3)]; rfl)) (by (repeat' first | exact envLe_nil | apply envLe_any | apply envLe_same)) rfl
                · skip
                  have c3 : ¬ k = 3 := by simpa using c3
                  refine y_skip rfl ?_
                  refine y_skip rfl ?_
                  refine y_skip rfl ?_
                  refine y_op rfl (q_pick rfl rfl rfl rfl) ?_
                  refine y_op rfl (q_pick rfl rfl rfl rfl) ?_
                  refine y_op rfl (q_assign rfl) ?_
                  refine AOps.nil ?_
                  exact ARun.again (run (false) (fun h4 => by omega)) (by (repeat' first | exact envLe_nil | apply envLe_any | apply envLe_same)) rfl
        · rintro t hj
          try dsimp only at hj ⊢
          refine ARun.seq ?_
          refine ARun.seq ?_
          refine ARun.region ?_
          refine y_op rfl (q_move rfl) ?_
          refine y_op rfl (q_int rfl rfl rfl) ?_
          refine AOps.nil ?_
          refine ARun.join (S := Bool) (fun u : Bool => [(14, .any), (102, .any), (103, .any), (104, .any), (105, .any), (106, .any), (107, .any), (108, .any), (109, .any), (110, .any), (111, .any), (112, .any), (113, .any), (114, .any), (115, .any), (116, .any), (117, .any), (118, .any), (119, .any), (120, .any), (121, .any), (122, .any), (123, .any), (124, .any), (125, .any), (126, .any), (127, .any), (128, .any), (13, .bool u)]) (fun u : Bool => u = true) (fun run => ?_) ?_
          · skip
            refine ARun.cond rfl (fun c4 => ?_) (fun c4 => ?_)
            · skip
              have c4 : k = 4 := by simpa using c4
              have hf4 := hF.f4 c4
              have hr2 : (r * 2).natAbs = 2 * r.natAbs := by rw [Int.natAbs_mul]; exact Nat.mul_comm _ _
              have lr2 := lnZ_mul (y := 2) (n := 1) 61 lr lnZ_2
              have hcm : cmpZ ((r * 2).natAbs : Nat) (b.natAbs : Nat) = if 2 * r.natAbs < b.natAbs then -1 else if 2 * r.natAbs = b.natAbs then 0 else 1 := by
                unfold cmpZ; rw [hr2]
                repeat' split
                all_goals omega
              refine ARun.seq ?_
              refine ARun.drawnP 7 (fun _ => False) mixC rfl rfl (by kernel_rfl) (fun _ _ h => h.elim) ?_
              refine .op rfl (q_loadAgg rfl rfl rfl rfl rfl) ?_
              refine .op rfl (q_call rfl rfl (pc_w_FromInt 2 (by decide) (by decide))) ?_
              refine .op rfl (q_call rfl rfl (pc_l_mul r 2 (lnZ_fit lr) (lnZ_fit lnZ_2) (lnZ_fit lr2))) ?_
              refine .op rfl (q_field1 Tryz.underlying25 rfl rfl rfl rfl rfl) ?_
              refine .op rfl (q_build rfl rfl rfl rfl rfl) ?_
              refine .op rfl (q_loadAgg rfl rfl rfl rfl rfl) ?_
              refine .op rfl (q_call rfl rfl (pc_l_cmpN (r * 2).natAbs b.natAbs (Nat.le_trans lr2 (by decide)) (by omega))) ?_
              refine .nil (fun hG => ?_)
              refine y_op rfl (q_assign rfl) ?_
              refine AOps.nil ?_
              refine ARun.region ?_
              refine y_op rfl (q_move rfl) ?_
              refine y_op rfl (q_int rfl rfl rfl) ?_
              refine y_op rfl (q_move rfl) ?_
              refine AOps.bool 111 rfl (fun e1 => ?_) (fun e1 => ?_)
              · skip
                refine y_skip rfl ?_
                refine y_skip rfl ?_
                refine y_skip rfl ?_
                refine y_skip rfl ?_
                refine y_skip rfl ?_
                refine y_skip rfl ?_
                refine y_skip rfl ?_
                refine y_skip rfl ?_
                refine y_skip rfl ?_
                refine y_skip rfl ?_
                refine y_skip rfl ?_
                refine y_skip rfl ?_
                refine y_skip rfl ?_
                refine y_skip rfl ?_
                refine y_skip rfl ?_
                refine y_skip rfl ?_
                refine y_op rfl (q_pick rfl rfl rfl rfl) ?_
                refine y_op rfl (q_assign rfl) ?_
                refine AOps.nil ?_
                exact ARun.again (run (true) (rfl)) (by (repeat' first | exact envLe_nil | apply envLe_any | apply envLe_same)) rfl
              · skip
                have e1 := of_decide_eq_false e1
                rw [hcm] at e1
                have htie : 2 * r.natAbs = b.natAbs ∧ q.natAbs % 2 = 0 := by
                  rcases hf4 with h | h
                  · rw [if_pos h] at e1; exact absurd (by decide) e1
                  · exact h
                refine y_op rfl (q_move rfl) ?_
                refine y_op rfl (q_intEqT rfl rfl (by rw [hcm, if_neg (by omega), if_pos htie.1])) ?_
                refine y_op rfl (q_move rfl) ?_
                refine y_op rfl (q_fldS rfl rfl rfl (by decide)) ?_
                refine y_op rfl (q_load rfl rfl rfl rfl) ?_
                refine y_op rfl (q_lenSl rfl rfl) ?_
                refine y_op rfl (q_intB (b := decide (q = 0)) rfl rfl rfl len_zero_iff) ?_
                refine y_op rfl (q_move rfl) ?_
                refine AOps.bool 119 rfl (fun e2 => ?_) (fun e2 => ?_)
                · skip
                  refine y_skip rfl ?_
                  refine y_skip rfl ?_
                  refine y_skip rfl ?_
                  refine y_skip rfl ?_
                  refine y_skip rfl ?_
                  refine y_skip rfl ?_
                  refine y_op rfl (q_pick rfl rfl rfl rfl) ?_
                  refine y_op rfl (q_pick rfl rfl rfl rfl) ?_
                  refine y_op rfl (q_pick rfl rfl rfl rfl) ?_
                  refine y_op rfl (q_assign rfl) ?_
                  refine AOps.nil ?_
                  exact ARun.again (run (true) (rfl)) (by (repeat' first | exact envLe_nil | apply envLe_any | apply envLe_same)) rfl
                · skip
                  have e2 := of_decide_eq_false e2
                  have lq0 : 0 < (lim q.natAbs).length := ln_pos.2 (by omega)
                  refine y_op rfl (q_fldS rfl rfl rfl (by decide)) ?_
                  refine y_op rfl (q_load rfl rfl rfl rfl) ?_
                  refine y_op rfl (q_idxSl (i := (0 : Nat)) rfl rfl rfl rfl (by decide) (by omega) (nts_ne lq0) (drop_nat rfl)) ?_
                  refine y_op rfl (q_load rfl rfl rfl (lim_load lq0)) ?_
                  refine y_op rfl (q_rem rfl rfl (by decide) (nrem (n := 2) rfl)) ?_
                  refine y_op rfl (q_intEqT rfl rfl (by rw [parity _ lq0, htie.2]; rfl)) ?_
                  refine y_op rfl (q_pick rfl rfl rfl rfl) ?_
                  refine y_op rfl (q_pick rfl rfl rfl rfl) ?_
                  refine y_op rfl (q_pick rfl rfl rfl rfl) ?_
                  refine y_op rfl (q_assign rfl) ?_
                  refine AOps.nil ?_
                  exact ARun.again (run (true) (rfl)) (by (repeat' first | exact envLe_nil | apply envLe_any | apply envLe_same)) rfl
            · skip
              have c4 : ¬ k = 4 := by simpa using c4
              obtain rfl := hj c4
              refine ARun.skip ?_
              exact ARun.again (run (true) (rfl)) (by (repeat' first | exact envLe_nil | apply envLe_any | apply envLe_same)) rfl
          · rintro u hj
            try dsimp only at hj ⊢
            subst hj
            refine ARun.seq ?_
            refine ARun.seq ?_
            refine ARun.region ?_
            refine y_op rfl (q_move rfl) ?_
            refine y_op rfl (q_not rfl) ?_
            refine AOps.nil ?_
            refine ARun.condF rfl ?_
            refine ARun.skip ?_
            refine ARun.seq ?_
            refine ARun.seq ?_
            refine ARun.region ?_
            refine y_op rfl (q_move rfl) ?_
            refine y_op rfl (q_int rfl rfl rfl) ?_
            refine y_op rfl (q_move rfl) ?_
            refine AOps.bool 133 rfl (fun c5 => ?_) (fun c5 => ?_)
            · skip
              have c5 : k = 1 := by simpa using c5
              refine y_skip rfl ?_
              refine y_skip rfl ?_
              refine y_skip rfl ?_
              refine y_skip rfl ?_
              refine y_op rfl (q_pick rfl rfl rfl rfl) ?_
              refine AOps.nil ?_
              refine ARun.condT rfl ?_
              refine ARun.region ?_
              refine y_op rfl (q_loadAgg rfl rfl rfl rfl rfl) ?_
              refine y_new rfl (n_storeN rfl rfl rfl rfl rfl rfl rfl rfl (Nat.le_of_ble_eq_true rfl) rfl) ?_
              refine AOps.nil ?_
              refine ARun.seq ?_
              refine ARun.region ?_
              refine y_op rfl (q_move rfl) ?_
              refine y_op rfl (q_intB (b := true) rfl rfl rfl (by rw [c5]; rfl)) ?_
              refine y_op rfl (q_move rfl) ?_
              refine y_skip rfl ?_
              refine y_skip rfl ?_
              refine y_skip rfl ?_
              refine y_skip rfl ?_
              refine y_op rfl (q_pick rfl rfl rfl rfl) ?_
              refine AOps.nil ?_
              refine ARun.condT rfl ?_
              refine ARun.region ?_
              refine y_op rfl (q_loadAgg rfl rfl rfl rfl rfl) ?_
              refine y_new rfl (n_storeN rfl rfl rfl rfl rfl rfl rfl rfl (Nat.le_of_ble_eq_true rfl) rfl) ?_
              refine AOps.nil ?_
              refine ARun.inBlock ?_
              refine ARun.region ?_
              refine y_op rfl (q_move rfl) ?_
              refine y_op rfl (q_add rfl rfl (IntWalk.i64_in _ (by omega))) ?_
              refine y_op rfl (q_assign rfl) ?_
              refine AOps.nil ?_
              refine ARun.again (ih ((k + 1, q, q)) ?_ ?_) ?_ ?_
              · exact ⟨by dsimp only; omega, by dsimp only; omega, lq, lq, fun _ => ⟨⟨r, hF.e, hF.lt⟩, ⟨r, hF.e, hF.lt⟩⟩⟩
              · (dsimp only; omega)
              · (repeat' first | exact envLe_nil | apply envLe_any | apply envLe_same)
              · rfl
            · skip
              have c5 : ¬ k = 1 := by simpa using c5
              obtain ⟨hlo, hhi⟩ := hnear (by omega)
              refine y_op rfl (q_loadAgg rfl rfl rfl rfl rfl) ?_
              refine y_op rfl (q_loadAggP rfl rfl rfl rfl rfl rfl) ?_
              refine y_op rfl (q_call rfl rfl (pc_l_cmp q lo (lnZ_fit lq) (lnZ_fit llo))) ?_
              refine y_op rfl (q_int rfl rfl rfl) ?_
              refine y_op rfl (q_pick rfl rfl rfl rfl) ?_
              refine AOps.nil ?_
              refine ARun.ite rfl (fun c6 => ?_) (fun c6 => ?_)
              · skip
                refine ARun.region ?_
                refine y_op rfl (q_loadAgg rfl rfl rfl rfl rfl) ?_
                refine y_new rfl (n_storeN rfl rfl rfl rfl rfl rfl rfl rfl (Nat.le_of_ble_eq_true rfl) rfl) ?_
                refine AOps.nil ?_
                refine ARun.seq ?_
                refine ARun.region ?_
                refine y_op rfl (q_move rfl) ?_
                refine y_op rfl (q_intB (b := false) rfl rfl rfl (beq_eq_false_iff_ne.2 c5)) ?_
                refine y_op rfl (q_move rfl) ?_
                refine y_op rfl (q_loadAgg rfl rfl rfl rfl rfl) ?_
                refine y_op rfl (q_loadAggP rfl rfl rfl rfl rfl rfl) ?_
                refine y_op rfl (q_call rfl rfl (pc_l_cmp q hi (lnZ_fit lq) (lnZ_fit lhi))) ?_
                refine y_op rfl (q_int rfl rfl rfl) ?_
                refine y_op rfl (q_pick rfl rfl rfl rfl) ?_
                refine AOps.nil ?_
                refine ARun.ite rfl (fun c7 => ?_) (fun c7 => ?_)
                · skip
                  refine ARun.region ?_
                  refine y_op rfl (q_loadAgg rfl rfl rfl rfl rfl) ?_
                  refine y_new rfl (n_storeN rfl rfl rfl rfl rfl rfl rfl rfl (Nat.le_of_ble_eq_true rfl) rfl) ?_
                  refine AOps.nil ?_
                  refine ARun.inBlock ?_
                  refine ARun.region ?_
                  refine y_op rfl (q_move rfl) ?_
                  refine y_op rfl (q_add rfl rfl (IntWalk.i64_in _ (by omega))) ?_
                  refine y_op rfl (q_assign rfl) ?_
                  refine AOps.nil ?_
                  refine ARun.again (ih ((k + 1, q, q)) ?_ ?_) ?_ ?_
                  · exact ⟨by dsimp only; omega, by dsimp only; omega, lq, lq, fun _ => ⟨⟨r, hF.e, hF.lt⟩, ⟨r, hF.e, hF.lt⟩⟩⟩
                  · (dsimp only; omega)
                  · (repeat' first | exact envLe_nil | apply envLe_any | apply envLe_same)
                  · rfl
                · skip
                  refine ARun.skip ?_
                  refine ARun.inBlock ?_
                  refine ARun.region ?_
                  refine y_op rfl (q_move rfl) ?_
                  refine y_op rfl (q_add rfl rfl (IntWalk.i64_in _ (by omega))) ?_
                  refine y_op rfl (q_assign rfl) ?_
                  refine AOps.nil ?_
                  refine ARun.again (ih ((k + 1, q, hi)) ?_ ?_) ?_ ?_
                  · exact ⟨by dsimp only; omega, by dsimp only; omega, lq, lhi, fun _ => ⟨⟨r, hF.e, hF.lt⟩, hhi⟩⟩
                  · (dsimp only; omega)
                  · (repeat' first | exact envLe_nil | apply envLe_any | apply envLe_same)
                  · rfl
              · skip
                refine ARun.skip ?_
                refine ARun.seq ?_
                refine ARun.region ?_
                refine y_op rfl (q_move rfl) ?_
                refine y_op rfl (q_intB (b := false) rfl rfl rfl (beq_eq_false_iff_ne.2 c5)) ?_
                refine y_op rfl (q_move rfl) ?_
                refine y_op rfl (q_loadAgg rfl rfl rfl rfl rfl) ?_
                refine y_op rfl (q_loadAggP rfl rfl rfl rfl rfl rfl) ?_
                refine y_op rfl (q_call rfl rfl (pc_l_cmp q hi (lnZ_fit lq) (lnZ_fit lhi))) ?_
                refine y_op rfl (q_int rfl rfl rfl) ?_
                refine y_op rfl (q_pick rfl rfl rfl rfl) ?_
                refine AOps.nil ?_
                refine ARun.ite rfl (fun c7 => ?_) (fun c7 => ?_)
                · skip
                  refine ARun.region ?_
                  refine y_op rfl (q_loadAgg rfl rfl rfl rfl rfl) ?_
                  refine y_new rfl (n_storeN rfl rfl rfl rfl rfl rfl rfl rfl (Nat.le_of_ble_eq_true rfl) rfl) ?_
                  refine AOps.nil ?_
                  refine ARun.inBlock ?_
                  refine ARun.region ?_
                  refine y_op rfl (q_move rfl) ?_
                  refine y_op rfl (q_add rfl rfl (IntWalk.i64_in _ (by omega))) ?_
                  refine y_op rfl (q_assign rfl) ?_
                  refine AOps.nil ?_
                  refine ARun.again (ih ((k + 1, lo, q)) ?_ ?_) ?_ ?_
                  · exact ⟨by dsimp only; omega, by dsimp only; omega, llo, lq, fun _ => ⟨hlo, ⟨r, hF.e, hF.lt⟩⟩⟩
                  · (dsimp only; omega)
                  · (repeat' first | exact envLe_nil | apply envLe_any | apply envLe_same)
                  · rfl
                · skip
                  refine ARun.skip ?_
                  refine ARun.inBlock ?_
                  refine ARun.region ?_
                  refine y_op rfl (q_move rfl) ?_
                  refine y_op rfl (q_add rfl rfl (IntWalk.i64_in _ (by omega))) ?_
                  refine y_op rfl (q_assign rfl) ?_
                  refine AOps.nil ?_
                  refine ARun.again (ih ((k + 1, lo, hi)) ?_ ?_) ?_ ?_
                  · exact ⟨by dsimp only; omega, by dsimp only; omega, llo, lhi, fun _ => ⟨hlo, hhi⟩⟩
                  · (dsimp only; omega)
                  · (repeat' first | exact envLe_nil | apply envLe_any | apply envLe_same)
                  · rfl
      · skip
        obtain ⟨⟨r1, e1, e2⟩, r2, e3, e4⟩ := hnear (by omega)
        have hd := quo_near e3 e4 e1 e2
        have lsub := lnZ_sub 62 lhi llo
        refine ARun.exit rfl ?_
        refine ARun.seq ?_
        refine ARun.region ?_
        refine y_op rfl (q_move rfl) ?_
        refine y_op rfl (q_move rfl) ?_
        refine y_op rfl (q_loadAggP rfl rfl rfl rfl rfl rfl) ?_
        refine y_op rfl (q_loadAggP rfl rfl rfl rfl rfl rfl) ?_
        refine y_op rfl (q_call rfl rfl (pc_l_sub hi lo (lnZ_fit lhi) (lnZ_fit llo) (lnZ_fit lsub))) ?_
        refine y_op rfl (q_call rfl rfl (pc_w_FromInt 1 (by decide) (by decide))) ?_
        refine y_op rfl (q_call rfl rfl (pc_l_cmp (hi - lo) 1 (lnZ_fit lsub) (lnZ_fit lnZ_1))) ?_
        refine y_op rfl (q_intB (b := true) rfl rfl rfl (decide_eq_true (by unfold cmpZ; repeat' split; all_goals omega))) ?_
        refine y_op rfl (q_pick rfl rfl rfl rfl) ?_
        refine y_op rfl (q_assign rfl) ?_
        refine AOps.nil ?_
        refine ARun.ret ?_
        refine ⟨_, _, _, .tmp rfl .nil, .cons (.same _) .nil, rfl, ?_⟩
        rfl
end Go.V
/- THE ROWS: what the arguments read as, and what is left behind a call. -/
set_option maxRecDepth 100000
namespace Go.V
open Go.RowKit Go.Proofs Go.ChangeShapes Go.WideShapes Go.ChangeAt Go.ChangeMaps
theorem laidOutZ : laidOutB Tryz.prog = true := by kernel_rfl
theorem ownZ : ownKnob Tryz.prog.godebug = none := by kernel_rfl
theorem cell_lt {w : World} {a : Addr} {v : Value} (h : w.cell? a = some v) : a.block < w.heap.size := by
  apply Classical.byContradiction
  intro hn
  have : w.heap[a.block]? = none := by rw [Array.getElem?_eq_none_iff]; omega
  simp [World.cell?, this] at h
theorem SR0 (W : World) : SR C (fun _ => False) W [] [] :=
  ⟨rfl, fun i o b h => by simp at h, fun i j oi oj b h => by simp at h, fun i o b h => by simp at h, fun b h => h.elim, fun g cs h => by cases h⟩
theorem forb0 : forb (fun _ => False) [] [] = fun _ => False := by
  funext b
  apply propext
  constructor
  · rintro (h | ⟨i, o, h, _⟩)
    · exact h
    · simp at h
  · exact fun h => h.elim
section
variable {H : Type} {enc : TypeId × Value → H} {W : World}
theorem vr_limbs {fuel : Nat} {cs : List Value} {x : DataW H × List MemPlace} (h : DataW.trod enc Tryz.prog W 0 (fun _ => true) true fuel 23 cs = some x) :
    ∃ (v : Value) (xs : List Nat), cs = [v] ∧ U32 xs ∧ VR W (fun _ => False) [] [] (sln .u32 xs) v := by
  rcases open_ints Tryz.underlying23 Tryz.underlying54 (by kernel_rfl) h with ⟨rfl, _⟩ | ⟨a, len, cap, zs, rfl, _, hl, hm, hz, _, hcell, hwf⟩
  · refine ⟨_, [], rfl, fun _ h => (by cases h), ?_⟩
    simp only [VR]
    exact ⟨none, 0, rfl, Nat.le_refl _, Nat.zero_le _, fun h => (h rfl).elim⟩
  · simp only [if_true] at hz
    have hb : ∀ n ∈ zs, 0 ≤ n ∧ n < 4294967296 := by
      intro n hn
      have := hwf n hn
      simp [Lit.wf, IntKind.min, IntKind.max, IntKind.signed, IntKind.bits] at this
      omega
    have hu : U32 ((zs.take len).map Int.toNat) := by
      intro y hy
      obtain ⟨n, hn, rfl⟩ := List.mem_map.1 hy
      have := hb n (List.mem_of_mem_take hn)
      show n.toNat < 4294967296
      omega
    have hlen : ((zs.take len).map Int.toNat).length = len := by rw [List.length_map, List.length_take]; omega
    refine ⟨_, (zs.take len).map Int.toNat, rfl, hu, ?_⟩
    have hget : ∀ j : Nat, j < len → nts .u32 ((zs.take len).map Int.toNat) = nts .u32 ((zs.take len).map Int.toNat) → ((nts .u32 ((zs.take len).map Int.toNat))[j]? = some (.int .u32 (zs.getD j 0))) := by
      intro j hj _
      have hjz : j < zs.length := by omega
      have hn := hb (zs[j]'hjz) (List.getElem_mem hjz)
      simp only [nts, List.map_map, List.getElem?_map, List.getElem?_take, if_pos hj, List.getElem?_eq_getElem hjz, Option.map_some, Function.comp, List.getD_eq_getElem?_getD, Option.getD_some]
      congr 2
      omega
    simp only [VR]
    refine ⟨some a, cap, by rw [hlen], by rw [hlen]; exact hl, hm, fun hne => ⟨a, rfl, ?_, id, VRL_mk fun j d hd => ?_⟩⟩
    · have h0 : 0 < zs.length := by
        rcases Nat.eq_zero_or_pos zs.length with h | h
        · have : zs = [] := List.eq_nil_of_length_eq_zero h
          subst this
          simp [nts] at hne
        · exact h
      exact cell_lt (hcell 0 h0)
    · have hj : j < len := by
        have := (List.getElem?_eq_some_iff.1 hd).1
        simp only [nts, List.length_map, List.length_take] at this
        omega
      rw [hget j hj rfl] at hd
      injection hd with hd
      subst hd
      exact ⟨_, by rw [Nat.zero_add]; exact hcell j (by omega), rfl, by simp only [VR]⟩
theorem vr_Int {base : Nat} {v : Value} {d : DataW H} {p : List MemPlace} (hv : Value.okWide Tryz.prog W .any base 25 v) (h : DataW.Trod enc Tryz.prog W 0 (fun _ => true) true 25 v d p) :
    ∃ e : Bool × List Nat, U32 e.2 ∧ VR W (fun _ => False) [] [] (.agg [.bool e.1, sln .u32 e.2]) v := by
  obtain ⟨cs, rfl, hsz⟩ := okWide_struct Tryz.underlying25 hv
  obtain ⟨fuel, hf⟩ := h
  obtain ⟨y0, y1, n, _, hl, h0, h1⟩ := trod_struct2 Tryz.underlying25 hf
  have c25 : Tryz.prog.cellsOf 25 = 2 := by kernel_rfl
  have c4 : Tryz.prog.cellsOf 4 = 1 := by kernel_rfl
  have c23 : Tryz.prog.cellsOf 23 = 1 := by kernel_rfl
  rw [c25] at hsz
  obtain ⟨l⟩ := cs
  match l, hsz with
  | [c0, c1], _ =>
    simp only [Value.cells] at h0 h1
    rw [c4] at h0
    rw [c23] at h1
    obtain ⟨b, e0, _⟩ := DataW.trod_bool Tryz.underlying4 h0
    obtain ⟨v1, xs, e1, hu, hx⟩ := vr_limbs h1
    simp at e0 e1
    subst e0; subst e1
    refine ⟨(b, xs), hu, ?_⟩
    simp only [VR, VRs]
    refine ⟨[.bool b, c1], rfl, .bool b, [c1], rfl, rfl, c1, [], rfl, ?_, rfl⟩
    simpa only [VR] using hx
theorem trodAll_stays {W' : World} (hb : Below W.heap.size W W') {sp : Nat → Bool} : ∀ {ts : List TypeId} {vs : List Value} {ds : List (DataW H)} {p : List MemPlace}, (∀ t ∈ ts, Tryz.prog.readableRec t = true ∧ t < Tryz.prog.types.size) →
    DataW.TrodAll enc Tryz.prog W 0 (fun _ => true) true ts vs ds p → (∀ x ∈ p, x.block < W.heap.size ∧ sp x.block = true) → DataW.TrodAll enc Tryz.prog W' 0 sp true ts vs ds p
  | [], _, _, _, _, h, _ => by
    obtain ⟨rfl, rfl, rfl⟩ := trodAll_nil h
    simp [DataW.TrodAll]
  | t :: ts, _, _, _, ht, h, hp => by
    obtain ⟨v, vs, d, ds, a, b, rfl, rfl, rfl, h1, h2⟩ := trodAll_cons h
    obtain ⟨r1, r2⟩ := ht t (List.mem_cons_self ..)
    exact ⟨a, b, WideElems.Trod_stays laidOutZ r1 r2 h1 (fun x hx => hb.same (hp x (List.mem_append_left _ hx)).1) (fun x hx => (hp x (List.mem_append_left _ hx)).2),
      trodAll_stays hb (fun t ht' => ht t (List.mem_cons_of_mem _ ht')) h2 (fun x hx => hp x (List.mem_append_right _ hx)), rfl⟩
theorem law_post {fn : Func} {s : ChangeSpec} {W' : World} {args : Array Value} {ds : List (DataW H)} {before : List MemPlace} (hs : s.vars = []) (hW : DataW.Whole enc Tryz.prog fn.params.toList s.vars false W args.toList ds [] before) (hf : s.fn H ds = { results := [.lit (.bool true)], args := ds })
    (hr : fn.resultTypes = #[4]) (hts : ∀ t ∈ fn.params.toList, Tryz.prog.readableRec t = true ∧ t < Tryz.prog.types.size) (hb : Below W.heap.size W W') : s.post enc Tryz.prog fn false true false false W args (.bool true) W' := by
  have hW' := hW
  obtain ⟨p, q, hA, hV, rfl, _, _⟩ := hW
  rw [hs] at hV
  obtain ⟨_, rfl⟩ := trodVars_none hV
  have hlt : ∀ x ∈ p, x.block < W.heap.size := fun x hx => by simpa using hW'.lt x (List.mem_append_left _ hx)
  refine ⟨ds, [], p ++ [], [], p, [], hW', ?_, ?_, ?_, hb.frame _, fun h => by cases h⟩
  · rw [List.append_nil, hf, hr]
    exact trodAll_mk1 (shut_bool Tryz.underlying4 _)
  · rw [List.append_nil, hf]
    exact trodAll_stays hb hts hA fun x hx => ⟨hlt x hx, by simpa using hlt x hx⟩
  · rw [List.append_nil, hf, hs]
    rfl
end
/-- A law's call, out of its contract. -/
theorem law_calls {f : FuncId} {ds : List D} {W : World} {vs : List Value} (hc : PC C f ds (fun o => o = .ret (.bool true))) (hv : VRs W (fun _ => False) [] [] ds vs) : Calls Tryz.prog f vs.toArray W fun e W' => e = .returned (.bool true) ∧ Below W.heap.size W W' := by
  have h := (hc []).2 (fun _ => False) W [] vs (SR0 W) (by rw [forb0]; exact hv)
  refine h.mono ?_
  rintro e W' ⟨o, H', μ', ⟨rfl, rfl⟩, _, ⟨v, he, hv'⟩, hevo⟩
  simp only [VR] at hv'
  subst hv'
  exact ⟨he, hevo.os, hevo.tape, hevo.output, hevo.size, fun k hk => hevo.chg k hk fun ⟨i, o, h, _⟩ => by simp at h⟩
end Go.V
/- The closed facts of a row, one by one: what holds of the program itself, and how they are joined; no condition. -/
set_option maxRecDepth 100000
namespace Go.V
open Go.Proofs
theorem and_t {a b : Bool} (h1 : a = true) (h2 : b = true) : (a && b) = true := by rw [h1, h2]; rfl
theorem joined_of {P : Program} {f : FuncId} {fn : Func} {s : ChangeSpec} {c : OpenClaim}
    (k1 : (c.wf (OpenSpec.ofChange s)) = true)
    (k2 : (laidOutB P) = true)
    (k3 : (mapsRowed P) = true)
    (k4 : (fn.params.all (P.readableRec ·)) = true)
    (k5 : (namedTie P c.named s.vars) = true)
    (k6 : (c.stops == []) = true)
    (k7 : (P.stops == []) = true)
    (k8 : (c.knobs == []) = true)
    (k9 : (P.stopKnobs == []) = true)
    (k10 : (c.inPlace == P.inPlace f) = true)
    (k11 : (c.unfollowed == P.unfollowed f) = true)
    (k12 : (c.recurses == P.recurses f) = true)
    (k13 : (c.named == P.varsNamed f) = true)
    (k14 : ((c.maps == (fn.params.toList ++ s.plain.varTypes P).any (P.mapsRec ·))) = true)
    (k15 : ((c.ifaces == (fn.params.toList ++ s.plain.varTypes P).any (P.ifacesRec ·))) = true)
    (k16 : (c.mapsOut == P.mapsAmong fn.resultTypes.toList) = true)
    (k17 : ((c.loops == (fn.params.toList ++ s.plain.varTypes P).any (P.loopsFrom ·))) = true)
    (k18 : ((c.wideKeys == (fn.params.toList ++ s.plain.varTypes P ++ fn.resultTypes.toList).any (P.wideKeysFrom ·))) = true)
    (k19 : (s.vars.all (P.varReadable ·)) = true)
    (k20 : (fn.resultTypes.all (fun t => P.readableRec t && decide (t < P.types.size))) = true)
    (k21 : ((c.ifacesOut == fn.resultTypes.toList.any (P.ifacesRec ·))) = true)
    (k22 : ((c.loopsOut == fn.resultTypes.toList.any (P.loopsFrom ·))) = true)
    (k23 : (c.plainKeys == P.plainKeys) = true)
    (k24 : (c.shortTexts.isNone) = true)
    (k25 : (P.stopsHeard) = true)
    (k26 : (P.mayEnter) = true)
    (k27 : (c.lifted == P.liftsFinal) = true)
    (k28 : (P.make == some c.make) = true)
    (k29 : ((c.kinds == (if c.domain.isEmpty then [] else fn.params.toList.map fun t => match P.underlying t with | some (.int k) => some k | _ => none))) = true)
    (k30 : (c.pinned == c.pinnedBy) = true)
    (k31 : ((c.veiled == (fn.params.toList ++ s.plain.varTypes P ++ fn.resultTypes.toList).any (P.veiledRec ·))) = true)
    (k32 : (c.veiledFits P fn.params.toList (fn.params.toList ++ s.plain.varTypes P ++ fn.resultTypes.toList)) = true)
    : joinedFacts P f fn s c = true := by
  unfold joinedFacts
  exact and_t (and_t (and_t (and_t (and_t (and_t (and_t (and_t (and_t (and_t (and_t (and_t (and_t (and_t (and_t (and_t (and_t (and_t (and_t (and_t (and_t (and_t (and_t (and_t (and_t (and_t (and_t (and_t (and_t (and_t (and_t k1 k2) k3) k4) k5) k6) k7) k8) k9) k10) k11) k12) k13) k14) k15) k16) k17) k18) k19) k20) k21) k22) k23) k24) k25) k26) k27) k28) k29) k30) k31) k32
theorem z_maps : mapsRowed Tryz.prog = true := by kernel_rfl
theorem z_plainKeys : (Go.Proofs.YtjohcjagbodicaaGreatDoor.Rows.wholeSumsRow.plainKeys == Tryz.prog.plainKeys) = true := by kernel_rfl
theorem z_stopsHeard : Tryz.prog.stopsHeard = true := by kernel_rfl
theorem z_lifts : (Go.Proofs.YtjohcjagbodicaaGreatDoor.Rows.wholeSumsRow.lifted == Tryz.prog.liftsFinal) = true := by kernel_rfl
theorem z_make : (Tryz.prog.make == some Go.Proofs.YtjohcjagbodicaaGreatDoor.Rows.wholeSumsRow.make) = true := by kernel_rfl
theorem z_main : YtjohcjagbodicaaGreatDoor.Tryz.pinned.checked.prog.mainIs = some (true, "5b8a1e8da34a88fc5bd34c331ad38cb7b46866bf85af6ffc6bc920dabf7d6da1".toList) := by kernel_rfl
theorem z_looks : true = Tryz.prog.looks [] := by kernel_rfl
theorem z_enter : Tryz.prog.mayEnter = true := by kernel_rfl
end Go.V
set_option maxHeartbeats 8000000
set_option maxRecDepth 100000
set_option synthInstance.maxSize 100000
set_option synthInstance.maxHeartbeats 2000000
namespace Go.V
open Go.RowKit Go.Proofs
theorem inv_same {a m x x0 k k0 : Int} (e : a * x + m * k = 1) (h0 : a * x0 + m * k0 = 1) : x % m = x0 % m := by
  rw [Int.emod_eq_emod_iff_emod_sub_eq_zero]
  apply Int.emod_eq_zero_of_dvd
  refine ⟨x0 * (k0 - k) + k0 * (x - x0), ?_⟩
  have e1 : x - x0 = (a * x0 + m * k0) * (x - x0) := by rw [h0, Int.one_mul]
  have e2 : a * (x - x0) = m * (k0 - k) := by
    rw [Int.mul_sub, Int.mul_sub]; omega
  have e3 : (a * x0 + m * k0) * (x - x0) = x0 * (a * (x - x0)) + m * (k0 * (x - x0)) := by
    rw [Int.add_mul, Int.mul_comm a x0, Int.mul_assoc, Int.mul_assoc]
  have e4 : (a * x0 + m * k0) * (x - x0) = m * (x0 * (k0 - k) + k0 * (x - x0)) := by rw [e3, e2, Int.mul_add, Int.mul_left_comm x0 m]
  exact e1.trans e4
theorem gcd_all (a b : Int) : a * gcdX a b + b * gcdY a b = (gG a b : Int) := by
  by_cases h : b = 0
  · subst h
    have hg : gG a 0 = a.natAbs := Nat.gcd_zero_right _
    rw [gcdX, if_pos rfl, hg, Int.zero_mul, Int.add_zero, Int.mul_comm]
    exact Int.sign_mul_self a
  · exact gcd_eq h
theorem gcdX_bound (a b : Int) : (gcdX a b).natAbs ≤ max b.natAbs 1 ∧ (b ≠ 0 → 0 ≤ gcdX a b ∧ gcdX a b < gQ a b) := by
  by_cases h : b = 0
  · subst h
    refine ⟨?_, fun h => (h rfl).elim⟩
    rw [gcdX, if_pos rfl]
    have := Int.sign_trichotomy a
    omega
  · have h1 := gQ_le (a := a) h
    have h2 := gQ_pos (a := a) h
    have h3 := Int.emod_nonneg (gX a b) (show (gQ a b : Int) ≠ 0 by omega)
    have h4 := Int.emod_lt_of_pos (gX a b) (show (0 : Int) < (gQ a b : Int) by omega)
    rw [gcdX, if_neg h]
    exact ⟨by omega, fun _ => ⟨h3, h4⟩⟩
theorem gcdY_bound (a b : Int) : (gcdY a b).natAbs ≤ max a.natAbs 1 := by
  by_cases h : b = 0
  · subst h; rw [gcdY, if_pos rfl]; simp
  · obtain ⟨h1, h2⟩ := (gcdX_bound a b).2 h
    exact y_bound h (gcd_all a b) h1 h2
theorem lnZ_max {x y : Int} {m : Nat} (h : x.natAbs ≤ max y.natAbs 1) (hy : lnZ y ≤ m) (h1 : 1 ≤ m := by decide) : lnZ x ≤ m := by
  have e := ln_mono h
  rcases Nat.le_total y.natAbs 1 with h2 | h2
  · rw [Nat.max_eq_right h2, lim_one] at e
    exact Nat.le_trans e h1
  · rw [Nat.max_eq_left h2] at e
    exact Nat.le_trans e hy
theorem w_DivW {a b k : Int} (fa : fitZ a) (fb : fitZ b) (h0 : b ≠ 0) (h1 : 1 ≤ k) (h4 : k ≤ 4) : PC C n_whole_Div [intD a, intD b, .int .i64 k] (fun o => o = .ret (.tup [intD (divW (awayZ k (a.tdiv b) (a.tmod b) a b) a b).1, intD (divW (awayZ k (a.tdiv b) (a.tmod b) a b) a b).2, .int .i64 0])) :=
  (pc_w_Div (decide (a < 0), lim a.natAbs) (decide (b < 0), lim b.natAbs) (U32_lim _) (U32_lim _) k).mono fun o ho => by
    rw [ho, valI_int, valI_int, okI_of2 fa fb]
    unfold divR
    rw [cond_true, if_neg (fun e => by rcases kindF_none.1 e with h | h <;> omega), if_neg h0]
theorem w_Div1 {a b : Int} (fa : fitZ a) (fb : fitZ b) (h0 : b ≠ 0) : PC C n_whole_Div [intD a, intD b, .int .i64 1] (fun o => o = .ret (.tup [intD (a.tdiv b), intD (a.tmod b), .int .i64 0])) := by
  have h := w_DivW fa fb h0 (k := 1) (by decide) (by decide)
  rwa [divW_zero] at h
theorem w_Div3 {a b : Int} (fa : fitZ a) (fb : fitZ b) (h0 : 0 < b) : ∃ q, PC C n_whole_Div [intD a, intD b, .int .i64 3] (fun o => o = .ret (.tup [intD q, intD (a % b), .int .i64 0])) := by
  have h := w_DivW fa fb (show b ≠ 0 by omega) (k := 3) (by decide) (by decide)
  rw [divW_euclid h0] at h
  exact ⟨_, h⟩
/-- The inverse of the inverse is the rest. -/
theorem inv_inv {a b : Int} (hb : 0 < b) (hg : gG a b = 1) : invR true (gcdX a b) b = (a % b, 0) ∧ 0 ≤ gcdX a b ∧ gcdX a b < b := by
  have hb0 : b ≠ 0 := by omega
  have e1 := gcd_all a b
  rw [hg] at e1
  have hQ : ∀ x : Int, gG x b = 1 → (gQ x b : Int) = b := fun x h => by
    have := gQ_mul (a := x) hb0
    rw [h, Nat.mul_one] at this
    omega
  have hg2 : gG (gcdX a b) b = 1 := by
    have h1 : ((gG (gcdX a b) b : Nat) : Int) ∣ gcdX a b := Int.ofNat_dvd_left.2 (Nat.gcd_dvd_left _ _)
    have h2 : ((gG (gcdX a b) b : Nat) : Int) ∣ b := Int.ofNat_dvd_left.2 (Nat.gcd_dvd_right _ _)
    have h3 : ((gG (gcdX a b) b : Nat) : Int) ∣ 1 := by
      have h5 := Int.dvd_add (Int.dvd_trans h1 (Int.dvd_mul_left a _)) (Int.dvd_trans h2 (Int.dvd_mul_right b (gcdY a b)))
      rwa [e1] at h5
    have := Int.le_of_dvd (by decide) h3
    have hpos : 0 < gG (gcdX a b) b := Nat.gcd_pos_of_pos_right _ (by omega)
    omega
  obtain ⟨r1, r2⟩ := (gcdX_bound a b).2 hb0
  rw [hQ a hg] at r2
  refine ⟨?_, r1, r2⟩
  unfold invR
  rw [cond_true, if_neg hb0, if_neg (by omega), if_pos hg2]
  obtain ⟨s1, s2⟩ := (gcdX_bound (gcdX a b) b).2 hb0
  rw [hQ _ hg2] at s2
  have e2 := gcd_all (gcdX a b) b
  rw [hg2] at e2
  have e3 : gcdX a b * a + b * gcdY a b = 1 := by rw [Int.mul_comm (gcdX a b)]; exact e1
  have := inv_same e2 e3
  rw [Int.emod_eq_of_lt s1 s2] at this
  rw [this]
theorem pc_l_Common (d1 d2 d3 : Bool × List Nat) (h1 : U32 d1.2) (h2 : U32 d2.2) (h3 : U32 d3.2) : PC C n_law02_WholeCommon [intA d1.1 d1.2, intA d2.1 d2.2, intA d3.1 d3.2] (fun o => o = .ret (.bool true)) := by
  refine PC.run fn_law02_WholeCommon en_law02_WholeCommon rfl nt_law02_WholeCommon rfl (rs := [.tmp 6]) (by rw [rs_law02_WholeCommon]) (by simp only [List.length_cons, List.length_nil, Nat.reduceAdd, Nat.reduceSub, List.replicate_succ, List.replicate_zero, List.cons_append, List.nil_append]; exact rfl) ?_
  refine ARun.seq ?_
  refine ARun.region ?_
  refine y_op rfl (q_boxF rfl rfl rfl rfl) ?_
  refine y_op rfl (q_boxF rfl rfl rfl rfl) ?_
  refine y_op rfl (q_boxF rfl rfl rfl rfl) ?_
  refine y_op rfl (q_assign rfl) ?_
  refine AOps.nil ?_
  refine ARun.seq ?_
  refine ARun.region ?_
  refine y_op rfl (q_call rfl rfl (pc_l_awake)) ?_
  refine y_op rfl (q_assign rfl) ?_
  refine AOps.nil ?_
  refine ARun.seq ?_
  refine ARun.seq ?_
  refine ARun.region ?_
  refine y_op rfl (q_loadAgg rfl rfl rfl rfl rfl) ?_
  refine y_op rfl (q_loadAgg rfl rfl rfl rfl rfl) ?_
  refine y_op rfl (q_loadAgg rfl rfl rfl rfl rfl) ?_
  refine y_op rfl (q_buildF rfl rfl rfl rfl rfl rfl rfl rfl rfl rfl rfl (by decide) (by decide) rfl) ?_
  refine y_op rfl (q_call rfl rfl (pc_l_fine [d1, d2, d3] 3 rfl 20)) ?_
  refine y_op rfl (q_not rfl) ?_
  refine AOps.nil ?_
  refine ARun.cond rfl (fun g => ?_) (fun g => ?_)
  · skip
    refine ARun.seq ?_
    refine ARun.region ?_
    refine y_op rfl (q_move rfl) ?_
    refine y_op rfl (q_assign rfl) ?_
    refine AOps.nil ?_
    refine ARun.ret ?_
    refine ⟨_, _, _, .tmp rfl .nil, .cons (.same _) .nil, rfl, ?_⟩
    rfl
  · skip
    have g := not_false_true g
    simp only [List.all_cons, List.all_nil, Bool.and_true, Bool.and_eq_true, decide_eq_true_eq] at g
    obtain ⟨⟨g1, k1⟩, ⟨g2, k2⟩, g3, k3⟩ := g
    obtain ⟨a, rfl, la⟩ := fine_int h1 g1 k1
    obtain ⟨b, rfl, lb⟩ := fine_int h2 g2 k2
    obtain ⟨c, rfl, lc⟩ := fine_int h3 g3 k3
    have lm := lnZ_mul 40 la lc
    have ln := lnZ_mul 40 lb lc
    have lx := lnZ_max (gcdX_bound (a * c) (b * c)).1 ln
    have ly := lnZ_max (gcdY_bound (a * c) (b * c)) lm
    have lmx := lnZ_mul 80 lm lx
    have lny := lnZ_mul 80 ln ly
    have lsum := lnZ_add 81 lmx lny
    have hG := gcd_all (a * c) (b * c)
    have lg : lnZ (gG (a * c) (b * c) : Int) ≤ 81 := by rw [← hG]; exact lsum
    have hgcd : PC C n_whole_Gcd [intD (a * c), intD (b * c)] (fun o => o = .ret (.tup [intD (gG (a * c) (b * c) : Int), intD (gcdX (a * c) (b * c)), intD (gcdY (a * c) (b * c)), .int .i64 0])) :=
      (pc_w_Gcd (decide (a * c < 0), lim (a * c).natAbs) (decide (b * c < 0), lim (b * c).natAbs) (U32_lim _) (U32_lim _)).mono fun o ho => by
        rw [ho, valI_int, valI_int, okI_of2 (lnZ_fit lm) (lnZ_fit ln)]; rfl
    have hga : ((gG (a * c) (b * c) : Nat) : Int) ∣ a * c := Int.ofNat_dvd_left.2 (Nat.gcd_dvd_left _ _)
    have hgb : ((gG (a * c) (b * c) : Nat) : Int) ∣ b * c := Int.ofNat_dvd_left.2 (Nat.gcd_dvd_right _ _)
    have hgc : ((c.natAbs : Nat) : Int) ∣ (gG (a * c) (b * c) : Int) := by
      refine Int.ofNat_dvd.2 (Nat.dvd_gcd ?_ ?_)
      · rw [Int.natAbs_mul]; exact Nat.dvd_mul_left _ _
      · rw [Int.natAbs_mul]; exact Nat.dvd_mul_left _ _
    have hneg : decide ((gG (a * c) (b * c) : Int) < 0) = false := decide_eq_false (by omega)
    refine ARun.skip ?_
    refine ARun.seq ?_
    refine ARun.region ?_
    refine y_op rfl (q_loadAgg rfl rfl rfl rfl rfl) ?_
    refine y_op rfl (q_loadAgg rfl rfl rfl rfl rfl) ?_
    refine y_op rfl (q_call rfl rfl (pc_l_mul a c (lnZ_fit la) (lnZ_fit lc) (lnZ_fit lm))) ?_
    refine y_allocF rfl rfl rfl rfl rfl rfl rfl rfl rfl rfl rfl ?_
    refine AOps.nil ?_
    refine ARun.seq ?_
    refine ARun.region ?_
    refine y_op rfl (q_loadAgg rfl rfl rfl rfl rfl) ?_
    refine y_op rfl (q_loadAgg rfl rfl rfl rfl rfl) ?_
    refine y_op rfl (q_call rfl rfl (pc_l_mul b c (lnZ_fit lb) (lnZ_fit lc) (lnZ_fit ln))) ?_
    refine y_allocF rfl rfl rfl rfl rfl rfl rfl rfl rfl rfl rfl ?_
    refine AOps.nil ?_
    refine ARun.seq ?_
    refine ARun.region ?_
    refine y_op rfl (q_loadAgg rfl rfl rfl rfl rfl) ?_
    refine y_op rfl (q_loadAgg rfl rfl rfl rfl rfl) ?_
    refine y_op rfl (q_call rfl rfl (hgcd)) ?_
    refine y_op rfl (q_move rfl) ?_
    refine y_op rfl (q_extract rfl rfl) ?_
    refine y_op rfl (q_extract rfl rfl) ?_
    refine y_op rfl (q_extract rfl rfl) ?_
    refine y_op rfl (q_extract rfl rfl) ?_
    refine y_allocF3 (alW rfl rfl rfl rfl rfl rfl rfl rfl rfl rfl rfl) (alW rfl rfl rfl rfl rfl rfl rfl rfl rfl rfl rfl) (alW rfl rfl rfl rfl rfl rfl rfl rfl rfl rfl rfl) rfl rfl rfl ?_
    refine y_op rfl (q_assign rfl) ?_
    refine AOps.nil ?_
    refine ARun.seq ?_
    refine ARun.seq ?_
    refine ARun.drawnP 18 (fun _ => False) mixC rfl rfl (by kernel_rfl) (fun _ _ h => h.elim) ?_
    refine .op rfl (q_move rfl) ?_
    refine .op rfl (q_intNeF rfl rfl rfl) ?_
    refine .op rfl (q_move rfl) ?_
    refine .op rfl (q_fldS rfl rfl rfl (by decide)) ?_
    refine .op rfl (OpQ.cast (q_load rfl rfl rfl rfl) (congrArg D.bool hneg)) ?_
    refine .op rfl (q_pick rfl rfl rfl rfl) ?_
    refine .op rfl (q_move rfl) ?_
    refine .op rfl (q_loadAgg rfl rfl rfl rfl rfl) ?_
    refine .op rfl (q_loadAgg rfl rfl rfl rfl rfl) ?_
    refine .op rfl (q_call rfl rfl (pc_l_mul (a * c) (gcdX (a * c) (b * c)) (lnZ_fit lm) (lnZ_fit lx) (lnZ_fit lmx))) ?_
    refine .op rfl (q_loadAgg rfl rfl rfl rfl rfl) ?_
    refine .op rfl (q_loadAgg rfl rfl rfl rfl rfl) ?_
    refine .op rfl (q_call rfl rfl (pc_l_mul (b * c) (gcdY (a * c) (b * c)) (lnZ_fit ln) (lnZ_fit ly) (lnZ_fit lny))) ?_
    refine .op rfl (q_call rfl rfl (pc_l_add (a * c * gcdX (a * c) (b * c)) (b * c * gcdY (a * c) (b * c)) (lnZ_fit lmx) (lnZ_fit lny) (lnZ_fit lsum))) ?_
    refine .op rfl (q_loadAgg rfl rfl rfl rfl rfl) ?_
    refine .op rfl (q_call rfl rfl (pc_l_equalT (a * c * gcdX (a * c) (b * c) + b * c * gcdY (a * c) (b * c)) (gG (a * c) (b * c) : Int) (lnZ_fit lsum) hG)) ?_
    refine .op rfl (q_not rfl) ?_
    refine .op rfl (q_pick rfl rfl rfl rfl) ?_
    refine .nil (fun hG => ?_)
    refine AOps.nil ?_
    refine ARun.condF rfl ?_
    refine ARun.skip ?_
    refine ARun.seq ?_
    refine ARun.seq ?_
    refine ARun.region ?_
    refine y_op rfl (q_fldS rfl rfl rfl (by decide)) ?_
    refine y_op rfl (q_load rfl rfl rfl rfl) ?_
    refine y_op rfl (q_lenSl rfl rfl) ?_
    refine y_op rfl (q_intB (b := decide ((gG (a * c) (b * c) : Int) ≠ 0)) rfl rfl rfl len_pos_iff) ?_
    refine AOps.nil ?_
    refine ARun.join (S := Bool) (fun u : Bool => [(6, .any), (14, .any), (15, .any), (16, .any), (17, .any), (18, .any), (19, .any), (20, .any), (21, .any), (22, .any), (73, .any), (74, .any), (75, .any), (76, .any), (77, .any), (78, .any), (79, .any), (80, .any), (81, .any), (82, .any), (83, .any), (84, .any), (85, .any), (86, .any), (87, .any), (88, .any), (89, .any), (90, .any), (91, .any), (92, .any), (93, .any), (94, .any), (95, .any), (96, .any), (97, .any), (98, .any), (99, .any), (100, .any), (101, .any), (102, .any), (103, .any), (104, .any), (105, .any), (106, .any), (107, .any), (108, .any), (109, .any), (110, .any), (111, .any), (112, .any), (113, .any), (114, .any), (115, .any), (116, .any), (117, .any), (118, .any), (119, .any)]) (fun u : Bool => u = true) (fun run => ?_) ?_
    · skip
      refine ARun.ite rfl (fun hg0 => ?_) (fun hg0 => ?_)
      · skip
        have hc0 : c ≠ 0 := by
          rintro rfl
          rw [Int.mul_zero, Int.mul_zero] at hg0
          exact hg0 rfl
        have z0 : (lim (0 : Int).natAbs).length = 0 := by rw [show (0 : Int).natAbs = 0 from rfl, lim_zero]; rfl
        have hd1 := w_Div1 (a := a * c) (b := (gG (a * c) (b * c) : Int)) (lnZ_fit lm) (lnZ_fit lg) hg0
        rw [Int.tmod_eq_zero_of_dvd hga] at hd1
        have hd2 := w_Div1 (a := b * c) (b := (gG (a * c) (b * c) : Int)) (lnZ_fit ln) (lnZ_fit lg) hg0
        rw [Int.tmod_eq_zero_of_dvd hgb] at hd2
        have hd3 := w_Div1 (a := (gG (a * c) (b * c) : Int)) (b := ((c.natAbs : Nat) : Int)) (lnZ_fit lg) (by have := lnZ_fit lc; unfold fitZ at *; rw [Int.natAbs_natCast]; exact this) (by omega)
        rw [Int.tmod_eq_zero_of_dvd hgc, intD_nat c.natAbs] at hd3
        refine ARun.seq ?_
        refine ARun.region ?_
        refine y_op rfl (q_loadAgg rfl rfl rfl rfl rfl) ?_
        refine y_op rfl (q_loadAgg rfl rfl rfl rfl rfl) ?_
        refine y_op rfl (q_call rfl rfl (hd1)) ?_
        refine y_op rfl (q_move rfl) ?_
        refine y_op rfl (q_extract rfl rfl) ?_
        refine y_op rfl (q_extract rfl rfl) ?_
        refine y_op rfl (q_extract rfl rfl) ?_
        refine y_allocF2 (alW rfl rfl rfl rfl rfl rfl rfl rfl rfl rfl rfl) (alW rfl rfl rfl rfl rfl rfl rfl rfl rfl rfl rfl) rfl ?_
        refine y_op rfl (q_assign rfl) ?_
        refine AOps.nil ?_
        refine ARun.seq ?_
        refine ARun.region ?_
        refine y_op rfl (q_loadAgg rfl rfl rfl rfl rfl) ?_
        refine y_op rfl (q_loadAgg rfl rfl rfl rfl rfl) ?_
        refine y_op rfl (q_call rfl rfl (hd2)) ?_
        refine y_op rfl (q_move rfl) ?_
        refine y_op rfl (q_extract rfl rfl) ?_
        refine y_op rfl (q_extract rfl rfl) ?_
        refine y_op rfl (q_extract rfl rfl) ?_
        refine y_allocF2 (alW rfl rfl rfl rfl rfl rfl rfl rfl rfl rfl rfl) (alW rfl rfl rfl rfl rfl rfl rfl rfl rfl rfl rfl) rfl ?_
        refine y_op rfl (q_assign rfl) ?_
        refine AOps.nil ?_
        refine ARun.seq ?_
        refine ARun.region ?_
        refine y_op rfl (q_loadAgg rfl rfl rfl rfl rfl) ?_
        refine y_op rfl (q_fldS rfl rfl rfl (by decide)) ?_
        refine y_op rfl (q_load rfl rfl rfl rfl) ?_
        refine y_op rfl (q_build rfl rfl rfl rfl rfl) ?_
        refine y_op rfl (q_call rfl rfl (hd3)) ?_
        refine y_op rfl (q_move rfl) ?_
        refine y_op rfl (q_extract rfl rfl) ?_
        refine y_op rfl (q_extract rfl rfl) ?_
        refine y_op rfl (q_extract rfl rfl) ?_
        refine y_allocF2 (alW rfl rfl rfl rfl rfl rfl rfl rfl rfl rfl rfl) (alW rfl rfl rfl rfl rfl rfl rfl rfl rfl rfl rfl) rfl ?_
        refine y_op rfl (q_assign rfl) ?_
        refine AOps.nil ?_
        refine ARun.seq ?_
        refine ARun.region ?_
        refine y_op rfl (q_move rfl) ?_
        refine y_op rfl (q_intNeF rfl rfl rfl) ?_
        refine y_op rfl (q_move rfl) ?_
        refine y_op rfl (q_move rfl) ?_
        refine y_op rfl (q_intNeF rfl rfl rfl) ?_
        refine y_op rfl (q_pick rfl rfl rfl rfl) ?_
        refine y_op rfl (q_move rfl) ?_
        refine y_op rfl (q_move rfl) ?_
        refine y_op rfl (q_intNeF rfl rfl rfl) ?_
        refine y_op rfl (q_pick rfl rfl rfl rfl) ?_
        refine y_op rfl (q_move rfl) ?_
        refine y_op rfl (q_fldS rfl rfl rfl (by decide)) ?_
        refine y_op rfl (q_load rfl rfl rfl rfl) ?_
        refine y_op rfl (q_lenSl rfl rfl) ?_
        refine y_op rfl (q_fldS rfl rfl rfl (by decide)) ?_
        refine y_op rfl (q_load rfl rfl rfl rfl) ?_
        refine y_op rfl (q_lenSl rfl rfl) ?_
        refine y_op rfl (q_add rfl rfl (nadd_i64 (by omega))) ?_
        refine y_op rfl (q_fldS rfl rfl rfl (by decide)) ?_
        refine y_op rfl (q_load rfl rfl rfl rfl) ?_
        refine y_op rfl (q_lenSl rfl rfl) ?_
        refine y_op rfl (q_add rfl rfl (nadd_i64 (by omega))) ?_
        refine y_op rfl (q_intB (b := false) rfl rfl rfl (decide_eq_false (by omega))) ?_
        refine y_op rfl (q_pick rfl rfl rfl rfl) ?_
        refine AOps.nil ?_
        refine ARun.condF rfl ?_
        refine ARun.skip ?_
        exact ARun.again (run (true) (rfl)) (by (repeat' first | exact envLe_nil | apply envLe_any | apply envLe_same)) rfl
      · skip
        refine ARun.skip ?_
        exact ARun.again (run (true) (rfl)) (by (repeat' first | exact envLe_nil | apply envLe_any | apply envLe_same)) rfl
    · rintro u hj
      try dsimp only at hj ⊢
      have hinv : PC C n_whole_Inverse [intD a, intD b] (fun o => o = .ret (.tup [intD (invR true a b).1, .int .i64 (invR true a b).2])) :=
        (pc_w_Inverse (decide (a < 0), lim a.natAbs) (decide (b < 0), lim b.natAbs) (U32_lim _) (U32_lim _)).mono fun o ho => by
          rw [ho, valI_int, valI_int, okI_of2 (lnZ_fit la) (lnZ_fit lb)]
      refine ARun.seq ?_
      refine ARun.region ?_
      refine y_op rfl (q_loadAgg rfl rfl rfl rfl rfl) ?_
      refine y_op rfl (q_loadAgg rfl rfl rfl rfl rfl) ?_
      refine y_op rfl (q_call rfl rfl (hinv)) ?_
      refine y_op rfl (q_move rfl) ?_
      refine y_op rfl (q_extract rfl rfl) ?_
      refine y_op rfl (q_extract rfl rfl) ?_
      refine y_allocF rfl rfl rfl rfl rfl rfl rfl rfl rfl rfl rfl ?_
      refine y_op rfl (q_assign rfl) ?_
      refine AOps.nil ?_
      refine ARun.seq ?_
      refine ARun.seq ?_
      refine ARun.region ?_
      refine y_op rfl (q_move rfl) ?_
      refine y_op rfl (q_int rfl rfl rfl) ?_
      refine AOps.nil ?_
      refine ARun.cond rfl (fun hk => ?_) (fun hk => ?_)
      · skip
        refine ARun.seq ?_
        refine ARun.region ?_
        refine y_op rfl (q_move rfl) ?_
        refine y_op rfl (q_assign rfl) ?_
        refine AOps.nil ?_
        refine ARun.ret ?_
        refine ⟨_, _, _, .tmp rfl .nil, .cons (.same _) .nil, rfl, ?_⟩
        rfl
      · skip
        have hk : (invR true a b).2 = 0 := by simpa using hk
        have hcase : 0 < b ∧ gG a b = 1 := by
          unfold invR at hk
          rw [cond_true] at hk
          split at hk
          · cases hk
          · split at hk
            · cases hk
            · split at hk
              · exact ⟨by omega, by assumption⟩
              · cases hk
        obtain ⟨hb0, hg1⟩ := hcase
        have hv : invR true a b = (gcdX a b, 0) := by
          unfold invR
          rw [cond_true, if_neg (by omega), if_neg (by omega), if_pos hg1]
        rw [hv]
        obtain ⟨i1, i2, i3⟩ := inv_inv hb0 hg1
        have lv := lnZ_max (gcdX_bound a b).1 lb
        have hinv2 : PC C n_whole_Inverse [intD (gcdX a b), intD b] (fun o => o = .ret (.tup [intD (a % b), .int .i64 0])) :=
          (pc_w_Inverse (decide (gcdX a b < 0), lim (gcdX a b).natAbs) (decide (b < 0), lim b.natAbs) (U32_lim _) (U32_lim _)).mono fun o ho => by
            rw [ho, valI_int, valI_int, okI_of2 (lnZ_fit lv) (lnZ_fit lb), i1]
        obtain ⟨q3, hd4⟩ := w_Div3 (a := a) (b := b) (lnZ_fit la) (lnZ_fit lb) hb0
        have r1 := Int.emod_nonneg a (show b ≠ 0 by omega)
        have r2 := Int.emod_lt_of_pos a hb0
        have lr : lnZ (a % b) ≤ 20 := Nat.le_trans (ln_mono (by omega)) lb
        refine ARun.skip ?_
        refine ARun.seq ?_
        refine ARun.region ?_
        refine y_op rfl (q_loadAgg rfl rfl rfl rfl rfl) ?_
        refine y_op rfl (q_loadAgg rfl rfl rfl rfl rfl) ?_
        refine y_op rfl (q_call rfl rfl (hinv2)) ?_
        refine y_op rfl (q_move rfl) ?_
        refine y_op rfl (q_extract rfl rfl) ?_
        refine y_op rfl (q_extract rfl rfl) ?_
        refine y_allocF rfl rfl rfl rfl rfl rfl rfl rfl rfl rfl rfl ?_
        refine y_op rfl (q_assign rfl) ?_
        refine AOps.nil ?_
        refine ARun.seq ?_
        refine ARun.region ?_
        refine y_op rfl (q_loadAgg rfl rfl rfl rfl rfl) ?_
        refine y_op rfl (q_loadAgg rfl rfl rfl rfl rfl) ?_
        refine y_op rfl (q_call rfl rfl (hd4)) ?_
        refine y_op rfl (q_move rfl) ?_
        refine y_op rfl (q_extract rfl rfl) ?_
        refine y_op rfl (q_extract rfl rfl) ?_
        refine y_op rfl (q_extract rfl rfl) ?_
        refine y_allocF2 (alW rfl rfl rfl rfl rfl rfl rfl rfl rfl rfl rfl) (alW rfl rfl rfl rfl rfl rfl rfl rfl rfl rfl rfl) rfl ?_
        refine y_op rfl (q_assign rfl) ?_
        refine AOps.nil ?_
        refine ARun.seq ?_
        refine ARun.region ?_
        refine y_op rfl (q_move rfl) ?_
        refine y_op rfl (q_move rfl) ?_
        refine y_op rfl (q_move rfl) ?_
        refine y_op rfl (q_intEqT rfl rfl rfl) ?_
        refine y_op rfl (q_pick rfl rfl rfl rfl) ?_
        refine y_op rfl (q_move rfl) ?_
        refine y_op rfl (q_move rfl) ?_
        refine y_op rfl (q_intEqT rfl rfl rfl) ?_
        refine y_op rfl (q_pick rfl rfl rfl rfl) ?_
        refine y_op rfl (q_move rfl) ?_
        refine y_op rfl (q_loadAgg rfl rfl rfl rfl rfl) ?_
        refine y_op rfl (q_loadAgg rfl rfl rfl rfl rfl) ?_
        refine y_op rfl (q_call rfl rfl (pc_l_equalT (a % b) (a % b) (lnZ_fit lr) rfl)) ?_
        refine y_op rfl (q_pick rfl rfl rfl rfl) ?_
        refine y_op rfl (q_assign rfl) ?_
        refine AOps.nil ?_
        refine ARun.ret ?_
        refine ⟨_, _, _, .tmp rfl .nil, .cons (.same _) .nil, rfl, ?_⟩
        rfl
end Go.V
