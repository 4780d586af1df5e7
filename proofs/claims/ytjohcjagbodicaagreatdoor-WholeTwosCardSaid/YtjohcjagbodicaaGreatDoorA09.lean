/- A part of the proof: abstract values, rules for the steps of the program's form, and contracts of its functions, each proved; no condition. -/
import Derived.Test.YtjohcjagbodicaaGreatDoorA08
set_option linter.unusedVariables false
set_option linter.unusedSimpArgs false
set_option synthInstance.maxSize 100000
set_option synthInstance.maxHeartbeats 2000000
namespace Go.V
open Go.RowKit Go.Proofs
theorem okB_lim {a : Nat} (h : (lim a).length ≤ 1024) : okB (lim a) = true := okB_iff.2 ⟨h, Canon_lim a⟩
theorem resN_ok {a b : Nat} {v : Nat ⊕ Int} (ha : (lim a).length ≤ 1024) (hb : (lim b).length ≤ 1024) : resN (lim a) (lim b) v = (match v with
    | .inl n => if (lim n).length ≤ 1024 then (n, 0) else (0, 2)
    | .inr e => (0, e)) := by
  unfold resN; rw [okB_lim ha, okB_lim hb]; rfl
theorem Zdd (a b : Nat) (ha : (lim a).length ≤ 1024) (hb : (lim b).length ≤ 1024) : PC C Ziy [numD a, numD b] (fun o => o = .ret (.int .i64 (cmpI a b))) := by
  have hc : resC (lim a) (lim b) = (cmpI a b, 0) := by rw [resC, okB_lim ha, okB_lim hb, val_lim, val_lim]; rfl
  refine PC.run Zdq Zhy rfl Zhz rfl (rs := [.tmp 4]) (by rw [ZhA]) (by simp only [List.length_cons, List.length_nil, Nat.reduceAdd, Nat.reduceSub, List.replicate_succ, List.replicate_zero, List.cons_append, List.nil_append]; exact rfl) ?_
  refine ARun.seq (ARun.region ?_)
  refine y_op rfl (Zaa rfl) ?_
  refine AOps.nil (ARun.seq (ARun.region ?_))
  refine y_op rfl (q_move rfl) ?_
  refine y_op rfl (q_move rfl) ?_
  refine y_op rfl (q_call rfl rfl (Zlz (lim a) (lim b) (U32_lim a) (U32_lim b))) ?_
  refine y_op rfl (q_move rfl) ?_
  refine y_op rfl (Zab rfl rfl) ?_
  refine y_op rfl (Zab rfl rfl) ?_
  refine y_op rfl (Zaa rfl) ?_
  refine y_op rfl (Zaa rfl) ?_
  refine AOps.nil (ARun.seq (ARun.region ?_))
  refine y_op rfl (q_move rfl) ?_
  refine y_op rfl (Zaa rfl) ?_
  refine AOps.nil ?_
  refine ARun.ret ?_
  refine ⟨_, _, _, .tmp rfl .nil, .cons (.same _) .nil, rfl, ?_⟩
  rw [hc]; rfl
theorem Zbx (z : Int) : PC C Zgr [intD z] (fun o => o = .ret (intD (-z))) := by
  refine PC.run Zck Zfq rfl Zfr rfl (rs := [.cell 2 25]) (by rw [Zfs]) (by simp only [List.length_cons, List.length_nil, Nat.reduceAdd, Nat.reduceSub, List.replicate_succ, List.replicate_zero, List.cons_append, List.nil_append]; exact rfl) ?_
  refine ARun.seq (ARun.region ?_)
  refine y_op rfl (q_boxF rfl rfl rfl rfl) ?_
  refine y_new rfl (Zag rfl rfl rfl rfl) ?_
  refine AOps.nil (ARun.seq (ARun.region ?_))
  refine y_op rfl (q_fldS rfl rfl rfl (by decide)) ?_
  refine y_op rfl (q_load rfl rfl rfl rfl) ?_
  refine y_op rfl (q_not rfl) ?_
  refine y_op rfl (q_fldS rfl rfl rfl (by decide)) ?_
  refine y_op rfl (q_load rfl rfl rfl rfl) ?_
  refine y_op rfl (q_call rfl rfl (Zaj _ z.natAbs)) ?_
  refine y_new rfl (Zac rfl rfl rfl rfl rfl rfl rfl rfl (Nat.le_of_ble_eq_true rfl) rfl) ?_
  refine AOps.nil ?_
  refine ARun.ret ?_
  refine ⟨_, _, _, ResR.cellA rfl rfl rfl rfl rfl rfl .nil, .cons (.same _) .nil, rfl, ?_⟩
  have : sgnd (!decide (z < 0)) z.natAbs = -z := by
    by_cases h : z < 0
    · simp only [sgnd, decide_eq_true h, Bool.not_true, cond_false]; omega
    · simp only [sgnd, decide_eq_false h, Bool.not_false, cond_true]; omega
  rw [this]; rfl
abbrev fitZ (z : Int) : Prop := (lim z.natAbs).length ≤ 1024
theorem must_add {a b n : Nat} (ha : (lim a).length ≤ 1024) (hb : (lim b).length ≤ 1024) : PC C ZaF [numD (resN (lim a) (lim b) (.inl n)).1, .int .i64 (resN (lim a) (lim b) (.inl n)).2] (fun o => ((lim n).length ≤ 1024 ∧ o = .ret (numD n)) ∨ ∃ p, (¬ (lim n).length ≤ 1024 ∧ p = failW 2) ∧ o = .pan p) := by
  rw [resN_ok ha hb]
  by_cases h : (lim n).length ≤ 1024
  · simp only [if_pos h]
    exact (Zbq n).mono fun o ho => .inl ⟨h, ho⟩
  · simp only [if_neg h]
    exact (Zg3 0 2).mono fun o ho => .inr ⟨failW 2, ⟨h, rfl⟩, (ho.resolve_left (fun h => absurd h.1 (by decide))).2⟩
theorem must_addZ {x y : Int} (hx : fitZ x) (hy : fitZ y) (ha : (x + y).natAbs = x.natAbs + y.natAbs) : PC C ZaF [numD (resN (lim x.natAbs) (lim y.natAbs) (.inl (val (lim x.natAbs) + val (lim y.natAbs)))).1, .int .i64 (resN (lim x.natAbs) (lim y.natAbs) (.inl (val (lim x.natAbs) + val (lim y.natAbs)))).2] (fun o => (fitZ (x + y) ∧ o = .ret (numD (x.natAbs + y.natAbs))) ∨ ∃ p, (¬ fitZ (x + y) ∧ p = failW 2) ∧ o = .pan p) := by
  rw [val_lim, val_lim, fitZ, ha]
  exact must_add hx hy
theorem must_sub {a b : Nat} (ha : (lim a).length ≤ 1024) (hb : (lim b).length ≤ 1024) (h : b ≤ a) : PC C ZaF [numD (resN (lim a) (lim b) (if val (lim b) ≤ val (lim a) then .inl (val (lim a) - val (lim b)) else .inr 3)).1, .int .i64 (resN (lim a) (lim b) (if val (lim b) ≤ val (lim a) then .inl (val (lim a) - val (lim b)) else .inr 3)).2] (fun o => o = .ret (numD (a - b))) := by
  rw [resN_ok ha hb, val_lim, val_lim, if_pos h]
  have : (lim (a - b)).length ≤ 1024 := Nat.le_trans (ln_mono (Nat.sub_le _ _)) ha
  simp only [if_pos this]
  exact Zbq _
theorem Zbf (x y : Int) (hx : fitZ x) (hy : fitZ y) : PC C Zgs [intD x, intD y] (fun o => (fitZ (x + y) ∧ o = .ret (intD (x + y))) ∨ (¬ fitZ (x + y) ∧ o = .pan (failW 2))) := by
  refine PC.run Zfa Zjv rfl Zjw rfl (rs := [.cell 4 25]) (by rw [Zjx]) (by simp only [List.length_cons, List.length_nil, Nat.reduceAdd, Nat.reduceSub, List.replicate_succ, List.replicate_zero, List.cons_append, List.nil_append]; exact rfl) ?_
  refine ARun.seq (ARun.region ?_)
  refine y_op rfl (q_boxF rfl rfl rfl rfl) ?_
  refine y_op rfl (q_boxF rfl rfl rfl rfl) ?_
  refine y_new rfl (Zag rfl rfl rfl rfl) ?_
  refine AOps.nil (ARun.seq (ARun.block (ARun.seq (ARun.region ?_))))
  refine y_op rfl (q_fldS rfl rfl rfl (by decide)) ?_
  refine y_op rfl (q_load rfl rfl rfl rfl) ?_
  refine y_op rfl (q_fldS rfl rfl rfl (by decide)) ?_
  refine y_op rfl (q_load rfl rfl rfl rfl) ?_
  refine y_op rfl (ZkT rfl rfl rfl) ?_
  refine y_op rfl (Zaa rfl) ?_
  refine AOps.nil ?_
  refine ARun.cond rfl (fun h => ?_) (fun h => ?_)
  · skip
    have hs : sgnd (decide (x < 0)) (x.natAbs + y.natAbs) = x + y := by
      have h' : decide (x < 0) = decide (y < 0) := by simpa using h
      by_cases h0 : x < 0
      · have : y < 0 := by rw [decide_eq_true h0] at h'; exact of_decide_eq_true h'.symm
        simp only [sgnd, decide_eq_true h0, cond_true]; omega
      · have : ¬ y < 0 := by rw [decide_eq_false h0] at h'; exact of_decide_eq_false h'.symm
        simp only [sgnd, decide_eq_false h0, cond_false]; omega
    have ha : (x + y).natAbs = x.natAbs + y.natAbs := by rw [← hs, sgnd_abs]
    refine ARun.seq ?_
    refine ARun.drawnP 11 (fun q => ¬ fitZ (x + y) ∧ q = failW 2) mixC rfl rfl (by kernel_rfl) (fun _ _ h => ⟨_, _, .same _, by rw [h.2]; rfl, .inr ⟨h.1, by rw [h.2]⟩⟩) ?_
    refine .op rfl (q_fldS rfl rfl rfl (by decide)) ?_
    refine .op rfl (q_load rfl rfl rfl rfl) ?_
    refine .op rfl (q_fldS rfl rfl rfl (by decide)) ?_
    refine .op rfl (q_load rfl rfl rfl rfl) ?_
    refine .op rfl (q_fldS rfl rfl rfl (by decide)) ?_
    refine .op rfl (q_load rfl rfl rfl rfl) ?_
    refine .op rfl (q_call rfl rfl (ZeS (lim x.natAbs) (lim y.natAbs) (U32_lim _) (U32_lim _))) ?_
    refine .op rfl (Zab rfl rfl) ?_
    refine .op rfl (Zab rfl rfl) ?_
    refine .opP rfl (g_call (g := fitZ (x + y)) (d := numD (x.natAbs + y.natAbs)) rfl rfl (must_addZ hx hy ha)) ?_
    refine .op rfl (q_call rfl rfl (Zaj _ _)) ?_
    refine .nil (fun hG => ?_)
    refine y_new rfl (Zac rfl rfl rfl rfl rfl rfl rfl rfl (Nat.le_of_ble_eq_true rfl) rfl) ?_
    refine AOps.nil ?_
    refine ARun.ret ?_
    refine ⟨_, _, _, ResR.cellA rfl rfl rfl rfl rfl rfl .nil, .cons (.same _) .nil, rfl, ?_⟩
    rw [hs]
    exact .inl ⟨hG.2, rfl⟩
  · skip
    refine ARun.seq (ARun.region ?_)
    refine y_op rfl (q_fldS rfl rfl rfl (by decide)) ?_
    refine y_op rfl (q_load rfl rfl rfl rfl) ?_
    refine y_op rfl (q_fldS rfl rfl rfl (by decide)) ?_
    refine y_op rfl (q_load rfl rfl rfl rfl) ?_
    refine y_op rfl (q_call rfl rfl (Zdd x.natAbs y.natAbs hx hy)) ?_
    refine y_op rfl (q_int rfl rfl rfl) ?_
    refine y_op rfl (Zaa rfl) ?_
    refine AOps.nil ?_
    refine ARun.ite rfl (fun h2 => ?_) (fun h2 => ?_)
    · skip
      have hyx : y.natAbs ≤ x.natAbs := by unfold cmpI at h2; repeat' split at h2; all_goals omega
      refine ARun.seq ?_
      refine ARun.drawnP 11 (fun _ => False) mixC rfl rfl (by kernel_rfl) (fun _ _ h => h.elim) ?_
      refine .op rfl (q_fldS rfl rfl rfl (by decide)) ?_
      refine .op rfl (q_load rfl rfl rfl rfl) ?_
      refine .op rfl (q_fldS rfl rfl rfl (by decide)) ?_
      refine .op rfl (q_load rfl rfl rfl rfl) ?_
      refine .op rfl (q_fldS rfl rfl rfl (by decide)) ?_
      refine .op rfl (q_load rfl rfl rfl rfl) ?_
      refine .op rfl (q_call rfl rfl (Zdc (lim x.natAbs) (lim y.natAbs) (U32_lim _) (U32_lim _))) ?_
      refine .op rfl (Zab rfl rfl) ?_
      refine .op rfl (Zab rfl rfl) ?_
      refine .op rfl (q_call rfl rfl (must_sub hx hy hyx)) ?_
      refine .op rfl (q_call rfl rfl (Zaj _ _)) ?_
      refine .nil (fun hG => ?_)
      refine y_new rfl (Zac rfl rfl rfl rfl rfl rfl rfl rfl (Nat.le_of_ble_eq_true rfl) rfl) ?_
      refine AOps.nil ?_
      refine ARun.ret ?_
      refine ⟨_, _, _, ResR.cellA rfl rfl rfl rfl rfl rfl .nil, .cons (.same _) .nil, rfl, ?_⟩
      have hs : sgnd (decide (x < 0)) (x.natAbs - y.natAbs) = x + y := by
        have h' : ¬ decide (x < 0) = decide (y < 0) := by simpa using h
        by_cases h0 : x < 0
        · have : ¬ y < 0 := fun h1 => h' (by rw [decide_eq_true h0, decide_eq_true h1])
          simp only [sgnd, decide_eq_true h0, cond_true]; omega
        · have : y < 0 := by apply Classical.byContradiction; intro h1; exact h' (by rw [decide_eq_false h0, decide_eq_false h1])
          simp only [sgnd, decide_eq_false h0, cond_false]; omega
      have ha : (x + y).natAbs = x.natAbs - y.natAbs := by rw [← hs, sgnd_abs]
      rw [hs]
      exact .inl ⟨by rw [fitZ, ha]; exact Nat.le_trans (ln_mono (Nat.sub_le _ _)) hx, rfl⟩
    · skip
      have hxy : x.natAbs ≤ y.natAbs := by unfold cmpI at h2; repeat' split at h2; all_goals omega
      refine ARun.skip (ARun.inBlock (ARun.seq ?_))
      refine ARun.drawnP 11 (fun _ => False) mixC rfl rfl (by kernel_rfl) (fun _ _ h => h.elim) ?_
      refine .op rfl (q_fldS rfl rfl rfl (by decide)) ?_
      refine .op rfl (q_load rfl rfl rfl rfl) ?_
      refine .op rfl (q_fldS rfl rfl rfl (by decide)) ?_
      refine .op rfl (q_load rfl rfl rfl rfl) ?_
      refine .op rfl (q_fldS rfl rfl rfl (by decide)) ?_
      refine .op rfl (q_load rfl rfl rfl rfl) ?_
      refine .op rfl (q_call rfl rfl (Zdc (lim y.natAbs) (lim x.natAbs) (U32_lim _) (U32_lim _))) ?_
      refine .op rfl (Zab rfl rfl) ?_
      refine .op rfl (Zab rfl rfl) ?_
      refine .op rfl (q_call rfl rfl (must_sub hy hx hxy)) ?_
      refine .op rfl (q_call rfl rfl (Zaj _ _)) ?_
      refine .nil (fun hG => ?_)
      refine y_new rfl (Zac rfl rfl rfl rfl rfl rfl rfl rfl (Nat.le_of_ble_eq_true rfl) rfl) ?_
      refine AOps.nil ?_
      refine ARun.ret ?_
      refine ⟨_, _, _, ResR.cellA rfl rfl rfl rfl rfl rfl .nil, .cons (.same _) .nil, rfl, ?_⟩
      have hs : sgnd (decide (y < 0)) (y.natAbs - x.natAbs) = x + y := by
        have h' : ¬ decide (x < 0) = decide (y < 0) := by simpa using h
        by_cases h0 : x < 0
        · have : ¬ y < 0 := fun h1 => h' (by rw [decide_eq_true h0, decide_eq_true h1])
          simp only [sgnd, decide_eq_false this, cond_false]; omega
        · have : y < 0 := by apply Classical.byContradiction; intro h1; exact h' (by rw [decide_eq_false h0, decide_eq_false h1])
          simp only [sgnd, decide_eq_true this, cond_true]; omega
      have ha : (x + y).natAbs = y.natAbs - x.natAbs := by rw [← hs, sgnd_abs]
      rw [hs]
      exact .inl ⟨by rw [fitZ, ha]; exact Nat.le_trans (ln_mono (Nat.sub_le _ _)) hy, rfl⟩
end Go.V
set_option synthInstance.maxSize 100000
set_option synthInstance.maxHeartbeats 2000000
namespace Go.V
open Go.RowKit Go.Proofs
theorem Zmf (xs : List Nat) (hx : xs.length ≤ 35184372088832) : PC C ZbB [sln .u32 xs] (fun o => o = .ret (sln .u32 xs)) := by
  refine PC.run ZaA Zbs rfl Zbt rfl (rs := [.tmp 2]) (by rw [Zbu]) (by simp only [List.length_cons, List.length_nil, Nat.reduceAdd, Nat.reduceSub, List.replicate_succ, List.replicate_zero, List.cons_append, List.nil_append]; exact rfl) ?_
  refine ARun.seq (ARun.region ?_)
  refine y_op rfl (Zaa rfl) ?_
  refine AOps.nil (ARun.seq (ARun.seq (ARun.region ?_)))
  refine y_op rfl (q_move rfl) ?_
  refine Zl8 rfl rfl rfl rfl rfl (fun b hb => ?_)
  refine AOps.nil ?_
  refine ARun.cond rfl (fun h => ?_) (fun h => ?_)
  · skip
    refine ARun.seq (ARun.region ?_)
    refine y_op rfl (Zaa rfl) ?_
    refine AOps.nil ?_
    refine ARun.ret ?_
    refine ⟨_, _, _, .tmp rfl .nil, .cons .nil .nil, rfl, ?_⟩
    rw [sl_nil (hb h)]
    rfl
  · skip
    refine ARun.skip (ARun.seq (ARun.region ?_))
    refine y_new rfl (Zam rfl rfl rfl rfl rfl rfl rfl rfl rfl rfl rfl (by decide) (by decide)) ?_
    refine y_op rfl (q_move rfl) ?_
    refine y_new rfl (Zge rfl rfl (by decide) rfl rfl rfl rfl rfl rfl rfl rfl rfl rfl (by simp) (by simp; omega) (by rw [maxLen_eq]; omega) rfl) ?_
    refine y_op rfl (Zaa rfl) ?_
    refine AOps.nil ?_
    refine ARun.ret ?_
    refine ⟨_, _, _, .tmp rfl .nil, .cons (.row rfl (pures_nts _)) .nil, rfl, ?_⟩
    simp [tupD]
end Go.V
set_option synthInstance.maxSize 100000
set_option synthInstance.maxHeartbeats 2000000
namespace Go.V
open Go.RowKit Go.Proofs
theorem Zda (z : Int) (hz : (lim z.natAbs).length ≤ 35184372088832) : PC C Zgo [intD z] (fun o => o = .ret (intD z)) := by
  refine PC.run Ze7 Zjl rfl Zjm rfl (rs := [.cell 2 25]) (by rw [Zjn]) (by simp only [List.length_cons, List.length_nil, Nat.reduceAdd, Nat.reduceSub, List.replicate_succ, List.replicate_zero, List.cons_append, List.nil_append]; exact rfl) ?_
  refine ARun.seq (ARun.region ?_)
  refine y_op rfl (q_boxF rfl rfl rfl rfl) ?_
  refine y_new rfl (Zag rfl rfl rfl rfl) ?_
  refine AOps.nil (ARun.seq ?_)
  refine ARun.drawnP 6 (fun _ => False) mixC rfl rfl (by kernel_rfl) (fun _ _ h => h.elim) ?_
  refine .op rfl (q_fldS rfl rfl rfl (by decide)) ?_
  refine .op rfl (q_load rfl rfl rfl rfl) ?_
  refine .op rfl (q_fldS rfl rfl rfl (by decide)) ?_
  refine .op rfl (q_load rfl rfl rfl rfl) ?_
  refine .op rfl (q_call rfl rfl (Zmf (lim z.natAbs) hz)) ?_
  refine .op rfl (ZaD rfl rfl rfl rfl rfl) ?_
  refine .nil (fun hG => ?_)
  refine y_new rfl (Zac rfl rfl rfl rfl rfl rfl rfl rfl (Nat.le_of_ble_eq_true rfl) rfl) ?_
  refine AOps.nil ?_
  refine ARun.ret ?_
  refine ⟨_, _, _, ResR.cellA rfl rfl rfl rfl rfl rfl .nil, .cons (.same _) .nil, rfl, ?_⟩
  rfl
theorem Zb2 (z : Int) (hz : fitZ z) : PC C Zgo [intD z] (fun o => o = .ret (intD z)) := Zda z (by unfold fitZ at hz; omega)
theorem fit_add {x y : Int} (hx : fitZ x) (hy : fitZ y) : (lim (x + y).natAbs).length ≤ 35184372088832 := by
  have h1 := ln_add x.natAbs y.natAbs
  have h2 : (lim (x + y).natAbs).length ≤ (lim (x.natAbs + y.natAbs)).length := ln_mono (Int.natAbs_add_le x y)
  unfold fitZ at hx hy
  omega
theorem must_mul {x y : Int} (hx : fitZ x) (hy : fitZ y) : PC C ZaF [numD (resN (lim x.natAbs) (lim y.natAbs) (.inl (val (lim x.natAbs) * val (lim y.natAbs)))).1, .int .i64 (resN (lim x.natAbs) (lim y.natAbs) (.inl (val (lim x.natAbs) * val (lim y.natAbs)))).2] (fun o => (fitZ (x * y) ∧ o = .ret (numD (x.natAbs * y.natAbs))) ∨ ∃ p, (¬ fitZ (x * y) ∧ p = failW 2) ∧ o = .pan p) := by
  rw [val_lim, val_lim, fitZ, Int.natAbs_mul]
  exact must_add hx hy
theorem Zfi (x y : Int) (hx : fitZ x) (hy : fitZ y) : PC C Zgt [intD x, intD y] (fun o => (fitZ (x * y) ∧ o = .ret (intD (x * y))) ∨ (¬ fitZ (x * y) ∧ o = .pan (failW 2))) := by
  have hs : sgnd (!(decide (x < 0) == decide (y < 0))) (x.natAbs * y.natAbs) = x * y := by
    rw [← Int.natAbs_mul]
    by_cases h1 : x < 0 <;> by_cases h2 : y < 0
    · have := Int.mul_pos_of_neg_of_neg h1 h2
      simp only [sgnd, decide_eq_true h1, decide_eq_true h2, beq_self_eq_true, Bool.not_true, cond_false]; omega
    · have := Int.mul_nonpos_of_nonpos_of_nonneg (Int.le_of_lt h1) (Int.not_lt.1 h2)
      simp only [sgnd, decide_eq_true h1, decide_eq_false h2, show (!(true == false)) = true from rfl, cond_true]; omega
    · have := Int.mul_nonpos_of_nonneg_of_nonpos (Int.not_lt.1 h1) (Int.le_of_lt h2)
      simp only [sgnd, decide_eq_false h1, decide_eq_true h2, show (!(false == true)) = true from rfl, cond_true]; omega
    · have := Int.mul_nonneg (Int.not_lt.1 h1) (Int.not_lt.1 h2)
      simp only [sgnd, decide_eq_false h1, decide_eq_false h2, beq_self_eq_true, Bool.not_true, cond_false]; omega
  refine PC.run Zcl Zft rfl Zfu rfl (rs := [.cell 4 25]) (by rw [Zfv]) (by simp only [List.length_cons, List.length_nil, Nat.reduceAdd, Nat.reduceSub, List.replicate_succ, List.replicate_zero, List.cons_append, List.nil_append]; exact rfl) ?_
  refine ARun.seq (ARun.region ?_)
  refine y_op rfl (q_boxF rfl rfl rfl rfl) ?_
  refine y_op rfl (q_boxF rfl rfl rfl rfl) ?_
  refine y_new rfl (Zag rfl rfl rfl rfl) ?_
  refine AOps.nil (ARun.seq ?_)
  refine ARun.drawnP 14 (fun q => ¬ fitZ (x * y) ∧ q = failW 2) mixC rfl rfl (by kernel_rfl) (fun _ _ h => ⟨_, _, .same _, by rw [h.2]; rfl, .inr ⟨h.1, by rw [h.2]⟩⟩) ?_
  refine .op rfl (q_fldS rfl rfl rfl (by decide)) ?_
  refine .op rfl (q_load rfl rfl rfl rfl) ?_
  refine .op rfl (q_fldS rfl rfl rfl (by decide)) ?_
  refine .op rfl (q_load rfl rfl rfl rfl) ?_
  refine .op rfl (Zbe rfl rfl rfl) ?_
  refine .op rfl (q_fldS rfl rfl rfl (by decide)) ?_
  refine .op rfl (q_load rfl rfl rfl rfl) ?_
  refine .op rfl (q_fldS rfl rfl rfl (by decide)) ?_
  refine .op rfl (q_load rfl rfl rfl rfl) ?_
  refine .op rfl (q_call rfl rfl (Zly (lim x.natAbs) (lim y.natAbs) (U32_lim _) (U32_lim _))) ?_
  refine .op rfl (Zab rfl rfl) ?_
  refine .op rfl (Zab rfl rfl) ?_
  refine .opP rfl (g_call (g := fitZ (x * y)) (d := numD (x.natAbs * y.natAbs)) rfl rfl (must_mul hx hy)) ?_
  refine .op rfl (q_call rfl rfl (Zaj _ _)) ?_
  refine .nil (fun hG => ?_)
  refine y_new rfl (Zac rfl rfl rfl rfl rfl rfl rfl rfl (Nat.le_of_ble_eq_true rfl) rfl) ?_
  refine AOps.nil ?_
  refine ARun.ret ?_
  refine ⟨_, _, _, ResR.cellA rfl rfl rfl rfl rfl rfl .nil, .cons (.same _) .nil, rfl, ?_⟩
  rw [hs]
  exact .inl ⟨hG.2, rfl⟩
theorem Zmg (z : Int) : PC C Zjy [intD z] (fun o => o = .ret (.int .i64 z.sign)) := by
  refine PC.run ZdW Zip rfl Ziq rfl (rs := [.tmp 2]) (by rw [Zir]) (by simp only [List.length_cons, List.length_nil, Nat.reduceAdd, Nat.reduceSub, List.replicate_succ, List.replicate_zero, List.cons_append, List.nil_append]; exact rfl) ?_
  refine ARun.seq (ARun.region ?_)
  refine y_op rfl (q_boxF rfl rfl rfl rfl) ?_
  refine y_op rfl (Zaa rfl) ?_
  refine AOps.nil (ARun.seq (ARun.block (ARun.seq (ARun.region ?_))))
  refine y_op rfl (q_fldS rfl rfl rfl (by decide)) ?_
  refine y_op rfl (q_load rfl rfl rfl rfl) ?_
  refine y_op rfl (Zaa rfl) ?_
  refine AOps.nil ?_
  refine ARun.ite rfl (fun h => ?_) (fun h => ?_)
  · skip
    refine ARun.seq (ARun.region ?_)
    refine y_op rfl (Zaa rfl) ?_
    refine AOps.nil ?_
    refine ARun.ret ?_
    refine ⟨_, _, _, .tmp rfl .nil, .cons (.same _) .nil, rfl, ?_⟩
    rw [Int.sign_eq_neg_one_of_neg h]; rfl
  · skip
    refine ARun.seq (ARun.region ?_)
    refine y_op rfl (q_fldS rfl rfl rfl (by decide)) ?_
    refine y_op rfl (q_load rfl rfl rfl rfl) ?_
    refine y_op rfl (Zaf rfl rfl) ?_
    refine y_op rfl (q_int rfl rfl rfl) ?_
    refine y_op rfl (Zaa rfl) ?_
    refine AOps.nil ?_
    refine ARun.ite rfl (fun h2 => ?_) (fun h2 => ?_)
    · skip
      refine ARun.seq (ARun.region ?_)
      refine y_op rfl (Zaa rfl) ?_
      refine AOps.nil ?_
      refine ARun.ret ?_
      refine ⟨_, _, _, .tmp rfl .nil, .cons (.same _) .nil, rfl, ?_⟩
      have : z.natAbs ≠ 0 := ln_pos.1 (by omega)
      rw [Int.sign_eq_one_of_pos (by omega)]; rfl
    · skip
      refine ARun.skip (ARun.inBlock (ARun.seq (ARun.region ?_)))
      refine y_op rfl (Zaa rfl) ?_
      refine AOps.nil ?_
      refine ARun.ret ?_
      refine ⟨_, _, _, .tmp rfl .nil, .cons (.same _) .nil, rfl, ?_⟩
      have : z.natAbs = 0 := by
        apply Classical.byContradiction
        intro hn
        have := ln_pos.2 hn
        omega
      rw [show z = 0 by omega]; rfl
def cmpZ (x y : Int) : Int := if x < y then -1 else if x = y then 0 else 1
theorem ZmJ (x y : Int) (hx : fitZ x) (hy : fitZ y) : PC C Zky [intD x, intD y] (fun o => o = .ret (.int .i64 (cmpZ x y))) := by
  refine PC.run Ze9 Zjs rfl Zjt rfl (rs := [.tmp 4]) (by rw [Zju]) (by simp only [List.length_cons, List.length_nil, Nat.reduceAdd, Nat.reduceSub, List.replicate_succ, List.replicate_zero, List.cons_append, List.nil_append]; exact rfl) ?_
  refine ARun.seq (ARun.region ?_)
  refine y_op rfl (q_boxF rfl rfl rfl rfl) ?_
  refine y_op rfl (q_boxF rfl rfl rfl rfl) ?_
  refine y_op rfl (Zaa rfl) ?_
  refine AOps.nil (ARun.seq (ARun.block (ARun.seq (ARun.region ?_))))
  refine y_op rfl (q_fldS rfl rfl rfl (by decide)) ?_
  refine y_op rfl (q_load rfl rfl rfl rfl) ?_
  refine y_op rfl (q_fldS rfl rfl rfl (by decide)) ?_
  refine y_op rfl (q_load rfl rfl rfl rfl) ?_
  refine y_op rfl (Zbe rfl rfl rfl) ?_
  refine y_op rfl (q_move rfl) ?_
  refine AOps.bool 11 rfl (fun h1 => ?_) (fun h1 => ?_)
  · skip
    have h1' : ¬ decide (x < 0) = decide (y < 0) := by simpa using h1
    refine y_op rfl (q_fldS rfl rfl rfl (by decide)) ?_
    refine y_op rfl (q_load rfl rfl rfl rfl) ?_
    refine y_op rfl (q_pick rfl rfl rfl rfl) ?_
    refine y_op rfl (Zaa rfl) ?_
    refine AOps.nil ?_
    refine ARun.cond rfl (fun h2 => ?_) (fun h2 => ?_)
    · skip
      refine ARun.seq (ARun.region ?_)
      refine y_op rfl (Zaa rfl) ?_
      refine AOps.nil ?_
      refine ARun.ret ?_
      refine ⟨_, _, _, .tmp rfl .nil, .cons (.same _) .nil, rfl, ?_⟩
      have h2 : x < 0 := of_decide_eq_true h2
      have hy : ¬ y < 0 := fun h => h1' (by rw [decide_eq_true h2, decide_eq_true h])
      unfold cmpZ; rw [if_pos (by omega)]; rfl
    · skip
      have h2 : ¬ x < 0 := of_decide_eq_false h2
      have hy : y < 0 := by apply Classical.byContradiction; intro h; exact h1' (by rw [decide_eq_false h2, decide_eq_false h])
      refine ARun.seq (ARun.region ?_)
      refine y_op rfl (q_fldS rfl rfl rfl (by decide)) ?_
      refine y_op rfl (q_load rfl rfl rfl rfl) ?_
      refine y_op rfl (q_fldS rfl rfl rfl (by decide)) ?_
      refine y_op rfl (q_load rfl rfl rfl rfl) ?_
      refine y_op rfl (Zbe rfl rfl rfl) ?_
      refine y_op rfl (Zaa rfl) ?_
      refine AOps.nil ?_
      refine ARun.cond rfl (fun h3 => ?_) (fun h3 => ?_)
      · skip
        refine ARun.seq (ARun.region ?_)
        refine y_op rfl (Zaa rfl) ?_
        refine AOps.nil ?_
        refine ARun.ret ?_
        refine ⟨_, _, _, .tmp rfl .nil, .cons (.same _) .nil, rfl, ?_⟩
        unfold cmpZ; rw [if_neg (by omega), if_neg (by omega)]; rfl
      · skip
        rw [h1] at h3; cases h3
  · skip
    have h1' : decide (x < 0) = decide (y < 0) := by simpa using h1
    refine y_skip rfl ?_
    refine y_skip rfl ?_
    refine y_op rfl (q_pick rfl rfl rfl rfl) ?_
    refine y_op rfl (Zaa rfl) ?_
    refine AOps.nil ?_
    refine ARun.condF rfl ?_
    refine ARun.seq (ARun.region ?_)
    refine y_op rfl (q_fldS rfl rfl rfl (by decide)) ?_
    refine y_op rfl (q_load rfl rfl rfl rfl) ?_
    refine y_op rfl (q_fldS rfl rfl rfl (by decide)) ?_
    refine y_op rfl (q_load rfl rfl rfl rfl) ?_
    refine y_op rfl (Zbe rfl rfl rfl) ?_
    refine y_op rfl (Zaa rfl) ?_
    refine AOps.nil ?_
    refine ARun.cond rfl (fun h3 => ?_) (fun h3 => ?_)
    · skip
      rw [h1] at h3; cases h3
    · skip
      refine ARun.seq (ARun.region ?_)
      refine y_op rfl (q_fldS rfl rfl rfl (by decide)) ?_
      refine y_op rfl (q_load rfl rfl rfl rfl) ?_
      refine y_op rfl (Zaa rfl) ?_
      refine AOps.nil ?_
      refine ARun.ite rfl (fun h4 => ?_) (fun h4 => ?_)
      · skip
        refine ARun.seq (ARun.region ?_)
        refine y_op rfl (q_fldS rfl rfl rfl (by decide)) ?_
        refine y_op rfl (q_load rfl rfl rfl rfl) ?_
        refine y_op rfl (q_fldS rfl rfl rfl (by decide)) ?_
        refine y_op rfl (q_load rfl rfl rfl rfl) ?_
        refine y_op rfl (q_call rfl rfl (Zdd y.natAbs x.natAbs hy hx)) ?_
        refine y_op rfl (Zaa rfl) ?_
        refine AOps.nil ?_
        refine ARun.ret ?_
        refine ⟨_, _, _, .tmp rfl .nil, .cons (.same _) .nil, rfl, ?_⟩
        have hy : y < 0 := by rw [decide_eq_true h4] at h1'; exact of_decide_eq_true h1'.symm
        have : cmpI y.natAbs x.natAbs = cmpZ x y := by unfold cmpI cmpZ; repeat' split; all_goals omega
        rw [this]; rfl
      · skip
        refine ARun.skip (ARun.inBlock (ARun.seq (ARun.region ?_)))
        refine y_op rfl (q_fldS rfl rfl rfl (by decide)) ?_
        refine y_op rfl (q_load rfl rfl rfl rfl) ?_
        refine y_op rfl (q_fldS rfl rfl rfl (by decide)) ?_
        refine y_op rfl (q_load rfl rfl rfl rfl) ?_
        refine y_op rfl (q_call rfl rfl (Zdd x.natAbs y.natAbs hx hy)) ?_
        refine y_op rfl (Zaa rfl) ?_
        refine AOps.nil ?_
        refine ARun.ret ?_
        refine ⟨_, _, _, .tmp rfl .nil, .cons (.same _) .nil, rfl, ?_⟩
        have hy : ¬ y < 0 := by rw [decide_eq_false h4] at h1'; exact of_decide_eq_false h1'.symm
        have : cmpI x.natAbs y.natAbs = cmpZ x y := by unfold cmpI cmpZ; repeat' split; all_goals omega
        rw [this]; rfl
end Go.V
set_option synthInstance.maxSize 100000
set_option synthInstance.maxHeartbeats 2000000
namespace Go.V
open Go.RowKit Go.Proofs
def cellsI : List (Bool × List Nat) → List D
  | [] => []
  | p :: l => .bool p.1 :: sln .u32 p.2 :: cellsI l
theorem cellsI_len : ∀ l : List (Bool × List Nat), (cellsI l).length = l.length * 2
  | [] => rfl
  | p :: l => by simp only [cellsI, List.length_cons, cellsI_len l]; omega
theorem cellsI_drop : ∀ (l : List (Bool × List Nat)) (i : Nat), (cellsI l).drop (i * 2) = cellsI (l.drop i)
  | l, 0 => by simp
  | [], i + 1 => by simp [cellsI]
  | p :: l, i + 1 => by
    rw [show (i + 1) * 2 = i * 2 + 1 + 1 by omega]
    simp only [cellsI, List.drop_succ_cons]
    exact cellsI_drop l i
def idxI (p : Bool × List Nat → Bool) : List (Bool × List Nat) → Nat → Int
  | [], _ => -1
  | d :: ds, i => bif p d then (i : Int) else idxI p ds (i + 1)
theorem idxI_any (p : Bool × List Nat → Bool) : ∀ (ds : List (Bool × List Nat)) (i : Nat), decide (idxI p ds i ≥ 0) = ds.any p
  | [], _ => by simp [idxI]
  | d :: ds, i => by
    simp only [idxI, List.any_cons]
    have ih := idxI_any p ds (i + 1)
    by_cases h : p d = true
    · simp [h]
    · simp only [Bool.not_eq_true] at h
      simp only [h, cond_false, Bool.false_or]
      exact ih
theorem Zmh (l : List (Bool × List Nat)) (n : Nat) (hn : l.length = n) (f : FuncId) (p : Bool × List Nat → Bool) (hf : ∀ d ∈ l, PC C f [intA d.1 d.2] (fun o => o = .ret (.bool (p d)))) : PC C Za9 [.sl n (cellsI l), .clos f []] (fun o => o = .ret (.int .i64 (idxI p l 0))) := by
  refine PC.run Zau ZaW rfl ZaX rfl (rs := [.tmp 4]) (by rw [ZaY]) (by simp only [List.length_cons, List.length_nil, Nat.reduceAdd, Nat.reduceSub, List.replicate_succ, List.replicate_zero, List.cons_append, List.nil_append]; exact rfl) ?_
  refine ARun.lenle 0 rfl (fun hlen => ?_)
  rw [maxLen_eq] at hlen
  refine ARun.seq (ARun.region ?_)
  refine y_op rfl (Zaa rfl) ?_
  refine AOps.nil (ARun.seq (ARun.seq (ARun.region ?_)))
  refine y_op rfl (q_move rfl) ?_
  refine y_op rfl (Zaf rfl rfl) ?_
  refine y_op rfl (q_move rfl) ?_
  refine AOps.nil (ARun.block ?_)
  refine ARun.loopI (S := Nat) (fun i : Nat => [(4, .any), (5, .any), (9, .any), (10, .any), (11, .any), (12, .any), (13, .any), (14, .any), (15, .any), (16, .any), (17, .any), (18, .any), (8, .int .i64 (i : Int))]) (fun i : Nat => []) (fun i : Nat => i ≤ n ∧ idxI p (l.drop i) i = idxI p l 0) (fun i : Nat => n - i) (0) ?_ ?_ ?_ ?_
  · exact ⟨Nat.zero_le _, rfl⟩
  · (repeat' first | exact envLe_nil | apply envLe_any | apply envLe_same)
  · rfl
  rintro i hinv ih
  obtain ⟨hi, he⟩ := hinv
  refine ARun.seq (ARun.region ?_)
  refine y_op rfl (q_int rfl rfl rfl) ?_
  refine AOps.nil (ARun.seq ?_)
  refine ARun.ite rfl (fun h => ?_) (fun h => ?_)
  · skip
    have hlt : i < l.length := by omega
    have hdr : l.drop i = l[i] :: l.drop (i + 1) := List.drop_eq_getElem_cons hlt
    have hcd := cellsI_drop l i
    rw [hdr] at hcd
    have hx : idxI p (l.drop i) i = bif p l[i] then (i : Int) else idxI p (l.drop (i + 1)) (i + 1) := by rw [hdr]; rfl
    refine ARun.skip (ARun.seq (ARun.block (ARun.seq (ARun.region ?_))))
    refine y_op rfl (q_move rfl) ?_
    refine y_op rfl (Zaa rfl) ?_
    refine AOps.nil (ARun.seq (ARun.region ?_))
    refine y_op rfl (q_move rfl) ?_
    refine y_op rfl (q_move rfl) ?_
    refine y_op rfl (q_move rfl) ?_
    refine y_op rfl (Zak rfl rfl rfl rfl (by omega) (by omega) (fun e => by have := cellsI_len l; rw [e] at this; simp at this; omega) hcd) ?_
    refine y_op rfl (Zad (ds := [.bool l[i].1, sln .u32 l[i].2]) rfl rfl rfl rfl rfl) ?_
    refine y_op rfl (q_call rfl rfl (hf l[i] (List.getElem_mem hlt))) ?_
    refine AOps.nil ?_
    refine ARun.cond rfl (fun hp => ?_) (fun hp => ?_)
    · skip
      refine ARun.seq (ARun.region ?_)
      refine y_op rfl (q_move rfl) ?_
      refine y_op rfl (Zaa rfl) ?_
      refine AOps.nil ?_
      refine ARun.ret ?_
      refine ⟨_, _, _, .tmp rfl .nil, .cons (.same _) .nil, rfl, ?_⟩
      rw [← he, hx, hp]
      rfl
    · skip
      refine ARun.skip (ARun.inBlock (ARun.region ?_))
      refine y_op rfl (q_add rfl rfl (nadd1_i64 (by omega))) ?_
      refine y_op rfl (q_move rfl) ?_
      refine AOps.nil ?_
      refine ARun.again (ih ((i + 1)) ?_ ?_) ?_ ?_
      · exact ⟨by omega, by rw [← he, hx, hp]; rfl⟩
      · omega
      · (repeat' first | exact envLe_nil | apply envLe_any | apply envLe_same)
      · rfl
  · skip
    refine ARun.exit rfl ?_
    refine ARun.seq (ARun.region ?_)
    refine y_op rfl (Zaa rfl) ?_
    refine AOps.nil ?_
    refine ARun.ret ?_
    refine ⟨_, _, _, .tmp rfl .nil, .cons (.same _) .nil, rfl, ?_⟩
    rw [← he, List.drop_of_length_le (by omega)]
    rfl
theorem Zkd (l : List (Bool × List Nat)) (n : Nat) (hn : l.length = n) (f : FuncId) (p : Bool × List Nat → Bool) (hf : ∀ d ∈ l, PC C f [intA d.1 d.2] (fun o => o = .ret (.bool (p d)))) : PC C ZaO [.sl n (cellsI l), .clos f []] (fun o => o = .ret (.bool (l.any p))) := by
  refine PC.run Zaq ZaI rfl ZaJ rfl (rs := [.tmp 4]) (by rw [ZaK]) (by simp only [List.length_cons, List.length_nil, Nat.reduceAdd, Nat.reduceSub, List.replicate_succ, List.replicate_zero, List.cons_append, List.nil_append]; exact rfl) ?_
  refine ARun.seq (ARun.region ?_)
  refine y_op rfl (Zaa rfl) ?_
  refine AOps.nil (ARun.seq (ARun.region ?_))
  refine y_op rfl (q_move rfl) ?_
  refine y_op rfl (q_move rfl) ?_
  refine y_op rfl (q_call rfl rfl (Zmh l n hn f p hf)) ?_
  refine y_op rfl (q_int rfl rfl rfl) ?_
  refine y_op rfl (Zaa rfl) ?_
  refine AOps.nil ?_
  refine ARun.ret ?_
  refine ⟨_, _, _, .tmp rfl .nil, .cons (.same _) .nil, rfl, ?_⟩
  rw [idxI_any]; rfl
def okI (d : Bool × List Nat) : Bool := okB d.2 && (!d.1 || decide (0 < d.2.length))
theorem Zde (d : Bool × List Nat) : PC C Zia [intA d.1 d.2] (fun o => o = .ret (.bool (okI d))) := by
  obtain ⟨b, xs⟩ := d
  refine PC.run Zdj Zhe rfl Zhf rfl (rs := [.tmp 2]) (by rw [Zhg]) (by simp only [List.length_cons, List.length_nil, Nat.reduceAdd, Nat.reduceSub, List.replicate_succ, List.replicate_zero, List.cons_append, List.nil_append]; exact rfl) ?_
  refine ARun.seq (ARun.region ?_)
  refine y_op rfl (q_boxF rfl rfl rfl rfl) ?_
  refine y_op rfl (Zaa rfl) ?_
  refine AOps.nil (ARun.seq (ARun.region ?_))
  refine y_op rfl (q_fldS rfl rfl rfl (by decide)) ?_
  refine y_op rfl (q_load rfl rfl rfl rfl) ?_
  refine y_op rfl (q_call rfl rfl (Zb1 xs (okNatDec xs))) ?_
  refine y_op rfl (q_move rfl) ?_
  refine AOps.bool 6 rfl (fun h1 => ?_) (fun h1 => ?_)
  · skip
    have h1 : okB xs = true := h1
    refine y_op rfl (q_fldS rfl rfl rfl (by decide)) ?_
    refine y_op rfl (q_load rfl rfl rfl rfl) ?_
    refine y_op rfl (q_not rfl) ?_
    refine y_op rfl (q_move rfl) ?_
    refine AOps.bool 10 rfl (fun h2 => ?_) (fun h2 => ?_)
    · skip
      have h2 : b = false := by simpa using h2
      refine y_skip rfl ?_
      refine y_skip rfl ?_
      refine y_skip rfl ?_
      refine y_skip rfl ?_
      refine y_op rfl (q_pick rfl rfl rfl rfl) ?_
      refine y_op rfl (q_pick rfl rfl rfl rfl) ?_
      refine y_op rfl (Zaa rfl) ?_
      refine AOps.nil ?_
      refine ARun.ret ?_
      refine ⟨_, _, _, .tmp rfl .nil, .cons (.same _) .nil, rfl, ?_⟩
      unfold okI; rw [h1, h2]; rfl
    · skip
      have h2 : b = true := by simpa using h2
      refine y_op rfl (q_fldS rfl rfl rfl (by decide)) ?_
      refine y_op rfl (q_load rfl rfl rfl rfl) ?_
      refine y_op rfl (Zaf rfl rfl) ?_
      refine y_op rfl (q_int rfl rfl rfl) ?_
      refine y_op rfl (q_pick rfl rfl rfl rfl) ?_
      refine y_op rfl (q_pick rfl rfl rfl rfl) ?_
      refine y_op rfl (Zaa rfl) ?_
      refine AOps.nil ?_
      refine ARun.ret ?_
      refine ⟨_, _, _, .tmp rfl .nil, .cons (.same _) .nil, rfl, ?_⟩
      unfold okI; rw [h1, h2]
      have : decide ((xs.length : Int) > 0) = decide (0 < xs.length) := decide_eq_decide.2 (by omega)
      simp only [this, Bool.not_true, Bool.false_or, Bool.true_and, cond_true, cond_false]
      rfl
  · skip
    have h1 : okB xs = false := h1
    refine y_skip rfl ?_
    refine y_skip rfl ?_
    refine y_skip rfl ?_
    refine y_skip rfl ?_
    refine y_skip rfl ?_
    refine y_skip rfl ?_
    refine y_skip rfl ?_
    refine y_skip rfl ?_
    refine y_skip rfl ?_
    refine y_op rfl (q_pick rfl rfl rfl rfl) ?_
    refine y_op rfl (Zaa rfl) ?_
    refine AOps.nil ?_
    refine ARun.ret ?_
    refine ⟨_, _, _, .tmp rfl .nil, .cons (.same _) .nil, rfl, ?_⟩
    unfold okI; rw [h1]; rfl
theorem ZkL (d : Bool × List Nat) : PC C Zds [intA d.1 d.2] (fun o => o = .ret (.bool (!okI d))) := by
  refine PC.run ZcX ZgB rfl ZgC rfl (rs := [.tmp 2]) (by rw [ZgD]) (by simp only [List.length_cons, List.length_nil, Nat.reduceAdd, Nat.reduceSub, List.replicate_succ, List.replicate_zero, List.cons_append, List.nil_append]; exact rfl) ?_
  refine ARun.seq (ARun.region ?_)
  refine y_op rfl (q_boxF rfl rfl rfl rfl) ?_
  refine y_op rfl (Zaa rfl) ?_
  refine AOps.nil (ARun.seq (ARun.region ?_))
  refine y_op rfl (Zad rfl rfl rfl rfl rfl) ?_
  refine y_op rfl (q_call rfl rfl (Zde d)) ?_
  refine y_op rfl (q_not rfl) ?_
  refine y_op rfl (Zaa rfl) ?_
  refine AOps.nil ?_
  refine ARun.ret ?_
  refine ⟨_, _, _, .tmp rfl .nil, .cons (.same _) .nil, rfl, ?_⟩
  rfl
theorem Zg4 (l : List (Bool × List Nat)) (n : Nat) (hn : l.length = n) : PC C Zjk [.sl n (cellsI l)] (fun o => (l.all okI = true ∧ o = .ret (.tup [])) ∨ (l.all okI = false ∧ o = .pan (failW 1))) := by
  have he : l.any (fun d => !okI d) = !l.all okI := by
    clear hn
    induction l with
    | nil => rfl
    | cons x l ih => simp only [List.any_cons, List.all_cons, ih, Bool.not_and]
  refine PC.run ZdS Zii rfl Zij rfl (rs := []) (by rw [Zik]) (by simp only [List.length_cons, List.length_nil, Nat.reduceAdd, Nat.reduceSub, List.replicate_succ, List.replicate_zero, List.cons_append, List.nil_append]; exact rfl) ?_
  refine ARun.region ?_
  refine y_op rfl (q_move rfl) ?_
  refine y_op rfl (q_call rfl rfl (Zkd l n hn Zds (fun d => !okI d) (fun d _ => ZkL d))) ?_
  refine y_op rfl (q_not rfl) ?_
  refine y_gop rfl (g_call rfl rfl (PC.gp (ZaV _ 1))) (fun hg => ?_) (fun q hq => by obtain ⟨hq, rfl⟩ := hq; exact ⟨_, _, .same _, rfl, .inr ⟨by rw [he, Bool.not_not] at hq; exact hq, rfl⟩⟩)
  refine AOps.nil ?_
  refine ARun.nil ?_
  refine ⟨_, _, _, .nil, .nil, rfl, ?_⟩
  exact .inl ⟨by rw [he, Bool.not_not] at hg; exact hg, rfl⟩
end Go.V
set_option synthInstance.maxSize 100000
set_option synthInstance.maxHeartbeats 2000000
namespace Go.V
open Go.RowKit Go.Proofs
abbrev failO (e : Int) : Option AObj := some ⟨[.int .i64 e], ZcM, 1, true, none⟩
abbrev errO (e : Int) : Option AObj := some ⟨[.int .i64 e], Zao, 1, true, none⟩
theorem dcw_ret (H : Heap) (i : Nat) : DC C ZaT H [.ptr i 0] .returning (fun m' H' => m' = .returning ∧ H' = H) := by
  refine DC.of_run1 ZbH ZcN rfl ZcO (by rw [ZcP]) (fun _ h => by cases h) (by simp only [List.length_cons, List.length_nil, Nat.reduceAdd, Nat.reduceSub, List.replicate_succ, List.replicate_zero, List.cons_append, List.nil_append, recD, envPut, List.set_cons_succ, List.set_cons_zero]; exact rfl) ?_
  refine ARun.block (ARun.seq (ARun.region ?_))
  refine y_op rfl (Zme (by kernel_rfl) rfl) ?_
  refine AOps.nil ?_
  refine ARun.condT rfl ?_
  refine ARun.region ?_
  refine y_op rfl (Zaa rfl) ?_
  refine AOps.nil (ARun.inBlock ?_)
  refine ARun.nil ?_
  exact ⟨rfl, rfl, rfl⟩
theorem dcw_pan (H : Heap) (i : Nat) (e0 e : Int) (h : H[i]? = some (errO e0)) : DC C ZaT H [.ptr i 0] (.panicking (failW e)) (fun m' H' => m' = .recovered (failW e) ∧ H' = ((H ++ [failO e]).set i (errO e) : Heap)) := by
  have hi : i < H.length := (List.getElem?_eq_some_iff.1 h).1
  have hl : (H ++ [failO e])[i]? = some (errO e0) := by rw [List.getElem?_append_left hi]; exact h
  have hn : ∀ o : AObj, (H ++ [some o])[H.length]? = some (some o) := fun o => by simp
  have hs : ∀ o o' : AObj, (H ++ [some o]).set H.length (some o') = H ++ [some o'] := fun o o' => by
    rw [List.set_append_right _ _ (Nat.le_refl _), Nat.sub_self]; rfl
  refine DC.of_run1 ZbH ZcN rfl ZcO (by rw [ZcP]) (fun _ h => by cases h) (by simp only [List.length_cons, List.length_nil, Nat.reduceAdd, Nat.reduceSub, List.replicate_succ, List.replicate_zero, List.cons_append, List.nil_append, recD, envPut, List.set_cons_succ, List.set_cons_zero]; exact rfl) ?_
  refine ARun.block (ARun.seq (ARun.region ?_))
  refine y_op rfl (q_ifEq (by kernel_rfl) rfl) ?_
  refine AOps.nil ?_
  refine ARun.condF rfl ?_
  refine ARun.seq (ARun.region ?_)
  refine y_op rfl (ZeQ rfl rfl rfl) ?_
  refine y_op rfl (Zab rfl rfl) ?_
  refine y_op rfl (Zab rfl rfl) ?_
  refine AOps.nil ?_
  refine ARun.condT rfl ?_
  refine ARun.seq (ARun.region ?_)
  refine y_new rfl (Zag rfl rfl rfl rfl) ?_
  refine y_new rfl (Zac rfl rfl rfl rfl rfl rfl (hn _) rfl (Nat.le_of_ble_eq_true rfl) rfl) (AOps.hp (hs _ _) ?_)
  refine AOps.nil (ARun.region ?_)
  refine y_op rfl (q_move rfl) ?_
  refine y_op rfl (q_fldP rfl rfl rfl (by decide)) ?_
  refine y_op rfl (Zai rfl rfl rfl (hn _) rfl) ?_
  refine y_op rfl (q_nil rfl rfl) ?_
  refine y_new rfl (Zah rfl rfl rfl rfl hl rfl (Nat.le_of_ble_eq_true rfl) rfl) ?_
  refine AOps.nil (ARun.inBlock ?_)
  refine ARun.nil ?_
  exact ⟨rfl, rfl, rfl⟩
end Go.V
set_option synthInstance.maxSize 100000
set_option synthInstance.maxHeartbeats 2000000
namespace Go.V
open Go.RowKit Go.Proofs
def outZ : Int ⊕ Int → Out
  | .inl z => .ret (intD z)
  | .inr e => .pan (failW e)
def resZ (ok : Bool) (v : Int ⊕ Int) : Int × Int :=
  bif ok then (match v with
    | .inl z => (z, 0)
    | .inr e => (0, e)) else (0, 1)
theorem intD_zero : intD 0 = .agg [.bool false, .sl 0 []] := by
  have : numD 0 = .sl 0 [] := by rw [numD, lim_zero]; rfl
  show D.agg [.bool (decide ((0 : Int) < 0)), numD 0] = _
  rw [this]; rfl
theorem fz_int0 {H : Heap} : Fz H (.agg [.bool false, .nilsl]) (intD 0) [] := by
  rw [intD_zero]; exact .agg (.cons (.same _) (.cons .nil .nil))
theorem Zby (l : List (Bool × List Nat)) (n : Nat) (hn : l.length = n) (f : FuncId) (caps : List D) (hc : D.pure.pures caps = true) (v : Int ⊕ Int) (hf : l.all okI = true → PC C f caps (fun o => o = outZ v)) :
    PC C Zgq [.clos f caps, .sl n (cellsI l)] (fun o => o = .ret (.tup [intD (resZ (l.all okI) v).1, .int .i64 (resZ (l.all okI) v).2])) := by
  have pan : ∀ (e : Int) (env : List D), env[4]? = some (.ptr 0 0) → env[5]? = some (.ptr 1 0) → resZ (l.all okI) v = (0, e) → (QFin C [.cell 4 25, .cell 5 28] fun o x => o.pure = true ∧ o = .ret (.tup [intD (resZ (l.all okI) v).1, .int .i64 (resZ (l.all okI) v).2])) (.pan (failW e)) env [some ⟨[.bool false, .nilsl], ZcL, 1, true, none⟩, errO 0] [.fn ZaT [.ptr 1 0]] := by
    intro e env h4 h5 hr
    refine DC.mono (dcw_pan _ 1 0 e rfl) ?_
    rintro _ _ ⟨rfl, rfl⟩
    exact ⟨_, _, _, ResR.cellA h4 rfl rfl rfl rfl rfl (ResR.cell1 h5 rfl rfl rfl rfl .nil), .cons fz_int0 (.cons (.same _) .nil), rfl, by rw [hr]; rfl⟩
  refine PC.run Zcj Zfn rfl Zfo (by simp only [D.pure.pures, D.pure, hc, Bool.true_and]) (rs := [.cell 4 25, .cell 5 28]) (by rw [Zfp]) (by simp only [List.length_cons, List.length_nil, Nat.reduceAdd, Nat.reduceSub, List.replicate_succ, List.replicate_zero, List.cons_append, List.nil_append]; exact rfl) ?_
  refine ARun.seq (ARun.region ?_)
  refine y_new rfl (Zag rfl rfl rfl rfl) ?_
  refine y_new rfl (Zag rfl rfl rfl rfl) ?_
  refine AOps.nil (ARun.seq (ARun.region ?_))
  refine Zc8 rfl rfl rfl ?_
  refine AOps.nil (ARun.seq (ARun.region ?_))
  refine y_op rfl (q_move rfl) ?_
  refine y_gop rfl (g_call rfl rfl (PC.gp (Zg4 l n hn))) (fun hg => ?_) (fun q hq => by obtain ⟨hq, rfl⟩ := hq; exact pan 1 _ rfl rfl (by rw [hq]; rfl))
  have hfa := hf hg
  cases v with
  | inr e =>
    refine AOps.nil (ARun.seq (ARun.region ?_))
    refine y_op rfl (q_move rfl) ?_
    refine y_gop rfl (g_call (d := .any) (g := False) (KP := fun q => q = failW e) (args := []) rfl rfl (hfa.mono fun o ho => .inr ⟨failW e, rfl, ho⟩)) (fun hg => hg.elim) (fun q hq => by subst hq; exact pan e _ rfl rfl (by rw [hg]; rfl))
  | inl z =>
    refine AOps.nil (ARun.seq (ARun.region ?_))
    refine y_op rfl (q_move rfl) ?_
    refine y_op rfl (q_call (args := []) rfl rfl hfa) ?_
    refine y_new rfl (Zac rfl rfl rfl rfl rfl rfl rfl rfl (Nat.le_of_ble_eq_true rfl) rfl) ?_
    refine y_new rfl (Zah rfl rfl rfl rfl rfl rfl (Nat.le_of_ble_eq_true rfl) rfl) ?_
    refine AOps.nil ?_
    refine ARun.ret ?_
    refine DC.mono (dcw_ret _ 1) ?_
    rintro _ _ ⟨rfl, rfl⟩
    exact ⟨_, _, _, ResR.cellA rfl rfl rfl rfl rfl rfl (ResR.cell1 rfl rfl rfl rfl rfl .nil), .cons (.same _) (.cons (.same _) .nil), rfl, by rw [hg]; rfl⟩
end Go.V
set_option synthInstance.maxSize 100000
set_option synthInstance.maxHeartbeats 2000000
namespace Go.V
open Go.RowKit Go.Proofs
def valI (d : Bool × List Nat) : Int := sgnd d.1 (val d.2)
theorem okI_int {d : Bool × List Nat} (hu : U32 d.2) (h : okI d = true) : ∃ z, d = (decide (z < 0), lim z.natAbs) ∧ fitZ z := by
  obtain ⟨b, xs⟩ := d
  simp only [okI, Bool.and_eq_true, Bool.or_eq_true, Bool.not_eq_true'] at h
  obtain ⟨a, ha, hl⟩ := okNat_lim hu h.1
  simp only at ha
  subst ha
  refine ⟨sgnd b a, ?_, ?_⟩
  · rw [sgnd_abs, sgnd_neg]
    congr 1
    rcases h.2 with h | h
    · rw [h]; rfl
    · have : 0 < a := Nat.pos_of_ne_zero (ln_pos.1 (of_decide_eq_true h))
      rw [decide_eq_true this, Bool.and_true]
  · rw [fitZ, sgnd_abs]; exact hl
theorem valI_int (z : Int) : valI (decide (z < 0), lim z.natAbs) = z := by
  unfold valI
  simp only [val_lim]
  by_cases h : z < 0
  · simp only [sgnd, decide_eq_true h, cond_true]; omega
  · simp only [sgnd, decide_eq_false h, cond_false]; omega
abbrev capZ (z : Int) : D := .sptr [.bool (decide (z < 0)), numD z.natAbs]
noncomputable def fitO (z : Int) : Int ⊕ Int := if fitZ z then .inl z else .inr 2
theorem fitO_t {z : Int} (h : fitZ z) : fitO z = .inl z := by unfold fitO; rw [if_pos h]
theorem fitO_f {z : Int} (h : ¬ fitZ z) : fitO z = .inr 2 := by unfold fitO; rw [if_neg h]
theorem fitZ_neg {z : Int} (h : fitZ z) : fitZ (-z) := by unfold fitZ at *; rw [Int.natAbs_neg]; exact h
theorem ZlA (x y : Int) (hx : fitZ x) (hy : fitZ y) : PC C ZdU [capZ x, capZ y] (fun o => o = outZ (fitO (x + y))) := by
  refine PC.run Zdn Zhr rfl Zhs rfl (rs := [.cell 2 25]) (by rw [Zht]) (by simp only [List.length_cons, List.length_nil, Nat.reduceAdd, Nat.reduceSub, List.replicate_succ, List.replicate_zero, List.cons_append, List.nil_append]; exact rfl) ?_
  refine ARun.seq (ARun.region ?_)
  refine y_new rfl (Zag rfl rfl rfl rfl) ?_
  refine AOps.nil (ARun.seq (ARun.region ?_))
  refine y_op rfl (Zad rfl rfl rfl rfl rfl) ?_
  refine y_op rfl (Zad rfl rfl rfl rfl rfl) ?_
  refine y_gop rfl (g_call rfl rfl (PC.gp (Zbf x y hx hy))) (fun hg => ?_) (fun q hq => by obtain ⟨hq, rfl⟩ := hq; exact ⟨_, _, .same _, rfl, by rw [fitO_f hq]; rfl⟩)
  refine y_op rfl (q_call rfl rfl (Zb2 _ hg)) ?_
  refine y_new rfl (Zac rfl rfl rfl rfl rfl rfl rfl rfl (Nat.le_of_ble_eq_true rfl) rfl) ?_
  refine AOps.nil ?_
  refine ARun.ret ?_
  refine ⟨_, _, _, ResR.cellA rfl rfl rfl rfl rfl rfl .nil, .cons (.same _) .nil, rfl, ?_⟩
  rw [fitO_t hg]; rfl
theorem ZlB (x y : Int) (hx : fitZ x) (hy : fitZ y) : PC C ZdV [capZ x, capZ y] (fun o => o = outZ (fitO (x - y))) := by
  refine PC.run Zdo Zhu rfl Zhv rfl (rs := [.cell 2 25]) (by rw [Zhw]) (by simp only [List.length_cons, List.length_nil, Nat.reduceAdd, Nat.reduceSub, List.replicate_succ, List.replicate_zero, List.cons_append, List.nil_append]; exact rfl) ?_
  refine ARun.seq (ARun.region ?_)
  refine y_new rfl (Zag rfl rfl rfl rfl) ?_
  refine AOps.nil (ARun.seq ?_)
  refine ARun.drawnP 5 (fun q => ¬ fitZ (x + -y) ∧ q = failW 2) mixC rfl rfl (by kernel_rfl) (fun _ _ h => ⟨_, _, .same _, by rw [h.2]; rfl, by rw [Int.sub_eq_add_neg, h.2, fitO_f h.1]; rfl⟩) ?_
  refine .op rfl (Zad rfl rfl rfl rfl rfl) ?_
  refine .op rfl (Zad rfl rfl rfl rfl rfl) ?_
  refine .op rfl (q_call rfl rfl (Zbx y)) ?_
  refine .opP rfl (g_call rfl rfl (PC.gp (Zbf x (-y) hx (fitZ_neg hy)))) ?_
  refine .op rfl (q_call rfl rfl (Zda (x + -y) (fit_add hx (fitZ_neg hy)))) ?_
  refine .nil (fun hG => ?_)
  refine y_new rfl (Zac rfl rfl rfl rfl rfl rfl rfl rfl (Nat.le_of_ble_eq_true rfl) rfl) ?_
  refine AOps.nil ?_
  refine ARun.ret ?_
  refine ⟨_, _, _, ResR.cellA rfl rfl rfl rfl rfl rfl .nil, .cons (.same _) .nil, rfl, ?_⟩
  rw [Int.sub_eq_add_neg, fitO_t hG.2]; rfl
theorem okI2 {d1 d2 : Bool × List Nat} (h1 : U32 d1.2) (h2 : U32 d2.2) (h : [d1, d2].all okI = true) : ∃ x y, d1 = (decide (x < 0), lim x.natAbs) ∧ fitZ x ∧ d2 = (decide (y < 0), lim y.natAbs) ∧ fitZ y := by
  simp only [List.all_cons, List.all_nil, Bool.and_true, Bool.and_eq_true] at h
  obtain ⟨x, e1, f1⟩ := okI_int h1 h.1
  obtain ⟨y, e2, f2⟩ := okI_int h2 h.2
  exact ⟨x, y, e1, f1, e2, f2⟩
theorem ZmK (d1 d2 : Bool × List Nat) (h1 : U32 d1.2) (h2 : U32 d2.2) : PC C Zko [intA d1.1 d1.2, intA d2.1 d2.2] (fun o => o = .ret (.tup [intD (resZ ([d1, d2].all okI) (fitO (valI d1 + valI d2))).1, .int .i64 (resZ ([d1, d2].all okI) (fitO (valI d1 + valI d2))).2])) := by
  refine PC.run ZeX ZiY rfl ZiZ rfl (rs := [.cell 4 25, .tmp 5]) (by rw [Zi0]) (by simp only [List.length_cons, List.length_nil, Nat.reduceAdd, Nat.reduceSub, List.replicate_succ, List.replicate_zero, List.cons_append, List.nil_append]; exact rfl) ?_
  refine ARun.seq (ARun.region ?_)
  refine y_op rfl (q_boxF rfl rfl rfl rfl) ?_
  refine y_op rfl (q_boxF rfl rfl rfl rfl) ?_
  refine y_new rfl (Zag rfl rfl rfl rfl) ?_
  refine y_op rfl (Zaa rfl) ?_
  refine AOps.nil (ARun.seq (ARun.region ?_))
  refine y_op rfl (Zcf rfl) ?_
  refine y_op rfl (Zad rfl rfl rfl rfl rfl) ?_
  refine y_op rfl (Zad rfl rfl rfl rfl rfl) ?_
  refine y_op rfl (Zan rfl rfl rfl rfl rfl rfl rfl rfl rfl rfl rfl (by decide) (by decide) rfl) ?_
  refine y_op rfl (q_call rfl rfl (Zby [d1, d2] 2 rfl ZdU [.sptr [.bool d1.1, sln .u32 d1.2], .sptr [.bool d2.1, sln .u32 d2.2]] rfl (fitO (valI d1 + valI d2)) (fun h => by obtain ⟨x, y, rfl, f1, rfl, f2⟩ := okI2 h1 h2 h; rw [valI_int, valI_int]; exact ZlA x y f1 f2))) ?_
  refine y_op rfl (Zab rfl rfl) ?_
  refine y_op rfl (Zab rfl rfl) ?_
  refine y_new rfl (Zac rfl rfl rfl rfl rfl rfl rfl rfl (Nat.le_of_ble_eq_true rfl) rfl) ?_
  refine y_op rfl (Zaa rfl) ?_
  refine AOps.nil ?_
  refine ARun.ret ?_
  refine ⟨_, _, _, ResR.cellA rfl rfl rfl rfl rfl rfl (.tmp rfl .nil), .cons (.same _) (.cons (.same _) .nil), rfl, ?_⟩
  rfl
theorem ZmL (d1 d2 : Bool × List Nat) (h1 : U32 d1.2) (h2 : U32 d2.2) : PC C Zkp [intA d1.1 d1.2, intA d2.1 d2.2] (fun o => o = .ret (.tup [intD (resZ ([d1, d2].all okI) (fitO (valI d1 - valI d2))).1, .int .i64 (resZ ([d1, d2].all okI) (fitO (valI d1 - valI d2))).2])) := by
  refine PC.run ZeY Zi1 rfl Zi2 rfl (rs := [.cell 4 25, .tmp 5]) (by rw [Zi3]) (by simp only [List.length_cons, List.length_nil, Nat.reduceAdd, Nat.reduceSub, List.replicate_succ, List.replicate_zero, List.cons_append, List.nil_append]; exact rfl) ?_
  refine ARun.seq (ARun.region ?_)
  refine y_op rfl (q_boxF rfl rfl rfl rfl) ?_
  refine y_op rfl (q_boxF rfl rfl rfl rfl) ?_
  refine y_new rfl (Zag rfl rfl rfl rfl) ?_
  refine y_op rfl (Zaa rfl) ?_
  refine AOps.nil (ARun.seq (ARun.region ?_))
  refine y_op rfl (Zcf rfl) ?_
  refine y_op rfl (Zad rfl rfl rfl rfl rfl) ?_
  refine y_op rfl (Zad rfl rfl rfl rfl rfl) ?_
  refine y_op rfl (Zan rfl rfl rfl rfl rfl rfl rfl rfl rfl rfl rfl (by decide) (by decide) rfl) ?_
  refine y_op rfl (q_call rfl rfl (Zby [d1, d2] 2 rfl ZdV [.sptr [.bool d1.1, sln .u32 d1.2], .sptr [.bool d2.1, sln .u32 d2.2]] rfl (fitO (valI d1 - valI d2)) (fun h => by obtain ⟨x, y, rfl, f1, rfl, f2⟩ := okI2 h1 h2 h; rw [valI_int, valI_int]; exact ZlB x y f1 f2))) ?_
  refine y_op rfl (Zab rfl rfl) ?_
  refine y_op rfl (Zab rfl rfl) ?_
  refine y_new rfl (Zac rfl rfl rfl rfl rfl rfl rfl rfl (Nat.le_of_ble_eq_true rfl) rfl) ?_
  refine y_op rfl (Zaa rfl) ?_
  refine AOps.nil ?_
  refine ARun.ret ?_
  refine ⟨_, _, _, ResR.cellA rfl rfl rfl rfl rfl rfl (.tmp rfl .nil), .cons (.same _) (.cons (.same _) .nil), rfl, ?_⟩
  rfl
end Go.V
set_option synthInstance.maxSize 100000
set_option synthInstance.maxHeartbeats 2000000
namespace Go.V
open Go.RowKit Go.Proofs
abbrev kkeys : List D := [.int .i64 1, .int .i64 2, .int .i64 3, .int .i64 4]
abbrev kvals : List D := [.agg [.clos ZbK []], .agg [.clos ZbL []], .agg [.clos ZbM []], .agg [.clos ZbN []]]
theorem ZlC : PC C Zil [] (fun o => o = .ret (.mapv kkeys kvals)) := by
  refine PC.run Zdm Zhn rfl Zho rfl (rs := [.tmp 0]) (by rw [Zhp]) (by simp only [List.length_cons, List.length_nil, Nat.reduceAdd, Nat.reduceSub, List.replicate_succ, List.replicate_zero, List.cons_append, List.nil_append]; exact rfl) ?_
  refine ARun.seq (ARun.region ?_)
  refine y_op rfl (ZkK) ?_
  refine AOps.nil (ARun.seq (ARun.region ?_))
  refine y_new rfl (Zg2 (kt := 3) (et := 105) (by kernel_rfl) (.inl rfl)) ?_
  refine y_op rfl (ZaD rfl rfl rfl rfl rfl) ?_
  refine y_new rfl (Zay (kt := 3) (et := 105) (.inl rfl) (by kernel_rfl) (by kernel_rfl) rfl rfl rfl rfl rfl) ?_
  refine y_op rfl (ZaD rfl rfl rfl rfl rfl) ?_
  refine y_new rfl (Zay (kt := 3) (et := 105) (.inl rfl) (by kernel_rfl) (by kernel_rfl) rfl rfl rfl rfl rfl) ?_
  refine y_op rfl (ZaD rfl rfl rfl rfl rfl) ?_
  refine y_new rfl (Zay (kt := 3) (et := 105) (.inl rfl) (by kernel_rfl) (by kernel_rfl) rfl rfl rfl rfl rfl) ?_
  refine y_op rfl (ZaD rfl rfl rfl rfl rfl) ?_
  refine y_new rfl (Zay (kt := 3) (et := 105) (.inl rfl) (by kernel_rfl) (by kernel_rfl) rfl rfl rfl rfl rfl) ?_
  refine y_op rfl (q_move rfl) ?_
  refine y_op rfl (Zaa rfl) ?_
  refine AOps.nil ?_
  have hz : Fz [mapO (kkeys.zip kvals)] (.mapp 0) (.mapv kkeys kvals) [0] := Fz.map (es := kkeys.zip kvals) rfl rfl rfl rfl
  refine ARun.ret ?_
  refine ⟨_, _, _, .tmp rfl .nil, .cons hz .nil, rfl, ?_⟩
  rfl
def kindF (how : Int) : Option FuncId :=
  if how = 1 then some ZbK else if how = 2 then some ZbL else if how = 3 then some ZbM else if how = 4 then some ZbN else none
theorem find_kind (how : Int) : findI .i64 how (kkeys.zip kvals) = some ((kindF how).map fun f => .agg [.clos f []]) := by
  unfold kindF
  by_cases h1 : how = 1
  · subst h1; rfl
  · by_cases h2 : how = 2
    · subst h2; rfl
    · by_cases h3 : how = 3
      · subst h3; rfl
      · by_cases h4 : how = 4
        · subst h4; rfl
        · have e : ∀ k : Int, how ≠ k → (how == k) = false := fun k h => beq_eq_false_iff_ne.2 h
          simp only [kkeys, kvals, List.zip_cons_cons, List.zip_nil_right, findI, e 1 h1, e 2 h2, e 3 h3, e 4 h4, decide_true, cond_true, cond_false, if_neg h1, if_neg h2, if_neg h3, if_neg h4, Option.map_none]
def awayZ (how : Int) (q r a b : Int) : Bool :=
  if how = 2 then !(decide (a < 0) == decide (b < 0)) else if how = 3 then decide (a < 0) else if how = 4 then decide (b.natAbs < 2 * r.natAbs) || (decide (2 * r.natAbs = b.natAbs) && decide (q.natAbs % 2 = 1)) else false
theorem Zm6 (q r a b : Int) : PC C ZbK [intD q, intD r, intD a, intD b] (fun o => o = .ret (.bool (awayZ 1 q r a b))) := by
  refine PC.run Zcn ZfA rfl ZfB rfl (rs := [.tmp 8]) (by rw [ZfC]) (by simp only [List.length_cons, List.length_nil, Nat.reduceAdd, Nat.reduceSub, List.replicate_succ, List.replicate_zero, List.cons_append, List.nil_append]; exact rfl) ?_
  refine ARun.seq (ARun.region ?_)
  refine y_op rfl (q_boxF rfl rfl rfl rfl) ?_
  refine y_op rfl (q_boxF rfl rfl rfl rfl) ?_
  refine y_op rfl (q_boxF rfl rfl rfl rfl) ?_
  refine y_op rfl (q_boxF rfl rfl rfl rfl) ?_
  refine y_op rfl (Zaa rfl) ?_
  refine AOps.nil (ARun.seq (ARun.region ?_))
  refine y_op rfl (Zaa rfl) ?_
  refine AOps.nil ?_
  refine ARun.ret ?_
  refine ⟨_, _, _, .tmp rfl .nil, .cons (.same _) .nil, rfl, ?_⟩
  rfl
theorem Zm7 (q r a b : Int) : PC C ZbL [intD q, intD r, intD a, intD b] (fun o => o = .ret (.bool (awayZ 2 q r a b))) := by
  refine PC.run Zco ZfD rfl ZfE rfl (rs := [.tmp 8]) (by rw [ZfF]) (by simp only [List.length_cons, List.length_nil, Nat.reduceAdd, Nat.reduceSub, List.replicate_succ, List.replicate_zero, List.cons_append, List.nil_append]; exact rfl) ?_
  refine ARun.seq (ARun.region ?_)
  refine y_op rfl (q_boxF rfl rfl rfl rfl) ?_
  refine y_op rfl (q_boxF rfl rfl rfl rfl) ?_
  refine y_op rfl (q_boxF rfl rfl rfl rfl) ?_
  refine y_op rfl (q_boxF rfl rfl rfl rfl) ?_
  refine y_op rfl (Zaa rfl) ?_
  refine AOps.nil (ARun.seq (ARun.region ?_))
  refine y_op rfl (q_fldS rfl rfl rfl (by decide)) ?_
  refine y_op rfl (q_load rfl rfl rfl rfl) ?_
  refine y_op rfl (q_fldS rfl rfl rfl (by decide)) ?_
  refine y_op rfl (q_load rfl rfl rfl rfl) ?_
  refine y_op rfl (Zbe rfl rfl rfl) ?_
  refine y_op rfl (Zaa rfl) ?_
  refine AOps.nil ?_
  refine ARun.ret ?_
  refine ⟨_, _, _, .tmp rfl .nil, .cons (.same _) .nil, rfl, ?_⟩
  rfl
theorem Zm8 (q r a b : Int) : PC C ZbM [intD q, intD r, intD a, intD b] (fun o => o = .ret (.bool (awayZ 3 q r a b))) := by
  refine PC.run Zcp ZfG rfl ZfH rfl (rs := [.tmp 8]) (by rw [ZfI]) (by simp only [List.length_cons, List.length_nil, Nat.reduceAdd, Nat.reduceSub, List.replicate_succ, List.replicate_zero, List.cons_append, List.nil_append]; exact rfl) ?_
  refine ARun.seq (ARun.region ?_)
  refine y_op rfl (q_boxF rfl rfl rfl rfl) ?_
  refine y_op rfl (q_boxF rfl rfl rfl rfl) ?_
  refine y_op rfl (q_boxF rfl rfl rfl rfl) ?_
  refine y_op rfl (q_boxF rfl rfl rfl rfl) ?_
  refine y_op rfl (Zaa rfl) ?_
  refine AOps.nil (ARun.seq (ARun.region ?_))
  refine y_op rfl (q_fldS rfl rfl rfl (by decide)) ?_
  refine y_op rfl (q_load rfl rfl rfl rfl) ?_
  refine y_op rfl (Zaa rfl) ?_
  refine AOps.nil ?_
  refine ARun.ret ?_
  refine ⟨_, _, _, .tmp rfl .nil, .cons (.same _) .nil, rfl, ?_⟩
  rfl
end Go.V
set_option synthInstance.maxSize 100000
set_option synthInstance.maxHeartbeats 2000000
namespace Go.V
open Go.RowKit Go.Proofs
theorem numD_one : D.sl 1 [.int .u32 1] = numD 1 := by rw [numD, lim_one]; rfl
theorem parity (n : Nat) (h : 0 < (lim n).length) : dig n 0 % 2 = n % 2 := by
  rw [dig, Nat.pow_zero, Nat.div_one]
  exact Nat.mod_mod_of_dvd n ⟨2147483648, rfl⟩
theorem Zm9 (q r a b : Int) (hr : fitZ r) (hb : fitZ b) (hrb : r.natAbs < b.natAbs) : PC C ZbN [intD q, intD r, intD a, intD b] (fun o => o = .ret (.bool (awayZ 4 q r a b))) := by
  have fin : ∀ c : Bool, c = (decide (b.natAbs < 2 * r.natAbs) || (decide (2 * r.natAbs = b.natAbs) && decide (q.natAbs % 2 = 1))) → c = awayZ 4 q r a b := fun c h => h
  have h1 : ∀ k : Int, k = cmpI r.natAbs (b.natAbs - r.natAbs) → (decide (k > 0) = decide (b.natAbs < 2 * r.natAbs)) ∧ (decide (k = 0) = decide (2 * r.natAbs = b.natAbs)) := by
    intro k hk
    subst hk
    unfold cmpI
    constructor <;> apply decide_eq_decide.2 <;> repeat' split
    all_goals omega
  refine PC.run Zcq ZfJ rfl ZfK rfl (rs := [.tmp 8]) (by rw [ZfL]) (by simp only [List.length_cons, List.length_nil, Nat.reduceAdd, Nat.reduceSub, List.replicate_succ, List.replicate_zero, List.cons_append, List.nil_append]; exact rfl) ?_
  refine ARun.seq (ARun.region ?_)
  refine y_op rfl (q_boxF rfl rfl rfl rfl) ?_
  refine y_op rfl (q_boxF rfl rfl rfl rfl) ?_
  refine y_op rfl (q_boxF rfl rfl rfl rfl) ?_
  refine y_op rfl (q_boxF rfl rfl rfl rfl) ?_
  refine y_op rfl (Zaa rfl) ?_
  refine AOps.nil (ARun.seq ?_)
  refine ARun.drawnP 11 (fun _ => False) mixC rfl rfl (by kernel_rfl) (fun _ _ h => h.elim) ?_
  refine .op rfl (q_fldS rfl rfl rfl (by decide)) ?_
  refine .op rfl (q_load rfl rfl rfl rfl) ?_
  refine .op rfl (q_fldS rfl rfl rfl (by decide)) ?_
  refine .op rfl (q_load rfl rfl rfl rfl) ?_
  refine .op rfl (q_fldS rfl rfl rfl (by decide)) ?_
  refine .op rfl (q_load rfl rfl rfl rfl) ?_
  refine .op rfl (q_call rfl rfl (Zdc (lim b.natAbs) (lim r.natAbs) (U32_lim _) (U32_lim _))) ?_
  refine .op rfl (Zab rfl rfl) ?_
  refine .op rfl (Zab rfl rfl) ?_
  refine .op rfl (q_call rfl rfl (must_sub hb hr (Nat.le_of_lt hrb))) ?_
  refine .op rfl (q_call rfl rfl (Zdd r.natAbs (b.natAbs - r.natAbs) hr (Nat.le_trans (ln_mono (Nat.sub_le _ _)) hb))) ?_
  refine .nil (fun hG => ?_)
  refine y_op rfl (Zaa rfl) ?_
  refine AOps.nil (ARun.seq (ARun.region ?_))
  refine y_op rfl (q_move rfl) ?_
  refine y_op rfl (q_int rfl rfl rfl) ?_
  refine y_op rfl (q_move rfl) ?_
  obtain ⟨e1, e2⟩ := h1 _ rfl
  refine AOps.bool 23 rfl (fun g1 => ?_) (fun g1 => ?_)
  · skip
    refine y_skip rfl ?_
    refine y_skip rfl ?_
    refine y_skip rfl ?_
    refine y_skip rfl ?_
    refine y_skip rfl ?_
    refine y_skip rfl ?_
    refine y_skip rfl ?_
    refine y_skip rfl ?_
    refine y_skip rfl ?_
    refine y_skip rfl ?_
    refine y_skip rfl ?_
    refine y_skip rfl ?_
    refine y_skip rfl ?_
    refine y_skip rfl ?_
    refine y_skip rfl ?_
    refine y_skip rfl ?_
    refine y_op rfl (q_pick rfl rfl rfl rfl) ?_
    refine y_op rfl (Zaa rfl) ?_
    refine AOps.nil ?_
    refine ARun.ret ?_
    refine ⟨_, _, _, .tmp rfl .nil, .cons (.same _) .nil, rfl, ?_⟩
    rw [← fin true (by rw [← e1, g1]; rfl)]
    rfl
  · skip
    refine y_op rfl (q_move rfl) ?_
    refine y_op rfl (q_int rfl rfl rfl) ?_
    refine y_op rfl (q_move rfl) ?_
    refine AOps.bool 26 rfl (fun g2 => ?_) (fun g2 => ?_)
    · skip
      have g2' : cmpI r.natAbs (b.natAbs - r.natAbs) = 0 := by simpa using g2
      refine y_op rfl (q_fldS rfl rfl rfl (by decide)) ?_
      refine y_op rfl (q_load rfl rfl rfl rfl) ?_
      refine y_op rfl (Zaf rfl rfl) ?_
      refine y_op rfl (q_int rfl rfl rfl) ?_
      refine y_op rfl (q_pick rfl rfl rfl rfl) ?_
      refine y_op rfl (q_move rfl) ?_
      refine AOps.bool 32 rfl (fun g3 => ?_) (fun g3 => ?_)
      · skip
        have g3' : 0 < (lim q.natAbs).length := by have := of_decide_eq_true g3; omega
        refine y_op rfl (q_fldS rfl rfl rfl (by decide)) ?_
        refine y_op rfl (q_load rfl rfl rfl rfl) ?_
        refine y_op rfl (Zak (i := (0 : Nat)) rfl rfl rfl rfl (by decide) (by omega) (nts_ne g3') (drop_nat rfl)) ?_
        refine y_op rfl (q_load rfl rfl rfl (lim_load g3')) ?_
        refine y_op rfl (q_rem rfl rfl (by decide) rfl) ?_
        refine y_op rfl (q_int rfl rfl rfl) ?_
        refine y_op rfl (q_pick rfl rfl rfl rfl) ?_
        refine y_op rfl (q_pick rfl rfl rfl rfl) ?_
        refine y_op rfl (Zaa rfl) ?_
        refine AOps.nil ?_
        refine ARun.ret ?_
        refine ⟨_, _, _, .tmp rfl .nil, .cons (.same _) .nil, rfl, ?_⟩
        rw [← fin (decide (q.natAbs % 2 = 1)) (by rw [← e1, ← e2, g1, decide_eq_true g2']; rfl)]
        have : (((dig q.natAbs 0 : Nat) : Int).tmod 2 == 1) = decide (q.natAbs % 2 = 1) := by
          rw [← parity _ g3', show ((dig q.natAbs 0 : Nat) : Int).tmod 2 = ((dig q.natAbs 0 % 2 : Nat) : Int) from rfl]
          by_cases h : dig q.natAbs 0 % 2 = 1
          · rw [h]; rfl
          · rw [decide_eq_false h]; exact beq_eq_false_iff_ne.2 (by omega)
        simp only [this, cond_true, cond_false]
        rfl
      · skip
        have g3' : q.natAbs = 0 := by
          apply Classical.byContradiction
          intro h
          have := ln_pos.2 h
          have g := of_decide_eq_false g3
          omega
        refine y_skip rfl ?_
        refine y_skip rfl ?_
        refine y_skip rfl ?_
        refine y_skip rfl ?_
        refine y_skip rfl ?_
        refine y_skip rfl ?_
        refine y_op rfl (q_pick rfl rfl rfl rfl) ?_
        refine y_op rfl (q_pick rfl rfl rfl rfl) ?_
        refine y_op rfl (Zaa rfl) ?_
        refine AOps.nil ?_
        refine ARun.ret ?_
        refine ⟨_, _, _, .tmp rfl .nil, .cons (.same _) .nil, rfl, ?_⟩
        rw [← fin false (by rw [← e1, ← e2, g1, decide_eq_true g2', g3']; rfl)]
        rfl
    · skip
      have g2' : ¬ cmpI r.natAbs (b.natAbs - r.natAbs) = 0 := by simpa using g2
      refine y_skip rfl ?_
      refine y_skip rfl ?_
      refine y_skip rfl ?_
      refine y_skip rfl ?_
      refine y_op rfl (q_pick rfl rfl rfl rfl) ?_
      refine y_op rfl (q_move rfl) ?_
      refine y_skip rfl ?_
      refine y_skip rfl ?_
      refine y_skip rfl ?_
      refine y_skip rfl ?_
      refine y_skip rfl ?_
      refine y_skip rfl ?_
      refine y_op rfl (q_pick rfl rfl rfl rfl) ?_
      refine y_op rfl (q_pick rfl rfl rfl rfl) ?_
      refine y_op rfl (Zaa rfl) ?_
      refine AOps.nil ?_
      refine ARun.ret ?_
      refine ⟨_, _, _, .tmp rfl .nil, .cons (.same _) .nil, rfl, ?_⟩
      rw [← fin false (by rw [← e1, ← e2, g1, decide_eq_false g2']; rfl)]
      rfl
end Go.V
