/- A part of the proof: abstract values, rules for the steps of the program's form, and contracts of its functions, each proved; no condition. -/
import Derived.Test.YtjohcjagbodicaaGreatDoorA08
set_option linter.unusedVariables false
set_option linter.unusedSimpArgs false
set_option synthInstance.maxSize 100000
set_option synthInstance.maxHeartbeats 2000000
namespace Go.V
open Go.RowKit Go.Proofs
theorem okB_lim {a : Nat} (h : (lim a).length ≤ 1024) : okB (lim a) = true := okB_iff.2 ⟨h, Canon_lim a⟩
theorem resN_ok {a b : Nat} {v : Nat ⊕ Int} (ha : (lim a).length ≤ 1024) (hb : (lim b).length ≤ 1024) : resN (lim a) (lim b) v = (match v with
    | .inl n => if (lim n).length ≤ 1024 then (n, 0) else (0, 2)
    | .inr e => (0, e)) := by
  unfold resN; rw [okB_lim ha, okB_lim hb]; rfl
theorem Zck (a b : Nat) (ha : (lim a).length ≤ 1024) (hb : (lim b).length ≤ 1024) : PC C Zjq [numD a, numD b] (fun o => o = .ret (.int .i64 (cmpI a b))) := by
  have hc : resC (lim a) (lim b) = (cmpI a b, 0) := by rw [resC, okB_lim ha, okB_lim hb, val_lim, val_lim]; rfl
  refine PC.run ZdB Zh5 rfl Zh6 rfl (rs := [.tmp 4]) (by rw [Zh7]) (by simp only [List.length_cons, List.length_nil, Nat.reduceAdd, Nat.reduceSub, List.replicate_succ, List.replicate_zero, List.cons_append, List.nil_append]; exact rfl) ?_
  refine ARun.seq (ARun.region ?_)
  refine y_op rfl (Zaa rfl) ?_
  refine AOps.nil (ARun.seq (ARun.region ?_))
  refine y_op rfl (q_move rfl) ?_
  refine y_op rfl (q_move rfl) ?_
  refine y_op rfl (q_call rfl rfl (Zno (lim a) (lim b) (U32_lim a) (U32_lim b))) ?_
  refine y_op rfl (q_move rfl) ?_
  refine y_op rfl (Zab rfl rfl) ?_
  refine y_op rfl (Zab rfl rfl) ?_
  refine y_op rfl (Zaa rfl) ?_
  refine y_op rfl (Zaa rfl) ?_
  refine AOps.nil (ARun.seq (ARun.region ?_))
  refine y_op rfl (q_move rfl) ?_
  refine y_op rfl (Zaa rfl) ?_
  refine AOps.nil ?_
  refine ARun.ret ?_
  refine ⟨_, _, _, .tmp rfl .nil, .cons (.same _) .nil, rfl, ?_⟩
  rw [hc]; rfl
theorem ZbE (z : Int) : PC C ZgN [intD z] (fun o => o = .ret (intD (-z))) := by
  refine PC.run Zcr ZfH rfl ZfI rfl (rs := [.cell 2 25]) (by rw [ZfJ]) (by simp only [List.length_cons, List.length_nil, Nat.reduceAdd, Nat.reduceSub, List.replicate_succ, List.replicate_zero, List.cons_append, List.nil_append]; exact rfl) ?_
  refine ARun.seq (ARun.region ?_)
  refine y_op rfl (q_boxF rfl rfl rfl rfl) ?_
  refine y_new rfl (Zag rfl rfl rfl rfl) ?_
  refine AOps.nil (ARun.seq (ARun.region ?_))
  refine y_op rfl (q_fldS rfl rfl rfl (by decide)) ?_
  refine y_op rfl (q_load rfl rfl rfl rfl) ?_
  refine y_op rfl (q_not rfl) ?_
  refine y_op rfl (q_fldS rfl rfl rfl (by decide)) ?_
  refine y_op rfl (q_load rfl rfl rfl rfl) ?_
  refine y_op rfl (q_call rfl rfl (Zal _ z.natAbs)) ?_
  refine y_new rfl (Zac rfl rfl rfl rfl rfl rfl rfl rfl (Nat.le_of_ble_eq_true rfl) rfl) ?_
  refine AOps.nil ?_
  refine ARun.ret ?_
  refine ⟨_, _, _, ResR.cellA rfl rfl rfl rfl rfl rfl .nil, .cons (.same _) .nil, rfl, ?_⟩
  have : sgnd (!decide (z < 0)) z.natAbs = -z := by
    by_cases h : z < 0
    · simp only [sgnd, decide_eq_true h, Bool.not_true, cond_false]; omega
    · simp only [sgnd, decide_eq_false h, Bool.not_false, cond_true]; omega
  rw [this]; rfl
abbrev fitZ (z : Int) : Prop := (lim z.natAbs).length ≤ 1024
theorem must_add {a b n : Nat} (ha : (lim a).length ≤ 1024) (hb : (lim b).length ≤ 1024) : PC C ZaK [numD (resN (lim a) (lim b) (.inl n)).1, .int .i64 (resN (lim a) (lim b) (.inl n)).2] (fun o => ((lim n).length ≤ 1024 ∧ o = .ret (numD n)) ∨ ∃ p, (¬ (lim n).length ≤ 1024 ∧ p = failW 2) ∧ o = .pan p) := by
  rw [resN_ok ha hb]
  by_cases h : (lim n).length ≤ 1024
  · simp only [if_pos h]
    exact (ZaU n).mono fun o ho => .inl ⟨h, ho⟩
  · simp only [if_neg h]
    exact (ZhE 0 2).mono fun o ho => .inr ⟨failW 2, ⟨h, rfl⟩, (ho.resolve_left (fun h => absurd h.1 (by decide))).2⟩
theorem must_addZ {x y : Int} (hx : fitZ x) (hy : fitZ y) (ha : (x + y).natAbs = x.natAbs + y.natAbs) : PC C ZaK [numD (resN (lim x.natAbs) (lim y.natAbs) (.inl (val (lim x.natAbs) + val (lim y.natAbs)))).1, .int .i64 (resN (lim x.natAbs) (lim y.natAbs) (.inl (val (lim x.natAbs) + val (lim y.natAbs)))).2] (fun o => (fitZ (x + y) ∧ o = .ret (numD (x.natAbs + y.natAbs))) ∨ ∃ p, (¬ fitZ (x + y) ∧ p = failW 2) ∧ o = .pan p) := by
  rw [val_lim, val_lim, fitZ, ha]
  exact must_add hx hy
theorem must_sub {a b : Nat} (ha : (lim a).length ≤ 1024) (hb : (lim b).length ≤ 1024) (h : b ≤ a) : PC C ZaK [numD (resN (lim a) (lim b) (if val (lim b) ≤ val (lim a) then .inl (val (lim a) - val (lim b)) else .inr 3)).1, .int .i64 (resN (lim a) (lim b) (if val (lim b) ≤ val (lim a) then .inl (val (lim a) - val (lim b)) else .inr 3)).2] (fun o => o = .ret (numD (a - b))) := by
  rw [resN_ok ha hb, val_lim, val_lim, if_pos h]
  have : (lim (a - b)).length ≤ 1024 := Nat.le_trans (ln_mono (Nat.sub_le _ _)) ha
  simp only [if_pos this]
  exact ZaU _
theorem Zbv (x y : Int) (hx : fitZ x) (hy : fitZ y) : PC C ZdJ [intD x, intD y] (fun o => (fitZ (x + y) ∧ o = .ret (intD (x + y))) ∨ (¬ fitZ (x + y) ∧ o = .pan (failW 2))) := by
  refine PC.run Zfn Zko rfl Zkp rfl (rs := [.cell 4 25]) (by rw [Zkq]) (by simp only [List.length_cons, List.length_nil, Nat.reduceAdd, Nat.reduceSub, List.replicate_succ, List.replicate_zero, List.cons_append, List.nil_append]; exact rfl) ?_
  refine ARun.seq (ARun.region ?_)
  refine y_op rfl (q_boxF rfl rfl rfl rfl) ?_
  refine y_op rfl (q_boxF rfl rfl rfl rfl) ?_
  refine y_new rfl (Zag rfl rfl rfl rfl) ?_
  refine AOps.nil (ARun.seq (ARun.block (ARun.seq (ARun.region ?_))))
  refine y_op rfl (q_fldS rfl rfl rfl (by decide)) ?_
  refine y_op rfl (q_load rfl rfl rfl rfl) ?_
  refine y_op rfl (q_fldS rfl rfl rfl (by decide)) ?_
  refine y_op rfl (q_load rfl rfl rfl rfl) ?_
  refine y_op rfl (ZjE rfl rfl rfl) ?_
  refine y_op rfl (Zaa rfl) ?_
  refine AOps.nil ?_
  refine ARun.cond rfl (fun h => ?_) (fun h => ?_)
  · skip
    have hs : sgnd (decide (x < 0)) (x.natAbs + y.natAbs) = x + y := by
      have h' : decide (x < 0) = decide (y < 0) := by simpa using h
      by_cases h0 : x < 0
      · have : y < 0 := by rw [decide_eq_true h0] at h'; exact of_decide_eq_true h'.symm
        simp only [sgnd, decide_eq_true h0, cond_true]; omega
      · have : ¬ y < 0 := by rw [decide_eq_false h0] at h'; exact of_decide_eq_false h'.symm
        simp only [sgnd, decide_eq_false h0, cond_false]; omega
    have ha : (x + y).natAbs = x.natAbs + y.natAbs := by rw [← hs, sgnd_abs]
    refine ARun.seq ?_
    refine ARun.drawnP 11 (fun q => ¬ fitZ (x + y) ∧ q = failW 2) mixC rfl rfl (by kernel_rfl) (fun _ _ h => ⟨_, _, .same _, by rw [h.2]; rfl, .inr ⟨h.1, by rw [h.2]⟩⟩) ?_
    refine .op rfl (q_fldS rfl rfl rfl (by decide)) ?_
    refine .op rfl (q_load rfl rfl rfl rfl) ?_
    refine .op rfl (q_fldS rfl rfl rfl (by decide)) ?_
    refine .op rfl (q_load rfl rfl rfl rfl) ?_
    refine .op rfl (q_fldS rfl rfl rfl (by decide)) ?_
    refine .op rfl (q_load rfl rfl rfl rfl) ?_
    refine .op rfl (q_call rfl rfl (Ze4 (lim x.natAbs) (lim y.natAbs) (U32_lim _) (U32_lim _))) ?_
    refine .op rfl (Zab rfl rfl) ?_
    refine .op rfl (Zab rfl rfl) ?_
    refine .opP rfl (g_call (g := fitZ (x + y)) (d := numD (x.natAbs + y.natAbs)) rfl rfl (must_addZ hx hy ha)) ?_
    refine .op rfl (q_call rfl rfl (Zal _ _)) ?_
    refine .nil (fun hG => ?_)
    refine y_new rfl (Zac rfl rfl rfl rfl rfl rfl rfl rfl (Nat.le_of_ble_eq_true rfl) rfl) ?_
    refine AOps.nil ?_
    refine ARun.ret ?_
    refine ⟨_, _, _, ResR.cellA rfl rfl rfl rfl rfl rfl .nil, .cons (.same _) .nil, rfl, ?_⟩
    rw [hs]
    exact .inl ⟨hG.2, rfl⟩
  · skip
    refine ARun.seq (ARun.region ?_)
    refine y_op rfl (q_fldS rfl rfl rfl (by decide)) ?_
    refine y_op rfl (q_load rfl rfl rfl rfl) ?_
    refine y_op rfl (q_fldS rfl rfl rfl (by decide)) ?_
    refine y_op rfl (q_load rfl rfl rfl rfl) ?_
    refine y_op rfl (q_call rfl rfl (Zck x.natAbs y.natAbs hx hy)) ?_
    refine y_op rfl (q_int rfl rfl rfl) ?_
    refine y_op rfl (Zaa rfl) ?_
    refine AOps.nil ?_
    refine ARun.ite rfl (fun h2 => ?_) (fun h2 => ?_)
    · skip
      have hyx : y.natAbs ≤ x.natAbs := by unfold cmpI at h2; repeat' split at h2; all_goals omega
      refine ARun.seq ?_
      refine ARun.drawnP 11 (fun _ => False) mixC rfl rfl (by kernel_rfl) (fun _ _ h => h.elim) ?_
      refine .op rfl (q_fldS rfl rfl rfl (by decide)) ?_
      refine .op rfl (q_load rfl rfl rfl rfl) ?_
      refine .op rfl (q_fldS rfl rfl rfl (by decide)) ?_
      refine .op rfl (q_load rfl rfl rfl rfl) ?_
      refine .op rfl (q_fldS rfl rfl rfl (by decide)) ?_
      refine .op rfl (q_load rfl rfl rfl rfl) ?_
      refine .op rfl (q_call rfl rfl (Zdq (lim x.natAbs) (lim y.natAbs) (U32_lim _) (U32_lim _))) ?_
      refine .op rfl (Zab rfl rfl) ?_
      refine .op rfl (Zab rfl rfl) ?_
      refine .op rfl (q_call rfl rfl (must_sub hx hy hyx)) ?_
      refine .op rfl (q_call rfl rfl (Zal _ _)) ?_
      refine .nil (fun hG => ?_)
      refine y_new rfl (Zac rfl rfl rfl rfl rfl rfl rfl rfl (Nat.le_of_ble_eq_true rfl) rfl) ?_
      refine AOps.nil ?_
      refine ARun.ret ?_
      refine ⟨_, _, _, ResR.cellA rfl rfl rfl rfl rfl rfl .nil, .cons (.same _) .nil, rfl, ?_⟩
      have hs : sgnd (decide (x < 0)) (x.natAbs - y.natAbs) = x + y := by
        have h' : ¬ decide (x < 0) = decide (y < 0) := by simpa using h
        by_cases h0 : x < 0
        · have : ¬ y < 0 := fun h1 => h' (by rw [decide_eq_true h0, decide_eq_true h1])
          simp only [sgnd, decide_eq_true h0, cond_true]; omega
        · have : y < 0 := by apply Classical.byContradiction; intro h1; exact h' (by rw [decide_eq_false h0, decide_eq_false h1])
          simp only [sgnd, decide_eq_false h0, cond_false]; omega
      have ha : (x + y).natAbs = x.natAbs - y.natAbs := by rw [← hs, sgnd_abs]
      rw [hs]
      exact .inl ⟨by rw [fitZ, ha]; exact Nat.le_trans (ln_mono (Nat.sub_le _ _)) hx, rfl⟩
    · skip
      have hxy : x.natAbs ≤ y.natAbs := by unfold cmpI at h2; repeat' split at h2; all_goals omega
      refine ARun.skip (ARun.inBlock (ARun.seq ?_))
      refine ARun.drawnP 11 (fun _ => False) mixC rfl rfl (by kernel_rfl) (fun _ _ h => h.elim) ?_
      refine .op rfl (q_fldS rfl rfl rfl (by decide)) ?_
      refine .op rfl (q_load rfl rfl rfl rfl) ?_
      refine .op rfl (q_fldS rfl rfl rfl (by decide)) ?_
      refine .op rfl (q_load rfl rfl rfl rfl) ?_
      refine .op rfl (q_fldS rfl rfl rfl (by decide)) ?_
      refine .op rfl (q_load rfl rfl rfl rfl) ?_
      refine .op rfl (q_call rfl rfl (Zdq (lim y.natAbs) (lim x.natAbs) (U32_lim _) (U32_lim _))) ?_
      refine .op rfl (Zab rfl rfl) ?_
      refine .op rfl (Zab rfl rfl) ?_
      refine .op rfl (q_call rfl rfl (must_sub hy hx hxy)) ?_
      refine .op rfl (q_call rfl rfl (Zal _ _)) ?_
      refine .nil (fun hG => ?_)
      refine y_new rfl (Zac rfl rfl rfl rfl rfl rfl rfl rfl (Nat.le_of_ble_eq_true rfl) rfl) ?_
      refine AOps.nil ?_
      refine ARun.ret ?_
      refine ⟨_, _, _, ResR.cellA rfl rfl rfl rfl rfl rfl .nil, .cons (.same _) .nil, rfl, ?_⟩
      have hs : sgnd (decide (y < 0)) (y.natAbs - x.natAbs) = x + y := by
        have h' : ¬ decide (x < 0) = decide (y < 0) := by simpa using h
        by_cases h0 : x < 0
        · have : ¬ y < 0 := fun h1 => h' (by rw [decide_eq_true h0, decide_eq_true h1])
          simp only [sgnd, decide_eq_false this, cond_false]; omega
        · have : y < 0 := by apply Classical.byContradiction; intro h1; exact h' (by rw [decide_eq_false h0, decide_eq_false h1])
          simp only [sgnd, decide_eq_true this, cond_true]; omega
      have ha : (x + y).natAbs = y.natAbs - x.natAbs := by rw [← hs, sgnd_abs]
      rw [hs]
      exact .inl ⟨by rw [fitZ, ha]; exact Nat.le_trans (ln_mono (Nat.sub_le _ _)) hy, rfl⟩
end Go.V
set_option synthInstance.maxSize 100000
set_option synthInstance.maxHeartbeats 2000000
namespace Go.V
open Go.RowKit Go.Proofs
theorem Zoa (xs : List Nat) (hx : xs.length ≤ 35184372088832) : PC C ZbG [sln .u32 xs] (fun o => o = .ret (sln .u32 xs)) := by
  refine PC.run ZaE Zby rfl Zbz rfl (rs := [.tmp 2]) (by rw [ZbA]) (by simp only [List.length_cons, List.length_nil, Nat.reduceAdd, Nat.reduceSub, List.replicate_succ, List.replicate_zero, List.cons_append, List.nil_append]; exact rfl) ?_
  refine ARun.seq (ARun.region ?_)
  refine y_op rfl (Zaa rfl) ?_
  refine AOps.nil (ARun.seq (ARun.seq (ARun.region ?_)))
  refine y_op rfl (q_move rfl) ?_
  refine Zn3 rfl rfl rfl rfl rfl (fun b hb => ?_)
  refine AOps.nil ?_
  refine ARun.cond rfl (fun h => ?_) (fun h => ?_)
  · skip
    refine ARun.seq (ARun.region ?_)
    refine y_op rfl (Zaa rfl) ?_
    refine AOps.nil ?_
    refine ARun.ret ?_
    refine ⟨_, _, _, .tmp rfl .nil, .cons .nil .nil, rfl, ?_⟩
    rw [sl_nil (hb h)]
    rfl
  · skip
    refine ARun.skip (ARun.seq (ARun.region ?_))
    refine y_new rfl (Zam rfl rfl rfl rfl rfl rfl rfl rfl rfl rfl rfl (by decide) (by decide)) ?_
    refine y_op rfl (q_move rfl) ?_
    refine y_new rfl (Zb6 rfl rfl (by decide) rfl rfl rfl rfl rfl rfl rfl rfl rfl rfl (by simp) (by simp; omega) (by rw [maxLen_eq]; omega) rfl) ?_
    refine y_op rfl (Zaa rfl) ?_
    refine AOps.nil ?_
    refine ARun.ret ?_
    refine ⟨_, _, _, .tmp rfl .nil, .cons (.row rfl (pures_nts _)) .nil, rfl, ?_⟩
    simp [tupD]
end Go.V
set_option synthInstance.maxSize 100000
set_option synthInstance.maxHeartbeats 2000000
namespace Go.V
open Go.RowKit Go.Proofs
theorem Zev (z : Int) (hz : (lim z.natAbs).length ≤ 35184372088832) : PC C ZgH [intD z] (fun o => o = .ret (intD z)) := by
  refine PC.run Zfi Zj8 rfl Zj9 rfl (rs := [.cell 2 25]) (by rw [Zka]) (by simp only [List.length_cons, List.length_nil, Nat.reduceAdd, Nat.reduceSub, List.replicate_succ, List.replicate_zero, List.cons_append, List.nil_append]; exact rfl) ?_
  refine ARun.seq (ARun.region ?_)
  refine y_op rfl (q_boxF rfl rfl rfl rfl) ?_
  refine y_new rfl (Zag rfl rfl rfl rfl) ?_
  refine AOps.nil (ARun.seq ?_)
  refine ARun.drawnP 6 (fun _ => False) mixC rfl rfl (by kernel_rfl) (fun _ _ h => h.elim) ?_
  refine .op rfl (q_fldS rfl rfl rfl (by decide)) ?_
  refine .op rfl (q_load rfl rfl rfl rfl) ?_
  refine .op rfl (q_fldS rfl rfl rfl (by decide)) ?_
  refine .op rfl (q_load rfl rfl rfl rfl) ?_
  refine .op rfl (q_call rfl rfl (Zoa (lim z.natAbs) hz)) ?_
  refine .op rfl (Zap rfl rfl rfl rfl rfl) ?_
  refine .nil (fun hG => ?_)
  refine y_new rfl (Zac rfl rfl rfl rfl rfl rfl rfl rfl (Nat.le_of_ble_eq_true rfl) rfl) ?_
  refine AOps.nil ?_
  refine ARun.ret ?_
  refine ⟨_, _, _, ResR.cellA rfl rfl rfl rfl rfl rfl .nil, .cons (.same _) .nil, rfl, ?_⟩
  rfl
theorem Zbw (z : Int) (hz : fitZ z) : PC C ZgH [intD z] (fun o => o = .ret (intD z)) := Zev z (by unfold fitZ at hz; omega)
theorem must_mul {x y : Int} (hx : fitZ x) (hy : fitZ y) : PC C ZaK [numD (resN (lim x.natAbs) (lim y.natAbs) (.inl (val (lim x.natAbs) * val (lim y.natAbs)))).1, .int .i64 (resN (lim x.natAbs) (lim y.natAbs) (.inl (val (lim x.natAbs) * val (lim y.natAbs)))).2] (fun o => (fitZ (x * y) ∧ o = .ret (numD (x.natAbs * y.natAbs))) ∨ ∃ p, (¬ fitZ (x * y) ∧ p = failW 2) ∧ o = .pan p) := by
  rw [val_lim, val_lim, fitZ, Int.natAbs_mul]
  exact must_add hx hy
theorem Zfy (x y : Int) (hx : fitZ x) (hy : fitZ y) : PC C ZgO [intD x, intD y] (fun o => (fitZ (x * y) ∧ o = .ret (intD (x * y))) ∨ (¬ fitZ (x * y) ∧ o = .pan (failW 2))) := by
  have hs : sgnd (!(decide (x < 0) == decide (y < 0))) (x.natAbs * y.natAbs) = x * y := by
    rw [← Int.natAbs_mul]
    by_cases h1 : x < 0 <;> by_cases h2 : y < 0
    · have := Int.mul_pos_of_neg_of_neg h1 h2
      simp only [sgnd, decide_eq_true h1, decide_eq_true h2, beq_self_eq_true, Bool.not_true, cond_false]; omega
    · have := Int.mul_nonpos_of_nonpos_of_nonneg (Int.le_of_lt h1) (Int.not_lt.1 h2)
      simp only [sgnd, decide_eq_true h1, decide_eq_false h2, show (!(true == false)) = true from rfl, cond_true]; omega
    · have := Int.mul_nonpos_of_nonneg_of_nonpos (Int.not_lt.1 h1) (Int.le_of_lt h2)
      simp only [sgnd, decide_eq_false h1, decide_eq_true h2, show (!(false == true)) = true from rfl, cond_true]; omega
    · have := Int.mul_nonneg (Int.not_lt.1 h1) (Int.not_lt.1 h2)
      simp only [sgnd, decide_eq_false h1, decide_eq_false h2, beq_self_eq_true, Bool.not_true, cond_false]; omega
  refine PC.run Zcs ZfK rfl ZfL rfl (rs := [.cell 4 25]) (by rw [ZfM]) (by simp only [List.length_cons, List.length_nil, Nat.reduceAdd, Nat.reduceSub, List.replicate_succ, List.replicate_zero, List.cons_append, List.nil_append]; exact rfl) ?_
  refine ARun.seq (ARun.region ?_)
  refine y_op rfl (q_boxF rfl rfl rfl rfl) ?_
  refine y_op rfl (q_boxF rfl rfl rfl rfl) ?_
  refine y_new rfl (Zag rfl rfl rfl rfl) ?_
  refine AOps.nil (ARun.seq ?_)
  refine ARun.drawnP 14 (fun q => ¬ fitZ (x * y) ∧ q = failW 2) mixC rfl rfl (by kernel_rfl) (fun _ _ h => ⟨_, _, .same _, by rw [h.2]; rfl, .inr ⟨h.1, by rw [h.2]⟩⟩) ?_
  refine .op rfl (q_fldS rfl rfl rfl (by decide)) ?_
  refine .op rfl (q_load rfl rfl rfl rfl) ?_
  refine .op rfl (q_fldS rfl rfl rfl (by decide)) ?_
  refine .op rfl (q_load rfl rfl rfl rfl) ?_
  refine .op rfl (ZaT rfl rfl rfl) ?_
  refine .op rfl (q_fldS rfl rfl rfl (by decide)) ?_
  refine .op rfl (q_load rfl rfl rfl rfl) ?_
  refine .op rfl (q_fldS rfl rfl rfl (by decide)) ?_
  refine .op rfl (q_load rfl rfl rfl rfl) ?_
  refine .op rfl (q_call rfl rfl (Znn (lim x.natAbs) (lim y.natAbs) (U32_lim _) (U32_lim _))) ?_
  refine .op rfl (Zab rfl rfl) ?_
  refine .op rfl (Zab rfl rfl) ?_
  refine .opP rfl (g_call (g := fitZ (x * y)) (d := numD (x.natAbs * y.natAbs)) rfl rfl (must_mul hx hy)) ?_
  refine .op rfl (q_call rfl rfl (Zal _ _)) ?_
  refine .nil (fun hG => ?_)
  refine y_new rfl (Zac rfl rfl rfl rfl rfl rfl rfl rfl (Nat.le_of_ble_eq_true rfl) rfl) ?_
  refine AOps.nil ?_
  refine ARun.ret ?_
  refine ⟨_, _, _, ResR.cellA rfl rfl rfl rfl rfl rfl .nil, .cons (.same _) .nil, rfl, ?_⟩
  rw [hs]
  exact .inl ⟨hG.2, rfl⟩
theorem Zob (z : Int) : PC C Zkr [intD z] (fun o => o = .ret (.int .i64 z.sign)) := by
  refine PC.run Zd6 Zjk rfl Zjl rfl (rs := [.tmp 2]) (by rw [Zjm]) (by simp only [List.length_cons, List.length_nil, Nat.reduceAdd, Nat.reduceSub, List.replicate_succ, List.replicate_zero, List.cons_append, List.nil_append]; exact rfl) ?_
  refine ARun.seq (ARun.region ?_)
  refine y_op rfl (q_boxF rfl rfl rfl rfl) ?_
  refine y_op rfl (Zaa rfl) ?_
  refine AOps.nil (ARun.seq (ARun.block (ARun.seq (ARun.region ?_))))
  refine y_op rfl (q_fldS rfl rfl rfl (by decide)) ?_
  refine y_op rfl (q_load rfl rfl rfl rfl) ?_
  refine y_op rfl (Zaa rfl) ?_
  refine AOps.nil ?_
  refine ARun.ite rfl (fun h => ?_) (fun h => ?_)
  · skip
    refine ARun.seq (ARun.region ?_)
    refine y_op rfl (Zaa rfl) ?_
    refine AOps.nil ?_
    refine ARun.ret ?_
    refine ⟨_, _, _, .tmp rfl .nil, .cons (.same _) .nil, rfl, ?_⟩
    rw [Int.sign_eq_neg_one_of_neg h]; rfl
  · skip
    refine ARun.seq (ARun.region ?_)
    refine y_op rfl (q_fldS rfl rfl rfl (by decide)) ?_
    refine y_op rfl (q_load rfl rfl rfl rfl) ?_
    refine y_op rfl (Zad rfl rfl) ?_
    refine y_op rfl (q_int rfl rfl rfl) ?_
    refine y_op rfl (Zaa rfl) ?_
    refine AOps.nil ?_
    refine ARun.ite rfl (fun h2 => ?_) (fun h2 => ?_)
    · skip
      refine ARun.seq (ARun.region ?_)
      refine y_op rfl (Zaa rfl) ?_
      refine AOps.nil ?_
      refine ARun.ret ?_
      refine ⟨_, _, _, .tmp rfl .nil, .cons (.same _) .nil, rfl, ?_⟩
      have : z.natAbs ≠ 0 := ln_pos.1 (by omega)
      rw [Int.sign_eq_one_of_pos (by omega)]; rfl
    · skip
      refine ARun.skip (ARun.inBlock (ARun.seq (ARun.region ?_)))
      refine y_op rfl (Zaa rfl) ?_
      refine AOps.nil ?_
      refine ARun.ret ?_
      refine ⟨_, _, _, .tmp rfl .nil, .cons (.same _) .nil, rfl, ?_⟩
      have : z.natAbs = 0 := by
        apply Classical.byContradiction
        intro hn
        have := ln_pos.2 hn
        omega
      rw [show z = 0 by omega]; rfl
def cmpZ (x y : Int) : Int := if x < y then -1 else if x = y then 0 else 1
theorem ZoN (x y : Int) (hx : fitZ x) (hy : fitZ y) : PC C ZlJ [intD x, intD y] (fun o => o = .ret (.int .i64 (cmpZ x y))) := by
  refine PC.run Zfm Zkl rfl Zkm rfl (rs := [.tmp 4]) (by rw [Zkn]) (by simp only [List.length_cons, List.length_nil, Nat.reduceAdd, Nat.reduceSub, List.replicate_succ, List.replicate_zero, List.cons_append, List.nil_append]; exact rfl) ?_
  refine ARun.seq (ARun.region ?_)
  refine y_op rfl (q_boxF rfl rfl rfl rfl) ?_
  refine y_op rfl (q_boxF rfl rfl rfl rfl) ?_
  refine y_op rfl (Zaa rfl) ?_
  refine AOps.nil (ARun.seq (ARun.block (ARun.seq (ARun.region ?_))))
  refine y_op rfl (q_fldS rfl rfl rfl (by decide)) ?_
  refine y_op rfl (q_load rfl rfl rfl rfl) ?_
  refine y_op rfl (q_fldS rfl rfl rfl (by decide)) ?_
  refine y_op rfl (q_load rfl rfl rfl rfl) ?_
  refine y_op rfl (ZaT rfl rfl rfl) ?_
  refine y_op rfl (q_move rfl) ?_
  refine AOps.bool 11 rfl (fun h1 => ?_) (fun h1 => ?_)
  · skip
    have h1' : ¬ decide (x < 0) = decide (y < 0) := by simpa using h1
    refine y_op rfl (q_fldS rfl rfl rfl (by decide)) ?_
    refine y_op rfl (q_load rfl rfl rfl rfl) ?_
    refine y_op rfl (q_pick rfl rfl rfl rfl) ?_
    refine y_op rfl (Zaa rfl) ?_
    refine AOps.nil ?_
    refine ARun.cond rfl (fun h2 => ?_) (fun h2 => ?_)
    · skip
      refine ARun.seq (ARun.region ?_)
      refine y_op rfl (Zaa rfl) ?_
      refine AOps.nil ?_
      refine ARun.ret ?_
      refine ⟨_, _, _, .tmp rfl .nil, .cons (.same _) .nil, rfl, ?_⟩
      have h2 : x < 0 := of_decide_eq_true h2
      have hy : ¬ y < 0 := fun h => h1' (by rw [decide_eq_true h2, decide_eq_true h])
      unfold cmpZ; rw [if_pos (by omega)]; rfl
    · skip
      have h2 : ¬ x < 0 := of_decide_eq_false h2
      have hy : y < 0 := by apply Classical.byContradiction; intro h; exact h1' (by rw [decide_eq_false h2, decide_eq_false h])
      refine ARun.seq (ARun.region ?_)
      refine y_op rfl (q_fldS rfl rfl rfl (by decide)) ?_
      refine y_op rfl (q_load rfl rfl rfl rfl) ?_
      refine y_op rfl (q_fldS rfl rfl rfl (by decide)) ?_
      refine y_op rfl (q_load rfl rfl rfl rfl) ?_
      refine y_op rfl (ZaT rfl rfl rfl) ?_
      refine y_op rfl (Zaa rfl) ?_
      refine AOps.nil ?_
      refine ARun.cond rfl (fun h3 => ?_) (fun h3 => ?_)
      · skip
        refine ARun.seq (ARun.region ?_)
        refine y_op rfl (Zaa rfl) ?_
        refine AOps.nil ?_
        refine ARun.ret ?_
        refine ⟨_, _, _, .tmp rfl .nil, .cons (.same _) .nil, rfl, ?_⟩
        unfold cmpZ; rw [if_neg (by omega), if_neg (by omega)]; rfl
      · skip
        rw [h1] at h3; cases h3
  · skip
    have h1' : decide (x < 0) = decide (y < 0) := by simpa using h1
    refine y_skip rfl ?_
    refine y_skip rfl ?_
    refine y_op rfl (q_pick rfl rfl rfl rfl) ?_
    refine y_op rfl (Zaa rfl) ?_
    refine AOps.nil ?_
    refine ARun.condF rfl ?_
    refine ARun.seq (ARun.region ?_)
    refine y_op rfl (q_fldS rfl rfl rfl (by decide)) ?_
    refine y_op rfl (q_load rfl rfl rfl rfl) ?_
    refine y_op rfl (q_fldS rfl rfl rfl (by decide)) ?_
    refine y_op rfl (q_load rfl rfl rfl rfl) ?_
    refine y_op rfl (ZaT rfl rfl rfl) ?_
    refine y_op rfl (Zaa rfl) ?_
    refine AOps.nil ?_
    refine ARun.cond rfl (fun h3 => ?_) (fun h3 => ?_)
    · skip
      rw [h1] at h3; cases h3
    · skip
      refine ARun.seq (ARun.region ?_)
      refine y_op rfl (q_fldS rfl rfl rfl (by decide)) ?_
      refine y_op rfl (q_load rfl rfl rfl rfl) ?_
      refine y_op rfl (Zaa rfl) ?_
      refine AOps.nil ?_
      refine ARun.ite rfl (fun h4 => ?_) (fun h4 => ?_)
      · skip
        refine ARun.seq (ARun.region ?_)
        refine y_op rfl (q_fldS rfl rfl rfl (by decide)) ?_
        refine y_op rfl (q_load rfl rfl rfl rfl) ?_
        refine y_op rfl (q_fldS rfl rfl rfl (by decide)) ?_
        refine y_op rfl (q_load rfl rfl rfl rfl) ?_
        refine y_op rfl (q_call rfl rfl (Zck y.natAbs x.natAbs hy hx)) ?_
        refine y_op rfl (Zaa rfl) ?_
        refine AOps.nil ?_
        refine ARun.ret ?_
        refine ⟨_, _, _, .tmp rfl .nil, .cons (.same _) .nil, rfl, ?_⟩
        have hy : y < 0 := by rw [decide_eq_true h4] at h1'; exact of_decide_eq_true h1'.symm
        have : cmpI y.natAbs x.natAbs = cmpZ x y := by unfold cmpI cmpZ; repeat' split; all_goals omega
        rw [this]; rfl
      · skip
        refine ARun.skip (ARun.inBlock (ARun.seq (ARun.region ?_)))
        refine y_op rfl (q_fldS rfl rfl rfl (by decide)) ?_
        refine y_op rfl (q_load rfl rfl rfl rfl) ?_
        refine y_op rfl (q_fldS rfl rfl rfl (by decide)) ?_
        refine y_op rfl (q_load rfl rfl rfl rfl) ?_
        refine y_op rfl (q_call rfl rfl (Zck x.natAbs y.natAbs hx hy)) ?_
        refine y_op rfl (Zaa rfl) ?_
        refine AOps.nil ?_
        refine ARun.ret ?_
        refine ⟨_, _, _, .tmp rfl .nil, .cons (.same _) .nil, rfl, ?_⟩
        have hy : ¬ y < 0 := by rw [decide_eq_false h4] at h1'; exact of_decide_eq_false h1'.symm
        have : cmpI x.natAbs y.natAbs = cmpZ x y := by unfold cmpI cmpZ; repeat' split; all_goals omega
        rw [this]; rfl
end Go.V
set_option synthInstance.maxSize 100000
set_option synthInstance.maxHeartbeats 2000000
namespace Go.V
open Go.RowKit Go.Proofs
def cellsI : List (Bool × List Nat) → List D
  | [] => []
  | p :: l => .bool p.1 :: sln .u32 p.2 :: cellsI l
theorem cellsI_len : ∀ l : List (Bool × List Nat), (cellsI l).length = l.length * 2
  | [] => rfl
  | p :: l => by simp only [cellsI, List.length_cons, cellsI_len l]; omega
theorem cellsI_drop : ∀ (l : List (Bool × List Nat)) (i : Nat), (cellsI l).drop (i * 2) = cellsI (l.drop i)
  | l, 0 => by simp
  | [], i + 1 => by simp [cellsI]
  | p :: l, i + 1 => by
    rw [show (i + 1) * 2 = i * 2 + 1 + 1 by omega]
    simp only [cellsI, List.drop_succ_cons]
    exact cellsI_drop l i
def idxI (p : Bool × List Nat → Bool) : List (Bool × List Nat) → Nat → Int
  | [], _ => -1
  | d :: ds, i => bif p d then (i : Int) else idxI p ds (i + 1)
theorem idxI_any (p : Bool × List Nat → Bool) : ∀ (ds : List (Bool × List Nat)) (i : Nat), decide (idxI p ds i ≥ 0) = ds.any p
  | [], _ => by simp [idxI]
  | d :: ds, i => by
    simp only [idxI, List.any_cons]
    have ih := idxI_any p ds (i + 1)
    by_cases h : p d = true
    · simp [h]
    · simp only [Bool.not_eq_true] at h
      simp only [h, cond_false, Bool.false_or]
      exact ih
theorem Zoc (l : List (Bool × List Nat)) (n : Nat) (hn : l.length = n) (f : FuncId) (p : Bool × List Nat → Bool) (hf : ∀ d ∈ l, PC C f [intA d.1 d.2] (fun o => o = .ret (.bool (p d)))) : PC C Zbe [.sl n (cellsI l), .clos f []] (fun o => o = .ret (.int .i64 (idxI p l 0))) := by
  refine PC.run Zay Za1 rfl Za2 rfl (rs := [.tmp 4]) (by rw [Za3]) (by simp only [List.length_cons, List.length_nil, Nat.reduceAdd, Nat.reduceSub, List.replicate_succ, List.replicate_zero, List.cons_append, List.nil_append]; exact rfl) ?_
  refine ARun.lenle 0 rfl (fun hlen => ?_)
  rw [maxLen_eq] at hlen
  refine ARun.seq (ARun.region ?_)
  refine y_op rfl (Zaa rfl) ?_
  refine AOps.nil (ARun.seq (ARun.seq (ARun.region ?_)))
  refine y_op rfl (q_move rfl) ?_
  refine y_op rfl (Zad rfl rfl) ?_
  refine y_op rfl (q_move rfl) ?_
  refine AOps.nil (ARun.block ?_)
  refine ARun.loopI (S := Nat) (fun i : Nat => [(4, .any), (5, .any), (9, .any), (10, .any), (11, .any), (12, .any), (13, .any), (14, .any), (15, .any), (16, .any), (17, .any), (18, .any), (8, .int .i64 (i : Int))]) (fun i : Nat => []) (fun i : Nat => i ≤ n ∧ idxI p (l.drop i) i = idxI p l 0) (fun i : Nat => n - i) (0) ?_ ?_ ?_ ?_
  · exact ⟨Nat.zero_le _, rfl⟩
  · (repeat' first | exact envLe_nil | apply envLe_any | apply envLe_same)
  · rfl
  rintro i hinv ih
  obtain ⟨hi, he⟩ := hinv
  refine ARun.seq (ARun.region ?_)
  refine y_op rfl (q_int rfl rfl rfl) ?_
  refine AOps.nil (ARun.seq ?_)
  refine ARun.ite rfl (fun h => ?_) (fun h => ?_)
  · skip
    have hlt : i < l.length := by omega
    have hdr : l.drop i = l[i] :: l.drop (i + 1) := List.drop_eq_getElem_cons hlt
    have hcd := cellsI_drop l i
    rw [hdr] at hcd
    have hx : idxI p (l.drop i) i = bif p l[i] then (i : Int) else idxI p (l.drop (i + 1)) (i + 1) := by rw [hdr]; rfl
    refine ARun.skip (ARun.seq (ARun.block (ARun.seq (ARun.region ?_))))
    refine y_op rfl (q_move rfl) ?_
    refine y_op rfl (Zaa rfl) ?_
    refine AOps.nil (ARun.seq (ARun.region ?_))
    refine y_op rfl (q_move rfl) ?_
    refine y_op rfl (q_move rfl) ?_
    refine y_op rfl (q_move rfl) ?_
    refine y_op rfl (Zan rfl rfl rfl rfl (by omega) (by omega) (fun e => by have := cellsI_len l; rw [e] at this; simp at this; omega) hcd) ?_
    refine y_op rfl (Zae (ds := [.bool l[i].1, sln .u32 l[i].2]) rfl rfl rfl rfl rfl) ?_
    refine y_op rfl (q_call rfl rfl (hf l[i] (List.getElem_mem hlt))) ?_
    refine AOps.nil ?_
    refine ARun.cond rfl (fun hp => ?_) (fun hp => ?_)
    · skip
      refine ARun.seq (ARun.region ?_)
      refine y_op rfl (q_move rfl) ?_
      refine y_op rfl (Zaa rfl) ?_
      refine AOps.nil ?_
      refine ARun.ret ?_
      refine ⟨_, _, _, .tmp rfl .nil, .cons (.same _) .nil, rfl, ?_⟩
      rw [← he, hx, hp]
      rfl
    · skip
      refine ARun.skip (ARun.inBlock (ARun.region ?_))
      refine y_op rfl (q_add rfl rfl (nadd1_i64 (by omega))) ?_
      refine y_op rfl (q_move rfl) ?_
      refine AOps.nil ?_
      refine ARun.again (ih ((i + 1)) ?_ ?_) ?_ ?_
      · exact ⟨by omega, by rw [← he, hx, hp]; rfl⟩
      · omega
      · (repeat' first | exact envLe_nil | apply envLe_any | apply envLe_same)
      · rfl
  · skip
    refine ARun.exit rfl ?_
    refine ARun.seq (ARun.region ?_)
    refine y_op rfl (Zaa rfl) ?_
    refine AOps.nil ?_
    refine ARun.ret ?_
    refine ⟨_, _, _, .tmp rfl .nil, .cons (.same _) .nil, rfl, ?_⟩
    rw [← he, List.drop_of_length_le (by omega)]
    rfl
theorem Zlf (l : List (Bool × List Nat)) (n : Nat) (hn : l.length = n) (f : FuncId) (p : Bool × List Nat → Bool) (hf : ∀ d ∈ l, PC C f [intA d.1 d.2] (fun o => o = .ret (.bool (p d)))) : PC C ZaV [.sl n (cellsI l), .clos f []] (fun o => o = .ret (.bool (l.any p))) := by
  refine PC.run Zat ZaN rfl ZaO rfl (rs := [.tmp 4]) (by rw [ZaP]) (by simp only [List.length_cons, List.length_nil, Nat.reduceAdd, Nat.reduceSub, List.replicate_succ, List.replicate_zero, List.cons_append, List.nil_append]; exact rfl) ?_
  refine ARun.seq (ARun.region ?_)
  refine y_op rfl (Zaa rfl) ?_
  refine AOps.nil (ARun.seq (ARun.region ?_))
  refine y_op rfl (q_move rfl) ?_
  refine y_op rfl (q_move rfl) ?_
  refine y_op rfl (q_call rfl rfl (Zoc l n hn f p hf)) ?_
  refine y_op rfl (q_int rfl rfl rfl) ?_
  refine y_op rfl (Zaa rfl) ?_
  refine AOps.nil ?_
  refine ARun.ret ?_
  refine ⟨_, _, _, .tmp rfl .nil, .cons (.same _) .nil, rfl, ?_⟩
  rw [idxI_any]; rfl
def okI (d : Bool × List Nat) : Bool := okB d.2 && (!d.1 || decide (0 < d.2.length))
theorem ZiR (d : Bool × List Nat) : PC C ZiZ [intA d.1 d.2] (fun o => o = .ret (.bool (okI d))) := by
  obtain ⟨b, xs⟩ := d
  refine PC.run Zdt ZhN rfl ZhO rfl (rs := [.tmp 2]) (by rw [ZhP]) (by simp only [List.length_cons, List.length_nil, Nat.reduceAdd, Nat.reduceSub, List.replicate_succ, List.replicate_zero, List.cons_append, List.nil_append]; exact rfl) ?_
  refine ARun.seq (ARun.region ?_)
  refine y_op rfl (q_boxF rfl rfl rfl rfl) ?_
  refine y_op rfl (Zaa rfl) ?_
  refine AOps.nil (ARun.seq (ARun.region ?_))
  refine y_op rfl (q_fldS rfl rfl rfl (by decide)) ?_
  refine y_op rfl (q_load rfl rfl rfl rfl) ?_
  refine y_op rfl (q_call rfl rfl (Zdk xs (okNatDec xs))) ?_
  refine y_op rfl (q_move rfl) ?_
  refine AOps.bool 6 rfl (fun h1 => ?_) (fun h1 => ?_)
  · skip
    have h1 : okB xs = true := h1
    refine y_op rfl (q_fldS rfl rfl rfl (by decide)) ?_
    refine y_op rfl (q_load rfl rfl rfl rfl) ?_
    refine y_op rfl (q_not rfl) ?_
    refine y_op rfl (q_move rfl) ?_
    refine AOps.bool 10 rfl (fun h2 => ?_) (fun h2 => ?_)
    · skip
      have h2 : b = false := by simpa using h2
      refine y_skip rfl ?_
      refine y_skip rfl ?_
      refine y_skip rfl ?_
      refine y_skip rfl ?_
      refine y_op rfl (q_pick rfl rfl rfl rfl) ?_
      refine y_op rfl (q_pick rfl rfl rfl rfl) ?_
      refine y_op rfl (Zaa rfl) ?_
      refine AOps.nil ?_
      refine ARun.ret ?_
      refine ⟨_, _, _, .tmp rfl .nil, .cons (.same _) .nil, rfl, ?_⟩
      unfold okI; rw [h1, h2]; rfl
    · skip
      have h2 : b = true := by simpa using h2
      refine y_op rfl (q_fldS rfl rfl rfl (by decide)) ?_
      refine y_op rfl (q_load rfl rfl rfl rfl) ?_
      refine y_op rfl (Zad rfl rfl) ?_
      refine y_op rfl (q_int rfl rfl rfl) ?_
      refine y_op rfl (q_pick rfl rfl rfl rfl) ?_
      refine y_op rfl (q_pick rfl rfl rfl rfl) ?_
      refine y_op rfl (Zaa rfl) ?_
      refine AOps.nil ?_
      refine ARun.ret ?_
      refine ⟨_, _, _, .tmp rfl .nil, .cons (.same _) .nil, rfl, ?_⟩
      unfold okI; rw [h1, h2]
      have : decide ((xs.length : Int) > 0) = decide (0 < xs.length) := decide_eq_decide.2 (by omega)
      simp only [this, Bool.not_true, Bool.false_or, Bool.true_and, cond_true, cond_false]
      rfl
  · skip
    have h1 : okB xs = false := h1
    refine y_skip rfl ?_
    refine y_skip rfl ?_
    refine y_skip rfl ?_
    refine y_skip rfl ?_
    refine y_skip rfl ?_
    refine y_skip rfl ?_
    refine y_skip rfl ?_
    refine y_skip rfl ?_
    refine y_skip rfl ?_
    refine y_op rfl (q_pick rfl rfl rfl rfl) ?_
    refine y_op rfl (Zaa rfl) ?_
    refine AOps.nil ?_
    refine ARun.ret ?_
    refine ⟨_, _, _, .tmp rfl .nil, .cons (.same _) .nil, rfl, ?_⟩
    unfold okI; rw [h1]; rfl
theorem Zl8 (d : Bool × List Nat) : PC C ZdF [intA d.1 d.2] (fun o => o = .ret (.bool (!okI d))) := by
  refine PC.run Zc8 Zha rfl Zhb rfl (rs := [.tmp 2]) (by rw [Zhc]) (by simp only [List.length_cons, List.length_nil, Nat.reduceAdd, Nat.reduceSub, List.replicate_succ, List.replicate_zero, List.cons_append, List.nil_append]; exact rfl) ?_
  refine ARun.seq (ARun.region ?_)
  refine y_op rfl (q_boxF rfl rfl rfl rfl) ?_
  refine y_op rfl (Zaa rfl) ?_
  refine AOps.nil (ARun.seq (ARun.region ?_))
  refine y_op rfl (Zae rfl rfl rfl rfl rfl) ?_
  refine y_op rfl (q_call rfl rfl (ZiR d)) ?_
  refine y_op rfl (q_not rfl) ?_
  refine y_op rfl (Zaa rfl) ?_
  refine AOps.nil ?_
  refine ARun.ret ?_
  refine ⟨_, _, _, .tmp rfl .nil, .cons (.same _) .nil, rfl, ?_⟩
  rfl
theorem ZhF (l : List (Bool × List Nat)) (n : Nat) (hn : l.length = n) : PC C Zj7 [.sl n (cellsI l)] (fun o => (l.all okI = true ∧ o = .ret (.tup [])) ∨ (l.all okI = false ∧ o = .pan (failW 1))) := by
  have he : l.any (fun d => !okI d) = !l.all okI := by
    clear hn
    induction l with
    | nil => rfl
    | cons x l ih => simp only [List.any_cons, List.all_cons, ih, Bool.not_and]
  refine PC.run Zd4 Zjb rfl Zjc rfl (rs := []) (by rw [Zjd]) (by simp only [List.length_cons, List.length_nil, Nat.reduceAdd, Nat.reduceSub, List.replicate_succ, List.replicate_zero, List.cons_append, List.nil_append]; exact rfl) ?_
  refine ARun.region ?_
  refine y_op rfl (q_move rfl) ?_
  refine y_op rfl (q_call rfl rfl (Zlf l n hn ZdF (fun d => !okI d) (fun d _ => Zl8 d))) ?_
  refine y_op rfl (q_not rfl) ?_
  refine y_gop rfl (g_call rfl rfl (PC.gp (ZaH _ 1))) (fun hg => ?_) (fun q hq => by obtain ⟨hq, rfl⟩ := hq; exact ⟨_, _, .same _, rfl, .inr ⟨by rw [he, Bool.not_not] at hq; exact hq, rfl⟩⟩)
  refine AOps.nil ?_
  refine ARun.nil ?_
  refine ⟨_, _, _, .nil, .nil, rfl, ?_⟩
  exact .inl ⟨by rw [he, Bool.not_not] at hg; exact hg, rfl⟩
end Go.V
set_option synthInstance.maxSize 100000
set_option synthInstance.maxHeartbeats 2000000
namespace Go.V
open Go.RowKit Go.Proofs
abbrev failO (e : Int) : Option AObj := some ⟨[.int .i64 e], ZcT, 1, true, none⟩
abbrev errO (e : Int) : Option AObj := some ⟨[.int .i64 e], Zar, 1, true, none⟩
theorem dcw_ret (H : Heap) (i : Nat) : DC C Za0 H [.ptr i 0] .returning (fun m' H' => m' = .returning ∧ H' = H) := by
  refine DC.of_run1 ZbN ZcU rfl ZcV (by rw [ZcW]) (fun _ h => by cases h) (by simp only [List.length_cons, List.length_nil, Nat.reduceAdd, Nat.reduceSub, List.replicate_succ, List.replicate_zero, List.cons_append, List.nil_append, recD, envPut, List.set_cons_succ, List.set_cons_zero]; exact rfl) ?_
  refine ARun.block (ARun.seq (ARun.region ?_))
  refine y_op rfl (Zn9 (by kernel_rfl) rfl) ?_
  refine AOps.nil ?_
  refine ARun.condT rfl ?_
  refine ARun.region ?_
  refine y_op rfl (Zaa rfl) ?_
  refine AOps.nil (ARun.inBlock ?_)
  refine ARun.nil ?_
  exact ⟨rfl, rfl, rfl⟩
theorem dcw_pan (H : Heap) (i : Nat) (e0 e : Int) (h : H[i]? = some (errO e0)) : DC C Za0 H [.ptr i 0] (.panicking (failW e)) (fun m' H' => m' = .recovered (failW e) ∧ H' = ((H ++ [failO e]).set i (errO e) : Heap)) := by
  have hi : i < H.length := (List.getElem?_eq_some_iff.1 h).1
  have hl : (H ++ [failO e])[i]? = some (errO e0) := by rw [List.getElem?_append_left hi]; exact h
  have hn : ∀ o : AObj, (H ++ [some o])[H.length]? = some (some o) := fun o => by simp
  have hs : ∀ o o' : AObj, (H ++ [some o]).set H.length (some o') = H ++ [some o'] := fun o o' => by
    rw [List.set_append_right _ _ (Nat.le_refl _), Nat.sub_self]; rfl
  refine DC.of_run1 ZbN ZcU rfl ZcV (by rw [ZcW]) (fun _ h => by cases h) (by simp only [List.length_cons, List.length_nil, Nat.reduceAdd, Nat.reduceSub, List.replicate_succ, List.replicate_zero, List.cons_append, List.nil_append, recD, envPut, List.set_cons_succ, List.set_cons_zero]; exact rfl) ?_
  refine ARun.block (ARun.seq (ARun.region ?_))
  refine y_op rfl (q_ifEq (by kernel_rfl) rfl) ?_
  refine AOps.nil ?_
  refine ARun.condF rfl ?_
  refine ARun.seq (ARun.region ?_)
  refine y_op rfl (Ze2 rfl rfl rfl) ?_
  refine y_op rfl (Zab rfl rfl) ?_
  refine y_op rfl (Zab rfl rfl) ?_
  refine AOps.nil ?_
  refine ARun.condT rfl ?_
  refine ARun.seq (ARun.region ?_)
  refine y_new rfl (Zag rfl rfl rfl rfl) ?_
  refine y_new rfl (Zac rfl rfl rfl rfl rfl rfl (hn _) rfl (Nat.le_of_ble_eq_true rfl) rfl) (AOps.hp (hs _ _) ?_)
  refine AOps.nil (ARun.region ?_)
  refine y_op rfl (q_move rfl) ?_
  refine y_op rfl (q_fldP rfl rfl rfl (by decide)) ?_
  refine y_op rfl (Zak rfl rfl rfl (hn _) rfl) ?_
  refine y_op rfl (q_nil rfl rfl) ?_
  refine y_new rfl (Zai rfl rfl rfl rfl hl rfl (Nat.le_of_ble_eq_true rfl) rfl) ?_
  refine AOps.nil (ARun.inBlock ?_)
  refine ARun.nil ?_
  exact ⟨rfl, rfl, rfl⟩
end Go.V
set_option synthInstance.maxSize 100000
set_option synthInstance.maxHeartbeats 2000000
namespace Go.V
open Go.RowKit Go.Proofs
def outZ : Int ⊕ Int → Out
  | .inl z => .ret (intD z)
  | .inr e => .pan (failW e)
def resZ (ok : Bool) (v : Int ⊕ Int) : Int × Int :=
  bif ok then (match v with
    | .inl z => (z, 0)
    | .inr e => (0, e)) else (0, 1)
theorem intD_zero : intD 0 = .agg [.bool false, .sl 0 []] := by
  have : numD 0 = .sl 0 [] := by rw [numD, lim_zero]; rfl
  show D.agg [.bool (decide ((0 : Int) < 0)), numD 0] = _
  rw [this]; rfl
theorem fz_int0 {H : Heap} : Fz H (.agg [.bool false, .nilsl]) (intD 0) [] := by
  rw [intD_zero]; exact .agg (.cons (.same _) (.cons .nil .nil))
theorem Zb7 (l : List (Bool × List Nat)) (n : Nat) (hn : l.length = n) (f : FuncId) (caps : List D) (hc : D.pure.pures caps = true) (v : Int ⊕ Int) (hf : l.all okI = true → PC C f caps (fun o => o = outZ v)) :
    PC C ZgM [.clos f caps, .sl n (cellsI l)] (fun o => o = .ret (.tup [intD (resZ (l.all okI) v).1, .int .i64 (resZ (l.all okI) v).2])) := by
  have pan : ∀ (e : Int) (env : List D), env[4]? = some (.ptr 0 0) → env[5]? = some (.ptr 1 0) → resZ (l.all okI) v = (0, e) → (QFin C [.cell 4 25, .cell 5 28] fun o x => o.pure = true ∧ o = .ret (.tup [intD (resZ (l.all okI) v).1, .int .i64 (resZ (l.all okI) v).2])) (.pan (failW e)) env [some ⟨[.bool false, .nilsl], ZcS, 1, true, none⟩, errO 0] [.fn Za0 [.ptr 1 0]] := by
    intro e env h4 h5 hr
    refine DC.mono (dcw_pan _ 1 0 e rfl) ?_
    rintro _ _ ⟨rfl, rfl⟩
    exact ⟨_, _, _, ResR.cellA h4 rfl rfl rfl rfl rfl (ResR.cell1 h5 rfl rfl rfl rfl .nil), .cons fz_int0 (.cons (.same _) .nil), rfl, by rw [hr]; rfl⟩
  refine PC.run Zcq ZfE rfl ZfF (by simp only [D.pure.pures, D.pure, hc, Bool.true_and]) (rs := [.cell 4 25, .cell 5 28]) (by rw [ZfG]) (by simp only [List.length_cons, List.length_nil, Nat.reduceAdd, Nat.reduceSub, List.replicate_succ, List.replicate_zero, List.cons_append, List.nil_append]; exact rfl) ?_
  refine ARun.seq (ARun.region ?_)
  refine y_new rfl (Zag rfl rfl rfl rfl) ?_
  refine y_new rfl (Zag rfl rfl rfl rfl) ?_
  refine AOps.nil (ARun.seq (ARun.region ?_))
  refine Zdl rfl rfl rfl ?_
  refine AOps.nil (ARun.seq (ARun.region ?_))
  refine y_op rfl (q_move rfl) ?_
  refine y_gop rfl (g_call rfl rfl (PC.gp (ZhF l n hn))) (fun hg => ?_) (fun q hq => by obtain ⟨hq, rfl⟩ := hq; exact pan 1 _ rfl rfl (by rw [hq]; rfl))
  have hfa := hf hg
  cases v with
  | inr e =>
    refine AOps.nil (ARun.seq (ARun.region ?_))
    refine y_op rfl (q_move rfl) ?_
    refine y_gop rfl (g_call (d := .any) (g := False) (KP := fun q => q = failW e) (args := []) rfl rfl (hfa.mono fun o ho => .inr ⟨failW e, rfl, ho⟩)) (fun hg => hg.elim) (fun q hq => by subst hq; exact pan e _ rfl rfl (by rw [hg]; rfl))
  | inl z =>
    refine AOps.nil (ARun.seq (ARun.region ?_))
    refine y_op rfl (q_move rfl) ?_
    refine y_op rfl (q_call (args := []) rfl rfl hfa) ?_
    refine y_new rfl (Zac rfl rfl rfl rfl rfl rfl rfl rfl (Nat.le_of_ble_eq_true rfl) rfl) ?_
    refine y_new rfl (Zai rfl rfl rfl rfl rfl rfl (Nat.le_of_ble_eq_true rfl) rfl) ?_
    refine AOps.nil ?_
    refine ARun.ret ?_
    refine DC.mono (dcw_ret _ 1) ?_
    rintro _ _ ⟨rfl, rfl⟩
    exact ⟨_, _, _, ResR.cellA rfl rfl rfl rfl rfl rfl (ResR.cell1 rfl rfl rfl rfl rfl .nil), .cons (.same _) (.cons (.same _) .nil), rfl, by rw [hg]; rfl⟩
end Go.V
set_option synthInstance.maxSize 100000
set_option synthInstance.maxHeartbeats 2000000
namespace Go.V
open Go.RowKit Go.Proofs
def valI (d : Bool × List Nat) : Int := sgnd d.1 (val d.2)
theorem okI_int {d : Bool × List Nat} (hu : U32 d.2) (h : okI d = true) : ∃ z, d = (decide (z < 0), lim z.natAbs) ∧ fitZ z := by
  obtain ⟨b, xs⟩ := d
  simp only [okI, Bool.and_eq_true, Bool.or_eq_true, Bool.not_eq_true'] at h
  obtain ⟨a, ha, hl⟩ := okNat_lim hu h.1
  simp only at ha
  subst ha
  refine ⟨sgnd b a, ?_, ?_⟩
  · rw [sgnd_abs, sgnd_neg]
    congr 1
    rcases h.2 with h | h
    · rw [h]; rfl
    · have : 0 < a := Nat.pos_of_ne_zero (ln_pos.1 (of_decide_eq_true h))
      rw [decide_eq_true this, Bool.and_true]
  · rw [fitZ, sgnd_abs]; exact hl
theorem valI_int (z : Int) : valI (decide (z < 0), lim z.natAbs) = z := by
  unfold valI
  simp only [val_lim]
  by_cases h : z < 0
  · simp only [sgnd, decide_eq_true h, cond_true]; omega
  · simp only [sgnd, decide_eq_false h, cond_false]; omega
abbrev capZ (z : Int) : D := .sptr [.bool (decide (z < 0)), numD z.natAbs]
noncomputable def fitO (z : Int) : Int ⊕ Int := if fitZ z then .inl z else .inr 2
theorem fitO_t {z : Int} (h : fitZ z) : fitO z = .inl z := by unfold fitO; rw [if_pos h]
theorem fitO_f {z : Int} (h : ¬ fitZ z) : fitO z = .inr 2 := by unfold fitO; rw [if_neg h]
theorem fitZ_neg {z : Int} (h : fitZ z) : fitZ (-z) := by unfold fitZ at *; rw [Int.natAbs_neg]; exact h
theorem okI2 {d1 d2 : Bool × List Nat} (h1 : U32 d1.2) (h2 : U32 d2.2) (h : [d1, d2].all okI = true) : ∃ x y, d1 = (decide (x < 0), lim x.natAbs) ∧ fitZ x ∧ d2 = (decide (y < 0), lim y.natAbs) ∧ fitZ y := by
  simp only [List.all_cons, List.all_nil, Bool.and_true, Bool.and_eq_true] at h
  obtain ⟨x, e1, f1⟩ := okI_int h1 h.1
  obtain ⟨y, e2, f2⟩ := okI_int h2 h.2
  exact ⟨x, y, e1, f1, e2, f2⟩
end Go.V
set_option synthInstance.maxSize 100000
set_option synthInstance.maxHeartbeats 2000000
namespace Go.V
open Go.RowKit Go.Proofs
abbrev kkeys : List D := [.int .i64 1, .int .i64 2, .int .i64 3, .int .i64 4]
abbrev kvals : List D := [.agg [.clos ZbQ []], .agg [.clos ZbR []], .agg [.clos ZaL []], .agg [.clos ZbS []]]
theorem ZiS : PC C Zje [] (fun o => o = .ret (.mapv kkeys kvals)) := by
  refine PC.run Zdw ZhW rfl ZhX rfl (rs := [.tmp 0]) (by rw [ZhY]) (by simp only [List.length_cons, List.length_nil, Nat.reduceAdd, Nat.reduceSub, List.replicate_succ, List.replicate_zero, List.cons_append, List.nil_append]; exact rfl) ?_
  refine ARun.seq (ARun.region ?_)
  refine y_op rfl (Zl7) ?_
  refine AOps.nil (ARun.seq (ARun.region ?_))
  refine y_new rfl (ZhD (kt := 3) (et := 105) (by kernel_rfl) (.inl rfl)) ?_
  refine y_op rfl (Zap rfl rfl rfl rfl rfl) ?_
  refine y_new rfl (ZaC (kt := 3) (et := 105) (.inl rfl) (by kernel_rfl) (by kernel_rfl) rfl rfl rfl rfl rfl) ?_
  refine y_op rfl (Zap rfl rfl rfl rfl rfl) ?_
  refine y_new rfl (ZaC (kt := 3) (et := 105) (.inl rfl) (by kernel_rfl) (by kernel_rfl) rfl rfl rfl rfl rfl) ?_
  refine y_op rfl (Zap rfl rfl rfl rfl rfl) ?_
  refine y_new rfl (ZaC (kt := 3) (et := 105) (.inl rfl) (by kernel_rfl) (by kernel_rfl) rfl rfl rfl rfl rfl) ?_
  refine y_op rfl (Zap rfl rfl rfl rfl rfl) ?_
  refine y_new rfl (ZaC (kt := 3) (et := 105) (.inl rfl) (by kernel_rfl) (by kernel_rfl) rfl rfl rfl rfl rfl) ?_
  refine y_op rfl (q_move rfl) ?_
  refine y_op rfl (Zaa rfl) ?_
  refine AOps.nil ?_
  have hz : Fz [mapO (kkeys.zip kvals)] (.mapp 0) (.mapv kkeys kvals) [0] := Fz.map (es := kkeys.zip kvals) rfl rfl rfl rfl
  refine ARun.ret ?_
  refine ⟨_, _, _, .tmp rfl .nil, .cons hz .nil, rfl, ?_⟩
  rfl
def kindF (how : Int) : Option FuncId :=
  if how = 1 then some ZbQ else if how = 2 then some ZbR else if how = 3 then some ZaL else if how = 4 then some ZbS else none
theorem find_kind (how : Int) : findI .i64 how (kkeys.zip kvals) = some ((kindF how).map fun f => .agg [.clos f []]) := by
  unfold kindF
  by_cases h1 : how = 1
  · subst h1; rfl
  · by_cases h2 : how = 2
    · subst h2; rfl
    · by_cases h3 : how = 3
      · subst h3; rfl
      · by_cases h4 : how = 4
        · subst h4; rfl
        · have e : ∀ k : Int, how ≠ k → (how == k) = false := fun k h => beq_eq_false_iff_ne.2 h
          simp only [kkeys, kvals, List.zip_cons_cons, List.zip_nil_right, findI, e 1 h1, e 2 h2, e 3 h3, e 4 h4, decide_true, cond_true, cond_false, if_neg h1, if_neg h2, if_neg h3, if_neg h4, Option.map_none]
def awayZ (how : Int) (q r a b : Int) : Bool :=
  if how = 2 then !(decide (a < 0) == decide (b < 0)) else if how = 3 then decide (a < 0) else if how = 4 then decide (b.natAbs < 2 * r.natAbs) || (decide (2 * r.natAbs = b.natAbs) && decide (q.natAbs % 2 = 1)) else false
theorem Zpa (q r a b : Int) : PC C ZbQ [intD q, intD r, intD a, intD b] (fun o => o = .ret (.bool (awayZ 1 q r a b))) := by
  refine PC.run Zcu ZfR rfl ZfS rfl (rs := [.tmp 8]) (by rw [ZfT]) (by simp only [List.length_cons, List.length_nil, Nat.reduceAdd, Nat.reduceSub, List.replicate_succ, List.replicate_zero, List.cons_append, List.nil_append]; exact rfl) ?_
  refine ARun.seq (ARun.region ?_)
  refine y_op rfl (q_boxF rfl rfl rfl rfl) ?_
  refine y_op rfl (q_boxF rfl rfl rfl rfl) ?_
  refine y_op rfl (q_boxF rfl rfl rfl rfl) ?_
  refine y_op rfl (q_boxF rfl rfl rfl rfl) ?_
  refine y_op rfl (Zaa rfl) ?_
  refine AOps.nil (ARun.seq (ARun.region ?_))
  refine y_op rfl (Zaa rfl) ?_
  refine AOps.nil ?_
  refine ARun.ret ?_
  refine ⟨_, _, _, .tmp rfl .nil, .cons (.same _) .nil, rfl, ?_⟩
  rfl
theorem Zpb (q r a b : Int) : PC C ZbR [intD q, intD r, intD a, intD b] (fun o => o = .ret (.bool (awayZ 2 q r a b))) := by
  refine PC.run Zcv ZfU rfl ZfV rfl (rs := [.tmp 8]) (by rw [ZfW]) (by simp only [List.length_cons, List.length_nil, Nat.reduceAdd, Nat.reduceSub, List.replicate_succ, List.replicate_zero, List.cons_append, List.nil_append]; exact rfl) ?_
  refine ARun.seq (ARun.region ?_)
  refine y_op rfl (q_boxF rfl rfl rfl rfl) ?_
  refine y_op rfl (q_boxF rfl rfl rfl rfl) ?_
  refine y_op rfl (q_boxF rfl rfl rfl rfl) ?_
  refine y_op rfl (q_boxF rfl rfl rfl rfl) ?_
  refine y_op rfl (Zaa rfl) ?_
  refine AOps.nil (ARun.seq (ARun.region ?_))
  refine y_op rfl (q_fldS rfl rfl rfl (by decide)) ?_
  refine y_op rfl (q_load rfl rfl rfl rfl) ?_
  refine y_op rfl (q_fldS rfl rfl rfl (by decide)) ?_
  refine y_op rfl (q_load rfl rfl rfl rfl) ?_
  refine y_op rfl (ZaT rfl rfl rfl) ?_
  refine y_op rfl (Zaa rfl) ?_
  refine AOps.nil ?_
  refine ARun.ret ?_
  refine ⟨_, _, _, .tmp rfl .nil, .cons (.same _) .nil, rfl, ?_⟩
  rfl
theorem Zod (q r a b : Int) : PC C ZaL [intD q, intD r, intD a, intD b] (fun o => o = .ret (.bool (awayZ 3 q r a b))) := by
  refine PC.run Zcw ZfX rfl ZfY rfl (rs := [.tmp 8]) (by rw [ZfZ]) (by simp only [List.length_cons, List.length_nil, Nat.reduceAdd, Nat.reduceSub, List.replicate_succ, List.replicate_zero, List.cons_append, List.nil_append]; exact rfl) ?_
  refine ARun.seq (ARun.region ?_)
  refine y_op rfl (q_boxF rfl rfl rfl rfl) ?_
  refine y_op rfl (q_boxF rfl rfl rfl rfl) ?_
  refine y_op rfl (q_boxF rfl rfl rfl rfl) ?_
  refine y_op rfl (q_boxF rfl rfl rfl rfl) ?_
  refine y_op rfl (Zaa rfl) ?_
  refine AOps.nil (ARun.seq (ARun.region ?_))
  refine y_op rfl (q_fldS rfl rfl rfl (by decide)) ?_
  refine y_op rfl (q_load rfl rfl rfl rfl) ?_
  refine y_op rfl (Zaa rfl) ?_
  refine AOps.nil ?_
  refine ARun.ret ?_
  refine ⟨_, _, _, .tmp rfl .nil, .cons (.same _) .nil, rfl, ?_⟩
  rfl
end Go.V
set_option synthInstance.maxSize 100000
set_option synthInstance.maxHeartbeats 2000000
namespace Go.V
open Go.RowKit Go.Proofs
theorem numD_one : D.sl 1 [.int .u32 1] = numD 1 := by rw [numD, lim_one]; rfl
theorem parity (n : Nat) (h : 0 < (lim n).length) : dig n 0 % 2 = n % 2 := by
  rw [dig, Nat.pow_zero, Nat.div_one]
  exact Nat.mod_mod_of_dvd n ⟨2147483648, rfl⟩
theorem Zpc (q r a b : Int) (hr : fitZ r) (hb : fitZ b) (hrb : r.natAbs < b.natAbs) : PC C ZbS [intD q, intD r, intD a, intD b] (fun o => o = .ret (.bool (awayZ 4 q r a b))) := by
  have fin : ∀ c : Bool, c = (decide (b.natAbs < 2 * r.natAbs) || (decide (2 * r.natAbs = b.natAbs) && decide (q.natAbs % 2 = 1))) → c = awayZ 4 q r a b := fun c h => h
  have h1 : ∀ k : Int, k = cmpI r.natAbs (b.natAbs - r.natAbs) → (decide (k > 0) = decide (b.natAbs < 2 * r.natAbs)) ∧ (decide (k = 0) = decide (2 * r.natAbs = b.natAbs)) := by
    intro k hk
    subst hk
    unfold cmpI
    constructor <;> apply decide_eq_decide.2 <;> repeat' split
    all_goals omega
  refine PC.run Zcx Zf0 rfl Zf1 rfl (rs := [.tmp 8]) (by rw [Zf2]) (by simp only [List.length_cons, List.length_nil, Nat.reduceAdd, Nat.reduceSub, List.replicate_succ, List.replicate_zero, List.cons_append, List.nil_append]; exact rfl) ?_
  refine ARun.seq (ARun.region ?_)
  refine y_op rfl (q_boxF rfl rfl rfl rfl) ?_
  refine y_op rfl (q_boxF rfl rfl rfl rfl) ?_
  refine y_op rfl (q_boxF rfl rfl rfl rfl) ?_
  refine y_op rfl (q_boxF rfl rfl rfl rfl) ?_
  refine y_op rfl (Zaa rfl) ?_
  refine AOps.nil (ARun.seq ?_)
  refine ARun.drawnP 11 (fun _ => False) mixC rfl rfl (by kernel_rfl) (fun _ _ h => h.elim) ?_
  refine .op rfl (q_fldS rfl rfl rfl (by decide)) ?_
  refine .op rfl (q_load rfl rfl rfl rfl) ?_
  refine .op rfl (q_fldS rfl rfl rfl (by decide)) ?_
  refine .op rfl (q_load rfl rfl rfl rfl) ?_
  refine .op rfl (q_fldS rfl rfl rfl (by decide)) ?_
  refine .op rfl (q_load rfl rfl rfl rfl) ?_
  refine .op rfl (q_call rfl rfl (Zdq (lim b.natAbs) (lim r.natAbs) (U32_lim _) (U32_lim _))) ?_
  refine .op rfl (Zab rfl rfl) ?_
  refine .op rfl (Zab rfl rfl) ?_
  refine .op rfl (q_call rfl rfl (must_sub hb hr (Nat.le_of_lt hrb))) ?_
  refine .op rfl (q_call rfl rfl (Zck r.natAbs (b.natAbs - r.natAbs) hr (Nat.le_trans (ln_mono (Nat.sub_le _ _)) hb))) ?_
  refine .nil (fun hG => ?_)
  refine y_op rfl (Zaa rfl) ?_
  refine AOps.nil (ARun.seq (ARun.region ?_))
  refine y_op rfl (q_move rfl) ?_
  refine y_op rfl (q_int rfl rfl rfl) ?_
  refine y_op rfl (q_move rfl) ?_
  obtain ⟨e1, e2⟩ := h1 _ rfl
  refine AOps.bool 23 rfl (fun g1 => ?_) (fun g1 => ?_)
  · skip
    refine y_skip rfl ?_
    refine y_skip rfl ?_
    refine y_skip rfl ?_
    refine y_skip rfl ?_
    refine y_skip rfl ?_
    refine y_skip rfl ?_
    refine y_skip rfl ?_
    refine y_skip rfl ?_
    refine y_skip rfl ?_
    refine y_skip rfl ?_
    refine y_skip rfl ?_
    refine y_skip rfl ?_
    refine y_skip rfl ?_
    refine y_skip rfl ?_
    refine y_skip rfl ?_
    refine y_skip rfl ?_
    refine y_op rfl (q_pick rfl rfl rfl rfl) ?_
    refine y_op rfl (Zaa rfl) ?_
    refine AOps.nil ?_
    refine ARun.ret ?_
    refine ⟨_, _, _, .tmp rfl .nil, .cons (.same _) .nil, rfl, ?_⟩
    rw [← fin true (by rw [← e1, g1]; rfl)]
    rfl
  · skip
    refine y_op rfl (q_move rfl) ?_
    refine y_op rfl (q_int rfl rfl rfl) ?_
    refine y_op rfl (q_move rfl) ?_
    refine AOps.bool 26 rfl (fun g2 => ?_) (fun g2 => ?_)
    · skip
      have g2' : cmpI r.natAbs (b.natAbs - r.natAbs) = 0 := by simpa using g2
      refine y_op rfl (q_fldS rfl rfl rfl (by decide)) ?_
      refine y_op rfl (q_load rfl rfl rfl rfl) ?_
      refine y_op rfl (Zad rfl rfl) ?_
      refine y_op rfl (q_int rfl rfl rfl) ?_
      refine y_op rfl (q_pick rfl rfl rfl rfl) ?_
      refine y_op rfl (q_move rfl) ?_
      refine AOps.bool 32 rfl (fun g3 => ?_) (fun g3 => ?_)
      · skip
        have g3' : 0 < (lim q.natAbs).length := by have := of_decide_eq_true g3; omega
        refine y_op rfl (q_fldS rfl rfl rfl (by decide)) ?_
        refine y_op rfl (q_load rfl rfl rfl rfl) ?_
        refine y_op rfl (Zan (i := (0 : Nat)) rfl rfl rfl rfl (by decide) (by omega) (nts_ne g3') (drop_nat rfl)) ?_
        refine y_op rfl (q_load rfl rfl rfl (lim_load g3')) ?_
        refine y_op rfl (q_rem rfl rfl (by decide) rfl) ?_
        refine y_op rfl (q_int rfl rfl rfl) ?_
        refine y_op rfl (q_pick rfl rfl rfl rfl) ?_
        refine y_op rfl (q_pick rfl rfl rfl rfl) ?_
        refine y_op rfl (Zaa rfl) ?_
        refine AOps.nil ?_
        refine ARun.ret ?_
        refine ⟨_, _, _, .tmp rfl .nil, .cons (.same _) .nil, rfl, ?_⟩
        rw [← fin (decide (q.natAbs % 2 = 1)) (by rw [← e1, ← e2, g1, decide_eq_true g2']; rfl)]
        have : (((dig q.natAbs 0 : Nat) : Int).tmod 2 == 1) = decide (q.natAbs % 2 = 1) := by
          rw [← parity _ g3', show ((dig q.natAbs 0 : Nat) : Int).tmod 2 = ((dig q.natAbs 0 % 2 : Nat) : Int) from rfl]
          by_cases h : dig q.natAbs 0 % 2 = 1
          · rw [h]; rfl
          · rw [decide_eq_false h]; exact beq_eq_false_iff_ne.2 (by omega)
        simp only [this, cond_true, cond_false]
        rfl
      · skip
        have g3' : q.natAbs = 0 := by
          apply Classical.byContradiction
          intro h
          have := ln_pos.2 h
          have g := of_decide_eq_false g3
          omega
        refine y_skip rfl ?_
        refine y_skip rfl ?_
        refine y_skip rfl ?_
        refine y_skip rfl ?_
        refine y_skip rfl ?_
        refine y_skip rfl ?_
        refine y_op rfl (q_pick rfl rfl rfl rfl) ?_
        refine y_op rfl (q_pick rfl rfl rfl rfl) ?_
        refine y_op rfl (Zaa rfl) ?_
        refine AOps.nil ?_
        refine ARun.ret ?_
        refine ⟨_, _, _, .tmp rfl .nil, .cons (.same _) .nil, rfl, ?_⟩
        rw [← fin false (by rw [← e1, ← e2, g1, decide_eq_true g2', g3']; rfl)]
        rfl
    · skip
      have g2' : ¬ cmpI r.natAbs (b.natAbs - r.natAbs) = 0 := by simpa using g2
      refine y_skip rfl ?_
      refine y_skip rfl ?_
      refine y_skip rfl ?_
      refine y_skip rfl ?_
      refine y_op rfl (q_pick rfl rfl rfl rfl) ?_
      refine y_op rfl (q_move rfl) ?_
      refine y_skip rfl ?_
      refine y_skip rfl ?_
      refine y_skip rfl ?_
      refine y_skip rfl ?_
      refine y_skip rfl ?_
      refine y_skip rfl ?_
      refine y_op rfl (q_pick rfl rfl rfl rfl) ?_
      refine y_op rfl (q_pick rfl rfl rfl rfl) ?_
      refine y_op rfl (Zaa rfl) ?_
      refine AOps.nil ?_
      refine ARun.ret ?_
      refine ⟨_, _, _, .tmp rfl .nil, .cons (.same _) .nil, rfl, ?_⟩
      rw [← fin false (by rw [← e1, ← e2, g1, decide_eq_false g2']; rfl)]
      rfl
end Go.V
/- STATEMENTS THAT DRAW THEIR ORDER, some of whose operations write or make memory. -/
namespace Go.V
open Go.RowKit
def upd (S : Nat → Bool) (i : Nat) : Nat → Bool := fun j => bif Nat.beq j i then true else S j
theorem upd_same (S : Nat → Bool) (i : Nat) : upd S i i = true := by unfold upd; rw [Nat.beq_refl]; rfl
theorem upd_ne (S : Nat → Bool) {i j : Nat} (h : j ≠ i) : upd S i j = S j := by
  unfold upd
  have : Nat.beq j i = false := by
    cases hb : Nat.beq j i with
    | false => rfl
    | true => exact (h (Nat.eq_of_beq_eq_true hb)).elim
  rw [this]; rfl
theorem draw_all {l : List Oper} {m : Nat} (ok : OkD l m) (hm : m ≤ l.length) (P : (Nat → Bool) → List Nat → Prop)
    (hfull : P (fun j => decide (j < m)) (List.range' m (l.length - m)))
    (hstep : ∀ (S : Nat → Bool) (i : Nat) (rest : List Nat), i < m → S i = false → (∀ j, S j = true → j < m) → (∀ j, hasE l i j = true → S j = true) → (∀ j, S j = true → ∀ i', hasE l j i' = true → S i' = true) → P (upd S i) rest → P S (i :: rest)) :
    ∀ (fuel t : Nat) (listed : Array Bool), listed.size = l.length → listed.toList.count false = fuel → (∀ j, lst listed j = true → j < m ∧ ∀ i, hasE l j i = true → lst listed i = true) →
      P (lst listed) (Region.linearise.go .any l.toArray fuel t listed []) := by
  have full : ∀ (fuel t : Nat) (listed : Array Bool), listed.size = l.length → listed.toList.count false = fuel → (∀ j, lst listed j = true → j < m ∧ ∀ i, hasE l j i = true → lst listed i = true) → (∀ j, j < m → lst listed j = true) →
      P (lst listed) (Region.linearise.go .any l.toArray fuel t listed []) := by
    intro fuel t listed hsz hcnt hin hall
    have hlst : lst listed = fun j => decide (j < m) := by
      funext j
      cases h : lst listed j with
      | true => simp [(hin j h).1]
      | false =>
        cases h2 : decide (j < m) with
        | false => rfl
        | true => rw [hall j (by simpa using h2)] at h; cases h
    have hget : ∀ j, j < l.length → listed[j]? = some (decide (j < m)) := by
      intro j hj
      have := congrFun hlst j
      simp only [lst, Array.getD_eq_getD_getElem?] at this
      have hx : listed[j]? = some (listed[j]'(by omega)) := by simp [hsz, hj]
      rw [hx] at this ⊢
      simpa using this
    have hlist : listed.toList = List.replicate m true ++ List.replicate (l.length - m) false := by
      apply List.ext_getElem?
      intro j
      rw [List.getElem?_append, List.getElem?_replicate, List.getElem?_replicate, Array.getElem?_toList]
      simp only [List.length_replicate]
      by_cases h : j < m
      · rw [hget j (by omega)]; simp [h]
      · by_cases h2 : j < l.length
        · rw [hget j h2]; simp [h]; omega
        · rw [Array.getElem?_eq_none (by omega)]; simp [h]; omega
    have hfuel : l.length - m ≤ fuel := by
      rw [hlist] at hcnt
      simp [List.count_append, List.count_replicate] at hcnt
      omega
    rw [go_suf ok fuel m t listed hsz hget (Nat.le_refl _) hfuel, hlst]
    exact hfull
  intro fuel
  induction fuel with
  | zero =>
    intro t listed hsz hcnt hin
    refine full 0 t listed hsz hcnt hin fun j hj => ?_
    have : false ∉ listed.toList := List.count_eq_zero.1 hcnt
    unfold lst
    have hx : listed[j]? = some (listed[j]'(by omega)) := by simp
    rw [Array.getD_eq_getD_getElem?, hx]
    cases hb : listed[j]'(by omega) with
    | true => rfl
    | false => exact (this (by rw [← hb]; simp)).elim
  | succ fuel ih =>
    intro t listed hsz hcnt hin
    by_cases hall : ∀ j, j < m → lst listed j = true
    · exact full (fuel + 1) t listed hsz hcnt hin hall
    · obtain ⟨p, hp1, hp2, hp3⟩ : ∃ j, j < m ∧ lst listed j = false ∧ ∀ i, i < j → lst listed i = true := by
        apply least
        apply Classical.byContradiction
        intro hn
        apply hall
        intro j hj
        cases h : lst listed j with
        | true => rfl
        | false => exact (hn ⟨j, hj, h⟩).elim
      have getOf : ∀ (d : Bool) (j : Nat), j < l.length → listed.getD j d = lst listed j := by
        intro d j hj
        have hx : listed[j]? = some (listed[j]'(by omega)) := by simp [hsz, hj]
        simp [lst, Array.getD_eq_getD_getElem?, hx]
      let rs := (List.range l.toArray.size).filter fun i => !listed.getD i true && ((l.toArray[i]?).map (·.after.all fun e => !Region.binds .any e || listed.getD e.on false)).getD false
      have hpr : p ∈ rs := by
        obtain ⟨o, ho⟩ : ∃ o, l[p]? = some o := ⟨l[p]'(by omega), by simp⟩
        have ho' : l.toArray[p]? = some o := by simpa using ho
        refine List.mem_filter.2 ⟨by simp; omega, ?_⟩
        simp only [getOf true p (by omega), hp2, Bool.not_false, Bool.true_and, ho', Option.map_some, Option.getD_some]
        apply Array.all_eq_true'.2
        intro e' he'
        cases hb : Region.binds .any e' with
        | false => rfl
        | true => simpa [lst] using hp3 e'.on (ok.back p o ho e' he' hb)
      have hlt : t % rs.length < rs.length := Nat.mod_lt _ (List.length_pos_of_mem hpr)
      have hgo : Region.linearise.go .any l.toArray (fuel + 1) t listed [] = rs[t % rs.length] :: Region.linearise.go .any l.toArray fuel (t / rs.length) (listed.setIfInBounds rs[t % rs.length] true) [] := by
        simp only [Region.linearise.go]
        have hx : rs[t % rs.length]? = some rs[t % rs.length] := by simp [hlt]
        change (match rs[t % rs.length]? with
          | some i => Region.linearise.go .any l.toArray fuel (t / rs.length) (listed.setIfInBounds i true) [i]
          | none => [].reverse) = _
        rw [hx]
        simp only
        rw [linearise_go_acc, List.reverse_singleton, List.singleton_append]
      rw [hgo]
      generalize hi : rs[t % rs.length] = i
      have himem : i ∈ rs := by rw [← hi]; exact List.getElem_mem hlt
      obtain ⟨hir, hready⟩ := List.mem_filter.1 himem
      have hin' : i < l.length := by simpa using hir
      obtain ⟨o, ho⟩ : ∃ o, l[i]? = some o := ⟨l[i], by simp [hin']⟩
      have ho' : l.toArray[i]? = some o := by simpa using ho
      simp only [getOf true i hin', ho', Option.map_some, Option.getD_some, Bool.and_eq_true, Bool.not_eq_true'] at hready
      obtain ⟨hnl, hdep⟩ := hready
      have him : i < m := by
        rcases Nat.lt_or_ge i m with h | h
        · exact h
        · exfalso
          have := reach_listed (fun k hk j hj => (hin k hk).2 j hj) ho 5 (ok.suf i h hin' p (by omega)) hdep
          rw [hp2] at this
          cases this
      have hnew : lst (listed.setIfInBounds i true) = upd (lst listed) i := by
        funext j
        by_cases e : j = i
        · subst e
          rw [upd_same]
          unfold lst
          rw [Array.getD_eq_getD_getElem?, Array.getElem?_setIfInBounds]
          simp [hsz, hin']
        · rw [upd_ne _ e]
          unfold lst
          rw [Array.getD_eq_getD_getElem?, Array.getD_eq_getD_getElem?, Array.getElem?_setIfInBounds]
          have : ¬ i = j := fun h => e h.symm
          simp [this]
      have hcnt' : (listed.setIfInBounds i true).toList.count false = fuel := by
        have hx : listed.toList[i]? = some false := by
          have := getOf true i hin'
          rw [hnl, Array.getD_eq_getD_getElem?] at this
          have hy : listed[i]? = some (listed[i]'(by omega)) := by simp
          rw [hy] at this
          simp only [Option.getD_some] at this
          rw [Array.getElem?_toList, hy, this]
        rw [Array.toList_setIfInBounds, List.count_set (by simp; omega)]
        have : listed.toList[i]'(by simp; omega) = false := (List.getElem?_eq_some_iff.1 hx).2
        rw [this]
        simp [hcnt]
      refine hstep (lst listed) i _ him hnl (fun j hj => (hin j hj).1) (fun j hj => hasE_listed ho hj hdep) (fun j hj => (hin j hj).2) ?_
      rw [← hnew]
      refine ih _ _ (by simp [hsz]) hcnt' fun j hj => ?_
      rw [hnew] at hj
      by_cases e : j = i
      · subst e
        refine ⟨him, fun i' hi' => ?_⟩
        rw [hnew]
        by_cases e2 : i' = j
        · rw [e2]; exact upd_same _ _
        · rw [upd_ne _ e2]; exact hasE_listed ho hi' hdep
      · rw [upd_ne _ e] at hj
        obtain ⟨a1, a2⟩ := hin j hj
        refine ⟨a1, fun i' hi' => ?_⟩
        rw [hnew]
        by_cases e2 : i' = i
        · rw [e2]; exact upd_same _ _
        · rw [upd_ne _ e2]; exact a2 i' hi'
/-! ### Blocks that are made, but are not yet objects of the abstract heap -/
def LP (L0 : Nat → Prop) (β : Nat → Nat) (pe : Nat → Bool) : Nat → Prop := fun b => L0 b ∨ ∃ j, pe j = true ∧ β j = b
abbrev Alc := Tmp × TypeId × List D
structure AS (C : Ctx) (Q : Post) (ops : Array Oper) (k : List Item) (env : List D) (H : Heap) (df : List ADef) (al : Nat → Option Alc) (pe : Nat → Bool) (order : List Nat) : Prop where
  mk :: (out : ∀ (L0 : Nat → Prop) (w0 : World) (μ0 : List Nat) (H0 : Heap) (w : World) (μ : List Nat) (a : Act) (β : Nat → Nat),
    (∀ i j, pe i = true → pe j = true → β i = β j → i = j) →
    (∀ j, pe j = true → ¬ L0 (β j) ∧ w0.heap.size ≤ β j ∧ ∀ (i : Nat) (o : AObj), H[i]? = some (some o) → μ[i]? ≠ some (β j)) →
    (∀ j t T cs, pe j = true → al j = some (t, T, cs) → a.tmps.toList[t]? = some (.pointer (some ⟨β j, 0, none⟩)) ∧ ∃ cur : Array Value, w.heap[β j]? = some (.cells cur T (0, 0)) ∧ cs.length ≤ cur.size ∧
      ∀ (i : Nat) (d : D), cs[i]? = some d → ∃ v : Value, cur[i]? = some v ∧ v.oneCell' = true ∧ VR w (forb (LP L0 β pe) μ H) μ H d v) →
    SR C (LP L0 β pe) w μ H → VRs w (forb (LP L0 β pe) μ H) μ H env a.tmps.toList → DfR w (forb (LP L0 β pe) μ H) μ H df a.defers → Evo w0 w μ0 μ H0 H → ∀ (b : Frame) (cs : List Frame), RdOk μ b Q.rd →
    ∃ e a' w', QRel C L0 w0 μ0 H0 Q e a' w' ∧ ArrR C.P (lone (b.atR a (.inRegion ops order :: k)) cs w) b cs e a' w')
theorem Step.sub {w : World} {L L' : Nat → Prop} {μ : List Nat} {H : Heap} (h : ∀ b, L' b → L b) : Step w w L L' μ μ H H :=
  ⟨Nat.le_refl _, fun _ _ _ => rfl, fun b _ hb hb' => hb (h b hb'), fun _ _ h => h, HStep.refl _ _ _⟩
theorem forb_sub {L L' : Nat → Prop} {μ : List Nat} {H : Heap} (h : ∀ b, L' b → L b) : ∀ b, forb L' μ H b → forb L μ H b := fun b hb => hb.imp (h b) id
theorem SR.shrink {C : Ctx} {L L' : Nat → Prop} {w : World} {μ : List Nat} {H : Heap} (hs : SR C L w μ H) (h : ∀ b, L' b → L b) : SR C L' w μ H := by
  have st : Step w w (forb L μ H) (forb L' μ H) μ μ H H := Step.sub (forb_sub h)
  refine ⟨hs.len, fun i o b h1 h2 => ((hs.obj i o b h1 h2)).step st, hs.inj, fun i o b h1 h2 hL => hs.own i o b h1 h2 (h b hL), fun b hb => hs.lim b (h b hb), fun g cs hg => ?_⟩
  obtain ⟨h1, h2, h3⟩ := hs.glob g cs hg
  exact ⟨h1, fun hf => h2 (forb_sub h _ hf), VRL.step st.pure h1 h2 h3⟩
section
variable {C : Ctx} {Q : Post} {ops : Array Oper} {k : List Item} {env : List D} {H : Heap} {df : List ADef} {al : Nat → Option Alc} {pe : Nat → Bool} {i : Nat} {rest : List Nat} {o : Oper}
theorem put_other {a : Act} {dst : Option Tmp} {v u : Value} {t : Tmp} (h : dst ≠ some t) (hu : a.tmps.toList[t]? = some u) : (a.put dst v).tmps.toList[t]? = some u := by
  cases dst with
  | none => exact hu
  | some t' =>
    have hne : t' ≠ t := fun e => h (by rw [e])
    simp only [Act.put, Array.toList_setIfInBounds]
    rw [List.getElem?_set_ne hne]; exact hu
theorem AS.op {K KP : D → Heap → Prop} (ho : ops[i]? = some o) (hg : gOk ops.toList env o.guard = some true) (h : OpH C o env H K KP) (hdst : ∀ j t T cs, pe j = true → al j = some (t, T, cs) → o.dst ≠ some t)
    (hk : ∀ d H', K d H' → AS C Q ops k (envPut env o.dst d) H' df al pe rest) (hp : ∀ d H', KP d H' → Q (.pan d) env H' df) : AS C Q ops k env H df al pe (i :: rest) := by
  refine ⟨fun L0 w0 μ0 H0 w μ a β hβ hf hpd hs hv hd he b cs hrd => ?_⟩
  have hw := gOk_ok (C := C) hv hg
  have h1 := h.out (LP L0 β pe) w μ a hs hv
  rcases op_step (rest := rest) ho hw h1 (by rintro ⟨a0, w1, v, d, H', μ', h2, _⟩; cases h2) b (.inr fun dd w' ⟨v, d, H', μ', _, h2, _⟩ => no_defer h2) k cs with
    ⟨a', w', ⟨v, d, H', μ', hK, rfl, hs', hd', he'⟩, hst⟩ | ⟨chain, w', todo, ⟨v, d, H', μ', hch, _, hK, hs', hd', he'⟩, hst⟩
  · have hst' := he'.step (LP L0 β pe)
    have hbk : ∀ j, pe j = true → w'.heap[β j]? = w.heap[β j]? := fun j hj => he'.chg _ (hs.lim _ (.inr ⟨j, hj, rfl⟩)) (fun ⟨i', o', q1, _, q3⟩ => (hf j hj).2.2 i' o' q1 q3)
    obtain ⟨e, a', w'', h3, h4⟩ := (hk d H' hK).out L0 w0 μ0 H0 w' μ' (a.put o.dst v) β hβ (fun j hj => ⟨(hf j hj).1, (hf j hj).2.1, fun i' o' q1 q3 => hs'.own i' o' _ q1 q3 (.inr ⟨j, hj, rfl⟩)⟩)
      (fun j t T cs2 hj hal => by
        obtain ⟨p1, cur, p2, p3, p4⟩ := hpd j t T cs2 hj hal
        exact ⟨put_other (hdst j t T cs2 hj hal) p1, cur, by rw [hbk j hj]; exact p2, p3, fun i2 d2 hd2 => by
          obtain ⟨v2, m1, m2, m3⟩ := p4 i2 d2 hd2
          exact ⟨v2, m1, m2, VR.step hst' m3⟩⟩)
      hs' (VRs_put (VRs.step hst' hv) hd') (by rw [put_defers]; exact DfR.step hst' hd) (he.trans he') b cs (hrd.step he'.map)
    exact ⟨e, a', w'', h3, .of_steps hst h4⟩
  · have hst' := he'.step (LP L0 β pe)
    injection hch with hch
    subst hch
    have hsub : ∀ b, L0 b → LP L0 β pe b := fun b hb => .inl hb
    have sst : Step w' w' (forb (LP L0 β pe) μ' H') (forb L0 μ' H') μ' μ' H' H' := Step.sub (forb_sub hsub)
    exact ⟨.panic (pan1 v), a, w', ⟨.pan d, env, H', μ', df, hp d H' hK, hs'.shrink hsub, VRs.step sst (VRs.step hst' hv), DfR.step sst (DfR.step hst' hd), ⟨v, rfl, VR.step sst hd'⟩, he.trans he'⟩, todo, hst⟩
theorem AS.skip (ho : ops[i]? = some o) (hg : gOk ops.toList env o.guard = some false) (hdst : ∀ j t T cs, pe j = true → al j = some (t, T, cs) → o.dst ≠ some t)
    (hk : AS C Q ops k (envPut env o.dst (.tup [])) H df al pe rest) : AS C Q ops k env H df al pe (i :: rest) := by
  refine ⟨fun L0 w0 μ0 H0 w μ a β hβ hf hpd hs hv hd he b cs hrd => ?_⟩
  have hw := gOk_ok (C := C) hv hg
  have hst := stepR_op_skip (P := C.P) (b := b) (a := a) (k := k) (cs := cs) (w := w) (ops := ops) (i := i) (rest := rest) (by simp [ho, hw])
  simp only [ho, Option.bind_some] at hst
  obtain ⟨e, a', w'', h3, h4⟩ := hk.out L0 w0 μ0 H0 w μ (a.put o.dst undef) β hβ hf (fun j t T cs2 hj hal => by
      obtain ⟨p1, p2⟩ := hpd j t T cs2 hj hal
      exact ⟨put_other (hdst j t T cs2 hj hal) p1, p2⟩) hs (VRs_put hv (by simp only [VR]; exact ⟨[], rfl, by simp [VRs]⟩)) (by rw [put_defers]; exact hd) he b cs hrd
  exact ⟨e, a', w'', h3, .of_steps (.one hst) h4⟩
theorem AS.alloc {t : Tmp} {T : TypeId} {te : TE} {dz : D} {ds : List D} {ty : TypeId} {pos : String} {aft : Array Edge} (ho : ops[i]? = some ⟨some t, .alloc T, ty, pos, aft, none⟩) (ht : C.ty T = some te) (hz : constD te.zero = some dz) (hd : cellsD dz = some ds) (hok : ds.all (okCell []) = true)
    (hpe : pe i = false) (hali : al i = some (t, T, ds)) (hdst : ∀ j t' T cs, pe j = true → al j = some (t', T, cs) → t ≠ t') (htl : t < env.length)
    (hk : AS C Q ops k (envPut env (some t) .any) H df al (upd pe i) rest) : AS C Q ops k env H df al pe (i :: rest) := by
  refine ⟨fun L0 w0 μ0 H0 w μ a β hβ hf hpd hs hv hdf he b cs hrd => ?_⟩
  have ti := (ty_tic ht).1
  have hrun : (execOp a.eval ⟨some t, .alloc T, ty, pos, aft, none⟩).run C.P w = .ok (.value (.pointer (some ⟨w.heap.size, 0, none⟩))) (w.alloc (.cells te.zero.cells T)) := by
    simp [execOp, Instr.alloc, ti.run_zero, newVar, newRow]
  let w' := w.alloc (.cells te.zero.cells T)
  let β' : Nat → Nat := fun j => if j = i then w.heap.size else β j
  have hwp : Oper.wp C.P ⟨some t, .alloc T, ty, pos, aft, none⟩ a w (fun a' w1 => a' = a.put (some t) (.pointer (some ⟨w.heap.size, 0, none⟩)) ∧ w1 = w') (fun _ _ _ => False) := by
    unfold Oper.wp
    rw [hrun]
    exact ⟨rfl, rfl⟩
  have hw : Region.wanted ⟨some t, .alloc T, ty, pos, aft, none⟩ (yielded ops a.tmps) = true := by simp [Region.wanted]
  rcases op_step (rest := rest) ho hw hwp (by rintro ⟨_, _, h⟩; exact h) b (.inr fun dd w1 ⟨h1, _⟩ => no_defer h1) k cs with ⟨a', w1, ⟨h1, h2⟩, hst⟩ | ⟨_, _, _, h, _⟩
  · subst h2
    subst h1
    obtain ⟨sK, eK⟩ := hs.allocK (.cells te.zero.cells T)
    have hpi : ∀ j, upd pe i j = true → j = i ∨ (j ≠ i ∧ pe j = true) := fun j hj => by
      by_cases e : j = i
      · exact .inl e
      · rw [upd_ne _ e] at hj; exact .inr ⟨e, hj⟩
    have hβi : β' i = w.heap.size := by simp [β']
    have hβn : ∀ j, j ≠ i → β' j = β j := fun j h => by simp [β', h]
    have hlt : ∀ j, pe j = true → β j < w.heap.size := fun j hj => hs.lim _ (.inr ⟨j, hj, rfl⟩)
    have hLP : ∀ b', LP L0 β' (upd pe i) b' → LP L0 β pe b' ∨ b' = w.heap.size := by
      rintro b' (h | ⟨j, hj, rfl⟩)
      · exact .inl (.inl h)
      · rcases hpi j hj with rfl | ⟨hne, hj'⟩
        · right; exact hβi
        · left; rw [hβn j hne]; exact .inr ⟨j, hj', rfl⟩
    have hforb : ∀ b', b' < w.heap.size → ¬ forb (LP L0 β pe) μ H b' → ¬ forb (LP L0 β' (upd pe i)) μ H b' := by
      rintro b' hb' hn (h | h)
      · rcases hLP b' h with h | h
        · exact hn (.inl h)
        · omega
      · exact hn (.inr h)
    have st : Step w w' (forb (LP L0 β pe) μ H) (forb (LP L0 β' (upd pe i)) μ H) μ μ H H :=
      ⟨eK.size, fun b' hb' hn => eK.chg b' hb' (fun hl => hn (.inr hl)), hforb, fun _ _ h => h, eK.heap⟩
    have hs2 : SR C (LP L0 β' (upd pe i)) w' μ H := by
      refine ⟨hs.len, fun i' o' b' q1 q2 => ?_, hs.inj, fun i' o' b' q1 q2 hL => ?_, fun b' hb' => ?_, fun g cs2 hg => ?_⟩
      · exact ((hs.obj i' o' b' q1 q2).same (Below.heap_alloc w _ b' (hs.block_lt q1 q2))).step st
      · rcases hLP b' hL with h | h
        · exact hs.own i' o' b' q1 q2 h
        · have := hs.block_lt q1 q2; omega
      · have hsz : w'.heap.size = w.heap.size + 1 := by simp [w']
        rcases hLP b' hb' with h | h
        · have := hs.lim b' h; omega
        · omega
      · obtain ⟨g1, g2, g3⟩ := hs.glob g cs2 hg
        exact ⟨Nat.lt_of_lt_of_le g1 eK.size, hforb g g1 g2, VRL.step st.pure g1 g2 g3⟩
    have hnew : w'.heap[w.heap.size]? = some (.cells te.zero.cells T (0, 0)) := heap_alloc_new w _
    obtain ⟨c1, c2⟩ := cellsD_ok (w := w) (L := fun _ => True) (μ := []) (H := []) hd hok (constD_ok hz)
    obtain ⟨e, a', w'', h3, h4⟩ := hk.out L0 w0 μ0 H0 w' μ (a.put (some t) (.pointer (some ⟨w.heap.size, 0, none⟩))) β' (fun i1 j1 q1 q2 q3 => by
        rcases hpi i1 q1 with rfl | ⟨n1, p1⟩ <;> rcases hpi j1 q2 with rfl | ⟨n2, p2⟩
        · rfl
        · rw [hβi, hβn j1 n2] at q3; have := hlt j1 p2; omega
        · rw [hβi, hβn i1 n1] at q3; have := hlt i1 p1; omega
        · rw [hβn i1 n1, hβn j1 n2] at q3; exact hβ i1 j1 p1 p2 q3)
      (fun j hj => by
        rcases hpi j hj with rfl | ⟨n1, p1⟩
        · rw [hβi]
          refine ⟨fun hL => ?_, he.size, fun i' o' q1 q2 => ?_⟩
          · have := hs.lim _ (.inl hL : LP L0 β pe _); omega
          · have := hs.block_lt q1 q2; omega
        · rw [hβn j n1]; exact hf j p1)
      (fun j t2 T2 cs2 hj hal => by
        rcases hpi j hj with rfl | ⟨n1, p1⟩
        · rw [hali] at hal
          injection hal with hal
          injection hal with e1 e2
          injection e2 with e2 e3
          subst e1; subst e2; subst e3
          rw [hβi]
          refine ⟨?_, te.zero.cells, hnew, ?_, fun i2 d2 hd2 => ?_⟩
          · have hl : t < a.tmps.toList.length := by rw [VRs_length hv]; exact htl
            simp only [Act.put, Array.toList_setIfInBounds]
            rw [List.getElem?_set]
            simp at hl
            simp [hl]
          · have := VRs_length c1; simp at this; omega
          · obtain ⟨v, m1, m2⟩ := VRs_get c1 hd2
            obtain ⟨c3, _⟩ := cellsD_ok (w := w') (L := forb (LP L0 β' (upd pe j)) μ H) (μ := []) (H := []) hd hok (constD_ok hz)
            obtain ⟨v2, n1, n2⟩ := VRs_get c3 hd2
            rw [m1] at n1
            injection n1 with n1
            subst n1
            exact ⟨v, by simpa using m1, c2 v (List.mem_of_getElem? m1), VR.lift n2⟩
        · obtain ⟨p2, cur, p3, p4, p5⟩ := hpd j t2 T2 cs2 p1 hal
          rw [hβn j n1]
          refine ⟨put_other (fun h => hdst j t2 T2 cs2 p1 hal (by injection h)) p2, cur, ?_, p4, fun i2 d2 hd2 => by
            obtain ⟨v2, m1, m2, m3⟩ := p5 i2 d2 hd2
            exact ⟨v2, m1, m2, VR.step st m3⟩⟩
          rw [show w'.heap[β j]? = w.heap[β j]? from Below.heap_alloc w _ _ (hlt j p1)]; exact p3)
      hs2 (VRs_put (VRs.step st hv) (by simp only [VR])) (by rw [put_defers]; exact DfR.step st hdf) (he.trans eK) b cs hrd
    exact ⟨e, a', w'', h3, .of_steps hst h4⟩
  · exact h.elim
theorem AS.stp {j : Nat} {t : Tmp} {T : TypeId} {te : TE} {ds ds' : List D} {d : D} {y : Operand} {ty : TypeId} {pos : String} {aft : Array Edge} (ho : ops[i]? = some ⟨none, .store T (.tmp t) y, ty, pos, aft, none⟩) (ht : C.ty T = some te) (hpe : pe j = true) (hal : al j = some (t, T, ds)) (hy : evO C env y = some d) (hc : cellsD d = some ds') (hn : ds'.length = te.size) (hle : te.size ≤ ds.length) (hok : ds'.all (okCell []) = true) (hpu : D.pure.pures ds' = true)
    (hk : AS C Q ops k env H df (fun i => bif Nat.beq i j then some (t, T, ds') else al i) pe rest) : AS C Q ops k env H df al pe (i :: rest) := by
  refine ⟨fun L0 w0 μ0 H0 w μ a β hβ hf hpd hs hv hdf he b cs hrd => ?_⟩
  obtain ⟨p1, cur, p2, p3, p4⟩ := hpd j t T ds hpe hal
  have ti := (ty_tic ht).1
  have ey := evO_ok hs hv hy
  have okH : ∀ d' ∈ ds', okCell H d' = true := fun d' hd' => by
    have h1 := List.all_eq_true.1 hok d' hd'
    unfold okCell at h1 ⊢
    cases d' <;> first | exact h1 | (simp at h1)
  obtain ⟨v1, v2⟩ := cellsD_ok hc (List.all_eq_true.2 okH) ey
  have vl := VRs_length v1
  have hst := run_storeCells_at C.P (β j) 0 T (a.eval y).cells.toList 0 cur w p2 (by rw [vl]; omega) v2
  let cur' : Array Value := (cur.toList.take 0 ++ (a.eval y).cells.toList ++ cur.toList.drop (0 + (a.eval y).cells.toList.length)).toArray
  let w2 := w.setRow (β j) cur'
  have hpt : a.eval (.tmp t) = .pointer (some ⟨β j, 0, none⟩) := by
    simp only [Act.eval]
    exact getD_of_list p1
  have hrun : (execOp a.eval ⟨none, .store T (.tmp t) y, ty, pos, aft, none⟩).run C.P w = .ok .skip w2 := by
    simp only [execOp, hpt, Sem.run_bind, Instr.storeAt, storeVar, Instr.sureAddr, Sem.run_pure, Result.andThen_ok, ti.run_size]
    have : ¬ (a.eval y).cells.size ≠ te.size := by
      rw [Array.length_toList] at vl
      omega
    simp only [this, if_false, Sem.run_bind, Sem.run_pure, Result.andThen_ok]
    simp only [Nat.add_zero] at hst
    rw [hst]
    simp [w2, cur']
  have hwp : Oper.wp C.P ⟨none, .store T (.tmp t) y, ty, pos, aft, none⟩ a w (fun a' w1 => a' = a ∧ w1 = w2) (fun _ _ _ => False) := by
    unfold Oper.wp; rw [hrun]; exact ⟨rfl, rfl⟩
  rcases op_step (rest := rest) ho (by simp [Region.wanted]) hwp (by rintro ⟨_, _, h⟩; exact h) b (.inr fun d' w' ⟨h, _⟩ => no_defer (dst := none) (v := undef) h) k cs with ⟨a', w', ⟨e1, e2⟩, hst1⟩ | ⟨_, _, _, h, _⟩
  · subst e1; subst e2
    have hoth : ∀ b', b' ≠ β j → w2.heap[b']? = w.heap[b']? := fun b' hb' => setRow_other w (β j) b' cur' hb'
    have hsz : w2.heap.size = w.heap.size := by simp [w2]
    have hLj : LP L0 β pe (β j) := .inr ⟨j, hpe, rfl⟩
    have hHS : HStep w w2 μ H H := fun i x hx => ⟨x, hx, fun o' e => ⟨o', e, rfl, rfl, rfl, fun b' cur2 hb2 hw => ⟨cur2, by
      subst e
      rw [hoth b' (fun e => (hf j hpe).2.2 i o' hx (by rw [hb2, e]))]; exact hw, rfl⟩⟩⟩
    have st : Step w w2 (forb (LP L0 β pe) μ H) (forb (LP L0 β pe) μ H) μ μ H H :=
      ⟨by omega, fun b' _ hn => hoth b' (fun e => hn (.inl (e ▸ hLj))), fun _ _ h => h, fun _ _ h => h, hHS⟩
    have hs2 : SR C (LP L0 β pe) w2 μ H := by
      refine ⟨hs.len, fun i' o' b' q1 q2 => ((hs.obj i' o' b' q1 q2).same (hoth b' (fun e => (hf j hpe).2.2 i' o' q1 (by rw [q2, e])))).step st, hs.inj, hs.own, fun b' hb' => by rw [hsz]; exact hs.lim b' hb', fun g cs2 hg => ?_⟩
      obtain ⟨g1, g2, g3⟩ := hs.glob g cs2 hg
      exact ⟨by rw [hsz]; exact g1, g2, VRL.step st.pure g1 g2 g3⟩
    have he2 : Evo w0 w2 μ0 μ H0 H := by
      refine ⟨he.os, he.tape, he.output, by rw [hsz]; exact he.size, fun b' hb' hl => ?_, he.live, he.map, HStep.trans he.map he.heap hHS⟩
      rw [hoth b' (fun e => by have := (hf j hpe).2.1; omega)]
      exact he.chg b' hb' hl
    have hrow : w2.heap[β j]? = some (.cells cur' T (0, 0)) := setRow_heap w (β j) cur cur' T (0, 0) p2
    obtain ⟨e, a', w', h3, h4⟩ := hk.out L0 w0 μ0 H0 w2 μ a' β hβ hf (fun j2 t2 T2 cs2 hj2 hal2 => by
        by_cases e : j2 = j
        · subst e
          simp only [Nat.beq_refl, cond_true] at hal2
          injection hal2 with hal2
          injection hal2 with e1 e2
          injection e2 with e2 e3
          subst e1; subst e2; subst e3
          refine ⟨p1, cur', hrow, ?_, fun i2 d2 hd2 => ?_⟩
          · simp only [cur', List.take_zero, List.nil_append, List.size_toArray, List.length_append, vl]; omega
          · obtain ⟨v, k1, k2⟩ := VRs_get v1 hd2
            refine ⟨v, ?_, v2 v (List.mem_of_getElem? k1), VR.step st k2⟩
            simp only [cur', List.take_zero, List.nil_append, List.getElem?_toArray]
            rw [List.getElem?_append_left (List.getElem?_eq_some_iff.1 k1).1]; exact k1
        · have hb : Nat.beq j2 j = false := by
            cases hb : Nat.beq j2 j with
            | false => rfl
            | true => exact (e (Nat.eq_of_beq_eq_true hb)).elim
          simp only [hb, cond_false] at hal2
          obtain ⟨q1, cur2, q2, q3, q4⟩ := hpd j2 t2 T2 cs2 hj2 hal2
          refine ⟨q1, cur2, ?_, q3, fun i2 d2 hd2 => ?_⟩
          · rw [hoth (β j2) (fun h => e (hβ j2 j hj2 hpe h))]; exact q2
          · obtain ⟨v, m1, m2, m3⟩ := q4 i2 d2 hd2
            exact ⟨v, m1, m2, VR.step st m3⟩) hs2 (VRs.step st hv) (DfR.step st hdf) he2 b cs hrd
    exact ⟨e, a', w', h3, .of_steps hst1 h4⟩
  · exact h.elim
theorem AS.adopt {j : Nat} {t : Tmp} {T : TypeId} {cs : List D} {order : List Nat} (hj : pe j = true) (hal : al j = some (t, T, cs)) (hk : AS C Q ops k (env.set t (.ptr H.length 0)) (H ++ [some ⟨cs, T, 1, true, none⟩]) df al (fun i => bif Nat.beq i j then false else pe i) order) :
    AS C Q ops k env H df al pe order := by
  refine ⟨fun L0 w0 μ0 H0 w μ a β hβ hf hpd hs hv hdf he b cs2 hrd => ?_⟩
  obtain ⟨p1, cur, p2, p3, p4⟩ := hpd j t T cs hj hal
  let pe' : Nat → Bool := fun i => bif Nat.beq i j then false else pe i
  have hpe : ∀ i, pe' i = true → i ≠ j ∧ pe i = true := fun i hi => by
    by_cases e : i = j
    · subst e; simp only [pe', Nat.beq_refl, cond_true] at hi; cases hi
    · have : Nat.beq i j = false := by
        cases hb : Nat.beq i j with
        | false => rfl
        | true => exact (e (Nat.eq_of_beq_eq_true hb)).elim
      simp only [pe', this, cond_false] at hi
      exact ⟨e, hi⟩
  have hpe2 : ∀ i, pe i = true → i = j ∨ pe' i = true := fun i hi => by
    by_cases e : i = j
    · exact .inl e
    · have : Nat.beq i j = false := by
        cases hb : Nat.beq i j with
        | false => rfl
        | true => exact (e (Nat.eq_of_beq_eq_true hb)).elim
      exact .inr (by simp only [pe', this, cond_false]; exact hi)
  let μ' := μ ++ [β j]
  let H' : Heap := H ++ [some ⟨cs, T, 1, true, none⟩]
  have hlen := hs.len
  have hcase : ∀ (i : Nat) (o' : AObj) (b' : Nat), H'[i]? = some (some o') → μ'[i]? = some b' → (H[i]? = some (some o') ∧ μ[i]? = some b') ∨ (i = H.length ∧ o' = ⟨cs, T, 1, true, none⟩ ∧ b' = β j) := by
    intro i o' b' h1 h2
    by_cases hi : i < H.length
    · rw [List.getElem?_append_left hi] at h1
      rw [List.getElem?_append_left (by rw [hlen]; exact hi)] at h2
      exact .inl ⟨h1, h2⟩
    · have hi' : i = H.length := by
        have := (List.getElem?_eq_some_iff.1 h1).1
        simp [H'] at this
        omega
      subst hi'
      have h2' : (μ ++ [β j])[μ.length]? = some b' := by rw [hlen]; exact h2
      simp [H'] at h1
      simp at h2'
      exact .inr ⟨rfl, h1.symm, h2'.symm⟩
  have hm : ∀ i b' : Nat, μ[i]? = some b' → μ'[i]? = some b' := fun i b' h => by
    rw [List.getElem?_append_left (List.getElem?_eq_some_iff.1 h).1]; exact h
  have hh : ∀ (i : Nat) (x : Option AObj), H[i]? = some x → H'[i]? = some x := fun i x h => by
    rw [List.getElem?_append_left (List.getElem?_eq_some_iff.1 h).1]; exact h
  have hfb : ∀ b', forb (LP L0 β pe') μ' H' b' → forb (LP L0 β pe) μ H b' := by
    rintro b' (h | ⟨i, o', q1, q2, q3⟩)
    · rcases h with h | ⟨i, hi, rfl⟩
      · exact .inl (.inl h)
      · exact .inl (.inr ⟨i, (hpe i hi).2, rfl⟩)
    · rcases hcase i o' b' q1 q3 with ⟨r1, r2⟩ | ⟨_, _, r3⟩
      · exact .inr ⟨i, o', r1, q2, r2⟩
      · rw [r3]; exact .inl (.inr ⟨j, hj, rfl⟩)
  have hHS : HStep w w μ H H' := fun i x hx => ⟨x, hh i x hx, fun o' e => ⟨o', e, rfl, rfl, rfl, fun b' cur' _ hw => ⟨cur', hw, rfl⟩⟩⟩
  have st : Step w w (forb (LP L0 β pe) μ H) (forb (LP L0 β pe') μ' H') μ μ' H H' :=
    ⟨Nat.le_refl _, fun _ _ _ => rfl, fun b' _ hn hf' => hn (hfb b' hf'), hm, hHS⟩
  have hblt : β j < w.heap.size := hs.lim _ (.inr ⟨j, hj, rfl⟩)
  have hs' : SR C (LP L0 β pe') w μ' H' := by
    refine ⟨by simp [μ', H', hlen], fun i o' b' q1 q2 => ?_, fun i1 i2 o1 o2 b' q1 q2 q3 q4 ql => ?_, fun i o' b' q1 q2 hL => ?_, fun b' hb' => ?_, fun g cs3 hg => ?_⟩
    · rcases hcase i o' b' q1 q2 with ⟨r1, r2⟩ | ⟨_, rfl, rfl⟩
      · exact (hs.obj i o' b' r1 r2).step st
      · exact .of_row rfl ⟨cur, p2, p3, fun i2 d2 hd2 => by
          obtain ⟨v, m1, m2, m3⟩ := p4 i2 d2 hd2
          exact ⟨v, m1, m2, VR.step st m3⟩⟩
    · rcases hcase i1 o1 b' q1 q3 with ⟨r1, r2⟩ | ⟨e1, _, e3⟩ <;> rcases hcase i2 o2 b' q2 q4 with ⟨s1, s2⟩ | ⟨f1, _, f3⟩
      · exact hs.inj i1 i2 o1 o2 b' r1 s1 r2 s2 ql
      · exact ((hf j hj).2.2 i1 o1 r1 (by rw [r2, f3])).elim
      · exact ((hf j hj).2.2 i2 o2 s1 (by rw [s2, e3])).elim
      · omega
    · rcases hcase i o' b' q1 q2 with ⟨r1, r2⟩ | ⟨_, _, rfl⟩
      · rcases hL with h | ⟨i3, h3, rfl⟩
        · exact hs.own i o' b' r1 r2 (.inl h)
        · exact hs.own i o' _ r1 r2 (.inr ⟨i3, (hpe i3 h3).2, rfl⟩)
      · rcases hL with h | ⟨i3, h3, h4⟩
        · exact (hf j hj).1 h
        · exact (hpe i3 h3).1 (hβ i3 j (hpe i3 h3).2 hj h4)
    · rcases hb' with h | ⟨i3, h3, rfl⟩
      · exact hs.lim b' (.inl h)
      · exact hs.lim _ (.inr ⟨i3, (hpe i3 h3).2, rfl⟩)
    · obtain ⟨g1, g2, g3⟩ := hs.glob g cs3 hg
      exact ⟨g1, fun hf' => g2 (hfb _ hf'), VRL.step st.pure g1 g2 g3⟩
  have he' : Evo w0 w μ0 μ' H0 H' := by
    refine ⟨he.os, he.tape, he.output, he.size, he.chg, fun b' hb' hl => ?_, fun id b' h => hm id b' (he.map id b' h), HStep.trans he.map he.heap hHS⟩
    obtain ⟨i, o', q1, q2, q3⟩ := hl
    rcases hcase i o' b' q1 q3 with ⟨r1, r2⟩ | ⟨_, _, r3⟩
    · exact he.live b' hb' ⟨i, o', r1, q2, r2⟩
    · have := (hf j hj).2.1; omega
  have hvt : VRs w (forb (LP L0 β pe') μ' H') μ' H' (env.set t (.ptr H.length 0)) a.tmps.toList := by
    have h1 := VRs_set (t := t) (d := .ptr H.length 0) (v := .pointer (some ⟨β j, 0, none⟩)) (by simp only [VR]; exact ⟨β j, by rw [← hlen]; simp [μ'], rfl⟩) (VRs.step st hv)
    have h2 : a.tmps.toList.set t (.pointer (some ⟨β j, 0, none⟩)) = a.tmps.toList := by
      apply List.ext_getElem?
      intro i
      rw [List.getElem?_set]
      by_cases e : t = i
      · subst e; rw [p1]; simp; exact (List.getElem?_eq_some_iff.1 p1).1
      · simp [e]
    rw [h2] at h1
    exact h1
  exact hk.out L0 w0 μ0 H0 w μ' a β (fun i1 i2 q1 q2 q3 => hβ i1 i2 (hpe i1 q1).2 (hpe i2 q2).2 q3)
    (fun i hi => ⟨(hf i (hpe i hi).2).1, (hf i (hpe i hi).2).2.1, fun i' o' q1 q2 => by
      rcases hcase i' o' _ q1 q2 with ⟨r1, r2⟩ | ⟨_, _, r3⟩
      · exact (hf i (hpe i hi).2).2.2 i' o' r1 r2
      · exact (hpe i hi).1 (hβ i j (hpe i hi).2 hj r3)⟩)
    (fun i t2 T2 cs3 hi hal2 => by
      obtain ⟨q1, cur2, q2, q3, q4⟩ := hpd i t2 T2 cs3 (hpe i hi).2 hal2
      exact ⟨q1, cur2, q2, q3, fun i2 d2 hd2 => by
        obtain ⟨v2, m1, m2, m3⟩ := q4 i2 d2 hd2
        exact ⟨v2, m1, m2, VR.step st m3⟩⟩) hs' hvt (DfR.step st hdf) he' b cs2 (hrd.step hm)
theorem AS.run {order : List Nat} (hpe : ∀ j, pe j = false) (hk : ARun C Q (.inRegion ops order :: k) env H df) : AS C Q ops k env H df al pe order := by
  refine ⟨fun L0 w0 μ0 H0 w μ a β hβ hf hpd hs hv hdf he b cs hrd => ?_⟩
  have hsub : ∀ b, L0 b → LP L0 β pe b := fun b hb => .inl hb
  have sst : Step w w (forb (LP L0 β pe) μ H) (forb L0 μ H) μ μ H H := Step.sub (forb_sub hsub)
  exact hk.out L0 w0 μ0 H0 w μ a (hs.shrink hsub) (VRs.step sst hv) (DfR.step sst hdf) he b cs hrd
theorem ARun.ofAS {order : List Nat} (hpe : ∀ j, pe j = false) (hk : AS C Q ops k env H df al pe order) : ARun C Q (.inRegion ops order :: k) env H df := by
  refine ⟨fun L0 w0 μ0 H0 w μ a hs hv hdf he b cs hrd => ?_⟩
  have hno : ∀ j, ¬ pe j = true := fun j h => by rw [hpe j] at h; cases h
  have hsub : ∀ b, LP L0 (fun _ => 0) pe b → L0 b := fun b hb => hb.elim id (fun ⟨j, h, _⟩ => (hno j h).elim)
  have sst : Step w w (forb L0 μ H) (forb (LP L0 (fun _ => 0) pe) μ H) μ μ H H := Step.sub (forb_sub hsub)
  exact hk.out L0 w0 μ0 H0 w μ a (fun _ => 0) (fun i j h => (hno i h).elim) (fun j h => (hno j h).elim) (fun j _ _ _ h => (hno j h).elim) (hs.shrink hsub) (VRs.step sst hv) (DfR.step sst hdf) he b cs hrd
end
end Go.V
