/- A part of the proof: abstract values, rules for the steps of the program's form, and contracts of its functions, each proved; no condition. -/
import Derived.Test.YtjohcjagbodicaaGreatDoorA08
import Derived.Shelf.Strings.Builder1
import Derived.Shelf.Strings.Builder2
import Derived.Lib.Case
import Derived.Lib.TrimByte
import Derived.BigCall
import Derived.BigGuard
import Derived.Test.YtjohcjagbodicaaGreatDoorProg
set_option linter.unusedVariables false
set_option linter.unusedSimpArgs false
set_option synthInstance.maxSize 100000
set_option synthInstance.maxHeartbeats 2000000
namespace Go.V
open Go.RowKit Go.Proofs
theorem okB_lim {a : Nat} (h : (lim a).length ≤ 1024) : okB (lim a) = true := okB_iff.2 ⟨h, Canon_lim a⟩
theorem resN_ok {a b : Nat} {v : Nat ⊕ Int} (ha : (lim a).length ≤ 1024) (hb : (lim b).length ≤ 1024) : resN (lim a) (lim b) v = (match v with
    | .inl n => if (lim n).length ≤ 1024 then (n, 0) else (0, 2)
    | .inr e => (0, e)) := by
  unfold resN; rw [okB_lim ha, okB_lim hb]; rfl
theorem Zdr (a b : Nat) (ha : (lim a).length ≤ 1024) (hb : (lim b).length ≤ 1024) : PC C ZiV [numD a, numD b] (fun o => o = .ret (.int .i64 (cmpI a b))) := by
  have hc : resC (lim a) (lim b) = (cmpI a b, 0) := by rw [resC, okB_lim ha, okB_lim hb, val_lim, val_lim]; rfl
  refine PC.rn ZdH ZhD ZhE (rs := [.tmp 4]) (by rw [ZhF]) ?_
  refine ARun.seq (ARun.region ?_); refine xa ?_; refine AOps.nil (ARun.seq (ARun.region ?_)); refine xm ?_; refine xm ?_
  refine xc rfl rfl (ZmG (lim a) (lim b) (U32_lim a) (U32_lim b)) ?_
  refine xm ?_; refine xe ?_; refine xe ?_; refine xa ?_; refine xa ?_; refine AOps.nil (ARun.seq (ARun.region ?_)); refine xm ?_; refine xa ?_; refine AOps.nil ?_
  refine ARun.ret ?_
  refine ⟨_, _, _, .tmp rfl .nil, .cons (.same _) .nil, rfl, ?_⟩
  rw [hc]; rfl
theorem Zdq (z : Int) : PC C Zgx [intD z] (fun o => o = .ret (intD (-z))) := by
  refine PC.rn Zcx Zfy Zfz (rs := [.cell 2 25]) (by rw [ZfA]) ?_
  refine ARun.seq (ARun.region ?_); refine xb ?_
  refine y_new rfl (Zag rfl rfl rfl rfl) ?_
  refine AOps.nil (ARun.seq (ARun.region ?_)); refine xf ?_; refine xl ?_; refine xn ?_; refine xf ?_; refine xl ?_
  refine xc rfl rfl (Zam _ z.natAbs) ?_
  refine y_new rfl (Zaa rfl rfl rfl rfl rfl rfl rfl rfl (Nat.le_of_ble_eq_true rfl) rfl) ?_
  refine AOps.nil ?_
  refine ARun.ret ?_
  refine ⟨_, _, _, ResR.cellA rfl rfl rfl rfl rfl rfl .nil, .cons (.same _) .nil, rfl, ?_⟩
  have : sgnd (!decide (z < 0)) z.natAbs = -z := by
    by_cases h : z < 0
    · simp only [sgnd, decide_eq_true h, Bool.not_true, cond_false]; omega
    simp only [sgnd, decide_eq_false h, Bool.not_false, cond_true]; omega
  rw [this]; rfl
abbrev fitZ (z : Int) : Prop := (lim z.natAbs).length ≤ 1024
theorem must_add {a b n : Nat} (ha : (lim a).length ≤ 1024) (hb : (lim b).length ≤ 1024) : PC C ZaC [numD (resN (lim a) (lim b) (.inl n)).1, .int .i64 (resN (lim a) (lim b) (.inl n)).2] (fun o => ((lim n).length ≤ 1024 ∧ o = .ret (numD n)) ∨ ∃ p, (¬ (lim n).length ≤ 1024 ∧ p = failW 2) ∧ o = .pan p) := by
  rw [resN_ok ha hb]
  by_cases h : (lim n).length ≤ 1024
  · simp only [if_pos h]
    exact (Zio n).mono fun o ho => .inl ⟨h, ho⟩
  simp only [if_neg h]
  exact (ZkO 0 2).mono fun o ho => .inr ⟨failW 2, ⟨h, rfl⟩, (ho.resolve_left (fun h => absurd h.1 (by decide))).2⟩
theorem must_addZ {x y : Int} (hx : fitZ x) (hy : fitZ y) (ha : (x + y).natAbs = x.natAbs + y.natAbs) : PC C ZaC [numD (resN (lim x.natAbs) (lim y.natAbs) (.inl (val (lim x.natAbs) + val (lim y.natAbs)))).1, .int .i64 (resN (lim x.natAbs) (lim y.natAbs) (.inl (val (lim x.natAbs) + val (lim y.natAbs)))).2] (fun o => (fitZ (x + y) ∧ o = .ret (numD (x.natAbs + y.natAbs))) ∨ ∃ p, (¬ fitZ (x + y) ∧ p = failW 2) ∧ o = .pan p) := by
  rw [val_lim, val_lim, fitZ, ha]
  exact must_add hx hy
theorem must_sub {a b : Nat} (ha : (lim a).length ≤ 1024) (hb : (lim b).length ≤ 1024) (h : b ≤ a) : PC C ZaC [numD (resN (lim a) (lim b) (if val (lim b) ≤ val (lim a) then .inl (val (lim a) - val (lim b)) else .inr 3)).1, .int .i64 (resN (lim a) (lim b) (if val (lim b) ≤ val (lim a) then .inl (val (lim a) - val (lim b)) else .inr 3)).2] (fun o => o = .ret (numD (a - b))) := by
  rw [resN_ok ha hb, val_lim, val_lim, if_pos h]
  have : (lim (a - b)).length ≤ 1024 := Nat.le_trans (ln_mono (Nat.sub_le _ _)) ha
  simp only [if_pos this]
  exact Zio _
theorem Zb4 (x y : Int) (hx : fitZ x) (hy : fitZ y) : PC C Zk8 [intD x, intD y] (fun o => (fitZ (x + y) ∧ o = .ret (intD (x + y))) ∨ (¬ fitZ (x + y) ∧ o = .pan (failW 2))) := by
  refine PC.rn Zfj ZjV ZjW (rs := [.cell 4 25]) (by rw [ZjX]) ?_
  refine ARun.seq (ARun.region ?_); refine xb ?_; refine xb ?_
  refine y_new rfl (Zag rfl rfl rfl rfl) ?_
  refine AOps.nil (ARun.seq (ARun.block (ARun.seq (ARun.region ?_)))); refine xf ?_; refine xl ?_; refine xf ?_; refine xl ?_
  refine y_op rfl (Zjp rfl rfl rfl) ?_
  refine xa ?_; refine AOps.nil ?_
  refine ARun.cond rfl (fun h => ?_) (fun h => ?_)
  · skip
    have hs : sgnd (decide (x < 0)) (x.natAbs + y.natAbs) = x + y := by
      have h' : decide (x < 0) = decide (y < 0) := by simpa using h
      by_cases h0 : x < 0
      · have : y < 0 := by rw [decide_eq_true h0] at h'; exact of_decide_eq_true h'.symm
        simp only [sgnd, decide_eq_true h0, cond_true]; omega
      have : ¬ y < 0 := by rw [decide_eq_false h0] at h'; exact of_decide_eq_false h'.symm
      simp only [sgnd, decide_eq_false h0, cond_false]; omega
    have ha : (x + y).natAbs = x.natAbs + y.natAbs := by rw [← hs, sgnd_abs]
    refine ARun.seq ?_
    refine ARun.drawnP 11 (fun q => ¬ fitZ (x + y) ∧ q = failW 2) mixC rfl rfl (by kernel_rfl) (fun _ _ h => ⟨_, _, .same _, by rw [h.2]; rfl, .inr ⟨h.1, by rw [h.2]⟩⟩) ?_
    refine .op rfl (q_fldS rfl rfl rfl (by decide)) ?_
    refine .op rfl (q_load rfl rfl rfl rfl) ?_
    refine .op rfl (q_fldS rfl rfl rfl (by decide)) ?_
    refine .op rfl (q_load rfl rfl rfl rfl) ?_
    refine .op rfl (q_fldS rfl rfl rfl (by decide)) ?_
    refine .op rfl (q_load rfl rfl rfl rfl) ?_
    refine .op rfl (q_call rfl rfl (Zim (lim x.natAbs) (lim y.natAbs) (U32_lim _) (U32_lim _))) ?_
    refine .op rfl (ZaJ rfl rfl) ?_
    refine .op rfl (ZaJ rfl rfl) ?_
    refine .opP rfl (g_call (g := fitZ (x + y)) (d := numD (x.natAbs + y.natAbs)) rfl rfl (must_addZ hx hy ha)) ?_
    refine .op rfl (q_call rfl rfl (Zam _ _)) ?_
    refine .nil (fun hG => ?_)
    refine y_new rfl (Zaa rfl rfl rfl rfl rfl rfl rfl rfl (Nat.le_of_ble_eq_true rfl) rfl) ?_
    refine AOps.nil ?_
    refine ARun.ret ?_
    refine ⟨_, _, _, ResR.cellA rfl rfl rfl rfl rfl rfl .nil, .cons (.same _) .nil, rfl, ?_⟩
    rw [hs]
    exact .inl ⟨hG.2, rfl⟩
  refine ARun.seq (ARun.region ?_); refine xf ?_; refine xl ?_; refine xf ?_; refine xl ?_
  refine xc rfl rfl (Zdr x.natAbs y.natAbs hx hy) ?_
  refine xi ?_; refine xa ?_; refine AOps.nil ?_
  refine ARun.ite rfl (fun h2 => ?_) (fun h2 => ?_)
  · skip
    have hyx : y.natAbs ≤ x.natAbs := by unfold cmpI at h2; repeat' split at h2; all_goals omega
    refine ARun.seq ?_
    refine ARun.drawnP 11 (fun _ => False) mixC rfl rfl (by kernel_rfl) (fun _ _ h => h.elim) ?_
    refine .op rfl (q_fldS rfl rfl rfl (by decide)) ?_
    refine .op rfl (q_load rfl rfl rfl rfl) ?_
    refine .op rfl (q_fldS rfl rfl rfl (by decide)) ?_
    refine .op rfl (q_load rfl rfl rfl rfl) ?_
    refine .op rfl (q_fldS rfl rfl rfl (by decide)) ?_
    refine .op rfl (q_load rfl rfl rfl rfl) ?_
    refine .op rfl (q_call rfl rfl (Ze7 (lim x.natAbs) (lim y.natAbs) (U32_lim _) (U32_lim _))) ?_
    refine .op rfl (ZaJ rfl rfl) ?_
    refine .op rfl (ZaJ rfl rfl) ?_
    refine .op rfl (q_call rfl rfl (must_sub hx hy hyx)) ?_
    refine .op rfl (q_call rfl rfl (Zam _ _)) ?_
    refine .nil (fun hG => ?_)
    refine y_new rfl (Zaa rfl rfl rfl rfl rfl rfl rfl rfl (Nat.le_of_ble_eq_true rfl) rfl) ?_
    refine AOps.nil ?_
    refine ARun.ret ?_
    refine ⟨_, _, _, ResR.cellA rfl rfl rfl rfl rfl rfl .nil, .cons (.same _) .nil, rfl, ?_⟩
    have hs : sgnd (decide (x < 0)) (x.natAbs - y.natAbs) = x + y := by
      have h' : ¬ decide (x < 0) = decide (y < 0) := by simpa using h
      by_cases h0 : x < 0
      · have : ¬ y < 0 := fun h1 => h' (by rw [decide_eq_true h0, decide_eq_true h1])
        simp only [sgnd, decide_eq_true h0, cond_true]; omega
      have : y < 0 := by apply Classical.byContradiction; intro h1; exact h' (by rw [decide_eq_false h0, decide_eq_false h1])
      simp only [sgnd, decide_eq_false h0, cond_false]; omega
    have ha : (x + y).natAbs = x.natAbs - y.natAbs := by rw [← hs, sgnd_abs]
    rw [hs]
    exact .inl ⟨by rw [fitZ, ha]; exact Nat.le_trans (ln_mono (Nat.sub_le _ _)) hx, rfl⟩
  have hxy : x.natAbs ≤ y.natAbs := by unfold cmpI at h2; repeat' split at h2; all_goals omega
  refine ARun.skip (ARun.inBlock (ARun.seq ?_))
  refine ARun.drawnP 11 (fun _ => False) mixC rfl rfl (by kernel_rfl) (fun _ _ h => h.elim) ?_
  refine .op rfl (q_fldS rfl rfl rfl (by decide)) ?_
  refine .op rfl (q_load rfl rfl rfl rfl) ?_
  refine .op rfl (q_fldS rfl rfl rfl (by decide)) ?_
  refine .op rfl (q_load rfl rfl rfl rfl) ?_
  refine .op rfl (q_fldS rfl rfl rfl (by decide)) ?_
  refine .op rfl (q_load rfl rfl rfl rfl) ?_
  refine .op rfl (q_call rfl rfl (Ze7 (lim y.natAbs) (lim x.natAbs) (U32_lim _) (U32_lim _))) ?_
  refine .op rfl (ZaJ rfl rfl) ?_
  refine .op rfl (ZaJ rfl rfl) ?_
  refine .op rfl (q_call rfl rfl (must_sub hy hx hxy)) ?_
  refine .op rfl (q_call rfl rfl (Zam _ _)) ?_
  refine .nil (fun hG => ?_)
  refine y_new rfl (Zaa rfl rfl rfl rfl rfl rfl rfl rfl (Nat.le_of_ble_eq_true rfl) rfl) ?_
  refine AOps.nil ?_
  refine ARun.ret ?_
  refine ⟨_, _, _, ResR.cellA rfl rfl rfl rfl rfl rfl .nil, .cons (.same _) .nil, rfl, ?_⟩
  have hs : sgnd (decide (y < 0)) (y.natAbs - x.natAbs) = x + y := by
    have h' : ¬ decide (x < 0) = decide (y < 0) := by simpa using h
    by_cases h0 : x < 0
    · have : ¬ y < 0 := fun h1 => h' (by rw [decide_eq_true h0, decide_eq_true h1])
      simp only [sgnd, decide_eq_false this, cond_false]; omega
    have : y < 0 := by apply Classical.byContradiction; intro h1; exact h' (by rw [decide_eq_false h0, decide_eq_false h1])
    simp only [sgnd, decide_eq_true this, cond_true]; omega
  have ha : (x + y).natAbs = y.natAbs - x.natAbs := by rw [← hs, sgnd_abs]
  rw [hs]
  exact .inl ⟨by rw [fitZ, ha]; exact Nat.le_trans (ln_mono (Nat.sub_le _ _)) hy, rfl⟩
end Go.V
set_option synthInstance.maxSize 100000
set_option synthInstance.maxHeartbeats 2000000
namespace Go.V
open Go.RowKit Go.Proofs
theorem Znn (xs : List Nat) (hx : xs.length ≤ 35184372088832) : PC C ZbA [sln .u32 xs] (fun o => o = .ret (sln .u32 xs)) := by
  refine PC.rn ZaD Zbv Zbw (rs := [.tmp 2]) (by rw [Zbx]) ?_
  refine ARun.seq (ARun.region ?_); refine xa ?_; refine AOps.nil (ARun.seq (ARun.seq (ARun.region ?_))); refine xm ?_
  refine Zng rfl rfl rfl rfl rfl (fun b hb => ?_)
  refine AOps.nil ?_
  refine ARun.cond rfl (fun h => ?_) (fun h => ?_)
  · skip
    refine ARun.seq (ARun.region ?_); refine xa ?_; refine AOps.nil ?_
    refine ARun.ret ?_
    refine ⟨_, _, _, .tmp rfl .nil, .cons .nil .nil, rfl, ?_⟩
    rw [sl_nil (hb h)]
    rfl
  refine ARun.skip (ARun.seq (ARun.region ?_))
  refine y_new rfl (Zai rfl rfl rfl rfl rfl rfl rfl rfl rfl rfl rfl (by decide) (by decide)) ?_
  refine xm ?_
  refine y_new rfl (Zb2 rfl rfl (by decide) rfl rfl rfl rfl rfl rfl rfl rfl rfl rfl (by simp) (by simp; omega) (by rw [maxLen_eq]; omega) rfl) ?_
  refine xa ?_; refine AOps.nil ?_
  refine ARun.ret ?_
  refine ⟨_, _, _, .tmp rfl .nil, .cons (.row rfl (pures_nts _)) .nil, rfl, ?_⟩
  simp [tupD]
end Go.V
set_option synthInstance.maxSize 100000
set_option synthInstance.maxHeartbeats 2000000
namespace Go.V
open Go.RowKit Go.Proofs
theorem Zno (z : Int) (hz : (lim z.natAbs).length ≤ 35184372088832) : PC C Zgv [intD z] (fun o => o = .ret (intD z)) := by
  refine PC.rn Zfg ZjL ZjM (rs := [.cell 2 25]) (by rw [ZjN]) ?_
  refine ARun.seq (ARun.region ?_); refine xb ?_
  refine y_new rfl (Zag rfl rfl rfl rfl) ?_
  refine AOps.nil (ARun.seq ?_)
  refine ARun.drawnP 6 (fun _ => False) mixC rfl rfl (by kernel_rfl) (fun _ _ h => h.elim) ?_
  refine .op rfl (q_fldS rfl rfl rfl (by decide)) ?_
  refine .op rfl (q_load rfl rfl rfl rfl) ?_
  refine .op rfl (q_fldS rfl rfl rfl (by decide)) ?_
  refine .op rfl (q_load rfl rfl rfl rfl) ?_
  refine .op rfl (q_call rfl rfl (Znn (lim z.natAbs) hz)) ?_
  refine .op rfl (Zal rfl rfl rfl rfl rfl) ?_
  refine .nil (fun hG => ?_)
  refine y_new rfl (Zaa rfl rfl rfl rfl rfl rfl rfl rfl (Nat.le_of_ble_eq_true rfl) rfl) ?_
  refine AOps.nil ?_
  refine ARun.ret ?_
  refine ⟨_, _, _, ResR.cellA rfl rfl rfl rfl rfl rfl .nil, .cons (.same _) .nil, rfl, ?_⟩
  rfl
theorem ZeC (z : Int) (hz : fitZ z) : PC C Zgv [intD z] (fun o => o = .ret (intD z)) := Zno z (by unfold fitZ at hz; omega)
theorem must_mul {x y : Int} (hx : fitZ x) (hy : fitZ y) : PC C ZaC [numD (resN (lim x.natAbs) (lim y.natAbs) (.inl (val (lim x.natAbs) * val (lim y.natAbs)))).1, .int .i64 (resN (lim x.natAbs) (lim y.natAbs) (.inl (val (lim x.natAbs) * val (lim y.natAbs)))).2] (fun o => (fitZ (x * y) ∧ o = .ret (numD (x.natAbs * y.natAbs))) ∨ ∃ p, (¬ fitZ (x * y) ∧ p = failW 2) ∧ o = .pan p) := by
  rw [val_lim, val_lim, fitZ, Int.natAbs_mul]
  exact must_add hx hy
theorem Zfu (x y : Int) (hx : fitZ x) (hy : fitZ y) : PC C Zgy [intD x, intD y] (fun o => (fitZ (x * y) ∧ o = .ret (intD (x * y))) ∨ (¬ fitZ (x * y) ∧ o = .pan (failW 2))) := by
  have hs : sgnd (!(decide (x < 0) == decide (y < 0))) (x.natAbs * y.natAbs) = x * y := by
    rw [← Int.natAbs_mul]
    by_cases h1 : x < 0 <;> by_cases h2 : y < 0
    · have := Int.mul_pos_of_neg_of_neg h1 h2
      simp only [sgnd, decide_eq_true h1, decide_eq_true h2, beq_self_eq_true, Bool.not_true, cond_false]; omega
    · have := Int.mul_nonpos_of_nonpos_of_nonneg (Int.le_of_lt h1) (Int.not_lt.1 h2)
      simp only [sgnd, decide_eq_true h1, decide_eq_false h2, show (!(true == false)) = true from rfl, cond_true]; omega
    · have := Int.mul_nonpos_of_nonneg_of_nonpos (Int.not_lt.1 h1) (Int.le_of_lt h2)
      simp only [sgnd, decide_eq_false h1, decide_eq_true h2, show (!(false == true)) = true from rfl, cond_true]; omega
    have := Int.mul_nonneg (Int.not_lt.1 h1) (Int.not_lt.1 h2)
    simp only [sgnd, decide_eq_false h1, decide_eq_false h2, beq_self_eq_true, Bool.not_true, cond_false]; omega
  refine PC.rn Zcy ZfB ZfC (rs := [.cell 4 25]) (by rw [ZfD]) ?_
  refine ARun.seq (ARun.region ?_); refine xb ?_; refine xb ?_
  refine y_new rfl (Zag rfl rfl rfl rfl) ?_
  refine AOps.nil (ARun.seq ?_)
  refine ARun.drawnP 14 (fun q => ¬ fitZ (x * y) ∧ q = failW 2) mixC rfl rfl (by kernel_rfl) (fun _ _ h => ⟨_, _, .same _, by rw [h.2]; rfl, .inr ⟨h.1, by rw [h.2]⟩⟩) ?_
  refine .op rfl (q_fldS rfl rfl rfl (by decide)) ?_
  refine .op rfl (q_load rfl rfl rfl rfl) ?_
  refine .op rfl (q_fldS rfl rfl rfl (by decide)) ?_
  refine .op rfl (q_load rfl rfl rfl rfl) ?_
  refine .op rfl (Zbt rfl rfl rfl) ?_
  refine .op rfl (q_fldS rfl rfl rfl (by decide)) ?_
  refine .op rfl (q_load rfl rfl rfl rfl) ?_
  refine .op rfl (q_fldS rfl rfl rfl (by decide)) ?_
  refine .op rfl (q_load rfl rfl rfl rfl) ?_
  refine .op rfl (q_call rfl rfl (Zin (lim x.natAbs) (lim y.natAbs) (U32_lim _) (U32_lim _))) ?_
  refine .op rfl (ZaJ rfl rfl) ?_
  refine .op rfl (ZaJ rfl rfl) ?_
  refine .opP rfl (g_call (g := fitZ (x * y)) (d := numD (x.natAbs * y.natAbs)) rfl rfl (must_mul hx hy)) ?_
  refine .op rfl (q_call rfl rfl (Zam _ _)) ?_
  refine .nil (fun hG => ?_)
  refine y_new rfl (Zaa rfl rfl rfl rfl rfl rfl rfl rfl (Nat.le_of_ble_eq_true rfl) rfl) ?_
  refine AOps.nil ?_
  refine ARun.ret ?_
  refine ⟨_, _, _, ResR.cellA rfl rfl rfl rfl rfl rfl .nil, .cons (.same _) .nil, rfl, ?_⟩
  rw [hs]
  exact .inl ⟨hG.2, rfl⟩
theorem Znp (z : Int) : PC C ZjY [intD z] (fun o => o = .ret (.int .i64 z.sign)) := by
  refine PC.rn Zee ZiP ZiQ (rs := [.tmp 2]) (by rw [ZiR]) ?_
  refine ARun.seq (ARun.region ?_); refine xb ?_; refine xa ?_; refine AOps.nil (ARun.seq (ARun.block (ARun.seq (ARun.region ?_)))); refine xf ?_; refine xl ?_; refine xa ?_; refine AOps.nil ?_
  refine ARun.ite rfl (fun h => ?_) (fun h => ?_)
  · skip
    refine ARun.seq (ARun.region ?_); refine xa ?_; refine AOps.nil ?_
    refine ARun.ret ?_
    refine ⟨_, _, _, .tmp rfl .nil, .cons (.same _) .nil, rfl, ?_⟩
    rw [Int.sign_eq_neg_one_of_neg h]; rfl
  refine ARun.seq (ARun.region ?_); refine xf ?_; refine xl ?_; refine xN ?_; refine xi ?_; refine xa ?_; refine AOps.nil ?_
  refine ARun.ite rfl (fun h2 => ?_) (fun h2 => ?_)
  · skip
    refine ARun.seq (ARun.region ?_); refine xa ?_; refine AOps.nil ?_
    refine ARun.ret ?_
    refine ⟨_, _, _, .tmp rfl .nil, .cons (.same _) .nil, rfl, ?_⟩
    have : z.natAbs ≠ 0 := ln_pos.1 (by omega)
    rw [Int.sign_eq_one_of_pos (by omega)]; rfl
  refine ARun.skip (ARun.inBlock (ARun.seq (ARun.region ?_))); refine xa ?_; refine AOps.nil ?_
  refine ARun.ret ?_
  refine ⟨_, _, _, .tmp rfl .nil, .cons (.same _) .nil, rfl, ?_⟩
  have : z.natAbs = 0 := by
    apply Classical.byContradiction
    intro hn
    have := ln_pos.2 hn
    omega
  rw [show z = 0 by omega]; rfl
def cmpZ (x y : Int) : Int := if x < y then -1 else if x = y then 0 else 1
theorem ZnV (x y : Int) (hx : fitZ x) (hy : fitZ y) : PC C Zk7 [intD x, intD y] (fun o => o = .ret (.int .i64 (cmpZ x y))) := by
  refine PC.rn Zfi ZjS ZjT (rs := [.tmp 4]) (by rw [ZjU]) ?_
  refine ARun.seq (ARun.region ?_); refine xb ?_; refine xb ?_; refine xa ?_; refine AOps.nil (ARun.seq (ARun.block (ARun.seq (ARun.region ?_)))); refine xf ?_; refine xl ?_; refine xf ?_; refine xl ?_
  refine y_op rfl (Zbt rfl rfl rfl) ?_
  refine xm ?_
  refine AOps.bool 11 rfl (fun h1 => ?_) (fun h1 => ?_)
  · skip
    have h1' : ¬ decide (x < 0) = decide (y < 0) := by simpa using h1
    refine xf ?_; refine xl ?_; refine xp ?_; refine xa ?_; refine AOps.nil ?_
    refine ARun.cond rfl (fun h2 => ?_) (fun h2 => ?_)
    · skip
      refine ARun.seq (ARun.region ?_); refine xa ?_; refine AOps.nil ?_
      refine ARun.ret ?_
      refine ⟨_, _, _, .tmp rfl .nil, .cons (.same _) .nil, rfl, ?_⟩
      have h2 : x < 0 := of_decide_eq_true h2
      have hy : ¬ y < 0 := fun h => h1' (by rw [decide_eq_true h2, decide_eq_true h])
      unfold cmpZ; rw [if_pos (by omega)]; rfl
    have h2 : ¬ x < 0 := of_decide_eq_false h2
    have hy : y < 0 := by apply Classical.byContradiction; intro h; exact h1' (by rw [decide_eq_false h2, decide_eq_false h])
    refine ARun.seq (ARun.region ?_); refine xf ?_; refine xl ?_; refine xf ?_; refine xl ?_
    refine y_op rfl (Zbt rfl rfl rfl) ?_
    refine xa ?_; refine AOps.nil ?_
    refine ARun.cond rfl (fun h3 => ?_) (fun h3 => ?_)
    · skip
      refine ARun.seq (ARun.region ?_); refine xa ?_; refine AOps.nil ?_
      refine ARun.ret ?_
      refine ⟨_, _, _, .tmp rfl .nil, .cons (.same _) .nil, rfl, ?_⟩
      unfold cmpZ; rw [if_neg (by omega), if_neg (by omega)]; rfl
    rw [h1] at h3; cases h3
  have h1' : decide (x < 0) = decide (y < 0) := by simpa using h1
  refine xk ?_; refine xk ?_; refine xp ?_; refine xa ?_; refine AOps.nil ?_
  refine ARun.condF rfl ?_
  refine ARun.seq (ARun.region ?_); refine xf ?_; refine xl ?_; refine xf ?_; refine xl ?_
  refine y_op rfl (Zbt rfl rfl rfl) ?_
  refine xa ?_; refine AOps.nil ?_
  refine ARun.cond rfl (fun h3 => ?_) (fun h3 => ?_)
  · skip
    rw [h1] at h3; cases h3
  refine ARun.seq (ARun.region ?_); refine xf ?_; refine xl ?_; refine xa ?_; refine AOps.nil ?_
  refine ARun.ite rfl (fun h4 => ?_) (fun h4 => ?_)
  · skip
    refine ARun.seq (ARun.region ?_); refine xf ?_; refine xl ?_; refine xf ?_; refine xl ?_
    refine xc rfl rfl (Zdr y.natAbs x.natAbs hy hx) ?_
    refine xa ?_; refine AOps.nil ?_
    refine ARun.ret ?_
    refine ⟨_, _, _, .tmp rfl .nil, .cons (.same _) .nil, rfl, ?_⟩
    have hy : y < 0 := by rw [decide_eq_true h4] at h1'; exact of_decide_eq_true h1'.symm
    have : cmpI y.natAbs x.natAbs = cmpZ x y := by unfold cmpI cmpZ; repeat' split; all_goals omega
    rw [this]; rfl
  refine ARun.skip (ARun.inBlock (ARun.seq (ARun.region ?_))); refine xf ?_; refine xl ?_; refine xf ?_; refine xl ?_
  refine xc rfl rfl (Zdr x.natAbs y.natAbs hx hy) ?_
  refine xa ?_; refine AOps.nil ?_
  refine ARun.ret ?_
  refine ⟨_, _, _, .tmp rfl .nil, .cons (.same _) .nil, rfl, ?_⟩
  have hy : ¬ y < 0 := by rw [decide_eq_false h4] at h1'; exact of_decide_eq_false h1'.symm
  have : cmpI x.natAbs y.natAbs = cmpZ x y := by unfold cmpI cmpZ; repeat' split; all_goals omega
  rw [this]; rfl
end Go.V
set_option synthInstance.maxSize 100000
set_option synthInstance.maxHeartbeats 2000000
namespace Go.V
open Go.RowKit Go.Proofs
def cellsI : List (Bool × List Nat) → List D
  | [] => []
  | p :: l => .bool p.1 :: sln .u32 p.2 :: cellsI l
theorem cellsI_len : ∀ l : List (Bool × List Nat), (cellsI l).length = l.length * 2
  | [] => rfl
  | p :: l => by simp only [cellsI, List.length_cons, cellsI_len l]; omega
theorem cellsI_drop : ∀ (l : List (Bool × List Nat)) (i : Nat), (cellsI l).drop (i * 2) = cellsI (l.drop i)
  | l, 0 => by simp
  | [], i + 1 => by simp [cellsI]
  | p :: l, i + 1 => by
    rw [show (i + 1) * 2 = i * 2 + 1 + 1 by omega]
    simp only [cellsI, List.drop_succ_cons]
    exact cellsI_drop l i
def idxI (p : Bool × List Nat → Bool) : List (Bool × List Nat) → Nat → Int
  | [], _ => -1
  | d :: ds, i => bif p d then (i : Int) else idxI p ds (i + 1)
theorem idxI_any (p : Bool × List Nat → Bool) : ∀ (ds : List (Bool × List Nat)) (i : Nat), decide (idxI p ds i ≥ 0) = ds.any p
  | [], _ => by simp [idxI]
  | d :: ds, i => by
    simp only [idxI, List.any_cons]
    have ih := idxI_any p ds (i + 1)
    by_cases h : p d = true
    · simp [h]
    simp only [Bool.not_eq_true] at h
    simp only [h, cond_false, Bool.false_or]
    exact ih
theorem Znq (l : List (Bool × List Nat)) (n : Nat) (hn : l.length = n) (f : FuncId) (p : Bool × List Nat → Bool) (hf : ∀ d ∈ l, PC C f [intA d.1 d.2] (fun o => o = .ret (.bool (p d)))) : PC C Za8 [.sl n (cellsI l), .clos f []] (fun o => o = .ret (.int .i64 (idxI p l 0))) := by
  refine PC.rn Zav ZaX ZaY (rs := [.tmp 4]) (by rw [ZaZ]) ?_
  refine ARun.lenle 0 rfl (fun hlen => ?_)
  rw [maxLen_eq] at hlen
  refine ARun.seq (ARun.region ?_); refine xa ?_; refine AOps.nil (ARun.seq (ARun.seq (ARun.region ?_))); refine xm ?_; refine xN ?_; refine xm ?_; refine AOps.nil (ARun.block ?_)
  refine ARun.loopI (S := Nat) (fun i : Nat => [(4, .any), (5, .any), (9, .any), (10, .any), (11, .any), (12, .any), (13, .any), (14, .any), (15, .any), (16, .any), (17, .any), (18, .any), (8, .int .i64 (i : Int))]) (fun i : Nat => []) (fun i : Nat => i ≤ n ∧ idxI p (l.drop i) i = idxI p l 0) (fun i : Nat => n - i) (0) ?_ ?_ ?_ ?_
  · exact ⟨Nat.zero_le _, rfl⟩
  · (repeat' first | exact envLe_nil | apply envLe_any | apply envLe_same)
  · rfl
  rintro i hinv ih
  obtain ⟨hi, he⟩ := hinv
  refine ARun.seq (ARun.region ?_); refine xi ?_; refine AOps.nil (ARun.seq ?_)
  refine ARun.ite rfl (fun h => ?_) (fun h => ?_)
  · skip
    have hlt : i < l.length := by omega
    have hdr : l.drop i = l[i] :: l.drop (i + 1) := List.drop_eq_getElem_cons hlt
    have hcd := cellsI_drop l i
    rw [hdr] at hcd
    have hx : idxI p (l.drop i) i = bif p l[i] then (i : Int) else idxI p (l.drop (i + 1)) (i + 1) := by rw [hdr]; rfl
    refine ARun.skip (ARun.seq (ARun.block (ARun.seq (ARun.region ?_)))); refine xm ?_; refine xa ?_; refine AOps.nil (ARun.seq (ARun.region ?_)); refine xm ?_; refine xm ?_; refine xm ?_
    refine y_op rfl (Zaj rfl rfl rfl rfl (by omega) (by omega) (fun e => by have := cellsI_len l; rw [e] at this; simp at this; omega) hcd) ?_
    refine y_op rfl (Zdn (ds := [.bool l[i].1, sln .u32 l[i].2]) rfl rfl rfl rfl rfl) ?_
    refine xc rfl rfl (hf l[i] (List.getElem_mem hlt)) ?_
    refine AOps.nil ?_
    refine ARun.cond rfl (fun hp => ?_) (fun hp => ?_)
    · skip
      refine ARun.seq (ARun.region ?_); refine xm ?_; refine xa ?_; refine AOps.nil ?_
      refine ARun.ret ?_
      refine ⟨_, _, _, .tmp rfl .nil, .cons (.same _) .nil, rfl, ?_⟩
      rw [← he, hx, hp]
      rfl
    refine ARun.skip (ARun.inBlock (ARun.region ?_))
    refine y_op rfl (q_add rfl rfl (nadd1_i64 (by omega))) ?_
    refine xm ?_; refine AOps.nil ?_
    refine ARun.again (ih ((i + 1)) ?_ ?_) ?_ ?_
    · exact ⟨by omega, by rw [← he, hx, hp]; rfl⟩
    · omega
    · (repeat' first | exact envLe_nil | apply envLe_any | apply envLe_same)
    rfl
  refine ARun.exit rfl ?_
  refine ARun.seq (ARun.region ?_); refine xa ?_; refine AOps.nil ?_
  refine ARun.ret ?_
  refine ⟨_, _, _, .tmp rfl .nil, .cons (.same _) .nil, rfl, ?_⟩
  rw [← he, List.drop_of_length_le (by omega)]
  rfl
theorem ZkP (l : List (Bool × List Nat)) (n : Nat) (hn : l.length = n) (f : FuncId) (p : Bool × List Nat → Bool) (hf : ∀ d ∈ l, PC C f [intA d.1 d.2] (fun o => o = .ret (.bool (p d)))) : PC C ZaR [.sl n (cellsI l), .clos f []] (fun o => o = .ret (.bool (l.any p))) := by
  refine PC.rn Zaq ZaK ZaL (rs := [.tmp 4]) (by rw [ZaM]) ?_
  refine ARun.seq (ARun.region ?_); refine xa ?_; refine AOps.nil (ARun.seq (ARun.region ?_)); refine xm ?_; refine xm ?_
  refine xc rfl rfl (Znq l n hn f p hf) ?_
  refine xi ?_; refine xa ?_; refine AOps.nil ?_
  refine ARun.ret ?_
  refine ⟨_, _, _, .tmp rfl .nil, .cons (.same _) .nil, rfl, ?_⟩
  rw [idxI_any]; rfl
def okI (d : Bool × List Nat) : Bool := okB d.2 && (!d.1 || decide (0 < d.2.length))
theorem Zip (d : Bool × List Nat) : PC C Ziu [intA d.1 d.2] (fun o => o = .ret (.bool (okI d))) := by
  obtain ⟨b, xs⟩ := d
  refine PC.rn ZdB Zho Zhp (rs := [.tmp 2]) (by rw [Zhq]) ?_
  refine ARun.seq (ARun.region ?_); refine xb ?_; refine xa ?_; refine AOps.nil (ARun.seq (ARun.region ?_)); refine xf ?_; refine xl ?_
  refine xc rfl rfl (Zb3 xs (okNatDec xs)) ?_
  refine xm ?_
  refine AOps.bool 6 rfl (fun h1 => ?_) (fun h1 => ?_)
  · skip
    have h1 : okB xs = true := h1
    refine xf ?_; refine xl ?_; refine xn ?_; refine xm ?_
    refine AOps.bool 10 rfl (fun h2 => ?_) (fun h2 => ?_)
    · skip
      have h2 : b = false := by simpa using h2
      refine xk ?_; refine xk ?_; refine xk ?_; refine xk ?_; refine xp ?_; refine xp ?_; refine xa ?_; refine AOps.nil ?_
      refine ARun.ret ?_
      refine ⟨_, _, _, .tmp rfl .nil, .cons (.same _) .nil, rfl, ?_⟩
      unfold okI; rw [h1, h2]; rfl
    have h2 : b = true := by simpa using h2
    refine xf ?_; refine xl ?_; refine xN ?_; refine xi ?_; refine xp ?_; refine xp ?_; refine xa ?_; refine AOps.nil ?_
    refine ARun.ret ?_
    refine ⟨_, _, _, .tmp rfl .nil, .cons (.same _) .nil, rfl, ?_⟩
    unfold okI; rw [h1, h2]
    have : decide ((xs.length : Int) > 0) = decide (0 < xs.length) := decide_eq_decide.2 (by omega)
    simp only [this, Bool.not_true, Bool.false_or, Bool.true_and, cond_true, cond_false]
    rfl
  have h1 : okB xs = false := h1
  refine xk ?_; refine xk ?_; refine xk ?_; refine xk ?_; refine xk ?_; refine xk ?_; refine xk ?_; refine xk ?_; refine xk ?_; refine xp ?_; refine xa ?_; refine AOps.nil ?_
  refine ARun.ret ?_
  refine ⟨_, _, _, .tmp rfl .nil, .cons (.same _) .nil, rfl, ?_⟩
  unfold okI; rw [h1]; rfl
theorem Zly (d : Bool × List Nat) : PC C ZdL [intA d.1 d.2] (fun o => o = .ret (.bool (!okI d))) := by
  refine PC.rn Zdc ZgQ ZgR (rs := [.tmp 2]) (by rw [ZgS]) ?_
  refine ARun.seq (ARun.region ?_); refine xb ?_; refine xa ?_; refine AOps.nil (ARun.seq (ARun.region ?_)); refine xL ?_
  refine xc rfl rfl (Zip d) ?_
  refine xn ?_; refine xa ?_; refine AOps.nil ?_
  refine ARun.ret ?_
  refine ⟨_, _, _, .tmp rfl .nil, .cons (.same _) .nil, rfl, ?_⟩
  rfl
theorem ZkQ (l : List (Bool × List Nat)) (n : Nat) (hn : l.length = n) : PC C ZjJ [.sl n (cellsI l)] (fun o => (l.all okI = true ∧ o = .ret (.tup [])) ∨ (l.all okI = false ∧ o = .pan (failW 1))) := by
  have he : l.any (fun d => !okI d) = !l.all okI := by
    clear hn
    induction l with
    | nil => rfl
    | cons x l ih => simp only [List.any_cons, List.all_cons, ih, Bool.not_and]
  refine PC.rn Zec ZiI ZiJ (rs := []) (by rw [ZiK]) ?_
  refine ARun.region ?_; refine xm ?_
  refine xc rfl rfl (ZkP l n hn ZdL (fun d => !okI d) (fun d _ => Zly d)) ?_
  refine xn ?_
  refine y_gop rfl (g_call rfl rfl (PC.gp (Zbe _ 1))) (fun hg => ?_) (fun q hq => by obtain ⟨hq, rfl⟩ := hq; exact ⟨_, _, .same _, rfl, .inr ⟨by rw [he, Bool.not_not] at hq; exact hq, rfl⟩⟩)
  refine AOps.nil ?_
  refine ARun.nil ?_
  refine ⟨_, _, _, .nil, .nil, rfl, ?_⟩
  exact .inl ⟨by rw [he, Bool.not_not] at hg; exact hg, rfl⟩
end Go.V
set_option synthInstance.maxSize 100000
set_option synthInstance.maxHeartbeats 2000000
namespace Go.V
open Go.RowKit Go.Proofs
abbrev failO (e : Int) : Option AObj := some ⟨[.int .i64 e], ZcZ, 1, true, none⟩
abbrev errO (e : Int) : Option AObj := some ⟨[.int .i64 e], Zao, 1, true, none⟩
theorem dcw_ret (H : Heap) (i : Nat) : DC C Zbr H [.ptr i 0] .returning (fun m' H' => m' = .returning ∧ H' = H) := by
  refine DC.of_run1 ZbO Zc2 rfl Zc3 (by rw [Zc4]) (fun _ h => by cases h) (by simp only [List.length_cons, List.length_nil, Nat.reduceAdd, Nat.reduceSub, List.replicate_succ, List.replicate_zero, List.cons_append, List.nil_append, recD, envPut, List.set_cons_succ, List.set_cons_zero]; exact rfl) ?_
  refine ARun.block (ARun.seq (ARun.region ?_))
  refine y_op rfl (ZkN (by kernel_rfl) rfl) ?_
  refine AOps.nil ?_
  refine ARun.condT rfl ?_
  refine ARun.region ?_; refine xa ?_; refine AOps.nil (ARun.inBlock ?_)
  refine ARun.nil ?_
  exact ⟨rfl, rfl, rfl⟩
theorem dcw_pan (H : Heap) (i : Nat) (e0 e : Int) (h : H[i]? = some (errO e0)) : DC C Zbr H [.ptr i 0] (.panicking (failW e)) (fun m' H' => m' = .recovered (failW e) ∧ H' = ((H ++ [failO e]).set i (errO e) : Heap)) := by
  have hi : i < H.length := (List.getElem?_eq_some_iff.1 h).1
  have hl : (H ++ [failO e])[i]? = some (errO e0) := by rw [List.getElem?_append_left hi]; exact h
  have hn : ∀ o : AObj, (H ++ [some o])[H.length]? = some (some o) := fun o => by simp
  have hs : ∀ o o' : AObj, (H ++ [some o]).set H.length (some o') = H ++ [some o'] := fun o o' => by
    rw [List.set_append_right _ _ (Nat.le_refl _), Nat.sub_self]; rfl
  refine DC.of_run1 ZbO Zc2 rfl Zc3 (by rw [Zc4]) (fun _ h => by cases h) (by simp only [List.length_cons, List.length_nil, Nat.reduceAdd, Nat.reduceSub, List.replicate_succ, List.replicate_zero, List.cons_append, List.nil_append, recD, envPut, List.set_cons_succ, List.set_cons_zero]; exact rfl) ?_
  refine ARun.block (ARun.seq (ARun.region ?_))
  refine y_op rfl (q_ifEq (by kernel_rfl) rfl) ?_
  refine AOps.nil ?_
  refine ARun.condF rfl ?_
  refine ARun.seq (ARun.region ?_)
  refine y_op rfl (Zcg rfl rfl rfl) ?_
  refine xe ?_; refine xe ?_; refine AOps.nil ?_
  refine ARun.condT rfl ?_
  refine ARun.seq (ARun.region ?_)
  refine y_new rfl (Zag rfl rfl rfl rfl) ?_
  refine y_new rfl (Zaa rfl rfl rfl rfl rfl rfl (hn _) rfl (Nat.le_of_ble_eq_true rfl) rfl) (AOps.hp (hs _ _) ?_)
  refine AOps.nil (ARun.region ?_); refine xm ?_
  refine y_op rfl (q_fldP rfl rfl rfl (by decide)) ?_
  refine y_op rfl (Zac rfl rfl rfl (hn _) rfl) ?_
  refine y_op rfl (q_nil rfl rfl) ?_
  refine y_new rfl (Zad rfl rfl rfl rfl hl rfl (Nat.le_of_ble_eq_true rfl) rfl) ?_
  refine AOps.nil (ARun.inBlock ?_)
  refine ARun.nil ?_
  exact ⟨rfl, rfl, rfl⟩
end Go.V
set_option synthInstance.maxSize 100000
set_option synthInstance.maxHeartbeats 2000000
namespace Go.V
open Go.RowKit Go.Proofs
theorem intD_zero : intD 0 = .agg [.bool false, .sl 0 []] := by
  have : numD 0 = .sl 0 [] := by rw [numD, lim_zero]; rfl
  show D.agg [.bool (decide ((0 : Int) < 0)), numD 0] = _
  rw [this]; rfl
theorem fz_int0 {H : Heap} : Fz H (.agg [.bool false, .nilsl]) (intD 0) [] := by
  rw [intD_zero]; exact .agg (.cons (.same _) (.cons .nil .nil))
end Go.V
/- Go's strings.Builder (Grow, WriteString, WriteByte, String): the library's contracts, laid at this seat's numbers. -/
namespace Go.V
open Go.Shelf Go.RowKit Go.Proofs
def bRen165 : Ren := ⟨fun | 165 => 196 | 240 => 225 | 241 => 226 | 276 => 242 | 277 => 243 | n => n, fun | 0 => 0 | 3 => 3 | 4 => 4 | 5 => 5 | 9 => 9 | 20 => 20 | 37 => 197 | 70 => 202 | 72 => 204 | 75 => 207 | 80 => 211 | 119 => 208 | 127 => 238 | 164 => 251 | n => n, fun n => n⟩
theorem bLay165 : Lays.n165 Tryz.prog bRen165 := {
  mixed := by kernel_rfl
  f165 := Tryz.func196.trans (congrArg some (by kernel_rfl))
  f240 := Tryz.func225.trans (congrArg some (by kernel_rfl))
  f241 := Tryz.func226.trans (congrArg some (by kernel_rfl))
  f276 := Tryz.func242.trans (congrArg some (by kernel_rfl))
  f277 := Tryz.func243.trans (congrArg some (by kernel_rfl))
  t0 := Tryz.underlying0
  a0 := Tryz.isAgg0
  z0 := Tryz.sizeOf0
  v0 := Tryz.zeroValue0
  t3 := Tryz.underlying3
  a3 := Tryz.isAgg3
  z3 := Tryz.sizeOf3
  v3 := Tryz.zeroValue3
  t4 := Tryz.underlying4
  a4 := Tryz.isAgg4
  z4 := Tryz.sizeOf4
  v4 := Tryz.zeroValue4
  t9 := Tryz.underlying9
  a9 := Tryz.isAgg9
  z9 := Tryz.sizeOf9
  v9 := Tryz.zeroValue9
  t20 := Tryz.underlying20
  a20 := Tryz.isAgg20
  z20 := Tryz.sizeOf20
  v20 := Tryz.zeroValue20
  t37 := Tryz.underlying197
  a37 := Tryz.isAgg197
  z37 := Tryz.sizeOf197
  v37 := Tryz.zeroValue197
  t70 := Tryz.underlying202
  a70 := Tryz.isAgg202
  z70 := Tryz.sizeOf202
  v70 := Tryz.zeroValue202
  t72 := Tryz.underlying204
  a72 := Tryz.isAgg204
  z72 := Tryz.sizeOf204
  v72 := Tryz.zeroValue204
  t164 := Tryz.underlying251
  a164 := Tryz.isAgg251
  z164 := Tryz.sizeOf251
  v164 := Tryz.zeroValue251 }
theorem bX165 : Builder.Extra Tryz.prog bRen165 := { sizeBuilder := by kernel_rfl, liesBuilder := by kernel_rfl, t5 := Tryz.underlying5, a5 := Tryz.isAgg5, z5 := Tryz.sizeOf5, v5 := Tryz.zeroValue5, infoByte := by kernel_rfl, cellsByte := by kernel_rfl, sizeByte := by kernel_rfl, neB5 := by decide }
def bRen166 : Ren := ⟨fun | 166 => 197 | 240 => 225 | 276 => 242 | n => n, fun | 0 => 0 | 3 => 3 | 4 => 4 | 5 => 5 | 9 => 9 | 20 => 20 | 37 => 197 | 70 => 202 | 72 => 204 | 75 => 207 | 80 => 211 | 119 => 208 | 127 => 238 | 164 => 251 | n => n, fun n => n⟩
theorem bLay166 : Lays.n166 Tryz.prog bRen166 := {
  mixed := by kernel_rfl
  f166 := Tryz.func197.trans (congrArg some (by kernel_rfl))
  f240 := Tryz.func225.trans (congrArg some (by kernel_rfl))
  f276 := Tryz.func242.trans (congrArg some (by kernel_rfl))
  t0 := Tryz.underlying0
  a0 := Tryz.isAgg0
  z0 := Tryz.sizeOf0
  v0 := Tryz.zeroValue0
  t3 := Tryz.underlying3
  a3 := Tryz.isAgg3
  z3 := Tryz.sizeOf3
  v3 := Tryz.zeroValue3
  t4 := Tryz.underlying4
  a4 := Tryz.isAgg4
  z4 := Tryz.sizeOf4
  v4 := Tryz.zeroValue4
  t9 := Tryz.underlying9
  a9 := Tryz.isAgg9
  z9 := Tryz.sizeOf9
  v9 := Tryz.zeroValue9
  t20 := Tryz.underlying20
  a20 := Tryz.isAgg20
  z20 := Tryz.sizeOf20
  v20 := Tryz.zeroValue20
  t37 := Tryz.underlying197
  a37 := Tryz.isAgg197
  z37 := Tryz.sizeOf197
  v37 := Tryz.zeroValue197
  t70 := Tryz.underlying202
  a70 := Tryz.isAgg202
  z70 := Tryz.sizeOf202
  v70 := Tryz.zeroValue202
  t72 := Tryz.underlying204
  a72 := Tryz.isAgg204
  z72 := Tryz.sizeOf204
  v72 := Tryz.zeroValue204
  t75 := Tryz.underlying207
  a75 := Tryz.isAgg207
  z75 := Tryz.sizeOf207
  v75 := Tryz.zeroValue207
  t164 := Tryz.underlying251
  a164 := Tryz.isAgg251
  z164 := Tryz.sizeOf251
  v164 := Tryz.zeroValue251 }
theorem bX166 : Builder.Extra Tryz.prog bRen166 := { sizeBuilder := by kernel_rfl, liesBuilder := by kernel_rfl, t5 := Tryz.underlying5, a5 := Tryz.isAgg5, z5 := Tryz.sizeOf5, v5 := Tryz.zeroValue5, infoByte := by kernel_rfl, cellsByte := by kernel_rfl, sizeByte := by kernel_rfl, neB5 := by decide }
def bRen167 : Ren := ⟨fun | 167 => 198 | 240 => 225 | 276 => 242 | n => n, fun | 0 => 0 | 3 => 3 | 4 => 4 | 5 => 5 | 9 => 9 | 20 => 20 | 37 => 197 | 70 => 202 | 72 => 204 | 75 => 207 | 80 => 211 | 119 => 208 | 127 => 238 | 164 => 251 | n => n, fun n => n⟩
theorem bLay167 : Lays.n167 Tryz.prog bRen167 := {
  mixed := by kernel_rfl
  f167 := Tryz.func198.trans (congrArg some (by kernel_rfl))
  f240 := Tryz.func225.trans (congrArg some (by kernel_rfl))
  f276 := Tryz.func242.trans (congrArg some (by kernel_rfl))
  t0 := Tryz.underlying0
  a0 := Tryz.isAgg0
  z0 := Tryz.sizeOf0
  v0 := Tryz.zeroValue0
  t4 := Tryz.underlying4
  a4 := Tryz.isAgg4
  z4 := Tryz.sizeOf4
  v4 := Tryz.zeroValue4
  t5 := Tryz.underlying5
  a5 := Tryz.isAgg5
  z5 := Tryz.sizeOf5
  v5 := Tryz.zeroValue5
  t9 := Tryz.underlying9
  a9 := Tryz.isAgg9
  z9 := Tryz.sizeOf9
  v9 := Tryz.zeroValue9
  t20 := Tryz.underlying20
  a20 := Tryz.isAgg20
  z20 := Tryz.sizeOf20
  v20 := Tryz.zeroValue20
  t37 := Tryz.underlying197
  a37 := Tryz.isAgg197
  z37 := Tryz.sizeOf197
  v37 := Tryz.zeroValue197
  t70 := Tryz.underlying202
  a70 := Tryz.isAgg202
  z70 := Tryz.sizeOf202
  v70 := Tryz.zeroValue202
  t72 := Tryz.underlying204
  a72 := Tryz.isAgg204
  z72 := Tryz.sizeOf204
  v72 := Tryz.zeroValue204
  t75 := Tryz.underlying207
  a75 := Tryz.isAgg207
  z75 := Tryz.sizeOf207
  v75 := Tryz.zeroValue207
  t164 := Tryz.underlying251
  a164 := Tryz.isAgg251
  z164 := Tryz.sizeOf251
  v164 := Tryz.zeroValue251 }
theorem bX167 : Builder.Extra Tryz.prog bRen167 := { sizeBuilder := by kernel_rfl, liesBuilder := by kernel_rfl, t5 := Tryz.underlying5, a5 := Tryz.isAgg5, z5 := Tryz.sizeOf5, v5 := Tryz.zeroValue5, infoByte := by kernel_rfl, cellsByte := by kernel_rfl, sizeByte := by kernel_rfl, neB5 := by decide }
def bRen169 : Ren := ⟨fun | 169 => 199 | n => n, fun | 0 => 0 | 3 => 3 | 4 => 4 | 5 => 5 | 9 => 9 | 20 => 20 | 37 => 197 | 70 => 202 | 72 => 204 | 75 => 207 | 80 => 211 | 119 => 208 | 127 => 238 | 164 => 251 | n => n, fun n => n⟩
theorem bLay169 : Lays.n169 Tryz.prog bRen169 := {
  mixed := by kernel_rfl
  f169 := Tryz.func199.trans (congrArg some (by kernel_rfl))
  t0 := Tryz.underlying0
  a0 := Tryz.isAgg0
  z0 := Tryz.sizeOf0
  v0 := Tryz.zeroValue0
  t3 := Tryz.underlying3
  a3 := Tryz.isAgg3
  z3 := Tryz.sizeOf3
  v3 := Tryz.zeroValue3
  t9 := Tryz.underlying9
  a9 := Tryz.isAgg9
  z9 := Tryz.sizeOf9
  v9 := Tryz.zeroValue9
  t37 := Tryz.underlying197
  a37 := Tryz.isAgg197
  z37 := Tryz.sizeOf197
  v37 := Tryz.zeroValue197
  t70 := Tryz.underlying202
  a70 := Tryz.isAgg202
  z70 := Tryz.sizeOf202
  v70 := Tryz.zeroValue202
  t72 := Tryz.underlying204
  a72 := Tryz.isAgg204
  z72 := Tryz.sizeOf204
  v72 := Tryz.zeroValue204
  t127 := Tryz.underlying238
  a127 := Tryz.isAgg238
  z127 := Tryz.sizeOf238
  v127 := Tryz.zeroValue238 }
theorem bX169 : Builder.Extra Tryz.prog bRen169 := { sizeBuilder := by kernel_rfl, liesBuilder := by kernel_rfl, t5 := Tryz.underlying5, a5 := Tryz.isAgg5, z5 := Tryz.sizeOf5, v5 := Tryz.zeroValue5, infoByte := by kernel_rfl, cellsByte := by kernel_rfl, sizeByte := by kernel_rfl, neB5 := by decide }
end Go.V
/- strings.ToUpper on text below 128: a walk over its code, by the Builder's contracts. -/
namespace Go.V
open Go.Shelf Go.RowKit Go.Proofs
theorem hidU {p : Prop} (h : p) : Hid p := h
abbrev IsB (b : Nat) (l : List Value) (w : World) : Prop := Lib.IsBuilder 204 5 b b l w
abbrev upTo (s : ByteArray) (p : Nat) : List Value := Lib.byteCells ((s.data.toList.take p).map Lib.upperB)
theorem upTo_length (s : ByteArray) (p : Nat) (h : p ≤ s.size) : (upTo s p).length = p := by
  rw [Lib.byteCells_length, List.length_map, List.length_take, ← Lib.size_eq]; omega
theorem extract_len (s : ByteArray) (p k : Nat) (h : k ≤ s.size) : (s.extract p k).size = k - p := by
  rw [Lib.size_eq, Lib.extract_data, List.length_take, List.length_drop, ← Lib.size_eq]; omega
theorem at_get (s : ByteArray) (k : Nat) (h : k < s.size) : s.data.toList[k]? = some (s[k]'h) := by
  rw [Array.getElem?_toList]; exact Array.getElem?_eq_getElem h
theorem upTo_step (s : ByteArray) (p k : Nat) (hpk : p ≤ k) (hk : k < s.size) (hn : ((s.data.toList.drop p).take (k - p)).any Lib.isLowerB = false) (hl : Lib.isLowerB (s[k]'hk) = true) :
    upTo s p ++ Lib.strCells (s.extract p k) ++ [Value.int .u8 (((s[k]'hk).toNat : Int) - 32)] = upTo s (k + 1) := by
  unfold upTo
  rw [← Lib.map_stretch Lib.upperB Lib.isLowerB Lib.upperB_of_not s.data.toList p k _ hpk (at_get s k hk) hn, Lib.byteCells_append, Lib.byteCells_append, Lib.strCells_eq, Lib.extract_data, ← Lib.upperB_int _ hl]
  rfl
theorem upTo_end (s : ByteArray) (p : Nat) (hp : p ≤ s.size) (hn : ((s.data.toList.drop p).take (s.size - p)).any Lib.isLowerB = false) :
    upTo s p ++ Lib.strCells (s.extract p s.size) = Lib.byteCells (s.data.toList.map Lib.upperB) := by
  have hfull : (s.data.toList.drop p).take (s.size - p) = s.data.toList.drop p := List.take_of_length_le (by rw [List.length_drop, ← Lib.size_eq]; omega)
  rw [hfull] at hn
  unfold upTo
  rw [← Lib.map_rest Lib.upperB Lib.isLowerB Lib.upperB_of_not s.data.toList p hn, Lib.byteCells_append, Lib.strCells_eq, Lib.extract_data, hfull]
theorem noneUp (s : ByteArray) (p k : Nat) (hpk : p ≤ k) (hk : k < s.size) (hn : ((s.data.toList.drop p).take (k - p)).any Lib.isLowerB = false) (hl : Lib.isLowerB (s[k]'hk) = false) :
    ((s.data.toList.drop p).take (k + 1 - p)).any Lib.isLowerB = false := by
  have e2 : (s.data.toList.drop p)[k - p]? = some (s[k]'hk) := by
    rw [List.getElem?_drop, show p + (k - p) = k by omega]
    exact at_get s k hk
  rw [show k + 1 - p = (k - p) + 1 by omega, Lib.any_take_succ _ _ _ _ e2, hn, hl]
  rfl
theorem strNil (s : ByteArray) (p : Nat) (h : p ≤ s.size) : Lib.strCells (s.extract p p) = [] := List.eq_nil_of_length_eq_zero (by rw [Lib.strCells_length, extract_len s p p h]; omega)
set_option maxHeartbeats 4000000 in
set_option maxRecDepth 100000 in
theorem toUpper_calls (s : ByteArray) (w : World) (hs : s.size ≤ 140737488355328) (hascii : ∀ (j : Nat) (b : UInt8), s.data.toList[j]? = some b → b.toNat < 128) :
    Calls Tryz.prog 124 #[.string s] w fun e w' => e = .returned (.string ⟨(Lib.toUpperA s.data.toList).toArray⟩) ∧ Below w.heap.size w w' := by
  have HA := hidU hascii
  clear hascii
  go_enter Tryz.func124, Tryz.ntmps124
  go_wp2
  go_loop [3, 4, 5] (fun a h i => ∃ k : Nat, k ≤ s.size ∧ a = .bool true ∧ h = .bool ((s.data.toList.take k).any Lib.isLowerB) ∧ i = .int .i64 k) (fun _ _ i => s.size - (intOf i).toNat)
  case atStart => exact ⟨0, Nat.zero_le _, rfl, rfl, rfl⟩
  case round =>
    obtain ⟨k, hk, rfl, rfl, rfl⟩ := hrel
    generalize hH : (s.data.toList.take k).any Lib.isLowerB = H
    by_cases hlt : k < s.size
    · have hb := at_get s k hlt
      have h128 : ¬ (128 : Int) ≤ ((s[k]'hlt).toNat : Int) := by have := HA.out k _ hb; omega
      have Hn := hidU (show (s.data.toList.take (k + 1)).any Lib.isLowerB = (H || (decide ((97 : Int) ≤ ((s[k]'hlt).toNat : Int)) && decide (((s[k]'hlt).toNat : Int) ≤ 122))) by rw [Lib.any_take_succ _ _ _ _ hb, hH, Lib.isLowerB_int])
      clear hb hH
      go_wp2
      all_goals (
        refine ⟨⟨k + 1, by omega, rfl, ?_, by go_num⟩, by simp [intOf]; omega⟩
        rw [Hn.out]
        first
          | (simp_all; done)
          | (simp_all; omega))
    have hke : k = s.size := by omega
    subst hke
    rw [show s.data.toList.take s.size = s.data.toList by rw [Lib.size_eq, List.take_length]] at hH
    have HH := hidU hH
    clear hH
    cases H with
    | false =>
      go_wp2
      go_ret
      refine ⟨?_, Below.refl _ _⟩
      show Ending.returned (Value.string s) = _
      rw [Lib.toUpperA, Lib.map_of_none Lib.upperB Lib.isLowerB Lib.upperB_of_not _ HH.out, Lib.mk_data]
    | true =>
      go_wp2_with (go_at_call 196; refine (Any.Builder_Grow_fresh bLay165 bX165 w.heap.size w.heap.size s.size _ (Nat.le_refl _) (heap_alloc_new w _) (by simp) (by omega)).mono ?_)
      rintro e w1 rfl h1 hb1
      have H1 := hidU (Or.inr h1 : IsB w.heap.size (upTo s 0) w1)
      have Hb1 := hidU (((Below.refl w.heap.size w).alloc (Nat.le_refl _) _).trans hb1)
      clear h1 hb1
      go_wp2
      go_loopw [8, 9] (fun pos i wr => ∃ p k : Nat, p ≤ k ∧ k ≤ s.size ∧ pos = .int .i64 p ∧ i = .int .i64 k ∧ Hid (IsB w.heap.size (upTo s p) wr) ∧ Hid (((s.data.toList.drop p).take (k - p)).any Lib.isLowerB = false) ∧ Hid (Below w.heap.size w wr)) (fun _ i _ => s.size - (intOf i).toNat)
      case atStart => exact ⟨0, 0, Nat.le_refl _, Nat.zero_le _, rfl, rfl, H1, rfl, Hb1⟩
      case round =>
        obtain ⟨p, k, hpk, hk2, rfl, rfl, HB, HN, HW⟩ := hrel
        have hlp := upTo_length s p (by omega)
        have hBw : w.heap.size ≤ wr.heap.size := HW.out.size
        by_cases hlt2 : k < s.size
        · have hxs := extract_len s p k (by omega)
          by_cases hlow : Lib.isLowerB (s[k]'hlt2) = true
          · have hr : (97 : Int) ≤ ((s[k]'hlt2).toNat : Int) ∧ ((s[k]'hlt2).toNat : Int) ≤ 122 := by rw [Lib.isLowerB_int] at hlow; simpa using hlow
            obtain ⟨h97, h122⟩ := hr
            have Hc := hidU (upTo_step s p k hpk hlt2 HN.out hlow)
            go_wp2_with fail
            · refine (Any.Builder_WriteString bLay166 bX166 w.heap.size w.heap.size _ (s.extract p k) wr HB.out (by rw [hlp, hxs]; omega) hBw).mono ?_
              rintro e w2 ⟨rfl, h2, hb2⟩
              have hBw2 : w.heap.size ≤ w2.heap.size := Nat.le_trans hBw hb2.size
              have H2 := hidU h2
              have Hb2 := hidU hb2
              clear h2 hb2
              go_wp2_with fail
              refine (Any.Builder_WriteByte bLay167 bX167 w.heap.size w.heap.size _ (((s[k]'hlt2).toNat : Int) - 32) w2 (Or.inr H2.out) (by rw [List.length_append, hlp, Lib.strCells_length, hxs]; omega) hBw2).mono ?_
              rintro e w3 ⟨rfl, h3, hb3⟩
              rw [Hc.out] at h3
              have H3 := hidU (Or.inr h3 : IsB w.heap.size _ w3)
              have Hb3 := hidU ((HW.out.trans Hb2.out).trans hb3)
              clear h3 hb3
              go_wp2
              exact ⟨⟨k + 1, k + 1, Nat.le_refl _, by omega, by go_num, by go_num, H3, by simp [Hid], Hb3⟩, by simp [intOf]; omega⟩
            have hpe : p = k := by omega
            subst hpe
            refine (Any.Builder_WriteByte bLay167 bX167 w.heap.size w.heap.size _ (((s[p]'hlt2).toNat : Int) - 32) wr HB.out (by rw [hlp]; omega) hBw).mono ?_
            rintro e w3 ⟨rfl, h3, hb3⟩
            have hc' := Hc.out
            rw [strNil s p (by omega), List.append_nil] at hc'
            rw [hc'] at h3
            have H3 := hidU (Or.inr h3 : IsB w.heap.size _ w3)
            have Hb3 := hidU (HW.out.trans hb3)
            clear h3 hb3 hc'
            go_wp2
            exact ⟨⟨p + 1, p + 1, Nat.le_refl _, by omega, by go_num, by go_num, H3, by simp [Hid], Hb3⟩, by simp [intOf]; omega⟩
          have hlow' : Lib.isLowerB (s[k]'hlt2) = false := by simpa using hlow
          have hnot : ¬ ((97 : Int) ≤ ((s[k]'hlt2).toNat : Int) ∧ ((s[k]'hlt2).toNat : Int) ≤ 122) := by
            have h := hlow'
            rw [Lib.isLowerB_int] at h
            simpa using h
          have Hs := hidU (noneUp s p k hpk hlt2 HN.out hlow')
          go_wp2
          all_goals first
            | exact ⟨⟨p, k + 1, by omega, by omega, rfl, by go_num, HB, Hs, HW⟩, by simp [intOf]; omega⟩
            | (exfalso; omega)
        have hke2 : k = s.size := by omega
        subst hke2
        have hxs := extract_len s p s.size (Nat.le_refl _)
        have hne : s.data.toList.map Lib.upperB ≠ [] := by
          intro h0
          have h1 : s.data.toList = [] := by simpa using h0
          have h2 := HH.out
          rw [h1] at h2
          cases h2
        have Hc := hidU (upTo_end s p hpk HN.out)
        go_wp2_with fail
        · refine (Any.Builder_WriteString bLay166 bX166 w.heap.size w.heap.size _ (s.extract p s.size) wr HB.out (by rw [hlp, hxs]; omega) hBw).mono ?_
          rintro e w2 ⟨rfl, h2, hb2⟩
          rw [Hc.out] at h2
          have H2 := hidU (Or.inr h2 : IsB w.heap.size _ w2)
          have Hb2 := hidU (HW.out.trans hb2)
          clear h2 hb2
          go_wp2_with fail
          refine (Any.Builder_String bLay169 bX169 w.heap.size w.heap.size _ w2 H2.out hne).mono ?_
          rintro e w3 ⟨rfl, hb3⟩
          have Hb3 := hidU (Hb2.out.trans hb3)
          clear hb3
          go_wp2
          go_ret
          exact ⟨rfl, Hb3.out⟩
        have hpe : p = s.size := by omega
        subst hpe
        have hc' := Hc.out
        rw [strNil s s.size (Nat.le_refl _), List.append_nil] at hc'
        have hB' := HB.out
        rw [hc'] at hB'
        refine (Any.Builder_String bLay169 bX169 w.heap.size w.heap.size _ wr hB' hne).mono ?_
        rintro e w3 ⟨rfl, hb3⟩
        have Hb3 := hidU (HW.out.trans hb3)
        clear hb3
        go_wp2
        go_ret
        exact ⟨rfl, Hb3.out⟩
end Go.V
/- A call's contract out of a law over the program. -/
namespace Go.V
open Go.RowKit Go.Proofs
theorem PC.of_below {C : Ctx} {f : FuncId} {args : List D} {d : D} {v : Value} (he : Enters C.P f) (hv : ∀ (w : World) (L : Nat → Prop) (μ : List Nat) (H : Heap), VR w L μ H d v)
    (h : ∀ (w : World) (L : Nat → Prop) (μ : List Nat) (H : Heap) (vs : List Value), VRs w L μ H args vs → Calls C.P f vs.toArray w fun e w' => e = .returned v ∧ Below w.heap.size w w') : PC C f args (fun o => o = .ret d) := by
  intro H
  refine ⟨he, fun L0 w μ vs hs ha => (h w _ μ H vs ha).mono fun e w' ⟨h1, h2⟩ => ?_⟩
  have hevo : Evo w w' μ μ H H :=
    ⟨h2.os, h2.tape, h2.output, h2.size, fun k hk _ => h2.block k hk, fun k _ hk => hk, fun _ _ h => h, fun i x hx => ⟨x, hx, fun o e => ⟨o, e, rfl, rfl, rfl, fun b cur _ hw => ⟨cur, by rw [h2.block b (Array.getElem?_eq_some_iff.1 hw).1]; exact hw, rfl⟩⟩⟩⟩
  exact ⟨.ret d, H, μ, ⟨rfl, rfl⟩, hs.next hevo hs.len (fun i o b k1 k2 => (hs.obj i o b k1 k2).same (h2.block b (hs.block_lt k1 k2))) hs.inj hs.own, ⟨v, h1, hv _ _ _ _⟩, hevo⟩
end Go.V
/- A contract over a heap of one object, met over any heap that holds it. -/
namespace Go.V
open Go.RowKit Go.Proofs
theorem puresAt : ∀ {l : List D} {j : Nat} {d : D}, D.pure.pures l = true → l[j]? = some d → d.pure = true
  | [], _, _, _, h => by simp at h
  | c :: l, j, d, h, hj => by
    simp only [D.pure.pures, Bool.and_eq_true] at h
    cases j with
    | zero => simp at hj; subst hj; exact h.1
    | succ j => simp only [List.getElem?_cons_succ] at hj; exact puresAt h.2 hj
theorem ObjR.move {w' w : World} {L : Nat → Prop} {μ μ' : List Nat} {H H' : Heap} {o : AObj} {b : Nat} (hsp : o.sp = none) (hp : D.pure.pures o.cells = true) (h : ObjR w' w L μ H o b) : ObjR w' w L μ' H' o b := by
  obtain ⟨cur, h1, h2, h3⟩ := h.row hsp
  refine .of_row hsp ⟨cur, h1, h2, fun j d hd => ?_⟩
  obtain ⟨v, k1, k2, k3⟩ := h3 j d hd
  exact ⟨v, k1, k2, VR.lift (VR.drop (puresAt hp hd) k3)⟩
theorem HC.frame1 {C : Ctx} {f : FuncId} {o o' : AObj} {n : Nat} {r : D} (hc : HC C f [some o] [.row 0 n] (fun x H' => x = .ret r ∧ H' = [some o'])) (ho : o.live = true) (ho' : o'.live = true) (hsp : o.sp = none) (hsp' : o'.sp = none) (hp : D.pure.pures o.cells = true) (hp' : D.pure.pures o'.cells = true) (hr : r.pure = true) {H : Heap} {id : Nat} (hid : H[id]? = some (some o)) :
    HC C f H [.row id n] (fun x H' => x = .ret r ∧ H' = H.set id (some o')) := by
  refine ⟨hc.1, fun L0 w μ vs hs ha => ?_⟩
  have hil : id < H.length := (List.getElem?_eq_some_iff.1 hid).1
  obtain ⟨b, hb⟩ : ∃ b, μ[id]? = some b := ⟨μ[id]'(by rw [hs.len]; exact hil), by simp [hs.len, hil]⟩
  let L1 : Nat → Prop := fun b' => L0 b' ∨ (liveB μ H b' ∧ b' ≠ b)
  have hlb : liveB μ H b := ⟨id, o, hid, ho, hb⟩
  have hl1 : ∀ b', liveB [b] [some o] b' ↔ b' = b := by
    intro b'
    constructor
    · rintro ⟨i, oi, h1, _, h3⟩
      cases i with
      | zero => simp at h3; exact h3.symm
      | succ i => simp at h3
    rintro rfl; exact ⟨0, o, rfl, ho, rfl⟩
  have hforb : forb L1 [b] [some o] = forb L0 μ H := by
    funext b'
    apply propext
    constructor
    · rintro (h | h)
      · rcases h with h | h
        · exact .inl h
        exact .inr h.1
      rw [(hl1 b').1 h]; exact .inr hlb
    rintro (h | h)
    · exact .inl (.inl h)
    by_cases e : b' = b
    · exact .inr ((hl1 b').2 e)
    exact .inl (.inr ⟨h, e⟩)
  have hs1 : SR C L1 w [b] [some o] := by
    refine ⟨rfl, fun i oi bi h1 h2 => ?_, fun i j oi oj bi h1 h2 h3 h4 _ => ?_, fun i oi bi h1 h2 => ?_, fun b' hb' => ?_, fun g cs hg => ?_⟩
    · cases i with
      | zero =>
        simp at h1 h2; subst h1; subst h2
        rw [hforb]
        exact (hs.obj id _ _ hid hb).move hsp hp
      | succ i => simp at h1
    · cases i <;> cases j <;> simp at h1 h2 ⊢
    · cases i with
      | zero =>
        simp at h2; subst h2
        rintro (h | h)
        · exact hs.own id o _ hid hb h
        exact h.2 rfl
      | succ i => simp at h1
    · rcases hb' with h | h
      · exact hs.lim _ h
      obtain ⟨i, oi, h1, h2, h3⟩ := h.1
      exact hs.block_lt h1 h3
    rw [hforb]; exact hs.glob g cs hg
  have ha1 : VRs w (forb L1 [b] [some o]) [b] [some o] [.row 0 n] vs := by
    simp only [VRs] at ha ⊢
    obtain ⟨v, us, rfl, h1, rfl⟩ := ha
    refine ⟨v, [], rfl, ?_, rfl⟩
    simp only [VR] at h1 ⊢
    obtain ⟨x, hx, h2⟩ := h1
    rw [hid] at hx
    injection hx with hx
    subst hx
    obtain ⟨b', cap, cur, k1, k2⟩ := h2 o rfl
    rw [hb] at k1
    injection k1 with k1
    subst k1
    exact ⟨some o, rfl, fun o1 e => by injection e with e; subst e; exact ⟨b, cap, cur, rfl, k2⟩⟩
  refine (hc.2 L1 w [b] vs hs1 ha1).mono ?_
  rintro e w' ⟨x, H1, μ1, ⟨rfl, rfl⟩, hs', ⟨v, he, hv⟩, hevo⟩
  have hμ : μ1 = [b] := by
    have h1 := hevo.map 0 b rfl
    have h2 := hs'.len
    match μ1, h1, h2 with
    | [c], h1, _ => simp at h1; rw [h1]
  subst hμ
  have hun : ∀ k, k < w.heap.size → k ≠ b → w'.heap[k]? = w.heap[k]? := fun k hk hkb => hevo.chg k hk fun h => hkb ((hl1 k).1 h)
  have hother : ∀ (i : Nat) (oi : AObj) (k : Nat), i ≠ id → H[i]? = some (some oi) → μ[i]? = some k → k ≠ b := by
    intro i oi k h1 h2 h3 e
    subst e
    exact h1 (hs.inj id i o oi k hid h2 hb h3 ho).symm
  have hcase : ∀ (i : Nat) (oi : AObj), (H.set id (some o'))[i]? = some (some oi) → (i ≠ id ∧ H[i]? = some (some oi)) ∨ (i = id ∧ oi = o') := by
    intro i oi h
    by_cases e : id = i
    · subst e; rw [List.getElem?_set_self hil] at h; injection h with h; injection h with h; exact .inr ⟨rfl, h.symm⟩
    rw [List.getElem?_set_ne e] at h; exact .inl ⟨fun h => e h.symm, h⟩
  have hbig : Evo w w' μ μ H (H.set id (some o')) := by
    refine ⟨hevo.os, hevo.tape, hevo.output, hevo.size, fun k hk hkl => hun k hk (by rintro rfl; exact hkl hlb), fun k hk hkl => ?_, fun _ _ h => h, fun i x hx => ?_⟩
    · obtain ⟨i, oi, h1, h2, h3⟩ := hkl
      rcases hcase i oi h1 with ⟨_, k1⟩ | ⟨rfl, rfl⟩
      · exact ⟨i, oi, k1, h2, h3⟩
      rw [hb] at h3; injection h3 with h3; subst h3; exact hlb
    by_cases e : id = i
    · subst e
      rw [hid] at hx
      injection hx with hx
      subst hx
      obtain ⟨x', hx', h4⟩ := hevo.heap 0 (some o) rfl
      simp at hx'
      subst hx'
      refine ⟨some o', by rw [List.getElem?_set_self hil], fun o'' e => ?_⟩
      obtain ⟨o1, q1, q2, q3, q4, q5⟩ := h4 o'' e
      injection q1 with q1
      subst q1
      exact ⟨o, rfl, q2, q3, q4, fun k cur hk hw => q5 k cur (by rw [hb] at hk; exact hk) hw⟩
    refine ⟨x, by rw [List.getElem?_set_ne e]; exact hx, fun o'' h => ⟨o'', h, rfl, rfl, rfl, fun k cur hk hw => ⟨cur, ?_, rfl⟩⟩⟩
    subst h
    rw [hun k (Array.getElem?_eq_some_iff.1 hw).1 (hother i o'' k (fun h => e h.symm) hx hk)]; exact hw
  have hsr : SR C L0 w' μ (H.set id (some o')) := by
    have st := hbig.step L0
    refine ⟨by rw [List.length_set]; exact hs.len, fun i oi k h1 h2 => ?_, fun i j oi oj k h1 h2 h3 h4 hl => ?_, fun i oi k h1 h2 => ?_, fun b' hb' => Nat.lt_of_lt_of_le (hs.lim b' hb') hbig.size, fun g cs hg => ?_⟩
    · rcases hcase i oi h1 with ⟨k0, k1⟩ | ⟨rfl, rfl⟩
      · exact ((hs.obj i oi k k1 h2).same (hun k (hs.block_lt k1 h2) (hother i oi k k0 k1 h2))).step st
      rw [hb] at h2; injection h2 with h2; subst h2
      have hf2 : forb L1 [b] [some oi] = forb L0 μ (H.set i (some oi)) := by
        have e1 : forb L1 [b] [some oi] = forb L1 [b] [some o] := by
          funext b'
          apply propext
          unfold forb
          constructor
          · rintro (h | ⟨j, oj, q1, q2, q3⟩)
            · exact .inl h
            right
            cases j with
            | zero => simp at q3; subst q3; exact (hl1 _).2 rfl
            | succ j => simp at q3
          rintro (h | h)
          · exact .inl h
          right; rw [(hl1 b').1 h]; exact ⟨0, oi, rfl, ho', rfl⟩
        rw [e1, hforb]
        funext b'
        apply propext
        unfold forb
        constructor
        · rintro (h | ⟨j, oj, q1, q2, q3⟩)
          · exact .inl h
          right
          by_cases e : i = j
          · subst e; rw [hb] at q3; injection q3 with q3; subst q3; exact ⟨i, oi, List.getElem?_set_self hil, ho', hb⟩
          exact ⟨j, oj, by rw [List.getElem?_set_ne e]; exact q1, q2, q3⟩
        rintro (h | ⟨j, oj, q1, q2, q3⟩)
        · exact .inl h
        right
        rcases hcase j oj q1 with ⟨_, q4⟩ | ⟨rfl, rfl⟩
        · exact ⟨j, oj, q4, q2, q3⟩
        rw [hb] at q3; injection q3 with q3; subst q3; exact hlb
      have := hs'.obj 0 oi b rfl rfl
      rw [hf2] at this
      exact this.move hsp' hp'
    · rcases hcase i oi h1 with ⟨k0, k1⟩ | ⟨rfl, rfl⟩ <;> rcases hcase j oj h2 with ⟨m0, m1⟩ | ⟨rfl, rfl⟩
      · exact hs.inj i j oi oj k k1 m1 h3 h4 hl
      · rw [hb] at h4; injection h4 with h4; subst h4; exact (hother i oi _ k0 k1 h3 rfl).elim
      · rw [hb] at h3; injection h3 with h3; subst h3; exact (hother j oj _ m0 m1 h4 rfl).elim
      rfl
    · rcases hcase i oi h1 with ⟨k0, k1⟩ | ⟨rfl, rfl⟩
      · exact hs.own i oi k k1 h2
      exact hs.own i o k hid h2
    obtain ⟨h1, h2, h3⟩ := hs.glob g cs hg
    exact ⟨Nat.lt_of_lt_of_le h1 hbig.size, st.keep g h1 h2, VRL.step st.pure h1 h2 h3⟩
  refine ⟨.ret r, H.set id (some o'), μ, ⟨rfl, rfl⟩, hsr, ⟨v, he, ?_⟩, hbig⟩
  have hv0 := VR.drop hr hv
  refine VR.lift ?_
  have : Step w' w' (forb L1 [b] [some o']) (forb L0 μ (H.set id (some o'))) [] [] [] [] := by
    refine ⟨Nat.le_refl _, fun _ _ _ => rfl, fun b' _ h => ?_, fun _ _ h => by simp at h, HStep.nil _ _ _⟩
    rintro (h' | ⟨j, oj, q1, q2, q3⟩)
    · exact h (.inl (.inl h'))
    rcases hcase j oj q1 with ⟨q0, q4⟩ | ⟨rfl, rfl⟩
    · exact h (.inl (.inr ⟨⟨j, oj, q4, q2, q3⟩, hother j oj b' q0 q4 q3⟩))
    rw [hb] at q3; injection q3 with q3; subst q3; exact h (.inr ⟨0, oj, rfl, ho', rfl⟩)
  exact VR.step this hv0
end Go.V
/- SLICES that are made with more room than length; rows that grow behind others. -/
namespace Go.V
open Go.RowKit
section
variable {C : Ctx} {env : List D} {H H' : Heap} {dst : Option Tmp} {ty : TypeId} {pos : String} {aft : Array Edge} {gd : Option (Nat × Bool)} {x y : Operand} {T e : TypeId} {descE : TypeDesc} {bytesE : Nat} {zeroE : Value}
theorem ZkR {k k' : IntKind} {n m : Nat} {dz : D} (ht : UN C T (.slice e)) (te : TIC C e descE 1 bytesE zeroE) (hz : scalarD zeroE = some dz) (hx : evO C env x = some (.int k n)) (hy : evO C env y = some (.int k' m)) (hnm : n ≤ m) (hb : bytesE * m ≤ 281474976710656) (hm : m ≤ maxLen) :
    OpH C ⟨dst, .makeSlice T x y, ty, pos, aft, gd⟩ env H (fun d H' => d = .row H.length n ∧ H' = H ++ [some ⟨zeros dz n, e, 1, true, none⟩]) (fun _ _ => False) :=
  OpH.new (ob := ⟨zeros dz n, e, 1, true, none⟩) fun L0 w μ a hs he => by
    have ex := he _ _ hx
    have ey := he _ _ hy
    simp only [VR] at ex ey
    obtain ⟨i, i1, i2, i3, i4⟩ := te.infos
    have hb' : (i.bytes : Int) * (m : Int) ≤ 281474976710656 := by
      rw [i3]
      have h : ((bytesE * m : Nat) : Int) ≤ 281474976710656 := by omega
      rwa [Int.natCast_mul] at h
    have hm' : (m : Int) ≤ 9223372036854775807 := by
      have h := hm
      simp [maxLen] at h
      omega
    have hr := run_make (P := C.P) w T e i zeroE ht i1 i4 k k' n m (by omega) (by omega) hb' hm'
    simp only [Int.toNat_natCast, i2, Nat.mul_one] at hr
    have hzc : zeroE.cells = #[zeroE] := by
      unfold scalarD at hz
      split at hz <;> first | rfl | (cases hz)
    have hone : zeroE.oneCell' = true := by
      unfold scalarD at hz
      split at hz <;> first | rfl | (cases hz)
    refine ⟨.slice (some ⟨w.heap.size, 0, none⟩) n m, madeCells zeroE.cells m, by simp [execOp, ex, ey, hr], by simp [zeros, size_madeCells]; exact hnm, fun j d' hd' => ?_, fun _ hl => ?_⟩
    · simp only [zeros, List.getElem?_replicate] at hd'
      split at hd'
      · rename_i hj
        injection hd' with hd'
        subst hd'
        refine ⟨zeroE, ?_, hone, scalarD_ok hz⟩
        simp [madeCells, hzc, Nat.lt_of_lt_of_le hj hnm, Nat.mod_one]
      cases hd'
    simp only [VR]
    refine ⟨some ⟨zeros dz n, e, 1, true, none⟩, by simp, fun o' e' => ?_⟩
    injection e' with e'
    subst e'
    exact ⟨w.heap.size, m, _, hl, rfl, hnm, hm, heap_alloc_new w _, by simp [size_madeCells], by simp [zeros]⟩
theorem ZkS {ik ik' : IntKind} {n c : Nat} {m m' : Int} {dz : D} {S b bE i : Nat} {zv zE : Value} {kE : TK} {zs : List D} [ap : AppL H (some ⟨zs, e, 1, true, none⟩) i H'] (hx : evO C env x = some (.int ik m)) (hy : evO C env y = some (.int ik' m')) (ht : C.ty T = some ⟨.slice e, S, b, zv⟩) (hee : C.ty e = some ⟨kE, 1, bE, zE⟩) (hz : scalarD zE = some dz) (hm : m = n) (hm' : m' = c) (hnc : n ≤ c) (hb : bE * c ≤ 281474976710656) (hM : c ≤ maxLen) (hzs : zeros dz n = zs) :
    OpN C ⟨dst, .makeSlice T x y, ty, pos, aft, gd⟩ env H (.row i n) H' := by
  subst hm; subst hm'; subst hzs
  have h := ZkR (C := C) (H := H) (dst := dst) (ty := ty) (pos := pos) (aft := aft) (gd := gd) (ty_slice ht) (ty_tic hee).1 hz hx hy hnc hb hM
  unfold OpN
  rw [← ap.len, ← ap.eq]
  exact h
end
end Go.V
