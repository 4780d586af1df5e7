/- A part of the proof: abstract values, rules for the steps of the program's form, and contracts of its functions, each proved; no condition. -/
import Derived.Test.YtjohcjagbodicabGreatDoorA10
set_option linter.unusedVariables false
set_option linter.unusedSimpArgs false
set_option synthInstance.maxSize 100000
set_option synthInstance.maxHeartbeats 2000000
namespace Go.V
open Go.RowKit Go.Proofs
theorem numD_one : D.sl 1 [.int .u32 1] = numD 1 := by rw [numD, lim_one]; rfl
theorem parity (n : Nat) (h : 0 < (lim n).length) : dig n 0 % 2 = n % 2 := by
  rw [dig, Nat.pow_zero, Nat.div_one]
  exact Nat.mod_mod_of_dvd n ⟨2147483648, rfl⟩
theorem ZmO (q r a b : Int) (hr : fitZ r) (hb : fitZ b) (hrb : r.natAbs < b.natAbs) : PC C ZbU [intD q, intD r, intD a, intD b] (fun o => o = .ret (.bool (awayZ 4 q r a b))) := by
  have fin : ∀ c : Bool, c = (decide (b.natAbs < 2 * r.natAbs) || (decide (2 * r.natAbs = b.natAbs) && decide (q.natAbs % 2 = 1))) → c = awayZ 4 q r a b := fun c h => h
  have h1 : ∀ k : Int, k = cmpI r.natAbs (b.natAbs - r.natAbs) → (decide (k > 0) = decide (b.natAbs < 2 * r.natAbs)) ∧ (decide (k = 0) = decide (2 * r.natAbs = b.natAbs)) := by
    intro k hk
    subst hk
    unfold cmpI
    constructor <;> apply decide_eq_decide.2 <;> repeat' split
    all_goals omega
  refine PC.rn Zcy ZfF ZfG (rs := [.tmp 8]) (by rw [ZfH]) ?_
  refine ARun.seq (ARun.region ?_); refine zzb ?_; refine zzb ?_; refine zzb ?_; refine zzb ?_; refine zza ?_; refine AOps.nil (ARun.seq ?_)
  refine ARun.drawnP 11 (fun _ => False) mixC rfl rfl (by kernel_rfl) (fun _ _ h => h.elim) ?_
  refine .op rfl (q_fldS rfl rfl rfl (by decide)) ?_
  refine .op rfl (q_load rfl rfl rfl rfl) ?_
  refine .op rfl (q_fldS rfl rfl rfl (by decide)) ?_
  refine .op rfl (q_load rfl rfl rfl rfl) ?_
  refine .op rfl (q_fldS rfl rfl rfl (by decide)) ?_
  refine .op rfl (q_load rfl rfl rfl rfl) ?_
  refine .op rfl (q_call rfl rfl (ZeZ (lim b.natAbs) (lim r.natAbs) (U32_lim _) (U32_lim _))) ?_
  refine .op rfl (Zai rfl rfl) ?_
  refine .op rfl (Zai rfl rfl) ?_
  refine .op rfl (q_call rfl rfl (must_sub hb hr (Nat.le_of_lt hrb))) ?_
  refine .op rfl (q_call rfl rfl (Zch r.natAbs (b.natAbs - r.natAbs) hr (Nat.le_trans (ln_mono (Nat.sub_le _ _)) hb))) ?_
  refine .nil (fun hG => ?_)
  refine zza ?_; refine AOps.nil (ARun.seq (ARun.region ?_)); refine zzm ?_; refine zzi ?_; refine zzm ?_
  obtain ⟨e1, e2⟩ := h1 _ rfl
  refine AOps.bool 23 rfl (fun g1 => ?_) (fun g1 => ?_)
  · skip
    refine zzk ?_; refine zzk ?_; refine zzk ?_; refine zzk ?_; refine zzk ?_; refine zzk ?_; refine zzk ?_; refine zzk ?_; refine zzk ?_; refine zzk ?_; refine zzk ?_; refine zzk ?_; refine zzk ?_; refine zzk ?_; refine zzk ?_; refine zzk ?_; refine zzp ?_; refine zza ?_; refine AOps.nil ?_
    refine ARun.ret ?_
    refine ⟨_, _, _, .tmp rfl .nil, .cons (.same _) .nil, rfl, ?_⟩
    rw [← fin true (by rw [← e1, g1]; rfl)]
    rfl
  refine zzm ?_; refine zzi ?_; refine zzm ?_
  refine AOps.bool 26 rfl (fun g2 => ?_) (fun g2 => ?_)
  · skip
    have g2' : cmpI r.natAbs (b.natAbs - r.natAbs) = 0 := by simpa using g2
    refine zzf ?_; refine zzl ?_; refine zzN ?_; refine zzi ?_; refine zzp ?_; refine zzm ?_
    refine AOps.bool 32 rfl (fun g3 => ?_) (fun g3 => ?_)
    · skip
      have g3' : 0 < (lim q.natAbs).length := by have := of_decide_eq_true g3; omega
      refine zzf ?_; refine zzl ?_
      refine y_op rfl (Zag (i := (0 : Nat)) rfl rfl rfl rfl (by decide) (by omega) (nts_ne g3') (drop_nat rfl)) ?_
      refine y_op rfl (q_load rfl rfl rfl (lim_load g3')) ?_
      refine y_op rfl (q_rem rfl rfl (by decide) rfl) ?_
      refine zzi ?_; refine zzp ?_; refine zzp ?_; refine zza ?_; refine AOps.nil ?_
      refine ARun.ret ?_
      refine ⟨_, _, _, .tmp rfl .nil, .cons (.same _) .nil, rfl, ?_⟩
      rw [← fin (decide (q.natAbs % 2 = 1)) (by rw [← e1, ← e2, g1, decide_eq_true g2']; rfl)]
      have : (((dig q.natAbs 0 : Nat) : Int).tmod 2 == 1) = decide (q.natAbs % 2 = 1) := by
        rw [← parity _ g3', show ((dig q.natAbs 0 : Nat) : Int).tmod 2 = ((dig q.natAbs 0 % 2 : Nat) : Int) from rfl]
        by_cases h : dig q.natAbs 0 % 2 = 1
        · rw [h]; rfl
        rw [decide_eq_false h]; exact beq_eq_false_iff_ne.2 (by omega)
      simp only [this, cond_true, cond_false]
      rfl
    have g3' : q.natAbs = 0 := by
      apply Classical.byContradiction
      intro h
      have := ln_pos.2 h
      have g := of_decide_eq_false g3
      omega
    refine zzk ?_; refine zzk ?_; refine zzk ?_; refine zzk ?_; refine zzk ?_; refine zzk ?_; refine zzp ?_; refine zzp ?_; refine zza ?_; refine AOps.nil ?_
    refine ARun.ret ?_
    refine ⟨_, _, _, .tmp rfl .nil, .cons (.same _) .nil, rfl, ?_⟩
    rw [← fin false (by rw [← e1, ← e2, g1, decide_eq_true g2', g3']; rfl)]
    rfl
  have g2' : ¬ cmpI r.natAbs (b.natAbs - r.natAbs) = 0 := by simpa using g2
  refine zzk ?_; refine zzk ?_; refine zzk ?_; refine zzk ?_; refine zzp ?_; refine zzm ?_; refine zzk ?_; refine zzk ?_; refine zzk ?_; refine zzk ?_; refine zzk ?_; refine zzk ?_; refine zzp ?_; refine zzp ?_; refine zza ?_; refine AOps.nil ?_
  refine ARun.ret ?_
  refine ⟨_, _, _, .tmp rfl .nil, .cons (.same _) .nil, rfl, ?_⟩
  rw [← fin false (by rw [← e1, ← e2, g1, decide_eq_false g2']; rfl)]
  rfl
end Go.V
set_option synthInstance.maxSize 100000
set_option synthInstance.maxHeartbeats 2000000
namespace Go.V
open Go.RowKit Go.Proofs
abbrev cellZ (z : Int) : Option AObj := some ⟨[.bool (decide (z < 0)), numD z.natAbs], Zf7, 1, true, none⟩
abbrev cell0 : Option AObj := some ⟨[.bool false, .nilsl], Zf7, 1, true, none⟩
theorem sgnd_tdiv (a b : Int) : sgnd (!(decide (a < 0) == decide (b < 0))) (a.natAbs / b.natAbs) = a.tdiv b := by
  have e1 : ∀ n : Nat, decide ((Int.ofNat n) < 0) = false := fun n => decide_eq_false (by simp)
  have e2 : ∀ n : Nat, decide ((Int.negSucc n) < 0) = true := fun n => decide_eq_true (Int.negSucc_lt_zero n)
  cases a <;> cases b <;> simp only [e1, e2] <;> rfl
theorem sgnd_tmod (a b : Int) : sgnd (decide (a < 0)) (a.natAbs % b.natAbs) = a.tmod b := by
  have e1 : ∀ n : Nat, decide ((Int.ofNat n) < 0) = false := fun n => decide_eq_false (by simp)
  have e2 : ∀ n : Nat, decide ((Int.negSucc n) < 0) = true := fun n => decide_eq_true (Int.negSucc_lt_zero n)
  cases a <;> cases b <;> simp only [e1, e2] <;> rfl
def stepZ (a b : Int) : Int := sgnd (!(decide (a < 0) == decide (b < 0))) 1
def divW (w : Bool) (a b : Int) : Int × Int :=
  if a.tmod b = 0 ∨ w = false then (a.tdiv b, a.tmod b) else (a.tdiv b + stepZ a b, a.tmod b + -(sgnd (decide (a < 0)) b.natAbs))
theorem fit_tdiv {a b : Int} (ha : fitZ a) : fitZ (a.tdiv b) := by
  unfold fitZ at *; rw [Int.natAbs_tdiv]; exact Nat.le_trans (ln_mono (Nat.div_le_self _ _)) ha
theorem fit_tmod {a b : Int} (hb : fitZ b) (h0 : b ≠ 0) : fitZ (a.tmod b) := by
  unfold fitZ at *
  rw [← sgnd_tmod, sgnd_abs]
  exact Nat.le_trans (ln_mono (Nat.le_of_lt (Nat.mod_lt _ (by omega)))) hb
theorem fit_mono {x y : Int} (h : x.natAbs ≤ y.natAbs) (hy : fitZ y) : fitZ x := Nat.le_trans (ln_mono h) hy
theorem abs_tmod (a b : Int) : (a.tmod b).natAbs = a.natAbs % b.natAbs := by rw [← sgnd_tmod, sgnd_abs]
theorem fit_q {a b : Int} (ha : fitZ a) (hr : a.tmod b ≠ 0) (hb : b ≠ 0) : fitZ (a.tdiv b + stepZ a b) := by
  have h1 : (a.tmod b).natAbs ≠ 0 := by omega
  rw [abs_tmod] at h1
  have hb1 : b.natAbs ≠ 1 := fun h => by rw [h, Nat.mod_one] at h1; exact h1 rfl
  have h2 : 2 ≤ b.natAbs := by omega
  have h3 : a.natAbs / b.natAbs + 1 ≤ a.natAbs := by
    have ha0 : 0 < a.natAbs := by
      apply Nat.pos_of_ne_zero
      intro h; rw [h, Nat.zero_mod] at h1; exact h1 rfl
    have := Nat.div_lt_self ha0 h2
    omega
  refine fit_mono ?_ ha
  rw [← sgnd_tdiv]
  unfold stepZ
  generalize a.natAbs / b.natAbs = q at *
  cases (!(decide (a < 0) == decide (b < 0))) <;> simp only [sgnd, cond_true, cond_false] <;> omega
theorem fit_r {a b : Int} (hb : fitZ b) (h0 : b ≠ 0) : fitZ (a.tmod b + -(sgnd (decide (a < 0)) b.natAbs)) := by
  refine fit_mono ?_ hb
  rw [← sgnd_tmod]
  have : a.natAbs % b.natAbs < b.natAbs := Nat.mod_lt _ (by omega)
  cases decide (a < 0) <;> simp only [sgnd, cond_true, cond_false] <;> omega
theorem Zg6 (a b : Int) (ha : fitZ a) (hb : fitZ b) (h0 : b ≠ 0) (f : FuncId) (w : Bool) (hf : a.tmod b ≠ 0 → PC C f [intD (a.tdiv b), intD (a.tmod b), intD a, intD b] (fun o => o = .ret (.bool w))) : PC C ZdG [intD a, intD b, .agg [.clos f []]] (fun o => o = .ret (.tup [intD (divW w a b).1, intD (divW w a b).2])) := by
  have hres : resD (lim a.natAbs) (lim b.natAbs) = (a.natAbs / b.natAbs, a.natAbs % b.natAbs, 0) := by
    unfold resD; rw [okB_lim ha, okB_lim hb, val_lim, val_lim]
    have : (lim b.natAbs).length ≠ 0 := by have := ln_pos.2 (show b.natAbs ≠ 0 by omega); omega
    simp only [Bool.and_self, cond_true, if_neg this]
  have hdiv : PC C Zek [numD a.natAbs, numD b.natAbs] (fun o => o = .ret (.tup [numD (a.natAbs / b.natAbs), numD (a.natAbs % b.natAbs), .int .i64 0])) := (Ze0 (lim a.natAbs) (lim b.natAbs) (U32_lim _) (U32_lim _)).mono fun o ho => by rw [ho, hres]
  have hq := Zaf (!(decide (a < 0) == decide (b < 0))) (a.natAbs / b.natAbs)
  rw [sgnd_tdiv] at hq
  have hr := Zaf (decide (a < 0)) (a.natAbs % b.natAbs)
  rw [sgnd_tmod] at hr
  have hz : (((lim (a.natAbs % b.natAbs)).length : Int) == 0) = decide (a.tmod b = 0) := by
    rw [Bool.eq_iff_iff, beq_iff_eq, decide_eq_true_iff, ← abs_tmod]
    constructor
    · intro h
      apply Classical.byContradiction
      intro hn
      have := ln_pos.2 (show (a.tmod b).natAbs ≠ 0 by omega)
      omega
    intro h; rw [h]; simp [lim_zero]
  refine PC.rn Zc5 Zgu Zgv (rs := [.cell 6 27, .cell 7 27]) (by rw [Zgw]) ?_
  refine ARun.seq (ARun.region ?_); refine zzb ?_; refine zzb ?_; refine zzb ?_
  refine y_new rfl (Zae rfl rfl rfl rfl) ?_
  refine y_new rfl (Zae rfl rfl rfl rfl) ?_
  refine AOps.nil (ARun.seq (ARun.region ?_)); refine zzf ?_; refine zzl ?_; refine zzf ?_; refine zzl ?_
  refine zzc rfl rfl (hdiv) ?_
  refine zzm ?_; refine zze ?_; refine zze ?_; refine zze ?_; refine zza ?_; refine zza ?_; refine zza ?_; refine AOps.nil (ARun.seq (ARun.region ?_)); refine zzm ?_; refine zzi ?_; refine zzm ?_
  refine y_gop rfl (g_call rfl rfl (PC.gp (ZaI _ 0))) (fun hg => ?_) (fun q hq => by obtain ⟨hq, rfl⟩ := hq; cases hq)
  refine AOps.nil (ARun.seq ?_)
  refine ARun.drawnG (n := 12) (fun S : Nat → Bool => [bif S 11 then cellZ (a.tdiv b) else cell0, cell0]) [] (fun _ => False) (sk := []) mixC rfl rfl (by kernel_rfl) rfl (by kernel_rfl) rfl (fun _ _ _ h => h.elim) ?_
  refine DChG.op rfl (fun _ => q_fldS rfl rfl rfl (by decide)) (fun _ => rfl) rfl rfl ?_
  refine DChG.opC rfl (fun S hn hd hc => OpQ.pre (H1 := [bif false then cellZ (a.tdiv b) else cell0, cell0]) (by simp only [(clF hc hn (by kernel_rfl) : S 11 = false)]) (q_load rfl rfl rfl rfl)) (fun _ => rfl) rfl rfl ?_
  refine DChG.op rfl (fun _ => q_fldS rfl rfl rfl (by decide)) (fun _ => rfl) rfl rfl ?_
  refine DChG.opC rfl (fun S hn hd hc => OpQ.pre (H1 := [bif false then cellZ (a.tdiv b) else cell0, cell0]) (by simp only [(clF hc hn (by kernel_rfl) : S 11 = false)]) (q_load rfl rfl rfl rfl)) (fun _ => rfl) rfl rfl ?_
  refine DChG.op rfl (fun _ => Zbd rfl rfl rfl) (fun _ => rfl) rfl rfl ?_
  refine DChG.op rfl (fun _ => q_move rfl) (fun _ => rfl) rfl rfl ?_
  refine DChG.op rfl (fun _ => q_call rfl rfl (hq)) (fun _ => rfl) rfl rfl ?_
  refine DChG.op rfl (fun _ => q_fldS rfl rfl rfl (by decide)) (fun _ => rfl) rfl rfl ?_
  refine DChG.op rfl (fun _ => q_load rfl rfl rfl rfl) (fun _ => rfl) rfl rfl ?_
  refine DChG.op rfl (fun _ => q_move rfl) (fun _ => rfl) rfl rfl ?_
  refine DChG.op rfl (fun _ => q_call rfl rfl (hr)) (fun _ => rfl) rfl rfl ?_
  refine DChG.stC rfl (fun S hn hd hc => OpN.both (H1 := [bif false then cellZ (a.tdiv b) else cell0, cell0]) (H3 := [bif true then cellZ (a.tdiv b) else cell0, cell0]) (by simp only [hn]) rfl (Zaa rfl rfl rfl rfl rfl rfl rfl rfl (Nat.le_of_ble_eq_true rfl) rfl)) rfl rfl ?_
  refine .nil (fun hG => AOps.fin (n := 2) (as' := []) (H' := [cellZ (a.tdiv b), cell0]) rfl rfl rfl ?_)
  refine y_new rfl (Zaa rfl rfl rfl rfl rfl rfl rfl rfl (Nat.le_of_ble_eq_true rfl) rfl) ?_
  refine AOps.nil (ARun.seq (ARun.seq (ARun.region ?_))); refine zzm ?_; refine zzN ?_; refine zzi ?_; refine zzm ?_
  refine AOps.bool 39 rfl (fun g => ?_) (fun g => ?_)
  · skip
    rw [hz] at g
    have g := of_decide_eq_true g
    refine zzk ?_; refine zzk ?_; refine zzk ?_; refine zzk ?_; refine zzk ?_; refine zzk ?_; refine zzk ?_; refine zzk ?_; refine zzp ?_; refine AOps.nil ?_
    refine ARun.condT rfl ?_
    refine ARun.seq ?_
    refine ARun.drawnG (n := 3) (fun S : Nat → Bool => [cellZ (a.tdiv b), cellZ (a.tmod b)]) [] (fun _ => False) (sk := []) mixC rfl rfl (by kernel_rfl) rfl (by kernel_rfl) rfl (fun _ _ _ h => h.elim) ?_
    refine DChG.op rfl (fun _ => Zab rfl rfl rfl rfl rfl rfl) (fun _ => rfl) rfl rfl ?_
    refine DChG.op rfl (fun _ => Zab rfl rfl rfl rfl rfl rfl) (fun _ => rfl) rfl rfl ?_
    refine DChG.stC rfl (fun S hn hd hc => OpN.both (H1 := [cellZ (a.tdiv b), cellZ (a.tmod b)]) (H3 := [cellZ (a.tdiv b), cellZ (a.tmod b)]) rfl rfl (Zaa rfl rfl rfl rfl rfl rfl rfl rfl (Nat.le_of_ble_eq_true rfl) rfl)) rfl rfl ?_
    refine .nil (fun hG => AOps.fin (n := 2) (as' := []) (H' := [cellZ (a.tdiv b), cellZ (a.tmod b)]) rfl rfl rfl ?_)
    refine y_new rfl (Zaa rfl rfl rfl rfl rfl rfl rfl rfl (Nat.le_of_ble_eq_true rfl) rfl) ?_
    refine AOps.nil ?_
    refine ARun.ret ?_
    refine ⟨_, _, _, ResR.cellA rfl rfl rfl rfl rfl rfl (ResR.cellA rfl rfl rfl rfl rfl rfl .nil), .cons (.same _) (.cons (.same _) .nil), rfl, ?_⟩
    unfold divW; rw [if_pos (.inl g)]; rfl
  rw [hz] at g
  have g := of_decide_eq_false g
  refine zzf ?_; refine zzl ?_
  refine y_op rfl (Zab rfl rfl rfl rfl rfl rfl) ?_
  refine y_op rfl (Zab rfl rfl rfl rfl rfl rfl) ?_
  refine zzL ?_; refine zzL ?_
  refine zzc rfl rfl (hf g) ?_
  refine zzn ?_; refine zzp ?_; refine AOps.nil ?_
  refine ARun.cond rfl (fun gw => ?_) (fun gw => ?_)
  · skip
    have gw : w = false := by simpa using gw
    refine ARun.seq ?_
    refine ARun.drawnG (n := 3) (fun S : Nat → Bool => [cellZ (a.tdiv b), cellZ (a.tmod b)]) [] (fun _ => False) (sk := []) mixC rfl rfl (by kernel_rfl) rfl (by kernel_rfl) rfl (fun _ _ _ h => h.elim) ?_
    refine DChG.op rfl (fun _ => Zab rfl rfl rfl rfl rfl rfl) (fun _ => rfl) rfl rfl ?_
    refine DChG.op rfl (fun _ => Zab rfl rfl rfl rfl rfl rfl) (fun _ => rfl) rfl rfl ?_
    refine DChG.stC rfl (fun S hn hd hc => OpN.both (H1 := [cellZ (a.tdiv b), cellZ (a.tmod b)]) (H3 := [cellZ (a.tdiv b), cellZ (a.tmod b)]) rfl rfl (Zaa rfl rfl rfl rfl rfl rfl rfl rfl (Nat.le_of_ble_eq_true rfl) rfl)) rfl rfl ?_
    refine .nil (fun hG => AOps.fin (n := 2) (as' := []) (H' := [cellZ (a.tdiv b), cellZ (a.tmod b)]) rfl rfl rfl ?_)
    refine y_new rfl (Zaa rfl rfl rfl rfl rfl rfl rfl rfl (Nat.le_of_ble_eq_true rfl) rfl) ?_
    refine AOps.nil ?_
    refine ARun.ret ?_
    refine ⟨_, _, _, ResR.cellA rfl rfl rfl rfl rfl rfl (ResR.cellA rfl rfl rfl rfl rfl rfl .nil), .cons (.same _) (.cons (.same _) .nil), rfl, ?_⟩
    unfold divW; rw [if_pos (.inr gw)]; rfl
  have gw : w = true := by simpa using gw
  have hdw : divW w a b = (a.tdiv b + stepZ a b, a.tmod b + -(sgnd (decide (a < 0)) b.natAbs)) := by
    unfold divW; rw [if_neg]; rintro (h | h)
    · exact g h
    rw [gw] at h; cases h
  have fitS : fitZ (stepZ a b) := by
    unfold fitZ stepZ; rw [sgnd_abs, lim_one]; decide
  have hstep : D.agg [.bool (!(decide (a < 0) == decide (b < 0))), numD 1] = intD (stepZ a b) := by
    unfold stepZ
    rw [intD, sgnd_abs, sgnd_neg]
    rw [show decide (0 < 1) = true from rfl, Bool.and_true]
  refine ARun.skip (ARun.seq (ARun.region ?_)); refine zzf ?_; refine zzl ?_; refine zzf ?_; refine zzl ?_
  refine y_op rfl (Zbd rfl rfl rfl) ?_
  refine y_op rfl (OpQ.cast (Zan rfl rfl rfl rfl rfl rfl rfl rfl rfl rfl rfl (by decide) (by decide) rfl) numD_one) ?_
  refine y_op rfl (OpQ.cast (Zap rfl rfl rfl rfl rfl) hstep) ?_
  refine y_new rfl (Zae rfl rfl rfl rfl) ?_
  refine y_new rfl (Zaa rfl rfl rfl rfl rfl rfl rfl rfl (Nat.le_of_ble_eq_true rfl) rfl) ?_
  refine AOps.nil (ARun.seq ?_)
  refine ARun.drawnG (n := 12) (fun S : Nat → Bool => [bif S 11 then cellZ (a.tdiv b + stepZ a b) else cellZ (a.tdiv b), cellZ (a.tmod b), cellZ (stepZ a b)]) [] (fun _ => False) (sk := []) mixC rfl rfl (by kernel_rfl) rfl (by kernel_rfl) rfl (fun _ _ _ h => h.elim) ?_
  refine DChG.opC rfl (fun S hn hd hc => OpQ.pre (H1 := [bif false then cellZ (a.tdiv b + stepZ a b) else cellZ (a.tdiv b), cellZ (a.tmod b), cellZ (stepZ a b)]) (by simp only [(clF hc hn (by kernel_rfl) : S 11 = false)]) (Zab rfl rfl rfl rfl rfl rfl)) (fun _ => rfl) rfl rfl ?_
  refine DChG.opC rfl (fun S hn hd hc => OpQ.pre (H1 := [bif false then cellZ (a.tdiv b + stepZ a b) else cellZ (a.tdiv b), cellZ (a.tmod b), cellZ (stepZ a b)]) (by simp only [(clF hc hn (by kernel_rfl) : S 11 = false)]) (Zab rfl rfl rfl rfl rfl rfl)) (fun _ => rfl) rfl rfl ?_
  refine DChG.op rfl (fun _ => q_call rfl rfl ((ZbI (a.tdiv b) (stepZ a b) (fit_tdiv ha) fitS).mono (fun o ho => (ho.resolve_right (fun h => h.1 (fit_q ha g h0))).2))) (fun _ => rfl) rfl rfl ?_
  refine DChG.op rfl (fun _ => Zab rfl rfl rfl rfl rfl rfl) (fun _ => rfl) rfl rfl ?_
  refine DChG.op rfl (fun _ => q_fldS rfl rfl rfl (by decide)) (fun _ => rfl) rfl rfl ?_
  refine DChG.op rfl (fun _ => q_load rfl rfl rfl rfl) (fun _ => rfl) rfl rfl ?_
  refine DChG.op rfl (fun _ => q_fldS rfl rfl rfl (by decide)) (fun _ => rfl) rfl rfl ?_
  refine DChG.op rfl (fun _ => q_load rfl rfl rfl rfl) (fun _ => rfl) rfl rfl ?_
  refine DChG.op rfl (fun _ => q_call rfl rfl (Zaf (decide (a < 0)) b.natAbs)) (fun _ => rfl) rfl rfl ?_
  refine DChG.op rfl (fun _ => q_call rfl rfl (Zb4 (sgnd (decide (a < 0)) b.natAbs))) (fun _ => rfl) rfl rfl ?_
  refine DChG.op rfl (fun _ => q_call rfl rfl ((ZbI (a.tmod b) (-(sgnd (decide (a < 0)) b.natAbs)) (fit_tmod hb h0) (fitZ_neg (by unfold fitZ; rw [sgnd_abs]; exact hb))).mono (fun o ho => (ho.resolve_right (fun h => h.1 (fit_r hb h0))).2))) (fun _ => rfl) rfl rfl ?_
  refine DChG.stC rfl (fun S hn hd hc => OpN.both (H1 := [bif false then cellZ (a.tdiv b + stepZ a b) else cellZ (a.tdiv b), cellZ (a.tmod b), cellZ (stepZ a b)]) (H3 := [bif true then cellZ (a.tdiv b + stepZ a b) else cellZ (a.tdiv b), cellZ (a.tmod b), cellZ (stepZ a b)]) (by simp only [hn]) rfl (Zaa rfl rfl rfl rfl rfl rfl rfl rfl (Nat.le_of_ble_eq_true rfl) rfl)) rfl rfl ?_
  refine .nil (fun hG => AOps.fin (n := 3) (as' := []) (H' := [cellZ (a.tdiv b + stepZ a b), cellZ (a.tmod b), cellZ (stepZ a b)]) rfl rfl rfl ?_)
  refine y_new rfl (Zaa rfl rfl rfl rfl rfl rfl rfl rfl (Nat.le_of_ble_eq_true rfl) rfl) ?_
  refine AOps.nil ?_
  refine ARun.ret ?_
  refine ⟨_, _, _, ResR.cellA rfl rfl rfl rfl rfl rfl (ResR.cellA rfl rfl rfl rfl rfl rfl .nil), .cons (.same _) (.cons (.same _) .nil), rfl, ?_⟩
  rw [hdw]; rfl
end Go.V
set_option synthInstance.maxSize 100000
set_option synthInstance.maxHeartbeats 2000000
namespace Go.V
open Go.RowKit Go.Proofs
theorem kindF_pc {how : Int} {f : FuncId} (h : kindF how = some f) (a b : Int) (hb : fitZ b) (h0 : b ≠ 0) (q : Int) : PC C f [intD q, intD (a.tmod b), intD a, intD b] (fun o => o = .ret (.bool (awayZ how q (a.tmod b) a b))) := by
  unfold kindF at h
  by_cases h1 : how = 1
  · subst h1; rw [if_pos rfl] at h; injection h with h; subst h; exact ZmM q _ a b
  rw [if_neg h1] at h
  by_cases h2 : how = 2
  · subst h2; rw [if_pos rfl] at h; injection h with h; subst h; exact ZmN q _ a b
  rw [if_neg h2] at h
  by_cases h3 : how = 3
  · subst h3; rw [if_pos rfl] at h; injection h with h; subst h; exact ZlZ q _ a b
  rw [if_neg h3] at h
  by_cases h4 : how = 4
  · subst h4; rw [if_pos rfl] at h; injection h with h; subst h
    exact ZmO q _ a b (fit_tmod hb h0) hb (by rw [abs_tmod]; exact Nat.mod_lt _ (by omega))
  rw [if_neg h4] at h; cases h
def divR (how : Int) (ok : Bool) (a b : Int) : (Int × Int) × Int :=
  bif ok then (if kindF how = none then ((0, 0), 1) else if b = 0 then ((0, 0), 8) else (divW (awayZ how (a.tdiv b) (a.tmod b) a b) a b, 0)) else ((0, 0), 1)
theorem fit_divW {w : Bool} {a b : Int} (ha : fitZ a) (hb : fitZ b) (h0 : b ≠ 0) : fitZ (divW w a b).1 ∧ fitZ (divW w a b).2 := by
  unfold divW
  split
  · exact ⟨fit_tdiv ha, fit_tmod hb h0⟩
  rename_i h
  exact ⟨fit_q ha (fun e => h (.inl e)) h0, fit_r hb h0⟩
theorem Zmr (d1 d2 : Bool × List Nat) (h1 : U32 d1.2) (h2 : U32 d2.2) (how : Int) : PC C Zgg [intA d1.1 d1.2, intA d2.1 d2.2, .int .i64 how] (fun o => o = .ret (.tup [intD (divR how ([d1, d2].all okI) (valI d1) (valI d2)).1.1, intD (divR how ([d1, d2].all okI) (valI d1) (valI d2)).1.2, .int .i64 (divR how ([d1, d2].all okI) (valI d1) (valI d2)).2])) := by
  have pan : ∀ (e : Int) (env : List D) (tl : Heap), env[6]? = some (.ptr 0 0) → env[7]? = some (.ptr 1 0) → env[8]? = some (.ptr 2 0) → divR how ([d1, d2].all okI) (valI d1) (valI d2) = ((0, 0), e) → (QFin C [.cell 6 27, .cell 7 27, .cell 8 31] fun o x => o.pure = true ∧ o = .ret (.tup [intD (divR how ([d1, d2].all okI) (valI d1) (valI d2)).1.1, intD (divR how ([d1, d2].all okI) (valI d1) (valI d2)).1.2, .int .i64 (divR how ([d1, d2].all okI) (valI d1) (valI d2)).2])) (.pan (failW e)) env (cell0 :: cell0 :: errO 0 :: tl) [.fn ZaV [.ptr 2 0]] := by
    intro e env tl h6 h7 h8 hr
    refine DC.mono (dcw_pan _ 2 0 e rfl) ?_
    rintro _ _ ⟨rfl, rfl⟩
    exact ⟨_, _, _, ResR.cellA h6 rfl rfl rfl rfl rfl (ResR.cellA h7 rfl rfl rfl rfl rfl (ResR.cell1 h8 rfl rfl rfl rfl .nil)), .cons fz_int0 (.cons fz_int0 (.cons (.same _) .nil)), rfl, by rw [hr]; rfl⟩
  refine PC.rn Ze4 ZiZ Zi0 (rs := [.cell 6 27, .cell 7 27, .cell 8 31]) (by rw [Zi1]) ?_
  refine ARun.seq (ARun.region ?_); refine zzb ?_; refine zzb ?_
  refine y_new rfl (Zae rfl rfl rfl rfl) ?_
  refine y_new rfl (Zae rfl rfl rfl rfl) ?_
  refine y_new rfl (Zae rfl rfl rfl rfl) ?_
  refine AOps.nil (ARun.seq (ARun.region ?_))
  refine Zdl rfl rfl rfl ?_
  refine AOps.nil (ARun.seq (ARun.region ?_)); refine zzL ?_; refine zzL ?_
  refine y_op rfl (Zan rfl rfl rfl rfl rfl rfl rfl rfl rfl rfl rfl (by decide) (by decide) rfl) ?_
  refine y_gop rfl (g_call rfl rfl (PC.gp (Zg5 [d1, d2] 2 rfl))) (fun hg => ?_) (fun q hq => by obtain ⟨hq, rfl⟩ := hq; exact pan 1 _ [] rfl rfl rfl (by rw [hq]; rfl))
  have hres := hg
  obtain ⟨a, b, rfl, fa, rfl, fb⟩ := okI2 h1 h2 hg
  rw [valI_int, valI_int] at pan ⊢
  rw [hres] at pan ⊢
  refine AOps.nil (ARun.seq (ARun.region ?_))
  refine y_op rfl (q_call (args := []) rfl rfl Zh5) ?_
  have hfk := find_kind how
  cases hk : kindF how with
  | none =>
    rw [hk] at hfk
    refine zzm ?_
    refine y_op rfl (ZjT (kt := 3) (et := 81) (by kernel_rfl) (by kernel_rfl) rfl rfl rfl rfl rfl hfk) ?_
    refine zzm ?_; refine zze ?_; refine zze ?_
    refine y_new rfl (Zae rfl rfl rfl rfl) ?_
    refine y_new rfl (Zaa rfl rfl rfl rfl rfl rfl rfl rfl (Nat.le_of_ble_eq_true rfl) rfl) ?_
    refine zza ?_; refine AOps.nil (ARun.seq (ARun.region ?_)); refine zzm ?_
    refine y_gop rfl (g_call rfl rfl (PC.gp (ZaI _ 1))) (fun hg => by cases hg) (fun q hq => by obtain ⟨hq, rfl⟩ := hq; exact pan 1 _ [some ⟨[.nilfn], ZaE, 1, true, none⟩] rfl rfl rfl (by unfold divR; rw [hk]; rfl))
  | some f =>
    rw [hk] at hfk
    refine zzm ?_
    refine y_op rfl (ZjT (kt := 3) (et := 81) (by kernel_rfl) (by kernel_rfl) rfl rfl rfl rfl rfl hfk) ?_
    refine zzm ?_; refine zze ?_; refine zze ?_
    refine y_new rfl (Zae rfl rfl rfl rfl) ?_
    refine y_new rfl (Zaa rfl rfl rfl rfl rfl rfl rfl rfl (Nat.le_of_ble_eq_true rfl) rfl) ?_
    refine zza ?_; refine AOps.nil (ARun.seq (ARun.region ?_)); refine zzm ?_
    refine y_gop rfl (g_call rfl rfl (PC.gp (ZaI _ 1))) (fun hg => ?_) (fun q hq => by obtain ⟨hq, rfl⟩ := hq; cases hq)
    refine AOps.nil (ARun.seq (ARun.region ?_)); refine zzf ?_; refine zzl ?_; refine zzN ?_; refine zzi ?_
    refine y_gop rfl (g_call rfl rfl (PC.gp (ZaI _ 8))) (fun hz => ?_) (fun q hq => by obtain ⟨hq, rfl⟩ := hq; exact pan 8 _ [some ⟨[.clos f []], ZaE, 1, true, none⟩] rfl rfl rfl (by have h : ¬ ((lim b.natAbs).length : Int) > 0 := of_decide_eq_false hq; have hb : b = 0 := (by apply Classical.byContradiction; intro hn; have := ln_pos.2 (show b.natAbs ≠ 0 by omega); omega); unfold divR; rw [hk, if_neg (by simp), if_pos hb]; rfl))
    have hb0 : b ≠ 0 := by
      have h : ((lim b.natAbs).length : Int) > 0 := of_decide_eq_true hz
      have := ln_pos.1 (show 0 < (lim b.natAbs).length by omega)
      omega
    have hfit := fit_divW (w := awayZ how (a.tdiv b) (a.tmod b) a b) fa fb hb0
    refine AOps.nil (ARun.seq (ARun.region ?_)); refine zzL ?_; refine zzL ?_
    refine y_op rfl (Zab rfl rfl rfl rfl rfl rfl) ?_
    refine zzc rfl rfl (Zg6 a b fa fb hb0 f (awayZ how (a.tdiv b) (a.tmod b) a b) (fun _ => kindF_pc hk a b fb hb0 _)) ?_
    refine zzm ?_; refine zze ?_; refine zze ?_
    refine y_new rfl (Zaa rfl rfl rfl rfl rfl rfl rfl rfl (Nat.le_of_ble_eq_true rfl) rfl) ?_
    refine y_new rfl (Zaa rfl rfl rfl rfl rfl rfl rfl rfl (Nat.le_of_ble_eq_true rfl) rfl) ?_
    refine AOps.nil (ARun.seq ?_)
    refine ARun.drawnG (n := 5) (fun S : Nat → Bool => [cellZ (divW (awayZ how (a.tdiv b) (a.tmod b) a b) a b).1, cellZ (divW (awayZ how (a.tdiv b) (a.tmod b) a b) a b).2, errO 0, some ⟨[.clos f []], ZaE, 1, true, none⟩]) [] (fun _ => False) (sk := []) mixC rfl rfl (by kernel_rfl) rfl (by kernel_rfl) rfl (fun _ _ _ h => h.elim) ?_
    refine DChG.op rfl (fun _ => Zab rfl rfl rfl rfl rfl rfl) (fun _ => rfl) rfl rfl ?_
    refine DChG.op rfl (fun _ => q_call rfl rfl (Zb5 (divW (awayZ how (a.tdiv b) (a.tmod b) a b) a b).1 hfit.1)) (fun _ => rfl) rfl rfl ?_
    refine DChG.op rfl (fun _ => Zab rfl rfl rfl rfl rfl rfl) (fun _ => rfl) rfl rfl ?_
    refine DChG.op rfl (fun _ => q_call rfl rfl (Zb5 (divW (awayZ how (a.tdiv b) (a.tmod b) a b) a b).2 hfit.2)) (fun _ => rfl) rfl rfl ?_
    refine DChG.stC rfl (fun S hn hd hc => OpN.both (H1 := [cellZ (divW (awayZ how (a.tdiv b) (a.tmod b) a b) a b).1, cellZ (divW (awayZ how (a.tdiv b) (a.tmod b) a b) a b).2, errO 0, some ⟨[.clos f []], ZaE, 1, true, none⟩]) (H3 := [cellZ (divW (awayZ how (a.tdiv b) (a.tmod b) a b) a b).1, cellZ (divW (awayZ how (a.tdiv b) (a.tmod b) a b) a b).2, errO 0, some ⟨[.clos f []], ZaE, 1, true, none⟩]) rfl rfl (Zaa rfl rfl rfl rfl rfl rfl rfl rfl (Nat.le_of_ble_eq_true rfl) rfl)) rfl rfl ?_
    refine .nil (fun hG => AOps.fin (n := 4) (as' := []) (H' := [cellZ (divW (awayZ how (a.tdiv b) (a.tmod b) a b) a b).1, cellZ (divW (awayZ how (a.tdiv b) (a.tmod b) a b) a b).2, errO 0, some ⟨[.clos f []], ZaE, 1, true, none⟩]) rfl rfl rfl ?_)
    refine y_new rfl (Zaa rfl rfl rfl rfl rfl rfl rfl rfl (Nat.le_of_ble_eq_true rfl) rfl) ?_
    refine y_new rfl (Zad rfl rfl rfl rfl rfl rfl (Nat.le_of_ble_eq_true rfl) rfl) ?_
    refine AOps.nil ?_
    refine ARun.ret ?_
    refine DC.mono (dcw_ret _ 2) ?_
    rintro _ _ ⟨rfl, rfl⟩
    exact ⟨_, _, _, ResR.cellA rfl rfl rfl rfl rfl rfl (ResR.cellA rfl rfl rfl rfl rfl rfl (ResR.cell1 rfl rfl rfl rfl rfl .nil)), .cons (.same _) (.cons (.same _) (.cons (.same _) .nil)), rfl, by unfold divR; rw [hk, if_neg (by simp), if_neg hb0]; rfl⟩
end Go.V
set_option synthInstance.maxSize 100000
set_option synthInstance.maxHeartbeats 2000000
namespace Go.V
open Go.RowKit Go.Proofs
theorem Zak (n : Int) (h1 : -9223372036854775808 ≤ n) (h2 : n ≤ 9223372036854775807) : PC C Zgf [.int .i64 n] (fun o => o = .ret (intD n)) := by
  refine PC.rn Zcr Zfi Zfj (rs := [.cell 2 27]) (by rw [Zfk]) ?_
  refine ARun.seq (ARun.region ?_)
  refine y_new rfl (Zae rfl rfl rfl rfl) ?_
  refine AOps.nil (ARun.seq (ARun.seq (ARun.region ?_))); refine zzm ?_; refine zzi ?_; refine AOps.nil ?_
  refine ARun.ite rfl (fun h => ?_) (fun h => ?_)
  · skip
    have e1 : IntKind.u64.wrap n = n + 18446744073709551616 := by unfold IntKind.wrap; simp [IntKind.signed, IntKind.bits]; omega
    have e2 : IntKind.u64.wrap (0 - (n + 18446744073709551616)) = (n.natAbs : Int) := by unfold IntKind.wrap; simp [IntKind.signed, IntKind.bits]; omega
    refine ARun.seq (ARun.region ?_); refine zzm ?_
    refine y_op rfl (q_conv rfl rfl rfl e1) ?_
    refine y_op rfl (q_neg rfl e2) ?_
    refine zzc rfl rfl (Zbf n.natAbs (by omega)) ?_
    refine zzc rfl rfl (Zaf true n.natAbs) ?_
    refine y_new rfl (Zaa rfl rfl rfl rfl rfl rfl rfl rfl (Nat.le_of_ble_eq_true rfl) rfl) ?_
    refine AOps.nil ?_
    refine ARun.ret ?_
    refine ⟨_, _, _, ResR.cellA rfl rfl rfl rfl rfl rfl .nil, .cons (.same _) .nil, rfl, ?_⟩
    have : sgnd true n.natAbs = n := by simp only [sgnd, cond_true]; omega
    rw [this]; rfl
  have e1 : IntKind.u64.wrap n = (n.natAbs : Int) := by unfold IntKind.wrap; simp [IntKind.signed, IntKind.bits]; omega
  refine ARun.skip (ARun.seq (ARun.region ?_)); refine zzm ?_
  refine y_op rfl (q_conv rfl rfl rfl e1) ?_
  refine zzc rfl rfl (Zbf n.natAbs (by omega)) ?_
  refine zzc rfl rfl (Zaf false n.natAbs) ?_
  refine y_new rfl (Zaa rfl rfl rfl rfl rfl rfl rfl rfl (Nat.le_of_ble_eq_true rfl) rfl) ?_
  refine AOps.nil ?_
  refine ARun.ret ?_
  refine ⟨_, _, _, ResR.cellA rfl rfl rfl rfl rfl rfl .nil, .cons (.same _) .nil, rfl, ?_⟩
  have : sgnd false n.natAbs = n := by simp only [sgnd, cond_false]; omega
  rw [this]; rfl
structure Eu (a b r s : Nat) (x y u v : Int) : Prop where
  e1 : (r : Int) = x * a + y * b
  e2 : (s : Int) = u * a + v * b
  b1 : x.natAbs * s + u.natAbs * r = b
  b2 : y.natAbs * s + v.natAbs * r = a
  sg : (0 ≤ x ∧ y ≤ 0 ∧ u ≤ 0 ∧ 0 ≤ v) ∨ (x ≤ 0 ∧ 0 ≤ y ∧ 0 ≤ u ∧ v ≤ 0)
  gc : Nat.gcd r s = Nat.gcd a b
theorem Eu.init (a b : Nat) : Eu a b a b 1 0 0 1 := ⟨by simp, by simp, by simp, by simp, .inl (by omega), rfl⟩
theorem abs_sub {x u : Int} {n : Nat} (h : (0 ≤ x ∧ u ≤ 0) ∨ (x ≤ 0 ∧ 0 ≤ u)) : (x + -(n : Int) * u).natAbs = x.natAbs + n * u.natAbs ∧ ((0 ≤ x ∧ u ≤ 0) → 0 ≤ x + -(n : Int) * u) ∧ ((x ≤ 0 ∧ 0 ≤ u) → x + -(n : Int) * u ≤ 0) := by
  have hn : (0 : Int) ≤ n := Int.natCast_nonneg n
  rcases h with ⟨h1, h2⟩ | ⟨h1, h2⟩
  · obtain ⟨m, hm⟩ : ∃ m : Nat, u = -(m : Int) := ⟨u.natAbs, by omega⟩
    subst hm
    have e : -(n : Int) * -(m : Int) = ((n * m : Nat) : Int) := by rw [Int.neg_mul_neg]; simp
    rw [e, Int.natAbs_neg, Int.natAbs_natCast]
    refine ⟨by omega, fun _ => by omega, fun h => ?_⟩
    have hm0 : m = 0 := by omega
    subst hm0
    simp at *; omega
  obtain ⟨m, hm⟩ : ∃ m : Nat, u = (m : Int) := ⟨u.natAbs, by omega⟩
  subst hm
  have e : -(n : Int) * (m : Int) = -((n * m : Nat) : Int) := by rw [Int.neg_mul]; simp
  rw [e, Int.natAbs_natCast]
  refine ⟨by omega, fun h => ?_, fun _ => by omega⟩
  have hm0 : m = 0 := by omega
  subst hm0
  simp at *; omega
theorem Eu.step {a b r s : Nat} {x y u v : Int} (h : Eu a b r s x y u v) (hs : 0 < s) : Eu a b s (r % s) u v (x + -((r / s : Nat) : Int) * u) (y + -((r / s : Nat) : Int) * v) := by
  obtain ⟨e1, e2, b1, b2, sg, gc⟩ := h
  have hdm := Nat.div_add_mod r s
  have hr : ((r % s : Nat) : Int) = r - (r / s : Nat) * s := by
    have : (r : Int) = s * (r / s : Nat) + (r % s : Nat) := by rw [← Int.natCast_mul, ← Int.natCast_add, hdm]
    rw [this, Int.mul_comm (s : Int)]; omega
  have ax := abs_sub (x := x) (u := u) (n := r / s) (by rcases sg with ⟨q1, q2, q3, q4⟩ | ⟨q1, q2, q3, q4⟩; exact .inl ⟨q1, q3⟩; exact .inr ⟨q1, q3⟩)
  have ay := abs_sub (x := y) (u := v) (n := r / s) (by rcases sg with ⟨q1, q2, q3, q4⟩ | ⟨q1, q2, q3, q4⟩; exact .inr ⟨q2, q4⟩; exact .inl ⟨q2, q4⟩)
  have key : ∀ p q c : Nat, p * s + q * r = c → q * (r % s) + (p + r / s * q) * s = c := by
    intro p q c hc
    rw [← hc]
    have : q * r = q * (s * (r / s) + r % s) := by rw [hdm]
    rw [this, Nat.mul_add, Nat.add_mul]
    have e : r / s * q * s = q * (s * (r / s)) := by
      rw [Nat.mul_comm (r / s) q, Nat.mul_assoc, Nat.mul_comm (r / s) s]
    omega
  refine ⟨e2, ?_, ?_, ?_, ?_, ?_⟩
  · rw [hr, e1]
    generalize ((r / s : Nat) : Int) = n
    rw [e2]
    simp only [Int.add_mul, Int.mul_add, Int.neg_mul, Int.mul_assoc]
    omega
  · rw [ax.1]; exact key _ _ _ b1
  · rw [ay.1]; exact key _ _ _ b2
  · rcases sg with ⟨q1, q2, q3, q4⟩ | ⟨q1, q2, q3, q4⟩
    · exact .inr ⟨q3, q4, ax.2.1 ⟨q1, q3⟩, ay.2.2 ⟨q2, q4⟩⟩
    exact .inl ⟨q3, q4, ax.2.2 ⟨q1, q3⟩, ay.2.1 ⟨q2, q4⟩⟩
  rw [← gc, Nat.gcd_comm r s, Nat.gcd_rec s r, Nat.gcd_comm]
end Go.V
set_option synthInstance.maxSize 100000
set_option synthInstance.maxHeartbeats 2000000
namespace Go.V
open Go.RowKit Go.Proofs
def eu (r s : Nat) (x y u v : Int) : Nat × Int × Int × Int × Int :=
  if h : s = 0 then (r, x, y, u, v) else eu s (r % s) u v (x + -((r / s : Nat) : Int) * u) (y + -((r / s : Nat) : Int) * v)
termination_by s
decreasing_by exact Nat.mod_lt _ (Nat.pos_of_ne_zero h)
theorem eu_zero (r : Nat) (x y u v : Int) : eu r 0 x y u v = (r, x, y, u, v) := by rw [eu]; rfl
theorem eu_pos {r s : Nat} (h : 0 < s) (x y u v : Int) : eu r s x y u v = eu s (r % s) u v (x + -((r / s : Nat) : Int) * u) (y + -((r / s : Nat) : Int) * v) := by
  rw [eu, dif_neg (Nat.pos_iff_ne_zero.1 h)]
theorem Eu.fin {a b : Nat} : ∀ (s r : Nat) (x y u v : Int), Eu a b r s x y u v → Eu a b (eu r s x y u v).1 0 (eu r s x y u v).2.1 (eu r s x y u v).2.2.1 (eu r s x y u v).2.2.2.1 (eu r s x y u v).2.2.2.2 := by
  intro s
  induction s using Nat.strongRecOn with
  | _ s ih =>
    intro r x y u v h
    rcases Nat.eq_zero_or_pos s with h0 | h0
    · subst h0; rw [eu_zero]; exact h
    rw [eu_pos h0]; exact ih _ (Nat.mod_lt _ h0) _ _ _ _ _ (h.step h0)
structure EuI (a b M r s : Nat) (x y u v : Int) : Prop where
  h : Eu a b r s x y u v
  f : eu r s x y u v = eu a b 1 0 0 1
  hr : r ≤ M
  hs : s ≤ M
  hx : x.natAbs ≤ M
  hy : y.natAbs ≤ M
  hu : u.natAbs ≤ M
  hv : v.natAbs ≤ M
theorem EuI.step {a b M r s : Nat} {x y u v : Int} (h : EuI a b M r s x y u v) (hs : 0 < s) (ha : a ≤ M) (hb : b ≤ M) :
    EuI a b M s (r % s) u v (x + -((r / s : Nat) : Int) * u) (y + -((r / s : Nat) : Int) * v) ∧ (-((r / s : Nat) : Int) * u).natAbs ≤ M ∧ (-((r / s : Nat) : Int) * v).natAbs ≤ M := by
  have h2 := h.h.step hs
  have sg := h.h.sg
  have ax := abs_sub (x := x) (u := u) (n := r / s) (by rcases sg with ⟨q1, q2, q3, q4⟩ | ⟨q1, q2, q3, q4⟩; exact .inl ⟨q1, q3⟩; exact .inr ⟨q1, q3⟩)
  have ay := abs_sub (x := y) (u := v) (n := r / s) (by rcases sg with ⟨q1, q2, q3, q4⟩ | ⟨q1, q2, q3, q4⟩; exact .inr ⟨q2, q4⟩; exact .inl ⟨q2, q4⟩)
  have m1 : (x + -((r / s : Nat) : Int) * u).natAbs ≤ b := by
    have := h2.b1
    have := Nat.le_mul_of_pos_right (x + -((r / s : Nat) : Int) * u).natAbs hs
    omega
  have m2 : (y + -((r / s : Nat) : Int) * v).natAbs ≤ a := by
    have := h2.b2
    have := Nat.le_mul_of_pos_right (y + -((r / s : Nat) : Int) * v).natAbs hs
    omega
  have n1 : (-((r / s : Nat) : Int) * u).natAbs = r / s * u.natAbs := by rw [Int.natAbs_mul, Int.natAbs_neg, Int.natAbs_natCast]
  have n2 : (-((r / s : Nat) : Int) * v).natAbs = r / s * v.natAbs := by rw [Int.natAbs_mul, Int.natAbs_neg, Int.natAbs_natCast]
  have hmod := Nat.mod_lt r hs
  exact ⟨⟨h2, by rw [← h.f, eu_pos hs], h.hs, by have := h.hs; omega, h.hu, h.hv, by omega, by omega⟩, by rw [n1]; omega, by rw [n2]; omega⟩
theorem fit_of_le {z : Int} {M : Nat} (h : z.natAbs ≤ M) (hM : (lim M).length ≤ 1024) : fitZ z := Nat.le_trans (ln_mono h) hM
theorem Zkw (a b : Nat) (ha : (lim a).length ≤ 1024) (hb : (lim b).length ≤ 1024) (hb0 : 0 < b) : PC C ZhH [numD a, numD b] (fun o => o = .ret (.tup [numD (eu a b 1 0 0 1).1, intD (eu a b 1 0 0 1).2.1, intD (eu a b 1 0 0 1).2.2.1, numD (eu a b 1 0 0 1).2.2.2.2.natAbs, numD (eu a b 1 0 0 1).2.2.2.1.natAbs])) := by
  obtain ⟨M, hM⟩ : ∃ M, M = max a b := ⟨_, rfl⟩
  have hML : (lim M).length ≤ 1024 := by rw [hM]; rcases Nat.le_total a b with h | h; rw [Nat.max_eq_right h]; exact hb; rw [Nat.max_eq_left h]; exact ha
  have haM : a ≤ M := by omega
  have hbM : b ≤ M := by omega
  refine PC.rn Zdc ZgN ZgO (rs := [.tmp 4, .cell 5 27, .cell 6 27, .tmp 7, .tmp 8]) (by rw [ZgP]) ?_
  refine ARun.seq (ARun.region ?_); refine zza ?_
  refine y_new rfl (Zae rfl rfl rfl rfl) ?_
  refine y_new rfl (Zae rfl rfl rfl rfl) ?_
  refine zza ?_; refine zza ?_; refine AOps.nil (ARun.seq (ARun.region ?_)); refine zzm ?_; refine zzm ?_; refine zza ?_; refine zza ?_; refine AOps.nil (ARun.seq (ARun.region ?_))
  refine zzc rfl rfl (Zak 1 (by decide) (by decide)) ?_
  refine zzc rfl rfl (Zak 0 (by decide) (by decide)) ?_
  refine y_new rfl (Zaa rfl rfl rfl rfl rfl rfl rfl rfl (Nat.le_of_ble_eq_true rfl) rfl) ?_
  refine y_new rfl (Zaa rfl rfl rfl rfl rfl rfl rfl rfl (Nat.le_of_ble_eq_true rfl) rfl) ?_
  refine AOps.nil (ARun.seq (ARun.region ?_))
  refine zzc rfl rfl (Zak 0 (by decide) (by decide)) ?_
  refine zzc rfl rfl (Zak 1 (by decide) (by decide)) ?_
  refine y_new rfl (Zae rfl rfl rfl rfl) ?_
  refine y_new rfl (Zae rfl rfl rfl rfl) ?_
  refine y_new rfl (Zaa rfl rfl rfl rfl rfl rfl rfl rfl (Nat.le_of_ble_eq_true rfl) rfl) ?_
  refine y_new rfl (Zaa rfl rfl rfl rfl rfl rfl rfl rfl (Nat.le_of_ble_eq_true rfl) rfl) ?_
  refine AOps.nil (ARun.seq (ARun.block ?_))
  refine ARun.loopI (S := Nat × Nat × Int × Int × Int × Int) (fun σ : Nat × Nat × Int × Int × Int × Int => [(13, .any), (14, .any), (15, .any), (16, .any), (23, .any), (24, .any), (25, .any), (26, .any), (27, .any), (28, .any), (29, .any), (30, .any), (31, .any), (32, .any), (33, .any), (34, .any), (35, .any), (36, .any), (37, .any), (38, .any), (39, .any), (40, .any), (41, .any), (42, .any), (43, .any), (44, .any), (45, .any), (46, .any), (47, .any), (48, .any), (49, .any), (50, .any), (51, .any), (52, .any), (9, numD σ.1), (10, numD σ.2.1)]) (fun σ : Nat × Nat × Int × Int × Int × Int => [cellZ σ.2.2.1, cellZ σ.2.2.2.1, cellZ σ.2.2.2.2.1, cellZ σ.2.2.2.2.2]) (fun σ : Nat × Nat × Int × Int × Int × Int => EuI a b M σ.1 σ.2.1 σ.2.2.1 σ.2.2.2.1 σ.2.2.2.2.1 σ.2.2.2.2.2) (fun σ : Nat × Nat × Int × Int × Int × Int => σ.2.1) ((a, b, 1, 0, 0, 1)) ?_ ?_ ?_ ?_
  · exact ⟨Eu.init a b, rfl, haM, hbM, by show 1 ≤ M; omega, Nat.zero_le _, Nat.zero_le _, by show 1 ≤ M; omega⟩
  · (repeat' first | exact envLe_nil | apply envLe_any | apply envLe_same)
  · rfl
  rintro ⟨r, s, x, y, u, v⟩ hinv ih
  dsimp only at hinv ih ⊢
  refine ARun.seq (ARun.seq (ARun.region ?_)); refine zzm ?_; refine zzN ?_; refine zzi ?_; refine AOps.nil ?_
  refine ARun.ite rfl (fun h => ?_) (fun h => ?_)
  · skip
    have hs0 : 0 < s := Nat.pos_of_ne_zero (ln_pos.1 (by omega))
    obtain ⟨hstep, hku, hkv⟩ := hinv.step hs0 haM hbM
    have hres : resD (lim r) (lim s) = (r / s, r % s, 0) := by
      unfold resD; rw [okB_lim (Nat.le_trans (ln_mono hinv.hr) hML), okB_lim (Nat.le_trans (ln_mono hinv.hs) hML), val_lim, val_lim]
      have : (lim s).length ≠ 0 := by have := ln_pos.2 (show s ≠ 0 by omega); omega
      simp only [Bool.and_self, cond_true, if_neg this]
    have hdiv : PC C Zek [numD r, numD s] (fun o => o = .ret (.tup [numD (r / s), numD (r % s), .int .i64 0])) := (Ze0 (lim r) (lim s) (U32_lim _) (U32_lim _)).mono fun o ho => by rw [ho, hres]
    have hk := Zaf true (r / s)
    rw [show sgnd true (r / s) = -((r / s : Nat) : Int) from rfl] at hk
    have fk : fitZ (-((r / s : Nat) : Int)) := by unfold fitZ; rw [Int.natAbs_neg, Int.natAbs_natCast]; exact Nat.le_trans (ln_mono (Nat.le_trans (Nat.div_le_self _ _) hinv.hr)) hML
    refine ARun.skip (ARun.block (ARun.seq (ARun.region ?_))); refine zzm ?_; refine zzm ?_
    refine zzc rfl rfl (hdiv) ?_
    refine zzm ?_; refine zze ?_; refine zze ?_; refine zze ?_; refine zza ?_; refine zza ?_; refine zza ?_; refine AOps.nil (ARun.seq (ARun.region ?_)); refine zzm ?_; refine zzi ?_; refine zzm ?_
    refine y_gop rfl (g_call rfl rfl (PC.gp (ZaI _ 0))) (fun hg => ?_) (fun q hq => by obtain ⟨hq, rfl⟩ := hq; cases hq)
    refine AOps.nil (ARun.seq (ARun.region ?_)); refine zzm ?_
    refine zzc rfl rfl (hk) ?_
    refine ZaX rfl rfl rfl rfl rfl rfl rfl rfl rfl rfl rfl ?_
    refine AOps.nil (ARun.seq (ARun.region ?_)); refine zzm ?_; refine zzm ?_; refine zza ?_; refine zza ?_; refine AOps.nil (ARun.seq ?_)
    refine ARun.drawnG (n := 7) (fun S : Nat → Bool => [bif S 6 then cellZ u else cellZ x, cellZ y, cellZ u, cellZ v]) [] (fun _ => False) (sk := []) mixC rfl rfl (by kernel_rfl) rfl (by kernel_rfl) rfl (fun _ _ _ h => h.elim) ?_
    refine DChG.opC rfl (fun S hn hd hc => OpQ.pre (H1 := [bif false then cellZ u else cellZ x, cellZ y, cellZ u, cellZ v]) (by simp only [(clF hc hn (by kernel_rfl) : S 6 = false)]) (Zab rfl rfl rfl rfl rfl rfl)) (fun _ => rfl) rfl rfl ?_
    refine DChG.opC rfl (fun S hn hd hc => OpQ.pre (H1 := [bif false then cellZ u else cellZ x, cellZ y, cellZ u, cellZ v]) (by simp only [(clF hc hn (by kernel_rfl) : S 6 = false)]) (Zab rfl rfl rfl rfl rfl rfl)) (fun _ => rfl) rfl rfl ?_
    refine DChG.op rfl (fun _ => Zbe rfl rfl rfl rfl rfl) (fun _ => rfl) rfl rfl ?_
    refine DChG.op rfl (fun _ => Zab rfl rfl rfl rfl rfl rfl) (fun _ => rfl) rfl rfl ?_
    refine DChG.op rfl (fun _ => q_call rfl rfl ((Zfh (-((r / s : Nat) : Int)) u fk (fit_of_le hinv.hu hML)).mono (fun o ho => (ho.resolve_right (fun h => h.1 (fit_of_le hku hML))).2))) (fun _ => rfl) rfl rfl ?_
    refine DChG.op rfl (fun _ => q_call rfl rfl ((ZbI x (-((r / s : Nat) : Int) * u) (fit_of_le hinv.hx hML) (fit_of_le hku hML)).mono (fun o ho => (ho.resolve_right (fun h => h.1 (fit_of_le hstep.hu hML))).2))) (fun _ => rfl) rfl rfl ?_
    refine DChG.stC rfl (fun S hn hd hc => OpN.both (H1 := [bif false then cellZ u else cellZ x, cellZ y, cellZ u, cellZ v]) (H3 := [bif true then cellZ u else cellZ x, cellZ y, cellZ u, cellZ v]) (by simp only [hn]) rfl (Zaa rfl rfl rfl rfl rfl rfl rfl rfl (Nat.le_of_ble_eq_true rfl) rfl)) rfl rfl ?_
    refine .nil (fun hG => AOps.fin (n := 4) (as' := []) (H' := [cellZ u, cellZ y, cellZ u, cellZ v]) rfl rfl rfl ?_)
    refine y_new rfl (Zaa rfl rfl rfl rfl rfl rfl rfl rfl (Nat.le_of_ble_eq_true rfl) rfl) ?_
    refine AOps.nil ?_
    refine ARun.drawnG (n := 7) (fun S : Nat → Bool => [cellZ u, bif S 6 then cellZ v else cellZ y, cellZ (x + -((r / s : Nat) : Int) * u), cellZ v]) [] (fun _ => False) (sk := []) mixC rfl rfl (by kernel_rfl) rfl (by kernel_rfl) rfl (fun _ _ _ h => h.elim) ?_
    refine DChG.opC rfl (fun S hn hd hc => OpQ.pre (H1 := [cellZ u, bif false then cellZ v else cellZ y, cellZ (x + -((r / s : Nat) : Int) * u), cellZ v]) (by simp only [(clF hc hn (by kernel_rfl) : S 6 = false)]) (Zab rfl rfl rfl rfl rfl rfl)) (fun _ => rfl) rfl rfl ?_
    refine DChG.opC rfl (fun S hn hd hc => OpQ.pre (H1 := [cellZ u, bif false then cellZ v else cellZ y, cellZ (x + -((r / s : Nat) : Int) * u), cellZ v]) (by simp only [(clF hc hn (by kernel_rfl) : S 6 = false)]) (Zab rfl rfl rfl rfl rfl rfl)) (fun _ => rfl) rfl rfl ?_
    refine DChG.op rfl (fun _ => Zbe rfl rfl rfl rfl rfl) (fun _ => rfl) rfl rfl ?_
    refine DChG.op rfl (fun _ => Zab rfl rfl rfl rfl rfl rfl) (fun _ => rfl) rfl rfl ?_
    refine DChG.op rfl (fun _ => q_call rfl rfl ((Zfh (-((r / s : Nat) : Int)) v fk (fit_of_le hinv.hv hML)).mono (fun o ho => (ho.resolve_right (fun h => h.1 (fit_of_le hkv hML))).2))) (fun _ => rfl) rfl rfl ?_
    refine DChG.op rfl (fun _ => q_call rfl rfl ((ZbI y (-((r / s : Nat) : Int) * v) (fit_of_le hinv.hy hML) (fit_of_le hkv hML)).mono (fun o ho => (ho.resolve_right (fun h => h.1 (fit_of_le hstep.hv hML))).2))) (fun _ => rfl) rfl rfl ?_
    refine DChG.stC rfl (fun S hn hd hc => OpN.both (H1 := [cellZ u, bif false then cellZ v else cellZ y, cellZ (x + -((r / s : Nat) : Int) * u), cellZ v]) (H3 := [cellZ u, bif true then cellZ v else cellZ y, cellZ (x + -((r / s : Nat) : Int) * u), cellZ v]) (by simp only [hn]) rfl (Zaa rfl rfl rfl rfl rfl rfl rfl rfl (Nat.le_of_ble_eq_true rfl) rfl)) rfl rfl ?_
    refine .nil (fun hG => AOps.fin (n := 4) (as' := []) (H' := [cellZ u, cellZ v, cellZ (x + -((r / s : Nat) : Int) * u), cellZ v]) rfl rfl rfl ?_)
    refine y_new rfl (Zaa rfl rfl rfl rfl rfl rfl rfl rfl (Nat.le_of_ble_eq_true rfl) rfl) ?_
    refine AOps.nil (ARun.inBlock ?_)
    refine ARun.again (ih ((s, r % s, u, v, (x + -((r / s : Nat) : Int) * u), (y + -((r / s : Nat) : Int) * v))) ?_ ?_) ?_ ?_
    · exact hstep
    · exact Nat.mod_lt _ hs0
    · (repeat' first | exact envLe_nil | apply envLe_any | apply envLe_same)
    rfl
  have hs0 : s = 0 := by
    apply Classical.byContradiction
    intro hn
    have := ln_pos.2 hn
    omega
  subst hs0
  have hf := hinv.f
  rw [eu_zero] at hf
  refine ARun.exit rfl ?_
  refine ARun.seq ?_
  refine ARun.drawnG (n := 11) (fun S : Nat → Bool => [cellZ x, cellZ y, cellZ u, cellZ v]) [] (fun _ => False) (sk := []) mixC rfl rfl (by kernel_rfl) rfl (by kernel_rfl) rfl (fun _ _ _ h => h.elim) ?_
  refine DChG.op rfl (fun _ => q_move rfl) (fun _ => rfl) rfl rfl ?_
  refine DChG.op rfl (fun _ => Zab rfl rfl rfl rfl rfl rfl) (fun _ => rfl) rfl rfl ?_
  refine DChG.op rfl (fun _ => Zab rfl rfl rfl rfl rfl rfl) (fun _ => rfl) rfl rfl ?_
  refine DChG.op rfl (fun _ => q_fldP rfl rfl rfl (by decide)) (fun _ => rfl) rfl rfl ?_
  refine DChG.op rfl (fun _ => Zac rfl rfl rfl rfl rfl) (fun _ => rfl) rfl rfl ?_
  refine DChG.op rfl (fun _ => q_fldP rfl rfl rfl (by decide)) (fun _ => rfl) rfl rfl ?_
  refine DChG.op rfl (fun _ => Zac rfl rfl rfl rfl rfl) (fun _ => rfl) rfl rfl ?_
  refine DChG.op rfl (fun _ => ZiP rfl) (fun _ => rfl) rfl rfl ?_
  refine DChG.stC rfl (fun S hn hd hc => OpN.both (H1 := [cellZ x, cellZ y, cellZ u, cellZ v]) (H3 := [cellZ x, cellZ y, cellZ u, cellZ v]) rfl rfl (Zaa rfl rfl rfl rfl rfl rfl rfl rfl (Nat.le_of_ble_eq_true rfl) rfl)) rfl rfl ?_
  refine DChG.stC rfl (fun S hn hd hc => OpN.both (H1 := [cellZ x, cellZ y, cellZ u, cellZ v]) (H3 := [cellZ x, cellZ y, cellZ u, cellZ v]) rfl rfl (Zaa rfl rfl rfl rfl rfl rfl rfl rfl (Nat.le_of_ble_eq_true rfl) rfl)) rfl rfl ?_
  refine DChG.op rfl (fun _ => ZiP rfl) (fun _ => rfl) rfl rfl ?_
  refine .nil (fun hG => AOps.fin (n := 4) (as' := []) (H' := [cellZ x, cellZ y, cellZ u, cellZ v]) rfl rfl rfl ?_)
  refine zza ?_; refine AOps.nil ?_
  refine ARun.ret ?_
  refine ⟨_, _, _, .tmp rfl (ResR.cellA rfl rfl rfl rfl rfl rfl (ResR.cellA rfl rfl rfl rfl rfl rfl (.tmp rfl (.tmp rfl .nil)))), .cons (.same _) (.cons (.same _) (.cons (.same _) (.cons (.same _) (.cons (.same _) .nil)))), rfl, ?_⟩
  rw [← hf]; rfl
end Go.V
set_option synthInstance.maxSize 100000
set_option synthInstance.maxHeartbeats 2000000
namespace Go.V
open Go.RowKit Go.Proofs
theorem eu_abs : ∀ (s r : Nat) (x y u v : Int), (x.natAbs ≤ u.natAbs ∧ s < r) ∨ (x.natAbs = 1 ∧ u = 0 ∧ 0 < s) → (eu r s x y u v).2.1.natAbs ≤ (eu r s x y u v).2.2.2.1.natAbs ∨ ¬ ((0 ≤ x ∧ u ≤ 0) ∨ (x ≤ 0 ∧ 0 ≤ u)) := by
  intro s
  induction s using Nat.strongRecOn with
  | _ s ih =>
    intro r x y u v h
    by_cases sg : (0 ≤ x ∧ u ≤ 0) ∨ (x ≤ 0 ∧ 0 ≤ u)
    · left
      rcases Nat.eq_zero_or_pos s with h0 | h0
      · subst h0
        rw [eu_zero]
        rcases h with h | h
        · exact h.1
        omega
      rw [eu_pos h0]
      have hm := Nat.mod_lt r h0
      obtain ⟨a1, a2, a3⟩ := abs_sub (n := r / s) sg
      have hsg' : (0 ≤ u ∧ x + -((r / s : Nat) : Int) * u ≤ 0) ∨ (u ≤ 0 ∧ 0 ≤ x + -((r / s : Nat) : Int) * u) := by
        rcases sg with q | q
        · exact .inr ⟨q.2, a2 q⟩
        exact .inl ⟨q.2, a3 q⟩
      refine (ih _ hm s u v _ _ (.inl ⟨?_, hm⟩)).resolve_right (fun h => h hsg')
      rw [a1]
      rcases h with ⟨h1, h2⟩ | ⟨h1, h2, h3⟩
      · have : 1 ≤ r / s := (Nat.one_le_div_iff h0).2 (Nat.le_of_lt h2)
        have := Nat.le_mul_of_pos_left u.natAbs this
        omega
      subst h2; simp
    exact .inr sg
structure EuE (a b : Nat) (F : Nat × Int × Int × Int × Int) : Prop where
  g : F.1 = Nat.gcd a b
  e : (F.1 : Int) = F.2.1 * a + F.2.2.1 * b
  q : F.2.2.2.1.natAbs * F.1 = b
  p : F.2.2.2.2.natAbs * F.1 = a
  x : F.2.1.natAbs ≤ F.2.2.2.1.natAbs
theorem eu_end {a b : Nat} (hb : 0 < b) : EuE a b (eu a b 1 0 0 1) := by
  have h := Eu.fin b a 1 0 0 1 (Eu.init a b)
  refine ⟨?_, h.e1, ?_, ?_, ?_⟩
  · have := h.gc; rw [Nat.gcd_zero_right] at this; exact this
  · have := h.b1; rw [Nat.mul_zero, Nat.zero_add] at this; exact this
  · have := h.b2; rw [Nat.mul_zero, Nat.zero_add] at this; exact this
  exact (eu_abs b a 1 0 0 1 (.inr ⟨rfl, rfl, hb⟩)).resolve_right (fun h => h (.inl ⟨by decide, by decide⟩))
def gX (a b : Int) : Int := sgnd (decide (a < 0)) 1 * (eu a.natAbs b.natAbs 1 0 0 1).2.1
def gY (a b : Int) : Int := sgnd (decide (b < 0)) 1 * (eu a.natAbs b.natAbs 1 0 0 1).2.2.1
def gQ (a b : Int) : Nat := (eu a.natAbs b.natAbs 1 0 0 1).2.2.2.1.natAbs
def gP (a b : Int) : Nat := (eu a.natAbs b.natAbs 1 0 0 1).2.2.2.2.natAbs
theorem sgn_abs (a : Int) : sgnd (decide (a < 0)) 1 * (a.natAbs : Int) = a ∧ sgnd (decide (a < 0)) 1 * a = a.natAbs := by
  by_cases h : a < 0
  · rw [decide_eq_true h]; simp only [sgnd, cond_true]; omega
  rw [decide_eq_false h]; simp only [sgnd, cond_false]; omega
theorem gXY {a b : Int} (hb : b ≠ 0) : a * gX a b + b * gY a b = (Nat.gcd a.natAbs b.natAbs : Int) := by
  obtain ⟨g, e, _, _, _⟩ := eu_end (a := a.natAbs) (b := b.natAbs) (by omega)
  unfold gX gY
  rw [← g, e, ← Int.mul_assoc, ← Int.mul_assoc, Int.mul_comm a, Int.mul_comm b, (sgn_abs a).2, (sgn_abs b).2, Int.mul_comm (a.natAbs : Int), Int.mul_comm (b.natAbs : Int)]
end Go.V
set_option synthInstance.maxSize 100000
set_option synthInstance.maxHeartbeats 2000000
namespace Go.V
open Go.RowKit Go.Proofs
abbrev gG (a b : Int) : Nat := Nat.gcd a.natAbs b.natAbs
def gBk (a b : Int) : Int := sgnd (!(decide (a < 0) == decide (b < 0))) (gP a b)
def gcdX (a b : Int) : Int := if b = 0 then a.sign else gX a b % (gQ a b : Int)
def gcdY (a b : Int) : Int := if b = 0 then 0 else ((gG a b : Int) - a * gcdX a b) / b
section
variable {a b : Int} (hb : b ≠ 0)
include hb
theorem gQ_mul : gQ a b * gG a b = b.natAbs := by
  have h := eu_end (a := a.natAbs) (b := b.natAbs) (by omega)
  have := h.q
  rw [h.g] at this; exact this
theorem gP_mul : gP a b * gG a b = a.natAbs := by
  have h := eu_end (a := a.natAbs) (b := b.natAbs) (by omega)
  have := h.p
  rw [h.g] at this; exact this
theorem gG_pos : 0 < gG a b := Nat.gcd_pos_of_pos_right _ (by omega)
theorem gQ_pos : 0 < gQ a b := by
  apply Nat.pos_of_ne_zero
  intro h
  have := gQ_mul (a := a) hb
  rw [h, Nat.zero_mul] at this
  omega
theorem gQ_le : gQ a b ≤ b.natAbs := by
  have := gQ_mul (a := a) hb
  have := Nat.le_mul_of_pos_right (gQ a b) (gG_pos (a := a) hb)
  omega
theorem gP_le : gP a b ≤ a.natAbs := by
  have := gP_mul (a := a) hb
  have := Nat.le_mul_of_pos_right (gP a b) (gG_pos (a := a) hb)
  omega
theorem gBk_eq : a * (gQ a b : Int) = b * gBk a b := by
  have h1 := gQ_mul (a := a) hb
  have h2 := gP_mul (a := a) hb
  have h3 : a.natAbs * gQ a b = b.natAbs * gP a b := by
    rw [← h1, ← h2, Nat.mul_right_comm, Nat.mul_comm (gP a b) (gQ a b)]
    rw [Nat.mul_right_comm (gQ a b)]
  have h4 : (a.natAbs : Int) * (gQ a b : Int) = (b.natAbs : Int) * (gP a b : Int) := by rw [← Int.natCast_mul, ← Int.natCast_mul, h3]
  unfold gBk
  by_cases ha : a < 0 <;> by_cases hb' : b < 0
  · rw [decide_eq_true ha, decide_eq_true hb']
    simp only [beq_self_eq_true, Bool.not_true, sgnd, cond_false]
    have e1 : a * (gQ a b : Int) = -((a.natAbs : Int) * (gQ a b : Int)) := by rw [← Int.neg_mul]; congr 1; omega
    have e2 : b * (gP a b : Int) = -((b.natAbs : Int) * (gP a b : Int)) := by rw [← Int.neg_mul]; congr 1; omega
    rw [e1, e2, h4]
  · rw [decide_eq_true ha, decide_eq_false hb']
    simp only [show (!(true == false)) = true from rfl, sgnd, cond_true]
    rw [Int.mul_neg]
    have e1 : a * (gQ a b : Int) = -((a.natAbs : Int) * (gQ a b : Int)) := by rw [← Int.neg_mul]; congr 1; omega
    have e2 : b * (gP a b : Int) = (b.natAbs : Int) * (gP a b : Int) := by congr 1; omega
    rw [e1, e2, h4]
  · rw [decide_eq_false ha, decide_eq_true hb']
    simp only [show (!(false == true)) = true from rfl, sgnd, cond_true]
    rw [Int.mul_neg]
    have e1 : a * (gQ a b : Int) = (a.natAbs : Int) * (gQ a b : Int) := by congr 1; omega
    have e2 : b * (gP a b : Int) = -((b.natAbs : Int) * (gP a b : Int)) := by rw [← Int.neg_mul]; congr 1; omega
    rw [e1, e2, h4]; omega
  rw [decide_eq_false ha, decide_eq_false hb']
  simp only [beq_self_eq_true, Bool.not_true, sgnd, cond_false]
  have e1 : a * (gQ a b : Int) = (a.natAbs : Int) * (gQ a b : Int) := by congr 1; omega
  have e2 : b * (gP a b : Int) = (b.natAbs : Int) * (gP a b : Int) := by congr 1; omega
  rw [e1, e2, h4]
theorem gX_abs : (gX a b).natAbs ≤ gQ a b := by
  have h := eu_end (a := a.natAbs) (b := b.natAbs) (by omega)
  unfold gX gQ
  rw [Int.natAbs_mul, sgnd_abs, Nat.one_mul]; exact h.x
theorem Zkx {x y : Int} (h : a * x + b * y = (gG a b : Int)) (h0 : 0 ≤ x) (h1 : x < gQ a b) : y.natAbs ≤ max a.natAbs 1 := by
  have hg := gG_pos (a := a) hb
  have hq := gQ_le (a := a) hb
  have e : (b * y).natAbs = b.natAbs * y.natAbs := Int.natAbs_mul _ _
  have hby : b * y = (gG a b : Int) - a * x := by omega
  obtain ⟨X, rfl⟩ : ∃ X : Nat, x = X := ⟨x.toNat, by omega⟩
  have hX : X + 1 ≤ gQ a b := by omega
  have hax : (a * (X : Int)).natAbs = a.natAbs * X := by rw [Int.natAbs_mul, Int.natAbs_natCast]
  have m1 : a.natAbs * (X + 1) ≤ a.natAbs * b.natAbs := Nat.mul_le_mul_left _ (by omega)
  rw [Nat.mul_add, Nat.mul_one] at m1
  rcases Nat.eq_zero_or_pos a.natAbs with ha | ha
  · have hgb : gG a b = b.natAbs := by show Nat.gcd a.natAbs b.natAbs = _; rw [ha, Nat.gcd_zero_left]
    have ha0 : a * (X : Int) = 0 := by rw [show a = 0 by omega, Int.zero_mul]
    rw [ha0] at hby
    rw [hby] at e
    have : b.natAbs * y.natAbs = b.natAbs := by rw [← e]; omega
    have hy1 : y.natAbs = 1 := Nat.eq_of_mul_eq_mul_left (show 0 < b.natAbs by omega) (by rw [this, Nat.mul_one])
    omega
  have hga : gG a b ≤ a.natAbs := Nat.gcd_le_left _ ha
  have : b.natAbs * y.natAbs ≤ b.natAbs * a.natAbs := by
    rw [← e, hby, Nat.mul_comm b.natAbs]
    generalize a * (X : Int) = z at *
    omega
  have := Nat.le_of_mul_le_mul_left this (show 0 < b.natAbs by omega)
  omega
theorem gcdXY {x y : Int} (h : a * x + b * y = (gG a b : Int)) (h0 : 0 ≤ x) (h1 : x < gQ a b) (hm : x % (gQ a b : Int) = gX a b % (gQ a b : Int)) : x = gcdX a b ∧ y = gcdY a b := by
  have hx : x = gcdX a b := by unfold gcdX; rw [if_neg hb, ← hm, Int.emod_eq_of_lt h0 h1]
  refine ⟨hx, ?_⟩
  unfold gcdY
  rw [if_neg hb, ← hx, ← h, show a * x + b * y - a * x = b * y by omega, Int.mul_ediv_cancel_left _ hb]
omit hb in
theorem fit_max {y : Int} (ha : fitZ a) (h : y.natAbs ≤ max a.natAbs 1) : fitZ y := by
  refine Nat.le_trans (ln_mono h) ?_
  rcases Nat.le_total a.natAbs 1 with h | h
  · rw [Nat.max_eq_right h, lim_one]; decide
  rw [Nat.max_eq_left h]; exact ha
end
end Go.V
set_option synthInstance.maxSize 100000
set_option synthInstance.maxHeartbeats 2000000
namespace Go.V
open Go.RowKit Go.Proofs
abbrev czs (z : Int) : List D := [.bool (decide (z < 0)), numD z.natAbs]
theorem fit_nat {n m : Nat} (h : n ≤ m) (hm : (lim m).length ≤ 1024) : fitZ (n : Int) := by unfold fitZ; rw [Int.natAbs_natCast]; exact Nat.le_trans (ln_mono h) hm
theorem sgn_xor (a : Int) (z : Int) : sgnd (!(decide (z < 0) == decide (a < 0))) z.natAbs = sgnd (decide (a < 0)) 1 * z := by
  by_cases h1 : z < 0 <;> by_cases h2 : a < 0
  · rw [decide_eq_true h1, decide_eq_true h2]; simp only [beq_self_eq_true, Bool.not_true, sgnd, cond_false, cond_true]; omega
  · rw [decide_eq_true h1, decide_eq_false h2]; simp only [show (!(true == false)) = true from rfl, sgnd, cond_false, cond_true]; omega
  · rw [decide_eq_false h1, decide_eq_true h2]; simp only [show (!(false == true)) = true from rfl, sgnd, cond_false, cond_true]; omega
  rw [decide_eq_false h1, decide_eq_false h2]; simp only [beq_self_eq_true, Bool.not_true, sgnd, cond_false]; omega
theorem cmpZ_geq {x y : Int} (h : decide (0 ≤ cmpZ x y) = true) : y ≤ x := by
  have h := of_decide_eq_true h
  unfold cmpZ at h; split at h <;> omega
theorem cmpZ_ngeq {x y : Int} (h : decide (0 ≤ cmpZ x y) = false) : x < y := by
  have h := of_decide_eq_false h
  unfold cmpZ at h; split at h
  · assumption
  exfalso; split at h <;> omega
theorem EuI.fin {a b M : Nat} (ha : a ≤ M) (hb : b ≤ M) : ∀ (s r : Nat) (x y u v : Int), EuI a b M r s x y u v → (eu a b 1 0 0 1).2.2.1.natAbs ≤ M := by
  intro s
  induction s using Nat.strongRecOn with
  | _ s ih =>
    intro r x y u v h
    rcases Nat.eq_zero_or_pos s with h0 | h0
    · subst h0
      have := h.f
      rw [eu_zero] at this
      rw [← this]; exact h.hy
    exact ih _ (Nat.mod_lt _ h0) _ _ _ _ _ (h.step h0 ha hb).1
theorem gY_fit {a b : Int} (ha : fitZ a) (hb : fitZ b) (h0 : b ≠ 0) : fitZ (gY a b) := by
  have h := EuI.fin (a := a.natAbs) (b := b.natAbs) (M := max a.natAbs b.natAbs) (by omega) (by omega) _ _ _ _ _ _ ⟨Eu.init _ _, rfl, by omega, by omega, by show 1 ≤ _; omega, Nat.zero_le _, Nat.zero_le _, by show 1 ≤ _; omega⟩
  have e : (gY a b).natAbs = (eu a.natAbs b.natAbs 1 0 0 1).2.2.1.natAbs := by unfold gY; rw [Int.natAbs_mul, sgnd_abs, Nat.one_mul]
  unfold fitZ
  rw [e]
  refine Nat.le_trans (ln_mono h) ?_
  rcases Nat.le_total a.natAbs b.natAbs with h | h
  · rw [Nat.max_eq_right h]; exact hb
  rw [Nat.max_eq_left h]; exact ha
structure GL (a b x y : Int) : Prop where
  e : a * x + b * y = (gG a b : Int)
  m : x % (gQ a b : Int) = gX a b % (gQ a b : Int)
  lo : -(gQ a b : Int) ≤ x
  hi : x ≤ gQ a b
  fy : fitZ y
theorem Zms (a b : Int) (ha : fitZ a) (hb : fitZ b) : PC C Zkd [intD a, intD b] (fun o => o = .ret (.tup [intD (gG a b), intD (gcdX a b), intD (gcdY a b)])) := by
  refine PC.rn Ze8 Zjg Zjh (rs := [.cell 4 27, .cell 5 27, .cell 6 27]) (by rw [Zji]) ?_
  refine ARun.seq (ARun.region ?_); refine zzb ?_; refine zzb ?_
  refine y_new rfl (Zae rfl rfl rfl rfl) ?_
  refine y_new rfl (Zae rfl rfl rfl rfl) ?_
  refine y_new rfl (Zae rfl rfl rfl rfl) ?_
  refine AOps.nil (ARun.seq (ARun.seq (ARun.region ?_))); refine zzf ?_; refine zzl ?_; refine zzN ?_; refine zzi ?_; refine AOps.nil ?_
  refine ARun.cond rfl (fun h => ?_) (fun h => ?_)
  · skip
    have hb0 : b = 0 := by
      have h : (lim b.natAbs).length = 0 := by simpa using h
      apply Classical.byContradiction
      intro hn
      have := ln_pos.2 (show b.natAbs ≠ 0 by omega)
      omega
    subst hb0
    refine ARun.seq ?_
    refine ARun.drawnG (n := 9) (fun S : Nat → Bool => [bif S 7 then cellZ (a.natAbs : Int) else cell0, bif S 8 then cellZ a.sign else cell0, cell0]) [] (fun _ => False) (sk := []) mixC rfl rfl (by kernel_rfl) rfl (by kernel_rfl) rfl (fun _ _ _ h => h.elim) ?_
    refine DChG.op rfl (fun _ => q_fldS rfl rfl rfl (by decide)) (fun _ => rfl) rfl rfl ?_
    refine DChG.opC rfl (fun S hn hd hc => OpQ.pre (H1 := [bif false then cellZ (a.natAbs : Int) else cell0, bif false then cellZ a.sign else cell0, cell0]) (by simp only [(clF hc hn (by kernel_rfl) : S 7 = false), (clF hc hn (by kernel_rfl) : S 8 = false)]) (q_load rfl rfl rfl rfl)) (fun _ => rfl) rfl rfl ?_
    refine DChG.op rfl (fun _ => q_call rfl rfl (Zaf false a.natAbs)) (fun _ => rfl) rfl rfl ?_
    refine DChG.opC rfl (fun S hn hd hc => OpQ.pre (H1 := [bif S 7 then cellZ (a.natAbs : Int) else cell0, bif false then cellZ a.sign else cell0, cell0]) (by simp only [(clF hc hn (by kernel_rfl) : S 8 = false)]) (Zbe rfl rfl rfl rfl rfl)) (fun _ => rfl) rfl rfl ?_
    refine DChG.op rfl (fun _ => q_call rfl rfl (ZlW a)) (fun _ => rfl) rfl rfl ?_
    refine DChG.op rfl (fun _ => q_call rfl rfl (Zak a.sign (by have := Int.sign_trichotomy a; omega) (by have := Int.sign_trichotomy a; omega))) (fun _ => rfl) rfl rfl ?_
    refine DChG.op rfl (fun _ => q_call rfl rfl (Zak 0 (by decide) (by decide))) (fun _ => rfl) rfl rfl ?_
    refine DChG.stC rfl (fun S hn hd hc => OpN.both (H1 := [bif false then cellZ (a.natAbs : Int) else cell0, bif false then cellZ a.sign else cell0, cell0]) (H3 := [bif true then cellZ (a.natAbs : Int) else cell0, bif false then cellZ a.sign else cell0, cell0]) (by simp only [hn, (clF hc hn (by kernel_rfl) : S 8 = false)]) (by show [bif true then cellZ (a.natAbs : Int) else cell0, bif S 8 then cellZ a.sign else cell0, cell0] = _; simp only [(clF hc hn (by kernel_rfl) : S 8 = false)]) (Zaa rfl rfl rfl rfl rfl rfl rfl rfl (Nat.le_of_ble_eq_true rfl) rfl)) rfl rfl ?_
    refine DChG.stC rfl (fun S hn hd hc => OpN.both (H1 := [bif true then cellZ (a.natAbs : Int) else cell0, bif false then cellZ a.sign else cell0, cell0]) (H3 := [bif true then cellZ (a.natAbs : Int) else cell0, bif true then cellZ a.sign else cell0, cell0]) (by simp only [hn, (hd 7 (by kernel_rfl) : S 7 = true)]) (by show [bif S 7 then cellZ (a.natAbs : Int) else cell0, bif true then cellZ a.sign else cell0, cell0] = _; simp only [(hd 7 (by kernel_rfl) : S 7 = true)]) (Zaa rfl rfl rfl rfl rfl rfl rfl rfl (Nat.le_of_ble_eq_true rfl) rfl)) rfl rfl ?_
    refine .nil (fun hG => AOps.fin (n := 3) (as' := []) (H' := [cellZ (a.natAbs : Int), cellZ a.sign, cell0]) rfl rfl rfl ?_)
    refine y_new rfl (Zaa rfl rfl rfl rfl rfl rfl rfl rfl (Nat.le_of_ble_eq_true rfl) rfl) ?_
    refine AOps.nil ?_
    refine ARun.ret ?_
    refine ⟨_, _, _, ResR.cellA rfl rfl rfl rfl rfl rfl (ResR.cellA rfl rfl rfl rfl rfl rfl (ResR.cellA rfl rfl rfl rfl rfl rfl .nil)), .cons (.same _) (.cons (.same _) (.cons (.same _) .nil)), rfl, ?_⟩
    unfold gcdX gcdY gG
    rw [if_pos rfl, if_pos rfl, show (0 : Int).natAbs = 0 from rfl, Nat.gcd_zero_right]; rfl
  have hb0 : b ≠ 0 := by
    intro hn
    subst hn
    rw [show (0 : Int).natAbs = 0 from rfl, lim_zero] at h
    cases h
  obtain ⟨eg, ee, eq, ep, ex⟩ := eu_end (a := a.natAbs) (b := b.natAbs) (by omega)
  have hx1 := Zaf (!(decide ((eu a.natAbs b.natAbs 1 0 0 1).2.1 < 0) == decide (a < 0))) (eu a.natAbs b.natAbs 1 0 0 1).2.1.natAbs
  rw [sgn_xor] at hx1
  have hy1 := Zaf (!(decide ((eu a.natAbs b.natAbs 1 0 0 1).2.2.1 < 0) == decide (b < 0))) (eu a.natAbs b.natAbs 1 0 0 1).2.2.1.natAbs
  rw [sgn_xor] at hy1
  refine ARun.skip (ARun.seq (ARun.region ?_)); refine zzf ?_; refine zzl ?_; refine zzf ?_; refine zzl ?_
  refine zzc rfl rfl (Zkw a.natAbs b.natAbs ha hb (by omega)) ?_
  refine zzm ?_; refine zze ?_; refine zze ?_; refine zze ?_; refine zze ?_; refine zze ?_; refine zza ?_
  refine y_new rfl (Zaa rfl rfl rfl rfl rfl rfl rfl rfl (Nat.le_of_ble_eq_true rfl) rfl) ?_
  refine y_new rfl (Zaa rfl rfl rfl rfl rfl rfl rfl rfl (Nat.le_of_ble_eq_true rfl) rfl) ?_
  refine zza ?_; refine zza ?_; refine AOps.nil (ARun.seq (ARun.region ?_))
  refine y_op rfl (q_fldP rfl rfl rfl (by decide)) ?_
  refine y_op rfl (Zac rfl rfl rfl rfl rfl) ?_
  refine zzf ?_; refine zzl ?_
  refine y_op rfl (Zbd rfl rfl rfl) ?_
  refine y_op rfl (q_fldP rfl rfl rfl (by decide)) ?_
  refine y_op rfl (Zac rfl rfl rfl rfl rfl) ?_
  refine zzc rfl rfl (hx1) ?_
  refine y_new rfl (Zaa rfl rfl rfl rfl rfl rfl rfl rfl (Nat.le_of_ble_eq_true rfl) rfl) ?_
  refine AOps.nil (ARun.seq (ARun.region ?_))
  refine y_op rfl (q_fldP rfl rfl rfl (by decide)) ?_
  refine y_op rfl (Zac rfl rfl rfl rfl rfl) ?_
  refine zzf ?_; refine zzl ?_
  refine y_op rfl (Zbd rfl rfl rfl) ?_
  refine y_op rfl (q_fldP rfl rfl rfl (by decide)) ?_
  refine y_op rfl (Zac rfl rfl rfl rfl rfl) ?_
  refine zzc rfl rfl (hy1) ?_
  refine y_new rfl (Zaa rfl rfl rfl rfl rfl rfl rfl rfl (Nat.le_of_ble_eq_true rfl) rfl) ?_
  refine AOps.nil (ARun.seq ?_)
  refine ARun.drawnG (n := 12) (fun S : Nat → Bool => [cell0, cellZ (gX a b), cellZ (gY a b)]) [(9, 10, 27, [.bool false, .nilsl], some (11, czs (gQ a b : Int))), (10, 11, 27, [.bool false, .nilsl], none)] (fun _ => False) (sk := [(9, some 11), (10, none)]) mixC rfl rfl (by kernel_rfl) rfl (by kernel_rfl) rfl (fun _ _ _ h => h.elim) ?_
  refine DChG.op rfl (fun _ => q_move rfl) (fun _ => rfl) rfl rfl ?_
  refine DChG.op rfl (fun _ => q_call rfl rfl (Zaf false (gQ a b))) (fun _ => rfl) rfl rfl ?_
  refine DChG.op rfl (fun _ => q_fldS rfl rfl rfl (by decide)) (fun _ => rfl) rfl rfl ?_
  refine DChG.op rfl (fun _ => q_load rfl rfl rfl rfl) (fun _ => rfl) rfl rfl ?_
  refine DChG.op rfl (fun _ => q_fldS rfl rfl rfl (by decide)) (fun _ => rfl) rfl rfl ?_
  refine DChG.op rfl (fun _ => q_load rfl rfl rfl rfl) (fun _ => rfl) rfl rfl ?_
  refine DChG.op rfl (fun _ => Zbd rfl rfl rfl) (fun _ => rfl) rfl rfl ?_
  refine DChG.op rfl (fun _ => q_move rfl) (fun _ => rfl) rfl rfl ?_
  refine DChG.op rfl (fun _ => q_call rfl rfl (Zaf (!(decide (a < 0) == decide (b < 0))) (gP a b))) (fun _ => rfl) rfl rfl ?_
  refine .al rfl rfl rfl rfl (fun _ => rfl) rfl rfl rfl ?_
  refine .al rfl rfl rfl rfl (fun _ => rfl) rfl rfl rfl ?_
  refine .sp (j := 9) rfl rfl rfl rfl rfl rfl rfl (fun _ => rfl) rfl rfl rfl (by kernel_rfl) ?_
  refine .nil (fun hG => AOps.fin (n := 3) (as' := [(9, 10, 27, czs (gQ a b : Int)), (10, 11, 27, [.bool false, .nilsl])]) (H' := [cell0, cellZ (gX a b), cellZ (gY a b), cellZ (gQ a b : Int), cell0]) rfl rfl rfl ?_)
  refine y_new rfl (Zaa rfl rfl rfl rfl rfl rfl rfl rfl (Nat.le_of_ble_eq_true rfl) rfl) ?_
  refine AOps.nil (ARun.seq (ARun.block ?_))
  have hq0 := gQ_pos (a := a) hb0
  have hqb := gQ_le (a := a) hb0
  have hXq := gX_abs (a := a) hb0
  have hbk := gBk_eq (a := a) hb0
  have fq : fitZ (gQ a b : Int) := fit_nat hqb hb
  have fbk : fitZ (gBk a b) := by unfold fitZ gBk; rw [sgnd_abs]; exact Nat.le_trans (ln_mono (gP_le (a := a) hb0)) ha
  have fx : ∀ x : Int, -(gQ a b : Int) ≤ x → x ≤ gQ a b → fitZ x := fun x h1 h2 => fit_mono (y := b) (by omega) hb
  refine ARun.loopI (S := Int × Int) (fun σ : Int × Int => [(59, .any), (60, .any), (61, .any), (62, .any), (63, .any), (64, .any), (65, .any), (66, .any), (67, .any)]) (fun σ : Int × Int => [cell0, cellZ σ.1, cellZ σ.2, cellZ (gQ a b : Int), cellZ (gBk a b)]) (fun σ : Int × Int => GL a b σ.1 σ.2) (fun σ : Int × Int => (-σ.1).toNat) ((gX a b, gY a b)) ?_ ?_ ?_ ?_
  · exact ⟨gXY hb0, rfl, by show -(gQ a b : Int) ≤ gX a b; omega, by show gX a b ≤ gQ a b; omega, gY_fit ha hb hb0⟩
  · (repeat' first | exact envLe_nil | apply envLe_any | apply envLe_same)
  · rfl
  rintro ⟨x, y⟩ hinv ih
  dsimp only at hinv ih ⊢
  refine ARun.seq (ARun.seq (ARun.region ?_))
  refine y_op rfl (q_fldP rfl rfl rfl (by decide)) ?_
  refine y_op rfl (Zac rfl rfl rfl rfl rfl) ?_
  refine AOps.nil ?_
  refine ARun.cond rfl (fun hx => ?_) (fun hx => ?_)
  · skip
    have hx := of_decide_eq_true hx
    have l1 := hinv.lo
    have e2 : a * (x + (gQ a b : Int)) + b * (y + -gBk a b) = (gG a b : Int) := by
      rw [Int.mul_add, Int.mul_add, hbk, Int.mul_neg]; have := hinv.e; omega
    have fy2 : fitZ (y + -gBk a b) := fit_max ha (Zkx hb0 e2 (by omega) (by omega))
    refine ARun.skip (ARun.block ?_)
    refine ARun.drawnG (n := 8) (fun S : Nat → Bool => [cell0, bif S 7 then cellZ (x + (gQ a b : Int)) else cellZ x, cellZ y, cellZ (gQ a b : Int), cellZ (gBk a b)]) [] (fun _ => False) (sk := []) mixC rfl rfl (by kernel_rfl) rfl (by kernel_rfl) rfl (fun _ _ _ h => h.elim) ?_
    refine DChG.opC rfl (fun S hn hd hc => OpQ.pre (H1 := [cell0, bif false then cellZ (x + (gQ a b : Int)) else cellZ x, cellZ y, cellZ (gQ a b : Int), cellZ (gBk a b)]) (by simp only [(clF hc hn (by kernel_rfl) : S 7 = false)]) (Zab rfl rfl rfl rfl rfl rfl)) (fun _ => rfl) rfl rfl ?_
    refine DChG.opC rfl (fun S hn hd hc => OpQ.pre (H1 := [cell0, bif false then cellZ (x + (gQ a b : Int)) else cellZ x, cellZ y, cellZ (gQ a b : Int), cellZ (gBk a b)]) (by simp only [(clF hc hn (by kernel_rfl) : S 7 = false)]) (Zab rfl rfl rfl rfl rfl rfl)) (fun _ => rfl) rfl rfl ?_
    refine DChG.op rfl (fun _ => q_call rfl rfl ((ZbI x (gQ a b : Int) (fx x l1 hinv.hi) fq).mono (fun o ho => (ho.resolve_right (fun h => h.1 (fx _ (by omega) (by omega)))).2))) (fun _ => rfl) rfl rfl ?_
    refine DChG.op rfl (fun _ => Zab rfl rfl rfl rfl rfl rfl) (fun _ => rfl) rfl rfl ?_
    refine DChG.op rfl (fun _ => Zab rfl rfl rfl rfl rfl rfl) (fun _ => rfl) rfl rfl ?_
    refine DChG.op rfl (fun _ => q_call rfl rfl (Zb4 (gBk a b))) (fun _ => rfl) rfl rfl ?_
    refine DChG.op rfl (fun _ => q_call rfl rfl ((ZbI y (-gBk a b) hinv.fy (fitZ_neg fbk)).mono (fun o ho => (ho.resolve_right (fun h => h.1 fy2)).2))) (fun _ => rfl) rfl rfl ?_
    refine DChG.stC rfl (fun S hn hd hc => OpN.both (H1 := [cell0, bif false then cellZ (x + (gQ a b : Int)) else cellZ x, cellZ y, cellZ (gQ a b : Int), cellZ (gBk a b)]) (H3 := [cell0, bif true then cellZ (x + (gQ a b : Int)) else cellZ x, cellZ y, cellZ (gQ a b : Int), cellZ (gBk a b)]) (by simp only [hn]) rfl (Zaa rfl rfl rfl rfl rfl rfl rfl rfl (Nat.le_of_ble_eq_true rfl) rfl)) rfl rfl ?_
    refine .nil (fun hG => AOps.fin (n := 5) (as' := []) (H' := [cell0, cellZ (x + (gQ a b : Int)), cellZ y, cellZ (gQ a b : Int), cellZ (gBk a b)]) rfl rfl rfl ?_)
    refine y_new rfl (Zaa rfl rfl rfl rfl rfl rfl rfl rfl (Nat.le_of_ble_eq_true rfl) rfl) ?_
    refine AOps.nil (ARun.inBlock ?_)
    refine ARun.again (ih ((x + (gQ a b : Int), y + -gBk a b)) ?_ ?_) ?_ ?_
    · exact ⟨e2, by dsimp only; rw [Int.add_emod_right]; exact hinv.m, by dsimp only; omega, by dsimp only; omega, fy2⟩
    · (dsimp only; omega)
    · (repeat' first | exact envLe_nil | apply envLe_any | apply envLe_same)
    rfl
  have hx := of_decide_eq_false hx
  refine ARun.exit rfl ?_
  refine ARun.seq (ARun.block ?_)
  refine ARun.loopI (S := Int × Int) (fun σ : Int × Int => [(68, .any), (69, .any), (70, .any), (71, .any), (72, .any), (73, .any), (74, .any), (75, .any), (76, .any), (77, .any), (78, .any)]) (fun σ : Int × Int => [cell0, cellZ σ.1, cellZ σ.2, cellZ (gQ a b : Int), cellZ (gBk a b)]) (fun σ : Int × Int => GL a b σ.1 σ.2 ∧ 0 ≤ σ.1) (fun σ : Int × Int => σ.1.toNat) ((x, y)) ?_ ?_ ?_ ?_
  · exact ⟨hinv, by show 0 ≤ x; omega⟩
  · (repeat' first | exact envLe_nil | apply envLe_any | apply envLe_same)
  · rfl
  rintro ⟨x', y'⟩ hinv ih
  dsimp only at hinv ih ⊢
  refine ARun.seq (ARun.seq (ARun.region ?_))
  refine y_op rfl (Zab rfl rfl rfl rfl rfl rfl) ?_
  refine y_op rfl (Zab rfl rfl rfl rfl rfl rfl) ?_
  refine zzc rfl rfl (Zmq x' (gQ a b : Int) (fx x' (by omega) hinv.1.hi) fq) ?_
  refine zzi ?_; refine AOps.nil ?_
  refine ARun.cond rfl (fun hc => ?_) (fun hc => ?_)
  · skip
    have hc := cmpZ_geq hc
    have l1 := hinv.1.hi
    have e2 : a * (x' + -(gQ a b : Int)) + b * (y' + gBk a b) = (gG a b : Int) := by
      rw [Int.mul_add, Int.mul_add, Int.mul_neg, hbk]; have := hinv.1.e; omega
    have fy2 : fitZ (y' + gBk a b) := fit_max ha (Zkx hb0 e2 (by omega) (by omega))
    refine ARun.skip (ARun.block ?_)
    refine ARun.drawnG (n := 8) (fun S : Nat → Bool => [cell0, bif S 7 then cellZ (x' + -(gQ a b : Int)) else cellZ x', cellZ y', cellZ (gQ a b : Int), cellZ (gBk a b)]) [] (fun _ => False) (sk := []) mixC rfl rfl (by kernel_rfl) rfl (by kernel_rfl) rfl (fun _ _ _ h => h.elim) ?_
    refine DChG.opC rfl (fun S hn hd hc => OpQ.pre (H1 := [cell0, bif false then cellZ (x' + -(gQ a b : Int)) else cellZ x', cellZ y', cellZ (gQ a b : Int), cellZ (gBk a b)]) (by simp only [(clF hc hn (by kernel_rfl) : S 7 = false)]) (Zab rfl rfl rfl rfl rfl rfl)) (fun _ => rfl) rfl rfl ?_
    refine DChG.opC rfl (fun S hn hd hc => OpQ.pre (H1 := [cell0, bif false then cellZ (x' + -(gQ a b : Int)) else cellZ x', cellZ y', cellZ (gQ a b : Int), cellZ (gBk a b)]) (by simp only [(clF hc hn (by kernel_rfl) : S 7 = false)]) (Zab rfl rfl rfl rfl rfl rfl)) (fun _ => rfl) rfl rfl ?_
    refine DChG.op rfl (fun _ => q_call rfl rfl (Zb4 (gQ a b : Int))) (fun _ => rfl) rfl rfl ?_
    refine DChG.op rfl (fun _ => q_call rfl rfl ((ZbI x' (-(gQ a b : Int)) (fx x' (by omega) hinv.1.hi) (fitZ_neg fq)).mono (fun o ho => (ho.resolve_right (fun h => h.1 (fx _ (by omega) (by omega)))).2))) (fun _ => rfl) rfl rfl ?_
    refine DChG.op rfl (fun _ => Zab rfl rfl rfl rfl rfl rfl) (fun _ => rfl) rfl rfl ?_
    refine DChG.op rfl (fun _ => Zab rfl rfl rfl rfl rfl rfl) (fun _ => rfl) rfl rfl ?_
    refine DChG.op rfl (fun _ => q_call rfl rfl ((ZbI y' (gBk a b) hinv.1.fy fbk).mono (fun o ho => (ho.resolve_right (fun h => h.1 fy2)).2))) (fun _ => rfl) rfl rfl ?_
    refine DChG.stC rfl (fun S hn hd hc => OpN.both (H1 := [cell0, bif false then cellZ (x' + -(gQ a b : Int)) else cellZ x', cellZ y', cellZ (gQ a b : Int), cellZ (gBk a b)]) (H3 := [cell0, bif true then cellZ (x' + -(gQ a b : Int)) else cellZ x', cellZ y', cellZ (gQ a b : Int), cellZ (gBk a b)]) (by simp only [hn]) rfl (Zaa rfl rfl rfl rfl rfl rfl rfl rfl (Nat.le_of_ble_eq_true rfl) rfl)) rfl rfl ?_
    refine .nil (fun hG => AOps.fin (n := 5) (as' := []) (H' := [cell0, cellZ (x' + -(gQ a b : Int)), cellZ y', cellZ (gQ a b : Int), cellZ (gBk a b)]) rfl rfl rfl ?_)
    refine y_new rfl (Zaa rfl rfl rfl rfl rfl rfl rfl rfl (Nat.le_of_ble_eq_true rfl) rfl) ?_
    refine AOps.nil (ARun.inBlock ?_)
    refine ARun.again (ih ((x' + -(gQ a b : Int), y' + gBk a b)) ?_ ?_) ?_ ?_
    · exact ⟨⟨e2, by dsimp only; rw [← hinv.1.m]; exact Int.sub_emod_right _ _, by dsimp only; omega, by dsimp only; omega, fy2⟩, by dsimp only; omega⟩
    · (dsimp only; omega)
    · (repeat' first | exact envLe_nil | apply envLe_any | apply envLe_same)
    rfl
  have hc := cmpZ_ngeq hc
  have h80 : PC C ZdF [D.bool false, numD (eu a.natAbs b.natAbs 1 0 0 1).1] (fun o => o = .ret (intD (gG a b : Int))) := by rw [eg]; exact Zaf false (gG a b)
  refine ARun.exit rfl ?_
  refine ARun.seq ?_
  refine ARun.drawnG (n := 6) (fun S : Nat → Bool => [bif S 4 then cellZ (gG a b : Int) else cell0, cellZ x', cellZ y', cellZ (gQ a b : Int), cellZ (gBk a b)]) [] (fun _ => False) (sk := []) mixC rfl rfl (by kernel_rfl) rfl (by kernel_rfl) rfl (fun _ _ _ h => h.elim) ?_
  refine DChG.op rfl (fun _ => q_move rfl) (fun _ => rfl) rfl rfl ?_
  refine DChG.op rfl (fun _ => q_call rfl rfl (h80)) (fun _ => rfl) rfl rfl ?_
  refine DChG.op rfl (fun _ => Zab rfl rfl rfl rfl rfl rfl) (fun _ => rfl) rfl rfl ?_
  refine DChG.op rfl (fun _ => Zab rfl rfl rfl rfl rfl rfl) (fun _ => rfl) rfl rfl ?_
  refine DChG.stC rfl (fun S hn hd hc => OpN.both (H1 := [bif false then cellZ (gG a b : Int) else cell0, cellZ x', cellZ y', cellZ (gQ a b : Int), cellZ (gBk a b)]) (H3 := [bif true then cellZ (gG a b : Int) else cell0, cellZ x', cellZ y', cellZ (gQ a b : Int), cellZ (gBk a b)]) (by simp only [hn]) rfl (Zaa rfl rfl rfl rfl rfl rfl rfl rfl (Nat.le_of_ble_eq_true rfl) rfl)) rfl rfl ?_
  refine DChG.stC rfl (fun S hn hd hc => OpN.both (H1 := [bif true then cellZ (gG a b : Int) else cell0, cellZ x', cellZ y', cellZ (gQ a b : Int), cellZ (gBk a b)]) (H3 := [bif true then cellZ (gG a b : Int) else cell0, cellZ x', cellZ y', cellZ (gQ a b : Int), cellZ (gBk a b)]) (by simp only [hn, (hd 4 (by kernel_rfl) : S 4 = true)]) (by show [bif S 4 then cellZ (gG a b : Int) else cell0, cellZ x', cellZ y', cellZ (gQ a b : Int), cellZ (gBk a b)] = _; simp only [(hd 4 (by kernel_rfl) : S 4 = true)]) (Zaa rfl rfl rfl rfl rfl rfl rfl rfl (Nat.le_of_ble_eq_true rfl) rfl)) rfl rfl ?_
  refine .nil (fun hG => AOps.fin (n := 5) (as' := []) (H' := [cellZ (gG a b : Int), cellZ x', cellZ y', cellZ (gQ a b : Int), cellZ (gBk a b)]) rfl rfl rfl ?_)
  refine y_new rfl (Zaa rfl rfl rfl rfl rfl rfl rfl rfl (Nat.le_of_ble_eq_true rfl) rfl) ?_
  refine AOps.nil ?_
  refine ARun.ret ?_
  refine ⟨_, _, _, ResR.cellA rfl rfl rfl rfl rfl rfl (ResR.cellA rfl rfl rfl rfl rfl rfl (ResR.cellA rfl rfl rfl rfl rfl rfl .nil)), .cons (.same _) (.cons (.same _) (.cons (.same _) .nil)), rfl, ?_⟩
  obtain ⟨ex1, ey1⟩ := gcdXY hb0 hinv.1.e hinv.2 hc hinv.1.m
  rw [← ex1, ← ey1]; rfl
end Go.V
set_option synthInstance.maxSize 100000
set_option synthInstance.maxHeartbeats 2000000
namespace Go.V
open Go.RowKit Go.Proofs
def gcdR (ok : Bool) (a b : Int) : (Int × Int × Int) × Int := bif ok then (((gG a b : Int), gcdX a b, gcdY a b), 0) else ((0, 0, 0), 1)
theorem fit_small {z : Int} (h : z.natAbs ≤ 1) : fitZ z := by
  unfold fitZ
  refine Nat.le_trans (ln_mono h) ?_
  rw [lim_one]; decide
theorem gcd_eq {a b : Int} (h0 : b ≠ 0) : a * gcdX a b + b * gcdY a b = (gG a b : Int) := by
  have e : a * gX a b + b * gY a b = (gG a b : Int) := gXY h0
  have hbk := gBk_eq (a := a) h0
  have hd := Int.mul_ediv_add_emod (gX a b) (gQ a b : Int)
  have h2 : (gG a b : Int) - a * gcdX a b = b * (gY a b + gBk a b * (gX a b / (gQ a b : Int))) := by
    have hx : gcdX a b = gX a b - (gQ a b : Int) * (gX a b / (gQ a b : Int)) := by unfold gcdX; rw [if_neg h0]; generalize (gQ a b : Int) * (gX a b / (gQ a b : Int)) = t at *; omega
    rw [hx, Int.mul_sub, ← Int.mul_assoc, hbk, Int.mul_add, ← Int.mul_assoc]; omega
  have h3 : gcdY a b = gY a b + gBk a b * (gX a b / (gQ a b : Int)) := by
    unfold gcdY; rw [if_neg h0, h2, Int.mul_ediv_cancel_left _ h0]
  rw [h3]; omega
theorem fit_gcd {a b : Int} (ha : fitZ a) (hb : fitZ b) : fitZ (gG a b : Int) ∧ fitZ (gcdX a b) ∧ fitZ (gcdY a b) := by
  by_cases h0 : b = 0
  · subst h0
    refine ⟨?_, ?_, ?_⟩
    · unfold gG; rw [show (0 : Int).natAbs = 0 from rfl, Nat.gcd_zero_right]; unfold fitZ; rw [Int.natAbs_natCast]; exact ha
    · unfold gcdX; rw [if_pos rfl]; exact fit_small (by have := Int.sign_trichotomy a; omega)
    unfold gcdY; rw [if_pos rfl]; exact fit_small (by decide)
  have hq0 := gQ_pos (a := a) h0
  have hqb := gQ_le (a := a) h0
  have hx0 : 0 ≤ gcdX a b := by unfold gcdX; rw [if_neg h0]; exact Int.emod_nonneg _ (by omega)
  have hx1 : gcdX a b < gQ a b := by unfold gcdX; rw [if_neg h0]; exact Int.emod_lt_of_pos _ (by omega)
  have he : a * gcdX a b + b * gcdY a b = (gG a b : Int) := gcd_eq h0
  refine ⟨?_, fit_mono (y := b) (by omega) hb, fit_max ha (Zkx h0 he hx0 hx1)⟩
  exact fit_nat (Nat.le_of_dvd (by omega) (Nat.gcd_dvd_right _ _)) hb
theorem Zmt (d1 d2 : Bool × List Nat) (h1 : U32 d1.2) (h2 : U32 d2.2) : PC C Zgh [intA d1.1 d1.2, intA d2.1 d2.2] (fun o => o = .ret (.tup [intD (gcdR ([d1, d2].all okI) (valI d1) (valI d2)).1.1, intD (gcdR ([d1, d2].all okI) (valI d1) (valI d2)).1.2.1, intD (gcdR ([d1, d2].all okI) (valI d1) (valI d2)).1.2.2, .int .i64 (gcdR ([d1, d2].all okI) (valI d1) (valI d2)).2])) := by
  have pan : ∀ (e : Int) (env : List D) (tl : Heap), env[4]? = some (.ptr 0 0) → env[5]? = some (.ptr 1 0) → env[6]? = some (.ptr 2 0) → env[7]? = some (.ptr 3 0) → gcdR ([d1, d2].all okI) (valI d1) (valI d2) = ((0, 0, 0), e) → (QFin C [.cell 4 27, .cell 5 27, .cell 6 27, .cell 7 31] fun o x => o.pure = true ∧ o = .ret (.tup [intD (gcdR ([d1, d2].all okI) (valI d1) (valI d2)).1.1, intD (gcdR ([d1, d2].all okI) (valI d1) (valI d2)).1.2.1, intD (gcdR ([d1, d2].all okI) (valI d1) (valI d2)).1.2.2, .int .i64 (gcdR ([d1, d2].all okI) (valI d1) (valI d2)).2])) (.pan (failW e)) env (cell0 :: cell0 :: cell0 :: errO 0 :: tl) [.fn ZaV [.ptr 3 0]] := by
    intro e env tl h6 h7 h8 h9 hr
    refine DC.mono (dcw_pan _ 3 0 e rfl) ?_
    rintro _ _ ⟨rfl, rfl⟩
    exact ⟨_, _, _, ResR.cellA h6 rfl rfl rfl rfl rfl (ResR.cellA h7 rfl rfl rfl rfl rfl (ResR.cellA h8 rfl rfl rfl rfl rfl (ResR.cell1 h9 rfl rfl rfl rfl .nil))), .cons fz_int0 (.cons fz_int0 (.cons fz_int0 (.cons (.same _) .nil))), rfl, by rw [hr]; rfl⟩
  refine PC.rn Ze5 Zi2 Zi3 (rs := [.cell 4 27, .cell 5 27, .cell 6 27, .cell 7 31]) (by rw [Zi4]) ?_
  refine ARun.seq (ARun.region ?_); refine zzb ?_; refine zzb ?_
  refine y_new rfl (Zae rfl rfl rfl rfl) ?_
  refine y_new rfl (Zae rfl rfl rfl rfl) ?_
  refine y_new rfl (Zae rfl rfl rfl rfl) ?_
  refine y_new rfl (Zae rfl rfl rfl rfl) ?_
  refine AOps.nil (ARun.seq (ARun.region ?_))
  refine Zdl rfl rfl rfl ?_
  refine AOps.nil (ARun.seq (ARun.region ?_)); refine zzL ?_; refine zzL ?_
  refine y_op rfl (Zan rfl rfl rfl rfl rfl rfl rfl rfl rfl rfl rfl (by decide) (by decide) rfl) ?_
  refine y_gop rfl (g_call rfl rfl (PC.gp (Zg5 [d1, d2] 2 rfl))) (fun hg => ?_) (fun q hq => by obtain ⟨hq, rfl⟩ := hq; exact pan 1 _ [] rfl rfl rfl rfl (by rw [hq]; rfl))
  have hres := hg
  obtain ⟨a, b, rfl, fa, rfl, fb⟩ := okI2 h1 h2 hg
  rw [valI_int, valI_int] at pan ⊢
  rw [hres] at pan ⊢
  have hfit := fit_gcd fa fb
  refine AOps.nil (ARun.seq (ARun.region ?_)); refine zzL ?_; refine zzL ?_
  refine zzc rfl rfl (Zms a b fa fb) ?_
  refine zzm ?_; refine zze ?_; refine zze ?_; refine zze ?_
  refine y_new rfl (Zaa rfl rfl rfl rfl rfl rfl rfl rfl (Nat.le_of_ble_eq_true rfl) rfl) ?_
  refine y_new rfl (Zaa rfl rfl rfl rfl rfl rfl rfl rfl (Nat.le_of_ble_eq_true rfl) rfl) ?_
  refine y_new rfl (Zaa rfl rfl rfl rfl rfl rfl rfl rfl (Nat.le_of_ble_eq_true rfl) rfl) ?_
  refine AOps.nil (ARun.seq ?_)
  refine ARun.drawnG (n := 8) (fun S : Nat → Bool => [cellZ (gG a b : Int), cellZ (gcdX a b), cellZ (gcdY a b), errO 0]) [] (fun _ => False) (sk := []) mixC rfl rfl (by kernel_rfl) rfl (by kernel_rfl) rfl (fun _ _ _ h => h.elim) ?_
  refine DChG.op rfl (fun _ => Zab rfl rfl rfl rfl rfl rfl) (fun _ => rfl) rfl rfl ?_
  refine DChG.op rfl (fun _ => q_call rfl rfl (Zb5 (gG a b : Int) hfit.1)) (fun _ => rfl) rfl rfl ?_
  refine DChG.op rfl (fun _ => Zab rfl rfl rfl rfl rfl rfl) (fun _ => rfl) rfl rfl ?_
  refine DChG.op rfl (fun _ => q_call rfl rfl (Zb5 (gcdX a b) hfit.2.1)) (fun _ => rfl) rfl rfl ?_
  refine DChG.op rfl (fun _ => Zab rfl rfl rfl rfl rfl rfl) (fun _ => rfl) rfl rfl ?_
  refine DChG.op rfl (fun _ => q_call rfl rfl (Zb5 (gcdY a b) hfit.2.2)) (fun _ => rfl) rfl rfl ?_
  refine DChG.stC rfl (fun S hn hd hc => OpN.both (H1 := [cellZ (gG a b : Int), cellZ (gcdX a b), cellZ (gcdY a b), errO 0]) (H3 := [cellZ (gG a b : Int), cellZ (gcdX a b), cellZ (gcdY a b), errO 0]) rfl rfl (Zaa rfl rfl rfl rfl rfl rfl rfl rfl (Nat.le_of_ble_eq_true rfl) rfl)) rfl rfl ?_
  refine DChG.stC rfl (fun S hn hd hc => OpN.both (H1 := [cellZ (gG a b : Int), cellZ (gcdX a b), cellZ (gcdY a b), errO 0]) (H3 := [cellZ (gG a b : Int), cellZ (gcdX a b), cellZ (gcdY a b), errO 0]) rfl rfl (Zaa rfl rfl rfl rfl rfl rfl rfl rfl (Nat.le_of_ble_eq_true rfl) rfl)) rfl rfl ?_
  refine .nil (fun hG => AOps.fin (n := 4) (as' := []) (H' := [cellZ (gG a b : Int), cellZ (gcdX a b), cellZ (gcdY a b), errO 0]) rfl rfl rfl ?_)
  refine y_new rfl (Zaa rfl rfl rfl rfl rfl rfl rfl rfl (Nat.le_of_ble_eq_true rfl) rfl) ?_
  refine y_new rfl (Zad rfl rfl rfl rfl rfl rfl (Nat.le_of_ble_eq_true rfl) rfl) ?_
  refine AOps.nil ?_
  refine ARun.ret ?_
  refine DC.mono (dcw_ret _ 3) ?_
  rintro _ _ ⟨rfl, rfl⟩
  exact ⟨_, _, _, ResR.cellA rfl rfl rfl rfl rfl rfl (ResR.cellA rfl rfl rfl rfl rfl rfl (ResR.cellA rfl rfl rfl rfl rfl rfl (ResR.cell1 rfl rfl rfl rfl rfl .nil))), .cons (.same _) (.cons (.same _) (.cons (.same _) (.cons (.same _) .nil))), rfl, rfl⟩
end Go.V
set_option synthInstance.maxSize 100000
set_option synthInstance.maxHeartbeats 2000000
namespace Go.V
open Go.RowKit Go.Proofs
theorem chk_ex (b : Nat) (h : 2 ≤ b) (h2 : b < 4294967296) : ∃ m : Nat, 0 < m ∧ b ^ m < 4294967296 ∧ 4294967296 ≤ b ^ (m + 1) := by
  apply Classical.byContradiction
  intro hn
  have key : ∀ m : Nat, b ^ (m + 1) < 4294967296 := by
    intro m
    induction m with
    | zero => simpa using h2
    | succ m ih =>
      rcases Nat.lt_or_ge (b ^ (m + 1 + 1)) 4294967296 with h1 | h1
      · exact h1
      exact (hn ⟨m + 1, by omega, ih, h1⟩).elim
  have h3 := key 31
  have h4 : 2 ^ 32 ≤ b ^ 32 := Nat.pow_le_pow_left h 32
  have : (2 : Nat) ^ 32 = 4294967296 := by decide
  rw [show 31 + 1 = 32 from rfl] at h3
  omega
theorem Zh6 (b m : Nat) (h : 2 ≤ b) (h36 : b ≤ 36) (hm : 0 < m) (h1 : b ^ m < 4294967296) (h2 : 4294967296 ≤ b ^ (m + 1)) : PC C ZiE [.int .i64 (b : Int)] (fun o => o = .ret (.tup [.int .u32 ((b ^ m : Nat) : Int), .int .i64 (m : Int)])) := by
  have hml : m < 32 := by
    rcases Nat.lt_or_ge m 32 with h3 | h3
    · exact h3
    exfalso
    have h4 : 2 ^ 32 ≤ b ^ 32 := Nat.pow_le_pow_left h 32
    have h5 : b ^ 32 ≤ b ^ m := Nat.pow_le_pow_right (by omega) h3
    have : (2 : Nat) ^ 32 = 4294967296 := by decide
    omega
  refine PC.rn ZdK ZhE ZhF (rs := [.tmp 2, .tmp 3]) (by rw [ZhG]) ?_
  refine ARun.seq (ARun.region ?_); refine zza ?_; refine zza ?_; refine AOps.nil (ARun.seq (ARun.region ?_)); refine zzm ?_
  refine y_op rfl (q_conv rfl rfl rfl (nconv_u64 (by omega))) ?_
  refine zza ?_; refine zza ?_; refine AOps.nil (ARun.seq (ARun.block ?_))
  refine ARun.loopI (S := Nat × Nat) (fun σ : Nat × Nat => [(8, .any), (9, .any), (10, .any), (11, .any), (12, .any), (13, .any), (14, .any), (15, .any), (16, .any), (17, .any), (18, .any), (4, .int .u64 (σ.2 : Int)), (5, .int .i64 (σ.1 : Int))]) (fun σ : Nat × Nat => []) (fun σ : Nat × Nat => σ.2 = b ^ σ.1 ∧ 0 < σ.1 ∧ σ.1 ≤ m) (fun σ : Nat × Nat => m - σ.1) ((1, b)) ?_ ?_ ?_ ?_
  · exact ⟨by simp, by show 0 < 1; decide, hm⟩
  · (repeat' first | exact envLe_nil | apply envLe_any | apply envLe_same)
  · rfl
  rintro ⟨n, p⟩ hinv ih
  dsimp only at hinv ih ⊢
  obtain ⟨hpe, hn, hnm⟩ := hinv
  have hpl : p < 4294967296 := by rw [hpe]; exact Nat.lt_of_le_of_lt (Nat.pow_le_pow_right (by omega) hnm) h1
  have hpm : b ^ (n + 1) = p * b := by rw [Nat.pow_succ, hpe]
  have hpb : p * b ≤ 4294967296 * 36 := Nat.mul_le_mul (by omega) h36
  refine ARun.seq (ARun.seq (ARun.region ?_)); refine zzm ?_; refine zzm ?_
  refine y_op rfl (q_conv rfl rfl rfl (nconv_u64 (by omega))) ?_
  refine y_op rfl (q_mul rfl rfl (nmul_u64 (by omega))) ?_
  refine zzi ?_; refine AOps.nil ?_
  refine ARun.ite rfl (fun hc => ?_) (fun hc => ?_)
  · skip
    have hc2 : b ^ (n + 1) < 4294967296 := by rw [hpm]; omega
    have hlt : n < m := by
      rcases Nat.lt_or_ge n m with h3 | h3
      · exact h3
      exfalso
      have : n = m := by omega
      subst this
      omega
    refine ARun.skip (ARun.block (ARun.region ?_)); refine zzm ?_; refine zzm ?_
    refine y_op rfl (q_conv rfl rfl rfl (nconv_u64 (by omega))) ?_
    refine y_op rfl (q_mul rfl rfl (nmul_u64 (by omega))) ?_
    refine zzm ?_
    refine y_op rfl (q_add rfl rfl (nadd1_i64 (by omega))) ?_
    refine zza ?_; refine zza ?_; refine AOps.nil (ARun.inBlock ?_)
    refine ARun.again (ih ((n + 1, p * b)) ?_ ?_) ?_ ?_
    · exact ⟨hpm.symm, by dsimp only; omega, by dsimp only; omega⟩
    · (dsimp only; omega)
    · (repeat' first | exact envLe_nil | apply envLe_any | apply envLe_same)
    rfl
  have hc2 : 4294967296 ≤ b ^ (n + 1) := by rw [hpm]; omega
  have hlt : n = m := by
    rcases Nat.lt_or_ge n m with h3 | h3
    · exfalso
      have : b ^ (n + 1) ≤ b ^ m := Nat.pow_le_pow_right (by omega) (by omega)
      omega
    omega
  subst hlt
  refine ARun.exit rfl ?_
  refine ARun.seq (ARun.region ?_); refine zzm ?_
  refine y_op rfl (q_conv rfl rfl rfl nconv_u32) ?_
  refine zzm ?_; refine zza ?_; refine zza ?_; refine AOps.nil ?_
  refine ARun.ret ?_
  refine ⟨_, _, _, .tmp rfl (.tmp rfl .nil), .cons (.same _) (.cons (.same _) .nil), rfl, ?_⟩
  rw [← hpe, show p % 4294967296 = p from Nat.mod_eq_of_lt hpl]; rfl
end Go.V
