/- A part of the proof: abstract values, rules for the steps of the program's form, and contracts of its functions, each proved; no condition. -/
import Derived.Test.YtjohcjagbodicabGreatDoorA11
set_option linter.unusedVariables false
set_option linter.unusedSimpArgs false
set_option maxHeartbeats 2000000
set_option synthInstance.maxSize 100000
set_option synthInstance.maxHeartbeats 2000000
namespace Go.V
open Go.RowKit Go.Proofs
def dgs (b v : Nat) : List Nat := if h : v = 0 ∨ b < 2 then [] else (v % b) :: dgs b (v / b)
termination_by v
decreasing_by exact Nat.div_lt_self (by omega) (by omega)
theorem dgs_zero (b : Nat) : dgs b 0 = [] := by rw [dgs]; rw [dif_pos (.inl rfl)]
theorem dgs_pos {b v : Nat} (hb : 2 ≤ b) (hv : 0 < v) : dgs b v = (v % b) :: dgs b (v / b) := by rw [dgs]; rw [dif_neg (by omega)]
theorem drop_get' {α : Type} [Inhabited α] {l : List α} {k : Nat} {x : α} {r : List α} (h : l.drop k = x :: r) : k < l.length ∧ l[k]? = some x ∧ l.drop (k + 1) = r := by
  have h1 : k < l.length := by
    rcases Nat.lt_or_ge k l.length with h1 | h1
    · exact h1
    rw [List.drop_eq_nil_of_le h1] at h; cases h
  refine ⟨h1, ?_, ?_⟩
  · rw [List.drop_eq_getElem_cons h1] at h
    injection h with h _
    rw [← h]; simp
  rw [List.drop_eq_getElem_cons h1] at h
  injection h with _ h
theorem dgs_lt {b : Nat} (hb : 2 ≤ b) : ∀ v : Nat, ∀ d ∈ dgs b v, d < b := by
  intro v
  induction v using Nat.strongRecOn with
  | _ v ih =>
    intro d hd
    rcases Nat.eq_zero_or_pos v with h0 | h0
    · subst h0; rw [dgs_zero] at hd; cases hd
    rw [dgs_pos hb h0] at hd
    rcases List.mem_cons.1 hd with rfl | hd
    · exact Nat.mod_lt _ (by omega)
    exact ih _ (Nat.div_lt_self h0 (by omega)) d hd
theorem one_lt_pow {b m : Nat} (hb : 2 ≤ b) (hm : 0 < m) : 1 < b ^ m := by
  have h := Nat.pow_le_pow_right (n := b) (by omega) hm
  rw [Nat.pow_one] at h
  omega
theorem chk_lt {b m : Nat} (hb : 2 ≤ b) (h1 : b ^ m < 4294967296) : m < 64 := by
  rcases Nat.lt_or_ge m 64 with h3 | h3
  · exact h3
  exfalso
  have h4 : 2 ^ 32 ≤ b ^ 32 := Nat.pow_le_pow_left hb 32
  have h5 : b ^ 32 ≤ b ^ m := Nat.pow_le_pow_right (by omega) (by omega)
  have : (2 : Nat) ^ 32 = 4294967296 := by decide
  omega
theorem digN {n q b m i : Nat} (h : i < m) : (n + q * b ^ (m - i)) % b = n % b := by
  rw [show m - i = (m - i - 1) + 1 by omega, Nat.pow_succ, ← Nat.mul_assoc, Nat.add_mul_mod_self_right]
theorem divN {n q b j : Nat} (h : 0 < b) : (n + q * b ^ (j + 1)) / b = n / b + q * b ^ j := by
  rw [Nat.pow_succ, ← Nat.mul_assoc, Nat.add_mul_div_right _ _ h]
theorem numD_small {p : Nat} (h0 : 0 < p) (h : p < 4294967296) : D.sl 1 [.int .u32 (p : Int)] = numD p := by
  rw [numD, lim_pos (by omega), show p / B = 0 from Nat.div_eq_of_lt h, lim_zero, show p % B = p from Nat.mod_eq_of_lt h]; rfl
theorem Zl0 (a b : Nat) (o0 : Option AObj) : HC C ZhA [o0] [numD a, .int .i64 (b : Int)] (fun o H' => o = .ret (.clos Zcz [.ptr 2 0, .ptr 1 0]) ∧ H' = [o0, some ⟨[numD a], Zd6, 1, true, none⟩, some ⟨[.int .i64 (b : Int)], t_int, 1, true, none⟩]) := by
  refine HC.run Zda ZgF rfl ZgG (rs := [.tmp 4]) (by rw [ZgH]) (by simp only [List.length_cons, List.length_nil, Nat.reduceAdd, Nat.reduceSub, List.replicate_succ, List.replicate_zero, List.cons_append, List.nil_append]; exact rfl) ?_
  refine ARun.seq (ARun.region ?_)
  refine y_new rfl (n_box rfl rfl rfl) ?_
  refine y_new rfl (n_box rfl rfl rfl) ?_
  refine zza ?_; refine AOps.nil (ARun.seq (ARun.region ?_))
  refine y_op rfl (ZiR rfl) ?_
  refine zza ?_; refine AOps.nil ?_
  refine ARun.ret ?_
  refine ⟨_, _, _, .tmp rfl .nil, .cons (.same _) .nil, ?_⟩
  exact ⟨rfl, rfl⟩
abbrev HD (c b : Nat) (ps : Array Tmp) (asg bd : Code) (envL : List D) (st : LSt) (o0 : Option AObj) (T : Heap) : Heap := o0 :: some ⟨[numD c], Zd6, 1, true, none⟩ :: some ⟨[.int .i64 (b : Int)], t_int, 1, true, none⟩ :: defsO :: loopO st ps asg bd envL :: T
theorem Zky (a b : Nat) (ha : (lim a).length ≤ 1024) (hb2 : 2 ≤ b) (hb36 : b ≤ 36) (ps : List Tmp) (hps : ps.length = 1) (asg bd : Code) (envL : List D) (R : Nat → Option AObj → Heap → Prop)
    (hround : ∀ (k c d : Nat) (o0 : Option AObj) (T : Heap), (dgs b a)[k]? = some d → R k o0 T → ARun C (QRound 4 (fun j H' => j = none ∧ ∃ o0' T', R (k + 1) o0' T' ∧ H' = HD c b ps.toArray asg bd envL .busy o0' T')) [.code asg, .beginRound, .code bd] (setL envL (ps.zip [.int .i64 (d : Int)])) (HD c b ps.toArray asg bd envL .ready o0 T) [])
    (o0 : Option AObj) (T : Heap) (h0 : R 0 o0 T) :
    HC C Zcz (HD a b ps.toArray asg bd envL .ready o0 T) [.yld 4, .ptr 2 0, .ptr 1 0] (fun o H' => o = .ret (.tup []) ∧ ∃ o0' T', R (dgs b a).length o0' T' ∧ H' = HD 0 b ps.toArray asg bd envL .ready o0' T') := by
  obtain ⟨m, hm0, hm1, hm2⟩ := chk_ex b hb2 (by omega)
  have hp0 : 0 < b ^ m := Nat.pow_pos (by omega)
  refine HC.run Zb9 ZeH rfl ZeI (rs := []) (by rw [ZeJ]) (by simp only [List.length_cons, List.length_nil, Nat.reduceAdd, Nat.reduceSub, List.replicate_succ, List.replicate_zero, List.cons_append, List.nil_append]; exact rfl) ?_
  refine ARun.seq (ARun.region ?_)
  refine y_op rfl (Zac rfl rfl rfl rfl rfl) ?_
  refine zzc rfl rfl (Zh6 b m hb2 hb36 hm0 hm1 hm2) ?_
  refine zzm ?_; refine zze ?_; refine zze ?_; refine zza ?_; refine zza ?_; refine AOps.nil (ARun.block ?_)
  refine ARun.loopI (S := Nat × Nat × Option AObj × Heap) (fun σ : Nat × Nat × Option AObj × Heap => [(6, .any), (7, .any), (8, .any), (9, .any), (10, .any), (16, .any), (17, .any), (18, .any), (19, .any), (20, .any), (21, .any), (22, .any), (23, .any), (24, .any), (25, .any), (26, .any), (27, .any), (28, .any), (29, .any), (30, .any), (31, .any), (32, .any), (33, .any), (34, .any), (35, .any), (36, .any), (37, .any), (38, .any), (39, .any), (40, .any), (41, .any), (42, .any), (43, .any), (44, .any), (45, .any), (46, .any), (47, .any), (48, .any), (49, .any), (50, .any), (51, .any), (52, .any), (53, .any), (54, .any), (55, .any), (56, .any), (57, .any), (58, .any), (59, .any), (60, .any), (61, .any), (4, .int .u32 ((b ^ m : Nat) : Int)), (5, .int .i64 (m : Int))]) (fun σ : Nat × Nat × Option AObj × Heap => HD σ.1 b ps.toArray asg bd envL .ready σ.2.2.1 σ.2.2.2) (fun σ : Nat × Nat × Option AObj × Heap => σ.1 ≤ a ∧ R σ.2.1 σ.2.2.1 σ.2.2.2 ∧ σ.2.1 ≤ (dgs b a).length ∧ (dgs b a).drop σ.2.1 = dgs b σ.1) (fun σ : Nat × Nat × Option AObj × Heap => σ.1) ((a, 0, o0, T)) ?_ ?_ ?_ ?_
  · exact ⟨Nat.le_refl _, h0, Nat.zero_le _, rfl⟩
  · (repeat' first | exact envLe_nil | apply envLe_any | apply envLe_same)
  · rfl
  rintro ⟨c, k, o0, T⟩ hinv ih
  dsimp only at hinv ih ⊢
  obtain ⟨hca, hR, hk, hdr⟩ := hinv
  refine ARun.seq (ARun.seq (ARun.region ?_))
  refine y_op rfl (Zac rfl rfl rfl rfl rfl) ?_
  refine zzN ?_; refine zzi ?_; refine AOps.nil ?_
  refine ARun.ite rfl (fun h => ?_) (fun h => ?_)
  · skip
    have hc0 : 0 < c := Nat.pos_of_ne_zero (ln_pos.1 (by omega))
    have fc : (lim c).length ≤ 1024 := Nat.le_trans (ln_mono hca) ha
    have hres : resD (lim c) (lim (b ^ m)) = (c / b ^ m, c % b ^ m, 0) := by
      unfold resD
      have hl : (lim (b ^ m)).length = 1 := by rw [lim_pos (by omega), show b ^ m / B = 0 from Nat.div_eq_of_lt hm1, lim_zero]; rfl
      rw [okB_lim fc, okB_lim (by omega), val_lim, val_lim]
      simp only [Bool.and_self, cond_true, hl, if_neg (show ¬ (1 : Nat) = 0 by decide)]
    have hdiv : PC C Zek [numD c, .sl 1 [.int .u32 ((b ^ m : Nat) : Int)]] (fun o => o = .ret (.tup [numD (c / b ^ m), numD (c % b ^ m), .int .i64 0])) := by
      rw [numD_small hp0 hm1]
      exact (Ze0 (lim c) (lim (b ^ m)) (U32_lim _) (U32_lim _)).mono fun o ho => by rw [ho, hres]
    refine ARun.skip (ARun.block (ARun.seq (ARun.region ?_)))
    refine y_op rfl (Zac rfl rfl rfl rfl rfl) ?_
    refine zzm ?_
    refine y_op rfl (Zan rfl rfl rfl rfl rfl rfl rfl rfl rfl rfl rfl (by decide) (by decide) rfl) ?_
    refine zzc rfl rfl (hdiv) ?_
    refine zzm ?_; refine zze ?_; refine zze ?_; refine zze ?_; refine zza ?_; refine zza ?_; refine zza ?_; refine AOps.nil (ARun.seq (ARun.region ?_)); refine zzm ?_; refine zzi ?_; refine zzm ?_
    refine y_gop rfl (g_call rfl rfl (PC.gp (ZaI _ 0))) (fun hg => ?_) (fun q hq => by obtain ⟨hq, rfl⟩ := hq; cases hq)
    refine AOps.nil (ARun.seq (ARun.region ?_)); refine zzm ?_
    refine y_new rfl (Zad rfl rfl rfl rfl rfl rfl (Nat.le_of_ble_eq_true rfl) rfl) ?_
    refine AOps.nil (ARun.seq (ARun.region ?_)); refine zza ?_; refine AOps.nil (ARun.seq (ARun.seq (ARun.region ?_))); refine zzm ?_; refine zzN ?_; refine zzi ?_; refine AOps.nil ?_
    refine ARun.join (S := Nat) (fun r : Nat => [(35, .any), (36, .any), (37, .any), (38, .any), (9, .int .i64 (r : Int))]) (fun r : Nat => r = c % b ^ m) (fun run => ?_) ?_
    · skip
      refine ARun.ite rfl (fun h2 => ?_) (fun h2 => ?_)
      · skip
        have hrl : c % b ^ m < 4294967296 := Nat.lt_trans (Nat.mod_lt _ hp0) hm1
        have hg : dig (c % b ^ m) 0 = c % b ^ m := by rw [dig, Nat.pow_zero, Nat.div_one]; exact Nat.mod_eq_of_lt (Nat.lt_of_lt_of_le (Nat.mod_lt _ hp0) (show b ^ m ≤ B from Nat.le_of_lt hm1))
        refine ARun.region ?_; refine zzm ?_
        refine y_op rfl (Zag (i := 0) rfl rfl rfl rfl (by omega) (by omega) (nts_ne (by omega)) (drop_nat rfl)) ?_
        refine y_op rfl (q_load rfl rfl rfl (lim_load (i := 0) (by omega))) ?_
        rw [hg]
        refine y_op rfl (q_conv rfl rfl rfl (nconv_i64 (by omega))) ?_
        refine zza ?_; refine AOps.nil ?_
        exact ARun.ag (run ((c % b ^ m)) (rfl))
      have hr0 : c % b ^ m = 0 := by
        apply Classical.byContradiction
        intro hn
        have := ln_pos.2 hn
        omega
      refine ARun.skip ?_
      exact ARun.ag (run (0) (hr0.symm))
    rintro r hj
    try dsimp only at hj ⊢
    subst hj
    refine ARun.seq (ARun.region ?_); refine zza ?_; refine AOps.nil (ARun.block ?_)
    refine ARun.loopI (S := Nat × Nat × Nat × Option AObj × Heap) (fun σ : Nat × Nat × Nat × Option AObj × Heap => [(39, .any), (40, .any), (41, .any), (42, .any), (43, .any), (44, .any), (45, .any), (46, .any), (47, .any), (48, .any), (49, .any), (50, .any), (51, .any), (52, .any), (53, .any), (54, .any), (55, .any), (56, .any), (57, .any), (58, .any), (59, .any), (60, .any), (61, .any), (9, .int .i64 (σ.2.1 : Int)), (10, .int .i64 (σ.1 : Int))]) (fun σ : Nat × Nat × Nat × Option AObj × Heap => HD (c / b ^ m) b ps.toArray asg bd envL .ready σ.2.2.2.1 σ.2.2.2.2) (fun σ : Nat × Nat × Nat × Option AObj × Heap => σ.1 ≤ m ∧ σ.2.1 < b ^ (m - σ.1) ∧ R σ.2.2.1 σ.2.2.2.1 σ.2.2.2.2 ∧ σ.2.2.1 ≤ (dgs b a).length ∧ (dgs b a).drop σ.2.2.1 = dgs b (σ.2.1 + c / b ^ m * b ^ (m - σ.1))) (fun σ : Nat × Nat × Nat × Option AObj × Heap => m - σ.1) ((0, c % b ^ m, k, o0, T)) ?_ ?_ ?_ ?_
    · exact ⟨Nat.zero_le _, Nat.mod_lt _ hp0, hR, hk, by dsimp only; rw [hdr, Nat.sub_zero, Nat.mul_comm, Nat.mod_add_div]⟩
    · (repeat' first | exact envLe_nil | apply envLe_any | apply envLe_same)
    · rfl
    rintro ⟨i, n, k, o0, T⟩ hinv2 ih2
    dsimp only at hinv2 ih2 ⊢
    obtain ⟨him, hnb, hR2, hk2, hdr2⟩ := hinv2
    have hml : m < 64 := chk_lt hb2 hm1
    have hnb2 : n < 4294967296 := Nat.lt_of_lt_of_le hnb (Nat.le_trans (Nat.pow_le_pow_right (by omega) (Nat.sub_le m i)) (by omega))
    have hpi : 0 < b ^ (m - i) := Nat.pow_pos (by omega)
    refine ARun.seq (ARun.seq (ARun.region ?_)); refine zzm ?_; refine zzm ?_; refine zzi ?_; refine zzm ?_
    refine AOps.bool 42 rfl (fun h3 => ?_) (fun h3 => ?_)
    · skip
      have h3i : i < m := by have := of_decide_eq_true h3; omega
      refine zzm ?_; refine zzi ?_; refine zzm ?_
      refine AOps.bool 45 rfl (fun h4 => ?_) (fun h4 => ?_)
      · skip
        have h4 := of_decide_eq_true h4
        refine zzk ?_; refine zzk ?_; refine zzk ?_; refine zzp ?_; refine zzp ?_; refine AOps.nil ?_
        have hV0 : 0 < n + c / b ^ m * b ^ (m - i) := by omega
        have hd := hdr2
        rw [dgs_pos hb2 hV0, digN (n := n) (q := c / b ^ m) (b := b) (show i < m from h3i)] at hd
        obtain ⟨hd1, hd2, hd3⟩ := drop_get' hd
        rw [show n + c / b ^ m * b ^ (m - i) = n + c / b ^ m * b ^ (m - (i + 1) + 1) by rw [show m - (i + 1) + 1 = m - i by omega], divN (by omega)] at hd3
        refine ARun.condT rfl ?_
        refine ARun.skip (ARun.seq (ARun.block (ARun.seq (ARun.seq (ARun.region ?_))))); refine zzm ?_; refine zzm ?_
        refine y_op rfl (Zac rfl rfl rfl rfl rfl) ?_
        refine y_op rfl (q_rem rfl rfl (by omega) (nrem rfl)) ?_
        refine AOps.yieldI _ rfl rfl rfl rfl (by rw [hps]; rfl) rfl (hround k (c / b ^ m) (n % b) o0 T hd2 hR2) ?_ ?_ ?_
        · rintro q H' ⟨_, o0', T', _, rfl⟩; rfl
        · skip
          rintro _ ⟨_, o0', T', hR3, rfl⟩
          refine AOps.hp (H' := HD (c / b ^ m) b ps.toArray asg bd envL .ready o0' T') rfl ?_
          refine zzn ?_; refine AOps.nil ?_
          refine ARun.condF rfl ?_
          refine ARun.skip (ARun.region ?_); refine zzm ?_
          refine y_op rfl (Zac rfl rfl rfl rfl rfl) ?_
          refine y_op rfl (q_quo rfl rfl (by omega) (nquo_i64 rfl (by omega))) ?_
          refine zza ?_; refine AOps.nil (ARun.inBlock (ARun.region ?_)); refine zzm ?_
          refine y_op rfl (q_add rfl rfl (nadd1_i64 (by omega))) ?_
          refine zza ?_; refine AOps.nil ?_
          refine ARun.again (ih2 ((i + 1, n / b, k + 1, o0', T')) ?_ ?_) ?_ ?_
          · exact ⟨by dsimp only; omega, Nat.div_lt_of_lt_mul (by rw [Nat.mul_comm, ← Nat.pow_succ, show (m - (i + 1)).succ = m - i by omega]; exact hnb), hR3, by dsimp only; omega, hd3⟩
          · (dsimp only; omega)
          · (repeat' first | exact envLe_nil | apply envLe_any | apply envLe_same)
          rfl
        rintro _ _ ⟨h, _⟩
        cases h
      have h4 := of_decide_eq_false h4
      have hn0 : n = 0 := by omega
      refine y_op rfl (Zac rfl rfl rfl rfl rfl) ?_
      refine zzN ?_; refine zzi ?_; refine zzp ?_; refine zzp ?_; refine AOps.nil ?_
      refine ARun.cond rfl (fun h5 => ?_) (fun h5 => ?_)
      · skip
        have h5 := of_decide_eq_true h5
        have hq0 : 0 < c / b ^ m := Nat.pos_of_ne_zero (ln_pos.1 (by omega))
        have hV0 : 0 < n + c / b ^ m * b ^ (m - i) := by have := Nat.mul_pos hq0 hpi; omega
        have hd := hdr2
        rw [dgs_pos hb2 hV0, digN (n := n) (q := c / b ^ m) (b := b) (show i < m from h3i)] at hd
        obtain ⟨hd1, hd2, hd3⟩ := drop_get' hd
        rw [show n + c / b ^ m * b ^ (m - i) = n + c / b ^ m * b ^ (m - (i + 1) + 1) by rw [show m - (i + 1) + 1 = m - i by omega], divN (by omega)] at hd3
        refine ARun.skip (ARun.seq (ARun.block (ARun.seq (ARun.seq (ARun.region ?_))))); refine zzm ?_; refine zzm ?_
        refine y_op rfl (Zac rfl rfl rfl rfl rfl) ?_
        refine y_op rfl (q_rem rfl rfl (by omega) (nrem rfl)) ?_
        refine AOps.yieldI _ rfl rfl rfl rfl (by rw [hps]; rfl) rfl (hround k (c / b ^ m) (n % b) o0 T hd2 hR2) ?_ ?_ ?_
        · rintro q H' ⟨_, o0', T', _, rfl⟩; rfl
        · skip
          rintro _ ⟨_, o0', T', hR3, rfl⟩
          refine AOps.hp (H' := HD (c / b ^ m) b ps.toArray asg bd envL .ready o0' T') rfl ?_
          refine zzn ?_; refine AOps.nil ?_
          refine ARun.condF rfl ?_
          refine ARun.skip (ARun.region ?_); refine zzm ?_
          refine y_op rfl (Zac rfl rfl rfl rfl rfl) ?_
          refine y_op rfl (q_quo rfl rfl (by omega) (nquo_i64 rfl (by omega))) ?_
          refine zza ?_; refine AOps.nil (ARun.inBlock (ARun.region ?_)); refine zzm ?_
          refine y_op rfl (q_add rfl rfl (nadd1_i64 (by omega))) ?_
          refine zza ?_; refine AOps.nil ?_
          refine ARun.again (ih2 ((i + 1, n / b, k + 1, o0', T')) ?_ ?_) ?_ ?_
          · exact ⟨by dsimp only; omega, Nat.div_lt_of_lt_mul (by rw [Nat.mul_comm, ← Nat.pow_succ, show (m - (i + 1)).succ = m - i by omega]; exact hnb), hR3, by dsimp only; omega, hd3⟩
          · (dsimp only; omega)
          · (repeat' first | exact envLe_nil | apply envLe_any | apply envLe_same)
          rfl
        rintro _ _ ⟨h, _⟩
        cases h
      have h5 := of_decide_eq_false h5
      have hq0 : c / b ^ m = 0 := by
        apply Classical.byContradiction
        intro hn
        have := ln_pos.2 hn
        omega
      refine ARun.exit rfl ?_
      refine ARun.inBlock ?_
      refine ARun.again (ih ((c / b ^ m, k, o0, T)) ?_ ?_) ?_ ?_
      · exact ⟨Nat.le_trans (Nat.div_le_self _ _) hca, hR2, hk2, by rw [hdr2, hn0, hq0, Nat.zero_mul]⟩
      · exact Nat.div_lt_self hc0 (one_lt_pow hb2 hm0)
      · (repeat' first | exact envLe_nil | apply envLe_any | apply envLe_same)
      rfl
    have h3i : i = m := by have := of_decide_eq_false h3; omega
    have hn0 : n = 0 := by rw [h3i, Nat.sub_self, Nat.pow_zero] at hnb; omega
    refine zzk ?_; refine zzk ?_; refine zzk ?_; refine zzk ?_; refine zzk ?_; refine zzk ?_; refine zzk ?_; refine zzp ?_; refine AOps.nil ?_
    refine ARun.condF rfl ?_
    refine ARun.exit rfl ?_
    refine ARun.inBlock ?_
    refine ARun.again (ih ((c / b ^ m, k, o0, T)) ?_ ?_) ?_ ?_
    · exact ⟨Nat.le_trans (Nat.div_le_self _ _) hca, hR2, hk2, by rw [hdr2, hn0, h3i, Nat.sub_self, Nat.pow_zero, Nat.mul_one, Nat.zero_add]⟩
    · exact Nat.div_lt_self hc0 (one_lt_pow hb2 hm0)
    · (repeat' first | exact envLe_nil | apply envLe_any | apply envLe_same)
    rfl
  have hc0 : c = 0 := by
    apply Classical.byContradiction
    intro hn
    have := ln_pos.2 hn
    omega
  subst hc0
  refine ARun.exit rfl ?_
  refine ARun.nil ?_
  refine ⟨_, _, _, .nil, .nil, ?_⟩
  rw [dgs_zero] at hdr
  have : (dgs b a).length ≤ k := by
    rcases Nat.lt_or_ge k (dgs b a).length with h1 | h1
    · rw [List.drop_eq_getElem_cons h1] at hdr; cases hdr
    exact h1
  have hk2 : k = (dgs b a).length := by omega
  subst hk2
  exact ⟨rfl, _, _, hR, rfl⟩
end Go.V
set_option maxHeartbeats 2000000
set_option synthInstance.maxSize 100000
set_option synthInstance.maxHeartbeats 2000000
namespace Go.V
open Go.RowKit Go.Proofs
abbrev rowB (ys : List Nat) : Option AObj := some ⟨nts .u8 ys, Zh8, 1, true, none⟩
structure RevI (xs ys : List Nat) (i : Nat) : Prop where
  l : ys.length = xs.length
  h : 2 * i ≤ xs.length + 1
  g : ∀ j, j < xs.length → ys.getD j 0 = if j < i ∨ xs.length ≤ j + i then xs.getD (xs.length - 1 - j) 0 else xs.getD j 0
theorem RevI.start (xs : List Nat) : RevI xs xs 0 := ⟨rfl, by omega, fun j hj => by rw [if_neg (by omega)]⟩
theorem getD_set {l : List Nat} {i j v : Nat} (hi : i < l.length) : (l.set i v).getD j 0 = if i = j then v else l.getD j 0 := by
  rw [List.getD_eq_getElem?_getD, List.getD_eq_getElem?_getD, List.getElem?_set]
  by_cases e : i = j
  · subst e; simp [hi]
  simp [e]
theorem RevI.step {xs ys : List Nat} {i j : Nat} (h : RevI xs ys i) (hij : i < j) (hj : j + i + 1 = xs.length) : RevI xs ((ys.set i (ys.getD j 0)).set j (ys.getD i 0)) (i + 1) := by
  have hl := h.l
  refine ⟨by simp [hl], by omega, fun k hk => ?_⟩
  rw [getD_set (by simp; omega), getD_set (by omega)]
  by_cases e1 : j = k
  · subst e1
    rw [if_pos rfl, if_pos (by omega), h.g i (by omega), if_neg (by omega), show xs.length - 1 - j = i by omega]
  rw [if_neg e1]
  by_cases e2 : i = k
  · subst e2
    rw [if_pos rfl, if_pos (by omega), h.g j (by omega), if_neg (by omega), show xs.length - 1 - i = j by omega]
  rw [if_neg e2, h.g k hk]
  by_cases e3 : k < i ∨ xs.length ≤ k + i
  · rw [if_pos e3, if_pos (by omega)]
  rw [if_neg e3, if_neg (by omega)]
theorem RevI.fin {xs ys : List Nat} {i : Nat} (h : RevI xs ys i) (hn : xs.length ≤ 2 * i + 1) : ys = xs.reverse := by
  have hl := h.l
  apply List.ext_getElem?
  intro j
  by_cases hj : j < xs.length
  · have e := h.g j hj
    have e2 : ys.getD j 0 = xs.getD (xs.length - 1 - j) 0 := by
      rw [e]
      by_cases e3 : j < i ∨ xs.length ≤ j + i
      · rw [if_pos e3]
      rw [if_neg e3, show xs.length - 1 - j = j by omega]
    rw [List.getElem?_reverse hj]
    rw [List.getD_eq_getElem?_getD, List.getD_eq_getElem?_getD] at e2
    rw [List.getElem?_eq_getElem (show j < ys.length by omega), List.getElem?_eq_getElem (show xs.length - 1 - j < xs.length by omega)] at e2 ⊢
    simpa using e2
  rw [List.getElem?_eq_none (by omega), List.getElem?_eq_none (by simp; omega)]
theorem Zkz (xs : List Nat) (hn : xs.length ≤ 1099511627776) : HC C ZbX [rowB xs] [.row 0 xs.length] (fun o H' => o = .ret (.tup []) ∧ H' = [rowB xs.reverse]) := by
  refine HC.run ZaF ZbO rfl ZbP (rs := []) (by rw [ZbQ]) (by simp only [List.length_cons, List.length_nil, Nat.reduceAdd, Nat.reduceSub, List.replicate_succ, List.replicate_zero, List.cons_append, List.nil_append]; exact rfl) ?_
  refine ARun.seq (ARun.region ?_); refine zzm ?_
  refine y_op rfl (ZbG rfl rfl rfl) ?_
  refine y_op rfl (q_sub rfl rfl (IntWalk.i64_in _ (by omega))) ?_
  refine zza ?_; refine zza ?_; refine AOps.nil (ARun.block ?_)
  refine ARun.loopI (S := Nat × Int × List Nat) (fun σ : Nat × Int × List Nat => [(7, .any), (8, .any), (9, .any), (10, .any), (11, .any), (12, .any), (13, .any), (14, .any), (15, .any), (16, .any), (17, .any), (18, .any), (19, .any), (20, .any), (21, .any), (22, .any), (23, .any), (24, .any), (25, .any), (26, .any), (27, .any), (2, .int .i64 (σ.1 : Int)), (3, .int .i64 σ.2.1)]) (fun σ : Nat × Int × List Nat => [rowB σ.2.2]) (fun σ : Nat × Int × List Nat => σ.2.1 = (xs.length : Int) - 1 - (σ.1 : Int) ∧ RevI xs σ.2.2 σ.1) (fun σ : Nat × Int × List Nat => xs.length - σ.1) ((0, (xs.length : Int) - 1, xs)) ?_ ?_ ?_ ?_
  · exact ⟨by show (xs.length : Int) - 1 = (xs.length : Int) - 1 - ((0 : Nat) : Int); omega, RevI.start xs⟩
  · (repeat' first | exact envLe_nil | apply envLe_any | apply envLe_same)
  · rfl
  rintro ⟨i, t, ys⟩ hinv ih
  dsimp only at hinv ih ⊢
  obtain ⟨ht, hinv⟩ := hinv
  have hl := hinv.l
  have hh := hinv.h
  refine ARun.seq (ARun.seq (ARun.region ?_)); refine zzm ?_; refine zzm ?_; refine zzi ?_; refine AOps.nil ?_
  refine ARun.cond rfl (fun h => ?_) (fun h => ?_)
  · skip
    have h := of_decide_eq_true h
    obtain ⟨j, hj⟩ : ∃ j : Nat, j + i + 1 = xs.length := ⟨xs.length - 1 - i, by omega⟩
    obtain rfl : t = (j : Int) := by omega
    refine ARun.skip (ARun.seq (ARun.block ?_))
    refine ARun.drawnG (n := 14) (fun S : Nat → Bool => [rowB (bif S 13 then ys.set i (ys.getD j 0) else ys)]) [] (fun _ => False) (sk := []) mixC rfl rfl (by kernel_rfl) rfl (by kernel_rfl) rfl (fun _ _ _ h => h.elim) ?_
    refine DChG.op rfl (fun _ => q_move rfl) (fun _ => rfl) rfl rfl ?_
    refine DChG.op rfl (fun _ => q_move rfl) (fun _ => rfl) rfl rfl ?_
    refine DChG.op rfl (fun _ => q_move rfl) (fun _ => rfl) rfl rfl ?_
    refine DChG.op rfl (fun _ => q_move rfl) (fun _ => rfl) rfl rfl ?_
    refine DChG.op rfl (fun _ => q_move rfl) (fun _ => rfl) rfl rfl ?_
    refine DChG.op rfl (fun _ => q_move rfl) (fun _ => rfl) rfl rfl ?_
    refine DChG.op rfl (fun _ => ZaD rfl rfl rfl rfl rfl (by omega) (by omega) (idx_nat rfl)) (fun _ => rfl) rfl rfl ?_
    refine DChG.opC rfl (fun S hn hd hc => OpQ.pre (H1 := [rowB (bif false then ys.set i (ys.getD j 0) else ys)]) (by simp only [(clF hc hn (by kernel_rfl) : S 13 = false)]) (Zac rfl rfl rfl rfl (nts_get (xs := ys) (i := j) (by omega)))) (fun _ => rfl) rfl rfl ?_
    refine DChG.op rfl (fun _ => q_move rfl) (fun _ => rfl) rfl rfl ?_
    refine DChG.op rfl (fun _ => q_move rfl) (fun _ => rfl) rfl rfl ?_
    refine DChG.op rfl (fun _ => ZaD rfl rfl rfl rfl rfl (by omega) (by omega) (idx_nat rfl)) (fun _ => rfl) rfl rfl ?_
    refine DChG.opC rfl (fun S hn hd hc => OpQ.pre (H1 := [rowB (bif false then ys.set i (ys.getD j 0) else ys)]) (by simp only [(clF hc hn (by kernel_rfl) : S 13 = false)]) (Zac rfl rfl rfl rfl (nts_get (xs := ys) (i := i) (by omega)))) (fun _ => rfl) rfl rfl ?_
    refine DChG.op rfl (fun _ => ZaD rfl rfl rfl rfl rfl (by omega) (by omega) (idx_nat rfl)) (fun _ => rfl) rfl rfl ?_
    refine DChG.stC rfl (fun S hn hd hc => OpN.both (H1 := [rowB (bif false then ys.set i (ys.getD j 0) else ys)]) (H3 := [rowB (bif true then ys.set i (ys.getD j 0) else ys)]) (by simp only [hn]) rfl (Zad rfl rfl rfl rfl rfl rfl (by simp; omega) nts_set)) rfl rfl ?_
    refine .nil (fun hG => AOps.fin (n := 1) (as' := []) (H' := [rowB (ys.set i (ys.getD j 0))]) rfl rfl rfl ?_)
    refine y_op rfl (ZaD rfl rfl rfl rfl rfl (by omega) (by omega) (idx_nat rfl)) ?_
    refine y_new rfl (Zad rfl rfl rfl rfl rfl rfl (by simp; omega) nts_set) ?_
    refine AOps.nil (ARun.inBlock (ARun.region ?_)); refine zzm ?_
    refine y_op rfl (q_add rfl rfl (nadd1_i64 (by omega))) ?_
    refine zzm ?_
    refine y_op rfl (q_sub rfl rfl (nsub1_i64 (by omega) (by omega))) ?_
    refine zza ?_; refine zza ?_; refine AOps.nil ?_
    refine ARun.again (ih ((i + 1, ((j - 1 : Nat) : Int), (ys.set i (ys.getD j 0)).set j (ys.getD i 0))) ?_ ?_) ?_ ?_
    · exact ⟨by dsimp only; omega, hinv.step (by omega) hj⟩
    · (dsimp only; omega)
    · (repeat' first | exact envLe_nil | apply envLe_any | apply envLe_same)
    rfl
  have h := of_decide_eq_false h
  refine ARun.exit rfl ?_
  refine ARun.nil ?_
  refine ⟨_, _, _, .nil, .nil, ?_⟩
  exact ⟨rfl, by rw [hinv.fin (by omega)]; rfl⟩
end Go.V
set_option maxHeartbeats 2000000
set_option synthInstance.maxSize 100000
set_option synthInstance.maxHeartbeats 2000000
namespace Go.V
open Go.RowKit Go.Proofs
def fig (d : Nat) : Nat := if d < 10 then 48 + d else 87 + d
def txt (b v : Nat) : List Nat := if v = 0 then [48] else ((dgs b v).map fig).reverse
abbrev figS : ByteArray := ⟨#[48, 49, 50, 51, 52, 53, 54, 55, 56, 57, 97, 98, 99, 100, 101, 102, 103, 104, 105, 106, 107, 108, 109, 110, 111, 112, 113, 114, 115, 116, 117, 118, 119, 120, 121, 122]⟩
theorem figS_size : figS.size = 36 := rfl
theorem fig_all : ∀ d : _root_.Fin 36, (figS[d.val]'d.isLt).toNat = fig d.val := by decide
theorem fig_get {d : Nat} (h : d < 36) (h' : ((d : Nat) : Int).toNat < figS.size) : ((figS[((d : Nat) : Int).toNat]'h').toNat : Int) = ((fig d : Nat) : Int) := congrArg Int.ofNat (fig_all ⟨d, h⟩)
theorem dgs_len {b : Nat} (hb : 2 ≤ b) : ∀ (n v : Nat), v < 2 ^ n → (dgs b v).length ≤ n := by
  intro n
  induction n with
  | zero => intro v h; have : v = 0 := by omega
            subst this; rw [dgs_zero]; exact Nat.le_refl _
  | succ n ih =>
    intro v h
    rcases Nat.eq_zero_or_pos v with h0 | h0
    · subst h0; rw [dgs_zero]; exact Nat.zero_le _
    rw [dgs_pos hb h0, List.length_cons]
    have : v / b < 2 ^ n := by
      rw [Nat.div_lt_iff_lt_mul (by omega)]
      have : 2 ^ n * 2 ≤ 2 ^ n * b := Nat.mul_le_mul_left _ hb
      rw [Nat.pow_succ] at h
      omega
    have := ih _ this
    omega
theorem B_pow2 (n : Nat) : B ^ n = 2 ^ (32 * n) := by rw [Nat.pow_mul]; rfl
theorem dgs_fit {b a : Nat} (hb : 2 ≤ b) (ha : (lim a).length ≤ 1024) : (dgs b a).length ≤ 32768 := by
  suffices h : ∀ N, 32 * (lim a).length ≤ N → (dgs b a).length ≤ N from h _ (by omega)
  intro N hN
  apply dgs_len hb
  have h1 := ln_lt a
  rw [B_pow2] at h1
  exact Nat.lt_of_lt_of_le h1 (Nat.pow_le_pow_right (by decide) hN)
abbrev bts (b a k : Nat) : List D := nts .u8 (((dgs b a).take k).map fig)
theorem bts_succ {b a k d : Nat} (h : (dgs b a)[k]? = some d) : bts b a (k + 1) = bts b a k ++ [.int .u8 ((fig d : Nat) : Int)] := by
  show (((dgs b a).take (k + 1)).map fig).map _ = _
  rw [List.take_add_one, h]
  simp
theorem getJ {α : Type} {a b c d e x : α} {J : List α} : (a :: b :: c :: d :: e :: (J ++ [x]))[5 + J.length]? = some x := by
  rw [show 5 + J.length = J.length + 5 by omega]
  simp
theorem setJ {α : Type} {a b c d e x y : α} {J : List α} : (a :: b :: c :: d :: e :: (J ++ [x])).set (5 + J.length) y = a :: b :: c :: d :: e :: (J ++ [y]) := by
  rw [show 5 + J.length = J.length + 5 by omega]
  simp
theorem srcD_row {H : Heap} {id n : Nat} {o : AObj} (h : H[id]? = some (some o)) : srcD H (.row id n) = some (n, o.cells) := by simp only [srcD, h]
def RT (b a k : Nat) (o0 : Option AObj) (T : Heap) : Prop := ∃ J : Heap, o0 = some ⟨[growD (5 + J.length) (bts b a k)], Zf8, 1, true, none⟩ ∧ T = growT J Zh8 (bts b a k)
theorem Zj0 (a b : Nat) (ha : (lim a).length ≤ 1024) (hb2 : 2 ≤ b) (hb36 : b ≤ 36) : PC C Zi5 [numD a, .int .i64 (b : Int)] (fun o => o = .ret (.str (bytesOf (txt b a)))) := by
  have hfit := dgs_fit hb2 ha
  refine PC.rn Zed Zip Ziq (rs := [.tmp 4]) (by rw [Zir]) ?_
  refine ARun.seq (ARun.region ?_); refine zza ?_; refine AOps.nil (ARun.seq (ARun.region ?_))
  refine y_new rfl (Zae rfl rfl rfl rfl) ?_
  refine AOps.nil (ARun.seq (ARun.seq (ARun.region ?_))); refine zzm ?_; refine zzm ?_
  refine Zau rfl rfl rfl rfl (Zl0 a b _) ?_ (by rintro _ _ ⟨h, _⟩; cases h)
  rintro _ _ ⟨h, rfl⟩
  injection h with h
  subst h
  refine AOps.nil (ARun.block ?_)
  refine ARun.rangeFn (n := 3) rfl rfl rfl (Zky a b ha hb2 hb36 [10] rfl _ _ _ (RT b a) (fun k c d o0 T hd hR => ?_) _ [] ?_) ?_ ?_
  · obtain ⟨J, rfl, rfl⟩ := hR
    have hk := (List.getElem?_eq_some_iff.1 hd).1
    have hd36 : d < 36 := Nat.lt_of_lt_of_le (dgs_lt hb2 a d (List.mem_of_getElem? hd)) hb36
    have hbl : (bts b a k).length + 1 ≤ 40000 := by
      simp only [nts, List.length_map, List.length_take]; omega
    refine ARun.env0 (by simp only [setL, List.zip_cons_cons, List.zip_nil_right, List.set_cons_succ, List.set_cons_zero]; exact rfl) ?_
    refine ARun.region ?_; refine zza ?_; refine AOps.nil ?_
    refine ARun.beginRoundI rfl rfl ?_
    refine ARun.block ?_
    refine ARun.drawnAll 6 mixC (by kernel_rfl) (by kernel_rfl) (allOf (by kernel_rfl : _ = [[0, 1, 2, 3, 4, 5], [1, 0, 2, 3, 4, 5], [1, 2, 0, 3, 4, 5], [1, 2, 3, 0, 4, 5]]) (consAll ?_ (consAll ?_ (consAll ?_ (consAll ?_ nilAll)))))
    · skip
      refine yo_at ?_
      refine yo_op rfl (Zac rfl rfl rfl rfl rfl) ?_
      refine yo_at ?_
      refine yo_op rfl (q_move rfl) ?_
      refine yo_at ?_
      refine yo_op rfl (ZaW rfl rfl rfl (by omega) (by rw [figS_size]; omega) (fig_get hd36 _)) ?_
      refine yo_at ?_
      refine yo_new rfl (Zaj rfl rfl rfl rfl rfl rfl rfl rfl rfl rfl rfl (by decide) (by decide)) ?_
      refine yo_at ?_
      refine yo_grow rfl rfl rfl rfl rfl rfl rfl rfl rfl rfl (by show (_ + 1) * 1 ≤ _; omega) (by omega) (fun J' => ?_)
      refine yo_at ?_
      refine yo_new rfl (Zad rfl rfl rfl (okCell_grow (B := [_, _, _, _, _]) rfl) rfl rfl (Nat.le_of_ble_eq_true rfl) rfl) ?_
      refine yo_nil ?_
      refine ARun.inBlock ?_
      refine ARun.nil ⟨rfl, rfl, _, _, ?_, rfl⟩
      unfold RT
      rw [bts_succ hd]
      exact ⟨J', rfl, rfl⟩
    · skip
      refine yo_at ?_
      refine yo_op rfl (q_move rfl) ?_
      refine yo_at ?_
      refine yo_op rfl (Zac rfl rfl rfl rfl rfl) ?_
      refine yo_at ?_
      refine yo_op rfl (ZaW rfl rfl rfl (by omega) (by rw [figS_size]; omega) (fig_get hd36 _)) ?_
      refine yo_at ?_
      refine yo_new rfl (Zaj rfl rfl rfl rfl rfl rfl rfl rfl rfl rfl rfl (by decide) (by decide)) ?_
      refine yo_at ?_
      refine yo_grow rfl rfl rfl rfl rfl rfl rfl rfl rfl rfl (by show (_ + 1) * 1 ≤ _; omega) (by omega) (fun J' => ?_)
      refine yo_at ?_
      refine yo_new rfl (Zad rfl rfl rfl (okCell_grow (B := [_, _, _, _, _]) rfl) rfl rfl (Nat.le_of_ble_eq_true rfl) rfl) ?_
      refine yo_nil ?_
      refine ARun.inBlock ?_
      refine ARun.nil ⟨rfl, rfl, _, _, ?_, rfl⟩
      unfold RT
      rw [bts_succ hd]
      exact ⟨J', rfl, rfl⟩
    · skip
      refine yo_at ?_
      refine yo_op rfl (q_move rfl) ?_
      refine yo_at ?_
      refine yo_op rfl (ZaW rfl rfl rfl (by omega) (by rw [figS_size]; omega) (fig_get hd36 _)) ?_
      refine yo_at ?_
      refine yo_op rfl (Zac rfl rfl rfl rfl rfl) ?_
      refine yo_at ?_
      refine yo_new rfl (Zaj rfl rfl rfl rfl rfl rfl rfl rfl rfl rfl rfl (by decide) (by decide)) ?_
      refine yo_at ?_
      refine yo_grow rfl rfl rfl rfl rfl rfl rfl rfl rfl rfl (by show (_ + 1) * 1 ≤ _; omega) (by omega) (fun J' => ?_)
      refine yo_at ?_
      refine yo_new rfl (Zad rfl rfl rfl (okCell_grow (B := [_, _, _, _, _]) rfl) rfl rfl (Nat.le_of_ble_eq_true rfl) rfl) ?_
      refine yo_nil ?_
      refine ARun.inBlock ?_
      refine ARun.nil ⟨rfl, rfl, _, _, ?_, rfl⟩
      unfold RT
      rw [bts_succ hd]
      exact ⟨J', rfl, rfl⟩
    refine yo_at ?_
    refine yo_op rfl (q_move rfl) ?_
    refine yo_at ?_
    refine yo_op rfl (ZaW rfl rfl rfl (by omega) (by rw [figS_size]; omega) (fig_get hd36 _)) ?_
    refine yo_at ?_
    refine yo_new rfl (Zaj rfl rfl rfl rfl rfl rfl rfl rfl rfl rfl rfl (by decide) (by decide)) ?_
    refine yo_at ?_
    refine yo_op rfl (Zac rfl rfl rfl rfl rfl) ?_
    refine yo_at ?_
    refine yo_grow rfl rfl rfl rfl rfl rfl rfl rfl rfl rfl (by show (_ + 1) * 1 ≤ _; omega) (by omega) (fun J' => ?_)
    refine yo_at ?_
    refine yo_new rfl (Zad rfl rfl rfl (okCell_grow (B := [_, _, _, _, _]) rfl) rfl rfl (Nat.le_of_ble_eq_true rfl) rfl) ?_
    refine yo_nil ?_
    refine ARun.inBlock ?_
    refine ARun.nil ⟨rfl, rfl, _, _, ?_, rfl⟩
    unfold RT
    rw [bts_succ hd]
    exact ⟨J', rfl, rfl⟩
  · exact ⟨[], rfl, rfl⟩
  · rintro d H2 ⟨h, o0', T', hR, rfl⟩
    injection h with h
    subst h
    obtain ⟨J, rfl, rfl⟩ := hR
    refine ⟨.ready, rfl, ?_⟩
    have hfull : bts b a (dgs b a).length = nts .u8 ((dgs b a).map fig) := by show (((dgs b a).take _).map fig).map _ = _; rw [List.take_length]
    rw [hfull]
    rcases Nat.eq_zero_or_pos a with h0 | h0
    · subst h0
      rw [show dgs b 0 = [] from dgs_zero b]
      refine ARun.hp (H' := some ⟨[.nilsl], Zf8, 1, true, none⟩ :: some ⟨[numD 0], Zd6, 1, true, none⟩ :: some ⟨[.int .i64 (b : Int)], t_int, 1, true, none⟩ :: defsO :: none :: J) rfl ?_
      refine ARun.inBlock (ARun.seq (ARun.seq (ARun.region ?_)))
      refine y_op rfl (Zac rfl rfl rfl rfl rfl) ?_
      refine y_op rfl (ZkH rfl rfl) ?_
      refine zzi ?_; refine AOps.nil ?_
      refine ARun.ite rfl (fun hz => ?_) (fun hz => ?_)
      · skip
        refine ARun.seq (ARun.region ?_); refine zza ?_; refine AOps.nil ?_
        refine ARun.ret ?_
        exact ⟨⟨_, rfl, rfl, rfl⟩, _, _, _, .tmp rfl .nil, .cons (.same _) .nil, rfl, rfl⟩
      exact absurd rfl hz
    have hne : (dgs b a).map fig ≠ [] := by rw [dgs_pos hb2 h0]; simp
    have htx : txt b a = ((dgs b a).map fig).reverse := by unfold txt; rw [if_neg (by omega)]
    have hln : ((dgs b a).map fig).length ≤ 32768 := by simpa using hfit
    have hu8 : ∀ x ∈ (dgs b a).map fig, x < 256 := by
      intro x hx
      obtain ⟨d, hd, rfl⟩ := List.mem_map.1 hx
      have := dgs_lt hb2 a d hd
      unfold fig; split <;> omega
    rw [htx]
    generalize (dgs b a).map fig = X at *
    obtain ⟨x, l, rfl⟩ := List.exists_cons_of_ne_nil hne
    refine ARun.hp (H' := some ⟨[.row (5 + J.length) (x :: l).length], Zf8, 1, true, none⟩ :: some ⟨[numD 0], Zd6, 1, true, none⟩ :: some ⟨[.int .i64 (b : Int)], t_int, 1, true, none⟩ :: defsO :: none :: (J ++ [rowB (x :: l)])) (by simp [growD, growT, nts]) ?_
    refine ARun.inBlock (ARun.seq (ARun.seq (ARun.region ?_)))
    refine y_op rfl (Zac rfl rfl rfl rfl rfl) ?_
    refine y_op rfl (ZbG rfl getJ rfl) ?_
    refine zzi ?_; refine AOps.nil ?_
    refine ARun.ite rfl (fun hz => ?_) (fun hz => ?_)
    · skip
      exfalso
      simp at hz
      omega
    refine ARun.skip (ARun.seq (ARun.region ?_))
    refine y_op rfl (Zac rfl rfl rfl rfl rfl) ?_
    refine Zau rfl rfl rfl rfl (HC.frame1 (o' := ⟨nts .u8 (x :: l).reverse, Zh8, 1, true, none⟩) (Zkz (x :: l) (by omega)) rfl rfl rfl rfl (pures_nts _) (pures_nts _) rfl getJ) ?_ (by rintro _ _ ⟨h, _⟩; cases h)
    rintro _ _ ⟨h, rfl⟩
    injection h with h
    subst h
    refine AOps.hp setJ ?_
    refine AOps.nil (ARun.seq (ARun.region ?_))
    refine y_op rfl (Zac rfl rfl rfl rfl rfl) ?_
    refine y_op rfl (Zlh (n := (x :: l).length) (l := (x :: l).reverse) rfl (by kernel_rfl) rfl rfl (srcD_row (o := ⟨nts .u8 (x :: l).reverse, Zh8, 1, true, none⟩) getJ) (by simp)) ?_
    refine zza ?_; refine AOps.nil ?_
    refine ARun.ret ?_
    exact ⟨⟨_, rfl, rfl, rfl⟩, _, _, _, .tmp rfl .nil, .cons (.same _) .nil, rfl, rfl⟩
  rintro d H2 ⟨h, _⟩
  cases h
end Go.V
set_option maxHeartbeats 4000000
set_option maxRecDepth 100000
set_option synthInstance.maxSize 100000
set_option synthInstance.maxHeartbeats 2000000
namespace Go.V
open Go.RowKit Go.Proofs
def digV (c : Nat) : Nat := if 48 ≤ c ∧ c ≤ 57 then c - 48 else if 97 ≤ c ∧ c ≤ 122 then c - 87 else if 65 ≤ c ∧ c ≤ 90 then c - 55 else 36
theorem Zh7 (c : Nat) (hc : c < 256) : PC C ZiD [.int .u8 (c : Int)] (fun o => o = .ret (.int .i64 ((digV c : Nat) : Int))) := by
  refine PC.rn ZdJ ZhB ZhC (rs := [.tmp 2]) (by rw [ZhD]) ?_
  refine ARun.seq (ARun.region ?_); refine zza ?_; refine AOps.nil (ARun.seq (ARun.block (ARun.seq (ARun.region ?_)))); refine zzm ?_; refine zzi ?_; refine zzm ?_
  refine AOps.bool 6 rfl (fun a0 => ?_) (fun a0 => ?_)
  · skip
    have a0' := of_decide_eq_true a0
    refine zzm ?_; refine zzi ?_; refine zzp ?_; refine zza ?_; refine AOps.nil ?_
    refine ARun.ite rfl (fun b0 => ?_) (fun b0 => ?_)
    · skip
      have hv : digV c = c - 48 := by unfold digV; (repeat' split) <;> omega
      have hc1 : 48 ≤ c := by omega
      refine ARun.seq (ARun.region ?_); refine zzm ?_
      refine y_op rfl (q_sub rfl rfl (show _ = ((c - 48 : Nat) : Int) by rw [IntKind.wrap_u8]; omega)) ?_
      refine y_op rfl (q_conv rfl rfl rfl (nconv_i64 (by omega))) ?_
      refine zza ?_; refine AOps.nil ?_
      refine ARun.ret ?_
      refine ⟨_, _, _, .tmp rfl .nil, .cons (.same _) .nil, rfl, ?_⟩
      rw [hv, show ((c - 48 : Nat) : Int) = ((c - 48 : Nat) : Int) by omega]; rfl
    refine ARun.seq (ARun.region ?_); refine zzm ?_; refine zzi ?_; refine zzm ?_
    refine AOps.bool 16 rfl (fun a1 => ?_) (fun a1 => ?_)
    · skip
      have a1' := of_decide_eq_true a1
      refine zzm ?_; refine zzi ?_; refine zzp ?_; refine zza ?_; refine AOps.nil ?_
      refine ARun.ite rfl (fun b1 => ?_) (fun b1 => ?_)
      · skip
        have hv : digV c = c - 87 := by unfold digV; (repeat' split) <;> omega
        have hc1 : 97 ≤ c := by omega
        refine ARun.seq (ARun.region ?_); refine zzm ?_
        refine y_op rfl (q_sub rfl rfl (show _ = ((c - 97 : Nat) : Int) by rw [IntKind.wrap_u8]; omega)) ?_
        refine y_op rfl (q_conv rfl rfl rfl (nconv_i64 (by omega))) ?_
        refine y_op rfl (q_add rfl rfl (nadd1_i64 (by omega))) ?_
        refine zza ?_; refine AOps.nil ?_
        refine ARun.ret ?_
        refine ⟨_, _, _, .tmp rfl .nil, .cons (.same _) .nil, rfl, ?_⟩
        rw [hv, show ((c - 87 : Nat) : Int) = ((c - 97 : Nat) : Int) + 10 by omega]; rfl
      refine ARun.seq (ARun.region ?_); refine zzm ?_; refine zzi ?_; refine zzm ?_
      refine AOps.bool 27 rfl (fun a2 => ?_) (fun a2 => ?_)
      · skip
        have a2' := of_decide_eq_true a2
        refine zzm ?_; refine zzi ?_; refine zzp ?_; refine zza ?_; refine AOps.nil ?_
        refine ARun.ite rfl (fun b2 => ?_) (fun b2 => ?_)
        · skip
          have hv : digV c = c - 55 := by unfold digV; (repeat' split) <;> omega
          have hc1 : 65 ≤ c := by omega
          refine ARun.seq (ARun.region ?_); refine zzm ?_
          refine y_op rfl (q_sub rfl rfl (show _ = ((c - 65 : Nat) : Int) by rw [IntKind.wrap_u8]; omega)) ?_
          refine y_op rfl (q_conv rfl rfl rfl (nconv_i64 (by omega))) ?_
          refine y_op rfl (q_add rfl rfl (nadd1_i64 (by omega))) ?_
          refine zza ?_; refine AOps.nil ?_
          refine ARun.ret ?_
          refine ⟨_, _, _, .tmp rfl .nil, .cons (.same _) .nil, rfl, ?_⟩
          rw [hv, show ((c - 55 : Nat) : Int) = ((c - 65 : Nat) : Int) + 10 by omega]; rfl
        have hv : digV c = 36 := by unfold digV; (repeat' split) <;> omega
        refine ARun.skip (ARun.inBlock (ARun.seq (ARun.region ?_))); refine zza ?_; refine AOps.nil ?_
        refine ARun.ret ?_
        refine ⟨_, _, _, .tmp rfl .nil, .cons (.same _) .nil, rfl, ?_⟩
        rw [hv]; rfl
      have a2' := of_decide_eq_false a2
      refine zzk ?_; refine zzk ?_; refine zzp ?_; refine zza ?_; refine AOps.nil ?_
      refine ARun.condF rfl ?_
      have hv : digV c = 36 := by unfold digV; (repeat' split) <;> omega
      refine ARun.skip (ARun.inBlock (ARun.seq (ARun.region ?_))); refine zza ?_; refine AOps.nil ?_
      refine ARun.ret ?_
      refine ⟨_, _, _, .tmp rfl .nil, .cons (.same _) .nil, rfl, ?_⟩
      rw [hv]; rfl
    have a1' := of_decide_eq_false a1
    refine zzk ?_; refine zzk ?_; refine zzp ?_; refine zza ?_; refine AOps.nil ?_
    refine ARun.condF rfl ?_
    refine ARun.seq (ARun.region ?_); refine zzm ?_; refine zzi ?_; refine zzm ?_
    refine AOps.bool 27 rfl (fun a2 => ?_) (fun a2 => ?_)
    · skip
      have a2' := of_decide_eq_true a2
      refine zzm ?_; refine zzi ?_; refine zzp ?_; refine zza ?_; refine AOps.nil ?_
      refine ARun.ite rfl (fun b2 => ?_) (fun b2 => ?_)
      · skip
        have hv : digV c = c - 55 := by unfold digV; (repeat' split) <;> omega
        have hc1 : 65 ≤ c := by omega
        refine ARun.seq (ARun.region ?_); refine zzm ?_
        refine y_op rfl (q_sub rfl rfl (show _ = ((c - 65 : Nat) : Int) by rw [IntKind.wrap_u8]; omega)) ?_
        refine y_op rfl (q_conv rfl rfl rfl (nconv_i64 (by omega))) ?_
        refine y_op rfl (q_add rfl rfl (nadd1_i64 (by omega))) ?_
        refine zza ?_; refine AOps.nil ?_
        refine ARun.ret ?_
        refine ⟨_, _, _, .tmp rfl .nil, .cons (.same _) .nil, rfl, ?_⟩
        rw [hv, show ((c - 55 : Nat) : Int) = ((c - 65 : Nat) : Int) + 10 by omega]; rfl
      have hv : digV c = 36 := by unfold digV; (repeat' split) <;> omega
      refine ARun.skip (ARun.inBlock (ARun.seq (ARun.region ?_))); refine zza ?_; refine AOps.nil ?_
      refine ARun.ret ?_
      refine ⟨_, _, _, .tmp rfl .nil, .cons (.same _) .nil, rfl, ?_⟩
      rw [hv]; rfl
    have a2' := of_decide_eq_false a2
    refine zzk ?_; refine zzk ?_; refine zzp ?_; refine zza ?_; refine AOps.nil ?_
    refine ARun.condF rfl ?_
    have hv : digV c = 36 := by unfold digV; (repeat' split) <;> omega
    refine ARun.skip (ARun.inBlock (ARun.seq (ARun.region ?_))); refine zza ?_; refine AOps.nil ?_
    refine ARun.ret ?_
    refine ⟨_, _, _, .tmp rfl .nil, .cons (.same _) .nil, rfl, ?_⟩
    rw [hv]; rfl
  have a0' := of_decide_eq_false a0
  refine zzk ?_; refine zzk ?_; refine zzp ?_; refine zza ?_; refine AOps.nil ?_
  refine ARun.condF rfl ?_
  refine ARun.seq (ARun.region ?_); refine zzm ?_; refine zzi ?_; refine zzm ?_
  refine AOps.bool 16 rfl (fun a1 => ?_) (fun a1 => ?_)
  · skip
    have a1' := of_decide_eq_true a1
    refine zzm ?_; refine zzi ?_; refine zzp ?_; refine zza ?_; refine AOps.nil ?_
    refine ARun.ite rfl (fun b1 => ?_) (fun b1 => ?_)
    · skip
      have hv : digV c = c - 87 := by unfold digV; (repeat' split) <;> omega
      have hc1 : 97 ≤ c := by omega
      refine ARun.seq (ARun.region ?_); refine zzm ?_
      refine y_op rfl (q_sub rfl rfl (show _ = ((c - 97 : Nat) : Int) by rw [IntKind.wrap_u8]; omega)) ?_
      refine y_op rfl (q_conv rfl rfl rfl (nconv_i64 (by omega))) ?_
      refine y_op rfl (q_add rfl rfl (nadd1_i64 (by omega))) ?_
      refine zza ?_; refine AOps.nil ?_
      refine ARun.ret ?_
      refine ⟨_, _, _, .tmp rfl .nil, .cons (.same _) .nil, rfl, ?_⟩
      rw [hv, show ((c - 87 : Nat) : Int) = ((c - 97 : Nat) : Int) + 10 by omega]; rfl
    refine ARun.seq (ARun.region ?_); refine zzm ?_; refine zzi ?_; refine zzm ?_
    refine AOps.bool 27 rfl (fun a2 => ?_) (fun a2 => ?_)
    · skip
      have a2' := of_decide_eq_true a2
      refine zzm ?_; refine zzi ?_; refine zzp ?_; refine zza ?_; refine AOps.nil ?_
      refine ARun.ite rfl (fun b2 => ?_) (fun b2 => ?_)
      · skip
        have hv : digV c = c - 55 := by unfold digV; (repeat' split) <;> omega
        have hc1 : 65 ≤ c := by omega
        refine ARun.seq (ARun.region ?_); refine zzm ?_
        refine y_op rfl (q_sub rfl rfl (show _ = ((c - 65 : Nat) : Int) by rw [IntKind.wrap_u8]; omega)) ?_
        refine y_op rfl (q_conv rfl rfl rfl (nconv_i64 (by omega))) ?_
        refine y_op rfl (q_add rfl rfl (nadd1_i64 (by omega))) ?_
        refine zza ?_; refine AOps.nil ?_
        refine ARun.ret ?_
        refine ⟨_, _, _, .tmp rfl .nil, .cons (.same _) .nil, rfl, ?_⟩
        rw [hv, show ((c - 55 : Nat) : Int) = ((c - 65 : Nat) : Int) + 10 by omega]; rfl
      have hv : digV c = 36 := by unfold digV; (repeat' split) <;> omega
      refine ARun.skip (ARun.inBlock (ARun.seq (ARun.region ?_))); refine zza ?_; refine AOps.nil ?_
      refine ARun.ret ?_
      refine ⟨_, _, _, .tmp rfl .nil, .cons (.same _) .nil, rfl, ?_⟩
      rw [hv]; rfl
    have a2' := of_decide_eq_false a2
    refine zzk ?_; refine zzk ?_; refine zzp ?_; refine zza ?_; refine AOps.nil ?_
    refine ARun.condF rfl ?_
    have hv : digV c = 36 := by unfold digV; (repeat' split) <;> omega
    refine ARun.skip (ARun.inBlock (ARun.seq (ARun.region ?_))); refine zza ?_; refine AOps.nil ?_
    refine ARun.ret ?_
    refine ⟨_, _, _, .tmp rfl .nil, .cons (.same _) .nil, rfl, ?_⟩
    rw [hv]; rfl
  have a1' := of_decide_eq_false a1
  refine zzk ?_; refine zzk ?_; refine zzp ?_; refine zza ?_; refine AOps.nil ?_
  refine ARun.condF rfl ?_
  refine ARun.seq (ARun.region ?_); refine zzm ?_; refine zzi ?_; refine zzm ?_
  refine AOps.bool 27 rfl (fun a2 => ?_) (fun a2 => ?_)
  · skip
    have a2' := of_decide_eq_true a2
    refine zzm ?_; refine zzi ?_; refine zzp ?_; refine zza ?_; refine AOps.nil ?_
    refine ARun.ite rfl (fun b2 => ?_) (fun b2 => ?_)
    · skip
      have hv : digV c = c - 55 := by unfold digV; (repeat' split) <;> omega
      have hc1 : 65 ≤ c := by omega
      refine ARun.seq (ARun.region ?_); refine zzm ?_
      refine y_op rfl (q_sub rfl rfl (show _ = ((c - 65 : Nat) : Int) by rw [IntKind.wrap_u8]; omega)) ?_
      refine y_op rfl (q_conv rfl rfl rfl (nconv_i64 (by omega))) ?_
      refine y_op rfl (q_add rfl rfl (nadd1_i64 (by omega))) ?_
      refine zza ?_; refine AOps.nil ?_
      refine ARun.ret ?_
      refine ⟨_, _, _, .tmp rfl .nil, .cons (.same _) .nil, rfl, ?_⟩
      rw [hv, show ((c - 55 : Nat) : Int) = ((c - 65 : Nat) : Int) + 10 by omega]; rfl
    have hv : digV c = 36 := by unfold digV; (repeat' split) <;> omega
    refine ARun.skip (ARun.inBlock (ARun.seq (ARun.region ?_))); refine zza ?_; refine AOps.nil ?_
    refine ARun.ret ?_
    refine ⟨_, _, _, .tmp rfl .nil, .cons (.same _) .nil, rfl, ?_⟩
    rw [hv]; rfl
  have a2' := of_decide_eq_false a2
  refine zzk ?_; refine zzk ?_; refine zzp ?_; refine zza ?_; refine AOps.nil ?_
  refine ARun.condF rfl ?_
  have hv : digV c = 36 := by unfold digV; (repeat' split) <;> omega
  refine ARun.skip (ARun.inBlock (ARun.seq (ARun.region ?_))); refine zza ?_; refine AOps.nil ?_
  refine ARun.ret ?_
  refine ⟨_, _, _, .tmp rfl .nil, .cons (.same _) .nil, rfl, ?_⟩
  rw [hv]; rfl
end Go.V
set_option maxHeartbeats 2000000
set_option synthInstance.maxSize 100000
set_option synthInstance.maxHeartbeats 2000000
namespace Go.V
open Go.RowKit Go.Proofs
def upN (n : Nat) : Nat := if 97 ≤ n ∧ n ≤ 122 then n - 32 else n
theorem up_byte (n : Nat) (h : n < 128) : Lib.upperB (UInt8.ofNat n) = UInt8.ofNat (upN n) := by
  have key : ∀ m : _root_.Fin 128, Lib.upperB (UInt8.ofNat m.val) = UInt8.ofNat (upN m.val) := by decide
  exact key ⟨n, h⟩
theorem up_bytes {l : List Nat} (h : ∀ n ∈ l, n < 128) : Lib.toUpperA (bytesOf l).data.toList = (l.map upN).map UInt8.ofNat := by
  unfold Lib.toUpperA bytesOf
  simp only [List.map_map]
  apply List.map_congr_left
  intro n hn
  exact up_byte n (h n hn)
theorem bytesOf_size (l : List Nat) : (bytesOf l).size = l.length := by simp [bytesOf, ByteArray.size]
theorem bytesOf_append (l m : List Nat) : bytesOf (l ++ m) = bytesOf l ++ bytesOf m := by
  apply ByteArray.ext
  simp [bytesOf]
theorem Zlk (l : List Nat) (h : ∀ n ∈ l, n < 128) (hl : l.length ≤ 140737488355328) : PC C ZeD [.str (bytesOf l)] (fun o => o = .ret (.str (bytesOf (l.map upN)))) := by
  refine PC.of_below Zei (v := .string (bytesOf (l.map upN))) (fun _ _ _ _ => by simp only [VR]) fun w L μ H vs hv => ?_
  simp only [VRs, VR] at hv
  obtain ⟨v, us, rfl, rfl, rfl⟩ := hv
  have h1 := toUpper_calls (bytesOf l) w (by rw [bytesOf_size]; exact hl) (by
    intro j b hb
    have hm := List.mem_of_getElem? hb
    simp only [bytesOf, List.mem_map] at hm
    obtain ⟨n, hn, rfl⟩ := hm
    have := h n hn
    simp only [UInt8.toNat_ofNat']
    omega)
  rw [up_bytes h] at h1
  exact h1
def strZ (b : Nat) (up : Bool) (z : Int) : List Nat := (bif decide (z < 0) then [45] else []) ++ (bif up then (txt b z.natAbs).map upN else txt b z.natAbs)
def textR (d : Bool × List Nat) (base : Int) (up : Bool) : List Nat × Int := bif okI d && (decide (2 ≤ base) && decide (base ≤ 36)) then (strZ base.toNat up (valI d), 0) else ([], 1)
theorem txt_ascii {b : Nat} (hb : 2 ≤ b) (h36 : b ≤ 36) (v : Nat) : ∀ n ∈ txt b v, n < 128 := by
  intro n hn
  unfold txt at hn
  split at hn
  · simp at hn; omega
  rw [List.mem_reverse] at hn
  obtain ⟨d, hd, rfl⟩ := List.mem_map.1 hn
  have := dgs_lt hb v d hd
  unfold fig; split <;> omega
theorem txt_len {b : Nat} (hb : 2 ≤ b) {a : Nat} (ha : (lim a).length ≤ 1024) : (txt b a).length ≤ 32768 := by
  unfold txt; split
  · decide
  simpa using dgs_fit hb ha
theorem Zj1 (d : Bool × List Nat) (hd : U32 d.2) (base : Int) (up : Bool) : PC C ZcZ [intA d.1 d.2, .int .i64 base, .bool up] (fun o => o = .ret (.tup [.str (bytesOf (textR d base up).1), .int .i64 (textR d base up).2])) := by
  refine PC.rn Zec Zik Zil (rs := [.tmp 6, .tmp 7]) (by rw [Zim]) ?_
  refine ARun.seq (ARun.region ?_); refine zzb ?_; refine zza ?_; refine zza ?_; refine AOps.nil (ARun.seq (ARun.seq (ARun.region ?_))); refine zzL ?_
  refine zzc rfl rfl (Ze1 d) ?_
  refine zzn ?_; refine zzm ?_
  refine AOps.bool 12 rfl (fun h1 => ?_) (fun h1 => ?_)
  · skip
    have h1 : okI d = false := by simpa using h1
    refine zzk ?_; refine zzk ?_; refine zzp ?_; refine zzm ?_; refine zzk ?_; refine zzk ?_; refine zzp ?_; refine AOps.nil ?_
    refine ARun.condT rfl ?_
    refine ARun.seq (ARun.region ?_); refine zza ?_; refine zza ?_; refine AOps.nil ?_
    refine ARun.ret ?_
    refine ⟨_, _, _, .tmp rfl (.tmp rfl .nil), .cons (.same _) (.cons (.same _) .nil), rfl, ?_⟩
    unfold textR; rw [h1]; rfl
  have h1 : okI d = true := by simpa using h1
  obtain ⟨z, rfl, fz⟩ := okI_int hd h1
  refine zzm ?_; refine zzi ?_; refine zzp ?_; refine zzm ?_
  refine AOps.bool 16 rfl (fun h2 => ?_) (fun h2 => ?_)
  · skip
    have h2 := of_decide_eq_true h2
    refine zzk ?_; refine zzk ?_; refine zzp ?_; refine AOps.nil ?_
    refine ARun.condT rfl ?_
    refine ARun.seq (ARun.region ?_); refine zza ?_; refine zza ?_; refine AOps.nil ?_
    refine ARun.ret ?_
    refine ⟨_, _, _, .tmp rfl (.tmp rfl .nil), .cons (.same _) (.cons (.same _) .nil), rfl, ?_⟩
    unfold textR; rw [h1, decide_eq_false (show ¬ 2 ≤ base by omega)]; rfl
  have h2 := of_decide_eq_false h2
  refine zzm ?_; refine zzi ?_; refine zzp ?_; refine AOps.nil ?_
  refine ARun.cond rfl (fun h3 => ?_) (fun h3 => ?_)
  · skip
    have h3 := of_decide_eq_true h3
    refine ARun.seq (ARun.region ?_); refine zza ?_; refine zza ?_; refine AOps.nil ?_
    refine ARun.ret ?_
    refine ⟨_, _, _, .tmp rfl (.tmp rfl .nil), .cons (.same _) (.cons (.same _) .nil), rfl, ?_⟩
    unfold textR; rw [h1, decide_eq_true (show 2 ≤ base by omega), decide_eq_false (show ¬ base ≤ 36 by omega)]; rfl
  have h3 := of_decide_eq_false h3
  obtain ⟨b, rfl⟩ : ∃ b : Nat, base = b := ⟨base.toNat, by omega⟩
  have hb2 : 2 ≤ b := by omega
  have hb36 : b ≤ 36 := by omega
  have hR : textR (decide (z < 0), lim z.natAbs) (b : Int) up = (strZ b up z, 0) := by
    unfold textR; rw [h1, decide_eq_true (show (2 : Int) ≤ (b : Int) by omega), decide_eq_true (show (b : Int) ≤ 36 by omega), valI_int]; rfl
  rw [hR]
  have hlen := txt_len hb2 (a := z.natAbs) fz
  refine ARun.skip (ARun.seq (ARun.region ?_)); refine zzf ?_; refine zzl ?_; refine zzm ?_
  refine zzc rfl rfl (Zj0 z.natAbs b fz hb2 hb36) ?_
  refine zza ?_; refine AOps.nil (ARun.seq (ARun.seq (ARun.region ?_))); refine zzm ?_; refine AOps.nil ?_
  refine ARun.join (S := List Nat) (fun l : List Nat => [(25, .any), (26, .any), (8, .str (bytesOf l))]) (fun l : List Nat => l = (bif up then (txt b z.natAbs).map upN else txt b z.natAbs)) (fun run => ?_) ?_
  · skip
    refine ARun.cond rfl (fun h4 => ?_) (fun h4 => ?_)
    · skip
      refine ARun.region ?_; refine zzm ?_
      refine zzc rfl rfl (Zlk (txt b z.natAbs) (txt_ascii hb2 hb36 _) (by omega)) ?_
      refine zza ?_; refine AOps.nil ?_
      exact ARun.ag (run ((txt b z.natAbs).map upN) ((by rw [h4]; rfl)))
    refine ARun.skip ?_
    exact ARun.ag (run ((txt b z.natAbs)) ((by rw [h4]; rfl)))
  rintro l hj
  try dsimp only at hj ⊢
  subst hj
  refine ARun.seq (ARun.seq (ARun.region ?_)); refine zzf ?_; refine zzl ?_; refine AOps.nil ?_
  refine ARun.join (S := List Nat) (fun l : List Nat => [(29, .any), (30, .any), (8, .str (bytesOf l))]) (fun l : List Nat => l = strZ b up z) (fun run => ?_) ?_
  · skip
    refine ARun.cond rfl (fun h5 => ?_) (fun h5 => ?_)
    · skip
      refine ARun.region ?_; refine zzm ?_
      refine y_op rfl (ZkE rfl rfl (by rw [bytesOf_size]; show 1 + _ ≤ _; cases up <;> simp <;> omega)) ?_
      rw [show (⟨#[45]⟩ : ByteArray) ++ bytesOf (bif up then (txt b z.natAbs).map upN else txt b z.natAbs) = bytesOf (strZ b up z) by unfold strZ; rw [h5]; exact (bytesOf_append [45] _).symm]
      refine zza ?_; refine AOps.nil ?_
      exact ARun.ag (run ((strZ b up z)) (rfl))
    refine ARun.skip ?_
    exact ARun.ag (run ((bif up then (txt b z.natAbs).map upN else txt b z.natAbs)) ((by unfold strZ; rw [h5]; rfl)))
  rintro l hj
  try dsimp only at hj ⊢
  subst hj
  refine ARun.seq (ARun.region ?_); refine zzm ?_; refine zza ?_; refine zza ?_; refine AOps.nil ?_
  refine ARun.ret ?_
  refine ⟨_, _, _, .tmp rfl (.tmp rfl .nil), .cons (.same _) (.cons (.same _) .nil), rfl, ?_⟩
  rfl
end Go.V
set_option maxHeartbeats 2000000
set_option synthInstance.maxSize 100000
set_option synthInstance.maxHeartbeats 2000000
namespace Go.V
open Go.RowKit Go.Proofs
theorem nts_snoc {k : IntKind} {xs : List Nat} {x : Nat} : nts k xs ++ [.int k (x : Int)] = nts k (xs ++ [x]) := by simp [nts]
theorem nts_length {k : IntKind} {xs : List Nat} : (nts k xs).length = xs.length := by simp [nts]
theorem sln_len {k : IntKind} {xs : List Nat} : D.sl (nts k xs).length (nts k xs) = sln k xs := by rw [nts_length]
theorem ZmP (xs : List Nat) (hx : U32 xs) (i : Nat) : PC C ZkG [sln .u32 xs, .int .i64 (i : Int)] (fun o => o = .ret (.int .u64 ((xs.getD i 0 : Nat) : Int))) := by
  refine PC.rn Zjz ZlK ZlL (rs := [.tmp 4]) (by rw [ZlM]) ?_
  have hd := hx.get i
  refine ARun.seq (ARun.region ?_); refine zza ?_; refine AOps.nil (ARun.seq (ARun.seq (ARun.region ?_))); refine zzm ?_; refine zzm ?_; refine zzN ?_; refine zzi ?_; refine AOps.nil ?_
  refine ARun.ite rfl (fun h => ?_) (fun h => ?_)
  · skip
    refine ARun.seq (ARun.region ?_); refine zza ?_; refine AOps.nil ?_
    refine ARun.ret ?_
    refine ⟨_, _, _, .tmp rfl .nil, .cons (.same _) .nil, rfl, ?_⟩
    rw [getD_ge (by omega)]
    rfl
  refine ARun.skip (ARun.seq (ARun.region ?_)); refine zzm ?_; refine zzm ?_
  refine y_op rfl (Zag (i := i) rfl rfl rfl rfl (by omega) (by omega) (nts_ne (by omega)) (drop_nat rfl)) ?_
  refine y_op rfl (q_load rfl rfl rfl (nts_load (i := i) (by omega))) ?_
  refine y_op rfl (q_conv rfl rfl rfl (nconv_u64 (by omega))) ?_
  refine zza ?_; refine AOps.nil ?_
  refine ARun.ret ?_
  refine ⟨_, _, _, .tmp rfl .nil, .cons (.same _) .nil, rfl, ?_⟩
  rfl
theorem ZkK (a i : Nat) : PC C ZkG [numD a, .int .i64 (i : Int)] (fun o => o = .ret (.int .u64 ((dig a i : Nat) : Int))) :=
  (ZmP (lim a) (U32_lim a) i).mono fun o ho => by rw [ho, lim_get]
theorem Zew (xs : List Nat) (hx : U32 xs) (hl : xs.length ≤ 35184372088832) : PC C ZhW [sln .u32 xs] (fun o => o = .ret (numD (val xs))) := by
  refine PC.rn ZgI Zkh Zki (rs := [.tmp 2]) (by rw [Zkj]) ?_
  refine ARun.seq (ARun.region ?_); refine zza ?_; refine AOps.nil (ARun.seq (ARun.region ?_)); refine zzm ?_; refine zzN ?_; refine zza ?_; refine AOps.nil (ARun.seq (ARun.block ?_))
  refine ARun.loopI (S := Nat) (fun n : Nat => [(6, .any), (7, .any), (8, .any), (9, .any), (10, .any), (11, .any), (12, .any), (13, .any), (14, .any), (15, .any), (16, .any), (17, .any), (3, .int .i64 (n : Int))]) (fun n : Nat => []) (fun n : Nat => n ≤ xs.length ∧ val (xs.take n) = val xs) (fun n : Nat => n) (xs.length) ?_ ?_ ?_ ?_
  · exact ⟨Nat.le_refl _, by rw [List.take_length]⟩
  · (repeat' first | exact envLe_nil | apply envLe_any | apply envLe_same)
  · rfl
  rintro n hinv ih
  obtain ⟨hn, hv⟩ := hinv
  refine ARun.seq (ARun.seq (ARun.region ?_)); refine zzm ?_; refine zzi ?_; refine zzm ?_
  refine AOps.bool 8 rfl (fun h => ?_) (fun h => ?_)
  · skip
    replace h := of_decide_eq_true h
    obtain ⟨m, rfl⟩ : ∃ m, n = m + 1 := ⟨n - 1, by omega⟩
    refine zzm ?_; refine zzm ?_
    refine y_op rfl (q_sub rfl rfl (nsub1_i64 (by omega) (by omega))) ?_
    refine y_op rfl (Zag (i := m) rfl rfl rfl rfl (by omega) (by omega) (nts_ne (by omega)) (drop_nat rfl)) ?_
    refine y_op rfl (q_load rfl rfl rfl (nts_load (i := m) (by omega))) ?_
    refine zzi ?_; refine zzp ?_; refine AOps.nil ?_
    refine ARun.ite rfl (fun h2 => ?_) (fun h2 => ?_)
    · skip
      refine ARun.skip (ARun.block (ARun.region ?_)); refine zzm ?_
      refine y_op rfl (q_sub rfl rfl (nsub1_i64 (by omega) (by omega))) ?_
      refine zza ?_; refine AOps.nil (ARun.inBlock ?_)
      refine ARun.again (ih (m) ?_ ?_) ?_ ?_
      · exact ⟨by omega, by rw [← hv, List.take_add_one, val_append, show xs[m]? = some 0 by rw [List.getElem?_eq_getElem (by omega)]; have : xs.getD m 0 = 0 := (by omega); rw [List.getD_eq_getElem?_getD, List.getElem?_eq_getElem (by omega)] at this; exact congrArg some this]; simp [val]⟩
      · exact Nat.lt_succ_self _
      · (repeat' first | exact envLe_nil | apply envLe_any | apply envLe_same)
      rfl
    refine ARun.exit rfl ?_
    refine ARun.seq (ARun.region ?_)
    refine y_new rfl (Zaj rfl rfl rfl rfl rfl rfl rfl rfl rfl rfl rfl (by decide) (by decide)) ?_
    refine zzm ?_; refine zzm ?_
    refine y_op rfl (Zd2 (m := (xs.take (m + 1)).length) (ds := nts .u32 (xs.take (m + 1))) rfl rfl rfl rfl rfl (bnd_nat rfl rfl) (by omega) (by omega) (by simp) (by simp; omega) (by rw [nts_slice]; simp)) ?_
    refine y_new rfl (Zf6 rfl rfl (by decide) rfl rfl rfl rfl rfl rfl rfl rfl rfl rfl (by simp) (by simp; omega) (by rw [maxLen_eq]; simp; omega) rfl) ?_
    refine zza ?_; refine AOps.nil ?_
    have hc : Canon (xs.take (m + 1)) := .inr (by rw [List.length_take, Nat.min_eq_left (by omega), Nat.add_sub_cancel, List.getD_eq_getElem?_getD, List.getElem?_take, if_pos (by omega), ← List.getD_eq_getElem?_getD]; omega)
    refine ARun.ret ?_
    refine ⟨_, _, _, .tmp rfl .nil, .cons (.row rfl (pures_nts _)) .nil, rfl, ?_⟩
    rw [← hv, numD, lim_val (hx.take _) hc]
    show Out.ret (D.sl (0 + _) _) = _
    rw [Nat.zero_add]
    rfl
  replace h := of_decide_eq_false h
  have hn0 : n = 0 := by omega
  subst hn0
  refine zzk ?_; refine zzk ?_; refine zzk ?_; refine zzk ?_; refine zzk ?_; refine zzk ?_; refine zzp ?_; refine AOps.nil ?_
  refine ARun.condF rfl ?_
  refine ARun.exit rfl ?_
  refine ARun.seq (ARun.region ?_)
  refine y_new rfl (Zaj rfl rfl rfl rfl rfl rfl rfl rfl rfl rfl rfl (by decide) (by decide)) ?_
  refine zzm ?_; refine zzm ?_
  refine y_op rfl (Zd2 (m := 0) (ds := nts .u32 []) rfl rfl rfl rfl rfl (bnd_int rfl (by omega)) (by omega) (by omega) (by simp) (by simp) (by rw [nts_slice]; simp)) ?_
  refine y_new rfl (Zf6 rfl rfl (by decide) rfl rfl rfl rfl rfl rfl rfl rfl rfl rfl (by simp) (by simp) (by rw [maxLen_eq]; simp) rfl) ?_
  refine zza ?_; refine AOps.nil ?_
  refine ARun.ret ?_
  refine ⟨_, _, _, .tmp rfl .nil, .cons (.row rfl (pures_nts _)) .nil, rfl, ?_⟩
  rw [← hv, List.take_zero, numD, val, lim_zero]
  rfl
theorem Zll {xs : List Nat} {n : Nat} (hx : U32 xs) (hn : xs.length = n) (hl : n ≤ 35184372088832) : PC C ZhW [.sl n (nts .u32 xs)] (fun o => o = .ret (numD (val xs))) := by
  subst hn; exact Zew xs hx hl
theorem Zl1 (n : Nat) (hn : n < 18446744073709551616) : PC C Zmk [.int .u64 (n : Int)] (fun o => o = .ret (numD n)) := by
  refine PC.rn Zjk ZlA ZlB (rs := [.tmp 2]) (by rw [ZlC]) ?_
  have hu : U32 [n % 4294967296, n / 4294967296 % 4294967296] := U32.cons (Nat.mod_lt _ (by decide)) (U32.cons (Nat.mod_lt _ (by decide)) U32.nil)
  have hv : val [n % 4294967296, n / 4294967296 % 4294967296] = n := by
    simp only [val, B_eq]; omega
  refine ARun.seq (ARun.region ?_); refine zza ?_; refine AOps.nil (ARun.seq (ARun.region ?_)); refine zzm ?_
  refine y_op rfl (q_conv rfl rfl rfl nconv_u32) ?_
  refine zzm ?_
  refine y_op rfl (q_shr rfl rfl (by omega) nshr32) ?_
  refine y_op rfl (q_conv rfl rfl rfl nconv_u32) ?_
  refine y_new rfl (Zaj rfl rfl rfl rfl rfl rfl rfl rfl rfl rfl rfl (by decide) (by decide)) ?_
  refine y_new rfl (n_call rfl rfl (.cons (.row rfl rfl) .nil) (Zll (xs := [n % 4294967296, n / 4294967296 % 4294967296]) hu rfl (by decide)) rfl) ?_
  refine zza ?_; refine AOps.nil ?_
  refine ARun.ret ?_
  refine ⟨_, _, _, .tmp rfl .nil, .cons (.same _) .nil, rfl, ?_⟩
  rw [hv]
  rfl
theorem Zl2 (xs ys : List Nat) : PC C ZkU [sln .u32 xs, sln .u32 ys] (fun o => o = .ret (.bool (decide (xs = ys)))) := by
  refine PC.rn ZgD Zke Zkf (rs := [.tmp 4]) (by rw [Zkg]) ?_
  refine ARun.lenle 0 rfl (fun hlen => ?_)
  rw [maxLen_eq] at hlen
  refine ARun.seq (ARun.region ?_); refine zza ?_; refine AOps.nil (ARun.seq (ARun.seq (ARun.region ?_))); refine zzm ?_; refine zzN ?_; refine zzm ?_; refine zzN ?_; refine zzi ?_; refine AOps.nil ?_
  refine ARun.cond rfl (fun h => ?_) (fun h => ?_)
  · skip
    have hne : xs.length ≠ ys.length := by intro e; rw [e] at h; simp at h
    refine ARun.seq (ARun.region ?_); refine zza ?_; refine AOps.nil ?_
    refine ARun.ret ?_
    refine ⟨_, _, _, .tmp rfl .nil, .cons (.same _) .nil, rfl, ?_⟩
    rw [decide_eq_false (fun e => hne (by rw [e]))]
    rfl
  have hl : xs.length = ys.length := by have h : (xs.length : Int) = ys.length := by simpa using h
                                        omega
  refine ARun.skip (ARun.seq (ARun.seq (ARun.region ?_))); refine zza ?_; refine AOps.nil (ARun.block ?_)
  refine ARun.loopI (S := Nat) (fun i : Nat => [(4, .any), (11, .any), (12, .any), (13, .any), (14, .any), (15, .any), (16, .any), (17, .any), (18, .any), (19, .any), (20, .any), (21, .any), (22, .any), (23, .any), (24, .any), (25, .any), (5, .int .i64 (i : Int))]) (fun i : Nat => []) (fun i : Nat => i ≤ xs.length ∧ ∀ j, j < i → xs.getD j 0 = ys.getD j 0) (fun i : Nat => xs.length - i) (0) ?_ ?_ ?_ ?_
  · exact ⟨Nat.zero_le _, fun j h => absurd h (Nat.not_lt_zero _)⟩
  · (repeat' first | exact envLe_nil | apply envLe_any | apply envLe_same)
  · rfl
  rintro i hinv ih
  obtain ⟨hi, hs⟩ := hinv
  refine ARun.seq (ARun.seq (ARun.region ?_)); refine zzm ?_; refine zzm ?_; refine zzN ?_; refine zzi ?_; refine AOps.nil ?_
  refine ARun.ite rfl (fun h2 => ?_) (fun h2 => ?_)
  · skip
    refine ARun.skip (ARun.seq (ARun.block (ARun.seq ?_)))
    refine ARun.drawnP 9 (fun _ => False) mixC rfl rfl (by kernel_rfl) (fun _ _ h => h.elim) ?_
    refine .op rfl (q_move rfl) ?_
    refine .op rfl (q_move rfl) ?_
    refine .op rfl (Zag (i := i) rfl rfl rfl rfl (by omega) (by omega) (nts_ne (by omega)) (drop_nat rfl)) ?_
    refine .op rfl (q_load rfl rfl rfl (nts_load (i := i) (by omega))) ?_
    refine .op rfl (q_move rfl) ?_
    refine .op rfl (q_move rfl) ?_
    refine .op rfl (Zag (i := i) rfl rfl rfl rfl (by omega) (by omega) (nts_ne (by omega)) (drop_nat rfl)) ?_
    refine .op rfl (q_load rfl rfl rfl (nts_load (i := i) (by omega))) ?_
    refine .op rfl (q_int rfl rfl rfl) ?_
    refine .nil (fun hG => ?_)
    refine AOps.nil ?_
    refine ARun.cond rfl (fun h3 => ?_) (fun h3 => ?_)
    · skip
      refine ARun.seq (ARun.region ?_); refine zza ?_; refine AOps.nil ?_
      refine ARun.ret ?_
      refine ⟨_, _, _, .tmp rfl .nil, .cons (.same _) .nil, rfl, ?_⟩
      rw [decide_eq_false (fun e => by rw [e] at h3; simp at h3)]
      rfl
    have h3 : xs.getD i 0 = ys.getD i 0 := by
      have : ((xs.getD i 0 : Nat) : Int) = ((ys.getD i 0 : Nat) : Int) := by simpa using h3
      omega
    refine ARun.skip (ARun.inBlock (ARun.region ?_)); refine zzm ?_
    refine y_op rfl (q_add rfl rfl (nadd1_i64 (by omega))) ?_
    refine zza ?_; refine AOps.nil ?_
    refine ARun.again (ih ((i + 1)) ?_ ?_) ?_ ?_
    · exact ⟨by omega, fun j hj => by rcases Nat.lt_succ_iff_lt_or_eq.1 hj with h | rfl; exact hs j h; exact h3⟩
    · omega
    · (repeat' first | exact envLe_nil | apply envLe_any | apply envLe_same)
    rfl
  have hie : i = xs.length := by omega
  refine ARun.exit rfl ?_
  refine ARun.seq (ARun.region ?_); refine zza ?_; refine AOps.nil ?_
  refine ARun.ret ?_
  refine ⟨_, _, _, .tmp rfl .nil, .cons (.same _) .nil, rfl, ?_⟩
  have : xs = ys := by
    apply List.ext_getElem?
    intro j
    by_cases hj : j < xs.length
    · have := hs j (by omega)
      rw [List.getD_eq_getElem?_getD, List.getD_eq_getElem?_getD, List.getElem?_eq_getElem hj, List.getElem?_eq_getElem (by omega)] at this
      rw [List.getElem?_eq_getElem hj, List.getElem?_eq_getElem (by omega)]
      exact congrArg some this
    rw [List.getElem?_eq_none (by omega), List.getElem?_eq_none (by omega)]
  rw [decide_eq_true this]
  rfl
end Go.V
set_option maxHeartbeats 2000000
set_option synthInstance.maxSize 100000
set_option synthInstance.maxHeartbeats 2000000
namespace Go.V
open Go.RowKit Go.Proofs
theorem U32.snoc {xs : List Nat} {x : Nat} (h : U32 xs) (hx : x < 4294967296) : U32 (xs ++ [x]) := fun y hy => by
  rcases List.mem_append.1 hy with h1 | h1
  · exact h y h1
  rw [List.mem_singleton.1 h1]; exact hx
theorem addA_step {a b i c : Nat} {ys : List Nat} (hu : U32 ys) (hl : ys.length = i) (hc : c ≤ 1) (hv : val ys + B ^ i * c = a % B ^ i + b % B ^ i) :
    U32 (ys ++ [(dig a i + dig b i + c) % 4294967296]) ∧ (ys ++ [(dig a i + dig b i + c) % 4294967296]).length = i + 1 ∧ (dig a i + dig b i + c) / 4294967296 ≤ 1 ∧
      val (ys ++ [(dig a i + dig b i + c) % 4294967296]) + B ^ (i + 1) * ((dig a i + dig b i + c) / 4294967296) = a % B ^ (i + 1) + b % B ^ (i + 1) := by
  have d1 := dig_lt a i
  have d2 := dig_lt b i
  refine ⟨hu.snoc (Nat.mod_lt _ (by decide)), by simp [hl], by omega, ?_⟩
  rw [val_append, hl, mod_succ, mod_succ, Nat.pow_succ, Nat.mul_assoc]
  generalize hs : dig a i + dig b i + c = s
  have h1 : B ^ i * (s % 4294967296) + B ^ i * (B * (s / 4294967296)) = B ^ i * s := by
    rw [← Nat.mul_add]; congr 1; exact Nat.mod_add_div s B
  have h2 : B ^ i * s = B ^ i * c + (B ^ i * dig a i + B ^ i * dig b i) := by rw [← hs, Nat.mul_add, Nat.mul_add]; omega
  simp only [val, Nat.mul_zero, Nat.add_zero]
  omega
theorem addA_end {a b c n : Nat} {ys : List Nat} (hl : ys.length = n) (ha : (lim a).length < n) (hb : (lim b).length < n) (hu : U32 ys) (hv : val ys + B ^ n * c = a % B ^ n + b % B ^ n) : val ys = a + b :=
  add_end hl ha hb hu (by rw [List.take_of_length_le (by omega)]; exact hv)
theorem Zmu (a b : Nat) (ha : (lim a).length ≤ 1099511627) (hb : (lim b).length ≤ 1099511627) : PC C Zjj [numD a, numD b] (fun o => o = .ret (numD (a + b))) := by
  refine PC.rn ZhT ZkV ZkW (rs := [.tmp 4]) (by rw [ZkX]) ?_
  refine ARun.seq (ARun.region ?_); refine zza ?_; refine AOps.nil (ARun.seq (ARun.region ?_)); refine zza ?_; refine AOps.nil (ARun.seq (ARun.region ?_)); refine zza ?_; refine AOps.nil (ARun.seq (ARun.seq (ARun.region ?_))); refine zza ?_; refine AOps.nil (ARun.block ?_)
  refine ARun.loopI (S := Nat × Nat × List Nat × Heap) (fun σ : Nat × Nat × List Nat × Heap => [(8, .any), (9, .any), (10, .any), (11, .any), (12, .any), (13, .any), (14, .any), (15, .any), (16, .any), (17, .any), (18, .any), (19, .any), (20, .any), (21, .any), (22, .any), (23, .any), (24, .any), (25, .any), (26, .any), (27, .any), (28, .any), (29, .any), (30, .any), (31, .any), (32, .any), (33, .any), (5, growD (0 + σ.2.2.2.length) (nts .u32 σ.2.2.1)), (6, .int .u64 (σ.2.1 : Int)), (7, .int .i64 (σ.1 : Int))]) (fun σ : Nat × Nat × List Nat × Heap => growT σ.2.2.2 Zav (nts .u32 σ.2.2.1)) (fun σ : Nat × Nat × List Nat × Heap => U32 σ.2.2.1 ∧ σ.2.2.1.length = σ.1 ∧ σ.1 ≤ max ((lim a).length) ((lim b).length) + 1 ∧ σ.2.1 ≤ 1 ∧ val σ.2.2.1 + B ^ σ.1 * σ.2.1 = a % B ^ σ.1 + b % B ^ σ.1) (fun σ : Nat × Nat × List Nat × Heap => max ((lim a).length) ((lim b).length) + 1 - σ.1) ((0, 0, [], [])) ?_ ?_ ?_ ?_
  · exact ⟨U32.nil, rfl, Nat.zero_le _, by simp, by simp [val, Nat.mod_one]⟩
  · (repeat' first | exact envLe_nil | apply envLe_any | apply envLe_same)
  · rfl
  rintro ⟨i, c, ys, J⟩ hinv ih
  dsimp only at hinv ih ⊢
  obtain ⟨hu, hl, hi, hc, hv⟩ := hinv
  have hbl : (nts .u32 ys).length = i := by rw [nts_length, hl]
  refine ARun.seq (ARun.seq (ARun.region ?_)); refine zzm ?_; refine zzm ?_; refine zzN ?_; refine zzm ?_; refine zzN ?_
  refine y_op rfl (q_maxR rfl rfl nmax) ?_
  refine zzi ?_; refine AOps.nil ?_
  refine ARun.ite rfl (fun h => ?_) (fun h => ?_)
  · skip
    have d1 := dig_lt a i
    have d2 := dig_lt b i
    refine ARun.skip (ARun.seq (ARun.block (ARun.seq (ARun.region ?_)))); refine zzm ?_; refine zzm ?_
    refine zzc rfl rfl (ZkK a i) ?_
    refine zzm ?_; refine zzm ?_
    refine zzc rfl rfl (ZkK b i) ?_
    refine y_op rfl (q_add rfl rfl (nadd_u64 (by omega))) ?_
    refine zzm ?_
    refine y_op rfl (q_add rfl rfl (nadd_u64 (by omega))) ?_
    refine zza ?_; refine AOps.nil (ARun.seq (ARun.region ?_)); refine zzm ?_; refine zzm ?_
    refine y_op rfl (q_conv rfl rfl rfl nconv_u32) ?_
    refine y_new rfl (Zaj rfl rfl rfl rfl rfl rfl rfl rfl rfl rfl rfl (by decide) (by decide)) ?_
    refine y_grow rfl rfl rfl rfl rfl rfl rfl rfl rfl rfl (by show (_ + 1) * 4 ≤ _; omega) (by omega) (fun J' => ?_)
    rw [nts_snoc]
    refine zza ?_; refine AOps.nil (ARun.region ?_); refine zzm ?_
    refine y_op rfl (q_shr rfl rfl (by omega) nshr32) ?_
    refine zza ?_; refine AOps.nil (ARun.inBlock (ARun.region ?_)); refine zzm ?_
    refine y_op rfl (q_add rfl rfl (nadd1_i64 (by omega))) ?_
    refine zza ?_; refine AOps.nil ?_
    refine ARun.again (ih ((i + 1, (dig a i + dig b i + c) / 4294967296, ys ++ [(dig a i + dig b i + c) % 4294967296], J')) ?_ ?_) ?_ ?_
    · (obtain ⟨k1, k2, k3, k4⟩ := addA_step hu hl hc hv; exact ⟨k1, k2, by dsimp only; omega, k3, k4⟩)
    · (dsimp only; omega)
    · (repeat' first | exact envLe_nil | apply envLe_any | apply envLe_same)
    rfl
  have hin : i = max (lim a).length (lim b).length + 1 := by omega
  refine ARun.growEnd 5 rfl (pures_nts _) (fun J' => ?_)
  rw [sln_len]
  refine ARun.exit rfl ?_
  refine ARun.seq (ARun.region ?_); refine zzm ?_
  refine zzc rfl rfl (Zew ys hu (by omega)) ?_
  refine zza ?_; refine AOps.nil ?_
  refine ARun.ret ?_
  refine ⟨_, _, _, .tmp rfl .nil, .cons (.same _) .nil, rfl, ?_⟩
  rw [addA_end hl (by omega) (by omega) hu hv]
  rfl
end Go.V
set_option maxHeartbeats 2000000
set_option synthInstance.maxSize 100000
set_option synthInstance.maxHeartbeats 2000000
namespace Go.V
open Go.RowKit Go.Proofs
theorem Zmv (b : Bool) (xs : List Nat) (hx : U32 xs) (hl : xs.length ≤ 35184372088832) : PC C ZkF [.bool b, sln .u32 xs] (fun o => o = .ret (.agg [.bool (b && decide (0 < xs.length)), numD (val xs)])) := by
  refine PC.rn Zi7 Zlx Zly (rs := [.cell 4 27]) (by rw [Zlz]) ?_
  refine ARun.seq (ARun.region ?_)
  refine y_new rfl (Zae rfl rfl rfl rfl) ?_
  refine AOps.nil (ARun.seq (ARun.region ?_)); refine zzm ?_; refine zzm ?_
  refine AOps.bool 6 rfl (fun h => ?_) (fun h => ?_)
  · skip
    refine zzm ?_; refine zzN ?_; refine zzi ?_; refine zzp ?_; refine zzm ?_
    refine zzc rfl rfl (Zew xs hx hl) ?_
    refine y_op rfl (Zap rfl rfl rfl rfl rfl) ?_
    refine y_new rfl (Zaa rfl rfl rfl rfl rfl rfl rfl rfl (Nat.le_of_ble_eq_true rfl) rfl) ?_
    refine AOps.nil ?_
    refine ARun.ret ?_
    refine ⟨_, _, _, ResR.cellA rfl rfl rfl rfl rfl rfl .nil, .cons (.same _) .nil, rfl, ?_⟩
    have : decide ((xs.length : Int) > 0) = decide (0 < xs.length) := decide_eq_decide.2 (by omega)
    rw [h, ← this]; rfl
  refine zzk ?_; refine zzk ?_; refine zzk ?_; refine zzp ?_; refine zzm ?_
  refine zzc rfl rfl (Zew xs hx hl) ?_
  refine y_op rfl (Zap rfl rfl rfl rfl rfl) ?_
  refine y_new rfl (Zaa rfl rfl rfl rfl rfl rfl rfl rfl (Nat.le_of_ble_eq_true rfl) rfl) ?_
  refine AOps.nil ?_
  refine ARun.ret ?_
  refine ⟨_, _, _, ResR.cellA rfl rfl rfl rfl rfl rfl .nil, .cons (.same _) .nil, rfl, ?_⟩
  rw [h]; rfl
theorem ZiW (b : Bool) (n : Nat) (hl : (lim n).length ≤ 35184372088832) : PC C ZkF [.bool b, numD n] (fun o => o = .ret (intD (sgnd b n))) :=
  (Zmv b (lim n) (U32_lim n) hl).mono fun o ho => by
    rw [ho, val_lim, intD, sgnd_abs, sgnd_neg]
    have : decide (0 < (lim n).length) = decide (0 < n) := decide_eq_decide.2 (by rw [ln_pos]; omega)
    rw [this]
theorem decEqZ (x y : Int) : ((decide (x < 0) == decide (y < 0)) && decide (lim x.natAbs = lim y.natAbs)) = decide (x = y) := by
  have hl : lim x.natAbs = lim y.natAbs ↔ x.natAbs = y.natAbs := ⟨fun h => by rw [← val_lim x.natAbs, h, val_lim], fun h => by rw [h]⟩
  by_cases h : x = y
  · subst h; simp
  rw [decide_eq_false h]
  by_cases h1 : x < 0 <;> by_cases h2 : y < 0
  · rw [show decide (lim x.natAbs = lim y.natAbs) = false from decide_eq_false (by rw [hl]; omega)]; simp
  · rw [decide_eq_true h1, decide_eq_false h2]; rfl
  · rw [decide_eq_false h1, decide_eq_true h2]; rfl
  rw [show decide (lim x.natAbs = lim y.natAbs) = false from decide_eq_false (by rw [hl]; omega)]; simp
theorem Zj2 (x y : Int) : PC C Zez [intD x, intD y] (fun o => o = .ret (.bool (decide (x = y)))) := by
  refine PC.rn Zgi Zj7 Zj8 (rs := [.tmp 4]) (by rw [Zj9]) ?_
  refine ARun.seq (ARun.region ?_); refine zzb ?_; refine zzb ?_; refine zza ?_; refine AOps.nil (ARun.seq (ARun.region ?_)); refine zzf ?_; refine zzl ?_; refine zzf ?_; refine zzl ?_
  refine y_op rfl (ZiQ rfl rfl rfl) ?_
  refine zzm ?_
  refine AOps.bool 10 rfl (fun h => ?_) (fun h => ?_)
  · skip
    refine zzf ?_; refine zzl ?_; refine zzf ?_; refine zzl ?_
    refine zzc rfl rfl (Zl2 (lim x.natAbs) (lim y.natAbs)) ?_
    refine zzp ?_; refine zza ?_; refine AOps.nil ?_
    refine ARun.ret ?_
    refine ⟨_, _, _, .tmp rfl .nil, .cons (.same _) .nil, rfl, ?_⟩
    rw [← decEqZ, h]; rfl
  refine zzk ?_; refine zzk ?_; refine zzk ?_; refine zzk ?_; refine zzk ?_; refine zzp ?_; refine zza ?_; refine AOps.nil ?_
  refine ARun.ret ?_
  refine ⟨_, _, _, .tmp rfl .nil, .cons (.same _) .nil, rfl, ?_⟩
  rw [← decEqZ, h]; rfl
theorem Zbv (z : Int) (h1 : -9223372036854775808 ≤ z) (h2 : z ≤ 9223372036854775807) : PC C Zin [.int .i64 z] (fun o => o = .ret (intD z)) := by
  have hln : ∀ n : Nat, n < 18446744073709551616 → (lim n).length ≤ 2 := fun n h => ln_le (by rw [B_two]; exact h)
  refine PC.rn ZdB Zhn Zho (rs := [.cell 2 27]) (by rw [Zhp]) ?_
  refine ARun.seq (ARun.region ?_)
  refine y_new rfl (Zae rfl rfl rfl rfl) ?_
  refine AOps.nil (ARun.seq (ARun.seq (ARun.region ?_))); refine zzm ?_; refine zzi ?_; refine AOps.nil ?_
  refine ARun.ite rfl (fun h => ?_) (fun h => ?_)
  · skip
    obtain ⟨m, hm⟩ : ∃ m : Nat, z = -(m : Int) - 1 := ⟨(-(z + 1)).toNat, by omega⟩
    subst hm
    have hadd : PC C Zjj [numD m, .sl 1 [.int .u32 1]] (fun o => o = .ret (numD (m + 1))) := by
      have := hln m (by omega)
      have h := Zmu m 1 (by omega) (by rw [lim_one]; decide)
      rw [← numD_one] at h
      exact h
    refine ARun.seq (ARun.region ?_); refine zzm ?_
    refine y_op rfl (q_add rfl rfl (show _ = -(m : Int) by rw [IntWalk.i64_in _ (by omega)]; omega)) ?_
    refine y_op rfl (q_neg rfl (show _ = (m : Int) by rw [IntWalk.i64_in _ (by omega)]; omega)) ?_
    refine y_op rfl (q_conv rfl rfl rfl (IntWalk.u64_in _ (by omega))) ?_
    refine zzc rfl rfl (Zl1 m (by omega)) ?_
    refine y_op rfl (Zan rfl rfl rfl rfl rfl rfl rfl rfl rfl rfl rfl (by decide) (by decide) rfl) ?_
    refine zzc rfl rfl (hadd) ?_
    refine zzc rfl rfl (ZiW true (m + 1) (by have := hln (m + 1) (by omega); omega)) ?_
    refine y_new rfl (Zaa rfl rfl rfl rfl rfl rfl rfl rfl (Nat.le_of_ble_eq_true rfl) rfl) ?_
    refine AOps.nil ?_
    refine ARun.ret ?_
    refine ⟨_, _, _, ResR.cellA rfl rfl rfl rfl rfl rfl .nil, .cons (.same _) .nil, rfl, ?_⟩
    rw [show sgnd true (m + 1) = -(m : Int) - 1 by simp only [sgnd, cond_true]; omega]
    rfl
  obtain ⟨m, rfl⟩ : ∃ m : Nat, z = (m : Int) := ⟨z.toNat, by omega⟩
  refine ARun.skip (ARun.seq (ARun.region ?_)); refine zzm ?_
  refine y_op rfl (q_conv rfl rfl rfl (IntWalk.u64_in _ (by omega))) ?_
  refine zzc rfl rfl (Zl1 m (by omega)) ?_
  refine zzc rfl rfl (ZiW false m (by have := hln m (by omega); omega)) ?_
  refine y_new rfl (Zaa rfl rfl rfl rfl rfl rfl rfl rfl (Nat.le_of_ble_eq_true rfl) rfl) ?_
  refine AOps.nil ?_
  refine ARun.ret ?_
  refine ⟨_, _, _, ResR.cellA rfl rfl rfl rfl rfl rfl .nil, .cons (.same _) .nil, rfl, ?_⟩
  rfl
end Go.V
set_option maxHeartbeats 2000000
set_option synthInstance.maxSize 100000
set_option synthInstance.maxHeartbeats 2000000
namespace Go.V
open Go.RowKit Go.Proofs
end Go.V
set_option maxHeartbeats 4000000
set_option synthInstance.maxSize 100000
set_option synthInstance.maxHeartbeats 2000000
namespace Go.V
open Go.RowKit Go.Proofs
theorem fit_lt {z : Int} (h : z.natAbs < 4294967296) : fitZ z := by
  unfold fitZ
  have := ln_le (n := z.natAbs) (k := 1) (by rw [Nat.pow_one]; exact h)
  omega
theorem okI_of {z : Int} (h : fitZ z) : okI (decide (z < 0), lim z.natAbs) = true := by
  unfold okI
  rw [okB_lim h, Bool.true_and]
  by_cases h0 : z < 0
  · have := ln_pos.2 (show z.natAbs ≠ 0 by omega)
    rw [decide_eq_true (show 0 < (lim z.natAbs).length from this), Bool.or_true]
  rw [decide_eq_false h0]; rfl
theorem okI_of2 {x y : Int} (hx : fitZ x) (hy : fitZ y) : [(decide (x < 0), lim x.natAbs), (decide (y < 0), lim y.natAbs)].all okI = true := by
  simp only [List.all_cons, List.all_nil, Bool.and_true, okI_of hx, okI_of hy]
theorem gcd_12_18 : gG 12 18 = 6 ∧ gcdX 12 18 = 2 ∧ gcdY 12 18 = -1 := by
  have h0 : (18 : Int) ≠ 0 := by decide
  have h1 : gG 12 18 = 6 := by decide
  have h2 := gcd_eq (a := 12) h0
  have h3 := gQ_mul (a := 12) h0
  rw [h1] at h2 h3
  have h4 : gQ 12 18 = 3 := by
    have : (18 : Int).natAbs = 18 := rfl
    omega
  have h5 : 0 ≤ gcdX 12 18 := by unfold gcdX; rw [if_neg h0, h4]; exact Int.emod_nonneg _ (by decide)
  have h6 : gcdX 12 18 < 3 := by unfold gcdX; rw [if_neg h0, h4]; exact Int.emod_lt_of_pos _ (by decide)
  refine ⟨h1, ?_, ?_⟩ <;> omega
theorem str_255 : strZ 16 true (-255) = [45, 70, 70] := by
  have h : txt 16 255 = [102, 102] := by
    unfold txt
    rw [if_neg (by decide), dgs_pos (by decide) (by decide), dgs_pos (by decide) (by decide), show 255 / 16 / 16 = 0 from rfl, dgs_zero]
    rfl
  unfold strZ
  rw [show (-255 : Int).natAbs = 255 from rfl, h]
  rfl
theorem Zmw {C : Ctx} {dst : Option Tmp} {x y : Operand} {xt yt ty : TypeId} {pos : String} {aft : Array Edge} {gd : Option (Nat × Bool)} {env : List D} {H : Heap} {s t : ByteArray} (hx : evO C env x = some (.str s)) (hy : evO C env y = some (.str t)) (h : s = t) : OpQ C ⟨dst, .binOp .eql xt x y yt, ty, pos, aft, gd⟩ env H (.bool true) := by
  have := Zmx (C := C) (H := H) (dst := dst) (ty := ty) (pos := pos) (aft := aft) (gd := gd) (xt := xt) (yt := yt) hx hy
  rw [h, beq_self_eq_true] at this
  exact this
theorem Zlm : PC C Zh9 [] (fun o => o = .ret (.bool true)) := by
  have hdiv : PC C Zgg [intD (-7), intD 2, .int .i64 4] (fun o => o = .ret (.tup [intD (-4), intD 1, .int .i64 0])) := by
    refine (Zmr (decide ((-7 : Int) < 0), lim (-7 : Int).natAbs) (decide ((2 : Int) < 0), lim (2 : Int).natAbs) (U32_lim _) (U32_lim _) 4).mono fun o ho => ?_
    rw [okI_of2 (fit_lt (by decide)) (fit_lt (by decide)), valI_int, valI_int, show divR 4 true (-7) 2 = ((-4, 1), 0) by decide] at ho
    exact ho
  have hgcd : PC C Zgh [intD 12, intD 18] (fun o => o = .ret (.tup [intD 6, intD 2, intD (-1), .int .i64 0])) := by
    refine (Zmt (decide ((12 : Int) < 0), lim (12 : Int).natAbs) (decide ((18 : Int) < 0), lim (18 : Int).natAbs) (U32_lim _) (U32_lim _)).mono fun o ho => ?_
    obtain ⟨e1, e2, e3⟩ := gcd_12_18
    rw [okI_of2 (fit_lt (by decide)) (fit_lt (by decide)), valI_int, valI_int] at ho
    simp only [gcdR, cond_true, e1, e2, e3] at ho
    exact ho
  have htext : PC C ZcZ [intD (-255), .int .i64 16, .bool true] (fun o => o = .ret (.tup [.str ⟨#[45, 70, 70]⟩, .int .i64 0])) := by
    refine (Zj1 (decide ((-255 : Int) < 0), lim (-255 : Int).natAbs) (U32_lim _) 16 true).mono fun o ho => ?_
    have : textR (decide ((-255 : Int) < 0), lim (-255 : Int).natAbs) 16 true = ([45, 70, 70], 0) := by
      unfold textR
      rw [okI_of (fit_lt (by decide)), valI_int, show (16 : Int).toNat = 16 from rfl, str_255]
      rfl
    rw [this] at ho
    exact ho
  have hs : ∀ x : Int, PC C Zez [intD x, intD x] (fun o => o = .ret (.bool true)) := fun x => (Zj2 x x).mono fun o ho => by rw [ho, decide_eq_true rfl]
  refine PC.rn Zdw Zhb Zhc (rs := [.tmp 0]) (by rw [Zhd]) ?_
  refine ARun.seq (ARun.region ?_); refine zza ?_; refine AOps.nil (ARun.seq (ARun.region ?_))
  refine zzc rfl rfl (Zak (-7) (by decide) (by decide)) ?_
  refine y_new rfl (Zae rfl rfl rfl rfl) ?_
  refine y_new rfl (Zaa rfl rfl rfl rfl rfl rfl rfl rfl (Nat.le_of_ble_eq_true rfl) rfl) ?_
  refine AOps.nil (ARun.seq (ARun.region ?_))
  refine zzc rfl rfl (Zak 2 (by decide) (by decide)) ?_
  refine y_new rfl (Zae rfl rfl rfl rfl) ?_
  refine y_new rfl (Zaa rfl rfl rfl rfl rfl rfl rfl rfl (Nat.le_of_ble_eq_true rfl) rfl) ?_
  refine AOps.nil (ARun.seq (ARun.region ?_))
  refine y_op rfl (Zab rfl rfl rfl rfl rfl rfl) ?_
  refine y_op rfl (Zab rfl rfl rfl rfl rfl rfl) ?_
  refine zzc rfl rfl (hdiv) ?_
  refine zzm ?_; refine zze ?_; refine zze ?_; refine zze ?_
  refine y_new rfl (Zae rfl rfl rfl rfl) ?_
  refine y_new rfl (Zae rfl rfl rfl rfl) ?_
  refine y_new rfl (Zaa rfl rfl rfl rfl rfl rfl rfl rfl (Nat.le_of_ble_eq_true rfl) rfl) ?_
  refine y_new rfl (Zaa rfl rfl rfl rfl rfl rfl rfl rfl (Nat.le_of_ble_eq_true rfl) rfl) ?_
  refine zza ?_; refine AOps.nil (ARun.seq (ARun.region ?_))
  refine zzc rfl rfl (Zak 12 (by decide) (by decide)) ?_
  refine zzc rfl rfl (Zak 18 (by decide) (by decide)) ?_
  refine zzc rfl rfl (hgcd) ?_
  refine zzm ?_; refine zze ?_; refine zze ?_; refine zze ?_; refine zze ?_
  refine y_new rfl (Zae rfl rfl rfl rfl) ?_
  refine y_new rfl (Zae rfl rfl rfl rfl) ?_
  refine y_new rfl (Zae rfl rfl rfl rfl) ?_
  refine y_new rfl (Zaa rfl rfl rfl rfl rfl rfl rfl rfl (Nat.le_of_ble_eq_true rfl) rfl) ?_
  refine y_new rfl (Zaa rfl rfl rfl rfl rfl rfl rfl rfl (Nat.le_of_ble_eq_true rfl) rfl) ?_
  refine y_new rfl (Zaa rfl rfl rfl rfl rfl rfl rfl rfl (Nat.le_of_ble_eq_true rfl) rfl) ?_
  refine zza ?_; refine AOps.nil (ARun.seq (ARun.region ?_))
  refine zzc rfl rfl (Zak (-255) (by decide) (by decide)) ?_
  refine zzc rfl rfl (htext) ?_
  refine zzm ?_; refine zze ?_; refine zze ?_; refine zza ?_; refine zza ?_; refine AOps.nil (ARun.seq ?_)
  refine ARun.drawnP 39 (fun _ => False) mixC rfl rfl (by kernel_rfl) (fun _ _ h => h.elim) ?_
  refine .op rfl (q_move rfl) ?_
  refine .op rfl (q_int rfl rfl rfl) ?_
  refine .op rfl (q_move rfl) ?_
  refine .op rfl (q_move rfl) ?_
  refine .op rfl (q_int rfl rfl rfl) ?_
  refine .op rfl (q_pick rfl rfl rfl rfl) ?_
  refine .op rfl (q_move rfl) ?_
  refine .op rfl (q_move rfl) ?_
  refine .op rfl (q_int rfl rfl rfl) ?_
  refine .op rfl (q_pick rfl rfl rfl rfl) ?_
  refine .op rfl (q_move rfl) ?_
  refine .op rfl (Zab rfl rfl rfl rfl rfl rfl) ?_
  refine .op rfl (q_call rfl rfl (Zbv (-4) (by decide) (by decide))) ?_
  refine .op rfl (q_call rfl rfl (hs (-4))) ?_
  refine .op rfl (q_pick rfl rfl rfl rfl) ?_
  refine .op rfl (q_move rfl) ?_
  refine .op rfl (Zab rfl rfl rfl rfl rfl rfl) ?_
  refine .op rfl (q_call rfl rfl (Zbv 1 (by decide) (by decide))) ?_
  refine .op rfl (q_call rfl rfl (hs 1)) ?_
  refine .op rfl (q_pick rfl rfl rfl rfl) ?_
  refine .op rfl (q_move rfl) ?_
  refine .op rfl (Zab rfl rfl rfl rfl rfl rfl) ?_
  refine .op rfl (q_call rfl rfl (Zbv 6 (by decide) (by decide))) ?_
  refine .op rfl (q_call rfl rfl (hs 6)) ?_
  refine .op rfl (q_pick rfl rfl rfl rfl) ?_
  refine .op rfl (q_move rfl) ?_
  refine .op rfl (Zab rfl rfl rfl rfl rfl rfl) ?_
  refine .op rfl (q_call rfl rfl (Zbv 2 (by decide) (by decide))) ?_
  refine .op rfl (q_call rfl rfl (hs 2)) ?_
  refine .op rfl (q_pick rfl rfl rfl rfl) ?_
  refine .op rfl (q_move rfl) ?_
  refine .op rfl (Zab rfl rfl rfl rfl rfl rfl) ?_
  refine .op rfl (q_call rfl rfl (Zbv (-1) (by decide) (by decide))) ?_
  refine .op rfl (q_call rfl rfl (hs (-1))) ?_
  refine .op rfl (q_pick rfl rfl rfl rfl) ?_
  refine .op rfl (q_move rfl) ?_
  refine .op rfl (q_move rfl) ?_
  refine .op rfl (Zmw rfl rfl rfl) ?_
  refine .op rfl (q_pick rfl rfl rfl rfl) ?_
  refine .nil (fun hG => ?_)
  refine zza ?_; refine AOps.nil ?_
  refine ARun.ret ?_
  refine ⟨_, _, _, .tmp rfl .nil, .cons (.same _) .nil, rfl, ?_⟩
  rfl
end Go.V
set_option maxHeartbeats 4000000
set_option synthInstance.maxSize 100000
set_option synthInstance.maxHeartbeats 2000000
namespace Go.V
open Go.RowKit Go.Proofs
end Go.V
set_option maxHeartbeats 4000000
set_option synthInstance.maxSize 100000
set_option synthInstance.maxHeartbeats 2000000
namespace Go.V
open Go.RowKit Go.Proofs
end Go.V
set_option maxHeartbeats 4000000
set_option synthInstance.maxSize 100000
set_option synthInstance.maxHeartbeats 2000000
namespace Go.V
open Go.RowKit Go.Proofs
end Go.V
set_option maxHeartbeats 4000000
set_option synthInstance.maxSize 100000
set_option synthInstance.maxHeartbeats 2000000
namespace Go.V
open Go.RowKit Go.Proofs
theorem Zex {C : Ctx} {dst : Option Tmp} {x y : Operand} {xt yt ty : TypeId} {pos : String} {aft : Array Edge} {gd : Option (Nat × Bool)} {env : List D} {H : Heap} {k : IntKind} {m n : Int} (hx : evO C env x = some (.int k m)) (hy : evO C env y = some (.int k n)) (h : m = n) : OpQ C ⟨dst, .binOp .eql xt x y yt, ty, pos, aft, gd⟩ env H (.bool true) :=
  o_int hx hy (by subst h; simp [intBin])
theorem Zl3 {C : Ctx} {dst : Option Tmp} {x y : Operand} {xt yt ty : TypeId} {pos : String} {aft : Array Edge} {gd : Option (Nat × Bool)} {env : List D} {H : Heap} {s t : Bool} {S b : Nat} {zv : Value} (ht : C.ty xt = some ⟨.bool, S, b, zv⟩) (hx : evO C env x = some (.bool s)) (hy : evO C env y = some (.bool t)) (h : s = t) : OpQ C ⟨dst, .binOp .eql xt x y yt, ty, pos, aft, gd⟩ env H (.bool true) := by
  have := ZiQ (C := C) (H := H) (dst := dst) (ty := ty) (pos := pos) (aft := aft) (gd := gd) (yt := yt) hx hy ht
  rw [h, beq_self_eq_true] at this
  exact this
theorem same_T (x : Int) : PC C Zez [intD x, intD x] (fun o => o = .ret (.bool true)) := (Zj2 x x).mono fun o ho => by rw [ho, decide_eq_true rfl]
end Go.V
/- THE SPECIFICATION's SHIFTS and DIVISION: plain Lean. -/
namespace Go.V
end Go.V
set_option maxHeartbeats 2000000
set_option synthInstance.maxSize 100000
set_option synthInstance.maxHeartbeats 2000000
namespace Go.V
open Go.RowKit Go.Proofs
end Go.V
set_option maxHeartbeats 8000000
set_option maxRecDepth 100000
set_option synthInstance.maxSize 100000
set_option synthInstance.maxHeartbeats 2000000
namespace Go.V
open Go.RowKit Go.Proofs
end Go.V
set_option maxHeartbeats 4000000
set_option maxRecDepth 100000
set_option synthInstance.maxSize 100000
set_option synthInstance.maxHeartbeats 2000000
namespace Go.V
open Go.RowKit Go.Proofs
end Go.V
set_option maxHeartbeats 4000000
set_option maxRecDepth 100000
set_option synthInstance.maxSize 100000
set_option synthInstance.maxHeartbeats 2000000
namespace Go.V
open Go.RowKit Go.Proofs
theorem Zdo {C : Ctx} {dst : Option Tmp} {x y : Operand} {xt yt ty : TypeId} {pos : String} {aft : Array Edge} {gd : Option (Nat × Bool)} {env : List D} {H : Heap} {k : IntKind} {m n : Int} (hx : evO C env x = some (.int k m)) (hy : evO C env y = some (.int k n)) (h : m = n) : OpQ C ⟨dst, .binOp .neq xt x y yt, ty, pos, aft, gd⟩ env H (.bool false) :=
  o_int hx hy (by subst h; simp [intBin])
end Go.V
