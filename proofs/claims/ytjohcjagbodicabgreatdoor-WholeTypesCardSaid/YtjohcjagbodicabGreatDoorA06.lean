/- A part of the proof: abstract values, rules for the steps of the program's form, and contracts of its functions, each proved; no condition. -/
import Derived.Test.YtjohcjagbodicabGreatDoorA05
set_option linter.unusedVariables false
set_option linter.unusedSimpArgs false
set_option synthInstance.maxSize 100000
set_option synthInstance.maxHeartbeats 2000000
namespace Go.V
open Go.RowKit Go.Proofs
theorem ZjO (n : Nat) (hn : n < 18446744073709551616) : PC C Zml [.int .u64 (n : Int)] (fun o => o = .ret (numD n)) := by
  refine PC.rn Zju ZlH ZlI (rs := [.tmp 2]) (by rw [ZlJ]) ?_
  have hu : U32 [n % 4294967296, n / 4294967296 % 4294967296] := U32.cons (Nat.mod_lt _ (by decide)) (U32.cons (Nat.mod_lt _ (by decide)) U32.nil)
  have hv : val [n % 4294967296, n / 4294967296 % 4294967296] = n := by
    simp only [val, B_eq]; omega
  refine ARun.seq (ARun.region ?_); refine zza ?_; refine AOps.nil (ARun.seq (ARun.region ?_)); refine zzm ?_
  refine y_op rfl (q_conv rfl rfl rfl nconv_u32) ?_
  refine zzm ?_
  refine y_op rfl (q_shr rfl rfl (by omega) nshr32) ?_
  refine y_op rfl (q_conv rfl rfl rfl nconv_u32) ?_
  refine y_new rfl (Zaj rfl rfl rfl rfl rfl rfl rfl rfl rfl rfl rfl (by decide) (by decide)) ?_
  refine y_new rfl (n_call rfl rfl (.cons (.row rfl rfl) .nil) (ZbH (xs := [n % 4294967296, n / 4294967296 % 4294967296]) hu rfl) rfl) ?_
  refine zza ?_; refine AOps.nil ?_
  refine ARun.ret ?_
  refine ⟨_, _, _, .tmp rfl .nil, .cons (.same _) .nil, rfl, ?_⟩
  rw [hv]
  rfl
theorem ZiT (a b : Nat) (ha : (lim a).length ≤ 1099511627776) (hb : (lim b).length ≤ 1099511627776) : PC C Zep [numD a, numD b] (fun o => o = .ret (numD (a * b))) := by
  refine PC.rn ZbW ZdZ Zd0 (rs := [.tmp 4]) (by rw [Zd1]) ?_
  refine ARun.seq (ARun.region ?_); refine zza ?_; refine AOps.nil (ARun.seq (ARun.region ?_)); refine zzm ?_; refine zzN ?_; refine zzm ?_; refine zzN ?_
  refine y_op rfl (q_add rfl rfl (nadd_i64 (by omega))) ?_
  refine y_new rfl (ZaH rfl rfl rfl rfl rfl rfl rfl (by omega) (by rw [maxLen_eq]; omega) (zeros_nts _)) ?_
  refine zza ?_; refine AOps.nil (ARun.seq (ARun.seq (ARun.region ?_))); refine zzm ?_; refine zzN ?_; refine zzm ?_; refine AOps.nil (ARun.block ?_)
  refine ARun.loopI (S := Nat × List Nat) (fun σ : Nat × List Nat => [(6, .any), (7, .any), (8, .any), (9, .any), (10, .any), (20, .any), (21, .any), (22, .any), (23, .any), (24, .any), (25, .any), (26, .any), (27, .any), (28, .any), (29, .any), (30, .any), (31, .any), (32, .any), (33, .any), (34, .any), (35, .any), (36, .any), (37, .any), (38, .any), (39, .any), (40, .any), (41, .any), (42, .any), (43, .any), (44, .any), (45, .any), (46, .any), (47, .any), (48, .any), (49, .any), (50, .any), (51, .any), (52, .any), (53, .any), (54, .any), (55, .any), (56, .any), (57, .any), (58, .any), (59, .any), (60, .any), (61, .any), (62, .any), (63, .any), (64, .any), (19, .int .i64 (σ.1 : Int))]) (fun σ : Nat × List Nat => [some ⟨nts .u32 σ.2, Zav, 1, true, none⟩]) (fun σ : Nat × List Nat => U32 σ.2 ∧ σ.2.length = (lim a).length + (lim b).length ∧ σ.1 ≤ (lim a).length ∧ val (σ.2.take (σ.1 + (lim b).length)) = a % B ^ σ.1 * b) (fun σ : Nat × List Nat => (lim a).length - σ.1) ((0, List.replicate ((lim a).length + (lim b).length) 0)) ?_ ?_ ?_ ?_
  · exact ⟨U32.replicate, by simp, by simp, by simp [val_replicate, Nat.mod_one]⟩
  · (repeat' first | exact envLe_nil | apply envLe_any | apply envLe_same)
  · rfl
  rintro ⟨i, ys⟩ hinv ih
  dsimp only at hinv ih ⊢
  obtain ⟨hu, hl, hi, hv⟩ := hinv
  refine ARun.seq (ARun.region ?_); refine zzi ?_; refine AOps.nil (ARun.seq ?_)
  refine ARun.ite rfl (fun h => ?_) (fun h => ?_)
  · skip
    have d1 := dig_lt a i
    refine ARun.skip (ARun.seq (ARun.block (ARun.seq (ARun.region ?_)))); refine zzm ?_
    refine y_op rfl (Zag rfl rfl rfl rfl (by omega) (by omega) (nts_ne (by omega)) (drop_nat rfl)) ?_
    refine y_op rfl (q_load rfl rfl rfl (lim_load (by omega))) ?_
    refine zza ?_; refine zza ?_; refine AOps.nil (ARun.seq (ARun.region ?_)); refine zza ?_; refine AOps.nil (ARun.seq (ARun.seq (ARun.region ?_))); refine zzm ?_; refine zzN ?_; refine zzm ?_; refine AOps.nil (ARun.block ?_)
    refine ARun.loopI (S := Nat × Nat × List Nat) (fun σ : Nat × Nat × List Nat => [(9, .any), (10, .any), (27, .any), (28, .any), (29, .any), (30, .any), (31, .any), (32, .any), (33, .any), (34, .any), (35, .any), (36, .any), (37, .any), (38, .any), (39, .any), (40, .any), (41, .any), (42, .any), (43, .any), (44, .any), (45, .any), (46, .any), (47, .any), (48, .any), (49, .any), (50, .any), (51, .any), (52, .any), (53, .any), (54, .any), (55, .any), (26, .int .i64 (σ.1 : Int)), (8, .int .u64 (σ.2.1 : Int))]) (fun σ : Nat × Nat × List Nat => [some ⟨nts .u32 σ.2.2, Zav, 1, true, none⟩]) (fun σ : Nat × Nat × List Nat => U32 σ.2.2 ∧ σ.2.2.length = (lim a).length + (lim b).length ∧ σ.1 ≤ (lim b).length ∧ σ.2.1 < 4294967296 ∧ (∀ p, i + σ.1 ≤ p → p < i + (lim b).length → σ.2.2.getD p 0 = dig (a % B ^ i * b) p) ∧ val (σ.2.2.take (i + σ.1)) + B ^ (i + σ.1) * σ.2.1 = (a % B ^ i * b) % B ^ (i + σ.1) + B ^ i * (dig a i * (b % B ^ σ.1))) (fun σ : Nat × Nat × List Nat => (lim b).length - σ.1) ((0, 0, ys)) ?_ ?_ ?_ ?_
    · exact ⟨hu, hl, by simp, by simp, fun p _ hp => sch_dig hu hv hp, by dsimp only; rw [Nat.add_zero, Nat.mul_zero, Nat.add_zero, Nat.pow_zero, Nat.mod_one, Nat.mul_zero, Nat.mul_zero, Nat.add_zero, ← hv]; exact val_take_mod hu _ _ (by omega)⟩
    · (repeat' first | exact envLe_nil | apply envLe_any | apply envLe_same)
    · rfl
    rintro ⟨j, c, zs⟩ hinv2 ih2
    dsimp only at hinv2 ih2 ⊢
    obtain ⟨hu2, hl2, hj, hc, hd, hv2⟩ := hinv2
    refine ARun.seq (ARun.region ?_); refine zzi ?_; refine AOps.nil (ARun.seq ?_)
    refine ARun.ite rfl (fun h2 => ?_) (fun h2 => ?_)
    · skip
      have d2 := mul_bound d1 (dig_lt b j)
      have d3 := dig_lt b j
      have d4 := hu2.get (i + j)
      have d5 := hd (i + j) (by omega) (by omega)
      have d6 := dig_lt (a % B ^ i * b) (i + j)
      refine ARun.skip (ARun.seq (ARun.block (ARun.seq (ARun.region ?_)))); refine zzm ?_
      refine y_op rfl (Zag rfl rfl rfl rfl (by omega) (by omega) (nts_ne (by omega)) (drop_nat rfl)) ?_
      refine y_op rfl (q_load rfl rfl rfl (lim_load (by omega))) ?_
      refine zza ?_; refine zza ?_; refine AOps.nil (ARun.seq (ARun.region ?_)); refine zzm ?_; refine zzm ?_
      refine y_op rfl (q_conv rfl rfl rfl (nconv_u64 (by omega))) ?_
      refine zzm ?_
      refine y_op rfl (q_conv rfl rfl rfl (nconv_u64 (by omega))) ?_
      refine y_op rfl (q_mul rfl rfl (nmul_u64 (by omega))) ?_
      refine zzm ?_; refine zzm ?_; refine zzm ?_
      refine y_op rfl (q_add rfl rfl (nadd_i64 (by omega))) ?_
      refine y_op rfl (ZaD rfl rfl rfl rfl rfl (by omega) (by omega) (idx_nat rfl)) ?_
      refine y_op rfl (Zac rfl rfl rfl rfl ((nts_get (by omega)).trans (by rw [d5]))) ?_
      refine y_op rfl (q_conv rfl rfl rfl (nconv_u64 (by omega))) ?_
      refine y_op rfl (q_add rfl rfl (nadd_u64 (by omega))) ?_
      refine y_op rfl (q_add rfl rfl (nadd_u64 (by omega))) ?_
      refine zza ?_; refine AOps.nil (ARun.seq (ARun.region ?_)); refine zzm ?_; refine zzm ?_; refine zzm ?_
      refine y_op rfl (q_add rfl rfl (nadd_i64 (by omega))) ?_
      refine zzm ?_
      refine y_op rfl (q_conv rfl rfl rfl nconv_u32) ?_
      refine y_op rfl (ZaD rfl rfl rfl rfl rfl (by omega) (by omega) (idx_nat rfl)) ?_
      refine y_new rfl (Zad rfl rfl rfl rfl rfl rfl (by simp; omega) nts_set) ?_
      refine AOps.nil (ARun.region ?_); refine zzm ?_
      refine y_op rfl (q_shr rfl rfl (by omega) nshr32) ?_
      refine zza ?_; refine AOps.nil (ARun.inBlock (ARun.region ?_))
      refine y_op rfl (q_add rfl rfl (nadd1_i64 (by omega))) ?_
      refine zzm ?_; refine AOps.nil ?_
      refine ARun.again (ih2 ((j + 1, (c + (dig a i * dig b j + dig (a % B ^ i * b) (i + j))) / 4294967296, zs.set (i + j) ((c + (dig a i * dig b j + dig (a % B ^ i * b) (i + j))) % 4294967296))) ?_ ?_) ?_ ?_
      · (obtain ⟨k1, k2, k3, k4⟩ := sch_step (b := b) hu2 hl2 (by omega) d1 hc d5 hv2; exact ⟨k1, k2, by dsimp only; omega, k3, fun p hp hp2 => by rw [getD_set_ne (by omega)]; exact hd p (by omega) hp2, k4⟩)
      · (dsimp only; omega)
      · (repeat' first | exact envLe_nil | apply envLe_any | apply envLe_same)
      rfl
    have hjn : j = (lim b).length := by omega
    subst hjn
    refine ARun.exit rfl ?_
    refine ARun.region ?_; refine zzm ?_; refine zzm ?_; refine zzm ?_; refine zzN ?_
    refine y_op rfl (q_add rfl rfl (nadd_i64 (by omega))) ?_
    refine zzm ?_
    refine y_op rfl (q_conv rfl rfl rfl (IntWalk.u32_in _ (by omega))) ?_
    refine y_op rfl (ZaD rfl rfl rfl rfl rfl (by omega) (by omega) (idx_nat rfl)) ?_
    refine y_new rfl (Zad rfl rfl rfl rfl rfl rfl (by simp; omega) nts_set) ?_
    refine AOps.nil (ARun.inBlock (ARun.region ?_))
    refine y_op rfl (q_add rfl rfl (nadd1_i64 (by omega))) ?_
    refine zzm ?_; refine AOps.nil ?_
    refine ARun.again (ih ((i + 1, zs.set (i + (lim b).length) c)) ?_ ?_) ?_ ?_
    · (obtain ⟨k1, k2, k3⟩ := sch_row hu2 hl2 (by omega) hc rfl hv2; exact ⟨k1, k2, by dsimp only; omega, k3⟩)
    · (dsimp only; omega)
    · (repeat' first | exact envLe_nil | apply envLe_any | apply envLe_same)
    rfl
  have hin : i = (lim a).length := by omega
  subst hin
  refine ARun.exit rfl ?_
  refine ARun.seq (ARun.region ?_); refine zzm ?_
  refine y_new rfl (n_call rfl rfl (.cons (.row rfl (pures_nts _)) .nil) (ZbH hu hl) rfl) ?_
  refine zza ?_; refine AOps.nil ?_
  refine ARun.ret ?_
  refine ⟨_, _, _, .tmp rfl .nil, .cons (.same _) .nil, rfl, ?_⟩
  rw [List.take_of_length_le (by omega), mod_of_ln (Nat.le_refl _)] at hv
  rw [hv]
  rfl
end Go.V
/- PRODUCTS by halves. -/
namespace Go.V
theorem ln_mul (a b : Nat) : (lim (a * b)).length ≤ (lim a).length + (lim b).length := by
  rw [ln_le_iff, Nat.pow_add]
  exact Nat.mul_lt_mul'' (ln_lt a) (ln_lt b)
theorem ln_add (a b : Nat) : (lim (a + b)).length ≤ max (lim a).length (lim b).length + 1 := by
  rw [ln_le_iff, Nat.pow_succ]
  have h1 : a < B ^ max (lim a).length (lim b).length := ln_le_iff.1 (Nat.le_max_left _ _)
  have h2 : b < B ^ max (lim a).length (lim b).length := ln_le_iff.1 (Nat.le_max_right _ _)
  generalize B ^ max (lim a).length (lim b).length = q at h1 h2 ⊢
  have : q * 2 ≤ q * B := Nat.mul_le_mul_left _ (by decide)
  omega
theorem ln_div (a s : Nat) : (lim (a / B ^ s)).length = (lim a).length - s := by rw [← lim_drop, List.length_drop]
theorem ln_mod (a s : Nat) : (lim (a % B ^ s)).length ≤ s := ln_le (Nat.mod_lt _ (Nat.pow_pos B_pos))
theorem ln_mod' (a s : Nat) : (lim (a % B ^ s)).length ≤ (lim a).length := ln_mono (Nat.mod_le _ _)
theorem kar_le (al ah bl bh : Nat) : ah * bh ≤ (al + ah) * (bl + bh) ∧ al * bl ≤ (al + ah) * (bl + bh) - ah * bh ∧ (al + ah) * (bl + bh) - ah * bh - al * bl = al * bh + ah * bl := by
  have h : (al + ah) * (bl + bh) = al * bl + al * bh + (ah * bl + ah * bh) := by rw [Nat.add_mul, Nat.mul_add, Nat.mul_add]
  omega
theorem kar_val (a b s : Nat) : a / B ^ s * (b / B ^ s) * 2 ^ (64 * s) + (a % B ^ s * (b / B ^ s) + a / B ^ s * (b % B ^ s)) * 2 ^ (32 * s) + a % B ^ s * (b % B ^ s) = a * b := by
  have e1 : 2 ^ (32 * s) = B ^ s := (B_pow s).symm
  have e2 : 2 ^ (64 * s) = B ^ s * B ^ s := by rw [← e1, ← Nat.pow_add]; congr 1; omega
  rw [e1, e2]
  have ha := Nat.div_add_mod a (B ^ s)
  have hb := Nat.div_add_mod b (B ^ s)
  generalize a / B ^ s = ah at ha ⊢
  generalize a % B ^ s = al at ha ⊢
  generalize b / B ^ s = bh at hb ⊢
  generalize b % B ^ s = bl at hb ⊢
  generalize B ^ s = q at ha hb ⊢
  rw [← ha, ← hb, Nat.mul_add, Nat.add_mul, Nat.add_mul, Nat.add_mul]
  have h1 : q * ah * (q * bh) = ah * bh * (q * q) := by simp only [Nat.mul_comm, Nat.mul_left_comm, Nat.mul_assoc]
  have h2 : q * ah * bl = ah * bl * q := by simp only [Nat.mul_comm, Nat.mul_left_comm, Nat.mul_assoc]
  have h3 : al * (q * bh) = al * bh * q := by simp only [Nat.mul_comm, Nat.mul_left_comm, Nat.mul_assoc]
  omega
end Go.V
set_option synthInstance.maxSize 100000
set_option synthInstance.maxHeartbeats 2000000
namespace Go.V
open Go.RowKit Go.Proofs
theorem Zf5 (cut : Nat) (hc : 4 ≤ cut) (N : Nat) : ∀ (a b : Nat), (lim a).length < N → (lim b).length < N → N ≤ 4294967296 → PC C Zdi [numD a, numD b, .int .i64 (cut : Int)] (fun o => o = .ret (numD (a * b))) := by
  induction N using Nat.strongRecOn with
  | _ N rec =>
  intro a b ha hb hN
  refine PC.rn Zbl ZcP ZcQ (rs := [.tmp 6]) (by rw [ZcR]) ?_
  refine ARun.seq (ARun.region ?_); refine zza ?_; refine AOps.nil (ARun.seq (ARun.seq (ARun.region ?_))); refine zzm ?_; refine zzN ?_; refine zzm ?_; refine zzN ?_
  refine y_op rfl (q_minR rfl rfl nmin) ?_
  refine zzm ?_; refine zzi ?_; refine AOps.nil ?_
  refine ARun.ite rfl (fun h => ?_) (fun h => ?_)
  · skip
    refine ARun.seq (ARun.region ?_); refine zzm ?_; refine zzm ?_
    refine zzc rfl rfl (ZiT a b (by omega) (by omega)) ?_
    refine zza ?_; refine AOps.nil ?_
    refine ARun.ret ?_
    refine ⟨_, _, _, .tmp rfl .nil, .cons (.same _) .nil, rfl, ?_⟩
    rfl
  have hs : ∃ s, s = (max (lim a).length (lim b).length + 1) / 2 := ⟨_, rfl⟩
  obtain ⟨s, hs⟩ := hs
  have a1 := ln_div a s
  have a2 := ln_mod a s
  have a3 := ln_mod' a s
  have b1 := ln_div b s
  have b2 := ln_mod b s
  have b3 := ln_mod' b s
  have a4 := ln_add (a % B ^ s) (a / B ^ s)
  have b4 := ln_add (b % B ^ s) (b / B ^ s)
  have m1 := ln_mul (a / B ^ s) (b / B ^ s)
  have m2 := ln_mul (a % B ^ s) (b % B ^ s)
  have m3 := ln_mul (a % B ^ s + a / B ^ s) (b % B ^ s + b / B ^ s)
  obtain ⟨k1, k2, k3⟩ := kar_le (a % B ^ s) (a / B ^ s) (b % B ^ s) (b / B ^ s)
  have m4 := ln_mono (Nat.sub_le ((a % B ^ s + a / B ^ s) * (b % B ^ s + b / B ^ s)) (a / B ^ s * (b / B ^ s)))
  have m5 := ln_mono (Nat.sub_le ((a % B ^ s + a / B ^ s) * (b % B ^ s + b / B ^ s) - a / B ^ s * (b / B ^ s)) (a % B ^ s * (b % B ^ s)))
  have rec' := rec (N - 1) (by omega)
  have kv := kar_val a b s
  rw [← k3] at kv
  have m6 : ∀ x : Nat, x ≤ a * b → (lim x).length ≤ 17179869184 := fun x hx => by have := ln_mono hx; have := ln_mul a b; omega
  refine ARun.skip (ARun.seq (ARun.region ?_)); refine zzm ?_; refine zzN ?_; refine zzm ?_; refine zzN ?_
  refine y_op rfl (q_maxR rfl rfl nmax) ?_
  refine y_op rfl (q_add rfl rfl (nadd1_i64 (by omega))) ?_
  refine y_op rfl (q_quo rfl rfl (by omega) (r := (s : Nat)) ((nquo_i64 (n := 2) rfl (by omega)).trans (by rw [hs]))) ?_
  refine zza ?_; refine AOps.nil (ARun.seq (ARun.region ?_)); refine zzm ?_; refine zzm ?_
  refine zzc rfl rfl (ZaC a s (by omega)) ?_
  refine zzm ?_; refine zzm ?_
  refine zzc rfl rfl (ZaC b s (by omega)) ?_
  refine zzm ?_
  refine zzc rfl rfl (rec' _ _ (by omega) (by omega) (by omega)) ?_
  refine zza ?_; refine AOps.nil (ARun.seq (ARun.region ?_)); refine zzm ?_; refine zzm ?_
  refine zzc rfl rfl (Za7 a s (by omega)) ?_
  refine zzm ?_; refine zzm ?_
  refine zzc rfl rfl (Za7 b s (by omega)) ?_
  refine zzm ?_
  refine zzc rfl rfl (rec' _ _ (by omega) (by omega) (by omega)) ?_
  refine zza ?_; refine AOps.nil (ARun.seq (ARun.region ?_)); refine zzm ?_; refine zzm ?_
  refine zzc rfl rfl (Za7 a s (by omega)) ?_
  refine zzm ?_; refine zzm ?_
  refine zzc rfl rfl (ZaC a s (by omega)) ?_
  refine zzc rfl rfl (Zaw _ _ (by omega) (by omega)) ?_
  refine zzm ?_; refine zzm ?_
  refine zzc rfl rfl (Za7 b s (by omega)) ?_
  refine zzm ?_; refine zzm ?_
  refine zzc rfl rfl (ZaC b s (by omega)) ?_
  refine zzc rfl rfl (Zaw _ _ (by omega) (by omega)) ?_
  refine zzm ?_
  refine zzc rfl rfl (rec' _ _ (by omega) (by omega) (by omega)) ?_
  refine zza ?_; refine AOps.nil (ARun.seq (ARun.region ?_)); refine zzm ?_; refine zzm ?_
  refine zzc rfl rfl (ZbK _ _ (by omega) k1) ?_
  refine zzm ?_
  refine zzc rfl rfl (ZbK _ _ (by omega) k2) ?_
  refine zza ?_; refine AOps.nil (ARun.seq (ARun.region ?_)); refine zzm ?_; refine zzm ?_
  refine y_op rfl (q_mul rfl rfl (nmul_i64 (m := 64) (by omega))) ?_
  refine zzc rfl rfl (Za8 _ _ (by omega) (by omega)) ?_
  refine zzm ?_; refine zzm ?_
  refine y_op rfl (q_mul rfl rfl (nmul_i64 (m := 32) (by omega))) ?_
  refine zzc rfl rfl (Za8 _ _ (by omega) (by omega)) ?_
  refine zzc rfl rfl (Zaw _ _ (Nat.le_trans (m6 _ (by omega)) (by decide)) (Nat.le_trans (m6 _ (by omega)) (by decide))) ?_
  refine zzm ?_
  refine zzc rfl rfl (Zaw _ _ (Nat.le_trans (m6 _ (by omega)) (by decide)) (by omega)) ?_
  refine zza ?_; refine AOps.nil ?_
  refine ARun.ret ?_
  refine ⟨_, _, _, .tmp rfl .nil, .cons (.same _) .nil, rfl, ?_⟩
  rw [kv]
  rfl
theorem Zh1 (a b : Nat) (ha : (lim a).length < 4294967296) (hb : (lim b).length < 4294967296) : PC C Zde [numD a, numD b] (fun o => o = .ret (numD (a * b))) := by
  refine PC.rn ZcB ZfM ZfN (rs := [.tmp 4]) (by rw [ZfO]) ?_
  refine ARun.seq (ARun.region ?_); refine zza ?_; refine AOps.nil (ARun.seq (ARun.region ?_)); refine zzm ?_; refine zzm ?_
  refine zzc rfl rfl (Zf5 32 (by decide) 4294967296 a b ha hb (Nat.le_refl _)) ?_
  refine zza ?_; refine AOps.nil ?_
  refine ARun.ret ?_
  refine ⟨_, _, _, .tmp rfl .nil, .cons (.same _) .nil, rfl, ?_⟩
  rfl
end Go.V
/- QUOTIENTS by one element. -/
namespace Go.V
theorem sh_step {a b r j n : Nat} {ys : List Nat} (hu : U32 ys) (hl : ys.length = n) (hj : j < ys.length) (hb : 0 < b) (hb2 : b < 4294967296) (hr : r < b) (hv : val (ys.drop (j + 1)) * b + r = a / B ^ (j + 1)) :
    U32 (ys.set j ((dig a j + r * 2 ^ 32) / b % 4294967296)) ∧ (ys.set j ((dig a j + r * 2 ^ 32) / b % 4294967296)).length = n ∧ (dig a j + r * 2 ^ 32) % b < b ∧
      val ((ys.set j ((dig a j + r * 2 ^ 32) / b % 4294967296)).drop j) * b + (dig a j + r * 2 ^ 32) % b = a / B ^ j := by
  have d := dig_lt a j
  refine ⟨hu.set (Nat.mod_lt _ (by decide)), by simpa using hl, Nat.mod_lt _ hb, ?_⟩
  have hq : (dig a j + r * 2 ^ 32) / b < 4294967296 := by
    rw [Nat.div_lt_iff_lt_mul hb]
    have : (r + 1) * 4294967296 ≤ b * 4294967296 := Nat.mul_le_mul_right _ hr
    have e := Nat.mul_comm b 4294967296
    omega
  rw [Nat.mod_eq_of_lt hq]
  have e1 : (ys.set j ((dig a j + r * 2 ^ 32) / b)).drop j = (dig a j + r * 2 ^ 32) / b :: ys.drop (j + 1) := by
    rw [List.drop_eq_getElem_cons (by rw [List.length_set]; exact hj)]
    rw [List.getElem_set_self, List.drop_set_of_lt (Nat.lt_succ_self j)]
  have hm := Nat.div_add_mod (dig a j + r * 2 ^ 32) b
  have e2 : a / B ^ j = dig a j + B * (a / B ^ (j + 1)) := by
    rw [dig, Nat.pow_succ, ← Nat.div_div_eq_div_mul]
    exact (Nat.mod_add_div _ _).symm
  rw [e1, val, e2, ← hv, Nat.add_mul, Nat.mul_add]
  have e3 : B * val (ys.drop (j + 1)) * b = B * (val (ys.drop (j + 1)) * b) := Nat.mul_assoc _ _ _
  have e4 := Nat.mul_comm ((dig a j + r * 2 ^ 32) / b) b
  have e5 : r * 2 ^ 32 = B * r := Nat.mul_comm _ _
  omega
theorem sh_end {a b r : Nat} {v : Nat} (hr : r < b) (hv : v * b + r = a / B ^ 0) : v = a / b ∧ r = a % b := by
  rw [Nat.pow_zero, Nat.div_one] at hv
  have hb : 0 < b := by omega
  constructor
  · rw [← hv, Nat.mul_comm, Nat.mul_add_div hb, Nat.div_eq_of_lt hr, Nat.add_zero]
  rw [← hv, Nat.mul_comm, Nat.mul_add_mod, Nat.mod_eq_of_lt hr]
end Go.V
set_option synthInstance.maxSize 100000
set_option synthInstance.maxHeartbeats 2000000
namespace Go.V
open Go.RowKit Go.Proofs
theorem ZjP (a b : Nat) (ha : (lim a).length ≤ 1099511627776) (hb : 0 < b) (hb2 : b < 4294967296) : PC C ZeW [numD a, .int .u32 (b : Int)] (fun o => o = .ret (.tup [numD (a / b), numD (a % b)])) := by
  refine PC.rn ZbZ Zeq Zer (rs := [.tmp 4, .tmp 5]) (by rw [Zes]) ?_
  refine ARun.seq (ARun.region ?_); refine zza ?_; refine zza ?_; refine AOps.nil (ARun.seq (ARun.region ?_)); refine zzm ?_; refine zzN ?_
  refine y_new rfl (ZaH rfl rfl rfl rfl rfl rfl rfl (by omega) (by rw [maxLen_eq]; omega) (zeros_nts _)) ?_
  refine zza ?_; refine AOps.nil (ARun.seq (ARun.region ?_)); refine zza ?_; refine AOps.nil (ARun.seq (ARun.seq (ARun.region ?_))); refine zzm ?_; refine zzN ?_
  refine y_op rfl (q_sub rfl rfl (IntWalk.i64_in _ (by omega))) ?_
  refine zza ?_; refine AOps.nil (ARun.block ?_)
  refine ARun.loopI (S := Nat × Nat × List Nat) (fun σ : Nat × Nat × List Nat => [(15, .any), (16, .any), (17, .any), (18, .any), (19, .any), (20, .any), (21, .any), (22, .any), (23, .any), (24, .any), (25, .any), (26, .any), (27, .any), (28, .any), (29, .any), (30, .any), (31, .any), (32, .any), (33, .any), (34, .any), (35, .any), (36, .any), (37, .any), (38, .any), (8, .int .i64 ((σ.1 : Int) - 1)), (7, .int .u64 (σ.2.1 : Int))]) (fun σ : Nat × Nat × List Nat => [some ⟨nts .u32 σ.2.2, Zav, 1, true, none⟩]) (fun σ : Nat × Nat × List Nat => U32 σ.2.2 ∧ σ.2.2.length = (lim a).length ∧ σ.1 ≤ σ.2.2.length ∧ σ.2.1 < b ∧ val (σ.2.2.drop σ.1) * b + σ.2.1 = a / B ^ σ.1) (fun σ : Nat × Nat × List Nat => σ.1) (((lim a).length, 0, List.replicate (lim a).length 0)) ?_ ?_ ?_ ?_
  · exact ⟨U32.replicate, by simp, by simp, hb, by simp [val, Nat.div_eq_of_lt (ln_lt a)]⟩
  · (repeat' first | exact envLe_nil | apply envLe_any | apply envLe_same)
  · rfl
  rintro ⟨j, r, ys⟩ hinv ih
  dsimp only at hinv ih ⊢
  obtain ⟨hu, hl, hj, hr, hv⟩ := hinv
  refine ARun.seq (ARun.seq (ARun.region ?_)); refine zzm ?_; refine zzi ?_; refine AOps.nil ?_
  refine ARun.ite rfl (fun h => ?_) (fun h => ?_)
  · skip
    obtain ⟨i, rfl⟩ : ∃ i, j = i + 1 := ⟨j - 1, by omega⟩
    rw [show (((i + 1 : Nat) : Int) - 1) = (i : Int) by omega]
    have d1 := dig_lt a i
    refine ARun.skip (ARun.seq (ARun.block (ARun.seq (ARun.region ?_)))); refine zzm ?_
    refine y_op rfl (q_shl rfl rfl (by omega) (nshl_u64 (s := 32) rfl (by omega) (by omega))) ?_
    refine zzm ?_; refine zzm ?_
    refine y_op rfl (Zag rfl rfl rfl rfl (by omega) (by omega) (nts_ne (by omega)) (drop_nat rfl)) ?_
    refine y_op rfl (q_load rfl rfl rfl (lim_load (by omega))) ?_
    refine y_op rfl (q_conv rfl rfl rfl (nconv_u64 (by omega))) ?_
    refine y_op rfl (q_orR rfl rfl (nor_add' (by omega) (by omega))) ?_
    refine zza ?_; refine AOps.nil (ARun.seq (ARun.region ?_)); refine zzm ?_; refine zzm ?_; refine zzm ?_; refine zzm ?_
    refine y_op rfl (q_conv rfl rfl rfl (nconv_u64 (by omega))) ?_
    refine y_op rfl (q_quo rfl rfl (by omega) (nquo_u64 rfl (by omega))) ?_
    refine y_op rfl (q_conv rfl rfl rfl nconv_u32) ?_
    refine y_op rfl (ZaD rfl rfl rfl rfl rfl (by omega) (by omega) (idx_nat rfl)) ?_
    refine y_new rfl (Zad rfl rfl rfl rfl rfl rfl (by simp; omega) nts_set) ?_
    refine AOps.nil (ARun.region ?_); refine zzm ?_; refine zzm ?_
    refine y_op rfl (q_conv rfl rfl rfl (nconv_u64 (by omega))) ?_
    refine y_op rfl (q_rem rfl rfl (by omega) (nrem rfl)) ?_
    refine zza ?_; refine AOps.nil (ARun.inBlock (ARun.region ?_)); refine zzm ?_
    refine y_op rfl (q_sub rfl rfl (IntWalk.i64_in _ (by omega))) ?_
    refine zza ?_; refine AOps.nil ?_
    refine ARun.again (ih ((i, (dig a i + r * 2 ^ 32) % b, ys.set i ((dig a i + r * 2 ^ 32) / b % 4294967296))) ?_ ?_) ?_ ?_
    · (obtain ⟨k1, k2, k3, k4⟩ := sh_step hu hl (by omega) hb hb2 hr hv; exact ⟨k1, k2, by rw [k2]; omega, k3, k4⟩)
    · (dsimp only; omega)
    · (repeat' first | exact envLe_nil | apply envLe_any | apply envLe_same)
    rfl
  have hj0 : j = 0 := by omega
  subst hj0
  obtain ⟨e1, e2⟩ := sh_end hr hv
  refine ARun.exit rfl ?_
  refine ARun.seq (ARun.region ?_); refine zzm ?_
  refine y_new rfl (n_call rfl rfl (.cons (.row rfl (pures_nts _)) .nil) (ZbH hu hl) rfl) ?_
  refine zzm ?_
  refine zzc rfl rfl (ZjO r (by omega)) ?_
  refine zza ?_; refine zza ?_; refine AOps.nil ?_
  refine ARun.ret ?_
  refine ⟨_, _, _, .tmp rfl (.tmp rfl .nil), .cons (.same _) (.cons (.same _) .nil), rfl, ?_⟩
  rw [List.drop_zero] at e1
  rw [e1, e2]
  rfl
end Go.V
/- KNUTH's DIVISION: what is taken off. -/
namespace Go.V
theorem take_getD {zs : List Nat} {i : Nat} (h : i < zs.length) : zs.take (i + 1) = zs.take i ++ [zs.getD i 0] := by
  rw [List.take_add_one, List.getD_eq_getElem?_getD]
  simp [h]
theorem val_take_succ {zs : List Nat} {i : Nat} (h : i < zs.length) : val (zs.take (i + 1)) = val (zs.take i) + B ^ i * zs.getD i 0 := by
  rw [take_getD h, val_append, List.length_take, Nat.min_eq_left (Nat.le_of_lt h)]
  simp [val]
theorem tk_step {d q i c bw w n : Nat} {zs ws : List Nat} (hu : U32 zs) (hl : zs.length = n) (hi : i < zs.length) (hq : q < 4294967296) (hc : c < 4294967296) (hb : bw ≤ 1) (hw : w < 4294967296) (hwl : ws.length = n) (hwi : ws.getD i 0 = w)
    (hcb : c * B ^ i ≤ q * (d % B ^ i)) (hv : val (zs.take i) + q * (d % B ^ i) = val (ws.take i) + B ^ i * (bw + c)) :
    U32 (zs.set i (subLo w ((c + q * dig d i) % 4294967296) bw)) ∧ (zs.set i (subLo w ((c + q * dig d i) % 4294967296) bw)).length = n ∧ (c + q * dig d i) / 4294967296 < 4294967296 ∧ subC w ((c + q * dig d i) % 4294967296) bw ≤ 1 ∧
      (c + q * dig d i) / 4294967296 * B ^ (i + 1) ≤ q * (d % B ^ (i + 1)) ∧
      val ((zs.set i (subLo w ((c + q * dig d i) % 4294967296) bw)).take (i + 1)) + q * (d % B ^ (i + 1)) = val (ws.take (i + 1)) + B ^ (i + 1) * (subC w ((c + q * dig d i) % 4294967296) bw + (c + q * dig d i) / 4294967296) := by
  have m := mul_bound hq (dig_lt d i)
  have hlo : (c + q * dig d i) % 4294967296 < 4294967296 := Nat.mod_lt _ (by decide)
  refine ⟨hu.set (subLo_lt _ _ _), by simpa using hl, by omega, subC_le _ _ _, ?_, ?_⟩
  · rw [mod_succ, Nat.pow_succ, Nat.mul_comm (B ^ i) B, ← Nat.mul_assoc, Nat.mul_add]
    have h1 : (c + q * dig d i) / 4294967296 * B * B ^ i ≤ (c + q * dig d i) * B ^ i := Nat.mul_le_mul_right _ (Nat.div_mul_le_self _ _)
    rw [Nat.add_mul] at h1
    have h2 : q * dig d i * B ^ i = q * (B ^ i * dig d i) := by simp only [Nat.mul_comm, Nat.mul_left_comm, Nat.mul_assoc]
    omega
  rw [val_take_set hi, mod_succ, val_take_succ (by omega), hwi, Nat.pow_succ, Nat.mul_assoc]
  have h1 := sub_digit hw hlo hb
  generalize hlow : (c + q * dig d i) % 4294967296 = lo at h1 hlo ⊢
  generalize hbor : subC w lo bw = b1 at h1 ⊢
  generalize hnew : subLo w lo bw = nw at h1 ⊢
  have h2 : c + q * dig d i = lo + 4294967296 * ((c + q * dig d i) / 4294967296) := by rw [← hlow]; exact (Nat.mod_add_div _ _).symm
  generalize (c + q * dig d i) / 4294967296 = c1 at h2 ⊢
  have h3 : nw + q * dig d i + (bw + c) = w + B * (b1 + c1) := by rw [Nat.mul_add]; show _ = w + (4294967296 * b1 + 4294967296 * c1); omega
  have h4 := congrArg (B ^ i * ·) h3
  simp only [Nat.mul_add] at h4 hv ⊢
  have h5 : q * (B ^ i * dig d i) = B ^ i * (q * dig d i) := Nat.mul_left_comm _ _ _
  omega
theorem tk_end {d q c bw n : Nat} {zs ws : List Nat} (hl : zs.length = n) (hwl : ws.length = n) (hqd : q * d < B ^ n) (hdn : d < B ^ n) (hcb : c * B ^ n ≤ q * (d % B ^ n)) (hv : val (zs.take n) + q * (d % B ^ n) = val (ws.take n) + B ^ n * (bw + c)) : val zs + q * d = val ws + B ^ n * bw := by
  rw [Nat.mod_eq_of_lt hdn] at hcb hv
  rw [List.take_of_length_le (by omega), List.take_of_length_le (by omega)] at hv
  have hc0 : c = 0 := by
    rcases Nat.eq_zero_or_pos c with h | h
    · exact h
    have : 1 * B ^ n ≤ c * B ^ n := Nat.mul_le_mul_right _ h
    omega
  subst hc0
  exact hv
end Go.V
/- CALLS THAT WRITE what they are handed; tests that are decided; windows of rows. -/
namespace Go.V
open Go.RowKit
section
variable {C : Ctx} {Q : Post} {ops : Array Oper} {rest : List Oper} {k : List Item} {env : List D} {H H' : Heap} {df : List ADef}
variable {dst : Option Tmp} {ty : TypeId} {pos : String} {aft : Array Edge} {gd : Option (Nat × Bool)} {d : D} {x y : Operand}
theorem q_intB {bop : BinOp} {ik : IntKind} {m n : Int} {xt yt : TypeId} {b b' : Bool} (hx : evO C env x = some (.int ik m)) (hy : evO C env y = some (.int ik n)) (h : intBin bop ik m n = some (.bool b')) (hb : b' = b) : OpQ C ⟨dst, .binOp bop xt x y yt, ty, pos, aft, gd⟩ env H (.bool b) := by
  subst hb; exact q_int hx hy h
theorem Zau {f : FuncId} {caps ds ds' : List D} {args : List Operand} {tys : Array TypeId} {R : Out → Heap → Prop} {E : D → List D} [hput : ∀ d, Put env dst d (E d)] (hg : gOk ops.toList env gd = some true) (hx : evO C env x = some (.clos f caps)) (ha : evOs C env args = some ds) (hds : ds ++ caps = ds') (hc : HC C f H ds' R)
    (hk : ∀ d H', R (.ret d) H' → AOps C Q ops rest k (E d) H' df) (hp : ∀ d H', R (.pan d) H' → Q (.pan d) env H' df) : AOps C Q ops (⟨dst, .call ⟨.value x, args.toArray, tys⟩, ty, pos, aft, gd⟩ :: rest) k env H df := by
  subst hds
  exact AOps.opH hg (o_call (ids := []) hx ha (FzL.sames _) hc) (fun d H' h => by rw [(hput d).eq]; exact hk d H' h) hp
theorem HC.run {f : FuncId} {fn : Func} {c : Code} {args : List D} {R : Out → Heap → Prop} {n : Nat} (hf : C.P.funcs[f]? = some fn) (hen : Enters C.P f) (hb : fn.body = some c) (hn : fn.ntmps = n) {rs : List ResultVar} (hrs : fn.results.toList = rs) {env0 : List D} (he : args ++ List.replicate (n - args.length) (.tup []) = env0)
    (h : ARun C (QFin C rs R) [.code c] env0 H []) : HC C f H args R := by
  subst hrs; subst he
  exact HC.of_run hf hen hb hn h
end
theorem win_get {k : IntKind} {pre zs post : List Nat} {off i : Nat} (ho : pre.length = off) (h : i < zs.length) : (nts k (pre ++ zs ++ post))[off + i]? = some (D.int k (zs.getD i 0 : Nat)) := by
  subst ho
  rw [nts_get (by simp; omega)]
  congr 3
  rw [List.getD_eq_getElem?_getD, List.getD_eq_getElem?_getD, List.append_assoc, List.getElem?_append_right (by omega), List.getElem?_append_left (by omega)]
  congr 2
  omega
theorem win_set {k : IntKind} {pre zs post : List Nat} {off i v : Nat} (ho : pre.length = off) (h : i < zs.length) : (nts k (pre ++ zs ++ post)).set (off + i) (D.int k (v : Int)) = nts k (pre ++ zs.set i v ++ post) := by
  subst ho
  rw [nts_set]
  congr 1
  rw [List.append_assoc, List.append_assoc, List.set_append_right _ _ (by omega), List.set_append_left _ _ (by omega)]
  congr 3
  omega
end Go.V
namespace Go.V
theorem ARun.join {C : Ctx} {Q : Post} {k : List Item} {env : List D} {H : Heap} {df : List ADef} {S : Type} {c : Code} {E : S → List D} (cs : S → List (Nat × D)) (J : S → Prop) [hE : ∀ s, Puts env (cs s) (E s)] (h1 : (∀ s, J s → ARun C Q k (E s) H df) → ARun C Q (.code c :: k) env H df) (h2 : ∀ s, J s → ARun C Q k (E s) H df) : ARun C Q (.code c :: k) env H df := h1 h2
end Go.V
namespace Go.V
open Go.RowKit
inductive DChP (C : Ctx) (ops : Array Oper) (H : Heap) (KP : D → Prop) (P : List D → Prop → Prop) : List Oper → List D → Prop → Prop
  | nil {env : List D} {G : Prop} : P env G → DChP C ops H KP P [] env G
  | op {o : Oper} {rest : List Oper} {env env' : List D} {d : D} {G : Prop} : gOk ops.toList (maskF (o.looksAt ops) 0 env) o.guard = some true → OpQ C o (maskF (o.looksAt ops) 0 env) H d → [Put env o.dst d env'] → DChP C ops H KP P rest env' G → DChP C ops H KP P (o :: rest) env G
  | opP {o : Oper} {rest : List Oper} {env env' : List D} {d : D} {g G : Prop} : gOk ops.toList (maskF (o.looksAt ops) 0 env) o.guard = some true → OpG C o (maskF (o.looksAt ops) 0 env) H d g KP → [Put env o.dst d env'] → DChP C ops H KP P rest env' (G ∧ g) → DChP C ops H KP P (o :: rest) env G
  | skip {o : Oper} {rest : List Oper} {env env' : List D} {G : Prop} : gOk ops.toList (maskF (o.looksAt ops) 0 env) o.guard = some false → [Put env o.dst (.tup []) env'] → DChP C ops H KP P rest env' G → DChP C ops H KP P (o :: rest) env G
theorem DChP.chain {C : Ctx} {ops : Array Oper} {H : Heap} {KP : D → Prop} {P : List D → Prop → Prop} (hP : ∀ env G G', (G → G') → P env G' → P env G) {l : List Oper} {env : List D} {G : Prop} (h : DChP C ops H KP P l env G) : ∃ envF G', DCh C ops H KP l env envF G' ∧ P envF (G ∧ G') := by
  induction h with
  | nil h => exact ⟨_, _, .nil, hP _ _ _ (fun x => x.1) h⟩
  | op h1 h2 _ ih => obtain ⟨eF, G', k1, k2⟩ := ih; exact ⟨eF, G', .op h1 h2 k1, k2⟩
  | opP h1 h2 _ ih => obtain ⟨eF, G', k1, k2⟩ := ih; exact ⟨eF, _, .opP h1 h2 k1, hP _ _ _ (fun x => ⟨⟨x.1, x.2.1⟩, x.2.2⟩) k2⟩
  | skip h1 _ ih => obtain ⟨eF, G', k1, k2⟩ := ih; exact ⟨eF, G', .skip h1 k1, k2⟩
theorem ARun.drawnP {C : Ctx} {Q : Post} {l suf : List Oper} {k : List Item} {env : List D} {H : Heap} {df : List ADef} {id : Nat} (n : Nat) {pre : List Oper} (KP : D → Prop) (hmix : C.P.follows .mixedOrders = true) (hpre : l.take n = pre) (hsuf : l.drop n = suf) (hB : okDraw l pre.length = true) (hp : ∀ env' d, KP d → Q (.pan d) env' H df)
    (hch : DChP C l.toArray H KP (fun envF G => G → AOps C Q l.toArray suf k envF H df) pre env True) : ARun C Q (.code (.region id l.toArray true) :: k) env H df := by
  obtain ⟨envF, G', h1, h2⟩ := hch.chain (fun _ _ _ hg h x => h (hg x))
  exact ARun.drawn hmix hpre hsuf hB h1 hp (fun x => h2 ⟨trivial, x⟩)
end Go.V
namespace Go.V
open Go.RowKit
theorem ARun.nil0 {C : Ctx} {Q : Post} {k : List Item} {env e1 : List D} {H : Heap} {df : List ADef} (t : Nat) (ht : env[t]? = some .nilsl) [hp : Put env (some t) (.sl 0 []) e1] (h : ARun C Q k e1 H df) : ARun C Q k env H df := by
  have e := hp.eq
  simp only [envPut] at e
  subst e
  refine ⟨fun L0 w0 μ0 H0 w μ a hs hv hd he b cs hrd => h.out L0 w0 μ0 H0 w μ a hs ?_ hd he b cs hrd⟩
  have key : ∀ (env : List D) (vs : List Value) (t : Nat), env[t]? = some .nilsl → VRs w (forb L0 μ H) μ H env vs → VRs w (forb L0 μ H) μ H (env.set t (.sl 0 [])) vs := by
    intro env
    induction env with
    | nil => intro vs t h _; simp at h
    | cons d ds ih =>
      intro vs t h hv
      simp only [VRs] at hv
      obtain ⟨v, us, rfl, h1, h2⟩ := hv
      cases t with
      | zero =>
        simp at h
        subst h
        simp only [VR] at h1
        simp only [List.set_cons_zero, VRs, VR]
        exact ⟨v, us, rfl, ⟨none, 0, h1, Nat.le_refl _, Nat.zero_le _, fun h => (h rfl).elim⟩, h2⟩
      | succ t =>
        simp only [List.set_cons_succ, VRs]
        exact ⟨v, us, rfl, h1, ih us t (by simpa using h) h2⟩
  exact key env _ t ht hv
end Go.V
set_option synthInstance.maxSize 100000
set_option synthInstance.maxHeartbeats 2000000
namespace Go.V
open Go.RowKit Go.Proofs
theorem Zmo (d q n off : Nat) (pre ws post : List Nat) (o2 : Option AObj) (ho : pre.length = off) (hu : U32 ws) (hn : ws.length = n) (hN : n ≤ 1099511627776) (hq : q < 4294967296) (hqd : q * d < B ^ n) (hdn : d < B ^ n) :
    HC C Zkq [some ⟨nts .u32 (pre ++ ws ++ post), Zav, 1, true, none⟩, o2] [.sub 0 off n, numD d, .int .u64 (q : Int)] (fun o H' => ∃ zs bw, U32 zs ∧ zs.length = n ∧ bw ≤ 1 ∧ val zs + q * d = val ws + B ^ n * bw ∧ o = .ret (.bool (decide (0 < bw))) ∧ H' = [some ⟨nts .u32 (pre ++ zs ++ post), Zav, 1, true, none⟩, o2]) := by
  refine HC.run Zfg ZjL rfl ZjM (rs := [.tmp 6]) (by rw [ZjN]) (by simp only [List.length_cons, List.length_nil, Nat.reduceAdd, Nat.reduceSub, List.replicate_succ, List.replicate_zero, List.cons_append, List.nil_append]; exact rfl) ?_
  refine ARun.seq (ARun.region ?_); refine zza ?_; refine AOps.nil (ARun.seq (ARun.region ?_)); refine zza ?_; refine zza ?_; refine AOps.nil (ARun.seq (ARun.seq (ARun.region ?_))); refine zzm ?_
  refine y_op rfl (ZkI rfl rfl) ?_
  refine zzm ?_; refine AOps.nil (ARun.block ?_)
  refine ARun.loopI (S := Nat × Nat × Nat × List Nat) (fun σ : Nat × Nat × Nat × List Nat => [(9, .any), (10, .any), (14, .any), (15, .any), (16, .any), (17, .any), (18, .any), (19, .any), (20, .any), (21, .any), (22, .any), (23, .any), (24, .any), (25, .any), (26, .any), (27, .any), (28, .any), (29, .any), (30, .any), (31, .any), (32, .any), (33, .any), (34, .any), (35, .any), (36, .any), (37, .any), (38, .any), (39, .any), (40, .any), (41, .any), (42, .any), (43, .any), (13, .int .i64 (σ.1 : Int)), (7, .int .u64 (σ.2.1 : Int)), (8, .int .u64 (σ.2.2.1 : Int))]) (fun σ : Nat × Nat × Nat × List Nat => [some ⟨nts .u32 (pre ++ σ.2.2.2 ++ post), Zav, 1, true, none⟩, o2]) (fun σ : Nat × Nat × Nat × List Nat => U32 σ.2.2.2 ∧ σ.2.2.2.length = n ∧ σ.1 ≤ n ∧ σ.2.1 < 4294967296 ∧ σ.2.2.1 ≤ 1 ∧ (∀ p, σ.1 ≤ p → σ.2.2.2.getD p 0 = ws.getD p 0) ∧ σ.2.1 * B ^ σ.1 ≤ q * (d % B ^ σ.1) ∧ val (σ.2.2.2.take σ.1) + q * (d % B ^ σ.1) = val (ws.take σ.1) + B ^ σ.1 * (σ.2.2.1 + σ.2.1)) (fun σ : Nat × Nat × Nat × List Nat => n - σ.1) ((0, 0, 0, ws)) ?_ ?_ ?_ ?_
  · exact ⟨hu, hn, by simp, by simp, by simp, fun p _ => rfl, by simp, by simp [val, Nat.mod_one]⟩
  · (repeat' first | exact envLe_nil | apply envLe_any | apply envLe_same)
  · rfl
  rintro ⟨i, c, bw, zs⟩ hinv ih
  dsimp only at hinv ih ⊢
  obtain ⟨hz, hl, hi, hc, hb, hp, hcb, hv⟩ := hinv
  refine ARun.seq (ARun.region ?_); refine zzi ?_; refine AOps.nil (ARun.seq ?_)
  refine ARun.ite rfl (fun h => ?_) (fun h => ?_)
  · skip
    have d1 := dig_lt d i
    have m := mul_bound hq d1
    have d2 := hz.get i
    have hlo : (c + q * dig d i) % 4294967296 < 4294967296 := Nat.mod_lt _ (by decide)
    refine ARun.skip (ARun.seq (ARun.block (ARun.seq (ARun.region ?_)))); refine zzm ?_; refine zza ?_; refine AOps.nil (ARun.seq (ARun.region ?_)); refine zzm ?_; refine zzm ?_; refine zzm ?_; refine zzm ?_
    refine zzc rfl rfl (Zbu d i) ?_
    refine y_op rfl (q_mul rfl rfl (nmul_u64 (by omega))) ?_
    refine y_op rfl (q_add rfl rfl (nadd_u64 (by omega))) ?_
    refine zza ?_; refine AOps.nil (ARun.seq (ARun.region ?_)); refine zzm ?_; refine zzm ?_
    refine y_op rfl (Zco rfl rfl rfl rfl (by omega) (by omega) (sub_nat rfl)) ?_
    refine y_op rfl (Zac rfl rfl rfl rfl (win_get (by assumption) (by omega))) ?_
    refine y_op rfl (q_conv rfl rfl rfl (nconv_u64 (by omega))) ?_
    refine zzm ?_
    refine y_op rfl (q_conv rfl rfl rfl nconv_u32) ?_
    refine y_op rfl (q_conv rfl rfl rfl (nconv_u64 (by omega))) ?_
    refine y_op rfl (q_sub rfl rfl rfl) ?_
    refine zzm ?_
    refine y_op rfl (q_sub rfl rfl rfl) ?_
    refine zza ?_; refine AOps.nil (ARun.seq (ARun.region ?_)); refine zzm ?_; refine zzm ?_; refine zzm ?_
    refine y_op rfl (q_conv rfl rfl rfl (sub_lo d2 hlo hb)) ?_
    refine y_op rfl (Zco rfl rfl rfl rfl (by omega) (by omega) (sub_nat rfl)) ?_
    refine y_new rfl (Zad rfl rfl rfl rfl rfl rfl (by simp; omega) (win_set (by assumption) (by omega))) ?_
    refine AOps.nil (ARun.seq (ARun.region ?_)); refine zzm ?_
    refine y_op rfl (q_shr rfl rfl (by omega) (sub_c d2 hlo hb)) ?_
    refine zza ?_; refine AOps.nil (ARun.region ?_); refine zzm ?_
    refine y_op rfl (q_shr rfl rfl (by omega) nshr32) ?_
    refine zza ?_; refine AOps.nil (ARun.inBlock (ARun.region ?_))
    refine y_op rfl (q_add rfl rfl (nadd1_i64 (by omega))) ?_
    refine zzm ?_; refine AOps.nil ?_
    refine ARun.again (ih ((i + 1, (c + q * dig d i) / 4294967296, subC (zs.getD i 0) ((c + q * dig d i) % 4294967296) bw, zs.set i (subLo (zs.getD i 0) ((c + q * dig d i) % 4294967296) bw))) ?_ ?_) ?_ ?_
    · (obtain ⟨k1, k2, k3, k4, k5, k6⟩ := tk_step (w := zs.getD i 0) hz hl (by omega) hq hc hb d2 hn (hp i (Nat.le_refl _)).symm hcb hv; exact ⟨k1, k2, by dsimp only; omega, k3, k4, fun p hp2 => by rw [getD_set_ne (by omega)]; exact hp p (by omega), k5, k6⟩)
    · (dsimp only; omega)
    · (repeat' first | exact envLe_nil | apply envLe_any | apply envLe_same)
    rfl
  have hin : i = n := by omega
  subst hin
  refine ARun.exit rfl ?_
  refine ARun.seq (ARun.region ?_); refine zzm ?_; refine zzi ?_; refine zza ?_; refine AOps.nil ?_
  refine ARun.ret ?_
  refine ⟨_, _, _, .tmp rfl .nil, .cons (.same _) .nil, ?_⟩
  exact ⟨zs, bw, hz, hl, hb, tk_end hl hn hqd hdn hcb hv, by simp [tupD], rfl⟩
end Go.V
/- KNUTH's DIVISION: the estimate. -/
namespace Go.V
structure Kn (d W v1 v2 u0 u1 u2 : Nat) (m : Nat) : Prop where
  dd : ∃ d0, d0 < B ^ m ∧ d = d0 + B ^ m * v2 + B ^ (m + 1) * v1
  ww : ∃ w0, w0 < B ^ m ∧ W = w0 + B ^ m * u2 + B ^ (m + 1) * u1 + B ^ (m + 2) * u0
  hv1 : 2147483648 ≤ v1
  hv1' : v1 < 4294967296
  hv2' : v2 < 4294967296
  hu0' : u0 < 4294967296
  hu1' : u1 < 4294967296
  hu2' : u2 < 4294967296
  lt : W < B * d
theorem Kn.of {d m n : Nat} {ws : List Nat} (hn : n = m + 2) (hd : (lim d).length = n) (hv : 2147483648 ≤ dig d (n - 1)) (hu : U32 ws) (hl : ws.length = n + 1) (hlt : val ws < B * d) :
    Kn d (val ws) (dig d (n - 1)) (dig d (n - 2)) (ws.getD n 0) (ws.getD (n - 1) 0) (ws.getD (n - 2) 0) m := by
  subst hn
  refine ⟨⟨d % B ^ m, Nat.mod_lt _ (Nat.pow_pos B_pos), ?_⟩, ⟨val (ws.take m), ?_, ?_⟩, hv, dig_lt _ _, dig_lt _ _, hu.get _, hu.get _, hu.get _, hlt⟩
  · have h := mod_of_ln (a := d) (k := m + 2) (by omega)
    rw [mod_succ, mod_succ] at h
    exact h.symm
  · have := val_lt (hu.take m)
    rwa [List.length_take, Nat.min_eq_left (by omega)] at this
  have h : ws.take (m + 2 + 1) = ws := List.take_of_length_le (by omega)
  have h2 := val_take_succ (zs := ws) (i := m + 2) (by omega)
  rw [h, val_take_succ (by omega), val_take_succ (by omega)] at h2
  exact h2
section
variable {d W v1 v2 u0 u1 u2 m : Nat} (k : Kn d W v1 v2 u0 u1 u2 m)
include k
theorem Kn.pos : 0 < d := by
  have := k.lt
  rcases Nat.eq_zero_or_pos d with h | h
  · subst h; omega
  exact h
theorem Kn.units : ∃ P d0 w0 : Nat, 0 < P ∧ d0 < P ∧ w0 < P ∧ d = d0 + P * (v1 * B + v2) ∧ W = w0 + P * ((u1 + u0 * B) * B + u2) := by
  obtain ⟨d0, h1, h2⟩ := k.dd
  obtain ⟨w0, h3, h4⟩ := k.ww
  refine ⟨B ^ m, d0, w0, Nat.pow_pos B_pos, h1, h3, ?_, ?_⟩
  · rw [h2, Nat.mul_add, Nat.pow_succ]
    have : B ^ m * (v1 * B) = B ^ m * B * v1 := by simp only [Nat.mul_comm, Nat.mul_left_comm, Nat.mul_assoc]
    omega
  have p1 : B ^ (m + 1) = B ^ m * B := Nat.pow_succ ..
  have p2 : B ^ (m + 2) = B ^ m * B * B := by rw [Nat.pow_succ, Nat.pow_succ]
  rw [h4, Nat.mul_add, Nat.add_mul, Nat.mul_add, p1, p2]
  have e1 : B ^ m * (u1 * B) = B ^ m * B * u1 := by simp only [Nat.mul_comm, Nat.mul_left_comm, Nat.mul_assoc]
  have e2 : B ^ m * (u0 * B * B) = B ^ m * B * B * u0 := by simp only [Nat.mul_comm, Nat.mul_left_comm, Nat.mul_assoc]
  omega
theorem Kn.first : W / d ≤ min ((u1 + u0 * B) / v1) 4294967295 := by
  obtain ⟨P, d0, w0, hP, h1, h2, h3, h4⟩ := k.units
  have hlt := k.lt
  have hv := k.hv1
  refine Nat.le_min.2 ⟨?_, ?_⟩
  · rw [Nat.le_div_iff_mul_le (by omega)]
    have e1 := Nat.div_mul_le_self W d
    have e2 : W / d * (P * (v1 * B)) ≤ W / d * d := Nat.mul_le_mul_left _ (by rw [h3, Nat.mul_add]; omega)
    have e3 : W < P * ((u1 + u0 * B + 1) * B) := by
      have hu2 := k.hu2'
      have : P * ((u1 + u0 * B) * B + u2 + 1) ≤ P * ((u1 + u0 * B + 1) * B) := Nat.mul_le_mul_left _ (by rw [Nat.add_mul _ 1 B]; have := B_eq; omega)
      rw [Nat.mul_add _ _ 1] at this
      omega
    have e4 : P * B * (W / d * v1) < P * B * (u1 + u0 * B + 1) := by
      have a1 : W / d * (P * (v1 * B)) = P * B * (W / d * v1) := by simp only [Nat.mul_comm, Nat.mul_left_comm, Nat.mul_assoc]
      have a2 : P * ((u1 + u0 * B + 1) * B) = P * B * (u1 + u0 * B + 1) := by simp only [Nat.mul_comm, Nat.mul_left_comm, Nat.mul_assoc]
      omega
    have := Nat.lt_of_mul_lt_mul_left e4
    omega
  have : W / d < B := (Nat.div_lt_iff_lt_mul k.pos).2 hlt
  have := B_eq
  omega
theorem Kn.low {q r : Nat} (hr : q * v1 + r = u1 + u0 * B) (h : r * B + u2 < q * v2) : W / d ≤ q - 1 ∧ 1 ≤ q := by
  obtain ⟨P, d0, w0, hP, h1, h2, h3, h4⟩ := k.units
  have e1 : (u1 + u0 * B) * B + u2 + 1 ≤ q * (v1 * B + v2) := by
    rw [← hr, Nat.add_mul, Nat.mul_add, ← Nat.mul_assoc]; omega
  have e2 : P * ((u1 + u0 * B) * B + u2 + 1) ≤ P * (q * (v1 * B + v2)) := Nat.mul_le_mul_left _ e1
  have e3 : P * (q * (v1 * B + v2)) ≤ q * d := by
    have a1 := Nat.mul_add q d0 (P * (v1 * B + v2))
    have a2 := Nat.mul_left_comm q P (v1 * B + v2)
    rw [h3]; omega
  rw [Nat.mul_add _ _ 1] at e2
  have e4 : W < q * d := by omega
  have h5 := (Nat.div_lt_iff_lt_mul k.pos).2 e4
  generalize W / d = z at h5 ⊢
  omega
theorem Kn.high {q r : Nat} (hq : q < 4294967296) (hr : q * v1 + r = u1 + u0 * B) (h : q * v2 ≤ r * B + u2) : q * d ≤ W + d := by
  obtain ⟨P, d0, w0, hP, h1, h2, h3, h4⟩ := k.units
  have e1 : q * (v1 * B + v2) ≤ (u1 + u0 * B) * B + u2 := by
    rw [← hr, Nat.add_mul, Nat.mul_add, ← Nat.mul_assoc]; omega
  have e2 : P * (q * (v1 * B + v2)) ≤ P * ((u1 + u0 * B) * B + u2) := Nat.mul_le_mul_left _ e1
  have e3 : q * d = q * d0 + P * (q * (v1 * B + v2)) := by
    have a1 := Nat.mul_add q d0 (P * (v1 * B + v2))
    have a2 := Nat.mul_left_comm q P (v1 * B + v2)
    rw [h3]; omega
  have e4 : q * d0 ≤ B * P := Nat.mul_le_mul (Nat.le_of_lt hq) (Nat.le_of_lt h1)
  have e5 : B * P ≤ P * (v1 * B + v2) := by
    rw [Nat.mul_comm]
    refine Nat.mul_le_mul_left _ ?_
    have : 1 * B ≤ v1 * B := Nat.mul_le_mul_right _ (by have := k.hv1; omega)
    omega
  omega
theorem Kn.big {q r : Nat} (hq : q < 4294967296) (hr : 4294967296 ≤ r) : q * v2 ≤ r * B + u2 := by
  have h1 := mul_bound hq k.hv2'
  have h2 : 4294967296 * B ≤ r * B := Nat.mul_le_mul_right _ hr
  have := B_eq
  omega
theorem Kn.exact {q : Nat} (h1 : W / d ≤ q) (h2 : q * d ≤ W) : q = W / d ∧ W - q * d = W % d := by
  have h3 : q ≤ W / d := (Nat.le_div_iff_mul_le k.pos).2 h2
  have h4 : q = W / d := Nat.le_antisymm h3 h1
  refine ⟨h4, ?_⟩
  rw [h4]
  have := Nat.div_add_mod W d
  rw [Nat.mul_comm] at this
  omega
theorem Kn.back {q : Nat} (h1 : W < q * d) (h2 : q * d ≤ W + d) : q - 1 = W / d ∧ W + d - q * d = W % d := by
  have hq : 1 ≤ q := by
    rcases Nat.eq_zero_or_pos q with h | h
    · subst h; omega
    exact h
  obtain ⟨p, rfl⟩ : ∃ p, q = p + 1 := ⟨q - 1, by omega⟩
  rw [Nat.add_mul, Nat.one_mul] at h1 h2 ⊢
  have h3 : W / d ≤ p := by
    have : W / d < p + 1 := (Nat.div_lt_iff_lt_mul k.pos).2 (by rw [Nat.add_mul, Nat.one_mul]; exact h1)
    omega
  have := k.exact h3 (by omega)
  refine ⟨by omega, by omega⟩
end
theorem B_two : B = 2 ^ 32 := rfl
theorem back_step {d i c n : Nat} {ys zs : List Nat} (hu : U32 ys) (hl : ys.length = n) (hz : zs.length = n) (hi : i < n) (hc : c ≤ 1) (hy : ys.getD i 0 = zs.getD i 0) (hv : val (ys.take i) + B ^ i * c = val (zs.take i) + d % B ^ i) :
    U32 (ys.set i ((c + (ys.getD i 0 + dig d i)) % 4294967296)) ∧ (ys.set i ((c + (ys.getD i 0 + dig d i)) % 4294967296)).length = n ∧ (c + (ys.getD i 0 + dig d i)) / 4294967296 ≤ 1 ∧
      val ((ys.set i ((c + (ys.getD i 0 + dig d i)) % 4294967296)).take (i + 1)) + B ^ (i + 1) * ((c + (ys.getD i 0 + dig d i)) / 4294967296) = val (zs.take (i + 1)) + d % B ^ (i + 1) := by
  have d1 := hu.get i
  have d2 := dig_lt d i
  refine ⟨hu.set (Nat.mod_lt _ (by decide)), by simpa using hl, by omega, ?_⟩
  rw [val_take_set (by omega), mod_succ, val_take_succ (by omega), ← hy, Nat.pow_succ, Nat.mul_assoc]
  generalize hs : c + (ys.getD i 0 + dig d i) = s
  have h1 : B ^ i * (s % 4294967296) + B ^ i * (B * (s / 4294967296)) = B ^ i * s := by
    rw [← Nat.mul_add]; congr 1; exact Nat.mod_add_div s B
  have h2 : B ^ i * s = B ^ i * c + (B ^ i * ys.getD i 0 + B ^ i * dig d i) := by rw [← hs, Nat.mul_add, Nat.mul_add]
  omega
theorem back_end {d c n : Nat} {ys zs : List Nat} (hl : ys.length = n) (hz : zs.length = n) (hdn : d < B ^ n) (hu : U32 ys) (hc : c ≤ 1) (hv : val (ys.take n) + B ^ n * c = val (zs.take n) + d % B ^ n) (hzs : val zs < B ^ n) (hge : B ^ n ≤ val zs + d) : val ys + B ^ n = val zs + d := by
  rw [Nat.mod_eq_of_lt hdn, List.take_of_length_le (by omega), List.take_of_length_le (by omega)] at hv
  have := val_lt hu
  rw [hl] at this
  have hc1 : c = 1 := by
    rcases Nat.eq_zero_or_pos c with h | h
    · subst h; omega
    omega
  subst hc1
  omega
end Go.V
set_option synthInstance.maxSize 100000
set_option synthInstance.maxHeartbeats 2000000
set_option maxHeartbeats 2000000
namespace Go.V
open Go.RowKit Go.Proofs
theorem Zks (d off : Nat) (pre ws post : List Nat) (o2 : Option AObj) (ho : pre.length = off) (hu : U32 ws) (hL : 2 ≤ (lim d).length) (hN : (lim d).length ≤ 549755813888) (hv : 2147483648 ≤ dig d ((lim d).length - 1)) (hl : ws.length = (lim d).length + 1) (hlt : val ws < B * d) :
    HC C ZhP [some ⟨nts .u32 (pre ++ ws ++ post), Zav, 1, true, none⟩, o2] [.sub 0 off ((lim d).length + 1), numD d] (fun o H' => ∃ zs, U32 zs ∧ zs.length = (lim d).length + 1 ∧ val zs = val ws % d ∧ o = .ret (.int .u32 (val ws / d : Nat)) ∧ H' = [some ⟨nts .u32 (pre ++ zs ++ post), Zav, 1, true, none⟩, o2]) := by
  have k := Kn.of (m := (lim d).length - 2) (n := (lim d).length) (by omega) rfl hv hu hl hlt
  have b0 := k.hu0'
  have b1 := k.hu1'
  have b2 := k.hu2'
  have b3 := k.hv1'
  have b4 := k.hv2'
  have q0 := k.first
  rw [B_two] at q0
  have q1 : min ((ws.getD ((lim d).length - 1) 0 + ws.getD (lim d).length 0 * 2 ^ 32) / dig d ((lim d).length - 1)) 4294967295 * dig d ((lim d).length - 1) ≤ ws.getD ((lim d).length - 1) 0 + ws.getD (lim d).length 0 * 2 ^ 32 := Nat.le_trans (Nat.mul_le_mul_right _ (Nat.min_le_left _ _)) (Nat.div_mul_le_self _ _)
  have q2 : min ((ws.getD ((lim d).length - 1) 0 + ws.getD (lim d).length 0 * 2 ^ 32) / dig d ((lim d).length - 1)) 4294967295 ≤ 4294967295 := Nat.min_le_right _ _
  refine HC.run Zdk ZgZ rfl Zg0 (rs := [.tmp 4]) (by rw [Zg1]) (by simp only [List.length_cons, List.length_nil, Nat.reduceAdd, Nat.reduceSub, List.replicate_succ, List.replicate_zero, List.cons_append, List.nil_append]; exact rfl) ?_
  refine ARun.seq (ARun.region ?_); refine zza ?_; refine AOps.nil (ARun.seq (ARun.region ?_)); refine zzm ?_; refine zzN ?_; refine zza ?_; refine AOps.nil (ARun.seq ?_)
  refine ARun.drawnP 13 (fun _ => False) mixC rfl rfl (by kernel_rfl) (fun _ _ h => h.elim) ?_
  refine .op rfl (q_move rfl) ?_
  refine .op rfl (q_move rfl) ?_
  refine .op rfl (Zco rfl rfl rfl rfl (by omega) (by omega) (sub_nat rfl)) ?_
  refine .op rfl (Zac rfl rfl rfl rfl (win_get (by assumption) (by omega))) ?_
  refine .op rfl (q_conv rfl rfl rfl (nconv_u64 (by omega))) ?_
  refine .op rfl (q_shl rfl rfl (by omega) (nshl_u64 (s := 32) rfl (by omega) (by omega))) ?_
  refine .op rfl (q_move rfl) ?_
  refine .op rfl (q_move rfl) ?_
  refine .op rfl (q_sub rfl rfl (nsub1_i64 (by omega) (by omega))) ?_
  refine .op rfl (Zco rfl rfl rfl rfl (by omega) (by omega) (sub_nat rfl)) ?_
  refine .op rfl (Zac rfl rfl rfl rfl (win_get (by assumption) (by omega))) ?_
  refine .op rfl (q_conv rfl rfl rfl (nconv_u64 (by omega))) ?_
  refine .op rfl (q_orR rfl rfl (nor_add' (s := 32) (by omega) (by omega))) ?_
  refine .nil (fun hG => ?_)
  refine zza ?_; refine AOps.nil (ARun.seq (ARun.region ?_)); refine zzm ?_; refine zzm ?_; refine zzm ?_
  refine y_op rfl (q_sub rfl rfl (nsub1_i64 (by omega) (by omega))) ?_
  refine y_op rfl (Zag rfl rfl rfl rfl (by omega) (by omega) (nts_ne (by omega)) (drop_nat rfl)) ?_
  refine y_op rfl (q_load rfl rfl rfl (lim_load (by omega))) ?_
  refine y_op rfl (q_conv rfl rfl rfl (nconv_u64 (by omega))) ?_
  refine y_op rfl (q_quo rfl rfl (by omega) (nquo_u64 rfl (by omega))) ?_
  refine y_op rfl (q_minR rfl rfl (nmin (n := 4294967295))) ?_
  refine zza ?_; refine AOps.nil (ARun.seq (ARun.seq (ARun.region ?_))); refine zzm ?_; refine zzm ?_; refine zzm ?_; refine zzm ?_
  refine y_op rfl (q_sub rfl rfl (nsub1_i64 (by omega) (by omega))) ?_
  refine y_op rfl (Zag rfl rfl rfl rfl (by omega) (by omega) (nts_ne (by omega)) (drop_nat rfl)) ?_
  refine y_op rfl (q_load rfl rfl rfl (lim_load (by omega))) ?_
  refine y_op rfl (q_conv rfl rfl rfl (nconv_u64 (by omega))) ?_
  refine y_op rfl (q_mul rfl rfl (nmul_u64 (by omega))) ?_
  refine y_op rfl (q_sub rfl rfl (nsub_u64 (by omega) (by omega))) ?_
  refine zza ?_; refine AOps.nil (ARun.block ?_)
  refine ARun.loopI (S := Nat × Nat) (fun σ : Nat × Nat => [(45, .any), (46, .any), (47, .any), (48, .any), (49, .any), (50, .any), (51, .any), (52, .any), (53, .any), (54, .any), (55, .any), (56, .any), (57, .any), (58, .any), (59, .any), (60, .any), (61, .any), (62, .any), (63, .any), (64, .any), (65, .any), (66, .any), (67, .any), (68, .any), (69, .any), (70, .any), (71, .any), (72, .any), (73, .any), (74, .any), (75, .any), (76, .any), (7, .int .u64 (σ.1 : Int)), (8, .int .u64 (σ.2 : Int))]) (fun σ : Nat × Nat => [some ⟨nts .u32 (pre ++ ws ++ post), Zav, 1, true, none⟩, o2]) (fun σ : Nat × Nat => σ.1 < 4294967296 ∧ val ws / d ≤ σ.1 ∧ σ.1 * dig d ((lim d).length - 1) + σ.2 = ws.getD ((lim d).length - 1) 0 + ws.getD (lim d).length 0 * 2 ^ 32) (fun σ : Nat × Nat => σ.1) ((min ((ws.getD ((lim d).length - 1) 0 + ws.getD (lim d).length 0 * 2 ^ 32) / dig d ((lim d).length - 1)) 4294967295, ws.getD ((lim d).length - 1) 0 + ws.getD (lim d).length 0 * 2 ^ 32 - min ((ws.getD ((lim d).length - 1) 0 + ws.getD (lim d).length 0 * 2 ^ 32) / dig d ((lim d).length - 1)) 4294967295 * dig d ((lim d).length - 1))) ?_ ?_ ?_ ?_
  · exact ⟨Nat.lt_succ_of_le q2, q0, by dsimp only; omega⟩
  · (repeat' first | exact envLe_nil | apply envLe_any | apply envLe_same)
  · rfl
  rintro ⟨q, r⟩ hinv ih
  dsimp only at hinv ih ⊢
  obtain ⟨hq, hle, hqr⟩ := hinv
  have b5 := mul_bound hq b4
  refine ARun.seq (ARun.seq ?_)
  refine ARun.join (S := Bool) (fun t : Bool => [(45, .any), (46, .any), (47, .any), (48, .any), (49, .any), (50, .any), (51, .any), (52, .any), (53, .any), (54, .any), (55, .any), (56, .any), (57, .any), (58, .any), (59, .any), (60, .any), (61, .any), (62, .any), (63, .any), (64, .any), (65, .any), (66, .bool t)]) (fun t : Bool => (t = true → r < 4294967296 ∧ r * 2 ^ 32 + ws.getD ((lim d).length - 2) 0 < q * dig d ((lim d).length - 2)) ∧ (t = false → q * dig d ((lim d).length - 2) ≤ r * 2 ^ 32 + ws.getD ((lim d).length - 2) 0)) (fun run => ?_) ?_
  · rcases Nat.lt_or_ge r 4294967296 with hr | hr
    · skip
      refine ARun.drawnP 22 (fun _ => False) mixC rfl rfl (by kernel_rfl) (fun _ _ h => h.elim) ?_
      refine .op rfl (q_move rfl) ?_
      refine .op rfl (q_intB rfl rfl rfl (decide_eq_true (by omega))) ?_
      refine .op rfl (q_move rfl) ?_
      refine .op rfl (q_move rfl) ?_
      refine .op rfl (q_move rfl) ?_
      refine .op rfl (q_move rfl) ?_
      refine .op rfl (q_sub rfl rfl (nsub_i64 (n := 2) (by omega) (by omega))) ?_
      refine .op rfl (Zag rfl rfl rfl rfl (by omega) (by omega) (nts_ne (by omega)) (drop_nat rfl)) ?_
      refine .op rfl (q_load rfl rfl rfl (lim_load (by omega))) ?_
      refine .op rfl (q_conv rfl rfl rfl (nconv_u64 (by omega))) ?_
      refine .op rfl (q_mul rfl rfl (nmul_u64 (by omega))) ?_
      refine .op rfl (q_move rfl) ?_
      refine .op rfl (q_shl rfl rfl (by omega) (nshl_u64 (s := 32) rfl (by omega) (by omega))) ?_
      refine .op rfl (q_move rfl) ?_
      refine .op rfl (q_move rfl) ?_
      refine .op rfl (q_sub rfl rfl (nsub_i64 (n := 2) (by omega) (by omega))) ?_
      refine .op rfl (Zco rfl rfl rfl rfl (by omega) (by omega) (sub_nat rfl)) ?_
      refine .op rfl (Zac rfl rfl rfl rfl (win_get (by assumption) (by omega))) ?_
      refine .op rfl (q_conv rfl rfl rfl (nconv_u64 (by omega))) ?_
      refine .op rfl (q_orR rfl rfl (nor_add' (s := 32) (by omega) (by omega))) ?_
      refine .op rfl (q_int rfl rfl rfl) ?_
      refine .op rfl (q_pick rfl rfl rfl rfl) ?_
      refine .nil (fun hG => ?_)
      refine AOps.nil ?_
      exact ARun.ag (run (decide (((q * dig d ((lim d).length - 2) : Nat) : Int) > ((ws.getD ((lim d).length - 2) 0 + r * 2 ^ 32 : Nat) : Int))) (⟨fun h => ⟨hr, by have := of_decide_eq_true h; omega⟩, fun h => by have := of_decide_eq_false h; omega⟩))
    refine ARun.drawnP 22 (fun _ => False) mixC rfl rfl (by kernel_rfl) (fun _ _ h => h.elim) ?_
    refine .op rfl (q_move rfl) ?_
    refine .op rfl (q_intB rfl rfl rfl (decide_eq_false (by omega))) ?_
    refine .op rfl (q_move rfl) ?_
    refine .skip rfl ?_
    refine .skip rfl ?_
    refine .skip rfl ?_
    refine .skip rfl ?_
    refine .skip rfl ?_
    refine .skip rfl ?_
    refine .skip rfl ?_
    refine .skip rfl ?_
    refine .skip rfl ?_
    refine .skip rfl ?_
    refine .skip rfl ?_
    refine .skip rfl ?_
    refine .skip rfl ?_
    refine .skip rfl ?_
    refine .skip rfl ?_
    refine .skip rfl ?_
    refine .skip rfl ?_
    refine .skip rfl ?_
    refine .op rfl (q_pick rfl rfl rfl rfl) ?_
    refine .nil (fun hG => ?_)
    refine AOps.nil ?_
    exact ARun.ag (run (false) (⟨fun h => (by cases h), fun _ => by have := k.big (q := q) (r := r) hq hr; rw [B_two] at this; exact this⟩))
  rintro t hj
  try dsimp only at hj ⊢
  obtain ⟨j1, j2⟩ := hj
  refine ARun.cond rfl (fun h => ?_) (fun h => ?_)
  · skip
    obtain ⟨r1, r2⟩ := j1 h
    obtain ⟨l1, l2⟩ := k.low (q := q) (r := r) (by rw [B_two]; exact hqr) (by rw [B_two]; exact r2)
    refine ARun.skip (ARun.seq (ARun.block (ARun.region ?_))); refine zzm ?_
    refine y_op rfl (q_sub rfl rfl (nsub_u64 (n := 1) (by omega) (by omega))) ?_
    refine zza ?_; refine AOps.nil (ARun.inBlock (ARun.region ?_)); refine zzm ?_; refine zzm ?_; refine zzm ?_
    refine y_op rfl (q_sub rfl rfl (nsub1_i64 (by omega) (by omega))) ?_
    refine y_op rfl (Zag rfl rfl rfl rfl (by omega) (by omega) (nts_ne (by omega)) (drop_nat rfl)) ?_
    refine y_op rfl (q_load rfl rfl rfl (lim_load (by omega))) ?_
    refine y_op rfl (q_conv rfl rfl rfl (nconv_u64 (by omega))) ?_
    refine y_op rfl (q_add rfl rfl (nadd_u64 (by omega))) ?_
    refine zza ?_; refine AOps.nil ?_
    refine ARun.again (ih ((q - 1, r + dig d ((lim d).length - 1))) ?_ ?_) ?_ ?_
    · exact ⟨by dsimp only; omega, l1, by dsimp only; rw [Nat.sub_mul, Nat.one_mul]; have := Nat.mul_le_mul_right (dig d ((lim d).length - 1)) l2; omega⟩
    · (dsimp only; omega)
    · (repeat' first | exact envLe_nil | apply envLe_any | apply envLe_same)
    rfl
  have hd0 := ln_lt d
  have hpos : 0 < B ^ (lim d).length := Nat.pow_pos B_pos
  have hup := k.high (q := q) (r := r) hq (by rw [B_two]; exact hqr) (by rw [B_two]; exact j2 h)
  have hqd : q * d < B ^ ((lim d).length + 1) := by
    rw [Nat.pow_succ, Nat.mul_comm]
    exact Nat.mul_lt_mul'' hd0 (by rw [B_eq]; exact hq)
  have hdn : d < B ^ ((lim d).length + 1) := Nat.lt_of_lt_of_le hd0 (Nat.pow_le_pow_right B_pos (Nat.le_succ _))
  refine ARun.exit rfl ?_
  refine ARun.seq (ARun.seq (ARun.region ?_)); refine zzm ?_; refine zzm ?_; refine zzm ?_
  refine Zau rfl rfl rfl rfl (Zmo d q ((lim d).length + 1) off pre ws post o2 ho hu hl (by omega) hq hqd hdn) (fun d1 H1 hR => ?_) (fun d1 H1 hR => by obtain ⟨zs, bw, _, _, _, _, z, _⟩ := hR; cases z)
  obtain ⟨zs, bw, z1, z2, z3, z4, z5, rfl⟩ := hR
  injection z5 with z5
  subst z5
  have z6 := val_lt z1
  rw [z2] at z6
  refine AOps.nil ?_
  refine ARun.ite rfl (fun hb => ?_) (fun hb => ?_)
  · skip
    have hbw : bw = 1 := by omega
    subst hbw
    obtain ⟨e1, e2⟩ := k.back (q := q) (by omega) hup
    have hq1 : 1 ≤ q := by
      rcases Nat.eq_zero_or_pos q with h0 | h0
      · rw [h0, Nat.zero_mul] at z4; omega
      exact h0
    refine ARun.seq (ARun.region ?_); refine zzm ?_
    refine y_op rfl (q_sub rfl rfl (nsub_u64 (n := 1) (by omega) (by omega))) ?_
    refine zza ?_; refine AOps.nil (ARun.seq (ARun.region ?_)); refine zza ?_; refine AOps.nil (ARun.seq (ARun.region ?_)); refine zzm ?_
    refine y_op rfl (ZkI rfl rfl) ?_
    refine zzm ?_; refine AOps.nil (ARun.block ?_)
    refine ARun.loopI (S := Nat × Nat × List Nat) (fun σ : Nat × Nat × List Nat => [(10, .any), (86, .any), (87, .any), (88, .any), (89, .any), (90, .any), (91, .any), (92, .any), (93, .any), (94, .any), (95, .any), (96, .any), (97, .any), (98, .any), (99, .any), (100, .any), (101, .any), (102, .any), (103, .any), (104, .any), (105, .any), (106, .any), (85, .int .i64 (σ.1 : Int)), (9, .int .u64 (σ.2.1 : Int))]) (fun σ : Nat × Nat × List Nat => [some ⟨nts .u32 (pre ++ σ.2.2 ++ post), Zav, 1, true, none⟩, o2]) (fun σ : Nat × Nat × List Nat => U32 σ.2.2 ∧ σ.2.2.length = (lim d).length + 1 ∧ σ.1 ≤ (lim d).length + 1 ∧ σ.2.1 ≤ 1 ∧ (∀ p, σ.1 ≤ p → σ.2.2.getD p 0 = zs.getD p 0) ∧ val (σ.2.2.take σ.1) + B ^ σ.1 * σ.2.1 = val (zs.take σ.1) + d % B ^ σ.1) (fun σ : Nat × Nat × List Nat => (lim d).length + 1 - σ.1) ((0, 0, zs)) ?_ ?_ ?_ ?_
    · exact ⟨z1, z2, by simp, by simp, fun p _ => rfl, by simp [val, Nat.mod_one]⟩
    · (repeat' first | exact envLe_nil | apply envLe_any | apply envLe_same)
    · rfl
    rintro ⟨i, c, ys⟩ hinv2 ih2
    dsimp only at hinv2 ih2 ⊢
    obtain ⟨y1, y2, y3, y4, y5, y6⟩ := hinv2
    refine ARun.seq (ARun.region ?_); refine zzi ?_; refine AOps.nil (ARun.seq ?_)
    refine ARun.ite rfl (fun hi => ?_) (fun hi => ?_)
    · skip
      have g1 := y1.get i
      have g2 := dig_lt d i
      refine ARun.skip (ARun.seq (ARun.block (ARun.seq (ARun.region ?_)))); refine zzm ?_; refine zza ?_; refine AOps.nil (ARun.seq ?_)
      refine ARun.drawnP 11 (fun _ => False) mixC rfl rfl (by kernel_rfl) (fun _ _ h => h.elim) ?_
      refine .op rfl (q_move rfl) ?_
      refine .op rfl (q_move rfl) ?_
      refine .op rfl (q_move rfl) ?_
      refine .op rfl (Zco rfl rfl rfl rfl (by omega) (by omega) (sub_nat rfl)) ?_
      refine .op rfl (Zac rfl rfl rfl rfl (win_get (by assumption) (by omega))) ?_
      refine .op rfl (q_conv rfl rfl rfl (nconv_u64 (by omega))) ?_
      refine .op rfl (q_move rfl) ?_
      refine .op rfl (q_move rfl) ?_
      refine .op rfl (q_call rfl rfl (Zbu d i)) ?_
      refine .op rfl (q_add rfl rfl (nadd_u64 (by omega))) ?_
      refine .op rfl (q_add rfl rfl (nadd_u64 (by omega))) ?_
      refine .nil (fun hG => ?_)
      refine zza ?_; refine AOps.nil (ARun.seq (ARun.region ?_)); refine zzm ?_; refine zzm ?_; refine zzm ?_
      refine y_op rfl (q_conv rfl rfl rfl nconv_u32) ?_
      refine y_op rfl (Zco rfl rfl rfl rfl (by omega) (by omega) (sub_nat rfl)) ?_
      refine y_new rfl (Zad rfl rfl rfl rfl rfl rfl (by simp; omega) (win_set (by assumption) (by omega))) ?_
      refine AOps.nil (ARun.region ?_); refine zzm ?_
      refine y_op rfl (q_shr rfl rfl (by omega) nshr32) ?_
      refine zza ?_; refine AOps.nil (ARun.inBlock (ARun.region ?_))
      refine y_op rfl (q_add rfl rfl (nadd1_i64 (by omega))) ?_
      refine zzm ?_; refine AOps.nil ?_
      refine ARun.again (ih2 ((i + 1, (c + (ys.getD i 0 + dig d i)) / 4294967296, ys.set i ((c + (ys.getD i 0 + dig d i)) % 4294967296))) ?_ ?_) ?_ ?_
      · (obtain ⟨k1, k2, k3, k4⟩ := back_step y1 y2 z2 (by omega) y4 (y5 i (Nat.le_refl _)) y6; exact ⟨k1, k2, by dsimp only; omega, k3, fun p hp => by rw [getD_set_ne (by omega)]; exact y5 p (by omega), k4⟩)
      · (dsimp only; omega)
      · (repeat' first | exact envLe_nil | apply envLe_any | apply envLe_same)
      rfl
    have hin : i = (lim d).length + 1 := by omega
    subst hin
    have hf := back_end y2 z2 hdn y1 y4 y6 z6 (by omega)
    refine ARun.exit rfl ?_
    refine ARun.seq (ARun.region ?_); refine zzm ?_
    refine y_op rfl (q_conv rfl rfl rfl nconv_u32) ?_
    refine zza ?_; refine AOps.nil ?_
    refine ARun.ret ?_
    refine ⟨_, _, _, .tmp rfl .nil, .cons (.same _) .nil, ?_⟩
    have hm : (q - 1) % 4294967296 = q - 1 := Nat.mod_eq_of_lt (Nat.lt_of_le_of_lt (Nat.sub_le q 1) hq)
    exact ⟨ys, y1, y2, by rw [← e2]; omega, by rw [← e1, hm]; rfl, rfl⟩
  have hbw : bw = 0 := by omega
  subst hbw
  obtain ⟨e1, e2⟩ := k.exact (q := q) hle (by omega)
  refine ARun.skip (ARun.seq (ARun.region ?_)); refine zzm ?_
  refine y_op rfl (q_conv rfl rfl rfl nconv_u32) ?_
  refine zza ?_; refine AOps.nil ?_
  refine ARun.ret ?_
  refine ⟨_, _, _, .tmp rfl .nil, .cons (.same _) .nil, ?_⟩
  have hm : q % 4294967296 = q := Nat.mod_eq_of_lt hq
  exact ⟨zs, z1, z2, by rw [← e2]; omega, by rw [← e1, hm]; rfl, rfl⟩
end Go.V
/- KNUTH's DIVISION: the whole. -/
namespace Go.V
theorem val_drop_zero {xs : List Nat} (hu : U32 xs) {j n : Nat} (h : val (xs.drop j) < B ^ n) : val (xs.drop (j + n)) = 0 := by
  have e : xs.drop j = (xs.drop j).take n ++ xs.drop (j + n) := by
    have := List.take_append_drop n (xs.drop j)
    rw [List.drop_drop] at this
    exact this.symm
  rw [e, val_append] at h
  by_cases hl : n ≤ (xs.drop j).length
  · rw [List.length_take, Nat.min_eq_left hl] at h
    rcases Nat.eq_zero_or_pos (val (xs.drop (j + n))) with h0 | h0
    · exact h0
    have : B ^ n * 1 ≤ B ^ n * val (xs.drop (j + n)) := Nat.mul_le_mul_left _ h0
    omega
  have : xs.drop (j + n) = [] := by
    rw [List.drop_eq_nil_iff]
    rw [List.length_drop] at hl
    omega
  rw [this]; rfl
theorem win_split (xs : List Nat) (i n : Nat) : xs = xs.take i ++ (xs.drop i).take n ++ xs.drop (i + n) := by
  rw [List.append_assoc]
  have h2 := List.take_append_drop n (xs.drop i)
  rw [List.drop_drop] at h2
  rw [h2, List.take_append_drop]
structure Ld (A d n i : Nat) (rs qs : List Nat) : Prop where
  ur : U32 rs
  uq : U32 qs
  hr : val (rs.drop i) < d
  eq : val (qs.drop i) * d * B ^ i + val rs = A
theorem Ld.win {A d n i : Nat} {rs qs : List Nat} (h : Ld A d n (i + 1) rs qs) (hd : d < B ^ n) (hl : i + n + 1 ≤ rs.length) :
    val (rs.drop (i + (n + 1))) = 0 ∧ val ((rs.drop i).take (n + 1)) < B * d ∧ val rs = val (rs.take i) + B ^ i * val ((rs.drop i).take (n + 1)) := by
  have h0 : val (rs.drop (i + 1 + n)) = 0 := val_drop_zero h.ur (Nat.lt_trans h.hr hd)
  have e1 : i + (n + 1) = i + 1 + n := by omega
  have hv : val rs = val (rs.take i) + B ^ i * val ((rs.drop i).take (n + 1)) := by
    have hw : val rs = val (rs.take i ++ (rs.drop i).take (n + 1) ++ rs.drop (i + (n + 1))) := by rw [← win_split]
    rw [val_append, val_append, e1, h0, Nat.mul_zero, Nat.add_zero, List.length_take, Nat.min_eq_left (by omega)] at hw
    exact hw
  refine ⟨by rw [e1]; exact h0, ?_, hv⟩
  have e2 : (rs.drop i).take (n + 1) = rs.getD i 0 :: (rs.drop (i + 1)).take n := by
    rw [List.drop_eq_getElem_cons (by omega), List.take_succ_cons]
    congr 1
    rw [List.getD_eq_getElem?_getD, List.getElem?_eq_getElem (by omega)]
    rfl
  have e3 : val (rs.drop (i + 1)) = val ((rs.drop (i + 1)).take n) := by
    have hw := congrArg val (List.take_append_drop n (rs.drop (i + 1)))
    rw [val_append, List.drop_drop, h0, Nat.mul_zero, Nat.add_zero] at hw
    exact hw.symm
  have h1 := h.hr
  rw [e3] at h1
  have h2 := h.ur.get i
  have h3 : B * (val ((rs.drop (i + 1)).take n) + 1) ≤ B * d := Nat.mul_le_mul_left _ h1
  rw [e2, val]
  rw [Nat.mul_add] at h3
  have := B_eq
  omega
theorem Ld.step {A d n i : Nat} {rs qs zs : List Nat} (h : Ld A d n (i + 1) rs qs) (hd : d < B ^ n) (hl : i + n + 1 ≤ rs.length) (hql : i < qs.length) (hz : U32 zs) (hzl : zs.length = n + 1) (hzv : val zs = val ((rs.drop i).take (n + 1)) % d) (hd0 : 0 < d) :
    Ld A d n i (rs.take i ++ zs ++ rs.drop (i + (n + 1))) (qs.set i (val ((rs.drop i).take (n + 1)) / d)) := by
  obtain ⟨w1, w2, w3⟩ := h.win hd hl
  have hq : val ((rs.drop i).take (n + 1)) / d < B := (Nat.div_lt_iff_lt_mul hd0).2 w2
  have hlen : (rs.take i).length = i := by rw [List.length_take]; omega
  refine ⟨?_, h.uq.set (by rw [← B_eq]; exact hq), ?_, ?_⟩
  · intro x hx
    rcases List.mem_append.1 hx with hx | hx
    · rcases List.mem_append.1 hx with hx | hx
      · exact h.ur.take i x hx
      exact hz x hx
    exact h.ur.drop _ x hx
  · have e : (rs.take i ++ zs ++ rs.drop (i + (n + 1))).drop i = zs ++ rs.drop (i + (n + 1)) := by
      rw [List.append_assoc, List.drop_append_of_le_length (by omega), List.drop_of_length_le (by omega), List.nil_append]
    rw [e, val_append, w1, Nat.mul_zero, Nat.add_zero, hzv]
    exact Nat.mod_lt _ hd0
  have e1 : (qs.set i (val ((rs.drop i).take (n + 1)) / d)).drop i = val ((rs.drop i).take (n + 1)) / d :: qs.drop (i + 1) := by
    rw [List.drop_eq_getElem_cons (by rw [List.length_set]; exact hql), List.getElem_set_self, List.drop_set_of_lt (Nat.lt_succ_self i)]
  rw [e1, val, val_append, val_append, w1, Nat.mul_zero, Nat.add_zero, hlen, hzv]
  have h4 := h.eq
  rw [w3, Nat.pow_succ] at h4
  generalize val ((rs.drop i).take (n + 1)) = w at h4 ⊢
  have h5 := Nat.div_add_mod w d
  have h6 : B ^ i * w = B ^ i * (d * (w / d)) + B ^ i * (w % d) := by rw [← Nat.mul_add, h5]
  have h7 : (w / d + B * val (qs.drop (i + 1))) * d * B ^ i = B ^ i * (d * (w / d)) + val (qs.drop (i + 1)) * d * (B ^ i * B) := by
    rw [Nat.add_mul, Nat.add_mul]
    congr 1 <;> simp only [Nat.mul_comm, Nat.mul_left_comm, Nat.mul_assoc]
  omega
theorem Ld.fin {A d n : Nat} {rs qs : List Nat} (h : Ld A d n 0 rs qs) : val qs = A / d ∧ val rs = A % d := by
  have h1 := h.eq
  have h2 := h.hr
  rw [List.drop_zero, Nat.pow_zero, Nat.mul_one] at h1
  rw [List.drop_zero] at h2
  have hd : 0 < d := by omega
  constructor
  · rw [← h1, Nat.mul_comm, Nat.mul_add_div hd, Nat.div_eq_of_lt h2, Nat.add_zero]
  rw [← h1, Nat.mul_comm, Nat.mul_add_mod, Nat.mod_eq_of_lt h2]
theorem norm_top {b s : Nat} (hL : 0 < (lim b).length) (hs : s = 32 - bl (dig b ((lim b).length - 1))) : s < 32 ∧ (lim (b * 2 ^ s)).length = (lim b).length ∧ 2147483648 ≤ dig (b * 2 ^ s) ((lim b).length - 1) := by
  obtain ⟨t1, t2⟩ := top_digit hL
  have h1 : 1 ≤ bl (dig b ((lim b).length - 1)) := bl_lt.2 (by rw [t1]; exact t2)
  have h2 : bl (dig b ((lim b).length - 1)) ≤ 32 := bl_le.2 (dig_lt _ _)
  have hs32 : s < 32 := by omega
  have hbl : bl b = 32 * ((lim b).length - 1) + bl (dig b ((lim b).length - 1)) := bl_top hL
  have hb2 : bl (b * 2 ^ s) = 32 * (lim b).length := by
    have h3 : bl (b * 2 ^ s) = s + bl b := by
      have hb0 : 1 ≤ b := by have := ln_pos.1 hL; omega
      have := bl_div (n := b * 2 ^ s) (k := s) (by have := Nat.mul_le_mul_right (2 ^ s) hb0; omega)
      rwa [Nat.mul_div_cancel _ (Nat.two_pow_pos s)] at this
    omega
  have hlen : (lim (b * 2 ^ s)).length = (lim b).length := by
    have h4 : (lim (b * 2 ^ s)).length ≤ (lim b).length := by rw [ln_le_iff, B_pow, ← bl_le]; omega
    have h5 := bl_le_ln (b * 2 ^ s)
    omega
  refine ⟨hs32, hlen, ?_⟩
  have h6 := bl_top (a := b * 2 ^ s) (by omega)
  rw [hlen] at h6
  exact bl_lt.1 (show 31 < bl (dig (b * 2 ^ s) ((lim b).length - 1)) by omega)
theorem nts_copy {k : IntKind} {xs ys : List Nat} {m : Nat} : nts k xs ++ (nts k ys).drop m = nts k (xs ++ ys.drop m) := by
  simp [nts, List.map_drop]
theorem val_drop {xs : List Nat} (hu : U32 xs) (j : Nat) : val (xs.drop j) = val xs / B ^ j := by
  by_cases h : j ≤ xs.length
  · have e := congrArg val (List.take_append_drop j xs)
    rw [val_append, List.length_take, Nat.min_eq_left h] at e
    have h2 := val_lt (hu.take j)
    rw [List.length_take, Nat.min_eq_left h] at h2
    rw [← e, Nat.add_mul_div_left _ _ (Nat.pow_pos B_pos), Nat.div_eq_of_lt h2, Nat.zero_add]
  have h1 : xs.drop j = [] := by rw [List.drop_eq_nil_iff]; omega
  rw [h1, Nat.div_eq_of_lt (Nat.lt_of_lt_of_le (val_lt hu) (Nat.pow_le_pow_right B_pos (by omega)))]
  rfl
theorem val_pad (n L : Nat) : val (lim n ++ (List.replicate L 0).drop (lim n).length) = n ∧ U32 (lim n ++ (List.replicate L 0).drop (lim n).length) := by
  rw [List.drop_replicate]
  refine ⟨by rw [val_append, val_replicate, val_lim, Nat.mul_zero, Nat.add_zero], fun x hx => ?_⟩
  rcases List.mem_append.1 hx with h | h
  · exact U32_lim n x h
  exact U32.replicate x h
theorem ld_init {a b s J L : Nat} (h1 : 0 < (lim (b * 2 ^ s)).length) (hs : s < 32) (hv : 2147483648 ≤ dig (b * 2 ^ s) ((lim (b * 2 ^ s)).length - 1)) (hJ : J + (lim (b * 2 ^ s)).length = (lim a).length + 1) : Ld (a * 2 ^ s) (b * 2 ^ s) (lim (b * 2 ^ s)).length J (lim (a * 2 ^ s) ++ (List.replicate L 0).drop (lim (a * 2 ^ s)).length) (List.replicate J 0) := by
  obtain ⟨p1, p2⟩ := val_pad (a * 2 ^ s) L
  refine ⟨p2, U32.replicate, ?_, ?_⟩
  · rw [val_drop p2, p1, Nat.div_lt_iff_lt_mul (Nat.pow_pos B_pos)]
    obtain ⟨t1, _⟩ := top_digit h1
    rw [t1] at hv
    have h2 := (Nat.le_div_iff_mul_le (Nat.pow_pos B_pos)).1 hv
    have h3 : 2 ^ s ≤ 2147483648 := by
      have : 2 ^ s ≤ 2 ^ 31 := Nat.pow_le_pow_right (by decide) (by omega)
      exact this
    have h4 : 2 ^ s * B ^ ((lim (b * 2 ^ s)).length - 1) ≤ b * 2 ^ s := Nat.le_trans (Nat.mul_le_mul_right _ h3) h2
    have h5 : a * 2 ^ s < B ^ (lim a).length * 2 ^ s := Nat.mul_lt_mul_of_pos_right (ln_lt a) (Nat.two_pow_pos s)
    have h6 : B ^ (lim a).length = B ^ ((lim (b * 2 ^ s)).length - 1) * B ^ J := by rw [← Nat.pow_add]; congr 1; omega
    have h7 := Nat.mul_le_mul_right (B ^ J) h4
    have h8 : 2 ^ s * B ^ ((lim (b * 2 ^ s)).length - 1) * B ^ J = B ^ (lim a).length * 2 ^ s := by rw [h6]; simp only [Nat.mul_comm, Nat.mul_left_comm, Nat.mul_assoc]
    omega
  rw [List.drop_of_length_le (by simp), p1]
  simp [val]
end Go.V
set_option synthInstance.maxSize 100000
set_option synthInstance.maxHeartbeats 2000000
set_option maxHeartbeats 2000000
namespace Go.V
open Go.RowKit Go.Proofs
theorem ZeX (x : Nat) (hx : x < 4294967296) : PC C Zdj [.int .u32 (x : Int)] (fun o => o = .ret (.int .i64 ((32 - bl x : Nat) : Int))) := by
  refine PC.rn Zbm ZcS ZcT (rs := [.tmp 2]) (by rw [ZcU]) ?_
  have h := @bl_le x 32
  refine ARun.seq (ARun.region ?_); refine zza ?_; refine AOps.nil (ARun.seq (ARun.region ?_)); refine zzm ?_
  refine zzc rfl rfl (ZkJ x hx) ?_
  refine y_op rfl (q_sub rfl rfl (nsub_i64 (m := 32) (by omega) (by omega))) ?_
  refine zza ?_; refine AOps.nil ?_
  refine ARun.ret ?_
  refine ⟨_, _, _, .tmp rfl .nil, .cons (.same _) .nil, rfl, ?_⟩
  rfl
def cmpI (a b : Nat) : Int := if a < b then -1 else if a = b then 0 else 1
theorem ZjQ (hcmp : ∀ a b : Nat, (lim a).length ≤ 1099511627776 → (lim b).length ≤ 1099511627776 → PC C Zdf [numD a, numD b] (fun o => o = .ret (.int .i64 (cmpI a b)))) (a b : Nat) (ha : (lim a).length ≤ 274877906944) (hb : (lim b).length ≤ 274877906944) (hb0 : 0 < b) : PC C ZcG [numD a, numD b] (fun o => o = .ret (.tup [numD (a / b), numD (a % b)])) := by
  refine PC.rn Zce ZeQ ZeR (rs := [.tmp 4, .tmp 5]) (by rw [ZeS]) ?_
  have hL := ln_pos.2 (Nat.pos_iff_ne_zero.1 hb0)
  refine ARun.seq (ARun.region ?_); refine zza ?_; refine zza ?_; refine AOps.nil (ARun.seq (ARun.block (ARun.seq (ARun.region ?_)))); refine zzm ?_; refine zzN ?_; refine zzi ?_; refine zza ?_; refine AOps.nil ?_
  refine ARun.ite rfl (fun h1 => ?_) (fun h1 => ?_)
  · skip
    have hb1 : dig b 0 = b := by
      have := mod_of_ln (a := b) (k := 1) (by omega)
      rw [dig, Nat.pow_zero, Nat.div_one]
      rwa [Nat.pow_one] at this
    have hbB := dig_lt b 0
    rw [hb1] at hbB
    refine ARun.seq (ARun.region ?_); refine zzm ?_; refine zzm ?_
    refine y_op rfl (Zag rfl rfl rfl rfl (by omega) (by omega) (nts_ne (by omega)) (drop_nat (i := 0) rfl)) ?_
    refine y_op rfl (q_load rfl rfl rfl ((lim_load (by omega)).trans (by rw [hb1]))) ?_
    refine zzc rfl rfl (ZjP a b (by omega) hb0 hbB) ?_
    refine zze ?_; refine zze ?_; refine zza ?_; refine zza ?_; refine AOps.nil ?_
    refine ARun.ret ?_
    refine ⟨_, _, _, .tmp rfl (.tmp rfl .nil), .cons (.same _) (.cons (.same _) .nil), rfl, ?_⟩
    rfl
  refine ARun.seq (ARun.region ?_); refine zzm ?_; refine zzm ?_
  refine zzc rfl rfl (hcmp a b (by omega) (by omega)) ?_
  refine zzi ?_; refine zza ?_; refine AOps.nil ?_
  refine ARun.ite rfl (fun h2 => ?_) (fun h2 => ?_)
  · skip
    have hlt : a < b := by
      unfold cmpI at h2
      split at h2
      · assumption
      split at h2 <;> omega
    refine ARun.seq (ARun.region ?_); refine zzm ?_; refine zza ?_; refine zza ?_; refine AOps.nil ?_
    refine ARun.ret ?_
    refine ⟨_, _, _, .tmp rfl (.tmp rfl .nil), .cons .nil (.cons (.same _) .nil), rfl, ?_⟩
    have hz : numD 0 = .sl 0 [] := by rw [numD, lim_zero]; rfl
    rw [Nat.div_eq_of_lt hlt, Nat.mod_eq_of_lt hlt, hz]
    rfl
  have hge : b ≤ a := by
    unfold cmpI at h2
    split at h2
    · omega
    omega
  have hln := ln_mono hge
  obtain ⟨s, hs⟩ : ∃ s, s = 32 - bl (dig b ((lim b).length - 1)) := ⟨_, rfl⟩
  obtain ⟨s1, s2, s3⟩ := norm_top hL hs
  have hla : (lim (a * 2 ^ s)).length ≤ (lim a).length + 1 := by
    refine Nat.le_trans (ln_mul _ _) (Nat.add_le_add_left ?_ _)
    rw [ln_le_iff, Nat.pow_one]
    exact Nat.lt_of_lt_of_le ((Nat.pow_lt_pow_iff_right (by decide)).2 s1) (by decide)
  have hd0 : 0 < b * 2 ^ s := Nat.mul_pos hb0 (Nat.two_pow_pos s)
  have hdB : b * 2 ^ s < B ^ (lim b).length := ln_le_iff.1 (Nat.le_of_eq s2)
  refine ARun.skip (ARun.inBlock (ARun.seq (ARun.region ?_))); refine zzm ?_; refine zzm ?_; refine zzN ?_
  refine y_op rfl (q_sub rfl rfl (nsub1_i64 (by omega) (by omega))) ?_
  refine y_op rfl (Zag rfl rfl rfl rfl (by omega) (by omega) (nts_ne (by omega)) (drop_nat rfl)) ?_
  refine y_op rfl (q_load rfl rfl rfl (lim_load (by omega))) ?_
  refine zzc rfl rfl (hs ▸ ZeX _ (dig_lt b ((lim b).length - 1))) ?_
  refine zza ?_; refine AOps.nil (ARun.seq (ARun.region ?_)); refine zzm ?_; refine zzm ?_
  refine zzc rfl rfl (Za8 b s (by omega) (by omega)) ?_
  refine zza ?_; refine AOps.nil (ARun.seq (ARun.region ?_)); refine zzm ?_; refine zzN ?_; refine zza ?_; refine AOps.nil (ARun.seq (ARun.region ?_)); refine zzm ?_; refine zzN ?_
  refine y_op rfl (q_add rfl rfl (nadd1_i64 (by omega))) ?_
  refine y_new rfl (ZaH rfl rfl rfl rfl rfl rfl rfl (by omega) (by rw [maxLen_eq]; omega) (zeros_nts _)) ?_
  refine zza ?_; refine AOps.nil (ARun.seq (ARun.region ?_)); refine zzm ?_; refine zzm ?_; refine zzm ?_
  refine zzc rfl rfl (Za8 a s (by omega) (by omega)) ?_
  refine y_new rfl (n_copy rfl rfl rfl rfl rfl rfl rfl rfl (by simp) (by omega) nts_copy) ?_
  refine AOps.nil (ARun.seq (ARun.region ?_)); refine zzm ?_
  refine y_op rfl (ZbG rfl rfl rfl) ?_
  refine zzm ?_
  refine y_op rfl (q_sub rfl rfl (nsub_i64 (by omega) (by omega))) ?_
  refine y_new rfl (ZaH rfl rfl rfl rfl rfl rfl rfl (by omega) (by rw [maxLen_eq]; omega) (zeros_nts _)) ?_
  refine zza ?_; refine AOps.nil (ARun.seq (ARun.seq (ARun.region ?_))); refine zzm ?_
  refine y_op rfl (ZbG rfl rfl rfl) ?_
  refine y_op rfl (q_sub rfl rfl (IntWalk.i64_in _ (by omega))) ?_
  refine zza ?_; refine AOps.nil (ARun.block ?_)
  refine ARun.loopI (S := Nat × List Nat × List Nat) (fun σ : Nat × List Nat × List Nat => [(58, .any), (59, .any), (60, .any), (61, .any), (62, .any), (63, .any), (64, .any), (65, .any), (66, .any), (67, .any), (68, .any), (69, .any), (70, .any), (71, .any), (72, .any), (73, .any), (11, .int .i64 ((σ.1 : Int) - 1))]) (fun σ : Nat × List Nat × List Nat => [some ⟨nts .u32 σ.2.1, Zav, 1, true, none⟩, some ⟨nts .u32 σ.2.2, Zav, 1, true, none⟩]) (fun σ : Nat × List Nat × List Nat => Ld (a * 2 ^ s) (b * 2 ^ s) (lim (b * 2 ^ s)).length σ.1 σ.2.1 σ.2.2 ∧ σ.2.1.length = (lim a).length + 1 ∧ σ.2.2.length = (lim a).length + 1 - (lim (b * 2 ^ s)).length ∧ σ.1 ≤ σ.2.2.length) (fun σ : Nat × List Nat × List Nat => σ.1) (((lim a).length + 1 - (lim (b * 2 ^ s)).length, lim (a * 2 ^ s) ++ (List.replicate ((lim a).length + 1) 0).drop (lim (a * 2 ^ s)).length, List.replicate ((lim a).length + 1 - (lim (b * 2 ^ s)).length) 0)) ?_ ?_ ?_ ?_
  · exact ⟨ld_init (by omega) s1 (by rw [s2]; exact s3) (by omega), by simp; omega, by simp, by simp⟩
  · (repeat' first | exact envLe_nil | apply envLe_any | apply envLe_same)
  · rfl
  rintro ⟨j, rs, qs⟩ hinv ih
  dsimp only at hinv ih ⊢
  obtain ⟨hI, hrl, hql, hj⟩ := hinv
  refine ARun.seq (ARun.seq (ARun.region ?_)); refine zzm ?_; refine zzi ?_; refine AOps.nil ?_
  refine ARun.ite rfl (fun h3 => ?_) (fun h3 => ?_)
  · skip
    obtain ⟨i, rfl⟩ : ∃ i, j = i + 1 := ⟨j - 1, by omega⟩
    rw [show (((i + 1 : Nat) : Int) - 1) = (i : Int) by omega]
    obtain ⟨w1, w2, w3⟩ := hI.win (by rw [s2]; exact hdB) (by omega)
    have hcE := Zks (b * 2 ^ s) i (rs.take i) ((rs.drop i).take ((lim (b * 2 ^ s)).length + 1)) (rs.drop (i + ((lim (b * 2 ^ s)).length + 1))) (some ⟨nts .u32 qs, Zav, 1, true, none⟩) (by rw [List.length_take]; omega) ((hI.ur.drop i).take _) (by omega) (by omega) (by rw [s2]; exact s3) (by rw [List.length_take, List.length_drop]; omega) w2
    rw [← win_split] at hcE
    refine ARun.skip (ARun.seq (ARun.block (ARun.region ?_))); refine zzm ?_; refine zzm ?_; refine zzm ?_; refine zzm ?_; refine zzm ?_; refine zzm ?_
    refine y_op rfl (q_add rfl rfl (nadd_i64 (by omega))) ?_
    refine y_op rfl (q_add rfl rfl (nadd1_i64 (by omega))) ?_
    refine y_op rfl (Zlf (m := (lim (b * 2 ^ s)).length + 1) rfl rfl rfl rfl rfl rfl (by omega) (by omega) (by omega) (Nat.mul_one _)) ?_
    refine zzm ?_
    refine Zau rfl rfl rfl rfl hcE (fun d1 H1 hR => ?_) (fun d1 H1 hR => by obtain ⟨zs, _, _, _, z, _⟩ := hR; cases z)
    obtain ⟨zs, z1, z2, z3, z4, rfl⟩ := hR
    injection z4 with z4
    subst z4
    have hst := hI.step (by rw [s2]; exact hdB) (by omega) (by omega) z1 z2 z3 hd0
    refine y_op rfl (ZaD rfl rfl rfl rfl rfl (by omega) (by omega) (idx_nat rfl)) ?_
    refine y_new rfl (Zad rfl rfl rfl rfl rfl rfl (by simp; omega) nts_set) ?_
    refine AOps.nil (ARun.inBlock (ARun.region ?_)); refine zzm ?_
    refine y_op rfl (q_sub rfl rfl (IntWalk.i64_in _ (by omega))) ?_
    refine zza ?_; refine AOps.nil ?_
    refine ARun.again (ih ((i, rs.take i ++ zs ++ rs.drop (i + ((lim (b * 2 ^ s)).length + 1)), qs.set i (val ((rs.drop i).take ((lim (b * 2 ^ s)).length + 1)) / (b * 2 ^ s)))) ?_ ?_) ?_ ?_
    · exact ⟨hst, by simp; omega, by simpa using hql, by simp; omega⟩
    · (dsimp only; omega)
    · (repeat' first | exact envLe_nil | apply envLe_any | apply envLe_same)
    rfl
  have hj0 : j = 0 := by omega
  subst hj0
  obtain ⟨f1, f2⟩ := hI.fin
  refine ARun.exit rfl ?_
  refine ARun.seq (ARun.region ?_); refine zzm ?_
  refine y_new rfl (n_call rfl rfl (.cons (.row rfl (pures_nts _)) .nil) (ZbH hI.uq hql) rfl) ?_
  refine zzm ?_
  refine y_new rfl (n_call rfl rfl (.cons (.row rfl (pures_nts _)) .nil) (ZbH hI.ur hrl) rfl) ?_
  refine zzm ?_
  refine zzc rfl rfl (Zh0 _ s (by rw [f2]; exact Nat.le_trans (ln_mono (Nat.le_of_lt (Nat.mod_lt _ hd0))) (by omega)) (by omega)) ?_
  refine zza ?_; refine zza ?_; refine AOps.nil ?_
  refine ARun.ret ?_
  refine ⟨_, _, _, .tmp rfl (.tmp rfl .nil), .cons (.same _) (.cons (.same _) .nil), rfl, ?_⟩
  rw [f1, f2, Nat.mul_div_mul_right _ _ (Nat.two_pow_pos s), Nat.mul_mod_mul_right, Nat.mul_div_cancel _ (Nat.two_pow_pos s)]
  rfl
end Go.V
/- DIVISION by halves. -/
namespace Go.V
theorem lim_one : lim 1 = [1] := by rw [lim_pos (by decide)]; simp [B, lim_zero]
structure Th (a d q r P : Nat) : Prop where
  le : a / d ≤ q
  eq : q * d + r = a + P
theorem Th.init {a d q r X : Nat} (hd : 0 < d) (hq : q * (d / X) + r = a / X) (hX : 0 < X) (hle : a / d ≤ q) : Th a d q (r * X + a % X) (q * (d % X)) := by
  refine ⟨hle, ?_⟩
  have h1 := Nat.div_add_mod d X
  have h2 := Nat.div_add_mod a X
  have h3 : q * d = X * (q * (d / X)) + q * (d % X) := by
    have := congrArg (q * ·) h1
    simp only [Nat.mul_add] at this
    rw [← this]
    congr 1
    exact Nat.mul_left_comm _ _ _
  have h4 : X * (q * (d / X)) + r * X = X * (a / X) := by rw [← hq, Nat.mul_add, Nat.mul_comm r X]
  omega
theorem th_le1 {a d X : Nat} (hX : 0 < X) (hf : 0 < d / X) : a / d ≤ a / X / (d / X) := by
  rw [Nat.le_div_iff_mul_le hf]
  have h1 := Nat.div_mul_le_self a d
  have h2 : a / d * (d / X * X) ≤ a / d * d := Nat.mul_le_mul_left _ (Nat.div_mul_le_self d X)
  rw [Nat.le_div_iff_mul_le hX, Nat.mul_assoc]
  omega
theorem th_le2 {a d X : Nat} (hd : 0 < d) (h : a < X * d) : a / d ≤ X - 1 := by
  have := (Nat.div_lt_iff_lt_mul hd).2 h
  generalize a / d = z at this ⊢
  omega
theorem th_eq2 {t f X : Nat} (hX : 1 ≤ X) (h : f * X ≤ t) : (X - 1) * f + (t - f * X + f) = t := by
  rw [Nat.sub_mul, Nat.one_mul]
  have h1 : 1 * f ≤ X * f := Nat.mul_le_mul_right _ hX
  have h2 := Nat.mul_comm X f
  omega
theorem Th.step {a d q r P : Nat} (h : Th a d q r P) (hd : 0 < d) (hr : r < P) : 1 ≤ q ∧ Th a d (q - 1) (r + d) P := by
  have h1 : a < q * d := by have := h.eq; omega
  have h2 := (Nat.div_lt_iff_lt_mul hd).2 h1
  have hq : 1 ≤ q := by generalize a / d = z at h2; omega
  refine ⟨hq, ?_, ?_⟩
  · generalize a / d = z at h2 ⊢; omega
  rw [Nat.sub_mul, Nat.one_mul]
  have h3 : 1 * d ≤ q * d := Nat.mul_le_mul_right _ hq
  have := h.eq
  omega
theorem Th.fin {a d q r P : Nat} (h : Th a d q r P) (hd : 0 < d) (hr : P ≤ r) : q = a / d ∧ r - P = a % d := by
  have h1 : q * d ≤ a := by have := h.eq; omega
  have h3 : q ≤ a / d := (Nat.le_div_iff_mul_le hd).2 h1
  have h4 : q = a / d := Nat.le_antisymm h3 h.le
  refine ⟨h4, ?_⟩
  have h5 := h.eq
  have h6 := Nat.div_add_mod a d
  rw [Nat.mul_comm] at h6
  rw [h4] at h5
  omega
theorem two_steps {a d X : Nat} (hd : 0 < d) : a / X / d * X + (a / X % d * X + a % X) / d = a / d ∧ (a / X % d * X + a % X) % d = a % d := by
  have h1 := Nat.div_add_mod a X
  have h2 := Nat.div_add_mod (a / X) d
  have h3 : a = (a / X % d * X + a % X) + d * (a / X / d * X) := by
    have h4 := congrArg (X * ·) h2
    simp only [Nat.mul_add] at h4
    have h5 : X * (d * (a / X / d)) = d * (a / X / d * X) := by simp only [Nat.mul_comm, Nat.mul_left_comm, Nat.mul_assoc]
    have h6 := Nat.mul_comm X (a / X % d)
    omega
  constructor
  · have h7 : a / d = ((a / X % d * X + a % X) + d * (a / X / d * X)) / d := by rw [← h3]
    rw [h7, Nat.add_mul_div_left _ _ hd, Nat.add_comm]
  have h7 : a % d = ((a / X % d * X + a % X) + d * (a / X / d * X)) % d := by rw [← h3]
  rw [h7, Nat.add_mul_mod_self_left]
theorem lt_mulB {x : Nat} (h : 0 < x) : x < x * B := by
  have := Nat.mul_le_mul_left x (show 2 ≤ B by decide)
  omega
theorem ln_B (h : Nat) : (lim (B ^ h)).length ≤ h + 1 := by rw [ln_le_iff, Nat.pow_succ]; exact lt_mulB (Nat.pow_pos B_pos)
end Go.V
