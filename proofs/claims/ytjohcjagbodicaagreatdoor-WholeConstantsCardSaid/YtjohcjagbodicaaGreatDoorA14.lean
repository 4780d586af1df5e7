/- A part of the proof: abstract values, rules for the steps of the program's form, and contracts of its functions, each proved; no condition. -/
import Derived.Test.YtjohcjagbodicaaGreatDoorA13
set_option linter.unusedVariables false
set_option linter.unusedSimpArgs false
set_option maxHeartbeats 2000000
set_option synthInstance.maxSize 100000
set_option synthInstance.maxHeartbeats 2000000
namespace Go.V
open Go.RowKit Go.Proofs
abbrev rowU (xs : List Nat) : AObj := ⟨nts .u32 xs, Zae, 1, true, none⟩
theorem Zny (xs : List Nat) (hx : U32 xs) (hl : xs.length ≤ 35184372088832) : HC C Zb7 [] [sln .u32 xs] (fun x H' => ∃ k, x = .ret (.row k (lim (val xs)).length) ∧ H'[k]? = some (some (rowU (lim (val xs))))) := by
  refine HC.run ZdU ZgW rfl ZgX (rs := [.tmp 2]) (by rw [ZgY]) (by simp only [List.length_cons, List.length_nil, Nat.reduceAdd, Nat.reduceSub, List.replicate_succ, List.replicate_zero, List.cons_append, List.nil_append]; exact rfl) ?_
  refine ARun.seq (ARun.region ?_); refine xa ?_; refine AOps.nil (ARun.seq (ARun.region ?_)); refine xm ?_; refine xN ?_; refine xa ?_; refine AOps.nil (ARun.seq (ARun.block ?_))
  refine ARun.loopI (S := Nat) (fun n : Nat => [(6, .any), (7, .any), (8, .any), (9, .any), (10, .any), (11, .any), (12, .any), (13, .any), (14, .any), (15, .any), (16, .any), (17, .any), (3, .int .i64 (n : Int))]) (fun n : Nat => []) (fun n : Nat => n ≤ xs.length ∧ val (xs.take n) = val xs) (fun n : Nat => n) (xs.length) ?_ ?_ ?_ ?_
  · exact ⟨Nat.le_refl _, by rw [List.take_length]⟩
  · (repeat' first | exact envLe_nil | apply envLe_any | apply envLe_same)
  · rfl
  rintro n hinv ih
  obtain ⟨hn, hv⟩ := hinv
  refine ARun.seq (ARun.seq (ARun.region ?_)); refine xm ?_; refine xi ?_; refine xm ?_
  refine AOps.bool 8 rfl (fun h => ?_) (fun h => ?_)
  · skip
    replace h := of_decide_eq_true h
    obtain ⟨m, rfl⟩ : ∃ m, n = m + 1 := ⟨n - 1, by omega⟩
    refine xm ?_; refine xm ?_
    refine y_op rfl (q_sub rfl rfl (nsub1_i64 (by omega) (by omega))) ?_
    refine y_op rfl (Zaj (i := m) rfl rfl rfl rfl (by omega) (by omega) (nts_ne (by omega)) (drop_nat rfl)) ?_
    refine y_op rfl (q_load rfl rfl rfl (nts_load (i := m) (by omega))) ?_
    refine xi ?_; refine xp ?_; refine AOps.nil ?_
    refine ARun.ite rfl (fun h2 => ?_) (fun h2 => ?_)
    · skip
      refine ARun.skip (ARun.block (ARun.region ?_)); refine xm ?_
      refine y_op rfl (q_sub rfl rfl (nsub1_i64 (by omega) (by omega))) ?_
      refine xa ?_; refine AOps.nil (ARun.inBlock ?_)
      refine ARun.again (ih (m) ?_ ?_) ?_ ?_
      · exact ⟨by omega, by rw [← hv, List.take_add_one, val_append, show xs[m]? = some 0 by rw [List.getElem?_eq_getElem (by omega)]; have : xs.getD m 0 = 0 := (by omega); rw [List.getD_eq_getElem?_getD, List.getElem?_eq_getElem (by omega)] at this; exact congrArg some this]; simp [val]⟩
      · exact Nat.lt_succ_self _
      · (repeat' first | exact envLe_nil | apply envLe_any | apply envLe_same)
      rfl
    refine ARun.exit rfl ?_
    refine ARun.seq (ARun.region ?_)
    refine y_new rfl (Zai rfl rfl rfl rfl rfl rfl rfl rfl rfl rfl rfl (by decide) (by decide)) ?_
    refine xm ?_; refine xm ?_
    refine y_op rfl (Zcs (m := (xs.take (m + 1)).length) (ds := nts .u32 (xs.take (m + 1))) rfl rfl rfl rfl rfl (bnd_nat rfl rfl) (by omega) (by omega) (by simp) (by simp; omega) (by rw [nts_slice]; simp)) ?_
    refine y_new rfl (Zb2 rfl rfl (by decide) rfl rfl rfl rfl rfl rfl rfl rfl rfl rfl (by simp) (by simp; omega) (by rw [maxLen_eq]; simp; omega) rfl) ?_
    refine xa ?_; refine AOps.nil ?_
    have hc : Canon (xs.take (m + 1)) := .inr (by rw [List.length_take, Nat.min_eq_left (by omega), Nat.add_sub_cancel, List.getD_eq_getElem?_getD, List.getElem?_take, if_pos (by omega), ← List.getD_eq_getElem?_getD]; omega)
    refine ARun.ret ?_
    refine ⟨_, _, _, .tmp rfl .nil, .cons (.same _) .nil, ?_⟩
    rw [← hv, lim_val (hx.take _) hc]
    refine ⟨1, ?_, rfl⟩
    show Out.ret (D.row 1 (0 + _)) = _
    rw [Nat.zero_add]
  replace h := of_decide_eq_false h
  have hn0 : n = 0 := by omega
  subst hn0
  refine xk ?_; refine xk ?_; refine xk ?_; refine xk ?_; refine xk ?_; refine xk ?_; refine xp ?_; refine AOps.nil ?_
  refine ARun.condF rfl ?_
  refine ARun.exit rfl ?_
  refine ARun.seq (ARun.region ?_)
  refine y_new rfl (Zai rfl rfl rfl rfl rfl rfl rfl rfl rfl rfl rfl (by decide) (by decide)) ?_
  refine xm ?_; refine xm ?_
  refine y_op rfl (Zcs (m := 0) (ds := nts .u32 []) rfl rfl rfl rfl rfl (bnd_int rfl (by omega)) (by omega) (by omega) (by simp) (by simp) (by rw [nts_slice]; simp)) ?_
  refine y_new rfl (Zb2 rfl rfl (by decide) rfl rfl rfl rfl rfl rfl rfl rfl rfl rfl (by simp) (by simp) (by rw [maxLen_eq]; simp) rfl) ?_
  refine xa ?_; refine AOps.nil ?_
  refine ARun.ret ?_
  refine ⟨_, _, _, .tmp rfl .nil, .cons (.same _) .nil, ?_⟩
  rw [← hv, List.take_zero, val, lim_zero]
  exact ⟨1, rfl, rfl⟩
theorem r_TrimL {xs : List Nat} {n : Nat} (hx : U32 xs) (hn : xs.length = n) (hl : n ≤ 35184372088832) (H : Heap) : HC C Zb7 H [.sl n (nts .u32 xs)] (fun x H' => x = .ret (.row H.length (lim (val xs)).length) ∧ H' = H ++ [some (rowU (lim (val xs)))]) := by
  subst hn; exact HC.of_live (Zny xs hx hl) rfl rfl (by rfl) (pures_nts _) H
theorem ZmL (a : Nat) (hl : (lim a).length ≤ 35184372088832) : PC C Zb7 [numD a] (fun o => o = .ret (numD a)) := by
  have h := Zch (lim a) (U32_lim a) hl
  rwa [val_lim] at h
theorem ZlW (a n : Nat) (ha : (lim a).length ≤ 1099511627) (hn : n ≤ 1099511627) (h0 : 0 < a) : HC C Zem [] [numD a, .int .i64 (n : Int)] (fun x H' => ∃ k, x = .ret (.row k (lim (a * 2 ^ n)).length) ∧ H'[k]? = some (some (rowU (lim (a * 2 ^ n))))) := by
  have hL := ln_pos.2 (Nat.pos_iff_ne_zero.1 h0)
  have hr : n % 32 < 32 := Nat.mod_lt _ (by decide)
  refine HC.run ZeG Zh9 rfl Zia (rs := [.tmp 4]) (by rw [Zib]) (by simp only [List.length_cons, List.length_nil, Nat.reduceAdd, Nat.reduceSub, List.replicate_succ, List.replicate_zero, List.cons_append, List.nil_append]; exact rfl) ?_
  refine ARun.seq (ARun.region ?_); refine xa ?_; refine AOps.nil (ARun.seq (ARun.seq (ARun.region ?_))); refine xm ?_; refine xN ?_; refine xi ?_; refine AOps.nil ?_
  refine ARun.cond rfl (fun h => ?_) (fun h => ?_)
  · skip
    exfalso
    have : (lim a).length = 0 := by simpa using h
    omega
  refine ARun.skip (ARun.seq (ARun.region ?_)); refine xm ?_
  refine y_op rfl (q_quo rfl rfl (by omega) (nquo_i64 (n := 32) rfl (by omega))) ?_
  refine xm ?_
  refine y_op rfl (q_quo rfl rfl (by omega) (nquo_i64 (n := 32) rfl (by omega))) ?_
  refine xm ?_; refine xN ?_
  refine y_op rfl (q_add rfl rfl (nadd_i64 (by omega))) ?_
  refine y_op rfl (q_add rfl rfl (nadd1_i64 (by omega))) ?_
  refine y_new rfl (ZkS (n := n / 32) (c := n / 32 + (lim a).length + 1) rfl rfl rfl rfl rfl rfl rfl (by omega) (by show 4 * _ ≤ _; omega) (by rw [maxLen_eq]; omega) (zeros_nts _)) ?_
  refine xa ?_; refine AOps.nil (ARun.seq (ARun.region ?_)); refine xa ?_; refine AOps.nil (ARun.seq (ARun.seq (ARun.region ?_))); refine xa ?_; refine AOps.nil (ARun.block ?_)
  refine ARun.loopI (S := Nat × Nat × List Nat × Heap) (fun σ : Nat × Nat × List Nat × Heap => [(8, .any), (22, .any), (23, .any), (24, .any), (25, .any), (26, .any), (27, .any), (28, .any), (29, .any), (30, .any), (31, .any), (32, .any), (33, .any), (34, .any), (35, .any), (36, .any), (37, .any), (38, .any), (39, .any), (40, .any), (41, .any), (42, .any), (43, .any), (44, .any), (7, .int .i64 (σ.1 : Int)), (6, .int .u64 (σ.2.1 : Int)), (5, .row σ.2.2.2.length (n / 32 + σ.1))]) (fun σ : Nat × Nat × List Nat × Heap => σ.2.2.2 ++ [some ⟨nts .u32 σ.2.2.1, Zae, 1, true, none⟩]) (fun σ : Nat × Nat × List Nat × Heap => U32 σ.2.2.1 ∧ σ.2.2.1.length = n / 32 + σ.1 ∧ σ.1 ≤ (lim a).length ∧ σ.2.1 < 2 ^ (n % 32) ∧ val σ.2.2.1 + B ^ (n / 32 + σ.1) * σ.2.1 = a % B ^ σ.1 * 2 ^ (n % 32) * B ^ (n / 32)) (fun σ : Nat × Nat × List Nat × Heap => (lim a).length - σ.1) ((0, 0, List.replicate (n / 32) 0, [])) ?_ ?_ ?_ ?_
  · exact ⟨U32.replicate, by simp, Nat.zero_le _, Nat.two_pow_pos _, by simp [val_replicate, Nat.mod_one]⟩
  · (repeat' first | exact envLe_nil | apply envLe_any | apply envLe_same)
  · rfl
  rintro ⟨i, c, ys, J⟩ hinv ih
  dsimp only at hinv ih ⊢
  obtain ⟨hu, hl, hi, hc, hv⟩ := hinv
  have hbl : (nts .u32 ys).length = n / 32 + i := by rw [nts_length, hl]
  have hc31 : 2 ^ (n % 32) ≤ 2 ^ 31 := Nat.pow_le_pow_right (by decide) (by omega)
  refine ARun.seq (ARun.seq (ARun.region ?_)); refine xm ?_; refine xm ?_; refine xN ?_; refine xi ?_; refine AOps.nil ?_
  refine ARun.ite rfl (fun h2 => ?_) (fun h2 => ?_)
  · skip
    have d1 := dig_lt a i
    have d2 := shl_bound d1 hr
    refine ARun.skip (ARun.seq (ARun.block (ARun.seq (ARun.region ?_)))); refine xm ?_; refine xm ?_
    refine y_op rfl (Zaj rfl rfl rfl rfl (by omega) (by omega) (nts_ne (by omega)) (drop_nat rfl)) ?_
    refine y_op rfl (q_load rfl rfl rfl (lim_load (by omega))) ?_
    refine y_op rfl (q_conv rfl rfl rfl (nconv_u64 (by omega))) ?_
    refine xm ?_
    refine y_op rfl (q_rem rfl rfl (by omega) (nrem (n := 32) rfl)) ?_
    refine y_op rfl (q_shl rfl rfl (by omega) (nshl_u64 rfl (by omega) (by omega))) ?_
    refine xm ?_
    refine y_op rfl (q_add rfl rfl (nadd_u64 (by omega))) ?_
    refine xa ?_; refine AOps.nil (ARun.seq (ARun.region ?_)); refine xm ?_; refine xm ?_
    refine y_op rfl (q_conv rfl rfl rfl nconv_u32) ?_
    refine y_new rfl (Zai rfl rfl rfl rfl rfl rfl rfl rfl rfl rfl rfl (by decide) (by decide)) ?_
    refine Znr rfl rfl rfl rfl rfl rfl rfl rfl hbl rfl rfl (by show (_ + 1) * 4 ≤ _; omega) (by rw [maxLen_eq]; omega) (fun J' => ?_)
    rw [nts_snoc]
    refine xa ?_; refine AOps.nil (ARun.region ?_); refine xm ?_
    refine y_op rfl (q_shr rfl rfl (by omega) nshr32) ?_
    refine xa ?_; refine AOps.nil (ARun.inBlock (ARun.region ?_)); refine xm ?_
    refine y_op rfl (q_add rfl rfl (nadd1_i64 (by omega))) ?_
    refine xa ?_; refine AOps.nil ?_
    refine ARun.again (ih ((i + 1, (dig a i * 2 ^ (n % 32) + c) / 4294967296, ys ++ [(dig a i * 2 ^ (n % 32) + c) % 4294967296], J')) ?_ ?_) ?_ ?_
    · (obtain ⟨k1, k2, k3, k4⟩ := shlA_step hu hl hr hc hv; exact ⟨k1, k2, by dsimp only; omega, k3, k4⟩)
    · (dsimp only; omega)
    · (repeat' first | exact envLe_nil | apply envLe_any | apply envLe_same)
    rfl
  have hin : i = (lim a).length := by omega
  subst hin
  obtain ⟨e1, e2⟩ := shlA_end hu hl hc hr hv
  rw [Nat.div_add_mod] at e2
  refine ARun.exit rfl ?_
  refine ARun.seq (ARun.region ?_); refine xm ?_; refine xm ?_
  refine y_op rfl (q_conv rfl rfl rfl nconv_u32) ?_
  refine y_new rfl (Zai rfl rfl rfl rfl rfl rfl rfl rfl rfl rfl rfl (by decide) (by decide)) ?_
  refine Znr rfl rfl rfl rfl rfl rfl rfl rfl hbl rfl rfl (by show (_ + 1) * 4 ≤ _; omega) (by rw [maxLen_eq]; omega) (fun J' => ?_)
  rw [nts_snoc]
  refine y_new rfl (n_live rfl rfl (.cons (.row (o := rowU (ys ++ [c % 4294967296])) (by simp) (pures_nts _)) .nil) (r_TrimL (xs := ys ++ [c % 4294967296]) e1 (by simp [hl]) (by omega)) rfl) ?_
  refine xa ?_; refine AOps.nil ?_
  refine ARun.ret ?_
  refine ⟨_, _, _, .tmp rfl .nil, .cons (.same _) .nil, ?_⟩
  rw [e2]
  exact ⟨_, rfl, by simp [frz]⟩
theorem r_ShlL (a n : Nat) (ha : (lim a).length ≤ 1099511627) (hn : n ≤ 1099511627) (h0 : 0 < a) (H : Heap) : HC C Zem H [numD a, .int .i64 (n : Int)] (fun x H' => x = .ret (.row H.length (lim (a * 2 ^ n)).length) ∧ H' = H ++ [some (rowU (lim (a * 2 ^ n)))]) :=
  HC.of_live (ZlW a n ha hn h0) rfl rfl (by rfl) (pures_nts _) H
theorem Znz (n : Nat) (hn : n ≤ 1099511627) : PC C Zem [numD 0, .int .i64 (n : Int)] (fun o => o = .ret (numD 0)) := by
  have hz := lim_zero
  refine PC.rn ZeG Zh9 Zia (rs := [.tmp 4]) (by rw [Zib]) ?_
  refine ARun.seq (ARun.region ?_); refine xa ?_; refine AOps.nil (ARun.seq (ARun.seq (ARun.region ?_))); refine xm ?_; refine xN ?_; refine xi ?_; refine AOps.nil ?_
  refine ARun.cond rfl (fun h => ?_) (fun h => ?_)
  · skip
    refine ARun.seq (ARun.region ?_); refine xm ?_; refine xa ?_; refine AOps.nil ?_
    refine ARun.ret ?_
    refine ⟨_, _, _, .tmp rfl .nil, .cons (.same _) .nil, rfl, ?_⟩
    rfl
  exfalso
  rw [lim_zero] at h
  cases h
theorem Zn3 (a n : Nat) (ha : (lim a).length ≤ 1099511627) (hn : n ≤ 1099511627) : PC C Zem [numD a, .int .i64 (n : Int)] (fun o => o = .ret (numD (a * 2 ^ n))) := by
  rcases Nat.eq_zero_or_pos a with h0 | h0
  · subst h0
    rw [Nat.zero_mul]
    exact Znz n hn
  exact PC.of_live (ZlW a n ha hn h0) (by rfl) (pures_nts _)
theorem ZlX (a n : Nat) (ha : (lim a).length ≤ 1099511627) (hn : n ≤ 1099511627) : PC C Znf [numD a, .int .i64 (n : Int)] (fun o => o = .ret (numD (a / 2 ^ n))) := by
  have hr : n % 32 < 32 := Nat.mod_lt _ (by decide)
  refine PC.rn Zii ZmA ZmB (rs := [.tmp 4]) (by rw [ZmC]) ?_
  refine ARun.seq (ARun.region ?_); refine xa ?_; refine AOps.nil (ARun.seq (ARun.seq (ARun.region ?_))); refine xm ?_
  refine y_op rfl (q_quo rfl rfl (by omega) (nquo_i64 (n := 32) rfl (by omega))) ?_
  refine xm ?_; refine xN ?_; refine xi ?_; refine AOps.nil ?_
  refine ARun.ite rfl (fun h => ?_) (fun h => ?_)
  · skip
    have hz : a / 2 ^ n = 0 := by
      refine Nat.div_eq_of_lt (Nat.lt_of_lt_of_le (ln_lt a) ?_)
      rw [B_pow]
      exact Nat.pow_le_pow_right (by decide) (by omega)
    refine ARun.seq (ARun.region ?_); refine xa ?_; refine AOps.nil ?_
    refine ARun.ret ?_
    refine ⟨_, _, _, .tmp rfl .nil, .cons .nil .nil, rfl, ?_⟩
    rw [hz, numD, lim_zero]; rfl
  refine ARun.skip (ARun.seq (ARun.region ?_)); refine xa ?_; refine AOps.nil (ARun.seq (ARun.seq (ARun.region ?_))); refine xm ?_
  refine y_op rfl (q_quo rfl rfl (by omega) (nquo_i64 (n := 32) rfl (by omega))) ?_
  refine xa ?_; refine AOps.nil (ARun.block ?_)
  refine ARun.loopI (S := Nat × List Nat × Heap) (fun σ : Nat × List Nat × Heap => [(7, .any), (15, .any), (16, .any), (17, .any), (18, .any), (19, .any), (20, .any), (21, .any), (22, .any), (23, .any), (24, .any), (25, .any), (26, .any), (27, .any), (28, .any), (29, .any), (30, .any), (31, .any), (32, .any), (33, .any), (34, .any), (35, .any), (36, .any), (37, .any), (6, .int .i64 ((n / 32 + σ.1 : Nat) : Int)), (5, growD (0 + σ.2.2.length) (nts .u32 σ.2.1))]) (fun σ : Nat × List Nat × Heap => growT σ.2.2 Zae (nts .u32 σ.2.1)) (fun σ : Nat × List Nat × Heap => U32 σ.2.1 ∧ σ.2.1.length = σ.1 ∧ n / 32 + σ.1 ≤ (lim a).length ∧ val σ.2.1 = a / 2 ^ n % B ^ σ.1) (fun σ : Nat × List Nat × Heap => (lim a).length - (n / 32 + σ.1)) ((0, [], [])) ?_ ?_ ?_ ?_
  · exact ⟨U32.nil, rfl, by dsimp only; omega, by simp [val, Nat.mod_one]⟩
  · (repeat' first | exact envLe_nil | apply envLe_any | apply envLe_same)
  · rfl
  rintro ⟨i, ys, J⟩ hinv ih
  dsimp only at hinv ih ⊢
  obtain ⟨hu, hl, hi, hv⟩ := hinv
  have hbl : (nts .u32 ys).length = i := by rw [nts_length, hl]
  refine ARun.seq (ARun.seq (ARun.region ?_)); refine xm ?_; refine xm ?_; refine xN ?_; refine xi ?_; refine AOps.nil ?_
  refine ARun.ite rfl (fun h2 => ?_) (fun h2 => ?_)
  · skip
    have d1 := dig_lt a (n / 32 + i)
    have d2 := dig_lt a (n / 32 + i + 1)
    refine ARun.skip (ARun.seq (ARun.block (ARun.seq (ARun.region ?_)))); refine xm ?_; refine xm ?_
    refine y_op rfl (q_add rfl rfl (nadd1_i64 (by omega))) ?_
    refine xc rfl rfl (ZaW a (n / 32 + i + 1)) ?_
    refine y_op rfl (q_shl rfl rfl (by omega) (nshl_u64 (s := 32) rfl (by omega) (by omega))) ?_
    refine xm ?_; refine xm ?_
    refine xc rfl rfl (ZaW a (n / 32 + i)) ?_
    refine y_op rfl (q_add rfl rfl (nadd_u64 (by omega))) ?_
    refine xm ?_
    refine y_op rfl (q_rem rfl rfl (by omega) (nrem (n := 32) rfl)) ?_
    refine y_op rfl (q_shr rfl rfl (by omega) (nshr rfl (by simp [IntKind.bits]; omega))) ?_
    refine xa ?_; refine AOps.nil (ARun.region ?_); refine xm ?_; refine xm ?_
    refine y_op rfl (q_conv rfl rfl rfl nconv_u32) ?_
    rw [shrA_dig]
    refine y_new rfl (Zai rfl rfl rfl rfl rfl rfl rfl rfl rfl rfl rfl (by decide) (by decide)) ?_
    refine y_grow rfl rfl rfl rfl rfl rfl rfl rfl rfl rfl (by show (_ + 1) * 4 ≤ _; omega) (by omega) (fun J' => ?_)
    rw [nts_snoc]
    refine xa ?_; refine AOps.nil (ARun.inBlock (ARun.region ?_)); refine xm ?_
    refine y_op rfl (q_add rfl rfl (nadd1_i64 (by omega))) ?_
    refine xa ?_; refine AOps.nil ?_
    refine ARun.again (ih ((i + 1, ys ++ [dig (a / 2 ^ n) i], J')) ?_ ?_) ?_ ?_
    · (obtain ⟨k1, k2, k3⟩ := shrA_step hu hl hv; exact ⟨k1, k2, by dsimp only; omega, k3⟩)
    · (dsimp only; omega)
    · (repeat' first | exact envLe_nil | apply envLe_any | apply envLe_same)
    rfl
  have hin : n / 32 + i = (lim a).length := by omega
  have hle : (lim (a / 2 ^ n)).length ≤ i := by
    rw [div_split]
    refine Nat.le_trans (ln_mono (Nat.div_le_self _ _)) ?_
    rw [ln_div]; omega
  refine ARun.growEnd 5 rfl (pures_nts _) (fun J' => ?_)
  rw [sln_len]
  refine ARun.exit rfl ?_
  refine ARun.seq (ARun.region ?_); refine xm ?_
  refine xc rfl rfl (Zch ys hu (by omega)) ?_
  refine xa ?_; refine AOps.nil ?_
  refine ARun.ret ?_
  refine ⟨_, _, _, .tmp rfl .nil, .cons (.same _) .nil, rfl, ?_⟩
  rw [hv, mod_of_ln hle]
  rfl
theorem ZmM (a b : Nat) (ha : (lim a).length ≤ 1099511627776) (hb : 0 < b) (hb2 : b < 4294967296) : PC C Zls [numD a, .int .u32 (b : Int)] (fun o => o = .ret (.agg [numD (a / b), numD (a % b)])) := by
  refine PC.rn Zfr Zku Zkv (rs := [.cell 4 178]) (by rw [Zkw]) ?_
  refine ARun.seq (ARun.region ?_)
  refine y_new rfl (Zag rfl rfl rfl rfl) ?_
  refine AOps.nil (ARun.seq (ARun.region ?_)); refine xm ?_; refine xN ?_
  refine y_new rfl (Zas rfl rfl rfl rfl rfl rfl rfl (by omega) (by rw [maxLen_eq]; omega) (zeros_nts _)) ?_
  refine xa ?_; refine AOps.nil (ARun.seq (ARun.region ?_)); refine xa ?_; refine AOps.nil (ARun.seq (ARun.seq (ARun.region ?_))); refine xm ?_; refine xN ?_
  refine y_op rfl (q_sub rfl rfl (IntWalk.i64_in _ (by omega))) ?_
  refine xa ?_; refine AOps.nil (ARun.block ?_)
  refine ARun.loopI (S := Nat × Nat × List Nat) (fun σ : Nat × Nat × List Nat => [(8, .any), (15, .any), (16, .any), (17, .any), (18, .any), (19, .any), (20, .any), (21, .any), (22, .any), (23, .any), (24, .any), (25, .any), (26, .any), (27, .any), (28, .any), (29, .any), (30, .any), (31, .any), (32, .any), (33, .any), (34, .any), (35, .any), (36, .any), (37, .any), (38, .any), (7, .int .i64 ((σ.1 : Int) - 1)), (6, .int .u64 (σ.2.1 : Int))]) (fun σ : Nat × Nat × List Nat => [some ⟨[.nilsl, .nilsl], Zaf, 1, true, none⟩, some ⟨nts .u32 σ.2.2, Zae, 1, true, none⟩]) (fun σ : Nat × Nat × List Nat => U32 σ.2.2 ∧ σ.2.2.length = (lim a).length ∧ σ.1 ≤ σ.2.2.length ∧ σ.2.1 < b ∧ val (σ.2.2.drop σ.1) * b + σ.2.1 = a / B ^ σ.1) (fun σ : Nat × Nat × List Nat => σ.1) (((lim a).length, 0, List.replicate (lim a).length 0)) ?_ ?_ ?_ ?_
  · exact ⟨U32.replicate, by simp, by simp, hb, by simp [val, Nat.div_eq_of_lt (ln_lt a)]⟩
  · (repeat' first | exact envLe_nil | apply envLe_any | apply envLe_same)
  · rfl
  rintro ⟨j, r, ys⟩ hinv ih
  dsimp only at hinv ih ⊢
  obtain ⟨hu, hl, hj, hr, hv⟩ := hinv
  refine ARun.seq (ARun.seq (ARun.region ?_)); refine xm ?_; refine xi ?_; refine AOps.nil ?_
  refine ARun.ite rfl (fun h => ?_) (fun h => ?_)
  · skip
    obtain ⟨i, rfl⟩ : ∃ i, j = i + 1 := ⟨j - 1, by omega⟩
    rw [show (((i + 1 : Nat) : Int) - 1) = (i : Int) by omega]
    have d1 := dig_lt a i
    have es : r * 2 ^ 32 + dig a i = dig a i + r * 2 ^ 32 := Nat.add_comm _ _
    refine ARun.skip (ARun.seq (ARun.block (ARun.seq (ARun.region ?_)))); refine xm ?_
    refine y_op rfl (q_shl rfl rfl (by omega) (nshl_u64 (s := 32) rfl (by omega) (by omega))) ?_
    refine xm ?_; refine xm ?_
    refine y_op rfl (Zaj rfl rfl rfl rfl (by omega) (by omega) (nts_ne (by omega)) (drop_nat rfl)) ?_
    refine y_op rfl (q_load rfl rfl rfl (lim_load (by omega))) ?_
    refine y_op rfl (q_conv rfl rfl rfl (nconv_u64 (by omega))) ?_
    refine y_op rfl (q_add rfl rfl (nadd_u64 (by omega))) ?_
    rw [es]
    refine xa ?_; refine AOps.nil (ARun.seq (ARun.region ?_)); refine xm ?_; refine xm ?_; refine xm ?_; refine xm ?_
    refine y_op rfl (q_conv rfl rfl rfl (nconv_u64 (by omega))) ?_
    refine y_op rfl (q_quo rfl rfl (by omega) (nquo_u64 rfl (by omega))) ?_
    refine y_op rfl (q_conv rfl rfl rfl nconv_u32) ?_
    refine y_op rfl (Zah rfl rfl rfl rfl rfl (by omega) (by omega) (idx_nat rfl)) ?_
    refine y_new rfl (Zad rfl rfl rfl rfl rfl rfl (by simp; omega) nts_set) ?_
    refine AOps.nil (ARun.region ?_); refine xm ?_; refine xm ?_
    refine y_op rfl (q_conv rfl rfl rfl (nconv_u64 (by omega))) ?_
    refine y_op rfl (q_rem rfl rfl (by omega) (nrem rfl)) ?_
    refine xa ?_; refine AOps.nil (ARun.inBlock (ARun.region ?_)); refine xm ?_
    refine y_op rfl (q_sub rfl rfl (IntWalk.i64_in _ (by omega))) ?_
    refine xa ?_; refine AOps.nil ?_
    refine ARun.again (ih ((i, (dig a i + r * 2 ^ 32) % b, ys.set i ((dig a i + r * 2 ^ 32) / b % 4294967296))) ?_ ?_) ?_ ?_
    · (obtain ⟨k1, k2, k3, k4⟩ := sh_step hu hl (by omega) hb hb2 hr hv; exact ⟨k1, k2, by rw [k2]; omega, k3, k4⟩)
    · (dsimp only; omega)
    · (repeat' first | exact envLe_nil | apply envLe_any | apply envLe_same)
    rfl
  have hj0 : j = 0 := by omega
  subst hj0
  obtain ⟨e1, e2⟩ := sh_end hr hv
  refine ARun.exit rfl ?_
  refine ARun.seq (ARun.region ?_); refine xm ?_
  refine y_new rfl (n_call rfl rfl (.cons (.row rfl (pures_nts _)) .nil) (Zbq hu hl (by omega)) rfl) ?_
  refine xm ?_
  refine xc rfl rfl (Zju r (by omega)) ?_
  refine y_op rfl (Zal rfl rfl rfl rfl rfl) ?_
  refine y_new rfl (Zaa rfl rfl rfl rfl rfl rfl rfl rfl (Nat.le_of_ble_eq_true rfl) rfl) ?_
  refine AOps.nil ?_
  refine ARun.ret ?_
  refine ⟨_, _, _, ResR.cellA rfl rfl rfl rfl rfl rfl .nil, .cons (.same _) .nil, rfl, ?_⟩
  rw [List.drop_zero] at e1
  rw [e1, e2]
  rfl
end Go.V
set_option maxHeartbeats 8000000
set_option maxRecDepth 100000
set_option synthInstance.maxSize 100000
set_option synthInstance.maxHeartbeats 2000000
namespace Go.V
open Go.RowKit Go.Proofs
theorem getD_win {us : List Nat} {i n p : Nat} (h : p < n) : ((us.drop i).take n).getD p 0 = us.getD (i + p) 0 := by
  rw [getD_take h, List.getD_eq_getElem?_getD, List.getElem?_drop, ← List.getD_eq_getElem?_getD]
theorem ld_start {a b s J : Nat} {us : List Nat} (hu : U32 us) (hv : val us = a * 2 ^ s) (h1 : 0 < (lim (b * 2 ^ s)).length) (hs : s < 32) (hd : 2147483648 ≤ dig (b * 2 ^ s) ((lim (b * 2 ^ s)).length - 1)) (hJ : J + (lim (b * 2 ^ s)).length = (lim a).length + 1) : Ld (a * 2 ^ s) (b * 2 ^ s) (lim (b * 2 ^ s)).length J us (List.replicate J 0) := by
  have h := ld_init (a := a) (L := 0) h1 hs hd hJ
  have hr := h.hr
  rw [List.replicate_zero, List.drop_nil, List.append_nil, val_drop (U32_lim _), val_lim] at hr
  refine ⟨hu, h.uq, by rw [val_drop hu, hv]; exact hr, ?_⟩
  rw [List.drop_of_length_le (by simp), hv]
  simp [val]
theorem Zn4 (a b : Nat) (ha : (lim a).length ≤ 16777216) (hb : (lim b).length ≤ 16777216) (hb0 : 0 < b) : PC C Zm4 [numD a, numD b] (fun o => o = .ret (.agg [numD (a / b), numD (a % b)])) := by
  have hL := ln_pos.2 (Nat.pos_iff_ne_zero.1 hb0)
  refine PC.rn Zid Zmk Zml (rs := [.cell 4 178]) (by rw [Zmm]) ?_
  refine ARun.seq (ARun.region ?_)
  refine y_new rfl (Zag rfl rfl rfl rfl) ?_
  refine AOps.nil (ARun.seq (ARun.seq (ARun.region ?_))); refine xm ?_; refine xN ?_; refine xi ?_; refine AOps.nil ?_
  refine ARun.cond rfl (fun h1 => ?_) (fun h1 => ?_)
  · skip
    have h1 : (lim b).length = 1 := by
      have h : ((lim b).length : Int) = 1 := by simpa using h1
      omega
    have hb1 : dig b 0 = b := by
      have := mod_of_ln (a := b) (k := 1) (by omega)
      rw [dig, Nat.pow_zero, Nat.div_one]
      rwa [Nat.pow_one] at this
    have hbB := dig_lt b 0
    rw [hb1] at hbB
    refine ARun.seq (ARun.region ?_); refine xm ?_; refine xm ?_
    refine y_op rfl (Zaj rfl rfl rfl rfl (by omega) (by omega) (nts_ne (by omega)) (drop_nat (i := 0) rfl)) ?_
    refine y_op rfl (q_load rfl rfl rfl ((lim_load (by omega)).trans (by rw [hb1]))) ?_
    refine xc rfl rfl (ZmM a b (by omega) hb0 hbB) ?_
    refine y_new rfl (Zaa rfl rfl rfl rfl rfl rfl rfl rfl (Nat.le_of_ble_eq_true rfl) rfl) ?_
    refine AOps.nil ?_
    refine ARun.ret ?_
    refine ⟨_, _, _, ResR.cellA rfl rfl rfl rfl rfl rfl .nil, .cons (.same _) .nil, rfl, ?_⟩
    rfl
  refine ARun.skip (ARun.seq (ARun.seq (ARun.region ?_))); refine xm ?_; refine xm ?_
  refine xc rfl rfl (ZnZ a b (by omega) (by omega)) ?_
  refine xi ?_; refine AOps.nil ?_
  refine ARun.ite rfl (fun h2 => ?_) (fun h2 => ?_)
  · skip
    have hlt : a < b := by
      unfold cmpI at h2
      split at h2
      · assumption
      split at h2 <;> omega
    refine ARun.seq (ARun.region ?_); refine xm ?_
    refine xc rfl rfl (ZmL a (by omega)) ?_
    refine y_op rfl (Zal rfl rfl rfl rfl rfl) ?_
    refine y_new rfl (Zaa rfl rfl rfl rfl rfl rfl rfl rfl (Nat.le_of_ble_eq_true rfl) rfl) ?_
    refine AOps.nil ?_
    refine ARun.ret ?_
    refine ⟨_, _, _, ResR.cellA rfl rfl rfl rfl rfl rfl .nil, .cons (.agg (.cons .nil (.cons (.same _) .nil))) .nil, rfl, ?_⟩
    have hz : numD 0 = .sl 0 [] := by rw [numD, lim_zero]; rfl
    rw [Nat.div_eq_of_lt hlt, Nat.mod_eq_of_lt hlt, hz]
    rfl
  have hge : b ≤ a := by
    unfold cmpI at h2
    split at h2
    · omega
    omega
  have hln := ln_mono hge
  have hbb := bl_le_ln b
  obtain ⟨s, hs⟩ : ∃ s, s = 32 * (lim b).length - bl b := ⟨_, rfl⟩
  have hs2 : s = 32 - bl (dig b ((lim b).length - 1)) := by
    have h5 := bl_top (a := b) (by omega)
    omega
  obtain ⟨s1, s2, s3⟩ := norm_top hL hs2
  have hla : (lim (a * 2 ^ s)).length ≤ (lim a).length + 1 := by
    refine Nat.le_trans (ln_mul _ _) (Nat.add_le_add_left ?_ _)
    rw [ln_le_iff, Nat.pow_one]
    exact Nat.lt_of_lt_of_le ((Nat.pow_lt_pow_iff_right (by decide)).2 s1) (by decide)
  have hlb : (lim a).length ≤ (lim (a * 2 ^ s)).length := ln_mono (Nat.le_mul_of_pos_right _ (Nat.two_pow_pos s))
  have hd0 : 0 < b * 2 ^ s := Nat.mul_pos hb0 (Nat.two_pow_pos s)
  have hdB : b * 2 ^ s < B ^ (lim b).length := ln_le_iff.1 (Nat.le_of_eq s2)
  refine ARun.skip (ARun.seq (ARun.region ?_)); refine xm ?_; refine xN ?_; refine xa ?_; refine AOps.nil (ARun.seq (ARun.region ?_)); refine xm ?_
  refine y_op rfl (q_mul rfl rfl (nmul_i64 (m := 32) (by omega))) ?_
  refine xm ?_
  refine xc rfl rfl (ZkV b (by omega)) ?_
  refine y_op rfl (q_sub rfl rfl ((nsub_i64 (by omega) (by omega)).trans (by rw [← hs]))) ?_
  refine xa ?_; refine AOps.nil (ARun.seq (ARun.region ?_)); refine xm ?_; refine xm ?_
  refine xc rfl rfl (Zn3 b s (by omega) (by omega)) ?_
  refine xa ?_; refine AOps.nil (ARun.seq (ARun.region ?_)); refine xm ?_; refine xm ?_
  refine y_new rfl (n_live rfl rfl (.cons (.same _) (.cons (.same _) .nil)) (r_ShlL a s (by omega) (by omega) (Nat.lt_of_lt_of_le hb0 hge)) rfl) ?_
  refine xa ?_; refine AOps.nil (ARun.seq (ARun.block ?_))
  rcases Nat.lt_or_ge (lim a).length (lim (a * 2 ^ s)).length with hlu | hlu
  · skip
    have hU := U32_lim (a * 2 ^ s)
    have hV := val_lim (a * 2 ^ s)
    refine ARun.loop ?_
    refine ARun.seq (ARun.seq (ARun.region ?_)); refine xm ?_
    refine y_op rfl (ZaF rfl rfl rfl) ?_
    refine xm ?_; refine xN ?_
    refine y_op rfl (q_intB rfl rfl rfl (decide_eq_false (by omega))) ?_
    refine AOps.nil ?_
    refine ARun.condF rfl ?_
    refine ARun.exit rfl ?_
    refine ARun.seq (ARun.region ?_); refine xm ?_; refine xN ?_; refine xm ?_
    refine y_op rfl (q_sub rfl rfl (nsub_i64 (by omega) (by omega))) ?_
    refine y_op rfl (q_add rfl rfl (nadd1_i64 (by omega))) ?_
    refine y_new rfl (Zas rfl rfl rfl rfl rfl rfl rfl (by omega) (by rw [maxLen_eq]; omega) (zeros_nts _)) ?_
    refine xa ?_; refine AOps.nil (ARun.seq (ARun.seq (ARun.region ?_))); refine xm ?_; refine xN ?_; refine xm ?_
    refine y_op rfl (q_sub (r := (((lim a).length - (lim b).length + 1 : Nat) : Int) - 1) rfl rfl (by rw [IntWalk.i64_in _ (by omega)]; omega)) ?_
    refine xa ?_; refine AOps.nil (ARun.block ?_)
    rw [show (lim (a * 2 ^ s)).length = (lim a).length + 1 by omega]
    refine ARun.loopI (S := Nat × List Nat × List Nat) (fun σ : Nat × List Nat × List Nat => [(11, .any), (12, .any), (13, .any), (14, .any), (15, .any), (16, .any), (17, .any), (18, .any), (65, .any), (66, .any), (67, .any), (68, .any), (69, .any), (70, .any), (71, .any), (72, .any), (73, .any), (74, .any), (75, .any), (76, .any), (77, .any), (78, .any), (79, .any), (80, .any), (81, .any), (82, .any), (83, .any), (84, .any), (85, .any), (86, .any), (87, .any), (88, .any), (89, .any), (90, .any), (91, .any), (92, .any), (93, .any), (94, .any), (95, .any), (96, .any), (97, .any), (98, .any), (99, .any), (100, .any), (101, .any), (102, .any), (103, .any), (104, .any), (105, .any), (106, .any), (107, .any), (108, .any), (109, .any), (110, .any), (111, .any), (112, .any), (113, .any), (114, .any), (115, .any), (116, .any), (117, .any), (118, .any), (119, .any), (120, .any), (121, .any), (122, .any), (123, .any), (124, .any), (125, .any), (126, .any), (127, .any), (128, .any), (129, .any), (130, .any), (131, .any), (132, .any), (133, .any), (134, .any), (135, .any), (136, .any), (137, .any), (138, .any), (139, .any), (140, .any), (141, .any), (142, .any), (143, .any), (144, .any), (145, .any), (146, .any), (147, .any), (148, .any), (149, .any), (150, .any), (151, .any), (152, .any), (153, .any), (154, .any), (155, .any), (156, .any), (157, .any), (158, .any), (159, .any), (160, .any), (161, .any), (162, .any), (163, .any), (164, .any), (165, .any), (166, .any), (167, .any), (168, .any), (10, .int .i64 ((σ.1 : Int) - 1))]) (fun σ : Nat × List Nat × List Nat => [some ⟨[.nilsl, .nilsl], Zaf, 1, true, none⟩, some ⟨nts .u32 σ.2.1, Zae, 1, true, none⟩, some ⟨nts .u32 σ.2.2, Zae, 1, true, none⟩]) (fun σ : Nat × List Nat × List Nat => Ld (a * 2 ^ s) (b * 2 ^ s) (lim (b * 2 ^ s)).length σ.1 σ.2.1 σ.2.2 ∧ σ.2.1.length = (lim a).length + 1 ∧ σ.2.2.length = (lim a).length - (lim b).length + 1 ∧ σ.1 ≤ σ.2.2.length) (fun σ : Nat × List Nat × List Nat => σ.1) (((lim a).length - (lim b).length + 1, lim (a * 2 ^ s), List.replicate ((lim a).length - (lim b).length + 1) 0)) ?_ ?_ ?_ ?_
    · exact ⟨ld_start hU hV (by omega) s1 (by rw [s2]; exact s3) (by omega), by simp; omega, by simp, by simp⟩
    · (repeat' first | exact envLe_nil | apply envLe_any | apply envLe_same)
    · rfl
    rintro ⟨j, us, qs⟩ hinv ih1
    dsimp only at hinv ih1 ⊢
    obtain ⟨hI, hul, hql, hj⟩ := hinv
    refine ARun.seq (ARun.seq (ARun.region ?_)); refine xm ?_; refine xi ?_; refine AOps.nil ?_
    refine ARun.ite rfl (fun h3 => ?_) (fun h3 => ?_)
    · skip
      obtain ⟨i, rfl⟩ : ∃ i, j = i + 1 := ⟨j - 1, by omega⟩
      rw [show (((i + 1 : Nat) : Int) - 1) = (i : Int) by omega]
      obtain ⟨w1, w2, w3⟩ := hI.win (by rw [s2]; exact hdB) (by omega)
      rw [s2] at w1 w2 w3
      have hwl : ((us.drop i).take ((lim b).length + 1)).length = (lim b).length + 1 := by rw [List.length_take, List.length_drop]; omega
      have hwu : U32 ((us.drop i).take ((lim b).length + 1)) := (hI.ur.drop i).take _
      have k := Kn.of (m := (lim b).length - 2) (n := (lim b).length) (by have h : ¬ ((lim b).length : Int) = 1 := (by simpa using h1); omega) s2 s3 hwu hwl w2
      have q0 := k.first
      rw [getD_win (by omega), getD_win (by omega)] at q0
      have hwin := win_split us i ((lim b).length + 1)
      have hpre : (us.take i).length = i := by rw [List.length_take]; omega
      have g0 := hI.ur.get (i + (lim b).length)
      have g1 := hI.ur.get (i + (lim b).length - 1)
      have g2 := k.hv1
      have g3 := k.hv1'
      have e1 : i + ((lim b).length - 1) = i + (lim b).length - 1 := by omega
      rw [e1] at q0
      refine ARun.skip (ARun.seq (ARun.block (ARun.seq ?_)))
      refine ARun.drawnP 25 (fun _ => False) mixC rfl rfl (by kernel_rfl) (fun _ _ h => h.elim) ?_
      refine .op rfl (q_move rfl) ?_
      refine .op rfl (q_move rfl) ?_
      refine .op rfl (q_move rfl) ?_
      refine .op rfl (q_add rfl rfl (nadd_i64 (by omega))) ?_
      refine .op rfl (Zah rfl rfl rfl rfl rfl (by omega) (by omega) (idx_nat rfl)) ?_
      refine .op rfl (Zac rfl rfl rfl rfl (nts_get (by omega))) ?_
      refine .op rfl (q_conv rfl rfl rfl (nconv_u64 (by omega))) ?_
      refine .op rfl (q_shl rfl rfl (by omega) (nshl_u64 (s := 32) rfl (by omega) (by omega))) ?_
      refine .op rfl (q_move rfl) ?_
      refine .op rfl (q_move rfl) ?_
      refine .op rfl (q_move rfl) ?_
      refine .op rfl (q_add rfl rfl (nadd_i64 (by omega))) ?_
      refine .op rfl (q_sub rfl rfl (nsub1_i64 (by omega) (by omega))) ?_
      refine .op rfl (Zah rfl rfl rfl rfl rfl (by omega) (by omega) (idx_nat rfl)) ?_
      refine .op rfl (Zac rfl rfl rfl rfl (nts_get (by omega))) ?_
      refine .op rfl (q_conv rfl rfl rfl (nconv_u64 (by omega))) ?_
      refine .op rfl (q_add rfl rfl (nadd_u64 (by omega))) ?_
      refine .op rfl (q_move rfl) ?_
      refine .op rfl (q_move rfl) ?_
      refine .op rfl (q_sub rfl rfl (nsub1_i64 (by omega) (by omega))) ?_
      refine .op rfl (Zaj rfl rfl rfl rfl (by omega) (by omega) (nts_ne (by omega)) (drop_nat rfl)) ?_
      refine .op rfl (q_load rfl rfl rfl (lim_load (by omega))) ?_
      refine .op rfl (q_conv rfl rfl rfl (nconv_u64 (by omega))) ?_
      refine .op rfl (q_quo rfl rfl (by omega) (nquo_u64 rfl (by omega))) ?_
      refine .op rfl (q_minR rfl rfl (nmin (n := 4294967295))) ?_
      refine .nil (fun hG => ?_)
      refine xa ?_; refine AOps.nil (ARun.seq (ARun.region ?_)); refine xa ?_; refine AOps.nil (ARun.seq (ARun.region ?_)); refine xa ?_; refine AOps.nil (ARun.seq (ARun.seq (ARun.region ?_))); refine xa ?_; refine AOps.nil (ARun.block ?_)
      obtain ⟨q, hq⟩ : ∃ q, q = min ((us.getD (i + (lim b).length) 0 * 2 ^ 32 + us.getD (i + (lim b).length - 1) 0) / dig (b * 2 ^ s) ((lim b).length - 1)) 4294967295 := ⟨_, rfl⟩
      rw [← hq]
      have q1 : val ((us.drop i).take ((lim b).length + 1)) / (b * 2 ^ s) ≤ q := by
        rw [hq, Nat.add_comm (us.getD (i + (lim b).length) 0 * 2 ^ 32)]; exact q0
      have q2 : q < 4294967296 := by rw [hq]; exact Nat.lt_succ_of_le (Nat.min_le_right _ _)
      clear hq q0
      have hdn : b * 2 ^ s < B ^ ((lim b).length + 1) := Nat.lt_of_lt_of_le hdB (Nat.pow_le_pow_right B_pos (Nat.le_succ _))
      have hqd : q * (b * 2 ^ s) < B ^ ((lim b).length + 1) := by
        rw [Nat.pow_succ, Nat.mul_comm]
        exact Nat.mul_lt_mul'' hdB (by rw [B_eq]; exact q2)
      refine ARun.loopI (S := Nat × Nat × Nat × List Nat) (fun σ : Nat × Nat × Nat × List Nat => [(15, .any), (16, .any), (94, .any), (95, .any), (96, .any), (97, .any), (98, .any), (99, .any), (100, .any), (101, .any), (102, .any), (103, .any), (104, .any), (105, .any), (106, .any), (107, .any), (108, .any), (109, .any), (110, .any), (111, .any), (112, .any), (113, .any), (114, .any), (115, .any), (116, .any), (117, .any), (118, .any), (119, .any), (120, .any), (121, .any), (122, .any), (123, .any), (124, .any), (125, .any), (126, .any), (127, .any), (128, .any), (129, .any), (14, .int .i64 (σ.1 : Int)), (12, .int .u64 (σ.2.1 : Int)), (13, .int .u64 (σ.2.2.1 : Int))]) (fun σ : Nat × Nat × Nat × List Nat => [some ⟨[.nilsl, .nilsl], Zaf, 1, true, none⟩, some ⟨nts .u32 (us.take i ++ σ.2.2.2 ++ us.drop (i + ((lim b).length + 1))), Zae, 1, true, none⟩, some ⟨nts .u32 qs, Zae, 1, true, none⟩]) (fun σ : Nat × Nat × Nat × List Nat => U32 σ.2.2.2 ∧ σ.2.2.2.length = (lim b).length + 1 ∧ σ.1 ≤ (lim b).length + 1 ∧ σ.2.1 < 4294967296 ∧ σ.2.2.1 ≤ 1 ∧ (∀ x, σ.1 ≤ x → σ.2.2.2.getD x 0 = ((us.drop i).take ((lim b).length + 1)).getD x 0) ∧ σ.2.1 * B ^ σ.1 ≤ q * ((b * 2 ^ s) % B ^ σ.1) ∧ val (σ.2.2.2.take σ.1) + q * ((b * 2 ^ s) % B ^ σ.1) = val (((us.drop i).take ((lim b).length + 1)).take σ.1) + B ^ σ.1 * (σ.2.2.1 + σ.2.1)) (fun σ : Nat × Nat × Nat × List Nat => (lim b).length + 1 - σ.1) ((0, 0, 0, (us.drop i).take ((lim b).length + 1))) ?_ ?_ ?_ ?_
      · exact ⟨hwu, hwl, by simp, by simp, by simp, fun p _ => rfl, by simp, by simp [val, Nat.mod_one]⟩
      · (repeat' first | exact envLe_nil | apply envLe_any | apply envLe_same)
      · exact congrArg (fun l => [some ⟨[.nilsl, .nilsl], Zaf, 1, true, none⟩, some (AObj.mk (nts .u32 l) Zae 1 true none), some (AObj.mk (nts .u32 qs) Zae 1 true none)]) hwin
      rintro ⟨p, c, bw, zs⟩ hinv2 ih2
      dsimp only at hinv2 ih2 ⊢
      obtain ⟨hz, hzl, hp, hc, hbw, hzw, hcb, hv⟩ := hinv2
      refine ARun.seq (ARun.seq (ARun.region ?_)); refine xm ?_; refine xm ?_; refine xi ?_; refine AOps.nil ?_
      refine ARun.ite rfl (fun h4 => ?_) (fun h4 => ?_)
      · skip
        have d1 := dig_lt (b * 2 ^ s) p
        have m := mul_bound q2 d1
        have m2 : dig (b * 2 ^ s) p * q ≤ 18446744065119617025 := by rw [Nat.mul_comm]; exact m
        have d2 := hz.get p
        have hlo : (c + q * dig (b * 2 ^ s) p) % 4294967296 < 4294967296 := Nat.mod_lt _ (by decide)
        have es : dig (b * 2 ^ s) p * q + c = c + q * dig (b * 2 ^ s) p := by rw [Nat.mul_comm, Nat.add_comm]
        refine ARun.skip (ARun.seq (ARun.block (ARun.seq (ARun.region ?_)))); refine xm ?_; refine xm ?_
        refine xc rfl rfl (ZaW (b * 2 ^ s) p) ?_
        refine xm ?_
        refine y_op rfl (q_mul rfl rfl (nmul_u64 (by omega))) ?_
        refine xm ?_
        refine y_op rfl (q_add rfl rfl (nadd_u64 (by omega))) ?_
        refine xa ?_
        rw [es]
        refine AOps.nil (ARun.seq (ARun.region ?_)); refine xm ?_
        refine y_op rfl (q_shr rfl rfl (by omega) nshr32) ?_
        refine xa ?_; refine AOps.nil (ARun.seq (ARun.region ?_)); refine xm ?_; refine xm ?_; refine xm ?_
        refine y_op rfl (q_add rfl rfl (nadd_i64 (by omega))) ?_
        refine y_op rfl (Zah rfl rfl rfl rfl rfl (by omega) (by omega) (idx_nat rfl)) ?_
        refine y_op rfl (Zac rfl rfl rfl rfl (win_get (by assumption) (by omega))) ?_
        refine y_op rfl (q_conv rfl rfl rfl (nconv_u64 (by omega))) ?_
        refine xm ?_
        refine y_op rfl (q_conv rfl rfl rfl nconv_u32) ?_
        refine y_op rfl (q_conv rfl rfl rfl (nconv_u64 (by omega))) ?_
        refine y_op rfl (q_sub rfl rfl rfl) ?_
        refine xm ?_
        refine y_op rfl (q_sub rfl rfl rfl) ?_
        refine xa ?_; refine AOps.nil (ARun.seq (ARun.region ?_)); refine xm ?_; refine xm ?_; refine xm ?_
        refine y_op rfl (q_add rfl rfl (nadd_i64 (by omega))) ?_
        refine xm ?_
        refine y_op rfl (q_conv rfl rfl rfl (sub_lo d2 hlo hbw)) ?_
        refine y_op rfl (Zah rfl rfl rfl rfl rfl (by omega) (by omega) (idx_nat rfl)) ?_
        refine y_new rfl (Zad rfl rfl rfl rfl rfl rfl (by simp; omega) (win_set (by assumption) (by omega))) ?_
        refine AOps.nil (ARun.region ?_); refine xm ?_
        refine y_op rfl (q_shr rfl rfl (by omega) (sub_c d2 hlo hbw)) ?_
        refine xa ?_; refine AOps.nil (ARun.inBlock (ARun.region ?_)); refine xm ?_
        refine y_op rfl (q_add rfl rfl (nadd1_i64 (by omega))) ?_
        refine xa ?_; refine AOps.nil ?_
        refine ARun.again (ih2 ((p + 1, (c + q * dig (b * 2 ^ s) p) / 4294967296, subC (zs.getD p 0) ((c + q * dig (b * 2 ^ s) p) % 4294967296) bw, zs.set p (subLo (zs.getD p 0) ((c + q * dig (b * 2 ^ s) p) % 4294967296) bw))) ?_ ?_) ?_ ?_
        · (obtain ⟨k1, k2, k3, k4, k5, k6⟩ := tk_step (w := zs.getD p 0) hz hzl (by omega) q2 hc hbw d2 hwl (hzw p (Nat.le_refl _)).symm hcb hv; exact ⟨k1, k2, by dsimp only; omega, k3, k4, fun x hx => by rw [getD_set_ne (by omega)]; exact hzw x (by omega), k5, k6⟩)
        · (dsimp only; omega)
        · (repeat' first | exact envLe_nil | apply envLe_any | apply envLe_same)
        rfl
      have hpn : p = (lim b).length + 1 := by omega
      subst hpn
      have ht := tk_end hzl hwl hqd hdn hcb hv
      clear hcb hv hzw
      refine ARun.exit rfl ?_
      refine ARun.seq (ARun.block ?_)
      refine ARun.loopI (S := Nat × Nat × List Nat) (fun σ : Nat × Nat × List Nat => [(12, .any), (17, .any), (18, .any), (130, .any), (131, .any), (132, .any), (133, .any), (134, .any), (135, .any), (136, .any), (137, .any), (138, .any), (139, .any), (140, .any), (141, .any), (142, .any), (143, .any), (144, .any), (145, .any), (146, .any), (147, .any), (148, .any), (149, .any), (150, .any), (151, .any), (152, .any), (153, .any), (154, .any), (155, .any), (156, .any), (157, .any), (158, .any), (159, .any), (160, .any), (161, .any), (162, .any), (163, .any), (11, .int .u64 (σ.1 : Int)), (13, .int .u64 (σ.2.1 : Int))]) (fun σ : Nat × Nat × List Nat => [some ⟨[.nilsl, .nilsl], Zaf, 1, true, none⟩, some ⟨nts .u32 (us.take i ++ σ.2.2 ++ us.drop (i + ((lim b).length + 1))), Zae, 1, true, none⟩, some ⟨nts .u32 qs, Zae, 1, true, none⟩]) (fun σ : Nat × Nat × List Nat => U32 σ.2.2 ∧ σ.2.2.length = (lim b).length + 1 ∧ σ.2.1 ≤ 1 ∧ val σ.2.2 + σ.1 * (b * 2 ^ s) = val ((us.drop i).take ((lim b).length + 1)) + B ^ ((lim b).length + 1) * σ.2.1 ∧ val ((us.drop i).take ((lim b).length + 1)) / (b * 2 ^ s) ≤ σ.1 ∧ σ.1 < 4294967296) (fun σ : Nat × Nat × List Nat => σ.1) ((q, bw, zs)) ?_ ?_ ?_ ?_
      · exact ⟨hz, hzl, hbw, ht, q1, q2⟩
      · (repeat' first | exact envLe_nil | apply envLe_any | apply envLe_same)
      · rfl
      rintro ⟨h, bw, zs⟩ hinv3 ih3
      dsimp only at hinv3 ih3 ⊢
      clear ht hz hzl hbw
      obtain ⟨hz, hzl, hbw, ht, hq1, hq2⟩ := hinv3
      refine ARun.seq (ARun.seq (ARun.region ?_)); refine xm ?_; refine xi ?_; refine AOps.nil ?_
      refine ARun.ite rfl (fun h5 => ?_) (fun h5 => ?_)
      · skip
        obtain rfl : bw = 1 := by omega
        have hvl := val_lt hz
        rw [hzl] at hvl
        have hh1 : 1 ≤ h := by
          rcases Nat.eq_zero_or_pos h with h0 | h0
          · rw [h0, Nat.zero_mul] at ht; omega
          exact h0
        refine ARun.skip (ARun.block (ARun.seq (ARun.region ?_))); refine xm ?_
        refine y_op rfl (q_sub rfl rfl (nsub_u64 (n := 1) (by omega) (by omega))) ?_
        refine xa ?_; refine AOps.nil (ARun.seq (ARun.region ?_)); refine xa ?_; refine AOps.nil (ARun.seq (ARun.seq (ARun.region ?_))); refine xa ?_; refine AOps.nil (ARun.block ?_)
        refine ARun.loopI (S := Nat × Nat × List Nat) (fun σ : Nat × Nat × List Nat => [(18, .any), (134, .any), (135, .any), (136, .any), (137, .any), (138, .any), (139, .any), (140, .any), (141, .any), (142, .any), (143, .any), (144, .any), (145, .any), (146, .any), (147, .any), (148, .any), (149, .any), (150, .any), (151, .any), (152, .any), (153, .any), (154, .any), (155, .any), (156, .any), (157, .any), (158, .any), (159, .any), (160, .any), (17, .int .i64 (σ.1 : Int)), (12, .int .u64 (σ.2.1 : Int))]) (fun σ : Nat × Nat × List Nat => [some ⟨[.nilsl, .nilsl], Zaf, 1, true, none⟩, some ⟨nts .u32 (us.take i ++ σ.2.2 ++ us.drop (i + ((lim b).length + 1))), Zae, 1, true, none⟩, some ⟨nts .u32 qs, Zae, 1, true, none⟩]) (fun σ : Nat × Nat × List Nat => U32 σ.2.2 ∧ σ.2.2.length = (lim b).length + 1 ∧ σ.1 ≤ (lim b).length + 1 ∧ σ.2.1 ≤ 1 ∧ (∀ x, σ.1 ≤ x → σ.2.2.getD x 0 = zs.getD x 0) ∧ val (σ.2.2.take σ.1) + B ^ σ.1 * σ.2.1 = val (zs.take σ.1) + (b * 2 ^ s) % B ^ σ.1) (fun σ : Nat × Nat × List Nat => (lim b).length + 1 - σ.1) ((0, 0, zs)) ?_ ?_ ?_ ?_
        · exact ⟨hz, hzl, by simp, by simp, fun p _ => rfl, by simp [val, Nat.mod_one]⟩
        · (repeat' first | exact envLe_nil | apply envLe_any | apply envLe_same)
        · rfl
        rintro ⟨p, c, ys⟩ hinv4 ih4
        dsimp only at hinv4 ih4 ⊢
        obtain ⟨y1, y2, y3, y4, y5, y6⟩ := hinv4
        refine ARun.seq (ARun.seq (ARun.region ?_)); refine xm ?_; refine xm ?_; refine xi ?_; refine AOps.nil ?_
        refine ARun.ite rfl (fun h6 => ?_) (fun h6 => ?_)
        · skip
          have n1 := y1.get p
          have n2 := dig_lt (b * 2 ^ s) p
          have es : ys.getD p 0 + dig (b * 2 ^ s) p + c = c + (ys.getD p 0 + dig (b * 2 ^ s) p) := Nat.add_comm _ _
          refine ARun.skip (ARun.seq (ARun.block (ARun.seq ?_)))
          refine ARun.drawnP 13 (fun _ => False) mixC rfl rfl (by kernel_rfl) (fun _ _ h => h.elim) ?_
          refine .op rfl (q_move rfl) ?_
          refine .op rfl (q_move rfl) ?_
          refine .op rfl (q_move rfl) ?_
          refine .op rfl (q_add rfl rfl (nadd_i64 (by omega))) ?_
          refine .op rfl (Zah rfl rfl rfl rfl rfl (by omega) (by omega) (idx_nat rfl)) ?_
          refine .op rfl (Zac rfl rfl rfl rfl (win_get (by assumption) (by omega))) ?_
          refine .op rfl (q_conv rfl rfl rfl (nconv_u64 (by omega))) ?_
          refine .op rfl (q_move rfl) ?_
          refine .op rfl (q_move rfl) ?_
          refine .op rfl (q_call rfl rfl (ZaW (b * 2 ^ s) p)) ?_
          refine .op rfl (q_add rfl rfl (nadd_u64 (by omega))) ?_
          refine .op rfl (q_move rfl) ?_
          refine .op rfl (q_add rfl rfl (nadd_u64 (by omega))) ?_
          refine .nil (fun hG => ?_)
          refine xa ?_
          rw [es]
          refine AOps.nil (ARun.seq (ARun.region ?_)); refine xm ?_; refine xm ?_; refine xm ?_
          refine y_op rfl (q_add rfl rfl (nadd_i64 (by omega))) ?_
          refine xm ?_
          refine y_op rfl (q_conv rfl rfl rfl nconv_u32) ?_
          refine y_op rfl (Zah rfl rfl rfl rfl rfl (by omega) (by omega) (idx_nat rfl)) ?_
          refine y_new rfl (Zad rfl rfl rfl rfl rfl rfl (by simp; omega) (win_set (by assumption) (by omega))) ?_
          refine AOps.nil (ARun.region ?_); refine xm ?_
          refine y_op rfl (q_shr rfl rfl (by omega) nshr32) ?_
          refine xa ?_; refine AOps.nil (ARun.inBlock (ARun.region ?_)); refine xm ?_
          refine y_op rfl (q_add rfl rfl (nadd1_i64 (by omega))) ?_
          refine xa ?_; refine AOps.nil ?_
          refine ARun.again (ih4 ((p + 1, (c + (ys.getD p 0 + dig (b * 2 ^ s) p)) / 4294967296, ys.set p ((c + (ys.getD p 0 + dig (b * 2 ^ s) p)) % 4294967296))) ?_ ?_) ?_ ?_
          · (obtain ⟨k1, k2, k3, k4⟩ := back_step y1 y2 hzl (by omega) y4 (y5 p (Nat.le_refl _)) y6; exact ⟨k1, k2, by dsimp only; omega, k3, fun x hx => by rw [getD_set_ne (by omega)]; exact y5 x (by omega), k4⟩)
          · (dsimp only; omega)
          · (repeat' first | exact envLe_nil | apply envLe_any | apply envLe_same)
          rfl
        have hpn : p = (lim b).length + 1 := by omega
        subst hpn
        rw [List.take_of_length_le (by omega), List.take_of_length_le (by omega), Nat.mod_eq_of_lt hdn] at y6
        obtain ⟨b1, b2, b3⟩ := dv_back ht hvl y6 y4 hd0
        refine ARun.exit rfl ?_
        refine ARun.region ?_; refine xm ?_; refine xm ?_
        refine y_op rfl (q_sub rfl rfl (nsub_u64 (by omega) (by omega))) ?_
        refine xa ?_; refine AOps.nil (ARun.inBlock ?_)
        refine ARun.again (ih3 ((h - 1, 1 - c, ys)) ?_ ?_) ?_ ?_
        · exact ⟨y1, y2, by dsimp only; omega, b3, b2, by dsimp only; omega⟩
        · (dsimp only; omega)
        · (repeat' first | exact envLe_nil | apply envLe_any | apply envLe_same)
        rfl
      obtain rfl : bw = 0 := by omega
      rw [Nat.mul_zero, Nat.add_zero] at ht
      obtain ⟨r1, r2⟩ := k.exact (q := h) hq1 (by omega)
      have hst := hI.step (by rw [s2]; exact hdB) (by omega) (by omega) hz (by rw [s2]; exact hzl) (by rw [s2]; omega) hd0
      rw [s2, ← r1] at hst
      have hm : h % 4294967296 = h := Nat.mod_eq_of_lt hq2
      refine ARun.exit rfl ?_
      refine ARun.region ?_; refine xm ?_; refine xm ?_; refine xm ?_
      refine y_op rfl (q_conv rfl rfl rfl nconv_u32) ?_
      refine y_op rfl (Zah rfl rfl rfl rfl rfl (by omega) (by omega) (idx_nat rfl)) ?_
      refine y_new rfl (Zad rfl rfl rfl rfl rfl rfl (by simp; omega) nts_set) ?_
      refine AOps.nil (ARun.inBlock (ARun.region ?_)); refine xm ?_
      refine y_op rfl (q_sub rfl rfl (IntWalk.i64_in _ (by omega))) ?_
      refine xa ?_; refine AOps.nil ?_
      refine ARun.again (ih1 ((i, us.take i ++ zs ++ us.drop (i + ((lim b).length + 1)), qs.set i (h % 4294967296))) ?_ ?_) ?_ ?_
      · exact ⟨by dsimp only; rw [hm, s2]; exact hst, by simp; omega, by simpa using hql, by simp; omega⟩
      · (dsimp only; omega)
      · (repeat' first | exact envLe_nil | apply envLe_any | apply envLe_same)
      rfl
    have hj0 : j = 0 := by omega
    subst hj0
    obtain ⟨f1, f2⟩ := hI.fin
    refine ARun.exit rfl ?_
    refine ARun.seq (ARun.region ?_); refine xm ?_
    refine y_new rfl (n_call rfl rfl (.cons (.row rfl (pures_nts _)) .nil) (Zbq hI.uq hql (by omega)) rfl) ?_
    refine xm ?_
    refine y_new rfl (n_call rfl rfl (.cons (.row rfl (pures_nts _)) .nil) (Zbq hI.ur hul (by omega)) rfl) ?_
    refine xm ?_
    refine xc rfl rfl (ZlX _ s (by rw [f2]; exact Nat.le_trans (ln_mono (Nat.le_of_lt (Nat.mod_lt _ hd0))) (by omega)) (by omega)) ?_
    refine y_op rfl (Zal rfl rfl rfl rfl rfl) ?_
    refine y_new rfl (Zaa rfl rfl rfl rfl rfl rfl rfl rfl (Nat.le_of_ble_eq_true rfl) rfl) ?_
    refine AOps.nil ?_
    refine ARun.ret ?_
    refine ⟨_, _, _, ResR.cellA rfl rfl rfl rfl rfl rfl .nil, .cons (.same _) .nil, rfl, ?_⟩
    rw [f1, f2, Nat.mul_div_mul_right _ _ (Nat.two_pow_pos s), Nat.mul_mod_mul_right, Nat.mul_div_cancel _ (Nat.two_pow_pos s)]
    rfl
  have hU : U32 (lim (a * 2 ^ s) ++ [0]) := (U32_lim _).snoc (by decide)
  have hV : val (lim (a * 2 ^ s) ++ [0]) = a * 2 ^ s := by rw [val_append, val_lim]; simp [val]
  refine ARun.loop ?_
  refine ARun.seq (ARun.seq (ARun.region ?_)); refine xm ?_
  refine y_op rfl (ZaF rfl rfl rfl) ?_
  refine xm ?_; refine xN ?_
  refine y_op rfl (q_intB rfl rfl rfl (decide_eq_true (by omega))) ?_
  refine AOps.nil ?_
  refine ARun.condT rfl ?_
  refine ARun.skip (ARun.block (ARun.region ?_)); refine xm ?_
  refine y_new rfl (Zai rfl rfl rfl rfl rfl rfl rfl rfl rfl rfl rfl (by decide) (by decide)) ?_
  refine y_new rfl (Zb2 (cs := nts .u32 (lim (a * 2 ^ s) ++ [0])) rfl rfl (by decide) rfl rfl rfl rfl rfl rfl rfl rfl rfl rfl rfl (by show (_ + 1) * 4 ≤ _; omega) (by rw [maxLen_eq]; omega) (nts_snoc (x := 0))) ?_
  refine xa ?_; refine AOps.nil (ARun.inBlock ?_)
  refine ARun.inLoop ?_
  refine ARun.seq (ARun.seq (ARun.region ?_)); refine xm ?_
  refine y_op rfl (ZaF rfl rfl rfl) ?_
  refine xm ?_; refine xN ?_
  refine y_op rfl (q_intB rfl rfl rfl (decide_eq_false (by omega))) ?_
  refine AOps.nil ?_
  refine ARun.condF rfl ?_
  refine ARun.exit rfl ?_
  refine ARun.seq (ARun.region ?_); refine xm ?_; refine xN ?_; refine xm ?_
  refine y_op rfl (q_sub rfl rfl (nsub_i64 (by omega) (by omega))) ?_
  refine y_op rfl (q_add rfl rfl (nadd1_i64 (by omega))) ?_
  refine y_new rfl (Zas rfl rfl rfl rfl rfl rfl rfl (by omega) (by rw [maxLen_eq]; omega) (zeros_nts _)) ?_
  refine xa ?_; refine AOps.nil (ARun.seq (ARun.seq (ARun.region ?_))); refine xm ?_; refine xN ?_; refine xm ?_
  refine y_op rfl (q_sub (r := (((lim a).length - (lim b).length + 1 : Nat) : Int) - 1) rfl rfl (by rw [IntWalk.i64_in _ (by omega)]; omega)) ?_
  refine xa ?_; refine AOps.nil (ARun.block ?_)
  rw [show (lim (a * 2 ^ s)).length = (lim a).length by omega]
  refine ARun.loopI (S := Nat × List Nat × List Nat) (fun σ : Nat × List Nat × List Nat => [(11, .any), (12, .any), (13, .any), (14, .any), (15, .any), (16, .any), (17, .any), (18, .any), (65, .any), (66, .any), (67, .any), (68, .any), (69, .any), (70, .any), (71, .any), (72, .any), (73, .any), (74, .any), (75, .any), (76, .any), (77, .any), (78, .any), (79, .any), (80, .any), (81, .any), (82, .any), (83, .any), (84, .any), (85, .any), (86, .any), (87, .any), (88, .any), (89, .any), (90, .any), (91, .any), (92, .any), (93, .any), (94, .any), (95, .any), (96, .any), (97, .any), (98, .any), (99, .any), (100, .any), (101, .any), (102, .any), (103, .any), (104, .any), (105, .any), (106, .any), (107, .any), (108, .any), (109, .any), (110, .any), (111, .any), (112, .any), (113, .any), (114, .any), (115, .any), (116, .any), (117, .any), (118, .any), (119, .any), (120, .any), (121, .any), (122, .any), (123, .any), (124, .any), (125, .any), (126, .any), (127, .any), (128, .any), (129, .any), (130, .any), (131, .any), (132, .any), (133, .any), (134, .any), (135, .any), (136, .any), (137, .any), (138, .any), (139, .any), (140, .any), (141, .any), (142, .any), (143, .any), (144, .any), (145, .any), (146, .any), (147, .any), (148, .any), (149, .any), (150, .any), (151, .any), (152, .any), (153, .any), (154, .any), (155, .any), (156, .any), (157, .any), (158, .any), (159, .any), (160, .any), (161, .any), (162, .any), (163, .any), (164, .any), (165, .any), (166, .any), (167, .any), (168, .any), (10, .int .i64 ((σ.1 : Int) - 1))]) (fun σ : Nat × List Nat × List Nat => [some ⟨[.nilsl, .nilsl], Zaf, 1, true, none⟩, none, some ⟨[.int .u32 0], Zae, 1, true, none⟩, some ⟨nts .u32 σ.2.1, Zae, 1, true, none⟩, some ⟨nts .u32 σ.2.2, Zae, 1, true, none⟩]) (fun σ : Nat × List Nat × List Nat => Ld (a * 2 ^ s) (b * 2 ^ s) (lim (b * 2 ^ s)).length σ.1 σ.2.1 σ.2.2 ∧ σ.2.1.length = (lim a).length + 1 ∧ σ.2.2.length = (lim a).length - (lim b).length + 1 ∧ σ.1 ≤ σ.2.2.length) (fun σ : Nat × List Nat × List Nat => σ.1) (((lim a).length - (lim b).length + 1, lim (a * 2 ^ s) ++ [0], List.replicate ((lim a).length - (lim b).length + 1) 0)) ?_ ?_ ?_ ?_
  · exact ⟨ld_start hU hV (by omega) s1 (by rw [s2]; exact s3) (by omega), by simp; omega, by simp, by simp⟩
  · (repeat' first | exact envLe_nil | apply envLe_any | apply envLe_same)
  · rfl
  rintro ⟨j, us, qs⟩ hinv ih1
  dsimp only at hinv ih1 ⊢
  obtain ⟨hI, hul, hql, hj⟩ := hinv
  refine ARun.seq (ARun.seq (ARun.region ?_)); refine xm ?_; refine xi ?_; refine AOps.nil ?_
  refine ARun.ite rfl (fun h3 => ?_) (fun h3 => ?_)
  · skip
    obtain ⟨i, rfl⟩ : ∃ i, j = i + 1 := ⟨j - 1, by omega⟩
    rw [show (((i + 1 : Nat) : Int) - 1) = (i : Int) by omega]
    obtain ⟨w1, w2, w3⟩ := hI.win (by rw [s2]; exact hdB) (by omega)
    rw [s2] at w1 w2 w3
    have hwl : ((us.drop i).take ((lim b).length + 1)).length = (lim b).length + 1 := by rw [List.length_take, List.length_drop]; omega
    have hwu : U32 ((us.drop i).take ((lim b).length + 1)) := (hI.ur.drop i).take _
    have k := Kn.of (m := (lim b).length - 2) (n := (lim b).length) (by have h : ¬ ((lim b).length : Int) = 1 := (by simpa using h1); omega) s2 s3 hwu hwl w2
    have q0 := k.first
    rw [getD_win (by omega), getD_win (by omega)] at q0
    have hwin := win_split us i ((lim b).length + 1)
    have hpre : (us.take i).length = i := by rw [List.length_take]; omega
    have g0 := hI.ur.get (i + (lim b).length)
    have g1 := hI.ur.get (i + (lim b).length - 1)
    have g2 := k.hv1
    have g3 := k.hv1'
    have e1 : i + ((lim b).length - 1) = i + (lim b).length - 1 := by omega
    rw [e1] at q0
    refine ARun.skip (ARun.seq (ARun.block (ARun.seq ?_)))
    refine ARun.drawnP 25 (fun _ => False) mixC rfl rfl (by kernel_rfl) (fun _ _ h => h.elim) ?_
    refine .op rfl (q_move rfl) ?_
    refine .op rfl (q_move rfl) ?_
    refine .op rfl (q_move rfl) ?_
    refine .op rfl (q_add rfl rfl (nadd_i64 (by omega))) ?_
    refine .op rfl (Zah rfl rfl rfl rfl rfl (by omega) (by omega) (idx_nat rfl)) ?_
    refine .op rfl (Zac rfl rfl rfl rfl (nts_get (by omega))) ?_
    refine .op rfl (q_conv rfl rfl rfl (nconv_u64 (by omega))) ?_
    refine .op rfl (q_shl rfl rfl (by omega) (nshl_u64 (s := 32) rfl (by omega) (by omega))) ?_
    refine .op rfl (q_move rfl) ?_
    refine .op rfl (q_move rfl) ?_
    refine .op rfl (q_move rfl) ?_
    refine .op rfl (q_add rfl rfl (nadd_i64 (by omega))) ?_
    refine .op rfl (q_sub rfl rfl (nsub1_i64 (by omega) (by omega))) ?_
    refine .op rfl (Zah rfl rfl rfl rfl rfl (by omega) (by omega) (idx_nat rfl)) ?_
    refine .op rfl (Zac rfl rfl rfl rfl (nts_get (by omega))) ?_
    refine .op rfl (q_conv rfl rfl rfl (nconv_u64 (by omega))) ?_
    refine .op rfl (q_add rfl rfl (nadd_u64 (by omega))) ?_
    refine .op rfl (q_move rfl) ?_
    refine .op rfl (q_move rfl) ?_
    refine .op rfl (q_sub rfl rfl (nsub1_i64 (by omega) (by omega))) ?_
    refine .op rfl (Zaj rfl rfl rfl rfl (by omega) (by omega) (nts_ne (by omega)) (drop_nat rfl)) ?_
    refine .op rfl (q_load rfl rfl rfl (lim_load (by omega))) ?_
    refine .op rfl (q_conv rfl rfl rfl (nconv_u64 (by omega))) ?_
    refine .op rfl (q_quo rfl rfl (by omega) (nquo_u64 rfl (by omega))) ?_
    refine .op rfl (q_minR rfl rfl (nmin (n := 4294967295))) ?_
    refine .nil (fun hG => ?_)
    refine xa ?_; refine AOps.nil (ARun.seq (ARun.region ?_)); refine xa ?_; refine AOps.nil (ARun.seq (ARun.region ?_)); refine xa ?_; refine AOps.nil (ARun.seq (ARun.seq (ARun.region ?_))); refine xa ?_; refine AOps.nil (ARun.block ?_)
    obtain ⟨q, hq⟩ : ∃ q, q = min ((us.getD (i + (lim b).length) 0 * 2 ^ 32 + us.getD (i + (lim b).length - 1) 0) / dig (b * 2 ^ s) ((lim b).length - 1)) 4294967295 := ⟨_, rfl⟩
    rw [← hq]
    have q1 : val ((us.drop i).take ((lim b).length + 1)) / (b * 2 ^ s) ≤ q := by
      rw [hq, Nat.add_comm (us.getD (i + (lim b).length) 0 * 2 ^ 32)]; exact q0
    have q2 : q < 4294967296 := by rw [hq]; exact Nat.lt_succ_of_le (Nat.min_le_right _ _)
    clear hq q0
    have hdn : b * 2 ^ s < B ^ ((lim b).length + 1) := Nat.lt_of_lt_of_le hdB (Nat.pow_le_pow_right B_pos (Nat.le_succ _))
    have hqd : q * (b * 2 ^ s) < B ^ ((lim b).length + 1) := by
      rw [Nat.pow_succ, Nat.mul_comm]
      exact Nat.mul_lt_mul'' hdB (by rw [B_eq]; exact q2)
    refine ARun.loopI (S := Nat × Nat × Nat × List Nat) (fun σ : Nat × Nat × Nat × List Nat => [(15, .any), (16, .any), (94, .any), (95, .any), (96, .any), (97, .any), (98, .any), (99, .any), (100, .any), (101, .any), (102, .any), (103, .any), (104, .any), (105, .any), (106, .any), (107, .any), (108, .any), (109, .any), (110, .any), (111, .any), (112, .any), (113, .any), (114, .any), (115, .any), (116, .any), (117, .any), (118, .any), (119, .any), (120, .any), (121, .any), (122, .any), (123, .any), (124, .any), (125, .any), (126, .any), (127, .any), (128, .any), (129, .any), (14, .int .i64 (σ.1 : Int)), (12, .int .u64 (σ.2.1 : Int)), (13, .int .u64 (σ.2.2.1 : Int))]) (fun σ : Nat × Nat × Nat × List Nat => [some ⟨[.nilsl, .nilsl], Zaf, 1, true, none⟩, none, some ⟨[.int .u32 0], Zae, 1, true, none⟩, some ⟨nts .u32 (us.take i ++ σ.2.2.2 ++ us.drop (i + ((lim b).length + 1))), Zae, 1, true, none⟩, some ⟨nts .u32 qs, Zae, 1, true, none⟩]) (fun σ : Nat × Nat × Nat × List Nat => U32 σ.2.2.2 ∧ σ.2.2.2.length = (lim b).length + 1 ∧ σ.1 ≤ (lim b).length + 1 ∧ σ.2.1 < 4294967296 ∧ σ.2.2.1 ≤ 1 ∧ (∀ x, σ.1 ≤ x → σ.2.2.2.getD x 0 = ((us.drop i).take ((lim b).length + 1)).getD x 0) ∧ σ.2.1 * B ^ σ.1 ≤ q * ((b * 2 ^ s) % B ^ σ.1) ∧ val (σ.2.2.2.take σ.1) + q * ((b * 2 ^ s) % B ^ σ.1) = val (((us.drop i).take ((lim b).length + 1)).take σ.1) + B ^ σ.1 * (σ.2.2.1 + σ.2.1)) (fun σ : Nat × Nat × Nat × List Nat => (lim b).length + 1 - σ.1) ((0, 0, 0, (us.drop i).take ((lim b).length + 1))) ?_ ?_ ?_ ?_
    · exact ⟨hwu, hwl, by simp, by simp, by simp, fun p _ => rfl, by simp, by simp [val, Nat.mod_one]⟩
    · (repeat' first | exact envLe_nil | apply envLe_any | apply envLe_same)
    · exact congrArg (fun l => [some ⟨[.nilsl, .nilsl], Zaf, 1, true, none⟩, none, some ⟨[.int .u32 0], Zae, 1, true, none⟩, some (AObj.mk (nts .u32 l) Zae 1 true none), some (AObj.mk (nts .u32 qs) Zae 1 true none)]) hwin
    rintro ⟨p, c, bw, zs⟩ hinv2 ih2
    dsimp only at hinv2 ih2 ⊢
    obtain ⟨hz, hzl, hp, hc, hbw, hzw, hcb, hv⟩ := hinv2
    refine ARun.seq (ARun.seq (ARun.region ?_)); refine xm ?_; refine xm ?_; refine xi ?_; refine AOps.nil ?_
    refine ARun.ite rfl (fun h4 => ?_) (fun h4 => ?_)
    · skip
      have d1 := dig_lt (b * 2 ^ s) p
      have m := mul_bound q2 d1
      have m2 : dig (b * 2 ^ s) p * q ≤ 18446744065119617025 := by rw [Nat.mul_comm]; exact m
      have d2 := hz.get p
      have hlo : (c + q * dig (b * 2 ^ s) p) % 4294967296 < 4294967296 := Nat.mod_lt _ (by decide)
      have es : dig (b * 2 ^ s) p * q + c = c + q * dig (b * 2 ^ s) p := by rw [Nat.mul_comm, Nat.add_comm]
      refine ARun.skip (ARun.seq (ARun.block (ARun.seq (ARun.region ?_)))); refine xm ?_; refine xm ?_
      refine xc rfl rfl (ZaW (b * 2 ^ s) p) ?_
      refine xm ?_
      refine y_op rfl (q_mul rfl rfl (nmul_u64 (by omega))) ?_
      refine xm ?_
      refine y_op rfl (q_add rfl rfl (nadd_u64 (by omega))) ?_
      refine xa ?_
      rw [es]
      refine AOps.nil (ARun.seq (ARun.region ?_)); refine xm ?_
      refine y_op rfl (q_shr rfl rfl (by omega) nshr32) ?_
      refine xa ?_; refine AOps.nil (ARun.seq (ARun.region ?_)); refine xm ?_; refine xm ?_; refine xm ?_
      refine y_op rfl (q_add rfl rfl (nadd_i64 (by omega))) ?_
      refine y_op rfl (Zah rfl rfl rfl rfl rfl (by omega) (by omega) (idx_nat rfl)) ?_
      refine y_op rfl (Zac rfl rfl rfl rfl (win_get (by assumption) (by omega))) ?_
      refine y_op rfl (q_conv rfl rfl rfl (nconv_u64 (by omega))) ?_
      refine xm ?_
      refine y_op rfl (q_conv rfl rfl rfl nconv_u32) ?_
      refine y_op rfl (q_conv rfl rfl rfl (nconv_u64 (by omega))) ?_
      refine y_op rfl (q_sub rfl rfl rfl) ?_
      refine xm ?_
      refine y_op rfl (q_sub rfl rfl rfl) ?_
      refine xa ?_; refine AOps.nil (ARun.seq (ARun.region ?_)); refine xm ?_; refine xm ?_; refine xm ?_
      refine y_op rfl (q_add rfl rfl (nadd_i64 (by omega))) ?_
      refine xm ?_
      refine y_op rfl (q_conv rfl rfl rfl (sub_lo d2 hlo hbw)) ?_
      refine y_op rfl (Zah rfl rfl rfl rfl rfl (by omega) (by omega) (idx_nat rfl)) ?_
      refine y_new rfl (Zad rfl rfl rfl rfl rfl rfl (by simp; omega) (win_set (by assumption) (by omega))) ?_
      refine AOps.nil (ARun.region ?_); refine xm ?_
      refine y_op rfl (q_shr rfl rfl (by omega) (sub_c d2 hlo hbw)) ?_
      refine xa ?_; refine AOps.nil (ARun.inBlock (ARun.region ?_)); refine xm ?_
      refine y_op rfl (q_add rfl rfl (nadd1_i64 (by omega))) ?_
      refine xa ?_; refine AOps.nil ?_
      refine ARun.again (ih2 ((p + 1, (c + q * dig (b * 2 ^ s) p) / 4294967296, subC (zs.getD p 0) ((c + q * dig (b * 2 ^ s) p) % 4294967296) bw, zs.set p (subLo (zs.getD p 0) ((c + q * dig (b * 2 ^ s) p) % 4294967296) bw))) ?_ ?_) ?_ ?_
      · (obtain ⟨k1, k2, k3, k4, k5, k6⟩ := tk_step (w := zs.getD p 0) hz hzl (by omega) q2 hc hbw d2 hwl (hzw p (Nat.le_refl _)).symm hcb hv; exact ⟨k1, k2, by dsimp only; omega, k3, k4, fun x hx => by rw [getD_set_ne (by omega)]; exact hzw x (by omega), k5, k6⟩)
      · (dsimp only; omega)
      · (repeat' first | exact envLe_nil | apply envLe_any | apply envLe_same)
      rfl
    have hpn : p = (lim b).length + 1 := by omega
    subst hpn
    have ht := tk_end hzl hwl hqd hdn hcb hv
    clear hcb hv hzw
    refine ARun.exit rfl ?_
    refine ARun.seq (ARun.block ?_)
    refine ARun.loopI (S := Nat × Nat × List Nat) (fun σ : Nat × Nat × List Nat => [(12, .any), (17, .any), (18, .any), (130, .any), (131, .any), (132, .any), (133, .any), (134, .any), (135, .any), (136, .any), (137, .any), (138, .any), (139, .any), (140, .any), (141, .any), (142, .any), (143, .any), (144, .any), (145, .any), (146, .any), (147, .any), (148, .any), (149, .any), (150, .any), (151, .any), (152, .any), (153, .any), (154, .any), (155, .any), (156, .any), (157, .any), (158, .any), (159, .any), (160, .any), (161, .any), (162, .any), (163, .any), (11, .int .u64 (σ.1 : Int)), (13, .int .u64 (σ.2.1 : Int))]) (fun σ : Nat × Nat × List Nat => [some ⟨[.nilsl, .nilsl], Zaf, 1, true, none⟩, none, some ⟨[.int .u32 0], Zae, 1, true, none⟩, some ⟨nts .u32 (us.take i ++ σ.2.2 ++ us.drop (i + ((lim b).length + 1))), Zae, 1, true, none⟩, some ⟨nts .u32 qs, Zae, 1, true, none⟩]) (fun σ : Nat × Nat × List Nat => U32 σ.2.2 ∧ σ.2.2.length = (lim b).length + 1 ∧ σ.2.1 ≤ 1 ∧ val σ.2.2 + σ.1 * (b * 2 ^ s) = val ((us.drop i).take ((lim b).length + 1)) + B ^ ((lim b).length + 1) * σ.2.1 ∧ val ((us.drop i).take ((lim b).length + 1)) / (b * 2 ^ s) ≤ σ.1 ∧ σ.1 < 4294967296) (fun σ : Nat × Nat × List Nat => σ.1) ((q, bw, zs)) ?_ ?_ ?_ ?_
    · exact ⟨hz, hzl, hbw, ht, q1, q2⟩
    · (repeat' first | exact envLe_nil | apply envLe_any | apply envLe_same)
    · rfl
    rintro ⟨h, bw, zs⟩ hinv3 ih3
    dsimp only at hinv3 ih3 ⊢
    clear ht hz hzl hbw
    obtain ⟨hz, hzl, hbw, ht, hq1, hq2⟩ := hinv3
    refine ARun.seq (ARun.seq (ARun.region ?_)); refine xm ?_; refine xi ?_; refine AOps.nil ?_
    refine ARun.ite rfl (fun h5 => ?_) (fun h5 => ?_)
    · skip
      obtain rfl : bw = 1 := by omega
      have hvl := val_lt hz
      rw [hzl] at hvl
      have hh1 : 1 ≤ h := by
        rcases Nat.eq_zero_or_pos h with h0 | h0
        · rw [h0, Nat.zero_mul] at ht; omega
        exact h0
      refine ARun.skip (ARun.block (ARun.seq (ARun.region ?_))); refine xm ?_
      refine y_op rfl (q_sub rfl rfl (nsub_u64 (n := 1) (by omega) (by omega))) ?_
      refine xa ?_; refine AOps.nil (ARun.seq (ARun.region ?_)); refine xa ?_; refine AOps.nil (ARun.seq (ARun.seq (ARun.region ?_))); refine xa ?_; refine AOps.nil (ARun.block ?_)
      refine ARun.loopI (S := Nat × Nat × List Nat) (fun σ : Nat × Nat × List Nat => [(18, .any), (134, .any), (135, .any), (136, .any), (137, .any), (138, .any), (139, .any), (140, .any), (141, .any), (142, .any), (143, .any), (144, .any), (145, .any), (146, .any), (147, .any), (148, .any), (149, .any), (150, .any), (151, .any), (152, .any), (153, .any), (154, .any), (155, .any), (156, .any), (157, .any), (158, .any), (159, .any), (160, .any), (17, .int .i64 (σ.1 : Int)), (12, .int .u64 (σ.2.1 : Int))]) (fun σ : Nat × Nat × List Nat => [some ⟨[.nilsl, .nilsl], Zaf, 1, true, none⟩, none, some ⟨[.int .u32 0], Zae, 1, true, none⟩, some ⟨nts .u32 (us.take i ++ σ.2.2 ++ us.drop (i + ((lim b).length + 1))), Zae, 1, true, none⟩, some ⟨nts .u32 qs, Zae, 1, true, none⟩]) (fun σ : Nat × Nat × List Nat => U32 σ.2.2 ∧ σ.2.2.length = (lim b).length + 1 ∧ σ.1 ≤ (lim b).length + 1 ∧ σ.2.1 ≤ 1 ∧ (∀ x, σ.1 ≤ x → σ.2.2.getD x 0 = zs.getD x 0) ∧ val (σ.2.2.take σ.1) + B ^ σ.1 * σ.2.1 = val (zs.take σ.1) + (b * 2 ^ s) % B ^ σ.1) (fun σ : Nat × Nat × List Nat => (lim b).length + 1 - σ.1) ((0, 0, zs)) ?_ ?_ ?_ ?_
      · exact ⟨hz, hzl, by simp, by simp, fun p _ => rfl, by simp [val, Nat.mod_one]⟩
      · (repeat' first | exact envLe_nil | apply envLe_any | apply envLe_same)
      · rfl
      rintro ⟨p, c, ys⟩ hinv4 ih4
      dsimp only at hinv4 ih4 ⊢
      obtain ⟨y1, y2, y3, y4, y5, y6⟩ := hinv4
      refine ARun.seq (ARun.seq (ARun.region ?_)); refine xm ?_; refine xm ?_; refine xi ?_; refine AOps.nil ?_
      refine ARun.ite rfl (fun h6 => ?_) (fun h6 => ?_)
      · skip
        have n1 := y1.get p
        have n2 := dig_lt (b * 2 ^ s) p
        have es : ys.getD p 0 + dig (b * 2 ^ s) p + c = c + (ys.getD p 0 + dig (b * 2 ^ s) p) := Nat.add_comm _ _
        refine ARun.skip (ARun.seq (ARun.block (ARun.seq ?_)))
        refine ARun.drawnP 13 (fun _ => False) mixC rfl rfl (by kernel_rfl) (fun _ _ h => h.elim) ?_
        refine .op rfl (q_move rfl) ?_
        refine .op rfl (q_move rfl) ?_
        refine .op rfl (q_move rfl) ?_
        refine .op rfl (q_add rfl rfl (nadd_i64 (by omega))) ?_
        refine .op rfl (Zah rfl rfl rfl rfl rfl (by omega) (by omega) (idx_nat rfl)) ?_
        refine .op rfl (Zac rfl rfl rfl rfl (win_get (by assumption) (by omega))) ?_
        refine .op rfl (q_conv rfl rfl rfl (nconv_u64 (by omega))) ?_
        refine .op rfl (q_move rfl) ?_
        refine .op rfl (q_move rfl) ?_
        refine .op rfl (q_call rfl rfl (ZaW (b * 2 ^ s) p)) ?_
        refine .op rfl (q_add rfl rfl (nadd_u64 (by omega))) ?_
        refine .op rfl (q_move rfl) ?_
        refine .op rfl (q_add rfl rfl (nadd_u64 (by omega))) ?_
        refine .nil (fun hG => ?_)
        refine xa ?_
        rw [es]
        refine AOps.nil (ARun.seq (ARun.region ?_)); refine xm ?_; refine xm ?_; refine xm ?_
        refine y_op rfl (q_add rfl rfl (nadd_i64 (by omega))) ?_
        refine xm ?_
        refine y_op rfl (q_conv rfl rfl rfl nconv_u32) ?_
        refine y_op rfl (Zah rfl rfl rfl rfl rfl (by omega) (by omega) (idx_nat rfl)) ?_
        refine y_new rfl (Zad rfl rfl rfl rfl rfl rfl (by simp; omega) (win_set (by assumption) (by omega))) ?_
        refine AOps.nil (ARun.region ?_); refine xm ?_
        refine y_op rfl (q_shr rfl rfl (by omega) nshr32) ?_
        refine xa ?_; refine AOps.nil (ARun.inBlock (ARun.region ?_)); refine xm ?_
        refine y_op rfl (q_add rfl rfl (nadd1_i64 (by omega))) ?_
        refine xa ?_; refine AOps.nil ?_
        refine ARun.again (ih4 ((p + 1, (c + (ys.getD p 0 + dig (b * 2 ^ s) p)) / 4294967296, ys.set p ((c + (ys.getD p 0 + dig (b * 2 ^ s) p)) % 4294967296))) ?_ ?_) ?_ ?_
        · (obtain ⟨k1, k2, k3, k4⟩ := back_step y1 y2 hzl (by omega) y4 (y5 p (Nat.le_refl _)) y6; exact ⟨k1, k2, by dsimp only; omega, k3, fun x hx => by rw [getD_set_ne (by omega)]; exact y5 x (by omega), k4⟩)
        · (dsimp only; omega)
        · (repeat' first | exact envLe_nil | apply envLe_any | apply envLe_same)
        rfl
      have hpn : p = (lim b).length + 1 := by omega
      subst hpn
      rw [List.take_of_length_le (by omega), List.take_of_length_le (by omega), Nat.mod_eq_of_lt hdn] at y6
      obtain ⟨b1, b2, b3⟩ := dv_back ht hvl y6 y4 hd0
      refine ARun.exit rfl ?_
      refine ARun.region ?_; refine xm ?_; refine xm ?_
      refine y_op rfl (q_sub rfl rfl (nsub_u64 (by omega) (by omega))) ?_
      refine xa ?_; refine AOps.nil (ARun.inBlock ?_)
      refine ARun.again (ih3 ((h - 1, 1 - c, ys)) ?_ ?_) ?_ ?_
      · exact ⟨y1, y2, by dsimp only; omega, b3, b2, by dsimp only; omega⟩
      · (dsimp only; omega)
      · (repeat' first | exact envLe_nil | apply envLe_any | apply envLe_same)
      rfl
    obtain rfl : bw = 0 := by omega
    rw [Nat.mul_zero, Nat.add_zero] at ht
    obtain ⟨r1, r2⟩ := k.exact (q := h) hq1 (by omega)
    have hst := hI.step (by rw [s2]; exact hdB) (by omega) (by omega) hz (by rw [s2]; exact hzl) (by rw [s2]; omega) hd0
    rw [s2, ← r1] at hst
    have hm : h % 4294967296 = h := Nat.mod_eq_of_lt hq2
    refine ARun.exit rfl ?_
    refine ARun.region ?_; refine xm ?_; refine xm ?_; refine xm ?_
    refine y_op rfl (q_conv rfl rfl rfl nconv_u32) ?_
    refine y_op rfl (Zah rfl rfl rfl rfl rfl (by omega) (by omega) (idx_nat rfl)) ?_
    refine y_new rfl (Zad rfl rfl rfl rfl rfl rfl (by simp; omega) nts_set) ?_
    refine AOps.nil (ARun.inBlock (ARun.region ?_)); refine xm ?_
    refine y_op rfl (q_sub rfl rfl (IntWalk.i64_in _ (by omega))) ?_
    refine xa ?_; refine AOps.nil ?_
    refine ARun.again (ih1 ((i, us.take i ++ zs ++ us.drop (i + ((lim b).length + 1)), qs.set i (h % 4294967296))) ?_ ?_) ?_ ?_
    · exact ⟨by dsimp only; rw [hm, s2]; exact hst, by simp; omega, by simpa using hql, by simp; omega⟩
    · (dsimp only; omega)
    · (repeat' first | exact envLe_nil | apply envLe_any | apply envLe_same)
    rfl
  have hj0 : j = 0 := by omega
  subst hj0
  obtain ⟨f1, f2⟩ := hI.fin
  refine ARun.exit rfl ?_
  refine ARun.seq (ARun.region ?_); refine xm ?_
  refine y_new rfl (n_call rfl rfl (.cons (.row rfl (pures_nts _)) .nil) (Zbq hI.uq hql (by omega)) rfl) ?_
  refine xm ?_
  refine y_new rfl (n_call rfl rfl (.cons (.row rfl (pures_nts _)) .nil) (Zbq hI.ur hul (by omega)) rfl) ?_
  refine xm ?_
  refine xc rfl rfl (ZlX _ s (by rw [f2]; exact Nat.le_trans (ln_mono (Nat.le_of_lt (Nat.mod_lt _ hd0))) (by omega)) (by omega)) ?_
  refine y_op rfl (Zal rfl rfl rfl rfl rfl) ?_
  refine y_new rfl (Zaa rfl rfl rfl rfl rfl rfl rfl rfl (Nat.le_of_ble_eq_true rfl) rfl) ?_
  refine AOps.nil ?_
  refine ARun.ret ?_
  refine ⟨_, _, _, ResR.cellA rfl rfl rfl rfl rfl rfl .nil, .cons (.same _) .nil, rfl, ?_⟩
  rw [f1, f2, Nat.mul_div_mul_right _ _ (Nat.two_pow_pos s), Nat.mul_mod_mul_right, Nat.mul_div_cancel _ (Nat.two_pow_pos s)]
  rfl
end Go.V
set_option maxHeartbeats 4000000
set_option maxRecDepth 100000
set_option synthInstance.maxSize 100000
set_option synthInstance.maxHeartbeats 2000000
namespace Go.V
open Go.RowKit Go.Proofs
end Go.V
set_option maxHeartbeats 4000000
set_option maxRecDepth 100000
set_option synthInstance.maxSize 100000
set_option synthInstance.maxHeartbeats 2000000
namespace Go.V
open Go.RowKit Go.Proofs
end Go.V
set_option maxHeartbeats 4000000
set_option maxRecDepth 100000
set_option synthInstance.maxSize 100000
set_option synthInstance.maxHeartbeats 2000000
namespace Go.V
open Go.RowKit Go.Proofs
end Go.V
set_option maxHeartbeats 4000000
set_option maxRecDepth 100000
set_option synthInstance.maxSize 100000
set_option synthInstance.maxHeartbeats 2000000
namespace Go.V
open Go.RowKit Go.Proofs
structure Iv (a m : Int) (b c X Y : Nat) (s : Int) : Prop where
  sg : s = 1 ∨ s = -1
  e1 : ∃ k : Int, a * (-s * X) + m * k = b
  e2 : ∃ k : Int, a * (s * Y) + m * k = c
  sum : X * c + Y * b = m.natAbs
  hX : X ≤ m.natAbs
  hb : 0 < b
  g : Nat.gcd b c = 1
  bm : b ≤ m.natAbs
  cm : c ≤ m.natAbs
theorem Iv.init {a m x0 y0 : Int} (hm : 0 < m) (h : a * x0 + m * y0 = 1) : Iv a m m.natAbs (a % m).natAbs 0 1 1 := by
  have hr := Int.emod_nonneg a (show m ≠ 0 by omega)
  have hr2 := Int.emod_lt_of_pos a hm
  have hd := Int.mul_ediv_add_emod a m
  refine ⟨.inl rfl, ⟨1, by simp; omega⟩, ⟨-(a / m), ?_⟩, by simp, Nat.zero_le _, by omega, ?_, Nat.le_refl _, by omega⟩
  · have : ((a % m).natAbs : Int) = a % m := by omega
    rw [this, Int.mul_neg]
    show a * (1 * 1) + -(m * (a / m)) = a % m
    rw [Int.one_mul, Int.mul_one]
    omega
  have hg1 : ((Nat.gcd m.natAbs (a % m).natAbs : Nat) : Int) ∣ m := Int.ofNat_dvd_left.2 (Nat.gcd_dvd_left _ _)
  have hg2 : ((Nat.gcd m.natAbs (a % m).natAbs : Nat) : Int) ∣ (a % m) := Int.ofNat_dvd_left.2 (Nat.gcd_dvd_right _ _)
  have hg3 : ((Nat.gcd m.natAbs (a % m).natAbs : Nat) : Int) ∣ a := by
    have h5 := Int.dvd_add (Int.dvd_trans hg1 (Int.dvd_mul_right m (a / m))) hg2
    rwa [hd] at h5
  have hg4 : ((Nat.gcd m.natAbs (a % m).natAbs : Nat) : Int) ∣ 1 := by
    rw [← h]; exact Int.dvd_add (Int.dvd_trans hg3 (Int.dvd_mul_right _ _)) (Int.dvd_trans hg1 (Int.dvd_mul_right _ _))
  have := Int.le_of_dvd (by decide) hg4
  have hpos : 0 < Nat.gcd m.natAbs (a % m).natAbs := Nat.gcd_pos_of_pos_left _ (by omega)
  omega
theorem Iv.step {a m : Int} {b c X Y : Nat} {s : Int} (h : Iv a m b c X Y s) (hc : 0 < c) : Iv a m c (b % c) Y (X + b / c * Y) (-s) := by
  obtain ⟨k1, e1⟩ := h.e1
  obtain ⟨k2, e2⟩ := h.e2
  have hdm := Nat.div_add_mod b c
  have hdmZ : (c : Int) * ((b / c : Nat) : Int) + ((b % c : Nat) : Int) = (b : Int) := by rw [← Int.natCast_mul, ← Int.natCast_add, hdm]
  have hY : Y ≤ m.natAbs := by
    have := h.sum
    have h2 : Y * 1 ≤ Y * b := Nat.mul_le_mul_left _ h.hb
    omega
  refine ⟨by rcases h.sg with e | e <;> omega, ⟨k2, ?_⟩, ⟨k1 - ((b / c : Nat) : Int) * k2, ?_⟩, ?_, hY, hc, ?_, h.cm, Nat.le_trans (Nat.le_of_lt (Nat.mod_lt _ hc)) h.cm⟩
  · rw [Int.neg_neg]; exact e2
  · have e3 : ((b % c : Nat) : Int) = (a * (-s * X) + m * k1) - ((b / c : Nat) : Int) * (a * (s * Y) + m * k2) := by
      rw [e1, e2, Int.mul_comm ((b / c : Nat) : Int)]; omega
    rw [e3]
    push_cast
    simp only [Int.mul_add, Int.mul_sub, Int.neg_mul, Int.mul_neg]
    have t1 : a * (s * (((b : Int) / (c : Int)) * (Y : Int))) = ((b : Int) / (c : Int)) * (a * (s * (Y : Int))) := by
      rw [Int.mul_left_comm s, Int.mul_left_comm a]
    have t2 : m * (((b : Int) / (c : Int)) * k2) = ((b : Int) / (c : Int)) * (m * k2) := Int.mul_left_comm _ _ _
    rw [t1, t2]
    omega
  · have h1 := h.sum
    have h2 : Y * b = Y * (c * (b / c)) + Y * (b % c) := by rw [← Nat.mul_add, hdm]
    have h3 : (X + b / c * Y) * c = X * c + Y * (c * (b / c)) := by
      rw [Nat.add_mul]; congr 1
      simp only [Nat.mul_comm, Nat.mul_left_comm]
    omega
  rw [← h.g, Nat.gcd_comm b c, Nat.gcd_rec c b, Nat.gcd_comm]
theorem Iv.fin {a m x0 y0 : Int} {b X Y : Nat} {s : Int} (hm : 0 < m) (h0 : a * x0 + m * y0 = 1) (h : Iv a m b 0 X Y s) : (-s * X) % m = x0 % m := by
  have hb : b = 1 := by have := h.g; rwa [Nat.gcd_zero_right] at this
  obtain ⟨k, e⟩ := h.e1
  rw [hb] at e
  generalize -s * (X : Int) = x at e
  rw [Int.emod_eq_emod_iff_emod_sub_eq_zero]
  apply Int.emod_eq_zero_of_dvd
  refine ⟨x0 * (y0 - k) + y0 * (x - x0), ?_⟩
  have e1 : x - x0 = (a * x0 + m * y0) * (x - x0) := by rw [h0, Int.one_mul]
  have e2 : a * (x - x0) = m * (y0 - k) := by
    rw [Int.mul_sub, Int.mul_sub]; push_cast at e; omega
  have e3 : (a * x0 + m * y0) * (x - x0) = x0 * (a * (x - x0)) + m * (y0 * (x - x0)) := by
    rw [Int.add_mul, Int.mul_comm a x0, Int.mul_assoc, Int.mul_assoc]
  have e4 : (a * x0 + m * y0) * (x - x0) = m * (x0 * (y0 - k) + y0 * (x - x0)) := by rw [e3, e2, Int.mul_add, Int.mul_left_comm x0 m]
  exact e1.trans e4
end Go.V
set_option maxHeartbeats 4000000
set_option maxRecDepth 100000
set_option synthInstance.maxSize 100000
set_option synthInstance.maxHeartbeats 2000000
namespace Go.V
open Go.RowKit Go.Proofs
end Go.V
set_option maxHeartbeats 4000000
set_option synthInstance.maxSize 100000
set_option synthInstance.maxHeartbeats 2000000
namespace Go.V
open Go.RowKit Go.Proofs
end Go.V
set_option maxHeartbeats 8000000
set_option maxRecDepth 100000
set_option synthInstance.maxSize 100000
set_option synthInstance.maxHeartbeats 2000000
namespace Go.V
open Go.RowKit Go.Proofs
end Go.V
set_option maxHeartbeats 4000000
set_option maxRecDepth 100000
set_option synthInstance.maxSize 100000
set_option synthInstance.maxHeartbeats 2000000
namespace Go.V
open Go.RowKit Go.Proofs
end Go.V
/- THE FOUR WAYS OF DIVISION: what quotients and rests satisfy: plain Lean. -/
namespace Go.V
structure DvF (k a b q r : Int) : Prop where
  e : q * b + r = a
  lt : r.natAbs < b.natAbs
  f1 : k = 1 → r ≠ 0 → decide (r < 0) = decide (a < 0)
  f2 : k = 2 → r ≠ 0 → decide (r < 0) = decide (b < 0)
  f3 : k = 3 → ¬ r < 0
  f4 : k = 4 → 2 * r.natAbs < b.natAbs ∨ (2 * r.natAbs = b.natAbs ∧ q.natAbs % 2 = 0)
  lq : q.natAbs ≤ a.natAbs + 1
end Go.V
set_option maxHeartbeats 8000000
set_option maxRecDepth 100000
set_option synthInstance.maxSize 100000
set_option synthInstance.maxHeartbeats 2000000
namespace Go.V
open Go.RowKit Go.Proofs
end Go.V
set_option maxHeartbeats 8000000
set_option maxRecDepth 100000
set_option synthInstance.maxSize 100000
set_option synthInstance.maxHeartbeats 2000000
namespace Go.V
open Go.RowKit Go.Proofs
end Go.V
set_option maxHeartbeats 4000000
set_option maxRecDepth 100000
set_option synthInstance.maxSize 100000
set_option synthInstance.maxHeartbeats 2000000
namespace Go.V
open Go.RowKit Go.Proofs
theorem numD_zero : numD 0 = .sl 0 [] := by rw [numD, lim_zero]; rfl
end Go.V
