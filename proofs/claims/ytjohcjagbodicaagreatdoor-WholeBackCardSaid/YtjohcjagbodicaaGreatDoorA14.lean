/- A part of the proof: abstract values, rules for the steps of the program's form, and contracts of its functions, each proved; no condition. -/
import Derived.Test.YtjohcjagbodicaaGreatDoorA13
set_option linter.unusedVariables false
set_option linter.unusedSimpArgs false
set_option maxHeartbeats 2000000
set_option synthInstance.maxSize 100000
set_option synthInstance.maxHeartbeats 2000000
namespace Go.V
open Go.RowKit Go.Proofs
theorem ZnG (a b : Nat) (hA : (lim a).length ≤ 1099511627776) (hB : (lim b).length ≤ 1099511627776) : PC C ZmO [numD a, numD b] (fun o => o = .ret (.int .i64 (cmpI a b))) := by
  refine PC.run Zie Zl9 rfl Zma rfl (rs := [.tmp 4]) (by rw [Zmb]) (by simp only [List.length_cons, List.length_nil, Nat.reduceAdd, Nat.reduceSub, List.replicate_succ, List.replicate_zero, List.cons_append, List.nil_append]; exact rfl) ?_
  refine ARun.seq (ARun.region ?_)
  refine y_op rfl (Zaa rfl) ?_
  refine AOps.nil (ARun.seq (ARun.seq (ARun.region ?_)))
  refine y_op rfl (q_move rfl) ?_
  refine y_op rfl (Zac rfl rfl) ?_
  refine y_op rfl (q_move rfl) ?_
  refine y_op rfl (Zac rfl rfl) ?_
  refine y_op rfl (q_maxR rfl rfl nmax) ?_
  refine y_op rfl (q_sub rfl rfl (IntWalk.i64_in _ (by omega))) ?_
  refine y_op rfl (Zaa rfl) ?_
  refine AOps.nil (ARun.block ?_)
  refine ARun.loopI (S := Nat × Int) (fun σ : Nat × Int => [(4, .any), (12, .any), (13, .any), (14, .any), (15, .any), (16, .any), (17, .any), (18, .any), (19, .any), (20, .any), (21, .any), (22, .any), (23, .any), (24, .any), (25, .any), (26, .any), (27, .any), (28, .any), (29, .any), (5, .int .i64 σ.2)]) (fun σ : Nat × Int => []) (fun σ : Nat × Int => σ.2 = (σ.1 : Int) - 1 ∧ σ.1 ≤ max (lim a).length (lim b).length ∧ a / B ^ σ.1 = b / B ^ σ.1) (fun σ : Nat × Int => σ.1) ((max (lim a).length (lim b).length, ((max (lim a).length (lim b).length : Nat) : Int) - 1)) ?_ ?_ ?_ ?_
  · exact ⟨rfl, Nat.le_refl _, by dsimp only; rw [Nat.div_eq_of_lt (ln_le_iff.1 (Nat.le_max_left _ _)), Nat.div_eq_of_lt (ln_le_iff.1 (Nat.le_max_right _ _))]⟩
  · (repeat' first | exact envLe_nil | apply envLe_any | apply envLe_same)
  · rfl
  rintro ⟨i, t⟩ hinv ih
  dsimp only at hinv ih ⊢
  obtain ⟨ht, hi, hw⟩ := hinv
  refine ARun.seq (ARun.seq (ARun.region ?_))
  refine y_op rfl (q_move rfl) ?_
  refine y_op rfl (q_int rfl rfl rfl) ?_
  refine AOps.nil ?_
  refine ARun.cond rfl (fun h => ?_) (fun h => ?_)
  · skip
    have h := of_decide_eq_true h
    obtain ⟨j, rfl⟩ : ∃ j, i = j + 1 := ⟨i - 1, by omega⟩
    obtain rfl : t = (j : Int) := by omega
    have ea := div_step a j
    have eb := div_step b j
    refine ARun.skip (ARun.seq (ARun.block (ARun.seq (ARun.seq (ARun.region ?_)))))
    refine y_op rfl (q_move rfl) ?_
    refine y_op rfl (q_move rfl) ?_
    refine y_op rfl (q_call rfl rfl (ZaZ a j)) ?_
    refine y_op rfl (q_move rfl) ?_
    refine y_op rfl (q_move rfl) ?_
    refine y_op rfl (q_call rfl rfl (ZaZ b j)) ?_
    refine y_op rfl (q_int rfl rfl rfl) ?_
    refine AOps.nil ?_
    refine ARun.ite rfl (fun h3 => ?_) (fun h3 => ?_)
    · skip
      refine ARun.seq (ARun.region ?_)
      refine y_op rfl (Zaa rfl) ?_
      refine AOps.nil ?_
      refine ARun.ret ?_
      refine ⟨_, _, _, .tmp rfl .nil, .cons (.same _) .nil, rfl, ?_⟩
      have hlt : a < b := div_lt_of (k := B ^ j) (by rw [ea, eb, hw]; omega)
      rw [cmpI_lo hlt]; rfl
    · skip
      refine ARun.skip (ARun.seq (ARun.region ?_))
      refine y_op rfl (q_move rfl) ?_
      refine y_op rfl (q_move rfl) ?_
      refine y_op rfl (q_call rfl rfl (ZaZ a j)) ?_
      refine y_op rfl (q_move rfl) ?_
      refine y_op rfl (q_move rfl) ?_
      refine y_op rfl (q_call rfl rfl (ZaZ b j)) ?_
      refine y_op rfl (q_int rfl rfl rfl) ?_
      refine AOps.nil ?_
      refine ARun.ite rfl (fun h4 => ?_) (fun h4 => ?_)
      · skip
        refine ARun.seq (ARun.region ?_)
        refine y_op rfl (Zaa rfl) ?_
        refine AOps.nil ?_
        refine ARun.ret ?_
        refine ⟨_, _, _, .tmp rfl .nil, .cons (.same _) .nil, rfl, ?_⟩
        have hlt : b < a := div_lt_of (k := B ^ j) (by rw [ea, eb, hw]; omega)
        rw [cmpI_hi hlt]; rfl
      · skip
        refine ARun.skip (ARun.inBlock (ARun.region ?_))
        refine y_op rfl (q_move rfl) ?_
        refine y_op rfl (q_sub rfl rfl (IntWalk.i64_in _ (by omega))) ?_
        refine y_op rfl (Zaa rfl) ?_
        refine AOps.nil ?_
        refine ARun.again (ih ((j, (j : Int) - 1)) ?_ ?_) ?_ ?_
        · exact ⟨rfl, by dsimp only; omega, by have : dig a j = dig b j := (by omega); dsimp only; rw [ea, eb, hw, this]⟩
        · exact Nat.lt_succ_self _
        · (repeat' first | exact envLe_nil | apply envLe_any | apply envLe_same)
        · rfl
  · skip
    have h := of_decide_eq_false h
    have hi0 : i = 0 := by omega
    subst hi0
    refine ARun.exit rfl ?_
    refine ARun.seq (ARun.region ?_)
    refine y_op rfl (Zaa rfl) ?_
    refine AOps.nil ?_
    refine ARun.ret ?_
    refine ⟨_, _, _, .tmp rfl .nil, .cons (.same _) .nil, rfl, ?_⟩
    rw [Nat.pow_zero, Nat.div_one, Nat.div_one] at hw
    rw [cmpI_eq hw]; rfl
theorem U32.snoc {xs : List Nat} {x : Nat} (h : U32 xs) (hx : x < 4294967296) : U32 (xs ++ [x]) := fun y hy => by
  rcases List.mem_append.1 hy with h1 | h1
  · exact h y h1
  · rw [List.mem_singleton.1 h1]; exact hx
theorem addA_step {a b i c : Nat} {ys : List Nat} (hu : U32 ys) (hl : ys.length = i) (hc : c ≤ 1) (hv : val ys + B ^ i * c = a % B ^ i + b % B ^ i) :
    U32 (ys ++ [(dig a i + dig b i + c) % 4294967296]) ∧ (ys ++ [(dig a i + dig b i + c) % 4294967296]).length = i + 1 ∧ (dig a i + dig b i + c) / 4294967296 ≤ 1 ∧
      val (ys ++ [(dig a i + dig b i + c) % 4294967296]) + B ^ (i + 1) * ((dig a i + dig b i + c) / 4294967296) = a % B ^ (i + 1) + b % B ^ (i + 1) := by
  have d1 := dig_lt a i
  have d2 := dig_lt b i
  refine ⟨hu.snoc (Nat.mod_lt _ (by decide)), by simp [hl], by omega, ?_⟩
  rw [val_append, hl, mod_succ, mod_succ, Nat.pow_succ, Nat.mul_assoc]
  generalize hs : dig a i + dig b i + c = s
  have h1 : B ^ i * (s % 4294967296) + B ^ i * (B * (s / 4294967296)) = B ^ i * s := by
    rw [← Nat.mul_add]; congr 1; exact Nat.mod_add_div s B
  have h2 : B ^ i * s = B ^ i * c + (B ^ i * dig a i + B ^ i * dig b i) := by rw [← hs, Nat.mul_add, Nat.mul_add]; omega
  simp only [val, Nat.mul_zero, Nat.add_zero]
  omega
theorem addA_end {a b c n : Nat} {ys : List Nat} (hl : ys.length = n) (ha : (lim a).length < n) (hb : (lim b).length < n) (hu : U32 ys) (hv : val ys + B ^ n * c = a % B ^ n + b % B ^ n) : val ys = a + b :=
  add_end hl ha hb hu (by rw [List.take_of_length_le (by omega)]; exact hv)
theorem ZlB (a b : Nat) (ha : (lim a).length ≤ 1099511627) (hb : (lim b).length ≤ 1099511627) : PC C ZjT [numD a, numD b] (fun o => o = .ret (numD (a + b))) := by
  refine PC.run Zh4 ZlN rfl ZlO rfl (rs := [.tmp 4]) (by rw [ZlP]) (by simp only [List.length_cons, List.length_nil, Nat.reduceAdd, Nat.reduceSub, List.replicate_succ, List.replicate_zero, List.cons_append, List.nil_append]; exact rfl) ?_
  refine ARun.seq (ARun.region ?_)
  refine y_op rfl (Zaa rfl) ?_
  refine AOps.nil (ARun.seq (ARun.region ?_))
  refine y_op rfl (Zaa rfl) ?_
  refine AOps.nil (ARun.seq (ARun.region ?_))
  refine y_op rfl (Zaa rfl) ?_
  refine AOps.nil (ARun.seq (ARun.seq (ARun.region ?_)))
  refine y_op rfl (Zaa rfl) ?_
  refine AOps.nil (ARun.block ?_)
  refine ARun.loopI (S := Nat × Nat × List Nat × Heap) (fun σ : Nat × Nat × List Nat × Heap => [(8, .any), (9, .any), (10, .any), (11, .any), (12, .any), (13, .any), (14, .any), (15, .any), (16, .any), (17, .any), (18, .any), (19, .any), (20, .any), (21, .any), (22, .any), (23, .any), (24, .any), (25, .any), (26, .any), (27, .any), (28, .any), (29, .any), (30, .any), (31, .any), (32, .any), (33, .any), (5, growD (0 + σ.2.2.2.length) (nts .u32 σ.2.2.1)), (6, .int .u64 (σ.2.1 : Int)), (7, .int .i64 (σ.1 : Int))]) (fun σ : Nat × Nat × List Nat × Heap => growT σ.2.2.2 Zah (nts .u32 σ.2.2.1)) (fun σ : Nat × Nat × List Nat × Heap => U32 σ.2.2.1 ∧ σ.2.2.1.length = σ.1 ∧ σ.1 ≤ max ((lim a).length) ((lim b).length) + 1 ∧ σ.2.1 ≤ 1 ∧ val σ.2.2.1 + B ^ σ.1 * σ.2.1 = a % B ^ σ.1 + b % B ^ σ.1) (fun σ : Nat × Nat × List Nat × Heap => max ((lim a).length) ((lim b).length) + 1 - σ.1) ((0, 0, [], [])) ?_ ?_ ?_ ?_
  · exact ⟨U32.nil, rfl, Nat.zero_le _, by simp, by simp [val, Nat.mod_one]⟩
  · (repeat' first | exact envLe_nil | apply envLe_any | apply envLe_same)
  · rfl
  rintro ⟨i, c, ys, J⟩ hinv ih
  dsimp only at hinv ih ⊢
  obtain ⟨hu, hl, hi, hc, hv⟩ := hinv
  have hbl : (nts .u32 ys).length = i := by rw [nts_length, hl]
  refine ARun.seq (ARun.seq (ARun.region ?_))
  refine y_op rfl (q_move rfl) ?_
  refine y_op rfl (q_move rfl) ?_
  refine y_op rfl (Zac rfl rfl) ?_
  refine y_op rfl (q_move rfl) ?_
  refine y_op rfl (Zac rfl rfl) ?_
  refine y_op rfl (q_maxR rfl rfl nmax) ?_
  refine y_op rfl (q_int rfl rfl rfl) ?_
  refine AOps.nil ?_
  refine ARun.ite rfl (fun h => ?_) (fun h => ?_)
  · skip
    have d1 := dig_lt a i
    have d2 := dig_lt b i
    refine ARun.skip (ARun.seq (ARun.block (ARun.seq (ARun.region ?_))))
    refine y_op rfl (q_move rfl) ?_
    refine y_op rfl (q_move rfl) ?_
    refine y_op rfl (q_call rfl rfl (ZaZ a i)) ?_
    refine y_op rfl (q_move rfl) ?_
    refine y_op rfl (q_move rfl) ?_
    refine y_op rfl (q_call rfl rfl (ZaZ b i)) ?_
    refine y_op rfl (q_add rfl rfl (nadd_u64 (by omega))) ?_
    refine y_op rfl (q_move rfl) ?_
    refine y_op rfl (q_add rfl rfl (nadd_u64 (by omega))) ?_
    refine y_op rfl (Zaa rfl) ?_
    refine AOps.nil (ARun.seq (ARun.region ?_))
    refine y_op rfl (q_move rfl) ?_
    refine y_op rfl (q_move rfl) ?_
    refine y_op rfl (q_conv rfl rfl rfl nconv_u32) ?_
    refine y_new rfl (Zao rfl rfl rfl rfl rfl rfl rfl rfl rfl rfl rfl (by decide) (by decide)) ?_
    refine y_grow rfl rfl rfl rfl rfl rfl rfl rfl rfl rfl (by show (_ + 1) * 4 ≤ _; omega) (by omega) (fun J' => ?_)
    rw [nts_snoc]
    refine y_op rfl (Zaa rfl) ?_
    refine AOps.nil (ARun.region ?_)
    refine y_op rfl (q_move rfl) ?_
    refine y_op rfl (q_shr rfl rfl (by omega) nshr32) ?_
    refine y_op rfl (Zaa rfl) ?_
    refine AOps.nil (ARun.inBlock (ARun.region ?_))
    refine y_op rfl (q_move rfl) ?_
    refine y_op rfl (q_add rfl rfl (nadd1_i64 (by omega))) ?_
    refine y_op rfl (Zaa rfl) ?_
    refine AOps.nil ?_
    refine ARun.again (ih ((i + 1, (dig a i + dig b i + c) / 4294967296, ys ++ [(dig a i + dig b i + c) % 4294967296], J')) ?_ ?_) ?_ ?_
    · (obtain ⟨k1, k2, k3, k4⟩ := addA_step hu hl hc hv; exact ⟨k1, k2, by dsimp only; omega, k3, k4⟩)
    · (dsimp only; omega)
    · (repeat' first | exact envLe_nil | apply envLe_any | apply envLe_same)
    · rfl
  · skip
    have hin : i = max (lim a).length (lim b).length + 1 := by omega
    refine ARun.growEnd 5 rfl (pures_nts _) (fun J' => ?_)
    rw [sln_len]
    refine ARun.exit rfl ?_
    refine ARun.seq (ARun.region ?_)
    refine y_op rfl (q_move rfl) ?_
    refine y_op rfl (q_call rfl rfl (Zch ys hu (by omega))) ?_
    refine y_op rfl (Zaa rfl) ?_
    refine AOps.nil ?_
    refine ARun.ret ?_
    refine ⟨_, _, _, .tmp rfl .nil, .cons (.same _) .nil, rfl, ?_⟩
    rw [addA_end hl (by omega) (by omega) hu hv]
    rfl
theorem ZnH (a b : Nat) (ha : (lim a).length ≤ 1099511627) (hb : (lim b).length ≤ 1099511627) : PC C ZmM [numD a, numD b] (fun o => o = .ret (numD (a * b))) := by
  refine PC.run Zic Zl3 rfl Zl4 rfl (rs := [.tmp 4]) (by rw [Zl5]) (by simp only [List.length_cons, List.length_nil, Nat.reduceAdd, Nat.reduceSub, List.replicate_succ, List.replicate_zero, List.cons_append, List.nil_append]; exact rfl) ?_
  refine ARun.seq (ARun.region ?_)
  refine y_op rfl (Zaa rfl) ?_
  refine AOps.nil (ARun.seq (ARun.region ?_))
  refine y_op rfl (q_move rfl) ?_
  refine y_op rfl (Zac rfl rfl) ?_
  refine y_op rfl (q_move rfl) ?_
  refine y_op rfl (Zac rfl rfl) ?_
  refine y_op rfl (q_add rfl rfl (nadd_i64 (by omega))) ?_
  refine y_new rfl (Zau rfl rfl rfl rfl rfl rfl rfl (by omega) (by rw [maxLen_eq]; omega) (zeros_nts _)) ?_
  refine y_op rfl (Zaa rfl) ?_
  refine AOps.nil (ARun.seq (ARun.seq (ARun.region ?_)))
  refine y_op rfl (Zaa rfl) ?_
  refine AOps.nil (ARun.block ?_)
  refine ARun.loopI (S := Nat × List Nat) (fun σ : Nat × List Nat => [(7, .any), (8, .any), (9, .any), (16, .any), (17, .any), (18, .any), (19, .any), (20, .any), (21, .any), (22, .any), (23, .any), (24, .any), (25, .any), (26, .any), (27, .any), (28, .any), (29, .any), (30, .any), (31, .any), (32, .any), (33, .any), (34, .any), (35, .any), (36, .any), (37, .any), (38, .any), (39, .any), (40, .any), (41, .any), (42, .any), (43, .any), (44, .any), (45, .any), (46, .any), (47, .any), (48, .any), (49, .any), (50, .any), (51, .any), (52, .any), (53, .any), (54, .any), (55, .any), (56, .any), (57, .any), (58, .any), (59, .any), (60, .any), (61, .any), (62, .any), (63, .any), (64, .any), (65, .any), (6, .int .i64 (σ.1 : Int))]) (fun σ : Nat × List Nat => [some ⟨nts .u32 σ.2, Zah, 1, true, none⟩]) (fun σ : Nat × List Nat => U32 σ.2 ∧ σ.2.length = (lim a).length + (lim b).length ∧ σ.1 ≤ (lim a).length ∧ val (σ.2.take (σ.1 + (lim b).length)) = a % B ^ σ.1 * b) (fun σ : Nat × List Nat => (lim a).length - σ.1) ((0, List.replicate ((lim a).length + (lim b).length) 0)) ?_ ?_ ?_ ?_
  · exact ⟨U32.replicate, by simp, by simp, by simp [val_replicate, Nat.mod_one]⟩
  · (repeat' first | exact envLe_nil | apply envLe_any | apply envLe_same)
  · rfl
  rintro ⟨i, ys⟩ hinv ih
  dsimp only at hinv ih ⊢
  obtain ⟨hu, hl, hi, hv⟩ := hinv
  refine ARun.seq (ARun.seq (ARun.region ?_))
  refine y_op rfl (q_move rfl) ?_
  refine y_op rfl (q_move rfl) ?_
  refine y_op rfl (Zac rfl rfl) ?_
  refine y_op rfl (q_int rfl rfl rfl) ?_
  refine AOps.nil ?_
  refine ARun.ite rfl (fun h => ?_) (fun h => ?_)
  · skip
    have d1 := dig_lt a i
    refine ARun.skip (ARun.seq (ARun.block (ARun.seq (ARun.region ?_))))
    refine y_op rfl (Zaa rfl) ?_
    refine AOps.nil (ARun.seq (ARun.seq (ARun.region ?_)))
    refine y_op rfl (Zaa rfl) ?_
    refine AOps.nil (ARun.block ?_)
    refine ARun.loopI (S := Nat × Nat × List Nat) (fun σ : Nat × Nat × List Nat => [(9, .any), (22, .any), (23, .any), (24, .any), (25, .any), (26, .any), (27, .any), (28, .any), (29, .any), (30, .any), (31, .any), (32, .any), (33, .any), (34, .any), (35, .any), (36, .any), (37, .any), (38, .any), (39, .any), (40, .any), (41, .any), (42, .any), (43, .any), (44, .any), (45, .any), (46, .any), (47, .any), (48, .any), (49, .any), (50, .any), (51, .any), (52, .any), (53, .any), (54, .any), (55, .any), (56, .any), (57, .any), (8, .int .i64 (σ.1 : Int)), (7, .int .u64 (σ.2.1 : Int))]) (fun σ : Nat × Nat × List Nat => [some ⟨nts .u32 σ.2.2, Zah, 1, true, none⟩]) (fun σ : Nat × Nat × List Nat => U32 σ.2.2 ∧ σ.2.2.length = (lim a).length + (lim b).length ∧ σ.1 ≤ (lim b).length ∧ σ.2.1 < 4294967296 ∧ (∀ p, i + σ.1 ≤ p → p < i + (lim b).length → σ.2.2.getD p 0 = dig (a % B ^ i * b) p) ∧ val (σ.2.2.take (i + σ.1)) + B ^ (i + σ.1) * σ.2.1 = (a % B ^ i * b) % B ^ (i + σ.1) + B ^ i * (dig a i * (b % B ^ σ.1))) (fun σ : Nat × Nat × List Nat => (lim b).length - σ.1) ((0, 0, ys)) ?_ ?_ ?_ ?_
    · exact ⟨hu, hl, by simp, by simp, fun p _ hp => sch_dig hu hv hp, by dsimp only; rw [Nat.add_zero, Nat.mul_zero, Nat.add_zero, Nat.pow_zero, Nat.mod_one, Nat.mul_zero, Nat.mul_zero, Nat.add_zero, ← hv]; exact val_take_mod hu _ _ (by omega)⟩
    · (repeat' first | exact envLe_nil | apply envLe_any | apply envLe_same)
    · rfl
    rintro ⟨j, c, zs⟩ hinv2 ih2
    dsimp only at hinv2 ih2 ⊢
    obtain ⟨hu2, hl2, hj, hc, hd, hv2⟩ := hinv2
    refine ARun.seq (ARun.seq (ARun.region ?_))
    refine y_op rfl (q_move rfl) ?_
    refine y_op rfl (q_move rfl) ?_
    refine y_op rfl (Zac rfl rfl) ?_
    refine y_op rfl (q_int rfl rfl rfl) ?_
    refine AOps.nil ?_
    refine ARun.ite rfl (fun h2 => ?_) (fun h2 => ?_)
    · skip
      have d2 := mul_bound d1 (dig_lt b j)
      have d3 := dig_lt b j
      have d4 := hu2.get (i + j)
      have d5 := hd (i + j) (by omega) (by omega)
      have d6 := dig_lt (a % B ^ i * b) (i + j)
      have es : dig a i * dig b j + dig (a % B ^ i * b) (i + j) + c = c + (dig a i * dig b j + dig (a % B ^ i * b) (i + j)) := by omega
      refine ARun.skip (ARun.seq (ARun.block (ARun.seq ?_)))
      refine ARun.drawnP 21 (fun _ => False) mixC rfl rfl (by kernel_rfl) (fun _ _ h => h.elim) ?_
      refine .op rfl (q_move rfl) ?_
      refine .op rfl (q_move rfl) ?_
      refine .op rfl (Zam rfl rfl rfl rfl (by omega) (by omega) (nts_ne (by omega)) (drop_nat rfl)) ?_
      refine .op rfl (q_load rfl rfl rfl (lim_load (by omega))) ?_
      refine .op rfl (q_conv rfl rfl rfl (nconv_u64 (by omega))) ?_
      refine .op rfl (q_move rfl) ?_
      refine .op rfl (q_move rfl) ?_
      refine .op rfl (Zam rfl rfl rfl rfl (by omega) (by omega) (nts_ne (by omega)) (drop_nat rfl)) ?_
      refine .op rfl (q_load rfl rfl rfl (lim_load (by omega))) ?_
      refine .op rfl (q_conv rfl rfl rfl (nconv_u64 (by omega))) ?_
      refine .op rfl (q_mul rfl rfl (nmul_u64 (by omega))) ?_
      refine .op rfl (q_move rfl) ?_
      refine .op rfl (q_move rfl) ?_
      refine .op rfl (q_move rfl) ?_
      refine .op rfl (q_add rfl rfl (nadd_i64 (by omega))) ?_
      refine .op rfl (Zal rfl rfl rfl rfl rfl (by omega) (by omega) (idx_nat rfl)) ?_
      refine .op rfl (Zaf rfl rfl rfl rfl ((nts_get (by omega)).trans (by rw [d5]))) ?_
      refine .op rfl (q_conv rfl rfl rfl (nconv_u64 (by omega))) ?_
      refine .op rfl (q_add rfl rfl (nadd_u64 (by omega))) ?_
      refine .op rfl (q_move rfl) ?_
      refine .op rfl (q_add rfl rfl (nadd_u64 (by omega))) ?_
      refine .nil (fun hG => ?_)
      refine y_op rfl (Zaa rfl) ?_
      rw [es]
      refine AOps.nil (ARun.seq (ARun.region ?_))
      refine y_op rfl (q_move rfl) ?_
      refine y_op rfl (q_move rfl) ?_
      refine y_op rfl (q_move rfl) ?_
      refine y_op rfl (q_add rfl rfl (nadd_i64 (by omega))) ?_
      refine y_op rfl (q_move rfl) ?_
      refine y_op rfl (q_conv rfl rfl rfl nconv_u32) ?_
      refine y_op rfl (Zal rfl rfl rfl rfl rfl (by omega) (by omega) (idx_nat rfl)) ?_
      refine y_new rfl (Zag rfl rfl rfl rfl rfl rfl (by simp; omega) nts_set) ?_
      refine AOps.nil (ARun.region ?_)
      refine y_op rfl (q_move rfl) ?_
      refine y_op rfl (q_shr rfl rfl (by omega) nshr32) ?_
      refine y_op rfl (Zaa rfl) ?_
      refine AOps.nil (ARun.inBlock (ARun.region ?_))
      refine y_op rfl (q_move rfl) ?_
      refine y_op rfl (q_add rfl rfl (nadd1_i64 (by omega))) ?_
      refine y_op rfl (Zaa rfl) ?_
      refine AOps.nil ?_
      refine ARun.again (ih2 ((j + 1, (c + (dig a i * dig b j + dig (a % B ^ i * b) (i + j))) / 4294967296, zs.set (i + j) ((c + (dig a i * dig b j + dig (a % B ^ i * b) (i + j))) % 4294967296))) ?_ ?_) ?_ ?_
      · (obtain ⟨k1, k2, k3, k4⟩ := sch_step (b := b) hu2 hl2 (by omega) d1 hc d5 hv2; exact ⟨k1, k2, by dsimp only; omega, k3, fun p hp hp2 => by rw [getD_set_ne (by omega)]; exact hd p (by omega) hp2, k4⟩)
      · (dsimp only; omega)
      · (repeat' first | exact envLe_nil | apply envLe_any | apply envLe_same)
      · rfl
    · skip
      have hjn : j = (lim b).length := by omega
      subst hjn
      refine ARun.exit rfl ?_
      refine ARun.region ?_
      refine y_op rfl (q_move rfl) ?_
      refine y_op rfl (q_move rfl) ?_
      refine y_op rfl (q_move rfl) ?_
      refine y_op rfl (Zac rfl rfl) ?_
      refine y_op rfl (q_add rfl rfl (nadd_i64 (by omega))) ?_
      refine y_op rfl (q_move rfl) ?_
      refine y_op rfl (q_conv rfl rfl rfl (IntWalk.u32_in _ (by omega))) ?_
      refine y_op rfl (Zal rfl rfl rfl rfl rfl (by omega) (by omega) (idx_nat rfl)) ?_
      refine y_new rfl (Zag rfl rfl rfl rfl rfl rfl (by simp; omega) nts_set) ?_
      refine AOps.nil (ARun.inBlock (ARun.region ?_))
      refine y_op rfl (q_move rfl) ?_
      refine y_op rfl (q_add rfl rfl (nadd1_i64 (by omega))) ?_
      refine y_op rfl (Zaa rfl) ?_
      refine AOps.nil ?_
      refine ARun.again (ih ((i + 1, zs.set (i + (lim b).length) c)) ?_ ?_) ?_ ?_
      · (obtain ⟨k1, k2, k3⟩ := sch_row hu2 hl2 (by omega) hc rfl hv2; exact ⟨k1, k2, by dsimp only; omega, k3⟩)
      · (dsimp only; omega)
      · (repeat' first | exact envLe_nil | apply envLe_any | apply envLe_same)
      · rfl
  · skip
    have hin : i = (lim a).length := by omega
    subst hin
    refine ARun.exit rfl ?_
    refine ARun.seq (ARun.region ?_)
    refine y_op rfl (q_move rfl) ?_
    refine y_new rfl (n_call rfl rfl (.cons (.row rfl (pures_nts _)) .nil) (Zbr hu hl (by omega)) rfl) ?_
    refine y_op rfl (Zaa rfl) ?_
    refine AOps.nil ?_
    refine ARun.ret ?_
    refine ⟨_, _, _, .tmp rfl .nil, .cons (.same _) .nil, rfl, ?_⟩
    rw [List.take_of_length_le (by omega), mod_of_ln (Nat.le_refl _)] at hv
    rw [hv]
    rfl
end Go.V
set_option maxHeartbeats 2000000
set_option synthInstance.maxSize 100000
set_option synthInstance.maxHeartbeats 2000000
namespace Go.V
open Go.RowKit Go.Proofs
theorem Zms (d : Bool × List Nat) : PC C ZkQ [intA d.1 d.2] (fun o => o = .ret (.bool (okI d))) := by
  obtain ⟨b, xs⟩ := d
  refine PC.run Ze7 Zjr rfl Zjs rfl (rs := [.tmp 2]) (by rw [Zjt]) (by simp only [List.length_cons, List.length_nil, Nat.reduceAdd, Nat.reduceSub, List.replicate_succ, List.replicate_zero, List.cons_append, List.nil_append]; exact rfl) ?_
  refine ARun.seq (ARun.region ?_)
  refine y_op rfl (q_boxF rfl rfl rfl rfl) ?_
  refine y_op rfl (Zaa rfl) ?_
  refine AOps.nil (ARun.seq (ARun.region ?_))
  refine y_op rfl (q_fldS rfl rfl rfl (by decide)) ?_
  refine y_op rfl (q_load rfl rfl rfl rfl) ?_
  refine y_op rfl (q_call rfl rfl (Zmr xs)) ?_
  refine y_op rfl (q_move rfl) ?_
  refine AOps.bool 6 rfl (fun h1 => ?_) (fun h1 => ?_)
  · skip
    have h1 : okB xs = true := h1
    refine y_op rfl (q_fldS rfl rfl rfl (by decide)) ?_
    refine y_op rfl (q_load rfl rfl rfl rfl) ?_
    refine y_op rfl (q_not rfl) ?_
    refine y_op rfl (q_move rfl) ?_
    refine AOps.bool 10 rfl (fun h2 => ?_) (fun h2 => ?_)
    · skip
      have h2 : b = false := by simpa using h2
      refine y_skip rfl ?_
      refine y_skip rfl ?_
      refine y_skip rfl ?_
      refine y_skip rfl ?_
      refine y_op rfl (q_pick rfl rfl rfl rfl) ?_
      refine y_op rfl (q_pick rfl rfl rfl rfl) ?_
      refine y_op rfl (Zaa rfl) ?_
      refine AOps.nil ?_
      refine ARun.ret ?_
      refine ⟨_, _, _, .tmp rfl .nil, .cons (.same _) .nil, rfl, ?_⟩
      unfold okI; rw [h1, h2]; rfl
    · skip
      have h2 : b = true := by simpa using h2
      refine y_op rfl (q_fldS rfl rfl rfl (by decide)) ?_
      refine y_op rfl (q_load rfl rfl rfl rfl) ?_
      refine y_op rfl (Zac rfl rfl) ?_
      refine y_op rfl (q_int rfl rfl rfl) ?_
      refine y_op rfl (q_pick rfl rfl rfl rfl) ?_
      refine y_op rfl (q_pick rfl rfl rfl rfl) ?_
      refine y_op rfl (Zaa rfl) ?_
      refine AOps.nil ?_
      refine ARun.ret ?_
      refine ⟨_, _, _, .tmp rfl .nil, .cons (.same _) .nil, rfl, ?_⟩
      unfold okI; rw [h1, h2]
      have : decide ((xs.length : Int) > 0) = decide (0 < xs.length) := decide_eq_decide.2 (by omega)
      simp only [this, Bool.not_true, Bool.false_or, Bool.true_and, cond_true, cond_false]
      rfl
  · skip
    have h1 : okB xs = false := h1
    refine y_skip rfl ?_
    refine y_skip rfl ?_
    refine y_skip rfl ?_
    refine y_skip rfl ?_
    refine y_skip rfl ?_
    refine y_skip rfl ?_
    refine y_skip rfl ?_
    refine y_skip rfl ?_
    refine y_skip rfl ?_
    refine y_op rfl (q_pick rfl rfl rfl rfl) ?_
    refine y_op rfl (Zaa rfl) ?_
    refine AOps.nil ?_
    refine ARun.ret ?_
    refine ⟨_, _, _, .tmp rfl .nil, .cons (.same _) .nil, rfl, ?_⟩
    unfold okI; rw [h1]; rfl
theorem ZnI (b : Bool) (xs : List Nat) (hx : U32 xs) (hl : xs.length ≤ 35184372088832) : PC C Zlv [.bool b, sln .u32 xs] (fun o => o = .ret (.agg [.bool (b && decide (0 < xs.length)), numD (val xs)])) := by
  refine PC.run ZjF ZmD rfl ZmE rfl (rs := [.cell 4 25]) (by rw [ZmF]) (by simp only [List.length_cons, List.length_nil, Nat.reduceAdd, Nat.reduceSub, List.replicate_succ, List.replicate_zero, List.cons_append, List.nil_append]; exact rfl) ?_
  refine ARun.seq (ARun.region ?_)
  refine y_new rfl (Zak rfl rfl rfl rfl) ?_
  refine AOps.nil (ARun.seq (ARun.region ?_))
  refine y_op rfl (q_move rfl) ?_
  refine y_op rfl (q_move rfl) ?_
  refine AOps.bool 6 rfl (fun h => ?_) (fun h => ?_)
  · skip
    refine y_op rfl (q_move rfl) ?_
    refine y_op rfl (Zac rfl rfl) ?_
    refine y_op rfl (q_int rfl rfl rfl) ?_
    refine y_op rfl (q_pick rfl rfl rfl rfl) ?_
    refine y_op rfl (q_move rfl) ?_
    refine y_op rfl (q_call rfl rfl (Zch xs hx hl)) ?_
    refine y_op rfl (Zap rfl rfl rfl rfl rfl) ?_
    refine y_new rfl (Zad rfl rfl rfl rfl rfl rfl rfl rfl (Nat.le_of_ble_eq_true rfl) rfl) ?_
    refine AOps.nil ?_
    refine ARun.ret ?_
    refine ⟨_, _, _, ResR.cellA rfl rfl rfl rfl rfl rfl .nil, .cons (.same _) .nil, rfl, ?_⟩
    have : decide ((xs.length : Int) > 0) = decide (0 < xs.length) := decide_eq_decide.2 (by omega)
    rw [h, ← this]; rfl
  · skip
    refine y_skip rfl ?_
    refine y_skip rfl ?_
    refine y_skip rfl ?_
    refine y_op rfl (q_pick rfl rfl rfl rfl) ?_
    refine y_op rfl (q_move rfl) ?_
    refine y_op rfl (q_call rfl rfl (Zch xs hx hl)) ?_
    refine y_op rfl (Zap rfl rfl rfl rfl rfl) ?_
    refine y_new rfl (Zad rfl rfl rfl rfl rfl rfl rfl rfl (Nat.le_of_ble_eq_true rfl) rfl) ?_
    refine AOps.nil ?_
    refine ARun.ret ?_
    refine ⟨_, _, _, ResR.cellA rfl rfl rfl rfl rfl rfl .nil, .cons (.same _) .nil, rfl, ?_⟩
    rw [h]; rfl
theorem Zlr (b : Bool) (n : Nat) (hl : (lim n).length ≤ 35184372088832) : PC C Zlv [.bool b, numD n] (fun o => o = .ret (intD (sgnd b n))) :=
  (ZnI b (lim n) (U32_lim n) hl).mono fun o ho => by
    rw [ho, val_lim, intD, sgnd_abs, sgnd_neg]
    have : decide (0 < (lim n).length) = decide (0 < n) := decide_eq_decide.2 (by rw [ln_pos]; omega)
    rw [this]
theorem decEqZ (x y : Int) : ((decide (x < 0) == decide (y < 0)) && decide (lim x.natAbs = lim y.natAbs)) = decide (x = y) := by
  have hl : lim x.natAbs = lim y.natAbs ↔ x.natAbs = y.natAbs := ⟨fun h => by rw [← val_lim x.natAbs, h, val_lim], fun h => by rw [h]⟩
  by_cases h : x = y
  · subst h; simp
  · rw [decide_eq_false h]
    by_cases h1 : x < 0 <;> by_cases h2 : y < 0
    · rw [show decide (lim x.natAbs = lim y.natAbs) = false from decide_eq_false (by rw [hl]; omega)]; simp
    · rw [decide_eq_true h1, decide_eq_false h2]; rfl
    · rw [decide_eq_false h1, decide_eq_true h2]; rfl
    · rw [show decide (lim x.natAbs = lim y.natAbs) = false from decide_eq_false (by rw [hl]; omega)]; simp
theorem ZkE (x y : Int) : PC C Zh3 [intD x, intD y] (fun o => o = .ret (.bool (decide (x = y)))) := by
  refine PC.run Zgg ZkM rfl ZkN rfl (rs := [.tmp 4]) (by rw [ZkO]) (by simp only [List.length_cons, List.length_nil, Nat.reduceAdd, Nat.reduceSub, List.replicate_succ, List.replicate_zero, List.cons_append, List.nil_append]; exact rfl) ?_
  refine ARun.seq (ARun.region ?_)
  refine y_op rfl (q_boxF rfl rfl rfl rfl) ?_
  refine y_op rfl (q_boxF rfl rfl rfl rfl) ?_
  refine y_op rfl (Zaa rfl) ?_
  refine AOps.nil (ARun.seq (ARun.region ?_))
  refine y_op rfl (q_fldS rfl rfl rfl (by decide)) ?_
  refine y_op rfl (q_load rfl rfl rfl rfl) ?_
  refine y_op rfl (q_fldS rfl rfl rfl (by decide)) ?_
  refine y_op rfl (q_load rfl rfl rfl rfl) ?_
  refine y_op rfl (Zlx rfl rfl rfl) ?_
  refine y_op rfl (q_move rfl) ?_
  refine AOps.bool 10 rfl (fun h => ?_) (fun h => ?_)
  · skip
    refine y_op rfl (q_fldS rfl rfl rfl (by decide)) ?_
    refine y_op rfl (q_load rfl rfl rfl rfl) ?_
    refine y_op rfl (q_fldS rfl rfl rfl (by decide)) ?_
    refine y_op rfl (q_load rfl rfl rfl rfl) ?_
    refine y_op rfl (q_call rfl rfl (Zne (lim x.natAbs) (lim y.natAbs))) ?_
    refine y_op rfl (q_pick rfl rfl rfl rfl) ?_
    refine y_op rfl (Zaa rfl) ?_
    refine AOps.nil ?_
    refine ARun.ret ?_
    refine ⟨_, _, _, .tmp rfl .nil, .cons (.same _) .nil, rfl, ?_⟩
    rw [← decEqZ, h]; rfl
  · skip
    refine y_skip rfl ?_
    refine y_skip rfl ?_
    refine y_skip rfl ?_
    refine y_skip rfl ?_
    refine y_skip rfl ?_
    refine y_op rfl (q_pick rfl rfl rfl rfl) ?_
    refine y_op rfl (Zaa rfl) ?_
    refine AOps.nil ?_
    refine ARun.ret ?_
    refine ⟨_, _, _, .tmp rfl .nil, .cons (.same _) .nil, rfl, ?_⟩
    rw [← decEqZ, h]; rfl
theorem ZbA (z : Int) (h1 : -9223372036854775808 ≤ z) (h2 : z ≤ 9223372036854775807) : PC C Zix [.int .i64 z] (fun o => o = .ret (intD z)) := by
  have hln : ∀ n : Nat, n < 18446744073709551616 → (lim n).length ≤ 2 := fun n h => ln_le (by rw [B_two]; exact h)
  refine PC.run Zdy Zho rfl Zhp rfl (rs := [.cell 2 25]) (by rw [Zhq]) (by simp only [List.length_cons, List.length_nil, Nat.reduceAdd, Nat.reduceSub, List.replicate_succ, List.replicate_zero, List.cons_append, List.nil_append]; exact rfl) ?_
  refine ARun.seq (ARun.region ?_)
  refine y_new rfl (Zak rfl rfl rfl rfl) ?_
  refine AOps.nil (ARun.seq (ARun.seq (ARun.region ?_)))
  refine y_op rfl (q_move rfl) ?_
  refine y_op rfl (q_int rfl rfl rfl) ?_
  refine AOps.nil ?_
  refine ARun.ite rfl (fun h => ?_) (fun h => ?_)
  · skip
    obtain ⟨m, hm⟩ : ∃ m : Nat, z = -(m : Int) - 1 := ⟨(-(z + 1)).toNat, by omega⟩
    subst hm
    have hadd : PC C ZjT [numD m, .sl 1 [.int .u32 1]] (fun o => o = .ret (numD (m + 1))) := by
      have := hln m (by omega)
      have h := ZlB m 1 (by omega) (by rw [lim_one]; decide)
      rw [← numD_one] at h
      exact h
    refine ARun.seq (ARun.region ?_)
    refine y_op rfl (q_move rfl) ?_
    refine y_op rfl (q_add rfl rfl (show _ = -(m : Int) by rw [IntWalk.i64_in _ (by omega)]; omega)) ?_
    refine y_op rfl (q_neg rfl (show _ = (m : Int) by rw [IntWalk.i64_in _ (by omega)]; omega)) ?_
    refine y_op rfl (q_conv rfl rfl rfl (IntWalk.u64_in _ (by omega))) ?_
    refine y_op rfl (q_call rfl rfl (Zjc m (by omega))) ?_
    refine y_op rfl (ZaE rfl rfl rfl rfl rfl rfl rfl rfl rfl rfl rfl (by decide) (by decide) rfl) ?_
    refine y_op rfl (q_call rfl rfl (hadd)) ?_
    refine y_op rfl (q_call rfl rfl (Zlr true (m + 1) (by have := hln (m + 1) (by omega); omega))) ?_
    refine y_new rfl (Zad rfl rfl rfl rfl rfl rfl rfl rfl (Nat.le_of_ble_eq_true rfl) rfl) ?_
    refine AOps.nil ?_
    refine ARun.ret ?_
    refine ⟨_, _, _, ResR.cellA rfl rfl rfl rfl rfl rfl .nil, .cons (.same _) .nil, rfl, ?_⟩
    rw [show sgnd true (m + 1) = -(m : Int) - 1 by simp only [sgnd, cond_true]; omega]
    rfl
  · skip
    obtain ⟨m, rfl⟩ : ∃ m : Nat, z = (m : Int) := ⟨z.toNat, by omega⟩
    refine ARun.skip (ARun.seq (ARun.region ?_))
    refine y_op rfl (q_move rfl) ?_
    refine y_op rfl (q_conv rfl rfl rfl (IntWalk.u64_in _ (by omega))) ?_
    refine y_op rfl (q_call rfl rfl (Zjc m (by omega))) ?_
    refine y_op rfl (q_call rfl rfl (Zlr false m (by have := hln m (by omega); omega))) ?_
    refine y_new rfl (Zad rfl rfl rfl rfl rfl rfl rfl rfl (Nat.le_of_ble_eq_true rfl) rfl) ?_
    refine AOps.nil ?_
    refine ARun.ret ?_
    refine ⟨_, _, _, ResR.cellA rfl rfl rfl rfl rfl rfl .nil, .cons (.same _) .nil, rfl, ?_⟩
    rfl
abbrev gotD (z : Int) (e : Int) : D := .agg [.bool (decide (z < 0)), numD z.natAbs, .int .i64 e]
abbrev gotR (r : Int × Int) : D := gotD r.1 r.2
theorem fz_got {H : Heap} (e : Int) : Fz H (.agg [.bool false, .nilsl, .int .i64 e]) (gotD 0 e) [] := by
  have h : gotD 0 e = .agg [.bool false, .sl 0 [], .int .i64 e] := by show D.agg [.bool (decide ((0 : Int) < 0)), sln .u32 (lim 0), _] = _; rw [lim_zero]; rfl
  rw [h]
  exact .agg (.cons (.same _) (.cons .nil (.cons (.same _) .nil)))
theorem ZkF (z : Int) : PC C ZiI [intD z] (fun o => o = .ret (gotR (resZ true (fitO z)))) := by
  refine PC.run ZdB Zhy rfl Zhz rfl (rs := [.cell 2 45]) (by rw [ZhA]) (by simp only [List.length_cons, List.length_nil, Nat.reduceAdd, Nat.reduceSub, List.replicate_succ, List.replicate_zero, List.cons_append, List.nil_append]; exact rfl) ?_
  refine ARun.seq (ARun.region ?_)
  refine y_op rfl (q_boxF rfl rfl rfl rfl) ?_
  refine y_new rfl (Zak rfl rfl rfl rfl) ?_
  refine AOps.nil (ARun.seq (ARun.seq (ARun.region ?_)))
  refine y_op rfl (q_fldS rfl rfl rfl (by decide)) ?_
  refine y_op rfl (q_load rfl rfl rfl rfl) ?_
  refine y_op rfl (q_call rfl rfl (Znd (lim z.natAbs))) ?_
  refine y_op rfl (q_not rfl) ?_
  refine AOps.nil ?_
  refine ARun.cond rfl (fun h => ?_) (fun h => ?_)
  · skip
    have hf : ¬ fitZ z := by unfold fitZ; simpa using h
    refine ARun.seq (ARun.region ?_)
    refine y_op rfl (Zap rfl rfl rfl rfl rfl) ?_
    refine y_new rfl (Zad rfl rfl rfl rfl rfl rfl rfl rfl (Nat.le_of_ble_eq_true rfl) rfl) ?_
    refine AOps.nil ?_
    refine ARun.ret ?_
    refine ⟨_, _, _, ResR.cellA rfl rfl rfl rfl rfl rfl .nil, .cons (fz_got 2) .nil, rfl, ?_⟩
    rw [fitO_f hf]
    rfl
  · skip
    have hf : fitZ z := by unfold fitZ; simpa using h
    refine ARun.skip (ARun.seq (ARun.region ?_))
    refine y_op rfl (Zai rfl rfl rfl rfl rfl) ?_
    refine y_op rfl (Zap rfl rfl rfl rfl rfl) ?_
    refine y_new rfl (Zad rfl rfl rfl rfl rfl rfl rfl rfl (Nat.le_of_ble_eq_true rfl) rfl) ?_
    refine AOps.nil ?_
    refine ARun.ret ?_
    refine ⟨_, _, _, ResR.cellA rfl rfl rfl rfl rfl rfl .nil, .cons (.same _) .nil, rfl, ?_⟩
    rw [fitO_t hf]
    rfl
end Go.V
set_option maxHeartbeats 2000000
set_option synthInstance.maxSize 100000
set_option synthInstance.maxHeartbeats 2000000
namespace Go.V
open Go.RowKit Go.Proofs
theorem Zmt (d : Bool × List Nat) (m : Nat) : PC C Zir [intA d.1 d.2, .int .i64 (m : Int)] (fun o => o = .ret (.bool (decide (d.2.length ≤ m)))) := by
  refine PC.run Zdu Zhc rfl Zhd rfl (rs := [.tmp 4]) (by rw [Zhe]) (by simp only [List.length_cons, List.length_nil, Nat.reduceAdd, Nat.reduceSub, List.replicate_succ, List.replicate_zero, List.cons_append, List.nil_append]; exact rfl) ?_
  refine ARun.seq (ARun.region ?_)
  refine y_op rfl (q_boxF rfl rfl rfl rfl) ?_
  refine y_op rfl (Zaa rfl) ?_
  refine AOps.nil (ARun.seq (ARun.region ?_))
  refine y_op rfl (q_fldS rfl rfl rfl (by decide)) ?_
  refine y_op rfl (q_load rfl rfl rfl rfl) ?_
  refine y_op rfl (Zac rfl rfl) ?_
  refine y_op rfl (q_move rfl) ?_
  refine y_op rfl (q_int rfl rfl rfl) ?_
  refine y_op rfl (Zaa rfl) ?_
  refine AOps.nil ?_
  refine ARun.ret ?_
  refine ⟨_, _, _, .tmp rfl .nil, .cons (.same _) .nil, rfl, ?_⟩
  have : decide ((d.2.length : Int) ≤ (m : Int)) = decide (d.2.length ≤ m) := decide_eq_decide.2 (by omega)
  rw [← this]; rfl
theorem ZlC (r : Int × Int) : PC C ZkP [intD r.1, .int .i64 r.2, gotR r] (fun o => o = .ret (.bool true)) := by
  refine PC.run Ze6 Zjn rfl Zjo rfl (rs := [.tmp 6]) (by rw [Zjp]) (by simp only [List.length_cons, List.length_nil, Nat.reduceAdd, Nat.reduceSub, List.replicate_succ, List.replicate_zero, List.cons_append, List.nil_append]; exact rfl) ?_
  refine ARun.seq (ARun.region ?_)
  refine y_op rfl (q_boxF rfl rfl rfl rfl) ?_
  refine y_op rfl (q_boxF rfl rfl rfl rfl) ?_
  refine y_op rfl (Zaa rfl) ?_
  refine AOps.nil (ARun.seq (ARun.region ?_))
  refine y_op rfl (q_move rfl) ?_
  refine y_op rfl (q_fldS rfl rfl rfl (by decide)) ?_
  refine y_op rfl (q_load rfl rfl rfl rfl) ?_
  refine y_op rfl (q_int rfl rfl rfl) ?_
  refine y_op rfl (q_move rfl) ?_
  refine AOps.bool 11 rfl (fun h => ?_) (fun h => ?_)
  · skip
    refine y_op rfl (Zai rfl rfl rfl rfl rfl) ?_
    refine y_op rfl (q_fldS rfl rfl rfl (by decide)) ?_
    refine y_op rfl (Zai rfl rfl rfl rfl rfl) ?_
    refine y_op rfl (q_call rfl rfl (ZkE r.1 r.1)) ?_
    refine y_op rfl (q_pick rfl rfl rfl rfl) ?_
    refine y_op rfl (Zaa rfl) ?_
    refine AOps.nil ?_
    refine ARun.ret ?_
    refine ⟨_, _, _, .tmp rfl .nil, .cons (.same _) .nil, rfl, ?_⟩
    rw [decide_eq_true rfl]; rfl
  · skip
    exfalso
    simp at h
end Go.V
set_option maxHeartbeats 4000000
set_option synthInstance.maxSize 100000
set_option synthInstance.maxHeartbeats 2000000
namespace Go.V
open Go.RowKit Go.Proofs
theorem fit_lt {z : Int} (h : z.natAbs < 4294967296) : fitZ z := by
  unfold fitZ
  have := ln_le (n := z.natAbs) (k := 1) (by rw [Nat.pow_one]; exact h)
  omega
theorem okI_of {z : Int} (h : fitZ z) : okI (decide (z < 0), lim z.natAbs) = true := by
  unfold okI
  rw [okB_lim h, Bool.true_and]
  by_cases h0 : z < 0
  · have := ln_pos.2 (show z.natAbs ≠ 0 by omega)
    rw [decide_eq_true (show 0 < (lim z.natAbs).length from this), Bool.or_true]
  · rw [decide_eq_false h0]; rfl
theorem okI_of2 {x y : Int} (hx : fitZ x) (hy : fitZ y) : [(decide (x < 0), lim x.natAbs), (decide (y < 0), lim y.natAbs)].all okI = true := by
  simp only [List.all_cons, List.all_nil, Bool.and_true, okI_of hx, okI_of hy]
theorem gcd_12_18 : gG 12 18 = 6 ∧ gcdX 12 18 = 2 ∧ gcdY 12 18 = -1 := by
  have h0 : (18 : Int) ≠ 0 := by decide
  have h1 : gG 12 18 = 6 := by decide
  have h2 := gcd_eq (a := 12) h0
  have h3 := gQ_mul (a := 12) h0
  rw [h1] at h2 h3
  have h4 : gQ 12 18 = 3 := by
    have : (18 : Int).natAbs = 18 := rfl
    omega
  have h5 : 0 ≤ gcdX 12 18 := by unfold gcdX; rw [if_neg h0, h4]; exact Int.emod_nonneg _ (by decide)
  have h6 : gcdX 12 18 < 3 := by unfold gcdX; rw [if_neg h0, h4]; exact Int.emod_lt_of_pos _ (by decide)
  refine ⟨h1, ?_, ?_⟩ <;> omega
theorem str_255 : strZ 16 true (-255) = [45, 70, 70] := by
  have h : txt 16 255 = [102, 102] := by
    unfold txt
    rw [if_neg (by decide), dgs_pos (by decide) (by decide), dgs_pos (by decide) (by decide), show 255 / 16 / 16 = 0 from rfl, dgs_zero]
    rfl
  unfold strZ
  rw [show (-255 : Int).natAbs = 255 from rfl, h]
  rfl
theorem ZnJ {C : Ctx} {dst : Option Tmp} {x y : Operand} {xt yt ty : TypeId} {pos : String} {aft : Array Edge} {gd : Option (Nat × Bool)} {env : List D} {H : Heap} {s t : ByteArray} (hx : evO C env x = some (.str s)) (hy : evO C env y = some (.str t)) (h : s = t) : OpQ C ⟨dst, .binOp .eql xt x y yt, ty, pos, aft, gd⟩ env H (.bool true) := by
  have := Zmz (C := C) (H := H) (dst := dst) (ty := ty) (pos := pos) (aft := aft) (gd := gd) (xt := xt) (yt := yt) hx hy
  rw [h, beq_self_eq_true] at this
  exact this
theorem Zci : PC C Zis [] (fun o => o = .ret (.bool true)) := by
  have hdiv : PC C Zgf [intD (-7), intD 2, .int .i64 4] (fun o => o = .ret (.tup [intD (-4), intD 1, .int .i64 0])) := by
    refine (ZnD (decide ((-7 : Int) < 0), lim (-7 : Int).natAbs) (decide ((2 : Int) < 0), lim (2 : Int).natAbs) (U32_lim _) (U32_lim _) 4).mono fun o ho => ?_
    rw [okI_of2 (fit_lt (by decide)) (fit_lt (by decide)), valI_int, valI_int, show divR 4 true (-7) 2 = ((-4, 1), 0) by decide] at ho
    exact ho
  have hgcd : PC C Zgh [intD 12, intD 18] (fun o => o = .ret (.tup [intD 6, intD 2, intD (-1), .int .i64 0])) := by
    refine (ZnF (decide ((12 : Int) < 0), lim (12 : Int).natAbs) (decide ((18 : Int) < 0), lim (18 : Int).natAbs) (U32_lim _) (U32_lim _)).mono fun o ho => ?_
    obtain ⟨e1, e2, e3⟩ := gcd_12_18
    rw [okI_of2 (fit_lt (by decide)) (fit_lt (by decide)), valI_int, valI_int] at ho
    simp only [gcdR, cond_true, e1, e2, e3] at ho
    exact ho
  have htext : PC C ZcY [intD (-255), .int .i64 16, .bool true] (fun o => o = .ret (.tup [.str ⟨#[45, 70, 70]⟩, .int .i64 0])) := by
    refine (Zez (decide ((-255 : Int) < 0), lim (-255 : Int).natAbs) (U32_lim _) 16 true).mono fun o ho => ?_
    have : textR (decide ((-255 : Int) < 0), lim (-255 : Int).natAbs) 16 true = ([45, 70, 70], 0) := by
      unfold textR
      rw [okI_of (fit_lt (by decide)), valI_int, show (16 : Int).toNat = 16 from rfl, str_255]
      rfl
    rw [this] at ho
    exact ho
  have hs : ∀ x : Int, PC C Zh3 [intD x, intD x] (fun o => o = .ret (.bool true)) := fun x => (ZkE x x).mono fun o ho => by rw [ho, decide_eq_true rfl]
  refine PC.run Zdv Zhf rfl Zhg rfl (rs := [.tmp 0]) (by rw [Zhh]) (by simp only [List.length_cons, List.length_nil, Nat.reduceAdd, Nat.reduceSub, List.replicate_succ, List.replicate_zero, List.cons_append, List.nil_append]; exact rfl) ?_
  refine ARun.seq (ARun.region ?_)
  refine y_op rfl (Zaa rfl) ?_
  refine AOps.nil (ARun.seq (ARun.region ?_))
  refine y_op rfl (q_call rfl rfl (Zaq (-7) (by decide) (by decide))) ?_
  refine y_new rfl (Zak rfl rfl rfl rfl) ?_
  refine y_new rfl (Zad rfl rfl rfl rfl rfl rfl rfl rfl (Nat.le_of_ble_eq_true rfl) rfl) ?_
  refine AOps.nil (ARun.seq (ARun.region ?_))
  refine y_op rfl (q_call rfl rfl (Zaq 2 (by decide) (by decide))) ?_
  refine y_new rfl (Zak rfl rfl rfl rfl) ?_
  refine y_new rfl (Zad rfl rfl rfl rfl rfl rfl rfl rfl (Nat.le_of_ble_eq_true rfl) rfl) ?_
  refine AOps.nil (ARun.seq (ARun.region ?_))
  refine y_op rfl (Zae rfl rfl rfl rfl rfl rfl) ?_
  refine y_op rfl (Zae rfl rfl rfl rfl rfl rfl) ?_
  refine y_op rfl (q_call rfl rfl (hdiv)) ?_
  refine y_op rfl (q_move rfl) ?_
  refine y_op rfl (Zab rfl rfl) ?_
  refine y_op rfl (Zab rfl rfl) ?_
  refine y_op rfl (Zab rfl rfl) ?_
  refine y_new rfl (Zak rfl rfl rfl rfl) ?_
  refine y_new rfl (Zak rfl rfl rfl rfl) ?_
  refine y_new rfl (Zad rfl rfl rfl rfl rfl rfl rfl rfl (Nat.le_of_ble_eq_true rfl) rfl) ?_
  refine y_new rfl (Zad rfl rfl rfl rfl rfl rfl rfl rfl (Nat.le_of_ble_eq_true rfl) rfl) ?_
  refine y_op rfl (Zaa rfl) ?_
  refine AOps.nil (ARun.seq (ARun.region ?_))
  refine y_op rfl (q_call rfl rfl (Zaq 12 (by decide) (by decide))) ?_
  refine y_op rfl (q_call rfl rfl (Zaq 18 (by decide) (by decide))) ?_
  refine y_op rfl (q_call rfl rfl (hgcd)) ?_
  refine y_op rfl (q_move rfl) ?_
  refine y_op rfl (Zab rfl rfl) ?_
  refine y_op rfl (Zab rfl rfl) ?_
  refine y_op rfl (Zab rfl rfl) ?_
  refine y_op rfl (Zab rfl rfl) ?_
  refine y_new rfl (Zak rfl rfl rfl rfl) ?_
  refine y_new rfl (Zak rfl rfl rfl rfl) ?_
  refine y_new rfl (Zak rfl rfl rfl rfl) ?_
  refine y_new rfl (Zad rfl rfl rfl rfl rfl rfl rfl rfl (Nat.le_of_ble_eq_true rfl) rfl) ?_
  refine y_new rfl (Zad rfl rfl rfl rfl rfl rfl rfl rfl (Nat.le_of_ble_eq_true rfl) rfl) ?_
  refine y_new rfl (Zad rfl rfl rfl rfl rfl rfl rfl rfl (Nat.le_of_ble_eq_true rfl) rfl) ?_
  refine y_op rfl (Zaa rfl) ?_
  refine AOps.nil (ARun.seq (ARun.region ?_))
  refine y_op rfl (q_call rfl rfl (Zaq (-255) (by decide) (by decide))) ?_
  refine y_op rfl (q_call rfl rfl (htext)) ?_
  refine y_op rfl (q_move rfl) ?_
  refine y_op rfl (Zab rfl rfl) ?_
  refine y_op rfl (Zab rfl rfl) ?_
  refine y_op rfl (Zaa rfl) ?_
  refine y_op rfl (Zaa rfl) ?_
  refine AOps.nil (ARun.seq ?_)
  refine ARun.drawnP 39 (fun _ => False) mixC rfl rfl (by kernel_rfl) (fun _ _ h => h.elim) ?_
  refine .op rfl (q_move rfl) ?_
  refine .op rfl (q_int rfl rfl rfl) ?_
  refine .op rfl (q_move rfl) ?_
  refine .op rfl (q_move rfl) ?_
  refine .op rfl (q_int rfl rfl rfl) ?_
  refine .op rfl (q_pick rfl rfl rfl rfl) ?_
  refine .op rfl (q_move rfl) ?_
  refine .op rfl (q_move rfl) ?_
  refine .op rfl (q_int rfl rfl rfl) ?_
  refine .op rfl (q_pick rfl rfl rfl rfl) ?_
  refine .op rfl (q_move rfl) ?_
  refine .op rfl (Zae rfl rfl rfl rfl rfl rfl) ?_
  refine .op rfl (q_call rfl rfl (ZbA (-4) (by decide) (by decide))) ?_
  refine .op rfl (q_call rfl rfl (hs (-4))) ?_
  refine .op rfl (q_pick rfl rfl rfl rfl) ?_
  refine .op rfl (q_move rfl) ?_
  refine .op rfl (Zae rfl rfl rfl rfl rfl rfl) ?_
  refine .op rfl (q_call rfl rfl (ZbA 1 (by decide) (by decide))) ?_
  refine .op rfl (q_call rfl rfl (hs 1)) ?_
  refine .op rfl (q_pick rfl rfl rfl rfl) ?_
  refine .op rfl (q_move rfl) ?_
  refine .op rfl (Zae rfl rfl rfl rfl rfl rfl) ?_
  refine .op rfl (q_call rfl rfl (ZbA 6 (by decide) (by decide))) ?_
  refine .op rfl (q_call rfl rfl (hs 6)) ?_
  refine .op rfl (q_pick rfl rfl rfl rfl) ?_
  refine .op rfl (q_move rfl) ?_
  refine .op rfl (Zae rfl rfl rfl rfl rfl rfl) ?_
  refine .op rfl (q_call rfl rfl (ZbA 2 (by decide) (by decide))) ?_
  refine .op rfl (q_call rfl rfl (hs 2)) ?_
  refine .op rfl (q_pick rfl rfl rfl rfl) ?_
  refine .op rfl (q_move rfl) ?_
  refine .op rfl (Zae rfl rfl rfl rfl rfl rfl) ?_
  refine .op rfl (q_call rfl rfl (ZbA (-1) (by decide) (by decide))) ?_
  refine .op rfl (q_call rfl rfl (hs (-1))) ?_
  refine .op rfl (q_pick rfl rfl rfl rfl) ?_
  refine .op rfl (q_move rfl) ?_
  refine .op rfl (q_move rfl) ?_
  refine .op rfl (ZnJ rfl rfl rfl) ?_
  refine .op rfl (q_pick rfl rfl rfl rfl) ?_
  refine .nil (fun hG => ?_)
  refine y_op rfl (Zaa rfl) ?_
  refine AOps.nil ?_
  refine ARun.ret ?_
  refine ⟨_, _, _, .tmp rfl .nil, .cons (.same _) .nil, rfl, ?_⟩
  rfl
end Go.V
set_option maxHeartbeats 4000000
set_option synthInstance.maxSize 100000
set_option synthInstance.maxHeartbeats 2000000
namespace Go.V
open Go.RowKit Go.Proofs
end Go.V
set_option maxHeartbeats 4000000
set_option synthInstance.maxSize 100000
set_option synthInstance.maxHeartbeats 2000000
namespace Go.V
open Go.RowKit Go.Proofs
theorem quo2_u32 {x : Nat} (h : x < 4294967296) : IntKind.u32.wrap ((x : Int).tdiv 2) = ((x / 2 : Nat) : Int) := by
  rw [Int.tdiv_eq_ediv_of_nonneg (by omega), IntKind.wrap_u32]; omega
theorem bl_half {x : Nat} (h : 0 < x) : bl x = 1 + bl (x / 2) := by
  by_cases h1 : x = 1
  · subst h1
    have h2 : bl 1 ≤ 1 := bl_le.2 (by decide)
    have h3 : 0 < bl 1 := bl_lt.2 (by decide)
    rw [show 1 / 2 = 0 from rfl, bl_zero]; omega
  · have hs := bl_div (n := x) (k := 1) (by omega)
    rw [Nat.pow_one] at hs
    exact hs
theorem Znf (a : Nat) (ha : (lim a).length ≤ 1099511627776) : PC C ZlM [numD a] (fun o => o = .ret (.int .i64 ((bl a : Nat) : Int))) := by
  refine PC.run Zgy Zk1 rfl Zk2 rfl (rs := [.tmp 2]) (by rw [Zk3]) (by simp only [List.length_cons, List.length_nil, Nat.reduceAdd, Nat.reduceSub, List.replicate_succ, List.replicate_zero, List.cons_append, List.nil_append]; exact rfl) ?_
  refine ARun.seq (ARun.region ?_)
  refine y_op rfl (Zaa rfl) ?_
  refine AOps.nil (ARun.seq (ARun.region ?_))
  refine y_op rfl (q_move rfl) ?_
  refine y_op rfl (Zac rfl rfl) ?_
  refine y_op rfl (Zaa rfl) ?_
  refine AOps.nil (ARun.seq (ARun.seq (ARun.region ?_)))
  refine y_op rfl (q_move rfl) ?_
  refine y_op rfl (q_int rfl rfl rfl) ?_
  refine AOps.nil ?_
  refine ARun.cond rfl (fun h => ?_) (fun h => ?_)
  · skip
    have h : (lim a).length = 0 := by simpa using h
    refine ARun.seq (ARun.region ?_)
    refine y_op rfl (Zaa rfl) ?_
    refine AOps.nil ?_
    refine ARun.ret ?_
    refine ⟨_, _, _, .tmp rfl .nil, .cons (.same _) .nil, rfl, ?_⟩
    have h0 : a = 0 := by apply Classical.byContradiction; intro hn; have := ln_pos.2 hn; omega
    rw [h0, bl_zero]; rfl
  · skip
    have h : 0 < (lim a).length := by
      rcases Nat.eq_zero_or_pos (lim a).length with e | e
      · rw [e] at h; simp at h
      · exact e
    have htop := bl_top h
    have hd := dig_lt a ((lim a).length - 1)
    have hsub : IntKind.i64.wrap (((lim a).length : Int) - 1) = (((lim a).length - 1 : Nat) : Int) := by rw [IntWalk.i64_in _ (by omega)]; omega
    refine ARun.skip (ARun.seq (ARun.region ?_))
    refine y_op rfl (q_move rfl) ?_
    refine y_op rfl (q_sub (r := (((lim a).length - 1 : Nat) : Int)) rfl rfl hsub) ?_
    refine y_op rfl (q_mul rfl rfl (nmul_i64 (m := 32) (by omega))) ?_
    refine y_op rfl (Zaa rfl) ?_
    refine AOps.nil (ARun.seq (ARun.seq (ARun.region ?_)))
    refine y_op rfl (q_move rfl) ?_
    refine y_op rfl (q_move rfl) ?_
    refine y_op rfl (q_sub (r := (((lim a).length - 1 : Nat) : Int)) rfl rfl hsub) ?_
    refine y_op rfl (Zam (i := (((lim a).length - 1 : Nat) : Int)) rfl rfl rfl rfl (by omega) (by omega) (nts_ne (by omega)) (drop_nat rfl)) ?_
    refine y_op rfl (q_load rfl rfl rfl (lim_load (i := (lim a).length - 1) (by omega))) ?_
    refine y_op rfl (Zaa rfl) ?_
    refine AOps.nil (ARun.block ?_)
    refine ARun.loopI (S := Nat × Nat) (fun σ : Nat × Nat => [(18, .any), (19, .any), (20, .any), (21, .any), (22, .any), (23, .any), (4, .int .i64 (σ.1 : Int)), (5, .int .u32 (σ.2 : Int))]) (fun σ : Nat × Nat => []) (fun σ : Nat × Nat => σ.1 + bl σ.2 = bl a ∧ σ.2 < 4294967296) (fun σ : Nat × Nat => σ.2) ((32 * ((lim a).length - 1), dig a ((lim a).length - 1))) ?_ ?_ ?_ ?_
    · exact ⟨htop.symm, hd⟩
    · (repeat' first | exact envLe_nil | apply envLe_any | apply envLe_same)
    · rfl
    rintro ⟨b, x⟩ hinv ih
    dsimp only at hinv ih ⊢
    obtain ⟨hb, hx⟩ := hinv
    have hbl := bl_le_ln a
    clear hsub
    refine ARun.seq (ARun.seq (ARun.region ?_))
    refine y_op rfl (q_move rfl) ?_
    refine y_op rfl (q_int rfl rfl rfl) ?_
    refine AOps.nil ?_
    refine ARun.ite rfl (fun h2 => ?_) (fun h2 => ?_)
    · skip
      have hx0 : 0 < x := by omega
      have hs := bl_half hx0
      refine ARun.skip (ARun.seq (ARun.block (ARun.region ?_)))
      refine y_op rfl (q_move rfl) ?_
      refine y_op rfl (q_add rfl rfl (nadd1_i64 (by omega))) ?_
      refine y_op rfl (Zaa rfl) ?_
      refine AOps.nil (ARun.inBlock (ARun.region ?_))
      refine y_op rfl (q_move rfl) ?_
      refine y_op rfl (q_quo rfl rfl (by decide) (quo2_u32 hx)) ?_
      refine y_op rfl (Zaa rfl) ?_
      refine AOps.nil ?_
      refine ARun.again (ih ((b + 1, x / 2)) ?_ ?_) ?_ ?_
      · exact ⟨by dsimp only; omega, by dsimp only; omega⟩
      · exact Nat.div_lt_self hx0 (by decide)
      · (repeat' first | exact envLe_nil | apply envLe_any | apply envLe_same)
      · rfl
    · skip
      obtain rfl : x = 0 := by omega
      rw [bl_zero, Nat.add_zero] at hb
      refine ARun.exit rfl ?_
      refine ARun.seq (ARun.region ?_)
      refine y_op rfl (q_move rfl) ?_
      refine y_op rfl (Zaa rfl) ?_
      refine AOps.nil ?_
      refine ARun.ret ?_
      refine ⟨_, _, _, .tmp rfl .nil, .cons (.same _) .nil, rfl, ?_⟩
      rw [← hb]; rfl
end Go.V
set_option maxHeartbeats 4000000
set_option synthInstance.maxSize 100000
set_option synthInstance.maxHeartbeats 2000000
namespace Go.V
open Go.RowKit Go.Proofs
end Go.V
set_option maxHeartbeats 4000000
set_option synthInstance.maxSize 100000
set_option synthInstance.maxHeartbeats 2000000
namespace Go.V
open Go.RowKit Go.Proofs
theorem Zcv {C : Ctx} {dst : Option Tmp} {x y : Operand} {xt yt ty : TypeId} {pos : String} {aft : Array Edge} {gd : Option (Nat × Bool)} {env : List D} {H : Heap} {k : IntKind} {m n : Int} (hx : evO C env x = some (.int k m)) (hy : evO C env y = some (.int k n)) (h : m = n) : OpQ C ⟨dst, .binOp .eql xt x y yt, ty, pos, aft, gd⟩ env H (.bool true) :=
  o_int hx hy (by subst h; simp [intBin])
end Go.V
/- THE SPECIFICATION's SHIFTS and DIVISION: plain Lean. -/
namespace Go.V
theorem shlA_step {a q r i c : Nat} {ys : List Nat} (hu : U32 ys) (hl : ys.length = q + i) (hr : r < 32) (hc : c < 2 ^ r) (hv : val ys + B ^ (q + i) * c = a % B ^ i * 2 ^ r * B ^ q) :
    U32 (ys ++ [(dig a i * 2 ^ r + c) % 4294967296]) ∧ (ys ++ [(dig a i * 2 ^ r + c) % 4294967296]).length = q + (i + 1) ∧ (dig a i * 2 ^ r + c) / 4294967296 < 2 ^ r ∧
      val (ys ++ [(dig a i * 2 ^ r + c) % 4294967296]) + B ^ (q + (i + 1)) * ((dig a i * 2 ^ r + c) / 4294967296) = a % B ^ (i + 1) * 2 ^ r * B ^ q := by
  have hsum : dig a i * 2 ^ r + c = c + dig a i * 2 ^ r := Nat.add_comm _ _
  refine ⟨hu.snoc (Nat.mod_lt _ (by decide)), by simp [hl]; omega, by rw [hsum]; exact shl_carry (dig_lt a i) hc, ?_⟩
  rw [val_append, hl, mod_succ, ← Nat.add_assoc q i 1, Nat.pow_succ, Nat.mul_assoc]
  generalize hs : dig a i * 2 ^ r + c = s
  have h1 : B ^ (q + i) * (s % 4294967296) + B ^ (q + i) * (B * (s / 4294967296)) = B ^ (q + i) * s := by
    rw [← Nat.mul_add]; congr 1; exact Nat.mod_add_div s B
  have h2 : B ^ (q + i) * s = B ^ (q + i) * (dig a i * 2 ^ r) + B ^ (q + i) * c := by rw [← hs, Nat.mul_add]
  have h3 : (a % B ^ i + B ^ i * dig a i) * 2 ^ r * B ^ q = a % B ^ i * 2 ^ r * B ^ q + B ^ (q + i) * (dig a i * 2 ^ r) := by
    rw [Nat.add_mul, Nat.add_mul, Nat.pow_add]
    congr 1
    rw [Nat.mul_comm (B ^ q) (B ^ i), Nat.mul_assoc (B ^ i), Nat.mul_assoc (B ^ i), Nat.mul_assoc (B ^ i)]
    congr 1
    exact Nat.mul_comm _ _
  simp only [val, Nat.mul_zero, Nat.add_zero]
  rw [h3]
  omega
theorem shlA_end {a q r c : Nat} {ys : List Nat} (hu : U32 ys) (hl : ys.length = q + (lim a).length) (hc : c < 2 ^ r) (hr : r < 32) (hv : val ys + B ^ (q + (lim a).length) * c = a % B ^ (lim a).length * 2 ^ r * B ^ q) :
    U32 (ys ++ [c % 4294967296]) ∧ val (ys ++ [c % 4294967296]) = a * 2 ^ (32 * q + r) := by
  have h1 : 2 ^ r ≤ 2 ^ 31 := Nat.pow_le_pow_right (by decide) (by omega)
  have h2 : c % 4294967296 = c := Nat.mod_eq_of_lt (by have : (2 : Nat) ^ 31 = 2147483648 := rfl; omega)
  refine ⟨hu.snoc (Nat.mod_lt _ (by decide)), ?_⟩
  rw [val_append, hl, h2]
  simp only [val, Nat.mul_zero, Nat.add_zero]
  rw [hv, mod_of_ln (Nat.le_refl _), Nat.pow_add, ← B_pow, Nat.mul_assoc, Nat.mul_comm (2 ^ r)]
theorem shrA_step {a n i : Nat} {ys : List Nat} (hu : U32 ys) (hl : ys.length = i) (hv : val ys = a / 2 ^ n % B ^ i) :
    U32 (ys ++ [dig (a / 2 ^ n) i]) ∧ (ys ++ [dig (a / 2 ^ n) i]).length = i + 1 ∧ val (ys ++ [dig (a / 2 ^ n) i]) = a / 2 ^ n % B ^ (i + 1) := by
  refine ⟨hu.snoc (dig_lt _ _), by simp [hl], ?_⟩
  rw [val_append, hl, mod_succ, hv]
  simp [val]
theorem shrA_dig (a n i : Nat) : (dig a (n / 32 + i + 1) * 2 ^ 32 + dig a (n / 32 + i)) / 2 ^ (n % 32) % 4294967296 = dig (a / 2 ^ n) i := by
  have h := shr_digit (m := a / B ^ (n / 32)) (r := n % 32) (i := i) (Nat.mod_lt _ (by decide))
  rw [← dig_add, ← dig_add, ← div_split] at h
  rw [← h, Nat.add_comm (dig a (n / 32 + i + 1) * 2 ^ 32), show n / 32 + i = i + n / 32 by omega, show i + n / 32 + 1 = i + 1 + n / 32 by omega]
theorem dv_back {d W h c P v y : Nat} (h1 : v + h * d = W + P * 1) (hv : v < P) (h2 : y + P * c = v + d) (hc : c ≤ 1) (hd0 : 0 < d) : 1 ≤ h ∧ W / d ≤ h - 1 ∧ y + (h - 1) * d = W + P * (1 - c) := by
  have h3 : W < h * d := by omega
  have h4 : W / d < h := (Nat.div_lt_iff_lt_mul hd0).2 h3
  obtain ⟨g, rfl⟩ : ∃ g, h = g + 1 := ⟨h - 1, by have := Nat.lt_of_le_of_lt (Nat.zero_le _) h4; omega⟩
  rw [Nat.add_mul, Nat.one_mul] at h1
  refine ⟨by omega, by rw [Nat.add_sub_cancel]; exact Nat.le_of_lt_succ h4, ?_⟩
  rw [Nat.add_sub_cancel]
  clear h4
  have hc2 : c = 0 ∨ c = 1 := by omega
  rcases hc2 with rfl | rfl
  · rw [Nat.mul_zero] at h2; rw [Nat.sub_zero]; omega
  · rw [Nat.mul_one] at h2; rw [Nat.sub_self, Nat.mul_zero]; omega
end Go.V
set_option maxHeartbeats 2000000
set_option synthInstance.maxSize 100000
set_option synthInstance.maxHeartbeats 2000000
namespace Go.V
open Go.RowKit Go.Proofs
abbrev rowU (xs : List Nat) : AObj := ⟨nts .u32 xs, Zah, 1, true, none⟩
theorem Zng (xs : List Nat) (hx : U32 xs) (hl : xs.length ≤ 35184372088832) : HC C Zb7 [] [sln .u32 xs] (fun x H' => ∃ k, x = .ret (.row k (lim (val xs)).length) ∧ H'[k]? = some (some (rowU (lim (val xs))))) := by
  refine HC.run ZdR ZgM rfl ZgN (rs := [.tmp 2]) (by rw [ZgO]) (by simp only [List.length_cons, List.length_nil, Nat.reduceAdd, Nat.reduceSub, List.replicate_succ, List.replicate_zero, List.cons_append, List.nil_append]; exact rfl) ?_
  refine ARun.seq (ARun.region ?_)
  refine y_op rfl (Zaa rfl) ?_
  refine AOps.nil (ARun.seq (ARun.region ?_))
  refine y_op rfl (q_move rfl) ?_
  refine y_op rfl (Zac rfl rfl) ?_
  refine y_op rfl (Zaa rfl) ?_
  refine AOps.nil (ARun.seq (ARun.block ?_))
  refine ARun.loopI (S := Nat) (fun n : Nat => [(6, .any), (7, .any), (8, .any), (9, .any), (10, .any), (11, .any), (12, .any), (13, .any), (14, .any), (15, .any), (16, .any), (17, .any), (3, .int .i64 (n : Int))]) (fun n : Nat => []) (fun n : Nat => n ≤ xs.length ∧ val (xs.take n) = val xs) (fun n : Nat => n) (xs.length) ?_ ?_ ?_ ?_
  · exact ⟨Nat.le_refl _, by rw [List.take_length]⟩
  · (repeat' first | exact envLe_nil | apply envLe_any | apply envLe_same)
  · rfl
  rintro n hinv ih
  obtain ⟨hn, hv⟩ := hinv
  refine ARun.seq (ARun.seq (ARun.region ?_))
  refine y_op rfl (q_move rfl) ?_
  refine y_op rfl (q_int rfl rfl rfl) ?_
  refine y_op rfl (q_move rfl) ?_
  refine AOps.bool 8 rfl (fun h => ?_) (fun h => ?_)
  · skip
    replace h := of_decide_eq_true h
    obtain ⟨m, rfl⟩ : ∃ m, n = m + 1 := ⟨n - 1, by omega⟩
    refine y_op rfl (q_move rfl) ?_
    refine y_op rfl (q_move rfl) ?_
    refine y_op rfl (q_sub rfl rfl (nsub1_i64 (by omega) (by omega))) ?_
    refine y_op rfl (Zam (i := m) rfl rfl rfl rfl (by omega) (by omega) (nts_ne (by omega)) (drop_nat rfl)) ?_
    refine y_op rfl (q_load rfl rfl rfl (nts_load (i := m) (by omega))) ?_
    refine y_op rfl (q_int rfl rfl rfl) ?_
    refine y_op rfl (q_pick rfl rfl rfl rfl) ?_
    refine AOps.nil ?_
    refine ARun.ite rfl (fun h2 => ?_) (fun h2 => ?_)
    · skip
      refine ARun.skip (ARun.block (ARun.region ?_))
      refine y_op rfl (q_move rfl) ?_
      refine y_op rfl (q_sub rfl rfl (nsub1_i64 (by omega) (by omega))) ?_
      refine y_op rfl (Zaa rfl) ?_
      refine AOps.nil (ARun.inBlock ?_)
      refine ARun.again (ih (m) ?_ ?_) ?_ ?_
      · exact ⟨by omega, by rw [← hv, List.take_add_one, val_append, show xs[m]? = some 0 by rw [List.getElem?_eq_getElem (by omega)]; have : xs.getD m 0 = 0 := (by omega); rw [List.getD_eq_getElem?_getD, List.getElem?_eq_getElem (by omega)] at this; exact congrArg some this]; simp [val]⟩
      · exact Nat.lt_succ_self _
      · (repeat' first | exact envLe_nil | apply envLe_any | apply envLe_same)
      · rfl
    · skip
      refine ARun.exit rfl ?_
      refine ARun.seq (ARun.region ?_)
      refine y_new rfl (Zao rfl rfl rfl rfl rfl rfl rfl rfl rfl rfl rfl (by decide) (by decide)) ?_
      refine y_op rfl (q_move rfl) ?_
      refine y_op rfl (q_move rfl) ?_
      refine y_op rfl (Zcr (m := (xs.take (m + 1)).length) (ds := nts .u32 (xs.take (m + 1))) rfl rfl rfl rfl rfl (bnd_nat rfl rfl) (by omega) (by omega) (by simp) (by simp; omega) (by rw [nts_slice]; simp)) ?_
      refine y_new rfl (Zb4 rfl rfl (by decide) rfl rfl rfl rfl rfl rfl rfl rfl rfl rfl (by simp) (by simp; omega) (by rw [maxLen_eq]; simp; omega) rfl) ?_
      refine y_op rfl (Zaa rfl) ?_
      refine AOps.nil ?_
      have hc : Canon (xs.take (m + 1)) := .inr (by rw [List.length_take, Nat.min_eq_left (by omega), Nat.add_sub_cancel, List.getD_eq_getElem?_getD, List.getElem?_take, if_pos (by omega), ← List.getD_eq_getElem?_getD]; omega)
      refine ARun.ret ?_
      refine ⟨_, _, _, .tmp rfl .nil, .cons (.same _) .nil, ?_⟩
      rw [← hv, lim_val (hx.take _) hc]
      refine ⟨1, ?_, rfl⟩
      show Out.ret (D.row 1 (0 + _)) = _
      rw [Nat.zero_add]
  · skip
    replace h := of_decide_eq_false h
    have hn0 : n = 0 := by omega
    subst hn0
    refine y_skip rfl ?_
    refine y_skip rfl ?_
    refine y_skip rfl ?_
    refine y_skip rfl ?_
    refine y_skip rfl ?_
    refine y_skip rfl ?_
    refine y_op rfl (q_pick rfl rfl rfl rfl) ?_
    refine AOps.nil ?_
    refine ARun.condF rfl ?_
    refine ARun.exit rfl ?_
    refine ARun.seq (ARun.region ?_)
    refine y_new rfl (Zao rfl rfl rfl rfl rfl rfl rfl rfl rfl rfl rfl (by decide) (by decide)) ?_
    refine y_op rfl (q_move rfl) ?_
    refine y_op rfl (q_move rfl) ?_
    refine y_op rfl (Zcr (m := 0) (ds := nts .u32 []) rfl rfl rfl rfl rfl (bnd_int rfl (by omega)) (by omega) (by omega) (by simp) (by simp) (by rw [nts_slice]; simp)) ?_
    refine y_new rfl (Zb4 rfl rfl (by decide) rfl rfl rfl rfl rfl rfl rfl rfl rfl rfl (by simp) (by simp) (by rw [maxLen_eq]; simp) rfl) ?_
    refine y_op rfl (Zaa rfl) ?_
    refine AOps.nil ?_
    refine ARun.ret ?_
    refine ⟨_, _, _, .tmp rfl .nil, .cons (.same _) .nil, ?_⟩
    rw [← hv, List.take_zero, val, lim_zero]
    exact ⟨1, rfl, rfl⟩
theorem r_TrimL {xs : List Nat} {n : Nat} (hx : U32 xs) (hn : xs.length = n) (hl : n ≤ 35184372088832) (H : Heap) : HC C Zb7 H [.sl n (nts .u32 xs)] (fun x H' => x = .ret (.row H.length (lim (val xs)).length) ∧ H' = H ++ [some (rowU (lim (val xs)))]) := by
  subst hn; exact HC.of_live (Zng xs hx hl) rfl rfl (by rfl) (pures_nts _) H
theorem Zmu (a : Nat) (hl : (lim a).length ≤ 35184372088832) : PC C Zb7 [numD a] (fun o => o = .ret (numD a)) := by
  have h := Zch (lim a) (U32_lim a) hl
  rwa [val_lim] at h
theorem ZlD (a n : Nat) (ha : (lim a).length ≤ 1099511627) (hn : n ≤ 1099511627) (h0 : 0 < a) : HC C Zek [] [numD a, .int .i64 (n : Int)] (fun x H' => ∃ k, x = .ret (.row k (lim (a * 2 ^ n)).length) ∧ H'[k]? = some (some (rowU (lim (a * 2 ^ n))))) := by
  have hL := ln_pos.2 (Nat.pos_iff_ne_zero.1 h0)
  have hr : n % 32 < 32 := Nat.mod_lt _ (by decide)
  refine HC.run ZeC Zh7 rfl Zh8 (rs := [.tmp 4]) (by rw [Zh9]) (by simp only [List.length_cons, List.length_nil, Nat.reduceAdd, Nat.reduceSub, List.replicate_succ, List.replicate_zero, List.cons_append, List.nil_append]; exact rfl) ?_
  refine ARun.seq (ARun.region ?_)
  refine y_op rfl (Zaa rfl) ?_
  refine AOps.nil (ARun.seq (ARun.seq (ARun.region ?_)))
  refine y_op rfl (q_move rfl) ?_
  refine y_op rfl (Zac rfl rfl) ?_
  refine y_op rfl (q_int rfl rfl rfl) ?_
  refine AOps.nil ?_
  refine ARun.cond rfl (fun h => ?_) (fun h => ?_)
  · skip
    exfalso
    have : (lim a).length = 0 := by simpa using h
    omega
  · skip
    refine ARun.skip (ARun.seq (ARun.region ?_))
    refine y_op rfl (q_move rfl) ?_
    refine y_op rfl (q_quo rfl rfl (by omega) (nquo_i64 (n := 32) rfl (by omega))) ?_
    refine y_op rfl (q_move rfl) ?_
    refine y_op rfl (q_quo rfl rfl (by omega) (nquo_i64 (n := 32) rfl (by omega))) ?_
    refine y_op rfl (q_move rfl) ?_
    refine y_op rfl (Zac rfl rfl) ?_
    refine y_op rfl (q_add rfl rfl (nadd_i64 (by omega))) ?_
    refine y_op rfl (q_add rfl rfl (nadd1_i64 (by omega))) ?_
    refine y_new rfl (ZkD (n := n / 32) (c := n / 32 + (lim a).length + 1) rfl rfl rfl rfl rfl rfl rfl (by omega) (by show 4 * _ ≤ _; omega) (by rw [maxLen_eq]; omega) (zeros_nts _)) ?_
    refine y_op rfl (Zaa rfl) ?_
    refine AOps.nil (ARun.seq (ARun.region ?_))
    refine y_op rfl (Zaa rfl) ?_
    refine AOps.nil (ARun.seq (ARun.seq (ARun.region ?_)))
    refine y_op rfl (Zaa rfl) ?_
    refine AOps.nil (ARun.block ?_)
    refine ARun.loopI (S := Nat × Nat × List Nat × Heap) (fun σ : Nat × Nat × List Nat × Heap => [(8, .any), (22, .any), (23, .any), (24, .any), (25, .any), (26, .any), (27, .any), (28, .any), (29, .any), (30, .any), (31, .any), (32, .any), (33, .any), (34, .any), (35, .any), (36, .any), (37, .any), (38, .any), (39, .any), (40, .any), (41, .any), (42, .any), (43, .any), (44, .any), (7, .int .i64 (σ.1 : Int)), (6, .int .u64 (σ.2.1 : Int)), (5, .row σ.2.2.2.length (n / 32 + σ.1))]) (fun σ : Nat × Nat × List Nat × Heap => σ.2.2.2 ++ [some ⟨nts .u32 σ.2.2.1, Zah, 1, true, none⟩]) (fun σ : Nat × Nat × List Nat × Heap => U32 σ.2.2.1 ∧ σ.2.2.1.length = n / 32 + σ.1 ∧ σ.1 ≤ (lim a).length ∧ σ.2.1 < 2 ^ (n % 32) ∧ val σ.2.2.1 + B ^ (n / 32 + σ.1) * σ.2.1 = a % B ^ σ.1 * 2 ^ (n % 32) * B ^ (n / 32)) (fun σ : Nat × Nat × List Nat × Heap => (lim a).length - σ.1) ((0, 0, List.replicate (n / 32) 0, [])) ?_ ?_ ?_ ?_
    · exact ⟨U32.replicate, by simp, Nat.zero_le _, Nat.two_pow_pos _, by simp [val_replicate, Nat.mod_one]⟩
    · (repeat' first | exact envLe_nil | apply envLe_any | apply envLe_same)
    · rfl
    rintro ⟨i, c, ys, J⟩ hinv ih
    dsimp only at hinv ih ⊢
    obtain ⟨hu, hl, hi, hc, hv⟩ := hinv
    have hbl : (nts .u32 ys).length = n / 32 + i := by rw [nts_length, hl]
    have hc31 : 2 ^ (n % 32) ≤ 2 ^ 31 := Nat.pow_le_pow_right (by decide) (by omega)
    refine ARun.seq (ARun.seq (ARun.region ?_))
    refine y_op rfl (q_move rfl) ?_
    refine y_op rfl (q_move rfl) ?_
    refine y_op rfl (Zac rfl rfl) ?_
    refine y_op rfl (q_int rfl rfl rfl) ?_
    refine AOps.nil ?_
    refine ARun.ite rfl (fun h2 => ?_) (fun h2 => ?_)
    · skip
      have d1 := dig_lt a i
      have d2 := shl_bound d1 hr
      refine ARun.skip (ARun.seq (ARun.block (ARun.seq (ARun.region ?_))))
      refine y_op rfl (q_move rfl) ?_
      refine y_op rfl (q_move rfl) ?_
      refine y_op rfl (Zam rfl rfl rfl rfl (by omega) (by omega) (nts_ne (by omega)) (drop_nat rfl)) ?_
      refine y_op rfl (q_load rfl rfl rfl (lim_load (by omega))) ?_
      refine y_op rfl (q_conv rfl rfl rfl (nconv_u64 (by omega))) ?_
      refine y_op rfl (q_move rfl) ?_
      refine y_op rfl (q_rem rfl rfl (by omega) (nrem (n := 32) rfl)) ?_
      refine y_op rfl (q_shl rfl rfl (by omega) (nshl_u64 rfl (by omega) (by omega))) ?_
      refine y_op rfl (q_move rfl) ?_
      refine y_op rfl (q_add rfl rfl (nadd_u64 (by omega))) ?_
      refine y_op rfl (Zaa rfl) ?_
      refine AOps.nil (ARun.seq (ARun.region ?_))
      refine y_op rfl (q_move rfl) ?_
      refine y_op rfl (q_move rfl) ?_
      refine y_op rfl (q_conv rfl rfl rfl nconv_u32) ?_
      refine y_new rfl (Zao rfl rfl rfl rfl rfl rfl rfl rfl rfl rfl rfl (by decide) (by decide)) ?_
      refine Zm9 rfl rfl rfl rfl rfl rfl rfl rfl hbl rfl rfl (by show (_ + 1) * 4 ≤ _; omega) (by rw [maxLen_eq]; omega) (fun J' => ?_)
      rw [nts_snoc]
      refine y_op rfl (Zaa rfl) ?_
      refine AOps.nil (ARun.region ?_)
      refine y_op rfl (q_move rfl) ?_
      refine y_op rfl (q_shr rfl rfl (by omega) nshr32) ?_
      refine y_op rfl (Zaa rfl) ?_
      refine AOps.nil (ARun.inBlock (ARun.region ?_))
      refine y_op rfl (q_move rfl) ?_
      refine y_op rfl (q_add rfl rfl (nadd1_i64 (by omega))) ?_
      refine y_op rfl (Zaa rfl) ?_
      refine AOps.nil ?_
      refine ARun.again (ih ((i + 1, (dig a i * 2 ^ (n % 32) + c) / 4294967296, ys ++ [(dig a i * 2 ^ (n % 32) + c) % 4294967296], J')) ?_ ?_) ?_ ?_
      · (obtain ⟨k1, k2, k3, k4⟩ := shlA_step hu hl hr hc hv; exact ⟨k1, k2, by dsimp only; omega, k3, k4⟩)
      · (dsimp only; omega)
      · (repeat' first | exact envLe_nil | apply envLe_any | apply envLe_same)
      · rfl
    · skip
      have hin : i = (lim a).length := by omega
      subst hin
      obtain ⟨e1, e2⟩ := shlA_end hu hl hc hr hv
      rw [Nat.div_add_mod] at e2
      refine ARun.exit rfl ?_
      refine ARun.seq (ARun.region ?_)
      refine y_op rfl (q_move rfl) ?_
      refine y_op rfl (q_move rfl) ?_
      refine y_op rfl (q_conv rfl rfl rfl nconv_u32) ?_
      refine y_new rfl (Zao rfl rfl rfl rfl rfl rfl rfl rfl rfl rfl rfl (by decide) (by decide)) ?_
      refine Zm9 rfl rfl rfl rfl rfl rfl rfl rfl hbl rfl rfl (by show (_ + 1) * 4 ≤ _; omega) (by rw [maxLen_eq]; omega) (fun J' => ?_)
      rw [nts_snoc]
      refine y_new rfl (n_live rfl rfl (.cons (.row (o := rowU (ys ++ [c % 4294967296])) (by simp) (pures_nts _)) .nil) (r_TrimL (xs := ys ++ [c % 4294967296]) e1 (by simp [hl]) (by omega)) rfl) ?_
      refine y_op rfl (Zaa rfl) ?_
      refine AOps.nil ?_
      refine ARun.ret ?_
      refine ⟨_, _, _, .tmp rfl .nil, .cons (.same _) .nil, ?_⟩
      rw [e2]
      exact ⟨_, rfl, by simp [frz]⟩
theorem r_ShlL (a n : Nat) (ha : (lim a).length ≤ 1099511627) (hn : n ≤ 1099511627) (h0 : 0 < a) (H : Heap) : HC C Zek H [numD a, .int .i64 (n : Int)] (fun x H' => x = .ret (.row H.length (lim (a * 2 ^ n)).length) ∧ H' = H ++ [some (rowU (lim (a * 2 ^ n)))]) :=
  HC.of_live (ZlD a n ha hn h0) rfl rfl (by rfl) (pures_nts _) H
theorem Znh (n : Nat) (hn : n ≤ 1099511627) : PC C Zek [numD 0, .int .i64 (n : Int)] (fun o => o = .ret (numD 0)) := by
  have hz := lim_zero
  refine PC.run ZeC Zh7 rfl Zh8 rfl (rs := [.tmp 4]) (by rw [Zh9]) (by simp only [List.length_cons, List.length_nil, Nat.reduceAdd, Nat.reduceSub, List.replicate_succ, List.replicate_zero, List.cons_append, List.nil_append]; exact rfl) ?_
  refine ARun.seq (ARun.region ?_)
  refine y_op rfl (Zaa rfl) ?_
  refine AOps.nil (ARun.seq (ARun.seq (ARun.region ?_)))
  refine y_op rfl (q_move rfl) ?_
  refine y_op rfl (Zac rfl rfl) ?_
  refine y_op rfl (q_int rfl rfl rfl) ?_
  refine AOps.nil ?_
  refine ARun.cond rfl (fun h => ?_) (fun h => ?_)
  · skip
    refine ARun.seq (ARun.region ?_)
    refine y_op rfl (q_move rfl) ?_
    refine y_op rfl (Zaa rfl) ?_
    refine AOps.nil ?_
    refine ARun.ret ?_
    refine ⟨_, _, _, .tmp rfl .nil, .cons (.same _) .nil, rfl, ?_⟩
    rfl
  · skip
    exfalso
    rw [lim_zero] at h
    cases h
theorem ZnK (a n : Nat) (ha : (lim a).length ≤ 1099511627) (hn : n ≤ 1099511627) : PC C Zek [numD a, .int .i64 (n : Int)] (fun o => o = .ret (numD (a * 2 ^ n))) := by
  rcases Nat.eq_zero_or_pos a with h0 | h0
  · subst h0
    rw [Nat.zero_mul]
    exact Znh n hn
  · exact PC.of_live (ZlD a n ha hn h0) (by rfl) (pures_nts _)
theorem ZlE (a n : Nat) (ha : (lim a).length ≤ 1099511627) (hn : n ≤ 1099511627) : PC C ZmW [numD a, .int .i64 (n : Int)] (fun o => o = .ret (numD (a / 2 ^ n))) := by
  have hr : n % 32 < 32 := Nat.mod_lt _ (by decide)
  refine PC.run Zig Zmg rfl Zmh rfl (rs := [.tmp 4]) (by rw [Zmi]) (by simp only [List.length_cons, List.length_nil, Nat.reduceAdd, Nat.reduceSub, List.replicate_succ, List.replicate_zero, List.cons_append, List.nil_append]; exact rfl) ?_
  refine ARun.seq (ARun.region ?_)
  refine y_op rfl (Zaa rfl) ?_
  refine AOps.nil (ARun.seq (ARun.seq (ARun.region ?_)))
  refine y_op rfl (q_move rfl) ?_
  refine y_op rfl (q_quo rfl rfl (by omega) (nquo_i64 (n := 32) rfl (by omega))) ?_
  refine y_op rfl (q_move rfl) ?_
  refine y_op rfl (Zac rfl rfl) ?_
  refine y_op rfl (q_int rfl rfl rfl) ?_
  refine AOps.nil ?_
  refine ARun.ite rfl (fun h => ?_) (fun h => ?_)
  · skip
    have hz : a / 2 ^ n = 0 := by
      refine Nat.div_eq_of_lt (Nat.lt_of_lt_of_le (ln_lt a) ?_)
      rw [B_pow]
      exact Nat.pow_le_pow_right (by decide) (by omega)
    refine ARun.seq (ARun.region ?_)
    refine y_op rfl (Zaa rfl) ?_
    refine AOps.nil ?_
    refine ARun.ret ?_
    refine ⟨_, _, _, .tmp rfl .nil, .cons .nil .nil, rfl, ?_⟩
    rw [hz, numD, lim_zero]; rfl
  · skip
    refine ARun.skip (ARun.seq (ARun.region ?_))
    refine y_op rfl (Zaa rfl) ?_
    refine AOps.nil (ARun.seq (ARun.seq (ARun.region ?_)))
    refine y_op rfl (q_move rfl) ?_
    refine y_op rfl (q_quo rfl rfl (by omega) (nquo_i64 (n := 32) rfl (by omega))) ?_
    refine y_op rfl (Zaa rfl) ?_
    refine AOps.nil (ARun.block ?_)
    refine ARun.loopI (S := Nat × List Nat × Heap) (fun σ : Nat × List Nat × Heap => [(7, .any), (15, .any), (16, .any), (17, .any), (18, .any), (19, .any), (20, .any), (21, .any), (22, .any), (23, .any), (24, .any), (25, .any), (26, .any), (27, .any), (28, .any), (29, .any), (30, .any), (31, .any), (32, .any), (33, .any), (34, .any), (35, .any), (36, .any), (37, .any), (6, .int .i64 ((n / 32 + σ.1 : Nat) : Int)), (5, growD (0 + σ.2.2.length) (nts .u32 σ.2.1))]) (fun σ : Nat × List Nat × Heap => growT σ.2.2 Zah (nts .u32 σ.2.1)) (fun σ : Nat × List Nat × Heap => U32 σ.2.1 ∧ σ.2.1.length = σ.1 ∧ n / 32 + σ.1 ≤ (lim a).length ∧ val σ.2.1 = a / 2 ^ n % B ^ σ.1) (fun σ : Nat × List Nat × Heap => (lim a).length - (n / 32 + σ.1)) ((0, [], [])) ?_ ?_ ?_ ?_
    · exact ⟨U32.nil, rfl, by dsimp only; omega, by simp [val, Nat.mod_one]⟩
    · (repeat' first | exact envLe_nil | apply envLe_any | apply envLe_same)
    · rfl
    rintro ⟨i, ys, J⟩ hinv ih
    dsimp only at hinv ih ⊢
    obtain ⟨hu, hl, hi, hv⟩ := hinv
    have hbl : (nts .u32 ys).length = i := by rw [nts_length, hl]
    refine ARun.seq (ARun.seq (ARun.region ?_))
    refine y_op rfl (q_move rfl) ?_
    refine y_op rfl (q_move rfl) ?_
    refine y_op rfl (Zac rfl rfl) ?_
    refine y_op rfl (q_int rfl rfl rfl) ?_
    refine AOps.nil ?_
    refine ARun.ite rfl (fun h2 => ?_) (fun h2 => ?_)
    · skip
      have d1 := dig_lt a (n / 32 + i)
      have d2 := dig_lt a (n / 32 + i + 1)
      refine ARun.skip (ARun.seq (ARun.block (ARun.seq (ARun.region ?_))))
      refine y_op rfl (q_move rfl) ?_
      refine y_op rfl (q_move rfl) ?_
      refine y_op rfl (q_add rfl rfl (nadd1_i64 (by omega))) ?_
      refine y_op rfl (q_call rfl rfl (ZaZ a (n / 32 + i + 1))) ?_
      refine y_op rfl (q_shl rfl rfl (by omega) (nshl_u64 (s := 32) rfl (by omega) (by omega))) ?_
      refine y_op rfl (q_move rfl) ?_
      refine y_op rfl (q_move rfl) ?_
      refine y_op rfl (q_call rfl rfl (ZaZ a (n / 32 + i))) ?_
      refine y_op rfl (q_add rfl rfl (nadd_u64 (by omega))) ?_
      refine y_op rfl (q_move rfl) ?_
      refine y_op rfl (q_rem rfl rfl (by omega) (nrem (n := 32) rfl)) ?_
      refine y_op rfl (q_shr rfl rfl (by omega) (nshr rfl (by simp [IntKind.bits]; omega))) ?_
      refine y_op rfl (Zaa rfl) ?_
      refine AOps.nil (ARun.region ?_)
      refine y_op rfl (q_move rfl) ?_
      refine y_op rfl (q_move rfl) ?_
      refine y_op rfl (q_conv rfl rfl rfl nconv_u32) ?_
      rw [shrA_dig]
      refine y_new rfl (Zao rfl rfl rfl rfl rfl rfl rfl rfl rfl rfl rfl (by decide) (by decide)) ?_
      refine y_grow rfl rfl rfl rfl rfl rfl rfl rfl rfl rfl (by show (_ + 1) * 4 ≤ _; omega) (by omega) (fun J' => ?_)
      rw [nts_snoc]
      refine y_op rfl (Zaa rfl) ?_
      refine AOps.nil (ARun.inBlock (ARun.region ?_))
      refine y_op rfl (q_move rfl) ?_
      refine y_op rfl (q_add rfl rfl (nadd1_i64 (by omega))) ?_
      refine y_op rfl (Zaa rfl) ?_
      refine AOps.nil ?_
      refine ARun.again (ih ((i + 1, ys ++ [dig (a / 2 ^ n) i], J')) ?_ ?_) ?_ ?_
      · (obtain ⟨k1, k2, k3⟩ := shrA_step hu hl hv; exact ⟨k1, k2, by dsimp only; omega, k3⟩)
      · (dsimp only; omega)
      · (repeat' first | exact envLe_nil | apply envLe_any | apply envLe_same)
      · rfl
    · skip
      have hin : n / 32 + i = (lim a).length := by omega
      have hle : (lim (a / 2 ^ n)).length ≤ i := by
        rw [div_split]
        refine Nat.le_trans (ln_mono (Nat.div_le_self _ _)) ?_
        rw [ln_div]; omega
      refine ARun.growEnd 5 rfl (pures_nts _) (fun J' => ?_)
      rw [sln_len]
      refine ARun.exit rfl ?_
      refine ARun.seq (ARun.region ?_)
      refine y_op rfl (q_move rfl) ?_
      refine y_op rfl (q_call rfl rfl (Zch ys hu (by omega))) ?_
      refine y_op rfl (Zaa rfl) ?_
      refine AOps.nil ?_
      refine ARun.ret ?_
      refine ⟨_, _, _, .tmp rfl .nil, .cons (.same _) .nil, rfl, ?_⟩
      rw [hv, mod_of_ln hle]
      rfl
theorem Zmv (a b : Nat) (ha : (lim a).length ≤ 1099511627776) (hb : 0 < b) (hb2 : b < 4294967296) : PC C Zlf [numD a, .int .u32 (b : Int)] (fun o => o = .ret (.agg [numD (a / b), numD (a % b)])) := by
  refine PC.run Zfk Zkf rfl Zkg rfl (rs := [.cell 4 178]) (by rw [Zkh]) (by simp only [List.length_cons, List.length_nil, Nat.reduceAdd, Nat.reduceSub, List.replicate_succ, List.replicate_zero, List.cons_append, List.nil_append]; exact rfl) ?_
  refine ARun.seq (ARun.region ?_)
  refine y_new rfl (Zak rfl rfl rfl rfl) ?_
  refine AOps.nil (ARun.seq (ARun.region ?_))
  refine y_op rfl (q_move rfl) ?_
  refine y_op rfl (Zac rfl rfl) ?_
  refine y_new rfl (Zau rfl rfl rfl rfl rfl rfl rfl (by omega) (by rw [maxLen_eq]; omega) (zeros_nts _)) ?_
  refine y_op rfl (Zaa rfl) ?_
  refine AOps.nil (ARun.seq (ARun.region ?_))
  refine y_op rfl (Zaa rfl) ?_
  refine AOps.nil (ARun.seq (ARun.seq (ARun.region ?_)))
  refine y_op rfl (q_move rfl) ?_
  refine y_op rfl (Zac rfl rfl) ?_
  refine y_op rfl (q_sub rfl rfl (IntWalk.i64_in _ (by omega))) ?_
  refine y_op rfl (Zaa rfl) ?_
  refine AOps.nil (ARun.block ?_)
  refine ARun.loopI (S := Nat × Nat × List Nat) (fun σ : Nat × Nat × List Nat => [(8, .any), (15, .any), (16, .any), (17, .any), (18, .any), (19, .any), (20, .any), (21, .any), (22, .any), (23, .any), (24, .any), (25, .any), (26, .any), (27, .any), (28, .any), (29, .any), (30, .any), (31, .any), (32, .any), (33, .any), (34, .any), (35, .any), (36, .any), (37, .any), (38, .any), (7, .int .i64 ((σ.1 : Int) - 1)), (6, .int .u64 (σ.2.1 : Int))]) (fun σ : Nat × Nat × List Nat => [some ⟨[.nilsl, .nilsl], Zaj, 1, true, none⟩, some ⟨nts .u32 σ.2.2, Zah, 1, true, none⟩]) (fun σ : Nat × Nat × List Nat => U32 σ.2.2 ∧ σ.2.2.length = (lim a).length ∧ σ.1 ≤ σ.2.2.length ∧ σ.2.1 < b ∧ val (σ.2.2.drop σ.1) * b + σ.2.1 = a / B ^ σ.1) (fun σ : Nat × Nat × List Nat => σ.1) (((lim a).length, 0, List.replicate (lim a).length 0)) ?_ ?_ ?_ ?_
  · exact ⟨U32.replicate, by simp, by simp, hb, by simp [val, Nat.div_eq_of_lt (ln_lt a)]⟩
  · (repeat' first | exact envLe_nil | apply envLe_any | apply envLe_same)
  · rfl
  rintro ⟨j, r, ys⟩ hinv ih
  dsimp only at hinv ih ⊢
  obtain ⟨hu, hl, hj, hr, hv⟩ := hinv
  refine ARun.seq (ARun.seq (ARun.region ?_))
  refine y_op rfl (q_move rfl) ?_
  refine y_op rfl (q_int rfl rfl rfl) ?_
  refine AOps.nil ?_
  refine ARun.ite rfl (fun h => ?_) (fun h => ?_)
  · skip
    obtain ⟨i, rfl⟩ : ∃ i, j = i + 1 := ⟨j - 1, by omega⟩
    rw [show (((i + 1 : Nat) : Int) - 1) = (i : Int) by omega]
    have d1 := dig_lt a i
    have es : r * 2 ^ 32 + dig a i = dig a i + r * 2 ^ 32 := Nat.add_comm _ _
    refine ARun.skip (ARun.seq (ARun.block (ARun.seq (ARun.region ?_))))
    refine y_op rfl (q_move rfl) ?_
    refine y_op rfl (q_shl rfl rfl (by omega) (nshl_u64 (s := 32) rfl (by omega) (by omega))) ?_
    refine y_op rfl (q_move rfl) ?_
    refine y_op rfl (q_move rfl) ?_
    refine y_op rfl (Zam rfl rfl rfl rfl (by omega) (by omega) (nts_ne (by omega)) (drop_nat rfl)) ?_
    refine y_op rfl (q_load rfl rfl rfl (lim_load (by omega))) ?_
    refine y_op rfl (q_conv rfl rfl rfl (nconv_u64 (by omega))) ?_
    refine y_op rfl (q_add rfl rfl (nadd_u64 (by omega))) ?_
    rw [es]
    refine y_op rfl (Zaa rfl) ?_
    refine AOps.nil (ARun.seq (ARun.region ?_))
    refine y_op rfl (q_move rfl) ?_
    refine y_op rfl (q_move rfl) ?_
    refine y_op rfl (q_move rfl) ?_
    refine y_op rfl (q_move rfl) ?_
    refine y_op rfl (q_conv rfl rfl rfl (nconv_u64 (by omega))) ?_
    refine y_op rfl (q_quo rfl rfl (by omega) (nquo_u64 rfl (by omega))) ?_
    refine y_op rfl (q_conv rfl rfl rfl nconv_u32) ?_
    refine y_op rfl (Zal rfl rfl rfl rfl rfl (by omega) (by omega) (idx_nat rfl)) ?_
    refine y_new rfl (Zag rfl rfl rfl rfl rfl rfl (by simp; omega) nts_set) ?_
    refine AOps.nil (ARun.region ?_)
    refine y_op rfl (q_move rfl) ?_
    refine y_op rfl (q_move rfl) ?_
    refine y_op rfl (q_conv rfl rfl rfl (nconv_u64 (by omega))) ?_
    refine y_op rfl (q_rem rfl rfl (by omega) (nrem rfl)) ?_
    refine y_op rfl (Zaa rfl) ?_
    refine AOps.nil (ARun.inBlock (ARun.region ?_))
    refine y_op rfl (q_move rfl) ?_
    refine y_op rfl (q_sub rfl rfl (IntWalk.i64_in _ (by omega))) ?_
    refine y_op rfl (Zaa rfl) ?_
    refine AOps.nil ?_
    refine ARun.again (ih ((i, (dig a i + r * 2 ^ 32) % b, ys.set i ((dig a i + r * 2 ^ 32) / b % 4294967296))) ?_ ?_) ?_ ?_
    · (obtain ⟨k1, k2, k3, k4⟩ := sh_step hu hl (by omega) hb hb2 hr hv; exact ⟨k1, k2, by rw [k2]; omega, k3, k4⟩)
    · (dsimp only; omega)
    · (repeat' first | exact envLe_nil | apply envLe_any | apply envLe_same)
    · rfl
  · skip
    have hj0 : j = 0 := by omega
    subst hj0
    obtain ⟨e1, e2⟩ := sh_end hr hv
    refine ARun.exit rfl ?_
    refine ARun.seq (ARun.region ?_)
    refine y_op rfl (q_move rfl) ?_
    refine y_new rfl (n_call rfl rfl (.cons (.row rfl (pures_nts _)) .nil) (Zbr hu hl (by omega)) rfl) ?_
    refine y_op rfl (q_move rfl) ?_
    refine y_op rfl (q_call rfl rfl (Zjc r (by omega))) ?_
    refine y_op rfl (Zap rfl rfl rfl rfl rfl) ?_
    refine y_new rfl (Zad rfl rfl rfl rfl rfl rfl rfl rfl (Nat.le_of_ble_eq_true rfl) rfl) ?_
    refine AOps.nil ?_
    refine ARun.ret ?_
    refine ⟨_, _, _, ResR.cellA rfl rfl rfl rfl rfl rfl .nil, .cons (.same _) .nil, rfl, ?_⟩
    rw [List.drop_zero] at e1
    rw [e1, e2]
    rfl
end Go.V
