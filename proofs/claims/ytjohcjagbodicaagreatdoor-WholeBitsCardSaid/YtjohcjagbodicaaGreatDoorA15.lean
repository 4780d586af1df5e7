/- A part of the proof: abstract values, rules for the steps of the program's form, and contracts of its functions, each proved; no condition. -/
import Derived.Test.YtjohcjagbodicaaGreatDoorA14
set_option linter.unusedVariables false
set_option linter.unusedSimpArgs false
set_option maxHeartbeats 8000000
set_option maxRecDepth 100000
set_option synthInstance.maxSize 100000
set_option synthInstance.maxHeartbeats 2000000
namespace Go.V
open Go.RowKit Go.Proofs
theorem getD_win {us : List Nat} {i n p : Nat} (h : p < n) : ((us.drop i).take n).getD p 0 = us.getD (i + p) 0 := by
  rw [getD_take h, List.getD_eq_getElem?_getD, List.getElem?_drop, ← List.getD_eq_getElem?_getD]
theorem ld_start {a b s J : Nat} {us : List Nat} (hu : U32 us) (hv : val us = a * 2 ^ s) (h1 : 0 < (lim (b * 2 ^ s)).length) (hs : s < 32) (hd : 2147483648 ≤ dig (b * 2 ^ s) ((lim (b * 2 ^ s)).length - 1)) (hJ : J + (lim (b * 2 ^ s)).length = (lim a).length + 1) : Ld (a * 2 ^ s) (b * 2 ^ s) (lim (b * 2 ^ s)).length J us (List.replicate J 0) := by
  have h := ld_init (a := a) (L := 0) h1 hs hd hJ
  have hr := h.hr
  rw [List.replicate_zero, List.drop_nil, List.append_nil, val_drop (U32_lim _), val_lim] at hr
  refine ⟨hu, h.uq, by rw [val_drop hu, hv]; exact hr, ?_⟩
  rw [List.drop_of_length_le (by simp), hv]
  simp [val]
theorem ZoT (a b : Nat) (ha : (lim a).length ≤ 16777216) (hb : (lim b).length ≤ 16777216) (hb0 : 0 < b) : PC C ZnL [numD a, numD b] (fun o => o = .ret (.agg [numD (a / b), numD (a % b)])) := by
  have hL := ln_pos.2 (Nat.pos_iff_ne_zero.1 hb0)
  refine PC.run ZiJ ZmY rfl ZmZ rfl (rs := [.cell 4 178]) (by rw [Zm0]) (by simp only [List.length_cons, List.length_nil, Nat.reduceAdd, Nat.reduceSub, List.replicate_succ, List.replicate_zero, List.cons_append, List.nil_append]; exact rfl) ?_
  refine ARun.seq (ARun.region ?_)
  refine y_new rfl (Zag rfl rfl rfl rfl) ?_
  refine AOps.nil (ARun.seq (ARun.seq (ARun.region ?_)))
  refine y_op rfl (q_move rfl) ?_
  refine y_op rfl (Zad rfl rfl) ?_
  refine y_op rfl (q_int rfl rfl rfl) ?_
  refine AOps.nil ?_
  refine ARun.cond rfl (fun h1 => ?_) (fun h1 => ?_)
  · skip
    have h1 : (lim b).length = 1 := by
      have h : ((lim b).length : Int) = 1 := by simpa using h1
      omega
    have hb1 : dig b 0 = b := by
      have := mod_of_ln (a := b) (k := 1) (by omega)
      rw [dig, Nat.pow_zero, Nat.div_one]
      rwa [Nat.pow_one] at this
    have hbB := dig_lt b 0
    rw [hb1] at hbB
    refine ARun.seq (ARun.region ?_)
    refine y_op rfl (q_move rfl) ?_
    refine y_op rfl (q_move rfl) ?_
    refine y_op rfl (Zan rfl rfl rfl rfl (by omega) (by omega) (nts_ne (by omega)) (drop_nat (i := 0) rfl)) ?_
    refine y_op rfl (q_load rfl rfl rfl ((lim_load (by omega)).trans (by rw [hb1]))) ?_
    refine y_op rfl (q_call rfl rfl (Znu a b (by omega) hb0 hbB)) ?_
    refine y_new rfl (Zac rfl rfl rfl rfl rfl rfl rfl rfl (Nat.le_of_ble_eq_true rfl) rfl) ?_
    refine AOps.nil ?_
    refine ARun.ret ?_
    refine ⟨_, _, _, ResR.cellA rfl rfl rfl rfl rfl rfl .nil, .cons (.same _) .nil, rfl, ?_⟩
    rfl
  · skip
    refine ARun.skip (ARun.seq (ARun.seq (ARun.region ?_)))
    refine y_op rfl (q_move rfl) ?_
    refine y_op rfl (q_move rfl) ?_
    refine y_op rfl (q_call rfl rfl (ZjJ a b (by omega) (by omega))) ?_
    refine y_op rfl (q_int rfl rfl rfl) ?_
    refine AOps.nil ?_
    refine ARun.ite rfl (fun h2 => ?_) (fun h2 => ?_)
    · skip
      have hlt : a < b := by
        unfold cmpI at h2
        split at h2
        · assumption
        · split at h2 <;> omega
      refine ARun.seq (ARun.region ?_)
      refine y_op rfl (q_move rfl) ?_
      refine y_op rfl (q_call rfl rfl (Znt a (by omega))) ?_
      refine y_op rfl (Zap rfl rfl rfl rfl rfl) ?_
      refine y_new rfl (Zac rfl rfl rfl rfl rfl rfl rfl rfl (Nat.le_of_ble_eq_true rfl) rfl) ?_
      refine AOps.nil ?_
      refine ARun.ret ?_
      refine ⟨_, _, _, ResR.cellA rfl rfl rfl rfl rfl rfl .nil, .cons (.agg (.cons .nil (.cons (.same _) .nil))) .nil, rfl, ?_⟩
      have hz : numD 0 = .sl 0 [] := by rw [numD, lim_zero]; rfl
      rw [Nat.div_eq_of_lt hlt, Nat.mod_eq_of_lt hlt, hz]
      rfl
    · skip
      have hge : b ≤ a := by
        unfold cmpI at h2
        split at h2
        · omega
        · omega
      have hln := ln_mono hge
      have hbb := bl_le_ln b
      obtain ⟨s, hs⟩ : ∃ s, s = 32 * (lim b).length - bl b := ⟨_, rfl⟩
      have hs2 : s = 32 - bl (dig b ((lim b).length - 1)) := by
        have h5 := bl_top (a := b) (by omega)
        omega
      obtain ⟨s1, s2, s3⟩ := norm_top hL hs2
      have hla : (lim (a * 2 ^ s)).length ≤ (lim a).length + 1 := by
        refine Nat.le_trans (ln_mul _ _) (Nat.add_le_add_left ?_ _)
        rw [ln_le_iff, Nat.pow_one]
        exact Nat.lt_of_lt_of_le ((Nat.pow_lt_pow_iff_right (by decide)).2 s1) (by decide)
      have hlb : (lim a).length ≤ (lim (a * 2 ^ s)).length := ln_mono (Nat.le_mul_of_pos_right _ (Nat.two_pow_pos s))
      have hd0 : 0 < b * 2 ^ s := Nat.mul_pos hb0 (Nat.two_pow_pos s)
      have hdB : b * 2 ^ s < B ^ (lim b).length := ln_le_iff.1 (Nat.le_of_eq s2)
      refine ARun.skip (ARun.seq (ARun.region ?_))
      refine y_op rfl (q_move rfl) ?_
      refine y_op rfl (Zad rfl rfl) ?_
      refine y_op rfl (Zaa rfl) ?_
      refine AOps.nil (ARun.seq (ARun.region ?_))
      refine y_op rfl (q_move rfl) ?_
      refine y_op rfl (q_mul rfl rfl (nmul_i64 (m := 32) (by omega))) ?_
      refine y_op rfl (q_move rfl) ?_
      refine y_op rfl (q_call rfl rfl (Zlh b (by omega))) ?_
      refine y_op rfl (q_sub rfl rfl ((nsub_i64 (by omega) (by omega)).trans (by rw [← hs]))) ?_
      refine y_op rfl (Zaa rfl) ?_
      refine AOps.nil (ARun.seq (ARun.region ?_))
      refine y_op rfl (q_move rfl) ?_
      refine y_op rfl (q_move rfl) ?_
      refine y_op rfl (q_call rfl rfl (ZjK b s (by omega) (by omega))) ?_
      refine y_op rfl (Zaa rfl) ?_
      refine AOps.nil (ARun.seq (ARun.region ?_))
      refine y_op rfl (q_move rfl) ?_
      refine y_op rfl (q_move rfl) ?_
      refine y_new rfl (n_live rfl rfl (.cons (.same _) (.cons (.same _) .nil)) (r_ShlL a s (by omega) (by omega) (Nat.lt_of_lt_of_le hb0 hge)) rfl) ?_
      refine y_op rfl (Zaa rfl) ?_
      refine AOps.nil (ARun.seq (ARun.block ?_))
      rcases Nat.lt_or_ge (lim a).length (lim (a * 2 ^ s)).length with hlu | hlu
      · skip
        have hU := U32_lim (a * 2 ^ s)
        have hV := val_lim (a * 2 ^ s)
        refine ARun.loop ?_
        refine ARun.seq (ARun.seq (ARun.region ?_))
        refine y_op rfl (q_move rfl) ?_
        refine y_op rfl (Zbj rfl rfl rfl) ?_
        refine y_op rfl (q_move rfl) ?_
        refine y_op rfl (Zad rfl rfl) ?_
        refine y_op rfl (q_intB rfl rfl rfl (decide_eq_false (by omega))) ?_
        refine AOps.nil ?_
        refine ARun.condF rfl ?_
        refine ARun.exit rfl ?_
        refine ARun.seq (ARun.region ?_)
        refine y_op rfl (q_move rfl) ?_
        refine y_op rfl (Zad rfl rfl) ?_
        refine y_op rfl (q_move rfl) ?_
        refine y_op rfl (q_sub rfl rfl (nsub_i64 (by omega) (by omega))) ?_
        refine y_op rfl (q_add rfl rfl (nadd1_i64 (by omega))) ?_
        refine y_new rfl (Zav rfl rfl rfl rfl rfl rfl rfl (by omega) (by rw [maxLen_eq]; omega) (zeros_nts _)) ?_
        refine y_op rfl (Zaa rfl) ?_
        refine AOps.nil (ARun.seq (ARun.seq (ARun.region ?_)))
        refine y_op rfl (q_move rfl) ?_
        refine y_op rfl (Zad rfl rfl) ?_
        refine y_op rfl (q_move rfl) ?_
        refine y_op rfl (q_sub (r := (((lim a).length - (lim b).length + 1 : Nat) : Int) - 1) rfl rfl (by rw [IntWalk.i64_in _ (by omega)]; omega)) ?_
        refine y_op rfl (Zaa rfl) ?_
        refine AOps.nil (ARun.block ?_)
        rw [show (lim (a * 2 ^ s)).length = (lim a).length + 1 by omega]
        refine ARun.loopI (S := Nat × List Nat × List Nat) (fun σ : Nat × List Nat × List Nat => [(11, .any), (12, .any), (13, .any), (14, .any), (15, .any), (16, .any), (17, .any), (18, .any), (65, .any), (66, .any), (67, .any), (68, .any), (69, .any), (70, .any), (71, .any), (72, .any), (73, .any), (74, .any), (75, .any), (76, .any), (77, .any), (78, .any), (79, .any), (80, .any), (81, .any), (82, .any), (83, .any), (84, .any), (85, .any), (86, .any), (87, .any), (88, .any), (89, .any), (90, .any), (91, .any), (92, .any), (93, .any), (94, .any), (95, .any), (96, .any), (97, .any), (98, .any), (99, .any), (100, .any), (101, .any), (102, .any), (103, .any), (104, .any), (105, .any), (106, .any), (107, .any), (108, .any), (109, .any), (110, .any), (111, .any), (112, .any), (113, .any), (114, .any), (115, .any), (116, .any), (117, .any), (118, .any), (119, .any), (120, .any), (121, .any), (122, .any), (123, .any), (124, .any), (125, .any), (126, .any), (127, .any), (128, .any), (129, .any), (130, .any), (131, .any), (132, .any), (133, .any), (134, .any), (135, .any), (136, .any), (137, .any), (138, .any), (139, .any), (140, .any), (141, .any), (142, .any), (143, .any), (144, .any), (145, .any), (146, .any), (147, .any), (148, .any), (149, .any), (150, .any), (151, .any), (152, .any), (153, .any), (154, .any), (155, .any), (156, .any), (157, .any), (158, .any), (159, .any), (160, .any), (161, .any), (162, .any), (163, .any), (164, .any), (165, .any), (166, .any), (167, .any), (168, .any), (10, .int .i64 ((σ.1 : Int) - 1))]) (fun σ : Nat × List Nat × List Nat => [some ⟨[.nilsl, .nilsl], Zaj, 1, true, none⟩, some ⟨nts .u32 σ.2.1, Zah, 1, true, none⟩, some ⟨nts .u32 σ.2.2, Zah, 1, true, none⟩]) (fun σ : Nat × List Nat × List Nat => Ld (a * 2 ^ s) (b * 2 ^ s) (lim (b * 2 ^ s)).length σ.1 σ.2.1 σ.2.2 ∧ σ.2.1.length = (lim a).length + 1 ∧ σ.2.2.length = (lim a).length - (lim b).length + 1 ∧ σ.1 ≤ σ.2.2.length) (fun σ : Nat × List Nat × List Nat => σ.1) (((lim a).length - (lim b).length + 1, lim (a * 2 ^ s), List.replicate ((lim a).length - (lim b).length + 1) 0)) ?_ ?_ ?_ ?_
        · exact ⟨ld_start hU hV (by omega) s1 (by rw [s2]; exact s3) (by omega), by simp; omega, by simp, by simp⟩
        · (repeat' first | exact envLe_nil | apply envLe_any | apply envLe_same)
        · rfl
        rintro ⟨j, us, qs⟩ hinv ih1
        dsimp only at hinv ih1 ⊢
        obtain ⟨hI, hul, hql, hj⟩ := hinv
        refine ARun.seq (ARun.seq (ARun.region ?_))
        refine y_op rfl (q_move rfl) ?_
        refine y_op rfl (q_int rfl rfl rfl) ?_
        refine AOps.nil ?_
        refine ARun.ite rfl (fun h3 => ?_) (fun h3 => ?_)
        · skip
          obtain ⟨i, rfl⟩ : ∃ i, j = i + 1 := ⟨j - 1, by omega⟩
          rw [show (((i + 1 : Nat) : Int) - 1) = (i : Int) by omega]
          obtain ⟨w1, w2, w3⟩ := hI.win (by rw [s2]; exact hdB) (by omega)
          rw [s2] at w1 w2 w3
          have hwl : ((us.drop i).take ((lim b).length + 1)).length = (lim b).length + 1 := by rw [List.length_take, List.length_drop]; omega
          have hwu : U32 ((us.drop i).take ((lim b).length + 1)) := (hI.ur.drop i).take _
          have k := Kn.of (m := (lim b).length - 2) (n := (lim b).length) (by have h : ¬ ((lim b).length : Int) = 1 := (by simpa using h1); omega) s2 s3 hwu hwl w2
          have q0 := k.first
          rw [getD_win (by omega), getD_win (by omega)] at q0
          have hwin := win_split us i ((lim b).length + 1)
          have hpre : (us.take i).length = i := by rw [List.length_take]; omega
          have g0 := hI.ur.get (i + (lim b).length)
          have g1 := hI.ur.get (i + (lim b).length - 1)
          have g2 := k.hv1
          have g3 := k.hv1'
          have e1 : i + ((lim b).length - 1) = i + (lim b).length - 1 := by omega
          rw [e1] at q0
          refine ARun.skip (ARun.seq (ARun.block (ARun.seq ?_)))
          refine ARun.drawnP 25 (fun _ => False) mixC rfl rfl (by kernel_rfl) (fun _ _ h => h.elim) ?_
          refine .op rfl (q_move rfl) ?_
          refine .op rfl (q_move rfl) ?_
          refine .op rfl (q_move rfl) ?_
          refine .op rfl (q_add rfl rfl (nadd_i64 (by omega))) ?_
          refine .op rfl (Zao rfl rfl rfl rfl rfl (by omega) (by omega) (idx_nat rfl)) ?_
          refine .op rfl (Zak rfl rfl rfl rfl (nts_get (by omega))) ?_
          refine .op rfl (q_conv rfl rfl rfl (nconv_u64 (by omega))) ?_
          refine .op rfl (q_shl rfl rfl (by omega) (nshl_u64 (s := 32) rfl (by omega) (by omega))) ?_
          refine .op rfl (q_move rfl) ?_
          refine .op rfl (q_move rfl) ?_
          refine .op rfl (q_move rfl) ?_
          refine .op rfl (q_add rfl rfl (nadd_i64 (by omega))) ?_
          refine .op rfl (q_sub rfl rfl (nsub1_i64 (by omega) (by omega))) ?_
          refine .op rfl (Zao rfl rfl rfl rfl rfl (by omega) (by omega) (idx_nat rfl)) ?_
          refine .op rfl (Zak rfl rfl rfl rfl (nts_get (by omega))) ?_
          refine .op rfl (q_conv rfl rfl rfl (nconv_u64 (by omega))) ?_
          refine .op rfl (q_add rfl rfl (nadd_u64 (by omega))) ?_
          refine .op rfl (q_move rfl) ?_
          refine .op rfl (q_move rfl) ?_
          refine .op rfl (q_sub rfl rfl (nsub1_i64 (by omega) (by omega))) ?_
          refine .op rfl (Zan rfl rfl rfl rfl (by omega) (by omega) (nts_ne (by omega)) (drop_nat rfl)) ?_
          refine .op rfl (q_load rfl rfl rfl (lim_load (by omega))) ?_
          refine .op rfl (q_conv rfl rfl rfl (nconv_u64 (by omega))) ?_
          refine .op rfl (q_quo rfl rfl (by omega) (nquo_u64 rfl (by omega))) ?_
          refine .op rfl (q_minR rfl rfl (nmin (n := 4294967295))) ?_
          refine .nil (fun hG => ?_)
          refine y_op rfl (Zaa rfl) ?_
          refine AOps.nil (ARun.seq (ARun.region ?_))
          refine y_op rfl (Zaa rfl) ?_
          refine AOps.nil (ARun.seq (ARun.region ?_))
          refine y_op rfl (Zaa rfl) ?_
          refine AOps.nil (ARun.seq (ARun.seq (ARun.region ?_)))
          refine y_op rfl (Zaa rfl) ?_
          refine AOps.nil (ARun.block ?_)
          obtain ⟨q, hq⟩ : ∃ q, q = min ((us.getD (i + (lim b).length) 0 * 2 ^ 32 + us.getD (i + (lim b).length - 1) 0) / dig (b * 2 ^ s) ((lim b).length - 1)) 4294967295 := ⟨_, rfl⟩
          rw [← hq]
          have q1 : val ((us.drop i).take ((lim b).length + 1)) / (b * 2 ^ s) ≤ q := by
            rw [hq, Nat.add_comm (us.getD (i + (lim b).length) 0 * 2 ^ 32)]; exact q0
          have q2 : q < 4294967296 := by rw [hq]; exact Nat.lt_succ_of_le (Nat.min_le_right _ _)
          clear hq q0
          have hdn : b * 2 ^ s < B ^ ((lim b).length + 1) := Nat.lt_of_lt_of_le hdB (Nat.pow_le_pow_right B_pos (Nat.le_succ _))
          have hqd : q * (b * 2 ^ s) < B ^ ((lim b).length + 1) := by
            rw [Nat.pow_succ, Nat.mul_comm]
            exact Nat.mul_lt_mul'' hdB (by rw [B_eq]; exact q2)
          refine ARun.loopI (S := Nat × Nat × Nat × List Nat) (fun σ : Nat × Nat × Nat × List Nat => [(15, .any), (16, .any), (94, .any), (95, .any), (96, .any), (97, .any), (98, .any), (99, .any), (100, .any), (101, .any), (102, .any), (103, .any), (104, .any), (105, .any), (106, .any), (107, .any), (108, .any), (109, .any), (110, .any), (111, .any), (112, .any), (113, .any), (114, .any), (115, .any), (116, .any), (117, .any), (118, .any), (119, .any), (120, .any), (121, .any), (122, .any), (123, .any), (124, .any), (125, .any), (126, .any), (127, .any), (128, .any), (129, .any), (14, .int .i64 (σ.1 : Int)), (12, .int .u64 (σ.2.1 : Int)), (13, .int .u64 (σ.2.2.1 : Int))]) (fun σ : Nat × Nat × Nat × List Nat => [some ⟨[.nilsl, .nilsl], Zaj, 1, true, none⟩, some ⟨nts .u32 (us.take i ++ σ.2.2.2 ++ us.drop (i + ((lim b).length + 1))), Zah, 1, true, none⟩, some ⟨nts .u32 qs, Zah, 1, true, none⟩]) (fun σ : Nat × Nat × Nat × List Nat => U32 σ.2.2.2 ∧ σ.2.2.2.length = (lim b).length + 1 ∧ σ.1 ≤ (lim b).length + 1 ∧ σ.2.1 < 4294967296 ∧ σ.2.2.1 ≤ 1 ∧ (∀ x, σ.1 ≤ x → σ.2.2.2.getD x 0 = ((us.drop i).take ((lim b).length + 1)).getD x 0) ∧ σ.2.1 * B ^ σ.1 ≤ q * ((b * 2 ^ s) % B ^ σ.1) ∧ val (σ.2.2.2.take σ.1) + q * ((b * 2 ^ s) % B ^ σ.1) = val (((us.drop i).take ((lim b).length + 1)).take σ.1) + B ^ σ.1 * (σ.2.2.1 + σ.2.1)) (fun σ : Nat × Nat × Nat × List Nat => (lim b).length + 1 - σ.1) ((0, 0, 0, (us.drop i).take ((lim b).length + 1))) ?_ ?_ ?_ ?_
          · exact ⟨hwu, hwl, by simp, by simp, by simp, fun p _ => rfl, by simp, by simp [val, Nat.mod_one]⟩
          · (repeat' first | exact envLe_nil | apply envLe_any | apply envLe_same)
          · exact congrArg (fun l => [some ⟨[.nilsl, .nilsl], Zaj, 1, true, none⟩, some (AObj.mk (nts .u32 l) Zah 1 true none), some (AObj.mk (nts .u32 qs) Zah 1 true none)]) hwin
          rintro ⟨p, c, bw, zs⟩ hinv2 ih2
          dsimp only at hinv2 ih2 ⊢
          obtain ⟨hz, hzl, hp, hc, hbw, hzw, hcb, hv⟩ := hinv2
          refine ARun.seq (ARun.seq (ARun.region ?_))
          refine y_op rfl (q_move rfl) ?_
          refine y_op rfl (q_move rfl) ?_
          refine y_op rfl (q_int rfl rfl rfl) ?_
          refine AOps.nil ?_
          refine ARun.ite rfl (fun h4 => ?_) (fun h4 => ?_)
          · skip
            have d1 := dig_lt (b * 2 ^ s) p
            have m := mul_bound q2 d1
            have m2 : dig (b * 2 ^ s) p * q ≤ 18446744065119617025 := by rw [Nat.mul_comm]; exact m
            have d2 := hz.get p
            have hlo : (c + q * dig (b * 2 ^ s) p) % 4294967296 < 4294967296 := Nat.mod_lt _ (by decide)
            have es : dig (b * 2 ^ s) p * q + c = c + q * dig (b * 2 ^ s) p := by rw [Nat.mul_comm, Nat.add_comm]
            refine ARun.skip (ARun.seq (ARun.block (ARun.seq (ARun.region ?_))))
            refine y_op rfl (q_move rfl) ?_
            refine y_op rfl (q_move rfl) ?_
            refine y_op rfl (q_call rfl rfl (ZaI (b * 2 ^ s) p)) ?_
            refine y_op rfl (q_move rfl) ?_
            refine y_op rfl (q_mul rfl rfl (nmul_u64 (by omega))) ?_
            refine y_op rfl (q_move rfl) ?_
            refine y_op rfl (q_add rfl rfl (nadd_u64 (by omega))) ?_
            refine y_op rfl (Zaa rfl) ?_
            rw [es]
            refine AOps.nil (ARun.seq (ARun.region ?_))
            refine y_op rfl (q_move rfl) ?_
            refine y_op rfl (q_shr rfl rfl (by omega) nshr32) ?_
            refine y_op rfl (Zaa rfl) ?_
            refine AOps.nil (ARun.seq (ARun.region ?_))
            refine y_op rfl (q_move rfl) ?_
            refine y_op rfl (q_move rfl) ?_
            refine y_op rfl (q_move rfl) ?_
            refine y_op rfl (q_add rfl rfl (nadd_i64 (by omega))) ?_
            refine y_op rfl (Zao rfl rfl rfl rfl rfl (by omega) (by omega) (idx_nat rfl)) ?_
            refine y_op rfl (Zak rfl rfl rfl rfl (win_get (by assumption) (by omega))) ?_
            refine y_op rfl (q_conv rfl rfl rfl (nconv_u64 (by omega))) ?_
            refine y_op rfl (q_move rfl) ?_
            refine y_op rfl (q_conv rfl rfl rfl nconv_u32) ?_
            refine y_op rfl (q_conv rfl rfl rfl (nconv_u64 (by omega))) ?_
            refine y_op rfl (q_sub rfl rfl rfl) ?_
            refine y_op rfl (q_move rfl) ?_
            refine y_op rfl (q_sub rfl rfl rfl) ?_
            refine y_op rfl (Zaa rfl) ?_
            refine AOps.nil (ARun.seq (ARun.region ?_))
            refine y_op rfl (q_move rfl) ?_
            refine y_op rfl (q_move rfl) ?_
            refine y_op rfl (q_move rfl) ?_
            refine y_op rfl (q_add rfl rfl (nadd_i64 (by omega))) ?_
            refine y_op rfl (q_move rfl) ?_
            refine y_op rfl (q_conv rfl rfl rfl (sub_lo d2 hlo hbw)) ?_
            refine y_op rfl (Zao rfl rfl rfl rfl rfl (by omega) (by omega) (idx_nat rfl)) ?_
            refine y_new rfl (Zai rfl rfl rfl rfl rfl rfl (by simp; omega) (win_set (by assumption) (by omega))) ?_
            refine AOps.nil (ARun.region ?_)
            refine y_op rfl (q_move rfl) ?_
            refine y_op rfl (q_shr rfl rfl (by omega) (sub_c d2 hlo hbw)) ?_
            refine y_op rfl (Zaa rfl) ?_
            refine AOps.nil (ARun.inBlock (ARun.region ?_))
            refine y_op rfl (q_move rfl) ?_
            refine y_op rfl (q_add rfl rfl (nadd1_i64 (by omega))) ?_
            refine y_op rfl (Zaa rfl) ?_
            refine AOps.nil ?_
            refine ARun.again (ih2 ((p + 1, (c + q * dig (b * 2 ^ s) p) / 4294967296, subC (zs.getD p 0) ((c + q * dig (b * 2 ^ s) p) % 4294967296) bw, zs.set p (subLo (zs.getD p 0) ((c + q * dig (b * 2 ^ s) p) % 4294967296) bw))) ?_ ?_) ?_ ?_
            · (obtain ⟨k1, k2, k3, k4, k5, k6⟩ := tk_step (w := zs.getD p 0) hz hzl (by omega) q2 hc hbw d2 hwl (hzw p (Nat.le_refl _)).symm hcb hv; exact ⟨k1, k2, by dsimp only; omega, k3, k4, fun x hx => by rw [getD_set_ne (by omega)]; exact hzw x (by omega), k5, k6⟩)
            · (dsimp only; omega)
            · (repeat' first | exact envLe_nil | apply envLe_any | apply envLe_same)
            · rfl
          · skip
            have hpn : p = (lim b).length + 1 := by omega
            subst hpn
            have ht := tk_end hzl hwl hqd hdn hcb hv
            clear hcb hv hzw
            refine ARun.exit rfl ?_
            refine ARun.seq (ARun.block ?_)
            refine ARun.loopI (S := Nat × Nat × List Nat) (fun σ : Nat × Nat × List Nat => [(12, .any), (17, .any), (18, .any), (130, .any), (131, .any), (132, .any), (133, .any), (134, .any), (135, .any), (136, .any), (137, .any), (138, .any), (139, .any), (140, .any), (141, .any), (142, .any), (143, .any), (144, .any), (145, .any), (146, .any), (147, .any), (148, .any), (149, .any), (150, .any), (151, .any), (152, .any), (153, .any), (154, .any), (155, .any), (156, .any), (157, .any), (158, .any), (159, .any), (160, .any), (161, .any), (162, .any), (163, .any), (11, .int .u64 (σ.1 : Int)), (13, .int .u64 (σ.2.1 : Int))]) (fun σ : Nat × Nat × List Nat => [some ⟨[.nilsl, .nilsl], Zaj, 1, true, none⟩, some ⟨nts .u32 (us.take i ++ σ.2.2 ++ us.drop (i + ((lim b).length + 1))), Zah, 1, true, none⟩, some ⟨nts .u32 qs, Zah, 1, true, none⟩]) (fun σ : Nat × Nat × List Nat => U32 σ.2.2 ∧ σ.2.2.length = (lim b).length + 1 ∧ σ.2.1 ≤ 1 ∧ val σ.2.2 + σ.1 * (b * 2 ^ s) = val ((us.drop i).take ((lim b).length + 1)) + B ^ ((lim b).length + 1) * σ.2.1 ∧ val ((us.drop i).take ((lim b).length + 1)) / (b * 2 ^ s) ≤ σ.1 ∧ σ.1 < 4294967296) (fun σ : Nat × Nat × List Nat => σ.1) ((q, bw, zs)) ?_ ?_ ?_ ?_
            · exact ⟨hz, hzl, hbw, ht, q1, q2⟩
            · (repeat' first | exact envLe_nil | apply envLe_any | apply envLe_same)
            · rfl
            rintro ⟨h, bw, zs⟩ hinv3 ih3
            dsimp only at hinv3 ih3 ⊢
            clear ht hz hzl hbw
            obtain ⟨hz, hzl, hbw, ht, hq1, hq2⟩ := hinv3
            refine ARun.seq (ARun.seq (ARun.region ?_))
            refine y_op rfl (q_move rfl) ?_
            refine y_op rfl (q_int rfl rfl rfl) ?_
            refine AOps.nil ?_
            refine ARun.ite rfl (fun h5 => ?_) (fun h5 => ?_)
            · skip
              obtain rfl : bw = 1 := by omega
              have hvl := val_lt hz
              rw [hzl] at hvl
              have hh1 : 1 ≤ h := by
                rcases Nat.eq_zero_or_pos h with h0 | h0
                · rw [h0, Nat.zero_mul] at ht; omega
                · exact h0
              refine ARun.skip (ARun.block (ARun.seq (ARun.region ?_)))
              refine y_op rfl (q_move rfl) ?_
              refine y_op rfl (q_sub rfl rfl (nsub_u64 (n := 1) (by omega) (by omega))) ?_
              refine y_op rfl (Zaa rfl) ?_
              refine AOps.nil (ARun.seq (ARun.region ?_))
              refine y_op rfl (Zaa rfl) ?_
              refine AOps.nil (ARun.seq (ARun.seq (ARun.region ?_)))
              refine y_op rfl (Zaa rfl) ?_
              refine AOps.nil (ARun.block ?_)
              refine ARun.loopI (S := Nat × Nat × List Nat) (fun σ : Nat × Nat × List Nat => [(18, .any), (134, .any), (135, .any), (136, .any), (137, .any), (138, .any), (139, .any), (140, .any), (141, .any), (142, .any), (143, .any), (144, .any), (145, .any), (146, .any), (147, .any), (148, .any), (149, .any), (150, .any), (151, .any), (152, .any), (153, .any), (154, .any), (155, .any), (156, .any), (157, .any), (158, .any), (159, .any), (160, .any), (17, .int .i64 (σ.1 : Int)), (12, .int .u64 (σ.2.1 : Int))]) (fun σ : Nat × Nat × List Nat => [some ⟨[.nilsl, .nilsl], Zaj, 1, true, none⟩, some ⟨nts .u32 (us.take i ++ σ.2.2 ++ us.drop (i + ((lim b).length + 1))), Zah, 1, true, none⟩, some ⟨nts .u32 qs, Zah, 1, true, none⟩]) (fun σ : Nat × Nat × List Nat => U32 σ.2.2 ∧ σ.2.2.length = (lim b).length + 1 ∧ σ.1 ≤ (lim b).length + 1 ∧ σ.2.1 ≤ 1 ∧ (∀ x, σ.1 ≤ x → σ.2.2.getD x 0 = zs.getD x 0) ∧ val (σ.2.2.take σ.1) + B ^ σ.1 * σ.2.1 = val (zs.take σ.1) + (b * 2 ^ s) % B ^ σ.1) (fun σ : Nat × Nat × List Nat => (lim b).length + 1 - σ.1) ((0, 0, zs)) ?_ ?_ ?_ ?_
              · exact ⟨hz, hzl, by simp, by simp, fun p _ => rfl, by simp [val, Nat.mod_one]⟩
              · (repeat' first | exact envLe_nil | apply envLe_any | apply envLe_same)
              · rfl
              rintro ⟨p, c, ys⟩ hinv4 ih4
              dsimp only at hinv4 ih4 ⊢
              obtain ⟨y1, y2, y3, y4, y5, y6⟩ := hinv4
              refine ARun.seq (ARun.seq (ARun.region ?_))
              refine y_op rfl (q_move rfl) ?_
              refine y_op rfl (q_move rfl) ?_
              refine y_op rfl (q_int rfl rfl rfl) ?_
              refine AOps.nil ?_
              refine ARun.ite rfl (fun h6 => ?_) (fun h6 => ?_)
              · skip
                have n1 := y1.get p
                have n2 := dig_lt (b * 2 ^ s) p
                have es : ys.getD p 0 + dig (b * 2 ^ s) p + c = c + (ys.getD p 0 + dig (b * 2 ^ s) p) := Nat.add_comm _ _
                refine ARun.skip (ARun.seq (ARun.block (ARun.seq ?_)))
                refine ARun.drawnP 13 (fun _ => False) mixC rfl rfl (by kernel_rfl) (fun _ _ h => h.elim) ?_
                refine .op rfl (q_move rfl) ?_
                refine .op rfl (q_move rfl) ?_
                refine .op rfl (q_move rfl) ?_
                refine .op rfl (q_add rfl rfl (nadd_i64 (by omega))) ?_
                refine .op rfl (Zao rfl rfl rfl rfl rfl (by omega) (by omega) (idx_nat rfl)) ?_
                refine .op rfl (Zak rfl rfl rfl rfl (win_get (by assumption) (by omega))) ?_
                refine .op rfl (q_conv rfl rfl rfl (nconv_u64 (by omega))) ?_
                refine .op rfl (q_move rfl) ?_
                refine .op rfl (q_move rfl) ?_
                refine .op rfl (q_call rfl rfl (ZaI (b * 2 ^ s) p)) ?_
                refine .op rfl (q_add rfl rfl (nadd_u64 (by omega))) ?_
                refine .op rfl (q_move rfl) ?_
                refine .op rfl (q_add rfl rfl (nadd_u64 (by omega))) ?_
                refine .nil (fun hG => ?_)
                refine y_op rfl (Zaa rfl) ?_
                rw [es]
                refine AOps.nil (ARun.seq (ARun.region ?_))
                refine y_op rfl (q_move rfl) ?_
                refine y_op rfl (q_move rfl) ?_
                refine y_op rfl (q_move rfl) ?_
                refine y_op rfl (q_add rfl rfl (nadd_i64 (by omega))) ?_
                refine y_op rfl (q_move rfl) ?_
                refine y_op rfl (q_conv rfl rfl rfl nconv_u32) ?_
                refine y_op rfl (Zao rfl rfl rfl rfl rfl (by omega) (by omega) (idx_nat rfl)) ?_
                refine y_new rfl (Zai rfl rfl rfl rfl rfl rfl (by simp; omega) (win_set (by assumption) (by omega))) ?_
                refine AOps.nil (ARun.region ?_)
                refine y_op rfl (q_move rfl) ?_
                refine y_op rfl (q_shr rfl rfl (by omega) nshr32) ?_
                refine y_op rfl (Zaa rfl) ?_
                refine AOps.nil (ARun.inBlock (ARun.region ?_))
                refine y_op rfl (q_move rfl) ?_
                refine y_op rfl (q_add rfl rfl (nadd1_i64 (by omega))) ?_
                refine y_op rfl (Zaa rfl) ?_
                refine AOps.nil ?_
                refine ARun.again (ih4 ((p + 1, (c + (ys.getD p 0 + dig (b * 2 ^ s) p)) / 4294967296, ys.set p ((c + (ys.getD p 0 + dig (b * 2 ^ s) p)) % 4294967296))) ?_ ?_) ?_ ?_
                · (obtain ⟨k1, k2, k3, k4⟩ := back_step y1 y2 hzl (by omega) y4 (y5 p (Nat.le_refl _)) y6; exact ⟨k1, k2, by dsimp only; omega, k3, fun x hx => by rw [getD_set_ne (by omega)]; exact y5 x (by omega), k4⟩)
                · (dsimp only; omega)
                · (repeat' first | exact envLe_nil | apply envLe_any | apply envLe_same)
                · rfl
              · skip
                have hpn : p = (lim b).length + 1 := by omega
                subst hpn
                rw [List.take_of_length_le (by omega), List.take_of_length_le (by omega), Nat.mod_eq_of_lt hdn] at y6
                obtain ⟨b1, b2, b3⟩ := dv_back ht hvl y6 y4 hd0
                refine ARun.exit rfl ?_
                refine ARun.region ?_
                refine y_op rfl (q_move rfl) ?_
                refine y_op rfl (q_move rfl) ?_
                refine y_op rfl (q_sub rfl rfl (nsub_u64 (by omega) (by omega))) ?_
                refine y_op rfl (Zaa rfl) ?_
                refine AOps.nil (ARun.inBlock ?_)
                refine ARun.again (ih3 ((h - 1, 1 - c, ys)) ?_ ?_) ?_ ?_
                · exact ⟨y1, y2, by dsimp only; omega, b3, b2, by dsimp only; omega⟩
                · (dsimp only; omega)
                · (repeat' first | exact envLe_nil | apply envLe_any | apply envLe_same)
                · rfl
            · skip
              obtain rfl : bw = 0 := by omega
              rw [Nat.mul_zero, Nat.add_zero] at ht
              obtain ⟨r1, r2⟩ := k.exact (q := h) hq1 (by omega)
              have hst := hI.step (by rw [s2]; exact hdB) (by omega) (by omega) hz (by rw [s2]; exact hzl) (by rw [s2]; omega) hd0
              rw [s2, ← r1] at hst
              have hm : h % 4294967296 = h := Nat.mod_eq_of_lt hq2
              refine ARun.exit rfl ?_
              refine ARun.region ?_
              refine y_op rfl (q_move rfl) ?_
              refine y_op rfl (q_move rfl) ?_
              refine y_op rfl (q_move rfl) ?_
              refine y_op rfl (q_conv rfl rfl rfl nconv_u32) ?_
              refine y_op rfl (Zao rfl rfl rfl rfl rfl (by omega) (by omega) (idx_nat rfl)) ?_
              refine y_new rfl (Zai rfl rfl rfl rfl rfl rfl (by simp; omega) nts_set) ?_
              refine AOps.nil (ARun.inBlock (ARun.region ?_))
              refine y_op rfl (q_move rfl) ?_
              refine y_op rfl (q_sub rfl rfl (IntWalk.i64_in _ (by omega))) ?_
              refine y_op rfl (Zaa rfl) ?_
              refine AOps.nil ?_
              refine ARun.again (ih1 ((i, us.take i ++ zs ++ us.drop (i + ((lim b).length + 1)), qs.set i (h % 4294967296))) ?_ ?_) ?_ ?_
              · exact ⟨by dsimp only; rw [hm, s2]; exact hst, by simp; omega, by simpa using hql, by simp; omega⟩
              · (dsimp only; omega)
              · (repeat' first | exact envLe_nil | apply envLe_any | apply envLe_same)
              · rfl
        · skip
          have hj0 : j = 0 := by omega
          subst hj0
          obtain ⟨f1, f2⟩ := hI.fin
          refine ARun.exit rfl ?_
          refine ARun.seq (ARun.region ?_)
          refine y_op rfl (q_move rfl) ?_
          refine y_new rfl (n_call rfl rfl (.cons (.row rfl (pures_nts _)) .nil) (Zbu hI.uq hql (by omega)) rfl) ?_
          refine y_op rfl (q_move rfl) ?_
          refine y_new rfl (n_call rfl rfl (.cons (.row rfl (pures_nts _)) .nil) (Zbu hI.ur hul (by omega)) rfl) ?_
          refine y_op rfl (q_move rfl) ?_
          refine y_op rfl (q_call rfl rfl (Zmm _ s (by rw [f2]; exact Nat.le_trans (ln_mono (Nat.le_of_lt (Nat.mod_lt _ hd0))) (by omega)) (by omega))) ?_
          refine y_op rfl (Zap rfl rfl rfl rfl rfl) ?_
          refine y_new rfl (Zac rfl rfl rfl rfl rfl rfl rfl rfl (Nat.le_of_ble_eq_true rfl) rfl) ?_
          refine AOps.nil ?_
          refine ARun.ret ?_
          refine ⟨_, _, _, ResR.cellA rfl rfl rfl rfl rfl rfl .nil, .cons (.same _) .nil, rfl, ?_⟩
          rw [f1, f2, Nat.mul_div_mul_right _ _ (Nat.two_pow_pos s), Nat.mul_mod_mul_right, Nat.mul_div_cancel _ (Nat.two_pow_pos s)]
          rfl
      · skip
        have hU : U32 (lim (a * 2 ^ s) ++ [0]) := (U32_lim _).snoc (by decide)
        have hV : val (lim (a * 2 ^ s) ++ [0]) = a * 2 ^ s := by rw [val_append, val_lim]; simp [val]
        refine ARun.loop ?_
        refine ARun.seq (ARun.seq (ARun.region ?_))
        refine y_op rfl (q_move rfl) ?_
        refine y_op rfl (Zbj rfl rfl rfl) ?_
        refine y_op rfl (q_move rfl) ?_
        refine y_op rfl (Zad rfl rfl) ?_
        refine y_op rfl (q_intB rfl rfl rfl (decide_eq_true (by omega))) ?_
        refine AOps.nil ?_
        refine ARun.condT rfl ?_
        refine ARun.skip (ARun.block (ARun.region ?_))
        refine y_op rfl (q_move rfl) ?_
        refine y_new rfl (Zam rfl rfl rfl rfl rfl rfl rfl rfl rfl rfl rfl (by decide) (by decide)) ?_
        refine y_new rfl (Zb6 (cs := nts .u32 (lim (a * 2 ^ s) ++ [0])) rfl rfl (by decide) rfl rfl rfl rfl rfl rfl rfl rfl rfl rfl rfl (by show (_ + 1) * 4 ≤ _; omega) (by rw [maxLen_eq]; omega) (nts_snoc (x := 0))) ?_
        refine y_op rfl (Zaa rfl) ?_
        refine AOps.nil (ARun.inBlock ?_)
        refine ARun.inLoop ?_
        refine ARun.seq (ARun.seq (ARun.region ?_))
        refine y_op rfl (q_move rfl) ?_
        refine y_op rfl (Zbj rfl rfl rfl) ?_
        refine y_op rfl (q_move rfl) ?_
        refine y_op rfl (Zad rfl rfl) ?_
        refine y_op rfl (q_intB rfl rfl rfl (decide_eq_false (by omega))) ?_
        refine AOps.nil ?_
        refine ARun.condF rfl ?_
        refine ARun.exit rfl ?_
        refine ARun.seq (ARun.region ?_)
        refine y_op rfl (q_move rfl) ?_
        refine y_op rfl (Zad rfl rfl) ?_
        refine y_op rfl (q_move rfl) ?_
        refine y_op rfl (q_sub rfl rfl (nsub_i64 (by omega) (by omega))) ?_
        refine y_op rfl (q_add rfl rfl (nadd1_i64 (by omega))) ?_
        refine y_new rfl (Zav rfl rfl rfl rfl rfl rfl rfl (by omega) (by rw [maxLen_eq]; omega) (zeros_nts _)) ?_
        refine y_op rfl (Zaa rfl) ?_
        refine AOps.nil (ARun.seq (ARun.seq (ARun.region ?_)))
        refine y_op rfl (q_move rfl) ?_
        refine y_op rfl (Zad rfl rfl) ?_
        refine y_op rfl (q_move rfl) ?_
        refine y_op rfl (q_sub (r := (((lim a).length - (lim b).length + 1 : Nat) : Int) - 1) rfl rfl (by rw [IntWalk.i64_in _ (by omega)]; omega)) ?_
        refine y_op rfl (Zaa rfl) ?_
        refine AOps.nil (ARun.block ?_)
        rw [show (lim (a * 2 ^ s)).length = (lim a).length by omega]
        refine ARun.loopI (S := Nat × List Nat × List Nat) (fun σ : Nat × List Nat × List Nat => [(11, .any), (12, .any), (13, .any), (14, .any), (15, .any), (16, .any), (17, .any), (18, .any), (65, .any), (66, .any), (67, .any), (68, .any), (69, .any), (70, .any), (71, .any), (72, .any), (73, .any), (74, .any), (75, .any), (76, .any), (77, .any), (78, .any), (79, .any), (80, .any), (81, .any), (82, .any), (83, .any), (84, .any), (85, .any), (86, .any), (87, .any), (88, .any), (89, .any), (90, .any), (91, .any), (92, .any), (93, .any), (94, .any), (95, .any), (96, .any), (97, .any), (98, .any), (99, .any), (100, .any), (101, .any), (102, .any), (103, .any), (104, .any), (105, .any), (106, .any), (107, .any), (108, .any), (109, .any), (110, .any), (111, .any), (112, .any), (113, .any), (114, .any), (115, .any), (116, .any), (117, .any), (118, .any), (119, .any), (120, .any), (121, .any), (122, .any), (123, .any), (124, .any), (125, .any), (126, .any), (127, .any), (128, .any), (129, .any), (130, .any), (131, .any), (132, .any), (133, .any), (134, .any), (135, .any), (136, .any), (137, .any), (138, .any), (139, .any), (140, .any), (141, .any), (142, .any), (143, .any), (144, .any), (145, .any), (146, .any), (147, .any), (148, .any), (149, .any), (150, .any), (151, .any), (152, .any), (153, .any), (154, .any), (155, .any), (156, .any), (157, .any), (158, .any), (159, .any), (160, .any), (161, .any), (162, .any), (163, .any), (164, .any), (165, .any), (166, .any), (167, .any), (168, .any), (10, .int .i64 ((σ.1 : Int) - 1))]) (fun σ : Nat × List Nat × List Nat => [some ⟨[.nilsl, .nilsl], Zaj, 1, true, none⟩, none, some ⟨[.int .u32 0], Zah, 1, true, none⟩, some ⟨nts .u32 σ.2.1, Zah, 1, true, none⟩, some ⟨nts .u32 σ.2.2, Zah, 1, true, none⟩]) (fun σ : Nat × List Nat × List Nat => Ld (a * 2 ^ s) (b * 2 ^ s) (lim (b * 2 ^ s)).length σ.1 σ.2.1 σ.2.2 ∧ σ.2.1.length = (lim a).length + 1 ∧ σ.2.2.length = (lim a).length - (lim b).length + 1 ∧ σ.1 ≤ σ.2.2.length) (fun σ : Nat × List Nat × List Nat => σ.1) (((lim a).length - (lim b).length + 1, lim (a * 2 ^ s) ++ [0], List.replicate ((lim a).length - (lim b).length + 1) 0)) ?_ ?_ ?_ ?_
        · exact ⟨ld_start hU hV (by omega) s1 (by rw [s2]; exact s3) (by omega), by simp; omega, by simp, by simp⟩
        · (repeat' first | exact envLe_nil | apply envLe_any | apply envLe_same)
        · rfl
        rintro ⟨j, us, qs⟩ hinv ih1
        dsimp only at hinv ih1 ⊢
        obtain ⟨hI, hul, hql, hj⟩ := hinv
        refine ARun.seq (ARun.seq (ARun.region ?_))
        refine y_op rfl (q_move rfl) ?_
        refine y_op rfl (q_int rfl rfl rfl) ?_
        refine AOps.nil ?_
        refine ARun.ite rfl (fun h3 => ?_) (fun h3 => ?_)
        · skip
          obtain ⟨i, rfl⟩ : ∃ i, j = i + 1 := ⟨j - 1, by omega⟩
          rw [show (((i + 1 : Nat) : Int) - 1) = (i : Int) by omega]
          obtain ⟨w1, w2, w3⟩ := hI.win (by rw [s2]; exact hdB) (by omega)
          rw [s2] at w1 w2 w3
          have hwl : ((us.drop i).take ((lim b).length + 1)).length = (lim b).length + 1 := by rw [List.length_take, List.length_drop]; omega
          have hwu : U32 ((us.drop i).take ((lim b).length + 1)) := (hI.ur.drop i).take _
          have k := Kn.of (m := (lim b).length - 2) (n := (lim b).length) (by have h : ¬ ((lim b).length : Int) = 1 := (by simpa using h1); omega) s2 s3 hwu hwl w2
          have q0 := k.first
          rw [getD_win (by omega), getD_win (by omega)] at q0
          have hwin := win_split us i ((lim b).length + 1)
          have hpre : (us.take i).length = i := by rw [List.length_take]; omega
          have g0 := hI.ur.get (i + (lim b).length)
          have g1 := hI.ur.get (i + (lim b).length - 1)
          have g2 := k.hv1
          have g3 := k.hv1'
          have e1 : i + ((lim b).length - 1) = i + (lim b).length - 1 := by omega
          rw [e1] at q0
          refine ARun.skip (ARun.seq (ARun.block (ARun.seq ?_)))
          refine ARun.drawnP 25 (fun _ => False) mixC rfl rfl (by kernel_rfl) (fun _ _ h => h.elim) ?_
          refine .op rfl (q_move rfl) ?_
          refine .op rfl (q_move rfl) ?_
          refine .op rfl (q_move rfl) ?_
          refine .op rfl (q_add rfl rfl (nadd_i64 (by omega))) ?_
          refine .op rfl (Zao rfl rfl rfl rfl rfl (by omega) (by omega) (idx_nat rfl)) ?_
          refine .op rfl (Zak rfl rfl rfl rfl (nts_get (by omega))) ?_
          refine .op rfl (q_conv rfl rfl rfl (nconv_u64 (by omega))) ?_
          refine .op rfl (q_shl rfl rfl (by omega) (nshl_u64 (s := 32) rfl (by omega) (by omega))) ?_
          refine .op rfl (q_move rfl) ?_
          refine .op rfl (q_move rfl) ?_
          refine .op rfl (q_move rfl) ?_
          refine .op rfl (q_add rfl rfl (nadd_i64 (by omega))) ?_
          refine .op rfl (q_sub rfl rfl (nsub1_i64 (by omega) (by omega))) ?_
          refine .op rfl (Zao rfl rfl rfl rfl rfl (by omega) (by omega) (idx_nat rfl)) ?_
          refine .op rfl (Zak rfl rfl rfl rfl (nts_get (by omega))) ?_
          refine .op rfl (q_conv rfl rfl rfl (nconv_u64 (by omega))) ?_
          refine .op rfl (q_add rfl rfl (nadd_u64 (by omega))) ?_
          refine .op rfl (q_move rfl) ?_
          refine .op rfl (q_move rfl) ?_
          refine .op rfl (q_sub rfl rfl (nsub1_i64 (by omega) (by omega))) ?_
          refine .op rfl (Zan rfl rfl rfl rfl (by omega) (by omega) (nts_ne (by omega)) (drop_nat rfl)) ?_
          refine .op rfl (q_load rfl rfl rfl (lim_load (by omega))) ?_
          refine .op rfl (q_conv rfl rfl rfl (nconv_u64 (by omega))) ?_
          refine .op rfl (q_quo rfl rfl (by omega) (nquo_u64 rfl (by omega))) ?_
          refine .op rfl (q_minR rfl rfl (nmin (n := 4294967295))) ?_
          refine .nil (fun hG => ?_)
          refine y_op rfl (Zaa rfl) ?_
          refine AOps.nil (ARun.seq (ARun.region ?_))
          refine y_op rfl (Zaa rfl) ?_
          refine AOps.nil (ARun.seq (ARun.region ?_))
          refine y_op rfl (Zaa rfl) ?_
          refine AOps.nil (ARun.seq (ARun.seq (ARun.region ?_)))
          refine y_op rfl (Zaa rfl) ?_
          refine AOps.nil (ARun.block ?_)
          obtain ⟨q, hq⟩ : ∃ q, q = min ((us.getD (i + (lim b).length) 0 * 2 ^ 32 + us.getD (i + (lim b).length - 1) 0) / dig (b * 2 ^ s) ((lim b).length - 1)) 4294967295 := ⟨_, rfl⟩
          rw [← hq]
          have q1 : val ((us.drop i).take ((lim b).length + 1)) / (b * 2 ^ s) ≤ q := by
            rw [hq, Nat.add_comm (us.getD (i + (lim b).length) 0 * 2 ^ 32)]; exact q0
          have q2 : q < 4294967296 := by rw [hq]; exact Nat.lt_succ_of_le (Nat.min_le_right _ _)
          clear hq q0
          have hdn : b * 2 ^ s < B ^ ((lim b).length + 1) := Nat.lt_of_lt_of_le hdB (Nat.pow_le_pow_right B_pos (Nat.le_succ _))
          have hqd : q * (b * 2 ^ s) < B ^ ((lim b).length + 1) := by
            rw [Nat.pow_succ, Nat.mul_comm]
            exact Nat.mul_lt_mul'' hdB (by rw [B_eq]; exact q2)
          refine ARun.loopI (S := Nat × Nat × Nat × List Nat) (fun σ : Nat × Nat × Nat × List Nat => [(15, .any), (16, .any), (94, .any), (95, .any), (96, .any), (97, .any), (98, .any), (99, .any), (100, .any), (101, .any), (102, .any), (103, .any), (104, .any), (105, .any), (106, .any), (107, .any), (108, .any), (109, .any), (110, .any), (111, .any), (112, .any), (113, .any), (114, .any), (115, .any), (116, .any), (117, .any), (118, .any), (119, .any), (120, .any), (121, .any), (122, .any), (123, .any), (124, .any), (125, .any), (126, .any), (127, .any), (128, .any), (129, .any), (14, .int .i64 (σ.1 : Int)), (12, .int .u64 (σ.2.1 : Int)), (13, .int .u64 (σ.2.2.1 : Int))]) (fun σ : Nat × Nat × Nat × List Nat => [some ⟨[.nilsl, .nilsl], Zaj, 1, true, none⟩, none, some ⟨[.int .u32 0], Zah, 1, true, none⟩, some ⟨nts .u32 (us.take i ++ σ.2.2.2 ++ us.drop (i + ((lim b).length + 1))), Zah, 1, true, none⟩, some ⟨nts .u32 qs, Zah, 1, true, none⟩]) (fun σ : Nat × Nat × Nat × List Nat => U32 σ.2.2.2 ∧ σ.2.2.2.length = (lim b).length + 1 ∧ σ.1 ≤ (lim b).length + 1 ∧ σ.2.1 < 4294967296 ∧ σ.2.2.1 ≤ 1 ∧ (∀ x, σ.1 ≤ x → σ.2.2.2.getD x 0 = ((us.drop i).take ((lim b).length + 1)).getD x 0) ∧ σ.2.1 * B ^ σ.1 ≤ q * ((b * 2 ^ s) % B ^ σ.1) ∧ val (σ.2.2.2.take σ.1) + q * ((b * 2 ^ s) % B ^ σ.1) = val (((us.drop i).take ((lim b).length + 1)).take σ.1) + B ^ σ.1 * (σ.2.2.1 + σ.2.1)) (fun σ : Nat × Nat × Nat × List Nat => (lim b).length + 1 - σ.1) ((0, 0, 0, (us.drop i).take ((lim b).length + 1))) ?_ ?_ ?_ ?_
          · exact ⟨hwu, hwl, by simp, by simp, by simp, fun p _ => rfl, by simp, by simp [val, Nat.mod_one]⟩
          · (repeat' first | exact envLe_nil | apply envLe_any | apply envLe_same)
          · exact congrArg (fun l => [some ⟨[.nilsl, .nilsl], Zaj, 1, true, none⟩, none, some ⟨[.int .u32 0], Zah, 1, true, none⟩, some (AObj.mk (nts .u32 l) Zah 1 true none), some (AObj.mk (nts .u32 qs) Zah 1 true none)]) hwin
          rintro ⟨p, c, bw, zs⟩ hinv2 ih2
          dsimp only at hinv2 ih2 ⊢
          obtain ⟨hz, hzl, hp, hc, hbw, hzw, hcb, hv⟩ := hinv2
          refine ARun.seq (ARun.seq (ARun.region ?_))
          refine y_op rfl (q_move rfl) ?_
          refine y_op rfl (q_move rfl) ?_
          refine y_op rfl (q_int rfl rfl rfl) ?_
          refine AOps.nil ?_
          refine ARun.ite rfl (fun h4 => ?_) (fun h4 => ?_)
          · skip
            have d1 := dig_lt (b * 2 ^ s) p
            have m := mul_bound q2 d1
            have m2 : dig (b * 2 ^ s) p * q ≤ 18446744065119617025 := by rw [Nat.mul_comm]; exact m
            have d2 := hz.get p
            have hlo : (c + q * dig (b * 2 ^ s) p) % 4294967296 < 4294967296 := Nat.mod_lt _ (by decide)
            have es : dig (b * 2 ^ s) p * q + c = c + q * dig (b * 2 ^ s) p := by rw [Nat.mul_comm, Nat.add_comm]
            refine ARun.skip (ARun.seq (ARun.block (ARun.seq (ARun.region ?_))))
            refine y_op rfl (q_move rfl) ?_
            refine y_op rfl (q_move rfl) ?_
            refine y_op rfl (q_call rfl rfl (ZaI (b * 2 ^ s) p)) ?_
            refine y_op rfl (q_move rfl) ?_
            refine y_op rfl (q_mul rfl rfl (nmul_u64 (by omega))) ?_
            refine y_op rfl (q_move rfl) ?_
            refine y_op rfl (q_add rfl rfl (nadd_u64 (by omega))) ?_
            refine y_op rfl (Zaa rfl) ?_
            rw [es]
            refine AOps.nil (ARun.seq (ARun.region ?_))
            refine y_op rfl (q_move rfl) ?_
            refine y_op rfl (q_shr rfl rfl (by omega) nshr32) ?_
            refine y_op rfl (Zaa rfl) ?_
            refine AOps.nil (ARun.seq (ARun.region ?_))
            refine y_op rfl (q_move rfl) ?_
            refine y_op rfl (q_move rfl) ?_
            refine y_op rfl (q_move rfl) ?_
            refine y_op rfl (q_add rfl rfl (nadd_i64 (by omega))) ?_
            refine y_op rfl (Zao rfl rfl rfl rfl rfl (by omega) (by omega) (idx_nat rfl)) ?_
            refine y_op rfl (Zak rfl rfl rfl rfl (win_get (by assumption) (by omega))) ?_
            refine y_op rfl (q_conv rfl rfl rfl (nconv_u64 (by omega))) ?_
            refine y_op rfl (q_move rfl) ?_
            refine y_op rfl (q_conv rfl rfl rfl nconv_u32) ?_
            refine y_op rfl (q_conv rfl rfl rfl (nconv_u64 (by omega))) ?_
            refine y_op rfl (q_sub rfl rfl rfl) ?_
            refine y_op rfl (q_move rfl) ?_
            refine y_op rfl (q_sub rfl rfl rfl) ?_
            refine y_op rfl (Zaa rfl) ?_
            refine AOps.nil (ARun.seq (ARun.region ?_))
            refine y_op rfl (q_move rfl) ?_
            refine y_op rfl (q_move rfl) ?_
            refine y_op rfl (q_move rfl) ?_
            refine y_op rfl (q_add rfl rfl (nadd_i64 (by omega))) ?_
            refine y_op rfl (q_move rfl) ?_
            refine y_op rfl (q_conv rfl rfl rfl (sub_lo d2 hlo hbw)) ?_
            refine y_op rfl (Zao rfl rfl rfl rfl rfl (by omega) (by omega) (idx_nat rfl)) ?_
            refine y_new rfl (Zai rfl rfl rfl rfl rfl rfl (by simp; omega) (win_set (by assumption) (by omega))) ?_
            refine AOps.nil (ARun.region ?_)
            refine y_op rfl (q_move rfl) ?_
            refine y_op rfl (q_shr rfl rfl (by omega) (sub_c d2 hlo hbw)) ?_
            refine y_op rfl (Zaa rfl) ?_
            refine AOps.nil (ARun.inBlock (ARun.region ?_))
            refine y_op rfl (q_move rfl) ?_
            refine y_op rfl (q_add rfl rfl (nadd1_i64 (by omega))) ?_
            refine y_op rfl (Zaa rfl) ?_
            refine AOps.nil ?_
            refine ARun.again (ih2 ((p + 1, (c + q * dig (b * 2 ^ s) p) / 4294967296, subC (zs.getD p 0) ((c + q * dig (b * 2 ^ s) p) % 4294967296) bw, zs.set p (subLo (zs.getD p 0) ((c + q * dig (b * 2 ^ s) p) % 4294967296) bw))) ?_ ?_) ?_ ?_
            · (obtain ⟨k1, k2, k3, k4, k5, k6⟩ := tk_step (w := zs.getD p 0) hz hzl (by omega) q2 hc hbw d2 hwl (hzw p (Nat.le_refl _)).symm hcb hv; exact ⟨k1, k2, by dsimp only; omega, k3, k4, fun x hx => by rw [getD_set_ne (by omega)]; exact hzw x (by omega), k5, k6⟩)
            · (dsimp only; omega)
            · (repeat' first | exact envLe_nil | apply envLe_any | apply envLe_same)
            · rfl
          · skip
            have hpn : p = (lim b).length + 1 := by omega
            subst hpn
            have ht := tk_end hzl hwl hqd hdn hcb hv
            clear hcb hv hzw
            refine ARun.exit rfl ?_
            refine ARun.seq (ARun.block ?_)
            refine ARun.loopI (S := Nat × Nat × List Nat) (fun σ : Nat × Nat × List Nat => [(12, .any), (17, .any), (18, .any), (130, .any), (131, .any), (132, .any), (133, .any), (134, .any), (135, .any), (136, .any), (137, .any), (138, .any), (139, .any), (140, .any), (141, .any), (142, .any), (143, .any), (144, .any), (145, .any), (146, .any), (147, .any), (148, .any), (149, .any), (150, .any), (151, .any), (152, .any), (153, .any), (154, .any), (155, .any), (156, .any), (157, .any), (158, .any), (159, .any), (160, .any), (161, .any), (162, .any), (163, .any), (11, .int .u64 (σ.1 : Int)), (13, .int .u64 (σ.2.1 : Int))]) (fun σ : Nat × Nat × List Nat => [some ⟨[.nilsl, .nilsl], Zaj, 1, true, none⟩, none, some ⟨[.int .u32 0], Zah, 1, true, none⟩, some ⟨nts .u32 (us.take i ++ σ.2.2 ++ us.drop (i + ((lim b).length + 1))), Zah, 1, true, none⟩, some ⟨nts .u32 qs, Zah, 1, true, none⟩]) (fun σ : Nat × Nat × List Nat => U32 σ.2.2 ∧ σ.2.2.length = (lim b).length + 1 ∧ σ.2.1 ≤ 1 ∧ val σ.2.2 + σ.1 * (b * 2 ^ s) = val ((us.drop i).take ((lim b).length + 1)) + B ^ ((lim b).length + 1) * σ.2.1 ∧ val ((us.drop i).take ((lim b).length + 1)) / (b * 2 ^ s) ≤ σ.1 ∧ σ.1 < 4294967296) (fun σ : Nat × Nat × List Nat => σ.1) ((q, bw, zs)) ?_ ?_ ?_ ?_
            · exact ⟨hz, hzl, hbw, ht, q1, q2⟩
            · (repeat' first | exact envLe_nil | apply envLe_any | apply envLe_same)
            · rfl
            rintro ⟨h, bw, zs⟩ hinv3 ih3
            dsimp only at hinv3 ih3 ⊢
            clear ht hz hzl hbw
            obtain ⟨hz, hzl, hbw, ht, hq1, hq2⟩ := hinv3
            refine ARun.seq (ARun.seq (ARun.region ?_))
            refine y_op rfl (q_move rfl) ?_
            refine y_op rfl (q_int rfl rfl rfl) ?_
            refine AOps.nil ?_
            refine ARun.ite rfl (fun h5 => ?_) (fun h5 => ?_)
            · skip
              obtain rfl : bw = 1 := by omega
              have hvl := val_lt hz
              rw [hzl] at hvl
              have hh1 : 1 ≤ h := by
                rcases Nat.eq_zero_or_pos h with h0 | h0
                · rw [h0, Nat.zero_mul] at ht; omega
                · exact h0
              refine ARun.skip (ARun.block (ARun.seq (ARun.region ?_)))
              refine y_op rfl (q_move rfl) ?_
              refine y_op rfl (q_sub rfl rfl (nsub_u64 (n := 1) (by omega) (by omega))) ?_
              refine y_op rfl (Zaa rfl) ?_
              refine AOps.nil (ARun.seq (ARun.region ?_))
              refine y_op rfl (Zaa rfl) ?_
              refine AOps.nil (ARun.seq (ARun.seq (ARun.region ?_)))
              refine y_op rfl (Zaa rfl) ?_
              refine AOps.nil (ARun.block ?_)
              refine ARun.loopI (S := Nat × Nat × List Nat) (fun σ : Nat × Nat × List Nat => [(18, .any), (134, .any), (135, .any), (136, .any), (137, .any), (138, .any), (139, .any), (140, .any), (141, .any), (142, .any), (143, .any), (144, .any), (145, .any), (146, .any), (147, .any), (148, .any), (149, .any), (150, .any), (151, .any), (152, .any), (153, .any), (154, .any), (155, .any), (156, .any), (157, .any), (158, .any), (159, .any), (160, .any), (17, .int .i64 (σ.1 : Int)), (12, .int .u64 (σ.2.1 : Int))]) (fun σ : Nat × Nat × List Nat => [some ⟨[.nilsl, .nilsl], Zaj, 1, true, none⟩, none, some ⟨[.int .u32 0], Zah, 1, true, none⟩, some ⟨nts .u32 (us.take i ++ σ.2.2 ++ us.drop (i + ((lim b).length + 1))), Zah, 1, true, none⟩, some ⟨nts .u32 qs, Zah, 1, true, none⟩]) (fun σ : Nat × Nat × List Nat => U32 σ.2.2 ∧ σ.2.2.length = (lim b).length + 1 ∧ σ.1 ≤ (lim b).length + 1 ∧ σ.2.1 ≤ 1 ∧ (∀ x, σ.1 ≤ x → σ.2.2.getD x 0 = zs.getD x 0) ∧ val (σ.2.2.take σ.1) + B ^ σ.1 * σ.2.1 = val (zs.take σ.1) + (b * 2 ^ s) % B ^ σ.1) (fun σ : Nat × Nat × List Nat => (lim b).length + 1 - σ.1) ((0, 0, zs)) ?_ ?_ ?_ ?_
              · exact ⟨hz, hzl, by simp, by simp, fun p _ => rfl, by simp [val, Nat.mod_one]⟩
              · (repeat' first | exact envLe_nil | apply envLe_any | apply envLe_same)
              · rfl
              rintro ⟨p, c, ys⟩ hinv4 ih4
              dsimp only at hinv4 ih4 ⊢
              obtain ⟨y1, y2, y3, y4, y5, y6⟩ := hinv4
              refine ARun.seq (ARun.seq (ARun.region ?_))
              refine y_op rfl (q_move rfl) ?_
              refine y_op rfl (q_move rfl) ?_
              refine y_op rfl (q_int rfl rfl rfl) ?_
              refine AOps.nil ?_
              refine ARun.ite rfl (fun h6 => ?_) (fun h6 => ?_)
              · skip
                have n1 := y1.get p
                have n2 := dig_lt (b * 2 ^ s) p
                have es : ys.getD p 0 + dig (b * 2 ^ s) p + c = c + (ys.getD p 0 + dig (b * 2 ^ s) p) := Nat.add_comm _ _
                refine ARun.skip (ARun.seq (ARun.block (ARun.seq ?_)))
                refine ARun.drawnP 13 (fun _ => False) mixC rfl rfl (by kernel_rfl) (fun _ _ h => h.elim) ?_
                refine .op rfl (q_move rfl) ?_
                refine .op rfl (q_move rfl) ?_
                refine .op rfl (q_move rfl) ?_
                refine .op rfl (q_add rfl rfl (nadd_i64 (by omega))) ?_
                refine .op rfl (Zao rfl rfl rfl rfl rfl (by omega) (by omega) (idx_nat rfl)) ?_
                refine .op rfl (Zak rfl rfl rfl rfl (win_get (by assumption) (by omega))) ?_
                refine .op rfl (q_conv rfl rfl rfl (nconv_u64 (by omega))) ?_
                refine .op rfl (q_move rfl) ?_
                refine .op rfl (q_move rfl) ?_
                refine .op rfl (q_call rfl rfl (ZaI (b * 2 ^ s) p)) ?_
                refine .op rfl (q_add rfl rfl (nadd_u64 (by omega))) ?_
                refine .op rfl (q_move rfl) ?_
                refine .op rfl (q_add rfl rfl (nadd_u64 (by omega))) ?_
                refine .nil (fun hG => ?_)
                refine y_op rfl (Zaa rfl) ?_
                rw [es]
                refine AOps.nil (ARun.seq (ARun.region ?_))
                refine y_op rfl (q_move rfl) ?_
                refine y_op rfl (q_move rfl) ?_
                refine y_op rfl (q_move rfl) ?_
                refine y_op rfl (q_add rfl rfl (nadd_i64 (by omega))) ?_
                refine y_op rfl (q_move rfl) ?_
                refine y_op rfl (q_conv rfl rfl rfl nconv_u32) ?_
                refine y_op rfl (Zao rfl rfl rfl rfl rfl (by omega) (by omega) (idx_nat rfl)) ?_
                refine y_new rfl (Zai rfl rfl rfl rfl rfl rfl (by simp; omega) (win_set (by assumption) (by omega))) ?_
                refine AOps.nil (ARun.region ?_)
                refine y_op rfl (q_move rfl) ?_
                refine y_op rfl (q_shr rfl rfl (by omega) nshr32) ?_
                refine y_op rfl (Zaa rfl) ?_
                refine AOps.nil (ARun.inBlock (ARun.region ?_))
                refine y_op rfl (q_move rfl) ?_
                refine y_op rfl (q_add rfl rfl (nadd1_i64 (by omega))) ?_
                refine y_op rfl (Zaa rfl) ?_
                refine AOps.nil ?_
                refine ARun.again (ih4 ((p + 1, (c + (ys.getD p 0 + dig (b * 2 ^ s) p)) / 4294967296, ys.set p ((c + (ys.getD p 0 + dig (b * 2 ^ s) p)) % 4294967296))) ?_ ?_) ?_ ?_
                · (obtain ⟨k1, k2, k3, k4⟩ := back_step y1 y2 hzl (by omega) y4 (y5 p (Nat.le_refl _)) y6; exact ⟨k1, k2, by dsimp only; omega, k3, fun x hx => by rw [getD_set_ne (by omega)]; exact y5 x (by omega), k4⟩)
                · (dsimp only; omega)
                · (repeat' first | exact envLe_nil | apply envLe_any | apply envLe_same)
                · rfl
              · skip
                have hpn : p = (lim b).length + 1 := by omega
                subst hpn
                rw [List.take_of_length_le (by omega), List.take_of_length_le (by omega), Nat.mod_eq_of_lt hdn] at y6
                obtain ⟨b1, b2, b3⟩ := dv_back ht hvl y6 y4 hd0
                refine ARun.exit rfl ?_
                refine ARun.region ?_
                refine y_op rfl (q_move rfl) ?_
                refine y_op rfl (q_move rfl) ?_
                refine y_op rfl (q_sub rfl rfl (nsub_u64 (by omega) (by omega))) ?_
                refine y_op rfl (Zaa rfl) ?_
                refine AOps.nil (ARun.inBlock ?_)
                refine ARun.again (ih3 ((h - 1, 1 - c, ys)) ?_ ?_) ?_ ?_
                · exact ⟨y1, y2, by dsimp only; omega, b3, b2, by dsimp only; omega⟩
                · (dsimp only; omega)
                · (repeat' first | exact envLe_nil | apply envLe_any | apply envLe_same)
                · rfl
            · skip
              obtain rfl : bw = 0 := by omega
              rw [Nat.mul_zero, Nat.add_zero] at ht
              obtain ⟨r1, r2⟩ := k.exact (q := h) hq1 (by omega)
              have hst := hI.step (by rw [s2]; exact hdB) (by omega) (by omega) hz (by rw [s2]; exact hzl) (by rw [s2]; omega) hd0
              rw [s2, ← r1] at hst
              have hm : h % 4294967296 = h := Nat.mod_eq_of_lt hq2
              refine ARun.exit rfl ?_
              refine ARun.region ?_
              refine y_op rfl (q_move rfl) ?_
              refine y_op rfl (q_move rfl) ?_
              refine y_op rfl (q_move rfl) ?_
              refine y_op rfl (q_conv rfl rfl rfl nconv_u32) ?_
              refine y_op rfl (Zao rfl rfl rfl rfl rfl (by omega) (by omega) (idx_nat rfl)) ?_
              refine y_new rfl (Zai rfl rfl rfl rfl rfl rfl (by simp; omega) nts_set) ?_
              refine AOps.nil (ARun.inBlock (ARun.region ?_))
              refine y_op rfl (q_move rfl) ?_
              refine y_op rfl (q_sub rfl rfl (IntWalk.i64_in _ (by omega))) ?_
              refine y_op rfl (Zaa rfl) ?_
              refine AOps.nil ?_
              refine ARun.again (ih1 ((i, us.take i ++ zs ++ us.drop (i + ((lim b).length + 1)), qs.set i (h % 4294967296))) ?_ ?_) ?_ ?_
              · exact ⟨by dsimp only; rw [hm, s2]; exact hst, by simp; omega, by simpa using hql, by simp; omega⟩
              · (dsimp only; omega)
              · (repeat' first | exact envLe_nil | apply envLe_any | apply envLe_same)
              · rfl
        · skip
          have hj0 : j = 0 := by omega
          subst hj0
          obtain ⟨f1, f2⟩ := hI.fin
          refine ARun.exit rfl ?_
          refine ARun.seq (ARun.region ?_)
          refine y_op rfl (q_move rfl) ?_
          refine y_new rfl (n_call rfl rfl (.cons (.row rfl (pures_nts _)) .nil) (Zbu hI.uq hql (by omega)) rfl) ?_
          refine y_op rfl (q_move rfl) ?_
          refine y_new rfl (n_call rfl rfl (.cons (.row rfl (pures_nts _)) .nil) (Zbu hI.ur hul (by omega)) rfl) ?_
          refine y_op rfl (q_move rfl) ?_
          refine y_op rfl (q_call rfl rfl (Zmm _ s (by rw [f2]; exact Nat.le_trans (ln_mono (Nat.le_of_lt (Nat.mod_lt _ hd0))) (by omega)) (by omega))) ?_
          refine y_op rfl (Zap rfl rfl rfl rfl rfl) ?_
          refine y_new rfl (Zac rfl rfl rfl rfl rfl rfl rfl rfl (Nat.le_of_ble_eq_true rfl) rfl) ?_
          refine AOps.nil ?_
          refine ARun.ret ?_
          refine ⟨_, _, _, ResR.cellA rfl rfl rfl rfl rfl rfl .nil, .cons (.same _) .nil, rfl, ?_⟩
          rw [f1, f2, Nat.mul_div_mul_right _ _ (Nat.two_pow_pos s), Nat.mul_mod_mul_right, Nat.mul_div_cancel _ (Nat.two_pow_pos s)]
          rfl
end Go.V
set_option maxHeartbeats 4000000
set_option maxRecDepth 100000
set_option synthInstance.maxSize 100000
set_option synthInstance.maxHeartbeats 2000000
namespace Go.V
open Go.RowKit Go.Proofs
def upB (how : Int) (q r : Nat) (a b : Int) : Bool := decide (r ≠ 0) && awayZ how (q : Int) (r : Int) a b
theorem Zpe (a b : Int) (q r : Nat) (how : Int) (hr : (lim r).length ≤ 16777216) (hb : (lim b.natAbs).length ≤ 16777216) : PC C ZoG [intD a, intD b, .agg [numD q, numD r], .int .i64 how] (fun o => o = .ret (.bool (upB how q r a b))) := by
  have hrr : (lim (r + r)).length ≤ 16777217 := by have := ln_add r r; omega
  have hcm : ∀ k : Int, k = cmpI (r + r) b.natAbs → (decide (k > 0) = decide (b.natAbs < 2 * r)) ∧ (decide (k = 0) = decide (2 * r = b.natAbs)) := by
    intro k hk
    subst hk
    unfold cmpI
    constructor <;> apply decide_eq_decide.2 <;> repeat' split
    all_goals omega
  obtain ⟨e1, e2⟩ := hcm _ rfl
  refine PC.run ZkG ZnM rfl ZnN rfl (rs := [.tmp 8]) (by rw [ZnO]) (by simp only [List.length_cons, List.length_nil, Nat.reduceAdd, Nat.reduceSub, List.replicate_succ, List.replicate_zero, List.cons_append, List.nil_append]; exact rfl) ?_
  refine ARun.seq (ARun.region ?_)
  refine y_op rfl (q_boxF rfl rfl rfl rfl) ?_
  refine y_op rfl (q_boxF rfl rfl rfl rfl) ?_
  refine y_op rfl (q_boxF rfl rfl rfl rfl) ?_
  refine y_op rfl (Zaa rfl) ?_
  refine AOps.nil (ARun.seq (ARun.seq (ARun.region ?_)))
  refine y_op rfl (q_fldS rfl rfl rfl (by decide)) ?_
  refine y_op rfl (q_load rfl rfl rfl rfl) ?_
  refine y_op rfl (Zad rfl rfl) ?_
  refine y_op rfl (q_int rfl rfl rfl) ?_
  refine AOps.nil ?_
  refine ARun.cond rfl (fun h0 => ?_) (fun h0 => ?_)
  · skip
    have h0 : (lim r).length = 0 := by
      have h : ((lim r).length : Int) = 0 := by simpa using h0
      omega
    have hr0 : r = 0 := by
      apply Classical.byContradiction
      intro h
      have := ln_pos.2 h
      omega
    refine ARun.seq (ARun.region ?_)
    refine y_op rfl (Zaa rfl) ?_
    refine AOps.nil ?_
    refine ARun.ret ?_
    refine ⟨_, _, _, .tmp rfl .nil, .cons (.same _) .nil, rfl, ?_⟩
    unfold upB
    rw [hr0]; rfl
  · skip
    have hr0 : r ≠ 0 := by
      rintro rfl
      rw [lim_zero] at h0
      cases h0
    have hU : upB how q r a b = awayZ how (q : Int) (r : Int) a b := by unfold upB; rw [decide_eq_true hr0]; rfl
    rw [hU]
    refine ARun.skip (ARun.seq (ARun.seq (ARun.region ?_)))
    refine y_op rfl (q_move rfl) ?_
    refine AOps.nil (ARun.block (ARun.seq (ARun.region ?_)))
    refine y_op rfl (q_int rfl rfl rfl) ?_
    refine y_op rfl (Zaa rfl) ?_
    refine AOps.nil ?_
    refine ARun.cond rfl (fun h2 => ?_) (fun h2 => ?_)
    · skip
      obtain rfl : how = 2 := by simpa using h2
      refine ARun.seq (ARun.region ?_)
      refine y_op rfl (q_fldS rfl rfl rfl (by decide)) ?_
      refine y_op rfl (q_load rfl rfl rfl rfl) ?_
      refine y_op rfl (q_fldS rfl rfl rfl (by decide)) ?_
      refine y_op rfl (q_load rfl rfl rfl rfl) ?_
      refine y_op rfl (ZaT rfl rfl rfl) ?_
      refine y_op rfl (Zaa rfl) ?_
      refine AOps.nil ?_
      refine ARun.ret ?_
      refine ⟨_, _, _, .tmp rfl .nil, .cons (.same _) .nil, rfl, ?_⟩
      rfl
    · skip
      have n2 : ¬ how = 2 := by simpa using h2
      refine ARun.seq (ARun.region ?_)
      refine y_op rfl (q_int rfl rfl rfl) ?_
      refine y_op rfl (Zaa rfl) ?_
      refine AOps.nil ?_
      refine ARun.cond rfl (fun h3 => ?_) (fun h3 => ?_)
      · skip
        obtain rfl : how = 3 := by simpa using h3
        refine ARun.seq (ARun.region ?_)
        refine y_op rfl (q_fldS rfl rfl rfl (by decide)) ?_
        refine y_op rfl (q_load rfl rfl rfl rfl) ?_
        refine y_op rfl (Zaa rfl) ?_
        refine AOps.nil ?_
        refine ARun.ret ?_
        refine ⟨_, _, _, .tmp rfl .nil, .cons (.same _) .nil, rfl, ?_⟩
        rfl
      · skip
        have n3 : ¬ how = 3 := by simpa using h3
        refine ARun.seq (ARun.region ?_)
        refine y_op rfl (q_int rfl rfl rfl) ?_
        refine y_op rfl (Zaa rfl) ?_
        refine AOps.nil ?_
        refine ARun.cond rfl (fun h4 => ?_) (fun h4 => ?_)
        · skip
          obtain rfl : how = 4 := by simpa using h4
          have fin : ∀ c : Bool, c = (decide (b.natAbs < 2 * r) || (decide (2 * r = b.natAbs) && decide (q % 2 = 1))) → c = awayZ 4 (q : Int) (r : Int) a b := fun c h => h
          refine ARun.seq ?_
          refine ARun.drawnP 8 (fun _ => False) mixC rfl rfl (by kernel_rfl) (fun _ _ h => h.elim) ?_
          refine .op rfl (q_fldS rfl rfl rfl (by decide)) ?_
          refine .op rfl (q_load rfl rfl rfl rfl) ?_
          refine .op rfl (q_fldS rfl rfl rfl (by decide)) ?_
          refine .op rfl (q_load rfl rfl rfl rfl) ?_
          refine .op rfl (q_call rfl rfl (Zgv r r (by omega) (by omega))) ?_
          refine .op rfl (q_fldS rfl rfl rfl (by decide)) ?_
          refine .op rfl (q_load rfl rfl rfl rfl) ?_
          refine .op rfl (q_call rfl rfl (ZjJ (r + r) b.natAbs (by omega) (by omega))) ?_
          refine .nil (fun hG => ?_)
          refine y_op rfl (Zaa rfl) ?_
          refine AOps.nil (ARun.seq (ARun.region ?_))
          refine y_op rfl (q_move rfl) ?_
          refine y_op rfl (q_int rfl rfl rfl) ?_
          refine y_op rfl (q_move rfl) ?_
          refine AOps.bool 38 rfl (fun g1 => ?_) (fun g1 => ?_)
          · skip
            refine y_skip rfl ?_
            refine y_skip rfl ?_
            refine y_skip rfl ?_
            refine y_skip rfl ?_
            refine y_skip rfl ?_
            refine y_skip rfl ?_
            refine y_skip rfl ?_
            refine y_skip rfl ?_
            refine y_skip rfl ?_
            refine y_skip rfl ?_
            refine y_skip rfl ?_
            refine y_skip rfl ?_
            refine y_skip rfl ?_
            refine y_skip rfl ?_
            refine y_skip rfl ?_
            refine y_skip rfl ?_
            refine y_op rfl (q_pick rfl rfl rfl rfl) ?_
            refine y_op rfl (Zaa rfl) ?_
            refine AOps.nil ?_
            refine ARun.ret ?_
            refine ⟨_, _, _, .tmp rfl .nil, .cons (.same _) .nil, rfl, ?_⟩
            rw [← fin true (by rw [← e1, g1]; rfl)]
            rfl
          · skip
            refine y_op rfl (q_move rfl) ?_
            refine y_op rfl (q_int rfl rfl rfl) ?_
            refine y_op rfl (q_move rfl) ?_
            refine AOps.bool 41 rfl (fun g2 => ?_) (fun g2 => ?_)
            · skip
              have g2' : cmpI (r + r) b.natAbs = 0 := by simpa using g2
              refine y_op rfl (q_fldS rfl rfl rfl (by decide)) ?_
              refine y_op rfl (q_load rfl rfl rfl rfl) ?_
              refine y_op rfl (Zad rfl rfl) ?_
              refine y_op rfl (q_int rfl rfl rfl) ?_
              refine y_op rfl (q_pick rfl rfl rfl rfl) ?_
              refine y_op rfl (q_move rfl) ?_
              refine AOps.bool 47 rfl (fun g3 => ?_) (fun g3 => ?_)
              · skip
                have g3' : 0 < (lim q).length := by have := of_decide_eq_true g3; omega
                refine y_op rfl (q_fldS rfl rfl rfl (by decide)) ?_
                refine y_op rfl (q_load rfl rfl rfl rfl) ?_
                refine y_op rfl (Zan (i := (0 : Nat)) rfl rfl rfl rfl (by decide) (by omega) (nts_ne g3') (drop_nat rfl)) ?_
                refine y_op rfl (q_load rfl rfl rfl (lim_load g3')) ?_
                refine y_op rfl (q_rem rfl rfl (by decide) rfl) ?_
                refine y_op rfl (q_int rfl rfl rfl) ?_
                refine y_op rfl (q_pick rfl rfl rfl rfl) ?_
                refine y_op rfl (q_pick rfl rfl rfl rfl) ?_
                refine y_op rfl (Zaa rfl) ?_
                refine AOps.nil ?_
                refine ARun.ret ?_
                refine ⟨_, _, _, .tmp rfl .nil, .cons (.same _) .nil, rfl, ?_⟩
                rw [← fin (decide (q % 2 = 1)) (by rw [← e1, ← e2, g1, decide_eq_true g2']; rfl)]
                have : (((dig q 0 : Nat) : Int).tmod 2 == 1) = decide (q % 2 = 1) := by
                  rw [← parity _ g3', show ((dig q 0 : Nat) : Int).tmod 2 = ((dig q 0 % 2 : Nat) : Int) from rfl]
                  by_cases h : dig q 0 % 2 = 1
                  · rw [h]; rfl
                  · rw [decide_eq_false h]; exact beq_eq_false_iff_ne.2 (by omega)
                simp only [this, cond_true, cond_false]
                rfl
              · skip
                have g3' : q = 0 := by
                  apply Classical.byContradiction
                  intro h
                  have := ln_pos.2 h
                  have g := of_decide_eq_false g3
                  omega
                refine y_skip rfl ?_
                refine y_skip rfl ?_
                refine y_skip rfl ?_
                refine y_skip rfl ?_
                refine y_skip rfl ?_
                refine y_skip rfl ?_
                refine y_op rfl (q_pick rfl rfl rfl rfl) ?_
                refine y_op rfl (q_pick rfl rfl rfl rfl) ?_
                refine y_op rfl (Zaa rfl) ?_
                refine AOps.nil ?_
                refine ARun.ret ?_
                refine ⟨_, _, _, .tmp rfl .nil, .cons (.same _) .nil, rfl, ?_⟩
                rw [← fin false (by rw [← e1, ← e2, g1, decide_eq_true g2', g3']; rfl)]
                rfl
            · skip
              have g2' : ¬ cmpI (r + r) b.natAbs = 0 := by simpa using g2
              refine y_skip rfl ?_
              refine y_skip rfl ?_
              refine y_skip rfl ?_
              refine y_skip rfl ?_
              refine y_op rfl (q_pick rfl rfl rfl rfl) ?_
              refine y_op rfl (q_move rfl) ?_
              refine y_skip rfl ?_
              refine y_skip rfl ?_
              refine y_skip rfl ?_
              refine y_skip rfl ?_
              refine y_skip rfl ?_
              refine y_skip rfl ?_
              refine y_op rfl (q_pick rfl rfl rfl rfl) ?_
              refine y_op rfl (q_pick rfl rfl rfl rfl) ?_
              refine y_op rfl (Zaa rfl) ?_
              refine AOps.nil ?_
              refine ARun.ret ?_
              refine ⟨_, _, _, .tmp rfl .nil, .cons (.same _) .nil, rfl, ?_⟩
              rw [← fin false (by rw [← e1, ← e2, g1, decide_eq_false g2']; rfl)]
              rfl
        · skip
          have n4 : ¬ how = 4 := by simpa using h4
          refine ARun.skip (ARun.inBlock (ARun.seq (ARun.region ?_)))
          refine y_op rfl (Zaa rfl) ?_
          refine AOps.nil ?_
          refine ARun.ret ?_
          refine ⟨_, _, _, .tmp rfl .nil, .cons (.same _) .nil, rfl, ?_⟩
          unfold awayZ
          rw [if_neg n2, if_neg n3, if_neg n4]; rfl
theorem quo_up {a b : Int} (hb : b ≠ 0) (how : Int) :
    sgnd (!(decide (a < 0) == decide (b < 0))) (a.natAbs / b.natAbs + (upB how (a.natAbs / b.natAbs) (a.natAbs % b.natAbs) a b).toNat) = (divW (awayZ how (a.tdiv b) (a.tmod b) a b) a b).1 := by
  have hq : (a.tdiv b).natAbs = a.natAbs / b.natAbs := Int.natAbs_tdiv a b
  have hr : (a.tmod b).natAbs = a.natAbs % b.natAbs := abs_tmod a b
  have haw : awayZ how ((a.natAbs / b.natAbs : Nat) : Int) ((a.natAbs % b.natAbs : Nat) : Int) a b = awayZ how (a.tdiv b) (a.tmod b) a b := by
    unfold awayZ
    rw [hq, hr, Int.natAbs_natCast, Int.natAbs_natCast]
  unfold divW upB
  rw [haw]
  have hz : (a.tmod b = 0) ↔ a.natAbs % b.natAbs = 0 := by omega
  split
  · rename_i h
    have : (decide (a.natAbs % b.natAbs ≠ 0) && awayZ how (a.tdiv b) (a.tmod b) a b) = false := by
      rcases h with h | h
      · rw [show decide (a.natAbs % b.natAbs ≠ 0) = false from decide_eq_false (by have := hz.1 h; omega)]; rfl
      · rw [h, Bool.and_false]
    rw [this]
    exact sgnd_tdiv a b
  · rename_i h
    have h1 : ¬ a.tmod b = 0 := fun e => h (.inl e)
    have h2 : awayZ how (a.tdiv b) (a.tmod b) a b = true := by
      cases hc : awayZ how (a.tdiv b) (a.tmod b) a b with
      | true => rfl
      | false => exact (h (.inr hc)).elim
    rw [h2, show decide (a.natAbs % b.natAbs ≠ 0) = true from decide_eq_true (by omega)]
    have := sgnd_tdiv a b
    unfold stepZ
    rw [← this]
    cases (!(decide (a < 0) == decide (b < 0)))
    · simp only [sgnd, cond_false, Bool.and_true, Bool.toNat_true]; omega
    · simp only [sgnd, cond_true, Bool.and_true, Bool.toNat_true]; omega
theorem divW_rest {a b : Int} (w : Bool) : a - (divW w a b).1 * b = (divW w a b).2 := by
  have h := Int.mul_tdiv_add_tmod a b
  unfold divW
  split
  · dsimp only; rw [Int.mul_comm]; omega
  · have hs : stepZ a b * b = sgnd (decide (a < 0)) b.natAbs := by
      unfold stepZ
      by_cases h1 : a < 0 <;> by_cases h2 : b < 0
      · simp only [sgnd, decide_eq_true h1, decide_eq_true h2, beq_self_eq_true, Bool.not_true, cond_false, cond_true]; omega
      · simp only [sgnd, decide_eq_true h1, decide_eq_false h2, show (!(true == false)) = true from rfl, cond_true]; omega
      · simp only [sgnd, decide_eq_false h1, decide_eq_true h2, show (!(false == true)) = true from rfl, cond_true, cond_false]; omega
      · simp only [sgnd, decide_eq_false h1, decide_eq_false h2, beq_self_eq_true, Bool.not_true, cond_false]; omega
    dsimp only
    rw [Int.add_mul, hs, Int.mul_comm (a.tdiv b)]
    omega
abbrev divD (q r e : Int) : D := .agg [.bool (decide (q < 0)), numD q.natAbs, .bool (decide (r < 0)), numD r.natAbs, .int .i64 e]
theorem Zex (a b : Int) (how : Int) (ha : (lim a.natAbs).length ≤ 16777214) (hb : (lim b.natAbs).length ≤ 16777214) (h0 : b ≠ 0) : PC C ZhZ [intD a, intD b, .int .i64 how] (fun o => o = .ret (divD (divW (awayZ how (a.tdiv b) (a.tmod b) a b) a b).1 (divW (awayZ how (a.tdiv b) (a.tmod b) a b) a b).2 0)) := by
  have hq := quo_up (a := a) h0 how
  have hr := divW_rest (a := a) (b := b) (awayZ how (a.tdiv b) (a.tmod b) a b)
  have hb1 : 0 < b.natAbs := by omega
  generalize awayZ how (a.tdiv b) (a.tmod b) a b = w at hq hr
  have hlq : (lim (a.natAbs / b.natAbs)).length ≤ 16777214 := Nat.le_trans (ln_mono (Nat.div_le_self _ _)) ha
  have hlq1 : (lim (a.natAbs / b.natAbs + 1)).length ≤ 16777215 := by
    have := ln_add (a.natAbs / b.natAbs) 1
    rw [lim_one] at this
    simp only [List.length_cons, List.length_nil] at this
    omega
  have hlr : (lim (a.natAbs % b.natAbs)).length ≤ 16777214 := Nat.le_trans (ln_mono (Nat.mod_le _ _)) ha
  refine PC.run ZcY ZgI rfl ZgJ rfl (rs := [.cell 6 32]) (by rw [ZgK]) (by simp only [List.length_cons, List.length_nil, Nat.reduceAdd, Nat.reduceSub, List.replicate_succ, List.replicate_zero, List.cons_append, List.nil_append]; exact rfl) ?_
  refine ARun.seq (ARun.region ?_)
  refine y_op rfl (q_boxF rfl rfl rfl rfl) ?_
  refine y_op rfl (q_boxF rfl rfl rfl rfl) ?_
  refine y_new rfl (Zag rfl rfl rfl rfl) ?_
  refine AOps.nil (ARun.seq (ARun.region ?_))
  refine y_op rfl (q_fldS rfl rfl rfl (by decide)) ?_
  refine y_op rfl (q_load rfl rfl rfl rfl) ?_
  refine y_op rfl (q_fldS rfl rfl rfl (by decide)) ?_
  refine y_op rfl (q_load rfl rfl rfl rfl) ?_
  refine y_op rfl (q_call rfl rfl (ZoT a.natAbs b.natAbs (by omega) (by omega) hb1)) ?_
  refine ZbL rfl rfl rfl rfl rfl rfl rfl rfl rfl rfl rfl ?_
  refine AOps.nil (ARun.seq (ARun.region ?_))
  refine y_op rfl (q_fldS rfl rfl rfl (by decide)) ?_
  refine y_op rfl (q_load rfl rfl rfl rfl) ?_
  refine y_op rfl (Zaa rfl) ?_
  refine AOps.nil (ARun.seq (ARun.seq (ARun.region ?_)))
  refine y_op rfl (Zae rfl rfl rfl rfl rfl) ?_
  refine y_op rfl (Zae rfl rfl rfl rfl rfl) ?_
  refine y_op rfl (Zae rfl rfl rfl rfl rfl) ?_
  refine y_op rfl (q_move rfl) ?_
  refine y_op rfl (q_call rfl rfl (Zpe a b (a.natAbs / b.natAbs) (a.natAbs % b.natAbs) how (by omega) (by omega))) ?_
  refine AOps.nil ?_
  refine ARun.join (S := Nat) (fun n : Nat => [(22, .any), (23, .any), (24, .any), (8, numD n)]) (fun n : Nat => n = a.natAbs / b.natAbs + (upB how (a.natAbs / b.natAbs) (a.natAbs % b.natAbs) a b).toNat) (fun run => ?_) ?_
  · skip
    refine ARun.cond rfl (fun hu => ?_) (fun hu => ?_)
    · skip
      have hadd : PC C Zg1 [numD (a.natAbs / b.natAbs), .sl 1 [.int .u32 1]] (fun o => o = .ret (numD (a.natAbs / b.natAbs + 1))) := by
        have h := Zgv (a.natAbs / b.natAbs) 1 (by omega) (by rw [lim_one]; decide)
        rw [← numD_one] at h
        exact h
      refine ARun.region ?_
      refine y_op rfl (q_move rfl) ?_
      refine y_op rfl (Zaq rfl rfl rfl rfl rfl rfl rfl rfl rfl rfl rfl (by decide) (by decide) rfl) ?_
      refine y_op rfl (q_call rfl rfl (hadd)) ?_
      refine y_op rfl (Zaa rfl) ?_
      refine AOps.nil ?_
      exact ARun.again (run (a.natAbs / b.natAbs + 1) (by rw [hu]; rfl)) (by (repeat' first | exact envLe_nil | apply envLe_any | apply envLe_same)) rfl
    · skip
      refine ARun.skip ?_
      exact ARun.again (run (a.natAbs / b.natAbs) (by rw [hu]; rfl)) (by (repeat' first | exact envLe_nil | apply envLe_any | apply envLe_same)) rfl
  · rintro n hj
    try dsimp only at hj ⊢
    have hn : (lim n).length ≤ 16777215 := by
      rw [hj]
      cases upB how (a.natAbs / b.natAbs) (a.natAbs % b.natAbs) a b
      · exact Nat.le_trans hlq (by decide)
      · exact hlq1
    rw [← hj] at hq
    have hqn : (lim (divW w a b).1.natAbs).length ≤ 16777215 := by rw [← hq, sgnd_abs]; exact hn
    refine ARun.seq (ARun.region ?_)
    refine y_op rfl (q_fldS rfl rfl rfl (by decide)) ?_
    refine y_op rfl (q_load rfl rfl rfl rfl) ?_
    refine y_op rfl (q_fldS rfl rfl rfl (by decide)) ?_
    refine y_op rfl (q_load rfl rfl rfl rfl) ?_
    refine y_op rfl (ZaT rfl rfl rfl) ?_
    refine y_op rfl (q_move rfl) ?_
    refine y_op rfl (q_call rfl rfl (Zca (!(decide (a < 0) == decide (b < 0))) n (by omega))) ?_
    rw [hq]
    refine y_op rfl (Zap rfl rfl rfl rfl rfl) ?_
    refine y_new rfl (Zag rfl rfl rfl rfl) ?_
    refine y_new rfl (Zac rfl rfl rfl rfl rfl rfl rfl rfl (Nat.le_of_ble_eq_true rfl) rfl) ?_
    refine AOps.nil (ARun.seq ?_)
    refine ARun.drawnP 6 (fun _ => False) mixC rfl rfl (by kernel_rfl) (fun _ _ h => h.elim) ?_
    refine .op rfl (Zae rfl rfl rfl rfl rfl) ?_
    refine .op rfl (q_fldP rfl rfl rfl (by decide)) ?_
    refine .op rfl (Zaf rfl rfl rfl rfl rfl rfl) ?_
    refine .op rfl (Zae rfl rfl rfl rfl rfl) ?_
    refine .op rfl (q_call rfl rfl (Zns (divW w a b).1 b (by omega) (by omega))) ?_
    refine .op rfl (q_call rfl rfl (Ze6 a ((divW w a b).1 * b) (by omega) (by rw [Int.natAbs_mul]; have := ln_mul (divW w a b).1.natAbs b.natAbs; omega))) ?_
    refine .nil (fun hG => ?_)
    refine y_op rfl (q_fldP rfl rfl rfl (by decide)) ?_
    refine y_new rfl (Zac rfl rfl rfl rfl rfl rfl rfl rfl (Nat.le_of_ble_eq_true rfl) rfl) ?_
    refine AOps.nil (ARun.seq (ARun.region ?_))
    refine y_op rfl (Zaf rfl rfl rfl rfl rfl rfl) ?_
    refine y_new rfl (Zac rfl rfl rfl rfl rfl rfl rfl rfl (Nat.le_of_ble_eq_true rfl) rfl) ?_
    refine AOps.nil ?_
    rw [hr]
    refine ARun.ret ?_
    refine ⟨_, _, _, ResR.cellA rfl rfl rfl rfl rfl rfl .nil, .cons (.same _) .nil, rfl, ?_⟩
    rfl
end Go.V
/- SEVERAL VARIABLES THAT ARE WRITTEN ONCE, made and written in one statement. -/
namespace Go.V
open Go.RowKit
section
variable {C : Ctx} {Q : Post} {ops : Array Oper} {rest : List Oper} {k : List Item} {env env' : List D} {H : Heap} {df : List ADef}
structure AlW (C : Ctx) (env : List D) (t : Tmp) (T : TypeId) (y : Operand) (te : TE) (zs ds : List D) : Prop where
  ty : C.ty T = some te
  z : ∃ dz, constD te.zero = some dz ∧ cellsD dz = some zs
  zk : zs.all (okCell []) = true
  zl : zs.length = te.size
  y : ∃ d, evO C env y = some d ∧ cellsD d = some ds
  n : ds.length = te.size
  ok : ds.all (okCell []) = true
  pu : D.pure.pures ds = true
  tl : t < env.length
variable {t1 t2 t3 : Tmp} {T1 T2 T3 : TypeId} {y1 y2 y3 : Operand} {te1 te2 te3 : TE} {zs1 ds1 zs2 ds2 zs3 ds3 : List D} {u1 u2 u3 v1 v2 v3 : TypeId} {p1 p2 p3 q1 q2 q3 : String} {a1 a2 a3 b1 b2 b3 : Array Edge}
end
end Go.V
set_option maxHeartbeats 4000000
set_option maxRecDepth 100000
set_option synthInstance.maxSize 100000
set_option synthInstance.maxHeartbeats 2000000
namespace Go.V
open Go.RowKit Go.Proofs
end Go.V
/- A FIELD OF A STRUCT that is no variable. -/
namespace Go.V
open Go.RowKit
section
variable {C : Ctx} {env : List D} {H : Heap} {dst : Option Tmp} {ty : TypeId} {pos : String} {aft : Array Edge} {gd : Option (Nat × Bool)} {x : Operand} {T : TypeId} {te : TE} {f : Nat} {cs ds : List D} {d : D} {fields : Array Field} {fl : Field}
theorem Zmn (hS : C.P.underlying T = some (.struct fields)) (hf : fields[f]? = some fl) (ht : C.ty fl.type = some te) (ha : aggK te.k = true) (hx : evO C env x = some (.agg cs)) (hd : (cs.drop fl.offset).take te.size = ds) (hl : ds.length = te.size) : OpQ C ⟨dst, .field T x f, ty, pos, aft, gd⟩ env H (.agg ds) :=
  OpQ.of_runS fun L0 w μ a hs he => by
    have ex := he _ _ hx
    simp only [VR] at ex
    obtain ⟨vs, ex, hv⟩ := ex
    obtain ⟨ti, ta⟩ := ty_tic ht
    have ha' := ta.trans ha
    have ti' : TI C.P fl.type (tkDesc C.P fl.type) te.size te.bytes te.zero := ti
    have hlen := VRs_length hv
    refine ⟨.agg (vs.toArray.extract fl.offset (fl.offset + te.size)), ?_, ?_⟩
    · simp only [execOp, ex]
      simp [Instr.field, run_underlying hS, hf, asAgg, part, ti'.run_agg, ha', ti'.run_size]
    · simp only [VR]
      refine ⟨(vs.drop fl.offset).take te.size, by congr 1; apply Array.ext'; simp [List.extract_eq_take_drop], ?_⟩
      have hl2 : ((vs.drop fl.offset).take te.size).length = ((cs.drop fl.offset).take te.size).length := by simp [hlen]
      subst hd
      refine VRs_mk hl2 fun j d v h1 h2 => ?_
      rw [List.getElem?_take] at h1 h2
      split at h1
      · rw [List.getElem?_drop] at h1
        rename_i hj
        rw [if_pos hj, List.getElem?_drop] at h2
        obtain ⟨v', k1, k2⟩ := VRs_get hv h1
        rw [h2] at k1
        injection k1 with k1
        subst k1
        exact k2
      · cases h1
end
end Go.V
set_option maxHeartbeats 4000000
set_option maxRecDepth 100000
set_option synthInstance.maxSize 100000
set_option synthInstance.maxHeartbeats 2000000
namespace Go.V
open Go.RowKit Go.Proofs
theorem divW_euclid {a m : Int} (hm : 0 < m) : (divW (awayZ 3 (a.tdiv m) (a.tmod m) a m) a m).2 = a % m := by
  have haw : awayZ 3 (a.tdiv m) (a.tmod m) a m = decide (a < 0) := rfl
  rw [haw]
  unfold divW
  by_cases h : a < 0
  · rw [decide_eq_true h]
    have e := Int.tmod_eq_emod (a := a) (b := m)
    by_cases h0 : a.tmod m = 0
    · rw [if_pos (.inl h0)]
      dsimp only
      have : a % m = 0 := by
        have hd : m ∣ a := Int.dvd_of_tmod_eq_zero h0
        exact Int.emod_eq_zero_of_dvd hd
      omega
    · rw [if_neg (by rintro (h1 | h1); exact h0 h1; cases h1)]
      dsimp only
      have hnd : ¬ m ∣ a := fun hd => h0 (Int.tmod_eq_zero_of_dvd hd)
      rw [if_neg (by rintro (h1 | h1); omega; exact hnd h1)] at e
      simp only [sgnd, cond_true]
      omega
  · rw [decide_eq_false h, if_pos (.inr rfl)]
    exact Int.tmod_eq_emod_of_nonneg (by omega)
theorem Zon (a m : Int) (ha : (lim a.natAbs).length ≤ 16777214) (hb : (lim m.natAbs).length ≤ 16777214) (hm : 0 < m) : PC C ZmQ [intD a, intD m] (fun o => o = .ret (intD (a % m))) := by
  have hr := divW_euclid (a := a) hm
  refine PC.run Zg5 ZlR rfl ZlS rfl (rs := [.cell 4 25]) (by rw [ZlT]) (by simp only [List.length_cons, List.length_nil, Nat.reduceAdd, Nat.reduceSub, List.replicate_succ, List.replicate_zero, List.cons_append, List.nil_append]; exact rfl) ?_
  refine ARun.seq (ARun.region ?_)
  refine y_op rfl (q_boxF rfl rfl rfl rfl) ?_
  refine y_op rfl (q_boxF rfl rfl rfl rfl) ?_
  refine y_new rfl (Zag rfl rfl rfl rfl) ?_
  refine AOps.nil (ARun.seq (ARun.region ?_))
  refine y_op rfl (Zae rfl rfl rfl rfl rfl) ?_
  refine y_op rfl (Zae rfl rfl rfl rfl rfl) ?_
  refine y_op rfl (q_call rfl rfl (Zex a m 3 ha hb (by omega))) ?_
  rw [hr]
  refine y_op rfl (Zmn Tryz.underlying32 rfl rfl rfl rfl rfl rfl) ?_
  refine y_new rfl (Zac rfl rfl rfl rfl rfl rfl rfl rfl (Nat.le_of_ble_eq_true rfl) rfl) ?_
  refine AOps.nil ?_
  refine ARun.ret ?_
  refine ⟨_, _, _, ResR.cellA rfl rfl rfl rfl rfl rfl .nil, .cons (.same _) .nil, rfl, ?_⟩
  rfl
theorem ZoU : PC C ZnK [] (fun o => o = .ret (intD 1)) := by
  refine PC.run ZiE ZmR rfl ZmS rfl (rs := [.cell 0 25]) (by rw [ZmT]) (by simp only [List.length_cons, List.length_nil, Nat.reduceAdd, Nat.reduceSub, List.replicate_succ, List.replicate_zero, List.cons_append, List.nil_append]; exact rfl) ?_
  refine ARun.seq (ARun.region ?_)
  refine y_new rfl (Zag rfl rfl rfl rfl) ?_
  refine AOps.nil (ARun.seq (ARun.region ?_))
  refine y_op rfl (q_call rfl rfl (Zbd 1 (by decide) (by decide))) ?_
  refine y_new rfl (Zac rfl rfl rfl rfl rfl rfl rfl rfl (Nat.le_of_ble_eq_true rfl) rfl) ?_
  refine AOps.nil ?_
  refine ARun.ret ?_
  refine ⟨_, _, _, ResR.cellA rfl rfl rfl rfl rfl rfl .nil, .cons (.same _) .nil, rfl, ?_⟩
  rfl
end Go.V
/- A cell of an object, told anew. -/
namespace Go.V
open Go.RowKit
end Go.V
set_option maxHeartbeats 4000000
set_option maxRecDepth 100000
set_option synthInstance.maxSize 100000
set_option synthInstance.maxHeartbeats 2000000
namespace Go.V
open Go.RowKit Go.Proofs
structure Iv (a m : Int) (b c X Y : Nat) (s : Int) : Prop where
  sg : s = 1 ∨ s = -1
  e1 : ∃ k : Int, a * (-s * X) + m * k = b
  e2 : ∃ k : Int, a * (s * Y) + m * k = c
  sum : X * c + Y * b = m.natAbs
  hX : X ≤ m.natAbs
  hb : 0 < b
  g : Nat.gcd b c = 1
  bm : b ≤ m.natAbs
  cm : c ≤ m.natAbs
theorem Iv.init {a m x0 y0 : Int} (hm : 0 < m) (h : a * x0 + m * y0 = 1) : Iv a m m.natAbs (a % m).natAbs 0 1 1 := by
  have hr := Int.emod_nonneg a (show m ≠ 0 by omega)
  have hr2 := Int.emod_lt_of_pos a hm
  have hd := Int.mul_ediv_add_emod a m
  refine ⟨.inl rfl, ⟨1, by simp; omega⟩, ⟨-(a / m), ?_⟩, by simp, Nat.zero_le _, by omega, ?_, Nat.le_refl _, by omega⟩
  · have : ((a % m).natAbs : Int) = a % m := by omega
    rw [this, Int.mul_neg]
    show a * (1 * 1) + -(m * (a / m)) = a % m
    rw [Int.one_mul, Int.mul_one]
    omega
  · have hg1 : ((Nat.gcd m.natAbs (a % m).natAbs : Nat) : Int) ∣ m := Int.ofNat_dvd_left.2 (Nat.gcd_dvd_left _ _)
    have hg2 : ((Nat.gcd m.natAbs (a % m).natAbs : Nat) : Int) ∣ (a % m) := Int.ofNat_dvd_left.2 (Nat.gcd_dvd_right _ _)
    have hg3 : ((Nat.gcd m.natAbs (a % m).natAbs : Nat) : Int) ∣ a := by
      have h5 := Int.dvd_add (Int.dvd_trans hg1 (Int.dvd_mul_right m (a / m))) hg2
      rwa [hd] at h5
    have hg4 : ((Nat.gcd m.natAbs (a % m).natAbs : Nat) : Int) ∣ 1 := by
      rw [← h]; exact Int.dvd_add (Int.dvd_trans hg3 (Int.dvd_mul_right _ _)) (Int.dvd_trans hg1 (Int.dvd_mul_right _ _))
    have := Int.le_of_dvd (by decide) hg4
    have hpos : 0 < Nat.gcd m.natAbs (a % m).natAbs := Nat.gcd_pos_of_pos_left _ (by omega)
    omega
theorem Iv.step {a m : Int} {b c X Y : Nat} {s : Int} (h : Iv a m b c X Y s) (hc : 0 < c) : Iv a m c (b % c) Y (X + b / c * Y) (-s) := by
  obtain ⟨k1, e1⟩ := h.e1
  obtain ⟨k2, e2⟩ := h.e2
  have hdm := Nat.div_add_mod b c
  have hdmZ : (c : Int) * ((b / c : Nat) : Int) + ((b % c : Nat) : Int) = (b : Int) := by rw [← Int.natCast_mul, ← Int.natCast_add, hdm]
  have hY : Y ≤ m.natAbs := by
    have := h.sum
    have h2 : Y * 1 ≤ Y * b := Nat.mul_le_mul_left _ h.hb
    omega
  refine ⟨by rcases h.sg with e | e <;> omega, ⟨k2, ?_⟩, ⟨k1 - ((b / c : Nat) : Int) * k2, ?_⟩, ?_, hY, hc, ?_, h.cm, Nat.le_trans (Nat.le_of_lt (Nat.mod_lt _ hc)) h.cm⟩
  · rw [Int.neg_neg]; exact e2
  · have e3 : ((b % c : Nat) : Int) = (a * (-s * X) + m * k1) - ((b / c : Nat) : Int) * (a * (s * Y) + m * k2) := by
      rw [e1, e2, Int.mul_comm ((b / c : Nat) : Int)]; omega
    rw [e3]
    push_cast
    simp only [Int.mul_add, Int.mul_sub, Int.neg_mul, Int.mul_neg]
    have t1 : a * (s * (((b : Int) / (c : Int)) * (Y : Int))) = ((b : Int) / (c : Int)) * (a * (s * (Y : Int))) := by
      rw [Int.mul_left_comm s, Int.mul_left_comm a]
    have t2 : m * (((b : Int) / (c : Int)) * k2) = ((b : Int) / (c : Int)) * (m * k2) := Int.mul_left_comm _ _ _
    rw [t1, t2]
    omega
  · have h1 := h.sum
    have h2 : Y * b = Y * (c * (b / c)) + Y * (b % c) := by rw [← Nat.mul_add, hdm]
    have h3 : (X + b / c * Y) * c = X * c + Y * (c * (b / c)) := by
      rw [Nat.add_mul]; congr 1
      simp only [Nat.mul_comm, Nat.mul_left_comm]
    omega
  · rw [← h.g, Nat.gcd_comm b c, Nat.gcd_rec c b, Nat.gcd_comm]
theorem Iv.fin {a m x0 y0 : Int} {b X Y : Nat} {s : Int} (hm : 0 < m) (h0 : a * x0 + m * y0 = 1) (h : Iv a m b 0 X Y s) : (-s * X) % m = x0 % m := by
  have hb : b = 1 := by have := h.g; rwa [Nat.gcd_zero_right] at this
  obtain ⟨k, e⟩ := h.e1
  rw [hb] at e
  generalize -s * (X : Int) = x at e
  rw [Int.emod_eq_emod_iff_emod_sub_eq_zero]
  apply Int.emod_eq_zero_of_dvd
  refine ⟨x0 * (y0 - k) + y0 * (x - x0), ?_⟩
  have e1 : x - x0 = (a * x0 + m * y0) * (x - x0) := by rw [h0, Int.one_mul]
  have e2 : a * (x - x0) = m * (y0 - k) := by
    rw [Int.mul_sub, Int.mul_sub]; push_cast at e; omega
  have e3 : (a * x0 + m * y0) * (x - x0) = x0 * (a * (x - x0)) + m * (y0 * (x - x0)) := by
    rw [Int.add_mul, Int.mul_comm a x0, Int.mul_assoc, Int.mul_assoc]
  have e4 : (a * x0 + m * y0) * (x - x0) = m * (x0 * (y0 - k) + y0 * (x - x0)) := by rw [e3, e2, Int.mul_add, Int.mul_left_comm x0 m]
  exact e1.trans e4
end Go.V
set_option maxHeartbeats 4000000
set_option maxRecDepth 100000
set_option synthInstance.maxSize 100000
set_option synthInstance.maxHeartbeats 2000000
namespace Go.V
open Go.RowKit Go.Proofs
end Go.V
set_option maxHeartbeats 4000000
set_option synthInstance.maxSize 100000
set_option synthInstance.maxHeartbeats 2000000
namespace Go.V
open Go.RowKit Go.Proofs
end Go.V
set_option maxHeartbeats 8000000
set_option maxRecDepth 100000
set_option synthInstance.maxSize 100000
set_option synthInstance.maxHeartbeats 2000000
namespace Go.V
open Go.RowKit Go.Proofs
end Go.V
set_option maxHeartbeats 4000000
set_option maxRecDepth 100000
set_option synthInstance.maxSize 100000
set_option synthInstance.maxHeartbeats 2000000
namespace Go.V
open Go.RowKit Go.Proofs
end Go.V
