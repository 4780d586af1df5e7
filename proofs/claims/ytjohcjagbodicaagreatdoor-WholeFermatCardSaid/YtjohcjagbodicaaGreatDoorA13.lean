/- A part of the proof: abstract values, rules for the steps of the program's form, and contracts of its functions, each proved; no condition. -/
import Derived.Test.YtjohcjagbodicaaGreatDoorA12
set_option linter.unusedVariables false
set_option linter.unusedSimpArgs false
set_option maxHeartbeats 2000000
set_option synthInstance.maxSize 100000
set_option synthInstance.maxHeartbeats 2000000
namespace Go.V
open Go.RowKit Go.Proofs
theorem nts_snoc {k : IntKind} {xs : List Nat} {x : Nat} : nts k xs ++ [.int k (x : Int)] = nts k (xs ++ [x]) := by simp [nts]
theorem nts_length {k : IntKind} {xs : List Nat} : (nts k xs).length = xs.length := by simp [nts]
theorem sln_len {k : IntKind} {xs : List Nat} : D.sl (nts k xs).length (nts k xs) = sln k xs := by rw [nts_length]
theorem pc_r_at (xs : List Nat) (hx : U32 xs) (i : Nat) : PC C n_R01_at [sln .u32 xs, .int .i64 (i : Int)] (fun o => o = .ret (.int .u64 ((xs.getD i 0 : Nat) : Int))) := by
  refine PC.run fn_R01_at en_R01_at rfl nt_R01_at rfl (rs := [.tmp 4]) (by rw [rs_R01_at]) (by simp only [List.length_cons, List.length_nil, Nat.reduceAdd, Nat.reduceSub, List.replicate_succ, List.replicate_zero, List.cons_append, List.nil_append]; exact rfl) ?_
  have hd := hx.get i
  refine ARun.seq ?_
  refine ARun.region ?_
  refine y_op rfl (q_assign rfl) ?_
  refine AOps.nil ?_
  refine ARun.seq ?_
  refine ARun.seq ?_
  refine ARun.region ?_
  refine y_op rfl (q_move rfl) ?_
  refine y_op rfl (q_move rfl) ?_
  refine y_op rfl (q_lenSl rfl rfl) ?_
  refine y_op rfl (q_int rfl rfl rfl) ?_
  refine AOps.nil ?_
  refine ARun.ite rfl (fun h => ?_) (fun h => ?_)
  · skip
    refine ARun.seq ?_
    refine ARun.region ?_
    refine y_op rfl (q_assign rfl) ?_
    refine AOps.nil ?_
    refine ARun.ret ?_
    refine ⟨_, _, _, .tmp rfl .nil, .cons (.same _) .nil, rfl, ?_⟩
    rw [getD_ge (by omega)]
    rfl
  · skip
    refine ARun.skip ?_
    refine ARun.seq ?_
    refine ARun.region ?_
    refine y_op rfl (q_move rfl) ?_
    refine y_op rfl (q_move rfl) ?_
    refine y_op rfl (q_idxSl (i := i) rfl rfl rfl rfl (by omega) (by omega) (nts_ne (by omega)) (drop_nat rfl)) ?_
    refine y_op rfl (q_load rfl rfl rfl (nts_load (i := i) (by omega))) ?_
    refine y_op rfl (q_conv rfl rfl rfl (nconv_u64 (by omega))) ?_
    refine y_op rfl (q_assign rfl) ?_
    refine AOps.nil ?_
    refine ARun.ret ?_
    refine ⟨_, _, _, .tmp rfl .nil, .cons (.same _) .nil, rfl, ?_⟩
    rfl
theorem pc_r_atN (a i : Nat) : PC C n_R01_at [numD a, .int .i64 (i : Int)] (fun o => o = .ret (.int .u64 ((dig a i : Nat) : Int))) :=
  (pc_r_at (lim a) (U32_lim a) i).mono fun o ho => by rw [ho, lim_get]
theorem pc_r_Trim (xs : List Nat) (hx : U32 xs) (hl : xs.length ≤ 35184372088832) : PC C n_R01_Trim [sln .u32 xs] (fun o => o = .ret (numD (val xs))) := by
  refine PC.run fn_R01_Trim en_R01_Trim rfl nt_R01_Trim rfl (rs := [.tmp 2]) (by rw [rs_R01_Trim]) (by simp only [List.length_cons, List.length_nil, Nat.reduceAdd, Nat.reduceSub, List.replicate_succ, List.replicate_zero, List.cons_append, List.nil_append]; exact rfl) ?_
  refine ARun.seq ?_
  refine ARun.region ?_
  refine y_op rfl (q_assign rfl) ?_
  refine AOps.nil ?_
  refine ARun.seq ?_
  refine ARun.region ?_
  refine y_op rfl (q_move rfl) ?_
  refine y_op rfl (q_lenSl rfl rfl) ?_
  refine y_op rfl (q_assign rfl) ?_
  refine AOps.nil ?_
  refine ARun.seq ?_
  refine ARun.block ?_
  refine ARun.loopI (S := Nat) (fun n : Nat => [(6, .any), (7, .any), (8, .any), (9, .any), (10, .any), (11, .any), (12, .any), (13, .any), (14, .any), (15, .any), (16, .any), (17, .any), (3, .int .i64 (n : Int))]) (fun n : Nat => []) (fun n : Nat => n ≤ xs.length ∧ val (xs.take n) = val xs) (fun n : Nat => n) (xs.length) ?_ ?_ ?_ ?_
  · exact ⟨Nat.le_refl _, by rw [List.take_length]⟩
  · (repeat' first | exact envLe_nil | apply envLe_any | apply envLe_same)
  · rfl
  rintro n hinv ih
  obtain ⟨hn, hv⟩ := hinv
  refine ARun.seq ?_
  refine ARun.seq ?_
  refine ARun.region ?_
  refine y_op rfl (q_move rfl) ?_
  refine y_op rfl (q_int rfl rfl rfl) ?_
  refine y_op rfl (q_move rfl) ?_
  refine AOps.bool 8 rfl (fun h => ?_) (fun h => ?_)
  · skip
    replace h := of_decide_eq_true h
    obtain ⟨m, rfl⟩ : ∃ m, n = m + 1 := ⟨n - 1, by omega⟩
    refine y_op rfl (q_move rfl) ?_
    refine y_op rfl (q_move rfl) ?_
    refine y_op rfl (q_sub rfl rfl (nsub1_i64 (by omega) (by omega))) ?_
    refine y_op rfl (q_idxSl (i := m) rfl rfl rfl rfl (by omega) (by omega) (nts_ne (by omega)) (drop_nat rfl)) ?_
    refine y_op rfl (q_load rfl rfl rfl (nts_load (i := m) (by omega))) ?_
    refine y_op rfl (q_int rfl rfl rfl) ?_
    refine y_op rfl (q_pick rfl rfl rfl rfl) ?_
    refine AOps.nil ?_
    refine ARun.ite rfl (fun h2 => ?_) (fun h2 => ?_)
    · skip
      refine ARun.skip ?_
      refine ARun.block ?_
      refine ARun.region ?_
      refine y_op rfl (q_move rfl) ?_
      refine y_op rfl (q_sub rfl rfl (nsub1_i64 (by omega) (by omega))) ?_
      refine y_op rfl (q_assign rfl) ?_
      refine AOps.nil ?_
      refine ARun.inBlock ?_
      refine ARun.again (ih (m) ?_ ?_) ?_ ?_
      · exact ⟨by omega, by rw [← hv, List.take_add_one, val_append, show xs[m]? = some 0 by rw [List.getElem?_eq_getElem (by omega)]; have : xs.getD m 0 = 0 := (by omega); rw [List.getD_eq_getElem?_getD, List.getElem?_eq_getElem (by omega)] at this; exact congrArg some this]; simp [val]⟩
      · exact Nat.lt_succ_self _
      · (repeat' first | exact envLe_nil | apply envLe_any | apply envLe_same)
      · rfl
    · skip
      refine ARun.exit rfl ?_
      refine ARun.seq ?_
      refine ARun.region ?_
      refine y_new rfl (n_buildSlice rfl rfl rfl rfl rfl rfl rfl rfl rfl rfl rfl (by decide) (by decide)) ?_
      refine y_op rfl (q_move rfl) ?_
      refine y_op rfl (q_move rfl) ?_
      refine y_op rfl (q_slice (m := (xs.take (m + 1)).length) (ds := nts .u32 (xs.take (m + 1))) rfl rfl rfl rfl rfl (bnd_nat rfl rfl) (by omega) (by omega) (by simp) (by simp; omega) (by rw [nts_slice]; simp)) ?_
      refine y_new rfl (n_append rfl rfl (by decide) rfl rfl rfl rfl rfl rfl rfl rfl rfl rfl (by simp) (by simp; omega) (by rw [maxLen_eq]; simp; omega) rfl) ?_
      refine y_op rfl (q_assign rfl) ?_
      refine AOps.nil ?_
      have hc : Canon (xs.take (m + 1)) := .inr (by rw [List.length_take, Nat.min_eq_left (by omega), Nat.add_sub_cancel, List.getD_eq_getElem?_getD, List.getElem?_take, if_pos (by omega), ← List.getD_eq_getElem?_getD]; omega)
      refine ARun.ret ?_
      refine ⟨_, _, _, .tmp rfl .nil, .cons (.row rfl (pures_nts _)) .nil, rfl, ?_⟩
      rw [← hv, numD, lim_val (hx.take _) hc]
      show Out.ret (D.sl (0 + _) _) = _
      rw [Nat.zero_add]
      rfl
  · skip
    replace h := of_decide_eq_false h
    have hn0 : n = 0 := by omega
    subst hn0
    refine y_skip rfl ?_
    refine y_skip rfl ?_
    refine y_skip rfl ?_
    refine y_skip rfl ?_
    refine y_skip rfl ?_
    refine y_skip rfl ?_
    refine y_op rfl (q_pick rfl rfl rfl rfl) ?_
    refine AOps.nil ?_
    refine ARun.condF rfl ?_
    refine ARun.exit rfl ?_
    refine ARun.seq ?_
    refine ARun.region ?_
    refine y_new rfl (n_buildSlice rfl rfl rfl rfl rfl rfl rfl rfl rfl rfl rfl (by decide) (by decide)) ?_
    refine y_op rfl (q_move rfl) ?_
    refine y_op rfl (q_move rfl) ?_
    refine y_op rfl (q_slice (m := 0) (ds := nts .u32 []) rfl rfl rfl rfl rfl (bnd_int rfl (by omega)) (by omega) (by omega) (by simp) (by simp) (by rw [nts_slice]; simp)) ?_
    refine y_new rfl (n_append rfl rfl (by decide) rfl rfl rfl rfl rfl rfl rfl rfl rfl rfl (by simp) (by simp) (by rw [maxLen_eq]; simp) rfl) ?_
    refine y_op rfl (q_assign rfl) ?_
    refine AOps.nil ?_
    refine ARun.ret ?_
    refine ⟨_, _, _, .tmp rfl .nil, .cons (.row rfl (pures_nts _)) .nil, rfl, ?_⟩
    rw [← hv, List.take_zero, numD, val, lim_zero]
    rfl
theorem pc_r_Trim' {xs : List Nat} {n : Nat} (hx : U32 xs) (hn : xs.length = n) (hl : n ≤ 35184372088832) : PC C n_R01_Trim [.sl n (nts .u32 xs)] (fun o => o = .ret (numD (val xs))) := by
  subst hn; exact pc_r_Trim xs hx hl
theorem pc_r_Of (n : Nat) (hn : n < 18446744073709551616) : PC C n_R01_Of [.int .u64 (n : Int)] (fun o => o = .ret (numD n)) := by
  refine PC.run fn_R01_Of en_R01_Of rfl nt_R01_Of rfl (rs := [.tmp 2]) (by rw [rs_R01_Of]) (by simp only [List.length_cons, List.length_nil, Nat.reduceAdd, Nat.reduceSub, List.replicate_succ, List.replicate_zero, List.cons_append, List.nil_append]; exact rfl) ?_
  have hu : U32 [n % 4294967296, n / 4294967296 % 4294967296] := U32.cons (Nat.mod_lt _ (by decide)) (U32.cons (Nat.mod_lt _ (by decide)) U32.nil)
  have hv : val [n % 4294967296, n / 4294967296 % 4294967296] = n := by
    simp only [val, B_eq]; omega
  refine ARun.seq ?_
  refine ARun.region ?_
  refine y_op rfl (q_assign rfl) ?_
  refine AOps.nil ?_
  refine ARun.seq ?_
  refine ARun.region ?_
  refine y_op rfl (q_move rfl) ?_
  refine y_op rfl (q_conv rfl rfl rfl nconv_u32) ?_
  refine y_op rfl (q_move rfl) ?_
  refine y_op rfl (q_shr rfl rfl (by omega) nshr32) ?_
  refine y_op rfl (q_conv rfl rfl rfl nconv_u32) ?_
  refine y_new rfl (n_buildSlice rfl rfl rfl rfl rfl rfl rfl rfl rfl rfl rfl (by decide) (by decide)) ?_
  refine y_new rfl (n_call rfl rfl (.cons (.row rfl rfl) .nil) (pc_r_Trim' (xs := [n % 4294967296, n / 4294967296 % 4294967296]) hu rfl (by decide)) rfl) ?_
  refine y_op rfl (q_assign rfl) ?_
  refine AOps.nil ?_
  refine ARun.ret ?_
  refine ⟨_, _, _, .tmp rfl .nil, .cons (.same _) .nil, rfl, ?_⟩
  rw [hv]
  rfl
theorem pc_r_Same (xs ys : List Nat) : PC C n_R01_Same [sln .u32 xs, sln .u32 ys] (fun o => o = .ret (.bool (decide (xs = ys)))) := by
  refine PC.run fn_R01_Same en_R01_Same rfl nt_R01_Same rfl (rs := [.tmp 4]) (by rw [rs_R01_Same]) (by simp only [List.length_cons, List.length_nil, Nat.reduceAdd, Nat.reduceSub, List.replicate_succ, List.replicate_zero, List.cons_append, List.nil_append]; exact rfl) ?_
  refine ARun.lenle 0 rfl (fun hlen => ?_)
  rw [maxLen_eq] at hlen
  refine ARun.seq ?_
  refine ARun.region ?_
  refine y_op rfl (q_assign rfl) ?_
  refine AOps.nil ?_
  refine ARun.seq ?_
  refine ARun.seq ?_
  refine ARun.region ?_
  refine y_op rfl (q_move rfl) ?_
  refine y_op rfl (q_lenSl rfl rfl) ?_
  refine y_op rfl (q_move rfl) ?_
  refine y_op rfl (q_lenSl rfl rfl) ?_
  refine y_op rfl (q_int rfl rfl rfl) ?_
  refine AOps.nil ?_
  refine ARun.cond rfl (fun h => ?_) (fun h => ?_)
  · skip
    have hne : xs.length ≠ ys.length := by intro e; rw [e] at h; simp at h
    refine ARun.seq ?_
    refine ARun.region ?_
    refine y_op rfl (q_assign rfl) ?_
    refine AOps.nil ?_
    refine ARun.ret ?_
    refine ⟨_, _, _, .tmp rfl .nil, .cons (.same _) .nil, rfl, ?_⟩
    rw [decide_eq_false (fun e => hne (by rw [e]))]
    rfl
  · skip
    have hl : xs.length = ys.length := by have h : (xs.length : Int) = ys.length := by simpa using h
                                          omega
    refine ARun.skip ?_
    refine ARun.seq ?_
    refine ARun.seq ?_
    refine ARun.region ?_
    refine y_op rfl (q_assign rfl) ?_
    refine AOps.nil ?_
    refine ARun.block ?_
    refine ARun.loopI (S := Nat) (fun i : Nat => [(4, .any), (11, .any), (12, .any), (13, .any), (14, .any), (15, .any), (16, .any), (17, .any), (18, .any), (19, .any), (20, .any), (21, .any), (22, .any), (23, .any), (24, .any), (25, .any), (5, .int .i64 (i : Int))]) (fun i : Nat => []) (fun i : Nat => i ≤ xs.length ∧ ∀ j, j < i → xs.getD j 0 = ys.getD j 0) (fun i : Nat => xs.length - i) (0) ?_ ?_ ?_ ?_
    · exact ⟨Nat.zero_le _, fun j h => absurd h (Nat.not_lt_zero _)⟩
    · (repeat' first | exact envLe_nil | apply envLe_any | apply envLe_same)
    · rfl
    rintro i hinv ih
    obtain ⟨hi, hs⟩ := hinv
    refine ARun.seq ?_
    refine ARun.seq ?_
    refine ARun.region ?_
    refine y_op rfl (q_move rfl) ?_
    refine y_op rfl (q_move rfl) ?_
    refine y_op rfl (q_lenSl rfl rfl) ?_
    refine y_op rfl (q_int rfl rfl rfl) ?_
    refine AOps.nil ?_
    refine ARun.ite rfl (fun h2 => ?_) (fun h2 => ?_)
    · skip
      refine ARun.skip ?_
      refine ARun.seq ?_
      refine ARun.block ?_
      refine ARun.seq ?_
      refine ARun.drawnP 9 (fun _ => False) mixC rfl rfl (by kernel_rfl) (fun _ _ h => h.elim) ?_
      refine .op rfl (q_move rfl) ?_
      refine .op rfl (q_move rfl) ?_
      refine .op rfl (q_idxSl (i := i) rfl rfl rfl rfl (by omega) (by omega) (nts_ne (by omega)) (drop_nat rfl)) ?_
      refine .op rfl (q_load rfl rfl rfl (nts_load (i := i) (by omega))) ?_
      refine .op rfl (q_move rfl) ?_
      refine .op rfl (q_move rfl) ?_
      refine .op rfl (q_idxSl (i := i) rfl rfl rfl rfl (by omega) (by omega) (nts_ne (by omega)) (drop_nat rfl)) ?_
      refine .op rfl (q_load rfl rfl rfl (nts_load (i := i) (by omega))) ?_
      refine .op rfl (q_int rfl rfl rfl) ?_
      refine .nil (fun hG => ?_)
      refine AOps.nil ?_
      refine ARun.cond rfl (fun h3 => ?_) (fun h3 => ?_)
      · skip
        refine ARun.seq ?_
        refine ARun.region ?_
        refine y_op rfl (q_assign rfl) ?_
        refine AOps.nil ?_
        refine ARun.ret ?_
        refine ⟨_, _, _, .tmp rfl .nil, .cons (.same _) .nil, rfl, ?_⟩
        rw [decide_eq_false (fun e => by rw [e] at h3; simp at h3)]
        rfl
      · skip
        have h3 : xs.getD i 0 = ys.getD i 0 := by
          have : ((xs.getD i 0 : Nat) : Int) = ((ys.getD i 0 : Nat) : Int) := by simpa using h3
          omega
        refine ARun.skip ?_
        refine ARun.inBlock ?_
        refine ARun.region ?_
        refine y_op rfl (q_move rfl) ?_
        refine y_op rfl (q_add rfl rfl (nadd1_i64 (by omega))) ?_
        refine y_op rfl (q_assign rfl) ?_
        refine AOps.nil ?_
        refine ARun.again (ih ((i + 1)) ?_ ?_) ?_ ?_
        · exact ⟨by omega, fun j hj => by rcases Nat.lt_succ_iff_lt_or_eq.1 hj with h | rfl; exact hs j h; exact h3⟩
        · omega
        · (repeat' first | exact envLe_nil | apply envLe_any | apply envLe_same)
        · rfl
    · skip
      have hie : i = xs.length := by omega
      refine ARun.exit rfl ?_
      refine ARun.seq ?_
      refine ARun.region ?_
      refine y_op rfl (q_assign rfl) ?_
      refine AOps.nil ?_
      refine ARun.ret ?_
      refine ⟨_, _, _, .tmp rfl .nil, .cons (.same _) .nil, rfl, ?_⟩
      have : xs = ys := by
        apply List.ext_getElem?
        intro j
        by_cases hj : j < xs.length
        · have := hs j (by omega)
          rw [List.getD_eq_getElem?_getD, List.getD_eq_getElem?_getD, List.getElem?_eq_getElem hj, List.getElem?_eq_getElem (by omega)] at this
          rw [List.getElem?_eq_getElem hj, List.getElem?_eq_getElem (by omega)]
          exact congrArg some this
        · rw [List.getElem?_eq_none (by omega), List.getElem?_eq_none (by omega)]
      rw [decide_eq_true this]
      rfl
end Go.V
set_option maxHeartbeats 2000000
set_option synthInstance.maxSize 100000
set_option synthInstance.maxHeartbeats 2000000
namespace Go.V
open Go.RowKit Go.Proofs
theorem U32.snoc {xs : List Nat} {x : Nat} (h : U32 xs) (hx : x < 4294967296) : U32 (xs ++ [x]) := fun y hy => by
  rcases List.mem_append.1 hy with h1 | h1
  · exact h y h1
  · rw [List.mem_singleton.1 h1]; exact hx
theorem addA_step {a b i c : Nat} {ys : List Nat} (hu : U32 ys) (hl : ys.length = i) (hc : c ≤ 1) (hv : val ys + B ^ i * c = a % B ^ i + b % B ^ i) :
    U32 (ys ++ [(dig a i + dig b i + c) % 4294967296]) ∧ (ys ++ [(dig a i + dig b i + c) % 4294967296]).length = i + 1 ∧ (dig a i + dig b i + c) / 4294967296 ≤ 1 ∧
      val (ys ++ [(dig a i + dig b i + c) % 4294967296]) + B ^ (i + 1) * ((dig a i + dig b i + c) / 4294967296) = a % B ^ (i + 1) + b % B ^ (i + 1) := by
  have d1 := dig_lt a i
  have d2 := dig_lt b i
  refine ⟨hu.snoc (Nat.mod_lt _ (by decide)), by simp [hl], by omega, ?_⟩
  rw [val_append, hl, mod_succ, mod_succ, Nat.pow_succ, Nat.mul_assoc]
  generalize hs : dig a i + dig b i + c = s
  have h1 : B ^ i * (s % 4294967296) + B ^ i * (B * (s / 4294967296)) = B ^ i * s := by
    rw [← Nat.mul_add]; congr 1; exact Nat.mod_add_div s B
  have h2 : B ^ i * s = B ^ i * c + (B ^ i * dig a i + B ^ i * dig b i) := by rw [← hs, Nat.mul_add, Nat.mul_add]; omega
  simp only [val, Nat.mul_zero, Nat.add_zero]
  omega
theorem addA_end {a b c n : Nat} {ys : List Nat} (hl : ys.length = n) (ha : (lim a).length < n) (hb : (lim b).length < n) (hu : U32 ys) (hv : val ys + B ^ n * c = a % B ^ n + b % B ^ n) : val ys = a + b :=
  add_end hl ha hb hu (by rw [List.take_of_length_le (by omega)]; exact hv)
theorem pc_r_Add (a b : Nat) (ha : (lim a).length ≤ 1099511627) (hb : (lim b).length ≤ 1099511627) : PC C n_R01_Add [numD a, numD b] (fun o => o = .ret (numD (a + b))) := by
  refine PC.run fn_R01_Add en_R01_Add rfl nt_R01_Add rfl (rs := [.tmp 4]) (by rw [rs_R01_Add]) (by simp only [List.length_cons, List.length_nil, Nat.reduceAdd, Nat.reduceSub, List.replicate_succ, List.replicate_zero, List.cons_append, List.nil_append]; exact rfl) ?_
  refine ARun.seq ?_
  refine ARun.region ?_
  refine y_op rfl (q_assign rfl) ?_
  refine AOps.nil ?_
  refine ARun.seq ?_
  refine ARun.region ?_
  refine y_op rfl (q_assign rfl) ?_
  refine AOps.nil ?_
  refine ARun.seq ?_
  refine ARun.region ?_
  refine y_op rfl (q_assign rfl) ?_
  refine AOps.nil ?_
  refine ARun.seq ?_
  refine ARun.seq ?_
  refine ARun.region ?_
  refine y_op rfl (q_assign rfl) ?_
  refine AOps.nil ?_
  refine ARun.block ?_
  refine ARun.loopI (S := Nat × Nat × List Nat × Heap) (fun σ : Nat × Nat × List Nat × Heap => [(8, .any), (9, .any), (10, .any), (11, .any), (12, .any), (13, .any), (14, .any), (15, .any), (16, .any), (17, .any), (18, .any), (19, .any), (20, .any), (21, .any), (22, .any), (23, .any), (24, .any), (25, .any), (26, .any), (27, .any), (28, .any), (29, .any), (30, .any), (31, .any), (32, .any), (33, .any), (5, growD (0 + σ.2.2.2.length) (nts .u32 σ.2.2.1)), (6, .int .u64 (σ.2.1 : Int)), (7, .int .i64 (σ.1 : Int))]) (fun σ : Nat × Nat × List Nat × Heap => growT σ.2.2.2 t_uint32 (nts .u32 σ.2.2.1)) (fun σ : Nat × Nat × List Nat × Heap => U32 σ.2.2.1 ∧ σ.2.2.1.length = σ.1 ∧ σ.1 ≤ max ((lim a).length) ((lim b).length) + 1 ∧ σ.2.1 ≤ 1 ∧ val σ.2.2.1 + B ^ σ.1 * σ.2.1 = a % B ^ σ.1 + b % B ^ σ.1) (fun σ : Nat × Nat × List Nat × Heap => max ((lim a).length) ((lim b).length) + 1 - σ.1) ((0, 0, [], [])) ?_ ?_ ?_ ?_
  · exact ⟨U32.nil, rfl, Nat.zero_le _, by simp, by simp [val, Nat.mod_one]⟩
  · (repeat' first | exact envLe_nil | apply envLe_any | apply envLe_same)
  · rfl
  rintro ⟨i, c, ys, J⟩ hinv ih
  dsimp only at hinv ih ⊢
  obtain ⟨hu, hl, hi, hc, hv⟩ := hinv
  have hbl : (nts .u32 ys).length = i := by rw [nts_length, hl]
  refine ARun.seq ?_
  refine ARun.seq ?_
  refine ARun.region ?_
  refine y_op rfl (q_move rfl) ?_
  refine y_op rfl (q_move rfl) ?_
  refine y_op rfl (q_lenSl rfl rfl) ?_
  refine y_op rfl (q_move rfl) ?_
  refine y_op rfl (q_lenSl rfl rfl) ?_
  refine y_op rfl (q_maxR rfl rfl nmax) ?_
  refine y_op rfl (q_int rfl rfl rfl) ?_
  refine AOps.nil ?_
  refine ARun.ite rfl (fun h => ?_) (fun h => ?_)
  · skip
    have d1 := dig_lt a i
    have d2 := dig_lt b i
    refine ARun.skip ?_
    refine ARun.seq ?_
    refine ARun.block ?_
    refine ARun.seq ?_
    refine ARun.region ?_
    refine y_op rfl (q_move rfl) ?_
    refine y_op rfl (q_move rfl) ?_
    refine y_op rfl (q_call rfl rfl (pc_r_atN a i)) ?_
    refine y_op rfl (q_move rfl) ?_
    refine y_op rfl (q_move rfl) ?_
    refine y_op rfl (q_call rfl rfl (pc_r_atN b i)) ?_
    refine y_op rfl (q_add rfl rfl (nadd_u64 (by omega))) ?_
    refine y_op rfl (q_move rfl) ?_
    refine y_op rfl (q_add rfl rfl (nadd_u64 (by omega))) ?_
    refine y_op rfl (q_assign rfl) ?_
    refine AOps.nil ?_
    refine ARun.seq ?_
    refine ARun.region ?_
    refine y_op rfl (q_move rfl) ?_
    refine y_op rfl (q_move rfl) ?_
    refine y_op rfl (q_conv rfl rfl rfl nconv_u32) ?_
    refine y_new rfl (n_buildSlice rfl rfl rfl rfl rfl rfl rfl rfl rfl rfl rfl (by decide) (by decide)) ?_
    refine y_grow rfl rfl rfl rfl rfl rfl rfl rfl rfl rfl (by show (_ + 1) * 4 ≤ _; omega) (by omega) (fun J' => ?_)
    rw [nts_snoc]
    refine y_op rfl (q_assign rfl) ?_
    refine AOps.nil ?_
    refine ARun.region ?_
    refine y_op rfl (q_move rfl) ?_
    refine y_op rfl (q_shr rfl rfl (by omega) nshr32) ?_
    refine y_op rfl (q_assign rfl) ?_
    refine AOps.nil ?_
    refine ARun.inBlock ?_
    refine ARun.region ?_
    refine y_op rfl (q_move rfl) ?_
    refine y_op rfl (q_add rfl rfl (nadd1_i64 (by omega))) ?_
    refine y_op rfl (q_assign rfl) ?_
    refine AOps.nil ?_
    refine ARun.again (ih ((i + 1, (dig a i + dig b i + c) / 4294967296, ys ++ [(dig a i + dig b i + c) % 4294967296], J')) ?_ ?_) ?_ ?_
    · (obtain ⟨k1, k2, k3, k4⟩ := addA_step hu hl hc hv; exact ⟨k1, k2, by dsimp only; omega, k3, k4⟩)
    · (dsimp only; omega)
    · (repeat' first | exact envLe_nil | apply envLe_any | apply envLe_same)
    · rfl
  · skip
    have hin : i = max (lim a).length (lim b).length + 1 := by omega
    refine ARun.growEnd 5 rfl (pures_nts _) (fun J' => ?_)
    rw [sln_len]
    refine ARun.exit rfl ?_
    refine ARun.seq ?_
    refine ARun.region ?_
    refine y_op rfl (q_move rfl) ?_
    refine y_op rfl (q_call rfl rfl (pc_r_Trim ys hu (by omega))) ?_
    refine y_op rfl (q_assign rfl) ?_
    refine AOps.nil ?_
    refine ARun.ret ?_
    refine ⟨_, _, _, .tmp rfl .nil, .cons (.same _) .nil, rfl, ?_⟩
    rw [addA_end hl (by omega) (by omega) hu hv]
    rfl
end Go.V
set_option maxHeartbeats 2000000
set_option synthInstance.maxSize 100000
set_option synthInstance.maxHeartbeats 2000000
namespace Go.V
open Go.RowKit Go.Proofs
theorem pc_s_OfL (b : Bool) (xs : List Nat) (hx : U32 xs) (hl : xs.length ≤ 35184372088832) : PC C n_R02_Of [.bool b, sln .u32 xs] (fun o => o = .ret (.agg [.bool (b && decide (0 < xs.length)), numD (val xs)])) := by
  refine PC.run fn_R02_Of en_R02_Of rfl nt_R02_Of rfl (rs := [.cell 4 25]) (by rw [rs_R02_Of]) (by simp only [List.length_cons, List.length_nil, Nat.reduceAdd, Nat.reduceSub, List.replicate_succ, List.replicate_zero, List.cons_append, List.nil_append]; exact rfl) ?_
  refine ARun.seq ?_
  refine ARun.region ?_
  refine y_new rfl (n_alloc rfl rfl rfl rfl) ?_
  refine AOps.nil ?_
  refine ARun.seq ?_
  refine ARun.region ?_
  refine y_op rfl (q_move rfl) ?_
  refine y_op rfl (q_move rfl) ?_
  refine AOps.bool 6 rfl (fun h => ?_) (fun h => ?_)
  · skip
    refine y_op rfl (q_move rfl) ?_
    refine y_op rfl (q_lenSl rfl rfl) ?_
    refine y_op rfl (q_int rfl rfl rfl) ?_
    refine y_op rfl (q_pick rfl rfl rfl rfl) ?_
    refine y_op rfl (q_move rfl) ?_
    refine y_op rfl (q_call rfl rfl (pc_r_Trim xs hx hl)) ?_
    refine y_op rfl (q_build rfl rfl rfl rfl rfl) ?_
    refine y_new rfl (n_storeN rfl rfl rfl rfl rfl rfl rfl rfl (Nat.le_of_ble_eq_true rfl) rfl) ?_
    refine AOps.nil ?_
    refine ARun.ret ?_
    refine ⟨_, _, _, ResR.cellA rfl rfl rfl rfl rfl rfl .nil, .cons (.same _) .nil, rfl, ?_⟩
    have : decide ((xs.length : Int) > 0) = decide (0 < xs.length) := decide_eq_decide.2 (by omega)
    rw [h, ← this]; rfl
  · skip
    refine y_skip rfl ?_
    refine y_skip rfl ?_
    refine y_skip rfl ?_
    refine y_op rfl (q_pick rfl rfl rfl rfl) ?_
    refine y_op rfl (q_move rfl) ?_
    refine y_op rfl (q_call rfl rfl (pc_r_Trim xs hx hl)) ?_
    refine y_op rfl (q_build rfl rfl rfl rfl rfl) ?_
    refine y_new rfl (n_storeN rfl rfl rfl rfl rfl rfl rfl rfl (Nat.le_of_ble_eq_true rfl) rfl) ?_
    refine AOps.nil ?_
    refine ARun.ret ?_
    refine ⟨_, _, _, ResR.cellA rfl rfl rfl rfl rfl rfl .nil, .cons (.same _) .nil, rfl, ?_⟩
    rw [h]; rfl
theorem pc_s_Of (b : Bool) (n : Nat) (hl : (lim n).length ≤ 35184372088832) : PC C n_R02_Of [.bool b, numD n] (fun o => o = .ret (intD (sgnd b n))) :=
  (pc_s_OfL b (lim n) (U32_lim n) hl).mono fun o ho => by
    rw [ho, val_lim, intD, sgnd_abs, sgnd_neg]
    have : decide (0 < (lim n).length) = decide (0 < n) := decide_eq_decide.2 (by rw [ln_pos]; omega)
    rw [this]
theorem decEqZ (x y : Int) : ((decide (x < 0) == decide (y < 0)) && decide (lim x.natAbs = lim y.natAbs)) = decide (x = y) := by
  have hl : lim x.natAbs = lim y.natAbs ↔ x.natAbs = y.natAbs := ⟨fun h => by rw [← val_lim x.natAbs, h, val_lim], fun h => by rw [h]⟩
  by_cases h : x = y
  · subst h; simp
  · rw [decide_eq_false h]
    by_cases h1 : x < 0 <;> by_cases h2 : y < 0
    · rw [show decide (lim x.natAbs = lim y.natAbs) = false from decide_eq_false (by rw [hl]; omega)]; simp
    · rw [decide_eq_true h1, decide_eq_false h2]; rfl
    · rw [decide_eq_false h1, decide_eq_true h2]; rfl
    · rw [show decide (lim x.natAbs = lim y.natAbs) = false from decide_eq_false (by rw [hl]; omega)]; simp
theorem pc_s_Same (x y : Int) : PC C n_R02_Same [intD x, intD y] (fun o => o = .ret (.bool (decide (x = y)))) := by
  refine PC.run fn_R02_Same en_R02_Same rfl nt_R02_Same rfl (rs := [.tmp 4]) (by rw [rs_R02_Same]) (by simp only [List.length_cons, List.length_nil, Nat.reduceAdd, Nat.reduceSub, List.replicate_succ, List.replicate_zero, List.cons_append, List.nil_append]; exact rfl) ?_
  refine ARun.seq ?_
  refine ARun.region ?_
  refine y_op rfl (q_boxF rfl rfl rfl rfl) ?_
  refine y_op rfl (q_boxF rfl rfl rfl rfl) ?_
  refine y_op rfl (q_assign rfl) ?_
  refine AOps.nil ?_
  refine ARun.seq ?_
  refine ARun.region ?_
  refine y_op rfl (q_fldS rfl rfl rfl (by decide)) ?_
  refine y_op rfl (q_load rfl rfl rfl rfl) ?_
  refine y_op rfl (q_fldS rfl rfl rfl (by decide)) ?_
  refine y_op rfl (q_load rfl rfl rfl rfl) ?_
  refine y_op rfl (q_boolEq rfl rfl rfl) ?_
  refine y_op rfl (q_move rfl) ?_
  refine AOps.bool 10 rfl (fun h => ?_) (fun h => ?_)
  · skip
    refine y_op rfl (q_fldS rfl rfl rfl (by decide)) ?_
    refine y_op rfl (q_load rfl rfl rfl rfl) ?_
    refine y_op rfl (q_fldS rfl rfl rfl (by decide)) ?_
    refine y_op rfl (q_load rfl rfl rfl rfl) ?_
    refine y_op rfl (q_call rfl rfl (pc_r_Same (lim x.natAbs) (lim y.natAbs))) ?_
    refine y_op rfl (q_pick rfl rfl rfl rfl) ?_
    refine y_op rfl (q_assign rfl) ?_
    refine AOps.nil ?_
    refine ARun.ret ?_
    refine ⟨_, _, _, .tmp rfl .nil, .cons (.same _) .nil, rfl, ?_⟩
    rw [← decEqZ, h]; rfl
  · skip
    refine y_skip rfl ?_
    refine y_skip rfl ?_
    refine y_skip rfl ?_
    refine y_skip rfl ?_
    refine y_skip rfl ?_
    refine y_op rfl (q_pick rfl rfl rfl rfl) ?_
    refine y_op rfl (q_assign rfl) ?_
    refine AOps.nil ?_
    refine ARun.ret ?_
    refine ⟨_, _, _, .tmp rfl .nil, .cons (.same _) .nil, rfl, ?_⟩
    rw [← decEqZ, h]; rfl
theorem pc_s_FromInt (z : Int) (h1 : -9223372036854775808 ≤ z) (h2 : z ≤ 9223372036854775807) : PC C n_R02_FromInt [.int .i64 z] (fun o => o = .ret (intD z)) := by
  have hln : ∀ n : Nat, n < 18446744073709551616 → (lim n).length ≤ 2 := fun n h => ln_le (by rw [B_two]; exact h)
  refine PC.run fn_R02_FromInt en_R02_FromInt rfl nt_R02_FromInt rfl (rs := [.cell 2 25]) (by rw [rs_R02_FromInt]) (by simp only [List.length_cons, List.length_nil, Nat.reduceAdd, Nat.reduceSub, List.replicate_succ, List.replicate_zero, List.cons_append, List.nil_append]; exact rfl) ?_
  refine ARun.seq ?_
  refine ARun.region ?_
  refine y_new rfl (n_alloc rfl rfl rfl rfl) ?_
  refine AOps.nil ?_
  refine ARun.seq ?_
  refine ARun.seq ?_
  refine ARun.region ?_
  refine y_op rfl (q_move rfl) ?_
  refine y_op rfl (q_int rfl rfl rfl) ?_
  refine AOps.nil ?_
  refine ARun.ite rfl (fun h => ?_) (fun h => ?_)
  · skip
    obtain ⟨m, hm⟩ : ∃ m : Nat, z = -(m : Int) - 1 := ⟨(-(z + 1)).toNat, by omega⟩
    subst hm
    have hadd : PC C n_R01_Add [numD m, .sl 1 [.int .u32 1]] (fun o => o = .ret (numD (m + 1))) := by
      have := hln m (by omega)
      have h := pc_r_Add m 1 (by omega) (by rw [lim_one]; decide)
      rw [← numD_one] at h
      exact h
    refine ARun.seq ?_
    refine ARun.region ?_
    refine y_op rfl (q_move rfl) ?_
    refine y_op rfl (q_add rfl rfl (show _ = -(m : Int) by rw [IntWalk.i64_in _ (by omega)]; omega)) ?_
    refine y_op rfl (q_neg rfl (show _ = (m : Int) by rw [IntWalk.i64_in _ (by omega)]; omega)) ?_
    refine y_op rfl (q_conv rfl rfl rfl (IntWalk.u64_in _ (by omega))) ?_
    refine y_op rfl (q_call rfl rfl (pc_r_Of m (by omega))) ?_
    refine y_op rfl (q_buildF rfl rfl rfl rfl rfl rfl rfl rfl rfl rfl rfl (by decide) (by decide) rfl) ?_
    refine y_op rfl (q_call rfl rfl (hadd)) ?_
    refine y_op rfl (q_call rfl rfl (pc_s_Of true (m + 1) (by have := hln (m + 1) (by omega); omega))) ?_
    refine y_new rfl (n_storeN rfl rfl rfl rfl rfl rfl rfl rfl (Nat.le_of_ble_eq_true rfl) rfl) ?_
    refine AOps.nil ?_
    refine ARun.ret ?_
    refine ⟨_, _, _, ResR.cellA rfl rfl rfl rfl rfl rfl .nil, .cons (.same _) .nil, rfl, ?_⟩
    rw [show sgnd true (m + 1) = -(m : Int) - 1 by simp only [sgnd, cond_true]; omega]
    rfl
  · skip
    obtain ⟨m, rfl⟩ : ∃ m : Nat, z = (m : Int) := ⟨z.toNat, by omega⟩
    refine ARun.skip ?_
    refine ARun.seq ?_
    refine ARun.region ?_
    refine y_op rfl (q_move rfl) ?_
    refine y_op rfl (q_conv rfl rfl rfl (IntWalk.u64_in _ (by omega))) ?_
    refine y_op rfl (q_call rfl rfl (pc_r_Of m (by omega))) ?_
    refine y_op rfl (q_call rfl rfl (pc_s_Of false m (by have := hln m (by omega); omega))) ?_
    refine y_new rfl (n_storeN rfl rfl rfl rfl rfl rfl rfl rfl (Nat.le_of_ble_eq_true rfl) rfl) ?_
    refine AOps.nil ?_
    refine ARun.ret ?_
    refine ⟨_, _, _, ResR.cellA rfl rfl rfl rfl rfl rfl .nil, .cons (.same _) .nil, rfl, ?_⟩
    rfl
end Go.V
set_option maxHeartbeats 2000000
set_option synthInstance.maxSize 100000
set_option synthInstance.maxHeartbeats 2000000
namespace Go.V
open Go.RowKit Go.Proofs
end Go.V
set_option maxHeartbeats 4000000
set_option synthInstance.maxSize 100000
set_option synthInstance.maxHeartbeats 2000000
namespace Go.V
open Go.RowKit Go.Proofs
theorem fit_lt {z : Int} (h : z.natAbs < 4294967296) : fitZ z := by
  unfold fitZ
  have := ln_le (n := z.natAbs) (k := 1) (by rw [Nat.pow_one]; exact h)
  omega
theorem okI_of {z : Int} (h : fitZ z) : okI (decide (z < 0), lim z.natAbs) = true := by
  unfold okI
  rw [okB_lim h, Bool.true_and]
  by_cases h0 : z < 0
  · have := ln_pos.2 (show z.natAbs ≠ 0 by omega)
    rw [decide_eq_true (show 0 < (lim z.natAbs).length from this), Bool.or_true]
  · rw [decide_eq_false h0]; rfl
theorem okI_of2 {x y : Int} (hx : fitZ x) (hy : fitZ y) : [(decide (x < 0), lim x.natAbs), (decide (y < 0), lim y.natAbs)].all okI = true := by
  simp only [List.all_cons, List.all_nil, Bool.and_true, okI_of hx, okI_of hy]
theorem gcd_12_18 : gG 12 18 = 6 ∧ gcdX 12 18 = 2 ∧ gcdY 12 18 = -1 := by
  have h0 : (18 : Int) ≠ 0 := by decide
  have h1 : gG 12 18 = 6 := by decide
  have h2 := gcd_eq (a := 12) h0
  have h3 := gQ_mul (a := 12) h0
  rw [h1] at h2 h3
  have h4 : gQ 12 18 = 3 := by
    have : (18 : Int).natAbs = 18 := rfl
    omega
  have h5 : 0 ≤ gcdX 12 18 := by unfold gcdX; rw [if_neg h0, h4]; exact Int.emod_nonneg _ (by decide)
  have h6 : gcdX 12 18 < 3 := by unfold gcdX; rw [if_neg h0, h4]; exact Int.emod_lt_of_pos _ (by decide)
  refine ⟨h1, ?_, ?_⟩ <;> omega
theorem str_255 : strZ 16 true (-255) = [45, 70, 70] := by
  have h : txt 16 255 = [102, 102] := by
    unfold txt
    rw [if_neg (by decide), dgs_pos (by decide) (by decide), dgs_pos (by decide) (by decide), show 255 / 16 / 16 = 0 from rfl, dgs_zero]
    rfl
  unfold strZ
  rw [show (-255 : Int).natAbs = 255 from rfl, h]
  rfl
theorem q_strEqT {C : Ctx} {dst : Option Tmp} {x y : Operand} {xt yt ty : TypeId} {pos : String} {aft : Array Edge} {gd : Option (Nat × Bool)} {env : List D} {H : Heap} {s t : ByteArray} (hx : evO C env x = some (.str s)) (hy : evO C env y = some (.str t)) (h : s = t) : OpQ C ⟨dst, .binOp .eql xt x y yt, ty, pos, aft, gd⟩ env H (.bool true) := by
  have := o_strEq (C := C) (H := H) (dst := dst) (ty := ty) (pos := pos) (aft := aft) (gd := gd) (xt := xt) (yt := yt) hx hy
  rw [h, beq_self_eq_true] at this
  exact this
theorem pc_l_awake : PC C n_law02_awake [] (fun o => o = .ret (.bool true)) := by
  have hdiv : PC C n_whole_Div [intD (-7), intD 2, .int .i64 4] (fun o => o = .ret (.tup [intD (-4), intD 1, .int .i64 0])) := by
    refine (pc_w_Div (decide ((-7 : Int) < 0), lim (-7 : Int).natAbs) (decide ((2 : Int) < 0), lim (2 : Int).natAbs) (U32_lim _) (U32_lim _) 4).mono fun o ho => ?_
    rw [okI_of2 (fit_lt (by decide)) (fit_lt (by decide)), valI_int, valI_int, show divR 4 true (-7) 2 = ((-4, 1), 0) by decide] at ho
    exact ho
  have hgcd : PC C n_whole_Gcd [intD 12, intD 18] (fun o => o = .ret (.tup [intD 6, intD 2, intD (-1), .int .i64 0])) := by
    refine (pc_w_Gcd (decide ((12 : Int) < 0), lim (12 : Int).natAbs) (decide ((18 : Int) < 0), lim (18 : Int).natAbs) (U32_lim _) (U32_lim _)).mono fun o ho => ?_
    obtain ⟨e1, e2, e3⟩ := gcd_12_18
    rw [okI_of2 (fit_lt (by decide)) (fit_lt (by decide)), valI_int, valI_int] at ho
    simp only [gcdR, cond_true, e1, e2, e3] at ho
    exact ho
  have htext : PC C n_whole_Text [intD (-255), .int .i64 16, .bool true] (fun o => o = .ret (.tup [.str ⟨#[45, 70, 70]⟩, .int .i64 0])) := by
    refine (pc_w_Text (decide ((-255 : Int) < 0), lim (-255 : Int).natAbs) (U32_lim _) 16 true).mono fun o ho => ?_
    have : textR (decide ((-255 : Int) < 0), lim (-255 : Int).natAbs) 16 true = ([45, 70, 70], 0) := by
      unfold textR
      rw [okI_of (fit_lt (by decide)), valI_int, show (16 : Int).toNat = 16 from rfl, str_255]
      rfl
    rw [this] at ho
    exact ho
  have hs : ∀ x : Int, PC C n_R02_Same [intD x, intD x] (fun o => o = .ret (.bool true)) := fun x => (pc_s_Same x x).mono fun o ho => by rw [ho, decide_eq_true rfl]
  refine PC.run fn_law02_awake en_law02_awake rfl nt_law02_awake rfl (rs := [.tmp 0]) (by rw [rs_law02_awake]) (by simp only [List.length_cons, List.length_nil, Nat.reduceAdd, Nat.reduceSub, List.replicate_succ, List.replicate_zero, List.cons_append, List.nil_append]; exact rfl) ?_
  refine ARun.seq ?_
  refine ARun.region ?_
  refine y_op rfl (q_assign rfl) ?_
  refine AOps.nil ?_
  refine ARun.seq ?_
  refine ARun.region ?_
  refine y_op rfl (q_call rfl rfl (pc_w_FromInt (-7) (by decide) (by decide))) ?_
  refine y_new rfl (n_alloc rfl rfl rfl rfl) ?_
  refine y_new rfl (n_storeN rfl rfl rfl rfl rfl rfl rfl rfl (Nat.le_of_ble_eq_true rfl) rfl) ?_
  refine AOps.nil ?_
  refine ARun.seq ?_
  refine ARun.region ?_
  refine y_op rfl (q_call rfl rfl (pc_w_FromInt 2 (by decide) (by decide))) ?_
  refine y_new rfl (n_alloc rfl rfl rfl rfl) ?_
  refine y_new rfl (n_storeN rfl rfl rfl rfl rfl rfl rfl rfl (Nat.le_of_ble_eq_true rfl) rfl) ?_
  refine AOps.nil ?_
  refine ARun.seq ?_
  refine ARun.region ?_
  refine y_op rfl (q_loadAggP rfl rfl rfl rfl rfl rfl) ?_
  refine y_op rfl (q_loadAggP rfl rfl rfl rfl rfl rfl) ?_
  refine y_op rfl (q_call rfl rfl (hdiv)) ?_
  refine y_op rfl (q_move rfl) ?_
  refine y_op rfl (q_extract rfl rfl) ?_
  refine y_op rfl (q_extract rfl rfl) ?_
  refine y_op rfl (q_extract rfl rfl) ?_
  refine y_new rfl (n_alloc rfl rfl rfl rfl) ?_
  refine y_new rfl (n_alloc rfl rfl rfl rfl) ?_
  refine y_new rfl (n_storeN rfl rfl rfl rfl rfl rfl rfl rfl (Nat.le_of_ble_eq_true rfl) rfl) ?_
  refine y_new rfl (n_storeN rfl rfl rfl rfl rfl rfl rfl rfl (Nat.le_of_ble_eq_true rfl) rfl) ?_
  refine y_op rfl (q_assign rfl) ?_
  refine AOps.nil ?_
  refine ARun.seq ?_
  refine ARun.region ?_
  refine y_op rfl (q_call rfl rfl (pc_w_FromInt 12 (by decide) (by decide))) ?_
  refine y_op rfl (q_call rfl rfl (pc_w_FromInt 18 (by decide) (by decide))) ?_
  refine y_op rfl (q_call rfl rfl (hgcd)) ?_
  refine y_op rfl (q_move rfl) ?_
  refine y_op rfl (q_extract rfl rfl) ?_
  refine y_op rfl (q_extract rfl rfl) ?_
  refine y_op rfl (q_extract rfl rfl) ?_
  refine y_op rfl (q_extract rfl rfl) ?_
  refine y_new rfl (n_alloc rfl rfl rfl rfl) ?_
  refine y_new rfl (n_alloc rfl rfl rfl rfl) ?_
  refine y_new rfl (n_alloc rfl rfl rfl rfl) ?_
  refine y_new rfl (n_storeN rfl rfl rfl rfl rfl rfl rfl rfl (Nat.le_of_ble_eq_true rfl) rfl) ?_
  refine y_new rfl (n_storeN rfl rfl rfl rfl rfl rfl rfl rfl (Nat.le_of_ble_eq_true rfl) rfl) ?_
  refine y_new rfl (n_storeN rfl rfl rfl rfl rfl rfl rfl rfl (Nat.le_of_ble_eq_true rfl) rfl) ?_
  refine y_op rfl (q_assign rfl) ?_
  refine AOps.nil ?_
  refine ARun.seq ?_
  refine ARun.region ?_
  refine y_op rfl (q_call rfl rfl (pc_w_FromInt (-255) (by decide) (by decide))) ?_
  refine y_op rfl (q_call rfl rfl (htext)) ?_
  refine y_op rfl (q_move rfl) ?_
  refine y_op rfl (q_extract rfl rfl) ?_
  refine y_op rfl (q_extract rfl rfl) ?_
  refine y_op rfl (q_assign rfl) ?_
  refine y_op rfl (q_assign rfl) ?_
  refine AOps.nil ?_
  refine ARun.seq ?_
  refine ARun.drawnP 39 (fun _ => False) mixC rfl rfl (by kernel_rfl) (fun _ _ h => h.elim) ?_
  refine .op rfl (q_move rfl) ?_
  refine .op rfl (q_int rfl rfl rfl) ?_
  refine .op rfl (q_move rfl) ?_
  refine .op rfl (q_move rfl) ?_
  refine .op rfl (q_int rfl rfl rfl) ?_
  refine .op rfl (q_pick rfl rfl rfl rfl) ?_
  refine .op rfl (q_move rfl) ?_
  refine .op rfl (q_move rfl) ?_
  refine .op rfl (q_int rfl rfl rfl) ?_
  refine .op rfl (q_pick rfl rfl rfl rfl) ?_
  refine .op rfl (q_move rfl) ?_
  refine .op rfl (q_loadAggP rfl rfl rfl rfl rfl rfl) ?_
  refine .op rfl (q_call rfl rfl (pc_s_FromInt (-4) (by decide) (by decide))) ?_
  refine .op rfl (q_call rfl rfl (hs (-4))) ?_
  refine .op rfl (q_pick rfl rfl rfl rfl) ?_
  refine .op rfl (q_move rfl) ?_
  refine .op rfl (q_loadAggP rfl rfl rfl rfl rfl rfl) ?_
  refine .op rfl (q_call rfl rfl (pc_s_FromInt 1 (by decide) (by decide))) ?_
  refine .op rfl (q_call rfl rfl (hs 1)) ?_
  refine .op rfl (q_pick rfl rfl rfl rfl) ?_
  refine .op rfl (q_move rfl) ?_
  refine .op rfl (q_loadAggP rfl rfl rfl rfl rfl rfl) ?_
  refine .op rfl (q_call rfl rfl (pc_s_FromInt 6 (by decide) (by decide))) ?_
  refine .op rfl (q_call rfl rfl (hs 6)) ?_
  refine .op rfl (q_pick rfl rfl rfl rfl) ?_
  refine .op rfl (q_move rfl) ?_
  refine .op rfl (q_loadAggP rfl rfl rfl rfl rfl rfl) ?_
  refine .op rfl (q_call rfl rfl (pc_s_FromInt 2 (by decide) (by decide))) ?_
  refine .op rfl (q_call rfl rfl (hs 2)) ?_
  refine .op rfl (q_pick rfl rfl rfl rfl) ?_
  refine .op rfl (q_move rfl) ?_
  refine .op rfl (q_loadAggP rfl rfl rfl rfl rfl rfl) ?_
  refine .op rfl (q_call rfl rfl (pc_s_FromInt (-1) (by decide) (by decide))) ?_
  refine .op rfl (q_call rfl rfl (hs (-1))) ?_
  refine .op rfl (q_pick rfl rfl rfl rfl) ?_
  refine .op rfl (q_move rfl) ?_
  refine .op rfl (q_move rfl) ?_
  refine .op rfl (q_strEqT rfl rfl rfl) ?_
  refine .op rfl (q_pick rfl rfl rfl rfl) ?_
  refine .nil (fun hG => ?_)
  refine y_op rfl (q_assign rfl) ?_
  refine AOps.nil ?_
  refine ARun.ret ?_
  refine ⟨_, _, _, .tmp rfl .nil, .cons (.same _) .nil, rfl, ?_⟩
  rfl
end Go.V
set_option maxHeartbeats 4000000
set_option synthInstance.maxSize 100000
set_option synthInstance.maxHeartbeats 2000000
namespace Go.V
open Go.RowKit Go.Proofs
end Go.V
set_option maxHeartbeats 4000000
set_option synthInstance.maxSize 100000
set_option synthInstance.maxHeartbeats 2000000
namespace Go.V
open Go.RowKit Go.Proofs
end Go.V
set_option maxHeartbeats 4000000
set_option synthInstance.maxSize 100000
set_option synthInstance.maxHeartbeats 2000000
namespace Go.V
open Go.RowKit Go.Proofs
end Go.V
set_option maxHeartbeats 4000000
set_option synthInstance.maxSize 100000
set_option synthInstance.maxHeartbeats 2000000
namespace Go.V
open Go.RowKit Go.Proofs
theorem q_intEqT {C : Ctx} {dst : Option Tmp} {x y : Operand} {xt yt ty : TypeId} {pos : String} {aft : Array Edge} {gd : Option (Nat × Bool)} {env : List D} {H : Heap} {k : IntKind} {m n : Int} (hx : evO C env x = some (.int k m)) (hy : evO C env y = some (.int k n)) (h : m = n) : OpQ C ⟨dst, .binOp .eql xt x y yt, ty, pos, aft, gd⟩ env H (.bool true) :=
  o_int hx hy (by subst h; simp [intBin])
end Go.V
/- SLICES that are made with more room than length; rows that grow behind others. -/
namespace Go.V
open Go.RowKit
section
variable {C : Ctx} {env : List D} {H H' : Heap} {dst : Option Tmp} {ty : TypeId} {pos : String} {aft : Array Edge} {gd : Option (Nat × Bool)} {x y : Operand} {T e : TypeId} {descE : TypeDesc} {bytesE : Nat} {zeroE : Value}
end
end Go.V
/- CONTRACTS WHOSE RESULT IS A ROW that may still be written; calls that write, or that make rows, with arguments that are handed on. -/
namespace Go.V
open Go.RowKit Go.Proofs
section
variable {C : Ctx} {Q : Post} {ops : Array Oper} {rest : List Oper} {k : List Item} {env env' : List D} {H H' : Heap} {df : List ADef}
variable {dst : Option Tmp} {op : Op} {ty : TypeId} {pos : String} {aft : Array Edge} {gd : Option (Nat × Bool)} {x y : Operand} {T e : TypeId} {tee : TE}
end
end Go.V
/- THE SPECIFICATION's SHIFTS and DIVISION: plain Lean. -/
namespace Go.V
end Go.V
set_option maxHeartbeats 2000000
set_option synthInstance.maxSize 100000
set_option synthInstance.maxHeartbeats 2000000
namespace Go.V
open Go.RowKit Go.Proofs
end Go.V
set_option maxHeartbeats 8000000
set_option maxRecDepth 100000
set_option synthInstance.maxSize 100000
set_option synthInstance.maxHeartbeats 2000000
namespace Go.V
open Go.RowKit Go.Proofs
end Go.V
set_option maxHeartbeats 4000000
set_option maxRecDepth 100000
set_option synthInstance.maxSize 100000
set_option synthInstance.maxHeartbeats 2000000
namespace Go.V
open Go.RowKit Go.Proofs
end Go.V
/- SEVERAL VARIABLES THAT ARE WRITTEN ONCE, made and written in one statement. -/
namespace Go.V
open Go.RowKit
section
variable {C : Ctx} {Q : Post} {ops : Array Oper} {rest : List Oper} {k : List Item} {env env' : List D} {H : Heap} {df : List ADef}
/-- Where an object is made, and what is stored to it. -/
structure AlW (C : Ctx) (env : List D) (t : Tmp) (T : TypeId) (y : Operand) (te : TE) (zs ds : List D) : Prop where
  ty : C.ty T = some te
  z : ∃ dz, constD te.zero = some dz ∧ cellsD dz = some zs
  zk : zs.all (okCell []) = true
  zl : zs.length = te.size
  y : ∃ d, evO C env y = some d ∧ cellsD d = some ds
  n : ds.length = te.size
  ok : ds.all (okCell []) = true
  pu : D.pure.pures ds = true
  tl : t < env.length
theorem alW {t : Tmp} {T : TypeId} {y : Operand} {te : TE} {zs ds : List D} {dz d : D} (ht : C.ty T = some te) (hz : constD te.zero = some dz) (hzs : cellsD dz = some zs) (hzk : zs.all (okCell []) = true) (hzl : zs.length = te.size) (hy : evO C env y = some d) (hc : cellsD d = some ds) (hn : ds.length = te.size) (hok : ds.all (okCell []) = true) (hpu : D.pure.pures ds = true) (htl : Nat.blt t env.length = true) : AlW C env t T y te zs ds :=
  ⟨ht, ⟨dz, hz, hzs⟩, hzk, hzl, ⟨d, hy, hc⟩, hn, hok, hpu, Nat.le_of_ble_eq_true htl⟩
variable {t1 t2 t3 : Tmp} {T1 T2 T3 : TypeId} {y1 y2 y3 : Operand} {te1 te2 te3 : TE} {zs1 ds1 zs2 ds2 zs3 ds3 : List D} {u1 u2 u3 v1 v2 v3 : TypeId} {p1 p2 p3 q1 q2 q3 : String} {a1 a2 a3 b1 b2 b3 : Array Edge}
theorem y_allocF2 {e1 e2 e3 : List D} [hp1 : Put env (some t1) .any e1] [hp2 : Put e1 (some t2) .any e2] (h1 : AlW C e2 t1 T1 y1 te1 zs1 ds1) (h2 : AlW C e2 t2 T2 y2 te2 zs2 ds2) (n12 : Nat.beq t1 t2 = false) [hp3 : Put e2 (some t1) (.sptr ds1) e3] [hp4 : Put e3 (some t2) (.sptr ds2) env'] (hk : AOps C Q ops rest k env' H df) :
    AOps C Q ops (⟨some t1, .alloc T1, u1, p1, a1, none⟩ :: ⟨some t2, .alloc T2, u2, p2, a2, none⟩ :: ⟨none, .store T1 (.tmp t1) y1, v1, q1, b1, none⟩ :: ⟨none, .store T2 (.tmp t2) y2, v2, q2, b2, none⟩ :: rest) k env H df := by
  obtain ⟨dz1, z1, z1'⟩ := h1.z
  obtain ⟨d1, w1, w1'⟩ := h1.y
  have l1 : t1 < env.length := by have := h1.tl; rw [← hp2.eq, ← hp1.eq] at this; simpa [envPut] using this
  obtain ⟨dz2, z2, z2'⟩ := h2.z
  obtain ⟨d2, w2, w2'⟩ := h2.y
  have l2 : t2 < e1.length := by have := h2.tl; rw [← hp2.eq] at this; simpa [envPut] using this
  have m12 : t1 ≠ t2 := fun e => by rw [e, Nat.beq_refl] at n12; cases n12
  refine ⟨fun i hi => ?_⟩
  have i1 := hi
  have o1 := drop_get i1
  have i2 := drop_next i1
  rw [Array.getElem?_toList] at o1
  have o2 := drop_get i2
  have i3 := drop_next i2
  rw [Array.getElem?_toList] at o2
  have o3 := drop_get i3
  have i4 := drop_next i3
  rw [Array.getElem?_toList] at o3
  have o4 := drop_get i4
  have i5 := drop_next i4
  rw [Array.getElem?_toList] at o4
  have b12 : Nat.beq (i) (i + 1) = false := by cases h : Nat.beq (i) (i + 1) with | false => rfl | true => have := Nat.eq_of_beq_eq_true h; omega
  have b21 : Nat.beq (i + 1) (i) = false := by cases h : Nat.beq (i + 1) (i) with | false => rfl | true => have := Nat.eq_of_beq_eq_true h; omega
  let al : Nat → Option Alc := fun j => bif Nat.beq j (i) then some (t1, T1, zs1) else bif Nat.beq j (i + 1) then some (t2, T2, zs2) else none
  refine ARun.ofAS (al := al) (pe := fun _ => false) (fun _ => rfl) ?_
  simp only [List.length_cons, List.range'_succ]
  refine AS.alloc o1 h1.ty z1 z1' h1.zk (by simp only [upd, al, b12, b21, Nat.beq_refl, cond_true, cond_false]) (by simp only [upd, al, b12, b21, Nat.beq_refl, cond_true, cond_false]) (fun j t' T cs h h' => ?_) l1 ?_
  · cases h
  rw [hp1.eq]
  refine AS.alloc o2 h2.ty z2 z2' h2.zk (by simp only [upd, al, b12, b21, Nat.beq_refl, cond_true, cond_false]) (by simp only [upd, al, b12, b21, Nat.beq_refl, cond_true, cond_false]) (fun j t' T cs h h' => ?_) l2 ?_
  · by_cases e1 : j = i
    · subst e1; simp only [al, b12, b21, Nat.beq_refl, cond_true, cond_false] at h'; injection h' with h'; injection h' with h' _; rw [← h']; exact fun e => m12 e.symm
    rw [upd_ne _ e1] at h; cases h
  rw [hp2.eq]
  refine AS.stp (j := i) o3 h1.ty (by simp only [upd, al, b12, b21, Nat.beq_refl, cond_true, cond_false]) (by simp only [upd, al, b12, b21, Nat.beq_refl, cond_true, cond_false]) w1 w1' h1.n (Nat.le_of_eq h1.zl.symm) h1.ok h1.pu ?_
  refine AS.stp (j := i + 1) o4 h2.ty (by simp only [upd, al, b12, b21, Nat.beq_refl, cond_true, cond_false]) (by simp only [upd, al, b12, b21, Nat.beq_refl, cond_true, cond_false]) w2 w2' h2.n (Nat.le_of_eq h2.zl.symm) h2.ok h2.pu ?_
  refine AS.fix (j := i) (t := t1) (T := T1) (cs := ds1) (by simp only [upd, al, b12, b21, Nat.beq_refl, cond_true, cond_false]) (by simp only [upd, al, b12, b21, Nat.beq_refl, cond_true, cond_false]) h1.pu ?_
  refine AS.fix (j := i + 1) (t := t2) (T := T2) (cs := ds2) (by simp only [upd, al, b12, b21, Nat.beq_refl, cond_true, cond_false]) (by simp only [upd, al, b12, b21, Nat.beq_refl, cond_true, cond_false]) h2.pu ?_
  refine AS.run (fun j => ?_) ?_
  · by_cases e1 : j = i
    · subst e1; simp only [upd, al, b12, b21, Nat.beq_refl, cond_true, cond_false]
    by_cases e2 : j = i + 1
    · subst e2; simp only [upd, al, b12, b21, Nat.beq_refl, cond_true, cond_false]
    have c1 : Nat.beq j (i) = false := by cases h : Nat.beq j (i) with | false => rfl | true => exact (e1 (Nat.eq_of_beq_eq_true h)).elim
    have c2 : Nat.beq j (i + 1) = false := by cases h : Nat.beq j (i + 1) with | false => rfl | true => exact (e2 (Nat.eq_of_beq_eq_true h)).elim
    simp only [upd, c1, c2, cond_false]
  · have x1 := hp3.eq
    have x2 := hp4.eq
    simp only [envPut] at x1 x2
    rw [x1, x2]
    exact hk.out _ i5
end
end Go.V
set_option maxHeartbeats 4000000
set_option maxRecDepth 100000
set_option synthInstance.maxSize 100000
set_option synthInstance.maxHeartbeats 2000000
namespace Go.V
open Go.RowKit Go.Proofs
theorem kindF_none {how : Int} : kindF how = none ↔ how < 1 ∨ 4 < how := by
  unfold kindF
  repeat' split
  all_goals simp
  all_goals omega
theorem q_intNeF {C : Ctx} {dst : Option Tmp} {x y : Operand} {xt yt ty : TypeId} {pos : String} {aft : Array Edge} {gd : Option (Nat × Bool)} {env : List D} {H : Heap} {k : IntKind} {m n : Int} (hx : evO C env x = some (.int k m)) (hy : evO C env y = some (.int k n)) (h : m = n) : OpQ C ⟨dst, .binOp .neq xt x y yt, ty, pos, aft, gd⟩ env H (.bool false) :=
  o_int hx hy (by subst h; simp [intBin])
end Go.V
/- A FIELD OF A STRUCT that is no variable. -/
namespace Go.V
open Go.RowKit
section
variable {C : Ctx} {env : List D} {H : Heap} {dst : Option Tmp} {ty : TypeId} {pos : String} {aft : Array Edge} {gd : Option (Nat × Bool)} {x : Operand} {T : TypeId} {te : TE} {f : Nat} {cs ds : List D} {d : D} {fields : Array Field} {fl : Field}
end
end Go.V
set_option maxHeartbeats 4000000
set_option maxRecDepth 100000
set_option synthInstance.maxSize 100000
set_option synthInstance.maxHeartbeats 2000000
namespace Go.V
open Go.RowKit Go.Proofs
theorem divW_euclid {a m : Int} (hm : 0 < m) : (divW (awayZ 3 (a.tdiv m) (a.tmod m) a m) a m).2 = a % m := by
  have haw : awayZ 3 (a.tdiv m) (a.tmod m) a m = decide (a < 0) := rfl
  rw [haw]
  unfold divW
  by_cases h : a < 0
  · rw [decide_eq_true h]
    have e := Int.tmod_eq_emod (a := a) (b := m)
    by_cases h0 : a.tmod m = 0
    · rw [if_pos (.inl h0)]
      dsimp only
      have : a % m = 0 := by
        have hd : m ∣ a := Int.dvd_of_tmod_eq_zero h0
        exact Int.emod_eq_zero_of_dvd hd
      omega
    · rw [if_neg (by rintro (h1 | h1); exact h0 h1; cases h1)]
      dsimp only
      have hnd : ¬ m ∣ a := fun hd => h0 (Int.tmod_eq_zero_of_dvd hd)
      rw [if_neg (by rintro (h1 | h1); omega; exact hnd h1)] at e
      simp only [sgnd, cond_true]
      omega
  · rw [decide_eq_false h, if_pos (.inr rfl)]
    exact Int.tmod_eq_emod_of_nonneg (by omega)
end Go.V
/- A cell of an object, told anew. -/
namespace Go.V
open Go.RowKit
end Go.V
set_option maxHeartbeats 4000000
set_option maxRecDepth 100000
set_option synthInstance.maxSize 100000
set_option synthInstance.maxHeartbeats 2000000
namespace Go.V
open Go.RowKit Go.Proofs
/-- How the specification's search for an inverse stands: the last two rests, and their factors' magnitudes and sign. -/
structure Iv (a m : Int) (b c X Y : Nat) (s : Int) : Prop where
  sg : s = 1 ∨ s = -1
  e1 : ∃ k : Int, a * (-s * X) + m * k = b
  e2 : ∃ k : Int, a * (s * Y) + m * k = c
  sum : X * c + Y * b = m.natAbs
  hX : X ≤ m.natAbs
  hb : 0 < b
  g : Nat.gcd b c = 1
  bm : b ≤ m.natAbs
  cm : c ≤ m.natAbs
theorem Iv.init {a m x0 y0 : Int} (hm : 0 < m) (h : a * x0 + m * y0 = 1) : Iv a m m.natAbs (a % m).natAbs 0 1 1 := by
  have hr := Int.emod_nonneg a (show m ≠ 0 by omega)
  have hr2 := Int.emod_lt_of_pos a hm
  have hd := Int.mul_ediv_add_emod a m
  refine ⟨.inl rfl, ⟨1, by simp; omega⟩, ⟨-(a / m), ?_⟩, by simp, Nat.zero_le _, by omega, ?_, Nat.le_refl _, by omega⟩
  · have : ((a % m).natAbs : Int) = a % m := by omega
    rw [this, Int.mul_neg]
    show a * (1 * 1) + -(m * (a / m)) = a % m
    rw [Int.one_mul, Int.mul_one]
    omega
  · have hg1 : ((Nat.gcd m.natAbs (a % m).natAbs : Nat) : Int) ∣ m := Int.ofNat_dvd_left.2 (Nat.gcd_dvd_left _ _)
    have hg2 : ((Nat.gcd m.natAbs (a % m).natAbs : Nat) : Int) ∣ (a % m) := Int.ofNat_dvd_left.2 (Nat.gcd_dvd_right _ _)
    have hg3 : ((Nat.gcd m.natAbs (a % m).natAbs : Nat) : Int) ∣ a := by
      have h5 := Int.dvd_add (Int.dvd_trans hg1 (Int.dvd_mul_right m (a / m))) hg2
      rwa [hd] at h5
    have hg4 : ((Nat.gcd m.natAbs (a % m).natAbs : Nat) : Int) ∣ 1 := by
      rw [← h]; exact Int.dvd_add (Int.dvd_trans hg3 (Int.dvd_mul_right _ _)) (Int.dvd_trans hg1 (Int.dvd_mul_right _ _))
    have := Int.le_of_dvd (by decide) hg4
    have hpos : 0 < Nat.gcd m.natAbs (a % m).natAbs := Nat.gcd_pos_of_pos_left _ (by omega)
    omega
theorem Iv.step {a m : Int} {b c X Y : Nat} {s : Int} (h : Iv a m b c X Y s) (hc : 0 < c) : Iv a m c (b % c) Y (X + b / c * Y) (-s) := by
  obtain ⟨k1, e1⟩ := h.e1
  obtain ⟨k2, e2⟩ := h.e2
  have hdm := Nat.div_add_mod b c
  have hdmZ : (c : Int) * ((b / c : Nat) : Int) + ((b % c : Nat) : Int) = (b : Int) := by rw [← Int.natCast_mul, ← Int.natCast_add, hdm]
  have hY : Y ≤ m.natAbs := by
    have := h.sum
    have h2 : Y * 1 ≤ Y * b := Nat.mul_le_mul_left _ h.hb
    omega
  refine ⟨by rcases h.sg with e | e <;> omega, ⟨k2, ?_⟩, ⟨k1 - ((b / c : Nat) : Int) * k2, ?_⟩, ?_, hY, hc, ?_, h.cm, Nat.le_trans (Nat.le_of_lt (Nat.mod_lt _ hc)) h.cm⟩
  · rw [Int.neg_neg]; exact e2
  · have e3 : ((b % c : Nat) : Int) = (a * (-s * X) + m * k1) - ((b / c : Nat) : Int) * (a * (s * Y) + m * k2) := by
      rw [e1, e2, Int.mul_comm ((b / c : Nat) : Int)]; omega
    rw [e3]
    push_cast
    simp only [Int.mul_add, Int.mul_sub, Int.neg_mul, Int.mul_neg]
    have t1 : a * (s * (((b : Int) / (c : Int)) * (Y : Int))) = ((b : Int) / (c : Int)) * (a * (s * (Y : Int))) := by
      rw [Int.mul_left_comm s, Int.mul_left_comm a]
    have t2 : m * (((b : Int) / (c : Int)) * k2) = ((b : Int) / (c : Int)) * (m * k2) := Int.mul_left_comm _ _ _
    rw [t1, t2]
    omega
  · have h1 := h.sum
    have h2 : Y * b = Y * (c * (b / c)) + Y * (b % c) := by rw [← Nat.mul_add, hdm]
    have h3 : (X + b / c * Y) * c = X * c + Y * (c * (b / c)) := by
      rw [Nat.add_mul]; congr 1
      simp only [Nat.mul_comm, Nat.mul_left_comm]
    omega
  · rw [← h.g, Nat.gcd_comm b c, Nat.gcd_rec c b, Nat.gcd_comm]
theorem Iv.fin {a m x0 y0 : Int} {b X Y : Nat} {s : Int} (hm : 0 < m) (h0 : a * x0 + m * y0 = 1) (h : Iv a m b 0 X Y s) : (-s * X) % m = x0 % m := by
  have hb : b = 1 := by have := h.g; rwa [Nat.gcd_zero_right] at this
  obtain ⟨k, e⟩ := h.e1
  rw [hb] at e
  generalize -s * (X : Int) = x at e
  rw [Int.emod_eq_emod_iff_emod_sub_eq_zero]
  apply Int.emod_eq_zero_of_dvd
  refine ⟨x0 * (y0 - k) + y0 * (x - x0), ?_⟩
  have e1 : x - x0 = (a * x0 + m * y0) * (x - x0) := by rw [h0, Int.one_mul]
  have e2 : a * (x - x0) = m * (y0 - k) := by
    rw [Int.mul_sub, Int.mul_sub]; push_cast at e; omega
  have e3 : (a * x0 + m * y0) * (x - x0) = x0 * (a * (x - x0)) + m * (y0 * (x - x0)) := by
    rw [Int.add_mul, Int.mul_comm a x0, Int.mul_assoc, Int.mul_assoc]
  have e4 : (a * x0 + m * y0) * (x - x0) = m * (x0 * (y0 - k) + y0 * (x - x0)) := by rw [e3, e2, Int.mul_add, Int.mul_left_comm x0 m]
  exact e1.trans e4
end Go.V
set_option maxHeartbeats 4000000
set_option maxRecDepth 100000
set_option synthInstance.maxSize 100000
set_option synthInstance.maxHeartbeats 2000000
namespace Go.V
open Go.RowKit Go.Proofs
end Go.V
set_option maxHeartbeats 4000000
set_option synthInstance.maxSize 100000
set_option synthInstance.maxHeartbeats 2000000
namespace Go.V
open Go.RowKit Go.Proofs
theorem pc_l_equal (x y : Int) (hx : (lim x.natAbs).length ≤ 1000000) : PC C n_law02_equal [intD x, intD y] (fun o => o = .ret (.bool (decide (x = y)))) := by
  refine PC.run fn_law02_equal en_law02_equal rfl nt_law02_equal rfl (rs := [.tmp 4]) (by rw [rs_law02_equal]) (by simp only [List.length_cons, List.length_nil, Nat.reduceAdd, Nat.reduceSub, List.replicate_succ, List.replicate_zero, List.cons_append, List.nil_append]; exact rfl) ?_
  refine ARun.seq ?_
  refine ARun.region ?_
  refine y_op rfl (q_boxF rfl rfl rfl rfl) ?_
  refine y_op rfl (q_boxF rfl rfl rfl rfl) ?_
  refine y_op rfl (q_assign rfl) ?_
  refine AOps.nil ?_
  refine ARun.seq ?_
  refine ARun.seq ?_
  refine ARun.region ?_
  refine y_op rfl (q_fldS rfl rfl rfl (by decide)) ?_
  refine y_op rfl (q_load rfl rfl rfl rfl) ?_
  refine y_op rfl (q_fldS rfl rfl rfl (by decide)) ?_
  refine y_op rfl (q_load rfl rfl rfl rfl) ?_
  refine y_op rfl (q_boolNe rfl rfl rfl) ?_
  refine y_op rfl (q_move rfl) ?_
  refine AOps.bool 11 rfl (fun h1 => ?_) (fun h1 => ?_)
  · skip
    refine y_skip rfl ?_
    refine y_skip rfl ?_
    refine y_skip rfl ?_
    refine y_skip rfl ?_
    refine y_skip rfl ?_
    refine y_skip rfl ?_
    refine y_skip rfl ?_
    refine y_op rfl (q_pick rfl rfl rfl rfl) ?_
    refine AOps.nil ?_
    refine ARun.condT rfl ?_
    refine ARun.seq ?_
    refine ARun.region ?_
    refine y_op rfl (q_assign rfl) ?_
    refine AOps.nil ?_
    refine ARun.ret ?_
    refine ⟨_, _, _, .tmp rfl .nil, .cons (.same _) .nil, rfl, ?_⟩
    have : x ≠ y := by intro e; subst e; simp at h1
    rw [decide_eq_false this]; rfl
  · skip
    have hs : (decide (x < 0) == decide (y < 0)) = true := by simpa using h1
    refine y_op rfl (q_fldS rfl rfl rfl (by decide)) ?_
    refine y_op rfl (q_load rfl rfl rfl rfl) ?_
    refine y_op rfl (q_lenSl rfl rfl) ?_
    refine y_op rfl (q_fldS rfl rfl rfl (by decide)) ?_
    refine y_op rfl (q_load rfl rfl rfl rfl) ?_
    refine y_op rfl (q_lenSl rfl rfl) ?_
    refine y_op rfl (q_int rfl rfl rfl) ?_
    refine y_op rfl (q_pick rfl rfl rfl rfl) ?_
    refine AOps.nil ?_
    refine ARun.cond rfl (fun h2 => ?_) (fun h2 => ?_)
    · skip
      refine ARun.seq ?_
      refine ARun.region ?_
      refine y_op rfl (q_assign rfl) ?_
      refine AOps.nil ?_
      refine ARun.ret ?_
      refine ⟨_, _, _, .tmp rfl .nil, .cons (.same _) .nil, rfl, ?_⟩
      have : x ≠ y := by intro e; subst e; simp at h2
      rw [decide_eq_false this]; rfl
    · skip
      have hl : (lim x.natAbs).length = (lim y.natAbs).length := by
        have h : ((lim x.natAbs).length : Int) = (lim y.natAbs).length := by simpa using h2
        omega
      refine ARun.skip ?_
      refine ARun.seq ?_
      refine ARun.seq ?_
      refine ARun.region ?_
      refine y_op rfl (q_assign rfl) ?_
      refine AOps.nil ?_
      refine ARun.block ?_
      refine ARun.loopI (S := Nat) (fun i : Nat => [(4, .any), (20, .any), (21, .any), (22, .any), (23, .any), (24, .any), (25, .any), (26, .any), (27, .any), (28, .any), (29, .any), (30, .any), (31, .any), (32, .any), (33, .any), (34, .any), (35, .any), (36, .any), (37, .any), (5, .int .i64 (i : Int))]) (fun i : Nat => []) (fun i : Nat => i ≤ (lim x.natAbs).length ∧ ∀ j, j < i → (lim x.natAbs).getD j 0 = (lim y.natAbs).getD j 0) (fun i : Nat => (lim x.natAbs).length - i) (0) ?_ ?_ ?_ ?_
      · exact ⟨Nat.zero_le _, fun j h => absurd h (Nat.not_lt_zero _)⟩
      · (repeat' first | exact envLe_nil | apply envLe_any | apply envLe_same)
      · rfl
      rintro i hinv ih
      obtain ⟨hi, hsm⟩ := hinv
      refine ARun.seq ?_
      refine ARun.seq ?_
      refine ARun.region ?_
      refine y_op rfl (q_move rfl) ?_
      refine y_op rfl (q_fldS rfl rfl rfl (by decide)) ?_
      refine y_op rfl (q_load rfl rfl rfl rfl) ?_
      refine y_op rfl (q_lenSl rfl rfl) ?_
      refine y_op rfl (q_int rfl rfl rfl) ?_
      refine AOps.nil ?_
      refine ARun.ite rfl (fun h3 => ?_) (fun h3 => ?_)
      · skip
        refine ARun.skip ?_
        refine ARun.seq ?_
        refine ARun.block ?_
        refine ARun.seq ?_
        refine ARun.drawnP 11 (fun _ => False) mixC rfl rfl (by kernel_rfl) (fun _ _ h => h.elim) ?_
        refine .op rfl (q_fldS rfl rfl rfl (by decide)) ?_
        refine .op rfl (q_load rfl rfl rfl rfl) ?_
        refine .op rfl (q_move rfl) ?_
        refine .op rfl (q_idxSl (i := (i : Int)) rfl rfl rfl rfl (by omega) (by omega) (nts_ne (by omega)) (drop_nat rfl)) ?_
        refine .op rfl (q_load rfl rfl rfl (nts_load (xs := lim x.natAbs) (i := i) (by omega))) ?_
        refine .op rfl (q_fldS rfl rfl rfl (by decide)) ?_
        refine .op rfl (q_load rfl rfl rfl rfl) ?_
        refine .op rfl (q_move rfl) ?_
        refine .op rfl (q_idxSl (i := (i : Int)) rfl rfl rfl rfl (by omega) (by omega) (nts_ne (by omega)) (drop_nat rfl)) ?_
        refine .op rfl (q_load rfl rfl rfl (nts_load (xs := lim y.natAbs) (i := i) (by omega))) ?_
        refine .op rfl (q_int rfl rfl rfl) ?_
        refine .nil (fun hG => ?_)
        refine AOps.nil ?_
        refine ARun.cond rfl (fun h4 => ?_) (fun h4 => ?_)
        · skip
          refine ARun.seq ?_
          refine ARun.region ?_
          refine y_op rfl (q_assign rfl) ?_
          refine AOps.nil ?_
          refine ARun.ret ?_
          refine ⟨_, _, _, .tmp rfl .nil, .cons (.same _) .nil, rfl, ?_⟩
          have : x ≠ y := by intro e; subst e; simp at h4
          rw [decide_eq_false this]; rfl
        · skip
          have h4 : (lim x.natAbs).getD i 0 = (lim y.natAbs).getD i 0 := by
            have : (((lim x.natAbs).getD i 0 : Nat) : Int) = (((lim y.natAbs).getD i 0 : Nat) : Int) := by simpa using h4
            omega
          refine ARun.skip ?_
          refine ARun.inBlock ?_
          refine ARun.region ?_
          refine y_op rfl (q_move rfl) ?_
          refine y_op rfl (q_add rfl rfl (nadd1_i64 (by omega))) ?_
          refine y_op rfl (q_assign rfl) ?_
          refine AOps.nil ?_
          refine ARun.again (ih ((i + 1)) ?_ ?_) ?_ ?_
          · exact ⟨by omega, fun j hj => by rcases Nat.lt_succ_iff_lt_or_eq.1 hj with h | rfl; exact hsm j h; exact h4⟩
          · omega
          · (repeat' first | exact envLe_nil | apply envLe_any | apply envLe_same)
          · rfl
      · skip
        refine ARun.exit rfl ?_
        refine ARun.seq ?_
        refine ARun.region ?_
        refine y_op rfl (q_assign rfl) ?_
        refine AOps.nil ?_
        refine ARun.ret ?_
        refine ⟨_, _, _, .tmp rfl .nil, .cons (.same _) .nil, rfl, ?_⟩
        have e : lim x.natAbs = lim y.natAbs := by
          apply List.ext_getElem?
          intro j
          by_cases hj : j < (lim x.natAbs).length
          · have := hsm j (by omega)
            rw [List.getD_eq_getElem?_getD, List.getD_eq_getElem?_getD, List.getElem?_eq_getElem hj, List.getElem?_eq_getElem (by omega)] at this
            rw [List.getElem?_eq_getElem hj, List.getElem?_eq_getElem (by omega)]
            exact congrArg some this
          · rw [List.getElem?_eq_none (by omega), List.getElem?_eq_none (by omega)]
        have := decEqZ x y
        rw [hs, decide_eq_true e] at this
        rw [← this]; rfl
theorem pc_l_fine (l : List (Bool × List Nat)) (n : Nat) (hn : l.length = n) (m : Nat) : PC C n_law02_fine [.sl n (cellsI l), .int .i64 (m : Int)] (fun o => o = .ret (.bool (l.all fun d => decide (d.2.length ≤ m) && okI d))) := by
  refine PC.run fn_law02_fine en_law02_fine rfl nt_law02_fine rfl (rs := [.tmp 4]) (by rw [rs_law02_fine]) (by simp only [List.length_cons, List.length_nil, Nat.reduceAdd, Nat.reduceSub, List.replicate_succ, List.replicate_zero, List.cons_append, List.nil_append]; exact rfl) ?_
  refine ARun.lenle 0 rfl (fun hlen => ?_)
  rw [maxLen_eq] at hlen
  refine ARun.seq ?_
  refine ARun.region ?_
  refine y_op rfl (q_assign rfl) ?_
  refine AOps.nil ?_
  refine ARun.seq ?_
  refine ARun.seq ?_
  refine ARun.region ?_
  refine y_op rfl (q_assign rfl) ?_
  refine AOps.nil ?_
  refine ARun.block ?_
  refine ARun.loopI (S := Nat) (fun i : Nat => [(4, .any), (6, .any), (7, .any), (8, .any), (9, .any), (10, .any), (11, .any), (12, .any), (13, .any), (14, .any), (15, .any), (16, .any), (17, .any), (18, .any), (19, .any), (20, .any), (21, .any), (22, .any), (23, .any), (24, .any), (25, .any), (26, .any), (27, .any), (5, .int .i64 (i : Int))]) (fun i : Nat => []) (fun i : Nat => i ≤ n ∧ (l.all fun d => decide (d.2.length ≤ m) && okI d) = ((l.drop i).all fun d => decide (d.2.length ≤ m) && okI d)) (fun i : Nat => n - i) (0) ?_ ?_ ?_ ?_
  · exact ⟨Nat.zero_le _, rfl⟩
  · (repeat' first | exact envLe_nil | apply envLe_any | apply envLe_same)
  · rfl
  rintro i hinv ih
  obtain ⟨hi, he⟩ := hinv
  refine ARun.seq ?_
  refine ARun.seq ?_
  refine ARun.region ?_
  refine y_op rfl (q_move rfl) ?_
  refine y_op rfl (q_move rfl) ?_
  refine y_op rfl (q_lenSl rfl rfl) ?_
  refine y_op rfl (q_int rfl rfl rfl) ?_
  refine AOps.nil ?_
  refine ARun.ite rfl (fun h => ?_) (fun h => ?_)
  · skip
    have hlt : i < l.length := by omega
    have hdr : l.drop i = l[i] :: l.drop (i + 1) := List.drop_eq_getElem_cons hlt
    have hcd := cellsI_drop l i
    rw [hdr] at hcd
    rw [hdr, List.all_cons] at he
    have hne : cellsI l ≠ [] := fun e => by have := cellsI_len l; rw [e] at this; simp at this; omega
    refine ARun.skip ?_
    refine ARun.seq ?_
    refine ARun.block ?_
    refine ARun.seq ?_
    refine ARun.region ?_
    refine y_op rfl (q_move rfl) ?_
    refine y_op rfl (q_move rfl) ?_
    refine y_op rfl (q_idxSl rfl rfl rfl rfl (by omega) (by omega) hne hcd) ?_
    refine y_op rfl (q_fldS rfl rfl rfl (by decide)) ?_
    refine y_op rfl (q_load rfl rfl rfl rfl) ?_
    refine y_op rfl (q_lenSl rfl rfl) ?_
    refine y_op rfl (q_move rfl) ?_
    refine y_op rfl (q_int rfl rfl rfl) ?_
    refine y_op rfl (q_move rfl) ?_
    refine AOps.bool 20 rfl (fun h2 => ?_) (fun h2 => ?_)
    · skip
      have h2 : ¬ l[i].2.length ≤ m := by have := of_decide_eq_true h2; omega
      refine y_skip rfl ?_
      refine y_skip rfl ?_
      refine y_skip rfl ?_
      refine y_skip rfl ?_
      refine y_skip rfl ?_
      refine y_skip rfl ?_
      refine y_op rfl (q_pick rfl rfl rfl rfl) ?_
      refine AOps.nil ?_
      refine ARun.condT rfl ?_
      refine ARun.seq ?_
      refine ARun.region ?_
      refine y_op rfl (q_assign rfl) ?_
      refine AOps.nil ?_
      refine ARun.ret ?_
      refine ⟨_, _, _, .tmp rfl .nil, .cons (.same _) .nil, rfl, ?_⟩
      rw [he, decide_eq_false h2]; rfl
    · skip
      have h2 : l[i].2.length ≤ m := by have := of_decide_eq_false h2; omega
      refine y_op rfl (q_move rfl) ?_
      refine y_op rfl (q_move rfl) ?_
      refine y_op rfl (q_idxSl rfl rfl rfl rfl (by omega) (by omega) hne hcd) ?_
      refine y_op rfl (q_loadAgg (ds := [.bool l[i].1, sln .u32 l[i].2]) rfl rfl rfl rfl rfl) ?_
      refine y_op rfl (q_call rfl rfl (pc_w_Valid l[i])) ?_
      refine y_op rfl (q_not rfl) ?_
      refine y_op rfl (q_pick rfl rfl rfl rfl) ?_
      refine AOps.nil ?_
      refine ARun.cond rfl (fun h3 => ?_) (fun h3 => ?_)
      · skip
        have h3 : okI l[i] = false := by simpa using h3
        refine ARun.seq ?_
        refine ARun.region ?_
        refine y_op rfl (q_assign rfl) ?_
        refine AOps.nil ?_
        refine ARun.ret ?_
        refine ⟨_, _, _, .tmp rfl .nil, .cons (.same _) .nil, rfl, ?_⟩
        rw [he, h3, Bool.and_false]; rfl
      · skip
        have h3 : okI l[i] = true := by simpa using h3
        refine ARun.skip ?_
        refine ARun.inBlock ?_
        refine ARun.region ?_
        refine y_op rfl (q_move rfl) ?_
        refine y_op rfl (q_add rfl rfl (nadd1_i64 (by omega))) ?_
        refine y_op rfl (q_assign rfl) ?_
        refine AOps.nil ?_
        refine ARun.again (ih ((i + 1)) ?_ ?_) ?_ ?_
        · exact ⟨by omega, by rw [he, h3, decide_eq_true h2]; rfl⟩
        · omega
        · (repeat' first | exact envLe_nil | apply envLe_any | apply envLe_same)
        · rfl
  · skip
    refine ARun.exit rfl ?_
    refine ARun.seq ?_
    refine ARun.region ?_
    refine y_op rfl (q_assign rfl) ?_
    refine AOps.nil ?_
    refine ARun.ret ?_
    refine ⟨_, _, _, .tmp rfl .nil, .cons (.same _) .nil, rfl, ?_⟩
    rw [he, List.drop_of_length_le (by omega)]; rfl
theorem pc_l_mul (x y : Int) (hx : fitZ x) (hy : fitZ y) (h : fitZ (x * y)) : PC C n_law02_mul [intD x, intD y] (fun o => o = .ret (intD (x * y))) := by
  refine PC.run fn_law02_mul en_law02_mul rfl nt_law02_mul rfl (rs := [.cell 4 25]) (by rw [rs_law02_mul]) (by simp only [List.length_cons, List.length_nil, Nat.reduceAdd, Nat.reduceSub, List.replicate_succ, List.replicate_zero, List.cons_append, List.nil_append]; exact rfl) ?_
  refine ARun.seq ?_
  refine ARun.region ?_
  refine y_op rfl (q_boxF rfl rfl rfl rfl) ?_
  refine y_op rfl (q_boxF rfl rfl rfl rfl) ?_
  refine y_new rfl (n_alloc rfl rfl rfl rfl) ?_
  refine AOps.nil ?_
  refine ARun.seq ?_
  refine ARun.region ?_
  refine y_op rfl (q_loadAgg rfl rfl rfl rfl rfl) ?_
  refine y_op rfl (q_loadAgg rfl rfl rfl rfl rfl) ?_
  refine y_op rfl (q_call rfl rfl (pc_w_Mul (decide (x < 0), lim x.natAbs) (decide (y < 0), lim y.natAbs) (U32_lim _) (U32_lim _))) ?_
  refine y_op rfl (q_move rfl) ?_
  refine y_op rfl (q_extract rfl rfl) ?_
  refine y_op rfl (q_extract rfl rfl) ?_
  refine y_new rfl (n_alloc rfl rfl rfl rfl) ?_
  refine y_new rfl (n_storeN rfl rfl rfl rfl rfl rfl rfl rfl (Nat.le_of_ble_eq_true rfl) rfl) ?_
  refine y_op rfl (q_assign rfl) ?_
  refine AOps.nil ?_
  refine ARun.seq ?_
  refine ARun.region ?_
  refine y_op rfl (q_loadAggP rfl rfl rfl rfl rfl rfl) ?_
  refine y_new rfl (n_storeN rfl rfl rfl rfl rfl rfl rfl rfl (Nat.le_of_ble_eq_true rfl) rfl) ?_
  refine AOps.nil ?_
  refine ARun.ret ?_
  refine ⟨_, _, _, ResR.cellA rfl rfl rfl rfl rfl rfl .nil, .cons (.same _) .nil, rfl, ?_⟩
  rw [okI_of2 hx hy, valI_int, valI_int, fitO_t h]; rfl
end Go.V
set_option maxHeartbeats 8000000
set_option maxRecDepth 100000
set_option synthInstance.maxSize 100000
set_option synthInstance.maxHeartbeats 2000000
namespace Go.V
open Go.RowKit Go.Proofs
abbrev lnZ (z : Int) : Nat := (lim z.natAbs).length
theorem lnZ_fit {x : Int} {m : Nat} (hx : lnZ x ≤ m) (h : m ≤ 1024 := by decide) : fitZ x := Nat.le_trans hx h
theorem lnZ_1 : lnZ 1 ≤ 1 := by unfold lnZ; rw [show (1 : Int).natAbs = 1 from rfl, lim_one]; decide
theorem pc_l_equalT (x y : Int) (hx : fitZ x) (h : x = y) : PC C n_law02_equal [intD x, intD y] (fun o => o = .ret (.bool true)) :=
  (pc_l_equal x y (by unfold fitZ at hx; omega)).mono fun o ho => by rw [ho, decide_eq_true h]
theorem not_false_true {b : Bool} (h : (!b) = false) : b = true := by cases b; cases h; rfl
/-- Integers that 'fine' lets by. -/
theorem fine_int {d : Bool × List Nat} {m : Nat} (hu : U32 d.2) (h1 : d.2.length ≤ m) (h2 : okI d = true) : ∃ z, d = (decide (z < 0), lim z.natAbs) ∧ lnZ z ≤ m := by
  obtain ⟨z, rfl, _⟩ := okI_int hu h2
  exact ⟨z, rfl, h1⟩
end Go.V
set_option maxHeartbeats 4000000
set_option maxRecDepth 100000
set_option synthInstance.maxSize 100000
set_option synthInstance.maxHeartbeats 2000000
namespace Go.V
open Go.RowKit Go.Proofs
theorem len_pos_iff {z : Int} : decide (((lim z.natAbs).length : Int) > 0) = decide (z ≠ 0) := by
  have := @ln_pos z.natAbs
  exact decide_eq_decide.2 ⟨fun h e => (by subst e; rw [show (0 : Int).natAbs = 0 from rfl, lim_zero] at h; cases h), fun h => (by have := this.2 (by omega); omega)⟩
end Go.V
/- THE FOUR WAYS OF DIVISION: what quotients and rests satisfy: plain Lean. -/
namespace Go.V
structure DvF (k a b q r : Int) : Prop where
  e : q * b + r = a
  lt : r.natAbs < b.natAbs
  f1 : k = 1 → r ≠ 0 → decide (r < 0) = decide (a < 0)
  f2 : k = 2 → r ≠ 0 → decide (r < 0) = decide (b < 0)
  f3 : k = 3 → ¬ r < 0
  f4 : k = 4 → 2 * r.natAbs < b.natAbs ∨ (2 * r.natAbs = b.natAbs ∧ q.natAbs % 2 = 0)
  lq : q.natAbs ≤ a.natAbs + 1
end Go.V
set_option maxHeartbeats 8000000
set_option maxRecDepth 100000
set_option synthInstance.maxSize 100000
set_option synthInstance.maxHeartbeats 2000000
namespace Go.V
open Go.RowKit Go.Proofs
theorem len_zero_iff {z : Int} : (((lim z.natAbs).length : Int) == 0) = decide (z = 0) := by
  rw [Bool.eq_iff_iff, beq_iff_eq, decide_eq_true_iff]
  have := @ln_pos z.natAbs
  constructor
  · intro h
    apply Classical.byContradiction
    intro hn
    have := this.2 (by omega)
    omega
  · rintro rfl; rw [show (0 : Int).natAbs = 0 from rfl, lim_zero]; rfl
end Go.V
set_option maxHeartbeats 8000000
set_option maxRecDepth 100000
set_option synthInstance.maxSize 100000
set_option synthInstance.maxHeartbeats 2000000
namespace Go.V
open Go.RowKit Go.Proofs
theorem w_DivW {a b k : Int} (fa : fitZ a) (fb : fitZ b) (h0 : b ≠ 0) (h1 : 1 ≤ k) (h4 : k ≤ 4) : PC C n_whole_Div [intD a, intD b, .int .i64 k] (fun o => o = .ret (.tup [intD (divW (awayZ k (a.tdiv b) (a.tmod b) a b) a b).1, intD (divW (awayZ k (a.tdiv b) (a.tmod b) a b) a b).2, .int .i64 0])) :=
  (pc_w_Div (decide (a < 0), lim a.natAbs) (decide (b < 0), lim b.natAbs) (U32_lim _) (U32_lim _) k).mono fun o ho => by
    rw [ho, valI_int, valI_int, okI_of2 fa fb]
    unfold divR
    rw [cond_true, if_neg (fun e => by rcases kindF_none.1 e with h | h <;> omega), if_neg h0]
theorem w_Div3 {a b : Int} (fa : fitZ a) (fb : fitZ b) (h0 : 0 < b) : ∃ q, PC C n_whole_Div [intD a, intD b, .int .i64 3] (fun o => o = .ret (.tup [intD q, intD (a % b), .int .i64 0])) := by
  have h := w_DivW fa fb (show b ≠ 0 by omega) (k := 3) (by decide) (by decide)
  rw [divW_euclid h0] at h
  exact ⟨_, h⟩
end Go.V
set_option maxHeartbeats 4000000
set_option maxRecDepth 100000
set_option synthInstance.maxSize 100000
set_option synthInstance.maxHeartbeats 2000000
namespace Go.V
open Go.RowKit Go.Proofs
theorem numD_zero : numD 0 = .sl 0 [] := by rw [numD, lim_zero]; rfl
end Go.V
/- m[k] of a map that is written no longer. -/
namespace Go.V
open Go.RowKit
section
variable {C : Ctx} {env : List D} {H H' : Heap} {dst : Option Tmp} {ty : TypeId} {pos : String} {aft : Array Edge} {gd : Option (Nat × Bool)} {x y z : Operand} {d : D} {T kt et : TypeId} {te : TE}
theorem q_lookupW {k : IntKind} {n : Int} {ks us : List D} {r : Option D} {dz : D} (hm : C.P.underlying T = some (.map kt et)) (hk : C.P.underlying kt = some (.int k)) (hte : C.ty et = some te) (hdz : constD te.zero = some dz) (hx : evO C env x = some (.mapv ks us)) (hy : evO C env y = some (.int k n)) (hl : ks.length = us.length) (hf : findI k n (ks.zip us) = some r) :
    OpQ C ⟨dst, .lookup T x y false, ty, pos, aft, gd⟩ env H (r.getD dz) :=
  OpQ.of_runS fun L0 w μ a hs he => by
    have ex := he _ _ hx
    have ey := he _ _ hy
    simp only [VR] at ex ey
    obtain ⟨b, ea, clock, ex, _, _, k1, k2, k3⟩ := ex
    have hfn := findNow_ok 0 hf (by rw [List.map_fst_zip (by omega)]; exact k2) (by rw [List.map_snd_zip (by omega)]; exact k3)
    have hg : (getObj b).run C.P w = .ok (.map ea clock) w := by simp [getObj, Sem.run, k1]
    cases r with
    | none =>
      simp only at hfn
      refine ⟨te.zero, ?_, constD_ok hdz⟩
      simp only [execOp, ex, ey, Instr.lookup, Sem.run_bind, run_underlying hm, Result.andThen_ok, hg, Sem.run_pure, run_checkKey_int hk, run_findKeyV hk hfn, (ty_tic hte).1.run_zero, Bool.false_eq_true, if_false]
    | some d =>
      simp only at hfn
      obtain ⟨j, v, hfn, hvd⟩ := hfn
      refine ⟨v, ?_, VR.lift hvd⟩
      simp only [execOp, ex, ey, Instr.lookup, Sem.run_bind, run_underlying hm, Result.andThen_ok, hg, Sem.run_pure, run_checkKey_int hk, run_findKeyV hk hfn, Bool.false_eq_true, if_false]
end
end Go.V
set_option maxHeartbeats 4000000
set_option maxRecDepth 100000
set_option synthInstance.maxSize 100000
set_option synthInstance.maxHeartbeats 2000000
namespace Go.V
open Go.RowKit Go.Proofs
theorem w_div3 {a m : Int} (ha : fitZ a) (hm : fitZ m) (h0 : 0 < m) : ∃ q, PC C n_whole_divide [intD a, intD m, .agg [.clos n_whole_kinds_3 []]] (fun o => o = .ret (.tup [intD q, intD (a % m)])) := by
  have h := pc_w_divide a m ha hm (by omega) n_whole_kinds_3 _ (fun _ => pc_w_k3 (a.tdiv m) (a.tmod m) a m)
  rw [divW_euclid h0] at h
  exact ⟨_, h⟩
theorem natSub_ok {a b : Nat} (ha : (lim a).length ≤ 1024) (hb : (lim b).length ≤ 1024) (h : b ≤ a) : PC C n_nat_Sub [numD a, numD b] (fun o => o = .ret (.tup [numD (a - b), .int .i64 0])) :=
  (pc_nat_Sub (lim a) (lim b) (U32_lim _) (U32_lim _)).mono fun o ho => by
    have : (lim (a - b)).length ≤ 1024 := Nat.le_trans (ln_mono (Nat.sub_le _ _)) ha
    rw [ho, resN_ok ha hb, val_lim, val_lim, if_pos h]
    simp only [if_pos this]
theorem natAdd_ok {a b : Nat} (ha : (lim a).length ≤ 1024) (hb : (lim b).length ≤ 1024) (h : (lim (a + b)).length ≤ 1024) : PC C n_nat_Add [numD a, numD b] (fun o => o = .ret (.tup [numD (a + b), .int .i64 0])) :=
  (pc_nat_Add (lim a) (lim b) (U32_lim _) (U32_lim _)).mono fun o ho => by
    rw [ho, resN_ok ha hb, val_lim, val_lim]
    simp only [if_pos h]
end Go.V
