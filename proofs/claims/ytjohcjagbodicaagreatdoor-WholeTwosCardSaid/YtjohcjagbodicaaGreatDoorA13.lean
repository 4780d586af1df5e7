/- A part of the proof: abstract values, rules for the steps of the program's form, and contracts of its functions, each proved; no condition. -/
import Derived.Test.YtjohcjagbodicaaGreatDoorA12
set_option linter.unusedVariables false
set_option linter.unusedSimpArgs false
set_option maxHeartbeats 2000000
set_option synthInstance.maxSize 100000
set_option synthInstance.maxHeartbeats 2000000
namespace Go.V
open Go.RowKit Go.Proofs
theorem nts_snoc {k : IntKind} {xs : List Nat} {x : Nat} : nts k xs ++ [.int k (x : Int)] = nts k (xs ++ [x]) := by simp [nts]
theorem nts_length {k : IntKind} {xs : List Nat} : (nts k xs).length = xs.length := by simp [nts]
theorem sln_len {k : IntKind} {xs : List Nat} : D.sl (nts k xs).length (nts k xs) = sln k xs := by rw [nts_length]
theorem Zna (xs : List Nat) (hx : U32 xs) (i : Nat) : PC C ZkS [sln .u32 xs, .int .i64 (i : Int)] (fun o => o = .ret (.int .u64 ((xs.getD i 0 : Nat) : Int))) := by
  refine PC.run ZjJ Zl2 rfl Zl3 rfl (rs := [.tmp 4]) (by rw [Zl4]) (by simp only [List.length_cons, List.length_nil, Nat.reduceAdd, Nat.reduceSub, List.replicate_succ, List.replicate_zero, List.cons_append, List.nil_append]; exact rfl) ?_
  have hd := hx.get i
  refine ARun.seq (ARun.region ?_)
  refine y_op rfl (Zaa rfl) ?_
  refine AOps.nil (ARun.seq (ARun.seq (ARun.region ?_)))
  refine y_op rfl (q_move rfl) ?_
  refine y_op rfl (q_move rfl) ?_
  refine y_op rfl (Zaf rfl rfl) ?_
  refine y_op rfl (q_int rfl rfl rfl) ?_
  refine AOps.nil ?_
  refine ARun.ite rfl (fun h => ?_) (fun h => ?_)
  · skip
    refine ARun.seq (ARun.region ?_)
    refine y_op rfl (Zaa rfl) ?_
    refine AOps.nil ?_
    refine ARun.ret ?_
    refine ⟨_, _, _, .tmp rfl .nil, .cons (.same _) .nil, rfl, ?_⟩
    rw [getD_ge (by omega)]
    rfl
  · skip
    refine ARun.skip (ARun.seq (ARun.region ?_))
    refine y_op rfl (q_move rfl) ?_
    refine y_op rfl (q_move rfl) ?_
    refine y_op rfl (Zak (i := i) rfl rfl rfl rfl (by omega) (by omega) (nts_ne (by omega)) (drop_nat rfl)) ?_
    refine y_op rfl (q_load rfl rfl rfl (nts_load (i := i) (by omega))) ?_
    refine y_op rfl (q_conv rfl rfl rfl (nconv_u64 (by omega))) ?_
    refine y_op rfl (Zaa rfl) ?_
    refine AOps.nil ?_
    refine ARun.ret ?_
    refine ⟨_, _, _, .tmp rfl .nil, .cons (.same _) .nil, rfl, ?_⟩
    rfl
theorem ZkY (a i : Nat) : PC C ZkS [numD a, .int .i64 (i : Int)] (fun o => o = .ret (.int .u64 ((dig a i : Nat) : Int))) :=
  (Zna (lim a) (U32_lim a) i).mono fun o ho => by rw [ho, lim_get]
theorem Zel (xs : List Nat) (hx : U32 xs) (hl : xs.length ≤ 35184372088832) : PC C Zh0 [sln .u32 xs] (fun o => o = .ret (numD (val xs))) := by
  refine PC.run ZgH Zkz rfl ZkA rfl (rs := [.tmp 2]) (by rw [ZkB]) (by simp only [List.length_cons, List.length_nil, Nat.reduceAdd, Nat.reduceSub, List.replicate_succ, List.replicate_zero, List.cons_append, List.nil_append]; exact rfl) ?_
  refine ARun.seq (ARun.region ?_)
  refine y_op rfl (Zaa rfl) ?_
  refine AOps.nil (ARun.seq (ARun.region ?_))
  refine y_op rfl (q_move rfl) ?_
  refine y_op rfl (Zaf rfl rfl) ?_
  refine y_op rfl (Zaa rfl) ?_
  refine AOps.nil (ARun.seq (ARun.block ?_))
  refine ARun.loopI (S := Nat) (fun n : Nat => [(6, .any), (7, .any), (8, .any), (9, .any), (10, .any), (11, .any), (12, .any), (13, .any), (14, .any), (15, .any), (16, .any), (17, .any), (3, .int .i64 (n : Int))]) (fun n : Nat => []) (fun n : Nat => n ≤ xs.length ∧ val (xs.take n) = val xs) (fun n : Nat => n) (xs.length) ?_ ?_ ?_ ?_
  · exact ⟨Nat.le_refl _, by rw [List.take_length]⟩
  · (repeat' first | exact envLe_nil | apply envLe_any | apply envLe_same)
  · rfl
  rintro n hinv ih
  obtain ⟨hn, hv⟩ := hinv
  refine ARun.seq (ARun.seq (ARun.region ?_))
  refine y_op rfl (q_move rfl) ?_
  refine y_op rfl (q_int rfl rfl rfl) ?_
  refine y_op rfl (q_move rfl) ?_
  refine AOps.bool 8 rfl (fun h => ?_) (fun h => ?_)
  · skip
    replace h := of_decide_eq_true h
    obtain ⟨m, rfl⟩ : ∃ m, n = m + 1 := ⟨n - 1, by omega⟩
    refine y_op rfl (q_move rfl) ?_
    refine y_op rfl (q_move rfl) ?_
    refine y_op rfl (q_sub rfl rfl (nsub1_i64 (by omega) (by omega))) ?_
    refine y_op rfl (Zak (i := m) rfl rfl rfl rfl (by omega) (by omega) (nts_ne (by omega)) (drop_nat rfl)) ?_
    refine y_op rfl (q_load rfl rfl rfl (nts_load (i := m) (by omega))) ?_
    refine y_op rfl (q_int rfl rfl rfl) ?_
    refine y_op rfl (q_pick rfl rfl rfl rfl) ?_
    refine AOps.nil ?_
    refine ARun.ite rfl (fun h2 => ?_) (fun h2 => ?_)
    · skip
      refine ARun.skip (ARun.block (ARun.region ?_))
      refine y_op rfl (q_move rfl) ?_
      refine y_op rfl (q_sub rfl rfl (nsub1_i64 (by omega) (by omega))) ?_
      refine y_op rfl (Zaa rfl) ?_
      refine AOps.nil (ARun.inBlock ?_)
      refine ARun.again (ih (m) ?_ ?_) ?_ ?_
      · exact ⟨by omega, by rw [← hv, List.take_add_one, val_append, show xs[m]? = some 0 by rw [List.getElem?_eq_getElem (by omega)]; have : xs.getD m 0 = 0 := (by omega); rw [List.getD_eq_getElem?_getD, List.getElem?_eq_getElem (by omega)] at this; exact congrArg some this]; simp [val]⟩
      · exact Nat.lt_succ_self _
      · (repeat' first | exact envLe_nil | apply envLe_any | apply envLe_same)
      · rfl
    · skip
      refine ARun.exit rfl ?_
      refine ARun.seq (ARun.region ?_)
      refine y_new rfl (Zam rfl rfl rfl rfl rfl rfl rfl rfl rfl rfl rfl (by decide) (by decide)) ?_
      refine y_op rfl (q_move rfl) ?_
      refine y_op rfl (q_move rfl) ?_
      refine y_op rfl (ZeN (m := (xs.take (m + 1)).length) (ds := nts .u32 (xs.take (m + 1))) rfl rfl rfl rfl rfl (bnd_nat rfl rfl) (by omega) (by omega) (by simp) (by simp; omega) (by rw [nts_slice]; simp)) ?_
      refine y_new rfl (Zge rfl rfl (by decide) rfl rfl rfl rfl rfl rfl rfl rfl rfl rfl (by simp) (by simp; omega) (by rw [maxLen_eq]; simp; omega) rfl) ?_
      refine y_op rfl (Zaa rfl) ?_
      refine AOps.nil ?_
      have hc : Canon (xs.take (m + 1)) := .inr (by rw [List.length_take, Nat.min_eq_left (by omega), Nat.add_sub_cancel, List.getD_eq_getElem?_getD, List.getElem?_take, if_pos (by omega), ← List.getD_eq_getElem?_getD]; omega)
      refine ARun.ret ?_
      refine ⟨_, _, _, .tmp rfl .nil, .cons (.row rfl (pures_nts _)) .nil, rfl, ?_⟩
      rw [← hv, numD, lim_val (hx.take _) hc]
      show Out.ret (D.sl (0 + _) _) = _
      rw [Nat.zero_add]
      rfl
  · skip
    replace h := of_decide_eq_false h
    have hn0 : n = 0 := by omega
    subst hn0
    refine y_skip rfl ?_
    refine y_skip rfl ?_
    refine y_skip rfl ?_
    refine y_skip rfl ?_
    refine y_skip rfl ?_
    refine y_skip rfl ?_
    refine y_op rfl (q_pick rfl rfl rfl rfl) ?_
    refine AOps.nil ?_
    refine ARun.condF rfl ?_
    refine ARun.exit rfl ?_
    refine ARun.seq (ARun.region ?_)
    refine y_new rfl (Zam rfl rfl rfl rfl rfl rfl rfl rfl rfl rfl rfl (by decide) (by decide)) ?_
    refine y_op rfl (q_move rfl) ?_
    refine y_op rfl (q_move rfl) ?_
    refine y_op rfl (ZeN (m := 0) (ds := nts .u32 []) rfl rfl rfl rfl rfl (bnd_int rfl (by omega)) (by omega) (by omega) (by simp) (by simp) (by rw [nts_slice]; simp)) ?_
    refine y_new rfl (Zge rfl rfl (by decide) rfl rfl rfl rfl rfl rfl rfl rfl rfl rfl (by simp) (by simp) (by rw [maxLen_eq]; simp) rfl) ?_
    refine y_op rfl (Zaa rfl) ?_
    refine AOps.nil ?_
    refine ARun.ret ?_
    refine ⟨_, _, _, .tmp rfl .nil, .cons (.row rfl (pures_nts _)) .nil, rfl, ?_⟩
    rw [← hv, List.take_zero, numD, val, lim_zero]
    rfl
theorem ZlF {xs : List Nat} {n : Nat} (hx : U32 xs) (hn : xs.length = n) (hl : n ≤ 35184372088832) : PC C Zh0 [.sl n (nts .u32 xs)] (fun o => o = .ret (numD (val xs))) := by
  subst hn; exact Zel xs hx hl
theorem Zml (n : Nat) (hn : n < 18446744073709551616) : PC C ZmC [.int .u64 (n : Int)] (fun o => o = .ret (numD n)) := by
  refine PC.run ZjE ZlT rfl ZlU rfl (rs := [.tmp 2]) (by rw [ZlV]) (by simp only [List.length_cons, List.length_nil, Nat.reduceAdd, Nat.reduceSub, List.replicate_succ, List.replicate_zero, List.cons_append, List.nil_append]; exact rfl) ?_
  have hu : U32 [n % 4294967296, n / 4294967296 % 4294967296] := U32.cons (Nat.mod_lt _ (by decide)) (U32.cons (Nat.mod_lt _ (by decide)) U32.nil)
  have hv : val [n % 4294967296, n / 4294967296 % 4294967296] = n := by
    simp only [val, B_eq]; omega
  refine ARun.seq (ARun.region ?_)
  refine y_op rfl (Zaa rfl) ?_
  refine AOps.nil (ARun.seq (ARun.region ?_))
  refine y_op rfl (q_move rfl) ?_
  refine y_op rfl (q_conv rfl rfl rfl nconv_u32) ?_
  refine y_op rfl (q_move rfl) ?_
  refine y_op rfl (q_shr rfl rfl (by omega) nshr32) ?_
  refine y_op rfl (q_conv rfl rfl rfl nconv_u32) ?_
  refine y_new rfl (Zam rfl rfl rfl rfl rfl rfl rfl rfl rfl rfl rfl (by decide) (by decide)) ?_
  refine y_new rfl (n_call rfl rfl (.cons (.row rfl rfl) .nil) (ZlF (xs := [n % 4294967296, n / 4294967296 % 4294967296]) hu rfl (by decide)) rfl) ?_
  refine y_op rfl (Zaa rfl) ?_
  refine AOps.nil ?_
  refine ARun.ret ?_
  refine ⟨_, _, _, .tmp rfl .nil, .cons (.same _) .nil, rfl, ?_⟩
  rw [hv]
  rfl
theorem Zmm (xs ys : List Nat) : PC C Zk5 [sln .u32 xs, sln .u32 ys] (fun o => o = .ret (.bool (decide (xs = ys)))) := by
  refine PC.run Zgp Zku rfl Zkv rfl (rs := [.tmp 4]) (by rw [Zkw]) (by simp only [List.length_cons, List.length_nil, Nat.reduceAdd, Nat.reduceSub, List.replicate_succ, List.replicate_zero, List.cons_append, List.nil_append]; exact rfl) ?_
  refine ARun.lenle 0 rfl (fun hlen => ?_)
  rw [maxLen_eq] at hlen
  refine ARun.seq (ARun.region ?_)
  refine y_op rfl (Zaa rfl) ?_
  refine AOps.nil (ARun.seq (ARun.seq (ARun.region ?_)))
  refine y_op rfl (q_move rfl) ?_
  refine y_op rfl (Zaf rfl rfl) ?_
  refine y_op rfl (q_move rfl) ?_
  refine y_op rfl (Zaf rfl rfl) ?_
  refine y_op rfl (q_int rfl rfl rfl) ?_
  refine AOps.nil ?_
  refine ARun.cond rfl (fun h => ?_) (fun h => ?_)
  · skip
    have hne : xs.length ≠ ys.length := by intro e; rw [e] at h; simp at h
    refine ARun.seq (ARun.region ?_)
    refine y_op rfl (Zaa rfl) ?_
    refine AOps.nil ?_
    refine ARun.ret ?_
    refine ⟨_, _, _, .tmp rfl .nil, .cons (.same _) .nil, rfl, ?_⟩
    rw [decide_eq_false (fun e => hne (by rw [e]))]
    rfl
  · skip
    have hl : xs.length = ys.length := by have h : (xs.length : Int) = ys.length := by simpa using h
                                          omega
    refine ARun.skip (ARun.seq (ARun.seq (ARun.region ?_)))
    refine y_op rfl (Zaa rfl) ?_
    refine AOps.nil (ARun.block ?_)
    refine ARun.loopI (S := Nat) (fun i : Nat => [(4, .any), (11, .any), (12, .any), (13, .any), (14, .any), (15, .any), (16, .any), (17, .any), (18, .any), (19, .any), (20, .any), (21, .any), (22, .any), (23, .any), (24, .any), (25, .any), (5, .int .i64 (i : Int))]) (fun i : Nat => []) (fun i : Nat => i ≤ xs.length ∧ ∀ j, j < i → xs.getD j 0 = ys.getD j 0) (fun i : Nat => xs.length - i) (0) ?_ ?_ ?_ ?_
    · exact ⟨Nat.zero_le _, fun j h => absurd h (Nat.not_lt_zero _)⟩
    · (repeat' first | exact envLe_nil | apply envLe_any | apply envLe_same)
    · rfl
    rintro i hinv ih
    obtain ⟨hi, hs⟩ := hinv
    refine ARun.seq (ARun.seq (ARun.region ?_))
    refine y_op rfl (q_move rfl) ?_
    refine y_op rfl (q_move rfl) ?_
    refine y_op rfl (Zaf rfl rfl) ?_
    refine y_op rfl (q_int rfl rfl rfl) ?_
    refine AOps.nil ?_
    refine ARun.ite rfl (fun h2 => ?_) (fun h2 => ?_)
    · skip
      refine ARun.skip (ARun.seq (ARun.block (ARun.seq ?_)))
      refine ARun.drawnP 9 (fun _ => False) mixC rfl rfl (by kernel_rfl) (fun _ _ h => h.elim) ?_
      refine .op rfl (q_move rfl) ?_
      refine .op rfl (q_move rfl) ?_
      refine .op rfl (Zak (i := i) rfl rfl rfl rfl (by omega) (by omega) (nts_ne (by omega)) (drop_nat rfl)) ?_
      refine .op rfl (q_load rfl rfl rfl (nts_load (i := i) (by omega))) ?_
      refine .op rfl (q_move rfl) ?_
      refine .op rfl (q_move rfl) ?_
      refine .op rfl (Zak (i := i) rfl rfl rfl rfl (by omega) (by omega) (nts_ne (by omega)) (drop_nat rfl)) ?_
      refine .op rfl (q_load rfl rfl rfl (nts_load (i := i) (by omega))) ?_
      refine .op rfl (q_int rfl rfl rfl) ?_
      refine .nil (fun hG => ?_)
      refine AOps.nil ?_
      refine ARun.cond rfl (fun h3 => ?_) (fun h3 => ?_)
      · skip
        refine ARun.seq (ARun.region ?_)
        refine y_op rfl (Zaa rfl) ?_
        refine AOps.nil ?_
        refine ARun.ret ?_
        refine ⟨_, _, _, .tmp rfl .nil, .cons (.same _) .nil, rfl, ?_⟩
        rw [decide_eq_false (fun e => by rw [e] at h3; simp at h3)]
        rfl
      · skip
        have h3 : xs.getD i 0 = ys.getD i 0 := by
          have : ((xs.getD i 0 : Nat) : Int) = ((ys.getD i 0 : Nat) : Int) := by simpa using h3
          omega
        refine ARun.skip (ARun.inBlock (ARun.region ?_))
        refine y_op rfl (q_move rfl) ?_
        refine y_op rfl (q_add rfl rfl (nadd1_i64 (by omega))) ?_
        refine y_op rfl (Zaa rfl) ?_
        refine AOps.nil ?_
        refine ARun.again (ih ((i + 1)) ?_ ?_) ?_ ?_
        · exact ⟨by omega, fun j hj => by rcases Nat.lt_succ_iff_lt_or_eq.1 hj with h | rfl; exact hs j h; exact h3⟩
        · omega
        · (repeat' first | exact envLe_nil | apply envLe_any | apply envLe_same)
        · rfl
    · skip
      have hie : i = xs.length := by omega
      refine ARun.exit rfl ?_
      refine ARun.seq (ARun.region ?_)
      refine y_op rfl (Zaa rfl) ?_
      refine AOps.nil ?_
      refine ARun.ret ?_
      refine ⟨_, _, _, .tmp rfl .nil, .cons (.same _) .nil, rfl, ?_⟩
      have : xs = ys := by
        apply List.ext_getElem?
        intro j
        by_cases hj : j < xs.length
        · have := hs j (by omega)
          rw [List.getD_eq_getElem?_getD, List.getD_eq_getElem?_getD, List.getElem?_eq_getElem hj, List.getElem?_eq_getElem (by omega)] at this
          rw [List.getElem?_eq_getElem hj, List.getElem?_eq_getElem (by omega)]
          exact congrArg some this
        · rw [List.getElem?_eq_none (by omega), List.getElem?_eq_none (by omega)]
      rw [decide_eq_true this]
      rfl
end Go.V
set_option maxHeartbeats 2000000
set_option synthInstance.maxSize 100000
set_option synthInstance.maxHeartbeats 2000000
namespace Go.V
open Go.RowKit Go.Proofs
theorem U32.snoc {xs : List Nat} {x : Nat} (h : U32 xs) (hx : x < 4294967296) : U32 (xs ++ [x]) := fun y hy => by
  rcases List.mem_append.1 hy with h1 | h1
  · exact h y h1
  · rw [List.mem_singleton.1 h1]; exact hx
theorem addA_step {a b i c : Nat} {ys : List Nat} (hu : U32 ys) (hl : ys.length = i) (hc : c ≤ 1) (hv : val ys + B ^ i * c = a % B ^ i + b % B ^ i) :
    U32 (ys ++ [(dig a i + dig b i + c) % 4294967296]) ∧ (ys ++ [(dig a i + dig b i + c) % 4294967296]).length = i + 1 ∧ (dig a i + dig b i + c) / 4294967296 ≤ 1 ∧
      val (ys ++ [(dig a i + dig b i + c) % 4294967296]) + B ^ (i + 1) * ((dig a i + dig b i + c) / 4294967296) = a % B ^ (i + 1) + b % B ^ (i + 1) := by
  have d1 := dig_lt a i
  have d2 := dig_lt b i
  refine ⟨hu.snoc (Nat.mod_lt _ (by decide)), by simp [hl], by omega, ?_⟩
  rw [val_append, hl, mod_succ, mod_succ, Nat.pow_succ, Nat.mul_assoc]
  generalize hs : dig a i + dig b i + c = s
  have h1 : B ^ i * (s % 4294967296) + B ^ i * (B * (s / 4294967296)) = B ^ i * s := by
    rw [← Nat.mul_add]; congr 1; exact Nat.mod_add_div s B
  have h2 : B ^ i * s = B ^ i * c + (B ^ i * dig a i + B ^ i * dig b i) := by rw [← hs, Nat.mul_add, Nat.mul_add]; omega
  simp only [val, Nat.mul_zero, Nat.add_zero]
  omega
theorem addA_end {a b c n : Nat} {ys : List Nat} (hl : ys.length = n) (ha : (lim a).length < n) (hb : (lim b).length < n) (hu : U32 ys) (hv : val ys + B ^ n * c = a % B ^ n + b % B ^ n) : val ys = a + b :=
  add_end hl ha hb hu (by rw [List.take_of_length_le (by omega)]; exact hv)
theorem ZmO (a b : Nat) (ha : (lim a).length ≤ 1099511627) (hb : (lim b).length ≤ 1099511627) : PC C ZjD [numD a, numD b] (fun o => o = .ret (numD (a + b))) := by
  refine PC.run ZhU Zk6 rfl Zk7 rfl (rs := [.tmp 4]) (by rw [Zk8]) (by simp only [List.length_cons, List.length_nil, Nat.reduceAdd, Nat.reduceSub, List.replicate_succ, List.replicate_zero, List.cons_append, List.nil_append]; exact rfl) ?_
  refine ARun.seq (ARun.region ?_)
  refine y_op rfl (Zaa rfl) ?_
  refine AOps.nil (ARun.seq (ARun.region ?_))
  refine y_op rfl (Zaa rfl) ?_
  refine AOps.nil (ARun.seq (ARun.region ?_))
  refine y_op rfl (Zaa rfl) ?_
  refine AOps.nil (ARun.seq (ARun.seq (ARun.region ?_)))
  refine y_op rfl (Zaa rfl) ?_
  refine AOps.nil (ARun.block ?_)
  refine ARun.loopI (S := Nat × Nat × List Nat × Heap) (fun σ : Nat × Nat × List Nat × Heap => [(8, .any), (9, .any), (10, .any), (11, .any), (12, .any), (13, .any), (14, .any), (15, .any), (16, .any), (17, .any), (18, .any), (19, .any), (20, .any), (21, .any), (22, .any), (23, .any), (24, .any), (25, .any), (26, .any), (27, .any), (28, .any), (29, .any), (30, .any), (31, .any), (32, .any), (33, .any), (5, growD (0 + σ.2.2.2.length) (nts .u32 σ.2.2.1)), (6, .int .u64 (σ.2.1 : Int)), (7, .int .i64 (σ.1 : Int))]) (fun σ : Nat × Nat × List Nat × Heap => growT σ.2.2.2 Zap (nts .u32 σ.2.2.1)) (fun σ : Nat × Nat × List Nat × Heap => U32 σ.2.2.1 ∧ σ.2.2.1.length = σ.1 ∧ σ.1 ≤ max ((lim a).length) ((lim b).length) + 1 ∧ σ.2.1 ≤ 1 ∧ val σ.2.2.1 + B ^ σ.1 * σ.2.1 = a % B ^ σ.1 + b % B ^ σ.1) (fun σ : Nat × Nat × List Nat × Heap => max ((lim a).length) ((lim b).length) + 1 - σ.1) ((0, 0, [], [])) ?_ ?_ ?_ ?_
  · exact ⟨U32.nil, rfl, Nat.zero_le _, by simp, by simp [val, Nat.mod_one]⟩
  · (repeat' first | exact envLe_nil | apply envLe_any | apply envLe_same)
  · rfl
  rintro ⟨i, c, ys, J⟩ hinv ih
  dsimp only at hinv ih ⊢
  obtain ⟨hu, hl, hi, hc, hv⟩ := hinv
  have hbl : (nts .u32 ys).length = i := by rw [nts_length, hl]
  refine ARun.seq (ARun.seq (ARun.region ?_))
  refine y_op rfl (q_move rfl) ?_
  refine y_op rfl (q_move rfl) ?_
  refine y_op rfl (Zaf rfl rfl) ?_
  refine y_op rfl (q_move rfl) ?_
  refine y_op rfl (Zaf rfl rfl) ?_
  refine y_op rfl (q_maxR rfl rfl nmax) ?_
  refine y_op rfl (q_int rfl rfl rfl) ?_
  refine AOps.nil ?_
  refine ARun.ite rfl (fun h => ?_) (fun h => ?_)
  · skip
    have d1 := dig_lt a i
    have d2 := dig_lt b i
    refine ARun.skip (ARun.seq (ARun.block (ARun.seq (ARun.region ?_))))
    refine y_op rfl (q_move rfl) ?_
    refine y_op rfl (q_move rfl) ?_
    refine y_op rfl (q_call rfl rfl (ZkY a i)) ?_
    refine y_op rfl (q_move rfl) ?_
    refine y_op rfl (q_move rfl) ?_
    refine y_op rfl (q_call rfl rfl (ZkY b i)) ?_
    refine y_op rfl (q_add rfl rfl (nadd_u64 (by omega))) ?_
    refine y_op rfl (q_move rfl) ?_
    refine y_op rfl (q_add rfl rfl (nadd_u64 (by omega))) ?_
    refine y_op rfl (Zaa rfl) ?_
    refine AOps.nil (ARun.seq (ARun.region ?_))
    refine y_op rfl (q_move rfl) ?_
    refine y_op rfl (q_move rfl) ?_
    refine y_op rfl (q_conv rfl rfl rfl nconv_u32) ?_
    refine y_new rfl (Zam rfl rfl rfl rfl rfl rfl rfl rfl rfl rfl rfl (by decide) (by decide)) ?_
    refine y_grow rfl rfl rfl rfl rfl rfl rfl rfl rfl rfl (by show (_ + 1) * 4 ≤ _; omega) (by omega) (fun J' => ?_)
    rw [nts_snoc]
    refine y_op rfl (Zaa rfl) ?_
    refine AOps.nil (ARun.region ?_)
    refine y_op rfl (q_move rfl) ?_
    refine y_op rfl (q_shr rfl rfl (by omega) nshr32) ?_
    refine y_op rfl (Zaa rfl) ?_
    refine AOps.nil (ARun.inBlock (ARun.region ?_))
    refine y_op rfl (q_move rfl) ?_
    refine y_op rfl (q_add rfl rfl (nadd1_i64 (by omega))) ?_
    refine y_op rfl (Zaa rfl) ?_
    refine AOps.nil ?_
    refine ARun.again (ih ((i + 1, (dig a i + dig b i + c) / 4294967296, ys ++ [(dig a i + dig b i + c) % 4294967296], J')) ?_ ?_) ?_ ?_
    · (obtain ⟨k1, k2, k3, k4⟩ := addA_step hu hl hc hv; exact ⟨k1, k2, by dsimp only; omega, k3, k4⟩)
    · (dsimp only; omega)
    · (repeat' first | exact envLe_nil | apply envLe_any | apply envLe_same)
    · rfl
  · skip
    have hin : i = max (lim a).length (lim b).length + 1 := by omega
    refine ARun.growEnd 5 rfl (pures_nts _) (fun J' => ?_)
    rw [sln_len]
    refine ARun.exit rfl ?_
    refine ARun.seq (ARun.region ?_)
    refine y_op rfl (q_move rfl) ?_
    refine y_op rfl (q_call rfl rfl (Zel ys hu (by omega))) ?_
    refine y_op rfl (Zaa rfl) ?_
    refine AOps.nil ?_
    refine ARun.ret ?_
    refine ⟨_, _, _, .tmp rfl .nil, .cons (.same _) .nil, rfl, ?_⟩
    rw [addA_end hl (by omega) (by omega) hu hv]
    rfl
end Go.V
set_option maxHeartbeats 2000000
set_option synthInstance.maxSize 100000
set_option synthInstance.maxHeartbeats 2000000
namespace Go.V
open Go.RowKit Go.Proofs
theorem ZmP (b : Bool) (xs : List Nat) (hx : U32 xs) (hl : xs.length ≤ 35184372088832) : PC C ZkR [.bool b, sln .u32 xs] (fun o => o = .ret (.agg [.bool (b && decide (0 < xs.length)), numD (val xs)])) := by
  refine PC.run Zjr ZlQ rfl ZlR rfl (rs := [.cell 4 25]) (by rw [ZlS]) (by simp only [List.length_cons, List.length_nil, Nat.reduceAdd, Nat.reduceSub, List.replicate_succ, List.replicate_zero, List.cons_append, List.nil_append]; exact rfl) ?_
  refine ARun.seq (ARun.region ?_)
  refine y_new rfl (Zag rfl rfl rfl rfl) ?_
  refine AOps.nil (ARun.seq (ARun.region ?_))
  refine y_op rfl (q_move rfl) ?_
  refine y_op rfl (q_move rfl) ?_
  refine AOps.bool 6 rfl (fun h => ?_) (fun h => ?_)
  · skip
    refine y_op rfl (q_move rfl) ?_
    refine y_op rfl (Zaf rfl rfl) ?_
    refine y_op rfl (q_int rfl rfl rfl) ?_
    refine y_op rfl (q_pick rfl rfl rfl rfl) ?_
    refine y_op rfl (q_move rfl) ?_
    refine y_op rfl (q_call rfl rfl (Zel xs hx hl)) ?_
    refine y_op rfl (ZaD rfl rfl rfl rfl rfl) ?_
    refine y_new rfl (Zac rfl rfl rfl rfl rfl rfl rfl rfl (Nat.le_of_ble_eq_true rfl) rfl) ?_
    refine AOps.nil ?_
    refine ARun.ret ?_
    refine ⟨_, _, _, ResR.cellA rfl rfl rfl rfl rfl rfl .nil, .cons (.same _) .nil, rfl, ?_⟩
    have : decide ((xs.length : Int) > 0) = decide (0 < xs.length) := decide_eq_decide.2 (by omega)
    rw [h, ← this]; rfl
  · skip
    refine y_skip rfl ?_
    refine y_skip rfl ?_
    refine y_skip rfl ?_
    refine y_op rfl (q_pick rfl rfl rfl rfl) ?_
    refine y_op rfl (q_move rfl) ?_
    refine y_op rfl (q_call rfl rfl (Zel xs hx hl)) ?_
    refine y_op rfl (ZaD rfl rfl rfl rfl rfl) ?_
    refine y_new rfl (Zac rfl rfl rfl rfl rfl rfl rfl rfl (Nat.le_of_ble_eq_true rfl) rfl) ?_
    refine AOps.nil ?_
    refine ARun.ret ?_
    refine ⟨_, _, _, ResR.cellA rfl rfl rfl rfl rfl rfl .nil, .cons (.same _) .nil, rfl, ?_⟩
    rw [h]; rfl
theorem Zmn (b : Bool) (n : Nat) (hl : (lim n).length ≤ 35184372088832) : PC C ZkR [.bool b, numD n] (fun o => o = .ret (intD (sgnd b n))) :=
  (ZmP b (lim n) (U32_lim n) hl).mono fun o ho => by
    rw [ho, val_lim, intD, sgnd_abs, sgnd_neg]
    have : decide (0 < (lim n).length) = decide (0 < n) := decide_eq_decide.2 (by rw [ln_pos]; omega)
    rw [this]
theorem decEqZ (x y : Int) : ((decide (x < 0) == decide (y < 0)) && decide (lim x.natAbs = lim y.natAbs)) = decide (x = y) := by
  have hl : lim x.natAbs = lim y.natAbs ↔ x.natAbs = y.natAbs := ⟨fun h => by rw [← val_lim x.natAbs, h, val_lim], fun h => by rw [h]⟩
  by_cases h : x = y
  · subst h; simp
  · rw [decide_eq_false h]
    by_cases h1 : x < 0 <;> by_cases h2 : y < 0
    · rw [show decide (lim x.natAbs = lim y.natAbs) = false from decide_eq_false (by rw [hl]; omega)]; simp
    · rw [decide_eq_true h1, decide_eq_false h2]; rfl
    · rw [decide_eq_false h1, decide_eq_true h2]; rfl
    · rw [show decide (lim x.natAbs = lim y.natAbs) = false from decide_eq_false (by rw [hl]; omega)]; simp
theorem Zmo (x y : Int) : PC C ZhT [intD x, intD y] (fun o => o = .ret (.bool (decide (x = y)))) := by
  refine PC.run Zgh Zkl rfl Zkm rfl (rs := [.tmp 4]) (by rw [Zkn]) (by simp only [List.length_cons, List.length_nil, Nat.reduceAdd, Nat.reduceSub, List.replicate_succ, List.replicate_zero, List.cons_append, List.nil_append]; exact rfl) ?_
  refine ARun.seq (ARun.region ?_)
  refine y_op rfl (q_boxF rfl rfl rfl rfl) ?_
  refine y_op rfl (q_boxF rfl rfl rfl rfl) ?_
  refine y_op rfl (Zaa rfl) ?_
  refine AOps.nil (ARun.seq (ARun.region ?_))
  refine y_op rfl (q_fldS rfl rfl rfl (by decide)) ?_
  refine y_op rfl (q_load rfl rfl rfl rfl) ?_
  refine y_op rfl (q_fldS rfl rfl rfl (by decide)) ?_
  refine y_op rfl (q_load rfl rfl rfl rfl) ?_
  refine y_op rfl (ZkT rfl rfl rfl) ?_
  refine y_op rfl (q_move rfl) ?_
  refine AOps.bool 10 rfl (fun h => ?_) (fun h => ?_)
  · skip
    refine y_op rfl (q_fldS rfl rfl rfl (by decide)) ?_
    refine y_op rfl (q_load rfl rfl rfl rfl) ?_
    refine y_op rfl (q_fldS rfl rfl rfl (by decide)) ?_
    refine y_op rfl (q_load rfl rfl rfl rfl) ?_
    refine y_op rfl (q_call rfl rfl (Zmm (lim x.natAbs) (lim y.natAbs))) ?_
    refine y_op rfl (q_pick rfl rfl rfl rfl) ?_
    refine y_op rfl (Zaa rfl) ?_
    refine AOps.nil ?_
    refine ARun.ret ?_
    refine ⟨_, _, _, .tmp rfl .nil, .cons (.same _) .nil, rfl, ?_⟩
    rw [← decEqZ, h]; rfl
  · skip
    refine y_skip rfl ?_
    refine y_skip rfl ?_
    refine y_skip rfl ?_
    refine y_skip rfl ?_
    refine y_skip rfl ?_
    refine y_op rfl (q_pick rfl rfl rfl rfl) ?_
    refine y_op rfl (Zaa rfl) ?_
    refine AOps.nil ?_
    refine ARun.ret ?_
    refine ⟨_, _, _, .tmp rfl .nil, .cons (.same _) .nil, rfl, ?_⟩
    rw [← decEqZ, h]; rfl
theorem Zbz (z : Int) (h1 : -9223372036854775808 ≤ z) (h2 : z ≤ 9223372036854775807) : PC C Zib [.int .i64 z] (fun o => o = .ret (intD z)) := by
  have hln : ∀ n : Nat, n < 18446744073709551616 → (lim n).length ≤ 2 := fun n h => ln_le (by rw [B_two]; exact h)
  refine PC.run Zdk Zhh rfl Zhi rfl (rs := [.cell 2 25]) (by rw [Zhj]) (by simp only [List.length_cons, List.length_nil, Nat.reduceAdd, Nat.reduceSub, List.replicate_succ, List.replicate_zero, List.cons_append, List.nil_append]; exact rfl) ?_
  refine ARun.seq (ARun.region ?_)
  refine y_new rfl (Zag rfl rfl rfl rfl) ?_
  refine AOps.nil (ARun.seq (ARun.seq (ARun.region ?_)))
  refine y_op rfl (q_move rfl) ?_
  refine y_op rfl (q_int rfl rfl rfl) ?_
  refine AOps.nil ?_
  refine ARun.ite rfl (fun h => ?_) (fun h => ?_)
  · skip
    obtain ⟨m, hm⟩ : ∃ m : Nat, z = -(m : Int) - 1 := ⟨(-(z + 1)).toNat, by omega⟩
    subst hm
    have hadd : PC C ZjD [numD m, .sl 1 [.int .u32 1]] (fun o => o = .ret (numD (m + 1))) := by
      have := hln m (by omega)
      have h := ZmO m 1 (by omega) (by rw [lim_one]; decide)
      rw [← numD_one] at h
      exact h
    refine ARun.seq (ARun.region ?_)
    refine y_op rfl (q_move rfl) ?_
    refine y_op rfl (q_add rfl rfl (show _ = -(m : Int) by rw [IntWalk.i64_in _ (by omega)]; omega)) ?_
    refine y_op rfl (q_neg rfl (show _ = (m : Int) by rw [IntWalk.i64_in _ (by omega)]; omega)) ?_
    refine y_op rfl (q_conv rfl rfl rfl (IntWalk.u64_in _ (by omega))) ?_
    refine y_op rfl (q_call rfl rfl (Zml m (by omega))) ?_
    refine y_op rfl (Zan rfl rfl rfl rfl rfl rfl rfl rfl rfl rfl rfl (by decide) (by decide) rfl) ?_
    refine y_op rfl (q_call rfl rfl (hadd)) ?_
    refine y_op rfl (q_call rfl rfl (Zmn true (m + 1) (by have := hln (m + 1) (by omega); omega))) ?_
    refine y_new rfl (Zac rfl rfl rfl rfl rfl rfl rfl rfl (Nat.le_of_ble_eq_true rfl) rfl) ?_
    refine AOps.nil ?_
    refine ARun.ret ?_
    refine ⟨_, _, _, ResR.cellA rfl rfl rfl rfl rfl rfl .nil, .cons (.same _) .nil, rfl, ?_⟩
    rw [show sgnd true (m + 1) = -(m : Int) - 1 by simp only [sgnd, cond_true]; omega]
    rfl
  · skip
    obtain ⟨m, rfl⟩ : ∃ m : Nat, z = (m : Int) := ⟨z.toNat, by omega⟩
    refine ARun.skip (ARun.seq (ARun.region ?_))
    refine y_op rfl (q_move rfl) ?_
    refine y_op rfl (q_conv rfl rfl rfl (IntWalk.u64_in _ (by omega))) ?_
    refine y_op rfl (q_call rfl rfl (Zml m (by omega))) ?_
    refine y_op rfl (q_call rfl rfl (Zmn false m (by have := hln m (by omega); omega))) ?_
    refine y_new rfl (Zac rfl rfl rfl rfl rfl rfl rfl rfl (Nat.le_of_ble_eq_true rfl) rfl) ?_
    refine AOps.nil ?_
    refine ARun.ret ?_
    refine ⟨_, _, _, ResR.cellA rfl rfl rfl rfl rfl rfl .nil, .cons (.same _) .nil, rfl, ?_⟩
    rfl
end Go.V
set_option maxHeartbeats 2000000
set_option synthInstance.maxSize 100000
set_option synthInstance.maxHeartbeats 2000000
namespace Go.V
open Go.RowKit Go.Proofs
end Go.V
set_option maxHeartbeats 4000000
set_option synthInstance.maxSize 100000
set_option synthInstance.maxHeartbeats 2000000
namespace Go.V
open Go.RowKit Go.Proofs
theorem fit_lt {z : Int} (h : z.natAbs < 4294967296) : fitZ z := by
  unfold fitZ
  have := ln_le (n := z.natAbs) (k := 1) (by rw [Nat.pow_one]; exact h)
  omega
theorem okI_of {z : Int} (h : fitZ z) : okI (decide (z < 0), lim z.natAbs) = true := by
  unfold okI
  rw [okB_lim h, Bool.true_and]
  by_cases h0 : z < 0
  · have := ln_pos.2 (show z.natAbs ≠ 0 by omega)
    rw [decide_eq_true (show 0 < (lim z.natAbs).length from this), Bool.or_true]
  · rw [decide_eq_false h0]; rfl
theorem okI_of2 {x y : Int} (hx : fitZ x) (hy : fitZ y) : [(decide (x < 0), lim x.natAbs), (decide (y < 0), lim y.natAbs)].all okI = true := by
  simp only [List.all_cons, List.all_nil, Bool.and_true, okI_of hx, okI_of hy]
theorem gcd_12_18 : gG 12 18 = 6 ∧ gcdX 12 18 = 2 ∧ gcdY 12 18 = -1 := by
  have h0 : (18 : Int) ≠ 0 := by decide
  have h1 : gG 12 18 = 6 := by decide
  have h2 := gcd_eq (a := 12) h0
  have h3 := gQ_mul (a := 12) h0
  rw [h1] at h2 h3
  have h4 : gQ 12 18 = 3 := by
    have : (18 : Int).natAbs = 18 := rfl
    omega
  have h5 : 0 ≤ gcdX 12 18 := by unfold gcdX; rw [if_neg h0, h4]; exact Int.emod_nonneg _ (by decide)
  have h6 : gcdX 12 18 < 3 := by unfold gcdX; rw [if_neg h0, h4]; exact Int.emod_lt_of_pos _ (by decide)
  refine ⟨h1, ?_, ?_⟩ <;> omega
theorem str_255 : strZ 16 true (-255) = [45, 70, 70] := by
  have h : txt 16 255 = [102, 102] := by
    unfold txt
    rw [if_neg (by decide), dgs_pos (by decide) (by decide), dgs_pos (by decide) (by decide), show 255 / 16 / 16 = 0 from rfl, dgs_zero]
    rfl
  unfold strZ
  rw [show (-255 : Int).natAbs = 255 from rfl, h]
  rfl
theorem ZmQ {C : Ctx} {dst : Option Tmp} {x y : Operand} {xt yt ty : TypeId} {pos : String} {aft : Array Edge} {gd : Option (Nat × Bool)} {env : List D} {H : Heap} {s t : ByteArray} (hx : evO C env x = some (.str s)) (hy : evO C env y = some (.str t)) (h : s = t) : OpQ C ⟨dst, .binOp .eql xt x y yt, ty, pos, aft, gd⟩ env H (.bool true) := by
  have := ZmW (C := C) (H := H) (dst := dst) (ty := ty) (pos := pos) (aft := aft) (gd := gd) (xt := xt) (yt := yt) hx hy
  rw [h, beq_self_eq_true] at this
  exact this
theorem ZlG : PC C Zh6 [] (fun o => o = .ret (.bool true)) := by
  have hdiv : PC C Zdw [intD (-7), intD 2, .int .i64 4] (fun o => o = .ret (.tup [intD (-4), intD 1, .int .i64 0])) := by
    refine (ZkX (decide ((-7 : Int) < 0), lim (-7 : Int).natAbs) (decide ((2 : Int) < 0), lim (2 : Int).natAbs) (U32_lim _) (U32_lim _) 4).mono fun o ho => ?_
    rw [okI_of2 (fit_lt (by decide)) (fit_lt (by decide)), valI_int, valI_int, show divR 4 true (-7) 2 = ((-4, 1), 0) by decide] at ho
    exact ho
  have hgcd : PC C Zgi [intD 12, intD 18] (fun o => o = .ret (.tup [intD 6, intD 2, intD (-1), .int .i64 0])) := by
    refine (ZmN (decide ((12 : Int) < 0), lim (12 : Int).natAbs) (decide ((18 : Int) < 0), lim (18 : Int).natAbs) (U32_lim _) (U32_lim _)).mono fun o ho => ?_
    obtain ⟨e1, e2, e3⟩ := gcd_12_18
    rw [okI_of2 (fit_lt (by decide)) (fit_lt (by decide)), valI_int, valI_int] at ho
    simp only [gcdR, cond_true, e1, e2, e3] at ho
    exact ho
  have htext : PC C Ze1 [intD (-255), .int .i64 16, .bool true] (fun o => o = .ret (.tup [.str ⟨#[45, 70, 70]⟩, .int .i64 0])) := by
    refine (Zmk (decide ((-255 : Int) < 0), lim (-255 : Int).natAbs) (U32_lim _) 16 true).mono fun o ho => ?_
    have : textR (decide ((-255 : Int) < 0), lim (-255 : Int).natAbs) 16 true = ([45, 70, 70], 0) := by
      unfold textR
      rw [okI_of (fit_lt (by decide)), valI_int, show (16 : Int).toNat = 16 from rfl, str_255]
      rfl
    rw [this] at ho
    exact ho
  have hs : ∀ x : Int, PC C ZhT [intD x, intD x] (fun o => o = .ret (.bool true)) := fun x => (Zmo x x).mono fun o ho => by rw [ho, decide_eq_true rfl]
  refine PC.run Zdg Zg5 rfl Zg6 rfl (rs := [.tmp 0]) (by rw [Zg7]) (by simp only [List.length_cons, List.length_nil, Nat.reduceAdd, Nat.reduceSub, List.replicate_succ, List.replicate_zero, List.cons_append, List.nil_append]; exact rfl) ?_
  refine ARun.seq (ARun.region ?_)
  refine y_op rfl (Zaa rfl) ?_
  refine AOps.nil (ARun.seq (ARun.region ?_))
  refine y_op rfl (q_call rfl rfl (Zal (-7) (by decide) (by decide))) ?_
  refine y_new rfl (Zag rfl rfl rfl rfl) ?_
  refine y_new rfl (Zac rfl rfl rfl rfl rfl rfl rfl rfl (Nat.le_of_ble_eq_true rfl) rfl) ?_
  refine AOps.nil (ARun.seq (ARun.region ?_))
  refine y_op rfl (q_call rfl rfl (Zal 2 (by decide) (by decide))) ?_
  refine y_new rfl (Zag rfl rfl rfl rfl) ?_
  refine y_new rfl (Zac rfl rfl rfl rfl rfl rfl rfl rfl (Nat.le_of_ble_eq_true rfl) rfl) ?_
  refine AOps.nil (ARun.seq (ARun.region ?_))
  refine y_op rfl (Zae rfl rfl rfl rfl rfl rfl) ?_
  refine y_op rfl (Zae rfl rfl rfl rfl rfl rfl) ?_
  refine y_op rfl (q_call rfl rfl (hdiv)) ?_
  refine y_op rfl (q_move rfl) ?_
  refine y_op rfl (Zab rfl rfl) ?_
  refine y_op rfl (Zab rfl rfl) ?_
  refine y_op rfl (Zab rfl rfl) ?_
  refine y_new rfl (Zag rfl rfl rfl rfl) ?_
  refine y_new rfl (Zag rfl rfl rfl rfl) ?_
  refine y_new rfl (Zac rfl rfl rfl rfl rfl rfl rfl rfl (Nat.le_of_ble_eq_true rfl) rfl) ?_
  refine y_new rfl (Zac rfl rfl rfl rfl rfl rfl rfl rfl (Nat.le_of_ble_eq_true rfl) rfl) ?_
  refine y_op rfl (Zaa rfl) ?_
  refine AOps.nil (ARun.seq (ARun.region ?_))
  refine y_op rfl (q_call rfl rfl (Zal 12 (by decide) (by decide))) ?_
  refine y_op rfl (q_call rfl rfl (Zal 18 (by decide) (by decide))) ?_
  refine y_op rfl (q_call rfl rfl (hgcd)) ?_
  refine y_op rfl (q_move rfl) ?_
  refine y_op rfl (Zab rfl rfl) ?_
  refine y_op rfl (Zab rfl rfl) ?_
  refine y_op rfl (Zab rfl rfl) ?_
  refine y_op rfl (Zab rfl rfl) ?_
  refine y_new rfl (Zag rfl rfl rfl rfl) ?_
  refine y_new rfl (Zag rfl rfl rfl rfl) ?_
  refine y_new rfl (Zag rfl rfl rfl rfl) ?_
  refine y_new rfl (Zac rfl rfl rfl rfl rfl rfl rfl rfl (Nat.le_of_ble_eq_true rfl) rfl) ?_
  refine y_new rfl (Zac rfl rfl rfl rfl rfl rfl rfl rfl (Nat.le_of_ble_eq_true rfl) rfl) ?_
  refine y_new rfl (Zac rfl rfl rfl rfl rfl rfl rfl rfl (Nat.le_of_ble_eq_true rfl) rfl) ?_
  refine y_op rfl (Zaa rfl) ?_
  refine AOps.nil (ARun.seq (ARun.region ?_))
  refine y_op rfl (q_call rfl rfl (Zal (-255) (by decide) (by decide))) ?_
  refine y_op rfl (q_call rfl rfl (htext)) ?_
  refine y_op rfl (q_move rfl) ?_
  refine y_op rfl (Zab rfl rfl) ?_
  refine y_op rfl (Zab rfl rfl) ?_
  refine y_op rfl (Zaa rfl) ?_
  refine y_op rfl (Zaa rfl) ?_
  refine AOps.nil (ARun.seq ?_)
  refine ARun.drawnP 39 (fun _ => False) mixC rfl rfl (by kernel_rfl) (fun _ _ h => h.elim) ?_
  refine .op rfl (q_move rfl) ?_
  refine .op rfl (q_int rfl rfl rfl) ?_
  refine .op rfl (q_move rfl) ?_
  refine .op rfl (q_move rfl) ?_
  refine .op rfl (q_int rfl rfl rfl) ?_
  refine .op rfl (q_pick rfl rfl rfl rfl) ?_
  refine .op rfl (q_move rfl) ?_
  refine .op rfl (q_move rfl) ?_
  refine .op rfl (q_int rfl rfl rfl) ?_
  refine .op rfl (q_pick rfl rfl rfl rfl) ?_
  refine .op rfl (q_move rfl) ?_
  refine .op rfl (Zae rfl rfl rfl rfl rfl rfl) ?_
  refine .op rfl (q_call rfl rfl (Zbz (-4) (by decide) (by decide))) ?_
  refine .op rfl (q_call rfl rfl (hs (-4))) ?_
  refine .op rfl (q_pick rfl rfl rfl rfl) ?_
  refine .op rfl (q_move rfl) ?_
  refine .op rfl (Zae rfl rfl rfl rfl rfl rfl) ?_
  refine .op rfl (q_call rfl rfl (Zbz 1 (by decide) (by decide))) ?_
  refine .op rfl (q_call rfl rfl (hs 1)) ?_
  refine .op rfl (q_pick rfl rfl rfl rfl) ?_
  refine .op rfl (q_move rfl) ?_
  refine .op rfl (Zae rfl rfl rfl rfl rfl rfl) ?_
  refine .op rfl (q_call rfl rfl (Zbz 6 (by decide) (by decide))) ?_
  refine .op rfl (q_call rfl rfl (hs 6)) ?_
  refine .op rfl (q_pick rfl rfl rfl rfl) ?_
  refine .op rfl (q_move rfl) ?_
  refine .op rfl (Zae rfl rfl rfl rfl rfl rfl) ?_
  refine .op rfl (q_call rfl rfl (Zbz 2 (by decide) (by decide))) ?_
  refine .op rfl (q_call rfl rfl (hs 2)) ?_
  refine .op rfl (q_pick rfl rfl rfl rfl) ?_
  refine .op rfl (q_move rfl) ?_
  refine .op rfl (Zae rfl rfl rfl rfl rfl rfl) ?_
  refine .op rfl (q_call rfl rfl (Zbz (-1) (by decide) (by decide))) ?_
  refine .op rfl (q_call rfl rfl (hs (-1))) ?_
  refine .op rfl (q_pick rfl rfl rfl rfl) ?_
  refine .op rfl (q_move rfl) ?_
  refine .op rfl (q_move rfl) ?_
  refine .op rfl (ZmQ rfl rfl rfl) ?_
  refine .op rfl (q_pick rfl rfl rfl rfl) ?_
  refine .nil (fun hG => ?_)
  refine y_op rfl (Zaa rfl) ?_
  refine AOps.nil ?_
  refine ARun.ret ?_
  refine ⟨_, _, _, .tmp rfl .nil, .cons (.same _) .nil, rfl, ?_⟩
  rfl
end Go.V
set_option maxHeartbeats 4000000
set_option synthInstance.maxSize 100000
set_option synthInstance.maxHeartbeats 2000000
namespace Go.V
open Go.RowKit Go.Proofs
def toU (xs : List Nat) : Nat × Int := bif okB xs then (if xs.length ≤ 2 then (val xs, 0) else (0, 3)) else (0, 1)
theorem two_digs {a : Nat} (h : (lim a).length ≤ 2) : dig a 0 + dig a 1 * 2 ^ 32 = a := by
  have h1 := ln_le_iff.1 h
  rw [B_two] at h1
  unfold dig
  rw [Nat.pow_zero, Nat.div_one, Nat.pow_one, B_eq]
  omega
theorem ZiO (xs : List Nat) (hx : U32 xs) : PC C Zjz [sln .u32 xs] (fun o => o = .ret (.tup [.int .u64 ((toU xs).1 : Nat), .int .i64 (toU xs).2])) := by
  refine PC.run ZdX Zis rfl Zit rfl (rs := [.tmp 2, .tmp 3]) (by rw [Ziu]) (by simp only [List.length_cons, List.length_nil, Nat.reduceAdd, Nat.reduceSub, List.replicate_succ, List.replicate_zero, List.cons_append, List.nil_append]; exact rfl) ?_
  refine ARun.seq (ARun.region ?_)
  refine y_op rfl (Zaa rfl) ?_
  refine y_op rfl (Zaa rfl) ?_
  refine AOps.nil (ARun.seq (ARun.block (ARun.seq (ARun.region ?_))))
  refine y_op rfl (q_move rfl) ?_
  refine y_op rfl (q_call rfl rfl (Zb1 xs (okNatDec xs))) ?_
  refine y_op rfl (q_not rfl) ?_
  refine y_op rfl (Zaa rfl) ?_
  refine AOps.nil ?_
  refine ARun.cond rfl (fun h => ?_) (fun h => ?_)
  · skip
    have h : okB xs = false := by simpa [okB] using h
    refine ARun.seq (ARun.region ?_)
    refine y_op rfl (Zaa rfl) ?_
    refine y_op rfl (Zaa rfl) ?_
    refine AOps.nil ?_
    refine ARun.ret ?_
    refine ⟨_, _, _, .tmp rfl (.tmp rfl .nil), .cons (.same _) (.cons (.same _) .nil), rfl, ?_⟩
    unfold toU; rw [h]; rfl
  · skip
    have h : okB xs = true := by simpa [okB] using h
    obtain ⟨a, rfl, ha⟩ := okNat_lim hx h
    refine ARun.seq (ARun.region ?_)
    refine y_op rfl (q_move rfl) ?_
    refine y_op rfl (Zaf rfl rfl) ?_
    refine y_op rfl (q_int rfl rfl rfl) ?_
    refine y_op rfl (Zaa rfl) ?_
    refine AOps.nil ?_
    refine ARun.ite rfl (fun h2 => ?_) (fun h2 => ?_)
    · skip
      refine ARun.seq (ARun.region ?_)
      refine y_op rfl (Zaa rfl) ?_
      refine y_op rfl (Zaa rfl) ?_
      refine AOps.nil ?_
      refine ARun.ret ?_
      refine ⟨_, _, _, .tmp rfl (.tmp rfl .nil), .cons (.same _) (.cons (.same _) .nil), rfl, ?_⟩
      unfold toU; rw [h, cond_true, if_neg (by omega)]; rfl
    · skip
      have d0 := dig_lt a 0
      have d1 := dig_lt a 1
      refine ARun.skip (ARun.inBlock (ARun.seq (ARun.region ?_)))
      refine y_op rfl (q_move rfl) ?_
      refine y_op rfl (q_call rfl rfl (ZaU a 0)) ?_
      refine y_op rfl (q_move rfl) ?_
      refine y_op rfl (q_call rfl rfl (ZaU a 1)) ?_
      refine y_op rfl (q_shl rfl rfl (by omega) (nshl_u64 (s := 32) rfl (by omega) (by omega))) ?_
      refine y_op rfl (q_orR rfl rfl (nor_add (c := dig a 0) (x := dig a 1) (s := 32) (by omega) (by omega))) ?_
      refine y_op rfl (Zaa rfl) ?_
      refine y_op rfl (Zaa rfl) ?_
      refine AOps.nil ?_
      refine ARun.ret ?_
      refine ⟨_, _, _, .tmp rfl (.tmp rfl .nil), .cons (.same _) (.cons (.same _) .nil), rfl, ?_⟩
      unfold toU; rw [h, cond_true, if_pos (by omega), val_lim]
      simp only
      rw [two_digs (by omega)]; rfl
def toI (d : Bool × List Nat) : Int × Int := bif okI d then (if -9223372036854775808 ≤ valI d ∧ valI d ≤ 9223372036854775807 then (valI d, 0) else (0, 3)) else (0, 1)
theorem ln2 {n : Nat} : (lim n).length ≤ 2 ↔ n < 18446744073709551616 := by rw [ln_le_iff, B_two]
theorem wrap_neg64 {m : Nat} (h0 : 0 < m) (h : m < 18446744073709551616) : IntKind.u64.wrap (0 - (m : Int)) = ((18446744073709551616 - m : Nat) : Int) := by
  rw [IntKind.wrap_u64]; omega
theorem wrap_back64 {z : Int} (h0 : z < 0) (h : z.natAbs ≤ 9223372036854775808) : IntKind.i64.wrap ((18446744073709551616 - z.natAbs : Nat) : Int) = z := by
  rw [IntKind.wrap_i64]; omega
theorem ZlH (d : Bool × List Nat) (hd : U32 d.2) : PC C ZdO [intA d.1 d.2] (fun o => o = .ret (.tup [.int .i64 (toI d).1, .int .i64 (toI d).2])) := by
  refine PC.run Zdi Zhb rfl Zhc rfl (rs := [.tmp 2, .tmp 3]) (by rw [Zhd]) (by simp only [List.length_cons, List.length_nil, Nat.reduceAdd, Nat.reduceSub, List.replicate_succ, List.replicate_zero, List.cons_append, List.nil_append]; exact rfl) ?_
  refine ARun.seq (ARun.region ?_)
  refine y_op rfl (q_boxF rfl rfl rfl rfl) ?_
  refine y_op rfl (Zaa rfl) ?_
  refine y_op rfl (Zaa rfl) ?_
  refine AOps.nil (ARun.seq (ARun.seq (ARun.region ?_)))
  refine y_op rfl (Zad rfl rfl rfl rfl rfl) ?_
  refine y_op rfl (q_call rfl rfl (Zde d)) ?_
  refine y_op rfl (q_not rfl) ?_
  refine AOps.nil ?_
  refine ARun.cond rfl (fun h => ?_) (fun h => ?_)
  · skip
    have h : okI d = false := by simpa using h
    refine ARun.seq (ARun.region ?_)
    refine y_op rfl (Zaa rfl) ?_
    refine y_op rfl (Zaa rfl) ?_
    refine AOps.nil ?_
    refine ARun.ret ?_
    refine ⟨_, _, _, .tmp rfl (.tmp rfl .nil), .cons (.same _) (.cons (.same _) .nil), rfl, ?_⟩
    unfold toI; rw [h]; rfl
  · skip
    have h : okI d = true := by simpa using h
    obtain ⟨z, rfl, fz⟩ := okI_int hd h
    have hT : toI (decide (z < 0), lim z.natAbs) = if -9223372036854775808 ≤ z ∧ z ≤ 9223372036854775807 then (z, 0) else (0, 3) := by
      unfold toI; rw [h, valI_int]; rfl
    rw [hT]
    have hU : toU (lim z.natAbs) = if z.natAbs < 18446744073709551616 then (z.natAbs, 0) else (0, 3) := by
      unfold toU; rw [okB_lim fz]; simp only [cond_true, val_lim]
      by_cases h2 : z.natAbs < 18446744073709551616
      · rw [if_pos h2, if_pos (ln2.2 h2)]
      · rw [if_neg h2, if_neg (fun h => h2 (ln2.1 h))]
    have hc := ZiO (lim z.natAbs) (U32_lim _)
    rw [hU] at hc
    by_cases h2 : z.natAbs < 18446744073709551616
    · skip
      rw [if_pos h2] at hc
      refine ARun.skip (ARun.seq (ARun.region ?_))
      refine y_op rfl (q_fldS rfl rfl rfl (by decide)) ?_
      refine y_op rfl (q_load rfl rfl rfl rfl) ?_
      refine y_op rfl (q_call rfl rfl (hc)) ?_
      refine y_op rfl (q_move rfl) ?_
      refine y_op rfl (Zab rfl rfl) ?_
      refine y_op rfl (Zab rfl rfl) ?_
      refine y_op rfl (Zaa rfl) ?_
      refine y_op rfl (Zaa rfl) ?_
      refine AOps.nil (ARun.seq (ARun.block (ARun.seq (ARun.region ?_))))
      refine y_op rfl (q_move rfl) ?_
      refine y_op rfl (q_int rfl rfl rfl) ?_
      refine y_op rfl (q_move rfl) ?_
      refine y_op rfl (q_move rfl) ?_
      refine y_op rfl (q_int rfl rfl rfl) ?_
      refine y_op rfl (q_pick rfl rfl rfl rfl) ?_
      refine y_op rfl (q_move rfl) ?_
      refine AOps.bool 22 rfl (fun h3 => ?_) (fun h3 => ?_)
      · skip
        have h3 := of_decide_eq_true h3
        refine y_skip rfl ?_
        refine y_skip rfl ?_
        refine y_skip rfl ?_
        refine y_skip rfl ?_
        refine y_skip rfl ?_
        refine y_skip rfl ?_
        refine y_skip rfl ?_
        refine y_op rfl (q_pick rfl rfl rfl rfl) ?_
        refine y_op rfl (Zaa rfl) ?_
        refine AOps.nil ?_
        refine ARun.condT rfl ?_
        refine ARun.seq (ARun.region ?_)
        refine y_op rfl (Zaa rfl) ?_
        refine y_op rfl (Zaa rfl) ?_
        refine AOps.nil ?_
        refine ARun.ret ?_
        refine ⟨_, _, _, .tmp rfl (.tmp rfl .nil), .cons (.same _) (.cons (.same _) .nil), rfl, ?_⟩
        rw [if_neg (by omega)]; rfl
      · skip
        have h3 := of_decide_eq_false h3
        refine y_op rfl (q_move rfl) ?_
        refine y_op rfl (q_int rfl rfl rfl) ?_
        refine y_op rfl (q_move rfl) ?_
        refine AOps.bool 25 rfl (fun h4 => ?_) (fun h4 => ?_)
        · skip
          have h4 : z.natAbs = 9223372036854775808 := by
            have : ((z.natAbs : Nat) : Int) = 9223372036854775808 := by simpa using h4
            omega
          refine y_op rfl (q_fldS rfl rfl rfl (by decide)) ?_
          refine y_op rfl (q_load rfl rfl rfl rfl) ?_
          refine y_op rfl (q_not rfl) ?_
          refine y_op rfl (q_pick rfl rfl rfl rfl) ?_
          refine y_op rfl (q_pick rfl rfl rfl rfl) ?_
          refine y_op rfl (Zaa rfl) ?_
          refine AOps.nil ?_
          refine ARun.cond rfl (fun h5 => ?_) (fun h5 => ?_)
          · skip
            have h5 : ¬ z < 0 := by simpa using h5
            refine ARun.seq (ARun.region ?_)
            refine y_op rfl (Zaa rfl) ?_
            refine y_op rfl (Zaa rfl) ?_
            refine AOps.nil ?_
            refine ARun.ret ?_
            refine ⟨_, _, _, .tmp rfl (.tmp rfl .nil), .cons (.same _) (.cons (.same _) .nil), rfl, ?_⟩
            rw [if_neg (by omega)]; rfl
          · skip
            have h5 : z < 0 := by simpa using h5
            refine ARun.seq (ARun.region ?_)
            refine y_op rfl (q_fldS rfl rfl rfl (by decide)) ?_
            refine y_op rfl (q_load rfl rfl rfl rfl) ?_
            refine y_op rfl (Zaa rfl) ?_
            refine AOps.nil ?_
            refine ARun.cond rfl (fun h6 => ?_) (fun h6 => ?_)
            · skip
              refine ARun.seq (ARun.region ?_)
              refine y_op rfl (q_move rfl) ?_
              refine y_op rfl (q_neg rfl (wrap_neg64 (m := z.natAbs) (by omega) (by omega))) ?_
              refine y_op rfl (q_conv rfl rfl rfl (wrap_back64 (z := z) (by omega) (by omega))) ?_
              refine y_op rfl (Zaa rfl) ?_
              refine y_op rfl (Zaa rfl) ?_
              refine AOps.nil ?_
              refine ARun.ret ?_
              refine ⟨_, _, _, .tmp rfl (.tmp rfl .nil), .cons (.same _) (.cons (.same _) .nil), rfl, ?_⟩
              rw [if_pos (by omega)]; rfl
            · skip
              have h6 := of_decide_eq_false h6
              omega
        · skip
          have h4 : z.natAbs ≠ 9223372036854775808 := by
            intro e
            rw [e] at h4
            simp at h4
          refine y_skip rfl ?_
          refine y_skip rfl ?_
          refine y_skip rfl ?_
          refine y_op rfl (q_pick rfl rfl rfl rfl) ?_
          refine y_op rfl (q_pick rfl rfl rfl rfl) ?_
          refine y_op rfl (Zaa rfl) ?_
          refine AOps.nil ?_
          refine ARun.condF rfl ?_
          refine ARun.seq (ARun.region ?_)
          refine y_op rfl (q_fldS rfl rfl rfl (by decide)) ?_
          refine y_op rfl (q_load rfl rfl rfl rfl) ?_
          refine y_op rfl (Zaa rfl) ?_
          refine AOps.nil ?_
          refine ARun.cond rfl (fun h5 => ?_) (fun h5 => ?_)
          · skip
            have h5 := of_decide_eq_true h5
            refine ARun.seq (ARun.region ?_)
            refine y_op rfl (q_move rfl) ?_
            refine y_op rfl (q_neg rfl (wrap_neg64 (m := z.natAbs) (by omega) (by omega))) ?_
            refine y_op rfl (q_conv rfl rfl rfl (wrap_back64 (z := z) (by omega) (by omega))) ?_
            refine y_op rfl (Zaa rfl) ?_
            refine y_op rfl (Zaa rfl) ?_
            refine AOps.nil ?_
            refine ARun.ret ?_
            refine ⟨_, _, _, .tmp rfl (.tmp rfl .nil), .cons (.same _) (.cons (.same _) .nil), rfl, ?_⟩
            rw [if_pos (by omega)]; rfl
          · skip
            have h5 := of_decide_eq_false h5
            refine ARun.skip (ARun.inBlock (ARun.seq (ARun.region ?_)))
            refine y_op rfl (q_move rfl) ?_
            refine y_op rfl (q_conv rfl rfl rfl (nconv_i64 (by omega))) ?_
            refine y_op rfl (Zaa rfl) ?_
            refine y_op rfl (Zaa rfl) ?_
            refine AOps.nil ?_
            refine ARun.ret ?_
            refine ⟨_, _, _, .tmp rfl (.tmp rfl .nil), .cons (.same _) (.cons (.same _) .nil), rfl, ?_⟩
            rw [if_pos (by omega)]
            show Out.ret (.tup [.int .i64 ((z.natAbs : Nat) : Int), .int .i64 0]) = _
            rw [show ((z.natAbs : Nat) : Int) = z by omega]
    · skip
      rw [if_neg h2] at hc
      refine ARun.skip (ARun.seq (ARun.region ?_))
      refine y_op rfl (q_fldS rfl rfl rfl (by decide)) ?_
      refine y_op rfl (q_load rfl rfl rfl rfl) ?_
      refine y_op rfl (q_call rfl rfl (hc)) ?_
      refine y_op rfl (q_move rfl) ?_
      refine y_op rfl (Zab rfl rfl) ?_
      refine y_op rfl (Zab rfl rfl) ?_
      refine y_op rfl (Zaa rfl) ?_
      refine y_op rfl (Zaa rfl) ?_
      refine AOps.nil (ARun.seq (ARun.block (ARun.seq (ARun.region ?_))))
      refine y_op rfl (q_move rfl) ?_
      refine y_op rfl (q_int rfl rfl rfl) ?_
      refine y_op rfl (q_move rfl) ?_
      refine y_skip rfl ?_
      refine y_skip rfl ?_
      refine y_op rfl (q_pick rfl rfl rfl rfl) ?_
      refine y_op rfl (q_move rfl) ?_
      refine y_skip rfl ?_
      refine y_skip rfl ?_
      refine y_skip rfl ?_
      refine y_skip rfl ?_
      refine y_skip rfl ?_
      refine y_skip rfl ?_
      refine y_skip rfl ?_
      refine y_op rfl (q_pick rfl rfl rfl rfl) ?_
      refine y_op rfl (Zaa rfl) ?_
      refine AOps.nil ?_
      refine ARun.condT rfl ?_
      refine ARun.seq (ARun.region ?_)
      refine y_op rfl (Zaa rfl) ?_
      refine y_op rfl (Zaa rfl) ?_
      refine AOps.nil ?_
      refine ARun.ret ?_
      refine ⟨_, _, _, .tmp rfl (.tmp rfl .nil), .cons (.same _) (.cons (.same _) .nil), rfl, ?_⟩
      rw [if_neg (by omega)]; rfl
end Go.V
set_option maxHeartbeats 4000000
set_option synthInstance.maxSize 100000
set_option synthInstance.maxHeartbeats 2000000
namespace Go.V
open Go.RowKit Go.Proofs
end Go.V
set_option maxHeartbeats 4000000
set_option synthInstance.maxSize 100000
set_option synthInstance.maxHeartbeats 2000000
namespace Go.V
open Go.RowKit Go.Proofs
end Go.V
set_option maxHeartbeats 4000000
set_option synthInstance.maxSize 100000
set_option synthInstance.maxHeartbeats 2000000
namespace Go.V
open Go.RowKit Go.Proofs
theorem Zgf {C : Ctx} {dst : Option Tmp} {x y : Operand} {xt yt ty : TypeId} {pos : String} {aft : Array Edge} {gd : Option (Nat × Bool)} {env : List D} {H : Heap} {k : IntKind} {m n : Int} (hx : evO C env x = some (.int k m)) (hy : evO C env y = some (.int k n)) (h : m = n) : OpQ C ⟨dst, .binOp .eql xt x y yt, ty, pos, aft, gd⟩ env H (.bool true) :=
  o_int hx hy (by subst h; simp [intBin])
end Go.V
/- SLICES that are made with more room than length; rows that grow behind others. -/
namespace Go.V
open Go.RowKit
section
variable {C : Ctx} {env : List D} {H H' : Heap} {dst : Option Tmp} {ty : TypeId} {pos : String} {aft : Array Edge} {gd : Option (Nat × Bool)} {x y : Operand} {T e : TypeId} {descE : TypeDesc} {bytesE : Nat} {zeroE : Value}
end
end Go.V
/- CONTRACTS WHOSE RESULT IS A ROW that may still be written; calls that write, or that make rows, with arguments that are handed on. -/
namespace Go.V
open Go.RowKit Go.Proofs
section
variable {C : Ctx} {Q : Post} {ops : Array Oper} {rest : List Oper} {k : List Item} {env env' : List D} {H H' : Heap} {df : List ADef}
variable {dst : Option Tmp} {op : Op} {ty : TypeId} {pos : String} {aft : Array Edge} {gd : Option (Nat × Bool)} {x y : Operand} {T e : TypeId} {tee : TE}
end
end Go.V
/- THE SPECIFICATION's SHIFTS and DIVISION: plain Lean. -/
namespace Go.V
end Go.V
set_option maxHeartbeats 2000000
set_option synthInstance.maxSize 100000
set_option synthInstance.maxHeartbeats 2000000
namespace Go.V
open Go.RowKit Go.Proofs
end Go.V
set_option maxHeartbeats 8000000
set_option maxRecDepth 100000
set_option synthInstance.maxSize 100000
set_option synthInstance.maxHeartbeats 2000000
namespace Go.V
open Go.RowKit Go.Proofs
end Go.V
set_option maxHeartbeats 4000000
set_option maxRecDepth 100000
set_option synthInstance.maxSize 100000
set_option synthInstance.maxHeartbeats 2000000
namespace Go.V
open Go.RowKit Go.Proofs
theorem divW_rest {a b : Int} (w : Bool) : a - (divW w a b).1 * b = (divW w a b).2 := by
  have h := Int.mul_tdiv_add_tmod a b
  unfold divW
  split
  · dsimp only; rw [Int.mul_comm]; omega
  · have hs : stepZ a b * b = sgnd (decide (a < 0)) b.natAbs := by
      unfold stepZ
      by_cases h1 : a < 0 <;> by_cases h2 : b < 0
      · simp only [sgnd, decide_eq_true h1, decide_eq_true h2, beq_self_eq_true, Bool.not_true, cond_false, cond_true]; omega
      · simp only [sgnd, decide_eq_true h1, decide_eq_false h2, show (!(true == false)) = true from rfl, cond_true]; omega
      · simp only [sgnd, decide_eq_false h1, decide_eq_true h2, show (!(false == true)) = true from rfl, cond_true, cond_false]; omega
      · simp only [sgnd, decide_eq_false h1, decide_eq_false h2, beq_self_eq_true, Bool.not_true, cond_false]; omega
    dsimp only
    rw [Int.add_mul, hs, Int.mul_comm (a.tdiv b)]
    omega
end Go.V
/- SEVERAL VARIABLES THAT ARE WRITTEN ONCE, made and written in one statement. -/
namespace Go.V
open Go.RowKit
section
variable {C : Ctx} {Q : Post} {ops : Array Oper} {rest : List Oper} {k : List Item} {env env' : List D} {H : Heap} {df : List ADef}
structure AlW (C : Ctx) (env : List D) (t : Tmp) (T : TypeId) (y : Operand) (te : TE) (zs ds : List D) : Prop where
  ty : C.ty T = some te
  z : ∃ dz, constD te.zero = some dz ∧ cellsD dz = some zs
  zk : zs.all (okCell []) = true
  zl : zs.length = te.size
  y : ∃ d, evO C env y = some d ∧ cellsD d = some ds
  n : ds.length = te.size
  ok : ds.all (okCell []) = true
  pu : D.pure.pures ds = true
  tl : t < env.length
theorem alW {t : Tmp} {T : TypeId} {y : Operand} {te : TE} {zs ds : List D} {dz d : D} (ht : C.ty T = some te) (hz : constD te.zero = some dz) (hzs : cellsD dz = some zs) (hzk : zs.all (okCell []) = true) (hzl : zs.length = te.size) (hy : evO C env y = some d) (hc : cellsD d = some ds) (hn : ds.length = te.size) (hok : ds.all (okCell []) = true) (hpu : D.pure.pures ds = true) (htl : Nat.blt t env.length = true) : AlW C env t T y te zs ds :=
  ⟨ht, ⟨dz, hz, hzs⟩, hzk, hzl, ⟨d, hy, hc⟩, hn, hok, hpu, Nat.le_of_ble_eq_true htl⟩
variable {t1 t2 t3 : Tmp} {T1 T2 T3 : TypeId} {y1 y2 y3 : Operand} {te1 te2 te3 : TE} {zs1 ds1 zs2 ds2 zs3 ds3 : List D} {u1 u2 u3 v1 v2 v3 : TypeId} {p1 p2 p3 q1 q2 q3 : String} {a1 a2 a3 b1 b2 b3 : Array Edge}
theorem Zke {e1 e2 e3 e4 e5 : List D} [hp1 : Put env (some t1) .any e1] [hp2 : Put e1 (some t2) .any e2] [hp3 : Put e2 (some t3) .any e3] (h1 : AlW C e3 t1 T1 y1 te1 zs1 ds1) (h2 : AlW C e3 t2 T2 y2 te2 zs2 ds2) (h3 : AlW C e3 t3 T3 y3 te3 zs3 ds3) (n12 : Nat.beq t1 t2 = false) (n13 : Nat.beq t1 t3 = false) (n23 : Nat.beq t2 t3 = false) [hp4 : Put e3 (some t1) (.sptr ds1) e4] [hp5 : Put e4 (some t2) (.sptr ds2) e5] [hp6 : Put e5 (some t3) (.sptr ds3) env'] (hk : AOps C Q ops rest k env' H df) :
    AOps C Q ops (⟨some t1, .alloc T1, u1, p1, a1, none⟩ :: ⟨some t2, .alloc T2, u2, p2, a2, none⟩ :: ⟨some t3, .alloc T3, u3, p3, a3, none⟩ :: ⟨none, .store T1 (.tmp t1) y1, v1, q1, b1, none⟩ :: ⟨none, .store T2 (.tmp t2) y2, v2, q2, b2, none⟩ :: ⟨none, .store T3 (.tmp t3) y3, v3, q3, b3, none⟩ :: rest) k env H df := by
  obtain ⟨dz1, z1, z1'⟩ := h1.z
  obtain ⟨d1, w1, w1'⟩ := h1.y
  have l1 : t1 < env.length := by have := h1.tl; rw [← hp3.eq, ← hp2.eq, ← hp1.eq] at this; simpa [envPut] using this
  obtain ⟨dz2, z2, z2'⟩ := h2.z
  obtain ⟨d2, w2, w2'⟩ := h2.y
  have l2 : t2 < e1.length := by have := h2.tl; rw [← hp3.eq, ← hp2.eq] at this; simpa [envPut] using this
  obtain ⟨dz3, z3, z3'⟩ := h3.z
  obtain ⟨d3, w3, w3'⟩ := h3.y
  have l3 : t3 < e2.length := by have := h3.tl; rw [← hp3.eq] at this; simpa [envPut] using this
  have m12 : t1 ≠ t2 := fun e => by rw [e, Nat.beq_refl] at n12; cases n12
  have m13 : t1 ≠ t3 := fun e => by rw [e, Nat.beq_refl] at n13; cases n13
  have m23 : t2 ≠ t3 := fun e => by rw [e, Nat.beq_refl] at n23; cases n23
  refine ⟨fun i hi => ?_⟩
  have i1 := hi
  have o1 := drop_get i1
  have i2 := drop_next i1
  rw [Array.getElem?_toList] at o1
  have o2 := drop_get i2
  have i3 := drop_next i2
  rw [Array.getElem?_toList] at o2
  have o3 := drop_get i3
  have i4 := drop_next i3
  rw [Array.getElem?_toList] at o3
  have o4 := drop_get i4
  have i5 := drop_next i4
  rw [Array.getElem?_toList] at o4
  have o5 := drop_get i5
  have i6 := drop_next i5
  rw [Array.getElem?_toList] at o5
  have o6 := drop_get i6
  have i7 := drop_next i6
  rw [Array.getElem?_toList] at o6
  have b12 : Nat.beq (i) (i + 1) = false := by cases h : Nat.beq (i) (i + 1) with | false => rfl | true => have := Nat.eq_of_beq_eq_true h; omega
  have b13 : Nat.beq (i) (i + 2) = false := by cases h : Nat.beq (i) (i + 2) with | false => rfl | true => have := Nat.eq_of_beq_eq_true h; omega
  have b21 : Nat.beq (i + 1) (i) = false := by cases h : Nat.beq (i + 1) (i) with | false => rfl | true => have := Nat.eq_of_beq_eq_true h; omega
  have b23 : Nat.beq (i + 1) (i + 2) = false := by cases h : Nat.beq (i + 1) (i + 2) with | false => rfl | true => have := Nat.eq_of_beq_eq_true h; omega
  have b31 : Nat.beq (i + 2) (i) = false := by cases h : Nat.beq (i + 2) (i) with | false => rfl | true => have := Nat.eq_of_beq_eq_true h; omega
  have b32 : Nat.beq (i + 2) (i + 1) = false := by cases h : Nat.beq (i + 2) (i + 1) with | false => rfl | true => have := Nat.eq_of_beq_eq_true h; omega
  let al : Nat → Option Alc := fun j => bif Nat.beq j (i) then some (t1, T1, zs1) else bif Nat.beq j (i + 1) then some (t2, T2, zs2) else bif Nat.beq j (i + 2) then some (t3, T3, zs3) else none
  refine ARun.ofAS (al := al) (pe := fun _ => false) (fun _ => rfl) ?_
  simp only [List.length_cons, List.range'_succ]
  refine AS.alloc o1 h1.ty z1 z1' h1.zk (by simp only [upd, al, b12, b13, b21, b23, b31, b32, Nat.beq_refl, cond_true, cond_false]) (by simp only [upd, al, b12, b13, b21, b23, b31, b32, Nat.beq_refl, cond_true, cond_false]) (fun j t' T cs h h' => ?_) l1 ?_
  · cases h
  rw [hp1.eq]
  refine AS.alloc o2 h2.ty z2 z2' h2.zk (by simp only [upd, al, b12, b13, b21, b23, b31, b32, Nat.beq_refl, cond_true, cond_false]) (by simp only [upd, al, b12, b13, b21, b23, b31, b32, Nat.beq_refl, cond_true, cond_false]) (fun j t' T cs h h' => ?_) l2 ?_
  · by_cases e1 : j = i
    · subst e1; simp only [al, b12, b13, b21, b23, b31, b32, Nat.beq_refl, cond_true, cond_false] at h'; injection h' with h'; injection h' with h' _; rw [← h']; exact fun e => m12 e.symm
    rw [upd_ne _ e1] at h; cases h
  rw [hp2.eq]
  refine AS.alloc o3 h3.ty z3 z3' h3.zk (by simp only [upd, al, b12, b13, b21, b23, b31, b32, Nat.beq_refl, cond_true, cond_false]) (by simp only [upd, al, b12, b13, b21, b23, b31, b32, Nat.beq_refl, cond_true, cond_false]) (fun j t' T cs h h' => ?_) l3 ?_
  · by_cases e1 : j = i
    · subst e1; simp only [al, b12, b13, b21, b23, b31, b32, Nat.beq_refl, cond_true, cond_false] at h'; injection h' with h'; injection h' with h' _; rw [← h']; exact fun e => m13 e.symm
    by_cases e2 : j = i + 1
    · subst e2; simp only [al, b12, b13, b21, b23, b31, b32, Nat.beq_refl, cond_true, cond_false] at h'; injection h' with h'; injection h' with h' _; rw [← h']; exact fun e => m23 e.symm
    rw [upd_ne _ e2, upd_ne _ e1] at h; cases h
  rw [hp3.eq]
  refine AS.stp (j := i) o4 h1.ty (by simp only [upd, al, b12, b13, b21, b23, b31, b32, Nat.beq_refl, cond_true, cond_false]) (by simp only [upd, al, b12, b13, b21, b23, b31, b32, Nat.beq_refl, cond_true, cond_false]) w1 w1' h1.n (Nat.le_of_eq h1.zl.symm) h1.ok h1.pu ?_
  refine AS.stp (j := i + 1) o5 h2.ty (by simp only [upd, al, b12, b13, b21, b23, b31, b32, Nat.beq_refl, cond_true, cond_false]) (by simp only [upd, al, b12, b13, b21, b23, b31, b32, Nat.beq_refl, cond_true, cond_false]) w2 w2' h2.n (Nat.le_of_eq h2.zl.symm) h2.ok h2.pu ?_
  refine AS.stp (j := i + 2) o6 h3.ty (by simp only [upd, al, b12, b13, b21, b23, b31, b32, Nat.beq_refl, cond_true, cond_false]) (by simp only [upd, al, b12, b13, b21, b23, b31, b32, Nat.beq_refl, cond_true, cond_false]) w3 w3' h3.n (Nat.le_of_eq h3.zl.symm) h3.ok h3.pu ?_
  refine AS.fix (j := i) (t := t1) (T := T1) (cs := ds1) (by simp only [upd, al, b12, b13, b21, b23, b31, b32, Nat.beq_refl, cond_true, cond_false]) (by simp only [upd, al, b12, b13, b21, b23, b31, b32, Nat.beq_refl, cond_true, cond_false]) h1.pu ?_
  refine AS.fix (j := i + 1) (t := t2) (T := T2) (cs := ds2) (by simp only [upd, al, b12, b13, b21, b23, b31, b32, Nat.beq_refl, cond_true, cond_false]) (by simp only [upd, al, b12, b13, b21, b23, b31, b32, Nat.beq_refl, cond_true, cond_false]) h2.pu ?_
  refine AS.fix (j := i + 2) (t := t3) (T := T3) (cs := ds3) (by simp only [upd, al, b12, b13, b21, b23, b31, b32, Nat.beq_refl, cond_true, cond_false]) (by simp only [upd, al, b12, b13, b21, b23, b31, b32, Nat.beq_refl, cond_true, cond_false]) h3.pu ?_
  refine AS.run (fun j => ?_) ?_
  · by_cases e1 : j = i
    · subst e1; simp only [upd, al, b12, b13, b21, b23, b31, b32, Nat.beq_refl, cond_true, cond_false]
    by_cases e2 : j = i + 1
    · subst e2; simp only [upd, al, b12, b13, b21, b23, b31, b32, Nat.beq_refl, cond_true, cond_false]
    by_cases e3 : j = i + 2
    · subst e3; simp only [upd, al, b12, b13, b21, b23, b31, b32, Nat.beq_refl, cond_true, cond_false]
    have c1 : Nat.beq j (i) = false := by cases h : Nat.beq j (i) with | false => rfl | true => exact (e1 (Nat.eq_of_beq_eq_true h)).elim
    have c2 : Nat.beq j (i + 1) = false := by cases h : Nat.beq j (i + 1) with | false => rfl | true => exact (e2 (Nat.eq_of_beq_eq_true h)).elim
    have c3 : Nat.beq j (i + 2) = false := by cases h : Nat.beq j (i + 2) with | false => rfl | true => exact (e3 (Nat.eq_of_beq_eq_true h)).elim
    simp only [upd, c1, c2, c3, cond_false]
  · have x1 := hp4.eq
    have x2 := hp5.eq
    have x3 := hp6.eq
    simp only [envPut] at x1 x2 x3
    rw [x1, x2, x3]
    exact hk.out _ i7
end
end Go.V
set_option maxHeartbeats 4000000
set_option maxRecDepth 100000
set_option synthInstance.maxSize 100000
set_option synthInstance.maxHeartbeats 2000000
namespace Go.V
open Go.RowKit Go.Proofs
theorem kindF_none {how : Int} : kindF how = none ↔ how < 1 ∨ 4 < how := by
  unfold kindF
  repeat' split
  all_goals simp
  all_goals omega
theorem ZiP {C : Ctx} {dst : Option Tmp} {x y : Operand} {xt yt ty : TypeId} {pos : String} {aft : Array Edge} {gd : Option (Nat × Bool)} {env : List D} {H : Heap} {k : IntKind} {m n : Int} (hx : evO C env x = some (.int k m)) (hy : evO C env y = some (.int k n)) (h : m = n) : OpQ C ⟨dst, .binOp .neq xt x y yt, ty, pos, aft, gd⟩ env H (.bool false) :=
  o_int hx hy (by subst h; simp [intBin])
end Go.V
/- A FIELD OF A STRUCT that is no variable. -/
namespace Go.V
open Go.RowKit
section
variable {C : Ctx} {env : List D} {H : Heap} {dst : Option Tmp} {ty : TypeId} {pos : String} {aft : Array Edge} {gd : Option (Nat × Bool)} {x : Operand} {T : TypeId} {te : TE} {f : Nat} {cs ds : List D} {d : D} {fields : Array Field} {fl : Field}
end
end Go.V
set_option maxHeartbeats 4000000
set_option maxRecDepth 100000
set_option synthInstance.maxSize 100000
set_option synthInstance.maxHeartbeats 2000000
namespace Go.V
open Go.RowKit Go.Proofs
end Go.V
/- A cell of an object, told anew. -/
namespace Go.V
open Go.RowKit
end Go.V
set_option maxHeartbeats 4000000
set_option maxRecDepth 100000
set_option synthInstance.maxSize 100000
set_option synthInstance.maxHeartbeats 2000000
namespace Go.V
open Go.RowKit Go.Proofs
structure Iv (a m : Int) (b c X Y : Nat) (s : Int) : Prop where
  sg : s = 1 ∨ s = -1
  e1 : ∃ k : Int, a * (-s * X) + m * k = b
  e2 : ∃ k : Int, a * (s * Y) + m * k = c
  sum : X * c + Y * b = m.natAbs
  hX : X ≤ m.natAbs
  hb : 0 < b
  g : Nat.gcd b c = 1
  bm : b ≤ m.natAbs
  cm : c ≤ m.natAbs
theorem Iv.init {a m x0 y0 : Int} (hm : 0 < m) (h : a * x0 + m * y0 = 1) : Iv a m m.natAbs (a % m).natAbs 0 1 1 := by
  have hr := Int.emod_nonneg a (show m ≠ 0 by omega)
  have hr2 := Int.emod_lt_of_pos a hm
  have hd := Int.mul_ediv_add_emod a m
  refine ⟨.inl rfl, ⟨1, by simp; omega⟩, ⟨-(a / m), ?_⟩, by simp, Nat.zero_le _, by omega, ?_, Nat.le_refl _, by omega⟩
  · have : ((a % m).natAbs : Int) = a % m := by omega
    rw [this, Int.mul_neg]
    show a * (1 * 1) + -(m * (a / m)) = a % m
    rw [Int.one_mul, Int.mul_one]
    omega
  · have hg1 : ((Nat.gcd m.natAbs (a % m).natAbs : Nat) : Int) ∣ m := Int.ofNat_dvd_left.2 (Nat.gcd_dvd_left _ _)
    have hg2 : ((Nat.gcd m.natAbs (a % m).natAbs : Nat) : Int) ∣ (a % m) := Int.ofNat_dvd_left.2 (Nat.gcd_dvd_right _ _)
    have hg3 : ((Nat.gcd m.natAbs (a % m).natAbs : Nat) : Int) ∣ a := by
      have h5 := Int.dvd_add (Int.dvd_trans hg1 (Int.dvd_mul_right m (a / m))) hg2
      rwa [hd] at h5
    have hg4 : ((Nat.gcd m.natAbs (a % m).natAbs : Nat) : Int) ∣ 1 := by
      rw [← h]; exact Int.dvd_add (Int.dvd_trans hg3 (Int.dvd_mul_right _ _)) (Int.dvd_trans hg1 (Int.dvd_mul_right _ _))
    have := Int.le_of_dvd (by decide) hg4
    have hpos : 0 < Nat.gcd m.natAbs (a % m).natAbs := Nat.gcd_pos_of_pos_left _ (by omega)
    omega
theorem Iv.step {a m : Int} {b c X Y : Nat} {s : Int} (h : Iv a m b c X Y s) (hc : 0 < c) : Iv a m c (b % c) Y (X + b / c * Y) (-s) := by
  obtain ⟨k1, e1⟩ := h.e1
  obtain ⟨k2, e2⟩ := h.e2
  have hdm := Nat.div_add_mod b c
  have hdmZ : (c : Int) * ((b / c : Nat) : Int) + ((b % c : Nat) : Int) = (b : Int) := by rw [← Int.natCast_mul, ← Int.natCast_add, hdm]
  have hY : Y ≤ m.natAbs := by
    have := h.sum
    have h2 : Y * 1 ≤ Y * b := Nat.mul_le_mul_left _ h.hb
    omega
  refine ⟨by rcases h.sg with e | e <;> omega, ⟨k2, ?_⟩, ⟨k1 - ((b / c : Nat) : Int) * k2, ?_⟩, ?_, hY, hc, ?_, h.cm, Nat.le_trans (Nat.le_of_lt (Nat.mod_lt _ hc)) h.cm⟩
  · rw [Int.neg_neg]; exact e2
  · have e3 : ((b % c : Nat) : Int) = (a * (-s * X) + m * k1) - ((b / c : Nat) : Int) * (a * (s * Y) + m * k2) := by
      rw [e1, e2, Int.mul_comm ((b / c : Nat) : Int)]; omega
    rw [e3]
    push_cast
    simp only [Int.mul_add, Int.mul_sub, Int.neg_mul, Int.mul_neg]
    have t1 : a * (s * (((b : Int) / (c : Int)) * (Y : Int))) = ((b : Int) / (c : Int)) * (a * (s * (Y : Int))) := by
      rw [Int.mul_left_comm s, Int.mul_left_comm a]
    have t2 : m * (((b : Int) / (c : Int)) * k2) = ((b : Int) / (c : Int)) * (m * k2) := Int.mul_left_comm _ _ _
    rw [t1, t2]
    omega
  · have h1 := h.sum
    have h2 : Y * b = Y * (c * (b / c)) + Y * (b % c) := by rw [← Nat.mul_add, hdm]
    have h3 : (X + b / c * Y) * c = X * c + Y * (c * (b / c)) := by
      rw [Nat.add_mul]; congr 1
      simp only [Nat.mul_comm, Nat.mul_left_comm]
    omega
  · rw [← h.g, Nat.gcd_comm b c, Nat.gcd_rec c b, Nat.gcd_comm]
theorem Iv.fin {a m x0 y0 : Int} {b X Y : Nat} {s : Int} (hm : 0 < m) (h0 : a * x0 + m * y0 = 1) (h : Iv a m b 0 X Y s) : (-s * X) % m = x0 % m := by
  have hb : b = 1 := by have := h.g; rwa [Nat.gcd_zero_right] at this
  obtain ⟨k, e⟩ := h.e1
  rw [hb] at e
  generalize -s * (X : Int) = x at e
  rw [Int.emod_eq_emod_iff_emod_sub_eq_zero]
  apply Int.emod_eq_zero_of_dvd
  refine ⟨x0 * (y0 - k) + y0 * (x - x0), ?_⟩
  have e1 : x - x0 = (a * x0 + m * y0) * (x - x0) := by rw [h0, Int.one_mul]
  have e2 : a * (x - x0) = m * (y0 - k) := by
    rw [Int.mul_sub, Int.mul_sub]; push_cast at e; omega
  have e3 : (a * x0 + m * y0) * (x - x0) = x0 * (a * (x - x0)) + m * (y0 * (x - x0)) := by
    rw [Int.add_mul, Int.mul_comm a x0, Int.mul_assoc, Int.mul_assoc]
  have e4 : (a * x0 + m * y0) * (x - x0) = m * (x0 * (y0 - k) + y0 * (x - x0)) := by rw [e3, e2, Int.mul_add, Int.mul_left_comm x0 m]
  exact e1.trans e4
end Go.V
set_option maxHeartbeats 4000000
set_option maxRecDepth 100000
set_option synthInstance.maxSize 100000
set_option synthInstance.maxHeartbeats 2000000
namespace Go.V
open Go.RowKit Go.Proofs
end Go.V
set_option maxHeartbeats 4000000
set_option synthInstance.maxSize 100000
set_option synthInstance.maxHeartbeats 2000000
namespace Go.V
open Go.RowKit Go.Proofs
theorem ZlI (x y : Int) (hx : (lim x.natAbs).length ≤ 1000000) : PC C ZdN [intD x, intD y] (fun o => o = .ret (.bool (decide (x = y)))) := by
  refine PC.run Zdh Zg8 rfl Zg9 rfl (rs := [.tmp 4]) (by rw [Zha]) (by simp only [List.length_cons, List.length_nil, Nat.reduceAdd, Nat.reduceSub, List.replicate_succ, List.replicate_zero, List.cons_append, List.nil_append]; exact rfl) ?_
  refine ARun.seq (ARun.region ?_)
  refine y_op rfl (q_boxF rfl rfl rfl rfl) ?_
  refine y_op rfl (q_boxF rfl rfl rfl rfl) ?_
  refine y_op rfl (Zaa rfl) ?_
  refine AOps.nil (ARun.seq (ARun.seq (ARun.region ?_)))
  refine y_op rfl (q_fldS rfl rfl rfl (by decide)) ?_
  refine y_op rfl (q_load rfl rfl rfl rfl) ?_
  refine y_op rfl (q_fldS rfl rfl rfl (by decide)) ?_
  refine y_op rfl (q_load rfl rfl rfl rfl) ?_
  refine y_op rfl (Zbe rfl rfl rfl) ?_
  refine y_op rfl (q_move rfl) ?_
  refine AOps.bool 11 rfl (fun h1 => ?_) (fun h1 => ?_)
  · skip
    refine y_skip rfl ?_
    refine y_skip rfl ?_
    refine y_skip rfl ?_
    refine y_skip rfl ?_
    refine y_skip rfl ?_
    refine y_skip rfl ?_
    refine y_skip rfl ?_
    refine y_op rfl (q_pick rfl rfl rfl rfl) ?_
    refine AOps.nil ?_
    refine ARun.condT rfl ?_
    refine ARun.seq (ARun.region ?_)
    refine y_op rfl (Zaa rfl) ?_
    refine AOps.nil ?_
    refine ARun.ret ?_
    refine ⟨_, _, _, .tmp rfl .nil, .cons (.same _) .nil, rfl, ?_⟩
    have : x ≠ y := by intro e; subst e; simp at h1
    rw [decide_eq_false this]; rfl
  · skip
    have hs : (decide (x < 0) == decide (y < 0)) = true := by simpa using h1
    refine y_op rfl (q_fldS rfl rfl rfl (by decide)) ?_
    refine y_op rfl (q_load rfl rfl rfl rfl) ?_
    refine y_op rfl (Zaf rfl rfl) ?_
    refine y_op rfl (q_fldS rfl rfl rfl (by decide)) ?_
    refine y_op rfl (q_load rfl rfl rfl rfl) ?_
    refine y_op rfl (Zaf rfl rfl) ?_
    refine y_op rfl (q_int rfl rfl rfl) ?_
    refine y_op rfl (q_pick rfl rfl rfl rfl) ?_
    refine AOps.nil ?_
    refine ARun.cond rfl (fun h2 => ?_) (fun h2 => ?_)
    · skip
      refine ARun.seq (ARun.region ?_)
      refine y_op rfl (Zaa rfl) ?_
      refine AOps.nil ?_
      refine ARun.ret ?_
      refine ⟨_, _, _, .tmp rfl .nil, .cons (.same _) .nil, rfl, ?_⟩
      have : x ≠ y := by intro e; subst e; simp at h2
      rw [decide_eq_false this]; rfl
    · skip
      have hl : (lim x.natAbs).length = (lim y.natAbs).length := by
        have h : ((lim x.natAbs).length : Int) = (lim y.natAbs).length := by simpa using h2
        omega
      refine ARun.skip (ARun.seq (ARun.seq (ARun.region ?_)))
      refine y_op rfl (Zaa rfl) ?_
      refine AOps.nil (ARun.block ?_)
      refine ARun.loopI (S := Nat) (fun i : Nat => [(4, .any), (20, .any), (21, .any), (22, .any), (23, .any), (24, .any), (25, .any), (26, .any), (27, .any), (28, .any), (29, .any), (30, .any), (31, .any), (32, .any), (33, .any), (34, .any), (35, .any), (36, .any), (37, .any), (5, .int .i64 (i : Int))]) (fun i : Nat => []) (fun i : Nat => i ≤ (lim x.natAbs).length ∧ ∀ j, j < i → (lim x.natAbs).getD j 0 = (lim y.natAbs).getD j 0) (fun i : Nat => (lim x.natAbs).length - i) (0) ?_ ?_ ?_ ?_
      · exact ⟨Nat.zero_le _, fun j h => absurd h (Nat.not_lt_zero _)⟩
      · (repeat' first | exact envLe_nil | apply envLe_any | apply envLe_same)
      · rfl
      rintro i hinv ih
      obtain ⟨hi, hsm⟩ := hinv
      refine ARun.seq (ARun.seq (ARun.region ?_))
      refine y_op rfl (q_move rfl) ?_
      refine y_op rfl (q_fldS rfl rfl rfl (by decide)) ?_
      refine y_op rfl (q_load rfl rfl rfl rfl) ?_
      refine y_op rfl (Zaf rfl rfl) ?_
      refine y_op rfl (q_int rfl rfl rfl) ?_
      refine AOps.nil ?_
      refine ARun.ite rfl (fun h3 => ?_) (fun h3 => ?_)
      · skip
        refine ARun.skip (ARun.seq (ARun.block (ARun.seq ?_)))
        refine ARun.drawnP 11 (fun _ => False) mixC rfl rfl (by kernel_rfl) (fun _ _ h => h.elim) ?_
        refine .op rfl (q_fldS rfl rfl rfl (by decide)) ?_
        refine .op rfl (q_load rfl rfl rfl rfl) ?_
        refine .op rfl (q_move rfl) ?_
        refine .op rfl (Zak (i := (i : Int)) rfl rfl rfl rfl (by omega) (by omega) (nts_ne (by omega)) (drop_nat rfl)) ?_
        refine .op rfl (q_load rfl rfl rfl (nts_load (xs := lim x.natAbs) (i := i) (by omega))) ?_
        refine .op rfl (q_fldS rfl rfl rfl (by decide)) ?_
        refine .op rfl (q_load rfl rfl rfl rfl) ?_
        refine .op rfl (q_move rfl) ?_
        refine .op rfl (Zak (i := (i : Int)) rfl rfl rfl rfl (by omega) (by omega) (nts_ne (by omega)) (drop_nat rfl)) ?_
        refine .op rfl (q_load rfl rfl rfl (nts_load (xs := lim y.natAbs) (i := i) (by omega))) ?_
        refine .op rfl (q_int rfl rfl rfl) ?_
        refine .nil (fun hG => ?_)
        refine AOps.nil ?_
        refine ARun.cond rfl (fun h4 => ?_) (fun h4 => ?_)
        · skip
          refine ARun.seq (ARun.region ?_)
          refine y_op rfl (Zaa rfl) ?_
          refine AOps.nil ?_
          refine ARun.ret ?_
          refine ⟨_, _, _, .tmp rfl .nil, .cons (.same _) .nil, rfl, ?_⟩
          have : x ≠ y := by intro e; subst e; simp at h4
          rw [decide_eq_false this]; rfl
        · skip
          have h4 : (lim x.natAbs).getD i 0 = (lim y.natAbs).getD i 0 := by
            have : (((lim x.natAbs).getD i 0 : Nat) : Int) = (((lim y.natAbs).getD i 0 : Nat) : Int) := by simpa using h4
            omega
          refine ARun.skip (ARun.inBlock (ARun.region ?_))
          refine y_op rfl (q_move rfl) ?_
          refine y_op rfl (q_add rfl rfl (nadd1_i64 (by omega))) ?_
          refine y_op rfl (Zaa rfl) ?_
          refine AOps.nil ?_
          refine ARun.again (ih ((i + 1)) ?_ ?_) ?_ ?_
          · exact ⟨by omega, fun j hj => by rcases Nat.lt_succ_iff_lt_or_eq.1 hj with h | rfl; exact hsm j h; exact h4⟩
          · omega
          · (repeat' first | exact envLe_nil | apply envLe_any | apply envLe_same)
          · rfl
      · skip
        refine ARun.exit rfl ?_
        refine ARun.seq (ARun.region ?_)
        refine y_op rfl (Zaa rfl) ?_
        refine AOps.nil ?_
        refine ARun.ret ?_
        refine ⟨_, _, _, .tmp rfl .nil, .cons (.same _) .nil, rfl, ?_⟩
        have e : lim x.natAbs = lim y.natAbs := by
          apply List.ext_getElem?
          intro j
          by_cases hj : j < (lim x.natAbs).length
          · have := hsm j (by omega)
            rw [List.getD_eq_getElem?_getD, List.getD_eq_getElem?_getD, List.getElem?_eq_getElem hj, List.getElem?_eq_getElem (by omega)] at this
            rw [List.getElem?_eq_getElem hj, List.getElem?_eq_getElem (by omega)]
            exact congrArg some this
          · rw [List.getElem?_eq_none (by omega), List.getElem?_eq_none (by omega)]
        have := decEqZ x y
        rw [hs, decide_eq_true e] at this
        rw [← this]; rfl
theorem Zmp (l : List (Bool × List Nat)) (n : Nat) (hn : l.length = n) (m : Nat) : PC C Zi4 [.sl n (cellsI l), .int .i64 (m : Int)] (fun o => o = .ret (.bool (l.all fun d => decide (d.2.length ≤ m) && okI d))) := by
  refine PC.run ZdM Zh7 rfl Zh8 rfl (rs := [.tmp 4]) (by rw [Zh9]) (by simp only [List.length_cons, List.length_nil, Nat.reduceAdd, Nat.reduceSub, List.replicate_succ, List.replicate_zero, List.cons_append, List.nil_append]; exact rfl) ?_
  refine ARun.lenle 0 rfl (fun hlen => ?_)
  rw [maxLen_eq] at hlen
  refine ARun.seq (ARun.region ?_)
  refine y_op rfl (Zaa rfl) ?_
  refine AOps.nil (ARun.seq (ARun.seq (ARun.region ?_)))
  refine y_op rfl (Zaa rfl) ?_
  refine AOps.nil (ARun.block ?_)
  refine ARun.loopI (S := Nat) (fun i : Nat => [(4, .any), (6, .any), (7, .any), (8, .any), (9, .any), (10, .any), (11, .any), (12, .any), (13, .any), (14, .any), (15, .any), (16, .any), (17, .any), (18, .any), (19, .any), (20, .any), (21, .any), (22, .any), (23, .any), (24, .any), (25, .any), (26, .any), (27, .any), (5, .int .i64 (i : Int))]) (fun i : Nat => []) (fun i : Nat => i ≤ n ∧ (l.all fun d => decide (d.2.length ≤ m) && okI d) = ((l.drop i).all fun d => decide (d.2.length ≤ m) && okI d)) (fun i : Nat => n - i) (0) ?_ ?_ ?_ ?_
  · exact ⟨Nat.zero_le _, rfl⟩
  · (repeat' first | exact envLe_nil | apply envLe_any | apply envLe_same)
  · rfl
  rintro i hinv ih
  obtain ⟨hi, he⟩ := hinv
  refine ARun.seq (ARun.seq (ARun.region ?_))
  refine y_op rfl (q_move rfl) ?_
  refine y_op rfl (q_move rfl) ?_
  refine y_op rfl (Zaf rfl rfl) ?_
  refine y_op rfl (q_int rfl rfl rfl) ?_
  refine AOps.nil ?_
  refine ARun.ite rfl (fun h => ?_) (fun h => ?_)
  · skip
    have hlt : i < l.length := by omega
    have hdr : l.drop i = l[i] :: l.drop (i + 1) := List.drop_eq_getElem_cons hlt
    have hcd := cellsI_drop l i
    rw [hdr] at hcd
    rw [hdr, List.all_cons] at he
    have hne : cellsI l ≠ [] := fun e => by have := cellsI_len l; rw [e] at this; simp at this; omega
    refine ARun.skip (ARun.seq (ARun.block (ARun.seq (ARun.region ?_))))
    refine y_op rfl (q_move rfl) ?_
    refine y_op rfl (q_move rfl) ?_
    refine y_op rfl (Zak rfl rfl rfl rfl (by omega) (by omega) hne hcd) ?_
    refine y_op rfl (q_fldS rfl rfl rfl (by decide)) ?_
    refine y_op rfl (q_load rfl rfl rfl rfl) ?_
    refine y_op rfl (Zaf rfl rfl) ?_
    refine y_op rfl (q_move rfl) ?_
    refine y_op rfl (q_int rfl rfl rfl) ?_
    refine y_op rfl (q_move rfl) ?_
    refine AOps.bool 20 rfl (fun h2 => ?_) (fun h2 => ?_)
    · skip
      have h2 : ¬ l[i].2.length ≤ m := by have := of_decide_eq_true h2; omega
      refine y_skip rfl ?_
      refine y_skip rfl ?_
      refine y_skip rfl ?_
      refine y_skip rfl ?_
      refine y_skip rfl ?_
      refine y_skip rfl ?_
      refine y_op rfl (q_pick rfl rfl rfl rfl) ?_
      refine AOps.nil ?_
      refine ARun.condT rfl ?_
      refine ARun.seq (ARun.region ?_)
      refine y_op rfl (Zaa rfl) ?_
      refine AOps.nil ?_
      refine ARun.ret ?_
      refine ⟨_, _, _, .tmp rfl .nil, .cons (.same _) .nil, rfl, ?_⟩
      rw [he, decide_eq_false h2]; rfl
    · skip
      have h2 : l[i].2.length ≤ m := by have := of_decide_eq_false h2; omega
      refine y_op rfl (q_move rfl) ?_
      refine y_op rfl (q_move rfl) ?_
      refine y_op rfl (Zak rfl rfl rfl rfl (by omega) (by omega) hne hcd) ?_
      refine y_op rfl (Zad (ds := [.bool l[i].1, sln .u32 l[i].2]) rfl rfl rfl rfl rfl) ?_
      refine y_op rfl (q_call rfl rfl (Zde l[i])) ?_
      refine y_op rfl (q_not rfl) ?_
      refine y_op rfl (q_pick rfl rfl rfl rfl) ?_
      refine AOps.nil ?_
      refine ARun.cond rfl (fun h3 => ?_) (fun h3 => ?_)
      · skip
        have h3 : okI l[i] = false := by simpa using h3
        refine ARun.seq (ARun.region ?_)
        refine y_op rfl (Zaa rfl) ?_
        refine AOps.nil ?_
        refine ARun.ret ?_
        refine ⟨_, _, _, .tmp rfl .nil, .cons (.same _) .nil, rfl, ?_⟩
        rw [he, h3, Bool.and_false]; rfl
      · skip
        have h3 : okI l[i] = true := by simpa using h3
        refine ARun.skip (ARun.inBlock (ARun.region ?_))
        refine y_op rfl (q_move rfl) ?_
        refine y_op rfl (q_add rfl rfl (nadd1_i64 (by omega))) ?_
        refine y_op rfl (Zaa rfl) ?_
        refine AOps.nil ?_
        refine ARun.again (ih ((i + 1)) ?_ ?_) ?_ ?_
        · exact ⟨by omega, by rw [he, h3, decide_eq_true h2]; rfl⟩
        · omega
        · (repeat' first | exact envLe_nil | apply envLe_any | apply envLe_same)
        · rfl
  · skip
    refine ARun.exit rfl ?_
    refine ARun.seq (ARun.region ?_)
    refine y_op rfl (Zaa rfl) ?_
    refine AOps.nil ?_
    refine ARun.ret ?_
    refine ⟨_, _, _, .tmp rfl .nil, .cons (.same _) .nil, rfl, ?_⟩
    rw [he, List.drop_of_length_le (by omega)]; rfl
theorem ZiQ (x y : Int) (hx : fitZ x) (hy : fitZ y) (h : fitZ (x + y)) : PC C Zkq [intD x, intD y] (fun o => o = .ret (intD (x + y))) := by
  refine PC.run ZeZ Zi5 rfl Zi6 rfl (rs := [.cell 4 25]) (by rw [Zi7]) (by simp only [List.length_cons, List.length_nil, Nat.reduceAdd, Nat.reduceSub, List.replicate_succ, List.replicate_zero, List.cons_append, List.nil_append]; exact rfl) ?_
  refine ARun.seq (ARun.region ?_)
  refine y_op rfl (q_boxF rfl rfl rfl rfl) ?_
  refine y_op rfl (q_boxF rfl rfl rfl rfl) ?_
  refine y_new rfl (Zag rfl rfl rfl rfl) ?_
  refine AOps.nil (ARun.seq (ARun.region ?_))
  refine y_op rfl (Zad rfl rfl rfl rfl rfl) ?_
  refine y_op rfl (Zad rfl rfl rfl rfl rfl) ?_
  refine y_op rfl (q_call rfl rfl (ZmK (decide (x < 0), lim x.natAbs) (decide (y < 0), lim y.natAbs) (U32_lim _) (U32_lim _))) ?_
  refine y_op rfl (q_move rfl) ?_
  refine y_op rfl (Zab rfl rfl) ?_
  refine y_op rfl (Zab rfl rfl) ?_
  refine y_new rfl (Zag rfl rfl rfl rfl) ?_
  refine y_new rfl (Zac rfl rfl rfl rfl rfl rfl rfl rfl (Nat.le_of_ble_eq_true rfl) rfl) ?_
  refine y_op rfl (Zaa rfl) ?_
  refine AOps.nil (ARun.seq (ARun.region ?_))
  refine y_op rfl (Zae rfl rfl rfl rfl rfl rfl) ?_
  refine y_new rfl (Zac rfl rfl rfl rfl rfl rfl rfl rfl (Nat.le_of_ble_eq_true rfl) rfl) ?_
  refine AOps.nil ?_
  refine ARun.ret ?_
  refine ⟨_, _, _, ResR.cellA rfl rfl rfl rfl rfl rfl .nil, .cons (.same _) .nil, rfl, ?_⟩
  rw [okI_of2 hx hy, valI_int, valI_int, fitO_t h]; rfl
theorem ZmR (x y : Int) (hx : fitZ x) (hy : fitZ y) (h : fitZ (x - y)) : PC C Zkr [intD x, intD y] (fun o => o = .ret (intD (x - y))) := by
  refine PC.run Ze0 Zi8 rfl Zi9 rfl (rs := [.cell 4 25]) (by rw [Zja]) (by simp only [List.length_cons, List.length_nil, Nat.reduceAdd, Nat.reduceSub, List.replicate_succ, List.replicate_zero, List.cons_append, List.nil_append]; exact rfl) ?_
  refine ARun.seq (ARun.region ?_)
  refine y_op rfl (q_boxF rfl rfl rfl rfl) ?_
  refine y_op rfl (q_boxF rfl rfl rfl rfl) ?_
  refine y_new rfl (Zag rfl rfl rfl rfl) ?_
  refine AOps.nil (ARun.seq (ARun.region ?_))
  refine y_op rfl (Zad rfl rfl rfl rfl rfl) ?_
  refine y_op rfl (Zad rfl rfl rfl rfl rfl) ?_
  refine y_op rfl (q_call rfl rfl (ZmL (decide (x < 0), lim x.natAbs) (decide (y < 0), lim y.natAbs) (U32_lim _) (U32_lim _))) ?_
  refine y_op rfl (q_move rfl) ?_
  refine y_op rfl (Zab rfl rfl) ?_
  refine y_op rfl (Zab rfl rfl) ?_
  refine y_new rfl (Zag rfl rfl rfl rfl) ?_
  refine y_new rfl (Zac rfl rfl rfl rfl rfl rfl rfl rfl (Nat.le_of_ble_eq_true rfl) rfl) ?_
  refine y_op rfl (Zaa rfl) ?_
  refine AOps.nil (ARun.seq (ARun.region ?_))
  refine y_op rfl (Zae rfl rfl rfl rfl rfl rfl) ?_
  refine y_new rfl (Zac rfl rfl rfl rfl rfl rfl rfl rfl (Nat.le_of_ble_eq_true rfl) rfl) ?_
  refine AOps.nil ?_
  refine ARun.ret ?_
  refine ⟨_, _, _, ResR.cellA rfl rfl rfl rfl rfl rfl .nil, .cons (.same _) .nil, rfl, ?_⟩
  rw [okI_of2 hx hy, valI_int, valI_int, fitO_t h]; rfl
end Go.V
set_option maxHeartbeats 8000000
set_option maxRecDepth 100000
set_option synthInstance.maxSize 100000
set_option synthInstance.maxHeartbeats 2000000
namespace Go.V
open Go.RowKit Go.Proofs
abbrev lnZ (z : Int) : Nat := (lim z.natAbs).length
theorem lnZ_add {x y : Int} {m n : Nat} (k : Nat) (hx : lnZ x ≤ m) (hy : lnZ y ≤ n) (h1 : m + 1 ≤ k := by decide) (h2 : n + 1 ≤ k := by decide) : lnZ (x + y) ≤ k := by
  unfold lnZ at *
  have e1 := ln_add x.natAbs y.natAbs
  have e2 : (lim (x + y).natAbs).length ≤ (lim (x.natAbs + y.natAbs)).length := ln_mono (Int.natAbs_add_le x y)
  omega
theorem lnZ_neg {x : Int} {m : Nat} (hx : lnZ x ≤ m) : lnZ (-x) ≤ m := by unfold lnZ; rw [Int.natAbs_neg]; exact hx
theorem lnZ_sub {x y : Int} {m n : Nat} (k : Nat) (hx : lnZ x ≤ m) (hy : lnZ y ≤ n) (h1 : m + 1 ≤ k := by decide) (h2 : n + 1 ≤ k := by decide) : lnZ (x - y) ≤ k := by
  rw [Int.sub_eq_add_neg]; exact lnZ_add k hx (lnZ_neg hy) h1 h2
theorem lnZ_fit {x : Int} {m : Nat} (hx : lnZ x ≤ m) (h : m ≤ 1024 := by decide) : fitZ x := Nat.le_trans hx h
theorem lnZ_1 : lnZ 1 ≤ 1 := by unfold lnZ; rw [show (1 : Int).natAbs = 1 from rfl, lim_one]; decide
theorem Zch (x y : Int) (hx : fitZ x) (h : x = y) : PC C ZdN [intD x, intD y] (fun o => o = .ret (.bool true)) :=
  (ZlI x y (by unfold fitZ at hx; omega)).mono fun o ho => by rw [ho, decide_eq_true h]
theorem not_false_true {b : Bool} (h : (!b) = false) : b = true := by cases b; cases h; rfl
theorem fine_int {d : Bool × List Nat} {m : Nat} (hu : U32 d.2) (h1 : d.2.length ≤ m) (h2 : okI d = true) : ∃ z, d = (decide (z < 0), lim z.natAbs) ∧ lnZ z ≤ m := by
  obtain ⟨z, rfl, _⟩ := okI_int hu h2
  exact ⟨z, rfl, h1⟩
end Go.V
set_option maxHeartbeats 4000000
set_option maxRecDepth 100000
set_option synthInstance.maxSize 100000
set_option synthInstance.maxHeartbeats 2000000
namespace Go.V
open Go.RowKit Go.Proofs
end Go.V
/- THE FOUR WAYS OF DIVISION: what quotients and rests satisfy: plain Lean. -/
namespace Go.V
theorem divW_abs {a b : Int} (h0 : b ≠ 0) (w : Bool) : divW w a b = if a.natAbs % b.natAbs = 0 ∨ w = false then (sgnd (!(decide (a < 0) == decide (b < 0))) (a.natAbs / b.natAbs), sgnd (decide (a < 0)) (a.natAbs % b.natAbs)) else (sgnd (!(decide (a < 0) == decide (b < 0))) (a.natAbs / b.natAbs + 1), sgnd (!(decide (a < 0))) (b.natAbs - a.natAbs % b.natAbs)) := by
  unfold divW
  rw [← sgnd_tdiv, ← sgnd_tmod]
  have hz : (sgnd (decide (a < 0)) (a.natAbs % b.natAbs) = 0) ↔ a.natAbs % b.natAbs = 0 := by
    cases decide (a < 0) <;> simp only [sgnd, cond_true, cond_false] <;> omega
  have hlt : a.natAbs % b.natAbs < b.natAbs := Nat.mod_lt _ (by omega)
  by_cases h : a.natAbs % b.natAbs = 0 ∨ w = false
  · rw [if_pos h, if_pos (by rw [hz]; exact h)]
  · rw [if_neg h, if_neg (by rw [hz]; exact h)]
    unfold stepZ
    refine Prod.ext ?_ ?_
    · dsimp only
      cases (!(decide (a < 0) == decide (b < 0))) <;> simp only [sgnd, cond_true, cond_false] <;> omega
    · dsimp only
      cases decide (a < 0) <;> simp only [sgnd, cond_true, cond_false, Bool.not_true, Bool.not_false] <;> omega
structure DvF (k a b q r : Int) : Prop where
  e : q * b + r = a
  lt : r.natAbs < b.natAbs
  f1 : k = 1 → r ≠ 0 → decide (r < 0) = decide (a < 0)
  f2 : k = 2 → r ≠ 0 → decide (r < 0) = decide (b < 0)
  f3 : k = 3 → ¬ r < 0
  f4 : k = 4 → 2 * r.natAbs < b.natAbs ∨ (2 * r.natAbs = b.natAbs ∧ q.natAbs % 2 = 0)
  lq : q.natAbs ≤ a.natAbs + 1
theorem divW_facts {a b : Int} (h0 : b ≠ 0) (k : Int) : DvF k a b (divW (awayZ k (a.tdiv b) (a.tmod b) a b) a b).1 (divW (awayZ k (a.tdiv b) (a.tmod b) a b) a b).2 := by
  have he := divW_rest (a := a) (b := b) (awayZ k (a.tdiv b) (a.tmod b) a b)
  have hlt : a.natAbs % b.natAbs < b.natAbs := Nat.mod_lt _ (by omega)
  have hT : a.natAbs / b.natAbs ≤ a.natAbs := Nat.div_le_self _ _
  have haw : awayZ k (a.tdiv b) (a.tmod b) a b = (if k = 2 then !(decide (a < 0) == decide (b < 0)) else if k = 3 then decide (a < 0) else if k = 4 then decide (b.natAbs < 2 * (a.natAbs % b.natAbs)) || (decide (2 * (a.natAbs % b.natAbs) = b.natAbs) && decide (a.natAbs / b.natAbs % 2 = 1)) else false) := by
    unfold awayZ
    rw [abs_tmod, Int.natAbs_tdiv]
    rfl
  rw [divW_abs h0, haw] at he ⊢
  generalize a.natAbs % b.natAbs = M at hlt he ⊢
  generalize a.natAbs / b.natAbs = T at hT he ⊢
  generalize hw : (if k = 2 then !(decide (a < 0) == decide (b < 0)) else if k = 3 then decide (a < 0) else if k = 4 then decide (b.natAbs < 2 * M) || (decide (2 * M = b.natAbs) && decide (T % 2 = 1)) else false) = w at he ⊢
  have hw1 : k = 1 → w = false := fun hk => by subst hk; exact hw.symm
  have hw2 : k = 2 → w = !(decide (a < 0) == decide (b < 0)) := fun hk => by subst hk; exact hw.symm
  have hw3 : k = 3 → w = decide (a < 0) := fun hk => by subst hk; exact hw.symm
  have hw4 : k = 4 → w = (decide (b.natAbs < 2 * M) || (decide (2 * M = b.natAbs) && decide (T % 2 = 1))) := fun hk => by subst hk; exact hw.symm
  clear hw haw
  by_cases hc : M = 0 ∨ w = false
  · rw [if_pos hc] at he ⊢
    dsimp only at he ⊢
    refine ⟨by omega, by rw [sgnd_abs]; exact hlt, fun hk hr => ?_, fun hk hr => ?_, fun hk => ?_, fun hk => ?_, by rw [sgnd_abs]; omega⟩
    · have hM : 0 < M := by
        rcases Nat.eq_zero_or_pos M with h | h
        · subst h; cases decide (a < 0) <;> simp [sgnd] at hr
        · exact h
      rw [sgnd_neg, decide_eq_true hM, Bool.and_true]
    · have hM : 0 < M := by
        rcases Nat.eq_zero_or_pos M with h | h
        · subst h; cases decide (a < 0) <;> simp [sgnd] at hr
        · exact h
      have h1 : w = false := hc.resolve_left (by omega)
      rw [hw2 hk] at h1
      rw [sgnd_neg, decide_eq_true hM, Bool.and_true]
      simpa using h1
    · rcases hc with h | h
      · subst h; cases decide (a < 0) <;> simp [sgnd]
      · rw [hw3 hk] at h
        rw [h]; simp only [sgnd, cond_false]; omega
    · rw [sgnd_abs, sgnd_abs]
      rcases hc with h | h
      · omega
      · rw [hw4 hk] at h
        simp only [Bool.or_eq_false_iff, Bool.and_eq_false_iff, decide_eq_false_iff_not] at h
        omega
  · rw [if_neg hc] at he ⊢
    dsimp only at he ⊢
    have hM : ¬ M = 0 := fun e => hc (.inl e)
    have hwt : w = true := by cases w with | true => rfl | false => exact (hc (.inr rfl)).elim
    refine ⟨by omega, by rw [sgnd_abs]; omega, fun hk hr => ?_, fun hk hr => ?_, fun hk => ?_, fun hk => ?_, by rw [sgnd_abs]; omega⟩
    · rw [hw1 hk] at hwt; cases hwt
    · rw [hw2 hk] at hwt
      rw [sgnd_neg, show decide (0 < b.natAbs - M) = true from decide_eq_true (by omega), Bool.and_true]
      revert hwt
      cases decide (a < 0) <;> cases decide (b < 0) <;> simp
    · rw [hw3 hk] at hwt
      rw [hwt]; simp only [sgnd, Bool.not_true, cond_false]; omega
    · rw [sgnd_abs, sgnd_abs]
      rw [hw4 hk] at hwt
      simp only [Bool.or_eq_true, Bool.and_eq_true, decide_eq_true_eq] at hwt
      omega
end Go.V
