/- A part of the proof: abstract values, rules for the steps of the program's form, and contracts of its functions, each proved; no condition. -/
import Derived.Test.YtjohcjagbodicaaGreatDoorA14
set_option linter.unusedVariables false
set_option linter.unusedSimpArgs false
set_option maxHeartbeats 4000000
set_option synthInstance.maxSize 100000
set_option synthInstance.maxHeartbeats 2000000
namespace Go.V
open Go.RowKit Go.Proofs

theorem pc_l_equal (x y : Int) (hx : (lim x.natAbs).length ≤ 1000000) : PC C n_law02_equal [intD x, intD y] (fun o => o = .ret (.bool (decide (x = y)))) := by
  refine PC.run fn_law02_equal en_law02_equal rfl nt_law02_equal rfl (rs := [.tmp 4]) (by rw [rs_law02_equal]) (by simp only [List.length_cons, List.length_nil, Nat.reduceAdd, Nat.reduceSub, List.replicate_succ, List.replicate_zero, List.cons_append, List.nil_append]; exact rfl) ?_
  refine ARun.seq ?_
  refine ARun.region ?_
  refine y_op rfl (q_boxF rfl rfl rfl rfl) ?_
  refine y_op rfl (q_boxF rfl rfl rfl rfl) ?_
  refine y_op rfl (q_assign rfl) ?_
  refine AOps.nil ?_
  refine ARun.seq ?_
  refine ARun.seq ?_
  refine ARun.region ?_
  refine y_op rfl (q_fldS rfl rfl rfl (by decide)) ?_
  refine y_op rfl (q_load rfl rfl rfl rfl) ?_
  refine y_op rfl (q_fldS rfl rfl rfl (by decide)) ?_
  refine y_op rfl (q_load rfl rfl rfl rfl) ?_
  refine y_op rfl (q_boolNe rfl rfl rfl) ?_
  refine y_op rfl (q_move rfl) ?_
  -- guard: slot 11
  refine AOps.bool 11 rfl (fun h1 => ?_) (fun h1 => ?_)
  · skip
    refine y_skip rfl ?_
    refine y_skip rfl ?_
    refine y_skip rfl ?_
    refine y_skip rfl ?_
    refine y_skip rfl ?_
    refine y_skip rfl ?_
    refine y_skip rfl ?_
    refine y_op rfl (q_pick rfl rfl rfl rfl) ?_
    refine AOps.nil ?_
    -- COND on ('t', 19)
    refine ARun.condT rfl ?_
    refine ARun.seq ?_
    refine ARun.region ?_
    refine y_op rfl (q_assign rfl) ?_
    refine AOps.nil ?_
    -- RET results [(4,)]
    refine ARun.ret ?_
    refine ⟨_, _, _, .tmp rfl .nil, .cons (.same _) .nil, rfl, ?_⟩
    have : x ≠ y := by intro e; subst e; simp at h1
    rw [decide_eq_false this]; rfl
  · skip
    have hs : (decide (x < 0) == decide (y < 0)) = true := by simpa using h1
    refine y_op rfl (q_fldS rfl rfl rfl (by decide)) ?_
    refine y_op rfl (q_load rfl rfl rfl rfl) ?_
    refine y_op rfl (q_lenSl rfl rfl) ?_
    refine y_op rfl (q_fldS rfl rfl rfl (by decide)) ?_
    refine y_op rfl (q_load rfl rfl rfl rfl) ?_
    refine y_op rfl (q_lenSl rfl rfl) ?_
    refine y_op rfl (q_int rfl rfl rfl) ?_
    refine y_op rfl (q_pick rfl rfl rfl rfl) ?_
    refine AOps.nil ?_
    -- COND on ('t', 19)
    refine ARun.cond rfl (fun h2 => ?_) (fun h2 => ?_)
    · skip
      refine ARun.seq ?_
      refine ARun.region ?_
      refine y_op rfl (q_assign rfl) ?_
      refine AOps.nil ?_
      -- RET results [(4,)]
      refine ARun.ret ?_
      refine ⟨_, _, _, .tmp rfl .nil, .cons (.same _) .nil, rfl, ?_⟩
      have : x ≠ y := by intro e; subst e; simp at h2
      rw [decide_eq_false this]; rfl
    · skip
      have hl : (lim x.natAbs).length = (lim y.natAbs).length := by
        have h : ((lim x.natAbs).length : Int) = (lim y.natAbs).length := by simpa using h2
        omega
      refine ARun.skip ?_
      refine ARun.seq ?_
      refine ARun.seq ?_
      refine ARun.region ?_
      refine y_op rfl (q_assign rfl) ?_
      refine AOps.nil ?_
      refine ARun.block ?_
      -- LOOP writes [4, 5, 20, 21, 22, 23, 24, 25, 26, 27, 28, 29, 30, 31, 32, 33, 34, 35, 36, 37]
      refine ARun.loopI (S := Nat) (fun i : Nat => [(4, .any), (20, .any), (21, .any), (22, .any), (23, .any), (24, .any), (25, .any), (26, .any), (27, .any), (28, .any), (29, .any), (30, .any), (31, .any), (32, .any), (33, .any), (34, .any), (35, .any), (36, .any), (37, .any), (5, .int .i64 (i : Int))]) (fun i : Nat => []) (fun i : Nat => i ≤ (lim x.natAbs).length ∧ ∀ j, j < i → (lim x.natAbs).getD j 0 = (lim y.natAbs).getD j 0) (fun i : Nat => (lim x.natAbs).length - i) (0) ?_ ?_ ?_ ?_
      · exact ⟨Nat.zero_le _, fun j h => absurd h (Nat.not_lt_zero _)⟩
      · (repeat' first | exact envLe_nil | apply envLe_any | apply envLe_same)
      · rfl
      rintro i hinv ih
      obtain ⟨hi, hsm⟩ := hinv
      refine ARun.seq ?_
      refine ARun.seq ?_
      refine ARun.region ?_
      refine y_op rfl (q_move rfl) ?_
      refine y_op rfl (q_fldS rfl rfl rfl (by decide)) ?_
      refine y_op rfl (q_load rfl rfl rfl rfl) ?_
      refine y_op rfl (q_lenSl rfl rfl) ?_
      refine y_op rfl (q_int rfl rfl rfl) ?_
      refine AOps.nil ?_
      -- COND on ('t', 24)
      refine ARun.ite rfl (fun h3 => ?_) (fun h3 => ?_)
      · skip
        refine ARun.skip ?_
        refine ARun.seq ?_
        refine ARun.block ?_
        refine ARun.seq ?_
        refine ARun.drawnP 11 (fun _ => False) mixC rfl rfl (by kernel_rfl) (fun _ _ h => h.elim) ?_
        refine .op rfl (q_fldS rfl rfl rfl (by decide)) ?_
        refine .op rfl (q_load rfl rfl rfl rfl) ?_
        refine .op rfl (q_move rfl) ?_
        refine .op rfl (q_idxSl (i := (i : Int)) rfl rfl rfl rfl (by omega) (by omega) (nts_ne (by omega)) (drop_nat rfl)) ?_
        refine .op rfl (q_load rfl rfl rfl (nts_load (xs := lim x.natAbs) (i := i) (by omega))) ?_
        refine .op rfl (q_fldS rfl rfl rfl (by decide)) ?_
        refine .op rfl (q_load rfl rfl rfl rfl) ?_
        refine .op rfl (q_move rfl) ?_
        refine .op rfl (q_idxSl (i := (i : Int)) rfl rfl rfl rfl (by omega) (by omega) (nts_ne (by omega)) (drop_nat rfl)) ?_
        refine .op rfl (q_load rfl rfl rfl (nts_load (xs := lim y.natAbs) (i := i) (by omega))) ?_
        refine .op rfl (q_int rfl rfl rfl) ?_
        refine .nil (fun hG => ?_)
        refine AOps.nil ?_
        -- COND on ('t', 37)
        refine ARun.cond rfl (fun h4 => ?_) (fun h4 => ?_)
        · skip
          refine ARun.seq ?_
          refine ARun.region ?_
          refine y_op rfl (q_assign rfl) ?_
          refine AOps.nil ?_
          -- RET results [(4,)]
          refine ARun.ret ?_
          refine ⟨_, _, _, .tmp rfl .nil, .cons (.same _) .nil, rfl, ?_⟩
          have : x ≠ y := by intro e; subst e; simp at h4
          rw [decide_eq_false this]; rfl
        · skip
          have h4 : (lim x.natAbs).getD i 0 = (lim y.natAbs).getD i 0 := by
            have : (((lim x.natAbs).getD i 0 : Nat) : Int) = (((lim y.natAbs).getD i 0 : Nat) : Int) := by simpa using h4
            omega
          refine ARun.skip ?_
          refine ARun.inBlock ?_
          refine ARun.region ?_
          refine y_op rfl (q_move rfl) ?_
          refine y_op rfl (q_add rfl rfl (nadd1_i64 (by omega))) ?_
          refine y_op rfl (q_assign rfl) ?_
          refine AOps.nil ?_
          -- LOOP's end
          refine ARun.again (ih ((i + 1)) ?_ ?_) ?_ ?_
          · exact ⟨by omega, fun j hj => by rcases Nat.lt_succ_iff_lt_or_eq.1 hj with h | rfl; exact hsm j h; exact h4⟩
          · omega
          · (repeat' first | exact envLe_nil | apply envLe_any | apply envLe_same)
          · rfl
      · skip
        refine ARun.exit rfl ?_
        refine ARun.seq ?_
        refine ARun.region ?_
        refine y_op rfl (q_assign rfl) ?_
        refine AOps.nil ?_
        -- RET results [(4,)]
        refine ARun.ret ?_
        refine ⟨_, _, _, .tmp rfl .nil, .cons (.same _) .nil, rfl, ?_⟩
        have e : lim x.natAbs = lim y.natAbs := by
          apply List.ext_getElem?
          intro j
          by_cases hj : j < (lim x.natAbs).length
          · have := hsm j (by omega)
            rw [List.getD_eq_getElem?_getD, List.getD_eq_getElem?_getD, List.getElem?_eq_getElem hj, List.getElem?_eq_getElem (by omega)] at this
            rw [List.getElem?_eq_getElem hj, List.getElem?_eq_getElem (by omega)]
            exact congrArg some this
          · rw [List.getElem?_eq_none (by omega), List.getElem?_eq_none (by omega)]
        have := decEqZ x y
        rw [hs, decide_eq_true e] at this
        rw [← this]; rfl
theorem pc_l_fine (l : List (Bool × List Nat)) (n : Nat) (hn : l.length = n) (m : Nat) : PC C n_law02_fine [.sl n (cellsI l), .int .i64 (m : Int)] (fun o => o = .ret (.bool (l.all fun d => decide (d.2.length ≤ m) && okI d))) := by
  refine PC.run fn_law02_fine en_law02_fine rfl nt_law02_fine rfl (rs := [.tmp 4]) (by rw [rs_law02_fine]) (by simp only [List.length_cons, List.length_nil, Nat.reduceAdd, Nat.reduceSub, List.replicate_succ, List.replicate_zero, List.cons_append, List.nil_append]; exact rfl) ?_
  refine ARun.lenle 0 rfl (fun hlen => ?_)
  rw [maxLen_eq] at hlen
  refine ARun.seq ?_
  refine ARun.region ?_
  refine y_op rfl (q_assign rfl) ?_
  refine AOps.nil ?_
  refine ARun.seq ?_
  refine ARun.seq ?_
  refine ARun.region ?_
  refine y_op rfl (q_assign rfl) ?_
  refine AOps.nil ?_
  refine ARun.block ?_
  -- LOOP writes [4, 5, 6, 7, 8, 9, 10, 11, 12, 13, 14, 15, 16, 17, 18, 19, 20, 21, 22, 23, 24, 25, 26, 27]
  refine ARun.loopI (S := Nat) (fun i : Nat => [(4, .any), (6, .any), (7, .any), (8, .any), (9, .any), (10, .any), (11, .any), (12, .any), (13, .any), (14, .any), (15, .any), (16, .any), (17, .any), (18, .any), (19, .any), (20, .any), (21, .any), (22, .any), (23, .any), (24, .any), (25, .any), (26, .any), (27, .any), (5, .int .i64 (i : Int))]) (fun i : Nat => []) (fun i : Nat => i ≤ n ∧ (l.all fun d => decide (d.2.length ≤ m) && okI d) = ((l.drop i).all fun d => decide (d.2.length ≤ m) && okI d)) (fun i : Nat => n - i) (0) ?_ ?_ ?_ ?_
  · exact ⟨Nat.zero_le _, rfl⟩
  · (repeat' first | exact envLe_nil | apply envLe_any | apply envLe_same)
  · rfl
  rintro i hinv ih
  obtain ⟨hi, he⟩ := hinv
  refine ARun.seq ?_
  refine ARun.seq ?_
  refine ARun.region ?_
  refine y_op rfl (q_move rfl) ?_
  refine y_op rfl (q_move rfl) ?_
  refine y_op rfl (q_lenSl rfl rfl) ?_
  refine y_op rfl (q_int rfl rfl rfl) ?_
  refine AOps.nil ?_
  -- COND on ('t', 9)
  refine ARun.ite rfl (fun h => ?_) (fun h => ?_)
  · skip
    have hlt : i < l.length := by omega
    have hdr : l.drop i = l[i] :: l.drop (i + 1) := List.drop_eq_getElem_cons hlt
    have hcd := cellsI_drop l i
    rw [hdr] at hcd
    rw [hdr, List.all_cons] at he
    have hne : cellsI l ≠ [] := fun e => by have := cellsI_len l; rw [e] at this; simp at this; omega
    refine ARun.skip ?_
    refine ARun.seq ?_
    refine ARun.block ?_
    refine ARun.seq ?_
    refine ARun.region ?_
    refine y_op rfl (q_move rfl) ?_
    refine y_op rfl (q_move rfl) ?_
    refine y_op rfl (q_idxSl rfl rfl rfl rfl (by omega) (by omega) hne hcd) ?_
    refine y_op rfl (q_fldS rfl rfl rfl (by decide)) ?_
    refine y_op rfl (q_load rfl rfl rfl rfl) ?_
    refine y_op rfl (q_lenSl rfl rfl) ?_
    refine y_op rfl (q_move rfl) ?_
    refine y_op rfl (q_int rfl rfl rfl) ?_
    refine y_op rfl (q_move rfl) ?_
    -- guard: slot 20
    refine AOps.bool 20 rfl (fun h2 => ?_) (fun h2 => ?_)
    · skip
      have h2 : ¬ l[i].2.length ≤ m := by have := of_decide_eq_true h2; omega
      refine y_skip rfl ?_
      refine y_skip rfl ?_
      refine y_skip rfl ?_
      refine y_skip rfl ?_
      refine y_skip rfl ?_
      refine y_skip rfl ?_
      refine y_op rfl (q_pick rfl rfl rfl rfl) ?_
      refine AOps.nil ?_
      -- COND on ('t', 27)
      refine ARun.condT rfl ?_
      refine ARun.seq ?_
      refine ARun.region ?_
      refine y_op rfl (q_assign rfl) ?_
      refine AOps.nil ?_
      -- RET results [(4,)]
      refine ARun.ret ?_
      refine ⟨_, _, _, .tmp rfl .nil, .cons (.same _) .nil, rfl, ?_⟩
      rw [he, decide_eq_false h2]; rfl
    · skip
      have h2 : l[i].2.length ≤ m := by have := of_decide_eq_false h2; omega
      refine y_op rfl (q_move rfl) ?_
      refine y_op rfl (q_move rfl) ?_
      refine y_op rfl (q_idxSl rfl rfl rfl rfl (by omega) (by omega) hne hcd) ?_
      refine y_op rfl (q_loadAgg (ds := [.bool l[i].1, sln .u32 l[i].2]) rfl rfl rfl rfl rfl) ?_
      refine y_op rfl (q_call rfl rfl (pc_w_Valid l[i])) ?_
      refine y_op rfl (q_not rfl) ?_
      refine y_op rfl (q_pick rfl rfl rfl rfl) ?_
      refine AOps.nil ?_
      -- COND on ('t', 27)
      refine ARun.cond rfl (fun h3 => ?_) (fun h3 => ?_)
      · skip
        have h3 : okI l[i] = false := by simpa using h3
        refine ARun.seq ?_
        refine ARun.region ?_
        refine y_op rfl (q_assign rfl) ?_
        refine AOps.nil ?_
        -- RET results [(4,)]
        refine ARun.ret ?_
        refine ⟨_, _, _, .tmp rfl .nil, .cons (.same _) .nil, rfl, ?_⟩
        rw [he, h3, Bool.and_false]; rfl
      · skip
        have h3 : okI l[i] = true := by simpa using h3
        refine ARun.skip ?_
        refine ARun.inBlock ?_
        refine ARun.region ?_
        refine y_op rfl (q_move rfl) ?_
        refine y_op rfl (q_add rfl rfl (nadd1_i64 (by omega))) ?_
        refine y_op rfl (q_assign rfl) ?_
        refine AOps.nil ?_
        -- LOOP's end
        refine ARun.again (ih ((i + 1)) ?_ ?_) ?_ ?_
        · exact ⟨by omega, by rw [he, h3, decide_eq_true h2]; rfl⟩
        · omega
        · (repeat' first | exact envLe_nil | apply envLe_any | apply envLe_same)
        · rfl
  · skip
    refine ARun.exit rfl ?_
    refine ARun.seq ?_
    refine ARun.region ?_
    refine y_op rfl (q_assign rfl) ?_
    refine AOps.nil ?_
    -- RET results [(4,)]
    refine ARun.ret ?_
    refine ⟨_, _, _, .tmp rfl .nil, .cons (.same _) .nil, rfl, ?_⟩
    rw [he, List.drop_of_length_le (by omega)]; rfl
theorem pc_l_add (x y : Int) (hx : fitZ x) (hy : fitZ y) (h : fitZ (x + y)) : PC C n_law02_add [intD x, intD y] (fun o => o = .ret (intD (x + y))) := by
  refine PC.run fn_law02_add en_law02_add rfl nt_law02_add rfl (rs := [.cell 4 25]) (by rw [rs_law02_add]) (by simp only [List.length_cons, List.length_nil, Nat.reduceAdd, Nat.reduceSub, List.replicate_succ, List.replicate_zero, List.cons_append, List.nil_append]; exact rfl) ?_
  refine ARun.seq ?_
  refine ARun.region ?_
  refine y_op rfl (q_boxF rfl rfl rfl rfl) ?_
  refine y_op rfl (q_boxF rfl rfl rfl rfl) ?_
  refine y_new rfl (n_alloc rfl rfl rfl rfl) ?_
  refine AOps.nil ?_
  refine ARun.seq ?_
  refine ARun.region ?_
  refine y_op rfl (q_loadAgg rfl rfl rfl rfl rfl) ?_
  refine y_op rfl (q_loadAgg rfl rfl rfl rfl rfl) ?_
  refine y_op rfl (q_call rfl rfl (pc_w_Add (decide (x < 0), lim x.natAbs) (decide (y < 0), lim y.natAbs) (U32_lim _) (U32_lim _))) ?_
  refine y_op rfl (q_move rfl) ?_
  refine y_op rfl (q_extract rfl rfl) ?_
  refine y_op rfl (q_extract rfl rfl) ?_
  refine y_new rfl (n_alloc rfl rfl rfl rfl) ?_
  refine y_new rfl (n_storeN rfl rfl rfl rfl rfl rfl rfl rfl (Nat.le_of_ble_eq_true rfl) rfl) ?_
  refine y_op rfl (q_assign rfl) ?_
  refine AOps.nil ?_
  refine ARun.seq ?_
  refine ARun.region ?_
  refine y_op rfl (q_loadAggP rfl rfl rfl rfl rfl rfl) ?_
  refine y_new rfl (n_storeN rfl rfl rfl rfl rfl rfl rfl rfl (Nat.le_of_ble_eq_true rfl) rfl) ?_
  refine AOps.nil ?_
  -- RET results [('cell', 4, 25)]
  refine ARun.ret ?_
  refine ⟨_, _, _, ResR.cellA rfl rfl rfl rfl rfl rfl .nil, .cons (.same _) .nil, rfl, ?_⟩
  rw [okI_of2 hx hy, valI_int, valI_int, fitO_t h]; rfl
theorem pc_l_sub (x y : Int) (hx : fitZ x) (hy : fitZ y) (h : fitZ (x - y)) : PC C n_law02_sub [intD x, intD y] (fun o => o = .ret (intD (x - y))) := by
  refine PC.run fn_law02_sub en_law02_sub rfl nt_law02_sub rfl (rs := [.cell 4 25]) (by rw [rs_law02_sub]) (by simp only [List.length_cons, List.length_nil, Nat.reduceAdd, Nat.reduceSub, List.replicate_succ, List.replicate_zero, List.cons_append, List.nil_append]; exact rfl) ?_
  refine ARun.seq ?_
  refine ARun.region ?_
  refine y_op rfl (q_boxF rfl rfl rfl rfl) ?_
  refine y_op rfl (q_boxF rfl rfl rfl rfl) ?_
  refine y_new rfl (n_alloc rfl rfl rfl rfl) ?_
  refine AOps.nil ?_
  refine ARun.seq ?_
  refine ARun.region ?_
  refine y_op rfl (q_loadAgg rfl rfl rfl rfl rfl) ?_
  refine y_op rfl (q_loadAgg rfl rfl rfl rfl rfl) ?_
  refine y_op rfl (q_call rfl rfl (pc_w_Sub (decide (x < 0), lim x.natAbs) (decide (y < 0), lim y.natAbs) (U32_lim _) (U32_lim _))) ?_
  refine y_op rfl (q_move rfl) ?_
  refine y_op rfl (q_extract rfl rfl) ?_
  refine y_op rfl (q_extract rfl rfl) ?_
  refine y_new rfl (n_alloc rfl rfl rfl rfl) ?_
  refine y_new rfl (n_storeN rfl rfl rfl rfl rfl rfl rfl rfl (Nat.le_of_ble_eq_true rfl) rfl) ?_
  refine y_op rfl (q_assign rfl) ?_
  refine AOps.nil ?_
  refine ARun.seq ?_
  refine ARun.region ?_
  refine y_op rfl (q_loadAggP rfl rfl rfl rfl rfl rfl) ?_
  refine y_new rfl (n_storeN rfl rfl rfl rfl rfl rfl rfl rfl (Nat.le_of_ble_eq_true rfl) rfl) ?_
  refine AOps.nil ?_
  -- RET results [('cell', 4, 25)]
  refine ARun.ret ?_
  refine ⟨_, _, _, ResR.cellA rfl rfl rfl rfl rfl rfl .nil, .cons (.same _) .nil, rfl, ?_⟩
  rw [okI_of2 hx hy, valI_int, valI_int, fitO_t h]; rfl
theorem pc_l_mul (x y : Int) (hx : fitZ x) (hy : fitZ y) (h : fitZ (x * y)) : PC C n_law02_mul [intD x, intD y] (fun o => o = .ret (intD (x * y))) := by
  refine PC.run fn_law02_mul en_law02_mul rfl nt_law02_mul rfl (rs := [.cell 4 25]) (by rw [rs_law02_mul]) (by simp only [List.length_cons, List.length_nil, Nat.reduceAdd, Nat.reduceSub, List.replicate_succ, List.replicate_zero, List.cons_append, List.nil_append]; exact rfl) ?_
  refine ARun.seq ?_
  refine ARun.region ?_
  refine y_op rfl (q_boxF rfl rfl rfl rfl) ?_
  refine y_op rfl (q_boxF rfl rfl rfl rfl) ?_
  refine y_new rfl (n_alloc rfl rfl rfl rfl) ?_
  refine AOps.nil ?_
  refine ARun.seq ?_
  refine ARun.region ?_
  refine y_op rfl (q_loadAgg rfl rfl rfl rfl rfl) ?_
  refine y_op rfl (q_loadAgg rfl rfl rfl rfl rfl) ?_
  refine y_op rfl (q_call rfl rfl (pc_w_Mul (decide (x < 0), lim x.natAbs) (decide (y < 0), lim y.natAbs) (U32_lim _) (U32_lim _))) ?_
  refine y_op rfl (q_move rfl) ?_
  refine y_op rfl (q_extract rfl rfl) ?_
  refine y_op rfl (q_extract rfl rfl) ?_
  refine y_new rfl (n_alloc rfl rfl rfl rfl) ?_
  refine y_new rfl (n_storeN rfl rfl rfl rfl rfl rfl rfl rfl (Nat.le_of_ble_eq_true rfl) rfl) ?_
  refine y_op rfl (q_assign rfl) ?_
  refine AOps.nil ?_
  refine ARun.seq ?_
  refine ARun.region ?_
  refine y_op rfl (q_loadAggP rfl rfl rfl rfl rfl rfl) ?_
  refine y_new rfl (n_storeN rfl rfl rfl rfl rfl rfl rfl rfl (Nat.le_of_ble_eq_true rfl) rfl) ?_
  refine AOps.nil ?_
  -- RET results [('cell', 4, 25)]
  refine ARun.ret ?_
  refine ⟨_, _, _, ResR.cellA rfl rfl rfl rfl rfl rfl .nil, .cons (.same _) .nil, rfl, ?_⟩
  rw [okI_of2 hx hy, valI_int, valI_int, fitO_t h]; rfl
theorem pc_l_cmp (x y : Int) (hx : fitZ x) (hy : fitZ y) : PC C n_law02_cmp [intD x, intD y] (fun o => o = .ret (.int .i64 (cmpZ x y))) := by
  refine PC.run fn_law02_cmp en_law02_cmp rfl nt_law02_cmp rfl (rs := [.tmp 4]) (by rw [rs_law02_cmp]) (by simp only [List.length_cons, List.length_nil, Nat.reduceAdd, Nat.reduceSub, List.replicate_succ, List.replicate_zero, List.cons_append, List.nil_append]; exact rfl) ?_
  refine ARun.seq ?_
  refine ARun.region ?_
  refine y_op rfl (q_boxF rfl rfl rfl rfl) ?_
  refine y_op rfl (q_boxF rfl rfl rfl rfl) ?_
  refine y_op rfl (q_assign rfl) ?_
  refine AOps.nil ?_
  refine ARun.seq ?_
  refine ARun.region ?_
  refine y_op rfl (q_loadAgg rfl rfl rfl rfl rfl) ?_
  refine y_op rfl (q_loadAgg rfl rfl rfl rfl rfl) ?_
  refine y_op rfl (q_call rfl rfl (pc_w_Cmp (decide (x < 0), lim x.natAbs) (decide (y < 0), lim y.natAbs) (U32_lim _) (U32_lim _))) ?_
  refine y_op rfl (q_move rfl) ?_
  refine y_op rfl (q_extract rfl rfl) ?_
  refine y_op rfl (q_extract rfl rfl) ?_
  refine y_op rfl (q_assign rfl) ?_
  refine y_op rfl (q_assign rfl) ?_
  refine AOps.nil ?_
  refine ARun.seq ?_
  refine ARun.region ?_
  refine y_op rfl (q_move rfl) ?_
  refine y_op rfl (q_assign rfl) ?_
  refine AOps.nil ?_
  -- RET results [(4,)]
  refine ARun.ret ?_
  refine ⟨_, _, _, .tmp rfl .nil, .cons (.same _) .nil, rfl, ?_⟩
  unfold cmpR; rw [okI_of2 hx hy, valI_int, valI_int]; rfl
end Go.V


set_option maxHeartbeats 8000000
set_option maxRecDepth 100000
set_option synthInstance.maxSize 100000
set_option synthInstance.maxHeartbeats 2000000
namespace Go.V
open Go.RowKit Go.Proofs

abbrev lnZ (z : Int) : Nat := (lim z.natAbs).length
theorem lnZ_add {x y : Int} {m n : Nat} (k : Nat) (hx : lnZ x ≤ m) (hy : lnZ y ≤ n) (h1 : m + 1 ≤ k := by decide) (h2 : n + 1 ≤ k := by decide) : lnZ (x + y) ≤ k := by
  unfold lnZ at *
  have e1 := ln_add x.natAbs y.natAbs
  have e2 : (lim (x + y).natAbs).length ≤ (lim (x.natAbs + y.natAbs)).length := ln_mono (Int.natAbs_add_le x y)
  omega
theorem lnZ_neg {x : Int} {m : Nat} (hx : lnZ x ≤ m) : lnZ (-x) ≤ m := by unfold lnZ; rw [Int.natAbs_neg]; exact hx
theorem lnZ_sub {x y : Int} {m n : Nat} (k : Nat) (hx : lnZ x ≤ m) (hy : lnZ y ≤ n) (h1 : m + 1 ≤ k := by decide) (h2 : n + 1 ≤ k := by decide) : lnZ (x - y) ≤ k := by
  rw [Int.sub_eq_add_neg]; exact lnZ_add k hx (lnZ_neg hy) h1 h2
theorem lnZ_mul {x y : Int} {m n : Nat} (k : Nat) (hx : lnZ x ≤ m) (hy : lnZ y ≤ n) (h1 : m + n ≤ k := by decide) : lnZ (x * y) ≤ k := by
  have := ln_mul x.natAbs y.natAbs
  unfold lnZ at *; rw [Int.natAbs_mul]; omega
theorem lnZ_fit {x : Int} {m : Nat} (hx : lnZ x ≤ m) (h : m ≤ 1024 := by decide) : fitZ x := Nat.le_trans hx h
theorem lnZ_0 : lnZ 0 ≤ 1 := by unfold lnZ; rw [show (0 : Int).natAbs = 0 from rfl, ln_zero]; decide
theorem lnZ_1 : lnZ 1 ≤ 1 := by unfold lnZ; rw [show (1 : Int).natAbs = 1 from rfl, lim_one]; decide
theorem pc_l_equalT (x y : Int) (hx : fitZ x) (h : x = y) : PC C n_law02_equal [intD x, intD y] (fun o => o = .ret (.bool true)) :=
  (pc_l_equal x y (by unfold fitZ at hx; omega)).mono fun o ho => by rw [ho, decide_eq_true h]
theorem not_false_true {b : Bool} (h : (!b) = false) : b = true := by cases b; cases h; rfl
theorem cmpZ_neg (x y : Int) : cmpZ y x = -cmpZ x y := by unfold cmpZ; repeat' split; all_goals omega
theorem cmpZ_add (x y z : Int) : cmpZ (x + z) (y + z) = cmpZ x y := by unfold cmpZ; repeat' split; all_goals omega
theorem cmpZ_zero (x y : Int) : (cmpZ x y == 0) = decide (x = y) := by
  unfold cmpZ
  by_cases h : x < y
  · rw [if_pos h, decide_eq_false (show ¬ x = y by omega)]; rfl
  · rw [if_neg h]
    by_cases h2 : x = y
    · rw [if_pos h2, decide_eq_true h2]; rfl
    · rw [if_neg h2, decide_eq_false h2]; rfl
theorem cmpZ_rng (x y : Int) : -1 ≤ cmpZ x y ∧ cmpZ x y ≤ 1 := by unfold cmpZ; repeat' split; all_goals omega
theorem cmpZ_trans {x y z : Int} (h1 : ¬ cmpZ x y > 0) (h2 : ¬ cmpZ y z > 0) : cmpZ x z ≤ 0 := by unfold cmpZ at *; repeat' split at *; all_goals omega
/-- Integers that 'fine' lets by. -/
theorem fine_int {d : Bool × List Nat} {m : Nat} (hu : U32 d.2) (h1 : d.2.length ≤ m) (h2 : okI d = true) : ∃ z, d = (decide (z < 0), lim z.natAbs) ∧ lnZ z ≤ m := by
  obtain ⟨z, rfl, _⟩ := okI_int hu h2
  exact ⟨z, rfl, h1⟩

theorem pc_l_Ring (d1 d2 d3 : Bool × List Nat) (h1 : U32 d1.2) (h2 : U32 d2.2) (h3 : U32 d3.2) : PC C n_law02_WholeRing [intA d1.1 d1.2, intA d2.1 d2.2, intA d3.1 d3.2] (fun o => o = .ret (.bool true)) := by
  refine PC.run fn_law02_WholeRing en_law02_WholeRing rfl nt_law02_WholeRing rfl (rs := [.tmp 6]) (by rw [rs_law02_WholeRing]) (by simp only [List.length_cons, List.length_nil, Nat.reduceAdd, Nat.reduceSub, List.replicate_succ, List.replicate_zero, List.cons_append, List.nil_append]; exact rfl) ?_
  refine ARun.seq ?_
  refine ARun.region ?_
  refine y_op rfl (q_boxF rfl rfl rfl rfl) ?_
  refine y_op rfl (q_boxF rfl rfl rfl rfl) ?_
  refine y_op rfl (q_boxF rfl rfl rfl rfl) ?_
  refine y_op rfl (q_assign rfl) ?_
  refine AOps.nil ?_
  refine ARun.seq ?_
  refine ARun.region ?_
  refine y_op rfl (q_call rfl rfl (pc_l_awake)) ?_
  refine y_op rfl (q_assign rfl) ?_
  refine AOps.nil ?_
  refine ARun.seq ?_
  refine ARun.seq ?_
  refine ARun.region ?_
  refine y_op rfl (q_loadAgg rfl rfl rfl rfl rfl) ?_
  refine y_op rfl (q_loadAgg rfl rfl rfl rfl rfl) ?_
  refine y_op rfl (q_loadAgg rfl rfl rfl rfl rfl) ?_
  refine y_op rfl (q_buildF rfl rfl rfl rfl rfl rfl rfl rfl rfl rfl rfl (by decide) (by decide) rfl) ?_
  refine y_op rfl (q_call rfl rfl (pc_l_fine [d1, d2, d3] 3 rfl 60)) ?_
  refine y_op rfl (q_not rfl) ?_
  refine AOps.nil ?_
  -- COND on ('t', 24)
  refine ARun.cond rfl (fun g => ?_) (fun g => ?_)
  · skip
    refine ARun.seq ?_
    refine ARun.region ?_
    refine y_op rfl (q_move rfl) ?_
    refine y_op rfl (q_assign rfl) ?_
    refine AOps.nil ?_
    -- RET results [(6,)]
    refine ARun.ret ?_
    refine ⟨_, _, _, .tmp rfl .nil, .cons (.same _) .nil, rfl, ?_⟩
    rfl
  · skip
    have g := not_false_true g
    simp only [List.all_cons, List.all_nil, Bool.and_true, Bool.and_eq_true, decide_eq_true_eq] at g
    obtain ⟨⟨g1, k1⟩, ⟨g2, k2⟩, g3, k3⟩ := g
    obtain ⟨a, rfl, la⟩ := fine_int h1 g1 k1
    obtain ⟨b, rfl, lb⟩ := fine_int h2 g2 k2
    obtain ⟨c, rfl, lc⟩ := fine_int h3 g3 k3
    have lbc := lnZ_add 61 lb lc
    have lab := lnZ_add 61 la lb
    have lac := lnZ_add 61 la lc
    have lba := lnZ_add 61 lb la
    have pbc := lnZ_mul 120 lb lc
    have pab := lnZ_mul 120 la lb
    have pba := lnZ_mul 120 lb la
    have pac := lnZ_mul 120 la lc
    have lsb := lnZ_sub 61 (lnZ_0) lb
    have hneg : PC C n_whole_Neg [intD a] (fun o => o = .ret (.tup [intD (-a), .int .i64 0])) := (pc_w_Neg (decide (a < 0), lim a.natAbs) (U32_lim _)).mono fun o ho => by
      rw [valI_int] at ho
      simp only [List.all_cons, List.all_nil, Bool.and_true, okI_of (lnZ_fit la)] at ho
      exact ho
    have hsign : PC C n_whole_Sign [intD (a - b)] (fun o => o = .ret (.tup [.int .i64 (cmpZ a b), .int .i64 0])) := (pc_w_Sign (decide (a - b < 0), lim (a - b).natAbs) (U32_lim _)).mono fun o ho => by
      unfold signR at ho
      rw [valI_int, okI_of (lnZ_fit (lnZ_sub 61 la lb)), sign_sub] at ho
      exact ho
    refine ARun.skip ?_
    refine ARun.seq ?_
    refine ARun.region ?_
    refine y_op rfl (q_loadAgg rfl rfl rfl rfl rfl) ?_
    refine y_op rfl (q_call rfl rfl (hneg)) ?_
    refine y_op rfl (q_move rfl) ?_
    refine y_op rfl (q_extract rfl rfl) ?_
    refine y_op rfl (q_extract rfl rfl) ?_
    refine y_new rfl (n_alloc rfl rfl rfl rfl) ?_
    refine y_new rfl (n_storeN rfl rfl rfl rfl rfl rfl rfl rfl (Nat.le_of_ble_eq_true rfl) rfl) ?_
    refine y_op rfl (q_assign rfl) ?_
    refine AOps.nil ?_
    refine ARun.seq ?_
    refine ARun.region ?_
    refine y_op rfl (q_call rfl rfl (pc_w_FromInt 0 (by decide) (by decide))) ?_
    refine y_new rfl (n_alloc rfl rfl rfl rfl) ?_
    refine y_new rfl (n_storeN rfl rfl rfl rfl rfl rfl rfl rfl (Nat.le_of_ble_eq_true rfl) rfl) ?_
    refine AOps.nil ?_
    refine ARun.seq ?_
    refine ARun.region ?_
    refine y_op rfl (q_call rfl rfl (pc_w_FromInt 1 (by decide) (by decide))) ?_
    refine y_new rfl (n_alloc rfl rfl rfl rfl) ?_
    refine y_new rfl (n_storeN rfl rfl rfl rfl rfl rfl rfl rfl (Nat.le_of_ble_eq_true rfl) rfl) ?_
    refine AOps.nil ?_
    refine ARun.seq ?_
    refine ARun.drawnP 45 (fun _ => False) mixC rfl rfl (by kernel_rfl) (fun _ _ h => h.elim) ?_
    refine .op rfl (q_loadAgg rfl rfl rfl rfl rfl) ?_
    refine .op rfl (q_loadAgg rfl rfl rfl rfl rfl) ?_
    refine .op rfl (q_loadAgg rfl rfl rfl rfl rfl) ?_
    refine .op rfl (q_call rfl rfl (pc_l_add b c (lnZ_fit lb) (lnZ_fit lc) (lnZ_fit lbc))) ?_
    refine .op rfl (q_call rfl rfl (pc_l_add a (b + c) (lnZ_fit la) (lnZ_fit lbc) (lnZ_fit (lnZ_add 62 la lbc)))) ?_
    refine .op rfl (q_loadAgg rfl rfl rfl rfl rfl) ?_
    refine .op rfl (q_loadAgg rfl rfl rfl rfl rfl) ?_
    refine .op rfl (q_call rfl rfl (pc_l_add a b (lnZ_fit la) (lnZ_fit lb) (lnZ_fit lab))) ?_
    refine .op rfl (q_loadAgg rfl rfl rfl rfl rfl) ?_
    refine .op rfl (q_call rfl rfl (pc_l_add (a + b) c (lnZ_fit lab) (lnZ_fit lc) (lnZ_fit (lnZ_add 62 lab lc)))) ?_
    refine .op rfl (q_call rfl rfl (pc_l_equalT (a + (b + c)) (a + b + c) (lnZ_fit (lnZ_add 62 la lbc)) (by omega))) ?_
    refine .op rfl (q_move rfl) ?_
    refine .op rfl (q_loadAgg rfl rfl rfl rfl rfl) ?_
    refine .op rfl (q_loadAgg rfl rfl rfl rfl rfl) ?_
    refine .op rfl (q_call rfl rfl (pc_l_add a b (lnZ_fit la) (lnZ_fit lb) (lnZ_fit lab))) ?_
    refine .op rfl (q_loadAgg rfl rfl rfl rfl rfl) ?_
    refine .op rfl (q_loadAgg rfl rfl rfl rfl rfl) ?_
    refine .op rfl (q_call rfl rfl (pc_l_add b a (lnZ_fit lb) (lnZ_fit la) (lnZ_fit lba))) ?_
    refine .op rfl (q_call rfl rfl (pc_l_equalT (a + b) (b + a) (lnZ_fit lab) (by omega))) ?_
    refine .op rfl (q_pick rfl rfl rfl rfl) ?_
    refine .op rfl (q_move rfl) ?_
    refine .op rfl (q_loadAgg rfl rfl rfl rfl rfl) ?_
    refine .op rfl (q_loadAggP rfl rfl rfl rfl rfl rfl) ?_
    refine .op rfl (q_call rfl rfl (pc_l_add a 0 (lnZ_fit la) (lnZ_fit lnZ_0) (lnZ_fit (lnZ_add 61 la lnZ_0)))) ?_
    refine .op rfl (q_loadAgg rfl rfl rfl rfl rfl) ?_
    refine .op rfl (q_call rfl rfl (pc_l_equalT (a + 0) a (lnZ_fit (lnZ_add 61 la lnZ_0)) (by omega))) ?_
    refine .op rfl (q_pick rfl rfl rfl rfl) ?_
    refine .op rfl (q_move rfl) ?_
    refine .op rfl (q_loadAgg rfl rfl rfl rfl rfl) ?_
    refine .op rfl (q_loadAggP rfl rfl rfl rfl rfl rfl) ?_
    refine .op rfl (q_call rfl rfl (pc_l_add a (-a) (lnZ_fit la) (lnZ_fit (lnZ_neg la)) (lnZ_fit (lnZ_add 61 la (lnZ_neg la))))) ?_
    refine .op rfl (q_loadAggP rfl rfl rfl rfl rfl rfl) ?_
    refine .op rfl (q_call rfl rfl (pc_l_equalT (a + -a) 0 (lnZ_fit (lnZ_add 61 la (lnZ_neg la))) (by omega))) ?_
    refine .op rfl (q_pick rfl rfl rfl rfl) ?_
    refine .op rfl (q_move rfl) ?_
    refine .op rfl (q_loadAgg rfl rfl rfl rfl rfl) ?_
    refine .op rfl (q_loadAgg rfl rfl rfl rfl rfl) ?_
    refine .op rfl (q_call rfl rfl (pc_l_sub a b (lnZ_fit la) (lnZ_fit lb) (lnZ_fit (lnZ_sub 61 la lb)))) ?_
    refine .op rfl (q_loadAgg rfl rfl rfl rfl rfl) ?_
    refine .op rfl (q_loadAggP rfl rfl rfl rfl rfl rfl) ?_
    refine .op rfl (q_loadAgg rfl rfl rfl rfl rfl) ?_
    refine .op rfl (q_call rfl rfl (pc_l_sub 0 b (lnZ_fit lnZ_0) (lnZ_fit lb) (lnZ_fit lsb))) ?_
    refine .op rfl (q_call rfl rfl (pc_l_add a (0 - b) (lnZ_fit la) (lnZ_fit lsb) (lnZ_fit (lnZ_add 62 la lsb)))) ?_
    refine .op rfl (q_call rfl rfl (pc_l_equalT (a - b) (a + (0 - b)) (lnZ_fit (lnZ_sub 61 la lb)) (by omega))) ?_
    refine .op rfl (q_pick rfl rfl rfl rfl) ?_
    refine .nil (fun hG => ?_)
    refine y_op rfl (q_assign rfl) ?_
    refine AOps.nil ?_
    refine ARun.seq ?_
    -- guard: slot 89
    refine ARun.drawnP 42 (fun _ => False) mixC rfl rfl (by kernel_rfl) (fun _ _ h => h.elim) ?_
    refine .op rfl (q_loadAgg rfl rfl rfl rfl rfl) ?_
    refine .op rfl (q_loadAgg rfl rfl rfl rfl rfl) ?_
    refine .op rfl (q_loadAgg rfl rfl rfl rfl rfl) ?_
    refine .op rfl (q_call rfl rfl (pc_l_mul b c (lnZ_fit lb) (lnZ_fit lc) (lnZ_fit pbc))) ?_
    refine .op rfl (q_call rfl rfl (pc_l_mul a (b * c) (lnZ_fit la) (lnZ_fit pbc) (lnZ_fit (lnZ_mul 180 la pbc)))) ?_
    refine .op rfl (q_loadAgg rfl rfl rfl rfl rfl) ?_
    refine .op rfl (q_loadAgg rfl rfl rfl rfl rfl) ?_
    refine .op rfl (q_call rfl rfl (pc_l_mul a b (lnZ_fit la) (lnZ_fit lb) (lnZ_fit pab))) ?_
    refine .op rfl (q_loadAgg rfl rfl rfl rfl rfl) ?_
    refine .op rfl (q_call rfl rfl (pc_l_mul (a * b) c (lnZ_fit pab) (lnZ_fit lc) (lnZ_fit (lnZ_mul 180 pab lc)))) ?_
    refine .op rfl (q_call rfl rfl (pc_l_equalT (a * (b * c)) (a * b * c) (lnZ_fit (lnZ_mul 180 la pbc)) (Int.mul_assoc a b c).symm)) ?_
    refine .op rfl (q_move rfl) ?_
    refine .op rfl (q_loadAgg rfl rfl rfl rfl rfl) ?_
    refine .op rfl (q_loadAgg rfl rfl rfl rfl rfl) ?_
    refine .op rfl (q_call rfl rfl (pc_l_mul a b (lnZ_fit la) (lnZ_fit lb) (lnZ_fit pab))) ?_
    refine .op rfl (q_loadAgg rfl rfl rfl rfl rfl) ?_
    refine .op rfl (q_loadAgg rfl rfl rfl rfl rfl) ?_
    refine .op rfl (q_call rfl rfl (pc_l_mul b a (lnZ_fit lb) (lnZ_fit la) (lnZ_fit pba))) ?_
    refine .op rfl (q_call rfl rfl (pc_l_equalT (a * b) (b * a) (lnZ_fit pab) (Int.mul_comm a b))) ?_
    refine .op rfl (q_pick rfl rfl rfl rfl) ?_
    refine .op rfl (q_move rfl) ?_
    refine .op rfl (q_loadAgg rfl rfl rfl rfl rfl) ?_
    refine .op rfl (q_loadAggP rfl rfl rfl rfl rfl rfl) ?_
    refine .op rfl (q_call rfl rfl (pc_l_mul a 1 (lnZ_fit la) (lnZ_fit lnZ_1) (lnZ_fit (lnZ_mul 61 la lnZ_1)))) ?_
    refine .op rfl (q_loadAgg rfl rfl rfl rfl rfl) ?_
    refine .op rfl (q_call rfl rfl (pc_l_equalT (a * 1) a (lnZ_fit (lnZ_mul 61 la lnZ_1)) (Int.mul_one a))) ?_
    refine .op rfl (q_pick rfl rfl rfl rfl) ?_
    refine .op rfl (q_move rfl) ?_
    refine .op rfl (q_loadAgg rfl rfl rfl rfl rfl) ?_
    refine .op rfl (q_loadAgg rfl rfl rfl rfl rfl) ?_
    refine .op rfl (q_loadAgg rfl rfl rfl rfl rfl) ?_
    refine .op rfl (q_call rfl rfl (pc_l_add b c (lnZ_fit lb) (lnZ_fit lc) (lnZ_fit lbc))) ?_
    refine .op rfl (q_call rfl rfl (pc_l_mul a (b + c) (lnZ_fit la) (lnZ_fit lbc) (lnZ_fit (lnZ_mul 121 la lbc)))) ?_
    refine .op rfl (q_loadAgg rfl rfl rfl rfl rfl) ?_
    refine .op rfl (q_loadAgg rfl rfl rfl rfl rfl) ?_
    refine .op rfl (q_call rfl rfl (pc_l_mul a b (lnZ_fit la) (lnZ_fit lb) (lnZ_fit pab))) ?_
    refine .op rfl (q_loadAgg rfl rfl rfl rfl rfl) ?_
    refine .op rfl (q_loadAgg rfl rfl rfl rfl rfl) ?_
    refine .op rfl (q_call rfl rfl (pc_l_mul a c (lnZ_fit la) (lnZ_fit lc) (lnZ_fit pac))) ?_
    refine .op rfl (q_call rfl rfl (pc_l_add (a * b) (a * c) (lnZ_fit pab) (lnZ_fit pac) (lnZ_fit (lnZ_add 121 pab pac)))) ?_
    refine .op rfl (q_call rfl rfl (pc_l_equalT (a * (b + c)) (a * b + a * c) (lnZ_fit (lnZ_mul 121 la lbc)) (Int.mul_add a b c))) ?_
    refine .op rfl (q_pick rfl rfl rfl rfl) ?_
    refine .nil (fun hG => ?_)
    refine y_op rfl (q_assign rfl) ?_
    refine AOps.nil ?_
    refine ARun.seq ?_
    refine ARun.region ?_
    refine y_op rfl (q_loadAgg rfl rfl rfl rfl rfl) ?_
    refine y_op rfl (q_loadAgg rfl rfl rfl rfl rfl) ?_
    refine y_op rfl (q_call rfl rfl (pc_l_sub a b (lnZ_fit la) (lnZ_fit lb) (lnZ_fit (lnZ_sub 61 la lb)))) ?_
    refine y_op rfl (q_call rfl rfl (hsign)) ?_
    refine y_op rfl (q_move rfl) ?_
    refine y_op rfl (q_extract rfl rfl) ?_
    refine y_op rfl (q_extract rfl rfl) ?_
    refine y_op rfl (q_assign rfl) ?_
    refine y_op rfl (q_assign rfl) ?_
    refine AOps.nil ?_
    refine ARun.seq ?_
    refine ARun.region ?_
    refine y_op rfl (q_loadAgg rfl rfl rfl rfl rfl) ?_
    refine y_op rfl (q_loadAgg rfl rfl rfl rfl rfl) ?_
    refine y_op rfl (q_call rfl rfl (pc_l_cmp a b (lnZ_fit la) (lnZ_fit lb))) ?_
    refine y_op rfl (q_assign rfl) ?_
    refine AOps.nil ?_
    refine ARun.seq ?_
    refine ARun.join (S := Bool) (fun t : Bool => [(130, .any), (131, .any), (132, .any), (133, .any), (134, .any), (135, .any), (136, .any), (137, .any), (138, .any), (139, .any), (140, .any), (141, .any), (142, .any), (143, .any), (17, .bool t)]) (fun t : Bool => t = true) (fun run => ?_) ?_
    · skip
      refine ARun.region ?_
      refine y_op rfl (q_move rfl) ?_
      refine y_op rfl (q_int rfl rfl rfl) ?_
      refine y_op rfl (q_move rfl) ?_
      -- guard: slot 132
      refine AOps.bool 132 rfl (fun k => ?_) (fun k => ?_)
      · skip
        refine y_skip rfl ?_
        refine y_skip rfl ?_
        refine y_skip rfl ?_
        refine y_skip rfl ?_
        refine y_op rfl (q_pick rfl rfl rfl rfl) ?_
        refine y_op rfl (q_move rfl) ?_
        refine y_skip rfl ?_
        refine y_skip rfl ?_
        refine y_skip rfl ?_
        refine y_skip rfl ?_
        refine y_op rfl (q_pick rfl rfl rfl rfl) ?_
        refine y_op rfl (q_assign rfl) ?_
        refine AOps.nil ?_
        -- JOIN
        exact ARun.again (run (true) (rfl)) (by (repeat' first | exact envLe_nil | apply envLe_any | apply envLe_same)) rfl
      · skip
        have k := of_decide_eq_false k
        refine y_op rfl (q_loadAgg rfl rfl rfl rfl rfl) ?_
        refine y_op rfl (q_loadAgg rfl rfl rfl rfl rfl) ?_
        refine y_op rfl (q_call rfl rfl (pc_l_cmp b c (lnZ_fit lb) (lnZ_fit lc))) ?_
        refine y_op rfl (q_int rfl rfl rfl) ?_
        refine y_op rfl (q_pick rfl rfl rfl rfl) ?_
        refine y_op rfl (q_move rfl) ?_
        -- guard: slot 138
        refine AOps.bool 138 rfl (fun k2 => ?_) (fun k2 => ?_)
        · skip
          refine y_skip rfl ?_
          refine y_skip rfl ?_
          refine y_skip rfl ?_
          refine y_skip rfl ?_
          refine y_op rfl (q_pick rfl rfl rfl rfl) ?_
          refine y_op rfl (q_assign rfl) ?_
          refine AOps.nil ?_
          -- JOIN
          exact ARun.again (run (true) (rfl)) (by (repeat' first | exact envLe_nil | apply envLe_any | apply envLe_same)) rfl
        · skip
          have k2 := of_decide_eq_false k2
          refine y_op rfl (q_loadAgg rfl rfl rfl rfl rfl) ?_
          refine y_op rfl (q_loadAgg rfl rfl rfl rfl rfl) ?_
          refine y_op rfl (q_call rfl rfl (pc_l_cmp a c (lnZ_fit la) (lnZ_fit lc))) ?_
          refine y_op rfl (q_int rfl rfl rfl) ?_
          refine y_op rfl (q_pick rfl rfl rfl rfl) ?_
          refine y_op rfl (q_assign rfl) ?_
          refine AOps.nil ?_
          -- JOIN
          exact ARun.again (run (decide (cmpZ a c ≤ 0)) (decide_eq_true (cmpZ_trans k k2))) (by (repeat' first | exact envLe_nil | apply envLe_any | apply envLe_same)) rfl
    · rintro t hj
      try dsimp only at hj ⊢
      subst hj
      refine ARun.seq ?_
      refine ARun.drawnP 50 (fun _ => False) mixC rfl rfl (by kernel_rfl) (fun _ _ h => h.elim) ?_
      refine .op rfl (q_move rfl) ?_
      refine .op rfl (q_move rfl) ?_
      refine .op rfl (q_move rfl) ?_
      refine .op rfl (q_intEqT rfl rfl rfl) ?_
      refine .op rfl (q_pick rfl rfl rfl rfl) ?_
      refine .op rfl (q_move rfl) ?_
      refine .op rfl (q_move rfl) ?_
      refine .op rfl (q_intEqT rfl rfl rfl) ?_
      refine .op rfl (q_pick rfl rfl rfl rfl) ?_
      refine .op rfl (q_move rfl) ?_
      refine .op rfl (q_move rfl) ?_
      refine .op rfl (q_pick rfl rfl rfl rfl) ?_
      refine .op rfl (q_move rfl) ?_
      refine .op rfl (q_move rfl) ?_
      refine .op rfl (q_pick rfl rfl rfl rfl) ?_
      refine .op rfl (q_move rfl) ?_
      refine .op rfl (q_move rfl) ?_
      refine .op rfl (q_move rfl) ?_
      refine .op rfl (q_intEqT rfl rfl rfl) ?_
      refine .op rfl (q_pick rfl rfl rfl rfl) ?_
      refine .op rfl (q_move rfl) ?_
      refine .op rfl (q_loadAgg rfl rfl rfl rfl rfl) ?_
      refine .op rfl (q_loadAgg rfl rfl rfl rfl rfl) ?_
      refine .op rfl (q_call rfl rfl (pc_l_cmp b a (lnZ_fit lb) (lnZ_fit la))) ?_
      refine .op rfl (q_move rfl) ?_
      refine .op rfl (q_neg (r := -cmpZ a b) rfl (by have := cmpZ_rng a b; rw [IntWalk.i64_in _ (by omega)]; omega)) ?_
      refine .op rfl (q_intEqT rfl rfl (cmpZ_neg a b)) ?_
      refine .op rfl (q_pick rfl rfl rfl rfl) ?_
      refine .op rfl (q_move rfl) ?_
      refine .op rfl (q_move rfl) ?_
      refine .op rfl (q_int rfl rfl rfl) ?_
      refine .op rfl (q_loadAgg rfl rfl rfl rfl rfl) ?_
      refine .op rfl (q_loadAgg rfl rfl rfl rfl rfl) ?_
      refine .op rfl (q_call rfl rfl (pc_l_equal a b (Nat.le_trans la (by decide)))) ?_
      refine .op rfl (q_boolEqT rfl rfl rfl (cmpZ_zero a b)) ?_
      refine .op rfl (q_pick rfl rfl rfl rfl) ?_
      refine .op rfl (q_move rfl) ?_
      refine .op rfl (q_move rfl) ?_
      refine .op rfl (q_pick rfl rfl rfl rfl) ?_
      refine .op rfl (q_move rfl) ?_
      refine .op rfl (q_loadAgg rfl rfl rfl rfl rfl) ?_
      refine .op rfl (q_loadAgg rfl rfl rfl rfl rfl) ?_
      refine .op rfl (q_call rfl rfl (pc_l_add a c (lnZ_fit la) (lnZ_fit lc) (lnZ_fit lac))) ?_
      refine .op rfl (q_loadAgg rfl rfl rfl rfl rfl) ?_
      refine .op rfl (q_loadAgg rfl rfl rfl rfl rfl) ?_
      refine .op rfl (q_call rfl rfl (pc_l_add b c (lnZ_fit lb) (lnZ_fit lc) (lnZ_fit lbc))) ?_
      refine .op rfl (q_call rfl rfl (pc_l_cmp (a + c) (b + c) (lnZ_fit lac) (lnZ_fit lbc))) ?_
      refine .op rfl (q_move rfl) ?_
      refine .op rfl (q_intEqT rfl rfl (cmpZ_add a b c)) ?_
      refine .op rfl (q_pick rfl rfl rfl rfl) ?_
      refine .nil (fun hG => ?_)
      refine y_op rfl (q_assign rfl) ?_
      refine AOps.nil ?_
      -- RET results [(6,)]
      refine ARun.ret ?_
      refine ⟨_, _, _, .tmp rfl .nil, .cons (.same _) .nil, rfl, ?_⟩
      rfl
end Go.V
