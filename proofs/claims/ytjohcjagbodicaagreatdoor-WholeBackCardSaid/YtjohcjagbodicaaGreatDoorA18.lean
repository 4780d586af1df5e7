/- A part of the proof: abstract values, rules for the steps of the program's form, and contracts of its functions, each proved; no condition. -/
import Derived.Test.YtjohcjagbodicaaGreatDoorA17
set_option linter.unusedVariables false
set_option linter.unusedSimpArgs false
set_option maxHeartbeats 8000000
set_option maxRecDepth 100000
set_option synthInstance.maxSize 100000
set_option synthInstance.maxHeartbeats 2000000
namespace Go.V
open Go.RowKit Go.Proofs
theorem kk_pos (j : Nat) (h : j < 4) : 0 < 8 / 2 ^ j := by
  match j, h with
  | 0, _ | 1, _ | 2, _ | 3, _ => decide
theorem kk_end : 8 / 2 ^ 4 = 0 := by decide
theorem kk_le (j : Nat) : 8 / 2 ^ j ≤ 8 := Nat.div_le_self _ _
theorem kk_half (j : Nat) : 8 / 2 ^ j / 2 = 8 / 2 ^ (j + 1) := by rw [Nat.div_div_eq_div_mul, Nat.pow_succ]
theorem b4_take (n j : Nat) (h : j < 4) : (b4 n).take (j + 1) = (b4 n).take j ++ [48 + n / (8 / 2 ^ j) % 2] := by
  match j, h with
  | 0, _ | 1, _ | 2, _ => rfl
  | 3, _ => show b4 n = _; rw [show n / (8 / 2 ^ 3) = n from Nat.div_one n]; rfl
theorem ZkJ (c : Nat) (hc : c < 256) (h16 : digV c < 16) (hx : 48 ≤ c ∧ c ≤ 57 ∨ 97 ≤ c) : PC C Zgk [.int .u8 (c : Int)] (fun o => o = .ret (.str (bytesOf (b4 (digV c))))) := by
  have hd : digV c = if c ≤ 57 then c - 48 else c - 87 := by unfold digV at h16 ⊢; (repeat' split) <;> (repeat' split at h16) <;> omega
  refine PC.run Zcx Zft rfl Zfu rfl (rs := [.tmp 2]) (by rw [Zfv]) (by simp only [List.length_cons, List.length_nil, Nat.reduceAdd, Nat.reduceSub, List.replicate_succ, List.replicate_zero, List.cons_append, List.nil_append]; exact rfl) ?_
  refine ARun.seq (ARun.region ?_)
  refine y_op rfl (Zaa rfl) ?_
  refine AOps.nil (ARun.seq (ARun.region ?_))
  refine y_op rfl (Zaa rfl) ?_
  refine AOps.nil (ARun.seq (ARun.seq (ARun.region ?_)))
  refine y_op rfl (q_move rfl) ?_
  refine y_op rfl (q_int rfl rfl rfl) ?_
  refine AOps.nil ?_
  refine ARun.join (S := Unit) (fun u : Unit => [(8, .any), (9, .any), (10, .any), (11, .any), (12, .any), (13, .any), (14, .any), (3, .int .i64 ((digV c : Nat) : Int))]) (fun u : Unit => True) (fun run => ?_) ?_
  · skip
    refine ARun.ite rfl (fun g => ?_) (fun g => ?_)
    · skip
      refine ARun.region ?_
      refine y_op rfl (q_move rfl) ?_
      refine y_op rfl (q_sub rfl rfl (show _ = ((c - 48 : Nat) : Int) by rw [IntKind.wrap_u8]; omega)) ?_
      refine y_op rfl (q_conv rfl rfl rfl (show _ = ((digV c : Nat) : Int) by rw [IntWalk.i64_in _ (by omega), hd, if_pos (by omega)])) ?_
      refine y_op rfl (Zaa rfl) ?_
      refine AOps.nil ?_
      exact ARun.again (run (()) (trivial)) (by (repeat' first | exact envLe_nil | apply envLe_any | apply envLe_same)) rfl
    · skip
      refine ARun.region ?_
      refine y_op rfl (q_move rfl) ?_
      refine y_op rfl (q_sub rfl rfl (show _ = ((c - 97 : Nat) : Int) by rw [IntKind.wrap_u8]; omega)) ?_
      refine y_op rfl (q_conv rfl rfl rfl (show _ = ((c - 97 : Nat) : Int) by rw [IntWalk.i64_in _ (by omega)])) ?_
      refine y_op rfl (q_add rfl rfl (show _ = ((digV c : Nat) : Int) by rw [IntWalk.i64_in _ (by omega), hd, if_neg (by omega)]; omega)) ?_
      refine y_op rfl (Zaa rfl) ?_
      refine AOps.nil ?_
      exact ARun.again (run (()) (trivial)) (by (repeat' first | exact envLe_nil | apply envLe_any | apply envLe_same)) rfl
  · rintro u hj
    try dsimp only at hj ⊢
    refine ARun.seq (ARun.region ?_)
    refine y_op rfl (Zaa rfl) ?_
    refine AOps.nil (ARun.seq (ARun.seq (ARun.region ?_)))
    refine y_op rfl (Zaa rfl) ?_
    refine AOps.nil (ARun.block ?_)
    refine ARun.loopI (S := Nat) (fun j : Nat => [(15, .any), (16, .any), (17, .any), (18, .any), (19, .any), (20, .any), (21, .any), (22, .any), (23, .any), (24, .any), (25, .any), (26, .any), (27, .any), (4, .str (bytesOf ((b4 (digV c)).take j))), (5, .int .i64 ((8 / 2 ^ j : Nat) : Int))]) (fun j : Nat => []) (fun j : Nat => j ≤ 4) (fun j : Nat => 4 - j) (0) ?_ ?_ ?_ ?_
    · exact Nat.zero_le _
    · (repeat' first | exact envLe_nil | apply envLe_any | apply envLe_same)
    · rfl
    rintro j hinv ih
    have hkl := kk_le j
    refine ARun.seq (ARun.seq (ARun.region ?_))
    refine y_op rfl (q_move rfl) ?_
    refine y_op rfl (q_int rfl rfl rfl) ?_
    refine AOps.nil ?_
    refine ARun.ite rfl (fun g => ?_) (fun g => ?_)
    · skip
      have hj : j < 4 := by
        rcases Nat.lt_or_ge j 4 with h4 | h4
        · exact h4
        · exfalso
          obtain rfl : j = 4 := by omega
          rw [kk_end] at g; omega
      have hp := kk_pos j hj
      have htk := b4_take (digV c) j hj
      have hln : ((b4 (digV c)).take j).length = j := by rw [List.length_take, show (b4 (digV c)).length = 4 from rfl]; omega
      refine ARun.skip (ARun.seq (ARun.block (ARun.seq (ARun.region ?_))))
      refine y_op rfl (q_move rfl) ?_
      refine y_op rfl (q_move rfl) ?_
      refine y_op rfl (q_quo rfl rfl (by omega) (nquo_i64 (n := 8 / 2 ^ j) rfl (by omega))) ?_
      refine y_op rfl (q_rem rfl rfl (by omega) (nrem (n := 2) rfl)) ?_
      refine y_op rfl (q_int rfl rfl rfl) ?_
      refine AOps.nil ?_
      refine ARun.ite rfl (fun f => ?_) (fun f => ?_)
      · skip
        refine ARun.region ?_
        refine y_op rfl (q_move rfl) ?_
        refine y_op rfl (OpQ.cast (Zgd rfl rfl (by rw [bytesOf_size, hln]; show j + 1 ≤ _; omega)) (congrArg D.str (show bytesOf _ ++ bytesOf [49] = bytesOf ((b4 (digV c)).take (j + 1)) by rw [htk, show digV c / (8 / 2 ^ j) % 2 = 1 by omega, ← bytesOf_append]))) ?_
        refine y_op rfl (Zaa rfl) ?_
        refine AOps.nil (ARun.inBlock (ARun.region ?_))
        refine y_op rfl (q_move rfl) ?_
        refine y_op rfl (q_quo rfl rfl (by omega) (show _ = ((8 / 2 ^ (j + 1) : Nat) : Int) by rw [← kk_half]; exact nquo_i64 (n := 2) rfl (by omega))) ?_
        refine y_op rfl (Zaa rfl) ?_
        refine AOps.nil ?_
        refine ARun.again (ih (j + 1) ?_ ?_) ?_ ?_
        · exact hj
        · omega
        · (repeat' first | exact envLe_nil | apply envLe_any | apply envLe_same)
        · rfl
      · skip
        refine ARun.region ?_
        refine y_op rfl (q_move rfl) ?_
        refine y_op rfl (OpQ.cast (Zgd rfl rfl (by rw [bytesOf_size, hln]; show j + 1 ≤ _; omega)) (congrArg D.str (show bytesOf _ ++ bytesOf [48] = bytesOf ((b4 (digV c)).take (j + 1)) by rw [htk, show digV c / (8 / 2 ^ j) % 2 = 0 by omega, ← bytesOf_append]))) ?_
        refine y_op rfl (Zaa rfl) ?_
        refine AOps.nil (ARun.inBlock (ARun.region ?_))
        refine y_op rfl (q_move rfl) ?_
        refine y_op rfl (q_quo rfl rfl (by omega) (show _ = ((8 / 2 ^ (j + 1) : Nat) : Int) by rw [← kk_half]; exact nquo_i64 (n := 2) rfl (by omega))) ?_
        refine y_op rfl (Zaa rfl) ?_
        refine AOps.nil ?_
        refine ARun.again (ih (j + 1) ?_ ?_) ?_ ?_
        · exact hj
        · omega
        · (repeat' first | exact envLe_nil | apply envLe_any | apply envLe_same)
        · rfl
    · skip
      have hj : j = 4 := by
        apply Classical.byContradiction
        intro h4
        have := kk_pos j (by omega)
        omega
      subst hj
      refine ARun.exit rfl ?_
      refine ARun.seq (ARun.region ?_)
      refine y_op rfl (q_move rfl) ?_
      refine y_op rfl (Zaa rfl) ?_
      refine AOps.nil ?_
      refine ARun.ret ?_
      refine ⟨_, _, _, .tmp rfl .nil, .cons (.same _) .nil, rfl, ?_⟩
      rfl
theorem str_mem (z : Int) : ∀ c ∈ strZ 16 false z, c = 45 ∨ ∃ d, d < 16 ∧ c = fig d := by
  intro c hc
  unfold strZ at hc
  rcases List.mem_append.1 hc with h | h
  · left
    cases hd : decide (z < 0) <;> rw [hd] at h
    · cases h
    · simpa using h
  · right
    rw [cond_false, txt_digs] at h
    obtain ⟨d, hd, rfl⟩ := List.mem_map.1 h
    exact ⟨d, digs_lt (by decide) _ d hd, rfl⟩
theorem fig_hex {d : Nat} (h : d < 16) : 48 ≤ fig d ∧ fig d ≤ 57 ∨ 97 ≤ fig d := by unfold fig; split <;> omega
theorem strZ_len {b : Nat} (hb : 2 ≤ b) (up : Bool) (z : Int) (hz : (lim z.natAbs).length ≤ 60) : (strZ b up z).length ≤ 2000 := by
  have := digs_ln hb hz
  unfold strZ
  rw [txt_digs, List.length_append]
  cases up <;> cases decide (z < 0) <;> simp only [cond_true, cond_false, List.length_map, List.length_cons, List.length_nil] <;> omega
theorem flat_take {l : List Nat} {k : Nat} (h : k < l.length) : (l.take (k + 1)).flatMap fourC = (l.take k).flatMap fourC ++ fourC (l.getD k 0) := by
  rw [take_getD h, List.flatMap_append]; simp
theorem fourC_le (c : Nat) : (fourC c).length ≤ 4 := by
  unfold fourC; split
  · decide
  · exact Nat.le_refl 4
theorem flat_le : ∀ l : List Nat, (l.flatMap fourC).length ≤ 4 * l.length
  | [] => Nat.le_refl _
  | c :: l => by have := flat_le l; have := fourC_le c; rw [List.flatMap_cons, List.length_append, List.length_cons]; omega
theorem Znm (d1 : Bool × List Nat) (h1 : U32 d1.2) (base : Int) (up : Bool) : PC C ZeA [intA d1.1 d1.2, .int .i64 base, .bool up] (fun o => o = .ret (.bool true)) := by
  refine PC.run Zb2 Zd4 rfl Zd5 rfl (rs := [.tmp 6]) (by rw [Zd6]) (by simp only [List.length_cons, List.length_nil, Nat.reduceAdd, Nat.reduceSub, List.replicate_succ, List.replicate_zero, List.cons_append, List.nil_append]; exact rfl) ?_
  refine ARun.seq (ARun.region ?_)
  refine y_op rfl (q_boxF rfl rfl rfl rfl) ?_
  refine y_op rfl (Zaa rfl) ?_
  refine AOps.nil (ARun.seq (ARun.region ?_))
  refine y_op rfl (q_call rfl rfl (Zci)) ?_
  refine y_op rfl (Zaa rfl) ?_
  refine AOps.nil (ARun.seq (ARun.seq (ARun.region ?_)))
  refine y_op rfl (Zai rfl rfl rfl rfl rfl) ?_
  refine y_op rfl (ZaE rfl rfl rfl rfl rfl rfl rfl rfl rfl rfl rfl (by decide) (by decide) rfl) ?_
  refine y_op rfl (q_call rfl rfl (Zni [d1] 1 rfl 60)) ?_
  refine y_op rfl (q_not rfl) ?_
  refine y_op rfl (q_move rfl) ?_
  refine AOps.bool 27 rfl (fun g => ?_) (fun g => ?_)
  · skip
    refine y_skip rfl ?_
    refine y_skip rfl ?_
    refine y_op rfl (q_pick rfl rfl rfl rfl) ?_
    refine y_op rfl (q_move rfl) ?_
    refine y_skip rfl ?_
    refine y_skip rfl ?_
    refine y_op rfl (q_pick rfl rfl rfl rfl) ?_
    refine AOps.nil ?_
    refine ARun.condT rfl ?_
    refine ARun.seq (ARun.region ?_)
    refine y_op rfl (q_move rfl) ?_
    refine y_op rfl (Zaa rfl) ?_
    refine AOps.nil ?_
    refine ARun.ret ?_
    refine ⟨_, _, _, .tmp rfl .nil, .cons (.same _) .nil, rfl, ?_⟩
    rfl
  · skip
    have g := not_false_true g
    simp only [List.all_cons, List.all_nil, Bool.and_true, Bool.and_eq_true, decide_eq_true_eq] at g
    obtain ⟨g1, k1⟩ := g
    obtain ⟨z, rfl, hz⟩ := fine_int h1 g1 k1
    refine y_op rfl (q_move rfl) ?_
    refine y_op rfl (q_int rfl rfl rfl) ?_
    refine y_op rfl (q_pick rfl rfl rfl rfl) ?_
    refine y_op rfl (q_move rfl) ?_
    refine AOps.bool 31 rfl (fun g2 => ?_) (fun g2 => ?_)
    · skip
      refine y_skip rfl ?_
      refine y_skip rfl ?_
      refine y_op rfl (q_pick rfl rfl rfl rfl) ?_
      refine AOps.nil ?_
      refine ARun.condT rfl ?_
      refine ARun.seq (ARun.region ?_)
      refine y_op rfl (q_move rfl) ?_
      refine y_op rfl (Zaa rfl) ?_
      refine AOps.nil ?_
      refine ARun.ret ?_
      refine ⟨_, _, _, .tmp rfl .nil, .cons (.same _) .nil, rfl, ?_⟩
      rfl
    · skip
      have g2 := of_decide_eq_false g2
      refine y_op rfl (q_move rfl) ?_
      refine y_op rfl (q_int rfl rfl rfl) ?_
      refine y_op rfl (q_pick rfl rfl rfl rfl) ?_
      refine AOps.nil ?_
      refine ARun.ite rfl (fun g3 => ?_) (fun g3 => ?_)
      · skip
        refine ARun.seq (ARun.region ?_)
        refine y_op rfl (q_move rfl) ?_
        refine y_op rfl (Zaa rfl) ?_
        refine AOps.nil ?_
        refine ARun.ret ?_
        refine ⟨_, _, _, .tmp rfl .nil, .cons (.same _) .nil, rfl, ?_⟩
        rfl
      · skip
        obtain ⟨b, rfl⟩ : ∃ b : Nat, base = (b : Int) := ⟨base.toNat, by omega⟩
        have hb2 : 2 ≤ b := by omega
        have hb36 : b ≤ 36 := by omega
        have fz : fitZ z := lnZ_fit hz
        have hR : ∀ (b : Nat) (up : Bool), 2 ≤ b → b ≤ 36 → PC C ZcY [intD z, .int .i64 (b : Int), .bool up] (fun o => o = .ret (.tup [.str (bytesOf (strZ b up z)), .int .i64 0])) := fun b up h2 h36 => (Zez (decide (z < 0), lim z.natAbs) (U32_lim _) b up).mono fun o ho => by
          have : textR (decide (z < 0), lim z.natAbs) (b : Int) up = (strZ b up z, 0) := by
            unfold textR; rw [okI_of fz, decide_eq_true (show (2 : Int) ≤ (b : Int) by omega), decide_eq_true (show (b : Int) ≤ 36 by omega), valI_int]; rfl
          rw [ho, this]
        have hP : PC C Zcm [.str (bytesOf (strZ b up z)), .int .i64 (b : Int)] (fun o => o = .ret (.tup [intD z, .int .i64 0, .int .i64 0])) := (Zdn (bytesOf (strZ b up z)) b).mono fun o ho => by rw [ho, parse_strZ hb2 hb36 up z hz]
        have hP4 : PC C Zcm [.str (bytesOf ((strZ 16 false z).flatMap fourC)), .int .i64 2] (fun o => o = .ret (.tup [intD z, .int .i64 0, .int .i64 0])) := (Zdn (bytesOf ((strZ 16 false z).flatMap fourC)) 2).mono fun o ho => by rw [ho, parse_four z hz]
        obtain ⟨s1, s2⟩ := four_size z
        have sz16 := strZ_len (b := 16) (by decide) false z hz
        have sz2 := strZ_len (b := 2) (by decide) false z hz
        have hby : ∀ c ∈ strZ 16 false z, c < 256 := by
          intro c hc
          rcases str_mem z c hc with rfl | ⟨d, hd, rfl⟩
          · decide
          · exact fig_lt (by omega)
        have hsb := sby_bytesOf hby
        have hmem := str_mem z
        have e16 := bytesOf_size (strZ 16 false z)
        have e2 := bytesOf_size (strZ 2 false z)
        have e4 := bytesOf_size ((strZ 16 false z).flatMap fourC)
        refine ARun.skip (ARun.seq (ARun.region ?_))
        refine y_op rfl (Zai rfl rfl rfl rfl rfl) ?_
        refine y_op rfl (q_move rfl) ?_
        refine y_op rfl (q_move rfl) ?_
        refine y_op rfl (q_call rfl rfl (hR b up hb2 hb36)) ?_
        refine y_op rfl (q_move rfl) ?_
        refine y_op rfl (Zab rfl rfl) ?_
        refine y_op rfl (Zab rfl rfl) ?_
        refine y_op rfl (Zaa rfl) ?_
        refine y_op rfl (Zaa rfl) ?_
        refine AOps.nil (ARun.seq (ARun.region ?_))
        refine y_op rfl (q_move rfl) ?_
        refine y_op rfl (q_move rfl) ?_
        refine y_op rfl (q_call rfl rfl (hP)) ?_
        refine y_op rfl (q_move rfl) ?_
        refine y_op rfl (Zab rfl rfl) ?_
        refine y_op rfl (Zab rfl rfl) ?_
        refine y_op rfl (Zab rfl rfl) ?_
        refine Zbu rfl rfl rfl rfl rfl rfl rfl rfl rfl rfl rfl ?_
        refine y_op rfl (Zaa rfl) ?_
        refine y_op rfl (Zaa rfl) ?_
        refine AOps.nil (ARun.seq (ARun.seq (ARun.region ?_)))
        refine y_op rfl (q_move rfl) ?_
        refine y_op rfl (Zjd rfl rfl rfl) ?_
        refine y_op rfl (q_move rfl) ?_
        refine y_op rfl (q_move rfl) ?_
        refine y_op rfl (Zjd rfl rfl rfl) ?_
        refine y_op rfl (q_pick rfl rfl rfl rfl) ?_
        refine y_op rfl (q_move rfl) ?_
        refine y_op rfl (q_move rfl) ?_
        refine y_op rfl (Zjd rfl rfl rfl) ?_
        refine y_op rfl (q_pick rfl rfl rfl rfl) ?_
        refine y_op rfl (q_move rfl) ?_
        refine y_op rfl (Zai rfl rfl rfl rfl rfl) ?_
        refine y_op rfl (Zai rfl rfl rfl rfl rfl) ?_
        refine y_op rfl (q_call rfl rfl (Zg8 z z fz rfl)) ?_
        refine y_op rfl (q_not rfl) ?_
        refine y_op rfl (q_pick rfl rfl rfl rfl) ?_
        refine AOps.nil ?_
        refine ARun.condF rfl ?_
        refine ARun.skip (ARun.seq (ARun.region ?_))
        refine y_op rfl (Zai rfl rfl rfl rfl rfl) ?_
        refine y_op rfl (q_call rfl rfl (hR 16 false (by decide) (by decide))) ?_
        refine y_op rfl (q_move rfl) ?_
        refine y_op rfl (Zab rfl rfl) ?_
        refine y_op rfl (Zab rfl rfl) ?_
        refine y_op rfl (Zaa rfl) ?_
        refine y_op rfl (Zaa rfl) ?_
        refine AOps.nil (ARun.seq (ARun.region ?_))
        refine y_op rfl (Zai rfl rfl rfl rfl rfl) ?_
        refine y_op rfl (q_call rfl rfl (hR 2 false (by decide) (by decide))) ?_
        refine y_op rfl (q_move rfl) ?_
        refine y_op rfl (Zab rfl rfl) ?_
        refine y_op rfl (Zab rfl rfl) ?_
        refine y_op rfl (Zaa rfl) ?_
        refine y_op rfl (Zaa rfl) ?_
        refine AOps.nil (ARun.seq (ARun.region ?_))
        refine y_op rfl (Zaa rfl) ?_
        refine AOps.nil (ARun.seq (ARun.seq (ARun.region ?_)))
        refine y_op rfl (Zaa rfl) ?_
        refine AOps.nil (ARun.block ?_)
        refine ARun.loopI (S := Nat) (fun k : Nat => [(76, .any), (77, .any), (78, .any), (79, .any), (80, .any), (81, .any), (82, .any), (83, .any), (84, .any), (85, .any), (86, .any), (87, .any), (88, .any), (89, .any), (90, .any), (91, .any), (92, .any), (93, .any), (17, .str (bytesOf (((strZ 16 false z).take k).flatMap fourC))), (18, .int .i64 (k : Int))]) (fun k : Nat => []) (fun k : Nat => k ≤ (strZ 16 false z).length) (fun k : Nat => (strZ 16 false z).length - k) (0) ?_ ?_ ?_ ?_
        · exact Nat.zero_le _
        · (repeat' first | exact envLe_nil | apply envLe_any | apply envLe_same)
        · rfl
        rintro k hinv ih
        refine ARun.seq (ARun.seq (ARun.region ?_))
        refine y_op rfl (q_move rfl) ?_
        refine y_op rfl (q_move rfl) ?_
        refine y_op rfl (ZaB rfl rfl) ?_
        refine y_op rfl (q_int rfl rfl rfl) ?_
        refine AOps.nil ?_
        refine ARun.ite rfl (fun f => ?_) (fun f => ?_)
        · skip
          have hk : k < (strZ 16 false z).length := by omega
          have hm := hmem ((strZ 16 false z).getD k 0) (by rw [List.getD_eq_getElem?_getD, List.getElem?_eq_getElem hk]; exact List.getElem_mem _)
          have hft := flat_take hk
          have hle := flat_le ((strZ 16 false z).take k)
          have hle4 := fourC_le ((strZ 16 false z).getD k 0)
          rw [List.length_take] at hle
          refine ARun.skip (ARun.seq (ARun.block (ARun.seq (ARun.region ?_))))
          refine y_op rfl (q_move rfl) ?_
          refine y_op rfl (q_move rfl) ?_
          refine y_op rfl (Zaw rfl rfl rfl (by omega) (by omega) ((sby_get _).trans (by rw [hsb]))) ?_
          refine y_op rfl (q_int rfl rfl rfl) ?_
          refine AOps.nil ?_
          refine ARun.ite rfl (fun e => ?_) (fun e => ?_)
          · skip
            have e : (strZ 16 false z).getD k 0 = 45 := by omega
            rw [e] at hft
            refine ARun.region ?_
            refine y_op rfl (q_move rfl) ?_
            refine y_op rfl (OpQ.cast (Zgd rfl rfl (by rw [bytesOf_size]; show _ + 1 ≤ _; omega)) (congrArg D.str (show bytesOf _ ++ bytesOf [45] = bytesOf (((strZ 16 false z).take (k + 1)).flatMap fourC) by rw [hft, ← bytesOf_append]; rfl))) ?_
            refine y_op rfl (Zaa rfl) ?_
            refine AOps.nil (ARun.inBlock (ARun.region ?_))
            refine y_op rfl (q_move rfl) ?_
            refine y_op rfl (q_add rfl rfl (nadd1_i64 (by omega))) ?_
            refine y_op rfl (Zaa rfl) ?_
            refine AOps.nil ?_
            refine ARun.again (ih (k + 1) ?_ ?_) ?_ ?_
            · exact hk
            · omega
            · (repeat' first | exact envLe_nil | apply envLe_any | apply envLe_same)
            · rfl
          · skip
            have e : (strZ 16 false z).getD k 0 ≠ 45 := by omega
            obtain ⟨d, hd, hf⟩ := hm.resolve_left e
            have hdg := digV_fig (show d < 36 by omega)
            rw [← hf] at hdg
            have hx := fig_hex hd
            have hl2 := fig_lt (show d < 36 by omega)
            rw [← hf] at hx hl2
            refine ARun.region ?_
            refine y_op rfl (q_move rfl) ?_
            refine y_op rfl (q_move rfl) ?_
            refine y_op rfl (q_move rfl) ?_
            refine y_op rfl (Zaw rfl rfl rfl (by omega) (by omega) ((sby_get _).trans (by rw [hsb]))) ?_
            refine y_op rfl (q_call rfl rfl (ZkJ ((strZ 16 false z).getD k 0) hl2 (by omega) hx)) ?_
            refine y_op rfl (OpQ.cast (Zgd rfl rfl (by rw [bytesOf_size, bytesOf_size]; show _ + 4 ≤ _; omega)) (congrArg D.str (show bytesOf _ ++ bytesOf _ = bytesOf (((strZ 16 false z).take (k + 1)).flatMap fourC) by rw [hft, ← bytesOf_append, show fourC ((strZ 16 false z).getD k 0) = b4 (digV ((strZ 16 false z).getD k 0)) from if_neg e]))) ?_
            refine y_op rfl (Zaa rfl) ?_
            refine AOps.nil (ARun.inBlock (ARun.region ?_))
            refine y_op rfl (q_move rfl) ?_
            refine y_op rfl (q_add rfl rfl (nadd1_i64 (by omega))) ?_
            refine y_op rfl (Zaa rfl) ?_
            refine AOps.nil ?_
            refine ARun.again (ih (k + 1) ?_ ?_) ?_ ?_
            · exact hk
            · omega
            · (repeat' first | exact envLe_nil | apply envLe_any | apply envLe_same)
            · rfl
        · skip
          have hk : k = (strZ 16 false z).length := by omega
          subst hk
          rw [List.take_length]
          refine ARun.exit rfl ?_
          refine ARun.seq (ARun.region ?_)
          refine y_op rfl (q_move rfl) ?_
          refine y_op rfl (q_call rfl rfl (hP4)) ?_
          refine y_op rfl (q_move rfl) ?_
          refine y_op rfl (Zab rfl rfl) ?_
          refine y_op rfl (Zab rfl rfl) ?_
          refine y_op rfl (Zab rfl rfl) ?_
          refine Zbu rfl rfl rfl rfl rfl rfl rfl rfl rfl rfl rfl ?_
          refine y_op rfl (Zaa rfl) ?_
          refine y_op rfl (Zaa rfl) ?_
          refine AOps.nil (ARun.seq (ARun.region ?_))
          refine y_op rfl (q_move rfl) ?_
          refine y_op rfl (q_move rfl) ?_
          refine y_op rfl (q_move rfl) ?_
          refine y_op rfl (Zcv rfl rfl rfl) ?_
          refine y_op rfl (q_pick rfl rfl rfl rfl) ?_
          refine y_op rfl (q_move rfl) ?_
          refine y_op rfl (q_move rfl) ?_
          refine y_op rfl (Zcv rfl rfl rfl) ?_
          refine y_op rfl (q_pick rfl rfl rfl rfl) ?_
          refine y_op rfl (q_move rfl) ?_
          refine y_op rfl (q_move rfl) ?_
          refine y_op rfl (Zcv rfl rfl rfl) ?_
          refine y_op rfl (q_pick rfl rfl rfl rfl) ?_
          refine y_op rfl (q_move rfl) ?_
          refine y_op rfl (Zai rfl rfl rfl rfl rfl) ?_
          refine y_op rfl (Zai rfl rfl rfl rfl rfl) ?_
          refine y_op rfl (q_call rfl rfl (Zg8 z z fz rfl)) ?_
          refine y_op rfl (q_pick rfl rfl rfl rfl) ?_
          refine y_op rfl (q_move rfl) ?_
          refine y_op rfl (q_move rfl) ?_
          refine y_op rfl (ZaB rfl rfl) ?_
          refine y_op rfl (q_move rfl) ?_
          refine y_op rfl (ZaB rfl rfl) ?_
          refine y_op rfl (OpQ.cast (d' := .bool true) (q_int rfl rfl rfl) (by rw [decide_eq_true (by omega)])) ?_
          refine y_op rfl (q_pick rfl rfl rfl rfl) ?_
          refine y_op rfl (q_move rfl) ?_
          refine y_op rfl (q_move rfl) ?_
          refine y_op rfl (ZaB rfl rfl) ?_
          refine y_op rfl (q_move rfl) ?_
          refine y_op rfl (ZaB rfl rfl) ?_
          refine y_op rfl (q_add rfl rfl (nadd1_i64 (by omega))) ?_
          refine y_op rfl (OpQ.cast (d' := .bool true) (q_int rfl rfl rfl) (by rw [decide_eq_true (by omega)])) ?_
          refine y_op rfl (q_pick rfl rfl rfl rfl) ?_
          refine y_op rfl (Zaa rfl) ?_
          refine AOps.nil ?_
          refine ARun.ret ?_
          refine ⟨_, _, _, .tmp rfl .nil, .cons (.same _) .nil, rfl, ?_⟩
          rfl
end Go.V
