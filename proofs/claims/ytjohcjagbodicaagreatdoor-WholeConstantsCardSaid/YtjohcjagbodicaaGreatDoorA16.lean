/- A part of the proof: abstract values, rules for the steps of the program's form, and contracts of its functions, each proved; no condition. -/
import Derived.Test.YtjohcjagbodicaaGreatDoorA15
set_option linter.unusedVariables false
set_option linter.unusedSimpArgs false
set_option maxHeartbeats 8000000
set_option maxRecDepth 100000
set_option synthInstance.maxSize 100000
set_option synthInstance.maxHeartbeats 2000000
namespace Go.V
open Go.RowKit Go.Proofs
theorem atU (s : ByteArray) (p : Nat) : isAt s p sU = (decide (p < s.size) && (decide ((sby s).getD p 0 = 117) || decide ((sby s).getD p 0 = 85))) := isAt_two
theorem atL1 (s : ByteArray) (p : Nat) : isAt s p sL1 = (decide (p < s.size) && decide ((sby s).getD p 0 = 108)) := isAt_one
theorem atL2 (s : ByteArray) (p : Nat) : isAt s p sL2 = (decide (p < s.size) && decide ((sby s).getD p 0 = 76)) := isAt_one
def lenA (s : ByteArray) (p : Nat) : Nat := bif isAt s p sL1 then (bif isAt s (p + 1) sL1 then 2 else 1) else bif isAt s p sL2 then (bif isAt s (p + 1) sL2 then 2 else 1) else 0
theorem lenA_le (s : ByteArray) (p : Nat) : lenA s p ≤ 2 := by unfold lenA; cases isAt s p sL1 <;> cases isAt s p sL2 <;> cases isAt s (p + 1) sL1 <;> cases isAt s (p + 1) sL2 <;> decide
def bN (b : Bool) : Nat := bif b then 1 else 0
theorem bN_le (b : Bool) : bN b ≤ 1 := by cases b <;> decide
def sfx (s : ByteArray) (p : Nat) : Nat × Bool × Nat :=
  (p + bN (isAt s p sU) + lenA s (p + bN (isAt s p sU)) + bN (!isAt s p sU && isAt s (p + bN (isAt s p sU) + lenA s (p + bN (isAt s p sU))) sU),
    isAt s p sU || isAt s (p + bN (isAt s p sU) + lenA s (p + bN (isAt s p sU))) sU, lenA s (p + bN (isAt s p sU)))
theorem lenA_same {s : ByteArray} {p : Nat} (h : (isAt s p sL1 || isAt s p sL2) = true) : p < s.size ∧ lenA s p = if p + 1 < s.size ∧ (sby s).getD (p + 1) 0 = (sby s).getD p 0 then 2 else 1 := by
  have e1 := atL1 s p
  have e2 := atL2 s p
  have e3 := atL1 s (p + 1)
  have e4 := atL2 s (p + 1)
  by_cases g : p < s.size
  · refine ⟨g, ?_⟩
    rw [decide_eq_true g, Bool.true_and] at e1 e2
    unfold lenA
    by_cases h1 : (sby s).getD p 0 = 108
    · rw [decide_eq_true h1] at e1
      rw [e1, cond_true, e3, h1]
      by_cases h3 : p + 1 < s.size <;> by_cases h4 : (sby s).getD (p + 1) 0 = 108 <;> simp [h3, h4]
    rw [decide_eq_false h1] at e1
    rw [e1, Bool.false_or] at h
    have h2 : (sby s).getD p 0 = 76 := of_decide_eq_true (e2.symm.trans h)
    rw [e1, cond_false, h, cond_true, e4, h2]
    by_cases h3 : p + 1 < s.size <;> by_cases h4 : (sby s).getD (p + 1) 0 = 76 <;> simp [h3, h4]
  rw [e1, e2, decide_eq_false g, Bool.false_and, Bool.false_and] at h; cases h
theorem ZlI (s : ByteArray) (hs : s.size ≤ 20000) (p : Nat) (hp : p ≤ s.size) : PC C Zka [.str s, .int .i64 (p : Int)] (fun o => o = .ret (.tup [.int .i64 (((sfx s p).1 : Nat) : Int), .bool (sfx s p).2.1, .int .i64 (((sfx s p).2.2 : Nat) : Int)])) := by
  unfold sfx
  refine PC.rn Zeo Zi6 Zi7 (rs := [.tmp 4, .tmp 5, .tmp 6]) (by rw [Zi8]) ?_
  refine ARun.seq (ARun.region ?_); refine xa ?_; refine xa ?_; refine xa ?_; refine AOps.nil (ARun.seq (ARun.region ?_)); refine xa ?_; refine AOps.nil (ARun.seq (ARun.seq ?_))
  refine ARun.join (S := Bool) (fun u : Bool => [(9, .any), (10, .any), (11, .any), (12, .any), (13, .any), (14, .any), (15, .any), (16, .any), (17, .any), (18, .any), (19, .any), (20, .any), (21, .any), (22, .any), (23, .any), (24, .bool u)]) (fun u : Bool => u = isAt s p sU) (fun run => ?_) ?_
  · skip
    refine ARun.region ?_; refine xm ?_; refine xm ?_
    refine y_op rfl (Zan rfl rfl) ?_
    refine xi ?_; refine xm ?_
    refine AOps.bool 13 rfl (fun g => ?_) (fun g => ?_)
    · skip
      have g : p < s.size := by have := of_decide_eq_true g; omega
      refine xm ?_; refine xm ?_
      refine y_op rfl (Zak rfl rfl rfl (by omega) (by omega) (sby_get _)) ?_
      refine y_op rfl (OpQ.cast (q_int rfl rfl rfl) (congrArg D.bool (int_dec (m := 117) rfl))) ?_
      refine xm ?_
      refine AOps.bool 18 rfl (fun a => ?_) (fun a => ?_)
      · skip
        refine xk ?_; refine xk ?_; refine xk ?_; refine xk ?_; refine xp ?_; refine xp ?_; refine AOps.nil ?_
        exact ARun.ag (run (true) (by rw [atU, dT g, a]; rfl))
      refine xm ?_; refine xm ?_
      refine y_op rfl (Zak rfl rfl rfl (by omega) (by omega) (sby_get _)) ?_
      refine y_op rfl (OpQ.cast (q_int rfl rfl rfl) (congrArg D.bool (int_dec (m := 85) rfl))) ?_
      refine xp ?_; refine xp ?_; refine AOps.nil ?_
      exact ARun.ag (run (decide ((sby s).getD p 0 = 85)) (by rw [atU, dT g, a]; rfl))
    have g : ¬ p < s.size := by have := of_decide_eq_false g; omega
    refine xk ?_; refine xk ?_; refine xk ?_; refine xk ?_; refine xk ?_; refine xk ?_; refine xk ?_; refine xk ?_; refine xk ?_; refine xk ?_; refine xp ?_; refine AOps.nil ?_
    exact ARun.ag (run (false) (by rw [atU, decide_eq_false g]; rfl))
  rintro u hj
  try dsimp only at hj ⊢
  refine ARun.join (S := Unit) (fun v : Unit => [(25, .any), (26, .any), (7, .bool (isAt s p sU)), (1, .int .i64 ((p + bN (isAt s p sU) : Nat) : Int))]) (fun v : Unit => p + bN (isAt s p sU) ≤ s.size) (fun run => ?_) ?_
  · skip
    refine ARun.cond rfl (fun hu => ?_) (fun hu => ?_)
    · skip
      rw [← hj, hu] at run ⊢
      have g : p < s.size := by
        apply Classical.byContradiction
        intro g
        rw [hu, atU, decide_eq_false g] at hj; cases hj
      refine ARun.seq (ARun.region ?_); refine xa ?_; refine AOps.nil (ARun.region ?_); refine xm ?_
      refine y_op rfl (q_add rfl rfl (nadd1_i64 (by omega))) ?_
      refine xa ?_; refine AOps.nil ?_
      exact ARun.ag (run (()) (g))
    rw [← hj, hu] at run ⊢
    refine ARun.skip ?_
    exact ARun.ag (run (()) (hp))
  rintro v hj
  try dsimp only at hj ⊢
  have hp1s := hj
  clear hj
  generalize hu : isAt s p sU = u at *
  have hu1 := bN_le u
  generalize hp1 : p + bN u = p1 at *
  refine ARun.seq (ARun.region ?_); refine xa ?_; refine AOps.nil (ARun.seq (ARun.seq ?_))
  refine ARun.join (S := Bool) (fun v : Bool => [(27, .any), (28, .any), (29, .any), (30, .any), (31, .any), (32, .any), (33, .any), (34, .any), (35, .any), (36, .any), (37, .any), (38, .any), (39, .any), (40, .any), (41, .any), (42, .bool v)]) (fun v : Bool => v = (isAt s p1 sL1 || isAt s p1 sL2)) (fun run => ?_) ?_
  · skip
    refine ARun.region ?_; refine xm ?_; refine xm ?_
    refine y_op rfl (Zan rfl rfl) ?_
    refine xi ?_; refine xm ?_
    refine AOps.bool 31 rfl (fun g => ?_) (fun g => ?_)
    · skip
      have g : p1 < s.size := by have := of_decide_eq_true g; omega
      refine xm ?_; refine xm ?_
      refine y_op rfl (Zak rfl rfl rfl (by omega) (by omega) (sby_get _)) ?_
      refine y_op rfl (OpQ.cast (q_int rfl rfl rfl) (congrArg D.bool (int_dec (m := 108) rfl))) ?_
      refine xm ?_
      refine AOps.bool 36 rfl (fun a => ?_) (fun a => ?_)
      · skip
        refine xk ?_; refine xk ?_; refine xk ?_; refine xk ?_; refine xp ?_; refine xp ?_; refine AOps.nil ?_
        exact ARun.ag (run (true) (by rw [atL1, dT g, a]; rfl))
      refine xm ?_; refine xm ?_
      refine y_op rfl (Zak rfl rfl rfl (by omega) (by omega) (sby_get _)) ?_
      refine y_op rfl (OpQ.cast (q_int rfl rfl rfl) (congrArg D.bool (int_dec (m := 76) rfl))) ?_
      refine xp ?_; refine xp ?_; refine AOps.nil ?_
      exact ARun.ag (run (decide ((sby s).getD p1 0 = 76)) (by rw [atL1, atL2, dT g, a]; rfl))
    have g : ¬ p1 < s.size := by have := of_decide_eq_false g; omega
    refine xk ?_; refine xk ?_; refine xk ?_; refine xk ?_; refine xk ?_; refine xk ?_; refine xk ?_; refine xk ?_; refine xk ?_; refine xk ?_; refine xp ?_; refine AOps.nil ?_
    exact ARun.ag (run (false) (by rw [atL1, atL2, decide_eq_false g]; rfl))
  rintro v hj
  try dsimp only at hj ⊢
  refine ARun.join (S := Unit) (fun w : Unit => [(43, .any), (44, .any), (45, .any), (46, .any), (47, .any), (48, .any), (49, .any), (50, .any), (51, .any), (52, .any), (53, .any), (54, .any), (55, .any), (56, .any), (57, .any), (58, .any), (59, .any), (60, .any), (8, .int .i64 ((lenA s p1 : Nat) : Int)), (1, .int .i64 ((p1 + lenA s p1 : Nat) : Int))]) (fun w : Unit => p1 + lenA s p1 ≤ s.size) (fun run => ?_) ?_
  · skip
    refine ARun.cond rfl (fun hv => ?_) (fun hv => ?_)
    · skip
      rw [hv] at hj
      obtain ⟨g, hl⟩ := lenA_same hj.symm
      rw [hl] at run ⊢
      refine ARun.seq (ARun.region ?_); refine xa ?_; refine AOps.nil (ARun.seq (ARun.region ?_)); refine xm ?_
      refine y_op rfl (q_add rfl rfl (nadd1_i64 (by omega))) ?_
      rcases Nat.lt_or_ge (p1 + 1) s.size with f | f
      · skip
        refine xa ?_; refine AOps.nil (ARun.seq ?_)
        refine ARun.drawnP 14 (fun _ => False) mixC rfl rfl (by kernel_rfl) (fun _ _ h => h.elim) ?_
        refine .op rfl (q_move rfl) ?_
        refine .op rfl (q_move rfl) ?_
        refine .op rfl (Zan rfl rfl) ?_
        refine .op rfl (OpQ.cast (d' := .bool true) (q_int rfl rfl rfl) (by rw [decide_eq_true (by omega)])) ?_
        refine .op rfl (q_move rfl) ?_
        refine .op rfl (q_move rfl) ?_
        refine .op rfl (q_move rfl) ?_
        refine .op rfl (Zak rfl rfl rfl (by omega) (by omega) (sby_get (i := p1 + 1) _)) ?_
        refine .op rfl (q_move rfl) ?_
        refine .op rfl (q_move rfl) ?_
        refine .op rfl (q_sub rfl rfl (show _ = (p1 : Int) by rw [IntWalk.i64_in _ (by omega)]; omega)) ?_
        refine .op rfl (Zak rfl rfl rfl (by omega) (by omega) (sby_get _)) ?_
        refine .op rfl (OpQ.cast (q_int rfl rfl rfl) (congrArg D.bool (int_dec rfl))) ?_
        refine .op rfl (q_pick rfl rfl rfl rfl) ?_
        refine .nil (fun hG => ?_)
        refine AOps.nil ?_
        refine ARun.cond rfl (fun e => ?_) (fun e => ?_)
        · skip
          have e := of_decide_eq_true e
          rw [if_pos ⟨f, e⟩] at run ⊢
          refine ARun.seq (ARun.region ?_); refine xa ?_; refine AOps.nil (ARun.region ?_); refine xm ?_
          refine y_op rfl (q_add rfl rfl (nadd1_i64 (by omega))) ?_
          refine xa ?_; refine AOps.nil ?_
          exact ARun.ag (run (()) (f))
        have e := of_decide_eq_false e
        rw [if_neg (fun h => e h.2)] at run ⊢
        refine ARun.skip ?_
        exact ARun.ag (run (()) (g))
      refine xa ?_; refine AOps.nil (ARun.seq ?_)
      refine ARun.drawnP 14 (fun _ => False) mixC rfl rfl (by kernel_rfl) (fun _ _ h => h.elim) ?_
      refine .op rfl (q_move rfl) ?_
      refine .op rfl (q_move rfl) ?_
      refine .op rfl (Zan rfl rfl) ?_
      refine .op rfl (OpQ.cast (d' := .bool false) (q_int rfl rfl rfl) (by rw [decide_eq_false (by omega)])) ?_
      refine .op rfl (q_move rfl) ?_
      refine .skip rfl ?_
      refine .skip rfl ?_
      refine .skip rfl ?_
      refine .skip rfl ?_
      refine .skip rfl ?_
      refine .skip rfl ?_
      refine .skip rfl ?_
      refine .skip rfl ?_
      refine .op rfl (q_pick rfl rfl rfl rfl) ?_
      refine .nil (fun hG => ?_)
      refine AOps.nil ?_
      refine ARun.condF rfl ?_
      rw [if_neg (fun h => absurd h.1 (by omega))] at run ⊢
      refine ARun.skip ?_
      exact ARun.ag (run (()) (g))
    rw [hv] at hj
    have hl : lenA s p1 = 0 := by
      have h := Bool.or_eq_false_iff.1 hj.symm
      unfold lenA; rw [h.1, h.2]; rfl
    rw [hl] at run ⊢
    refine ARun.skip ?_
    exact ARun.ag (run (()) (by omega))
  rintro w hj
  try dsimp only at hj ⊢
  have hp2s := hj
  clear hj
  have hle := lenA_le s p1
  generalize hn : lenA s p1 = n at *
  refine ARun.seq (ARun.seq ?_)
  refine ARun.join (S := Bool) (fun w : Bool => [(61, .any), (62, .any), (63, .any), (64, .any), (65, .any), (66, .any), (67, .any), (68, .any), (69, .any), (70, .any), (71, .any), (72, .any), (73, .any), (74, .any), (75, .any), (76, .any), (77, .any), (78, .any), (79, .any), (80, .any), (81, .any), (82, .any), (83, .any), (84, .bool w)]) (fun w : Bool => w = (!u && isAt s (p1 + n) sU)) (fun run => ?_) ?_
  · skip
    refine ARun.region ?_; refine xm ?_; refine xn ?_; refine xm ?_
    refine AOps.bool 63 rfl (fun c0 => ?_) (fun c0 => ?_)
    · skip
      have c0 : u = false := by simpa using c0
      refine xm ?_; refine xi ?_; refine xp ?_; refine xm ?_
      refine AOps.bool 67 rfl (fun c1 => ?_) (fun c1 => ?_)
      · skip
        refine xm ?_; refine xm ?_
        refine y_op rfl (Zan rfl rfl) ?_
        refine xi ?_; refine xp ?_; refine xm ?_
        refine AOps.bool 73 rfl (fun g => ?_) (fun g => ?_)
        · skip
          have g : p1 + n < s.size := by have := of_decide_eq_true g; omega
          refine xm ?_; refine xm ?_
          refine y_op rfl (Zak rfl rfl rfl (by omega) (by omega) (sby_get _)) ?_
          refine y_op rfl (OpQ.cast (q_int rfl rfl rfl) (congrArg D.bool (int_dec (m := 117) rfl))) ?_
          refine xm ?_
          refine AOps.bool 78 rfl (fun a => ?_) (fun a => ?_)
          · skip
            refine xk ?_; refine xk ?_; refine xk ?_; refine xk ?_; refine xp ?_; refine xp ?_; refine AOps.nil ?_
            exact ARun.ag (run (true) (by rw [atU, dT g, a, c0]; rfl))
          refine xm ?_; refine xm ?_
          refine y_op rfl (Zak rfl rfl rfl (by omega) (by omega) (sby_get _)) ?_
          refine y_op rfl (OpQ.cast (q_int rfl rfl rfl) (congrArg D.bool (int_dec (m := 85) rfl))) ?_
          refine xp ?_; refine xp ?_; refine AOps.nil ?_
          exact ARun.ag (run (decide ((sby s).getD (p1 + n) 0 = 85)) (by rw [atU, dT g, a, c0]; rfl))
        have g : ¬ p1 + n < s.size := by have := of_decide_eq_false g; omega
        refine xk ?_; refine xk ?_; refine xk ?_; refine xk ?_; refine xk ?_; refine xk ?_; refine xk ?_; refine xk ?_; refine xk ?_; refine xk ?_; refine xp ?_; refine AOps.nil ?_
        exact ARun.ag (run (false) (by rw [atU, decide_eq_false g, c0]; rfl))
      have c1 : n = 0 := by have := of_decide_eq_false c1; omega
      refine xk ?_; refine xk ?_; refine xk ?_; refine xk ?_; refine xp ?_; refine xm ?_; refine xk ?_; refine xk ?_; refine xk ?_; refine xk ?_; refine xk ?_; refine xk ?_; refine xk ?_; refine xk ?_; refine xk ?_; refine xk ?_; refine xp ?_; refine AOps.nil ?_
      exact ARun.ag (run (false) (by rw [c1, c0, ← hp1, c0, show p + bN false + 0 = p from rfl, hu, c0]; rfl))
    have c0 : u = true := by simpa using c0
    refine xk ?_; refine xk ?_; refine xp ?_; refine xm ?_; refine xk ?_; refine xk ?_; refine xk ?_; refine xk ?_; refine xp ?_; refine xm ?_; refine xk ?_; refine xk ?_; refine xk ?_; refine xk ?_; refine xk ?_; refine xk ?_; refine xk ?_; refine xk ?_; refine xk ?_; refine xk ?_; refine xp ?_; refine AOps.nil ?_
    exact ARun.ag (run (false) (by rw [c0]; rfl))
  rintro w hj
  try dsimp only at hj ⊢
  refine ARun.cond rfl (fun hw => ?_) (fun hw => ?_)
  · skip
    rw [hw] at hj
    have h4 : u = false ∧ isAt s (p1 + n) sU = true := by
      have := hj.symm
      rw [Bool.and_eq_true, Bool.not_eq_true'] at this; exact this
    rw [h4.1, h4.2]
    refine ARun.seq (ARun.region ?_); refine xa ?_; refine AOps.nil (ARun.region ?_); refine xm ?_
    refine y_op rfl (q_add rfl rfl (nadd1_i64 (by omega))) ?_
    refine xa ?_; refine AOps.nil (ARun.seq (ARun.region ?_)); refine xm ?_; refine xm ?_; refine xm ?_; refine xa ?_; refine xa ?_; refine xa ?_; refine AOps.nil ?_
    refine ARun.ret ?_
    refine ⟨_, _, _, .tmp rfl (.tmp rfl (.tmp rfl .nil)), .cons (.same _) (.cons (.same _) (.cons (.same _) .nil)), rfl, ?_⟩
    rfl
  rw [hw] at hj
  have h4 : (u || isAt s (p1 + n) sU) = u := by
    cases hx : u
    · rw [hx] at hj; exact hj.symm
    rfl
  rw [← hj, h4]
  refine ARun.skip (ARun.seq (ARun.region ?_)); refine xm ?_; refine xm ?_; refine xm ?_; refine xa ?_; refine xa ?_; refine xa ?_; refine AOps.nil ?_
  refine ARun.ret ?_
  refine ⟨_, _, _, .tmp rfl (.tmp rfl (.tmp rfl .nil)), .cons (.same _) (.cons (.same _) (.cons (.same _) .nil)), rfl, ?_⟩
  rfl
end Go.V
set_option maxHeartbeats 8000000
set_option maxRecDepth 100000
set_option synthInstance.maxSize 100000
set_option synthInstance.maxHeartbeats 2000000
namespace Go.V
open Go.RowKit Go.Proofs
abbrev Cn := Nat × Nat × Bool × Nat
noncomputable def parseC (s : ByteArray) : Cn × Int × Int :=
  if 20000 < s.size then ((0, 0, false, 0), 2, 0) else
  if (dqA (bF s).1 s true (bF s).2).2.2 = false then ((0, 0, false, 0), 6, (((bF s).2 + (dqA (bF s).1 s true (bF s).2).2.1 : Nat) : Int)) else
  if (sfx s ((bF s).2 + (dqA (bF s).1 s true (bF s).2).2.1)).1 < s.size then ((0, 0, false, 0), 6, (((sfx s ((bF s).2 + (dqA (bF s).1 s true (bF s).2).2.1)).1 : Nat) : Int)) else
  if (lim (nv (bF s).1 (dqA (bF s).1 s true (bF s).2).1)).length ≤ 1024 then ((nv (bF s).1 (dqA (bF s).1 s true (bF s).2).1, (bF s).1, (sfx s ((bF s).2 + (dqA (bF s).1 s true (bF s).2).2.1)).2), 0, 0) else ((0, 0, false, 0), 2, 0)
abbrev cnL (c : Cn) : List D := [numD c.1, .int .i64 ((c.2.1 : Nat) : Int), .bool c.2.2.1, .int .i64 ((c.2.2.2 : Nat) : Int)]
abbrev cnD (c : Cn) : D := .agg (cnL c)
abbrev cD (r : Cn × Int × Int) : D := .agg (cnL r.1 ++ [.int .i64 r.2.1, .int .i64 r.2.2])
theorem fz_c {H : Heap} (e n : Int) : Fz H (.agg [.nilsl, .int .i64 0, .bool false, .int .i64 0, .int .i64 e, .int .i64 n]) (cD ((0, 0, false, 0), e, n)) [] := by
  have h : cD ((0, 0, false, 0), e, n) = .agg [.sl 0 [], .int .i64 0, .bool false, .int .i64 0, .int .i64 e, .int .i64 n] := by show D.agg [sln .u32 (lim 0), _, _, _, _, _] = _; rw [lim_zero]; rfl
  rw [h]
  exact .agg (.cons .nil (.cons (.same _) (.cons (.same _) (.cons (.same _) (.cons (.same _) (.cons (.same _) .nil))))))
theorem isAt_size {s x : ByteArray} {i : Nat} (h : isAt s i x = true) : i < s.size := by
  unfold isAt at h
  rw [Bool.and_eq_true] at h
  exact of_decide_eq_true h.1
theorem bF_ok (s : ByteArray) : 2 ≤ (bF s).1 ∧ (bF s).1 ≤ 16 ∧ (bF s).2 ≤ s.size := by
  unfold bF
  cases h0 : isAt s 0 sZero
  · exact ⟨Nat.le_of_ble_eq_true rfl, Nat.le_of_ble_eq_true rfl, Nat.zero_le _⟩
  have := isAt_size h0
  cases h1 : isAt s 1 sX
  · cases h2 : isAt s 1 sB
    · exact ⟨Nat.le_of_ble_eq_true rfl, Nat.le_of_ble_eq_true rfl, Nat.zero_le _⟩
    have := isAt_size h2; exact ⟨Nat.le_of_ble_eq_true rfl, Nat.le_of_ble_eq_true rfl, this⟩
  have := isAt_size h1; exact ⟨Nat.le_of_ble_eq_true rfl, Nat.le_of_ble_eq_true rfl, this⟩
theorem dqA_le {b : Nat} {s : ByteArray} {q : Bool} {i : Nat} (hi : i ≤ s.size) : i + (dqA b s q i).2.1 ≤ s.size ∧ (dqA b s q i).1.length ≤ s.size := by
  have h := dqs_len (b := b) ((sby s).drop i) q
  rw [List.length_drop, sby_len] at h
  unfold dqA
  omega
theorem sby_cut {s : ByteArray} {i n : Nat} (h : i + n ≤ s.size) : sby (s.extract i (i + n)) = ((sby s).drop i).take n := by
  unfold sby
  rw [ByteArray.data_extract, Array.toList_extract]
  show List.map _ ((s.data.toList.drop i).take (i + n - i)) = _
  rw [show i + n - i = n by omega, List.map_take, List.map_drop]
theorem ZlJ (s : ByteArray) : PC C ZjF [.str s] (fun o => o = .ret (cD (parseC s))) := by
  refine PC.rn Zd8 Ziz ZiA (rs := [.cell 2 91]) (by rw [ZiB]) ?_
  refine ARun.seq (ARun.region ?_)
  refine y_new rfl (Zag rfl rfl rfl rfl) ?_
  refine AOps.nil (ARun.seq (ARun.seq (ARun.region ?_))); refine xm ?_
  refine y_op rfl (Zan rfl rfl) ?_
  refine xi ?_; refine AOps.nil ?_
  refine ARun.ite rfl (fun g => ?_) (fun g => ?_)
  · skip
    have hP : parseC s = ((0, 0, false, 0), 2, 0) := by unfold parseC; rw [if_pos (by omega)]
    rw [hP]
    refine ARun.seq (ARun.region ?_)
    refine y_op rfl (Zal rfl rfl rfl rfl rfl) ?_
    refine y_new rfl (Zaa rfl rfl rfl rfl rfl rfl rfl rfl (Nat.le_of_ble_eq_true rfl) rfl) ?_
    refine AOps.nil ?_
    refine ARun.ret ?_
    refine ⟨_, _, _, ResR.cellA rfl rfl rfl rfl rfl rfl .nil, .cons (fz_c 2 0) .nil, rfl, ?_⟩
    rfl
  have hs : s.size ≤ 20000 := by omega
  obtain ⟨b2, b16, hf⟩ := bF_ok s
  have hP := parseC.eq_1 s
  rw [if_neg (show ¬ 20000 < s.size by omega)] at hP
  have hbase := ZnE s hs
  generalize hbf : (bF s).1 = b at *
  generalize hff : (bF s).2 = f at *
  obtain ⟨hto, hln⟩ := dqA_le (b := b) (q := true) hf
  have hsl : sby (s.extract f (f + (dqA b s true f).2.1)) = ((sby s).drop f).take (dqA b s true f).2.1 := sby_cut hto
  have hsz : (s.extract f (f + (dqA b s true f).2.1)).size ≤ 20000 := by rw [← sby_len, hsl, List.length_take]; omega
  have hnum := ZlF (s.extract f (f + (dqA b s true f).2.1)) hsz b b2 (by omega)
  rw [hsl, nmV_dqs (by omega)] at hnum
  have hnv : (dqA b s true f).1.foldl (fun a d => a * b + d) 0 = nv b (dqA b s true f).1 := rfl
  have hfit := Znv (lim (nv b (dqA b s true f).1))
  have hnv2 : (dqs b true (List.drop f (sby s))).1.foldl (fun a d => a * b + d) 0 = nv b (dqA b s true f).1 := rfl
  rw [hnv2] at hnum
  refine ARun.skip (ARun.seq (ARun.region ?_)); refine xm ?_
  refine xc rfl rfl (hbase) ?_
  refine xm ?_; refine xe ?_; refine xe ?_; refine xa ?_; refine xa ?_; refine AOps.nil (ARun.seq (ARun.region ?_)); refine xm ?_; refine xm ?_; refine xm ?_
  refine xc rfl rfl (ZlH s hs f b hf (by omega)) ?_
  refine xm ?_; refine xe ?_; refine xe ?_; refine xa ?_; refine xa ?_; refine AOps.nil (ARun.seq (ARun.seq (ARun.region ?_))); refine xm ?_; refine xn ?_; refine AOps.nil ?_
  refine ARun.cond rfl (fun d => ?_) (fun d => ?_)
  · skip
    have d : (dqA b s true f).2.2 = false := by simpa using d
    rw [if_pos d] at hP
    rw [hP]
    refine ARun.seq (ARun.region ?_); refine xm ?_
    refine y_op rfl (Zal rfl rfl rfl rfl rfl) ?_
    refine y_new rfl (Zaa rfl rfl rfl rfl rfl rfl rfl rfl (Nat.le_of_ble_eq_true rfl) rfl) ?_
    refine AOps.nil ?_
    refine ARun.ret ?_
    refine ⟨_, _, _, ResR.cellA rfl rfl rfl rfl rfl rfl .nil, .cons (fz_c 6 _) .nil, rfl, ?_⟩
    rfl
  have d : (dqA b s true f).2.2 = true := by simpa using d
  rw [if_neg (by rw [d]; decide)] at hP
  refine ARun.skip (ARun.seq (ARun.region ?_)); refine xm ?_; refine xm ?_
  refine xc rfl rfl (ZlI s hs (f + (dqA b s true f).2.1) hto) ?_
  refine xm ?_; refine xe ?_; refine xe ?_; refine xe ?_; refine xa ?_; refine xa ?_; refine xa ?_; refine AOps.nil (ARun.seq (ARun.seq (ARun.region ?_))); refine xm ?_; refine xm ?_
  refine y_op rfl (Zan rfl rfl) ?_
  refine xi ?_; refine AOps.nil ?_
  refine ARun.ite rfl (fun e => ?_) (fun e => ?_)
  · skip
    rw [if_pos (by omega)] at hP
    rw [hP]
    refine ARun.seq (ARun.region ?_); refine xm ?_
    refine y_op rfl (Zal rfl rfl rfl rfl rfl) ?_
    refine y_new rfl (Zaa rfl rfl rfl rfl rfl rfl rfl rfl (Nat.le_of_ble_eq_true rfl) rfl) ?_
    refine AOps.nil ?_
    refine ARun.ret ?_
    refine ⟨_, _, _, ResR.cellA rfl rfl rfl rfl rfl rfl .nil, .cons (fz_c 6 _) .nil, rfl, ?_⟩
    rfl
  rw [if_neg (by omega)] at hP
  refine ARun.skip (ARun.seq (ARun.region ?_)); refine xm ?_; refine xm ?_; refine xm ?_
  refine y_op rfl (Ze5 (lo := f) (hi := f + (dqA b s true f).2.1) rfl rfl (bnd_nat rfl rfl) (bnd_nat rfl rfl) (by omega) hto) ?_
  refine xm ?_
  refine xc rfl rfl (hnum) ?_
  refine xa ?_; refine AOps.nil (ARun.seq (ARun.seq (ARun.region ?_))); refine xm ?_
  refine xc rfl rfl (hfit) ?_
  refine xn ?_; refine AOps.nil ?_
  refine ARun.cond rfl (fun k => ?_) (fun k => ?_)
  · skip
    have k : ¬ (lim (nv b (dqA b s true f).1)).length ≤ 1024 := by simpa using k
    rw [if_neg k] at hP
    rw [hP]
    refine ARun.seq (ARun.region ?_)
    refine y_op rfl (Zal rfl rfl rfl rfl rfl) ?_
    refine y_new rfl (Zaa rfl rfl rfl rfl rfl rfl rfl rfl (Nat.le_of_ble_eq_true rfl) rfl) ?_
    refine AOps.nil ?_
    refine ARun.ret ?_
    refine ⟨_, _, _, ResR.cellA rfl rfl rfl rfl rfl rfl .nil, .cons (fz_c 2 0) .nil, rfl, ?_⟩
    rfl
  have k : (lim (nv b (dqA b s true f).1)).length ≤ 1024 := by simpa using k
  rw [if_pos k] at hP
  rw [hP]
  refine ARun.skip (ARun.seq (ARun.region ?_)); refine xm ?_; refine xm ?_; refine xm ?_; refine xm ?_
  refine y_op rfl (Zal rfl rfl rfl rfl rfl) ?_
  refine y_op rfl (Zal rfl rfl rfl rfl rfl) ?_
  refine y_new rfl (Zaa rfl rfl rfl rfl rfl rfl rfl rfl (Nat.le_of_ble_eq_true rfl) rfl) ?_
  refine AOps.nil ?_
  refine ARun.ret ?_
  refine ⟨_, _, _, ResR.cellA rfl rfl rfl rfl rfl rfl .nil, .cons (.same _) .nil, rfl, ?_⟩
  rfl
end Go.V
set_option maxHeartbeats 8000000
set_option maxRecDepth 100000
set_option synthInstance.maxSize 100000
set_option synthInstance.maxHeartbeats 2000000
namespace Go.V
open Go.RowKit Go.Proofs
theorem ZbM (H : Heap) (k : Nat) (s some' : ByteArray) (i : Nat) (hk : H[k]? = some (rdO s i)) (hi : s.size ≤ 20000) : HC C ZaE H [.ptr k 0, .str some'] (fun x H' => x = .ret (.bool (isAt s i some')) ∧ H' = H.set k (rdO s ((i + bN (isAt s i some') : Nat) : Int))) :=
  (ZnC H k s some' i hk hi).mono fun x H' h => by
    refine ⟨h.1, ?_⟩
    rw [h.2]
    cases isAt s i some'
    · exact (set_same hk).symm
    rfl
theorem set_get {H : Heap} {k : Nat} {s : ByteArray} {i j : Int} (hk : H[k]? = some (rdO s i)) : (H.set k (rdO s j))[k]? = some (rdO s j) := List.getElem?_set_self (List.getElem?_eq_some_iff.1 hk).1
theorem ZnF (H : Heap) (k : Nat) (s : ByteArray) (i : Nat) (hk : H[k]? = some (rdO s i)) (hi : s.size ≤ 20000) : HC C Zdb H [.ptr k 0] (fun x H' => x = .ret (.int .i64 ((lenA s i : Nat) : Int)) ∧ H' = H.set k (rdO s ((i + lenA s i : Nat) : Int))) := by
  refine HC.run Zbk ZcQ rfl ZcR (rs := [.tmp 2]) (by rw [ZcS]) (by simp only [List.length_cons, List.length_nil, Nat.reduceAdd, Nat.reduceSub, List.replicate_succ, List.replicate_zero, List.cons_append, List.nil_append]; exact rfl) ?_
  refine ARun.seq (ARun.region ?_); refine xa ?_; refine AOps.nil (ARun.seq (ARun.seq (ARun.region ?_)))
  refine y_op rfl (ZaB rfl rfl rfl rfl rfl rfl rfl rfl rfl rfl rfl (by decide) (by decide) rfl) ?_
  refine xN ?_; refine xm ?_; refine AOps.nil (ARun.block ?_)
  refine ARun.loop ?_
  refine ARun.seq (ARun.region ?_); refine xi ?_; refine AOps.nil (ARun.seq ?_)
  refine ARun.condT rfl ?_
  refine ARun.skip (ARun.seq (ARun.block (ARun.seq (ARun.region ?_))))
  refine y_op rfl (Zaj rfl rfl rfl rfl (by decide) (by decide) (List.cons_ne_nil _ _) rfl) ?_
  refine xl ?_; refine xa ?_; refine AOps.nil (ARun.seq (ARun.region ?_)); refine xm ?_; refine xm ?_
  refine Zay rfl rfl rfl rfl (ZbM H k s sL1 i hk hi) ?_ (by rintro _ _ ⟨h, _⟩; cases h)
  rintro _ _ ⟨h, rfl⟩
  injection h with h
  subst h
  refine AOps.nil ?_
  refine ARun.cond rfl (fun a => ?_) (fun a => ?_)
  · skip
    rw [a]
    refine ARun.seq (ARun.seq (ARun.region ?_)); refine xm ?_; refine xm ?_
    refine Zay rfl rfl rfl rfl (ZbM _ k s sL1 (i + bN true) (set_get hk) hi) ?_ (by rintro _ _ ⟨h, _⟩; cases h)
    rintro _ _ ⟨h, rfl⟩
    injection h with h
    subst h
    rw [List.set_set]
    refine AOps.nil ?_
    refine ARun.cond rfl (fun c => ?_) (fun c => ?_)
    · skip
      rw [show i + bN true = i + 1 from rfl] at c
      have hl : lenA s i = 2 := by unfold lenA; rw [a, c]; rfl
      rw [hl]
      refine ARun.seq (ARun.region ?_); refine xa ?_; refine AOps.nil ?_
      refine ARun.ret ?_
      exact ⟨_, _, _, .tmp rfl .nil, .cons (.same _) .nil, rfl, by rw [show i + bN true = i + 1 from rfl, c]; rfl⟩
    rw [show i + bN true = i + 1 from rfl] at c
    have hl : lenA s i = 1 := by unfold lenA; rw [a, c]; rfl
    rw [hl]
    refine ARun.skip (ARun.seq (ARun.region ?_)); refine xa ?_; refine AOps.nil ?_
    refine ARun.ret ?_
    exact ⟨_, _, _, .tmp rfl .nil, .cons (.same _) .nil, rfl, by rw [show i + bN true = i + 1 from rfl, c]; rfl⟩
  rw [a, show i + bN false = i from rfl, set_same hk]
  refine ARun.skip (ARun.inBlock (ARun.region ?_))
  refine y_op rfl (q_add rfl rfl (IntWalk.i64_in _ (by omega))) ?_
  refine xm ?_; refine AOps.nil ?_
  refine ARun.inLoop ?_
  refine ARun.seq (ARun.region ?_); refine xi ?_; refine AOps.nil (ARun.seq ?_)
  refine ARun.condT rfl ?_
  refine ARun.skip (ARun.seq (ARun.block (ARun.seq (ARun.region ?_))))
  refine y_op rfl (Zaj rfl rfl rfl rfl (by decide) (by decide) (List.cons_ne_nil _ _) rfl) ?_
  refine xl ?_; refine xa ?_; refine AOps.nil (ARun.seq (ARun.region ?_)); refine xm ?_; refine xm ?_
  refine Zay rfl rfl rfl rfl (ZbM H k s sL2 i hk hi) ?_ (by rintro _ _ ⟨h, _⟩; cases h)
  rintro _ _ ⟨h, rfl⟩
  injection h with h
  subst h
  refine AOps.nil ?_
  refine ARun.cond rfl (fun d => ?_) (fun d => ?_)
  · skip
    rw [d]
    refine ARun.seq (ARun.seq (ARun.region ?_)); refine xm ?_; refine xm ?_
    refine Zay rfl rfl rfl rfl (ZbM _ k s sL2 (i + bN true) (set_get hk) hi) ?_ (by rintro _ _ ⟨h, _⟩; cases h)
    rintro _ _ ⟨h, rfl⟩
    injection h with h
    subst h
    rw [List.set_set]
    refine AOps.nil ?_
    refine ARun.cond rfl (fun c => ?_) (fun c => ?_)
    · skip
      rw [show i + bN true = i + 1 from rfl] at c
      have hl : lenA s i = 2 := by unfold lenA; rw [a, d, c]; rfl
      rw [hl]
      refine ARun.seq (ARun.region ?_); refine xa ?_; refine AOps.nil ?_
      refine ARun.ret ?_
      exact ⟨_, _, _, .tmp rfl .nil, .cons (.same _) .nil, rfl, by rw [show i + bN true = i + 1 from rfl, c]; rfl⟩
    rw [show i + bN true = i + 1 from rfl] at c
    have hl : lenA s i = 1 := by unfold lenA; rw [a, d, c]; rfl
    rw [hl]
    refine ARun.skip (ARun.seq (ARun.region ?_)); refine xa ?_; refine AOps.nil ?_
    refine ARun.ret ?_
    exact ⟨_, _, _, .tmp rfl .nil, .cons (.same _) .nil, rfl, by rw [show i + bN true = i + 1 from rfl, c]; rfl⟩
  rw [d, show i + bN false = i from rfl, set_same hk]
  have hl : lenA s i = 0 := by unfold lenA; rw [a, d]; rfl
  rw [hl]
  refine ARun.skip (ARun.inBlock (ARun.region ?_))
  refine y_op rfl (q_add rfl rfl (IntWalk.i64_in _ (by omega))) ?_
  refine xm ?_; refine AOps.nil ?_
  refine ARun.inLoop ?_
  refine ARun.seq (ARun.region ?_); refine xi ?_; refine AOps.nil (ARun.seq ?_)
  refine ARun.condF rfl ?_
  refine ARun.exit rfl ?_
  refine ARun.seq (ARun.region ?_); refine xa ?_; refine AOps.nil ?_
  refine ARun.ret ?_
  exact ⟨_, _, _, .tmp rfl .nil, .cons (.same _) .nil, rfl, (set_same hk).symm⟩
abbrev cellC : Option AObj := some ⟨[.nilsl, .int .i64 0, .bool false, .int .i64 0], Zdz, 1, true, none⟩
abbrev cOut (r : Cn × Int × Int) : Out := .ret (.tup [cnD r.1, .int .i64 r.2.1, .int .i64 r.2.2])
noncomputable abbrev QC (r : Cn × Int × Int) : Post := QFin C [.cell 2 Zdz, .cell 3 Zao, .cell 4 t_int] fun o _ => o.pure = true ∧ o = cOut r
theorem fz_cn {H : Heap} : Fz H (.agg [.nilsl, .int .i64 0, .bool false, .int .i64 0]) (cnD (0, 0, false, 0)) [] := by
  have h : cnD (0, 0, false, 0) = .agg [.sl 0 [], .int .i64 0, .bool false, .int .i64 0] := by show D.agg [sln .u32 (lim 0), _, _, _] = _; rw [lim_zero]; rfl
  rw [h]
  exact .agg (.cons .nil (.cons (.same _) (.cons (.same _) (.cons (.same _) .nil))))
theorem panCF {r : Cn × Int × Int} {e : Int} {env : List D} {tl : Heap} (h4 : env[2]? = some (.ptr 0 0)) (h5 : env[3]? = some (.ptr 1 0)) (h6 : env[4]? = some (.ptr 2 0)) (hr : r = ((0, 0, false, 0), e, 0)) : QC r (.pan (failW e)) env (cellC :: errO 0 :: intO 0 :: tl) [.fn Zbu [.ptr 1 0, .ptr 2 0]] := by
  refine DC.mono (dct_fail _ 1 2 0 0 e rfl rfl (by decide)) ?_
  rintro _ _ ⟨rfl, rfl⟩
  exact ⟨_, _, _, ResR.cellA h4 rfl rfl rfl rfl rfl (ResR.cell1 h5 rfl rfl rfl rfl (ResR.cell1 h6 rfl rfl rfl rfl .nil)), .cons fz_cn (.cons (.same _) (.cons (.same _) .nil)), rfl, by rw [hr]; rfl⟩
theorem panCW {r : Cn × Int × Int} {n : Int} {env : List D} {tl : Heap} (h4 : env[2]? = some (.ptr 0 0)) (h5 : env[3]? = some (.ptr 1 0)) (h6 : env[4]? = some (.ptr 2 0)) (hr : r = ((0, 0, false, 0), 6, n)) {H : Heap} (hH : H = cellC :: errO 0 :: intO 0 :: tl) : QC r (.pan (wrongW n)) env H [.fn Zbu [.ptr 1 0, .ptr 2 0]] := by
  subst hH
  refine DC.mono (dct_wrong _ 1 2 0 0 n rfl rfl (by decide)) ?_
  rintro _ _ ⟨rfl, rfl⟩
  exact ⟨_, _, _, ResR.cellA h4 rfl rfl rfl rfl rfl (ResR.cell1 h5 rfl rfl rfl rfl (ResR.cell1 h6 rfl rfl rfl rfl .nil)), .cons fz_cn (.cons (.same _) (.cons (.same _) .nil)), rfl, by rw [hr]; rfl⟩
end Go.V
set_option maxHeartbeats 8000000
set_option maxRecDepth 100000
set_option synthInstance.maxSize 100000
set_option synthInstance.maxHeartbeats 2000000
namespace Go.V
open Go.RowKit Go.Proofs
structure PreC (s : ByteArray) (b a i : Nat) : Prop where
  hb : b = (bF s).1
  ha : a ≤ 1
  hi : i ≤ s.size
  n : i + (dqA b s (decide (a = 0)) i).2.1 = (bF s).2 + (dqA b s true (bF s).2).2.1
  k : (dqA b s (decide (a = 0)) i).2.2 = (dqA b s true (bF s).2).2.2
  v : nv b (dqA b s (decide (a = 0)) i).1 = nv b (dqA b s true (bF s).2).1
theorem PreC.ten {s : ByteArray} (h : isAt s 0 sZero = false) : PreC s 10 0 0 := by
  have e : bF s = (10, 0) := by unfold bF; rw [h]; rfl
  exact ⟨by rw [e], by decide, Nat.zero_le _, by rw [e]; rfl, by rw [e]; rfl, by rw [e]; rfl⟩
theorem PreC.hex {s : ByteArray} (h : isAt s 0 sZero = true) (x : isAt s 1 sX = true) : PreC s 16 0 2 := by
  have e : bF s = (16, 2) := by unfold bF; rw [h, x]; rfl
  exact ⟨by rw [e], by decide, isAt_size x, by rw [e]; rfl, by rw [e]; rfl, by rw [e]; rfl⟩
theorem PreC.bin {s : ByteArray} (h : isAt s 0 sZero = true) (x : isAt s 1 sX = false) (y : isAt s 1 sB = true) : PreC s 2 0 2 := by
  have e : bF s = (2, 2) := by unfold bF; rw [h, x, y]; rfl
  exact ⟨by rw [e], by decide, isAt_size y, by rw [e]; rfl, by rw [e]; rfl, by rw [e]; rfl⟩
theorem PreC.oct {s : ByteArray} (h : isAt s 0 sZero = true) (x : isAt s 1 sX = false) (y : isAt s 1 sB = false) : PreC s 8 1 1 := by
  have e : bF s = (8, 0) := by unfold bF; rw [h, x, y]; rfl
  have h0 := isAt_size h
  have h48 : (sby s).getD 0 0 = 48 := by
    have := isAt_one (s := s) (i := 0) (c := 48)
    rw [h, decide_eq_true h0, Bool.true_and] at this
    exact of_decide_eq_true this.symm
  have d48 : digV 48 = 0 := by decide
  have hd := dqs_dig (b := 8) (s := s) (p := 0) true h0 (by rw [h48, d48]; decide)
  rw [h48, d48] at hd
  have hn : ∀ l : List Nat, nv 8 (0 :: l) = nv 8 l := fun l => by unfold nv; rw [List.foldl_cons]
  refine ⟨by rw [e], by decide, h0, ?_, ?_, ?_⟩
  · rw [e]; show 1 + (dqs 8 false ((sby s).drop 1)).2.1 = 0 + (dqs 8 true ((sby s).drop 0)).2.1; rw [hd]; show 1 + (dqs 8 false ((sby s).drop 1)).2.1 = 0 + ((dqs 8 false ((sby s).drop 1)).2.1 + 1); omega
  · rw [e]; show (dqs 8 false ((sby s).drop 1)).2.2 = (dqs 8 true ((sby s).drop 0)).2.2; rw [hd]
  rw [e]; show nv 8 (dqs 8 false ((sby s).drop 1)).1 = nv 8 (dqs 8 true ((sby s).drop 0)).1; rw [hd]; exact (hn _).symm
theorem ZlK (s : ByteArray) : PC C Zhu [.str s] (fun o => o = cOut (parseC s)) := by
  refine PC.rn Zc0 Zgl Zgm (rs := [.cell 2 87, .cell 3 28, .cell 4 3]) (by rw [Zgn]) ?_
  refine ARun.seq (ARun.region ?_)
  refine y_new rfl (Zag rfl rfl rfl rfl) ?_
  refine y_new rfl (Zag rfl rfl rfl rfl) ?_
  refine y_new rfl (Zag rfl rfl rfl rfl) ?_
  refine AOps.nil (ARun.seq (ARun.region ?_))
  refine Ze4 rfl rfl rfl ?_
  refine AOps.nil (ARun.seq (ARun.region ?_)); refine xm ?_
  refine y_op rfl (Zan rfl rfl) ?_
  refine xi ?_
  refine y_gop rfl (g_call rfl rfl (PC.gp (Zbe _ 2))) (fun hg => ?_) (fun q hq => by obtain ⟨hq, rfl⟩ := hq; exact panCF (tl := []) rfl rfl rfl (by have hq : ¬ (s.size : Int) ≤ 20000 := of_decide_eq_false hq; unfold parseC; rw [if_pos (by omega)]))
  have hs : s.size ≤ 20000 := by have := of_decide_eq_true hg; omega
  obtain ⟨b2, b16, hf⟩ := bF_ok s
  have hP := parseC.eq_1 s
  rw [if_neg (show ¬ 20000 < s.size by omega)] at hP
  refine AOps.nil (ARun.seq (ARun.region ?_)); refine xm ?_
  refine y_op rfl (Zal rfl rfl rfl rfl rfl) ?_
  refine y_new rfl (n_box rfl rfl rfl) ?_
  refine xa ?_; refine AOps.nil (ARun.seq (ARun.region ?_)); refine xa ?_; refine xa ?_; refine AOps.nil (ARun.seq ?_)
  refine ARun.joinH (S := Nat × Nat × Nat) (fun σ : Nat × Nat × Nat => [(18, .any), (19, .any), (20, .any), (21, .any), (22, .any), (23, .any), (24, .any), (25, .any), (26, .any), (27, .any), (6, .int .i64 (σ.1 : Int)), (7, .int .i64 (σ.2.1 : Int))]) (fun σ : Nat × Nat × Nat => [cellC, errO 0, intO 0, rdO s (σ.2.2 : Int)]) (fun σ : Nat × Nat × Nat => PreC s σ.1 σ.2.1 σ.2.2) (fun run => ?_) ?_
  · skip
    refine ARun.block (ARun.seq (ARun.region ?_)); refine xm ?_
    refine Zay rfl rfl rfl rfl (ZbM [cellC, errO 0, intO 0, rdO s ((0 : Nat) : Int)] 3 s sZero 0 rfl hs) ?_ (by rintro _ _ ⟨h, _⟩; cases h)
    rintro _ _ ⟨h, rfl⟩
    injection h with h
    subst h
    refine xn ?_; refine xa ?_; refine AOps.nil ?_
    refine ARun.cond rfl (fun h0 => ?_) (fun h0 => ?_)
    · skip
      have h0 : isAt s 0 sZero = false := by simpa using h0
      rw [h0]
      refine ARun.skip (ARun.inBlock ?_)
      exact ARun.ag (run ((10, 0, 0)) (PreC.ten h0))
    have h0 : isAt s 0 sZero = true := by simpa using h0
    rw [h0]
    refine ARun.hp (H' := [cellC, errO 0, intO 0, rdO s ((1 : Nat) : Int)]) rfl ?_
    refine ARun.seq (ARun.region ?_); refine xm ?_
    refine Zay rfl rfl rfl rfl (ZbM [cellC, errO 0, intO 0, rdO s ((1 : Nat) : Int)] 3 s sX 1 rfl hs) ?_ (by rintro _ _ ⟨h, _⟩; cases h)
    rintro _ _ ⟨h, rfl⟩
    injection h with h
    subst h
    refine xa ?_; refine AOps.nil ?_
    refine ARun.cond rfl (fun x => ?_) (fun x => ?_)
    · skip
      rw [x]
      refine ARun.region ?_; refine xa ?_; refine AOps.nil (ARun.inBlock ?_)
      exact ARun.ag (run ((16, 0, 2)) (PreC.hex h0 x))
    rw [x]
    refine ARun.hp (H' := [cellC, errO 0, intO 0, rdO s ((1 : Nat) : Int)]) rfl ?_
    refine ARun.seq (ARun.region ?_); refine xm ?_
    refine Zay rfl rfl rfl rfl (ZbM [cellC, errO 0, intO 0, rdO s ((1 : Nat) : Int)] 3 s sB 1 rfl hs) ?_ (by rintro _ _ ⟨h, _⟩; cases h)
    rintro _ _ ⟨h, rfl⟩
    injection h with h
    subst h
    refine xa ?_; refine AOps.nil ?_
    refine ARun.cond rfl (fun y => ?_) (fun y => ?_)
    · skip
      rw [y]
      refine ARun.region ?_; refine xa ?_; refine AOps.nil (ARun.inBlock ?_)
      exact ARun.ag (run ((2, 0, 2)) (PreC.bin h0 x y))
    rw [y]
    refine ARun.region ?_; refine xa ?_; refine xa ?_; refine AOps.nil (ARun.inBlock ?_)
    exact ARun.ag (run ((8, 1, 1)) (PreC.oct h0 x y))
  rintro ⟨b, a, i⟩ hj
  try dsimp only at hj ⊢
  have hn := hj.n
  have hk := hj.k
  have hv := hj.v
  have hln := (dqA_le (b := b) (q := decide (a = 0)) hj.hi).2
  have hlt := dqs_lt (b := b) ((sby s).drop i) (decide (a = 0))
  rw [← hj.hb] at hP b2 b16
  have hto := (dqA_le (b := b) (q := true) hf).1
  generalize htt : (bF s).2 + (dqA b s true (bF s).2).2.1 = to at *
  refine ARun.seq (ARun.region ?_); refine xm ?_; refine xm ?_; refine xm ?_
  refine Zay rfl rfl rfl rfl (ZmN [cellC, errO 0, intO 0, rdO s (i : Int)] 3 s i b a hj.ha hs (by omega) hj.hi rfl) ?_ (fun q H' hq => hq.elim (fun ⟨h0, hq, J, e⟩ => by (injection hq with hq; subst hq; rw [hn] at e ⊢; exact panCW (tl := rdO s ((to : Nat) : Int) :: J) rfl rfl rfl (by rw [hP, if_pos (by rw [← hk]; exact h0)]) e)) (fun ⟨_, hq, _⟩ => by cases hq))
  rintro _ _ (⟨_, h, _⟩ | ⟨hok, h, J, rfl⟩)
  · cases h
  injection h with h
  subst h
  rw [hn]
  rw [hk] at hok
  rw [if_neg (by rw [hok]; decide)] at hP
  refine AOps.hp (H' := cellC :: errO 0 :: intO 0 :: rdO s ((to : Nat) : Int) :: J) rfl ?_
  refine xa ?_; refine AOps.nil (ARun.seq (ARun.region ?_)); refine xm ?_
  refine Zay rfl rfl rfl rfl (ZbM _ 3 s sU to rfl hs) ?_ (by rintro _ _ ⟨h, _⟩; cases h)
  rintro _ _ ⟨h, rfl⟩
  injection h with h
  subst h
  refine AOps.hp (H' := cellC :: errO 0 :: intO 0 :: rdO s ((to + bN (isAt s to sU) : Nat) : Int) :: J) rfl ?_
  refine xa ?_; refine AOps.nil (ARun.seq (ARun.region ?_)); refine xm ?_
  refine Zay rfl rfl rfl rfl (ZnF _ 3 s (to + bN (isAt s to sU)) rfl hs) ?_ (by rintro _ _ ⟨h, _⟩; cases h)
  rintro _ _ ⟨h, rfl⟩
  injection h with h
  subst h
  refine AOps.hp (H' := cellC :: errO 0 :: intO 0 :: rdO s ((to + bN (isAt s to sU) + lenA s (to + bN (isAt s to sU)) : Nat) : Int) :: J) rfl ?_
  refine xa ?_; refine AOps.nil (ARun.seq ?_)
  refine ARun.joinH (S := Unit) (fun w : Unit => [(36, .any), (37, .any), (38, .any), (39, .any), (40, .any), (9, .bool (sfx s to).2.1)]) (fun w : Unit => cellC :: errO 0 :: intO 0 :: rdO s (((sfx s to).1 : Nat) : Int) :: J) (fun w : Unit => True) (fun run => ?_) ?_
  · skip
    unfold sfx at run
    refine ARun.region ?_; refine xm ?_; refine xm ?_
    refine AOps.bool 37 rfl (fun u => ?_) (fun u => ?_)
    · skip
      rw [u] at run ⊢
      refine xk ?_; refine xk ?_; refine xp ?_; refine xa ?_; refine AOps.nil ?_
      exact ARun.ag (run (()) (trivial))
    rw [u] at run ⊢
    refine xm ?_
    refine Zay rfl rfl rfl rfl (ZbM _ 3 s sU (to + bN false + lenA s (to + bN false)) rfl hs) ?_ (by rintro _ _ ⟨h, _⟩; cases h)
    rintro _ _ ⟨h, rfl⟩
    injection h with h
    subst h
    refine xp ?_; refine xa ?_; refine AOps.nil ?_
    exact ARun.ag (run (()) (trivial))
  rintro w hj
  try dsimp only at hj ⊢
  have hnum : PC C ZdI [sln .i64 (dqA b s (decide (a = 0)) i).1, .int .i64 (b : Int)] (fun o => ((lim (nv b (dqA b s true (bF s).2).1)).length ≤ 1024 ∧ o = .ret (numD (nv b (dqA b s true (bF s).2).1))) ∨ ∃ p, (¬ (lim (nv b (dqA b s true (bF s).2).1)).length ≤ 1024 ∧ p = failW 2) ∧ o = .pan p) := by
    rw [← hv]
    exact (ZlG (dqA b s (decide (a = 0)) i).1 (by omega) b (by omega) (by omega) hlt).mono fun o ho => ho.imp id (fun ⟨x, y⟩ => ⟨_, ⟨x, rfl⟩, y⟩)
  refine ARun.seq (ARun.region ?_); refine xm ?_
  refine Zay rfl rfl rfl rfl (hc_end _ 3 s (sfx s to).1 rfl) ?_ (fun q H' hq => by obtain ⟨rfl, hq⟩ := hq; exact hq.elim (fun ⟨_, hq⟩ => by cases hq) (fun ⟨hlt, hq⟩ => by (injection hq with hq; subst hq; exact panCW (tl := rdO s (((sfx s to).1 : Nat) : Int) :: J) rfl rfl rfl (by rw [hP, if_pos hlt]) rfl)))
  rintro _ _ ⟨rfl, hq⟩
  rcases hq with ⟨hge, h⟩ | ⟨_, h⟩
  rotate_left
  · cases h
  injection h with h
  subst h
  rw [if_neg (by omega)] at hP
  refine AOps.nil (ARun.seq (ARun.region ?_)); refine xm ?_; refine xm ?_
  refine y_gop rfl (g_call rfl rfl hnum) (fun hg3 => ?_) (fun q hq => by obtain ⟨hq, rfl⟩ := hq; exact panCF (tl := rdO s (((sfx s to).1 : Nat) : Int) :: J) rfl rfl rfl (by rw [hP, if_neg hq]))
  rw [if_pos hg3] at hP
  rw [hP]
  refine xm ?_; refine xm ?_; refine xm ?_
  refine y_op rfl (Zal rfl rfl rfl rfl rfl) ?_
  refine y_new rfl (Zaa rfl rfl rfl rfl rfl rfl rfl rfl (Nat.le_of_ble_eq_true rfl) rfl) ?_
  refine y_new rfl (Zad rfl rfl rfl rfl rfl rfl (Nat.le_of_ble_eq_true rfl) rfl) ?_
  refine y_new rfl (Zad rfl rfl rfl rfl rfl rfl (Nat.le_of_ble_eq_true rfl) rfl) ?_
  refine AOps.nil ?_
  refine ARun.ret ?_
  refine DC.mono (dct_ret _ 1 2) ?_
  rintro _ _ ⟨rfl, rfl⟩
  exact ⟨_, _, _, ResR.cellA rfl rfl rfl rfl rfl rfl (ResR.cell1 rfl rfl rfl rfl rfl (ResR.cell1 rfl rfl rfl rfl rfl .nil)), .cons (.same _) (.cons (.same _) (.cons (.same _) .nil)), rfl, rfl⟩
end Go.V
set_option maxHeartbeats 4000000
set_option maxRecDepth 100000
set_option synthInstance.maxSize 100000
set_option synthInstance.maxHeartbeats 2000000
namespace Go.V
open Go.RowKit Go.Proofs
end Go.V
namespace Go.V
def sb (op : Int) (x y : Bool) : Bool := if op = 1 then x && y else if op = 2 then x || y else Bool.xor x y
def rsN (b : Bool) : Nat := bif b then 4294967295 else 0
def tw (n : Nat) (a : Int) : Nat := (a % ((B ^ n : Nat) : Int)).toNat
theorem Bn_pos (n : Nat) : 0 < B ^ n := Nat.pow_pos B_pos
theorem tw_cast (n : Nat) (a : Int) : ((tw n a : Nat) : Int) = a % ((B ^ n : Nat) : Int) := by
  have h := Bn_pos n
  have h1 := Int.emod_nonneg a (show ((B ^ n : Nat) : Int) ≠ 0 by omega)
  unfold tw; omega
def inB (n : Nat) (a : Int) : Prop := -((B ^ n : Nat) : Int) ≤ a ∧ a < ((B ^ n : Nat) : Int)
theorem inB.of {a : Int} {n : Nat} (h : (lim a.natAbs).length ≤ n) : inB n a := by
  have := ln_le_iff.1 h
  unfold inB; omega
theorem inB.tw {n : Nat} {a : Int} (h : inB n a) : ((tw n a : Nat) : Int) = a + (bif decide (a < 0) then ((B ^ n : Nat) : Int) else 0) := by
  rw [tw_cast]
  obtain ⟨h1, h2⟩ := h
  by_cases h0 : a < 0
  · rw [decide_eq_true h0, cond_true, ← Int.add_emod_right, Int.emod_eq_of_lt (by omega) (by omega)]
  rw [decide_eq_false h0, cond_false, Int.emod_eq_of_lt (by omega) h2, Int.add_zero]
theorem inB.mono {n m : Nat} {a : Int} (h : inB n a) (hm : n ≤ m) : inB m a := by
  have := Nat.pow_le_pow_right B_pos hm
  unfold inB at *; omega
theorem inB.succ {n : Nat} {a : Int} (h : inB n a) : Go.V.tw (n + 1) a = Go.V.tw n a + B ^ n * rsN (decide (a < 0)) := by
  have h1 := h.tw
  have h2 := (h.mono (show n ≤ n + 1 by omega)).tw
  have h3 : B ^ (n + 1) = B ^ n * 4294967296 := Nat.pow_succ ..
  by_cases h0 : a < 0
  · rw [decide_eq_true h0, cond_true] at *
    show _ = _ + _ * 4294967295
    omega
  rw [decide_eq_false h0, cond_false] at *
  show _ = _ + _ * 0
  omega
end Go.V
set_option maxHeartbeats 4000000
set_option maxRecDepth 100000
set_option synthInstance.maxSize 100000
set_option synthInstance.maxHeartbeats 2000000
namespace Go.V
open Go.RowKit Go.Proofs
theorem Fz.grow {B J : Heap} {e : TypeId} {cs : List D} {m : Nat} (hm : m = B.length + J.length) (hp : D.pure.pures cs = true) : ∃ ids, Fz (B ++ growT J e cs) (growD m cs) (.sl cs.length cs) ids := by
  subst hm
  cases cs with
  | nil => exact ⟨_, .nil⟩
  | cons c cs =>
    refine ⟨_, Fz.row (o := ⟨c :: cs, e, 1, true, none⟩) ?_ hp⟩
    show (B ++ (J ++ [_]))[B.length + J.length]? = _
    rw [List.getElem?_append_right (by omega), Nat.add_sub_cancel_left, List.getElem?_append_right (Nat.le_refl _), Nat.sub_self]
    rfl
end Go.V
set_option maxHeartbeats 4000000
set_option maxRecDepth 100000
set_option synthInstance.maxSize 100000
set_option synthInstance.maxHeartbeats 2000000
namespace Go.V
open Go.RowKit Go.Proofs
theorem valid_lim {n : Nat} (hl : (lim n).length ≤ 1024) : PC C ZgG [numD n] (fun o => o = .ret (.bool true)) :=
  (Zb3 (lim n) inferInstance).mono fun o ho => by rw [ho, decide_eq_true (show okNat (lim n) from ⟨hl, Canon_lim n⟩)]
end Go.V
set_option maxHeartbeats 8000000
set_option maxRecDepth 100000
set_option synthInstance.maxSize 100000
set_option synthInstance.maxHeartbeats 2000000
namespace Go.V
open Go.RowKit Go.Proofs
end Go.V
set_option maxHeartbeats 4000000
set_option maxRecDepth 100000
set_option synthInstance.maxSize 100000
set_option synthInstance.maxHeartbeats 2000000
namespace Go.V
open Go.RowKit Go.Proofs
end Go.V
namespace Go.V
end Go.V
set_option maxHeartbeats 4000000
set_option maxRecDepth 100000
set_option synthInstance.maxSize 100000
set_option synthInstance.maxHeartbeats 2000000
namespace Go.V
open Go.RowKit Go.Proofs
theorem ZkX (l : List Nat) (i : Nat) : PC C Zel [sln .u32 l, .int .i64 (i : Int)] (fun o => o = .ret (.int .u32 ((l.getD i 0 : Nat) : Int))) := by
  refine PC.rn ZdK ZhK ZhL (rs := [.tmp 4]) (by rw [ZhM]) ?_
  refine ARun.seq (ARun.region ?_); refine xa ?_; refine AOps.nil (ARun.seq (ARun.seq (ARun.region ?_))); refine xm ?_; refine xm ?_; refine xN ?_; refine xi ?_; refine AOps.nil ?_
  refine ARun.ite rfl (fun h => ?_) (fun h => ?_)
  · skip
    refine ARun.seq (ARun.region ?_); refine xm ?_; refine xm ?_
    refine y_op rfl (Zaj (i := i) rfl rfl rfl rfl (by omega) (by omega) (nts_ne (by omega)) (drop_nat rfl)) ?_
    refine y_op rfl (q_load rfl rfl rfl (nts_load (i := i) (by omega))) ?_
    refine xa ?_; refine AOps.nil ?_
    refine ARun.ret ?_
    refine ⟨_, _, _, .tmp rfl .nil, .cons (.same _) .nil, rfl, ?_⟩
    rfl
  have e : l.getD i 0 = 0 := by rw [List.getD_eq_getElem?_getD, List.getElem?_eq_none (by omega)]; rfl
  refine ARun.skip (ARun.seq (ARun.region ?_)); refine xa ?_; refine AOps.nil ?_
  refine ARun.ret ?_
  refine ⟨_, _, _, .tmp rfl .nil, .cons (.same _) .nil, rfl, ?_⟩
  rw [e]; rfl
end Go.V
set_option maxHeartbeats 8000000
set_option maxRecDepth 100000
set_option synthInstance.maxSize 100000
set_option synthInstance.maxHeartbeats 2000000
namespace Go.V
open Go.RowKit Go.Proofs
theorem getJ0 {J : Heap} {x : Option AObj} : (J ++ [x])[J.length]? = some x := by simp
theorem setJ0 {J : Heap} {x y : Option AObj} : (J ++ [x]).set J.length y = J ++ [y] := by simp
theorem lim_get0 {d : Nat} (h : d < B) : (lim d).getD 0 0 = d := by
  rcases Nat.eq_zero_or_pos d with h0 | h0
  · subst h0; rw [lim_zero]; rfl
  rw [lim_dig1 h0 h]; rfl
theorem figU_str (b a : Nat) (up : Bool) (h : 0 < a) : ((dgs b a).map (figU up)).reverse = bif up then (txt b a).map upN else txt b a := by
  unfold txt
  rw [if_neg (by omega)]
  cases up
  · rfl
  show _ = List.map upN _
  rw [List.map_reverse, List.map_map]; rfl
theorem figU_lt (up : Bool) {d : Nat} (h : d < 36) : figU up d < 256 := by
  unfold figU fig upN; cases up <;> simp only [cond_true, cond_false] <;> (repeat' split) <;> omega
theorem Zjw (a b : Nat) (up : Bool) (ha : (lim a).length ≤ 1024) (hb2 : 2 ≤ b) (hb36 : b ≤ 36) : PC C ZhG [numD a, .int .i64 (b : Int), .bool up] (fun o => o = .ret (.str (bytesOf (bif up then (txt b a).map upN else txt b a)))) := by
  have hfit := dgs_fit hb2 ha
  refine PC.rn Zc8 ZgH ZgI (rs := [.tmp 6]) (by rw [ZgJ]) ?_
  refine ARun.seq (ARun.region ?_); refine xa ?_; refine AOps.nil (ARun.seq (ARun.seq (ARun.region ?_))); refine xm ?_; refine xN ?_; refine xi ?_; refine AOps.nil ?_
  refine ARun.ite rfl (fun h => ?_) (fun h => ?_)
  · skip
    have h0 : a = 0 := by
      rcases Nat.eq_zero_or_pos a with h0 | h0
      · exact h0
      exfalso; rw [lim_pos (by omega), List.length_cons] at h; omega
    subst h0
    refine ARun.seq (ARun.region ?_); refine xa ?_; refine AOps.nil ?_
    refine ARun.ret ?_
    refine ⟨_, _, _, .tmp rfl .nil, .cons (.same _) .nil, rfl, ?_⟩
    cases up <;> rfl
  have hpos : 0 < a := by
    rcases Nat.eq_zero_or_pos a with h0 | h0
    · subst h0; exfalso; apply h; rw [lim_zero]; rfl
    exact h0
  refine ARun.skip (ARun.seq (ARun.region ?_)); refine xa ?_; refine AOps.nil (ARun.seq (ARun.block ?_))
  refine ARun.hp (H' := growT [] Zci (nts .u8 (([] : List Nat).map (figU up)))) rfl ?_
  refine ARun.loopI (S := Nat × List Nat × Heap) (fun σ : Nat × List Nat × Heap => [(8, .any), (14, .any), (15, .any), (16, .any), (17, .any), (18, .any), (19, .any), (20, .any), (21, .any), (22, .any), (23, .any), (24, .any), (25, .any), (26, .any), (27, .any), (28, .any), (29, .any), (30, .any), (31, .any), (32, .any), (0, numD σ.1), (7, growD (0 + σ.2.2.length) (nts .u8 (σ.2.1.map (figU up))))]) (fun σ : Nat × List Nat × Heap => growT σ.2.2 Zci (nts .u8 (σ.2.1.map (figU up)))) (fun σ : Nat × List Nat × Heap => dgs b a = σ.2.1 ++ dgs b σ.1 ∧ (lim σ.1).length ≤ 1024) (fun σ : Nat × List Nat × Heap => σ.1) ((a, [], [])) ?_ ?_ ?_ ?_
  · exact ⟨rfl, ha⟩
  · (repeat' first | exact envLe_nil | apply envLe_any | apply envLe_same)
  · rfl
  rintro ⟨v, L, J⟩ hinv ih
  dsimp only at hinv ih ⊢
  obtain ⟨hL, hv⟩ := hinv
  refine ARun.seq (ARun.seq (ARun.region ?_)); refine xm ?_; refine xN ?_; refine xi ?_; refine AOps.nil ?_
  refine ARun.ite rfl (fun g => ?_) (fun g => ?_)
  · skip
    have hv0 : 0 < v := by
      rcases Nat.eq_zero_or_pos v with h0 | h0
      · subst h0; exfalso; rw [lim_zero] at g; exact absurd g (by decide)
      exact h0
    have hd := dgs_pos hb2 hv0
    have hvb : v % b < b := Nat.mod_lt _ (by omega)
    have hlen : L.length + 1 ≤ 32768 := by
      have := congrArg List.length hL
      rw [hd, List.length_append, List.length_cons] at this
      omega
    have hnl : (nts .u8 (L.map (figU up))).length = L.length := by rw [nts_length, List.length_map]
    have hel : PC C Zel [numD (v % b), .int .i64 0] (fun o => o = .ret (.int .u32 ((v % b : Nat) : Int))) := (ZkX (lim (v % b)) 0).mono fun o ho => by rw [ho, lim_get0 (by rw [B_eq]; omega)]
    refine ARun.skip (ARun.block (ARun.seq (ARun.region ?_))); refine xm ?_; refine xm ?_
    refine y_op rfl (q_conv rfl rfl rfl (show _ = (b : Int) by rw [IntKind.wrap_u32]; omega)) ?_
    refine y_op rfl (OpQ.cast (ZaB rfl rfl rfl rfl rfl rfl rfl rfl rfl rfl rfl (by decide) (by decide) rfl) (numD_dig1 (b := b) (by omega) (by rw [B_eq]; omega))) ?_
    refine xc rfl rfl (Zn4 v b (by omega) (by rw [lim_dig1 (by omega) (by rw [B_eq]; omega)]; show 1 ≤ _; decide) (by omega)) ?_
    refine ZbL rfl rfl rfl rfl rfl rfl rfl rfl rfl rfl rfl ?_
    refine AOps.nil (ARun.seq (ARun.region ?_)); refine xm ?_; refine xf ?_; refine xl ?_
    refine xc rfl rfl (hel) ?_
    refine y_op rfl (q_conv rfl rfl rfl (show _ = ((v % b : Nat) : Int) by rw [IntWalk.i64_in _ (by omega)])) ?_
    refine xm ?_
    refine xc rfl rfl (ZlE (v % b) (by omega) up) ?_
    refine y_op rfl (ZaB rfl rfl rfl rfl rfl rfl rfl rfl rfl rfl rfl (by decide) (by decide) rfl) ?_
    refine Zns (dx := .int .u8 ((figU up (v % b) : Nat) : Int)) rfl rfl rfl rfl rfl rfl rfl rfl rfl (by show (_ + 1) * 1 ≤ _; omega) (by omega) (fun J' => ?_)
    rw [show nts .u8 (L.map (figU up)) ++ [D.int .u8 ((figU up (v % b) : Nat) : Int)] = nts .u8 ((L ++ [v % b]).map (figU up)) by simp [nts]]
    refine xa ?_; refine AOps.nil (ARun.region ?_); refine xf ?_; refine xl ?_; refine xa ?_; refine AOps.nil (ARun.inBlock ?_)
    refine ARun.again (ih ((v / b, L ++ [v % b], J')) ?_ ?_) ?_ ?_
    · exact ⟨by dsimp only; rw [hL, hd, List.append_assoc]; rfl, Nat.le_trans (ln_mono (Nat.div_le_self v b)) hv⟩
    · exact Nat.div_lt_self hv0 (by omega)
    · (repeat' first | exact envLe_nil | apply envLe_any | apply envLe_same)
    rfl
  have hv0 : v = 0 := by
    rcases Nat.eq_zero_or_pos v with h0 | h0
    · exact h0
    exfalso; apply g; rw [lim_pos (by omega), List.length_cons]; omega
  subst hv0
  rw [dgs_zero, List.append_nil] at hL
  subst hL
  rw [← figU_str b a up hpos]
  have hne : (dgs b a).map (figU up) ≠ [] := by rw [dgs_pos hb2 hpos]; simp
  have hln : ((dgs b a).map (figU up)).length ≤ 32768 := by simpa using hfit
  have hu8 : ∀ x ∈ (dgs b a).map (figU up), x < 256 := by
    intro x hx
    obtain ⟨d, hd, rfl⟩ := List.mem_map.1 hx
    have := dgs_lt hb2 a d hd
    exact figU_lt up (by omega)
  generalize (dgs b a).map (figU up) = X at *
  obtain ⟨x, l, rfl⟩ := List.exists_cons_of_ne_nil hne
  rw [show growD (0 + J.length) (nts .u8 (x :: l)) = D.row J.length (x :: l).length by simp [growD, nts]]
  refine ARun.hp (H' := J ++ [rowB (x :: l)]) (by simp [growT, nts]) ?_
  refine ARun.exit rfl ?_
  refine ARun.seq (ARun.seq (ARun.region ?_)); refine xa ?_; refine AOps.nil (ARun.block ?_)
  refine ARun.loopI (S := Nat × List Nat) (fun σ : Nat × List Nat => [(10, .any), (33, .any), (34, .any), (35, .any), (36, .any), (37, .any), (38, .any), (39, .any), (40, .any), (41, .any), (42, .any), (43, .any), (44, .any), (45, .any), (46, .any), (47, .any), (48, .any), (49, .any), (50, .any), (51, .any), (52, .any), (53, .any), (54, .any), (55, .any), (56, .any), (57, .any), (58, .any), (59, .any), (60, .any), (61, .any), (62, .any), (9, .int .i64 (σ.1 : Int))]) (fun σ : Nat × List Nat => J ++ [rowB σ.2]) (fun σ : Nat × List Nat => RevI (x :: l) σ.2 σ.1) (fun σ : Nat × List Nat => (x :: l).length - σ.1) ((0, x :: l)) ?_ ?_ ?_ ?_
  · exact RevI.start (x :: l)
  · (repeat' first | exact envLe_nil | apply envLe_any | apply envLe_same)
  · rfl
  rintro ⟨i, ys⟩ hinv ih
  dsimp only at hinv ih ⊢
  have hl := hinv.l
  have hh := hinv.h
  have hu8' := hu8
  refine ARun.seq (ARun.seq (ARun.region ?_)); refine xm ?_; refine xm ?_
  refine y_op rfl (ZaF rfl getJ0 rfl) ?_
  refine y_op rfl (q_quo rfl rfl (by omega) (nquo_i64 (n := 2) rfl (by omega))) ?_
  refine xi ?_; refine AOps.nil ?_
  refine ARun.ite rfl (fun q => ?_) (fun q => ?_)
  · skip
    obtain ⟨j, hj⟩ : ∃ j : Nat, j + i + 1 = (x :: l).length := ⟨(x :: l).length - 1 - i, by omega⟩
    have hij : i < j := by omega
    refine ARun.skip (ARun.seq (ARun.block (ARun.seq (ARun.region ?_)))); refine xm ?_; refine xm ?_
    refine y_op rfl (Zah rfl rfl rfl rfl getJ0 (by omega) (by omega) (idx_nat rfl)) ?_
    refine y_op rfl (Zac rfl rfl rfl getJ0 (nts_get (xs := ys) (i := i) (by omega))) ?_
    refine xa ?_; refine AOps.nil (ARun.seq (ARun.region ?_)); refine xm ?_; refine xm ?_; refine xm ?_; refine xm ?_
    refine y_op rfl (ZaF rfl getJ0 rfl) ?_
    refine y_op rfl (q_sub rfl rfl (show _ = (((x :: l).length - 1 : Nat) : Int) by rw [IntWalk.i64_in _ (by omega)]; omega)) ?_
    refine xm ?_
    refine y_op rfl (q_sub rfl rfl (show _ = (j : Int) by rw [IntWalk.i64_in _ (by omega)]; omega)) ?_
    refine y_op rfl (Zah rfl rfl rfl rfl getJ0 (by omega) (by omega) (idx_nat rfl)) ?_
    refine y_op rfl (Zac rfl rfl rfl getJ0 (nts_get (xs := ys) (i := j) (by omega))) ?_
    refine y_op rfl (Zah rfl rfl rfl rfl getJ0 (by omega) (by omega) (idx_nat rfl)) ?_
    refine y_new rfl (Zad (pl := ⟨setJ0⟩) (ob := ⟨nts .u8 ys, Zci, 1, true, none⟩) (cs := nts .u8 (ys.set i (ys.getD j 0))) rfl rfl rfl rfl getJ0 rfl (by simp; omega) nts_set) ?_
    refine AOps.nil (ARun.region ?_); refine xm ?_; refine xm ?_
    refine y_op rfl (ZaF rfl getJ0 rfl) ?_
    refine y_op rfl (q_sub rfl rfl (show _ = (((x :: l).length - 1 : Nat) : Int) by rw [IntWalk.i64_in _ (by omega)]; omega)) ?_
    refine xm ?_
    refine y_op rfl (q_sub rfl rfl (show _ = (j : Int) by rw [IntWalk.i64_in _ (by omega)]; omega)) ?_
    refine xm ?_
    refine y_op rfl (Zah rfl rfl rfl rfl getJ0 (by omega) (by omega) (idx_nat rfl)) ?_
    refine y_new rfl (Zad (pl := ⟨setJ0⟩) (ob := ⟨nts .u8 (ys.set i (ys.getD j 0)), Zci, 1, true, none⟩) (cs := nts .u8 ((ys.set i (ys.getD j 0)).set j (ys.getD i 0))) rfl rfl rfl rfl getJ0 rfl (by simp; omega) nts_set) ?_
    refine AOps.nil (ARun.inBlock (ARun.region ?_)); refine xm ?_
    refine y_op rfl (q_add rfl rfl (nadd1_i64 (by omega))) ?_
    refine xa ?_; refine AOps.nil ?_
    refine ARun.again (ih ((i + 1, (ys.set i (ys.getD j 0)).set j (ys.getD i 0))) ?_ ?_) ?_ ?_
    · exact hinv.step hij hj
    · (dsimp only; omega)
    · (repeat' first | exact envLe_nil | apply envLe_any | apply envLe_same)
    rfl
  have hy : ys = (x :: l).reverse := hinv.fin (by omega)
  subst hy
  refine ARun.exit rfl ?_
  refine ARun.seq (ARun.region ?_); refine xm ?_
  refine y_op rfl (Zil (n := (x :: l).length) (l := (x :: l).reverse) rfl (by kernel_rfl) rfl rfl (srcD_row (o := ⟨nts .u8 (x :: l).reverse, Zci, 1, true, none⟩) getJ0) (by simp)) ?_
  refine xa ?_; refine AOps.nil ?_
  refine ARun.ret ?_
  refine ⟨_, _, _, .tmp rfl .nil, .cons (.same _) .nil, rfl, ?_⟩
  rfl
end Go.V
set_option maxHeartbeats 8000000
set_option maxRecDepth 100000
set_option synthInstance.maxSize 100000
set_option synthInstance.maxHeartbeats 2000000
namespace Go.V
open Go.RowKit Go.Proofs
abbrev Ca := List Nat × Int × Bool × Int
abbrev caD (e : Ca) : D := .agg [sln .u32 e.1, .int .i64 e.2.1, .bool e.2.2.1, .int .i64 e.2.2.2]
def baseP (e : Ca) : Prop := e.2.1 = 2 ∨ e.2.1 = 8 ∨ e.2.1 = 16 ∨ e.2.1 = 10 ∧ 0 < e.1.length
instance (e : Ca) : Decidable (baseP e) := by unfold baseP; infer_instance
def okC (e : Ca) : Bool := okB e.1 && decide (baseP e ∧ 0 ≤ e.2.2.2 ∧ e.2.2.2 ≤ 2)
theorem okC_T {e : Ca} (h : okB e.1 = true) (h2 : baseP e ∧ 0 ≤ e.2.2.2 ∧ e.2.2.2 ≤ 2) : okC e = true := by unfold okC; rw [h, decide_eq_true h2]; rfl
theorem okC_F {e : Ca} (h : okB e.1 = true → ¬ (baseP e ∧ 0 ≤ e.2.2.2 ∧ e.2.2.2 ≤ 2)) : okC e = false := by
  unfold okC
  cases hb : okB e.1
  · rfl
  rw [decide_eq_false (h hb)]; rfl
theorem ZeD (e : Ca) : PC C ZfE [caD e] (fun o => o = .ret (.bool (okC e))) := by
  obtain ⟨xs, base, u, n⟩ := e
  have hbp : baseP (xs, base, u, n) = (base = 2 ∨ base = 8 ∨ base = 16 ∨ base = 10 ∧ 0 < xs.length) := rfl
  refine PC.rn Zb6 ZeH ZeI (rs := [.tmp 2]) (by rw [ZeJ]) ?_
  refine ARun.seq (ARun.region ?_); refine xb ?_; refine xa ?_; refine AOps.nil (ARun.seq ?_)
  refine ARun.join (S := Bool) (fun v : Bool => [(4, .any), (5, .any), (6, .any), (7, .any), (8, .any), (9, .any), (10, .any), (11, .any), (12, .any), (13, .any), (14, .any), (15, .any), (16, .any), (17, .any), (18, .any), (19, .any), (20, .any), (21, .any), (22, .any), (23, .any), (24, .any), (25, .any), (26, .any), (27, .any), (3, .bool v)]) (fun v : Bool => v = decide (baseP (xs, base, u, n))) (fun run => ?_) ?_
  · skip
    refine ARun.region ?_; refine xf ?_; refine xl ?_; refine xi ?_; refine xm ?_
    refine AOps.bool 7 rfl (fun c2 => ?_) (fun c2 => ?_)
    · skip
      have c2 : base = 2 := of_decide_eq_true c2
      refine xk ?_; refine xk ?_; refine xk ?_; refine xp ?_; refine xm ?_; refine xk ?_; refine xk ?_; refine xk ?_; refine xp ?_; refine xm ?_; refine xk ?_; refine xk ?_; refine xk ?_; refine xk ?_; refine xk ?_; refine xk ?_; refine xk ?_; refine xk ?_; refine xk ?_; refine xp ?_; refine xa ?_; refine AOps.nil ?_
      exact ARun.ag (run (true) ((decide_eq_true (.inl c2)).symm))
    have c2 : ¬ base = 2 := of_decide_eq_false c2
    refine xf ?_; refine xl ?_; refine xi ?_; refine xp ?_; refine xm ?_
    refine AOps.bool 12 rfl (fun c8 => ?_) (fun c8 => ?_)
    · skip
      have c8 : base = 8 := of_decide_eq_true c8
      refine xk ?_; refine xk ?_; refine xk ?_; refine xp ?_; refine xm ?_; refine xk ?_; refine xk ?_; refine xk ?_; refine xk ?_; refine xk ?_; refine xk ?_; refine xk ?_; refine xk ?_; refine xk ?_; refine xp ?_; refine xa ?_; refine AOps.nil ?_
      exact ARun.ag (run (true) ((decide_eq_true (.inr (.inl c8))).symm))
    have c8 : ¬ base = 8 := of_decide_eq_false c8
    refine xf ?_; refine xl ?_; refine xi ?_; refine xp ?_; refine xm ?_
    refine AOps.bool 17 rfl (fun c16 => ?_) (fun c16 => ?_)
    · skip
      have c16 : base = 16 := of_decide_eq_true c16
      refine xk ?_; refine xk ?_; refine xk ?_; refine xk ?_; refine xk ?_; refine xk ?_; refine xk ?_; refine xk ?_; refine xk ?_; refine xp ?_; refine xa ?_; refine AOps.nil ?_
      exact ARun.ag (run (true) ((decide_eq_true (.inr (.inr (.inl c16)))).symm))
    have c16 : ¬ base = 16 := of_decide_eq_false c16
    refine xf ?_; refine xl ?_; refine xi ?_; refine xm ?_
    refine AOps.bool 21 rfl (fun c10 => ?_) (fun c10 => ?_)
    · skip
      have c10 : base = 10 := of_decide_eq_true c10
      refine xf ?_; refine xl ?_; refine xN ?_; refine xi ?_; refine xp ?_; refine xp ?_; refine xa ?_; refine AOps.nil ?_
      exact ARun.ag (run (decide (((xs.length : Nat) : Int) > 0)) (decide_eq_decide.2 (by rw [hbp]; omega)))
    have c10 : ¬ base = 10 := of_decide_eq_false c10
    refine xk ?_; refine xk ?_; refine xk ?_; refine xk ?_; refine xp ?_; refine xp ?_; refine xa ?_; refine AOps.nil ?_
    exact ARun.ag (run (false) ((decide_eq_false (by rw [hbp]; omega)).symm))
  rintro v hj
  try dsimp only at hj ⊢
  refine ARun.seq (ARun.region ?_); refine xf ?_; refine xl ?_
  refine xc rfl rfl (Zb3 xs inferInstance) ?_
  refine xm ?_
  refine AOps.bool 31 rfl (fun k1 => ?_) (fun k1 => ?_)
  · skip
    have k1 : okB xs = true := k1
    refine xm ?_; refine xp ?_; refine xm ?_
    refine AOps.bool 34 rfl (fun k2 => ?_) (fun k2 => ?_)
    · skip
      rw [k2] at hj
      have k2 := of_decide_eq_true hj.symm
      refine xf ?_; refine xl ?_; refine xi ?_; refine xp ?_; refine xm ?_
      refine AOps.bool 39 rfl (fun k3 => ?_) (fun k3 => ?_)
      · skip
        have k3 : 0 ≤ n := of_decide_eq_true k3
        refine xf ?_; refine xl ?_; refine xi ?_; refine xp ?_; refine xa ?_; refine AOps.nil ?_
        refine ARun.ret ?_
        refine ⟨_, _, _, .tmp rfl .nil, .cons (.same _) .nil, rfl, ?_⟩
        rw [show okC (xs, base, u, n) = decide (n ≤ 2) by
          by_cases h : n ≤ 2
          · rw [decide_eq_true h]; exact okC_T k1 ⟨k2, k3, h⟩
          rw [decide_eq_false h]; exact okC_F fun _ h2 => h h2.2.2]
        rfl
      have k3 : ¬ (0 ≤ n) := of_decide_eq_false k3
      refine xk ?_; refine xk ?_; refine xk ?_; refine xp ?_; refine xa ?_; refine AOps.nil ?_
      refine ARun.ret ?_
      refine ⟨_, _, _, .tmp rfl .nil, .cons (.same _) .nil, rfl, ?_⟩
      rw [okC_F fun _ h => k3 h.2.1]; rfl
    rw [k2] at hj
    have k2 := of_decide_eq_false hj.symm
    refine xk ?_; refine xk ?_; refine xk ?_; refine xp ?_; refine xm ?_; refine xk ?_; refine xk ?_; refine xk ?_; refine xp ?_; refine xa ?_; refine AOps.nil ?_
    refine ARun.ret ?_
    refine ⟨_, _, _, .tmp rfl .nil, .cons (.same _) .nil, rfl, ?_⟩
    rw [okC_F fun _ h => k2 h.1]; rfl
  have k1 : okB xs = false := k1
  refine xk ?_; refine xp ?_; refine xm ?_; refine xk ?_; refine xk ?_; refine xk ?_; refine xp ?_; refine xm ?_; refine xk ?_; refine xk ?_; refine xk ?_; refine xp ?_; refine xa ?_; refine AOps.nil ?_
  refine ARun.ret ?_
  refine ⟨_, _, _, .tmp rfl .nil, .cons (.same _) .nil, rfl, ?_⟩
  rw [okC_F fun h => by have h : okB xs = true := h; rw [k1] at h; cases h]; rfl
theorem Zhj (e : Ca) : PC C Zkb [caD e] (fun o => o = .ret (.bool (okC e))) := by
  obtain ⟨xs, base, u, n⟩ := e
  have hbp : baseP (xs, base, u, n) = (base = 2 ∨ base = 8 ∨ base = 16 ∨ base = 10 ∧ 0 < xs.length) := rfl
  refine PC.rn Zep Zi9 Zja (rs := [.tmp 2]) (by rw [Zjb]) ?_
  refine ARun.seq (ARun.region ?_); refine xb ?_; refine xa ?_; refine AOps.nil (ARun.seq ?_)
  refine ARun.join (S := Bool) (fun v : Bool => [(4, .any), (5, .any), (6, .any), (7, .any), (8, .any), (9, .any), (10, .any), (11, .any), (12, .any), (13, .any), (14, .any), (15, .any), (16, .any), (17, .any), (18, .any), (19, .any), (20, .any), (21, .any), (3, .bool v)]) (fun v : Bool => v = decide (base = 2 ∨ base = 8 ∨ base = 16 ∨ base = 10)) (fun run => ?_) ?_
  · skip
    refine ARun.region ?_; refine xf ?_; refine xl ?_; refine xi ?_; refine xm ?_
    refine AOps.bool 7 rfl (fun c2 => ?_) (fun c2 => ?_)
    · skip
      have c2 : base = 2 := of_decide_eq_true c2
      refine xk ?_; refine xk ?_; refine xk ?_; refine xp ?_; refine xm ?_; refine xk ?_; refine xk ?_; refine xk ?_; refine xp ?_; refine xm ?_; refine xk ?_; refine xk ?_; refine xk ?_; refine xp ?_; refine xa ?_; refine AOps.nil ?_
      exact ARun.ag (run (true) ((decide_eq_true (.inl c2)).symm))
    have c2 : ¬ base = 2 := of_decide_eq_false c2
    refine xf ?_; refine xl ?_; refine xi ?_; refine xp ?_; refine xm ?_
    refine AOps.bool 12 rfl (fun c8 => ?_) (fun c8 => ?_)
    · skip
      have c8 : base = 8 := of_decide_eq_true c8
      refine xk ?_; refine xk ?_; refine xk ?_; refine xp ?_; refine xm ?_; refine xk ?_; refine xk ?_; refine xk ?_; refine xp ?_; refine xa ?_; refine AOps.nil ?_
      exact ARun.ag (run (true) ((decide_eq_true (.inr (.inl c8))).symm))
    have c8 : ¬ base = 8 := of_decide_eq_false c8
    refine xf ?_; refine xl ?_; refine xi ?_; refine xp ?_; refine xm ?_
    refine AOps.bool 17 rfl (fun c10 => ?_) (fun c10 => ?_)
    · skip
      have c10 : base = 10 := of_decide_eq_true c10
      refine xk ?_; refine xk ?_; refine xk ?_; refine xp ?_; refine xa ?_; refine AOps.nil ?_
      exact ARun.ag (run (true) ((decide_eq_true (.inr (.inr (.inr c10)))).symm))
    have c10 : ¬ base = 10 := of_decide_eq_false c10
    refine xf ?_; refine xl ?_; refine xi ?_; refine xp ?_; refine xa ?_; refine AOps.nil ?_
    exact ARun.ag (run (decide (base = 16)) (decide_eq_decide.2 (by omega)))
  rintro v hj
  try dsimp only at hj ⊢
  refine ARun.seq (ARun.region ?_); refine xf ?_; refine xl ?_
  refine xc rfl rfl (ZmK xs) ?_
  refine xm ?_
  refine AOps.bool 25 rfl (fun k1 => ?_) (fun k1 => ?_)
  · skip
    have k1 : okB xs = true := k1
    refine xm ?_; refine xp ?_; refine xm ?_
    refine AOps.bool 28 rfl (fun k2 => ?_) (fun k2 => ?_)
    · skip
      rw [k2] at hj
      have k2 := of_decide_eq_true hj.symm
      refine xf ?_; refine xl ?_; refine xi ?_; refine xp ?_; refine xm ?_
      refine AOps.bool 33 rfl (fun k3 => ?_) (fun k3 => ?_)
      · skip
        have k3 : 0 ≤ n := of_decide_eq_true k3
        refine xf ?_; refine xl ?_; refine xi ?_; refine xp ?_; refine xm ?_
        refine AOps.bool 38 rfl (fun k4 => ?_) (fun k4 => ?_)
        · skip
          have k4 : n ≤ 2 := of_decide_eq_true k4
          refine xf ?_; refine xl ?_; refine xN ?_; refine xi ?_; refine xm ?_
          refine AOps.bool 43 rfl (fun k5 => ?_) (fun k5 => ?_)
          · skip
            have k5 := of_decide_eq_true k5
            refine xk ?_; refine xk ?_; refine xk ?_; refine xp ?_; refine xp ?_; refine xa ?_; refine AOps.nil ?_
            refine ARun.ret ?_
            refine ⟨_, _, _, .tmp rfl .nil, .cons (.same _) .nil, rfl, ?_⟩
            rw [okC_T k1 ⟨by rw [hbp]; omega, k3, k4⟩]; rfl
          have k5 := of_decide_eq_false k5
          refine xf ?_; refine xl ?_
          refine y_op rfl (OpQ.cast (d' := .bool (decide (base ≠ 10))) (q_int rfl rfl rfl) (by congr 1; rw [Bool.eq_iff_iff]; simp)) ?_
          refine xp ?_; refine xp ?_; refine xa ?_; refine AOps.nil ?_
          refine ARun.ret ?_
          refine ⟨_, _, _, .tmp rfl .nil, .cons (.same _) .nil, rfl, ?_⟩
          rw [show okC (xs, base, u, n) = decide (base ≠ 10) by
            by_cases h : base = 10
            · rw [decide_eq_false (fun h2 => h2 h)]; exact okC_F fun _ h2 => by have h3 := h2.1; rw [hbp] at h3; omega
            rw [decide_eq_true h]; exact okC_T k1 ⟨by rw [hbp]; omega, k3, k4⟩]
          rfl
        have k4 : ¬ (n ≤ 2) := of_decide_eq_false k4
        refine xk ?_; refine xk ?_; refine xk ?_; refine xk ?_; refine xk ?_; refine xk ?_; refine xk ?_; refine xk ?_; refine xk ?_; refine xp ?_; refine xa ?_; refine AOps.nil ?_
        refine ARun.ret ?_
        refine ⟨_, _, _, .tmp rfl .nil, .cons (.same _) .nil, rfl, ?_⟩
        rw [okC_F fun _ h => k4 h.2.2]; rfl
      have k3 : ¬ (0 ≤ n) := of_decide_eq_false k3
      refine xk ?_; refine xk ?_; refine xk ?_; refine xp ?_; refine xm ?_; refine xk ?_; refine xk ?_; refine xk ?_; refine xk ?_; refine xk ?_; refine xk ?_; refine xk ?_; refine xk ?_; refine xk ?_; refine xp ?_; refine xa ?_; refine AOps.nil ?_
      refine ARun.ret ?_
      refine ⟨_, _, _, .tmp rfl .nil, .cons (.same _) .nil, rfl, ?_⟩
      rw [okC_F fun _ h => k3 h.2.1]; rfl
    rw [k2] at hj
    have k2 := of_decide_eq_false hj.symm
    refine xk ?_; refine xk ?_; refine xk ?_; refine xp ?_; refine xm ?_; refine xk ?_; refine xk ?_; refine xk ?_; refine xp ?_; refine xm ?_; refine xk ?_; refine xk ?_; refine xk ?_; refine xk ?_; refine xk ?_; refine xk ?_; refine xk ?_; refine xk ?_; refine xk ?_; refine xp ?_; refine xa ?_; refine AOps.nil ?_
    refine ARun.ret ?_
    refine ⟨_, _, _, .tmp rfl .nil, .cons (.same _) .nil, rfl, ?_⟩
    rw [okC_F fun _ h => by have h3 := h.1; rw [hbp] at h3; omega]; rfl
  have k1 : okB xs = false := k1
  refine xk ?_; refine xp ?_; refine xm ?_; refine xk ?_; refine xk ?_; refine xk ?_; refine xp ?_; refine xm ?_; refine xk ?_; refine xk ?_; refine xk ?_; refine xp ?_; refine xm ?_; refine xk ?_; refine xk ?_; refine xk ?_; refine xk ?_; refine xk ?_; refine xk ?_; refine xk ?_; refine xk ?_; refine xk ?_; refine xp ?_; refine xa ?_; refine AOps.nil ?_
  refine ARun.ret ?_
  refine ⟨_, _, _, .tmp rfl .nil, .cons (.same _) .nil, rfl, ?_⟩
  rw [okC_F fun h => by have h : okB xs = true := h; rw [k1] at h; cases h]; rfl
theorem okC_val {xs : List Nat} {base n : Int} {u : Bool} (hu : U32 xs) (h : okC (xs, base, u, n) = true) : ∃ (a b m : Nat), xs = lim a ∧ base = (b : Int) ∧ n = (m : Int) ∧ (lim a).length ≤ 1024 ∧ m ≤ 2 ∧ (b = 2 ∨ b = 8 ∨ b = 16 ∨ b = 10 ∧ 0 < a) := by
  unfold okC at h
  rw [Bool.and_eq_true, decide_eq_true_eq] at h
  obtain ⟨h1, h2, h3, h4⟩ := h
  obtain ⟨a, ha, hl⟩ := okNat_lim hu h1
  dsimp only at ha h3 h4
  subst ha
  have hbp : baseP (lim a, base, u, n) = (base = 2 ∨ base = 8 ∨ base = 16 ∨ base = 10 ∧ 0 < (lim a).length) := rfl
  rw [hbp] at h2
  refine ⟨a, base.toNat, n.toNat, rfl, by omega, by omega, hl, by omega, ?_⟩
  rcases h2 with h2 | h2 | h2 | ⟨h2, h5⟩
  · omega
  · omega
  · omega
  refine .inr (.inr (.inr ⟨by omega, ?_⟩))
  rcases Nat.eq_zero_or_pos a with h0 | h0
  · subst h0; rw [lim_zero] at h5; cases h5
  exact h0
def preL (b a : Nat) : List Nat := if b = 16 then [48, 120] else if b = 2 then [48, 98] else if b = 8 ∧ a ≠ 0 then [48] else []
def uL (u : Bool) : List Nat := bif u then [85] else []
def printL (a b : Nat) (u : Bool) (n : Nat) : List Nat := preL b a ++ txt b a ++ uL u ++ List.replicate n 76
def printR (e : Ca) : List Nat × Int := bif okC e then (printL (val e.1) e.2.1.toNat e.2.2.1 e.2.2.2.toNat, 0) else ([], 1)
theorem txt_ne (a : Nat) : (!((bytesOf (txt 8 a)).toList == (⟨#[48]⟩ : ByteArray).toList)) = decide (a ≠ 0) := by
  rw [ByteArray.toList_eq, ByteArray.toList_eq]
  by_cases h : a = 0
  · subst h; rfl
  rw [decide_eq_true h, Bool.not_eq_true', beq_eq_false_iff_ne]
  intro h2
  have h4 : sby (bytesOf (txt 8 a)) = [48] := congrArg (List.map (fun c : UInt8 => c.toNat)) h2
  have hl := digs_lt (b := 8) (by decide) a
  rw [sby_bytesOf (by
    rw [txt_digs]; intro c hc
    obtain ⟨d, hd, rfl⟩ := List.mem_map.1 hc
    exact fig_lt (by have := hl d hd; omega))] at h4
  have h5 : (txt 8 a).map digV = digs 8 a := by
    rw [txt_digs, List.map_map]
    conv => rhs; rw [← List.map_id (digs 8 a)]
    apply List.map_congr_left
    intro d hd
    exact digV_fig (by have := hl d hd; omega)
  rw [h4] at h5
  have h6 := digs_nv (b := 8) (by decide) a
  rw [← h5] at h6
  exact h (h6.symm.trans (by decide))
theorem ll_cut : ∀ n, n ≤ 2 → ByteArray.extract ⟨#[76, 76]⟩ 0 n = bytesOf (List.replicate n 76)
  | 0, _ => rfl
  | 1, _ => rfl
  | 2, _ => rfl
  | n + 3, h => by omega
theorem pre_le (b a : Nat) : (preL b a).length ≤ 2 := by unfold preL; (repeat' split) <;> decide
theorem uL_le (u : Bool) : (uL u).length ≤ 1 := by cases u <;> decide
theorem ZlL (e : Ca) (hu : U32 e.1) : PC C ZdD [caD e] (fun o => o = .ret (.tup [.str (bytesOf (printR e).1), .int .i64 (printR e).2])) := by
  obtain ⟨xs, base, u, k⟩ := e
  show PC C ZdD [.agg [sln .u32 xs, .int .i64 base, .bool u, .int .i64 k]] (fun o => o = .ret (.tup [.str (bytesOf (printR (xs, base, u, k)).1), .int .i64 (printR (xs, base, u, k)).2]))
  replace hu : U32 xs := hu
  refine PC.rn Zc1 Zgo Zgp (rs := [.tmp 2, .tmp 3]) (by rw [Zgq]) ?_
  refine ARun.seq (ARun.region ?_); refine xb ?_; refine xa ?_; refine xa ?_; refine AOps.nil (ARun.seq (ARun.seq (ARun.region ?_))); refine xL ?_
  refine xc rfl rfl (ZeD (xs, base, u, k)) ?_
  refine xn ?_; refine AOps.nil ?_
  refine ARun.cond rfl (fun h1 => ?_) (fun h1 => ?_)
  · skip
    have h1 : okC (xs, base, u, k) = false := by simpa using h1
    refine ARun.seq (ARun.region ?_); refine xa ?_; refine xa ?_; refine AOps.nil ?_
    refine ARun.ret ?_
    refine ⟨_, _, _, .tmp rfl (.tmp rfl .nil), .cons (.same _) (.cons (.same _) .nil), rfl, ?_⟩
    unfold printR; rw [h1]; rfl
  have h1 : okC (xs, base, u, k) = true := by simpa using h1
  obtain ⟨a, b, n, rfl, rfl, rfl, ha, hn, hb⟩ := okC_val hu h1
  have hR : printR (lim a, (b : Int), u, (n : Int)) = (printL a b u n, 0) := by
    unfold printR; rw [h1, cond_true]; dsimp only; rw [val_lim, Int.toNat_natCast, Int.toNat_natCast]
  rw [hR]
  clear hR
  have hb2 : 2 ≤ b := by omega
  have hb36 : b ≤ 36 := by omega
  have hlen := txt_len hb2 ha
  have hpre := pre_le b a
  have huL := uL_le u
  refine ARun.skip (ARun.seq (ARun.region ?_)); refine xf ?_; refine xl ?_; refine xf ?_; refine xl ?_
  refine xc rfl rfl (ZkT a b ha hb2 hb36) ?_
  refine xa ?_; refine AOps.nil (ARun.seq ?_)
  refine ARun.join (S := List Nat) (fun l : List Nat => [(13, .any), (14, .any), (15, .any), (16, .any), (17, .any), (18, .any), (19, .any), (20, .any), (21, .any), (22, .any), (23, .any), (24, .any), (25, .any), (26, .any), (27, .any), (28, .any), (29, .any), (30, .any), (31, .any), (32, .any), (33, .any), (34, .any), (4, .str (bytesOf l))]) (fun l : List Nat => l = preL b a ++ txt b a) (fun run => ?_) ?_
  · skip
    refine ARun.block (ARun.seq (ARun.region ?_)); refine xf ?_; refine xl ?_; refine xi ?_; refine xa ?_; refine AOps.nil ?_
    refine ARun.cond rfl (fun c16 => ?_) (fun c16 => ?_)
    · skip
      have c16 : b = 16 := by have := of_decide_eq_true c16; omega
      refine ARun.region ?_; refine xm ?_
      refine y_op rfl (OpQ.cast (Zbs rfl rfl (by rw [bytesOf_size]; show 2 + _ ≤ _; omega)) (congrArg D.str (bytesOf_append [48, 120] _).symm)) ?_
      refine xa ?_; refine AOps.nil (ARun.inBlock ?_)
      exact ARun.ag (run ([48, 120] ++ txt b a) (by rw [show preL b a = [48, 120] from if_pos c16]))
    have c16 : ¬ b = 16 := by have := of_decide_eq_false c16; omega
    refine ARun.seq (ARun.region ?_); refine xf ?_; refine xl ?_; refine xi ?_; refine xa ?_; refine AOps.nil ?_
    refine ARun.cond rfl (fun c2 => ?_) (fun c2 => ?_)
    · skip
      have c2 : b = 2 := by have := of_decide_eq_true c2; omega
      refine ARun.region ?_; refine xm ?_
      refine y_op rfl (OpQ.cast (Zbs rfl rfl (by rw [bytesOf_size]; show 2 + _ ≤ _; omega)) (congrArg D.str (bytesOf_append [48, 98] _).symm)) ?_
      refine xa ?_; refine AOps.nil (ARun.inBlock ?_)
      exact ARun.ag (run ([48, 98] ++ txt b a) (by unfold preL; rw [if_neg c16, if_pos c2]))
    have c2 : ¬ b = 2 := by have := of_decide_eq_false c2; omega
    refine ARun.seq (ARun.region ?_); refine xf ?_; refine xl ?_; refine xi ?_; refine xm ?_
    refine AOps.bool 29 rfl (fun c8 => ?_) (fun c8 => ?_)
    · skip
      have c8 : b = 8 := by have := of_decide_eq_true c8; omega
      subst c8
      refine xm ?_
      refine y_op rfl (OpQ.cast (Zoe rfl rfl) (congrArg D.bool (txt_ne a))) ?_
      refine xp ?_; refine xa ?_; refine AOps.nil ?_
      refine ARun.ite rfl (fun z => ?_) (fun z => ?_)
      · skip
        refine ARun.region ?_; refine xm ?_
        refine y_op rfl (OpQ.cast (Zbs rfl rfl (by rw [bytesOf_size]; show 1 + _ ≤ _; omega)) (congrArg D.str (bytesOf_append [48] _).symm)) ?_
        refine xa ?_; refine AOps.nil (ARun.inBlock ?_)
        exact ARun.ag (run ([48] ++ txt 8 a) (by unfold preL; rw [if_neg (by decide), if_neg (by decide), if_pos ⟨rfl, z⟩]))
      refine ARun.skip (ARun.inBlock ?_)
      exact ARun.ag (run (txt 8 a) (by unfold preL; rw [if_neg (by decide), if_neg (by decide), if_neg (fun h => z h.2)]; rfl))
    have c8 : ¬ b = 8 := by have := of_decide_eq_false c8; omega
    refine xk ?_; refine xk ?_; refine xp ?_; refine xa ?_; refine AOps.nil ?_
    refine ARun.condF rfl ?_
    refine ARun.skip (ARun.inBlock ?_)
    exact ARun.ag (run (txt b a) (by unfold preL; rw [if_neg c16, if_neg c2, if_neg (fun h => c8 h.1)]; rfl))
  rintro l hj
  try dsimp only at hj ⊢
  subst hj
  refine ARun.seq (ARun.seq (ARun.region ?_)); refine xf ?_; refine xl ?_; refine AOps.nil ?_
  refine ARun.join (S := List Nat) (fun l : List Nat => [(37, .any), (38, .any), (4, .str (bytesOf l))]) (fun l : List Nat => l = preL b a ++ txt b a ++ uL u) (fun run => ?_) ?_
  · skip
    refine ARun.cond rfl (fun cu => ?_) (fun cu => ?_)
    · skip
      obtain rfl : u = true := cu
      refine ARun.region ?_; refine xm ?_
      refine y_op rfl (OpQ.cast (Zbs rfl rfl (by rw [bytesOf_size, List.length_append]; show _ + 1 ≤ _; omega)) (congrArg D.str (bytesOf_append _ [85]).symm)) ?_
      refine xa ?_; refine AOps.nil ?_
      exact ARun.ag (run (preL b a ++ txt b a ++ [85]) (rfl))
    obtain rfl : u = false := cu
    refine ARun.skip ?_
    exact ARun.ag (run (preL b a ++ txt b a) ((List.append_nil _).symm))
  rintro l hj
  try dsimp only at hj ⊢
  subst hj
  refine ARun.seq (ARun.region ?_); refine xm ?_; refine xf ?_; refine xl ?_
  refine y_op rfl (OpQ.cast (Ze5 (lo := 0) (hi := n) rfl rfl rfl (bnd_nat rfl rfl) (Nat.zero_le _) (by show n ≤ 2; exact hn)) (congrArg D.str (ll_cut n hn))) ?_
  refine y_op rfl (OpQ.cast (Zbs rfl rfl (by rw [bytesOf_size, bytesOf_size, List.length_append, List.length_append, List.length_replicate]; omega)) (congrArg D.str (bytesOf_append _ _).symm)) ?_
  refine xa ?_; refine xa ?_; refine AOps.nil ?_
  refine ARun.ret ?_
  refine ⟨_, _, _, .tmp rfl (.tmp rfl .nil), .cons (.same _) (.cons (.same _) .nil), rfl, ?_⟩
  rfl
theorem ZlM (e : Ca) (hu : U32 e.1) : PC C Zfd [caD e] (fun o => o = .ret (.tup [.str (bytesOf (printR e).1), .int .i64 (printR e).2])) := by
  obtain ⟨xs, base, u, k⟩ := e
  show PC C Zfd [.agg [sln .u32 xs, .int .i64 base, .bool u, .int .i64 k]] (fun o => o = .ret (.tup [.str (bytesOf (printR (xs, base, u, k)).1), .int .i64 (printR (xs, base, u, k)).2]))
  replace hu : U32 xs := hu
  refine PC.rn Zd9 ZiC ZiD (rs := [.tmp 2, .tmp 3]) (by rw [ZiE]) ?_
  refine ARun.seq (ARun.region ?_); refine xb ?_; refine xa ?_; refine xa ?_; refine AOps.nil (ARun.seq (ARun.seq (ARun.region ?_))); refine xL ?_
  refine xc rfl rfl (Zhj (xs, base, u, k)) ?_
  refine xn ?_; refine AOps.nil ?_
  refine ARun.cond rfl (fun h1 => ?_) (fun h1 => ?_)
  · skip
    have h1 : okC (xs, base, u, k) = false := by simpa using h1
    refine ARun.seq (ARun.region ?_); refine xa ?_; refine xa ?_; refine AOps.nil ?_
    refine ARun.ret ?_
    refine ⟨_, _, _, .tmp rfl (.tmp rfl .nil), .cons (.same _) (.cons (.same _) .nil), rfl, ?_⟩
    unfold printR; rw [h1]; rfl
  have h1 : okC (xs, base, u, k) = true := by simpa using h1
  obtain ⟨a, b, n, rfl, rfl, rfl, ha, hn, hb⟩ := okC_val hu h1
  have hR : printR (lim a, (b : Int), u, (n : Int)) = (printL a b u n, 0) := by
    unfold printR; rw [h1, cond_true]; dsimp only; rw [val_lim, Int.toNat_natCast, Int.toNat_natCast]
  rw [hR]
  clear hR
  have hb2 : 2 ≤ b := by omega
  have hb36 : b ≤ 36 := by omega
  have hlen := txt_len hb2 ha
  have hpre := pre_le b a
  have huL := uL_le u
  refine ARun.skip (ARun.seq (ARun.region ?_)); refine xf ?_; refine xl ?_; refine xf ?_; refine xl ?_
  refine xc rfl rfl (Zjw a b false ha hb2 hb36) ?_
  refine xa ?_; refine AOps.nil (ARun.seq (ARun.seq (ARun.region ?_))); refine xf ?_; refine xl ?_; refine AOps.nil ?_
  refine ARun.join (S := List Nat) (fun l : List Nat => [(15, .any), (16, .any), (17, .any), (18, .any), (19, .any), (20, .any), (21, .any), (22, .any), (23, .any), (24, .any), (25, .any), (26, .any), (27, .any), (28, .any), (29, .any), (30, .any), (4, .str (bytesOf l))]) (fun l : List Nat => l = preL b a ++ txt b a) (fun run => ?_) ?_
  · skip
    refine ARun.block (ARun.seq (ARun.region ?_)); refine xi ?_; refine xa ?_; refine AOps.nil ?_
    refine ARun.cond rfl (fun c2 => ?_) (fun c2 => ?_)
    · skip
      have c2 : b = 2 := by have := of_decide_eq_true c2; omega
      refine ARun.region ?_; refine xm ?_
      refine y_op rfl (OpQ.cast (Zbs rfl rfl (by rw [bytesOf_size]; show 2 + (txt b a).length ≤ _; omega)) (congrArg D.str (bytesOf_append [48, 98] _).symm)) ?_
      refine xa ?_; refine AOps.nil (ARun.inBlock ?_)
      exact ARun.ag (run ([48, 98] ++ txt b a) (by unfold preL; rw [if_neg (by omega), if_pos c2]))
    have c2 : ¬ b = 2 := by have := of_decide_eq_false c2; omega
    refine ARun.seq (ARun.region ?_); refine xi ?_; refine xa ?_; refine AOps.nil ?_
    refine ARun.cond rfl (fun c16 => ?_) (fun c16 => ?_)
    · skip
      have c16 : b = 16 := by have := of_decide_eq_true c16; omega
      refine ARun.region ?_; refine xm ?_
      refine y_op rfl (OpQ.cast (Zbs rfl rfl (by rw [bytesOf_size]; show 2 + (txt b a).length ≤ _; omega)) (congrArg D.str (bytesOf_append [48, 120] _).symm)) ?_
      refine xa ?_; refine AOps.nil (ARun.inBlock ?_)
      exact ARun.ag (run ([48, 120] ++ txt b a) (by rw [show preL b a = [48, 120] from if_pos c16]))
    have c16 : ¬ b = 16 := by have := of_decide_eq_false c16; omega
    refine ARun.seq (ARun.region ?_); refine xi ?_; refine xa ?_; refine AOps.nil ?_
    refine ARun.cond rfl (fun c8 => ?_) (fun c8 => ?_)
    · skip
      have c8 : b = 8 := by have := of_decide_eq_true c8; omega
      refine ARun.seq (ARun.region ?_); refine xf ?_; refine xl ?_; refine xN ?_; refine xi ?_; refine AOps.nil ?_
      refine ARun.ite rfl (fun z => ?_) (fun z => ?_)
      · skip
        have z : a ≠ 0 := by rintro rfl; rw [lim_zero] at z; exact absurd z (by decide)
        refine ARun.region ?_; refine xm ?_
        refine y_op rfl (OpQ.cast (Zbs rfl rfl (by rw [bytesOf_size]; show 1 + (txt b a).length ≤ _; omega)) (congrArg D.str (bytesOf_append [48] _).symm)) ?_
        refine xa ?_; refine AOps.nil (ARun.inBlock ?_)
        exact ARun.ag (run ([48] ++ txt b a) (by unfold preL; rw [if_neg c16, if_neg c2, if_pos ⟨c8, z⟩]))
      have z : a = 0 := by
        rcases Nat.eq_zero_or_pos a with h0 | h0
        · exact h0
        exfalso; apply z; rw [lim_pos (by omega), List.length_cons]; omega
      refine ARun.skip (ARun.inBlock ?_)
      exact ARun.ag (run (txt b a) (by unfold preL; rw [if_neg c16, if_neg c2, if_neg (fun h => h.2 z)]; rfl))
    have c8 : ¬ b = 8 := by have := of_decide_eq_false c8; omega
    refine ARun.skip (ARun.inBlock ?_)
    exact ARun.ag (run (txt b a) (by unfold preL; rw [if_neg c16, if_neg c2, if_neg (fun h => c8 h.1)]; rfl))
  rintro l hj
  try dsimp only at hj ⊢
  subst hj
  refine ARun.seq (ARun.seq (ARun.region ?_)); refine xf ?_; refine xl ?_; refine AOps.nil ?_
  refine ARun.join (S := List Nat) (fun l : List Nat => [(33, .any), (34, .any), (4, .str (bytesOf l))]) (fun l : List Nat => l = preL b a ++ txt b a ++ uL u) (fun run => ?_) ?_
  · skip
    refine ARun.cond rfl (fun cu => ?_) (fun cu => ?_)
    · skip
      obtain rfl : u = true := cu
      refine ARun.region ?_; refine xm ?_
      refine y_op rfl (OpQ.cast (Zbs rfl rfl (by rw [bytesOf_size, List.length_append]; show _ + 1 ≤ _; omega)) (congrArg D.str (bytesOf_append _ [85]).symm)) ?_
      refine xa ?_; refine AOps.nil ?_
      exact ARun.ag (run (preL b a ++ txt b a ++ [85]) (rfl))
    obtain rfl : u = false := cu
    refine ARun.skip ?_
    exact ARun.ag (run (preL b a ++ txt b a) ((List.append_nil _).symm))
  rintro l hj
  try dsimp only at hj ⊢
  subst hj
  refine ARun.seq (ARun.region ?_); refine xm ?_; refine xf ?_; refine xl ?_
  refine y_op rfl (OpQ.cast (Ze5 (lo := 0) (hi := n) rfl rfl rfl (bnd_nat rfl rfl) (Nat.zero_le _) (by show n ≤ 2; exact hn)) (congrArg D.str (ll_cut n hn))) ?_
  refine y_op rfl (OpQ.cast (Zbs rfl rfl (by rw [bytesOf_size, bytesOf_size, List.length_append, List.length_append, List.length_replicate]; omega)) (congrArg D.str (bytesOf_append _ _).symm)) ?_
  refine xa ?_; refine xa ?_; refine AOps.nil ?_
  refine ARun.ret ?_
  refine ⟨_, _, _, .tmp rfl (.tmp rfl .nil), .cons (.same _) (.cons (.same _) .nil), rfl, ?_⟩
  rfl
end Go.V
