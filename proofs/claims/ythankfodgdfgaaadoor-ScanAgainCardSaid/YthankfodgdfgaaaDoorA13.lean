/- A part of the proof: abstract values, rules for the steps of the program's form, and contracts of its functions, each proved; no condition. -/
import Derived.Test.YthankfodgdfgaaaDoorA12
set_option linter.unusedVariables false
set_option linter.unusedSimpArgs false
set_option linter.unnecessarySimpa false
set_option maxHeartbeats 4000000
set_option maxRecDepth 100000
namespace Go.V
open Go.RowKit Go.Proofs
/-! WHAT A PIECE'S READING LOOKS AT. -/
theorem dgL_loc : ∀ (n : Nat) (r : List Nat) (m c : Nat) (q : List Nat), dgL n r = (m, c :: q) → ∃ u, r = u ++ c :: q ∧ ∀ z, dgL n (u ++ c :: z) = (m, c :: z)
  | n, [], m, c, q, h => by cases h
  | n, a :: r, m, c, q, h => by
    rw [dgL] at h
    by_cases hs : sdp n a = true
    · rw [if_pos hs] at h
      obtain ⟨u, h1, h2⟩ := dgL_loc _ r m c q h
      refine ⟨a :: u, by rw [h1]; rfl, fun z => ?_⟩
      rw [List.cons_append, dgL, if_pos hs, h2]
    rw [if_neg hs] at h
    injection h with h1 h2
    injection h2 with h2 h3
    subst h1; subst h2; subst h3
    exact ⟨[], rfl, fun z => by rw [List.nil_append, dgL, if_neg hs]⟩
theorem mF_congr {r r' : List Nat} (h : ∀ j, j < 12 → r.take (lenAt j).length = r'.take (lenAt j).length) : ∀ f k b, k + f ≤ 12 → mF r f k b = mF r' f k b
  | 0, _, _, _ => rfl
  | f + 1, k, b, hk => by rw [mF, mF, h k (by omega)]; exact mF_congr h f (k + 1) _ (by omega)
theorem mF_max {r : List Nat} : ∀ f k b, (lenAt b).length ≤ (lenAt (mF r f k b)).length ∧ ∀ j, k ≤ j → j < k + f → r.take (lenAt j).length = lenAt j → (lenAt j).length ≤ (lenAt (mF r f k b)).length
  | 0, k, b => ⟨Nat.le_refl _, fun j h1 h2 _ => by omega⟩
  | f + 1, k, b => by
    rw [mF]
    obtain ⟨a1, a2⟩ := mF_max (r := r) f (k + 1) (if (lenAt b).length < (lenAt k).length ∧ r.take (lenAt k).length = lenAt k then k else b)
    have hb : (lenAt b).length ≤ (lenAt (if (lenAt b).length < (lenAt k).length ∧ r.take (lenAt k).length = lenAt k then k else b)).length := by
      split
      · rename_i g; omega
      exact Nat.le_refl _
    refine ⟨Nat.le_trans hb a1, fun j h1 h2 h3 => ?_⟩
    rcases Nat.eq_or_lt_of_le h1 with rfl | g
    · refine Nat.le_trans ?_ a1
      split
      · exact Nat.le_refl _
      rename_i g
      apply Classical.byContradiction
      intro hn
      exact g ⟨by omega, h3⟩
    exact a2 j g (by omega) h3
theorem modL_max {r : List Nat} {j : Nat} (hj : j < 12) (h : r.take (lenAt j).length = lenAt j) : (lenAt j).length ≤ (lenAt (modL r)).length := (mF_max 12 0 0).2 j (Nat.zero_le _) (by omega) h
theorem lenAt_2 : ∀ j, j < 12 → (lenAt j).length ≤ 2 := by decide
theorem lenAt_0 : ∀ j, j < 12 → (lenAt j).length = 0 → j = 0 := by decide
theorem lenAt_hd : ∀ k, k < 12 → (lenAt k).length ≠ 0 → ∃ j, j < 12 ∧ lenAt j = [(lenAt k).getD 0 0] := by decide
theorem modL_loc {r : List Nat} {c : Nat} {q : List Nat} (h : r.drop (lenAt (modL r)).length = c :: q) : r = lenAt (modL r) ++ c :: q ∧ ∀ z, modL (lenAt (modL r) ++ c :: z) = modL r := by
  obtain ⟨h1, h2⟩ := modL_ok r
  have hr : r = lenAt (modL r) ++ c :: q := by
    have := List.take_append_drop (lenAt (modL r)).length r
    rw [h, h2] at this; exact this.symm
  refine ⟨hr, fun z => ?_⟩
  generalize hk : modL r = k at *
  rcases Nat.eq_zero_or_pos (lenAt k).length with h0 | h0
  · have hk0 := lenAt_0 k h1 h0
    have hl : lenAt k = [] := List.eq_nil_of_length_eq_zero h0
    rw [hl, List.nil_append] at hr ⊢
    obtain ⟨g1, g2⟩ := modL_ok (c :: z)
    rcases Nat.eq_zero_or_pos (lenAt (modL (c :: z))).length with h3 | h3
    · rw [hk0]; exact lenAt_0 _ g1 h3
    exfalso
    obtain ⟨j, hj, hj2⟩ := lenAt_hd _ g1 (by omega)
    have hc : (lenAt (modL (c :: z))).getD 0 0 = c := by
      rw [← g2]
      obtain ⟨n, hn⟩ : ∃ n, (lenAt (modL (c :: z))).length = n + 1 := ⟨(lenAt (modL (c :: z))).length - 1, by omega⟩
      rw [hn]; rfl
    rw [hc] at hj2
    have := modL_max (r := r) hj (by rw [hj2, hr]; rfl)
    rw [hk, h0, hj2] at this
    have : 1 ≤ 0 := this
    omega
  have : modL (lenAt k ++ c :: z) = modL r := by
    refine mF_congr (fun j hj => ?_) 12 0 0 (by decide)
    have h2' := lenAt_2 j hj
    rw [hr]
    have e : ∀ y : List Nat, (lenAt k ++ c :: y).take (lenAt j).length = (lenAt k ++ [c]).take (lenAt j).length := fun y => by
      rw [show lenAt k ++ c :: y = (lenAt k ++ [c]) ++ y by simp, List.take_append_of_le_length (by rw [List.length_append, List.length_singleton]; omega)]
    rw [e z, e q]
  rw [this, hk]
theorem fx_loc : ∀ (s : List Nat) (n : Nat), fx s = some n → s = s.take n ++ 93 :: s.drop (n + 1) ∧ ∀ z, fx (s.take n ++ 93 :: z) = some n
  | [], n, h => by cases h
  | a :: s, n, h => by
    rw [fx] at h
    by_cases ha : a = 93
    · rw [if_pos ha] at h
      injection h with h; subst h; subst ha
      exact ⟨rfl, fun z => rfl⟩
    rw [if_neg ha] at h
    cases e : fx s with
    | none => rw [e] at h; cases h
    | some m =>
      rw [e] at h
      injection h with h; subst h
      obtain ⟨h1, h2⟩ := fx_loc s m e
      refine ⟨?_, fun z => ?_⟩
      · show a :: s = a :: (s.take m ++ 93 :: s.drop (m + 1)); rw [← h1]
      show fx (a :: (s.take m ++ 93 :: z)) = _
      rw [fx, if_neg ha, h2]; rfl
theorem dropIf_loc (c : Nat) (r : List Nat) : ∃ u, r = u ++ dropIf c r ∧ ∀ a t z, dropIf c r = a :: t → dropIf c (u ++ a :: z) = a :: z := by
  unfold dropIf
  cases r with
  | nil => exact ⟨[], rfl, fun a t z h => by cases h⟩
  | cons b r =>
    by_cases hb : b = c
    · subst hb
      have hd : ∀ y, hdIs (b :: y) b = true := fun y => decide_eq_true rfl
      refine ⟨[b], ?_, fun a t z _ => ?_⟩
      · rw [hd]; rfl
      show (bif hdIs (b :: a :: z) b then _ else _) = _; rw [hd]; rfl
    have hd : ∀ y, hdIs (b :: y) c = false := fun y => decide_eq_false hb
    refine ⟨[], ?_, fun a t z h => ?_⟩
    · rw [hd]; rfl
    rw [hd] at h
    have h : b :: r = a :: t := h
    injection h with h _; subst h
    show (bif hdIs (b :: z) c then _ else _) = _; rw [hd]; rfl
theorem stL_loc {r : List Nat} {S : Nat → Bool} {q : List Nat} (h : stL r = some (S, q)) : ∃ u, r = u ++ q ∧ ∀ z, stL (u ++ z) = some (S, z) := by
  obtain ⟨u1, a1, b1⟩ := dropIf_loc 94 r
  obtain ⟨u2, a2, b2⟩ := dropIf_loc 93 (dropIf 94 r)
  unfold stL at h
  generalize hs1 : dropIf 94 r = s1 at *
  generalize hs2 : dropIf 93 s1 = s2 at *
  cases hn : fx s2 with
  | none => rw [hn] at h; cases h
  | some n =>
    rw [hn] at h
    obtain ⟨c1, c2⟩ := fx_loc s2 n hn
    simp only at h
    split at h
    · rename_i hz
      injection h with h
      injection h with hS hq
      have hr : r = (u1 ++ (u2 ++ (s2.take n ++ [93]))) ++ q := by
        rw [← hq, a1, a2]
        simp only [List.append_assoc, List.singleton_append]
        rw [← c1]
      have tx : ∀ y : List Nat, ((u1 ++ (u2 ++ (s2.take n ++ [93]))) ++ y).take (((u1 ++ (u2 ++ (s2.take n ++ [93]))) ++ y).length - y.length - 1) = u1 ++ (u2 ++ s2.take n) := fun y => by
        have e : ((u1 ++ (u2 ++ (s2.take n ++ [93]))) ++ y).length - y.length - 1 = (u1 ++ (u2 ++ s2.take n)).length := by
          simp only [List.length_append, List.length_singleton]; omega
        rw [e, show (u1 ++ (u2 ++ (s2.take n ++ [93]))) ++ y = (u1 ++ (u2 ++ s2.take n)) ++ ([93] ++ y) by simp only [List.append_assoc], List.take_left]
      refine ⟨u1 ++ (u2 ++ (s2.take n ++ [93])), hr, fun z => ?_⟩
      have d2 : dropIf 93 (u2 ++ (s2.take n ++ 93 :: z)) = s2.take n ++ 93 :: z := by
        cases ht : s2.take n with
        | nil =>
          rw [ht] at c1
          exact b2 93 _ z c1
        | cons a t =>
          rw [ht] at c1
          exact b2 a _ _ c1
      have d1 : dropIf 94 (u1 ++ (u2 ++ (s2.take n ++ 93 :: z))) = u2 ++ (s2.take n ++ 93 :: z) := by
        have hne : ∃ a t, u2 ++ (s2.take n ++ [93]) = a :: t := by
          cases hx : u2 ++ (s2.take n ++ [93]) with
          | nil => have := congrArg List.length hx; simp only [List.length_append, List.length_singleton, List.length_nil] at this; omega
          | cons a t => exact ⟨a, t, rfl⟩
        obtain ⟨a, t, hat⟩ := hne
        have e1 : s1 = a :: (t ++ s2.drop (n + 1)) := by
          rw [a2]
          conv => lhs; rw [c1]
          rw [← List.cons_append, ← hat]; simp only [List.append_assoc, List.singleton_append]
        have e2 : u2 ++ (s2.take n ++ 93 :: z) = a :: (t ++ z) := by
          rw [← List.cons_append, ← hat]; simp only [List.append_assoc, List.singleton_append]
        rw [e2]
        exact b1 a _ _ e1
      have e : (u1 ++ (u2 ++ (s2.take n ++ [93]))) ++ z = u1 ++ (u2 ++ (s2.take n ++ 93 :: z)) := by simp only [List.append_assoc, List.singleton_append]
      have hdr : (s2.take n ++ 93 :: z).drop (n + 1) = z := by
        have hl : (s2.take n).length = n := by
          have := fx_lt hn
          rw [List.length_take]; omega
        rw [show s2.take n ++ 93 :: z = (s2.take n ++ [93]) ++ z by simp only [List.append_assoc, List.singleton_append]]
        have : n + 1 = (s2.take n ++ [93]).length := by rw [List.length_append, List.length_singleton, hl]
        rw [this, List.drop_left]
      unfold stL
      rw [e, d1, d2, c2]
      simp only
      rw [hdr, ← e, tx]
      rw [hq, hr, tx] at hz hS
      rw [if_pos hz, hS]
    cases h
theorem convE_loc {cnt n wid len c : Nat} {w pl mute pos : Bool} {S : Nat → Bool} {r : List Nat} {p : Pc} {q : List Nat} {c' : Nat} {w' pl' : Bool} (h : convE cnt w pl n mute pos wid len c S r = .ok p q c' w' pl') : q = r ∧ ∀ z, convE cnt w pl n mute pos wid len c S z = .ok p z c' w' pl' := by
  unfold convE at h ⊢
  cases h1 : (w || pos) && (pl || (!mute && decide (n = 0)))
  · rw [h1, cond_false] at h
    cases h2 : decide (10000 < wid) || decide (64 < (if (!mute && decide (n = 0)) = true then cnt + 1 else n))
    · rw [h2, cond_false] at h
      injection h with a1 a2 a3 a4 a5
      refine ⟨a2.symm, fun z => ?_⟩
      rw [cond_false, cond_false, a1, a3, a4, a5]
    rw [h2, cond_true] at h; cases h
  rw [h1, cond_true] at h; cases h
theorem convC_loc {cnt n wid len c : Nat} {w pl mute pos : Bool} {r : List Nat} {p : Pc} {q : List Nat} {c' : Nat} {w' pl' : Bool} (h : convC cnt w pl n mute pos wid len (c :: r) = .ok p q c' w' pl') : ∃ u, r = u ++ q ∧ ∀ z, convC cnt w pl n mute pos wid len (c :: (u ++ z)) = .ok p z c' w' pl' := by
  rw [convC] at h
  cases h1 : (decide (sclass c = 0) || !slong ((sclass c : Nat) : Int) (len : Int)) || (decide (sclass c = 5) && (mute || decide (0 < wid)))
  · rw [h1, cond_false] at h
    by_cases hc : c = 91
    · rw [if_pos hc] at h
      cases hs : stL r with
      | none => rw [hs] at h; cases h
      | some x =>
        obtain ⟨S, q1⟩ := x
        rw [hs] at h
        obtain ⟨e, h2⟩ := convE_loc h
        obtain ⟨u, a, b⟩ := stL_loc hs
        subst e
        refine ⟨u, a, fun z => ?_⟩
        rw [convC, h1, cond_false, if_pos hc, b]
        exact h2 z
    rw [if_neg hc] at h
    obtain ⟨e, h2⟩ := convE_loc h
    subst e
    refine ⟨[], rfl, fun z => ?_⟩
    rw [convC, h1, cond_false, if_neg hc]
    exact h2 z
  rw [h1, cond_true] at h; cases h
noncomputable def tailL (cnt : Nat) (w pl : Bool) (n : Nat) (mute pos : Bool) (r : List Nat) : CR := convC cnt w pl n mute pos (dgL 0 r).1 (modL (dgL 0 r).2) ((dgL 0 r).2.drop (lenAt (modL (dgL 0 r).2)).length)
theorem tailL_loc {cnt n : Nat} {w pl mute pos : Bool} {r : List Nat} {p : Pc} {q : List Nat} {c' : Nat} {w' pl' : Bool} (h : tailL cnt w pl n mute pos r = .ok p q c' w' pl') :
    ∃ u x, r = u ++ x :: (r.drop (u.length + 1)) ∧ (dgL 0 r).2 = x :: r.drop (u.length + 1) ∧ ∃ v, r.drop (u.length + 1) = v ++ q ∧ ∀ z, tailL cnt w pl n mute pos (u ++ x :: (v ++ z)) = .ok p z c' w' pl' ∧ dgL 0 (u ++ x :: (v ++ z)) = ((dgL 0 r).1, x :: (v ++ z)) := by
  unfold tailL at h
  generalize hd : dgL 0 r = d at *
  obtain ⟨wid, r2⟩ := d
  simp only at h
  cases hc : r2.drop (lenAt (modL r2)).length with
  | nil => rw [hc] at h; cases h
  | cons c r4 =>
    rw [hc] at h
    obtain ⟨t, h1, h2⟩ := convC_loc h
    obtain ⟨m1, m2⟩ := modL_loc hc
    obtain ⟨x, y, hxy⟩ : ∃ x y, r2 = x :: y := by
      cases r2 with
      | nil => rw [List.drop_nil] at hc; cases hc
      | cons x y => exact ⟨x, y, rfl⟩
    subst hxy
    obtain ⟨u, g1, g2⟩ := dgL_loc 0 r wid x y hd
    have hdr : r.drop (u.length + 1) = y := by
      rw [g1, show u ++ x :: y = (u ++ [x]) ++ y by simp, show u.length + 1 = (u ++ [x]).length by simp, List.drop_left]
    generalize hk : modL (x :: y) = k at *
    have hv : ∃ v, y = v ++ q ∧ ∀ z, x :: (v ++ z) = lenAt k ++ c :: (t ++ z) := by
      cases hl : lenAt k with
      | nil =>
        rw [hl, List.nil_append] at m1
        injection m1 with e1 e2
        subst e1
        exact ⟨t, by rw [e2, h1], fun z => rfl⟩
      | cons a l =>
        rw [hl] at m1
        injection m1 with e1 e2
        subst e1
        exact ⟨l ++ c :: t, by rw [e2, h1]; simp, fun z => by simp⟩
    obtain ⟨v, v1, v2⟩ := hv
    refine ⟨u, x, by rw [hdr]; exact g1, by rw [hdr], v, by rw [hdr]; exact v1, fun z => ⟨?_, g2 _⟩⟩
    unfold tailL
    rw [g2]
    simp only
    rw [v2, m2]
    rw [show (lenAt k ++ c :: (t ++ z)).drop (lenAt k).length = c :: (t ++ z) from List.drop_left]
    exact h2 z
theorem hdIs_app {u : List Nat} {x : Nat} (y z : List Nat) (c : Nat) : hdIs (u ++ x :: y) c = hdIs (u ++ x :: z) c := by cases u <;> rfl
theorem convL_loc {cnt : Nat} {w pl : Bool} {r : List Nat} {p : Pc} {q : List Nat} {c' : Nat} {w' pl' : Bool} (h : convL cnt w pl r = .ok p q c' w' pl') : ∃ v, r = v ++ q ∧ ∀ z, convL cnt w pl (v ++ z) = .ok p z c' w' pl' := by
  have eq : ∀ y n m po r1, argL y = (n, m, po, r1) → convL cnt w pl y = tailL cnt w pl n m po r1 := fun y n m po r1 e => by unfold convL tailL; rw [e]
  cases h42 : hdIs r 42
  · cases h36 : decide (0 < (dgL 0 r).1) && hdIs (dgL 0 r).2 36
    · have ha : argL r = (0, false, false, r) := by unfold argL; rw [h42, h36]; rfl
      rw [eq _ _ _ _ _ ha] at h
      obtain ⟨u, x, a1, a2, v, a3, a4⟩ := tailL_loc h
      refine ⟨u ++ x :: v, ?_, fun z => ?_⟩
      · rw [List.append_assoc, List.cons_append, ← a3]; exact a1
      rw [List.append_assoc, List.cons_append]
      have hb : argL (u ++ x :: (v ++ z)) = (0, false, false, u ++ x :: (v ++ z)) := by
        unfold argL
        rw [hdIs_app (u := u) (x := x) (v ++ z) (r.drop (u.length + 1)) 42, ← a1, h42, (a4 z).2]
        rw [a2] at h36
        simp only
        rw [show hdIs (x :: (v ++ z)) 36 = hdIs (x :: r.drop (u.length + 1)) 36 from rfl, h36]; rfl
      rw [eq _ _ _ _ _ hb]; exact (a4 z).1
    have ha : argL r = ((dgL 0 r).1, false, true, (dgL 0 r).2.drop 1) := by unfold argL; rw [h42, h36]; rfl
    rw [eq _ _ _ _ _ ha] at h
    obtain ⟨u, x, a1, a2, v, a3, a4⟩ := tailL_loc h
    rw [Bool.and_eq_true] at h36
    generalize hd : dgL 0 r = d at *
    obtain ⟨n, r2⟩ := d
    cases r2 with
    | nil => cases h36.2
    | cons y r2 =>
      have hy : y = 36 := of_decide_eq_true h36.2
      subst hy
      obtain ⟨s, g1, g2⟩ := dgL_loc 0 r n 36 r2 hd
      simp only [List.drop_succ_cons, List.drop_zero] at a1 a2 a3 a4
      refine ⟨s ++ 36 :: (u ++ x :: v), ?_, fun z => ?_⟩
      · rw [g1, a1, a3]; simp
      have e : (s ++ 36 :: (u ++ x :: v)) ++ z = s ++ 36 :: (u ++ x :: (v ++ z)) := by simp
      rw [e]
      have hb : argL (s ++ 36 :: (u ++ x :: (v ++ z))) = (n, false, true, u ++ x :: (v ++ z)) := by
        unfold argL
        rw [hdIs_app (u := s) (x := 36) (u ++ x :: (v ++ z)) r2 42, ← g1, h42, g2]
        simp only
        have h36' : decide (0 < n) = true := h36.1
        rw [h36']; rfl
      rw [eq _ _ _ _ _ hb]; exact (a4 z).1
  have ha : argL r = (0, true, false, r.drop 1) := by unfold argL; rw [h42]; rfl
  rw [eq _ _ _ _ _ ha] at h
  obtain ⟨u, x, a1, a2, v, a3, a4⟩ := tailL_loc h
  cases r with
  | nil => cases h42
  | cons y r =>
    have hy : y = 42 := of_decide_eq_true h42
    subst hy
    simp only [List.drop_succ_cons, List.drop_zero] at a1 a2 a3 a4
    refine ⟨42 :: (u ++ x :: v), ?_, fun z => ?_⟩
    · rw [a1, a3]; simp
    have e : (42 :: (u ++ x :: v)) ++ z = 42 :: (u ++ x :: (v ++ z)) := by simp
    rw [e]
    have hb : argL (42 :: (u ++ x :: (v ++ z))) = (0, true, false, u ++ x :: (v ++ z)) := rfl
    rw [eq _ _ _ _ _ hb]; exact (a4 z).1
theorem runL_all (f : Nat → Bool) : ∀ r, ∀ c ∈ (runL f r).1, f c = true
  | [], _, h => by cases h
  | a :: r, c, h => by
    rw [runL] at h
    cases e : f a
    · rw [e] at h; cases h
    rw [e] at h
    have h : c ∈ a :: (runL f r).1 := h
    rcases List.mem_cons.1 h with rfl | h
    · exact e
    exact runL_all f r c h
theorem runL_stop (f : Nat → Bool) : ∀ r a t, (runL f r).2 = a :: t → f a = false
  | [], _, _, h => by cases h
  | b :: r, a, t, h => by
    rw [runL] at h
    cases e : f b
    · rw [e] at h
      have h : b :: r = a :: t := h
      injection h with h _; rw [← h]; exact e
    rw [e] at h
    exact runL_stop f r a t h
theorem runL_of {f : Nat → Bool} : ∀ (x z : List Nat), (∀ c ∈ x, f c = true) → (∀ a t, z = a :: t → f a = false) → runL f (x ++ z) = (x, z)
  | [], z, _, h => by
    cases z with
    | nil => rfl
    | cons a t => rw [List.nil_append, runL, h a t rfl]; rfl
  | c :: x, z, h1, h2 => by
    rw [List.cons_append, runL, h1 c (List.mem_cons_self ..), runL_of x z (fun y hy => h1 y (List.mem_cons_of_mem _ hy)) h2]; rfl
def folw (c : Nat) (z : List Nat) : Prop := ∀ a t, z = a :: t → (c = 32 → swhite a = false) ∧ (c = 0 → splain a = false ∧ a ≠ 0)
theorem convE_conv {cnt n wid len c : Nat} {w pl mute pos : Bool} {S : Nat → Bool} {r : List Nat} {p : Pc} {q : List Nat} {c' : Nat} {w' pl' : Bool} (h : convE cnt w pl n mute pos wid len c S r = .ok p q c' w' pl') : p.conv = c := by
  unfold convE at h
  cases h1 : (w || pos) && (pl || (!mute && decide (n = 0)))
  · rw [h1, cond_false] at h
    cases h2 : decide (10000 < wid) || decide (64 < (if (!mute && decide (n = 0)) = true then cnt + 1 else n))
    · rw [h2, cond_false] at h
      injection h with a1; rw [← a1]
    rw [h2, cond_true] at h; cases h
  rw [h1, cond_true] at h; cases h
theorem convC_conv {cnt n wid len : Nat} {w pl mute pos : Bool} {r : List Nat} {p : Pc} {q : List Nat} {c' : Nat} {w' pl' : Bool} (h : convC cnt w pl n mute pos wid len r = .ok p q c' w' pl') : sclass p.conv ≠ 0 := by
  cases r with
  | nil => cases h
  | cons c r =>
    rw [convC] at h
    cases h1 : (decide (sclass c = 0) || !slong ((sclass c : Nat) : Int) (len : Int)) || (decide (sclass c = 5) && (mute || decide (0 < wid)))
    · rw [h1, cond_false] at h
      have hs : sclass c ≠ 0 := by
        simp only [Bool.or_eq_false_iff, decide_eq_false_iff_not] at h1
        exact h1.1.1
      by_cases hc : c = 91
      · rw [if_pos hc] at h
        cases hst : stL r with
        | none => rw [hst] at h; cases h
        | some x => rw [hst] at h; rw [convE_conv h]; exact hs
      rw [if_neg hc] at h; rw [convE_conv h]; exact hs
    rw [h1, cond_true] at h; cases h
theorem sclass_plain {c : Nat} (h : sclass c ≠ 0) : c ≠ 0 ∧ c ≠ 32 ∧ c ≠ 37 := ⟨fun e => h (by subst e; rfl), fun e => h (by subst e; rfl), fun e => h (by subst e; rfl)⟩
theorem pieceL_loc {cnt : Nat} {w pl : Bool} {r : List Nat} {p : Pc} {q : List Nat} {c' : Nat} {w' pl' : Bool} (h : pieceL cnt w pl r = .ok p q c' w' pl') :
    folw p.conv q ∧ ∃ v, v ≠ [] ∧ r = v ++ q ∧ ∀ z, folw p.conv z → pieceL cnt w pl (v ++ z) = .ok p z c' w' pl' := by
  cases r with
  | nil => cases h
  | cons c r =>
    rw [pieceL] at h
    cases hw : swhite c
    · rw [hw, cond_false] at h
      by_cases h37 : c = 37
      · rw [if_pos h37] at h
        subst h37
        cases hp : hdIs r 37
        · rw [hp, cond_false] at h
          cases hc : convL cnt w pl r with
          | bad => rw [hc] at h; cases h
          | lim => rw [hc] at h; cases h
          | ok p1 q1 c1 w1 pl1 =>
            rw [hc] at h
            injection h with e1 e2 e3 e4 e5
            subst e1; subst e2; subst e3; subst e4; subst e5
            obtain ⟨v, a, b⟩ := convL_loc hc
            have hcl := sclass_plain (convC_conv hc)
            have hx : ∃ x y, v = x :: y := by
              cases v with
              | nil =>
                exfalso
                have := (convL_ok hc).1
                rw [List.nil_append] at a
                rw [a] at this; omega
              | cons x y => exact ⟨x, y, rfl⟩
            obtain ⟨x, y, hxy⟩ := hx
            subst hxy
            refine ⟨fun a t _ => ⟨fun e => absurd e hcl.2.1, fun e => absurd e hcl.1⟩, 37 :: x :: y, (fun e => by cases e), by rw [a]; rfl, fun z _ => ?_⟩
            rw [List.cons_append, pieceL, hw, cond_false, if_pos rfl]
            have : hdIs ((x :: y) ++ z) 37 = false := by rw [← hp, a]; rfl
            rw [this, cond_false, b]
        rw [hp, cond_true] at h
        injection h with e1 e2 e3 e4 e5
        subst e1; subst e2; subst e3; subst e4; subst e5
        cases r with
        | nil => cases hp
        | cons x r =>
          have hx : x = 37 := of_decide_eq_true hp
          subst hx
          refine ⟨fun a t _ => ⟨fun e => absurd e (by show (37 : Nat) ≠ 32; decide), fun e => absurd e (by show (37 : Nat) ≠ 0; decide)⟩, [37, 37], (fun e => by cases e), rfl, fun z _ => ?_⟩
          rw [List.cons_append, pieceL, hw, cond_false, if_pos rfl]; rfl
      rw [if_neg h37] at h
      cases h0 : hdIs (runL splain (c :: r)).2 0
      · rw [h0, cond_false] at h
        injection h with e1 e2 e3 e4 e5
        subst e3; subst e4; subst e5
        have hall := runL_all splain (c :: r)
        have hstop := runL_stop splain (c :: r)
        have happ := runL_app splain (c :: r)
        by_cases hc0 : c = 0
        · exfalso
          subst hc0
          have : (runL splain (0 :: r)).2 = 0 :: r := rfl
          rw [this] at h0; cases h0
        have hpc : splain c = true := by
          unfold splain
          rw [decide_eq_true hc0, decide_eq_true h37, hw]; rfl
        have hx : ∃ y, (runL splain (c :: r)).1 = c :: y := by rw [runL, hpc]; exact ⟨_, rfl⟩
        obtain ⟨y, hy⟩ := hx
        generalize hX : (runL splain (c :: r)).1 = X at *
        generalize hQ : (runL splain (c :: r)).2 = Q at *
        subst e1; subst e2
        refine ⟨fun a t e => ⟨fun e2 => absurd e2 (by show (0 : Nat) ≠ 32; decide), fun _ => ⟨hstop a t e, fun ea => by rw [e, ea] at h0; cases h0⟩⟩, X, by rw [hy]; exact (fun e => by cases e), happ.symm, fun z hz => ?_⟩
        have hru := runL_of X z hall fun a t e => (hz a t e).2 rfl |>.1
        rw [hy] at hru ⊢
        rw [List.cons_append] at hru ⊢
        rw [pieceL, hw, cond_false, if_neg h37, hru]
        simp only
        have : hdIs z 0 = false := by
          cases z with
          | nil => rfl
          | cons a t => exact decide_eq_false ((hz a t rfl).2 rfl).2
        rw [this]; rfl
      rw [h0, cond_true] at h; cases h
    rw [hw, cond_true] at h
    injection h with e1 e2 e3 e4 e5
    subst e3; subst e4; subst e5
    have hall := runL_all swhite (c :: r)
    have hstop := runL_stop swhite (c :: r)
    have happ := runL_app swhite (c :: r)
    have hx : ∃ y, (runL swhite (c :: r)).1 = c :: y := by rw [runL, hw]; exact ⟨_, rfl⟩
    obtain ⟨y, hy⟩ := hx
    generalize hX : (runL swhite (c :: r)).1 = X at *
    generalize hQ : (runL swhite (c :: r)).2 = Q at *
    subst e1; subst e2
    refine ⟨fun a t e => ⟨fun _ => hstop a t e, fun e2 => absurd e2 (by show (32 : Nat) ≠ 0; decide)⟩, X, by rw [hy]; exact (fun e => by cases e), happ.symm, fun z hz => ?_⟩
    have hru := runL_of X z hall fun a t e => (hz a t e).1 rfl
    rw [hy] at hru ⊢
    rw [List.cons_append] at hru ⊢
    rw [pieceL, hw, cond_true, hru]
end Go.V
set_option maxHeartbeats 400000
set_option maxRecDepth 100000
namespace Go.V
open Go.RowKit Go.Proofs
end Go.V
set_option maxHeartbeats 8000000
set_option maxRecDepth 100000
set_option synthInstance.maxSize 100000
set_option synthInstance.maxHeartbeats 2000000
namespace Go.V
open Go.RowKit Go.Proofs
theorem q_pcB {env : List D} {H : Heap} {dst : Option Tmp} {x y : Operand} {ty T' : TypeId} {pos : String} {aft : Array Edge} {gd : Option (Nat × Bool)} {p : Pc} {s : ByteArray} {a w n : Int} {c : Nat} (hx : evO Cg env x = some (pcA p)) (hy : evO Cg env y = some (.agg [.str s, .int .i64 a, .int .i64 w, .int .i64 n, .int .u8 (c : Int), .int .u64 0, .int .u64 0, .int .u64 0, .int .u64 0])) (hp : PcF p) (hq : PcF (bareP s a w n c)) :
    OpQ Cg ⟨dst, .binOp .eql Zab x y T', ty, pos, aft, gd⟩ env H (.bool (pEq p (bareP s a w n c))) := ZfX hx (by rw [hy, bare_cells]) hp hq
theorem pEq_rfl (p : Pc) : pEq p p = true := by unfold pEq; exact decide_eq_true ⟨rfl, rfl, rfl, rfl, rfl, rfl, rfl, rfl, rfl⟩
theorem wfS {a w n : Int} {c : Nat} {S : Nat → Bool} (ha : (Lit.int .i64 a).wf = true) (hw : (Lit.int .i64 w).wf = true) (hn : (Lit.int .i64 n).wf = true) (hc : c < 256) : PcF ⟨ByteArray.empty, a, w, n, c, S⟩ := ⟨⟨by show (0 : Nat) ≤ _; decide, hc⟩, ha, hw, hn⟩
theorem ZeD : PC Cg Ze5 [] (fun o => o = .ret (.bool true)) := by
  obtain ⟨S, hS⟩ : ∃ S, S = setx := ⟨_, rfl⟩
  obtain ⟨S4, hS4⟩ : ∃ S4, S4 = setx4 := ⟨_, rfl⟩
  obtain ⟨l1, hl1⟩ : ∃ l1, l1 = lx1 := ⟨_, rfl⟩
  obtain ⟨l2, hl2⟩ : ∃ l2, l2 = lx2 := ⟨_, rfl⟩
  have h100 : S 100 = true := by rw [hS]; rfl
  have h98 : S 98 = false := by rw [hS]; rfl
  have f1 : ∀ p ∈ l1, PcF p := by
    rw [hl1]
    intro p hp
    simp only [lx1, List.mem_cons, List.not_mem_nil, or_false] at hp
    rcases hp with rfl | rfl | rfl | rfl | rfl
    · exact wfS (by decide) (by decide) (by decide) (by decide)
    · exact wfS (by decide) (by decide) (by decide) (by decide)
    · exact ⟨⟨by decide, by decide⟩, by decide, by decide, by decide⟩
    · exact wfS (by decide) (by decide) (by decide) (by decide)
    exact wfS (by decide) (by decide) (by decide) (by decide)
  have f2 : ∀ p ∈ l2, PcF p := by
    rw [hl2]
    intro p hp
    simp only [lx2, List.mem_cons, List.not_mem_nil, or_false] at hp
    rcases hp with rfl | rfl
    · exact wfS (by decide) (by decide) (by decide) (by decide)
    exact wfS (by decide) (by decide) (by decide) (by decide)
  have g2 : ∀ p ∈ l2, p.lit.size ≤ 1048576 := by
    rw [hl2]
    intro p hp
    simp only [lx2, List.mem_cons, List.not_mem_nil, or_false] at hp
    rcases hp with rfl | rfl
    · decide
    decide
  have n1 : l1.length = 5 := by rw [hl1]; rfl
  have n2 : l2.length = 2 := by rw [hl2]; rfl
  have c1 : PC Cg ZaR [.str sx1] (fun o => o = .ret (.tup [slP l1, .int .i64 0, .int .i64 0])) := by have := Zbh sx1; rw [px1, ← hl1] at this; exact this
  have c2 : PC Cg ZaR [.str sx2] (fun o => o = .ret (.tup [slP l2, .int .i64 0, .int .i64 0])) := by have := Zbh sx2; rw [px2, ← hl2] at this; exact this
  have c3 : PC Cg ZaR [.str sx3] (fun o => o = .ret (.tup [slP [], .int .i64 6, .int .i64 4])) := by have := Zbh sx3; rw [px3] at this; exact this
  have c4 : PC Cg Zcr [slP l2] (fun o => o = .ret (.tup [.str sx2, .int .i64 0])) := by have := ZdR l2 f2 g2 (by omega); rw [show sPrint l2 = (sx2, 0) by rw [hl2]; exact prn_2] at this; exact this
  have c5 : PC Cg ZbG [.str sx4] (fun o => o = .ret (.tup [setD S4, .int .i64 0])) := by have := PC.g (ZdS sx4); rw [rx4, ← hS4] at this; exact this
  have c6 : PC Cg ZbI [setD S4] (fun o => o = .ret (.tup [.str (bytesOf [97, 45, 99, 101, 45]), .int .i64 0])) := by have := PC.g (ZdU S4); rw [show setTx S4 = ([97, 45, 99, 101, 45], 0) by rw [hS4]; exact tx4] at this; exact this
  have c7 : PC Cg ZcI [slP l1] (fun o => o = .ret (.tup [.int .i64 2, .int .i64 0])) := by have := ZfY l1 f1 (by omega); rw [show sArgs l1 = (2, 0) by rw [hl1]; exact args_1] at this; exact this
  have c8 : PC Cg ZbH [slP l2] (fun o => o = .ret (.tup [.bool false, .int .i64 0])) := by have := Ze9 l2 f2 (by omega); rw [show sOrd l2 = (false, 0) by rw [hl2]; exact ord_2] at this; exact this
  have d0 := pcs_drop l1 0 (by omega)
  have d1 := pcs_drop l1 1 (by omega)
  have d3 := pcs_drop l1 3 (by omega)
  have d4 := pcs_drop l1 4 (by omega)
  have e1 := pcs_drop l2 1 (by omega)
  have m1 : pcs l1 ≠ [] := pcs_ne (i := 0) (by omega)
  have m2 : pcs l2 ≠ [] := pcs_ne (i := 0) (by omega)
  rw [show l1.getD 0 pcZ = bareP ByteArray.empty 1 0 0 100 by rw [hl1]; rfl] at d0
  rw [show l1.getD 1 pcZ = bareP ByteArray.empty 0 0 0 32 by rw [hl1]; rfl] at d1
  rw [show l1.getD 3 pcZ = bareP ByteArray.empty 0 5 0 115 by rw [hl1]; rfl] at d3
  rw [show l1.getD 4 pcZ = bareP ByteArray.empty 2 0 3 102 by rw [hl1]; rfl] at d4
  rw [show l2.getD 1 pcZ = ⟨ByteArray.empty, 1, 0, 0, 91, S⟩ by rw [hl2, hS]; rfl] at e1
  have w0 : PcF (bareP ByteArray.empty 1 0 0 100) := wfS (by decide) (by decide) (by decide) (by decide)
  have w1 : PcF (bareP ByteArray.empty 0 0 0 32) := wfS (by decide) (by decide) (by decide) (by decide)
  have w3 : PcF (bareP ByteArray.empty 0 5 0 115) := wfS (by decide) (by decide) (by decide) (by decide)
  have w4 : PcF (bareP ByteArray.empty 2 0 3 102) := wfS (by decide) (by decide) (by decide) (by decide)
  clear hS hS4 hl1 hl2
  refine PC.rn Zdf ZeW ZeX (rs := [.tmp 0]) (by rw [ZeY]) ?_
  refine ARun.seq (ARun.region ?_); refine zza ?_; refine AOps.nil (ARun.seq (ARun.region ?_))
  refine zzc rfl rfl (c1) ?_
  refine zzm ?_; refine zze ?_; refine zze ?_; refine zze ?_; refine zza ?_; refine zza ?_; refine zza ?_; refine AOps.nil (ARun.seq (ARun.region ?_))
  refine zzc rfl rfl (c2) ?_
  refine zzm ?_; refine zze ?_; refine zze ?_; refine zze ?_; refine zza ?_; refine zza ?_; refine zza ?_; refine AOps.nil (ARun.seq (ARun.region ?_))
  refine zzc rfl rfl (c3) ?_
  refine zzm ?_; refine zze ?_; refine zze ?_; refine zze ?_; refine zza ?_; refine zza ?_; refine zza ?_; refine AOps.nil (ARun.seq (ARun.region ?_)); refine zzm ?_
  refine zzc rfl rfl (c4) ?_
  refine zzm ?_; refine zze ?_; refine zze ?_; refine zza ?_; refine zza ?_; refine AOps.nil (ARun.seq (ARun.region ?_))
  refine zzc rfl rfl (c5) ?_
  refine zzm ?_; refine zze ?_; refine zze ?_
  refine ZbF rfl rfl rfl rfl rfl rfl rfl rfl rfl rfl rfl ?_
  refine zza ?_; refine AOps.nil (ARun.seq (ARun.region ?_)); refine zzL ?_
  refine zzc rfl rfl (c6) ?_
  refine zzm ?_; refine zze ?_; refine zze ?_; refine zza ?_; refine zza ?_; refine AOps.nil (ARun.seq (ARun.region ?_)); refine zzm ?_
  refine zzc rfl rfl (c7) ?_
  refine zzm ?_; refine zze ?_; refine zze ?_; refine zza ?_; refine zza ?_; refine AOps.nil (ARun.seq (ARun.region ?_)); refine zzm ?_
  refine zzc rfl rfl (c8) ?_
  refine zzm ?_; refine zze ?_; refine zze ?_; refine zza ?_; refine zza ?_; refine AOps.nil (ARun.seq (ARun.seq (ARun.region ?_))); refine zzm ?_; refine zzi ?_; refine zzm ?_; refine zzm ?_; refine zzi ?_; refine zzp ?_; refine zzm ?_; refine zzm ?_; refine zzi ?_; refine zzp ?_; refine zzm ?_; refine zzm ?_; refine zzi ?_; refine zzp ?_; refine zzm ?_; refine zzm ?_; refine zzi ?_; refine zzp ?_; refine zzm ?_; refine zzm ?_; refine zzi ?_; refine zzp ?_; refine zzm ?_; refine zzm ?_; refine zzi ?_; refine zzp ?_; refine zzm ?_; refine zzm ?_; refine zzi ?_; refine zzp ?_; refine zzm ?_; refine zzm ?_; refine zzi ?_; refine zzp ?_; refine zzm ?_; refine zzm ?_; refine zzN ?_
  refine y_op rfl (OpQ.cast (d' := .bool false) (q_int rfl rfl rfl) (by rw [n1]; rfl)) ?_
  refine zzp ?_; refine zzm ?_; refine zzm ?_; refine zzN ?_
  refine y_op rfl (OpQ.cast (d' := .bool false) (q_int rfl rfl rfl) (by rw [n2]; rfl)) ?_
  refine zzp ?_; refine zzm ?_; refine zzm ?_; refine zzi ?_; refine zzp ?_; refine zzm ?_; refine zzm ?_; refine zzp ?_; refine AOps.nil ?_
  refine ARun.condF rfl ?_
  refine ARun.skip (ARun.seq (ARun.region ?_)); refine zzm ?_
  refine y_op rfl (Zao rfl rfl rfl rfl (by omega) (by omega) m1 d0) ?_
  refine zzL ?_
  refine y_op rfl (Za2 rfl rfl rfl rfl rfl) ?_
  refine y_op rfl (OpQ.cast (d' := .bool true) (q_pcB (p := bareP ByteArray.empty 1 0 0 100) (s := ByteArray.empty) (a := 1) (w := 0) (n := 0) (c := 100) rfl rfl w0 w0) (congrArg D.bool (pEq_rfl _))) ?_
  refine zzm ?_; refine zzm ?_
  refine y_op rfl (Zao rfl rfl rfl rfl (by omega) (by omega) m1 d1) ?_
  refine zzL ?_
  refine y_op rfl (Za2 rfl rfl rfl rfl rfl) ?_
  refine y_op rfl (OpQ.cast (d' := .bool true) (q_pcB (p := bareP ByteArray.empty 0 0 0 32) (s := ByteArray.empty) (a := 0) (w := 0) (n := 0) (c := 32) rfl rfl w1 w1) (congrArg D.bool (pEq_rfl _))) ?_
  refine zzp ?_; refine zzm ?_; refine zzm ?_
  refine y_op rfl (Zao rfl rfl rfl rfl (by omega) (by omega) m1 d3) ?_
  refine zzL ?_
  refine y_op rfl (Za2 rfl rfl rfl rfl rfl) ?_
  refine y_op rfl (OpQ.cast (d' := .bool true) (q_pcB (p := bareP ByteArray.empty 0 5 0 115) (s := ByteArray.empty) (a := 0) (w := 5) (n := 0) (c := 115) rfl rfl w3 w3) (congrArg D.bool (pEq_rfl _))) ?_
  refine zzp ?_; refine zzm ?_; refine zzm ?_
  refine y_op rfl (Zao rfl rfl rfl rfl (by omega) (by omega) m1 d4) ?_
  refine zzL ?_
  refine y_op rfl (Za2 rfl rfl rfl rfl rfl) ?_
  refine y_op rfl (OpQ.cast (d' := .bool true) (q_pcB (p := bareP ByteArray.empty 2 0 3 102) (s := ByteArray.empty) (a := 2) (w := 0) (n := 3) (c := 102) rfl rfl w4 w4) (congrArg D.bool (pEq_rfl _))) ?_
  refine zzp ?_; refine zza ?_; refine AOps.nil (ARun.seq (ARun.region ?_)); refine zzm ?_; refine zzm ?_; refine zzm ?_
  refine y_op rfl (OpQ.cast (d' := .bool true) (Zeh rfl rfl) (congrArg D.bool (by rw [str_eq]; exact decide_eq_true rfl))) ?_
  refine zzp ?_; refine zzm ?_; refine zzm ?_
  refine y_op rfl (OpQ.cast (d' := .bool true) (Zeh rfl rfl) (congrArg D.bool (by rw [str_eq]; exact decide_eq_true rfl))) ?_
  refine zzp ?_; refine zzm ?_; refine zzm ?_
  refine y_op rfl (Zao rfl rfl rfl rfl (by omega) (by omega) m2 e1) ?_
  refine zzf ?_; refine zzL ?_
  refine y_op rfl (OpQ.cast (d' := .bool true) (q_call rfl rfl (PC.g (ZbQ S 100 (by decide)))) (congrArg D.bool h100)) ?_
  refine zzp ?_; refine zzm ?_; refine zzm ?_
  refine y_op rfl (Zao rfl rfl rfl rfl (by omega) (by omega) m2 e1) ?_
  refine zzf ?_; refine zzL ?_
  refine y_op rfl (OpQ.cast (d' := .bool false) (q_call rfl rfl (PC.g (ZbQ S 98 (by decide)))) (congrArg D.bool h98)) ?_
  refine zzn ?_; refine zzp ?_; refine zza ?_; refine AOps.nil ?_
  refine ARun.ret ?_
  refine ⟨_, _, _, .tmp rfl .nil, .cons (.same _) .nil, rfl, ?_⟩
  rfl
end Go.V
set_option maxHeartbeats 4000000
set_option maxRecDepth 100000
namespace Go.V
open Go.RowKit Go.Proofs
/-! A SET's TEXT, READ AGAIN. -/
theorem readS_caret {r : List Nat} (hb : ∀ c ∈ r, c < 256) (hl : r.length + 1 ≤ 2000) : readS (bytesOf (94 :: r)) = readR true r := by
  have hs : sby (bytesOf (94 :: r)) = 94 :: r := sby_bytesOf (fun c hc => (List.mem_cons.1 hc).elim (fun e => by omega) (hb c))
  have hz : (bytesOf (94 :: r)).size = r.length + 1 := by rw [bytesOf_size, List.length_cons]
  have hp : isPre (bytesOf (94 :: r)) sCaret = true := by
    rw [isCaret, hs, decide_eq_true (by rw [hz]; omega)]; rfl
  unfold readS
  rw [if_neg (by rw [hz]; omega), hp]
  congr 1
  unfold cutR
  rw [hp, cond_true]
  show sby ((bytesOf (94 :: r)).extract 1 (bytesOf (94 :: r)).size) = r
  rw [hz, Nat.add_comm r.length 1, sby_cut (by rw [hz]; omega), hs]
  exact List.take_length
theorem readS_plain {l : List Nat} (hb : ∀ c ∈ l, c < 256) (hl : l.length ≤ 2000) (h : ∀ r, l ≠ 94 :: r) : readS (bytesOf l) = readR false l := by
  have hs : sby (bytesOf l) = l := sby_bytesOf hb
  have hz : (bytesOf l).size = l.length := bytesOf_size l
  have hp : isPre (bytesOf l) sCaret = false := by
    rw [isCaret, hs]
    cases l with
    | nil => rfl
    | cons c r =>
      have : (c :: r).getD 0 0 ≠ 94 := fun e => h r (by rw [show c = 94 from e])
      rw [decide_eq_false this, Bool.and_false]
  unfold readS
  rw [if_neg (by rw [hz]; omega), hp]
  unfold cutR
  rw [hp, cond_false, hs]
theorem ssize_ex {T : Nat → Bool} (h : ssize T 256 ≠ 0) : ∃ x, x < 256 ∧ T x = true := by
  apply Classical.byContradiction
  intro hn
  apply h
  rw [ssize_cnt]
  exact cnt_zero 0 fun x _ hx => by
    cases g : T x
    · rfl
    exact absurd ⟨x, hx, g⟩ hn
theorem ssize_two {S : Nat → Bool} {a b : Nat} (ha : a < 256) (hb : b < 256) (hab : a ≠ b) (hA : S a = true) (hB : S b = true) : 2 ≤ ssize S 256 := by
  have : cnt (fun y => (if y = a then 1 else 0) + (if y = b then 1 else 0)) 0 ≤ cnt (fun x => b2n (S x)) 0 := cnt_le 0 fun y _ _ => by
    by_cases e : y = a
    · subst e; rw [if_pos rfl, if_neg hab, hA]; exact Nat.le_refl 1
    rw [if_neg e]
    by_cases e2 : y = b
    · subst e2; rw [if_pos rfl, hB]; exact Nat.le_refl 1
    rw [if_neg e2]; exact Nat.zero_le _
  rw [cnt_add, cnt_one (a := a) 0 (Nat.zero_le _) ha (fun y _ _ hne => if_neg hne), cnt_one (a := b) 0 (Nat.zero_le _) hb (fun y _ _ hne => if_neg hne), if_pos rfl, if_pos rfl, ← ssize_cnt] at this
  exact this
theorem readR_body {T : Nat → Bool} {neg : Bool} (h0 : T 0 = false) (hne : ssize T 256 ≠ 0) : ∃ A, readR neg (setBody T) = (bif neg then sother A else A, 0) ∧ ∀ x, x < 256 → A x = T x := by
  obtain ⟨x, hx, hT⟩ := ssize_ex hne
  have h1 : 1 ≤ x := by
    rcases Nat.eq_zero_or_pos x with rfl | h
    · rw [h0] at hT; cases hT
    exact h
  have hn := body_ne h1 hx hT
  have hg := body_good h0 hn
  obtain ⟨A, a, b⟩ := rdI_body T
  refine ⟨A, readR_some hg a, fun y hy => ?_⟩
  rcases Nat.eq_zero_or_pos y with rfl | h
  · rw [h0]
    refine rdI_nz _ _ _ (fun c hc e => ?_) rfl a
    subst e
    unfold rdBad at hg
    rw [Bool.or_eq_false_iff, Bool.or_eq_false_iff] at hg
    exact of_decide_eq_false hg.1.2 hc
  exact b y h hy
theorem sother_sother {S : Nat → Bool} {A : Nat → Bool} (h0 : S 0 = false) (h : ∀ x, x < 256 → A x = sother S x) : ∀ x, x < 256 → sother A x = S x := by
  intro x hx
  unfold sother
  rw [h x hx]
  unfold sother
  by_cases e : x = 0
  · subst e; rw [h0]; rfl
  rw [decide_eq_true e]; cases S x <;> rfl
theorem setTx_back {S : Nat → Bool} (h0 : S 0 = false) : ∃ A, readS (bytesOf (setTx S).1) = (A, 0) ∧ ∀ x, x < 256 → A x = S x := by
  have hL := setTx_128 S
  have ho := ssize_other h0
  unfold setTx at hL ⊢
  rw [h0, cond_false] at hL ⊢
  cases hn : setNeg (ssize S 256) (S 94)
  · rw [hn, cond_false] at hL
    rw [cond_false]
    have hn' := hn
    unfold setNeg at hn
    simp only [Bool.or_eq_false_iff, Bool.and_eq_false_iff, decide_eq_false_iff_not] at hn
    cases h2 : (decide (ssize S 256 = 2) && S 94) && S 45
    · rw [h2, cond_false] at hL
      rw [cond_false]
      have hL : (setBody S).length ≤ 128 := hL
      show ∃ A, readS (bytesOf (setBody S)) = (A, 0) ∧ _
      have hc : ∀ r, setBody S ≠ 94 :: r := by
        intro r hr
        have hall := body_caret hr
        have h93 : S 93 = false := by
          cases g : S 93
          · rfl
          rcases hall 93 (by decide) (by decide) g with e | e <;> omega
        have hrt : rtx S 1 = [] := by
          rw [rtx_skip 256 (Nat.le_refl _) (by decide) (fun x a b => ?_), rtx_end]
          cases g : rin S x
          · rfl
          have := rin_ne g
          rcases hall x a b this.1 with e | e
          · exact absurd e this.2.2.2
          exact absurd e this.2.1
        unfold setBody at hr
        rw [h93, hrt] at hr
        have hr : pre1 (S 94) 94 ++ pre1 (S 45) 45 = 94 :: r := hr
        cases g94 : S 94
        · rw [g94] at hr
          have hr : pre1 (S 45) 45 = 94 :: r := hr
          cases g45 : S 45
          · rw [g45] at hr; cases hr
          rw [g45] at hr
          have hr : [45] = 94 :: r := hr
          injection hr with hr; cases hr
        have hb : cnt (fun x => b2n (S x)) 0 ≤ cnt (fun y => (if y = 94 then 1 else 0) + (if y = 45 then b2n (S 45) else 0)) 0 := cnt_le 0 fun y _ hy => by
          by_cases e : y = 94
          · subst e; rw [if_pos rfl]; have := b2n_le (S 94); omega
          by_cases e2 : y = 45
          · subst e2; rw [if_pos rfl]; exact Nat.le_add_left _ _
          cases g : S y
          · exact Nat.zero_le _
          have h1 : 1 ≤ y := by
            rcases Nat.eq_zero_or_pos y with h | h
            · rw [h, h0] at g; cases g
            exact h
          rcases hall y h1 hy g with e3 | e3
          · exact absurd e3 e
          exact absurd e3 e2
        rw [cnt_add, cnt_one (a := 94) 0 (Nat.zero_le _) (by decide) (fun y _ _ hne => if_neg hne), cnt_one (a := 45) 0 (Nat.zero_le _) (by decide) (fun y _ _ hne => if_neg hne), if_pos rfl, if_pos rfl, ← ssize_cnt] at hb
        cases g45 : S 45
        · rw [g45] at hb
          have hb : ssize S 256 ≤ 1 := hb
          rw [g94] at hn
          have := hn.1.1
          have := hn.2
          simp only [Bool.true_eq_false, or_false] at this
          omega
        rw [g45] at hb
        have hb : ssize S 256 ≤ 2 := hb
        have := ssize_two (a := 94) (b := 45) (by decide) (by decide) (by decide) g94 g45
        rw [g94, g45, decide_eq_true (show ssize S 256 = 2 by omega)] at h2
        cases h2
      rw [readS_plain (setBody_lt S) (by omega) hc]
      obtain ⟨A, a, b⟩ := readR_body (neg := false) h0 hn.1.1
      exact ⟨A, a, b⟩
    rw [cond_true]
    simp only [Bool.and_eq_true, decide_eq_true_eq] at h2
    obtain ⟨⟨e2, e94⟩, e45⟩ := h2
    refine ⟨sr (sr sempty 45 46) 94 95, ?_, fun x hx => ?_⟩
    · rw [show (([45, 94], 0) : List Nat × Int).1 = [45, 94] from rfl, readS_plain (by decide) (by decide) (fun r e => by cases e)]
      rfl
    rw [sr_in, sr_in]
    by_cases h1 : x = 45
    · subst h1; rw [e45]; rfl
    by_cases h3 : x = 94
    · subst h3; rw [e94]; rfl
    rw [two_of e2 (a := 94) (b := 45) (by decide) (by decide) (by decide) e94 e45 hx h3 h1]
    unfold sempty
    rw [Bool.false_or, ← Bool.decide_and, ← Bool.decide_and, ← Bool.decide_or]
    exact decide_eq_false (by omega)
  rw [hn, cond_true] at hL
  rw [cond_true]
  have hL : (setBody (sother S)).length + 1 ≤ 128 := hL
  show ∃ A, readS (bytesOf (94 :: setBody (sother S))) = (A, 0) ∧ _
  rw [readS_caret (setBody_lt _) (by omega)]
  have hne : ssize (sother S) 256 ≠ 0 := by
    unfold setNeg at hn
    simp only [Bool.or_eq_true, Bool.and_eq_true, decide_eq_true_eq] at hn
    omega
  obtain ⟨A, a, b⟩ := readR_body (neg := true) (T := sother S) (by unfold sother; rw [decide_eq_false (by omega), Bool.and_false]) hne
  exact ⟨sother A, a, sother_sother h0 b⟩
theorem readS_ok {s : ByteArray} {A : Nat → Bool} (h : readS s = (A, 0)) : s.size ≤ 2000 ∧ 1 ≤ s.size ∧ A 0 = false := by
  by_cases h1 : 2000 < s.size
  · unfold readS at h; rw [if_pos h1] at h; injection h with _ h; cases h
  refine ⟨by omega, ?_⟩
  have hb : ∀ c ∈ sby s, c < 256 := fun c hc => sby_mem hc
  have hl := sby_len s
  have hs := bytesOf_sby s
  generalize sby s = l at *
  rw [← hs] at h
  have key : ∀ (neg : Bool) (r : List Nat), readR neg r = (A, 0) → r ≠ [] ∧ A 0 = false := by
    intro neg r hr
    cases hg : rdBad r
    · refine ⟨(fun e => by rw [e] at hg; cases hg), ?_⟩
      cases hi : rdI sempty r with
      | none => rw [readR_none hg hi] at hr; injection hr with _ hr; cases hr
      | some B =>
        rw [readR_some hg hi] at hr
        injection hr with hr
        have h0 : B 0 = false := by
          refine rdI_nz _ _ _ (fun c hc e => ?_) rfl hi
          subst e
          unfold rdBad at hg
          rw [Bool.or_eq_false_iff, Bool.or_eq_false_iff] at hg
          exact of_decide_eq_false hg.1.2 hc
        rw [← hr]
        cases neg
        · exact h0
        show (!B 0 && decide ((0 : Nat) ≠ 0)) = false
        rw [decide_eq_false (by omega), Bool.and_false]
    rw [readR_bad hg] at hr; injection hr with _ hr; cases hr
  cases l with
  | nil =>
    rw [readS_plain hb (by show (0 : Nat) ≤ _; omega) (fun r e => by cases e)] at h
    exact absurd rfl (key _ _ h).1
  | cons c r =>
    rw [List.length_cons] at hl
    refine ⟨by omega, ?_⟩
    by_cases hc : c = 94
    · subst hc
      rw [readS_caret (fun x hx => hb x (List.mem_cons_of_mem _ hx)) (by omega)] at h
      exact (key _ _ h).2
    rw [readS_plain hb (by rw [List.length_cons]; omega) (fun r' e => hc (by injection e))] at h
    exact (key _ _ h).2
end Go.V
set_option maxHeartbeats 1000000
set_option maxRecDepth 100000
namespace Go.V
open Go.RowKit Go.Proofs
/-! A PIECE's TEXT, READ AGAIN. -/
theorem dgL_dnum : ∀ (N : Nat) (r : List Nat), 1 ≤ N → N ≤ 99999 → dgL 0 (dnum N ++ r) = dgL N r := by
  intro N
  induction N using Nat.strongRecOn with
  | ind N ih =>
    intro r h1 h2
    by_cases h : 9 < N
    · rw [dnum_big h, List.append_assoc, ih (N / 10) (by omega) _ (by omega) (by omega), List.singleton_append, dgL]
      have hs : sdp (N / 10) (48 + N % 10) = true := by
        unfold sdp
        rw [decide_eq_true (show 48 ≤ 48 + N % 10 by omega), decide_eq_true (show 48 + N % 10 ≤ 57 by omega), decide_eq_true (show 0 < N / 10 by omega)]; rfl
      rw [if_pos hs, show min 100000 (10 * (N / 10) + (48 + N % 10 - 48)) = N by omega]
    rw [dnum_one h, List.singleton_append, dgL]
    have hs : sdp 0 (48 + N % 10) = true := by
      unfold sdp
      rw [decide_eq_true (show 48 ≤ 48 + N % 10 by omega), decide_eq_true (show 48 + N % 10 ≤ 57 by omega), decide_eq_true (show 48 < 48 + N % 10 by omega), Bool.or_true]; rfl
    rw [if_pos hs, show min 100000 (10 * 0 + (48 + N % 10 - 48)) = N by omega]
def nodig (c : Nat) : Prop := ¬ (48 ≤ c ∧ c ≤ 57)
theorem dgL_nd {c : Nat} (n : Nat) (z : List Nat) (h : nodig c) : dgL n (c :: z) = (n, c :: z) := by
  have hs : ¬ sdp n c = true := by
    unfold sdp
    rw [← Bool.decide_and, decide_eq_false h, Bool.false_and]; exact Bool.false_ne_true
  rw [dgL, if_neg hs]
def wTx (n : Nat) : List Nat := if 0 < n then dnum n else []
theorem dgL_wTx {n c : Nat} (z : List Nat) (hn : n ≤ 99999) (hc : nodig c) : dgL 0 (wTx n ++ c :: z) = (n, c :: z) := by
  unfold wTx
  split
  · rw [dgL_dnum n _ (by omega) hn, dgL_nd n z hc]
  rw [List.nil_append, dgL_nd 0 z hc, show n = 0 by omega]
theorem classF_mem : ∀ c, sclass c ≠ 0 → c ∈ [100, 105, 117, 111, 120, 88, 98, 101, 69, 102, 70, 103, 71, 97, 65, 99, 115, 91, 112, 110] := by
  intro c h
  apply Classical.byContradiction
  intro hn
  simp only [List.mem_cons, List.not_mem_nil, or_false, not_or] at hn
  apply h
  unfold sclass rowsN
  simp only [classF, List.mem_cons, List.not_mem_nil, or_false]
  repeat rw [if_neg (by omega)]
theorem sclass_5 {c : Nat} (h : sclass c = 5) : c = 110 := by
  have := classF_mem c (by rw [h]; decide)
  simp only [List.mem_cons, List.not_mem_nil, or_false] at this
  rcases this with rfl | rfl | rfl | rfl | rfl | rfl | rfl | rfl | rfl | rfl | rfl | rfl | rfl | rfl | rfl | rfl | rfl | rfl | rfl | rfl <;> first | rfl | exact absurd h (by decide)
theorem lenAt_c1 : ∀ k, k < 12 → (lenAt k).length ≠ 0 → sclass ((lenAt k).getD 0 0) = 0 := by decide
theorem lenAt_c2 : ∀ k, k < 12 → (lenAt k).length = 2 → sclass ((lenAt k).getD 1 0) = 0 := by decide
theorem lenAt_inj : ∀ k, k < 12 → ∀ j, j < 12 → lenAt k = lenAt j → k = j := by decide
theorem lenAt_no : ∀ k, k < 12 → ∀ c ∈ lenAt k, ¬ (48 ≤ c ∧ c ≤ 57) ∧ c ≠ 36 ∧ c ≠ 42 ∧ c ≠ 37 := by decide
theorem conv_no {c : Nat} (h : sclass c ≠ 0) : nodig c ∧ c ≠ 36 ∧ c ≠ 42 ∧ c ≠ 37 := by
  have := classF_mem c h
  simp only [List.mem_cons, List.not_mem_nil, or_false] at this
  unfold nodig
  omega
theorem modL_print {k c : Nat} (hk : k < 12) (hc : sclass c ≠ 0) (z : List Nat) : modL (lenAt k ++ c :: z) = k := by
  obtain ⟨g1, g2⟩ := modL_ok (lenAt k ++ c :: z)
  have hm := modL_max (r := lenAt k ++ c :: z) hk List.take_left
  generalize modL (lenAt k ++ c :: z) = j at *
  have l1 := lenAt_2 k hk
  have l2 := lenAt_2 j g1
  rcases Nat.eq_or_lt_of_le hm with h | h
  · refine lenAt_inj j g1 k hk ?_
    rw [← g2, ← h, List.take_left]
  exfalso
  rcases Nat.eq_zero_or_pos (lenAt k).length with h0 | h0
  · have hn : lenAt k = [] := List.eq_nil_of_length_eq_zero h0
    rw [hn, List.nil_append] at g2
    obtain ⟨n, hn⟩ : ∃ n, (lenAt j).length = n + 1 := ⟨(lenAt j).length - 1, by omega⟩
    have : (lenAt j).getD 0 0 = c := by rw [← g2, hn]; rfl
    exact hc (this ▸ lenAt_c1 j g1 (by omega))
  have h2 : (lenAt j).length = 2 := by omega
  obtain ⟨x, hx⟩ : ∃ x, lenAt k = [x] := by
    cases e : lenAt k with
    | nil => rw [e] at h0; cases h0
    | cons x t =>
      rw [e, List.length_cons] at h
      have : t = [] := List.eq_nil_of_length_eq_zero (by omega)
      exact ⟨x, by rw [this]⟩
  rw [hx] at g2
  have : (lenAt j).getD 1 0 = c := by rw [← g2, h2]; rfl
  exact hc (this ▸ lenAt_c2 j g1 h2)
theorem body_plain {S : Nat → Bool} (h0 : S 0 = false) (hn' : setNeg (ssize S 256) (S 94) = false) (h2 : ((decide (ssize S 256 = 2) && S 94) && S 45) = false) : ∀ r, setBody S ≠ 94 :: r := by
  have hn := hn'
  unfold setNeg at hn
  simp only [Bool.or_eq_false_iff, Bool.and_eq_false_iff, decide_eq_false_iff_not] at hn
  intro r hr
  have hall := body_caret hr
  have h93 : S 93 = false := by
    cases g : S 93
    · rfl
    rcases hall 93 (by decide) (by decide) g with e | e <;> omega
  have hrt : rtx S 1 = [] := by
    rw [rtx_skip 256 (Nat.le_refl _) (by decide) (fun x a b => ?_), rtx_end]
    cases g : rin S x
    · rfl
    have := rin_ne g
    rcases hall x a b this.1 with e | e
    · exact absurd e this.2.2.2
    exact absurd e this.2.1
  unfold setBody at hr
  rw [h93, hrt] at hr
  have hr : pre1 (S 94) 94 ++ pre1 (S 45) 45 = 94 :: r := hr
  cases g94 : S 94
  · rw [g94] at hr
    have hr : pre1 (S 45) 45 = 94 :: r := hr
    cases g45 : S 45
    · rw [g45] at hr; cases hr
    rw [g45] at hr
    have hr : [45] = 94 :: r := hr
    injection hr with hr; cases hr
  have hb : cnt (fun x => b2n (S x)) 0 ≤ cnt (fun y => (if y = 94 then 1 else 0) + (if y = 45 then b2n (S 45) else 0)) 0 := cnt_le 0 fun y _ hy => by
    by_cases e : y = 94
    · subst e; rw [if_pos rfl]; have := b2n_le (S 94); omega
    by_cases e2 : y = 45
    · subst e2; rw [if_pos rfl]; exact Nat.le_add_left _ _
    cases g : S y
    · exact Nat.zero_le _
    have h1 : 1 ≤ y := by
      rcases Nat.eq_zero_or_pos y with h | h
      · rw [h, h0] at g; cases g
      exact h
    rcases hall y h1 hy g with e3 | e3
    · exact absurd e3 e
    exact absurd e3 e2
  rw [cnt_add, cnt_one (a := 94) 0 (Nat.zero_le _) (by decide) (fun y _ _ hne => if_neg hne), cnt_one (a := 45) 0 (Nat.zero_le _) (by decide) (fun y _ _ hne => if_neg hne), if_pos rfl, if_pos rfl, ← ssize_cnt] at hb
  cases g45 : S 45
  · rw [g45] at hb
    have hb : ssize S 256 ≤ 1 := hb
    rw [g94] at hn
    have := hn.1.1
    have := hn.2
    simp only [Bool.true_eq_false, or_false] at this
    omega
  rw [g45] at hb
  have hb : ssize S 256 ≤ 2 := hb
  have := ssize_two (a := 94) (b := 45) (by decide) (by decide) (by decide) g94 g45
  rw [g94, g45, decide_eq_true (show ssize S 256 = 2 by omega)] at h2
  cases h2
theorem fx_none93 : ∀ (l z : List Nat), 93 ∉ l → fx (l ++ 93 :: z) = some l.length
  | [], z, _ => rfl
  | a :: l, z, h => by
    rw [List.mem_cons, not_or] at h
    rw [List.cons_append, fx, if_neg (fun e => h.1 e.symm), fx_none93 l z h.2]; rfl
theorem stL_of {tx u l : List Nat} {A : Nat → Bool} (ht : tx = u ++ l) (hl : 93 ∉ l) (hd : ∀ z, dropIf 93 (dropIf 94 (tx ++ 93 :: z)) = l ++ 93 :: z) (hr : readS (bytesOf tx) = (A, 0)) (z : List Nat) : stL (tx ++ 93 :: z) = some (A, z) := by
  unfold stL
  rw [hd z, fx_none93 l z hl]
  simp only
  have e1 : (l ++ 93 :: z).drop (l.length + 1) = z := by
    rw [show l ++ 93 :: z = (l ++ [93]) ++ z by simp, show l.length + 1 = (l ++ [93]).length by simp, List.drop_left]
  have e2 : (tx ++ 93 :: z).take ((tx ++ 93 :: z).length - z.length - 1) = tx := by
    rw [show (tx ++ 93 :: z).length - z.length - 1 = tx.length by rw [List.length_append, List.length_cons]; omega, List.take_left]
  rw [e1, e2, hr]
  simp only [if_true]
theorem body_93 (T : Nat → Bool) : ∃ (b : Bool) (l : List Nat), setBody T = pre1 b 93 ++ l ∧ 93 ∉ l := by
  refine ⟨T 93, _, rfl, fun h => ?_⟩
  rcases tail_mem h with e | e | e
  · cases e
  · cases e
  exact (rin_ne e).2.2.1 rfl
theorem dropIf_body {b : Bool} {l : List Nat} (hl : 93 ∉ l) (hne : pre1 b 93 ++ l ≠ []) (z : List Nat) : dropIf 93 ((pre1 b 93 ++ l) ++ 93 :: z) = l ++ 93 :: z := by
  cases b
  · cases l with
    | nil => exact absurd rfl hne
    | cons a l =>
      rw [List.mem_cons, not_or] at hl
      show (bif hdIs (a :: (l ++ 93 :: z)) 93 then _ else _) = _
      have : hdIs (a :: (l ++ 93 :: z)) 93 = false := decide_eq_false (fun e => hl.1 e.symm)
      rw [this]; rfl
  show (bif hdIs (93 :: (l ++ 93 :: z)) 93 then _ else _) = _
  have : hdIs (93 :: (l ++ 93 :: z)) 93 = true := rfl
  rw [this]; rfl
theorem stL_print {S : Nat → Bool} (h0 : S 0 = false) : ∃ A, (∀ z, stL ((setTx S).1 ++ 93 :: z) = some (A, z)) ∧ ∀ x, x < 256 → A x = S x := by
  obtain ⟨A, hA, hAS⟩ := setTx_back h0
  refine ⟨A, ?_, hAS⟩
  have ho := ssize_other h0
  unfold setTx at hA ⊢
  rw [h0, cond_false] at hA ⊢
  cases hn : setNeg (ssize S 256) (S 94)
  · rw [hn, cond_false] at hA
    rw [cond_false]
    have hn' := hn
    unfold setNeg at hn
    simp only [Bool.or_eq_false_iff, Bool.and_eq_false_iff, decide_eq_false_iff_not] at hn
    cases h2 : (decide (ssize S 256 = 2) && S 94) && S 45
    · rw [h2, cond_false] at hA
      rw [cond_false]
      have hc := body_plain h0 hn' h2
      obtain ⟨b, l, e1, e2⟩ := body_93 S
      obtain ⟨x, hx, hT⟩ := ssize_ex hn.1.1
      have hne := body_ne (by
        rcases Nat.eq_zero_or_pos x with rfl | h
        · rw [h0] at hT; cases hT
        exact h) hx hT
      refine stL_of (u := pre1 b 93) (l := l) e1 e2 (fun z => ?_) hA
      show dropIf 93 (dropIf 94 (setBody S ++ 93 :: z)) = _
      have hd : dropIf 94 (setBody S ++ 93 :: z) = setBody S ++ 93 :: z := by
        cases hb : setBody S with
        | nil => exact absurd hb hne
        | cons a t =>
          have : hdIs ((a :: t) ++ 93 :: z) 94 = false := decide_eq_false (fun e => hc t (by rw [hb, e]))
          unfold dropIf
          rw [this]; rfl
      rw [hd, e1]
      exact dropIf_body e2 (by rw [← e1]; exact hne) z
    rw [h2, cond_true] at hA
    rw [cond_true]
    exact stL_of (u := []) (l := [45, 94]) rfl (by decide) (fun z => rfl) hA
  rw [hn, cond_true] at hA
  rw [cond_true]
  obtain ⟨b, l, e1, e2⟩ := body_93 (sother S)
  have hne0 : ssize (sother S) 256 ≠ 0 := by
    unfold setNeg at hn
    simp only [Bool.or_eq_true, Bool.and_eq_true, decide_eq_true_eq] at hn
    omega
  obtain ⟨x, hx, hT⟩ := ssize_ex hne0
  have hne := body_ne (by
    rcases Nat.eq_zero_or_pos x with rfl | h
    · unfold sother at hT; rw [decide_eq_false (by omega), Bool.and_false] at hT; cases hT
    exact h) hx hT
  refine stL_of (u := 94 :: pre1 b 93) (l := l) (by show 94 :: setBody (sother S) = _; rw [e1]; rfl) e2 (fun z => ?_) hA
  show dropIf 93 (dropIf 94 (94 :: (setBody (sother S) ++ 93 :: z))) = _
  have hd : dropIf 94 (94 :: (setBody (sother S) ++ 93 :: z)) = setBody (sother S) ++ 93 :: z := by
    unfold dropIf
    have : hdIs (94 :: (setBody (sother S) ++ 93 :: z)) 94 = true := rfl
    rw [this]; rfl
  rw [hd, e1]
  exact dropIf_body e2 (by rw [← e1]; exact hne) z
end Go.V
set_option maxHeartbeats 1000000
set_option maxRecDepth 100000
namespace Go.V
open Go.RowKit Go.Proofs
structure CvF (p : Pc) : Prop where
  cl : sclass p.conv ≠ 0
  lit : sby p.lit = []
  arg : 0 ≤ p.arg ∧ p.arg ≤ 64
  wid : 0 ≤ p.wid ∧ p.wid ≤ 10000
  sl : slong ((sclass p.conv : Nat) : Int) p.len = true
  n : p.conv = 110 → p.arg ≠ 0 ∧ ¬ p.wid > 0
  st : if p.conv = 91 then p.set 0 = false else sEq p.set sempty = true
theorem svalid_cvf {p : Pc} (h : svalid p = true) (hs : spl p = false) : CvF p := by
  unfold svalid at h
  rw [hs, cond_false] at h
  cases a : (((((decide (sclass p.conv = 0) || !decide (sby p.lit = [])) || decide (p.arg < 0)) || decide (p.arg > 64)) || decide (p.wid < 0)) || decide (p.wid > 10000)) || !slong ((sclass p.conv : Nat) : Int) p.len
  · rw [a, cond_false] at h
    simp only [Bool.or_eq_false_iff, decide_eq_false_iff_not, Bool.not_eq_false', decide_eq_true_eq] at a
    cases b : decide (p.conv = 110) && (decide (p.arg = 0) || decide (p.wid > 0))
    · rw [b, cond_false] at h
      refine ⟨a.1.1.1.1.1.1, a.1.1.1.1.1.2, by omega, by omega, a.2, fun e => ?_, ?_⟩
      · rw [decide_eq_true e, Bool.true_and, Bool.or_eq_false_iff] at b
        exact ⟨of_decide_eq_false b.1, of_decide_eq_false b.2⟩
      by_cases e : p.conv = 91
      · rw [if_pos e]; rw [decide_eq_true e, cond_true] at h; simpa using h
      rw [if_neg e]; rw [decide_eq_false e, cond_false] at h; exact h
    rw [b, cond_true] at h; cases h
  rw [a, cond_true] at h; cases h
theorem tail_print {p : Pc} (h : CvF p) : ∃ A : Nat → Bool, (∀ x, x < 256 → A x = p.set x) ∧ ∀ (cnt : Nat) (w pl : Bool) (n : Nat) (mute po : Bool) (z : List Nat), (p.conv = 110 → mute = false) →
    dgL 0 (wTx p.wid.toNat ++ (lenAt p.len.toNat ++ p.conv :: (pSet p ++ z))) = (p.wid.toNat, lenAt p.len.toNat ++ p.conv :: (pSet p ++ z)) ∧
    tailL cnt w pl n mute po (wTx p.wid.toNat ++ (lenAt p.len.toNat ++ p.conv :: (pSet p ++ z))) = convE cnt w pl n mute po p.wid.toNat p.len.toNat p.conv A z := by
  have hlen := slong_rng h.sl
  have hk : p.len.toNat < 12 := by omega
  have hcn := conv_no h.cl
  have hd : ∀ y, dgL 0 (wTx p.wid.toNat ++ (lenAt p.len.toNat ++ p.conv :: y)) = (p.wid.toNat, lenAt p.len.toNat ++ p.conv :: y) := fun y => by
    have hw := h.wid
    cases e : lenAt p.len.toNat with
    | nil => exact dgL_wTx y (by omega) hcn.1
    | cons a t => exact dgL_wTx _ (by omega) (lenAt_no _ hk a (by rw [e]; exact List.mem_cons_self ..)).1
  have key : ∃ A : Nat → Bool, (∀ x, x < 256 → A x = p.set x) ∧ ∀ (cnt : Nat) (w pl : Bool) (n : Nat) (mute po : Bool) (z : List Nat), (p.conv = 110 → mute = false) → convC cnt w pl n mute po p.wid.toNat p.len.toNat (p.conv :: (pSet p ++ z)) = convE cnt w pl n mute po p.wid.toNat p.len.toNat p.conv A z := by
    have hb : ∀ mute : Bool, (p.conv = 110 → mute = false) → ((decide (sclass p.conv = 0) || !slong ((sclass p.conv : Nat) : Int) ((p.len.toNat : Nat) : Int)) || (decide (sclass p.conv = 5) && (mute || decide (0 < p.wid.toNat)))) = false := fun mute hm => by
      rw [decide_eq_false h.cl, show ((p.len.toNat : Nat) : Int) = p.len by omega, h.sl]
      by_cases h5 : sclass p.conv = 5
      · have h110 := sclass_5 h5
        have := (h.n h110).2
        rw [hm h110, decide_eq_false (show ¬ 0 < p.wid.toNat by omega), Bool.or_false, Bool.and_false]; rfl
      rw [decide_eq_false h5]; rfl
    have hst := h.st
    by_cases h91 : p.conv = 91
    · rw [if_pos h91] at hst
      obtain ⟨A, a1, a2⟩ := stL_print hst
      refine ⟨A, a2, fun cnt w pl n mute po z hm => ?_⟩
      rw [convC, hb mute hm, cond_false, if_pos h91]
      unfold pSet
      rw [if_pos h91, List.append_assoc, List.singleton_append, a1 z]
    rw [if_neg h91] at hst
    refine ⟨sempty, fun x hx => ((sEq_ext.1 hst) x hx).symm, fun cnt w pl n mute po z hm => ?_⟩
    rw [convC, hb mute hm, cond_false, if_neg h91]
    unfold pSet
    rw [if_neg h91, List.nil_append]
  obtain ⟨A, a1, a2⟩ := key
  refine ⟨A, a1, fun cnt w pl n mute po z hm => ⟨hd _, ?_⟩⟩
  unfold tailL
  rw [hd]
  simp only
  rw [modL_print hk h.cl, List.drop_left]
  exact a2 cnt w pl n mute po z hm
theorem pWid_eq (p : Pc) : pWid p = wTx p.wid.toNat := by
  unfold pWid wTx
  by_cases h : p.wid > 0
  · rw [if_pos h, if_pos (by omega)]
  rw [if_neg h, if_neg (by omega)]
theorem dnum_hd (n : Nat) : ∃ a t, dnum n = a :: t ∧ 48 ≤ a ∧ a ≤ 57 := by
  cases h : dnum n with
  | nil => rw [dnum] at h; split at h <;> simp at h
  | cons a t => exact ⟨a, t, rfl, dnum_lt n a (by rw [h]; exact List.mem_cons_self ..)⟩
theorem tl_hd {p : Pc} (h : CvF p) (y : List Nat) : ∃ a t, wTx p.wid.toNat ++ (lenAt p.len.toNat ++ p.conv :: y) = a :: t ∧ a ≠ 42 ∧ a ≠ 37 := by
  have hlen := slong_rng h.sl
  have hcn := conv_no h.cl
  unfold wTx
  split
  · obtain ⟨a, t, e, h1, h2⟩ := dnum_hd p.wid.toNat
    exact ⟨a, _, by rw [e]; rfl, by omega, by omega⟩
  cases e : lenAt p.len.toNat with
  | nil => exact ⟨p.conv, y, rfl, hcn.2.2.1, hcn.2.2.2⟩
  | cons a t =>
    have := lenAt_no _ (show p.len.toNat < 12 by omega) a (by rw [e]; exact List.mem_cons_self ..)
    exact ⟨a, _, rfl, this.2.2.1, this.2.2.2⟩
theorem pEq_of {p : Pc} {A : Nat → Bool} {n : Nat} (h : CvF p) (hA : ∀ x, x < 256 → A x = p.set x) (hn : (n : Int) = p.arg) : pEq p ⟨ByteArray.empty, (n : Int), ((p.wid.toNat : Nat) : Int), ((p.len.toNat : Nat) : Int), p.conv, A⟩ = true := by
  have hlen := slong_rng h.sl
  have hw := h.wid
  have hs : ∀ i, i < 4 → sw p.set i = sw A i := fun i hi => sw_congr fun j hj => (hA _ (by omega)).symm
  unfold pEq
  refine decide_eq_true ⟨?_, hn.symm, (Int.toNat_of_nonneg hw.1).symm, (Int.toNat_of_nonneg hlen.1).symm, rfl, hs 0 (by decide), hs 1 (by decide), hs 2 (by decide), hs 3 (by decide)⟩
  have := h.lit
  unfold sby at this
  rw [List.map_eq_nil_iff] at this
  rw [this]; rfl
theorem conv_print {p : Pc} (h : CvF p) (pos : Bool) (cnt : Nat) (w pl : Bool) (hA : p.arg = 0 → (w && pl) = false) (hB : p.arg ≠ 0 → pos = true → pl = false) (hC : p.arg ≠ 0 → pos = false → w = false ∧ p.arg = cnt + 1) :
    ∃ p', pEq p p' = true ∧ ∀ z, pieceL cnt w pl (sconv p pos ++ z) = .ok p' z (if p.arg = 0 ∨ pos = true then cnt else cnt + 1) (w || (!decide (p.arg = 0) && pos)) (pl || (!decide (p.arg = 0) && !pos)) := by
  obtain ⟨A, hAS, ht⟩ := tail_print h
  have harg := h.arg
  have hwd := h.wid
  have hw1 : decide (10000 < p.wid.toNat) = false := decide_eq_false (by omega)
  have hsc : sconv p pos = pHead p pos ++ (wTx p.wid.toNat ++ (lenAt p.len.toNat ++ p.conv :: pSet p)) := by
    unfold sconv
    rw [pWid_eq]; rfl
  have step : ∀ (r z q : List Nat) (n : Nat) (mute po : Bool) (P : Pc) (c' : Nat) (w' pl' : Bool), hdIs r 37 = false → argL r = (n, mute, po, wTx p.wid.toNat ++ (lenAt p.len.toNat ++ p.conv :: (pSet p ++ z))) → (p.conv = 110 → mute = false) → convE cnt w pl n mute po p.wid.toNat p.len.toNat p.conv A z = .ok P q c' w' pl' → pieceL cnt w pl (37 :: r) = .ok P q c' w' pl' := fun r z q n mute po P c' w' pl' h37 ha hm hE => by
    have hc : convL cnt w pl r = .ok P q c' w' pl' := by
      have : convL cnt w pl r = tailL cnt w pl n mute po (wTx p.wid.toNat ++ (lenAt p.len.toNat ++ p.conv :: (pSet p ++ z))) := by unfold convL tailL; rw [ha]
      rw [this, (ht cnt w pl n mute po z hm).2, hE]
    rw [pieceL, show swhite 37 = false from rfl, cond_false, if_pos rfl, h37, cond_false, hc]
  have asc : ∀ z, (wTx p.wid.toNat ++ (lenAt p.len.toNat ++ p.conv :: pSet p)) ++ z = wTx p.wid.toNat ++ (lenAt p.len.toNat ++ p.conv :: (pSet p ++ z)) := fun z => by simp only [List.append_assoc, List.cons_append]
  by_cases h0 : p.arg = 0
  · refine ⟨⟨ByteArray.empty, ((0 : Nat) : Int), ((p.wid.toNat : Nat) : Int), ((p.len.toNat : Nat) : Int), p.conv, A⟩, pEq_of h hAS (by omega), fun z => ?_⟩
    rw [hsc]
    unfold pHead
    rw [if_pos h0, if_pos (.inl h0), decide_eq_true h0, Bool.not_true, Bool.false_and, Bool.false_and, Bool.or_false, Bool.or_false, List.append_assoc, asc]
    refine step (42 :: (wTx p.wid.toNat ++ (lenAt p.len.toNat ++ p.conv :: (pSet p ++ z)))) z z 0 true false _ cnt w pl rfl rfl (fun e => absurd h0 (h.n e).1) ?_
    unfold convE
    rw [hw1, Bool.or_false, Bool.not_true, Bool.false_and, Bool.or_false, hA h0, cond_false, Bool.false_or]
    simp only [Bool.false_eq_true, if_false, Bool.or_false]
    rw [decide_eq_false (by omega), cond_false]
  cases hp : pos
  · obtain ⟨hw0, hc1⟩ := hC h0 hp
    refine ⟨⟨ByteArray.empty, ((cnt + 1 : Nat) : Int), ((p.wid.toNat : Nat) : Int), ((p.len.toNat : Nat) : Int), p.conv, A⟩, pEq_of h hAS (by omega), fun z => ?_⟩
    rw [← hp, hsc, hp]
    unfold pHead
    rw [if_neg h0, cond_false, if_neg (by intro e; rcases e with e | e; exact h0 e; cases e), decide_eq_false h0, Bool.not_false, Bool.true_and, Bool.true_and, Bool.or_false, Bool.or_true, List.append_assoc, asc]
    obtain ⟨a, t, e1, e2, e3⟩ := tl_hd h (pSet p ++ z)
    refine step (wTx p.wid.toNat ++ (lenAt p.len.toNat ++ p.conv :: (pSet p ++ z))) z z 0 false false _ (cnt + 1) w true (by rw [e1]; exact decide_eq_false e3) ?_ (fun _ => rfl) ?_
    · unfold argL
      rw [(ht cnt w pl 0 false false z (fun _ => rfl)).1]
      have g42 : hdIs (wTx p.wid.toNat ++ (lenAt p.len.toNat ++ p.conv :: (pSet p ++ z))) 42 = false := by rw [e1]; exact decide_eq_false e2
      have g36 : hdIs (lenAt p.len.toNat ++ p.conv :: (pSet p ++ z)) 36 = false := by
        cases e : lenAt p.len.toNat with
        | nil => exact decide_eq_false (conv_no h.cl).2.1
        | cons b s =>
          have hlen := slong_rng h.sl
          exact decide_eq_false (lenAt_no _ (show p.len.toNat < 12 by omega) b (by rw [e]; exact List.mem_cons_self ..)).2.1
      rw [g42]
      simp only
      rw [g36, Bool.and_false]; rfl
    subst hw0
    unfold convE
    rw [hw1]
    have : decide (64 < cnt + 1) = false := decide_eq_false (by omega)
    simp only [Bool.not_false, Bool.true_and, decide_true, Bool.or_false, Bool.false_and, cond_false, if_true, Bool.or_true]
    rw [this]; rfl
  have hpl := hB h0 hp
  refine ⟨⟨ByteArray.empty, ((p.arg.toNat : Nat) : Int), ((p.wid.toNat : Nat) : Int), ((p.len.toNat : Nat) : Int), p.conv, A⟩, pEq_of h hAS (by omega), fun z => ?_⟩
  rw [← hp, hsc, hp]
  unfold pHead
  rw [if_neg h0, cond_true, if_pos (.inr rfl), decide_eq_false h0, Bool.not_false, Bool.true_and, Bool.true_and, Bool.not_true, Bool.or_false, Bool.or_true, List.append_assoc, asc]
  obtain ⟨a, t, e1, e2, e3⟩ := dnum_hd p.arg.toNat
  have hd : dgL 0 (dnum p.arg.toNat ++ 36 :: (wTx p.wid.toNat ++ (lenAt p.len.toNat ++ p.conv :: (pSet p ++ z)))) = (p.arg.toNat, 36 :: (wTx p.wid.toNat ++ (lenAt p.len.toNat ++ p.conv :: (pSet p ++ z)))) := by
    rw [dgL_dnum _ _ (by omega) (by omega), dgL_nd _ _ (by unfold nodig; omega)]
  have eq : (37 :: dnum p.arg.toNat ++ [36]) ++ (wTx p.wid.toNat ++ (lenAt p.len.toNat ++ p.conv :: (pSet p ++ z))) = 37 :: (dnum p.arg.toNat ++ 36 :: (wTx p.wid.toNat ++ (lenAt p.len.toNat ++ p.conv :: (pSet p ++ z)))) := by simp only [List.append_assoc, List.cons_append, List.nil_append]
  rw [eq]
  refine step _ z z p.arg.toNat false true _ cnt true pl (by rw [e1]; exact decide_eq_false (by omega)) ?_ (fun _ => rfl) ?_
  · unfold argL
    have g42 : hdIs (dnum p.arg.toNat ++ 36 :: (wTx p.wid.toNat ++ (lenAt p.len.toNat ++ p.conv :: (pSet p ++ z)))) 42 = false := by rw [e1]; exact decide_eq_false (by omega)
    rw [g42, hd]
    simp only
    rw [decide_eq_true (show 0 < p.arg.toNat by omega)]; rfl
  subst hpl
  unfold convE
  rw [hw1]
  have h1 : decide (p.arg.toNat = 0) = false := decide_eq_false (by omega)
  have h2 : decide (64 < p.arg.toNat) = false := decide_eq_false (by omega)
  simp only [h1, Bool.and_false, Bool.or_false, Bool.false_eq_true, if_false, Bool.or_true, cond_false]
  rw [h2]; rfl
end Go.V
set_option maxHeartbeats 1000000
set_option maxRecDepth 100000
namespace Go.V
open Go.RowKit Go.Proofs
/-! A LIST's TEXT, READ AGAIN. -/
theorem cells_pEq {p q : Pc} (h : pEq p q = true) : q.cells = p.cells := by
  unfold pEq at h
  obtain ⟨h1, h2, h3, h4, h5, a0, a1, a2, a3⟩ := of_decide_eq_true h
  have e : q.lit = p.lit := by
    apply ByteArray.ext
    apply Array.ext'
    exact h1.symm
  unfold Pc.cells
  rw [e, h2, h3, h4, h5, a0, a1, a2, a3]
theorem plain_print {p : Pc} (hv : svalid p = true) (hs : spl p = true) (pos : Bool) (cnt : Nat) (w pl : Bool) : p.arg = 0 ∧ ∃ p', pEq p p' = true ∧ ∀ z, folw p.conv z → pieceL cnt w pl (sby (sprn p pos) ++ z) = .ok p' z cnt w pl := by
  unfold svalid at hv
  rw [hs, cond_true] at hv
  simp only [Bool.and_eq_true, Bool.or_eq_true, decide_eq_true_eq, Bool.not_eq_true', decide_eq_false_iff_not] at hv
  obtain ⟨⟨⟨⟨ha, hw⟩, hn⟩, hset⟩, hl⟩ := hv
  refine ⟨ha, ?_⟩
  have hE : ∀ (s : ByteArray), s = p.lit → pEq p (bareP s 0 0 0 p.conv) = true := fun s e => by
    unfold sEq at hset
    obtain ⟨a0, a1, a2, a3⟩ := of_decide_eq_true hset
    unfold pEq
    exact decide_eq_true ⟨by rw [e], ha, hw, hn, rfl, a0, a1, a2, a3⟩
  have hemp : p.conv ≠ 0 → ByteArray.empty = p.lit := fun h0 => by
    rcases hl with hl | hl
    · exact absurd hl.1 h0
    have := bytesOf_sby p.lit
    rw [hl.2] at this; exact this
  by_cases h32 : p.conv = 32
  · refine ⟨bareP ByteArray.empty 0 0 0 p.conv, hE _ (hemp (by omega)), fun z hz => ?_⟩
    have : sby (sprn p pos) = [32] := by unfold sprn; rw [if_pos h32]; rfl
    rw [this]
    have hru := runL_of (f := swhite) [32] z (fun c hc => by rw [List.mem_singleton] at hc; subst hc; rfl) (fun a t e => (hz a t e).1 h32)
    rw [List.singleton_append] at hru ⊢
    rw [pieceL, show swhite 32 = true from rfl, cond_true, hru, h32]
  by_cases h0 : p.conv = 0
  · rcases hl with hl | hl
    · refine ⟨bareP p.lit 0 0 0 p.conv, hE _ rfl, fun z hz => ?_⟩
      have : sby (sprn p pos) = sby p.lit := by unfold sprn; rw [if_neg h32, if_pos h0]
      rw [this]
      have hsl := hl.2
      unfold slit at hsl
      rw [Bool.and_eq_true, decide_eq_true_eq, List.all_eq_true] at hsl
      obtain ⟨hs1, hs2⟩ := hsl
      have hru := runL_of (f := splain) (sby p.lit) z hs2 (fun a t e => ((hz a t e).2 h0).1)
      have hz0 : hdIs z 0 = false := by
        cases z with
        | nil => rfl
        | cons a t => exact decide_eq_false ((hz a t rfl).2 h0).2
      have hbl := bytesOf_sby p.lit
      have hsl := sby_len p.lit
      cases hx : sby p.lit with
      | nil => rw [hx] at hsl; simp only [List.length_nil] at hsl; omega
      | cons c r =>
        have hc := hs2 c (by rw [hx]; exact List.mem_cons_self ..)
        unfold splain at hc
        simp only [Bool.and_eq_true, decide_eq_true_eq, Bool.not_eq_true'] at hc
        rw [hx] at hru hbl
        rw [List.cons_append] at hru ⊢
        rw [pieceL, hc.2.2, cond_false, if_neg hc.2.1, hru]
        simp only
        rw [hz0, cond_false, hbl, h0]
    exact absurd h0 hl.1
  have h37 : p.conv = 37 := by
    unfold spl at hs
    simp only [Bool.or_eq_true, decide_eq_true_eq] at hs
    omega
  refine ⟨bareP ByteArray.empty 0 0 0 p.conv, hE _ (hemp h0), fun z _ => ?_⟩
  have : sby (sprn p pos) = [37, 37] := by unfold sprn; rw [if_neg h32, if_neg h0, if_pos h37]; rfl
  rw [this, h37]; rfl
theorem sconv_lt {p : Pc} (h : CvF p) (pos : Bool) : ∀ c ∈ sconv p pos, c < 256 := by
  have hlen := slong_rng h.sl
  have hd : ∀ n c, c ∈ dnum n → c < 256 := fun n c hc => by have := dnum_lt n c hc; omega
  have hl : ∀ k, k < 12 → ∀ c ∈ lenAt k, c < 256 := by decide
  have hcl := classF_mem p.conv h.cl
  intro c hc
  unfold sconv at hc
  rw [List.mem_append, List.mem_append, List.mem_append, List.mem_append] at hc
  rcases hc with hc | hc | hc | hc | hc
  · unfold pHead at hc
    split at hc
    · simp only [List.mem_cons, List.not_mem_nil, or_false] at hc; omega
    cases pos
    · have hc : c ∈ [37] := hc
      rw [List.mem_singleton] at hc; omega
    have hc : c ∈ (37 :: dnum p.arg.toNat) ++ [36] := hc
    rw [List.mem_append, List.mem_cons, List.mem_singleton] at hc
    rcases hc with (hc | hc) | hc
    · omega
    · exact hd _ _ hc
    omega
  · unfold pWid at hc
    split at hc
    · exact hd _ _ hc
    cases hc
  · exact hl _ (by omega) c hc
  · rw [List.mem_singleton] at hc
    subst hc
    simp only [List.mem_cons, List.not_mem_nil, or_false] at hcl
    omega
  unfold pSet at hc
  split at hc
  · rw [List.mem_append, List.mem_singleton] at hc
    exact hc.elim (setTx_lt _ c) (fun e => by omega)
  cases hc
theorem sprn_conv {p : Pc} (h : CvF p) (hs : spl p = false) (pos : Bool) : sby (sprn p pos) = sconv p pos := by
  unfold spl at hs
  simp only [Bool.or_eq_false_iff, decide_eq_false_iff_not] at hs
  unfold sprn
  rw [if_neg hs.1.1, if_neg hs.1.2, if_neg hs.2]
  exact sby_bytesOf (sconv_lt h pos)
theorem piece_print {p : Pc} (hv : svalid p = true) (pos : Bool) (cnt : Nat) (w pl : Bool) (hA : p.arg = 0 → spl p = false → (w && pl) = false) (hB : p.arg ≠ 0 → pos = true → pl = false) (hC : p.arg ≠ 0 → pos = false → w = false ∧ p.arg = cnt + 1) :
    ∃ p', pEq p p' = true ∧ ∀ z, folw p.conv z → pieceL cnt w pl (sby (sprn p pos) ++ z) = .ok p' z (if p.arg = 0 ∨ pos = true then cnt else cnt + 1) (w || (!decide (p.arg = 0) && pos)) (pl || (!decide (p.arg = 0) && !pos)) := by
  cases hs : spl p
  · have h := svalid_cvf hv hs
    obtain ⟨p', h1, h2⟩ := conv_print h pos cnt w pl (fun e => hA e hs) hB hC
    refine ⟨p', h1, fun z _ => ?_⟩
    rw [sprn_conv h hs]; exact h2 z
  obtain ⟨ha, p', h1, h2⟩ := plain_print hv hs pos cnt w pl
  refine ⟨p', h1, fun z hz => ?_⟩
  rw [h2 z hz, if_pos (.inl ha), decide_eq_true ha, Bool.not_true, Bool.false_and, Bool.false_and, Bool.or_false, Bool.or_false]
theorem sprn_hd {q : Pc} (hv : svalid q = true) (pos : Bool) : ∃ a t, sby (sprn q pos) = a :: t ∧ (q.conv = 32 → a = 32) ∧ (q.conv = 0 → splain a = true) ∧ (q.conv ≠ 32 → q.conv ≠ 0 → a = 37) := by
  cases hs : spl q
  · have h := svalid_cvf hv hs
    have hcl := sclass_plain h.cl
    rw [sprn_conv h hs]
    have : ∃ t, sconv q pos = 37 :: t := by
      unfold sconv pHead
      split
      · exact ⟨_, rfl⟩
      cases pos <;> exact ⟨_, rfl⟩
    obtain ⟨t, ht⟩ := this
    exact ⟨37, t, ht, fun e => absurd e hcl.2.1, fun e => absurd e hcl.1, fun _ _ => rfl⟩
  by_cases h32 : q.conv = 32
  · exact ⟨32, [], by unfold sprn; rw [if_pos h32]; rfl, fun _ => rfl, fun e => by omega, fun e => absurd h32 e⟩
  by_cases h0 : q.conv = 0
  · unfold svalid at hv
    rw [hs, cond_true] at hv
    simp only [Bool.and_eq_true, Bool.or_eq_true, decide_eq_true_eq, Bool.not_eq_true', decide_eq_false_iff_not] at hv
    rcases hv.2 with hl | hl
    · have hsl := hl.2
      unfold slit at hsl
      rw [Bool.and_eq_true, decide_eq_true_eq, List.all_eq_true] at hsl
      have hl := sby_len q.lit
      cases hx : sby q.lit with
      | nil => rw [hx] at hl; simp only [List.length_nil] at hl; omega
      | cons a t => exact ⟨a, t, by unfold sprn; rw [if_neg h32, if_pos h0]; exact hx, fun e => absurd e h32, fun _ => hsl.2 a (by rw [hx]; exact List.mem_cons_self ..), fun _ e => absurd h0 e⟩
    exact absurd h0 hl.1
  have h37 : q.conv = 37 := by
    unfold spl at hs
    simp only [Bool.or_eq_true, decide_eq_true_eq] at hs
    omega
  exact ⟨37, [37], by unfold sprn; rw [if_neg h32, if_neg h0, if_pos h37]; rfl, fun e => absurd e h32, fun e => absurd e h0, fun _ _ => rfl⟩
def chn : List Pc → Prop
  | p :: q :: r => ¬ (q.conv = p.conv ∧ (q.conv = 0 ∨ q.conv = 32)) ∧ chn (q :: r)
  | _ => True
def txs (pos : Bool) : List Pc → List Nat
  | [] => []
  | p :: l => sby (sprn p pos) ++ txs pos l
theorem txs_folw {pos : Bool} {p : Pc} {l : List Pc} (hc : chn (p :: l)) (hv : ∀ q ∈ l, svalid q = true) : folw p.conv (txs pos l) := by
  intro a t e
  cases l with
  | nil => cases e
  | cons q r =>
    obtain ⟨b, s, h1, h2, h3, h4⟩ := sprn_hd (hv q (List.mem_cons_self ..)) pos
    have e : sby (sprn q pos) ++ txs pos r = a :: t := e
    rw [h1] at e
    injection e with e _
    subst e
    have hcq := hc.1
    refine ⟨fun e => ?_, fun e => ?_⟩
    · have hq : q.conv ≠ 32 := fun e2 => hcq ⟨by rw [e2, e], .inr e2⟩
      by_cases h0 : q.conv = 0
      · have := h3 h0
        unfold splain at this
        simp only [Bool.and_eq_true, Bool.not_eq_true'] at this
        exact this.2.2
      rw [h4 hq h0]; rfl
    have hq : q.conv ≠ 0 := fun e2 => hcq ⟨by rw [e2, e], .inl e2⟩
    by_cases h32 : q.conv = 32
    · rw [h2 h32]; exact ⟨rfl, by decide⟩
    rw [h4 h32 hq]; exact ⟨rfl, by decide⟩
theorem list_print : ∀ (l : List Pc) (pos : Bool) (m cnt : Nat) (w pl : Bool) (f : Nat), m + l.length ≤ 500 → (∀ p ∈ l, svalid p = true) → chn l → (pos = true → pl = false) → (pos = false → w = false ∧ sord l (cnt : Int) = true) → (txs pos l).length < f →
    ∃ l', l'.map Pc.cells = l.map Pc.cells ∧ prsG f m cnt w pl (txs pos l) = (l', 0, [])
  | [], pos, m, cnt, w, pl, f, _, _, _, _, _, hf => by
    obtain ⟨g, rfl⟩ : ∃ g, f = g + 1 := ⟨f - 1, by omega⟩
    exact ⟨[], rfl, by show prsG (g + 1) m cnt w pl [] = _; rw [prsG, if_pos rfl]⟩
  | p :: l, pos, m, cnt, w, pl, f, hm, hv, hc, hT, hF, hf => by
    have hvp := hv p (List.mem_cons_self ..)
    have hrg := svalid_rng hvp
    have hvl : ∀ q ∈ l, svalid q = true := fun q hq => hv q (List.mem_cons_of_mem _ hq)
    obtain ⟨a, t, hhd, _⟩ := sprn_hd hvp pos
    rw [List.length_cons] at hm
    have hf' : (sby (sprn p pos) ++ txs pos l).length < f := hf
    rw [List.length_append, hhd, List.length_cons] at hf'
    obtain ⟨g, rfl⟩ : ∃ g, f = g + 1 := ⟨f - 1, by omega⟩
    have hne : sby (sprn p pos) ++ txs pos l ≠ [] := by rw [hhd]; exact fun e => by cases e
    have hord : pos = false → p.arg ≠ 0 → p.arg = cnt + 1 ∧ sord l ((cnt : Int) + 1) = true := fun h e => by
      have := (hF h).2
      rw [sord, if_pos (by omega)] at this
      split at this
      · rename_i e2; exact ⟨e2, this⟩
      cases this
    have hord0 : pos = false → p.arg = 0 → sord l (cnt : Int) = true := fun h e => by
      have := (hF h).2
      rw [sord, if_neg (by omega)] at this
      exact this
    obtain ⟨p', h1, h2⟩ := piece_print hvp pos cnt w pl (fun _ _ => by
        cases hp : pos
        · rw [(hF hp).1]; rfl
        rw [hT hp, Bool.and_false]) (fun _ => hT) (fun e h => ⟨(hF h).1, (hord h e).1⟩)
    obtain ⟨l', h3, h4⟩ := list_print l pos (m + 1) (if p.arg = 0 ∨ pos = true then cnt else cnt + 1) (w || (!decide (p.arg = 0) && pos)) (pl || (!decide (p.arg = 0) && !pos)) g (by omega) hvl (by cases l with
        | nil => trivial
        | cons q r => exact hc.2) (fun h => by rw [hT h, h, Bool.not_true, Bool.and_false]; rfl) (fun h => by
        refine ⟨by rw [(hF h).1, h, Bool.and_false]; rfl, ?_⟩
        by_cases e : p.arg = 0
        · rw [if_pos (.inl e)]; exact hord0 h e
        rw [if_neg (by rintro (x | x); exact e x; rw [h] at x; cases x)]
        have := (hord h e).2
        rwa [show ((cnt + 1 : Nat) : Int) = (cnt : Int) + 1 from rfl]) (by omega)
    refine ⟨p' :: l', ?_, ?_⟩
    · rw [List.map_cons, List.map_cons, h3, cells_pEq h1]
    show prsG (g + 1) m cnt w pl (sby (sprn p pos) ++ txs pos l) = _
    rw [prsG, if_neg hne, if_neg (by omega), h2 _ (txs_folw hc hvl)]
    simp only
    rw [h4]
theorem schk_nb {l : List Pc} (i : Nat) (h : (schk l i).1 = 0) : (∀ j, i ≤ j → j < l.length → sbad l j = false) ∧ (sgr l).2 = true := by
  by_cases hi : i < l.length
  · cases hb : sbad l i
    · rw [schk_go hi hb] at h
      obtain ⟨a, b⟩ := schk_nb (i + 1) h
      refine ⟨fun j h1 h2 => ?_, b⟩
      rcases Nat.eq_or_lt_of_le h1 with rfl | g
      · exact hb
      exact a j g h2
    rw [schk_bad hi hb] at h; cases h
  rw [schk_end hi] at h
  refine ⟨fun j h1 h2 => by omega, ?_⟩
  cases hs : (sgr l).2
  · rw [hs, cond_false] at h; cases h
  rfl
termination_by l.length - i
theorem chn_of : ∀ (l : List Pc), (∀ j, 0 < j → j < l.length → ¬ ((l.getD j pcZ).conv = (l.getD (j - 1) pcZ).conv ∧ ((l.getD j pcZ).conv = 0 ∨ (l.getD j pcZ).conv = 32))) → chn l
  | [], _ => trivial
  | [p], _ => trivial
  | p :: q :: r, h => by
    refine ⟨h 1 (by decide) (by simp only [List.length_cons]; omega), chn_of (q :: r) fun j h1 h2 => ?_⟩
    have := h (j + 1) (by omega) (by rw [List.length_cons]; omega)
    obtain ⟨k, rfl⟩ : ∃ k, j = k + 1 := ⟨j - 1, by omega⟩
    exact this
theorem sby_sprs (pos : Bool) : ∀ (l : List Pc) (s : ByteArray), sby (l.foldl (fun a p => a ++ sprn p pos) s) = sby s ++ txs pos l
  | [], s => by rw [List.foldl_nil]; show sby s = sby s ++ []; rw [List.append_nil]
  | p :: l, s => by
    rw [List.foldl_cons, sby_sprs pos l, sby_append, List.append_assoc]; rfl
def argOf : List D → Int
  | _ :: .int _ a :: _ => a
  | _ => 0
theorem args_cells {l l' : List Pc} (h : l'.map Pc.cells = l.map Pc.cells) : l'.map Pc.arg = l.map Pc.arg := by
  have := congrArg (List.map argOf) h
  rw [List.map_map, List.map_map] at this
  exact this
theorem sall_congr {l l' : List Pc} (h : ∀ n, sused l n = sused l' n) (m k : Nat) : sall l m k = sall l' m k := by
  by_cases hk : k ≤ m
  · rw [sall, if_pos hk]
    rw [sall_congr h m (k + 1), h]
    conv => rhs; rw [sall, if_pos hk]
  rw [sall_end hk, sall_end hk]
termination_by m + 1 - k
theorem smost_arg : ∀ (l : List Pc) (m : Int), smost l m = (l.map Pc.arg).foldl max m
  | [], _ => rfl
  | p :: l, m => by rw [smost, smost_arg l]; rfl
theorem sgr_cells {l l' : List Pc} (h : l'.map Pc.cells = l.map Pc.cells) : sgr l' = sgr l := by
  have ha := args_cells h
  have hu : ∀ n, sused l' n = sused l n := fun n => by
    have e : ∀ x : List Pc, sused x n = (x.map Pc.arg).any fun a => decide (a = n) := fun x => by unfold sused; rw [List.any_map]; rfl
    rw [e, e, ha]
  unfold sgr
  rw [smost_arg, smost_arg, ha, sall_congr hu]
theorem slP_cells {l l' : List Pc} (h : l'.map Pc.cells = l.map Pc.cells) : slP l' = slP l := by
  have hl : l'.length = l.length := by have := congrArg List.length h; simpa using this
  have hp : pcs l' = pcs l := by
    show l'.flatMap Pc.cells = l.flatMap Pc.cells
    rw [List.flatMap_def, List.flatMap_def, h]
  show D.sl l'.length (pcs l') = D.sl l.length (pcs l)
  rw [hl, hp]
theorem print_back {l : List Pc} (hc : (scheck l).1 = 0) (hp : (sPrint l).2 = 0) : ∃ l', parseF (sPrint l).1 = (l', 0, 0) ∧ slP l' = slP l := by
  unfold sPrint at hp ⊢
  rw [if_pos hc] at hp ⊢
  by_cases hs : 2000 < (sprs l (!sord l 0)).size
  · rw [if_pos hs] at hp; cases hp
  rw [if_neg hs]
  have hsc : l.length ≤ 500 ∧ (schk l 0).1 = 0 := by
    unfold scheck at hc
    split at hc
    · cases hc
    exact ⟨by omega, hc⟩
  obtain ⟨nb, sg⟩ := schk_nb 0 hsc.2
  have hv : ∀ p ∈ l, svalid p = true := fun p hp => by
    obtain ⟨i, hi, e⟩ := List.getElem_of_mem hp
    have := nb i (Nat.zero_le _) hi
    unfold sbad at this
    rw [Bool.or_eq_false_iff, Bool.not_eq_false', List.getD_eq_getElem?_getD, List.getElem?_eq_getElem hi] at this
    rw [← e]; exact this.1
  have hch : chn l := chn_of l fun j h1 h2 h3 => by
    have := nb j (Nat.zero_le _) h2
    unfold sbad sadj at this
    rw [Bool.or_eq_false_iff] at this
    have h4 := this.2
    rw [decide_eq_true h1, decide_eq_true h3.1, Bool.true_and, Bool.true_and, ← Bool.decide_or, decide_eq_true h3.2] at h4
    cases h4
  have hsb : sby (sprs l (!sord l 0)) = txs (!sord l 0) l := by
    unfold sprs
    rw [sby_sprs]; rfl
  have hlen := sby_len (sprs l (!sord l 0))
  rw [hsb] at hlen
  obtain ⟨l', h1, h2⟩ := list_print l (!sord l 0) 0 0 false false ((sprs l (!sord l 0)).size + 1) (by omega) hv hch (fun _ => rfl) (fun h => ⟨rfl, by
    cases e : sord l 0
    · rw [e] at h; cases h
    rfl⟩) (by omega)
  refine ⟨l', ?_, slP_cells h1⟩
  show parseF (sprs l (!sord l 0)) = _
  rw [parse_G (by omega), hsb, h2]
  simp only [if_true]
  rw [sgr_cells h1, sg]; rfl
end Go.V
