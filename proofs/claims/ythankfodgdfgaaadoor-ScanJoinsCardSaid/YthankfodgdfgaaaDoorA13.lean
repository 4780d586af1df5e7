/- A part of the proof: abstract values, rules for the steps of the program's form, and contracts of its functions, each proved; no condition. -/
import Derived.Test.YthankfodgdfgaaaDoorA12
set_option linter.unusedVariables false
set_option linter.unusedSimpArgs false
set_option linter.unnecessarySimpa false
set_option maxHeartbeats 4000000
set_option maxRecDepth 100000
namespace Go.V
open Go.RowKit Go.Proofs
/-! WHAT A PIECE'S READING LOOKS AT. -/
theorem dgL_loc : ∀ (n : Nat) (r : List Nat) (m c : Nat) (q : List Nat), dgL n r = (m, c :: q) → ∃ u, r = u ++ c :: q ∧ ∀ z, dgL n (u ++ c :: z) = (m, c :: z)
  | n, [], m, c, q, h => by cases h
  | n, a :: r, m, c, q, h => by
    rw [dgL] at h
    by_cases hs : sdp n a = true
    · rw [if_pos hs] at h
      obtain ⟨u, h1, h2⟩ := dgL_loc _ r m c q h
      refine ⟨a :: u, by rw [h1]; rfl, fun z => ?_⟩
      rw [List.cons_append, dgL, if_pos hs, h2]
    rw [if_neg hs] at h
    injection h with h1 h2
    injection h2 with h2 h3
    subst h1; subst h2; subst h3
    exact ⟨[], rfl, fun z => by rw [List.nil_append, dgL, if_neg hs]⟩
theorem mF_congr {r r' : List Nat} (h : ∀ j, j < 12 → r.take (lenAt j).length = r'.take (lenAt j).length) : ∀ f k b, k + f ≤ 12 → mF r f k b = mF r' f k b
  | 0, _, _, _ => rfl
  | f + 1, k, b, hk => by rw [mF, mF, h k (by omega)]; exact mF_congr h f (k + 1) _ (by omega)
theorem mF_max {r : List Nat} : ∀ f k b, (lenAt b).length ≤ (lenAt (mF r f k b)).length ∧ ∀ j, k ≤ j → j < k + f → r.take (lenAt j).length = lenAt j → (lenAt j).length ≤ (lenAt (mF r f k b)).length
  | 0, k, b => ⟨Nat.le_refl _, fun j h1 h2 _ => by omega⟩
  | f + 1, k, b => by
    rw [mF]
    obtain ⟨a1, a2⟩ := mF_max (r := r) f (k + 1) (if (lenAt b).length < (lenAt k).length ∧ r.take (lenAt k).length = lenAt k then k else b)
    have hb : (lenAt b).length ≤ (lenAt (if (lenAt b).length < (lenAt k).length ∧ r.take (lenAt k).length = lenAt k then k else b)).length := by
      split
      · rename_i g; omega
      exact Nat.le_refl _
    refine ⟨Nat.le_trans hb a1, fun j h1 h2 h3 => ?_⟩
    rcases Nat.eq_or_lt_of_le h1 with rfl | g
    · refine Nat.le_trans ?_ a1
      split
      · exact Nat.le_refl _
      rename_i g
      apply Classical.byContradiction
      intro hn
      exact g ⟨by omega, h3⟩
    exact a2 j g (by omega) h3
theorem modL_max {r : List Nat} {j : Nat} (hj : j < 12) (h : r.take (lenAt j).length = lenAt j) : (lenAt j).length ≤ (lenAt (modL r)).length := (mF_max 12 0 0).2 j (Nat.zero_le _) (by omega) h
theorem lenAt_2 : ∀ j, j < 12 → (lenAt j).length ≤ 2 := by decide
theorem lenAt_0 : ∀ j, j < 12 → (lenAt j).length = 0 → j = 0 := by decide
theorem lenAt_hd : ∀ k, k < 12 → (lenAt k).length ≠ 0 → ∃ j, j < 12 ∧ lenAt j = [(lenAt k).getD 0 0] := by decide
theorem modL_loc {r : List Nat} {c : Nat} {q : List Nat} (h : r.drop (lenAt (modL r)).length = c :: q) : r = lenAt (modL r) ++ c :: q ∧ ∀ z, modL (lenAt (modL r) ++ c :: z) = modL r := by
  obtain ⟨h1, h2⟩ := modL_ok r
  have hr : r = lenAt (modL r) ++ c :: q := by
    have := List.take_append_drop (lenAt (modL r)).length r
    rw [h, h2] at this; exact this.symm
  refine ⟨hr, fun z => ?_⟩
  generalize hk : modL r = k at *
  rcases Nat.eq_zero_or_pos (lenAt k).length with h0 | h0
  · have hk0 := lenAt_0 k h1 h0
    have hl : lenAt k = [] := List.eq_nil_of_length_eq_zero h0
    rw [hl, List.nil_append] at hr ⊢
    obtain ⟨g1, g2⟩ := modL_ok (c :: z)
    rcases Nat.eq_zero_or_pos (lenAt (modL (c :: z))).length with h3 | h3
    · rw [hk0]; exact lenAt_0 _ g1 h3
    exfalso
    obtain ⟨j, hj, hj2⟩ := lenAt_hd _ g1 (by omega)
    have hc : (lenAt (modL (c :: z))).getD 0 0 = c := by
      rw [← g2]
      obtain ⟨n, hn⟩ : ∃ n, (lenAt (modL (c :: z))).length = n + 1 := ⟨(lenAt (modL (c :: z))).length - 1, by omega⟩
      rw [hn]; rfl
    rw [hc] at hj2
    have := modL_max (r := r) hj (by rw [hj2, hr]; rfl)
    rw [hk, h0, hj2] at this
    have : 1 ≤ 0 := this
    omega
  have : modL (lenAt k ++ c :: z) = modL r := by
    refine mF_congr (fun j hj => ?_) 12 0 0 (by decide)
    have h2' := lenAt_2 j hj
    rw [hr]
    have e : ∀ y : List Nat, (lenAt k ++ c :: y).take (lenAt j).length = (lenAt k ++ [c]).take (lenAt j).length := fun y => by
      rw [show lenAt k ++ c :: y = (lenAt k ++ [c]) ++ y by simp, List.take_append_of_le_length (by rw [List.length_append, List.length_singleton]; omega)]
    rw [e z, e q]
  rw [this, hk]
theorem fx_loc : ∀ (s : List Nat) (n : Nat), fx s = some n → s = s.take n ++ 93 :: s.drop (n + 1) ∧ ∀ z, fx (s.take n ++ 93 :: z) = some n
  | [], n, h => by cases h
  | a :: s, n, h => by
    rw [fx] at h
    by_cases ha : a = 93
    · rw [if_pos ha] at h
      injection h with h; subst h; subst ha
      exact ⟨rfl, fun z => rfl⟩
    rw [if_neg ha] at h
    cases e : fx s with
    | none => rw [e] at h; cases h
    | some m =>
      rw [e] at h
      injection h with h; subst h
      obtain ⟨h1, h2⟩ := fx_loc s m e
      refine ⟨?_, fun z => ?_⟩
      · show a :: s = a :: (s.take m ++ 93 :: s.drop (m + 1)); rw [← h1]
      show fx (a :: (s.take m ++ 93 :: z)) = _
      rw [fx, if_neg ha, h2]; rfl
theorem dropIf_loc (c : Nat) (r : List Nat) : ∃ u, r = u ++ dropIf c r ∧ ∀ a t z, dropIf c r = a :: t → dropIf c (u ++ a :: z) = a :: z := by
  unfold dropIf
  cases r with
  | nil => exact ⟨[], rfl, fun a t z h => by cases h⟩
  | cons b r =>
    by_cases hb : b = c
    · subst hb
      have hd : ∀ y, hdIs (b :: y) b = true := fun y => decide_eq_true rfl
      refine ⟨[b], ?_, fun a t z _ => ?_⟩
      · rw [hd]; rfl
      show (bif hdIs (b :: a :: z) b then _ else _) = _; rw [hd]; rfl
    have hd : ∀ y, hdIs (b :: y) c = false := fun y => decide_eq_false hb
    refine ⟨[], ?_, fun a t z h => ?_⟩
    · rw [hd]; rfl
    rw [hd] at h
    have h : b :: r = a :: t := h
    injection h with h _; subst h
    show (bif hdIs (b :: z) c then _ else _) = _; rw [hd]; rfl
theorem stL_loc {r : List Nat} {S : Nat → Bool} {q : List Nat} (h : stL r = some (S, q)) : ∃ u, r = u ++ q ∧ ∀ z, stL (u ++ z) = some (S, z) := by
  obtain ⟨u1, a1, b1⟩ := dropIf_loc 94 r
  obtain ⟨u2, a2, b2⟩ := dropIf_loc 93 (dropIf 94 r)
  unfold stL at h
  generalize hs1 : dropIf 94 r = s1 at *
  generalize hs2 : dropIf 93 s1 = s2 at *
  cases hn : fx s2 with
  | none => rw [hn] at h; cases h
  | some n =>
    rw [hn] at h
    obtain ⟨c1, c2⟩ := fx_loc s2 n hn
    simp only at h
    split at h
    · rename_i hz
      injection h with h
      injection h with hS hq
      have hr : r = (u1 ++ (u2 ++ (s2.take n ++ [93]))) ++ q := by
        rw [← hq, a1, a2]
        simp only [List.append_assoc, List.singleton_append]
        rw [← c1]
      have tx : ∀ y : List Nat, ((u1 ++ (u2 ++ (s2.take n ++ [93]))) ++ y).take (((u1 ++ (u2 ++ (s2.take n ++ [93]))) ++ y).length - y.length - 1) = u1 ++ (u2 ++ s2.take n) := fun y => by
        have e : ((u1 ++ (u2 ++ (s2.take n ++ [93]))) ++ y).length - y.length - 1 = (u1 ++ (u2 ++ s2.take n)).length := by
          simp only [List.length_append, List.length_singleton]; omega
        rw [e, show (u1 ++ (u2 ++ (s2.take n ++ [93]))) ++ y = (u1 ++ (u2 ++ s2.take n)) ++ ([93] ++ y) by simp only [List.append_assoc], List.take_left]
      refine ⟨u1 ++ (u2 ++ (s2.take n ++ [93])), hr, fun z => ?_⟩
      have d2 : dropIf 93 (u2 ++ (s2.take n ++ 93 :: z)) = s2.take n ++ 93 :: z := by
        cases ht : s2.take n with
        | nil =>
          rw [ht] at c1
          exact b2 93 _ z c1
        | cons a t =>
          rw [ht] at c1
          exact b2 a _ _ c1
      have d1 : dropIf 94 (u1 ++ (u2 ++ (s2.take n ++ 93 :: z))) = u2 ++ (s2.take n ++ 93 :: z) := by
        have hne : ∃ a t, u2 ++ (s2.take n ++ [93]) = a :: t := by
          cases hx : u2 ++ (s2.take n ++ [93]) with
          | nil => have := congrArg List.length hx; simp only [List.length_append, List.length_singleton, List.length_nil] at this; omega
          | cons a t => exact ⟨a, t, rfl⟩
        obtain ⟨a, t, hat⟩ := hne
        have e1 : s1 = a :: (t ++ s2.drop (n + 1)) := by
          rw [a2]
          conv => lhs; rw [c1]
          rw [← List.cons_append, ← hat]; simp only [List.append_assoc, List.singleton_append]
        have e2 : u2 ++ (s2.take n ++ 93 :: z) = a :: (t ++ z) := by
          rw [← List.cons_append, ← hat]; simp only [List.append_assoc, List.singleton_append]
        rw [e2]
        exact b1 a _ _ e1
      have e : (u1 ++ (u2 ++ (s2.take n ++ [93]))) ++ z = u1 ++ (u2 ++ (s2.take n ++ 93 :: z)) := by simp only [List.append_assoc, List.singleton_append]
      have hdr : (s2.take n ++ 93 :: z).drop (n + 1) = z := by
        have hl : (s2.take n).length = n := by
          have := fx_lt hn
          rw [List.length_take]; omega
        rw [show s2.take n ++ 93 :: z = (s2.take n ++ [93]) ++ z by simp only [List.append_assoc, List.singleton_append]]
        have : n + 1 = (s2.take n ++ [93]).length := by rw [List.length_append, List.length_singleton, hl]
        rw [this, List.drop_left]
      unfold stL
      rw [e, d1, d2, c2]
      simp only
      rw [hdr, ← e, tx]
      rw [hq, hr, tx] at hz hS
      rw [if_pos hz, hS]
    cases h
theorem convE_loc {cnt n wid len c : Nat} {w pl mute pos : Bool} {S : Nat → Bool} {r : List Nat} {p : Pc} {q : List Nat} {c' : Nat} {w' pl' : Bool} (h : convE cnt w pl n mute pos wid len c S r = .ok p q c' w' pl') : q = r ∧ ∀ z, convE cnt w pl n mute pos wid len c S z = .ok p z c' w' pl' := by
  unfold convE at h ⊢
  cases h1 : (w || pos) && (pl || (!mute && decide (n = 0)))
  · rw [h1, cond_false] at h
    cases h2 : decide (10000 < wid) || decide (64 < (if (!mute && decide (n = 0)) = true then cnt + 1 else n))
    · rw [h2, cond_false] at h
      injection h with a1 a2 a3 a4 a5
      refine ⟨a2.symm, fun z => ?_⟩
      rw [cond_false, cond_false, a1, a3, a4, a5]
    rw [h2, cond_true] at h; cases h
  rw [h1, cond_true] at h; cases h
theorem convC_loc {cnt n wid len c : Nat} {w pl mute pos : Bool} {r : List Nat} {p : Pc} {q : List Nat} {c' : Nat} {w' pl' : Bool} (h : convC cnt w pl n mute pos wid len (c :: r) = .ok p q c' w' pl') : ∃ u, r = u ++ q ∧ ∀ z, convC cnt w pl n mute pos wid len (c :: (u ++ z)) = .ok p z c' w' pl' := by
  rw [convC] at h
  cases h1 : (decide (sclass c = 0) || !slong ((sclass c : Nat) : Int) (len : Int)) || (decide (sclass c = 5) && (mute || decide (0 < wid)))
  · rw [h1, cond_false] at h
    by_cases hc : c = 91
    · rw [if_pos hc] at h
      cases hs : stL r with
      | none => rw [hs] at h; cases h
      | some x =>
        obtain ⟨S, q1⟩ := x
        rw [hs] at h
        obtain ⟨e, h2⟩ := convE_loc h
        obtain ⟨u, a, b⟩ := stL_loc hs
        subst e
        refine ⟨u, a, fun z => ?_⟩
        rw [convC, h1, cond_false, if_pos hc, b]
        exact h2 z
    rw [if_neg hc] at h
    obtain ⟨e, h2⟩ := convE_loc h
    subst e
    refine ⟨[], rfl, fun z => ?_⟩
    rw [convC, h1, cond_false, if_neg hc]
    exact h2 z
  rw [h1, cond_true] at h; cases h
noncomputable def tailL (cnt : Nat) (w pl : Bool) (n : Nat) (mute pos : Bool) (r : List Nat) : CR := convC cnt w pl n mute pos (dgL 0 r).1 (modL (dgL 0 r).2) ((dgL 0 r).2.drop (lenAt (modL (dgL 0 r).2)).length)
theorem tailL_loc {cnt n : Nat} {w pl mute pos : Bool} {r : List Nat} {p : Pc} {q : List Nat} {c' : Nat} {w' pl' : Bool} (h : tailL cnt w pl n mute pos r = .ok p q c' w' pl') :
    ∃ u x, r = u ++ x :: (r.drop (u.length + 1)) ∧ (dgL 0 r).2 = x :: r.drop (u.length + 1) ∧ ∃ v, r.drop (u.length + 1) = v ++ q ∧ ∀ z, tailL cnt w pl n mute pos (u ++ x :: (v ++ z)) = .ok p z c' w' pl' ∧ dgL 0 (u ++ x :: (v ++ z)) = ((dgL 0 r).1, x :: (v ++ z)) := by
  unfold tailL at h
  generalize hd : dgL 0 r = d at *
  obtain ⟨wid, r2⟩ := d
  simp only at h
  cases hc : r2.drop (lenAt (modL r2)).length with
  | nil => rw [hc] at h; cases h
  | cons c r4 =>
    rw [hc] at h
    obtain ⟨t, h1, h2⟩ := convC_loc h
    obtain ⟨m1, m2⟩ := modL_loc hc
    obtain ⟨x, y, hxy⟩ : ∃ x y, r2 = x :: y := by
      cases r2 with
      | nil => rw [List.drop_nil] at hc; cases hc
      | cons x y => exact ⟨x, y, rfl⟩
    subst hxy
    obtain ⟨u, g1, g2⟩ := dgL_loc 0 r wid x y hd
    have hdr : r.drop (u.length + 1) = y := by
      rw [g1, show u ++ x :: y = (u ++ [x]) ++ y by simp, show u.length + 1 = (u ++ [x]).length by simp, List.drop_left]
    generalize hk : modL (x :: y) = k at *
    have hv : ∃ v, y = v ++ q ∧ ∀ z, x :: (v ++ z) = lenAt k ++ c :: (t ++ z) := by
      cases hl : lenAt k with
      | nil =>
        rw [hl, List.nil_append] at m1
        injection m1 with e1 e2
        subst e1
        exact ⟨t, by rw [e2, h1], fun z => rfl⟩
      | cons a l =>
        rw [hl] at m1
        injection m1 with e1 e2
        subst e1
        exact ⟨l ++ c :: t, by rw [e2, h1]; simp, fun z => by simp⟩
    obtain ⟨v, v1, v2⟩ := hv
    refine ⟨u, x, by rw [hdr]; exact g1, by rw [hdr], v, by rw [hdr]; exact v1, fun z => ⟨?_, g2 _⟩⟩
    unfold tailL
    rw [g2]
    simp only
    rw [v2, m2]
    rw [show (lenAt k ++ c :: (t ++ z)).drop (lenAt k).length = c :: (t ++ z) from List.drop_left]
    exact h2 z
theorem hdIs_app {u : List Nat} {x : Nat} (y z : List Nat) (c : Nat) : hdIs (u ++ x :: y) c = hdIs (u ++ x :: z) c := by cases u <;> rfl
theorem convL_loc {cnt : Nat} {w pl : Bool} {r : List Nat} {p : Pc} {q : List Nat} {c' : Nat} {w' pl' : Bool} (h : convL cnt w pl r = .ok p q c' w' pl') : ∃ v, r = v ++ q ∧ ∀ z, convL cnt w pl (v ++ z) = .ok p z c' w' pl' := by
  have eq : ∀ y n m po r1, argL y = (n, m, po, r1) → convL cnt w pl y = tailL cnt w pl n m po r1 := fun y n m po r1 e => by unfold convL tailL; rw [e]
  cases h42 : hdIs r 42
  · cases h36 : decide (0 < (dgL 0 r).1) && hdIs (dgL 0 r).2 36
    · have ha : argL r = (0, false, false, r) := by unfold argL; rw [h42, h36]; rfl
      rw [eq _ _ _ _ _ ha] at h
      obtain ⟨u, x, a1, a2, v, a3, a4⟩ := tailL_loc h
      refine ⟨u ++ x :: v, ?_, fun z => ?_⟩
      · rw [List.append_assoc, List.cons_append, ← a3]; exact a1
      rw [List.append_assoc, List.cons_append]
      have hb : argL (u ++ x :: (v ++ z)) = (0, false, false, u ++ x :: (v ++ z)) := by
        unfold argL
        rw [hdIs_app (u := u) (x := x) (v ++ z) (r.drop (u.length + 1)) 42, ← a1, h42, (a4 z).2]
        rw [a2] at h36
        simp only
        rw [show hdIs (x :: (v ++ z)) 36 = hdIs (x :: r.drop (u.length + 1)) 36 from rfl, h36]; rfl
      rw [eq _ _ _ _ _ hb]; exact (a4 z).1
    have ha : argL r = ((dgL 0 r).1, false, true, (dgL 0 r).2.drop 1) := by unfold argL; rw [h42, h36]; rfl
    rw [eq _ _ _ _ _ ha] at h
    obtain ⟨u, x, a1, a2, v, a3, a4⟩ := tailL_loc h
    rw [Bool.and_eq_true] at h36
    generalize hd : dgL 0 r = d at *
    obtain ⟨n, r2⟩ := d
    cases r2 with
    | nil => cases h36.2
    | cons y r2 =>
      have hy : y = 36 := of_decide_eq_true h36.2
      subst hy
      obtain ⟨s, g1, g2⟩ := dgL_loc 0 r n 36 r2 hd
      simp only [List.drop_succ_cons, List.drop_zero] at a1 a2 a3 a4
      refine ⟨s ++ 36 :: (u ++ x :: v), ?_, fun z => ?_⟩
      · rw [g1, a1, a3]; simp
      have e : (s ++ 36 :: (u ++ x :: v)) ++ z = s ++ 36 :: (u ++ x :: (v ++ z)) := by simp
      rw [e]
      have hb : argL (s ++ 36 :: (u ++ x :: (v ++ z))) = (n, false, true, u ++ x :: (v ++ z)) := by
        unfold argL
        rw [hdIs_app (u := s) (x := 36) (u ++ x :: (v ++ z)) r2 42, ← g1, h42, g2]
        simp only
        have h36' : decide (0 < n) = true := h36.1
        rw [h36']; rfl
      rw [eq _ _ _ _ _ hb]; exact (a4 z).1
  have ha : argL r = (0, true, false, r.drop 1) := by unfold argL; rw [h42]; rfl
  rw [eq _ _ _ _ _ ha] at h
  obtain ⟨u, x, a1, a2, v, a3, a4⟩ := tailL_loc h
  cases r with
  | nil => cases h42
  | cons y r =>
    have hy : y = 42 := of_decide_eq_true h42
    subst hy
    simp only [List.drop_succ_cons, List.drop_zero] at a1 a2 a3 a4
    refine ⟨42 :: (u ++ x :: v), ?_, fun z => ?_⟩
    · rw [a1, a3]; simp
    have e : (42 :: (u ++ x :: v)) ++ z = 42 :: (u ++ x :: (v ++ z)) := by simp
    rw [e]
    have hb : argL (42 :: (u ++ x :: (v ++ z))) = (0, true, false, u ++ x :: (v ++ z)) := rfl
    rw [eq _ _ _ _ _ hb]; exact (a4 z).1
theorem runL_all (f : Nat → Bool) : ∀ r, ∀ c ∈ (runL f r).1, f c = true
  | [], _, h => by cases h
  | a :: r, c, h => by
    rw [runL] at h
    cases e : f a
    · rw [e] at h; cases h
    rw [e] at h
    have h : c ∈ a :: (runL f r).1 := h
    rcases List.mem_cons.1 h with rfl | h
    · exact e
    exact runL_all f r c h
theorem runL_stop (f : Nat → Bool) : ∀ r a t, (runL f r).2 = a :: t → f a = false
  | [], _, _, h => by cases h
  | b :: r, a, t, h => by
    rw [runL] at h
    cases e : f b
    · rw [e] at h
      have h : b :: r = a :: t := h
      injection h with h _; rw [← h]; exact e
    rw [e] at h
    exact runL_stop f r a t h
theorem runL_of {f : Nat → Bool} : ∀ (x z : List Nat), (∀ c ∈ x, f c = true) → (∀ a t, z = a :: t → f a = false) → runL f (x ++ z) = (x, z)
  | [], z, _, h => by
    cases z with
    | nil => rfl
    | cons a t => rw [List.nil_append, runL, h a t rfl]; rfl
  | c :: x, z, h1, h2 => by
    rw [List.cons_append, runL, h1 c (List.mem_cons_self ..), runL_of x z (fun y hy => h1 y (List.mem_cons_of_mem _ hy)) h2]; rfl
def folw (c : Nat) (z : List Nat) : Prop := ∀ a t, z = a :: t → (c = 32 → swhite a = false) ∧ (c = 0 → splain a = false ∧ a ≠ 0)
theorem convE_conv {cnt n wid len c : Nat} {w pl mute pos : Bool} {S : Nat → Bool} {r : List Nat} {p : Pc} {q : List Nat} {c' : Nat} {w' pl' : Bool} (h : convE cnt w pl n mute pos wid len c S r = .ok p q c' w' pl') : p.conv = c := by
  unfold convE at h
  cases h1 : (w || pos) && (pl || (!mute && decide (n = 0)))
  · rw [h1, cond_false] at h
    cases h2 : decide (10000 < wid) || decide (64 < (if (!mute && decide (n = 0)) = true then cnt + 1 else n))
    · rw [h2, cond_false] at h
      injection h with a1; rw [← a1]
    rw [h2, cond_true] at h; cases h
  rw [h1, cond_true] at h; cases h
theorem convC_conv {cnt n wid len : Nat} {w pl mute pos : Bool} {r : List Nat} {p : Pc} {q : List Nat} {c' : Nat} {w' pl' : Bool} (h : convC cnt w pl n mute pos wid len r = .ok p q c' w' pl') : sclass p.conv ≠ 0 := by
  cases r with
  | nil => cases h
  | cons c r =>
    rw [convC] at h
    cases h1 : (decide (sclass c = 0) || !slong ((sclass c : Nat) : Int) (len : Int)) || (decide (sclass c = 5) && (mute || decide (0 < wid)))
    · rw [h1, cond_false] at h
      have hs : sclass c ≠ 0 := by
        simp only [Bool.or_eq_false_iff, decide_eq_false_iff_not] at h1
        exact h1.1.1
      by_cases hc : c = 91
      · rw [if_pos hc] at h
        cases hst : stL r with
        | none => rw [hst] at h; cases h
        | some x => rw [hst] at h; rw [convE_conv h]; exact hs
      rw [if_neg hc] at h; rw [convE_conv h]; exact hs
    rw [h1, cond_true] at h; cases h
theorem sclass_plain {c : Nat} (h : sclass c ≠ 0) : c ≠ 0 ∧ c ≠ 32 ∧ c ≠ 37 := ⟨fun e => h (by subst e; rfl), fun e => h (by subst e; rfl), fun e => h (by subst e; rfl)⟩
theorem pieceL_loc {cnt : Nat} {w pl : Bool} {r : List Nat} {p : Pc} {q : List Nat} {c' : Nat} {w' pl' : Bool} (h : pieceL cnt w pl r = .ok p q c' w' pl') :
    folw p.conv q ∧ ∃ v, v ≠ [] ∧ r = v ++ q ∧ ∀ z, folw p.conv z → pieceL cnt w pl (v ++ z) = .ok p z c' w' pl' := by
  cases r with
  | nil => cases h
  | cons c r =>
    rw [pieceL] at h
    cases hw : swhite c
    · rw [hw, cond_false] at h
      by_cases h37 : c = 37
      · rw [if_pos h37] at h
        subst h37
        cases hp : hdIs r 37
        · rw [hp, cond_false] at h
          cases hc : convL cnt w pl r with
          | bad => rw [hc] at h; cases h
          | lim => rw [hc] at h; cases h
          | ok p1 q1 c1 w1 pl1 =>
            rw [hc] at h
            injection h with e1 e2 e3 e4 e5
            subst e1; subst e2; subst e3; subst e4; subst e5
            obtain ⟨v, a, b⟩ := convL_loc hc
            have hcl := sclass_plain (convC_conv hc)
            have hx : ∃ x y, v = x :: y := by
              cases v with
              | nil =>
                exfalso
                have := (convL_ok hc).1
                rw [List.nil_append] at a
                rw [a] at this; omega
              | cons x y => exact ⟨x, y, rfl⟩
            obtain ⟨x, y, hxy⟩ := hx
            subst hxy
            refine ⟨fun a t _ => ⟨fun e => absurd e hcl.2.1, fun e => absurd e hcl.1⟩, 37 :: x :: y, (fun e => by cases e), by rw [a]; rfl, fun z _ => ?_⟩
            rw [List.cons_append, pieceL, hw, cond_false, if_pos rfl]
            have : hdIs ((x :: y) ++ z) 37 = false := by rw [← hp, a]; rfl
            rw [this, cond_false, b]
        rw [hp, cond_true] at h
        injection h with e1 e2 e3 e4 e5
        subst e1; subst e2; subst e3; subst e4; subst e5
        cases r with
        | nil => cases hp
        | cons x r =>
          have hx : x = 37 := of_decide_eq_true hp
          subst hx
          refine ⟨fun a t _ => ⟨fun e => absurd e (by show (37 : Nat) ≠ 32; decide), fun e => absurd e (by show (37 : Nat) ≠ 0; decide)⟩, [37, 37], (fun e => by cases e), rfl, fun z _ => ?_⟩
          rw [List.cons_append, pieceL, hw, cond_false, if_pos rfl]; rfl
      rw [if_neg h37] at h
      cases h0 : hdIs (runL splain (c :: r)).2 0
      · rw [h0, cond_false] at h
        injection h with e1 e2 e3 e4 e5
        subst e3; subst e4; subst e5
        have hall := runL_all splain (c :: r)
        have hstop := runL_stop splain (c :: r)
        have happ := runL_app splain (c :: r)
        by_cases hc0 : c = 0
        · exfalso
          subst hc0
          have : (runL splain (0 :: r)).2 = 0 :: r := rfl
          rw [this] at h0; cases h0
        have hpc : splain c = true := by
          unfold splain
          rw [decide_eq_true hc0, decide_eq_true h37, hw]; rfl
        have hx : ∃ y, (runL splain (c :: r)).1 = c :: y := by rw [runL, hpc]; exact ⟨_, rfl⟩
        obtain ⟨y, hy⟩ := hx
        generalize hX : (runL splain (c :: r)).1 = X at *
        generalize hQ : (runL splain (c :: r)).2 = Q at *
        subst e1; subst e2
        refine ⟨fun a t e => ⟨fun e2 => absurd e2 (by show (0 : Nat) ≠ 32; decide), fun _ => ⟨hstop a t e, fun ea => by rw [e, ea] at h0; cases h0⟩⟩, X, by rw [hy]; exact (fun e => by cases e), happ.symm, fun z hz => ?_⟩
        have hru := runL_of X z hall fun a t e => (hz a t e).2 rfl |>.1
        rw [hy] at hru ⊢
        rw [List.cons_append] at hru ⊢
        rw [pieceL, hw, cond_false, if_neg h37, hru]
        simp only
        have : hdIs z 0 = false := by
          cases z with
          | nil => rfl
          | cons a t => exact decide_eq_false ((hz a t rfl).2 rfl).2
        rw [this]; rfl
      rw [h0, cond_true] at h; cases h
    rw [hw, cond_true] at h
    injection h with e1 e2 e3 e4 e5
    subst e3; subst e4; subst e5
    have hall := runL_all swhite (c :: r)
    have hstop := runL_stop swhite (c :: r)
    have happ := runL_app swhite (c :: r)
    have hx : ∃ y, (runL swhite (c :: r)).1 = c :: y := by rw [runL, hw]; exact ⟨_, rfl⟩
    obtain ⟨y, hy⟩ := hx
    generalize hX : (runL swhite (c :: r)).1 = X at *
    generalize hQ : (runL swhite (c :: r)).2 = Q at *
    subst e1; subst e2
    refine ⟨fun a t e => ⟨fun _ => hstop a t e, fun e2 => absurd e2 (by show (32 : Nat) ≠ 0; decide)⟩, X, by rw [hy]; exact (fun e => by cases e), happ.symm, fun z hz => ?_⟩
    have hru := runL_of X z hall fun a t e => (hz a t e).1 rfl
    rw [hy] at hru ⊢
    rw [List.cons_append] at hru ⊢
    rw [pieceL, hw, cond_true, hru]
end Go.V
set_option maxHeartbeats 400000
set_option maxRecDepth 100000
namespace Go.V
open Go.RowKit Go.Proofs
end Go.V
set_option maxHeartbeats 8000000
set_option maxRecDepth 100000
set_option synthInstance.maxSize 100000
set_option synthInstance.maxHeartbeats 2000000
namespace Go.V
open Go.RowKit Go.Proofs
theorem q_pcB {env : List D} {H : Heap} {dst : Option Tmp} {x y : Operand} {ty T' : TypeId} {pos : String} {aft : Array Edge} {gd : Option (Nat × Bool)} {p : Pc} {s : ByteArray} {a w n : Int} {c : Nat} (hx : evO Cg env x = some (pcA p)) (hy : evO Cg env y = some (.agg [.str s, .int .i64 a, .int .i64 w, .int .i64 n, .int .u8 (c : Int), .int .u64 0, .int .u64 0, .int .u64 0, .int .u64 0])) (hp : PcF p) (hq : PcF (bareP s a w n c)) :
    OpQ Cg ⟨dst, .binOp .eql Zab x y T', ty, pos, aft, gd⟩ env H (.bool (pEq p (bareP s a w n c))) := Zf8 hx (by rw [hy, bare_cells]) hp hq
theorem pEq_rfl (p : Pc) : pEq p p = true := by unfold pEq; exact decide_eq_true ⟨rfl, rfl, rfl, rfl, rfl, rfl, rfl, rfl, rfl⟩
theorem wfS {a w n : Int} {c : Nat} {S : Nat → Bool} (ha : (Lit.int .i64 a).wf = true) (hw : (Lit.int .i64 w).wf = true) (hn : (Lit.int .i64 n).wf = true) (hc : c < 256) : PcF ⟨ByteArray.empty, a, w, n, c, S⟩ := ⟨⟨by show (0 : Nat) ≤ _; decide, hc⟩, ha, hw, hn⟩
theorem Zco : PC Cg Zff [] (fun o => o = .ret (.bool true)) := by
  obtain ⟨S, hS⟩ : ∃ S, S = setx := ⟨_, rfl⟩
  obtain ⟨S4, hS4⟩ : ∃ S4, S4 = setx4 := ⟨_, rfl⟩
  obtain ⟨l1, hl1⟩ : ∃ l1, l1 = lx1 := ⟨_, rfl⟩
  obtain ⟨l2, hl2⟩ : ∃ l2, l2 = lx2 := ⟨_, rfl⟩
  have h100 : S 100 = true := by rw [hS]; rfl
  have h98 : S 98 = false := by rw [hS]; rfl
  have f1 : ∀ p ∈ l1, PcF p := by
    rw [hl1]
    intro p hp
    simp only [lx1, List.mem_cons, List.not_mem_nil, or_false] at hp
    rcases hp with rfl | rfl | rfl | rfl | rfl
    · exact wfS (by decide) (by decide) (by decide) (by decide)
    · exact wfS (by decide) (by decide) (by decide) (by decide)
    · exact ⟨⟨by decide, by decide⟩, by decide, by decide, by decide⟩
    · exact wfS (by decide) (by decide) (by decide) (by decide)
    exact wfS (by decide) (by decide) (by decide) (by decide)
  have f2 : ∀ p ∈ l2, PcF p := by
    rw [hl2]
    intro p hp
    simp only [lx2, List.mem_cons, List.not_mem_nil, or_false] at hp
    rcases hp with rfl | rfl
    · exact wfS (by decide) (by decide) (by decide) (by decide)
    exact wfS (by decide) (by decide) (by decide) (by decide)
  have g2 : ∀ p ∈ l2, p.lit.size ≤ 1048576 := by
    rw [hl2]
    intro p hp
    simp only [lx2, List.mem_cons, List.not_mem_nil, or_false] at hp
    rcases hp with rfl | rfl
    · decide
    decide
  have n1 : l1.length = 5 := by rw [hl1]; rfl
  have n2 : l2.length = 2 := by rw [hl2]; rfl
  have c1 : PC Cg ZaX [.str sx1] (fun o => o = .ret (.tup [slP l1, .int .i64 0, .int .i64 0])) := by have := Zah sx1; rw [px1, ← hl1] at this; exact this
  have c2 : PC Cg ZaX [.str sx2] (fun o => o = .ret (.tup [slP l2, .int .i64 0, .int .i64 0])) := by have := Zah sx2; rw [px2, ← hl2] at this; exact this
  have c3 : PC Cg ZaX [.str sx3] (fun o => o = .ret (.tup [slP [], .int .i64 6, .int .i64 4])) := by have := Zah sx3; rw [px3] at this; exact this
  have c4 : PC Cg Zcv [slP l2] (fun o => o = .ret (.tup [.str sx2, .int .i64 0])) := by have := ZfT l2 f2 g2 (by omega); rw [show sPrint l2 = (sx2, 0) by rw [hl2]; exact prn_2] at this; exact this
  have c5 : PC Cg ZbJ [.str sx4] (fun o => o = .ret (.tup [setD S4, .int .i64 0])) := by have := PC.g (Zd0 sx4); rw [rx4, ← hS4] at this; exact this
  have c6 : PC Cg ZbL [setD S4] (fun o => o = .ret (.tup [.str (bytesOf [97, 45, 99, 101, 45]), .int .i64 0])) := by have := PC.g (Zd2 S4); rw [show setTx S4 = ([97, 45, 99, 101, 45], 0) by rw [hS4]; exact tx4] at this; exact this
  have c7 : PC Cg ZcM [slP l1] (fun o => o = .ret (.tup [.int .i64 2, .int .i64 0])) := by have := Zfj l1 f1 (by omega); rw [show sArgs l1 = (2, 0) by rw [hl1]; exact args_1] at this; exact this
  have c8 : PC Cg ZbK [slP l2] (fun o => o = .ret (.tup [.bool false, .int .i64 0])) := by have := Zfk l2 f2 (by omega); rw [show sOrd l2 = (false, 0) by rw [hl2]; exact ord_2] at this; exact this
  have d0 := pcs_drop l1 0 (by omega)
  have d1 := pcs_drop l1 1 (by omega)
  have d3 := pcs_drop l1 3 (by omega)
  have d4 := pcs_drop l1 4 (by omega)
  have e1 := pcs_drop l2 1 (by omega)
  have m1 : pcs l1 ≠ [] := pcs_ne (i := 0) (by omega)
  have m2 : pcs l2 ≠ [] := pcs_ne (i := 0) (by omega)
  rw [show l1.getD 0 pcZ = bareP ByteArray.empty 1 0 0 100 by rw [hl1]; rfl] at d0
  rw [show l1.getD 1 pcZ = bareP ByteArray.empty 0 0 0 32 by rw [hl1]; rfl] at d1
  rw [show l1.getD 3 pcZ = bareP ByteArray.empty 0 5 0 115 by rw [hl1]; rfl] at d3
  rw [show l1.getD 4 pcZ = bareP ByteArray.empty 2 0 3 102 by rw [hl1]; rfl] at d4
  rw [show l2.getD 1 pcZ = ⟨ByteArray.empty, 1, 0, 0, 91, S⟩ by rw [hl2, hS]; rfl] at e1
  have w0 : PcF (bareP ByteArray.empty 1 0 0 100) := wfS (by decide) (by decide) (by decide) (by decide)
  have w1 : PcF (bareP ByteArray.empty 0 0 0 32) := wfS (by decide) (by decide) (by decide) (by decide)
  have w3 : PcF (bareP ByteArray.empty 0 5 0 115) := wfS (by decide) (by decide) (by decide) (by decide)
  have w4 : PcF (bareP ByteArray.empty 2 0 3 102) := wfS (by decide) (by decide) (by decide) (by decide)
  clear hS hS4 hl1 hl2
  refine PC.rn Zdj Ze4 Ze5 (rs := [.tmp 0]) (by rw [Ze6]) ?_
  refine ARun.seq (ARun.region ?_); refine zza ?_; refine AOps.nil (ARun.seq (ARun.region ?_))
  refine zzc rfl rfl (c1) ?_
  refine zzm ?_; refine zze ?_; refine zze ?_; refine zze ?_; refine zza ?_; refine zza ?_; refine zza ?_; refine AOps.nil (ARun.seq (ARun.region ?_))
  refine zzc rfl rfl (c2) ?_
  refine zzm ?_; refine zze ?_; refine zze ?_; refine zze ?_; refine zza ?_; refine zza ?_; refine zza ?_; refine AOps.nil (ARun.seq (ARun.region ?_))
  refine zzc rfl rfl (c3) ?_
  refine zzm ?_; refine zze ?_; refine zze ?_; refine zze ?_; refine zza ?_; refine zza ?_; refine zza ?_; refine AOps.nil (ARun.seq (ARun.region ?_)); refine zzm ?_
  refine zzc rfl rfl (c4) ?_
  refine zzm ?_; refine zze ?_; refine zze ?_; refine zza ?_; refine zza ?_; refine AOps.nil (ARun.seq (ARun.region ?_))
  refine zzc rfl rfl (c5) ?_
  refine zzm ?_; refine zze ?_; refine zze ?_
  refine ZbI rfl rfl rfl rfl rfl rfl rfl rfl rfl rfl rfl ?_
  refine zza ?_; refine AOps.nil (ARun.seq (ARun.region ?_)); refine zzL ?_
  refine zzc rfl rfl (c6) ?_
  refine zzm ?_; refine zze ?_; refine zze ?_; refine zza ?_; refine zza ?_; refine AOps.nil (ARun.seq (ARun.region ?_)); refine zzm ?_
  refine zzc rfl rfl (c7) ?_
  refine zzm ?_; refine zze ?_; refine zze ?_; refine zza ?_; refine zza ?_; refine AOps.nil (ARun.seq (ARun.region ?_)); refine zzm ?_
  refine zzc rfl rfl (c8) ?_
  refine zzm ?_; refine zze ?_; refine zze ?_; refine zza ?_; refine zza ?_; refine AOps.nil (ARun.seq (ARun.seq (ARun.region ?_))); refine zzm ?_; refine zzi ?_; refine zzm ?_; refine zzm ?_; refine zzi ?_; refine zzp ?_; refine zzm ?_; refine zzm ?_; refine zzi ?_; refine zzp ?_; refine zzm ?_; refine zzm ?_; refine zzi ?_; refine zzp ?_; refine zzm ?_; refine zzm ?_; refine zzi ?_; refine zzp ?_; refine zzm ?_; refine zzm ?_; refine zzi ?_; refine zzp ?_; refine zzm ?_; refine zzm ?_; refine zzi ?_; refine zzp ?_; refine zzm ?_; refine zzm ?_; refine zzi ?_; refine zzp ?_; refine zzm ?_; refine zzm ?_; refine zzi ?_; refine zzp ?_; refine zzm ?_; refine zzm ?_; refine zzN ?_
  refine y_op rfl (OpQ.cast (d' := .bool false) (q_int rfl rfl rfl) (by rw [n1]; rfl)) ?_
  refine zzp ?_; refine zzm ?_; refine zzm ?_; refine zzN ?_
  refine y_op rfl (OpQ.cast (d' := .bool false) (q_int rfl rfl rfl) (by rw [n2]; rfl)) ?_
  refine zzp ?_; refine zzm ?_; refine zzm ?_; refine zzi ?_; refine zzp ?_; refine zzm ?_; refine zzm ?_; refine zzp ?_; refine AOps.nil ?_
  refine ARun.condF rfl ?_
  refine ARun.skip (ARun.seq (ARun.region ?_)); refine zzm ?_
  refine y_op rfl (Zav rfl rfl rfl rfl (by omega) (by omega) m1 d0) ?_
  refine zzL ?_
  refine y_op rfl (Za8 rfl rfl rfl rfl rfl) ?_
  refine y_op rfl (OpQ.cast (d' := .bool true) (q_pcB (p := bareP ByteArray.empty 1 0 0 100) (s := ByteArray.empty) (a := 1) (w := 0) (n := 0) (c := 100) rfl rfl w0 w0) (congrArg D.bool (pEq_rfl _))) ?_
  refine zzm ?_; refine zzm ?_
  refine y_op rfl (Zav rfl rfl rfl rfl (by omega) (by omega) m1 d1) ?_
  refine zzL ?_
  refine y_op rfl (Za8 rfl rfl rfl rfl rfl) ?_
  refine y_op rfl (OpQ.cast (d' := .bool true) (q_pcB (p := bareP ByteArray.empty 0 0 0 32) (s := ByteArray.empty) (a := 0) (w := 0) (n := 0) (c := 32) rfl rfl w1 w1) (congrArg D.bool (pEq_rfl _))) ?_
  refine zzp ?_; refine zzm ?_; refine zzm ?_
  refine y_op rfl (Zav rfl rfl rfl rfl (by omega) (by omega) m1 d3) ?_
  refine zzL ?_
  refine y_op rfl (Za8 rfl rfl rfl rfl rfl) ?_
  refine y_op rfl (OpQ.cast (d' := .bool true) (q_pcB (p := bareP ByteArray.empty 0 5 0 115) (s := ByteArray.empty) (a := 0) (w := 5) (n := 0) (c := 115) rfl rfl w3 w3) (congrArg D.bool (pEq_rfl _))) ?_
  refine zzp ?_; refine zzm ?_; refine zzm ?_
  refine y_op rfl (Zav rfl rfl rfl rfl (by omega) (by omega) m1 d4) ?_
  refine zzL ?_
  refine y_op rfl (Za8 rfl rfl rfl rfl rfl) ?_
  refine y_op rfl (OpQ.cast (d' := .bool true) (q_pcB (p := bareP ByteArray.empty 2 0 3 102) (s := ByteArray.empty) (a := 2) (w := 0) (n := 3) (c := 102) rfl rfl w4 w4) (congrArg D.bool (pEq_rfl _))) ?_
  refine zzp ?_; refine zza ?_; refine AOps.nil (ARun.seq (ARun.region ?_)); refine zzm ?_; refine zzm ?_; refine zzm ?_
  refine y_op rfl (OpQ.cast (d' := .bool true) (Ze0 rfl rfl) (congrArg D.bool (by rw [str_eq]; exact decide_eq_true rfl))) ?_
  refine zzp ?_; refine zzm ?_; refine zzm ?_
  refine y_op rfl (OpQ.cast (d' := .bool true) (Ze0 rfl rfl) (congrArg D.bool (by rw [str_eq]; exact decide_eq_true rfl))) ?_
  refine zzp ?_; refine zzm ?_; refine zzm ?_
  refine y_op rfl (Zav rfl rfl rfl rfl (by omega) (by omega) m2 e1) ?_
  refine zzf ?_; refine zzL ?_
  refine y_op rfl (OpQ.cast (d' := .bool true) (q_call rfl rfl (PC.g (ZbU S 100 (by decide)))) (congrArg D.bool h100)) ?_
  refine zzp ?_; refine zzm ?_; refine zzm ?_
  refine y_op rfl (Zav rfl rfl rfl rfl (by omega) (by omega) m2 e1) ?_
  refine zzf ?_; refine zzL ?_
  refine y_op rfl (OpQ.cast (d' := .bool false) (q_call rfl rfl (PC.g (ZbU S 98 (by decide)))) (congrArg D.bool h98)) ?_
  refine zzn ?_; refine zzp ?_; refine zza ?_; refine AOps.nil ?_
  refine ARun.ret ?_
  refine ⟨_, _, _, .tmp rfl .nil, .cons (.same _) .nil, rfl, ?_⟩
  rfl
end Go.V
set_option maxHeartbeats 4000000
set_option maxRecDepth 100000
namespace Go.V
open Go.RowKit Go.Proofs
/-! A SET's TEXT, READ AGAIN. -/
theorem readS_caret {r : List Nat} (hb : ∀ c ∈ r, c < 256) (hl : r.length + 1 ≤ 2000) : readS (bytesOf (94 :: r)) = readR true r := by
  have hs : sby (bytesOf (94 :: r)) = 94 :: r := sby_bytesOf (fun c hc => (List.mem_cons.1 hc).elim (fun e => by omega) (hb c))
  have hz : (bytesOf (94 :: r)).size = r.length + 1 := by rw [bytesOf_size, List.length_cons]
  have hp : isPre (bytesOf (94 :: r)) sCaret = true := by
    rw [isCaret, hs, decide_eq_true (by rw [hz]; omega)]; rfl
  unfold readS
  rw [if_neg (by rw [hz]; omega), hp]
  congr 1
  unfold cutR
  rw [hp, cond_true]
  show sby ((bytesOf (94 :: r)).extract 1 (bytesOf (94 :: r)).size) = r
  rw [hz, Nat.add_comm r.length 1, sby_cut (by rw [hz]; omega), hs]
  exact List.take_length
theorem readS_plain {l : List Nat} (hb : ∀ c ∈ l, c < 256) (hl : l.length ≤ 2000) (h : ∀ r, l ≠ 94 :: r) : readS (bytesOf l) = readR false l := by
  have hs : sby (bytesOf l) = l := sby_bytesOf hb
  have hz : (bytesOf l).size = l.length := bytesOf_size l
  have hp : isPre (bytesOf l) sCaret = false := by
    rw [isCaret, hs]
    cases l with
    | nil => rfl
    | cons c r =>
      have : (c :: r).getD 0 0 ≠ 94 := fun e => h r (by rw [show c = 94 from e])
      rw [decide_eq_false this, Bool.and_false]
  unfold readS
  rw [if_neg (by rw [hz]; omega), hp]
  unfold cutR
  rw [hp, cond_false, hs]
theorem readS_ok {s : ByteArray} {A : Nat → Bool} (h : readS s = (A, 0)) : s.size ≤ 2000 ∧ 1 ≤ s.size ∧ A 0 = false := by
  by_cases h1 : 2000 < s.size
  · unfold readS at h; rw [if_pos h1] at h; injection h with _ h; cases h
  refine ⟨by omega, ?_⟩
  have hb : ∀ c ∈ sby s, c < 256 := fun c hc => sby_mem hc
  have hl := sby_len s
  have hs := bytesOf_sby s
  generalize sby s = l at *
  rw [← hs] at h
  have key : ∀ (neg : Bool) (r : List Nat), readR neg r = (A, 0) → r ≠ [] ∧ A 0 = false := by
    intro neg r hr
    cases hg : rdBad r
    · refine ⟨(fun e => by rw [e] at hg; cases hg), ?_⟩
      cases hi : rdI sempty r with
      | none => rw [readR_none hg hi] at hr; injection hr with _ hr; cases hr
      | some B =>
        rw [readR_some hg hi] at hr
        injection hr with hr
        have h0 : B 0 = false := by
          refine rdI_nz _ _ _ (fun c hc e => ?_) rfl hi
          subst e
          unfold rdBad at hg
          rw [Bool.or_eq_false_iff, Bool.or_eq_false_iff] at hg
          exact of_decide_eq_false hg.1.2 hc
        rw [← hr]
        cases neg
        · exact h0
        show (!B 0 && decide ((0 : Nat) ≠ 0)) = false
        rw [decide_eq_false (by omega), Bool.and_false]
    rw [readR_bad hg] at hr; injection hr with _ hr; cases hr
  cases l with
  | nil =>
    rw [readS_plain hb (by show (0 : Nat) ≤ _; omega) (fun r e => by cases e)] at h
    exact absurd rfl (key _ _ h).1
  | cons c r =>
    rw [List.length_cons] at hl
    refine ⟨by omega, ?_⟩
    by_cases hc : c = 94
    · subst hc
      rw [readS_caret (fun x hx => hb x (List.mem_cons_of_mem _ hx)) (by omega)] at h
      exact (key _ _ h).2
    rw [readS_plain hb (by rw [List.length_cons]; omega) (fun r' e => hc (by injection e))] at h
    exact (key _ _ h).2
end Go.V
set_option maxHeartbeats 1000000
set_option maxRecDepth 100000
namespace Go.V
open Go.RowKit Go.Proofs
theorem classF_mem : ∀ c, sclass c ≠ 0 → c ∈ [100, 105, 117, 111, 120, 88, 98, 101, 69, 102, 70, 103, 71, 97, 65, 99, 115, 91, 112, 110] := by
  intro c h
  apply Classical.byContradiction
  intro hn
  simp only [List.mem_cons, List.not_mem_nil, or_false, not_or] at hn
  apply h
  unfold sclass rowsN
  simp only [classF, List.mem_cons, List.not_mem_nil, or_false]
  repeat rw [if_neg (by omega)]
end Go.V
set_option maxHeartbeats 1000000
set_option maxRecDepth 100000
namespace Go.V
open Go.RowKit Go.Proofs
structure CvF (p : Pc) : Prop where
  cl : sclass p.conv ≠ 0
  lit : sby p.lit = []
  arg : 0 ≤ p.arg ∧ p.arg ≤ 64
  wid : 0 ≤ p.wid ∧ p.wid ≤ 10000
  sl : slong ((sclass p.conv : Nat) : Int) p.len = true
  n : p.conv = 110 → p.arg ≠ 0 ∧ ¬ p.wid > 0
  st : if p.conv = 91 then p.set 0 = false else sEq p.set sempty = true
end Go.V
set_option maxHeartbeats 1000000
set_option maxRecDepth 100000
namespace Go.V
open Go.RowKit Go.Proofs
theorem plain_print {p : Pc} (hv : svalid p = true) (hs : spl p = true) (pos : Bool) (cnt : Nat) (w pl : Bool) : p.arg = 0 ∧ ∃ p', pEq p p' = true ∧ ∀ z, folw p.conv z → pieceL cnt w pl (sby (sprn p pos) ++ z) = .ok p' z cnt w pl := by
  unfold svalid at hv
  rw [hs, cond_true] at hv
  simp only [Bool.and_eq_true, Bool.or_eq_true, decide_eq_true_eq, Bool.not_eq_true', decide_eq_false_iff_not] at hv
  obtain ⟨⟨⟨⟨ha, hw⟩, hn⟩, hset⟩, hl⟩ := hv
  refine ⟨ha, ?_⟩
  have hE : ∀ (s : ByteArray), s = p.lit → pEq p (bareP s 0 0 0 p.conv) = true := fun s e => by
    unfold sEq at hset
    obtain ⟨a0, a1, a2, a3⟩ := of_decide_eq_true hset
    unfold pEq
    exact decide_eq_true ⟨by rw [e], ha, hw, hn, rfl, a0, a1, a2, a3⟩
  have hemp : p.conv ≠ 0 → ByteArray.empty = p.lit := fun h0 => by
    rcases hl with hl | hl
    · exact absurd hl.1 h0
    have := bytesOf_sby p.lit
    rw [hl.2] at this; exact this
  by_cases h32 : p.conv = 32
  · refine ⟨bareP ByteArray.empty 0 0 0 p.conv, hE _ (hemp (by omega)), fun z hz => ?_⟩
    have : sby (sprn p pos) = [32] := by unfold sprn; rw [if_pos h32]; rfl
    rw [this]
    have hru := runL_of (f := swhite) [32] z (fun c hc => by rw [List.mem_singleton] at hc; subst hc; rfl) (fun a t e => (hz a t e).1 h32)
    rw [List.singleton_append] at hru ⊢
    rw [pieceL, show swhite 32 = true from rfl, cond_true, hru, h32]
  by_cases h0 : p.conv = 0
  · rcases hl with hl | hl
    · refine ⟨bareP p.lit 0 0 0 p.conv, hE _ rfl, fun z hz => ?_⟩
      have : sby (sprn p pos) = sby p.lit := by unfold sprn; rw [if_neg h32, if_pos h0]
      rw [this]
      have hsl := hl.2
      unfold slit at hsl
      rw [Bool.and_eq_true, decide_eq_true_eq, List.all_eq_true] at hsl
      obtain ⟨hs1, hs2⟩ := hsl
      have hru := runL_of (f := splain) (sby p.lit) z hs2 (fun a t e => ((hz a t e).2 h0).1)
      have hz0 : hdIs z 0 = false := by
        cases z with
        | nil => rfl
        | cons a t => exact decide_eq_false ((hz a t rfl).2 h0).2
      have hbl := bytesOf_sby p.lit
      have hsl := sby_len p.lit
      cases hx : sby p.lit with
      | nil => rw [hx] at hsl; simp only [List.length_nil] at hsl; omega
      | cons c r =>
        have hc := hs2 c (by rw [hx]; exact List.mem_cons_self ..)
        unfold splain at hc
        simp only [Bool.and_eq_true, decide_eq_true_eq, Bool.not_eq_true'] at hc
        rw [hx] at hru hbl
        rw [List.cons_append] at hru ⊢
        rw [pieceL, hc.2.2, cond_false, if_neg hc.2.1, hru]
        simp only
        rw [hz0, cond_false, hbl, h0]
    exact absurd h0 hl.1
  have h37 : p.conv = 37 := by
    unfold spl at hs
    simp only [Bool.or_eq_true, decide_eq_true_eq] at hs
    omega
  refine ⟨bareP ByteArray.empty 0 0 0 p.conv, hE _ (hemp h0), fun z _ => ?_⟩
  have : sby (sprn p pos) = [37, 37] := by unfold sprn; rw [if_neg h32, if_neg h0, if_pos h37]; rfl
  rw [this, h37]; rfl
def chn : List Pc → Prop
  | p :: q :: r => ¬ (q.conv = p.conv ∧ (q.conv = 0 ∨ q.conv = 32)) ∧ chn (q :: r)
  | _ => True
end Go.V
set_option maxHeartbeats 1000000
set_option maxRecDepth 100000
namespace Go.V
open Go.RowKit Go.Proofs
/-! WHAT IS READ IS A GOOD LIST. -/
theorem wfI {a : Int} (h : 0 ≤ a) (h2 : a ≤ 1000000) : (Lit.int .i64 a).wf = true := by
  simp [Lit.wf, IntKind.min, IntKind.max, IntKind.signed, IntKind.bits]; omega
def PcG (p : Pc) : Prop := svalid p = true ∧ p.conv < 256 ∧ p.lit.size ≤ 2000
theorem PcG.f {p : Pc} (h : PcG p) : PcF p := by
  obtain ⟨h1, h2, h3⟩ := h
  have := svalid_rng h1
  exact ⟨⟨by omega, h2⟩, wfI (by omega) (by omega), wfI (by omega) (by omega), wfI (by omega) (by omega)⟩
theorem convE_is {cnt n wid len c : Nat} {w pl mute pos : Bool} {S : Nat → Bool} {r : List Nat} {p : Pc} {q : List Nat} {c' : Nat} {w' pl' : Bool} (h : convE cnt w pl n mute pos wid len c S r = .ok p q c' w' pl') :
    ∃ A : Nat, p = ⟨ByteArray.empty, (A : Int), (wid : Int), (len : Int), c, S⟩ ∧ A ≤ 64 ∧ wid ≤ 10000 ∧ (mute = false → A ≠ 0) := by
  unfold convE at h
  cases h1 : (w || pos) && (pl || (!mute && decide (n = 0)))
  · rw [h1, cond_false] at h
    cases h2 : decide (10000 < wid) || decide (64 < (if (!mute && decide (n = 0)) = true then cnt + 1 else n))
    · rw [h2, cond_false] at h
      injection h with a1
      rw [Bool.or_eq_false_iff, decide_eq_false_iff_not, decide_eq_false_iff_not] at h2
      refine ⟨_, a1.symm, by omega, by omega, fun hm => ?_⟩
      subst hm
      simp only [Bool.not_false, Bool.true_and, decide_eq_true_eq]
      split
      · omega
      assumption
    rw [h2, cond_true] at h; cases h
  rw [h1, cond_true] at h; cases h
theorem sEq_rfl (S : Nat → Bool) : sEq S S = true := sEq_ext.2 fun _ _ => rfl
theorem convC_good {cnt n wid len : Nat} {w pl mute pos : Bool} {r : List Nat} {p : Pc} {q : List Nat} {c' : Nat} {w' pl' : Bool} (h : convC cnt w pl n mute pos wid len r = .ok p q c' w' pl') : PcG p := by
  have hcl := convC_conv h
  have hpl := sclass_plain hcl
  have hmem := classF_mem p.conv hcl
  have hlt : p.conv < 256 := by
    simp only [List.mem_cons, List.not_mem_nil, or_false] at hmem; omega
  cases r with
  | nil => cases h
  | cons c r =>
    rw [convC] at h
    cases h1 : (decide (sclass c = 0) || !slong ((sclass c : Nat) : Int) (len : Int)) || (decide (sclass c = 5) && (mute || decide (0 < wid)))
    · rw [h1, cond_false] at h
      simp only [Bool.or_eq_false_iff, decide_eq_false_iff_not, Bool.not_eq_false'] at h1
      obtain ⟨⟨_, hsl⟩, h5⟩ := h1
      have fin : ∀ (S : Nat → Bool) (q1 : List Nat), (if c = 91 then S 0 = false else S = sempty) → convE cnt w pl n mute pos wid len c S q1 = .ok p q c' w' pl' → PcG p := fun S q1 hS hE => by
        obtain ⟨A, hp, hA, hw, hm⟩ := convE_is hE
        refine ⟨?_, hlt, by rw [hp]; exact Nat.zero_le _⟩
        have hcv : p.conv = c := by rw [hp]
        have hspl : spl p = false := by
          unfold spl
          rw [decide_eq_false hpl.2.1, decide_eq_false hpl.1, decide_eq_false hpl.2.2]; rfl
        unfold svalid
        rw [hspl, cond_false]
        have b1 : ((((((decide (sclass p.conv = 0) || !decide (sby p.lit = [])) || decide (p.arg < 0)) || decide (p.arg > 64)) || decide (p.wid < 0)) || decide (p.wid > 10000)) || !slong ((sclass p.conv : Nat) : Int) p.len) = false := by
          have ha : p.arg = (A : Int) := by rw [hp]
          have hwd : p.wid = (wid : Int) := by rw [hp]
          have hln : p.len = (len : Int) := by rw [hp]
          have hlit : sby p.lit = [] := by rw [hp]; rfl
          rw [decide_eq_false hcl, hlit, ha, hwd, hln, hcv, hsl, decide_eq_false (show ¬ (A : Int) < 0 by omega), decide_eq_false (show ¬ (A : Int) > 64 by omega), decide_eq_false (show ¬ (wid : Int) < 0 by omega), decide_eq_false (show ¬ (wid : Int) > 10000 by omega)]; rfl
        rw [b1, cond_false]
        have b2 : (decide (p.conv = 110) && (decide (p.arg = 0) || decide (p.wid > 0))) = false := by
          by_cases h110 : p.conv = 110
          · have h5' : sclass c = 5 := by rw [← hcv, h110]; rfl
            rw [decide_eq_true h5', Bool.true_and, Bool.or_eq_false_iff] at h5
            have hA0 := hm h5.1
            have hw0 := of_decide_eq_false h5.2
            have ha : p.arg = (A : Int) := by rw [hp]
            have hwd : p.wid = (wid : Int) := by rw [hp]
            rw [ha, hwd, decide_eq_false (show ¬ (A : Int) = 0 by omega), decide_eq_false (show ¬ (wid : Int) > 0 by omega), Bool.or_false, Bool.and_false]
          rw [decide_eq_false h110]; rfl
        rw [b2, cond_false]
        have hset : p.set = S := by rw [hp]
        by_cases h91 : c = 91
        · rw [if_pos h91] at hS
          rw [decide_eq_true (hcv.trans h91), cond_true, hset, hS]; rfl
        rw [if_neg h91] at hS
        rw [decide_eq_false (by rw [hcv]; exact h91), cond_false, hset, hS]; exact sEq_rfl _
      by_cases hc : c = 91
      · rw [if_pos hc] at h
        cases hs : stL r with
        | none => rw [hs] at h; cases h
        | some x =>
          obtain ⟨S, q1⟩ := x
          rw [hs] at h
          have h0 : S 0 = false := by
            unfold stL at hs
            split at hs
            · cases hs
            split at hs
            · rename_i hz
              injection hs with hs
              injection hs with hS _
              rw [← hS]
              exact (readS_ok (Prod.ext rfl hz)).2.2
            cases hs
          exact fin S q1 (by rw [if_pos hc]; exact h0) h
      rw [if_neg hc] at h
      exact fin sempty r (by rw [if_neg hc]) h
    rw [h1, cond_true] at h; cases h
theorem bare_good {s : ByteArray} {c : Nat} (hc : c = 32 ∨ c = 37 ∨ c = 0) (h1 : c ≠ 0 → s = ByteArray.empty) (h2 : c = 0 → slit s = true) (hs : s.size ≤ 2000) : PcG (bareP s 0 0 0 c) := by
  refine ⟨?_, by show c < 256; omega, hs⟩
  have hspl : spl (bareP s 0 0 0 c) = true := by
    unfold spl
    rcases hc with rfl | rfl | rfl <;> rfl
  unfold svalid
  rw [hspl, cond_true]
  show ((((decide ((0 : Int) = 0) && decide ((0 : Int) = 0)) && decide ((0 : Int) = 0)) && sEq sempty sempty) && ((decide (c = 0) && slit s) || (!decide (c = 0) && decide (sby s = [])))) = true
  rw [sEq_rfl]
  by_cases h0 : c = 0
  · rw [h2 h0, decide_eq_true h0]; rfl
  rw [h1 h0, decide_eq_false h0]; rfl
theorem pieceL_good {cnt : Nat} {w pl : Bool} {r : List Nat} {p : Pc} {q : List Nat} {c' : Nat} {w' pl' : Bool} (hb : ∀ c ∈ r, c < 256) (hl : r.length ≤ 2000) (h : pieceL cnt w pl r = .ok p q c' w' pl') :
    PcG p ∧ (p.conv = 32 → ∃ a t, r = a :: t ∧ swhite a = true) ∧ (p.conv = 0 → ∃ a t, r = a :: t ∧ splain a = true) := by
  cases r with
  | nil => cases h
  | cons c r =>
    rw [pieceL] at h
    cases hw : swhite c
    · rw [hw, cond_false] at h
      by_cases h37 : c = 37
      · rw [if_pos h37] at h
        cases hp : hdIs r 37
        · rw [hp, cond_false] at h
          cases hc : convL cnt w pl r with
          | bad => rw [hc] at h; cases h
          | lim => rw [hc] at h; cases h
          | ok p1 q1 c1 w1 pl1 =>
            rw [hc] at h
            injection h with e1
            subst e1
            have hcl := sclass_plain (convC_conv hc)
            exact ⟨convC_good hc, fun e => absurd e hcl.2.1, fun e => absurd e hcl.1⟩
        rw [hp, cond_true] at h
        injection h with e1
        subst e1
        exact ⟨bare_good (.inr (.inl rfl)) (fun _ => rfl) (fun e => absurd e (by decide)) (Nat.zero_le _), fun e => absurd e (by show (37 : Nat) ≠ 32; decide), fun e => absurd e (by show (37 : Nat) ≠ 0; decide)⟩
      rw [if_neg h37] at h
      cases h0 : hdIs (runL splain (c :: r)).2 0
      · rw [h0, cond_false] at h
        have hall := runL_all splain (c :: r)
        have happ := runL_app splain (c :: r)
        by_cases hc0 : c = 0
        · exfalso
          subst hc0
          have : (runL splain (0 :: r)).2 = 0 :: r := rfl
          rw [this] at h0; cases h0
        have hpc : splain c = true := by
          unfold splain
          rw [decide_eq_true hc0, decide_eq_true h37, hw]; rfl
        have hx : ∃ y, (runL splain (c :: r)).1 = c :: y := by rw [runL, hpc]; exact ⟨_, rfl⟩
        obtain ⟨y, hy⟩ := hx
        generalize hX : (runL splain (c :: r)).1 = X at *
        generalize hQ : (runL splain (c :: r)).2 = Q at *
        injection h with e1
        subst e1
        have hXb : ∀ b ∈ X, b < 256 := fun b hbx => hb b (by rw [← happ]; exact List.mem_append_left _ hbx)
        have hXl : X.length ≤ 2000 := by
          have := congrArg List.length happ
          rw [List.length_append] at this; omega
        refine ⟨bare_good (.inr (.inr rfl)) (fun e => absurd rfl e) (fun _ => ?_) (by rw [bytesOf_size]; exact hXl), fun e => absurd e (by show (0 : Nat) ≠ 32; decide), fun _ => ⟨c, r, rfl, hpc⟩⟩
        unfold slit
        rw [sby_bytesOf hXb, bytesOf_size, Bool.and_eq_true, decide_eq_true_eq, List.all_eq_true]
        exact ⟨by rw [hy]; simp, hall⟩
      rw [h0, cond_true] at h; cases h
    rw [hw, cond_true] at h
    injection h with e1
    subst e1
    exact ⟨bare_good (.inl rfl) (fun _ => rfl) (fun e => absurd e (by decide)) (Nat.zero_le _), fun _ => ⟨c, r, rfl, hw⟩, fun e => absurd e (by show (32 : Nat) ≠ 0; decide)⟩
theorem prsG_good : ∀ (f m cnt : Nat) (w pl : Bool) (r : List Nat) (l : List Pc) (q : List Nat), m ≤ 500 → (∀ c ∈ r, c < 256) → r.length ≤ 2000 → prsG f m cnt w pl r = (l, 0, q) →
    (∀ p ∈ l, PcG p) ∧ m + l.length ≤ 500 ∧ chn l ∧ ∀ p t, l = p :: t → (p.conv = 32 → ∃ a t, r = a :: t ∧ swhite a = true) ∧ (p.conv = 0 → ∃ a t, r = a :: t ∧ splain a = true)
  | 0, _, _, _, _, _, _, _, _, _, _, h => by injection h with _ h; injection h with h _; cases h
  | f + 1, m, cnt, w, pl, r, l, q, hm, hb, hl, h => by
    rw [prsG] at h
    by_cases h1 : r = []
    · rw [if_pos h1] at h
      injection h with h _
      subst h
      exact ⟨fun _ h => (by cases h), hm, trivial, fun _ _ e => (by cases e)⟩
    rw [if_neg h1] at h
    by_cases h2 : m = 500
    · rw [if_pos h2] at h; injection h with _ h; injection h with h _; cases h
    rw [if_neg h2] at h
    cases hp : pieceL cnt w pl r with
    | err e q0 =>
      rw [hp] at h
      have h : (([], e, q0) : List Pc × Int × List Nat) = (l, 0, q) := h
      injection h with _ h
      injection h with h _
      rcases pieceL_err hp with e6 | e2
      · rw [h] at e6; exact absurd e6 (by decide)
      rw [h] at e2; exact absurd e2 (by decide)
    | ok p r' c' w' pl' =>
      rw [hp] at h
      have h : (p :: (prsG f (m + 1) c' w' pl' r').1, (prsG f (m + 1) c' w' pl' r').2) = (l, ((0 : Int), q)) := h
      injection h with hl1 h
      obtain ⟨g1, g2, g3⟩ := pieceL_good hb hl hp
      obtain ⟨u, hu⟩ := pieceL_suf hp
      have hok := pieceL_ok hp
      have hfo := (pieceL_loc hp).1
      obtain ⟨i1, i2, i3, i4⟩ := prsG_good f (m + 1) c' w' pl' r' (prsG f (m + 1) c' w' pl' r').1 q (by omega) (fun c hc => hb c (by rw [hu]; exact List.mem_append_right _ hc)) (by omega) (by rw [← h])
      generalize (prsG f (m + 1) c' w' pl' r').1 = l1 at *
      subst hl1
      refine ⟨fun x hx => ?_, by rw [List.length_cons]; omega, ?_, fun x t e => ?_⟩
      · rcases List.mem_cons.1 hx with rfl | hx
        · exact g1
        exact i1 x hx
      · cases l1 with
        | nil => trivial
        | cons x t =>
          refine ⟨fun hh => ?_, i3⟩
          obtain ⟨j1, j2⟩ := i4 x t rfl
          rcases hh.2 with e | e
          · obtain ⟨a, s, e1, e2⟩ := j2 e
            have := ((hfo a s e1).2 (by rw [← hh.1, e])).1
            rw [e2] at this; cases this
          obtain ⟨a, s, e1, e2⟩ := j1 e
          have := (hfo a s e1).1 (by rw [← hh.1, e])
          rw [e2] at this; cases this
      injection e with e _
      subst e
      exact ⟨g2, g3⟩
theorem sadj_of : ∀ (l : List Pc), chn l → ∀ j, j < l.length → sadj l j = false
  | [], _, j, h => absurd h (Nat.not_lt_zero j)
  | [p], _, j, h => by
    have : j = 0 := by simp only [List.length_cons, List.length_nil] at h; omega
    subst this; rfl
  | p :: q :: r, hc, 0, _ => rfl
  | p :: q :: r, hc, 1, _ => by
    unfold sadj
    show (decide (0 < 1) && (decide (q.conv = p.conv) && (decide (q.conv = 0) || decide (q.conv = 32)))) = false
    have := hc.1
    by_cases e : q.conv = p.conv
    · rw [decide_eq_true e, Bool.true_and, ← Bool.decide_or, decide_eq_false (fun h => this ⟨e, h⟩)]; rfl
    rw [decide_eq_false e]; rfl
  | p :: q :: r, hc, j + 2, h => by
    have ih := sadj_of (q :: r) hc.2 (j + 1) (by simp only [List.length_cons] at h ⊢; omega)
    unfold sadj at ih ⊢
    rw [decide_eq_true (show 0 < j + 1 by omega)] at ih
    rw [decide_eq_true (show 0 < j + 2 by omega)]
    exact ih
theorem schk_ok' {l : List Pc} (h : ∀ i, i < l.length → sbad l i = false) (hg : (sgr l).2 = true) (i : Nat) : schk l i = (0, 0) := by
  by_cases hi : i < l.length
  · rw [schk_go hi (h i hi)]; exact schk_ok' h hg (i + 1)
  rw [schk_end hi, hg]; rfl
termination_by l.length - i
theorem parse_good {s : ByteArray} {l : List Pc} {o : Int} (h : parseF s = (l, 0, o)) : (∀ p ∈ l, PcG p) ∧ l.length ≤ 500 ∧ (scheck l).1 = 0 := by
  by_cases hs : s.size ≤ 2000
  · rw [parse_G hs] at h
    have hl := sby_len s
    generalize hg : prsG (s.size + 1) 0 0 false false (sby s) = g at *
    obtain ⟨gl, ge, gq⟩ := g
    simp only at h
    by_cases h0 : ge = 0
    · subst h0
      rw [if_pos rfl] at h
      cases hb : (sgr gl).2
      · rw [hb, cond_false] at h; injection h with _ h; injection h with h _; exact absurd h (by decide)
      rw [hb, cond_true] at h
      injection h with h _
      subst h
      obtain ⟨a, b, c, _⟩ := prsG_good _ _ _ _ _ _ _ _ (Nat.zero_le _) (fun c hc => sby_mem hc) (by omega) hg
      refine ⟨a, by omega, ?_⟩
      unfold scheck
      rw [if_neg (by omega), schk_ok' (fun i hi => ?_) hb]
      unfold sbad
      rw [sadj_of gl c i hi, List.getD_eq_getElem?_getD, List.getElem?_eq_getElem hi]
      have := (a _ (List.getElem_mem hi)).1
      show (!svalid gl[i] || false) = false
      rw [this]; rfl
    rw [if_neg h0] at h
    injection h with _ h; injection h with h _
    exact absurd h h0
  unfold parseF at h
  rw [if_pos (by omega)] at h
  injection h with _ h; injection h with h _; exact absurd h (by decide)
end Go.V
set_option maxHeartbeats 1000000
set_option maxRecDepth 100000
namespace Go.V
open Go.RowKit Go.Proofs
/-! READING A TEXT BEHIND ANOTHER. -/
def shf (k : Int) (p : Pc) : Pc := if p.arg > 0 then ⟨p.lit, p.arg + k, p.wid, p.len, p.conv, p.set⟩ else p
theorem shf_conv (k : Int) (p : Pc) : (shf k p).conv = p.conv := by unfold shf; split <;> rfl
theorem shf_0 (k : Int) {p : Pc} (h : p.arg = 0) : shf k p = p := by unfold shf; rw [if_neg (by omega)]
theorem dgL_mem : ∀ (n : Nat) (r : List Nat), ∀ c ∈ (dgL n r).2, c ∈ r
  | n, r, c, h => by
    obtain ⟨u, hu⟩ := dgL_suf n r
    rw [hu]; exact List.mem_append_right _ h
theorem argL_nod {r : List Nat} (h : 36 ∉ r) : (argL r).1 = 0 ∧ (argL r).2.2.1 = false := by
  unfold argL
  cases h42 : hdIs r 42
  · cases h36 : decide (0 < (dgL 0 r).1) && hdIs (dgL 0 r).2 36
    · exact ⟨rfl, rfl⟩
    exfalso
    rw [Bool.and_eq_true] at h36
    cases hd : (dgL 0 r).2 with
    | nil => rw [hd] at h36; cases h36.2
    | cons a t =>
      rw [hd] at h36
      have : a = 36 := of_decide_eq_true h36.2
      exact h (dgL_mem 0 r 36 (by rw [hd, this]; exact List.mem_cons_self ..))
  exact ⟨rfl, rfl⟩
def cntOk (cnt : Nat) (p : Pc) (c' : Nat) : Prop := (p.arg = 0 ∧ c' = cnt) ∨ (p.arg = (cnt : Int) + 1 ∧ c' = cnt + 1)
theorem convE_shift {cnt wid len c : Nat} {pl mute : Bool} {S : Nat → Bool} {r : List Nat} {p : Pc} {q : List Nat} {c' : Nat} {w' pl' : Bool} (h : convE cnt false pl 0 mute false wid len c S r = .ok p q c' w' pl') :
    w' = false ∧ cntOk cnt p c' ∧ ∀ (k : Nat) (pl2 : Bool), (∃ pl3, convE (cnt + k) false pl2 0 mute false wid len c S r = .ok (shf (k : Int) p) q (c' + k) false pl3) ∨ convE (cnt + k) false pl2 0 mute false wid len c S r = .lim := by
  unfold convE at h ⊢
  simp only [Bool.or_self, Bool.false_and, cond_false, Bool.false_or] at h ⊢
  cases hm : mute
  · rw [hm] at h
    simp only [Bool.not_false, decide_true, Bool.and_self, if_true] at h ⊢
    cases h2 : decide (10000 < wid) || decide (64 < cnt + 1)
    · rw [h2, cond_false] at h
      injection h with e1 e2 e3 e4 e5
      subst e1; subst e2; subst e3
      rw [Bool.or_eq_false_iff] at h2
      refine ⟨e4.symm, .inr ⟨rfl, rfl⟩, fun k pl2 => ?_⟩
      rw [h2.1, Bool.false_or]
      by_cases h64 : 64 < cnt + k + 1
      · right; rw [decide_eq_true h64, cond_true]
      left
      rw [decide_eq_false h64, cond_false]
      refine ⟨pl2 || true, ?_⟩
      unfold shf
      have hp : ((cnt + 1 : Nat) : Int) > 0 := by omega
      simp only [if_pos hp]
      rw [show ((cnt + k + 1 : Nat) : Int) = ((cnt + 1 : Nat) : Int) + (k : Int) by omega, show cnt + k + 1 = cnt + 1 + k by omega]
    rw [h2, cond_true] at h; cases h
  rw [hm] at h
  simp only [Bool.not_true, Bool.false_and, Bool.false_eq_true, if_false] at h ⊢
  rw [show decide (64 < 0) = false from rfl, Bool.or_false] at h ⊢
  cases h2 : decide (10000 < wid)
  · rw [h2, cond_false] at h
    injection h with e1 e2 e3 e4 e5
    subst e1; subst e2; subst e3
    refine ⟨e4.symm, .inl ⟨rfl, rfl⟩, fun k pl2 => .inl ⟨pl2 || false, ?_⟩⟩
    rw [cond_false, shf_0 _ rfl]
  rw [h2, cond_true] at h; cases h
theorem convC_shift {cnt wid len : Nat} {pl mute : Bool} {r : List Nat} {p : Pc} {q : List Nat} {c' : Nat} {w' pl' : Bool} (h : convC cnt false pl 0 mute false wid len r = .ok p q c' w' pl') :
    w' = false ∧ cntOk cnt p c' ∧ ∀ (k : Nat) (pl2 : Bool), (∃ pl3, convC (cnt + k) false pl2 0 mute false wid len r = .ok (shf (k : Int) p) q (c' + k) false pl3) ∨ convC (cnt + k) false pl2 0 mute false wid len r = .lim := by
  cases r with
  | nil => cases h
  | cons c r =>
    simp only [convC] at h ⊢
    cases h1 : (decide (sclass c = 0) || !slong ((sclass c : Nat) : Int) (len : Int)) || (decide (sclass c = 5) && (mute || decide (0 < wid)))
    · rw [h1, cond_false] at h
      simp only [cond_false]
      by_cases hc : c = 91
      · rw [if_pos hc] at h
        simp only [if_pos hc]
        cases hs : stL r with
        | none => rw [hs] at h; cases h
        | some x => rw [hs] at h; exact convE_shift h
      rw [if_neg hc] at h
      simp only [if_neg hc]
      exact convE_shift h
    rw [h1, cond_true] at h; cases h
theorem convL_shift {cnt : Nat} {pl : Bool} {r : List Nat} {p : Pc} {q : List Nat} {c' : Nat} {w' pl' : Bool} (hd : 36 ∉ r) (h : convL cnt false pl r = .ok p q c' w' pl') :
    w' = false ∧ cntOk cnt p c' ∧ ∀ (k : Nat) (pl2 : Bool), (∃ pl3, convL (cnt + k) false pl2 r = .ok (shf (k : Int) p) q (c' + k) false pl3) ∨ convL (cnt + k) false pl2 r = .lim := by
  obtain ⟨a1, a2⟩ := argL_nod hd
  unfold convL at h ⊢
  rw [a1, a2] at h ⊢
  exact convC_shift h
theorem pieceL_shift {cnt : Nat} {pl : Bool} {r : List Nat} {p : Pc} {q : List Nat} {c' : Nat} {w' pl' : Bool} (hd : 36 ∉ r) (h : pieceL cnt false pl r = .ok p q c' w' pl') :
    w' = false ∧ cntOk cnt p c' ∧ ∀ (k : Nat) (pl2 : Bool), (∃ pl3, pieceL (cnt + k) false pl2 r = .ok (shf (k : Int) p) q (c' + k) false pl3) ∨ ∃ q', pieceL (cnt + k) false pl2 r = .err 2 q' := by
  cases r with
  | nil => cases h
  | cons c r =>
    have hd' : 36 ∉ r := fun hm => hd (List.mem_cons_of_mem _ hm)
    simp only [pieceL] at h ⊢
    cases hw : swhite c
    · rw [hw, cond_false] at h
      simp only [cond_false]
      by_cases h37 : c = 37
      · rw [if_pos h37] at h
        simp only [if_pos h37]
        cases hp : hdIs r 37
        · rw [hp, cond_false] at h
          simp only [cond_false]
          cases hc : convL cnt false pl r with
          | bad => rw [hc] at h; cases h
          | lim => rw [hc] at h; cases h
          | ok p1 q1 c1 w1 pl1 =>
            rw [hc] at h
            injection h with e1 e2 e3 e4 e5
            subst e1; subst e2; subst e3; subst e4
            obtain ⟨b1, b2, b3⟩ := convL_shift hd' hc
            refine ⟨b1, b2, fun k pl2 => ?_⟩
            rcases b3 k pl2 with ⟨pl3, g⟩ | g
            · rw [g]; exact .inl ⟨pl3, rfl⟩
            rw [g]; exact .inr ⟨_, rfl⟩
        rw [hp, cond_true] at h
        simp only [cond_true]
        injection h with e1 e2 e3 e4 e5
        subst e1; subst e2; subst e3
        exact ⟨e4.symm, .inl ⟨rfl, rfl⟩, fun k pl2 => .inl ⟨pl2, by rw [shf_0 _ rfl]⟩⟩
      rw [if_neg h37] at h
      simp only [if_neg h37]
      cases h0 : hdIs (runL splain (c :: r)).2 0
      · rw [h0, cond_false] at h
        simp only [cond_false]
        injection h with e1 e2 e3 e4 e5
        subst e1; subst e2; subst e3
        exact ⟨e4.symm, .inl ⟨rfl, rfl⟩, fun k pl2 => .inl ⟨pl2, by rw [shf_0 _ rfl]⟩⟩
      rw [h0, cond_true] at h; cases h
    rw [hw, cond_true] at h
    simp only [cond_true]
    injection h with e1 e2 e3 e4 e5
    subst e1; subst e2; subst e3
    exact ⟨e4.symm, .inl ⟨rfl, rfl⟩, fun k pl2 => .inl ⟨pl2, by rw [shf_0 _ rfl]⟩⟩
theorem prsG_shift : ∀ (f m cnt : Nat) (pl : Bool) (r : List Nat) (l : List Pc) (q : List Nat), 36 ∉ r → prsG f m cnt false pl r = (l, 0, q) →
    ∀ (f2 m2 k : Nat) (pl2 : Bool), r.length < f2 → prsG f2 m2 (cnt + k) false pl2 r = (l.map (shf (k : Int)), 0, []) ∨ (prsG f2 m2 (cnt + k) false pl2 r).2.1 = 2
  | 0, _, _, _, _, _, _, _, h => by injection h with _ h; injection h with h _; exact absurd h (by decide)
  | f + 1, m, cnt, pl, r, l, q, hd, h => by
    intro f2 m2 k pl2 hf
    obtain ⟨g, rfl⟩ : ∃ g, f2 = g + 1 := ⟨f2 - 1, by omega⟩
    rw [prsG] at h
    by_cases h1 : r = []
    · rw [if_pos h1] at h
      injection h with h _
      subst h
      left; rw [prsG, if_pos h1]; rfl
    rw [if_neg h1] at h
    by_cases h2 : m = 500
    · rw [if_pos h2] at h; injection h with _ h; injection h with h _; exact absurd h (by decide)
    rw [if_neg h2] at h
    cases hp : pieceL cnt false pl r with
    | err e q0 =>
      rw [hp] at h
      have h : (([], e, q0) : List Pc × Int × List Nat) = (l, 0, q) := h
      injection h with _ h
      injection h with h _
      rcases pieceL_err hp with e6 | e2
      · rw [h] at e6; exact absurd e6 (by decide)
      rw [h] at e2; exact absurd e2 (by decide)
    | ok p r' c' w' pl' =>
      rw [hp] at h
      have h : (p :: (prsG f (m + 1) c' w' pl' r').1, (prsG f (m + 1) c' w' pl' r').2) = (l, ((0 : Int), q)) := h
      injection h with hl1 h
      obtain ⟨b1, b2, b3⟩ := pieceL_shift hd hp
      subst b1
      obtain ⟨u, hu⟩ := pieceL_suf hp
      have hok := pieceL_ok hp
      rw [prsG, if_neg h1]
      by_cases h5 : m2 = 500
      · right; rw [if_pos h5]
      rw [if_neg h5]
      rcases b3 k pl2 with ⟨pl3, e⟩ | ⟨q', e⟩
      · have ih := prsG_shift f (m + 1) c' pl' r' (prsG f (m + 1) c' false pl' r').1 q (fun hm => hd (by rw [hu]; exact List.mem_append_right _ hm)) (by rw [← h]) g (m2 + 1) k pl3 (by omega)
        rw [e]
        simp only
        rcases ih with ih | ih
        · left; rw [ih, ← hl1]; rfl
        right; exact ih
      rw [e]; right; rfl
theorem prsG_ord : ∀ (f m cnt : Nat) (pl : Bool) (r : List Nat) (l : List Pc) (q : List Nat), 36 ∉ r → prsG f m cnt false pl r = (l, 0, q) → sord l (cnt : Int) = true
  | 0, _, _, _, _, _, _, _, h => by injection h with _ h; injection h with h _; exact absurd h (by decide)
  | f + 1, m, cnt, pl, r, l, q, hd, h => by
    rw [prsG] at h
    by_cases h1 : r = []
    · rw [if_pos h1] at h
      injection h with h _
      subst h; rfl
    rw [if_neg h1] at h
    by_cases h2 : m = 500
    · rw [if_pos h2] at h; injection h with _ h; injection h with h _; exact absurd h (by decide)
    rw [if_neg h2] at h
    cases hp : pieceL cnt false pl r with
    | err e q0 =>
      rw [hp] at h
      have h : (([], e, q0) : List Pc × Int × List Nat) = (l, 0, q) := h
      injection h with _ h
      injection h with h _
      rcases pieceL_err hp with e6 | e2
      · rw [h] at e6; exact absurd e6 (by decide)
      rw [h] at e2; exact absurd e2 (by decide)
    | ok p r' c' w' pl' =>
      rw [hp] at h
      have h : (p :: (prsG f (m + 1) c' w' pl' r').1, (prsG f (m + 1) c' w' pl' r').2) = (l, ((0 : Int), q)) := h
      injection h with hl1 h
      obtain ⟨b1, b2, _⟩ := pieceL_shift hd hp
      subst b1
      obtain ⟨u, hu⟩ := pieceL_suf hp
      have ih := prsG_ord f (m + 1) c' pl' r' (prsG f (m + 1) c' false pl' r').1 q (fun hm => hd (by rw [hu]; exact List.mem_append_right _ hm)) (by rw [← h])
      subst hl1
      rw [sord]
      rcases b2 with ⟨c1, c2⟩ | ⟨c1, c2⟩
      · rw [if_neg (by omega), ← c2]; exact ih
      rw [if_pos (by omega), if_pos c1]
      subst c2; exact ih
theorem sord_used : ∀ (l : List Pc) (n k : Int), 0 ≤ n → sord l n = true → n < k → k ≤ smost l n → sused l k = true
  | [], n, k, _, _, h1, h2 => by
    have h2 : k ≤ n := h2
    omega
  | p :: l, n, k, h0, hs, h1, h2 => by
    rw [smost] at h2
    rw [sord] at hs
    have lift : sused l k = true → sused (p :: l) k = true := fun h => by
      unfold sused at h ⊢
      rw [List.any_cons, h, Bool.or_true]
    by_cases hp : p.arg > 0
    · rw [if_pos hp] at hs
      by_cases he : p.arg = n + 1
      · rw [if_pos he] at hs
        rw [show max n p.arg = n + 1 by omega] at h2
        by_cases hk : k = n + 1
        · unfold sused; rw [List.any_cons, decide_eq_true (he.trans hk.symm)]; rfl
        exact lift (sord_used l (n + 1) k (by omega) hs (by omega) h2)
      rw [if_neg he] at hs; cases hs
    rw [if_neg hp] at hs
    rw [show max n p.arg = n by omega] at h2
    exact lift (sord_used l n k h0 hs h1 h2)
theorem sord_sgr {l : List Pc} (h : sord l 0 = true) : (sgr l).2 = true := by
  have key : ∀ (m j : Nat), (m : Int) ≤ smost l 0 → 1 ≤ j → sall l m j = true := by
    intro m j hm hj
    by_cases hk : j ≤ m
    · have := sord_used l 0 (j : Int) (Int.le_refl _) h (by omega) (by omega)
      rw [sall_yes hk this]
      have : ∀ d j, m + 1 - j ≤ d → 1 ≤ j → sall l m j = true := by
        intro d
        induction d with
        | zero => intro j h1 h2; exact sall_end (by omega)
        | succ d ih =>
          intro j h1 h2
          by_cases hj : j ≤ m
          · rw [sall_yes hj (sord_used l 0 (j : Int) (Int.le_refl _) h (by omega) (by omega))]
            exact ih (j + 1) (by omega) (by omega)
          exact sall_end hj
      exact this _ (j + 1) (Nat.le_refl _) (by omega)
    exact sall_end hk
  unfold sgr
  by_cases hs : 0 ≤ smost l 0
  · exact key _ 1 (by omega) (Nat.le_refl _)
  show sall l (smost l 0).toNat 1 = true
  rw [show (smost l 0).toNat = 0 by omega]; exact sall_end (by decide)
end Go.V
set_option maxHeartbeats 1000000
set_option maxRecDepth 100000
namespace Go.V
open Go.RowKit Go.Proofs
theorem prsG_nil {f m cnt : Nat} {w pl : Bool} {l : List Pc} {q : List Nat} (h : prsG f m cnt w pl [] = (l, 0, q)) : l = [] := by
  cases f with
  | zero => injection h with _ h; injection h with h _; exact absurd h (by decide)
  | succ f => rw [prsG, if_pos rfl] at h; injection h with h _; exact h.symm
theorem prsG_step {f m cnt : Nat} {pl : Bool} {r : List Nat} {l : List Pc} {q : List Nat} (hd : 36 ∉ r) (hr : r ≠ []) (h : prsG f m cnt false pl r = (l, 0, q)) :
    ∃ g p r' c' pl' l1, f = g + 1 ∧ m ≠ 500 ∧ pieceL cnt false pl r = .ok p r' c' false pl' ∧ l = p :: l1 ∧ prsG g (m + 1) c' false pl' r' = (l1, 0, q) ∧ 36 ∉ r' := by
  cases f with
  | zero => injection h with _ h; injection h with h _; exact absurd h (by decide)
  | succ f =>
    rw [prsG, if_neg hr] at h
    by_cases h2 : m = 500
    · rw [if_pos h2] at h; injection h with _ h; injection h with h _; exact absurd h (by decide)
    rw [if_neg h2] at h
    cases hp : pieceL cnt false pl r with
    | err e q0 =>
      rw [hp] at h
      have h : (([], e, q0) : List Pc × Int × List Nat) = (l, 0, q) := h
      injection h with _ h
      injection h with h _
      rcases pieceL_err hp with e6 | e2
      · rw [h] at e6; exact absurd e6 (by decide)
      rw [h] at e2; exact absurd e2 (by decide)
    | ok p r' c' w' pl' =>
      rw [hp] at h
      have h : (p :: (prsG f (m + 1) c' w' pl' r').1, (prsG f (m + 1) c' w' pl' r').2) = (l, ((0 : Int), q)) := h
      injection h with hl1 h
      obtain ⟨b1, _, _⟩ := pieceL_shift hd hp
      subst b1
      obtain ⟨u, hu⟩ := pieceL_suf hp
      exact ⟨f, p, r', c', pl', _, rfl, h2, rfl, hl1.symm, by rw [← h], fun hm => hd (by rw [hu]; exact List.mem_append_right _ hm)⟩
theorem mk_white {x z : List Nat} {cnt : Nat} {w pl : Bool} (hx : x ≠ []) (ha : ∀ c ∈ x, swhite c = true) (hz : ∀ a t, z = a :: t → swhite a = false) : pieceL cnt w pl (x ++ z) = .ok (bareP ByteArray.empty 0 0 0 32) z cnt w pl := by
  have hru := runL_of x z ha hz
  cases x with
  | nil => exact absurd rfl hx
  | cons c x =>
    rw [List.cons_append] at hru ⊢
    rw [pieceL, ha c (List.mem_cons_self ..), cond_true, hru]
theorem mk_text {x z : List Nat} {cnt : Nat} {w pl : Bool} (hx : x ≠ []) (ha : ∀ c ∈ x, splain c = true) (hz : ∀ a t, z = a :: t → splain a = false ∧ a ≠ 0) : pieceL cnt w pl (x ++ z) = .ok (bareP (bytesOf x) 0 0 0 0) z cnt w pl := by
  have hru := runL_of x z ha fun a t e => (hz a t e).1
  have hz0 : hdIs z 0 = false := by
    cases z with
    | nil => rfl
    | cons a t => exact decide_eq_false (hz a t rfl).2
  cases x with
  | nil => exact absurd rfl hx
  | cons c x =>
    have hc := ha c (List.mem_cons_self ..)
    unfold splain at hc
    simp only [Bool.and_eq_true, decide_eq_true_eq, Bool.not_eq_true'] at hc
    rw [List.cons_append] at hru ⊢
    rw [pieceL, hc.2.2, cond_false, if_neg hc.2.1, hru]
    simp only
    rw [hz0]; rfl
theorem run_piece {cnt : Nat} {w pl : Bool} {r : List Nat} {p : Pc} {q : List Nat} {c' : Nat} {w' pl' : Bool} (h : pieceL cnt w pl r = .ok p q c' w' pl') (hk : p.conv = 0 ∨ p.conv = 32) :
    c' = cnt ∧ pl' = pl ∧ ∃ x, x ≠ [] ∧ r = x ++ q ∧ ((p = bareP ByteArray.empty 0 0 0 32 ∧ ∀ c ∈ x, swhite c = true) ∨ (p = bareP (bytesOf x) 0 0 0 0 ∧ ∀ c ∈ x, splain c = true)) := by
  cases r with
  | nil => cases h
  | cons c r =>
    rw [pieceL] at h
    cases hw : swhite c
    · rw [hw, cond_false] at h
      by_cases h37 : c = 37
      · exfalso
        rw [if_pos h37] at h
        cases hp : hdIs r 37
        · rw [hp, cond_false] at h
          cases hc : convL cnt w pl r with
          | bad => rw [hc] at h; cases h
          | lim => rw [hc] at h; cases h
          | ok p1 q1 c1 w1 pl1 =>
            rw [hc] at h
            injection h with e1
            subst e1
            have hcl := sclass_plain (convC_conv hc)
            rcases hk with e | e
            · exact hcl.1 e
            exact hcl.2.1 e
        rw [hp, cond_true] at h
        injection h with e1
        subst e1
        rcases hk with e | e <;> exact absurd (show (37 : Nat) = _ from e) (by decide)
      rw [if_neg h37] at h
      cases h0 : hdIs (runL splain (c :: r)).2 0
      · rw [h0, cond_false] at h
        have hall := runL_all splain (c :: r)
        have happ := runL_app splain (c :: r)
        by_cases hc0 : c = 0
        · exfalso
          subst hc0
          have : (runL splain (0 :: r)).2 = 0 :: r := rfl
          rw [this] at h0; cases h0
        have hpc : splain c = true := by
          unfold splain
          rw [decide_eq_true hc0, decide_eq_true h37, hw]; rfl
        have hx : ∃ y, (runL splain (c :: r)).1 = c :: y := by rw [runL, hpc]; exact ⟨_, rfl⟩
        obtain ⟨y, hy⟩ := hx
        generalize hX : (runL splain (c :: r)).1 = X at *
        generalize hQ : (runL splain (c :: r)).2 = Q at *
        injection h with e1 e2 e3 e4 e5
        subst e1; subst e2
        exact ⟨e3.symm, e5.symm, X, by rw [hy]; exact (fun e => by cases e), happ.symm, .inr ⟨rfl, hall⟩⟩
      rw [h0, cond_true] at h; cases h
    rw [hw, cond_true] at h
    have hall := runL_all swhite (c :: r)
    have happ := runL_app swhite (c :: r)
    have hx : ∃ y, (runL swhite (c :: r)).1 = c :: y := by rw [runL, hw]; exact ⟨_, rfl⟩
    obtain ⟨y, hy⟩ := hx
    generalize hX : (runL swhite (c :: r)).1 = X at *
    generalize hQ : (runL swhite (c :: r)).2 = Q at *
    injection h with e1 e2 e3 e4 e5
    subst e1; subst e2
    exact ⟨e3.symm, e5.symm, X, by rw [hy]; exact (fun e => by cases e), happ.symm, .inl ⟨rfl, hall⟩⟩
theorem run_hd {cnt : Nat} {w pl : Bool} {r : List Nat} {p : Pc} {q : List Nat} {c' : Nat} {w' pl' : Bool} (h : pieceL cnt w pl r = .ok p q c' w' pl') :
    (∀ a t, r = a :: t → swhite a = true → p.conv = 32) ∧ (∀ a t, r = a :: t → splain a = true → p.conv = 0) ∧ (∀ t, r ≠ 0 :: t) := by
  refine ⟨fun a t e ha => ?_, fun a t e ha => ?_, fun t e => ?_⟩
  · subst e
    rw [pieceL, ha, cond_true] at h
    injection h with e1; rw [← e1]
  · subst e
    have hc := ha
    unfold splain at hc
    simp only [Bool.and_eq_true, decide_eq_true_eq, Bool.not_eq_true'] at hc
    rw [pieceL, hc.2.2, cond_false, if_neg hc.2.1] at h
    cases h0 : hdIs (runL splain (a :: t)).2 0
    · rw [h0, cond_false] at h
      injection h with e1; rw [← e1]
    rw [h0, cond_true] at h; cases h
  subst e
  rw [pieceL, show swhite 0 = false from rfl, cond_false, if_neg (by decide), show (runL splain (0 :: t)).2 = 0 :: t from rfl, show hdIs (0 :: t) 0 = true from rfl, cond_true] at h
  cases h
def mrg (p q : Pc) : Prop := q.conv = p.conv ∧ (q.conv = 0 ∨ q.conv = 32)
instance (p q : Pc) : Decidable (mrg p q) := by unfold mrg; exact inferInstance
def addL (p q : Pc) : Pc := ⟨p.lit ++ q.lit, p.arg, p.wid, p.len, p.conv, p.set⟩
def jn (k : Int) : List Pc → List Pc → List Pc
  | [], lz => lz.map (shf k)
  | [p], [] => [p]
  | [p], q :: t => if mrg p q then addL p q :: t.map (shf k) else p :: (q :: t).map (shf k)
  | p :: p2 :: l, lz => p :: jn k (p2 :: l) lz
theorem folw_app {c : Nat} {r z : List Nat} (hr : r ≠ []) (h : folw c r) : folw c (r ++ z) := by
  cases r with
  | nil => exact absurd rfl hr
  | cons a t =>
    intro b s e
    rw [List.cons_append] at e
    injection e with e _
    exact h b t (by rw [e])
theorem empty_app : ByteArray.empty ++ ByteArray.empty = ByteArray.empty := by
  apply ByteArray.ext; simp
theorem prsG_cat (z : List Nat) (hdz : 36 ∉ z) (fz : Nat) (lz : List Pc) (qz : List Nat) (hz : prsG fz 0 0 false false z = (lz, 0, qz)) : ∀ (f m cnt : Nat) (pl : Bool) (r : List Nat) (l : List Pc) (q : List Nat), 36 ∉ r → prsG f m cnt false pl r = (l, 0, q) →
    ∀ f2, r.length + z.length < f2 → prsG f2 m cnt false pl (r ++ z) = (jn (smost l (cnt : Int)) l lz, 0, []) ∨ (prsG f2 m cnt false pl (r ++ z)).2.1 = 2
  | f, m, cnt, pl, r, l, q, hd, h => by
    intro f2 hf
    by_cases h1 : r = []
    · subst h1
      have hl := prsG_nil h
      subst hl
      have := prsG_shift fz 0 0 false z lz qz hdz hz f2 m cnt pl (by simp only [List.length_nil] at hf; omega)
      rw [Nat.zero_add] at this
      exact this
    obtain ⟨g, p, r', c', pl', l1, hfg, hm, hp, hl, h', hd'⟩ := prsG_step hd h1 h
    obtain ⟨_, b2, _⟩ := pieceL_shift hd hp
    have hok := pieceL_ok hp
    obtain ⟨fq, v, hv, hvr, hvz⟩ := pieceL_loc hp
    have hsm : smost l (cnt : Int) = smost l1 (c' : Int) := by
      rw [hl, smost]
      rcases b2 with ⟨c1, c2⟩ | ⟨c1, c2⟩
      · rw [c1, c2, show max (cnt : Int) 0 = cnt by omega]
      rw [c1, c2, show max (cnt : Int) ((cnt : Int) + 1) = ((cnt + 1 : Nat) : Int) by omega]
    have hvl : 0 < v.length := List.length_pos_iff.2 hv
    have hrl : r.length = v.length + r'.length := by rw [hvr, List.length_append]
    obtain ⟨g2, rfl⟩ : ∃ g2, f2 = g2 + 1 := ⟨f2 - 1, by omega⟩
    have hne : r ++ z ≠ [] := fun e => h1 (List.append_eq_nil_iff.1 e).1
    have plainly : folw p.conv (r' ++ z) → jn (smost l1 (c' : Int)) (p :: l1) lz = p :: jn (smost l1 (c' : Int)) l1 lz → prsG (g2 + 1) m cnt false pl (r ++ z) = (jn (smost l (cnt : Int)) l lz, 0, []) ∨ (prsG (g2 + 1) m cnt false pl (r ++ z)).2.1 = 2 := fun hfo hj => by
      have e : pieceL cnt false pl (r ++ z) = .ok p (r' ++ z) c' false pl' := by
        rw [hvr, List.append_assoc]; exact hvz _ hfo
      rw [prsG, if_neg hne, if_neg hm, e]
      simp only
      rcases prsG_cat z hdz fz lz qz hz g (m + 1) c' pl' r' l1 q hd' h' g2 (by omega) with ih | ih
      · left; rw [ih, hsm, hl, hj]
      right; exact ih
    by_cases hr' : r' = []
    · have hl1 : l1 = [] := by rw [hr'] at h'; exact prsG_nil h'
      have hsm1 : smost l1 (c' : Int) = (c' : Int) := by rw [hl1]; rfl
      by_cases hz0 : z = []
      · have hlz : lz = [] := by rw [hz0] at hz; exact prsG_nil hz
        refine plainly (by rw [hr', hz0]; intro a t e; cases e) ?_
        rw [hl1, hlz]; rfl
      obtain ⟨gz, pz, z', cz, plz, tz, hgz, hmz, hpz, hlz, hz', hdz'⟩ := prsG_step hdz hz0 hz
      by_cases hmr : mrg p pz
      · obtain ⟨hk1, hk2⟩ := hmr
        obtain ⟨x1, x2, x, x3, x4, x5⟩ := run_piece hp (by rw [← hk1]; exact hk2)
        obtain ⟨y1, y2, y, y3, y4, y5⟩ := run_piece hpz hk2
        have fz' := (pieceL_loc hpz).1
        have key : pieceL cnt false pl (r ++ z) = .ok (addL p pz) z' cnt false pl := by
          rw [x4, hr', List.append_nil, y4, ← List.append_assoc]
          rcases x5 with ⟨x5, x6⟩ | ⟨x5, x6⟩
          · rcases y5 with ⟨y5, y6⟩ | ⟨y5, y6⟩
            · have : addL p pz = bareP ByteArray.empty 0 0 0 32 := by
                rw [x5, y5]; unfold addL; simp only [empty_app]
              rw [this]
              refine mk_white (fun e => x3 (List.append_eq_nil_iff.1 e).1) (fun c hc => (List.mem_append.1 hc).elim (x6 c) (y6 c)) (fun a t e => (fz' a t e).1 (by rw [y5]))
            exfalso; rw [x5, y5] at hk1; exact absurd (show (0 : Nat) = 32 from hk1) (by decide)
          rcases y5 with ⟨y5, y6⟩ | ⟨y5, y6⟩
          · exfalso; rw [x5, y5] at hk1; exact absurd (show (32 : Nat) = 0 from hk1) (by decide)
          have : addL p pz = bareP (bytesOf (x ++ y)) 0 0 0 0 := by
            rw [x5, y5, bytesOf_append]; rfl
          rw [this]
          exact mk_text (fun e => x3 (List.append_eq_nil_iff.1 e).1) (fun c hc => (List.mem_append.1 hc).elim (x6 c) (y6 c)) (fun a t e => (fz' a t e).2 (by rw [y5]))
        have hpa : p.arg = 0 := by rcases x5 with ⟨x5, _⟩ | ⟨x5, _⟩ <;> rw [x5]
        have hzl : z.length = y.length + z'.length := by rw [y4, List.length_append]
        have hyl : 0 < y.length := List.length_pos_iff.2 y3
        rw [prsG, if_neg hne, if_neg hm, key]
        simp only
        rw [y1] at hz'
        rcases prsG_shift gz 1 0 plz z' tz qz hdz' hz' g2 (m + 1) cnt pl (by omega) with ih | ih
        · left
          rw [Nat.zero_add] at ih
          rw [ih, hsm, hsm1, hl, hl1, hlz, x1]
          show _ = (if mrg p pz then addL p pz :: tz.map (shf (cnt : Int)) else _, _, _)
          rw [if_pos ⟨hk1, hk2⟩]
        right
        rw [Nat.zero_add] at ih
        exact ih
      refine plainly ?_ ?_
      · rw [hr', List.nil_append]
        intro a t e
        have hg := run_hd hpz
        refine ⟨fun e32 => ?_, fun e0 => ?_⟩
        · cases hwa : swhite a
          · rfl
          exfalso
          have := hg.1 a t e hwa
          exact hmr ⟨by rw [this, e32], .inr this⟩
        refine ⟨?_, fun ea => hg.2.2 t (by rw [e, ea])⟩
        cases hsa : splain a
        · rfl
        exfalso
        have := hg.2.1 a t e hsa
        exact hmr ⟨by rw [this, e0], .inl this⟩
      rw [hl1, hlz]
      show (if mrg p pz then _ else p :: (pz :: tz).map (shf _)) = _
      rw [if_neg hmr]; rfl
    have hl1 : ∃ p2 l2, l1 = p2 :: l2 := by
      obtain ⟨_, p2, _, _, _, l2, _, _, _, e, _, _⟩ := prsG_step hd' hr' h'
      exact ⟨p2, l2, e⟩
    obtain ⟨p2, l2, e⟩ := hl1
    exact plainly (folw_app hr' fq) (by rw [e]; rfl)
termination_by f _ _ _ r => r.length
decreasing_by omega
end Go.V
set_option maxHeartbeats 1000000
set_option maxRecDepth 100000
namespace Go.V
open Go.RowKit Go.Proofs
theorem parse_prs {s : ByteArray} {l : List Pc} {o : Int} (h : parseF s = (l, 0, o)) : s.size ≤ 2000 ∧ ∃ q, prsG (s.size + 1) 0 0 false false (sby s) = (l, 0, q) := by
  have hs : s.size ≤ 2000 := by
    apply Classical.byContradiction
    intro hn
    unfold parseF at h
    rw [if_pos (by omega)] at h
    injection h with _ h; injection h with h _; exact absurd h (by decide)
  refine ⟨hs, ?_⟩
  rw [parse_G hs] at h
  generalize prsG (s.size + 1) 0 0 false false (sby s) = g at *
  obtain ⟨gl, ge, gq⟩ := g
  simp only at h
  by_cases h0 : ge = 0
  · subst h0
    rw [if_pos rfl] at h
    cases hb : (sgr gl).2
    · rw [hb, cond_false] at h; injection h with _ h; injection h with h _; exact absurd h (by decide)
    rw [hb, cond_true] at h
    injection h with h _
    subst h
    exact ⟨gq, rfl⟩
  rw [if_neg h0] at h
  injection h with _ h; injection h with h _
  exact absurd h h0
theorem parse_join {a b : ByteArray} {la lb : List Pc} {o1 o2 : Int} (ha : parseF a = (la, 0, o1)) (hb : parseF b = (lb, 0, o2)) (da : 36 ∉ sby a) (db : 36 ∉ sby b) :
    (parseF (a ++ b)).2.1 = 2 ∨ parseF (a ++ b) = (jn (sgr la).1 la lb, 0, 0) := by
  obtain ⟨_, qa, pa⟩ := parse_prs ha
  obtain ⟨_, qb, pb⟩ := parse_prs hb
  by_cases hs : (a ++ b).size ≤ 2000
  · have hsb := sby_append a b
    have hl := sby_len (a ++ b)
    have hla := sby_len a
    have hlb := sby_len b
    have hsz : (sby a).length + (sby b).length = (a ++ b).size := by rw [← List.length_append, ← hsb, hl]
    have hc := prsG_cat (sby b) db _ lb qb pb (a.size + 1) 0 0 false (sby a) la qa da pa ((a ++ b).size + 1) (by omega)
    have hd : 36 ∉ sby (a ++ b) := by
      rw [hsb, List.mem_append, not_or]; exact ⟨da, db⟩
    rw [← hsb] at hc
    rcases hc with hc | hc
    · right
      have hord := prsG_ord _ _ _ _ _ _ _ hd hc
      rw [parse_G hs, hc]
      have hk : (smost la ((0 : Nat) : Int)) = (sgr la).1 := rfl
      simp only [if_true]
      rw [hk] at hord ⊢
      rw [sord_sgr hord]; rfl
    left
    rw [parse_G hs, if_neg (by rw [hc]; decide)]
    exact hc
  left
  unfold parseF
  rw [if_pos (by omega)]
end Go.V
set_option maxHeartbeats 8000000
set_option maxRecDepth 100000
set_option synthInstance.maxSize 100000
set_option synthInstance.maxHeartbeats 2000000
namespace Go.V
open Go.RowKit Go.Proofs
theorem ssame_rfl : ∀ (l : List Pc), ssame l l = true
  | [] => rfl
  | p :: l => by rw [ssame, pEq_rfl, ssame_rfl l]; rfl
end Go.V
set_option maxHeartbeats 8000000
set_option maxRecDepth 100000
set_option synthInstance.maxSize 100000
set_option synthInstance.maxHeartbeats 2000000
namespace Go.V
open Go.RowKit Go.Proofs
theorem Zay (s : ByteArray) (hs : s.size ≤ 2000) : PC Cg ZdM [.str s] (fun o => o = .ret (.bool (decide (36 ∈ sby s)))) := by
  obtain ⟨R, hR⟩ : ∃ R, R = decide (36 ∈ sby s) := ⟨_, rfl⟩
  rw [← hR]
  have hl := sby_len s
  refine PC.rn ZbM Zdk Zdl (rs := [.tmp 2]) (by rw [Zdm]) ?_
  refine ARun.seq (ARun.region ?_); refine zza ?_; refine AOps.nil (ARun.seq (ARun.seq (ARun.region ?_))); refine zza ?_; refine AOps.nil (ARun.block ?_)
  refine ARun.loopI (S := Nat) (fun i : Nat => [(2, .any), (4, .any), (5, .any), (6, .any), (7, .any), (8, .any), (9, .any), (10, .any), (11, .any), (12, .any), (13, .any), (3, .int .i64 (i : Int))]) (fun i : Nat => []) (fun i : Nat => i ≤ s.size ∧ R = decide (36 ∈ (sby s).drop i)) (fun i : Nat => s.size - i) (0) ?_ ?_ ?_ ?_
  · exact ⟨Nat.zero_le _, by rw [List.drop_zero]; exact hR⟩
  · (repeat' first | exact envLe_nil | apply envLe_any | apply envLe_same)
  · rfl
  rintro i hinv ih
  obtain ⟨i1, i2⟩ := hinv
  refine ARun.seq (ARun.seq (ARun.region ?_)); refine zzm ?_; refine zzm ?_
  refine y_op rfl (Zae rfl rfl) ?_
  refine zzi ?_; refine AOps.nil ?_
  refine ARun.ite rfl (fun g => ?_) (fun g => ?_)
  · skip
    have g : i < s.size := by omega
    rw [drop_at g] at i2
    refine ARun.skip (ARun.seq (ARun.block (ARun.seq (ARun.region ?_)))); refine zzm ?_; refine zzm ?_
    refine y_op rfl (Zaq rfl rfl rfl (by omega) (by omega) (sby_get (i := i) _)) ?_
    refine y_op rfl (OpQ.cast (d' := .bool (decide ((sby s).getD i 0 = 36))) (q_int rfl rfl rfl) (congrArg D.bool (decide_eq_decide.2 (by omega)))) ?_
    refine AOps.nil ?_
    refine ARun.ite rfl (fun a => ?_) (fun a => ?_)
    · skip
      have : R = true := by rw [i2, decide_eq_true]; rw [a]; exact List.mem_cons_self ..
      subst this
      refine ARun.seq (ARun.region ?_); refine zza ?_; refine AOps.nil ?_
      refine ARun.ret ?_
      refine ⟨_, _, _, .tmp rfl .nil, .cons (.same _) .nil, rfl, ?_⟩
      rfl
    have i3 : R = decide (36 ∈ (sby s).drop (i + 1)) := by
      rw [i2]
      refine decide_eq_decide.2 ⟨fun h => ?_, fun h => List.mem_cons_of_mem _ h⟩
      rcases List.mem_cons.1 h with e | e
      · exact absurd e.symm a
      exact e
    refine ARun.skip (ARun.inBlock (ARun.region ?_)); refine zzm ?_
    refine y_op rfl (q_add rfl rfl (nadd1_i64 (by omega))) ?_
    refine zza ?_; refine AOps.nil ?_
    refine ARun.again (ih (i + 1) ?_ ?_) ?_ ?_
    · exact ⟨g, i3⟩
    · omega
    · (repeat' first | exact envLe_nil | apply envLe_any | apply envLe_same)
    rfl
  have : R = false := by
    rw [i2, List.drop_eq_nil_of_le (by omega)]; exact decide_eq_false (fun h => by cases h)
  subst this
  refine ARun.exit rfl ?_
  refine ARun.seq (ARun.region ?_); refine zza ?_; refine AOps.nil ?_
  refine ARun.ret ?_
  refine ⟨_, _, _, .tmp rfl .nil, .cons (.same _) .nil, rfl, ?_⟩
  rfl
def Out3 (H : Heap) (d : D) (out : List Pc) : Prop := ∃ id, d = .row id out.length ∧ H[id]? = some (some ⟨pcs out, Zab, 9, true, none⟩)
abbrev pcO (p : Pc) : Option AObj := some ⟨p.cells, Zab, 1, true, none⟩
theorem pcs_app (a b : List Pc) : pcs a ++ pcs b = pcs (a ++ b) := by
  unfold pcs; rw [List.flatMap_append]
theorem jn_snoc (k : Int) : ∀ (l : List Pc) (p : Pc) (lz : List Pc), jn k (l ++ [p]) lz = l ++ jn k [p] lz
  | [], _, _ => rfl
  | [a], p, lz => rfl
  | a :: b :: l, p, lz => by
    show a :: jn k (b :: (l ++ [p])) lz = a :: ((b :: l) ++ jn k [p] lz)
    rw [← jn_snoc k (b :: l) p lz]; rfl
section
variable {env : List D} {H : Heap} {dst : Option Tmp} {x y : Operand} {ty : TypeId} {pos : String} {aft : Array Edge} {gd : Option (Nat × Bool)} {d : D} {out news : List Pc} {p : Pc}
variable {Q : Post} {k : List Item} {df : List ADef} {ops : Array Oper} {rest : List Oper}
theorem y_app3 {E : D → List D} {n : Nat} {cs : List D} [hput : ∀ d, Put env dst d (E d)] (hg : gOk ops.toList env gd = some true) (hx : evO Cg env x = some d) (ho : Out3 H d out) (hy : evO Cg env y = some (.sl n cs)) (hn : n = news.length) (hcs : cs = pcs news) (hl : out.length ≤ 2000) (hl2 : news.length ≤ 2000)
    (hk : ∀ d' H', Out3 H' d' (out ++ news) → AOps Cg Q ops rest k (E d') H' df) : AOps Cg Q ops (⟨dst, .call ⟨.builtin .append, #[x, y], #[Zag, Zag]⟩, ty, pos, aft, gd⟩ :: rest) k env H df := by
  obtain ⟨id, rfl, h⟩ := ho
  have h9 : cs.length = n * 9 := by rw [hcs, pcs_length, hn]
  have hsn : pcs out ++ cs = pcs (out ++ news) := by rw [hcs]; exact pcs_app out news
  obtain ⟨P1, hP1⟩ : ∃ P1, P1 = pcs (out ++ news) := ⟨_, rfl⟩
  rw [← hP1] at hsn
  have key : OpH Cg ⟨dst, .call ⟨.builtin .append, #[x, y], #[Zag, Zag]⟩, ty, pos, aft, gd⟩ env H (fun d' H' => ∃ id, d' = .row id (out.length + n) ∧ H'[id]? = some (some (AObj.mk P1 Zab 9 true none))) (fun _ _ => False) := by
    refine OpH.mono ?_ (fun _ _ h => h) (Zeo (C := Cg) (m := n) (news := cs) (e := Zab) rfl rfl (by decide) rfl rfl rfl hx h rfl rfl rfl hy rfl h9 (by show (out.length + n) * 80 ≤ 140737488355328; omega) (by rw [maxLen_eq]; omega) hsn)
    rintro d' H' ⟨rfl, rfl⟩
    exact ⟨(H.set id none).length, rfl, get_last rfl⟩
  exact AOps.opH hg key (fun d' H' ⟨id, a2, a3⟩ => by rw [(hput d').eq]; exact hk d' H' ⟨id, by rw [a2, List.length_append, hn], by rw [a3, hP1]⟩) (fun _ _ h => h.elim)
theorem y_copy {t : Tmp} {E : D → List D} {ty1 ty2 : TypeId} {p1 p2 : String} {a1 a2 : Array Edge} [hput : ∀ d, Put env (some t) d (E d)] (hy : ∀ j, evO Cg (E (.ptr j 0)) y = some (.agg p.cells)) (ht : ∀ j, evO Cg (E (.ptr j 0)) (.tmp t) = some (.ptr j 0))
    (hk : ∀ H1, (∀ j, j < H.length → H1[j]? = H[j]?) → H1[H.length]? = some (pcO p) → AOps Cg Q ops rest k (E (.ptr H.length 0)) H1 df) :
    AOps Cg Q ops (⟨some t, .alloc Zab, ty1, p1, a1, none⟩ :: ⟨none, .store Zab (.tmp t) y, ty2, p2, a2, none⟩ :: rest) k env H df := by
  refine AOps.opH rfl (Zbk (C := Cg) rfl rfl rfl rfl) (fun d' H' hh => ?_) (fun _ _ h => h.elim)
  obtain ⟨rfl, rfl⟩ := hh
  rw [(hput _).eq]
  refine AOps.opH rfl (Zaw (C := Cg) (ds := p.cells) (cs := p.cells) (ht _) (hy _) rfl rfl rfl rfl (get_last rfl) rfl (Nat.le_refl 9) rfl) (fun d' H' hh => ?_) (fun _ _ h => h.elim)
  obtain ⟨_, rfl⟩ := hh
  show AOps Cg Q ops rest k (E (.ptr H.length 0)) _ df
  refine hk _ (fun j hj => ?_) ?_
  · rw [List.getElem?_set_ne (by omega), List.getElem?_append_left hj]
  exact heap_set_get (get_last rfl)
end
end Go.V
