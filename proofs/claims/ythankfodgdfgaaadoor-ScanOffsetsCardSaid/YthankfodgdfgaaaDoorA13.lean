/- A part of the proof: abstract values, rules for the steps of the program's form, and contracts of its functions, each proved; no condition. -/
import Derived.Test.YthankfodgdfgaaaDoorA12
import Derived.Laws.IdiomArrays
import Derived.Deep.Slices
import Derived.Maps.RangeWalk
import Derived.Test.YthankfodgdfgaaaDoorTie
import Derived.Test.YthankfodgdfgaaaDoorCards
import Derived.ProofKit
import Derived.OpenShut
import Derived.LaidMore
import Derived.Lay
import Derived.SevenTiedAt
import Derived.Carry
import Derived.Stop.Joined
import Derived.Lib.LaidIn
set_option linter.unusedVariables false
set_option linter.unusedSimpArgs false
set_option linter.unnecessarySimpa false
set_option maxHeartbeats 4000000
set_option maxRecDepth 100000
namespace Go.V
open Go.RowKit Go.Proofs
/-! WHAT A PIECE'S READING LOOKS AT. -/
theorem dgL_loc : ∀ (n : Nat) (r : List Nat) (m c : Nat) (q : List Nat), dgL n r = (m, c :: q) → ∃ u, r = u ++ c :: q ∧ ∀ z, dgL n (u ++ c :: z) = (m, c :: z)
  | n, [], m, c, q, h => by cases h
  | n, a :: r, m, c, q, h => by
    rw [dgL] at h
    by_cases hs : sdp n a = true
    · rw [if_pos hs] at h
      obtain ⟨u, h1, h2⟩ := dgL_loc _ r m c q h
      refine ⟨a :: u, by rw [h1]; rfl, fun z => ?_⟩
      rw [List.cons_append, dgL, if_pos hs, h2]
    rw [if_neg hs] at h
    injection h with h1 h2
    injection h2 with h2 h3
    subst h1; subst h2; subst h3
    exact ⟨[], rfl, fun z => by rw [List.nil_append, dgL, if_neg hs]⟩
theorem mF_congr {r r' : List Nat} (h : ∀ j, j < 12 → r.take (lenAt j).length = r'.take (lenAt j).length) : ∀ f k b, k + f ≤ 12 → mF r f k b = mF r' f k b
  | 0, _, _, _ => rfl
  | f + 1, k, b, hk => by rw [mF, mF, h k (by omega)]; exact mF_congr h f (k + 1) _ (by omega)
theorem mF_max {r : List Nat} : ∀ f k b, (lenAt b).length ≤ (lenAt (mF r f k b)).length ∧ ∀ j, k ≤ j → j < k + f → r.take (lenAt j).length = lenAt j → (lenAt j).length ≤ (lenAt (mF r f k b)).length
  | 0, k, b => ⟨Nat.le_refl _, fun j h1 h2 _ => by omega⟩
  | f + 1, k, b => by
    rw [mF]
    obtain ⟨a1, a2⟩ := mF_max (r := r) f (k + 1) (if (lenAt b).length < (lenAt k).length ∧ r.take (lenAt k).length = lenAt k then k else b)
    have hb : (lenAt b).length ≤ (lenAt (if (lenAt b).length < (lenAt k).length ∧ r.take (lenAt k).length = lenAt k then k else b)).length := by
      split
      · rename_i g; omega
      exact Nat.le_refl _
    refine ⟨Nat.le_trans hb a1, fun j h1 h2 h3 => ?_⟩
    rcases Nat.eq_or_lt_of_le h1 with rfl | g
    · refine Nat.le_trans ?_ a1
      split
      · exact Nat.le_refl _
      rename_i g
      apply Classical.byContradiction
      intro hn
      exact g ⟨by omega, h3⟩
    exact a2 j g (by omega) h3
theorem modL_max {r : List Nat} {j : Nat} (hj : j < 12) (h : r.take (lenAt j).length = lenAt j) : (lenAt j).length ≤ (lenAt (modL r)).length := (mF_max 12 0 0).2 j (Nat.zero_le _) (by omega) h
theorem lenAt_2 : ∀ j, j < 12 → (lenAt j).length ≤ 2 := by decide
theorem lenAt_0 : ∀ j, j < 12 → (lenAt j).length = 0 → j = 0 := by decide
theorem lenAt_hd : ∀ k, k < 12 → (lenAt k).length ≠ 0 → ∃ j, j < 12 ∧ lenAt j = [(lenAt k).getD 0 0] := by decide
theorem modL_loc {r : List Nat} {c : Nat} {q : List Nat} (h : r.drop (lenAt (modL r)).length = c :: q) : r = lenAt (modL r) ++ c :: q ∧ ∀ z, modL (lenAt (modL r) ++ c :: z) = modL r := by
  obtain ⟨h1, h2⟩ := modL_ok r
  have hr : r = lenAt (modL r) ++ c :: q := by
    have := List.take_append_drop (lenAt (modL r)).length r
    rw [h, h2] at this; exact this.symm
  refine ⟨hr, fun z => ?_⟩
  generalize hk : modL r = k at *
  rcases Nat.eq_zero_or_pos (lenAt k).length with h0 | h0
  · have hk0 := lenAt_0 k h1 h0
    have hl : lenAt k = [] := List.eq_nil_of_length_eq_zero h0
    rw [hl, List.nil_append] at hr ⊢
    obtain ⟨g1, g2⟩ := modL_ok (c :: z)
    rcases Nat.eq_zero_or_pos (lenAt (modL (c :: z))).length with h3 | h3
    · rw [hk0]; exact lenAt_0 _ g1 h3
    exfalso
    obtain ⟨j, hj, hj2⟩ := lenAt_hd _ g1 (by omega)
    have hc : (lenAt (modL (c :: z))).getD 0 0 = c := by
      rw [← g2]
      obtain ⟨n, hn⟩ : ∃ n, (lenAt (modL (c :: z))).length = n + 1 := ⟨(lenAt (modL (c :: z))).length - 1, by omega⟩
      rw [hn]; rfl
    rw [hc] at hj2
    have := modL_max (r := r) hj (by rw [hj2, hr]; rfl)
    rw [hk, h0, hj2] at this
    have : 1 ≤ 0 := this
    omega
  have : modL (lenAt k ++ c :: z) = modL r := by
    refine mF_congr (fun j hj => ?_) 12 0 0 (by decide)
    have h2' := lenAt_2 j hj
    rw [hr]
    have e : ∀ y : List Nat, (lenAt k ++ c :: y).take (lenAt j).length = (lenAt k ++ [c]).take (lenAt j).length := fun y => by
      rw [show lenAt k ++ c :: y = (lenAt k ++ [c]) ++ y by simp, List.take_append_of_le_length (by rw [List.length_append, List.length_singleton]; omega)]
    rw [e z, e q]
  rw [this, hk]
theorem fx_loc : ∀ (s : List Nat) (n : Nat), fx s = some n → s = s.take n ++ 93 :: s.drop (n + 1) ∧ ∀ z, fx (s.take n ++ 93 :: z) = some n
  | [], n, h => by cases h
  | a :: s, n, h => by
    rw [fx] at h
    by_cases ha : a = 93
    · rw [if_pos ha] at h
      injection h with h; subst h; subst ha
      exact ⟨rfl, fun z => rfl⟩
    rw [if_neg ha] at h
    cases e : fx s with
    | none => rw [e] at h; cases h
    | some m =>
      rw [e] at h
      injection h with h; subst h
      obtain ⟨h1, h2⟩ := fx_loc s m e
      refine ⟨?_, fun z => ?_⟩
      · show a :: s = a :: (s.take m ++ 93 :: s.drop (m + 1)); rw [← h1]
      show fx (a :: (s.take m ++ 93 :: z)) = _
      rw [fx, if_neg ha, h2]; rfl
theorem dropIf_loc (c : Nat) (r : List Nat) : ∃ u, r = u ++ dropIf c r ∧ ∀ a t z, dropIf c r = a :: t → dropIf c (u ++ a :: z) = a :: z := by
  unfold dropIf
  cases r with
  | nil => exact ⟨[], rfl, fun a t z h => by cases h⟩
  | cons b r =>
    by_cases hb : b = c
    · subst hb
      have hd : ∀ y, hdIs (b :: y) b = true := fun y => decide_eq_true rfl
      refine ⟨[b], ?_, fun a t z _ => ?_⟩
      · rw [hd]; rfl
      show (bif hdIs (b :: a :: z) b then _ else _) = _; rw [hd]; rfl
    have hd : ∀ y, hdIs (b :: y) c = false := fun y => decide_eq_false hb
    refine ⟨[], ?_, fun a t z h => ?_⟩
    · rw [hd]; rfl
    rw [hd] at h
    have h : b :: r = a :: t := h
    injection h with h _; subst h
    show (bif hdIs (b :: z) c then _ else _) = _; rw [hd]; rfl
theorem stL_loc {r : List Nat} {S : Nat → Bool} {q : List Nat} (h : stL r = some (S, q)) : ∃ u, r = u ++ q ∧ ∀ z, stL (u ++ z) = some (S, z) := by
  obtain ⟨u1, a1, b1⟩ := dropIf_loc 94 r
  obtain ⟨u2, a2, b2⟩ := dropIf_loc 93 (dropIf 94 r)
  unfold stL at h
  generalize hs1 : dropIf 94 r = s1 at *
  generalize hs2 : dropIf 93 s1 = s2 at *
  cases hn : fx s2 with
  | none => rw [hn] at h; cases h
  | some n =>
    rw [hn] at h
    obtain ⟨c1, c2⟩ := fx_loc s2 n hn
    simp only at h
    split at h
    · rename_i hz
      injection h with h
      injection h with hS hq
      have hr : r = (u1 ++ (u2 ++ (s2.take n ++ [93]))) ++ q := by
        rw [← hq, a1, a2]
        simp only [List.append_assoc, List.singleton_append]
        rw [← c1]
      have tx : ∀ y : List Nat, ((u1 ++ (u2 ++ (s2.take n ++ [93]))) ++ y).take (((u1 ++ (u2 ++ (s2.take n ++ [93]))) ++ y).length - y.length - 1) = u1 ++ (u2 ++ s2.take n) := fun y => by
        have e : ((u1 ++ (u2 ++ (s2.take n ++ [93]))) ++ y).length - y.length - 1 = (u1 ++ (u2 ++ s2.take n)).length := by
          simp only [List.length_append, List.length_singleton]; omega
        rw [e, show (u1 ++ (u2 ++ (s2.take n ++ [93]))) ++ y = (u1 ++ (u2 ++ s2.take n)) ++ ([93] ++ y) by simp only [List.append_assoc], List.take_left]
      refine ⟨u1 ++ (u2 ++ (s2.take n ++ [93])), hr, fun z => ?_⟩
      have d2 : dropIf 93 (u2 ++ (s2.take n ++ 93 :: z)) = s2.take n ++ 93 :: z := by
        cases ht : s2.take n with
        | nil =>
          rw [ht] at c1
          exact b2 93 _ z c1
        | cons a t =>
          rw [ht] at c1
          exact b2 a _ _ c1
      have d1 : dropIf 94 (u1 ++ (u2 ++ (s2.take n ++ 93 :: z))) = u2 ++ (s2.take n ++ 93 :: z) := by
        have hne : ∃ a t, u2 ++ (s2.take n ++ [93]) = a :: t := by
          cases hx : u2 ++ (s2.take n ++ [93]) with
          | nil => have := congrArg List.length hx; simp only [List.length_append, List.length_singleton, List.length_nil] at this; omega
          | cons a t => exact ⟨a, t, rfl⟩
        obtain ⟨a, t, hat⟩ := hne
        have e1 : s1 = a :: (t ++ s2.drop (n + 1)) := by
          rw [a2]
          conv => lhs; rw [c1]
          rw [← List.cons_append, ← hat]; simp only [List.append_assoc, List.singleton_append]
        have e2 : u2 ++ (s2.take n ++ 93 :: z) = a :: (t ++ z) := by
          rw [← List.cons_append, ← hat]; simp only [List.append_assoc, List.singleton_append]
        rw [e2]
        exact b1 a _ _ e1
      have e : (u1 ++ (u2 ++ (s2.take n ++ [93]))) ++ z = u1 ++ (u2 ++ (s2.take n ++ 93 :: z)) := by simp only [List.append_assoc, List.singleton_append]
      have hdr : (s2.take n ++ 93 :: z).drop (n + 1) = z := by
        have hl : (s2.take n).length = n := by
          have := fx_lt hn
          rw [List.length_take]; omega
        rw [show s2.take n ++ 93 :: z = (s2.take n ++ [93]) ++ z by simp only [List.append_assoc, List.singleton_append]]
        have : n + 1 = (s2.take n ++ [93]).length := by rw [List.length_append, List.length_singleton, hl]
        rw [this, List.drop_left]
      unfold stL
      rw [e, d1, d2, c2]
      simp only
      rw [hdr, ← e, tx]
      rw [hq, hr, tx] at hz hS
      rw [if_pos hz, hS]
    cases h
theorem convE_loc {cnt n wid len c : Nat} {w pl mute pos : Bool} {S : Nat → Bool} {r : List Nat} {p : Pc} {q : List Nat} {c' : Nat} {w' pl' : Bool} (h : convE cnt w pl n mute pos wid len c S r = .ok p q c' w' pl') : q = r ∧ ∀ z, convE cnt w pl n mute pos wid len c S z = .ok p z c' w' pl' := by
  unfold convE at h ⊢
  cases h1 : (w || pos) && (pl || (!mute && decide (n = 0)))
  · rw [h1, cond_false] at h
    cases h2 : decide (10000 < wid) || decide (64 < (if (!mute && decide (n = 0)) = true then cnt + 1 else n))
    · rw [h2, cond_false] at h
      injection h with a1 a2 a3 a4 a5
      refine ⟨a2.symm, fun z => ?_⟩
      rw [cond_false, cond_false, a1, a3, a4, a5]
    rw [h2, cond_true] at h; cases h
  rw [h1, cond_true] at h; cases h
theorem convC_loc {cnt n wid len c : Nat} {w pl mute pos : Bool} {r : List Nat} {p : Pc} {q : List Nat} {c' : Nat} {w' pl' : Bool} (h : convC cnt w pl n mute pos wid len (c :: r) = .ok p q c' w' pl') : ∃ u, r = u ++ q ∧ ∀ z, convC cnt w pl n mute pos wid len (c :: (u ++ z)) = .ok p z c' w' pl' := by
  rw [convC] at h
  cases h1 : (decide (sclass c = 0) || !slong ((sclass c : Nat) : Int) (len : Int)) || (decide (sclass c = 5) && (mute || decide (0 < wid)))
  · rw [h1, cond_false] at h
    by_cases hc : c = 91
    · rw [if_pos hc] at h
      cases hs : stL r with
      | none => rw [hs] at h; cases h
      | some x =>
        obtain ⟨S, q1⟩ := x
        rw [hs] at h
        obtain ⟨e, h2⟩ := convE_loc h
        obtain ⟨u, a, b⟩ := stL_loc hs
        subst e
        refine ⟨u, a, fun z => ?_⟩
        rw [convC, h1, cond_false, if_pos hc, b]
        exact h2 z
    rw [if_neg hc] at h
    obtain ⟨e, h2⟩ := convE_loc h
    subst e
    refine ⟨[], rfl, fun z => ?_⟩
    rw [convC, h1, cond_false, if_neg hc]
    exact h2 z
  rw [h1, cond_true] at h; cases h
noncomputable def tailL (cnt : Nat) (w pl : Bool) (n : Nat) (mute pos : Bool) (r : List Nat) : CR := convC cnt w pl n mute pos (dgL 0 r).1 (modL (dgL 0 r).2) ((dgL 0 r).2.drop (lenAt (modL (dgL 0 r).2)).length)
theorem tailL_loc {cnt n : Nat} {w pl mute pos : Bool} {r : List Nat} {p : Pc} {q : List Nat} {c' : Nat} {w' pl' : Bool} (h : tailL cnt w pl n mute pos r = .ok p q c' w' pl') :
    ∃ u x, r = u ++ x :: (r.drop (u.length + 1)) ∧ (dgL 0 r).2 = x :: r.drop (u.length + 1) ∧ ∃ v, r.drop (u.length + 1) = v ++ q ∧ ∀ z, tailL cnt w pl n mute pos (u ++ x :: (v ++ z)) = .ok p z c' w' pl' ∧ dgL 0 (u ++ x :: (v ++ z)) = ((dgL 0 r).1, x :: (v ++ z)) := by
  unfold tailL at h
  generalize hd : dgL 0 r = d at *
  obtain ⟨wid, r2⟩ := d
  simp only at h
  cases hc : r2.drop (lenAt (modL r2)).length with
  | nil => rw [hc] at h; cases h
  | cons c r4 =>
    rw [hc] at h
    obtain ⟨t, h1, h2⟩ := convC_loc h
    obtain ⟨m1, m2⟩ := modL_loc hc
    obtain ⟨x, y, hxy⟩ : ∃ x y, r2 = x :: y := by
      cases r2 with
      | nil => rw [List.drop_nil] at hc; cases hc
      | cons x y => exact ⟨x, y, rfl⟩
    subst hxy
    obtain ⟨u, g1, g2⟩ := dgL_loc 0 r wid x y hd
    have hdr : r.drop (u.length + 1) = y := by
      rw [g1, show u ++ x :: y = (u ++ [x]) ++ y by simp, show u.length + 1 = (u ++ [x]).length by simp, List.drop_left]
    generalize hk : modL (x :: y) = k at *
    have hv : ∃ v, y = v ++ q ∧ ∀ z, x :: (v ++ z) = lenAt k ++ c :: (t ++ z) := by
      cases hl : lenAt k with
      | nil =>
        rw [hl, List.nil_append] at m1
        injection m1 with e1 e2
        subst e1
        exact ⟨t, by rw [e2, h1], fun z => rfl⟩
      | cons a l =>
        rw [hl] at m1
        injection m1 with e1 e2
        subst e1
        exact ⟨l ++ c :: t, by rw [e2, h1]; simp, fun z => by simp⟩
    obtain ⟨v, v1, v2⟩ := hv
    refine ⟨u, x, by rw [hdr]; exact g1, by rw [hdr], v, by rw [hdr]; exact v1, fun z => ⟨?_, g2 _⟩⟩
    unfold tailL
    rw [g2]
    simp only
    rw [v2, m2]
    rw [show (lenAt k ++ c :: (t ++ z)).drop (lenAt k).length = c :: (t ++ z) from List.drop_left]
    exact h2 z
theorem hdIs_app {u : List Nat} {x : Nat} (y z : List Nat) (c : Nat) : hdIs (u ++ x :: y) c = hdIs (u ++ x :: z) c := by cases u <;> rfl
theorem convL_loc {cnt : Nat} {w pl : Bool} {r : List Nat} {p : Pc} {q : List Nat} {c' : Nat} {w' pl' : Bool} (h : convL cnt w pl r = .ok p q c' w' pl') : ∃ v, r = v ++ q ∧ ∀ z, convL cnt w pl (v ++ z) = .ok p z c' w' pl' := by
  have eq : ∀ y n m po r1, argL y = (n, m, po, r1) → convL cnt w pl y = tailL cnt w pl n m po r1 := fun y n m po r1 e => by unfold convL tailL; rw [e]
  cases h42 : hdIs r 42
  · cases h36 : decide (0 < (dgL 0 r).1) && hdIs (dgL 0 r).2 36
    · have ha : argL r = (0, false, false, r) := by unfold argL; rw [h42, h36]; rfl
      rw [eq _ _ _ _ _ ha] at h
      obtain ⟨u, x, a1, a2, v, a3, a4⟩ := tailL_loc h
      refine ⟨u ++ x :: v, ?_, fun z => ?_⟩
      · rw [List.append_assoc, List.cons_append, ← a3]; exact a1
      rw [List.append_assoc, List.cons_append]
      have hb : argL (u ++ x :: (v ++ z)) = (0, false, false, u ++ x :: (v ++ z)) := by
        unfold argL
        rw [hdIs_app (u := u) (x := x) (v ++ z) (r.drop (u.length + 1)) 42, ← a1, h42, (a4 z).2]
        rw [a2] at h36
        simp only
        rw [show hdIs (x :: (v ++ z)) 36 = hdIs (x :: r.drop (u.length + 1)) 36 from rfl, h36]; rfl
      rw [eq _ _ _ _ _ hb]; exact (a4 z).1
    have ha : argL r = ((dgL 0 r).1, false, true, (dgL 0 r).2.drop 1) := by unfold argL; rw [h42, h36]; rfl
    rw [eq _ _ _ _ _ ha] at h
    obtain ⟨u, x, a1, a2, v, a3, a4⟩ := tailL_loc h
    rw [Bool.and_eq_true] at h36
    generalize hd : dgL 0 r = d at *
    obtain ⟨n, r2⟩ := d
    cases r2 with
    | nil => cases h36.2
    | cons y r2 =>
      have hy : y = 36 := of_decide_eq_true h36.2
      subst hy
      obtain ⟨s, g1, g2⟩ := dgL_loc 0 r n 36 r2 hd
      simp only [List.drop_succ_cons, List.drop_zero] at a1 a2 a3 a4
      refine ⟨s ++ 36 :: (u ++ x :: v), ?_, fun z => ?_⟩
      · rw [g1, a1, a3]; simp
      have e : (s ++ 36 :: (u ++ x :: v)) ++ z = s ++ 36 :: (u ++ x :: (v ++ z)) := by simp
      rw [e]
      have hb : argL (s ++ 36 :: (u ++ x :: (v ++ z))) = (n, false, true, u ++ x :: (v ++ z)) := by
        unfold argL
        rw [hdIs_app (u := s) (x := 36) (u ++ x :: (v ++ z)) r2 42, ← g1, h42, g2]
        simp only
        have h36' : decide (0 < n) = true := h36.1
        rw [h36']; rfl
      rw [eq _ _ _ _ _ hb]; exact (a4 z).1
  have ha : argL r = (0, true, false, r.drop 1) := by unfold argL; rw [h42]; rfl
  rw [eq _ _ _ _ _ ha] at h
  obtain ⟨u, x, a1, a2, v, a3, a4⟩ := tailL_loc h
  cases r with
  | nil => cases h42
  | cons y r =>
    have hy : y = 42 := of_decide_eq_true h42
    subst hy
    simp only [List.drop_succ_cons, List.drop_zero] at a1 a2 a3 a4
    refine ⟨42 :: (u ++ x :: v), ?_, fun z => ?_⟩
    · rw [a1, a3]; simp
    have e : (42 :: (u ++ x :: v)) ++ z = 42 :: (u ++ x :: (v ++ z)) := by simp
    rw [e]
    have hb : argL (42 :: (u ++ x :: (v ++ z))) = (0, true, false, u ++ x :: (v ++ z)) := rfl
    rw [eq _ _ _ _ _ hb]; exact (a4 z).1
theorem runL_all (f : Nat → Bool) : ∀ r, ∀ c ∈ (runL f r).1, f c = true
  | [], _, h => by cases h
  | a :: r, c, h => by
    rw [runL] at h
    cases e : f a
    · rw [e] at h; cases h
    rw [e] at h
    have h : c ∈ a :: (runL f r).1 := h
    rcases List.mem_cons.1 h with rfl | h
    · exact e
    exact runL_all f r c h
theorem runL_stop (f : Nat → Bool) : ∀ r a t, (runL f r).2 = a :: t → f a = false
  | [], _, _, h => by cases h
  | b :: r, a, t, h => by
    rw [runL] at h
    cases e : f b
    · rw [e] at h
      have h : b :: r = a :: t := h
      injection h with h _; rw [← h]; exact e
    rw [e] at h
    exact runL_stop f r a t h
theorem runL_of {f : Nat → Bool} : ∀ (x z : List Nat), (∀ c ∈ x, f c = true) → (∀ a t, z = a :: t → f a = false) → runL f (x ++ z) = (x, z)
  | [], z, _, h => by
    cases z with
    | nil => rfl
    | cons a t => rw [List.nil_append, runL, h a t rfl]; rfl
  | c :: x, z, h1, h2 => by
    rw [List.cons_append, runL, h1 c (List.mem_cons_self ..), runL_of x z (fun y hy => h1 y (List.mem_cons_of_mem _ hy)) h2]; rfl
def folw (c : Nat) (z : List Nat) : Prop := ∀ a t, z = a :: t → (c = 32 → swhite a = false) ∧ (c = 0 → splain a = false ∧ a ≠ 0)
theorem convE_conv {cnt n wid len c : Nat} {w pl mute pos : Bool} {S : Nat → Bool} {r : List Nat} {p : Pc} {q : List Nat} {c' : Nat} {w' pl' : Bool} (h : convE cnt w pl n mute pos wid len c S r = .ok p q c' w' pl') : p.conv = c := by
  unfold convE at h
  cases h1 : (w || pos) && (pl || (!mute && decide (n = 0)))
  · rw [h1, cond_false] at h
    cases h2 : decide (10000 < wid) || decide (64 < (if (!mute && decide (n = 0)) = true then cnt + 1 else n))
    · rw [h2, cond_false] at h
      injection h with a1; rw [← a1]
    rw [h2, cond_true] at h; cases h
  rw [h1, cond_true] at h; cases h
theorem convC_conv {cnt n wid len : Nat} {w pl mute pos : Bool} {r : List Nat} {p : Pc} {q : List Nat} {c' : Nat} {w' pl' : Bool} (h : convC cnt w pl n mute pos wid len r = .ok p q c' w' pl') : sclass p.conv ≠ 0 := by
  cases r with
  | nil => cases h
  | cons c r =>
    rw [convC] at h
    cases h1 : (decide (sclass c = 0) || !slong ((sclass c : Nat) : Int) (len : Int)) || (decide (sclass c = 5) && (mute || decide (0 < wid)))
    · rw [h1, cond_false] at h
      have hs : sclass c ≠ 0 := by
        simp only [Bool.or_eq_false_iff, decide_eq_false_iff_not] at h1
        exact h1.1.1
      by_cases hc : c = 91
      · rw [if_pos hc] at h
        cases hst : stL r with
        | none => rw [hst] at h; cases h
        | some x => rw [hst] at h; rw [convE_conv h]; exact hs
      rw [if_neg hc] at h; rw [convE_conv h]; exact hs
    rw [h1, cond_true] at h; cases h
theorem sclass_plain {c : Nat} (h : sclass c ≠ 0) : c ≠ 0 ∧ c ≠ 32 ∧ c ≠ 37 := ⟨fun e => h (by subst e; rfl), fun e => h (by subst e; rfl), fun e => h (by subst e; rfl)⟩
theorem pieceL_loc {cnt : Nat} {w pl : Bool} {r : List Nat} {p : Pc} {q : List Nat} {c' : Nat} {w' pl' : Bool} (h : pieceL cnt w pl r = .ok p q c' w' pl') :
    folw p.conv q ∧ ∃ v, v ≠ [] ∧ r = v ++ q ∧ ∀ z, folw p.conv z → pieceL cnt w pl (v ++ z) = .ok p z c' w' pl' := by
  cases r with
  | nil => cases h
  | cons c r =>
    rw [pieceL] at h
    cases hw : swhite c
    · rw [hw, cond_false] at h
      by_cases h37 : c = 37
      · rw [if_pos h37] at h
        subst h37
        cases hp : hdIs r 37
        · rw [hp, cond_false] at h
          cases hc : convL cnt w pl r with
          | bad => rw [hc] at h; cases h
          | lim => rw [hc] at h; cases h
          | ok p1 q1 c1 w1 pl1 =>
            rw [hc] at h
            injection h with e1 e2 e3 e4 e5
            subst e1; subst e2; subst e3; subst e4; subst e5
            obtain ⟨v, a, b⟩ := convL_loc hc
            have hcl := sclass_plain (convC_conv hc)
            have hx : ∃ x y, v = x :: y := by
              cases v with
              | nil =>
                exfalso
                have := (convL_ok hc).1
                rw [List.nil_append] at a
                rw [a] at this; omega
              | cons x y => exact ⟨x, y, rfl⟩
            obtain ⟨x, y, hxy⟩ := hx
            subst hxy
            refine ⟨fun a t _ => ⟨fun e => absurd e hcl.2.1, fun e => absurd e hcl.1⟩, 37 :: x :: y, (fun e => by cases e), by rw [a]; rfl, fun z _ => ?_⟩
            rw [List.cons_append, pieceL, hw, cond_false, if_pos rfl]
            have : hdIs ((x :: y) ++ z) 37 = false := by rw [← hp, a]; rfl
            rw [this, cond_false, b]
        rw [hp, cond_true] at h
        injection h with e1 e2 e3 e4 e5
        subst e1; subst e2; subst e3; subst e4; subst e5
        cases r with
        | nil => cases hp
        | cons x r =>
          have hx : x = 37 := of_decide_eq_true hp
          subst hx
          refine ⟨fun a t _ => ⟨fun e => absurd e (by show (37 : Nat) ≠ 32; decide), fun e => absurd e (by show (37 : Nat) ≠ 0; decide)⟩, [37, 37], (fun e => by cases e), rfl, fun z _ => ?_⟩
          rw [List.cons_append, pieceL, hw, cond_false, if_pos rfl]; rfl
      rw [if_neg h37] at h
      cases h0 : hdIs (runL splain (c :: r)).2 0
      · rw [h0, cond_false] at h
        injection h with e1 e2 e3 e4 e5
        subst e3; subst e4; subst e5
        have hall := runL_all splain (c :: r)
        have hstop := runL_stop splain (c :: r)
        have happ := runL_app splain (c :: r)
        by_cases hc0 : c = 0
        · exfalso
          subst hc0
          have : (runL splain (0 :: r)).2 = 0 :: r := rfl
          rw [this] at h0; cases h0
        have hpc : splain c = true := by
          unfold splain
          rw [decide_eq_true hc0, decide_eq_true h37, hw]; rfl
        have hx : ∃ y, (runL splain (c :: r)).1 = c :: y := by rw [runL, hpc]; exact ⟨_, rfl⟩
        obtain ⟨y, hy⟩ := hx
        generalize hX : (runL splain (c :: r)).1 = X at *
        generalize hQ : (runL splain (c :: r)).2 = Q at *
        subst e1; subst e2
        refine ⟨fun a t e => ⟨fun e2 => absurd e2 (by show (0 : Nat) ≠ 32; decide), fun _ => ⟨hstop a t e, fun ea => by rw [e, ea] at h0; cases h0⟩⟩, X, by rw [hy]; exact (fun e => by cases e), happ.symm, fun z hz => ?_⟩
        have hru := runL_of X z hall fun a t e => (hz a t e).2 rfl |>.1
        rw [hy] at hru ⊢
        rw [List.cons_append] at hru ⊢
        rw [pieceL, hw, cond_false, if_neg h37, hru]
        simp only
        have : hdIs z 0 = false := by
          cases z with
          | nil => rfl
          | cons a t => exact decide_eq_false ((hz a t rfl).2 rfl).2
        rw [this]; rfl
      rw [h0, cond_true] at h; cases h
    rw [hw, cond_true] at h
    injection h with e1 e2 e3 e4 e5
    subst e3; subst e4; subst e5
    have hall := runL_all swhite (c :: r)
    have hstop := runL_stop swhite (c :: r)
    have happ := runL_app swhite (c :: r)
    have hx : ∃ y, (runL swhite (c :: r)).1 = c :: y := by rw [runL, hw]; exact ⟨_, rfl⟩
    obtain ⟨y, hy⟩ := hx
    generalize hX : (runL swhite (c :: r)).1 = X at *
    generalize hQ : (runL swhite (c :: r)).2 = Q at *
    subst e1; subst e2
    refine ⟨fun a t e => ⟨fun _ => hstop a t e, fun e2 => absurd e2 (by show (32 : Nat) ≠ 0; decide)⟩, X, by rw [hy]; exact (fun e => by cases e), happ.symm, fun z hz => ?_⟩
    have hru := runL_of X z hall fun a t e => (hz a t e).1 rfl
    rw [hy] at hru ⊢
    rw [List.cons_append] at hru ⊢
    rw [pieceL, hw, cond_true, hru]
end Go.V
set_option maxHeartbeats 400000
set_option maxRecDepth 100000
namespace Go.V
open Go.RowKit Go.Proofs
/-! WHERE READING STOPS. -/
theorem pieceL_err6 {cnt : Nat} {w pl : Bool} {r q : List Nat} (hr : r ≠ []) (h : pieceL cnt w pl r = .err 6 q) :
    ∃ x, r = x ++ q ∧ (x = [] ∨ ∃ p, pieceL cnt w pl x = .ok p [] cnt w pl) ∧ ∃ a t, q = a :: t ∧ (a = 37 ∨ a = 0) := by
  cases r with
  | nil => exact absurd rfl hr
  | cons c r =>
    rw [pieceL] at h
    cases hw : swhite c
    · rw [hw, cond_false] at h
      by_cases h37 : c = 37
      · rw [if_pos h37] at h
        have hq : q = c :: r := by
          cases hp : hdIs r 37
          · rw [hp, cond_false] at h
            cases hc : convL cnt w pl r with
            | bad =>
              rw [hc] at h
              have h : PR.err 6 (c :: r) = PR.err 6 q := h
              exact (PR.err.inj h).2.symm
            | lim =>
              rw [hc] at h
              have h : PR.err 2 (c :: r) = PR.err 6 q := h
              exact absurd (PR.err.inj h).1 (by decide)
            | ok p1 q1 c1 w1 pl1 =>
              rw [hc] at h
              have h : PR.ok p1 q1 c1 w1 pl1 = PR.err 6 q := h
              cases h
          rw [hp, cond_true] at h; cases h
        exact ⟨[], hq.symm, .inl rfl, c, r, hq, .inl h37⟩
      rw [if_neg h37] at h
      cases h0 : hdIs (runL splain (c :: r)).2 0
      · rw [h0, cond_false] at h; cases h
      rw [h0, cond_true] at h
      injection h with _ h
      have hall := runL_all splain (c :: r)
      have happ := runL_app splain (c :: r)
      have hz : ∃ a t, q = a :: t ∧ (a = 37 ∨ a = 0) := by
        rw [← h]
        cases hq : (runL splain (c :: r)).2 with
        | nil => rw [hq] at h0; cases h0
        | cons a t => rw [hq] at h0; exact ⟨a, t, rfl, .inr (of_decide_eq_true h0)⟩
      refine ⟨(runL splain (c :: r)).1, by rw [← h]; exact happ.symm, ?_, hz⟩
      cases hx : (runL splain (c :: r)).1 with
      | nil => exact .inl rfl
      | cons a y =>
        right
        have ha : a = c := by
          rw [hx] at happ
          injection happ
        subst ha
        have hru := runL_of (f := splain) (a :: y) [] (fun b hb => hall b (by rw [hx]; exact hb)) (fun _ _ e => by cases e)
        rw [List.append_nil] at hru
        refine ⟨bareP (bytesOf (a :: y)) 0 0 0 0, ?_⟩
        rw [pieceL, hw, cond_false, if_neg h37, hru]; rfl
    rw [hw, cond_true] at h; cases h
theorem prsG_6 : ∀ (f m cnt : Nat) (w pl : Bool) (r : List Nat) (l : List Pc) (q : List Nat), r.length < f → prsG f m cnt w pl r = (l, 6, q) →
    ∃ u, r = u ++ q ∧ (∃ a t, q = a :: t ∧ (a = 37 ∨ a = 0)) ∧ ∃ l', ∀ f', u.length < f' → prsG f' m cnt w pl u = (l', 0, [])
  | 0, _, _, _, _, _, _, _, hf, _ => by omega
  | f + 1, m, cnt, w, pl, r, l, q, hf, h => by
    rw [prsG] at h
    by_cases h1 : r = []
    · rw [if_pos h1] at h; injection h with _ h; injection h with h _; cases h
    rw [if_neg h1] at h
    by_cases h2 : m = 500
    · rw [if_pos h2] at h; injection h with _ h; injection h with h _; cases h
    rw [if_neg h2] at h
    cases hp : pieceL cnt w pl r with
    | err e q0 =>
      rw [hp] at h
      injection h with _ h; injection h with e1 e2
      subst e1; subst e2
      obtain ⟨x, a, b, c⟩ := pieceL_err6 h1 hp
      refine ⟨x, a, c, ?_⟩
      rcases b with b | ⟨p, b⟩
      · subst b
        refine ⟨[], fun f' hf' => ?_⟩
        obtain ⟨g, rfl⟩ : ∃ g, f' = g + 1 := ⟨f' - 1, by simp only [List.length_nil] at hf'; omega⟩
        rw [prsG, if_pos rfl]
      refine ⟨[p], fun f' hf' => ?_⟩
      have hx : x ≠ [] := fun e => by subst e; cases b
      have hl : 0 < x.length := List.length_pos_iff.2 hx
      obtain ⟨g, rfl⟩ : ∃ g, f' = g + 1 + 1 := ⟨f' - 2, by omega⟩
      rw [prsG, if_neg hx, if_neg h2, b]
      simp only
      rw [prsG, if_pos rfl]
    | ok p r' c' w' pl' =>
      rw [hp] at h
      injection h with hl h
      have hp1 := pieceL_ok hp
      obtain ⟨fq, v, hv, hvr, hvz⟩ := pieceL_loc hp
      have ih := prsG_6 f (m + 1) c' w' pl' r' (prsG f (m + 1) c' w' pl' r').1 q (by omega) (by rw [← h])
      obtain ⟨u, a, c, l', b⟩ := ih
      refine ⟨v ++ u, by rw [hvr, a, List.append_assoc], c, p :: l', fun f' hf' => ?_⟩
      have hfu : folw p.conv u := fun x t e => fq x (t ++ q) (by rw [a, e]; rfl)
      have hl : 0 < v.length := List.length_pos_iff.2 hv
      rw [List.length_append] at hf'
      obtain ⟨g, rfl⟩ : ∃ g, f' = g + 1 := ⟨f' - 1, by omega⟩
      have hne : v ++ u ≠ [] := fun e => hv (List.append_eq_nil_iff.1 e).1
      rw [prsG, if_neg hne, if_neg h2, hvz u hfu]
      simp only
      rw [b g (by omega)]
theorem prsG_e : ∀ (f m cnt : Nat) (w pl : Bool) (r : List Nat), (prsG f m cnt w pl r).2.1 = 0 ∨ (prsG f m cnt w pl r).2.1 = 2 ∨ (prsG f m cnt w pl r).2.1 = 6
  | 0, _, _, _, _, _ => .inr (.inr rfl)
  | f + 1, m, cnt, w, pl, r => by
    rw [prsG]
    by_cases h1 : r = []
    · rw [if_pos h1]; exact .inl rfl
    rw [if_neg h1]
    by_cases h2 : m = 500
    · rw [if_pos h2]; exact .inr (.inl rfl)
    rw [if_neg h2]
    cases hp : pieceL cnt w pl r with
    | err e q =>
      simp only
      rcases pieceL_err hp with h | h
      · exact .inr (.inr h)
      exact .inr (.inl h)
    | ok p r' c' w' pl' => exact prsG_e f (m + 1) c' w' pl' r'
theorem parse_other {s : ByteArray} {l : List Pc} {e o : Int} (h : parseF s = (l, e, o)) (he : e ≠ 6) : (e = 0 ∧ o = 0) ∨ e = 2 := by
  by_cases hs : s.size ≤ 2000
  · rw [parse_G hs] at h
    have hd := prsG_e (s.size + 1) 0 0 false false (sby s)
    generalize prsG (s.size + 1) 0 0 false false (sby s) = g at *
    by_cases h0 : g.2.1 = 0
    · rw [if_pos h0] at h
      cases hg : (sgr g.1).2
      · rw [hg, cond_false] at h; injection h with _ h; injection h with h _; exact absurd h.symm he
      rw [hg, cond_true] at h; injection h with _ h; injection h with h1 h2; exact .inl ⟨h1.symm, h2.symm⟩
    rw [if_neg h0] at h
    injection h with _ h; injection h with h1 _
    rcases hd with hd | hd | hd
    · exact absurd hd h0
    · exact .inr (h1.symm.trans hd)
    exact absurd (h1.symm.trans hd) he
  unfold parseF at h
  rw [if_pos (by omega)] at h
  injection h with _ h; injection h with h _; exact .inr h.symm
theorem parse_offs {s : ByteArray} {l : List Pc} {o : Int} (h : parseF s = (l, 6, o)) :
    s.size ≤ 2000 ∧ ∃ k : Nat, o = (k : Int) ∧ k ≤ s.size ∧ (k < s.size → (sby s).getD k 0 = 37 ∨ (sby s).getD k 0 = 0) ∧ ((parseF (s.extract 0 k)).2.1 = 0 ∨ ((parseF (s.extract 0 k)).2.1 = 6 ∧ (parseF (s.extract 0 k)).2.2 = (k : Int))) := by
  have hs : s.size ≤ 2000 := by
    apply Classical.byContradiction
    intro hn
    unfold parseF at h
    rw [if_pos (by omega)] at h
    injection h with _ h; injection h with h _; cases h
  refine ⟨hs, ?_⟩
  have hl := sby_len s
  have h' := h
  rw [parse_G hs] at h
  generalize hg : prsG (s.size + 1) 0 0 false false (sby s) = g at *
  obtain ⟨gl, ge, gq⟩ := g
  simp only at h
  by_cases h0 : ge = 0
  · rw [if_pos h0] at h
    cases hb : (sgr gl).2
    · rw [hb, cond_false] at h
      injection h with _ h; injection h with _ h
      have hx : s.extract 0 s.size = s := by
        have e : sby (s.extract 0 s.size) = sby s := by
          have := sby_cut (s := s) (i := 0) (n := s.size) (by omega)
          rw [Nat.zero_add, List.drop_zero] at this
          rw [this, ← hl, List.take_length]
        rw [← bytesOf_sby (s.extract 0 s.size), e, bytesOf_sby]
      refine ⟨s.size, h.symm, Nat.le_refl _, fun hk => absurd hk (Nat.lt_irrefl _), ?_⟩
      rw [hx, h']; exact .inr ⟨rfl, h.symm⟩
    rw [hb, cond_true] at h; injection h with _ h; injection h with h _; cases h
  rw [if_neg h0] at h
  injection h with _ h; injection h with h1 h2
  have h1 : ge = 6 := h1
  subst h1
  obtain ⟨u, a, ⟨x, t, b, c⟩, l', d⟩ := prsG_6 _ _ _ _ _ _ _ _ (by omega) hg
  have hlu : s.size - gq.length = u.length := by
    rw [← hl, a, List.length_append]; omega
  rw [hlu] at h2
  have hule : u.length ≤ s.size := by rw [← hl, a, List.length_append]; omega
  refine ⟨u.length, h2.symm, hule, fun _ => ?_, ?_⟩
  · have : (sby s).getD u.length 0 = x := by
      rw [a, b, List.getD_eq_getElem?_getD, List.getElem?_append_right (Nat.le_refl _), Nat.sub_self]; rfl
    rw [this]; exact c
  have hsz : (s.extract 0 u.length).size = u.length := by rw [ByteArray.size_extract]; omega
  have hsb : sby (s.extract 0 u.length) = u := by
    have := sby_cut (s := s) (i := 0) (n := u.length) (by omega)
    rw [Nat.zero_add, List.drop_zero, a, List.take_left] at this
    exact this
  rw [parse_G (by omega), hsz, hsb, d _ (Nat.lt_succ_self _)]
  simp only [if_true]
  cases (sgr l').2
  · rw [cond_false]; exact .inr ⟨rfl, rfl⟩
  rw [cond_true]; exact .inl rfl
end Go.V
set_option maxHeartbeats 8000000
set_option maxRecDepth 100000
set_option synthInstance.maxSize 100000
set_option synthInstance.maxHeartbeats 2000000
namespace Go.V
open Go.RowKit Go.Proofs
theorem q_pcB {env : List D} {H : Heap} {dst : Option Tmp} {x y : Operand} {ty T' : TypeId} {pos : String} {aft : Array Edge} {gd : Option (Nat × Bool)} {p : Pc} {s : ByteArray} {a w n : Int} {c : Nat} (hx : evO Cg env x = some (pcA p)) (hy : evO Cg env y = some (.agg [.str s, .int .i64 a, .int .i64 w, .int .i64 n, .int .u8 (c : Int), .int .u64 0, .int .u64 0, .int .u64 0, .int .u64 0])) (hp : PcF p) (hq : PcF (bareP s a w n c)) :
    OpQ Cg ⟨dst, .binOp .eql Zac x y T', ty, pos, aft, gd⟩ env H (.bool (pEq p (bareP s a w n c))) := ZfQ hx (by rw [hy, bare_cells]) hp hq
theorem pEq_rfl (p : Pc) : pEq p p = true := by unfold pEq; exact decide_eq_true ⟨rfl, rfl, rfl, rfl, rfl, rfl, rfl, rfl, rfl⟩
theorem wfS {a w n : Int} {c : Nat} {S : Nat → Bool} (ha : (Lit.int .i64 a).wf = true) (hw : (Lit.int .i64 w).wf = true) (hn : (Lit.int .i64 n).wf = true) (hc : c < 256) : PcF ⟨ByteArray.empty, a, w, n, c, S⟩ := ⟨⟨by show (0 : Nat) ≤ _; decide, hc⟩, ha, hw, hn⟩
theorem Zbi : PC Cg Ze2 [] (fun o => o = .ret (.bool true)) := by
  obtain ⟨S, hS⟩ : ∃ S, S = setx := ⟨_, rfl⟩
  obtain ⟨S4, hS4⟩ : ∃ S4, S4 = setx4 := ⟨_, rfl⟩
  obtain ⟨l1, hl1⟩ : ∃ l1, l1 = lx1 := ⟨_, rfl⟩
  obtain ⟨l2, hl2⟩ : ∃ l2, l2 = lx2 := ⟨_, rfl⟩
  have h100 : S 100 = true := by rw [hS]; rfl
  have h98 : S 98 = false := by rw [hS]; rfl
  have f1 : ∀ p ∈ l1, PcF p := by
    rw [hl1]
    intro p hp
    simp only [lx1, List.mem_cons, List.not_mem_nil, or_false] at hp
    rcases hp with rfl | rfl | rfl | rfl | rfl
    · exact wfS (by decide) (by decide) (by decide) (by decide)
    · exact wfS (by decide) (by decide) (by decide) (by decide)
    · exact ⟨⟨by decide, by decide⟩, by decide, by decide, by decide⟩
    · exact wfS (by decide) (by decide) (by decide) (by decide)
    exact wfS (by decide) (by decide) (by decide) (by decide)
  have f2 : ∀ p ∈ l2, PcF p := by
    rw [hl2]
    intro p hp
    simp only [lx2, List.mem_cons, List.not_mem_nil, or_false] at hp
    rcases hp with rfl | rfl
    · exact wfS (by decide) (by decide) (by decide) (by decide)
    exact wfS (by decide) (by decide) (by decide) (by decide)
  have g2 : ∀ p ∈ l2, p.lit.size ≤ 1048576 := by
    rw [hl2]
    intro p hp
    simp only [lx2, List.mem_cons, List.not_mem_nil, or_false] at hp
    rcases hp with rfl | rfl
    · decide
    decide
  have n1 : l1.length = 5 := by rw [hl1]; rfl
  have n2 : l2.length = 2 := by rw [hl2]; rfl
  have c1 : PC Cg ZaV [.str sx1] (fun o => o = .ret (.tup [slP l1, .int .i64 0, .int .i64 0])) := by have := Zak sx1; rw [px1, ← hl1] at this; exact this
  have c2 : PC Cg ZaV [.str sx2] (fun o => o = .ret (.tup [slP l2, .int .i64 0, .int .i64 0])) := by have := Zak sx2; rw [px2, ← hl2] at this; exact this
  have c3 : PC Cg ZaV [.str sx3] (fun o => o = .ret (.tup [slP [], .int .i64 6, .int .i64 4])) := by have := Zak sx3; rw [px3] at this; exact this
  have c4 : PC Cg Zcr [slP l2] (fun o => o = .ret (.tup [.str sx2, .int .i64 0])) := by have := ZfC l2 f2 g2 (by omega); rw [show sPrint l2 = (sx2, 0) by rw [hl2]; exact prn_2] at this; exact this
  have c5 : PC Cg ZbH [.str sx4] (fun o => o = .ret (.tup [setD S4, .int .i64 0])) := by have := PC.g (ZdS sx4); rw [rx4, ← hS4] at this; exact this
  have c6 : PC Cg ZbJ [setD S4] (fun o => o = .ret (.tup [.str (bytesOf [97, 45, 99, 101, 45]), .int .i64 0])) := by have := PC.g (ZdU S4); rw [show setTx S4 = ([97, 45, 99, 101, 45], 0) by rw [hS4]; exact tx4] at this; exact this
  have c7 : PC Cg ZcI [slP l1] (fun o => o = .ret (.tup [.int .i64 2, .int .i64 0])) := by have := ZfR l1 f1 (by omega); rw [show sArgs l1 = (2, 0) by rw [hl1]; exact args_1] at this; exact this
  have c8 : PC Cg ZbI [slP l2] (fun o => o = .ret (.tup [.bool false, .int .i64 0])) := by have := Ze6 l2 f2 (by omega); rw [show sOrd l2 = (false, 0) by rw [hl2]; exact ord_2] at this; exact this
  have d0 := pcs_drop l1 0 (by omega)
  have d1 := pcs_drop l1 1 (by omega)
  have d3 := pcs_drop l1 3 (by omega)
  have d4 := pcs_drop l1 4 (by omega)
  have e1 := pcs_drop l2 1 (by omega)
  have m1 : pcs l1 ≠ [] := pcs_ne (i := 0) (by omega)
  have m2 : pcs l2 ≠ [] := pcs_ne (i := 0) (by omega)
  rw [show l1.getD 0 pcZ = bareP ByteArray.empty 1 0 0 100 by rw [hl1]; rfl] at d0
  rw [show l1.getD 1 pcZ = bareP ByteArray.empty 0 0 0 32 by rw [hl1]; rfl] at d1
  rw [show l1.getD 3 pcZ = bareP ByteArray.empty 0 5 0 115 by rw [hl1]; rfl] at d3
  rw [show l1.getD 4 pcZ = bareP ByteArray.empty 2 0 3 102 by rw [hl1]; rfl] at d4
  rw [show l2.getD 1 pcZ = ⟨ByteArray.empty, 1, 0, 0, 91, S⟩ by rw [hl2, hS]; rfl] at e1
  have w0 : PcF (bareP ByteArray.empty 1 0 0 100) := wfS (by decide) (by decide) (by decide) (by decide)
  have w1 : PcF (bareP ByteArray.empty 0 0 0 32) := wfS (by decide) (by decide) (by decide) (by decide)
  have w3 : PcF (bareP ByteArray.empty 0 5 0 115) := wfS (by decide) (by decide) (by decide) (by decide)
  have w4 : PcF (bareP ByteArray.empty 2 0 3 102) := wfS (by decide) (by decide) (by decide) (by decide)
  clear hS hS4 hl1 hl2
  refine PC.rn Zdf ZeU ZeV (rs := [.tmp 0]) (by rw [ZeW]) ?_
  refine ARun.seq (ARun.region ?_); refine zza ?_; refine AOps.nil (ARun.seq (ARun.region ?_))
  refine zzc rfl rfl (c1) ?_
  refine zzm ?_; refine zze ?_; refine zze ?_; refine zze ?_; refine zza ?_; refine zza ?_; refine zza ?_; refine AOps.nil (ARun.seq (ARun.region ?_))
  refine zzc rfl rfl (c2) ?_
  refine zzm ?_; refine zze ?_; refine zze ?_; refine zze ?_; refine zza ?_; refine zza ?_; refine zza ?_; refine AOps.nil (ARun.seq (ARun.region ?_))
  refine zzc rfl rfl (c3) ?_
  refine zzm ?_; refine zze ?_; refine zze ?_; refine zze ?_; refine zza ?_; refine zza ?_; refine zza ?_; refine AOps.nil (ARun.seq (ARun.region ?_)); refine zzm ?_
  refine zzc rfl rfl (c4) ?_
  refine zzm ?_; refine zze ?_; refine zze ?_; refine zza ?_; refine zza ?_; refine AOps.nil (ARun.seq (ARun.region ?_))
  refine zzc rfl rfl (c5) ?_
  refine zzm ?_; refine zze ?_; refine zze ?_
  refine ZbG rfl rfl rfl rfl rfl rfl rfl rfl rfl rfl rfl ?_
  refine zza ?_; refine AOps.nil (ARun.seq (ARun.region ?_)); refine zzL ?_
  refine zzc rfl rfl (c6) ?_
  refine zzm ?_; refine zze ?_; refine zze ?_; refine zza ?_; refine zza ?_; refine AOps.nil (ARun.seq (ARun.region ?_)); refine zzm ?_
  refine zzc rfl rfl (c7) ?_
  refine zzm ?_; refine zze ?_; refine zze ?_; refine zza ?_; refine zza ?_; refine AOps.nil (ARun.seq (ARun.region ?_)); refine zzm ?_
  refine zzc rfl rfl (c8) ?_
  refine zzm ?_; refine zze ?_; refine zze ?_; refine zza ?_; refine zza ?_; refine AOps.nil (ARun.seq (ARun.seq (ARun.region ?_))); refine zzm ?_; refine zzi ?_; refine zzm ?_; refine zzm ?_; refine zzi ?_; refine zzp ?_; refine zzm ?_; refine zzm ?_; refine zzi ?_; refine zzp ?_; refine zzm ?_; refine zzm ?_; refine zzi ?_; refine zzp ?_; refine zzm ?_; refine zzm ?_; refine zzi ?_; refine zzp ?_; refine zzm ?_; refine zzm ?_; refine zzi ?_; refine zzp ?_; refine zzm ?_; refine zzm ?_; refine zzi ?_; refine zzp ?_; refine zzm ?_; refine zzm ?_; refine zzi ?_; refine zzp ?_; refine zzm ?_; refine zzm ?_; refine zzi ?_; refine zzp ?_; refine zzm ?_; refine zzm ?_; refine zzN ?_
  refine y_op rfl (OpQ.cast (d' := .bool false) (q_int rfl rfl rfl) (by rw [n1]; rfl)) ?_
  refine zzp ?_; refine zzm ?_; refine zzm ?_; refine zzN ?_
  refine y_op rfl (OpQ.cast (d' := .bool false) (q_int rfl rfl rfl) (by rw [n2]; rfl)) ?_
  refine zzp ?_; refine zzm ?_; refine zzm ?_; refine zzi ?_; refine zzp ?_; refine zzm ?_; refine zzm ?_; refine zzp ?_; refine AOps.nil ?_
  refine ARun.condF rfl ?_
  refine ARun.skip (ARun.seq (ARun.region ?_)); refine zzm ?_
  refine y_op rfl (ZaC rfl rfl rfl rfl (by omega) (by omega) m1 d0) ?_
  refine zzL ?_
  refine y_op rfl (Za6 rfl rfl rfl rfl rfl) ?_
  refine y_op rfl (OpQ.cast (d' := .bool true) (q_pcB (p := bareP ByteArray.empty 1 0 0 100) (s := ByteArray.empty) (a := 1) (w := 0) (n := 0) (c := 100) rfl rfl w0 w0) (congrArg D.bool (pEq_rfl _))) ?_
  refine zzm ?_; refine zzm ?_
  refine y_op rfl (ZaC rfl rfl rfl rfl (by omega) (by omega) m1 d1) ?_
  refine zzL ?_
  refine y_op rfl (Za6 rfl rfl rfl rfl rfl) ?_
  refine y_op rfl (OpQ.cast (d' := .bool true) (q_pcB (p := bareP ByteArray.empty 0 0 0 32) (s := ByteArray.empty) (a := 0) (w := 0) (n := 0) (c := 32) rfl rfl w1 w1) (congrArg D.bool (pEq_rfl _))) ?_
  refine zzp ?_; refine zzm ?_; refine zzm ?_
  refine y_op rfl (ZaC rfl rfl rfl rfl (by omega) (by omega) m1 d3) ?_
  refine zzL ?_
  refine y_op rfl (Za6 rfl rfl rfl rfl rfl) ?_
  refine y_op rfl (OpQ.cast (d' := .bool true) (q_pcB (p := bareP ByteArray.empty 0 5 0 115) (s := ByteArray.empty) (a := 0) (w := 5) (n := 0) (c := 115) rfl rfl w3 w3) (congrArg D.bool (pEq_rfl _))) ?_
  refine zzp ?_; refine zzm ?_; refine zzm ?_
  refine y_op rfl (ZaC rfl rfl rfl rfl (by omega) (by omega) m1 d4) ?_
  refine zzL ?_
  refine y_op rfl (Za6 rfl rfl rfl rfl rfl) ?_
  refine y_op rfl (OpQ.cast (d' := .bool true) (q_pcB (p := bareP ByteArray.empty 2 0 3 102) (s := ByteArray.empty) (a := 2) (w := 0) (n := 3) (c := 102) rfl rfl w4 w4) (congrArg D.bool (pEq_rfl _))) ?_
  refine zzp ?_; refine zza ?_; refine AOps.nil (ARun.seq (ARun.region ?_)); refine zzm ?_; refine zzm ?_; refine zzm ?_
  refine y_op rfl (OpQ.cast (d' := .bool true) (ZeP rfl rfl) (congrArg D.bool (by rw [str_eq]; exact decide_eq_true rfl))) ?_
  refine zzp ?_; refine zzm ?_; refine zzm ?_
  refine y_op rfl (OpQ.cast (d' := .bool true) (ZeP rfl rfl) (congrArg D.bool (by rw [str_eq]; exact decide_eq_true rfl))) ?_
  refine zzp ?_; refine zzm ?_; refine zzm ?_
  refine y_op rfl (ZaC rfl rfl rfl rfl (by omega) (by omega) m2 e1) ?_
  refine zzf ?_; refine zzL ?_
  refine y_op rfl (OpQ.cast (d' := .bool true) (q_call rfl rfl (PC.g (ZbR S 100 (by decide)))) (congrArg D.bool h100)) ?_
  refine zzp ?_; refine zzm ?_; refine zzm ?_
  refine y_op rfl (ZaC rfl rfl rfl rfl (by omega) (by omega) m2 e1) ?_
  refine zzf ?_; refine zzL ?_
  refine y_op rfl (OpQ.cast (d' := .bool false) (q_call rfl rfl (PC.g (ZbR S 98 (by decide)))) (congrArg D.bool h98)) ?_
  refine zzn ?_; refine zzp ?_; refine zza ?_; refine AOps.nil ?_
  refine ARun.ret ?_
  refine ⟨_, _, _, .tmp rfl .nil, .cons (.same _) .nil, rfl, ?_⟩
  rfl
end Go.V
set_option maxHeartbeats 8000000
set_option maxRecDepth 100000
set_option synthInstance.maxSize 100000
set_option synthInstance.maxHeartbeats 2000000
namespace Go.V
open Go.RowKit Go.Proofs
theorem ScanOffsets_0 (s : ByteArray) {l : List Pc} (hp : parseF s = (l, 0, 0)) : PC Cg Zag [.str s] (fun o => o = .ret (.bool true)) := by
  have c1 := Zak s
  rw [hp] at c1
  simp only at c1
  refine PC.rn Zae Zah Zai (rs := [.tmp 2]) (by rw [Zaj]) ?_
  refine ARun.seq (ARun.region ?_); refine zza ?_; refine AOps.nil (ARun.seq (ARun.region ?_))
  refine zzc rfl rfl (Zbi) ?_
  refine zza ?_; refine AOps.nil (ARun.seq (ARun.region ?_)); refine zzm ?_
  refine zzc rfl rfl (c1) ?_
  refine zzm ?_; refine zze ?_; refine zze ?_; refine zze ?_; refine zza ?_; refine zza ?_; refine zza ?_; refine AOps.nil (ARun.seq (ARun.seq (ARun.region ?_))); refine zzm ?_; refine zzi ?_; refine AOps.nil ?_
  refine ARun.condT rfl ?_
  refine ARun.seq (ARun.region ?_); refine zzm ?_; refine zzm ?_; refine zzm ?_; refine zzi ?_; refine zzm ?_; refine zzm ?_; refine zzi ?_; refine zzp ?_; refine zzm ?_; refine zzk ?_; refine zzk ?_; refine zzp ?_; refine zzp ?_; refine zza ?_; refine AOps.nil ?_
  refine ARun.ret ?_
  refine ⟨_, _, _, .tmp rfl .nil, .cons (.same _) .nil, rfl, ?_⟩
  rfl
theorem ScanOffsets_2 (s : ByteArray) {l : List Pc} {o : Int} (hp : parseF s = (l, 2, o)) : PC Cg Zag [.str s] (fun o => o = .ret (.bool true)) := by
  have c1 := Zak s
  rw [hp] at c1
  simp only at c1
  refine PC.rn Zae Zah Zai (rs := [.tmp 2]) (by rw [Zaj]) ?_
  refine ARun.seq (ARun.region ?_); refine zza ?_; refine AOps.nil (ARun.seq (ARun.region ?_))
  refine zzc rfl rfl (Zbi) ?_
  refine zza ?_; refine AOps.nil (ARun.seq (ARun.region ?_)); refine zzm ?_
  refine zzc rfl rfl (c1) ?_
  refine zzm ?_; refine zze ?_; refine zze ?_; refine zze ?_; refine zza ?_; refine zza ?_; refine zza ?_; refine AOps.nil (ARun.seq (ARun.seq (ARun.region ?_))); refine zzm ?_; refine zzi ?_; refine AOps.nil ?_
  refine ARun.condT rfl ?_
  refine ARun.seq (ARun.region ?_); refine zzm ?_; refine zzm ?_; refine zzm ?_; refine zzi ?_; refine zzm ?_; refine zzk ?_; refine zzk ?_; refine zzp ?_; refine zzm ?_; refine zzm ?_; refine zzi ?_; refine zzp ?_; refine zzp ?_; refine zza ?_; refine AOps.nil ?_
  refine ARun.ret ?_
  refine ⟨_, _, _, .tmp rfl .nil, .cons (.same _) .nil, rfl, ?_⟩
  rfl
theorem ScanOffsets_a0 (s : ByteArray) {l l1 : List Pc} {k : Nat} {o1 : Int} (hp : parseF s = (l, 6, (k : Int))) (hs : s.size ≤ 2000) (hk : k ≤ s.size) (he : k = s.size) (hq : parseF (s.extract 0 k) = (l1, 0, o1)) : PC Cg Zag [.str s] (fun o => o = .ret (.bool true)) := by
  have c1 := Zak s
  rw [hp] at c1
  simp only at c1
  have c2 := Zak (s.extract 0 k)
  rw [hq] at c2
  simp only at c2
  refine PC.rn Zae Zah Zai (rs := [.tmp 2]) (by rw [Zaj]) ?_
  refine ARun.seq (ARun.region ?_); refine zza ?_; refine AOps.nil (ARun.seq (ARun.region ?_))
  refine zzc rfl rfl (Zbi) ?_
  refine zza ?_; refine AOps.nil (ARun.seq (ARun.region ?_)); refine zzm ?_
  refine zzc rfl rfl (c1) ?_
  refine zzm ?_; refine zze ?_; refine zze ?_; refine zze ?_; refine zza ?_; refine zza ?_; refine zza ?_; refine AOps.nil (ARun.seq (ARun.seq (ARun.region ?_))); refine zzm ?_; refine zzi ?_; refine AOps.nil ?_
  refine ARun.condF rfl ?_
  refine ARun.skip (ARun.seq (ARun.seq (ARun.region ?_))); refine zzm ?_
  refine y_op rfl (OpQ.cast (d' := .bool false) (q_int rfl rfl rfl) (congrArg D.bool (decide_eq_false (by omega)))) ?_
  refine zzm ?_; refine zzm ?_; refine zzm ?_
  refine y_op rfl (Zad rfl rfl) ?_
  refine y_op rfl (OpQ.cast (d' := .bool false) (q_int rfl rfl rfl) (congrArg D.bool (decide_eq_false (by omega)))) ?_
  refine zzp ?_; refine zzm ?_; refine zzm ?_; refine zzm ?_
  refine y_op rfl (Zad rfl rfl) ?_
  refine y_op rfl (OpQ.cast (d' := .bool false) (q_int rfl rfl rfl) (congrArg D.bool (decide_eq_false (by omega)))) ?_
  refine zzm ?_; refine zzk ?_; refine zzk ?_; refine zzk ?_; refine zzk ?_; refine zzp ?_; refine zzm ?_; refine zzk ?_; refine zzk ?_; refine zzk ?_; refine zzk ?_; refine zzp ?_; refine zzp ?_; refine AOps.nil ?_
  refine ARun.condF rfl ?_
  refine ARun.skip (ARun.seq (ARun.region ?_)); refine zzm ?_; refine zzm ?_
  refine y_op rfl (Zas (lo := 0) (hi := k) rfl rfl rfl rfl (Nat.zero_le _) hk) ?_
  refine zzc rfl rfl (c2) ?_
  refine zzm ?_; refine zze ?_; refine zze ?_; refine zze ?_; refine zza ?_; refine zza ?_; refine zza ?_; refine AOps.nil (ARun.seq (ARun.region ?_)); refine zzm ?_; refine zzm ?_; refine zzm ?_; refine zzi ?_; refine zzm ?_; refine zzk ?_; refine zzk ?_; refine zzk ?_; refine zzk ?_; refine zzk ?_; refine zzk ?_; refine zzk ?_; refine zzp ?_; refine zzp ?_; refine zza ?_; refine AOps.nil ?_
  refine ARun.ret ?_
  refine ⟨_, _, _, .tmp rfl .nil, .cons (.same _) .nil, rfl, ?_⟩
  rfl
theorem ScanOffsets_a6 (s : ByteArray) {l l1 : List Pc} {k : Nat} (hp : parseF s = (l, 6, (k : Int))) (hs : s.size ≤ 2000) (hk : k ≤ s.size) (he : k = s.size) (hq : parseF (s.extract 0 k) = (l1, 6, (k : Int))) : PC Cg Zag [.str s] (fun o => o = .ret (.bool true)) := by
  have c1 := Zak s
  rw [hp] at c1
  simp only at c1
  have c2 := Zak (s.extract 0 k)
  rw [hq] at c2
  simp only at c2
  refine PC.rn Zae Zah Zai (rs := [.tmp 2]) (by rw [Zaj]) ?_
  refine ARun.seq (ARun.region ?_); refine zza ?_; refine AOps.nil (ARun.seq (ARun.region ?_))
  refine zzc rfl rfl (Zbi) ?_
  refine zza ?_; refine AOps.nil (ARun.seq (ARun.region ?_)); refine zzm ?_
  refine zzc rfl rfl (c1) ?_
  refine zzm ?_; refine zze ?_; refine zze ?_; refine zze ?_; refine zza ?_; refine zza ?_; refine zza ?_; refine AOps.nil (ARun.seq (ARun.seq (ARun.region ?_))); refine zzm ?_; refine zzi ?_; refine AOps.nil ?_
  refine ARun.condF rfl ?_
  refine ARun.skip (ARun.seq (ARun.seq (ARun.region ?_))); refine zzm ?_
  refine y_op rfl (OpQ.cast (d' := .bool false) (q_int rfl rfl rfl) (congrArg D.bool (decide_eq_false (by omega)))) ?_
  refine zzm ?_; refine zzm ?_; refine zzm ?_
  refine y_op rfl (Zad rfl rfl) ?_
  refine y_op rfl (OpQ.cast (d' := .bool false) (q_int rfl rfl rfl) (congrArg D.bool (decide_eq_false (by omega)))) ?_
  refine zzp ?_; refine zzm ?_; refine zzm ?_; refine zzm ?_
  refine y_op rfl (Zad rfl rfl) ?_
  refine y_op rfl (OpQ.cast (d' := .bool false) (q_int rfl rfl rfl) (congrArg D.bool (decide_eq_false (by omega)))) ?_
  refine zzm ?_; refine zzk ?_; refine zzk ?_; refine zzk ?_; refine zzk ?_; refine zzp ?_; refine zzm ?_; refine zzk ?_; refine zzk ?_; refine zzk ?_; refine zzk ?_; refine zzp ?_; refine zzp ?_; refine AOps.nil ?_
  refine ARun.condF rfl ?_
  refine ARun.skip (ARun.seq (ARun.region ?_)); refine zzm ?_; refine zzm ?_
  refine y_op rfl (Zas (lo := 0) (hi := k) rfl rfl rfl rfl (Nat.zero_le _) hk) ?_
  refine zzc rfl rfl (c2) ?_
  refine zzm ?_; refine zze ?_; refine zze ?_; refine zze ?_; refine zza ?_; refine zza ?_; refine zza ?_; refine AOps.nil (ARun.seq (ARun.region ?_)); refine zzm ?_; refine zzm ?_; refine zzm ?_; refine zzi ?_; refine zzm ?_; refine zzm ?_; refine zzi ?_; refine zzm ?_; refine zzm ?_; refine zzm ?_
  refine y_op rfl (OpQ.cast (d' := .bool true) (q_int rfl rfl rfl) (congrArg D.bool (decide_eq_true rfl))) ?_
  refine zzp ?_; refine zzp ?_; refine zzp ?_; refine zza ?_; refine AOps.nil ?_
  refine ARun.ret ?_
  refine ⟨_, _, _, .tmp rfl .nil, .cons (.same _) .nil, rfl, ?_⟩
  rfl
theorem ScanOffsets_b0 (s : ByteArray) {l l1 : List Pc} {k : Nat} {o1 : Int} (hp : parseF s = (l, 6, (k : Int))) (hs : s.size ≤ 2000) (hk : k ≤ s.size) (he : k < s.size) (h37 : (sby s).getD k 0 = 37) (hq : parseF (s.extract 0 k) = (l1, 0, o1)) : PC Cg Zag [.str s] (fun o => o = .ret (.bool true)) := by
  have c1 := Zak s
  rw [hp] at c1
  simp only at c1
  have c2 := Zak (s.extract 0 k)
  rw [hq] at c2
  simp only at c2
  refine PC.rn Zae Zah Zai (rs := [.tmp 2]) (by rw [Zaj]) ?_
  refine ARun.seq (ARun.region ?_); refine zza ?_; refine AOps.nil (ARun.seq (ARun.region ?_))
  refine zzc rfl rfl (Zbi) ?_
  refine zza ?_; refine AOps.nil (ARun.seq (ARun.region ?_)); refine zzm ?_
  refine zzc rfl rfl (c1) ?_
  refine zzm ?_; refine zze ?_; refine zze ?_; refine zze ?_; refine zza ?_; refine zza ?_; refine zza ?_; refine AOps.nil (ARun.seq (ARun.seq (ARun.region ?_))); refine zzm ?_; refine zzi ?_; refine AOps.nil ?_
  refine ARun.condF rfl ?_
  refine ARun.skip (ARun.seq (ARun.seq (ARun.region ?_))); refine zzm ?_
  refine y_op rfl (OpQ.cast (d' := .bool false) (q_int rfl rfl rfl) (congrArg D.bool (decide_eq_false (by omega)))) ?_
  refine zzm ?_; refine zzm ?_; refine zzm ?_
  refine y_op rfl (Zad rfl rfl) ?_
  refine y_op rfl (OpQ.cast (d' := .bool false) (q_int rfl rfl rfl) (congrArg D.bool (decide_eq_false (by omega)))) ?_
  refine zzp ?_; refine zzm ?_; refine zzm ?_; refine zzm ?_
  refine y_op rfl (Zad rfl rfl) ?_
  refine y_op rfl (OpQ.cast (d' := .bool true) (q_int rfl rfl rfl) (congrArg D.bool (decide_eq_true (by omega)))) ?_
  refine zzm ?_; refine zzm ?_; refine zzm ?_
  refine y_op rfl (Zal rfl rfl rfl (by omega) (by omega) (sby_get (i := k) _)) ?_
  refine y_op rfl (OpQ.cast (d' := .bool false) (q_int rfl rfl rfl) (congrArg D.bool (by rw [h37]; rfl))) ?_
  refine zzp ?_; refine zzm ?_; refine zzk ?_; refine zzk ?_; refine zzk ?_; refine zzk ?_; refine zzp ?_; refine zzp ?_; refine AOps.nil ?_
  refine ARun.condF rfl ?_
  refine ARun.skip (ARun.seq (ARun.region ?_)); refine zzm ?_; refine zzm ?_
  refine y_op rfl (Zas (lo := 0) (hi := k) rfl rfl rfl rfl (Nat.zero_le _) hk) ?_
  refine zzc rfl rfl (c2) ?_
  refine zzm ?_; refine zze ?_; refine zze ?_; refine zze ?_; refine zza ?_; refine zza ?_; refine zza ?_; refine AOps.nil (ARun.seq (ARun.region ?_)); refine zzm ?_; refine zzm ?_; refine zzm ?_; refine zzi ?_; refine zzm ?_; refine zzk ?_; refine zzk ?_; refine zzk ?_; refine zzk ?_; refine zzk ?_; refine zzk ?_; refine zzk ?_; refine zzp ?_; refine zzp ?_; refine zza ?_; refine AOps.nil ?_
  refine ARun.ret ?_
  refine ⟨_, _, _, .tmp rfl .nil, .cons (.same _) .nil, rfl, ?_⟩
  rfl
theorem ScanOffsets_b6 (s : ByteArray) {l l1 : List Pc} {k : Nat} (hp : parseF s = (l, 6, (k : Int))) (hs : s.size ≤ 2000) (hk : k ≤ s.size) (he : k < s.size) (h37 : (sby s).getD k 0 = 37) (hq : parseF (s.extract 0 k) = (l1, 6, (k : Int))) : PC Cg Zag [.str s] (fun o => o = .ret (.bool true)) := by
  have c1 := Zak s
  rw [hp] at c1
  simp only at c1
  have c2 := Zak (s.extract 0 k)
  rw [hq] at c2
  simp only at c2
  refine PC.rn Zae Zah Zai (rs := [.tmp 2]) (by rw [Zaj]) ?_
  refine ARun.seq (ARun.region ?_); refine zza ?_; refine AOps.nil (ARun.seq (ARun.region ?_))
  refine zzc rfl rfl (Zbi) ?_
  refine zza ?_; refine AOps.nil (ARun.seq (ARun.region ?_)); refine zzm ?_
  refine zzc rfl rfl (c1) ?_
  refine zzm ?_; refine zze ?_; refine zze ?_; refine zze ?_; refine zza ?_; refine zza ?_; refine zza ?_; refine AOps.nil (ARun.seq (ARun.seq (ARun.region ?_))); refine zzm ?_; refine zzi ?_; refine AOps.nil ?_
  refine ARun.condF rfl ?_
  refine ARun.skip (ARun.seq (ARun.seq (ARun.region ?_))); refine zzm ?_
  refine y_op rfl (OpQ.cast (d' := .bool false) (q_int rfl rfl rfl) (congrArg D.bool (decide_eq_false (by omega)))) ?_
  refine zzm ?_; refine zzm ?_; refine zzm ?_
  refine y_op rfl (Zad rfl rfl) ?_
  refine y_op rfl (OpQ.cast (d' := .bool false) (q_int rfl rfl rfl) (congrArg D.bool (decide_eq_false (by omega)))) ?_
  refine zzp ?_; refine zzm ?_; refine zzm ?_; refine zzm ?_
  refine y_op rfl (Zad rfl rfl) ?_
  refine y_op rfl (OpQ.cast (d' := .bool true) (q_int rfl rfl rfl) (congrArg D.bool (decide_eq_true (by omega)))) ?_
  refine zzm ?_; refine zzm ?_; refine zzm ?_
  refine y_op rfl (Zal rfl rfl rfl (by omega) (by omega) (sby_get (i := k) _)) ?_
  refine y_op rfl (OpQ.cast (d' := .bool false) (q_int rfl rfl rfl) (congrArg D.bool (by rw [h37]; rfl))) ?_
  refine zzp ?_; refine zzm ?_; refine zzk ?_; refine zzk ?_; refine zzk ?_; refine zzk ?_; refine zzp ?_; refine zzp ?_; refine AOps.nil ?_
  refine ARun.condF rfl ?_
  refine ARun.skip (ARun.seq (ARun.region ?_)); refine zzm ?_; refine zzm ?_
  refine y_op rfl (Zas (lo := 0) (hi := k) rfl rfl rfl rfl (Nat.zero_le _) hk) ?_
  refine zzc rfl rfl (c2) ?_
  refine zzm ?_; refine zze ?_; refine zze ?_; refine zze ?_; refine zza ?_; refine zza ?_; refine zza ?_; refine AOps.nil (ARun.seq (ARun.region ?_)); refine zzm ?_; refine zzm ?_; refine zzm ?_; refine zzi ?_; refine zzm ?_; refine zzm ?_; refine zzi ?_; refine zzm ?_; refine zzm ?_; refine zzm ?_
  refine y_op rfl (OpQ.cast (d' := .bool true) (q_int rfl rfl rfl) (congrArg D.bool (decide_eq_true rfl))) ?_
  refine zzp ?_; refine zzp ?_; refine zzp ?_; refine zza ?_; refine AOps.nil ?_
  refine ARun.ret ?_
  refine ⟨_, _, _, .tmp rfl .nil, .cons (.same _) .nil, rfl, ?_⟩
  rfl
theorem ScanOffsets_c0 (s : ByteArray) {l l1 : List Pc} {k : Nat} {o1 : Int} (hp : parseF s = (l, 6, (k : Int))) (hs : s.size ≤ 2000) (hk : k ≤ s.size) (he : k < s.size) (h37 : (sby s).getD k 0 = 0) (hq : parseF (s.extract 0 k) = (l1, 0, o1)) : PC Cg Zag [.str s] (fun o => o = .ret (.bool true)) := by
  have c1 := Zak s
  rw [hp] at c1
  simp only at c1
  have c2 := Zak (s.extract 0 k)
  rw [hq] at c2
  simp only at c2
  refine PC.rn Zae Zah Zai (rs := [.tmp 2]) (by rw [Zaj]) ?_
  refine ARun.seq (ARun.region ?_); refine zza ?_; refine AOps.nil (ARun.seq (ARun.region ?_))
  refine zzc rfl rfl (Zbi) ?_
  refine zza ?_; refine AOps.nil (ARun.seq (ARun.region ?_)); refine zzm ?_
  refine zzc rfl rfl (c1) ?_
  refine zzm ?_; refine zze ?_; refine zze ?_; refine zze ?_; refine zza ?_; refine zza ?_; refine zza ?_; refine AOps.nil (ARun.seq (ARun.seq (ARun.region ?_))); refine zzm ?_; refine zzi ?_; refine AOps.nil ?_
  refine ARun.condF rfl ?_
  refine ARun.skip (ARun.seq (ARun.seq (ARun.region ?_))); refine zzm ?_
  refine y_op rfl (OpQ.cast (d' := .bool false) (q_int rfl rfl rfl) (congrArg D.bool (decide_eq_false (by omega)))) ?_
  refine zzm ?_; refine zzm ?_; refine zzm ?_
  refine y_op rfl (Zad rfl rfl) ?_
  refine y_op rfl (OpQ.cast (d' := .bool false) (q_int rfl rfl rfl) (congrArg D.bool (decide_eq_false (by omega)))) ?_
  refine zzp ?_; refine zzm ?_; refine zzm ?_; refine zzm ?_
  refine y_op rfl (Zad rfl rfl) ?_
  refine y_op rfl (OpQ.cast (d' := .bool true) (q_int rfl rfl rfl) (congrArg D.bool (decide_eq_true (by omega)))) ?_
  refine zzm ?_; refine zzm ?_; refine zzm ?_
  refine y_op rfl (Zal rfl rfl rfl (by omega) (by omega) (sby_get (i := k) _)) ?_
  refine y_op rfl (OpQ.cast (d' := .bool true) (q_int rfl rfl rfl) (congrArg D.bool (by rw [h37]; rfl))) ?_
  refine zzp ?_; refine zzm ?_; refine zzm ?_; refine zzm ?_
  refine y_op rfl (Zal rfl rfl rfl (by omega) (by omega) (sby_get (i := k) _)) ?_
  refine y_op rfl (OpQ.cast (d' := .bool false) (q_int rfl rfl rfl) (congrArg D.bool (by rw [h37]; rfl))) ?_
  refine zzp ?_; refine zzp ?_; refine AOps.nil ?_
  refine ARun.condF rfl ?_
  refine ARun.skip (ARun.seq (ARun.region ?_)); refine zzm ?_; refine zzm ?_
  refine y_op rfl (Zas (lo := 0) (hi := k) rfl rfl rfl rfl (Nat.zero_le _) hk) ?_
  refine zzc rfl rfl (c2) ?_
  refine zzm ?_; refine zze ?_; refine zze ?_; refine zze ?_; refine zza ?_; refine zza ?_; refine zza ?_; refine AOps.nil (ARun.seq (ARun.region ?_)); refine zzm ?_; refine zzm ?_; refine zzm ?_; refine zzi ?_; refine zzm ?_; refine zzk ?_; refine zzk ?_; refine zzk ?_; refine zzk ?_; refine zzk ?_; refine zzk ?_; refine zzk ?_; refine zzp ?_; refine zzp ?_; refine zza ?_; refine AOps.nil ?_
  refine ARun.ret ?_
  refine ⟨_, _, _, .tmp rfl .nil, .cons (.same _) .nil, rfl, ?_⟩
  rfl
theorem ScanOffsets_c6 (s : ByteArray) {l l1 : List Pc} {k : Nat} (hp : parseF s = (l, 6, (k : Int))) (hs : s.size ≤ 2000) (hk : k ≤ s.size) (he : k < s.size) (h37 : (sby s).getD k 0 = 0) (hq : parseF (s.extract 0 k) = (l1, 6, (k : Int))) : PC Cg Zag [.str s] (fun o => o = .ret (.bool true)) := by
  have c1 := Zak s
  rw [hp] at c1
  simp only at c1
  have c2 := Zak (s.extract 0 k)
  rw [hq] at c2
  simp only at c2
  refine PC.rn Zae Zah Zai (rs := [.tmp 2]) (by rw [Zaj]) ?_
  refine ARun.seq (ARun.region ?_); refine zza ?_; refine AOps.nil (ARun.seq (ARun.region ?_))
  refine zzc rfl rfl (Zbi) ?_
  refine zza ?_; refine AOps.nil (ARun.seq (ARun.region ?_)); refine zzm ?_
  refine zzc rfl rfl (c1) ?_
  refine zzm ?_; refine zze ?_; refine zze ?_; refine zze ?_; refine zza ?_; refine zza ?_; refine zza ?_; refine AOps.nil (ARun.seq (ARun.seq (ARun.region ?_))); refine zzm ?_; refine zzi ?_; refine AOps.nil ?_
  refine ARun.condF rfl ?_
  refine ARun.skip (ARun.seq (ARun.seq (ARun.region ?_))); refine zzm ?_
  refine y_op rfl (OpQ.cast (d' := .bool false) (q_int rfl rfl rfl) (congrArg D.bool (decide_eq_false (by omega)))) ?_
  refine zzm ?_; refine zzm ?_; refine zzm ?_
  refine y_op rfl (Zad rfl rfl) ?_
  refine y_op rfl (OpQ.cast (d' := .bool false) (q_int rfl rfl rfl) (congrArg D.bool (decide_eq_false (by omega)))) ?_
  refine zzp ?_; refine zzm ?_; refine zzm ?_; refine zzm ?_
  refine y_op rfl (Zad rfl rfl) ?_
  refine y_op rfl (OpQ.cast (d' := .bool true) (q_int rfl rfl rfl) (congrArg D.bool (decide_eq_true (by omega)))) ?_
  refine zzm ?_; refine zzm ?_; refine zzm ?_
  refine y_op rfl (Zal rfl rfl rfl (by omega) (by omega) (sby_get (i := k) _)) ?_
  refine y_op rfl (OpQ.cast (d' := .bool true) (q_int rfl rfl rfl) (congrArg D.bool (by rw [h37]; rfl))) ?_
  refine zzp ?_; refine zzm ?_; refine zzm ?_; refine zzm ?_
  refine y_op rfl (Zal rfl rfl rfl (by omega) (by omega) (sby_get (i := k) _)) ?_
  refine y_op rfl (OpQ.cast (d' := .bool false) (q_int rfl rfl rfl) (congrArg D.bool (by rw [h37]; rfl))) ?_
  refine zzp ?_; refine zzp ?_; refine AOps.nil ?_
  refine ARun.condF rfl ?_
  refine ARun.skip (ARun.seq (ARun.region ?_)); refine zzm ?_; refine zzm ?_
  refine y_op rfl (Zas (lo := 0) (hi := k) rfl rfl rfl rfl (Nat.zero_le _) hk) ?_
  refine zzc rfl rfl (c2) ?_
  refine zzm ?_; refine zze ?_; refine zze ?_; refine zze ?_; refine zza ?_; refine zza ?_; refine zza ?_; refine AOps.nil (ARun.seq (ARun.region ?_)); refine zzm ?_; refine zzm ?_; refine zzm ?_; refine zzi ?_; refine zzm ?_; refine zzm ?_; refine zzi ?_; refine zzm ?_; refine zzm ?_; refine zzm ?_
  refine y_op rfl (OpQ.cast (d' := .bool true) (q_int rfl rfl rfl) (congrArg D.bool (decide_eq_true rfl))) ?_
  refine zzp ?_; refine zzp ?_; refine zzp ?_; refine zza ?_; refine AOps.nil ?_
  refine ARun.ret ?_
  refine ⟨_, _, _, .tmp rfl .nil, .cons (.same _) .nil, rfl, ?_⟩
  rfl
theorem Zef (s : ByteArray) : PC Cg Zag [.str s] (fun o => o = .ret (.bool true)) := by
  rcases hp : parseF s with ⟨l, e, o⟩
  by_cases he : e = 6
  · subst he
    obtain ⟨hs, k, rfl, hk, h1, h2⟩ := parse_offs hp
    rcases hq : parseF (s.extract 0 k) with ⟨l1, e1, o1⟩
    rw [hq] at h2
    rcases h2 with h2 | ⟨h2, h3⟩
    · have h2 : e1 = 0 := h2
      subst h2
      rcases Nat.eq_or_lt_of_le hk with g | g
      · exact ScanOffsets_a0 s hp hs hk g hq
      rcases h1 g with h | h
      · exact ScanOffsets_b0 s hp hs hk g h hq
      exact ScanOffsets_c0 s hp hs hk g h hq
    have h2 : e1 = 6 := h2
    have h3 : o1 = (k : Int) := h3
    subst h2; subst h3
    rcases Nat.eq_or_lt_of_le hk with g | g
    · exact ScanOffsets_a6 s hp hs hk g hq
    rcases h1 g with h | h
    · exact ScanOffsets_b6 s hp hs hk g h hq
    exact ScanOffsets_c6 s hp hs hk g h hq
  rcases parse_other hp he with ⟨rfl, rfl⟩ | rfl
  · exact ScanOffsets_0 s hp
  exact ScanOffsets_2 s hp
end Go.V
/- THE ROWS: what the arguments read as, and what is left behind a call. -/
set_option maxRecDepth 100000
namespace Go.V
open Go.RowKit Go.Proofs Go.ChangeShapes Go.WideShapes Go.ChangeAt Go.ChangeMaps Go.Proofs.YthankfodgdfgaaaDoor
theorem laidOutZ : laidOutB Tryd.prog = true := by kernel_rfl
theorem ownZ : ownKnob Tryd.prog.godebug = none := by kernel_rfl
theorem forb0 : forb (fun _ => False) [] [] = fun _ => False := by
  funext b
  apply propext
  constructor
  · rintro (h | ⟨i, o, h, _⟩)
    · exact h
    simp at h
  exact fun h => h.elim
section
variable {H : Type} {enc : TypeId × Value → H} {W : World}
theorem vr_string {base : Nat} {v : Value} {d : DataW H} {p : List MemPlace} (hv : Value.okWide Tryd.prog W .any base 9 v) (h : DataW.Trod enc Tryd.prog W 0 (fun _ => true) true 9 v d p) :
    ∃ s : ByteArray, s.size ≤ maxLen ∧ VR W (fun _ => False) [] [] (.str s) v := by
  obtain ⟨s, rfl, _, _, hs⟩ := open_string Tryd.underlying9 hv h
  exact ⟨s, hs, by simp only [VR]⟩
theorem trodAll_stays {W' : World} (hb : Below W.heap.size W W') {sp : Nat → Bool} : ∀ {ts : List TypeId} {vs : List Value} {ds : List (DataW H)} {p : List MemPlace}, (∀ t ∈ ts, Tryd.prog.readableRec t = true ∧ t < Tryd.prog.types.size) →
    DataW.TrodAll enc Tryd.prog W 0 (fun _ => true) true ts vs ds p → (∀ x ∈ p, x.block < W.heap.size ∧ sp x.block = true) → DataW.TrodAll enc Tryd.prog W' 0 sp true ts vs ds p
  | [], _, _, _, _, h, _ => by
    obtain ⟨rfl, rfl, rfl⟩ := trodAll_nil h
    simp [DataW.TrodAll]
  | t :: ts, _, _, _, ht, h, hp => by
    obtain ⟨v, vs, d, ds, a, b, rfl, rfl, rfl, h1, h2⟩ := trodAll_cons h
    obtain ⟨r1, r2⟩ := ht t (List.mem_cons_self ..)
    exact ⟨a, b, WideElems.Trod_stays laidOutZ r1 r2 h1 (fun x hx => hb.same (hp x (List.mem_append_left _ hx)).1) (fun x hx => (hp x (List.mem_append_left _ hx)).2),
      trodAll_stays hb (fun t ht' => ht t (List.mem_cons_of_mem _ ht')) h2 (fun x hx => hp x (List.mem_append_right _ hx)), rfl⟩
theorem law_post {fn : Func} {s : ChangeSpec} {W' : World} {args : Array Value} {ds : List (DataW H)} {before : List MemPlace} (hs : s.vars = []) (hW : DataW.Whole enc Tryd.prog fn.params.toList s.vars false W args.toList ds [] before) (hf : s.fn H ds = { results := [.lit (.bool true)], args := ds })
    (hr : fn.resultTypes = #[4]) (hts : ∀ t ∈ fn.params.toList, Tryd.prog.readableRec t = true ∧ t < Tryd.prog.types.size) (hb : Below W.heap.size W W') : s.post enc Tryd.prog fn false true false false W args (.bool true) W' := by
  have hW' := hW
  obtain ⟨p, q, hA, hV, rfl, _, _⟩ := hW
  rw [hs] at hV
  obtain ⟨_, rfl⟩ := trodVars_none hV
  have hlt : ∀ x ∈ p, x.block < W.heap.size := fun x hx => by simpa using hW'.lt x (List.mem_append_left _ hx)
  refine ⟨ds, [], p ++ [], [], p, [], hW', ?_, ?_, ?_, hb.frame _, fun h => by cases h⟩
  · rw [List.append_nil, hf, hr]
    exact trodAll_mk1 (shut_bool Tryd.underlying4 _)
  · rw [List.append_nil, hf]
    exact trodAll_stays hb hts hA fun x hx => ⟨hlt x hx, by simpa using hlt x hx⟩
  rw [List.append_nil, hf, hs]
  rfl
end
/-! THE TABLES, AS THEY LIE. -/
inductive F2 {A B : Type} (R : A → B → Prop) : List A → List B → Prop where
  | nil : F2 R [] []
  | cons {a : A} {b : B} {xs : List A} {ys : List B} : R a b → F2 R xs ys → F2 R (a :: xs) (b :: ys)
theorem F2.pull {A B : Type} {R : A → B → Prop} {ys zs : List B} (h : ys.Perm zs) : ∀ {xs : List A}, F2 R xs ys → ∃ l : List A, l.Perm xs ∧ F2 R l zs := by
  induction h with
  | nil => intro xs h; exact ⟨xs, .refl _, h⟩
  | cons b _ ih =>
    intro xs h
    cases h with
    | cons h1 h2 =>
      obtain ⟨l, p, q⟩ := ih h2
      exact ⟨_ :: l, p.cons _, .cons h1 q⟩
  | swap a b l =>
    intro xs h
    cases h with
    | cons h1 h2 =>
      cases h2 with
      | cons h3 h4 => exact ⟨_, .swap .., .cons h3 (.cons h1 h4)⟩
  | trans _ _ ih1 ih2 =>
    intro xs h
    obtain ⟨l, p, q⟩ := ih1 h
    obtain ⟨l2, p2, q2⟩ := ih2 q
    exact ⟨l2, p2.trans p, q2⟩
theorem F2.of_mapM {A B : Type} {f : A → Option B} : ∀ {xs : List A} {ys : List B}, xs.mapM f = some ys → F2 (fun a b => f a = some b) xs ys
  | [], ys, h => by
    simp at h; subst h; exact .nil
  | a :: xs, ys, h => by
    rw [List.mapM_cons] at h
    simp only [bind, Option.bind_eq_some_iff, pure, Option.some.injEq] at h
    obtain ⟨b, h1, bs', h2, rfl⟩ := h
    exact .cons h1 (F2.of_mapM h2)
theorem F2.map {A B E : Type} {R : A → B → Prop} {Q : A → E → Prop} {g : B → E} (h : ∀ a b, R a b → Q a (g b)) : ∀ {xs : List A} {ys : List B}, F2 R xs ys → F2 Q xs (ys.map g)
  | _, _, .nil => .nil
  | _, _, .cons h1 h2 => .cons (h _ _ h1) (F2.map h h2)
theorem int_cells {e : TypeId} {ke : IntKind} {v : Value} {c : Int} (he : Tryd.prog.underlying e = some (.int ke)) (hf : v.formed Tryd.prog e = true) (h : v.cells.toList = [.int ke c]) : v = .int ke c := by
  cases v with
  | agg cs => simp [Value.formed, he] at hf
  | _ => simpa [Value.cells] using h
def rowR (H : Type) (kk ke : IntKind) (x : MapEntry) (y : Lit × DataW H) : Prop := ∃ a c : Int, x.key = .int kk a ∧ y.1 = .int kk a ∧ x.val = .int ke c ∧ y.2 = .lit (.int ke c)
theorem row_entries {H : Type} {enc : TypeId × Value → H} {w : World} {base : Nat} {sp : Nat → Bool} {held : Bool} {fuel : Nat} {k e : TypeId} {t : TypeId} {kk ke : IntKind} {cs : List Value} {dd : List (Lit × DataW H)} {p : List MemPlace}
    (ht : Tryd.prog.underlying t = some (.map k e)) (hk : Tryd.prog.underlying k = some (.int kk)) (he : Tryd.prog.underlying e = some (.int ke))
    (h : DataW.trod enc Tryd.prog w base sp held fuel t cs = some (.map dd, p)) :
    ∃ (b : Nat) (es : Array MapEntry) (clock : Nat), cs = [.map (some b)] ∧ w.heap[b]? = some (.map es clock) ∧ ∃ l : List MapEntry, l.Perm es.toList ∧ F2 (rowR H kk ke) l dd := by
  cases fuel with
  | zero => simp [DataW.trod] at h
  | succ n =>
    unfold DataW.trod at h
    simp only [ht] at h
    split at h
    all_goals first | (cases h; done) | (rename_i e1; cases e1; done) | skip
    all_goals try (simp at h; done)
    all_goals try (rename_i e1 _; cases e1; done)
    rename_i b hX
    injection hX with hX
    injection hX with a1 a2
    subst a1; subst a2
    split at h
    · rename_i es clock hb
      split at h
      · simp only [Option.bind_eq_some_iff] at h
        obtain ⟨entries, h1, h2⟩ := h
        split at h2
        · simp only [Option.some.injEq, Prod.mk.injEq, DataW.map.injEq] at h2
          obtain ⟨rfl, _⟩ := h2
          have f1 := F2.of_mapM h1
          have f2 : F2 (rowR H kk ke) es.toList (entries.map (·.1)) := f1.map fun x y hx => by
            simp only [Option.bind_eq_some_iff] at hx
            obtain ⟨key, g1, g2⟩ := hx
            split at g2
            · rename_i hf
              simp only [Option.map_eq_some_iff] at g2
              obtain ⟨z, g3, rfl⟩ := g2
              obtain ⟨a, e1, e2, _⟩ := Maps.keyOf_int_inv hk g1
              obtain ⟨c, e3, e4, _⟩ := DataW.trod_int he g3
              subst e4
              exact ⟨a, c, e1, e2, int_cells he hf e3, rfl⟩
            cases g2
          obtain ⟨l, hl, hf⟩ := F2.pull (sorted_perm _).symm f2
          exact ⟨b, es, clock, rfl, hb, l, hl, hf⟩
        cases h2
      cases h
    cases h
theorem rows_vr {W : World} {L : Nat → Prop} : ∀ {l : List MapEntry} {es : List (Nat × Nat)}, F2 (rowR Unit .u8 .i64) l (es.map fun e => (Lit.int .u8 (e.1 : Int), DataW.lit (.int .i64 (e.2 : Int)))) → VRs W L [] [] (es.map fun e => D.int .u8 (e.1 : Int)) (l.map (·.key)) ∧ VRs W L [] [] (es.map fun e => D.int .i64 (e.2 : Int)) (l.map (·.val))
  | [], [], _ => ⟨by simp only [List.map_nil, VRs], by simp only [List.map_nil, VRs]⟩
  | [], _ :: _, h => by cases h
  | _ :: _, [], h => by cases h
  | x :: l, e :: es, h => by
    cases h with
    | cons h1 h2 =>
      obtain ⟨a, c, g1, g2, g3, g4⟩ := h1
      injection g2 with _ g2
      injection g4 with g4
      injection g4 with _ g4
      subst g2; subst g4
      obtain ⟨r1, r2⟩ := rows_vr h2
      simp only [List.map_cons, VRs, VR]
      exact ⟨⟨_, _, rfl, g1, r1⟩, ⟨_, _, rfl, g3, r2⟩⟩
theorem table_GR {W : World} {n : String} {g : Nat} {cs : Array Value} {ds : List D} (hg : Tryd.prog.globalNamed n = some g) (hv : W.var? Tryd.prog n = some cs) (hne : ds ≠ []) (hd : valsD ds = some cs.toList) :
    g < W.heap.size ∧ GR W (fun _ => False) g ds := by
  have hcell : ∀ (j : Nat) (v : Value), cs.toList[j]? = some v → W.cell? ⟨g, 0 + j, none⟩ = some v := fun j v hj => by
    rw [Nat.zero_add, World.var?_cell hg hv j]
    simpa using hj
  have hlen : ∀ {ds : List D} {vs : List Value}, valsD ds = some vs → vs.length = ds.length := by
    intro ds
    induction ds with
    | nil => intro vs h; simp only [valsD] at h; injection h with h; subst h; rfl
    | cons d ds ih =>
      intro vs h
      simp only [valsD] at h
      split at h
      · rename_i h1 h2
        injection h with h; subst h
        rw [List.length_cons, List.length_cons, ih h2]
      cases h
  have hb : ∃ e fz, W.heap[g]? = some (.cells cs e fz) := by
    unfold World.var? at hv
    rw [hg, Option.bind_some] at hv
    split at hv
    · rename_i h; injection hv with hv; subst hv; exact ⟨_, _, h⟩
    cases hv
  obtain ⟨e, fz, hb⟩ := hb
  refine ⟨?_, VRL_vals hd hcell, cs, e, fz, hb, ?_⟩
  · apply Classical.byContradiction
    intro hn
    have : W.heap[g]? = none := by rw [Array.getElem?_eq_none_iff]; omega
    rw [this] at hb; cases hb
  have := hlen hd; simpa using this
def Laid3 (W : World) : Prop := ∀ (g : Nat) (cs : List D), (g, cs) ∈ Cg.gl → g < W.heap.size ∧ GR W (fun _ => False) g cs
theorem tables_laid {W : World} (h : laidMetH Tryd.prog Rows.scanSetsRow.laid W) : Laid3 W := by
  rw [MakeChecks.laidMetH_plain _ _ _ (by kernel_rfl)] at h
  obtain ⟨ps, ⟨g0, t0, cs0, f0, p0, q0, hg0, ht0, hv0, hd0, ⟨g1, t1, cs1, f1, p1, q1, hg1, ht1, hv1, hd1, ⟨g2, t2, cs2, f2, p2, q2, hg2, ht2, hv2, hd2, ⟨g3, t3, cs3, f3, p3, q3, hg3, ht3, hv3, hd3, ⟨g4, t4, cs4, f4, p4, q4, hg4, ht4, hv4, hd4, _, _⟩, _⟩, _⟩, _⟩, _⟩, _, _⟩ := h
  have e2 : Tryd.prog.globalNamed "internal/strconv.uint64pow10" = some 3 := by kernel_rfl
  have e3 : Tryd.prog.globalNamed "soroban/scanspec.rows" = some 0 := by kernel_rfl
  have e4 : Tryd.prog.globalNamed "soroban/scanspec.lengths" = some 1 := by kernel_rfl
  have y2 : (Tryd.prog.globals[3]?).map (·.type) = some 123 := by kernel_rfl
  have y3 : (Tryd.prog.globals[0]?).map (·.type) = some 95 := by kernel_rfl
  have y4 : (Tryd.prog.globals[1]?).map (·.type) = some 99 := by kernel_rfl
  obtain rfl := Option.some.inj (e2.symm.trans hg2)
  obtain rfl := Option.some.inj (e3.symm.trans hg3)
  obtain rfl := Option.some.inj (e4.symm.trans hg4)
  obtain rfl := Option.some.inj (y2.symm.trans ht2)
  obtain rfl := Option.some.inj (y3.symm.trans ht3)
  obtain rfl := Option.some.inj (y4.symm.trans ht4)
  have k2 := flat_ok 4 f2 123 cs2.toList _ (by kernel_rfl) hd2
  have k4 := flat_ok 4 f4 99 cs4.toList _ (by kernel_rfl) hd4
  have v2 : valsD powCells = flatV (Rows.laid_internal_strconv_uint64pow10 (H := Unit)) := by rfl
  have v4 : valsD lensA = flatV (Rows.laid_soroban_scanspec_lengths (H := Unit)) := by rfl
  have n2 : powCells ≠ [] := by intro h; cases h
  have n4 : lensA ≠ [] := by intro h; cases h
  have r2 := table_GR e2 hv2 n2 (v2.trans k2)
  have r4 := table_GR e4 hv4 n4 (v4.trans k4)
  obtain ⟨b, es, clock, c1, c2, l, c3, c4⟩ := row_entries (kk := .u8) (ke := .i64) Tryd.underlying95 Tryd.underlying5 Tryd.underlying3 hd3
  obtain ⟨m1, m2⟩ := rows_vr (W := W) (L := fun _ => False) (es := rowEs) c4
  have hb : ∃ e fz, W.heap[0]? = some (.cells cs3 e fz) := by
    unfold World.var? at hv3
    rw [e3, Option.bind_some] at hv3
    split at hv3
    · rename_i h; injection hv3 with hv3; subst hv3; exact ⟨_, _, h⟩
    cases hv3
  obtain ⟨e, fz, hb⟩ := hb
  have lt : ∀ {i : Nat} {o : Obj}, W.heap[i]? = some o → i < W.heap.size := fun {i o} hi => by
    apply Classical.byContradiction
    intro hn
    have : W.heap[i]? = none := by rw [Array.getElem?_eq_none_iff]; omega
    rw [this] at hi; cases hi
  have hc0 : W.cell? ⟨0, 0, none⟩ = some (.map (some b)) := by
    rw [World.var?_cell e3 hv3 0, ← Array.getElem?_toList, c1]; rfl
  intro g cs hg
  have hg : (g, cs) ∈ [(0, [D.mapv rowKs rowVs]), (1, lensA), (3, powCells)] := hg
  simp only [List.mem_cons, List.not_mem_nil, or_false, Prod.mk.injEq] at hg
  rcases hg with ⟨rfl, rfl⟩ | ⟨rfl, rfl⟩ | ⟨rfl, rfl⟩
  · refine ⟨lt hb, ?_, cs3, e, fz, hb, by have := congrArg List.length c1; simpa using this⟩
    simp only [VRL]
    refine ⟨⟨.map (some b), hc0, rfl, ?_⟩, trivial⟩
    simp only [VR]
    exact ⟨b, es, clock, rfl, lt c2, fun h => h, c2, l, c3, m1, m2⟩
  · exact r4
  exact r2
theorem SRg {W : World} (h : Laid3 W) : SR Cg (fun _ => False) W [] [] :=
  ⟨rfl, fun i o b h => by simp at h, fun i j oi oj b h => by simp at h, fun i o b h => by simp at h, fun b h => h.elim, fun g cs hg => by
    rw [forb0]
    exact ⟨(h g cs hg).1, fun h => h, (h g cs hg).2⟩⟩
theorem law_callsG {f : FuncId} {ds : List D} {W : World} {vs : List Value} (hl : Laid3 W) (hc : PC Cg f ds (fun o => o = .ret (.bool true))) (hv : VRs W (fun _ => False) [] [] ds vs) : Calls Tryd.prog f vs.toArray W fun e W' => e = .returned (.bool true) ∧ Below W.heap.size W W' := by
  have h := (hc []).2 (fun _ => False) W [] vs (SRg hl) (by rw [forb0]; exact hv)
  refine h.mono ?_
  rintro e W' ⟨o, H', μ', ⟨rfl, rfl⟩, _, ⟨v, he, hv'⟩, hevo⟩
  simp only [VR] at hv'
  subst hv'
  exact ⟨he, hevo.os, hevo.tape, hevo.output, hevo.size, fun k hk => hevo.chg k hk fun ⟨i, o, h, _⟩ => by simp at h⟩
end Go.V
/- THE ROWS OF SCAN SPECIFICATIONS: what a set and what a list of pieces read as. -/
set_option maxRecDepth 100000
namespace Go.V
open Go.RowKit Go.Proofs Go.ChangeShapes Go.WideShapes Go.ChangeAt Go.ChangeMaps Go.Proofs.YthankfodgdfgaaaDoor
section
variable {H : Type} {enc : TypeId × Value → H} {W : World}
end
end Go.V
/- A START THAT MEETS WHAT THE ROWS SAY OF THE TABLES: the map of rows laid by hand, the other tables by the kit's law. -/
set_option maxRecDepth 100000
namespace Go.V
open Go.RowKit Go.Proofs Go.ChangeShapes Go.WideShapes Go.ChangeAt Go.ChangeMaps Go.Proofs.YthankfodgdfgaaaDoor
def rowMap : Obj := .map (rowEs.zipIdx.map fun x => (⟨.int .u8 (x.1.1 : Int), .int .i64 (x.1.2 : Int), x.2⟩ : MapEntry)).toArray 20
def setRow (b : Nat) : Obj → Obj
  | .cells _ t frozen => .cells #[.map (some b)] t frozen
  | o => o
noncomputable def mapN (os : Os) : Nat := (World.settled Tryd.prog os).heap.size
noncomputable def mapW0 (os : Os) : World :=
  let w := World.holding Tryd.prog os ⟨#[rowMap], #[], []⟩
  { w with heap := w.heap.modify 0 (setRow (mapN os)) }
def great4 : List String := ["math/bits.deBruijn32tab", "math/bits.deBruijn64tab", "internal/strconv.uint64pow10", "soroban/scanspec.lengths"]
def laid5 : List (String × DataW Unit) := Rows.scanSetsRow.laid
noncomputable def mapW (os : Os) : World := (mapW0 os).layVars Tryd.prog (laid5.filter fun x => great4.contains x.1)
theorem mapW_os (os : Os) : (mapW os).os = os := by unfold mapW; rw [World.layVars_os]; rfl
theorem mapW_shaped (os : Os) : (mapW os).Shaped Tryd.prog := World.shaped_of_ZipB (by kernel_rfl) (by kernel_rfl)
theorem mapW_in (os : Os) : LaidIn Tryd.prog (mapW os) (laid5.filter fun x => !great4.contains x.1) [0, mapN os] :=
  LaidIn.of_run [0, mapN os] 8 (by kernel_rfl) (by kernel_rfl) (by kernel_rfl) (by kernel_rfl)
theorem mapW_laid (os : Os) : laidMet Tryd.prog laid5 (mapW os) :=
  laidMet_layVars (w0 := mapW0 os) great4 [0, mapN os] rfl (by kernel_rfl) (by kernel_rfl) (mapW_in os)
theorem mapW_met (os : Os) (args : Array Value) : laidMetH Tryd.prog Rows.scanSetsRow.laid ((mapW os).forCall (fun _ _ => 0) ⟨#[], args, []⟩).memory := by
  rw [MakeChecks.laidMetH_plain _ _ _ (by kernel_rfl)]
  exact (mapW_laid os).of_heap (by simp [World.memory, World.forCall, Input.heap])
end Go.V
/- The closed facts of a row, one by one: what holds of the program itself, and how they are joined; no condition. -/
set_option maxRecDepth 100000
namespace Go.V
open Go.Proofs
theorem and_t {a b : Bool} (h1 : a = true) (h2 : b = true) : (a && b) = true := by rw [h1, h2]; rfl
theorem joined_of {P : Program} {f : FuncId} {fn : Func} {s : ChangeSpec} {c : OpenClaim}
    (k1 : (c.wf (OpenSpec.ofChange s)) = true)
    (k2 : (laidOutB P) = true)
    (k3 : (mapsRowed P) = true)
    (k4 : (fn.params.all (P.readableRec ·)) = true)
    (k5 : (namedTie P c.named s.vars) = true)
    (k6 : (c.stops == []) = true)
    (k7 : (P.stops == []) = true)
    (k8 : (c.knobs == []) = true)
    (k9 : (P.stopKnobs == []) = true)
    (k10 : (c.inPlace == P.inPlace f) = true)
    (k11 : (c.unfollowed == P.unfollowed f) = true)
    (k12 : (c.recurses == P.recurses f) = true)
    (k13 : (c.named == P.varsNamed f) = true)
    (k14 : ((c.maps == (fn.params.toList ++ s.plain.varTypes P).any (P.mapsRec ·))) = true)
    (k15 : ((c.ifaces == (fn.params.toList ++ s.plain.varTypes P).any (P.ifacesRec ·))) = true)
    (k16 : (c.mapsOut == P.mapsAmong fn.resultTypes.toList) = true)
    (k17 : ((c.loops == (fn.params.toList ++ s.plain.varTypes P).any (P.loopsFrom ·))) = true)
    (k18 : ((c.wideKeys == (fn.params.toList ++ s.plain.varTypes P ++ fn.resultTypes.toList).any (P.wideKeysFrom ·))) = true)
    (k19 : (s.vars.all (P.varReadable ·)) = true)
    (k20 : (fn.resultTypes.all (fun t => P.readableRec t && decide (t < P.types.size))) = true)
    (k21 : ((c.ifacesOut == fn.resultTypes.toList.any (P.ifacesRec ·))) = true)
    (k22 : ((c.loopsOut == fn.resultTypes.toList.any (P.loopsFrom ·))) = true)
    (k23 : (c.plainKeys == P.plainKeys) = true)
    (k24 : (c.shortTexts.isNone) = true)
    (k25 : (P.stopsHeard) = true)
    (k26 : (P.mayEnter) = true)
    (k27 : (c.lifted == P.liftsFinal) = true)
    (k28 : (P.make == some c.make) = true)
    (k29 : ((c.kinds == (if c.domain.isEmpty then [] else fn.params.toList.map fun t => match P.underlying t with | some (.int k) => some k | _ => none))) = true)
    (k30 : (c.pinned == c.pinnedBy) = true)
    (k31 : ((c.veiled == (fn.params.toList ++ s.plain.varTypes P ++ fn.resultTypes.toList).any (P.veiledRec ·))) = true)
    (k32 : (c.veiledFits P fn.params.toList (fn.params.toList ++ s.plain.varTypes P ++ fn.resultTypes.toList)) = true)
    : joinedFacts P f fn s c = true := by
  unfold joinedFacts
  exact and_t (and_t (and_t (and_t (and_t (and_t (and_t (and_t (and_t (and_t (and_t (and_t (and_t (and_t (and_t (and_t (and_t (and_t (and_t (and_t (and_t (and_t (and_t (and_t (and_t (and_t (and_t (and_t (and_t (and_t (and_t k1 k2) k3) k4) k5) k6) k7) k8) k9) k10) k11) k12) k13) k14) k15) k16) k17) k18) k19) k20) k21) k22) k23) k24) k25) k26) k27) k28) k29) k30) k31) k32
theorem z_maps : mapsRowed Tryd.prog = true := by kernel_rfl
theorem z_plainKeys : (Go.Proofs.YthankfodgdfgaaaDoor.Rows.scanSetsRow.plainKeys == Tryd.prog.plainKeys) = true := by kernel_rfl
theorem z_stopsHeard : Tryd.prog.stopsHeard = true := by kernel_rfl
theorem z_lifts : (Go.Proofs.YthankfodgdfgaaaDoor.Rows.scanSetsRow.lifted == Tryd.prog.liftsFinal) = true := by kernel_rfl
theorem z_make : (Tryd.prog.make == some Go.Proofs.YthankfodgdfgaaaDoor.Rows.scanSetsRow.make) = true := by kernel_rfl
theorem z_main : YthankfodgdfgaaaDoor.Tryd.pinned.checked.prog.mainIs = some (true, "4a358535a3fdcf16b8f6994064c82af79c63477f10344ea5494afcbe3a711897".toList) := by kernel_rfl
theorem z_looks : true = Tryd.prog.looks [] := by kernel_rfl
theorem z_enter : Tryd.prog.mayEnter = true := by kernel_rfl
end Go.V
