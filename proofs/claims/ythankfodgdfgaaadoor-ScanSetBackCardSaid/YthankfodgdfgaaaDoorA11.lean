/- A part of the proof: abstract values, rules for the steps of the program's form, and contracts of its functions, each proved; no condition. -/
import Derived.Test.YthankfodgdfgaaaDoorA10
set_option linter.unusedVariables false
set_option linter.unusedSimpArgs false
set_option linter.unnecessarySimpa false
set_option maxHeartbeats 4000000
set_option maxRecDepth 100000
namespace Go.V
open Go.RowKit Go.Proofs
/-! PLAIN LAWS OF SETS' TEXTS. -/
def cnt (f : Nat → Nat) (c : Nat) : Nat := if c < 256 then f c + cnt f (c + 1) else 0
termination_by 256 - c
theorem cnt_yes (f : Nat → Nat) {c : Nat} (h : c < 256) : cnt f c = f c + cnt f (c + 1) := by rw [cnt, if_pos h]
theorem cnt_end (f : Nat → Nat) {c : Nat} (h : ¬ c < 256) : cnt f c = 0 := by rw [cnt, if_neg h]
theorem cnt_le {f g : Nat → Nat} (c : Nat) (h : ∀ x, c ≤ x → x < 256 → f x ≤ g x) : cnt f c ≤ cnt g c := by
  by_cases hc : c < 256
  · rw [cnt_yes f hc, cnt_yes g hc]
    have := cnt_le (f := f) (g := g) (c + 1) (fun x h1 h2 => h x (by omega) h2)
    have := h c (Nat.le_refl c) hc
    omega
  rw [cnt_end f hc]; exact Nat.zero_le _
termination_by 256 - c
theorem cnt_add (f g : Nat → Nat) (c : Nat) : cnt (fun x => f x + g x) c = cnt f c + cnt g c := by
  by_cases hc : c < 256
  · rw [cnt_yes _ hc, cnt_yes f hc, cnt_yes g hc, cnt_add f g (c + 1)]; omega
  rw [cnt_end _ hc, cnt_end _ hc, cnt_end _ hc]
termination_by 256 - c
theorem cnt_zero {f : Nat → Nat} (c : Nat) (h : ∀ x, c ≤ x → x < 256 → f x = 0) : cnt f c = 0 := by
  by_cases hc : c < 256
  · rw [cnt_yes f hc, h c (Nat.le_refl c) hc, cnt_zero (c + 1) (fun x h1 h2 => h x (by omega) h2)]
  rw [cnt_end f hc]
termination_by 256 - c
theorem cnt_one {f : Nat → Nat} (c : Nat) {a : Nat} (ha : c ≤ a) (hl : a < 256) (h : ∀ x, c ≤ x → x < 256 → x ≠ a → f x = 0) : cnt f c = f a := by
  rw [cnt_yes f (by omega)]
  by_cases e : c = a
  · subst e
    rw [cnt_zero (c + 1) (fun x h1 h2 => h x (by omega) h2 (by omega))]; rfl
  rw [h c (Nat.le_refl c) (by omega) e, cnt_one (c + 1) (by omega) hl (fun x h1 h2 h3 => h x (by omega) h2 h3)]; omega
termination_by 256 - c
def b2n (b : Bool) : Nat := bif b then 1 else 0
theorem cnt_ssize (S : Nat → Bool) (c : Nat) (h : c ≤ 256) : ssize S 256 = ssize S c + cnt (fun x => b2n (S x)) c := by
  by_cases hc : c < 256
  · rw [cnt_yes _ hc, cnt_ssize S (c + 1) hc, ssize_succ]; unfold b2n; omega
  obtain rfl : c = 256 := by omega
  rw [cnt_end _ hc]; rfl
termination_by 256 - c
theorem ssize_cnt (S : Nat → Bool) : ssize S 256 = cnt (fun x => b2n (S x)) 0 := by
  rw [cnt_ssize S 0 (by decide)]; show 0 + _ = _; rw [Nat.zero_add]
theorem ssize_other {S : Nat → Bool} (h0 : S 0 = false) : ssize S 256 + ssize (sother S) 256 = 255 := by
  rw [ssize_cnt, ssize_cnt, ← cnt_add, cnt_yes _ (by decide : 0 < 256)]
  have e0 : b2n (S 0) + b2n (sother S 0) = 0 := by unfold sother; rw [h0]; rfl
  rw [e0, Nat.zero_add]
  have e : ∀ c, 1 ≤ c → c ≤ 256 → cnt (fun x => b2n (S x) + b2n (sother S x)) c = 256 - c := by
    intro c h1 h2
    generalize hk : 256 - c = k
    induction k generalizing c with
    | zero => rw [cnt_end _ (by omega)]
    | succ k ih =>
      rw [cnt_yes _ (by omega), ih (c + 1) (by omega) (by omega) (by omega)]
      have : b2n (S c) + b2n (sother S c) = 1 := by
        unfold sother
        rw [decide_eq_true (show c ≠ 0 by omega), Bool.and_true]
        cases S c <;> rfl
      omega
  exact e 1 (Nat.le_refl 1) (by decide)
theorem rin_of {T : Nat → Bool} {c x : Nat} (h1 : c ≤ x) (hc : rin T c = true) (hx : x ≤ rend T c) : rin T x = true := by
  rw [rend] at hx
  split at hx
  · rename_i g
    rcases Nat.eq_or_lt_of_le h1 with rfl | h
    · exact hc
    exact rin_of (c := c + 1) h g.2 hx
  have : x = c := by omega
  rw [this]; exact hc
termination_by 256 - c
theorem rend_at {T : Nat → Bool} {c d : Nat} (hcd : c ≤ d) (h : ∀ x, c < x → x ≤ d → x < 256 ∧ rin T x = true) (hd : ¬ (d + 1 < 256 ∧ rin T (d + 1) = true)) : rend T c = d := by
  rcases Nat.eq_or_lt_of_le hcd with rfl | g
  · exact rend_no hd
  obtain ⟨a, b⟩ := h (c + 1) (by omega) (by omega)
  rw [rend_yes a b]
  exact rend_at (c := c + 1) g (fun x h1 h2 => h x (by omega) h2) hd
termination_by d - c
theorem wr_cnt {T : Nat → Bool} (c d : Nat) (hd : d < 256) (h : ∀ x, c ≤ x → x ≤ d → rin T x = true) (hc : c ≤ d + 1) : (d + 1 - c) + cnt (fun x => b2n (rin T x)) (d + 1) = cnt (fun x => b2n (rin T x)) c := by
  rcases Nat.eq_or_lt_of_le hc with rfl | g
  · rw [Nat.sub_self, Nat.zero_add]
  rw [cnt_yes (c := c) _ (by omega), ← wr_cnt (c + 1) d hd (fun x h1 h2 => h x (by omega) h2) g, h c (Nat.le_refl c) (by omega)]
  unfold b2n; rw [cond_true]; omega
termination_by d + 1 - c
theorem rtx_cnt (T : Nat → Bool) (c : Nat) : (rtx T c).length ≤ cnt (fun x => b2n (rin T x)) c := by
  by_cases h : c < 256
  · cases e : rin T c
    · rw [rtx_no h e, cnt_yes _ h]
      have := rtx_cnt T (c + 1); omega
    rw [rtx_yes h e, List.length_append]
    have h1 := rend_ge T c
    have h2 := rend_lt T c h
    have h3 := wr_len c (rend T c)
    have h4 := rtx_cnt T (rend T c + 1)
    have h5 := wr_cnt (T := T) c (rend T c) h2 (fun x a b => rin_of a e b) (by omega)
    omega
  rw [rtx, dif_neg h]; exact Nat.zero_le _
termination_by 256 - c
theorem setBody_cnt (T : Nat → Bool) : (setBody T).length ≤ ssize T 256 := by
  have hp : ∀ b c, (pre1 b c).length = b2n b := fun b c => by cases b <;> rfl
  have h1 := rtx_cnt T 1
  have h2 : cnt (fun x => b2n (rin T x)) 1 ≤ cnt (fun x => b2n (rin T x)) 0 := by rw [cnt_yes (c := 0) _ (by decide), Nat.zero_add]; exact Nat.le_add_left _ _
  have o : ∀ a, a < 256 → cnt (fun x => if x = a then b2n (T x) else 0) 0 = b2n (T a) := fun a ha => by
    rw [cnt_one (a := a) 0 (Nat.zero_le _) ha (fun x _ _ hne => if_neg hne)]; exact if_pos rfl
  have h3 : cnt (fun x => b2n (rin T x)) 0 + (b2n (T 93) + (b2n (T 94) + b2n (T 45))) ≤ ssize T 256 := by
    rw [← o 93 (by decide), ← o 94 (by decide), ← o 45 (by decide), ← cnt_add, ← cnt_add, ← cnt_add, ssize_cnt]
    refine cnt_le 0 fun x _ _ => ?_
    unfold rin
    cases T x
    · simp [b2n]
    by_cases e1 : x = 93
    · subst e1; simp [b2n]
    by_cases e2 : x = 94
    · subst e2; simp [b2n]
    by_cases e3 : x = 45
    · subst e3; simp [b2n]
    simp [b2n, e1, e2, e3]
  unfold setBody
  rw [List.length_append, List.length_append, List.length_append, hp, hp, hp]
  omega
theorem rtx_all {T : Nat → Bool} (h : ∀ x, 1 ≤ x → x < 256 → x ≠ 45 → x ≠ 93 → x ≠ 94 → T x = true) : (rtx T 1).length ≤ 9 := by
  have hi : ∀ x, 1 ≤ x → x < 256 → x ≠ 45 → x ≠ 93 → x ≠ 94 → rin T x = true := fun x a b c d e => by
    unfold rin; rw [h x a b c d e, decide_eq_false d, decide_eq_false e, decide_eq_false c]; rfl
  have no : ∀ x, x = 45 ∨ x = 93 ∨ x = 94 → rin T x = false := fun x hx => by
    unfold rin
    rcases hx with rfl | rfl | rfl <;> simp
  have e1 : rend T 1 = 44 := rend_at (by decide) (fun x a b => ⟨by omega, hi x (by omega) (by omega) (by omega) (by omega) (by omega)⟩) (fun g => by rw [no 45 (.inl rfl)] at g; cases g.2)
  have e2 : rend T 46 = 92 := rend_at (by decide) (fun x a b => ⟨by omega, hi x (by omega) (by omega) (by omega) (by omega) (by omega)⟩) (fun g => by rw [no 93 (.inr (.inl rfl))] at g; cases g.2)
  have e3 : rend T 95 = 255 := rend_at (by decide) (fun x a b => ⟨by omega, hi x (by omega) (by omega) (by omega) (by omega) (by omega)⟩) (fun g => absurd g.1 (by decide))
  have w : ∀ c d, c + 2 ≤ d → (wr c d).length = 3 := fun c d g => by unfold wr; rw [if_pos g]; rfl
  rw [rtx_yes (by decide) (hi 1 (by decide) (by decide) (by decide) (by decide) (by decide)), e1, rtx_no (by decide) (no 45 (.inl rfl)), rtx_yes (by decide) (hi 46 (by decide) (by decide) (by decide) (by decide) (by decide)), e2, rtx_no (by decide) (no 93 (.inr (.inl rfl))), rtx_no (by decide) (no 94 (.inr (.inr rfl))), rtx_yes (by decide) (hi 95 (by decide) (by decide) (by decide) (by decide) (by decide)), e3, rtx_end]
  simp only [List.length_append, List.length_nil]
  rw [w 1 44 (by decide), w 46 92 (by decide), w 95 255 (by decide)]; decide
theorem setBody_all {T : Nat → Bool} (h : ∀ x, 1 ≤ x → x < 256 → x ≠ 45 → x ≠ 93 → x ≠ 94 → T x = true) : (setBody T).length ≤ 12 := by
  have h1 := rtx_all h
  have hp : ∀ b c, (pre1 b c).length ≤ 1 := fun b c => by cases b <;> simp [pre1]
  have a := hp (T 93) 93; have b := hp (T 94) 94; have c := hp (T 45) 45
  unfold setBody
  rw [List.length_append, List.length_append, List.length_append]
  omega
theorem b2n_le (b : Bool) : b2n b ≤ 1 := by cases b <;> decide
theorem full_of {S : Nat → Bool} (h0 : S 0 = false) (h : ssize S 256 = 255) {x : Nat} (h1 : 1 ≤ x) (h2 : x < 256) : S x = true := by
  have e := ssize_other h0
  have hz : cnt (fun x => b2n (sother S x)) 0 = 0 := by rw [← ssize_cnt]; omega
  have hs : sother S x = false := by
    cases g : sother S x
    · rfl
    have : cnt (fun y => if y = x then 1 else 0) 0 ≤ cnt (fun x => b2n (sother S x)) 0 := cnt_le 0 fun y _ _ => by
      by_cases e : y = x
      · subst e; rw [if_pos rfl, g]; exact Nat.le_refl 1
      rw [if_neg e]; exact Nat.zero_le _
    rw [cnt_one (a := x) 0 (Nat.zero_le _) h2 (fun y _ _ hne => if_neg hne), if_pos rfl] at this
    omega
  unfold sother at hs
  rw [decide_eq_true (show x ≠ 0 by omega), Bool.and_true] at hs
  simpa using hs
theorem none_of {S : Nat → Bool} (h : ssize S 256 = 0) {x : Nat} (h2 : x < 256) : S x = false := by
  cases g : S x
  · rfl
  have : cnt (fun y => if y = x then 1 else 0) 0 ≤ cnt (fun x => b2n (S x)) 0 := cnt_le 0 fun y _ _ => by
    by_cases e : y = x
    · subst e; rw [if_pos rfl, g]; exact Nat.le_refl 1
    rw [if_neg e]; exact Nat.zero_le _
  rw [cnt_one (a := x) 0 (Nat.zero_le _) h2 (fun y _ _ hne => if_neg hne), if_pos rfl, ← ssize_cnt] at this
  omega
theorem one_of {S : Nat → Bool} (h : ssize S 256 = 1) {a x : Nat} (ha : a < 256) (hS : S a = true) (h2 : x < 256) (hne : x ≠ a) : S x = false := by
  cases g : S x
  · rfl
  have : cnt (fun y => (if y = x then 1 else 0) + (if y = a then 1 else 0)) 0 ≤ cnt (fun x => b2n (S x)) 0 := cnt_le 0 fun y _ _ => by
    by_cases e : y = x
    · subst e; rw [if_pos rfl, if_neg hne, g]; exact Nat.le_refl 1
    rw [if_neg e]
    by_cases e2 : y = a
    · subst e2; rw [if_pos rfl, hS]; exact Nat.le_refl 1
    rw [if_neg e2]; exact Nat.zero_le _
  rw [cnt_add, cnt_one (a := x) 0 (Nat.zero_le _) h2 (fun y _ _ hne => if_neg hne), cnt_one (a := a) 0 (Nat.zero_le _) ha (fun y _ _ hne => if_neg hne), if_pos rfl, if_pos rfl, ← ssize_cnt] at this
  omega
theorem setTx_128 (S : Nat → Bool) : (setTx S).1.length ≤ 128 := by
  unfold setTx
  cases h0 : S 0
  · rw [cond_false]
    have ho := ssize_other h0
    cases hn : setNeg (ssize S 256) (S 94)
    · rw [cond_false]
      cases (decide (ssize S 256 = 2) && S 94) && S 45
      · rw [cond_false]
        have hb := setBody_cnt S
        unfold setNeg at hn
        simp only [Bool.or_eq_false_iff, Bool.and_eq_false_iff, decide_eq_false_iff_not] at hn
        show (setBody S).length ≤ 128
        by_cases h5 : ssize S 256 = 255
        · have := setBody_all (T := S) (fun x a b _ _ _ => full_of h0 h5 a b); omega
        omega
      show (2 : Nat) ≤ 128; decide
    rw [cond_true]
    show (setBody (sother S)).length + 1 ≤ 128
    have hb := setBody_cnt (sother S)
    have hs : ∀ x, 1 ≤ x → S x = false → sother S x = true := fun x a b => by
      unfold sother; rw [b, decide_eq_true (show x ≠ 0 by omega)]; rfl
    unfold setNeg at hn
    simp only [Bool.or_eq_true, Bool.and_eq_true, decide_eq_true_eq] at hn
    rcases hn with (h | h) | h
    · have := setBody_all (T := sother S) (fun x a b _ _ _ => hs x a (none_of h b)); omega
    · omega
    have := setBody_all (T := sother S) (fun x a b _ _ c => hs x a (one_of h.1 (by decide) h.2 b c)); omega
  exact Nat.zero_le _
def nodash (l : List Nat) : Prop := ∀ b r, l ≠ 45 :: b :: r
theorem rdI_one {S : Nat → Bool} {a : Nat} {l : List Nat} (h : nodash l) : rdI S (a :: l) = rdI (sr S a (a + 1)) l := by
  cases l with
  | nil => rfl
  | cons c l =>
    cases l with
    | nil => rfl
    | cons b r =>
      rw [rdI, if_neg (fun e => h b r (by rw [e]))]
theorem rdI_rng {S : Nat → Bool} {a b : Nat} {l : List Nat} (h : a ≤ b) : rdI S (a :: 45 :: b :: l) = rdI (sr S a (b + 1)) l := by
  rw [rdI, if_pos rfl, if_neg (by omega)]
theorem sr_in (S : Nat → Bool) (a b x : Nat) : sr S a b x = (S x || (decide (a ≤ x) && decide (x < b))) := rfl
theorem rdI_wr {S : Nat → Bool} {c d : Nat} {l : List Nat} (hcd : c ≤ d) (hc : c ≠ 45) (hd : d ≠ 45) (h : nodash l) : rdI S (wr c d ++ l) = rdI (sr S c (d + 1)) l := by
  unfold wr
  split
  · exact rdI_rng hcd
  rename_i g
  rcases Nat.eq_or_lt_of_le hcd with rfl | g2
  · rw [show c + 1 - c = 1 by omega]
    exact rdI_one h
  obtain rfl : d = c + 1 := by omega
  rw [show c + 1 + 1 - c = 2 by omega]
  show rdI S (c :: (c + 1) :: l) = _
  rw [rdI_one (fun b r e => hd (by injection e)), rdI_one h, show sr (sr S c (c + 1)) (c + 1) (c + 1 + 1) = sr S c (c + 1 + 1) from ?_]
  funext x
  rw [sr_in, sr_in, sr_in, Bool.or_assoc]
  congr 1
  rw [← Bool.decide_and, ← Bool.decide_and, ← Bool.decide_and, ← Bool.decide_or]
  exact decide_eq_decide.2 (by omega)
theorem rin_ne {T : Nat → Bool} {c : Nat} (h : rin T c = true) : T c = true ∧ c ≠ 45 ∧ c ≠ 93 ∧ c ≠ 94 := by
  unfold rin at h
  simp only [Bool.and_eq_true, Bool.not_eq_true', Bool.or_eq_false_iff, decide_eq_false_iff_not] at h
  exact ⟨h.1, h.2.2.2, h.2.1, h.2.2.1⟩
theorem wr_head (c d : Nat) (hcd : c ≤ d) : ∃ r, wr c d = c :: r := by
  unfold wr; split
  · exact ⟨_, rfl⟩
  obtain ⟨k, hk⟩ : ∃ k, d + 1 - c = k + 1 := ⟨d - c, by omega⟩
  rw [hk, List.range_succ_eq_map]; exact ⟨_, by rw [List.map_cons, Nat.add_zero]⟩
theorem nodash_rtx (T : Nat → Bool) (c : Nat) {l : List Nat} (h : nodash l) : nodash (rtx T c ++ l) := by
  by_cases hc : c < 256
  · cases e : rin T c
    · rw [rtx_no hc e]; exact nodash_rtx T (c + 1) h
    rw [rtx_yes hc e]
    obtain ⟨r, hr⟩ := wr_head c (rend T c) (rend_ge T c)
    rw [hr]
    intro b r e2
    have := (rin_ne e).2.1
    injection e2 with e2; exact this e2
  rw [rtx, dif_neg hc]; exact h
termination_by 256 - c
theorem rdI_rtx (T : Nat → Bool) (S : Nat → Bool) (c : Nat) {l : List Nat} (h : nodash l) : ∃ S', rdI S (rtx T c ++ l) = rdI S' l ∧ ∀ x, S' x = (S x || (decide (c ≤ x) && (decide (x < 256) && rin T x))) := by
  by_cases hc : c < 256
  · cases e : rin T c
    · rw [rtx_no hc e]
      obtain ⟨S', h1, h2⟩ := rdI_rtx T S (c + 1) h
      refine ⟨S', h1, fun x => ?_⟩
      rw [h2 x]
      congr 1
      by_cases hx : x = c
      · subst hx; rw [e, Bool.and_false, Bool.and_false, Bool.and_false]
      rw [decide_eq_decide.2 (show c + 1 ≤ x ↔ c ≤ x by omega)]
    rw [rtx_yes hc e]
    have h1 := rend_ge T c
    have h2 := rend_lt T c hc
    have h3 := rin_ne e
    have h4 := rin_ne (rin_of h1 e (Nat.le_refl _))
    rw [List.append_assoc, rdI_wr h1 h3.2.1 h4.2.1 (nodash_rtx T _ h)]
    obtain ⟨S', g1, g2⟩ := rdI_rtx T (sr S c (rend T c + 1)) (rend T c + 1) h
    refine ⟨S', g1, fun x => ?_⟩
    rw [g2 x, sr_in, Bool.or_assoc]
    congr 1
    by_cases a : x ≤ rend T c
    · rw [decide_eq_false (show ¬ rend T c + 1 ≤ x by omega), Bool.false_and, Bool.or_false, decide_eq_true (show x < rend T c + 1 by omega), Bool.and_true]
      by_cases b : c ≤ x
      · rw [decide_eq_true b, rin_of b e a, decide_eq_true (show x < 256 by omega)]; rfl
      rw [decide_eq_false b]; rfl
    rw [decide_eq_true (show rend T c + 1 ≤ x by omega), Bool.true_and, decide_eq_false (show ¬ x < rend T c + 1 by omega), Bool.and_false, Bool.false_or, decide_eq_true (show c ≤ x by omega), Bool.true_and]
  refine ⟨S, by rw [rtx, dif_neg hc]; rfl, fun x => ?_⟩
  by_cases hx : c ≤ x
  · rw [decide_eq_false (show ¬ x < 256 by omega), Bool.false_and, Bool.and_false, Bool.or_false]
  rw [decide_eq_false hx, Bool.false_and, Bool.or_false]
termination_by 256 - c
theorem rdI_pre {S : Nat → Bool} {b : Bool} {a : Nat} {l : List Nat} (h : nodash l) : ∃ S', rdI S (pre1 b a ++ l) = rdI S' l ∧ ∀ x, S' x = (S x || (b && decide (x = a))) := by
  cases b
  · exact ⟨S, rfl, fun x => by rw [Bool.false_and, Bool.or_false]⟩
  refine ⟨sr S a (a + 1), rdI_one h, fun x => ?_⟩
  rw [sr_in, Bool.true_and, ← Bool.decide_and]
  congr 1
  exact decide_eq_decide.2 (by omega)
theorem nodash_pre {b : Bool} {a : Nat} {l : List Nat} (ha : a ≠ 45) (h : nodash l) : nodash (pre1 b a ++ l) := by
  cases b
  · exact h
  intro x r e
  have e : a :: l = 45 :: x :: r := e
  injection e with e; exact ha e
theorem nodash_last (b : Bool) : nodash (pre1 b 45) := by cases b <;> (intro x r e; cases e)
theorem rdI_body (T : Nat → Bool) : ∃ S', rdI sempty (setBody T) = some S' ∧ ∀ x, 1 ≤ x → x < 256 → S' x = T x := by
  unfold setBody
  have n1 : nodash (pre1 (T 45) 45) := nodash_last _
  have n2 := nodash_pre (b := T 94) (a := 94) (by decide) n1
  have n3 := nodash_rtx T 1 n2
  obtain ⟨S1, a1, b1⟩ := rdI_pre (S := sempty) (b := T 93) (a := 93) n3
  obtain ⟨S2, a2, b2⟩ := rdI_rtx T S1 1 n2
  obtain ⟨S3, a3, b3⟩ := rdI_pre (S := S2) (b := T 94) (a := 94) n1
  obtain ⟨S4, a4, b4⟩ := rdI_pre (S := S3) (b := T 45) (a := 45) (l := []) (fun _ _ e => by cases e)
  rw [List.append_nil] at a4
  refine ⟨S4, by rw [a1, a2, a3, a4]; rfl, fun x h1 h2 => ?_⟩
  rw [b4, b3, b2, b1, decide_eq_true h1, decide_eq_true h2]
  unfold sempty rin
  rw [Bool.false_or, Bool.true_and, Bool.true_and]
  by_cases e1 : x = 93
  · subst e1; simp
  by_cases e2 : x = 94
  · subst e2; simp
  by_cases e3 : x = 45
  · subst e3; simp
  simp [e1, e2, e3]
theorem rdI_nz : ∀ (l : List Nat) (S S' : Nat → Bool), (∀ c ∈ l, c ≠ 0) → S 0 = false → rdI S l = some S' → S' 0 = false
  | [], S, S', _, h, e => by injection e with e; rw [← e]; exact h
  | [a], S, S', hz, h, e => by
    rw [rdI, rdI] at e
    injection e with e
    rw [← e, sr_in, h, decide_eq_false (show ¬ a ≤ 0 by have := hz a (by simp); omega)]; rfl
  | [a, b], S, S', hz, h, e => by
    rw [rdI] at e
    refine rdI_nz [b] _ S' (fun c hc => hz c (List.mem_cons_of_mem _ hc)) ?_ e
    rw [sr_in, h, decide_eq_false (show ¬ a ≤ 0 by have := hz a (by simp); omega)]; rfl
  | a :: c :: b :: r, S, S', hz, h, e => by
    have ha : ¬ a ≤ 0 := by have := hz a (by simp); omega
    rw [rdI] at e
    split at e
    · split at e
      · cases e
      refine rdI_nz r _ S' (fun x hx => hz x (List.mem_cons_of_mem _ (List.mem_cons_of_mem _ (List.mem_cons_of_mem _ hx)))) ?_ e
      rw [sr_in, h, decide_eq_false ha]; rfl
    refine rdI_nz (c :: b :: r) _ S' (fun x hx => hz x (List.mem_cons_of_mem _ hx)) ?_ e
    rw [sr_in, h, decide_eq_false ha]; rfl
termination_by l => l.length
theorem wr_mem {T : Nat → Bool} {c d x : Nat} (h : ∀ y, c ≤ y → y ≤ d → rin T y = true) (hcd : c ≤ d) (hx : x ∈ wr c d) : x = 45 ∨ rin T x = true := by
  unfold wr at hx
  split at hx
  · simp only [List.mem_cons, List.not_mem_nil, or_false] at hx
    rcases hx with rfl | rfl | rfl
    · exact .inr (h _ (Nat.le_refl _) hcd)
    · exact .inl rfl
    exact .inr (h _ hcd (Nat.le_refl _))
  rw [List.mem_map] at hx
  obtain ⟨k, hk, rfl⟩ := hx
  rw [List.mem_range] at hk
  exact .inr (h _ (by omega) (by omega))
theorem rtx_mem (T : Nat → Bool) (c : Nat) {x : Nat} (hx : x ∈ rtx T c) : x = 45 ∨ rin T x = true := by
  by_cases hc : c < 256
  · cases e : rin T c
    · rw [rtx_no hc e] at hx; exact rtx_mem T (c + 1) hx
    rw [rtx_yes hc e, List.mem_append] at hx
    have := rend_ge T c
    rcases hx with hx | hx
    · exact wr_mem (fun y a b => rin_of a e b) this hx
    exact rtx_mem T (rend T c + 1) hx
  rw [rtx, dif_neg hc] at hx; cases hx
termination_by 256 - c
theorem tail_mem {T : Nat → Bool} {x : Nat} (hx : x ∈ rtx T 1 ++ (pre1 (T 94) 94 ++ pre1 (T 45) 45)) : x = 45 ∨ x = 94 ∨ rin T x = true := by
  rw [List.mem_append, List.mem_append] at hx
  rcases hx with hx | hx | hx
  · exact (rtx_mem T 1 hx).imp id .inr
  · cases e : T 94
    · rw [e] at hx; cases hx
    rw [e] at hx
    have hx : x ∈ [94] := hx
    rw [List.mem_singleton] at hx; exact .inr (.inl hx)
  cases e : T 45
  · rw [e] at hx; cases hx
  rw [e] at hx
  have hx : x ∈ [45] := hx
  rw [List.mem_singleton] at hx; exact .inl hx
theorem body_good {T : Nat → Bool} (h0 : T 0 = false) (hne : setBody T ≠ []) : rdBad (setBody T) = false := by
  have hr : ∀ {x}, rin T x = true → x ≠ 0 ∧ x ≠ 93 := fun {x} h => ⟨fun e => Bool.noConfusion ((e ▸ (rin_ne h).1 : T 0 = true).symm.trans h0), (rin_ne h).2.2.1⟩
  have ht : ∀ {x}, x ∈ rtx T 1 ++ (pre1 (T 94) 94 ++ pre1 (T 45) 45) → x ≠ 0 ∧ x ≠ 93 := fun {x} hx => by
    rcases tail_mem hx with e | e | e
    · subst e; decide
    · subst e; decide
    exact hr e
  unfold rdBad
  rw [decide_eq_false hne, Bool.false_or, Bool.or_eq_false_iff, decide_eq_false_iff_not, decide_eq_false_iff_not]
  unfold setBody
  cases T 93
  · refine ⟨fun h => (ht h).1 rfl, fun h => (ht (List.mem_of_mem_drop h)).2 rfl⟩
  refine ⟨fun h => ?_, fun h => (ht h).2 rfl⟩
  have h : 0 ∈ 93 :: (rtx T 1 ++ (pre1 (T 94) 94 ++ pre1 (T 45) 45)) := h
  rw [List.mem_cons] at h
  exact h.elim (fun e => by cases e) (fun h => (ht h).1 rfl)
theorem body_ne {T : Nat → Bool} {x : Nat} (h1 : 1 ≤ x) (h2 : x < 256) (h : T x = true) : setBody T ≠ [] := by
  intro e
  obtain ⟨S', a, b⟩ := rdI_body T
  rw [e] at a
  injection a with a
  have := b x h1 h2
  rw [← a, h] at this; cases this
theorem rtx_ne {T : Nat → Bool} (c : Nat) {x : Nat} (h1 : c ≤ x) (h2 : x < 256) (h : rin T x = true) : ∃ y r, rtx T c = y :: r ∧ rin T y = true := by
  have hc : c < 256 := by omega
  cases e : rin T c
  · rw [rtx_no hc e]
    exact rtx_ne (c + 1) ((Nat.eq_or_lt_of_le h1).elim (fun g => by rw [← g, e] at h; cases h) id) h2 h
  rw [rtx_yes hc e]
  obtain ⟨r, hr⟩ := wr_head c (rend T c) (rend_ge T c)
  rw [hr]; exact ⟨c, _, rfl, e⟩
termination_by 256 - c
theorem body_caret {T : Nat → Bool} {r : List Nat} (h : setBody T = 94 :: r) : ∀ x, 1 ≤ x → x < 256 → T x = true → x = 94 ∨ x = 45 := by
  intro x h1 h2 h3
  unfold setBody at h
  cases e : T 93
  · rw [e] at h
    have h : rtx T 1 ++ (pre1 (T 94) 94 ++ pre1 (T 45) 45) = 94 :: r := h
    by_cases a : x = 94
    · exact .inl a
    by_cases b : x = 45
    · exact .inr b
    exfalso
    have hx : rin T x = true := by
      unfold rin
      rw [h3, decide_eq_false (show ¬ x = 93 from fun g => by rw [g, e] at h3; cases h3), decide_eq_false a, decide_eq_false b]; rfl
    obtain ⟨y, q, hq, hy⟩ := rtx_ne 1 h1 h2 hx
    rw [hq] at h
    injection h with h
    exact (rin_ne hy).2.2.2 h
  rw [e] at h
  have h : 93 :: (rtx T 1 ++ (pre1 (T 94) 94 ++ pre1 (T 45) 45)) = 94 :: r := h
  injection h with h; cases h
end Go.V
set_option maxHeartbeats 8000000
set_option maxRecDepth 100000
set_option synthInstance.maxSize 100000
set_option synthInstance.maxHeartbeats 2000000
namespace Go.V
open Go.RowKit Go.Proofs
/-! HOW A SET IS WRITTEN. -/
abbrev sCar : Nat → Bool := swith sempty 94
abbrev sDash : Nat → Bool := swith sempty 45
abbrev sBoth : Nat → Bool := swith sCar 45
theorem ssize_congr {S T : Nat → Bool} (h : ∀ c, c < 256 → S c = T c) : ssize S 256 = ssize T 256 := by
  rw [ssize_cnt, ssize_cnt]
  exact Nat.le_antisymm (cnt_le 0 fun x _ hx => by rw [h x hx]; exact Nat.le_refl _) (cnt_le 0 fun x _ hx => by rw [h x hx]; exact Nat.le_refl _)
theorem sBoth_at (c : Nat) : sBoth c = (decide (c = 94) || decide (c = 45)) := rfl
theorem sCar_at (c : Nat) : sCar c = decide (c = 94) := rfl
theorem cnt_ind (a : Nat) (h : a < 256) : cnt (fun y => b2n (decide (y = a))) 0 = 1 := by
  rw [cnt_one (a := a) 0 (Nat.zero_le _) h (fun y _ _ hne => by unfold b2n; rw [decide_eq_false hne]; rfl), decide_eq_true rfl]; rfl
theorem ssize_car : ssize sCar 256 = 1 := by rw [ssize_cnt]; exact cnt_ind 94 (by decide)
theorem ssize_both : ssize sBoth 256 = 2 := by
  have e : cnt (fun y => b2n (decide (y = 94)) + b2n (decide (y = 45))) 0 = 2 := by rw [cnt_add, cnt_ind 94 (by decide), cnt_ind 45 (by decide)]
  rw [ssize_cnt, ← e]
  have : ∀ y, b2n (sBoth y) = b2n (decide (y = 94)) + b2n (decide (y = 45)) := fun y => by
    rw [sBoth_at]
    by_cases h1 : y = 94
    · subst h1; rfl
    rw [decide_eq_false h1]; unfold b2n; simp
  simp only [this]
theorem sEq_car {S : Nat → Bool} : sEq S sCar = (decide (ssize S 256 = 1) && S 94) := by
  rw [Bool.eq_iff_iff, sEq_ext, Bool.and_eq_true, decide_eq_true_eq]
  constructor
  · intro h
    exact ⟨(ssize_congr h).trans ssize_car, (h 94 (by decide)).trans rfl⟩
  rintro ⟨h1, h2⟩ c hc
  rw [sCar_at]
  by_cases e : c = 94
  · subst e; rw [h2]; rfl
  rw [decide_eq_false e]; exact one_of h1 (by decide) h2 hc e
theorem two_of {S : Nat → Bool} (h : ssize S 256 = 2) {a b x : Nat} (ha : a < 256) (hb : b < 256) (hab : a ≠ b) (hS : S a = true) (hT : S b = true) (h2 : x < 256) (hxa : x ≠ a) (hxb : x ≠ b) : S x = false := by
  cases g : S x
  · rfl
  have : cnt (fun y => b2n (decide (y = x)) + (b2n (decide (y = a)) + b2n (decide (y = b)))) 0 ≤ cnt (fun x => b2n (S x)) 0 := cnt_le 0 fun y _ _ => by
    by_cases e : y = x
    · subst e; rw [decide_eq_false hxa, decide_eq_false hxb, decide_eq_true rfl, g]; exact Nat.le_refl 1
    rw [decide_eq_false e]
    by_cases e2 : y = a
    · subst e2; rw [decide_eq_false hab, decide_eq_true rfl, hS]; exact Nat.le_refl 1
    rw [decide_eq_false e2]
    by_cases e3 : y = b
    · subst e3; rw [decide_eq_true rfl, hT]; exact Nat.le_refl 1
    rw [decide_eq_false e3]; exact Nat.zero_le _
  rw [cnt_add, cnt_add, cnt_ind x h2, cnt_ind a ha, cnt_ind b hb, ← ssize_cnt] at this
  omega
theorem sEq_both {S : Nat → Bool} : sEq S sBoth = ((decide (ssize S 256 = 2) && S 94) && S 45) := by
  rw [Bool.eq_iff_iff, sEq_ext, Bool.and_eq_true, Bool.and_eq_true, decide_eq_true_eq]
  constructor
  · intro h
    exact ⟨⟨(ssize_congr h).trans ssize_both, (h 94 (by decide)).trans rfl⟩, (h 45 (by decide)).trans rfl⟩
  rintro ⟨⟨h1, h2⟩, h3⟩ c hc
  rw [sBoth_at]
  by_cases e : c = 94
  · subst e; rw [h2]; rfl
  by_cases e2 : c = 45
  · subst e2; rw [h3]; rfl
  rw [decide_eq_false e, decide_eq_false e2]
  exact two_of h1 (by decide) (by decide) (by decide) h2 h3 hc e e2
theorem ssize_255 {S : Nat → Bool} (h0 : S 0 = false) : ssize S 256 ≤ 255 := by have := ssize_other h0; omega
theorem neg_alt {n : Nat} {b q : Bool} (hn : n ≤ 255) (hq : q = (decide (n = 1) && b)) : (!(((decide (1 ≤ n) && decide (n ≤ 127)) && !q) || decide (n = 255))) = setNeg n b := by
  subst hq
  unfold setNeg
  by_cases h0 : n = 0
  · subst h0; cases b <;> rfl
  by_cases h1 : n = 1
  · subst h1; cases b <;> rfl
  rw [decide_eq_false h0, decide_eq_false h1, decide_eq_true (show 1 ≤ n by omega), Bool.false_and, Bool.false_or, Bool.or_false, Bool.true_and, Bool.not_false, Bool.and_true]
  by_cases h2 : n ≤ 127
  · rw [decide_eq_true h2, decide_eq_false (show ¬ 127 < n by omega)]; rfl
  rw [decide_eq_false h2, decide_eq_true (show 127 < n by omega), Bool.false_or, Bool.true_and, ← decide_not]
  exact decide_eq_decide.2 (by omega)
theorem word_dash (T : Nat → Bool) : (((sw T 0 &&& sw sDash 0 : Nat) : Int) != 0) = T 45 := by
  have hd : sw sDash 0 = 2 ^ 45 := (sw_ext (by decide) fun j hj => by
    rw [Nat.testBit_two_pow]
    unfold sDash swith sempty
    rw [Bool.false_or]
    exact decide_eq_decide.2 (by omega)).symm
  rw [hd]
  have hb : (sw T 0).testBit 45 = T 45 := sw_bit T 0 (by decide)
  rw [← hb]
  have ht : (sw T 0 &&& 2 ^ 45).testBit 45 = (sw T 0).testBit 45 := by rw [Nat.testBit_and, Nat.testBit_two_pow_self, Bool.and_true]
  cases e : (sw T 0).testBit 45
  · have h0 : sw T 0 &&& 2 ^ 45 = 0 := Nat.eq_of_testBit_eq fun i => by
      rw [Nat.testBit_and, Nat.testBit_two_pow, Nat.zero_testBit]
      by_cases hi : 45 = i
      · subst hi; rw [e]; rfl
      rw [decide_eq_false hi, Bool.and_false]
    rw [h0]; rfl
  rw [e] at ht
  have hne : sw T 0 &&& 2 ^ 45 ≠ 0 := fun h => by rw [h, Nat.zero_testBit] at ht; cases ht
  rw [bne_iff_ne]
  omega
theorem setBody_lt (T : Nat → Bool) : ∀ x ∈ setBody T, x < 256 := by
  unfold setBody
  intro x hx
  have hp : ∀ b c, c < 256 → x ∈ pre1 b c → x < 256 := fun b c hc h => by
    cases b
    · cases h
    have h : x ∈ [c] := h
    rw [List.mem_singleton] at h; omega
  rw [List.mem_append, List.mem_append, List.mem_append] at hx
  rcases hx with h | h | h | h
  · exact hp _ 93 (by decide) h
  · exact rtx_lt T 1 x h
  · exact hp _ 94 (by decide) h
  exact hp _ 45 (by decide) h
theorem setTx_lt (S : Nat → Bool) : ∀ x ∈ (setTx S).1, x < 256 := by
  unfold setTx
  cases S 0
  · rw [cond_false]
    cases setNeg (ssize S 256) (S 94)
    · rw [cond_false]
      cases (decide (ssize S 256 = 2) && S 94) && S 45
      · exact setBody_lt S
      intro x hx
      have hx : x ∈ [45, 94] := hx
      simp only [List.mem_cons, List.not_mem_nil, or_false] at hx; omega
    intro x hx
    have hx : x ∈ 94 :: setBody (sother S) := hx
    rw [List.mem_cons] at hx
    exact hx.elim (fun e => by omega) (setBody_lt _ x)
  intro x hx; cases hx
theorem BldS.set {H : Heap} {k j : Nat} {L : List Nat} {o : AObj} {x : Option AObj} (h : BldS H k L) (hj : H[j]? = some (some o)) (hne : j ≠ k) (he : o.elem ≠ ZaO) : BldS (H.set j x) k L :=
  h.keep fun i y hy hc => by
    rcases hc with hc | rfl
    · have : j ≠ i := by rintro rfl; rw [hj] at hy; injection hy with hy; injection hy with hy; subst hy; exact he hc
      rw [List.getElem?_set_ne this]; exact hy
    rw [List.getElem?_set_ne hne]; exact hy
theorem BldS.app {H M : Heap} {k : Nat} {L : List Nat} (h : BldS H k L) : BldS (H ++ M) k L :=
  h.keep fun i y hy _ => by rw [List.getElem?_append_left (List.getElem?_eq_some_iff.1 hy).1]; exact hy
theorem get_app {H M : Heap} {i : Nat} {x : Option AObj} (h : H[i]? = some x) : (H ++ M)[i]? = some x := by
  rw [List.getElem?_append_left (List.getElem?_eq_some_iff.1 h).1]; exact h
theorem ZiS {env : List D} {H : Heap} {dst : Option Tmp} {x y : Operand} {ty T' : TypeId} {pos : String} {aft : Array Edge} {gd : Option (Nat × Bool)} {S T : Nat → Bool} (hx : evO C env x = some (setD S)) (hy : evO C env y = some (setD T)) :
    OpQ C ⟨dst, .binOp .neq Zac x y T', ty, pos, aft, gd⟩ env H (.bool (!sEq S T)) :=
  Zh5 (m := 2) (f := 2) (by kernel_rfl) (by decide) (by kernel_rfl) hx hy rfl rfl rfl rfl (set_lits (sw_lt S 0) (sw_lt S 1) (sw_lt S 2) (sw_lt S 3)) (set_lits (sw_lt T 0) (sw_lt T 1) (sw_lt T 2) (sw_lt T 3)) (by
    unfold sEq
    rw [decide_eq_true_eq]
    simp only [List.cons.injEq, Lit.int.injEq, true_and, and_true, Int.ofNat_inj])
abbrev setO (T : Nat → Bool) : Option AObj := some ⟨swL T, Zac, 1, true, none⟩
end Go.V
set_option maxHeartbeats 8000000
set_option maxRecDepth 100000
set_option synthInstance.maxSize 100000
set_option synthInstance.maxHeartbeats 2000000
namespace Go.V
open Go.RowKit Go.Proofs
theorem ne28 : Zac ≠ ZaO := by decide
theorem ne0 : (0 : TypeId) ≠ ZaO := by decide
theorem get_last {A : Heap} {x : Option AObj} {n : Nat} (h : n = A.length) : (A ++ [x])[n]? = some x := by
  subst h; rw [List.getElem?_append_right (Nat.le_refl _)]; simp
theorem rnd_in {H : Heap} {n : Nat} {ps : Array Tmp} {asg bd : Code} {env : List D} {L : List Nat} {T : Nat → Bool} (hn : 2 ≤ n) (wb : BldS H 1 L) (w0 : H[0]? = some (setO T)) (w1 : H[n]? = some defsO) (w2 : H[n + 1]? = some (loopO .ready ps asg bd env)) :
    ∃ HB, HB = H.set (n + 1) (loopO .busy ps asg bd env) ∧ BldS HB 1 L ∧ ∀ (H2 : Heap) (M : List Nat), BldS H2 1 M → KeepB HB H2 1 →
      H2[n + 1]? = some (loopO .busy ps asg bd env) ∧ BldS (H2.set (n + 1) (loopO .ready ps asg bd env)) 1 M ∧ (H2.set (n + 1) (loopO .ready ps asg bd env))[0]? = some (setO T) ∧ (H2.set (n + 1) (loopO .ready ps asg bd env))[n]? = some defsO ∧ (H2.set (n + 1) (loopO .ready ps asg bd env))[n + 1]? = some (loopO .ready ps asg bd env) := by
  refine ⟨_, rfl, wb.set w2 (by omega) ne0, fun H2 M hb hk => ?_⟩
  have z2 := hk.2 _ _ (heap_set_get (y := loopO .busy ps asg bd env) w2) (by omega) ne0
  have z0 := hk.2 0 _ (by rw [List.getElem?_set_ne (by omega)]; exact w0) (by decide) ne28
  have z1 := hk.2 n _ (by rw [List.getElem?_set_ne (by omega)]; exact w1) (by omega) ne0
  exact ⟨z2, hb.set z2 (by omega) ne0, by rw [List.getElem?_set_ne (by omega)]; exact z0, by rw [List.getElem?_set_ne (by omega)]; exact z1, heap_set_get z2⟩
theorem BldS.two {H : Heap} {L : List Nat} (h : BldS H 1 L) : 2 ≤ H.length := by
  obtain ⟨p, d, _, hk, _⟩ := h
  exact (List.getElem?_eq_some_iff.1 hk).1
theorem ZbV (S : Nat → Bool) : PC C ZbN [setD S] (fun o => o = .ret (.tup [.str (bytesOf (setTx S).1), .int .i64 (setTx S).2])) := by
  obtain ⟨R, hR⟩ : ∃ R, R = setTx S := ⟨_, rfl⟩
  have hRlt : ∀ x ∈ R.1, x < 256 := by rw [hR]; exact setTx_lt S
  have hRlen : R.1.length ≤ 300 := by rw [hR]; exact setTx_len S
  rw [← hR]
  unfold setTx at hR
  have hn5 := fun h => ssize_255 (S := S) h
  have hcar := sEq_car (S := S)
  have hboth := sEq_both (S := S)
  have hsz := ZhZ S
  generalize ssize S 256 = n at *
  refine PC.rn ZbE Zdl Zdm (rs := [.tmp 2, .tmp 3]) (by rw [Zdn]) ?_
  refine ARun.seq (ARun.region ?_)
  refine y_new rfl (n_box rfl rfl rfl) ?_
  refine zza ?_; refine zza ?_; refine AOps.nil (ARun.seq (ARun.seq (ARun.region ?_)))
  refine y_op rfl (Zab rfl rfl rfl rfl rfl rfl) ?_
  refine zzc rfl rfl (ZaL S 0 (by decide)) ?_
  refine AOps.nil ?_
  refine ARun.cond rfl (fun h0 => ?_) (fun h0 => ?_)
  · skip
    rw [h0, cond_true] at hR
    subst hR
    refine ARun.seq (ARun.region ?_); refine zza ?_; refine zza ?_; refine AOps.nil ?_
    refine ARun.ret ?_
    refine ⟨_, _, _, .tmp rfl (.tmp rfl .nil), .cons (.same _) (.cons (.same _) .nil), rfl, ?_⟩
    rfl
  rw [h0, cond_false] at hR
  have hn5 := hn5 h0
  refine ARun.skip (ARun.seq (ARun.region ?_))
  refine y_op rfl (Zab rfl rfl rfl rfl rfl rfl) ?_
  refine zzc rfl rfl (hsz) ?_
  refine zza ?_; refine AOps.nil (ARun.seq (ARun.region ?_))
  refine y_op rfl (OpQ.cast (d' := setD sempty) (ZaW rfl rfl rfl) (by show D.agg [_, _, _, _] = D.agg (swL sempty); rw [swL_empty])) ?_
  refine zzc rfl rfl (ZdO sempty 94 (by decide)) ?_
  refine y_op rfl (OpQ.cast (d' := setD sempty) (ZaW rfl rfl rfl) (by show D.agg [_, _, _, _] = D.agg (swL sempty); rw [swL_empty])) ?_
  refine zzc rfl rfl (ZdO sempty 45 (by decide)) ?_
  refine ZhW (alW rfl rfl rfl rfl rfl rfl rfl rfl rfl rfl rfl) (alW rfl rfl rfl rfl rfl rfl rfl rfl rfl rfl rfl) rfl ?_
  refine AOps.nil (ARun.seq (ARun.seq ?_))
  refine ARun.drawnP 4 (fun _ => False) mixC rfl rfl (by kernel_rfl) (fun _ _ h => h.elim) ?_
  refine .op rfl (Zab rfl rfl rfl rfl rfl rfl) ?_
  refine .op rfl (Zaj rfl rfl rfl rfl rfl) ?_
  refine .op rfl (q_call rfl rfl (ZdO sCar 45 (by decide))) ?_
  refine .op rfl (Zh3 rfl rfl) ?_
  refine .nil (fun hG => ?_)
  refine AOps.nil ?_
  refine ARun.cond rfl (fun d => ?_) (fun d => ?_)
  · skip
    rw [d] at hboth
    have hng : setNeg n (S 94) = false := by
      have hb := hboth.symm
      rw [Bool.and_eq_true, Bool.and_eq_true, decide_eq_true_eq] at hb
      obtain ⟨⟨rfl, _⟩, _⟩ := hb
      unfold setNeg; cases S 94 <;> rfl
    rw [hng, cond_false, ← hboth, cond_true] at hR
    subst hR
    refine ARun.seq (ARun.region ?_); refine zza ?_; refine zza ?_; refine AOps.nil ?_
    refine ARun.ret ?_
    refine ⟨_, _, _, .tmp rfl (.tmp rfl .nil), .cons (.same _) (.cons (.same _) .nil), rfl, ?_⟩
    rfl
  rw [d] at hboth
  rw [← hboth, cond_false] at hR
  refine ARun.skip (ARun.seq (ARun.region ?_))
  refine y_new rfl (ZaN rfl rfl rfl rfl) ?_
  refine AOps.nil (ARun.seq (ARun.seq (ARun.region ?_))); refine zzm ?_
  refine y_op rfl (OpQ.cast (d' := .bool (decide (1 ≤ n))) (q_int rfl rfl rfl) (congrArg D.bool (decide_eq_decide.2 (by omega)))) ?_
  refine zzm ?_
  apply AOps.andJ 25 (fun sj1 => [(25, .any), (26, .any), (27, .any), (28, .bool sj1)]) rfl
  · intro hj1 run1
    try replace hj1 := of_decide_eq_true hj1
    refine zzm ?_
    refine y_op rfl (OpQ.cast (d' := .bool (decide (n ≤ 127))) (q_int rfl rfl rfl) (congrArg D.bool (decide_eq_decide.2 (by omega)))) ?_
    refine zzp ?_
    exact AOps.ag run1
  · intro hj1 run1
    try replace hj1 := of_decide_eq_false hj1
    refine zzk ?_; refine zzk ?_; refine zzp ?_
    exact AOps.ag run1
  refine zzm ?_
  apply AOps.andJ 29 (fun sj2 => [(29, .any), (30, .any), (31, .any), (32, .any), (33, .bool sj2)]) rfl
  · intro hj2 run2
    try replace hj2 := of_decide_eq_true hj2
    refine y_op rfl (Zab rfl rfl rfl rfl rfl rfl) ?_
    refine zzL ?_
    refine y_op rfl (ZiS rfl rfl) ?_
    refine zzp ?_
    exact AOps.ag run2
  · intro hj2 run2
    try replace hj2 := of_decide_eq_false hj2
    refine zzk ?_; refine zzk ?_; refine zzk ?_; refine zzp ?_
    exact AOps.ag run2
  refine zzm ?_
  apply AOps.orJ 34 (fun sj3 => [(34, .any), (35, .any), (36, .any), (37, .bool sj3)]) rfl
  · intro hj3 run3
    try replace hj3 := of_decide_eq_true hj3
    refine zzk ?_; refine zzk ?_; refine zzp ?_
    exact AOps.ag run3
  · intro hj3 run3
    try replace hj3 := of_decide_eq_false hj3
    refine zzm ?_
    refine y_op rfl (OpQ.cast (d' := .bool (decide (n = 255))) (q_int rfl rfl rfl) (congrArg D.bool (decide_eq_decide.2 (by omega)))) ?_
    refine zzp ?_
    exact AOps.ag run3
  refine y_op rfl (OpQ.cast (q_not rfl) (congrArg D.bool (neg_alt (n := n) (b := S 94) hn5 hcar))) ?_
  refine AOps.nil ?_
  generalize setNeg n (S 94) = ng at *
  refine ARun.joinH (S := List Nat × (Nat → Bool) × Heap) (fun σ : List Nat × (Nat → Bool) × Heap => [(39, .any), (40, .any), (41, .any)]) (fun σ : List Nat × (Nat → Bool) × Heap => σ.2.2) (fun σ : List Nat × (Nat → Bool) × Heap => BldS σ.2.2 1 σ.1 ∧ σ.2.2[0]? = some (setO σ.2.1) ∧ R = (σ.1 ++ setBody σ.2.1, 0) ∧ σ.1.length ≤ 1) (fun run => ?_) ?_
  · skip
    refine ARun.cond rfl (fun y => ?_) (fun y => ?_)
    · skip
      rw [y, cond_true] at hR
      refine ARun.seq (ARun.region ?_)
      refine Zah rfl rfl rfl rfl (Za7 [setO S, bldO .nilptr .nilsl] 1 [] (.new rfl) 94 (by decide)) ?_ (by rintro _ _ ⟨h, _⟩; cases h)
      rintro q1 H1 ⟨e1, b1, k1⟩
      injection e1 with e1
      subst e1
      have g1 := k1.2 0 _ rfl (by decide) ne28
      refine AOps.nil (ARun.region ?_)
      refine y_op rfl (Zab rfl rfl rfl g1 rfl rfl) ?_
      refine zzc rfl rfl (Zfb S) ?_
      refine y_new rfl (Zak rfl rfl rfl rfl rfl rfl g1 rfl (Nat.le_of_ble_eq_true rfl) rfl) ?_
      refine AOps.nil ?_
      exact ARun.ag (run (([94], sother S, H1.set 0 (setO (sother S)))) (⟨b1.set g1 (by decide) ne28, heap_set_get g1, hR, Nat.le_refl 1⟩))
    rw [y, cond_false] at hR
    refine ARun.skip ?_
    exact ARun.ag (run (([], S, [setO S, bldO .nilptr .nilsl])) (⟨.new rfl, rfl, hR, Nat.zero_le 1⟩))
  rintro ⟨P, T, H⟩ hj
  try dsimp only at hj ⊢
  obtain ⟨b1, g1, r1, l1⟩ := hj
  clear hR hboth hcar hsz h0 d hn5
  refine ARun.seq (ARun.seq (ARun.region ?_))
  refine y_op rfl (Zab rfl rfl rfl g1 rfl rfl) ?_
  refine zzc rfl rfl (ZaL T 93 (by decide)) ?_
  refine AOps.nil ?_
  refine ARun.joinH (S := List Nat × Heap) (fun σ : List Nat × Heap => [(44, .any)]) (fun σ : List Nat × Heap => σ.2) (fun σ : List Nat × Heap => BldS σ.2 1 σ.1 ∧ σ.2[0]? = some (setO T) ∧ R = (σ.1 ++ (rtx T 1 ++ (pre1 (T 94) 94 ++ pre1 (T 45) 45)), 0) ∧ σ.1.length ≤ 2) (fun run => ?_) ?_
  · skip
    unfold setBody at r1
    refine ARun.cond rfl (fun y => ?_) (fun y => ?_)
    · skip
      rw [y] at r1
      refine ARun.region ?_
      refine Zah rfl rfl rfl rfl (Za7 H 1 P b1 93 (by omega)) ?_ (by rintro _ _ ⟨h, _⟩; cases h)
      rintro q1 H1 ⟨e1, b2, k2⟩
      injection e1 with e1
      subst e1
      refine AOps.nil ?_
      exact ARun.ag (run ((P ++ [93], H1)) (⟨b2, k2.2 0 _ g1 (by decide) ne28, (by rw [List.append_assoc]; exact r1), (by rw [List.length_append]; exact Nat.succ_le_succ l1)⟩))
    rw [y] at r1
    refine ARun.skip ?_
    exact ARun.ag (run ((P, H)) (⟨b1, g1, r1, Nat.le_succ_of_le l1⟩))
  rintro ⟨P1, H1⟩ hj
  try dsimp only at hj ⊢
  clear b1 g1 r1 l1
  obtain ⟨b1, g1, r1, l1⟩ := hj
  refine ARun.seq (ARun.seq (ARun.region ?_))
  refine y_op rfl (Zab rfl rfl rfl g1 rfl rfl) ?_
  refine zzc rfl rfl (Zh8 T) ?_
  refine AOps.nil (ARun.block ?_)
  have hn2 := b1.two
  refine ARun.rangeFn (n := H1.length) rfl rfl rfl (Ziv T _ (H1.length + 1) [47, 48] rfl _ _ _ (fun L H' => BldS H' 1 L ∧ H'[0]? = some (setO T) ∧ H'[H1.length]? = some defsO ∧ H'[H1.length + 1]? = some (loopO .ready _ _ _ _)) P1 (fun L H' h => h.2.2.2) (fun c d L H' hw hc hcd hd hL => ?_) ⟨(b1.app).app, get_app (get_app g1), get_app (get_last rfl), get_last (by simp)⟩) ?_ ?_
  · skip
    refine ARun.env0 (by simp only [setL, List.zip_cons_cons, List.zip_nil_right, List.set_cons_succ, List.set_cons_zero]; exact rfl) ?_
    obtain ⟨wb, w0, w1, w2⟩ := hw
    obtain ⟨HB, eB, vb, fin⟩ := rnd_in hn2 wb w0 w1 w2
    refine ARun.seq (ARun.region ?_); refine zza ?_; refine AOps.nil (ARun.region ?_); refine zza ?_; refine AOps.nil ?_
    refine ARun.beginRoundI rfl (w2) ?_
    refine ARun.block (ARun.seq (ARun.seq (ARun.region ?_))); refine zzm ?_; refine zzm ?_
    refine y_op rfl (OpQ.cast (d' := .int .u8 ((d - c : Nat) : Int)) (q_int rfl rfl rfl) (congrArg (D.int .u8) (by show IntKind.u8.wrap _ = _; rw [IntKind.wrap_u8]; omega))) ?_
    refine zzi ?_
    rw [← eB]
    refine AOps.nil ?_
    refine ARun.ite rfl (fun z => ?_) (fun z => ?_)
    · skip
      have z : c + 2 ≤ d := by omega
      have hwr : wr c d = [c, 45, d] := if_pos z
      refine ARun.seq (ARun.region ?_); refine zzm ?_; refine zzm ?_
      refine y_op rfl (Zba rfl rfl rfl rfl rfl rfl rfl rfl rfl rfl rfl (by decide) (by decide) rfl) ?_
      refine Zah rfl rfl rfl rfl (Zis _ 1 L vb [c, 45, d] (Nat.succ_pos _) (by show L.length + 3 ≤ _; omega)) ?_ (by rintro _ _ ⟨h, _⟩; cases h)
      rintro q1 H3 ⟨e1, b3, k3⟩
      injection e1 with e1
      subst e1
      refine AOps.nil ?_
      refine ARun.exit rfl ?_
      refine ARun.nil ⟨rfl, rfl, ?_⟩
      rw [hwr]
      exact fin _ _ b3 k3
    have z : ¬ c + 2 ≤ d := by omega
    have hwr : wr c d = (List.range (d + 1 - c)).map (c + ·) := if_neg z
    refine ARun.skip (ARun.seq (ARun.region ?_)); refine zzm ?_
    refine y_op rfl (q_conv rfl rfl rfl (nconv_i64 (by omega))) ?_
    refine zza ?_; refine AOps.nil (ARun.block ?_)
    refine ARun.loopI (S := Nat × List Nat × Heap) (fun σ : Nat × List Nat × Heap => [(10, .int .i64 ((c + σ.1 : Nat) : Int)), (59, .any), (60, .any), (61, .any), (62, .any), (63, .any), (64, .any), (65, .any), (66, .any), (67, .any)]) (fun σ : Nat × List Nat × Heap => σ.2.2) (fun σ : Nat × List Nat × Heap => c + σ.1 ≤ d + 1 ∧ σ.2.1 = L ++ (List.range σ.1).map (c + ·) ∧ BldS σ.2.2 1 σ.2.1 ∧ KeepB HB σ.2.2 1) (fun σ : Nat × List Nat × Heap => d + 1 - (c + σ.1)) ((0, L, HB)) ?_ ?_ ?_ ?_
    · exact ⟨by dsimp only; omega, by dsimp only; rw [List.range_zero, List.map_nil, List.append_nil], vb, KeepB.refl _ _⟩
    · (repeat' first | exact envLe_nil | apply envLe_any | apply envLe_same)
    · rfl
    rintro ⟨m, L1, H3⟩ hinv ih
    dsimp only at hinv ih ⊢
    obtain ⟨m1, m2, m3, m4⟩ := hinv
    have hll := congrArg List.length m2
    rw [List.length_append, List.length_map, List.length_range] at hll
    refine ARun.seq (ARun.seq (ARun.region ?_)); refine zzm ?_; refine zzm ?_
    refine y_op rfl (q_conv rfl rfl rfl (nconv_i64 (by omega))) ?_
    refine zzi ?_; refine AOps.nil ?_
    refine ARun.ite rfl (fun f => ?_) (fun f => ?_)
    · skip
      have f : c + m ≤ d := by omega
      refine ARun.skip (ARun.seq (ARun.block (ARun.region ?_))); refine zzm ?_
      refine y_op rfl (q_conv rfl rfl rfl (show _ = ((c + m : Nat) : Int) by rw [IntKind.wrap_u8]; omega)) ?_
      refine Zah rfl rfl rfl rfl (Za7 H3 1 L1 m3 (c + m) (by omega)) ?_ (by rintro _ _ ⟨h, _⟩; cases h)
      rintro q1 H4 ⟨e1, b4, k4⟩
      injection e1 with e1
      subst e1
      refine AOps.nil (ARun.inBlock (ARun.region ?_)); refine zzm ?_
      refine y_op rfl (OpQ.cast (d' := .int .i64 ((c + (m + 1) : Nat) : Int)) (q_int rfl rfl rfl) (congrArg (D.int .i64) (by show IntKind.i64.wrap _ = _; rw [IntWalk.i64_in _ (by omega)]; omega))) ?_
      refine zza ?_; refine AOps.nil ?_
      refine ARun.again (ih ((m + 1, L1 ++ [c + m], H4)) ?_ ?_) ?_ ?_
      · exact ⟨by dsimp only; omega, by dsimp only; rw [m2, List.range_succ, List.map_append, List.append_assoc]; rfl, b4, m4.trans k4⟩
      · (dsimp only; omega)
      · (repeat' first | exact envLe_nil | apply envLe_any | apply envLe_same)
      rfl
    obtain rfl : m = d + 1 - c := by omega
    rw [← hwr] at m2
    subst m2
    refine ARun.exit rfl ?_
    refine ARun.inBlock ?_
    refine ARun.nil ⟨rfl, rfl, ?_⟩
    exact fin _ _ m3 m4
  · rintro q2 H2 ⟨h, hb, w0, w1, w2⟩
    injection h with h
    subst h
    refine ⟨.ready, w2, ?_⟩
    have b2 := hb.set (x := none) w2 (by omega) ne0
    have v0 : (H2.set (H1.length + 1) none)[0]? = some (setO T) := by rw [List.getElem?_set_ne (by omega)]; exact w0
    have v1 : (H2.set (H1.length + 1) none)[H1.length]? = some defsO := by rw [List.getElem?_set_ne (by omega)]; exact w1
    clear hb w0 w1 w2 b1 g1 l1
    obtain ⟨G, hG⟩ : ∃ G, G = H2.set (H1.length + 1) none := ⟨_, rfl⟩
    rw [← hG] at b2 v0 v1 ⊢
    clear hG
    obtain ⟨P2, hP2⟩ : ∃ P2, P2 = P1 ++ rtx T 1 := ⟨_, rfl⟩
    rw [← List.append_assoc, ← hP2] at r1
    rw [← hP2] at b2
    clear hP2
    have hl2 : P2.length ≤ 300 := by
      have := congrArg (fun x => x.1.length) r1
      simp only [List.length_append] at this
      omega
    refine ARun.inBlock (ARun.seq (ARun.seq (ARun.region ?_)))
    refine y_op rfl (Zab rfl rfl rfl v0 rfl rfl) ?_
    refine zzc rfl rfl (ZaL T 94 (by decide)) ?_
    refine AOps.nil ?_
    refine ARun.joinH (S := List Nat × Heap) (fun σ : List Nat × Heap => [(70, .any)]) (fun σ : List Nat × Heap => σ.2) (fun σ : List Nat × Heap => BldS σ.2 1 σ.1 ∧ σ.2[0]? = some (setO T) ∧ σ.2[H1.length]? = some defsO ∧ R = (σ.1 ++ pre1 (T 45) 45, 0)) (fun run => ?_) ?_
    · skip
      refine ARun.cond rfl (fun y => ?_) (fun y => ?_)
      · skip
        rw [y] at r1
        refine ARun.region ?_
        refine Zah rfl rfl rfl rfl (Za7 G 1 P2 b2 94 (by omega)) ?_ (by rintro _ _ ⟨h, _⟩; cases h)
        rintro q1 H3 ⟨e1, b3, k3⟩
        injection e1 with e1
        subst e1
        refine AOps.nil ?_
        exact ARun.ag (run ((P2 ++ [94], H3)) (⟨b3, k3.2 0 _ v0 (by decide) ne28, k3.2 _ _ v1 (by omega) ne0, (by rw [List.append_assoc]; exact r1)⟩))
      rw [y] at r1
      refine ARun.skip ?_
      exact ARun.ag (run ((P2, G)) (⟨b2, v0, v1, r1⟩))
    rintro ⟨P3, H3⟩ hj
    try dsimp only at hj ⊢
    clear b2 v0 v1 r1 hl2
    obtain ⟨b3, v0, v1, r1⟩ := hj
    have hl3 : P3.length ≤ 300 := by
      have := congrArg (fun x => x.1.length) r1
      simp only [List.length_append] at this
      omega
    refine ARun.seq (ARun.seq (ARun.region ?_))
    refine y_op rfl (Za8 rfl rfl rfl rfl (by omega) (by omega) rfl) ?_
    refine y_op rfl (Zaa rfl rfl rfl v0 rfl) ?_
    refine y_op rfl (ZbA rfl rfl rfl rfl (by omega) (by omega) rfl) ?_
    refine zzl ?_
    refine y_op rfl (OpQ.cast (d' := .int .u64 ((sw T 0 &&& sw sDash 0 : Nat) : Int)) (q_int rfl rfl rfl) (congrArg (D.int .u64) (land_u64 (sw_lt _ _) (sw_lt _ _)))) ?_
    refine y_op rfl (OpQ.cast (d' := .bool (T 45)) (q_int rfl rfl rfl) (congrArg D.bool (word_dash T))) ?_
    refine AOps.nil ?_
    refine ARun.joinH (S := List Nat × Heap) (fun σ : List Nat × Heap => [(77, .any)]) (fun σ : List Nat × Heap => σ.2) (fun σ : List Nat × Heap => BldS σ.2 1 σ.1 ∧ σ.2[H1.length]? = some defsO ∧ R = (σ.1, 0)) (fun run => ?_) ?_
    · skip
      refine ARun.cond rfl (fun y => ?_) (fun y => ?_)
      · skip
        rw [y] at r1
        refine ARun.region ?_
        refine Zah rfl rfl rfl rfl (Za7 H3 1 P3 b3 45 (by omega)) ?_ (by rintro _ _ ⟨h, _⟩; cases h)
        rintro q1 H4 ⟨e1, b4, k4⟩
        injection e1 with e1
        subst e1
        refine AOps.nil ?_
        exact ARun.ag (run ((P3 ++ [45], H4)) (⟨b4, k4.2 _ _ v1 (by omega) ne0, r1⟩))
      rw [y] at r1
      refine ARun.skip ?_
      exact ARun.ag (run ((P3, H3)) (⟨b3, v1, (by rw [r1]; show (P3 ++ [], _) = _; rw [List.append_nil])⟩))
    rintro ⟨P4, H4⟩ hj
    try dsimp only at hj ⊢
    clear b3 v0 v1 r1 hl3
    obtain ⟨b4, v1, r1⟩ := hj
    subst r1
    refine ARun.seq (ARun.region ?_)
    refine Zah rfl rfl rfl rfl (ZgK H4 1 P4 b4 hRlt (by show P4.length ≤ _; have : P4.length ≤ 300 := hRlen; omega)) ?_ (by rintro _ _ ⟨h, _⟩; cases h)
    rintro q1 H5 ⟨e1, k5⟩
    injection e1 with e1
    subst e1
    have v5 := k5.2 _ _ v1 (by omega) ne0
    refine zza ?_; refine zza ?_; refine AOps.nil ?_
    refine ARun.ret ?_
    exact ⟨⟨_, v5, rfl, rfl⟩, _, _, _, .tmp rfl (.tmp rfl .nil), .cons (.same _) (.cons (.same _) .nil), rfl, rfl⟩
  rintro q2 H2 ⟨h, _⟩
  cases h
end Go.V
set_option maxHeartbeats 8000000
set_option maxRecDepth 100000
set_option synthInstance.maxSize 100000
set_option synthInstance.maxHeartbeats 2000000
namespace Go.V
open Go.RowKit Go.Proofs
/-! GAPS in the numbers of arguments: a map of those that are used. -/
def mapE (ks : List Nat) : List (D × D) := ks.map fun k : Nat => (D.int .i64 (k : Int), D.bool true)
theorem findI_mapE (k : Nat) : ∀ ks : List Nat, findI .i64 (k : Int) (mapE ks) = some (if k ∈ ks then some (.bool true) else none)
  | [] => rfl
  | a :: ks => by
    have ih := findI_mapE k ks
    unfold mapE at ih ⊢
    simp only [List.map_cons, findI, decide_true, cond_true]
    by_cases h : k = a
    · subst h; simp
    rw [show ((k : Int) == (a : Int)) = false by simp; omega, cond_false, ih]
    simp [h]
theorem mapE_len (ks : List Nat) : (mapE ks).length = ks.length := by unfold mapE; rw [List.length_map]
theorem mapE_snoc (ks : List Nat) (k : Nat) : mapE ks ++ [(D.int .i64 (k : Int), D.bool true)] = mapE (ks ++ [k]) := by unfold mapE; rw [List.map_append]; rfl
theorem nodup_len {α : Type} [DecidableEq α] : ∀ (l m : List α), l.Nodup → (∀ x ∈ l, x ∈ m) → l.length ≤ m.length
  | [], m, _, _ => Nat.zero_le _
  | a :: l, m, hn, hs => by
    rw [List.nodup_cons] at hn
    have ha := hs a (by simp)
    have := nodup_len l (m.erase a) hn.2 (fun x hx => (List.mem_erase_of_ne (fun e => hn.1 (by rw [← e]; exact hx))).2 (hs x (List.mem_cons_of_mem _ hx)))
    rw [List.length_erase_of_mem ha] at this
    have := List.length_pos_of_mem ha
    rw [List.length_cons]; omega
theorem sall_iff {l : List Pc} {m : Nat} : ∀ k, sall l m k = true ↔ ∀ j, k ≤ j → j ≤ m → sused l (j : Int) = true := by
  intro k
  rw [sall]
  split
  · rename_i h
    rw [Bool.and_eq_true, sall_iff (k + 1)]
    constructor
    · rintro ⟨a, b⟩ j h1 h2
      rcases Nat.eq_or_lt_of_le h1 with rfl | h3
      · exact a
      exact b j h3 h2
    exact fun h4 => ⟨h4 k (Nat.le_refl _) h, fun j h1 h2 => h4 j (by omega) h2⟩
  exact ⟨fun _ j h1 h2 => by omega, fun _ => rfl⟩
termination_by k => m + 1 - k
theorem gaps_len {l : List Pc} {m : Nat} {ks : List Nat} (hn : ks.Nodup) (hk : ∀ k, k ∈ ks ↔ 1 ≤ k ∧ sused l (k : Int) = true) (hm : ∀ k ∈ ks, k ≤ m) : decide (ks.length < m) = !sall l m 1 := by
  cases h : sall l m 1
  · apply decide_eq_true
    apply Classical.byContradiction
    intro hlen
    have : sall l m 1 = true := (sall_iff 1).2 fun j h1 h2 => Classical.byContradiction fun hu => by
      have hj : j ∉ ks := fun h => hu ((hk j).1 h).2
      have := nodup_len (j :: ks) (List.range' 1 m) (List.nodup_cons.2 ⟨hj, hn⟩) (fun x hx => by
        rw [List.mem_range'_1]
        rcases List.mem_cons.1 hx with rfl | hx
        · omega
        have := hm x hx
        have := ((hk x).1 hx).1
        omega)
      rw [List.length_cons, List.length_range'] at this
      omega
    rw [h] at this; cases this
  apply decide_eq_false
  intro hlen
  have := nodup_len (List.range' 1 m) ks List.nodup_range' (fun x hx => by
    rw [List.mem_range'_1] at hx
    exact (hk x).2 ⟨hx.1, (sall_iff 1).1 h x hx.1 (by omega)⟩)
  rw [List.length_range'] at this
  omega
theorem sused_take {l : List Pc} {i : Nat} (g : i < l.length) (k : Int) : sused (l.take (i + 1)) k = (sused (l.take i) k || decide ((l.getD i pcZ).arg = k)) := by
  unfold sused
  rw [List.take_add_one, List.getElem?_eq_getElem g, List.any_append, List.getD_eq_getElem?_getD, List.getElem?_eq_getElem g]
  simp
theorem Zfe (l : List Pc) (hl : l.length ≤ 1099511627776) (ha : ∀ p ∈ l, p.arg ≤ 64) : PC C ZeS [slP l] (fun o => o = .ret (.tup [.bool (!(sgr l).2), .int .i64 (sgr l).1])) := by
  obtain ⟨M, hM⟩ : ∃ M, M = smost l 0 := ⟨_, rfl⟩
  obtain ⟨R, hR⟩ : ∃ R, R = sall l M.toNat 1 := ⟨_, rfl⟩
  unfold sgr
  rw [← hM, ← hR]
  refine PC.rn Zcw Zev Zew (rs := [.tmp 2, .tmp 3]) (by rw [Zex]) ?_
  refine ARun.seq (ARun.region ?_); refine zza ?_; refine zza ?_; refine AOps.nil (ARun.seq (ARun.region ?_)); refine zza ?_; refine AOps.nil (ARun.seq (ARun.region ?_))
  refine y_new rfl (ZhU (kt := t_int) (et := t_bool) (by kernel_rfl) (.inl rfl)) ?_
  refine zza ?_; refine AOps.nil (ARun.seq (ARun.seq (ARun.region ?_))); refine zzm ?_; refine zzN ?_; refine zzm ?_; refine AOps.nil (ARun.block ?_)
  refine ARun.loopI (S := Nat × Nat × List Nat) (fun σ : Nat × Nat × List Nat => [(7, .any), (12, .any), (13, .any), (14, .any), (15, .any), (16, .any), (17, .any), (18, .any), (19, .any), (20, .any), (21, .any), (22, .any), (23, .any), (24, .any), (25, .any), (11, .int .i64 (σ.1 : Int)), (4, .int .i64 (σ.2.1 : Int))]) (fun σ : Nat × Nat × List Nat => [mapO (mapE σ.2.2)]) (fun σ : Nat × Nat × List Nat => σ.1 ≤ l.length ∧ σ.2.1 ≤ 64 ∧ M = smost (l.drop σ.1) (σ.2.1 : Int) ∧ σ.2.2.Nodup ∧ (∀ k, k ∈ σ.2.2 ↔ 1 ≤ k ∧ sused (l.take σ.1) (k : Int) = true) ∧ ∀ k ∈ σ.2.2, k ≤ σ.2.1) (fun σ : Nat × Nat × List Nat => l.length - σ.1) ((0, 0, [])) ?_ ?_ ?_ ?_
  · exact ⟨Nat.zero_le _, Nat.zero_le _, hM, List.nodup_nil, fun k => ⟨fun h => by (cases h), fun h => by (cases h.2)⟩, fun k h => by cases h⟩
  · (repeat' first | exact envLe_nil | apply envLe_any | apply envLe_same)
  · rfl
  rintro ⟨i, m, ks⟩ hinv ih
  dsimp only at hinv ih ⊢
  obtain ⟨i1, i2, i3, i4, i5, i6⟩ := hinv
  refine ARun.seq (ARun.region ?_); refine zzi ?_; refine AOps.nil (ARun.seq ?_)
  refine ARun.ite rfl (fun g => ?_) (fun g => ?_)
  · skip
    have g : i < l.length := by omega
    rw [drop_getD l i pcZ g, smost] at i3
    have hd := pcs_drop l i g
    have hne := pcs_ne g
    have hp : (l.getD i pcZ).arg ≤ 64 := by rw [List.getD_eq_getElem?_getD, List.getElem?_eq_getElem g]; exact ha _ (List.getElem_mem g)
    have hst := sused_take g
    generalize l.getD i pcZ = p at *
    refine ARun.skip (ARun.seq (ARun.block (ARun.seq (ARun.region ?_))))
    refine y_op rfl (Zaf rfl rfl rfl rfl (by omega) (by omega) hne hd) ?_
    refine zzL ?_
    refine Zbb rfl rfl rfl rfl rfl rfl rfl rfl rfl rfl rfl ?_
    refine AOps.nil (ARun.seq (ARun.region ?_)); refine zzf ?_; refine zzl ?_; refine zzi ?_; refine AOps.nil ?_
    refine ARun.ite rfl (fun a => ?_) (fun a => ?_)
    · skip
      obtain ⟨k, hk⟩ : ∃ k : Nat, p.arg = (k : Int) := ⟨p.arg.toNat, by omega⟩
      have hk1 : 1 ≤ k := by omega
      have hf := findI_mapE k ks
      by_cases hmem : k ∈ ks
      · rw [if_pos hmem] at hf
        refine ARun.seq (ARun.region ?_); refine zzm ?_; refine zzf ?_; refine zzl ?_
        refine y_new rfl (Zhz (n := (k : Int)) (kt := t_int) (et := t_bool) (.inr rfl) (by kernel_rfl) (by kernel_rfl) rfl (by rw [← hk]; rfl) rfl rfl hf) ?_
        refine AOps.nil (ARun.region ?_); refine zzm ?_; refine zzf ?_; refine zzl ?_
        refine y_op rfl (q_maxR rfl rfl (show max (m : Int) p.arg = ((max m k : Nat) : Int) by omega)) ?_
        refine zza ?_; refine AOps.nil (ARun.inBlock (ARun.region ?_))
        refine y_op rfl (q_add rfl rfl (nadd1_i64 (by omega))) ?_
        refine zzm ?_; refine AOps.nil ?_
        refine ARun.again (ih ((i + 1, max m k, ks)) ?_ ?_) ?_ ?_
        · exact ⟨g, by dsimp only; omega, by dsimp only; rw [i3]; congr 1; omega, i4, fun j => by (dsimp only; rw [hst, Bool.or_eq_true, decide_eq_true_eq, i5 j]; exact ⟨fun h => ⟨h.1, .inl h.2⟩, fun h => ⟨h.1, h.2.elim id (fun e => by (obtain rfl : k = j := by omega); exact ((i5 k).1 hmem).2)⟩⟩), fun j hj => by (dsimp only; have := i6 j hj; omega)⟩
        · (dsimp only; omega)
        · (repeat' first | exact envLe_nil | apply envLe_any | apply envLe_same)
        rfl
      rw [if_neg hmem] at hf
      refine ARun.seq (ARun.region ?_); refine zzm ?_; refine zzf ?_; refine zzl ?_
      refine y_new rfl (ZgQ (n := (k : Int)) (kt := t_int) (et := t_bool) (.inr rfl) (by kernel_rfl) (by kernel_rfl) rfl (by rw [← hk]; rfl) rfl rfl hf) ?_
      refine AOps.nil (ARun.region ?_); refine zzm ?_; refine zzf ?_; refine zzl ?_
      refine y_op rfl (q_maxR rfl rfl (show max (m : Int) p.arg = ((max m k : Nat) : Int) by omega)) ?_
      refine zza ?_; refine AOps.nil (ARun.inBlock (ARun.region ?_))
      refine y_op rfl (q_add rfl rfl (nadd1_i64 (by omega))) ?_
      refine zzm ?_; refine AOps.nil ?_
      rw [mapE_snoc]
      refine ARun.again (ih ((i + 1, max m k, ks ++ [k])) ?_ ?_) ?_ ?_
      · exact ⟨g, by dsimp only; omega, by dsimp only; rw [i3]; congr 1; omega, by (dsimp only; rw [List.nodup_append]; exact ⟨i4, by simp, fun x hx y hy e => by (rw [List.mem_singleton] at hy; subst hy; subst e; exact hmem hx)⟩), fun j => by (dsimp only; rw [hst, Bool.or_eq_true, decide_eq_true_eq, List.mem_append, List.mem_singleton, i5 j]; exact ⟨fun h => h.elim (fun h => ⟨h.1, .inl h.2⟩) (fun e => by (subst e; exact ⟨hk1, .inr hk⟩)), fun h => h.2.elim (fun h2 => .inl ⟨h.1, h2⟩) (fun e => .inr (by omega))⟩), fun j hj => by (dsimp only at hj ⊢; rw [List.mem_append, List.mem_singleton] at hj; rcases hj with hj | hj; (have := i6 j hj; omega); omega)⟩
      · (dsimp only; omega)
      · (repeat' first | exact envLe_nil | apply envLe_any | apply envLe_same)
      rfl
    refine ARun.skip (ARun.inBlock (ARun.region ?_))
    refine y_op rfl (q_add rfl rfl (nadd1_i64 (by omega))) ?_
    refine zzm ?_; refine AOps.nil ?_
    refine ARun.again (ih ((i + 1, m, ks)) ?_ ?_) ?_ ?_
    · exact ⟨g, i2, by dsimp only; rw [i3]; congr 1; omega, i4, fun j => by (dsimp only; rw [hst, Bool.or_eq_true, decide_eq_true_eq, i5 j]; exact ⟨fun h => ⟨h.1, .inl h.2⟩, fun h => ⟨h.1, h.2.elim id (fun e => by (exfalso; omega))⟩⟩), i6⟩
    · (dsimp only; omega)
    · (repeat' first | exact envLe_nil | apply envLe_any | apply envLe_same)
    rfl
  obtain rfl : i = l.length := by omega
  rw [List.take_length] at i5
  rw [List.drop_eq_nil_of_le (Nat.le_refl _)] at i3
  have i3 : M = (m : Int) := i3
  subst i3
  rw [Int.toNat_natCast] at hR
  have hg := gaps_len i4 i5 i6
  rw [← hR] at hg
  refine ARun.exit rfl ?_
  refine ARun.seq (ARun.region ?_); refine zzm ?_
  refine y_op rfl (OpQ.cast (d' := .int .i64 (ks.length : Int)) (Zir (kt := t_int) (et := t_bool) (by kernel_rfl) rfl rfl) (by rw [mapE_len])) ?_
  refine zzm ?_
  refine y_op rfl (OpQ.cast (d' := .bool (!R)) (q_int rfl rfl rfl) (congrArg D.bool (by rw [← hg]; exact decide_eq_decide.2 (by omega)))) ?_
  refine zzm ?_; refine zza ?_; refine zza ?_; refine AOps.nil ?_
  refine ARun.ret ?_
  refine ⟨_, _, _, .tmp rfl (.tmp rfl .nil), .cons (.same _) (.cons (.same _) .nil), rfl, ?_⟩
  rfl
end Go.V
set_option maxHeartbeats 8000000
set_option maxRecDepth 100000
set_option synthInstance.maxSize 100000
set_option synthInstance.maxHeartbeats 2000000
namespace Go.V
open Go.RowKit Go.Proofs
section
variable {env : List D} {H : Heap} {dst : Option Tmp} {x y : Operand} {ty T' : TypeId} {pos : String} {aft : Array Edge} {gd : Option (Nat × Bool)} {S T : Nat → Bool} {p q : Pc}
theorem Ziw (hx : evO Cg env x = some (setD S)) (hy : evO Cg env y = some (setD T)) :
    OpQ Cg ⟨dst, .binOp .eql Zac x y T', ty, pos, aft, gd⟩ env H (.bool (sEq S T)) :=
  ZgR (m := 2) (f := 2) (by kernel_rfl) (by decide) (by kernel_rfl) hx hy rfl rfl rfl rfl (set_lits (sw_lt S 0) (sw_lt S 1) (sw_lt S 2) (sw_lt S 3)) (set_lits (sw_lt T 0) (sw_lt T 1) (sw_lt T 2) (sw_lt T 3)) (by
    unfold sEq
    rw [decide_eq_true_eq]
    simp only [List.cons.injEq, Lit.int.injEq, true_and, and_true, Int.ofNat_inj])
theorem ZiT (hx : evO Cg env x = some (setD S)) (hy : evO Cg env y = some (.agg [.int .u64 0, .int .u64 0, .int .u64 0, .int .u64 0])) :
    OpQ Cg ⟨dst, .binOp .eql Zac x y T', ty, pos, aft, gd⟩ env H (.bool (sEq S sempty)) := Ziw hx (by rw [hy, ← swL_empty])
theorem Zh9 (hx : evO Cg env x = some (pcA p)) (hy : evO Cg env y = some (pcA q)) (hp : PcF p) (hq : PcF q) :
    OpQ Cg ⟨dst, .binOp .eql Zae x y T', ty, pos, aft, gd⟩ env H (.bool (pEq p q)) :=
  ZgR (m := 3) (f := 3) (by kernel_rfl) (by decide) (by kernel_rfl) hx hy rfl rfl rfl rfl (Zh6 hp) (Zh6 hq) pEq_lits
abbrev bareP (s : ByteArray) (a w n : Int) (c : Nat) : Pc := ⟨s, a, w, n, c, sempty⟩
theorem bare_cells (s : ByteArray) (a w n : Int) (c : Nat) : pcA (bareP s a w n c) = .agg [.str s, .int .i64 a, .int .i64 w, .int .i64 n, .int .u8 (c : Int), .int .u64 0, .int .u64 0, .int .u64 0, .int .u64 0] := by
  have e : ∀ i, sw sempty i = 0 := fun i => (sw_ext (x := 0) (by decide) fun j _ => by rw [Nat.zero_testBit]; rfl).symm
  unfold pcA Pc.cells
  simp only [e]; rfl
theorem bare_fits {s : ByteArray} {c : Nat} (hs : s.size ≤ 1099511627776) (hc : c < 256) : PcF (bareP s 0 0 0 c) :=
  have h0 : (Lit.int .i64 0).wf = true := by decide
  ⟨⟨hs, hc⟩, h0, h0, h0⟩
theorem q_pcZ {s : ByteArray} {c : Nat} (hx : evO Cg env x = some (pcA p)) (hy : evO Cg env y = some (.agg [.str s, .int .i64 0, .int .i64 0, .int .i64 0, .int .u8 (c : Int), .int .u64 0, .int .u64 0, .int .u64 0, .int .u64 0])) (hp : PcF p) (hs : s.size ≤ 1099511627776) (hc : c < 256) :
    OpQ Cg ⟨dst, .binOp .eql Zae x y T', ty, pos, aft, gd⟩ env H (.bool (pEq p (bareP s 0 0 0 c))) := Zh9 hx (by rw [hy, bare_cells]) hp (bare_fits hs hc)
end
theorem sby_inj {s t : ByteArray} (h : sby s = sby t) : s.data.toList = t.data.toList := by
  have := (str_eq s t).trans (decide_eq_true h)
  rw [ByteArray.toList_eq, ByteArray.toList_eq, beq_iff_eq] at this
  exact this
theorem pEq_bare {p : Pc} {s : ByteArray} {c : Nat} (hc : p.conv = c) : pEq p (bareP s 0 0 0 c) = ((((decide (p.arg = 0) && decide (p.wid = 0)) && decide (p.len = 0)) && sEq p.set sempty) && decide (sby p.lit = sby s)) := by
  unfold pEq sEq
  rw [← Bool.decide_and, ← Bool.decide_and, ← Bool.decide_and, ← Bool.decide_and]
  apply decide_eq_decide.2
  constructor
  · rintro ⟨a, b, c, d, e, f, g, h, i⟩
    exact ⟨⟨⟨⟨b, c⟩, d⟩, f, g, h, i⟩, by unfold sby; rw [a]⟩
  rintro ⟨⟨⟨⟨b, c⟩, d⟩, f, g, h, i⟩, a⟩
  exact ⟨sby_inj a, b, c, d, hc, f, g, h, i⟩
theorem svalid_lit {p : Pc} (hc : p.conv = 0) : svalid p = (slit p.lit && pEq p (bareP p.lit 0 0 0 0)) := by
  have e : spl p = true := by unfold spl; rw [hc]; decide
  unfold svalid
  rw [e, cond_true, pEq_bare hc, decide_eq_true hc, decide_eq_true (rfl : sby p.lit = sby p.lit), Bool.and_true, Bool.true_and, Bool.not_true, Bool.false_and, Bool.or_false, Bool.and_comm]
theorem svalid_sp {p : Pc} (hc : p.conv = 32 ∨ p.conv = 37) : svalid p = pEq p (bareP ByteArray.empty 0 0 0 p.conv) := by
  have e : spl p = true := by
    unfold spl
    rcases hc with h | h <;> rw [h] <;> decide
  have h0 : ¬ p.conv = 0 := by omega
  unfold svalid
  rw [e, cond_true, pEq_bare rfl, decide_eq_false h0, Bool.false_and, Bool.false_or, Bool.not_false, Bool.true_and]; rfl
theorem sclass_le (c : Nat) : sclass c ≤ 5 := by
  unfold sclass rowsN
  simp only [classF]
  split <;> (try split) <;> (try split) <;> (try split) <;> (try split) <;> omega
theorem sclass_n {c : Nat} (h : c < 256) : decide (sclass c = 5) = decide (c = 110) := by
  have : ∀ c, c < 256 → decide (sclass c = 5) = decide (c = 110) := by decide
  exact this c h
theorem ZhO (p : Pc) (hp : PcF p) : PC Cg ZeB [pcA p] (fun o => o = .ret (.bool (svalid p))) := by
  obtain ⟨R, hR⟩ : ∃ R, R = svalid p := ⟨_, rfl⟩
  rw [← hR]
  have hl := hp.1.1
  have hc := hp.1.2
  refine PC.rn Zb7 Zd3 Zd4 (rs := [.tmp 2]) (by rw [Zd5]) ?_
  refine ARun.seq (ARun.region ?_); refine zzb ?_; refine zza ?_; refine AOps.nil (ARun.seq (ARun.region ?_))
  refine y_op rfl (ZaW rfl rfl rfl) ?_
  refine Zbb rfl rfl rfl rfl rfl rfl rfl rfl rfl rfl rfl ?_
  refine AOps.nil (ARun.seq (ARun.seq (ARun.region ?_))); refine zzf ?_; refine zzl ?_; refine AOps.nil (ARun.block (ARun.seq (ARun.region ?_)))
  refine y_op rfl (OpQ.cast (q_int rfl rfl rfl) (congrArg D.bool (int_dec (m := 0) rfl))) ?_
  refine zza ?_; refine AOps.nil ?_
  refine ARun.ite rfl (fun a => ?_) (fun a => ?_)
  · skip
    have a : p.conv = 0 := by omega
    rw [svalid_lit a] at hR
    refine ARun.seq (ARun.region ?_); refine zzf ?_; refine zzl ?_
    refine zzc rfl rfl (PC.g (Zhk p.lit hl)) ?_
    refine zzm ?_
    apply AOps.andJ 13 (fun sj1 => [(13, .any), (14, .any), (15, .any), (16, .any), (17, .any), (18, .any), (19, .bool sj1)]) rfl
    · intro hj1 run1
      try replace hj1 := of_decide_eq_true hj1
      refine zzL ?_; refine zzf ?_; refine zzl ?_
      refine y_op rfl (Za9 rfl rfl rfl rfl rfl) ?_
      refine y_op rfl (q_pcZ (s := p.lit) (c := 0) rfl rfl hp hl (by decide)) ?_
      refine zzp ?_
      exact AOps.ag run1
    · intro hj1 run1
      try replace hj1 := of_decide_eq_false hj1
      refine zzk ?_; refine zzk ?_; refine zzk ?_; refine zzk ?_; refine zzk ?_; refine zzp ?_
      exact AOps.ag run1
    refine zza ?_; refine AOps.nil ?_
    subst hR
    refine ARun.ret ?_
    refine ⟨_, _, _, .tmp rfl .nil, .cons (.same _) .nil, rfl, ?_⟩
    rfl
  have a : ¬ p.conv = 0 := by omega
  refine ARun.seq (ARun.seq (ARun.region ?_))
  refine y_op rfl (OpQ.cast (q_int rfl rfl rfl) (congrArg D.bool (int_dec (m := 32) rfl))) ?_
  refine zza ?_; refine AOps.nil ?_
  refine ARun.ite rfl (fun b => ?_) (fun b => ?_)
  · skip
    have b : p.conv = 32 := by omega
    rw [svalid_sp (.inl b)] at hR
    subst hR
    refine ARun.skip ?_
    refine ARun.ite rfl (fun b2 => ?_) (fun b2 => ?_)
    · skip
      refine ARun.seq (ARun.region ?_); refine zzL ?_; refine zzf ?_; refine zzl ?_
      refine y_op rfl (Za9 rfl rfl rfl rfl rfl) ?_
      refine y_op rfl (q_pcZ (s := ByteArray.empty) (c := p.conv) rfl rfl hp (by decide) hc) ?_
      refine zza ?_; refine AOps.nil ?_
      refine ARun.ret ?_
      refine ⟨_, _, _, .tmp rfl .nil, .cons (.same _) .nil, rfl, ?_⟩
      rfl
    exact absurd b b2
  have b : ¬ p.conv = 32 := by omega
  refine ARun.region ?_
  refine y_op rfl (OpQ.cast (q_int rfl rfl rfl) (congrArg D.bool (int_dec (m := 37) rfl))) ?_
  refine zza ?_; refine AOps.nil ?_
  refine ARun.ite rfl (fun d => ?_) (fun d => ?_)
  · skip
    have d : p.conv = 37 := by omega
    rw [svalid_sp (.inr d)] at hR
    subst hR
    refine ARun.seq (ARun.region ?_); refine zzL ?_; refine zzf ?_; refine zzl ?_
    refine y_op rfl (Za9 rfl rfl rfl rfl rfl) ?_
    refine y_op rfl (q_pcZ (s := ByteArray.empty) (c := p.conv) rfl rfl hp (by decide) hc) ?_
    refine zza ?_; refine AOps.nil ?_
    refine ARun.ret ?_
    refine ⟨_, _, _, .tmp rfl .nil, .cons (.same _) .nil, rfl, ?_⟩
    rfl
  have d : ¬ p.conv = 37 := by omega
  have hspl : spl p = false := by unfold spl; rw [decide_eq_false a, decide_eq_false b, decide_eq_false d]; rfl
  unfold svalid at hR
  rw [hspl, cond_false] at hR
  refine ARun.skip (ARun.inBlock (ARun.seq (ARun.region ?_))); refine zzl ?_; refine zzf ?_; refine zzl ?_
  refine y_op rfl (OpQ.cast (d' := .int .i64 ((sclass p.conv : Nat) : Int)) (Zgi (kt := ZaO) (et := t_int) (by kernel_rfl) (by kernel_rfl) rfl rfl rfl rfl rfl (row_of hc)) (by split <;> (rename_i hz; simp [hz]))) ?_
  refine zza ?_; refine AOps.nil (ARun.seq (ARun.block (ARun.seq (ARun.region ?_)))); refine zzm ?_
  refine y_op rfl (OpQ.cast (d' := .bool (decide (sclass p.conv = 0))) (q_int rfl rfl rfl) (congrArg D.bool (decide_eq_decide.2 (by omega)))) ?_
  refine zzm ?_
  apply AOps.orJ 35 (fun sj2 => [(35, .any), (36, .any), (37, .any), (38, .any), (39, .any), (40, .any), (41, .bool sj2)]) rfl
  · intro hj2 run2
    try replace hj2 := of_decide_eq_true hj2
    refine zzk ?_; refine zzk ?_; refine zzk ?_; refine zzk ?_; refine zzk ?_; refine zzp ?_
    exact AOps.ag run2
  · intro hj2 run2
    try replace hj2 := of_decide_eq_false hj2
    refine zzm ?_; refine zzf ?_; refine zzl ?_
    refine zzc rfl rfl (PC.g (Zhq ((sclass p.conv : Nat) : Int) p.len ⟨by omega, by have := sclass_le p.conv; omega⟩)) ?_
    refine zzn ?_; refine zzp ?_
    exact AOps.ag run2
  refine zzm ?_
  apply AOps.orJ 42 (fun sj3 => [(42, .any), (43, .any), (44, .any), (45, .any), (46, .bool sj3)]) rfl
  · intro hj3 run3
    try replace hj3 := of_decide_eq_true hj3
    refine zzk ?_; refine zzk ?_; refine zzk ?_; refine zzp ?_
    exact AOps.ag run3
  · intro hj3 run3
    try replace hj3 := of_decide_eq_false hj3
    refine zzf ?_; refine zzl ?_
    refine y_op rfl (OpQ.cast (ZfT rfl rfl) (congrArg D.bool (show _ = !decide (sby p.lit = []) by rw [str_eq]; rfl))) ?_
    refine zzp ?_
    exact AOps.ag run3
  refine zzm ?_
  apply AOps.orJ 47 (fun sj4 => [(47, .any), (48, .any), (49, .any), (50, .any), (51, .bool sj4)]) rfl
  · intro hj4 run4
    try replace hj4 := of_decide_eq_true hj4
    refine zzk ?_; refine zzk ?_; refine zzk ?_; refine zzp ?_
    exact AOps.ag run4
  · intro hj4 run4
    try replace hj4 := of_decide_eq_false hj4
    refine zzf ?_; refine zzl ?_; refine zzi ?_; refine zzp ?_
    exact AOps.ag run4
  refine zzm ?_
  apply AOps.orJ 52 (fun sj5 => [(52, .any), (53, .any), (54, .any), (55, .any), (56, .bool sj5)]) rfl
  · intro hj5 run5
    try replace hj5 := of_decide_eq_true hj5
    refine zzk ?_; refine zzk ?_; refine zzk ?_; refine zzp ?_
    exact AOps.ag run5
  · intro hj5 run5
    try replace hj5 := of_decide_eq_false hj5
    refine zzf ?_; refine zzl ?_; refine zzi ?_; refine zzp ?_
    exact AOps.ag run5
  refine zzm ?_
  apply AOps.orJ 57 (fun sj6 => [(57, .any), (58, .any), (59, .any), (60, .any), (61, .bool sj6)]) rfl
  · intro hj6 run6
    try replace hj6 := of_decide_eq_true hj6
    refine zzk ?_; refine zzk ?_; refine zzk ?_; refine zzp ?_
    exact AOps.ag run6
  · intro hj6 run6
    try replace hj6 := of_decide_eq_false hj6
    refine zzf ?_; refine zzl ?_; refine zzi ?_; refine zzp ?_
    exact AOps.ag run6
  refine zzm ?_
  apply AOps.orJ 62 (fun sj7 => [(62, .any), (63, .any), (64, .any), (65, .any), (66, .bool sj7)]) rfl
  · intro hj7 run7
    try replace hj7 := of_decide_eq_true hj7
    refine zzk ?_; refine zzk ?_; refine zzk ?_; refine zzp ?_
    exact AOps.ag run7
  · intro hj7 run7
    try replace hj7 := of_decide_eq_false hj7
    refine zzf ?_; refine zzl ?_; refine zzi ?_; refine zzp ?_
    exact AOps.ag run7
  refine zza ?_; refine AOps.nil ?_
  refine ARun.cond rfl (fun u => ?_) (fun u => ?_)
  · skip
    have hu : ((((((decide (sclass p.conv = 0) || !decide (sby p.lit = [])) || decide (p.arg < 0)) || decide (p.arg > 64)) || decide (p.wid < 0)) || decide (p.wid > 10000)) || !slong ((sclass p.conv : Nat) : Int) p.len) = true := by
      rw [← u]; simp only [Bool.or_assoc, Bool.or_comm, Bool.or_left_comm]
    rw [hu, cond_true] at hR
    subst hR
    refine ARun.seq (ARun.region ?_); refine zza ?_; refine AOps.nil ?_
    refine ARun.ret ?_
    refine ⟨_, _, _, .tmp rfl .nil, .cons (.same _) .nil, rfl, ?_⟩
    rfl
  have hu : ((((((decide (sclass p.conv = 0) || !decide (sby p.lit = [])) || decide (p.arg < 0)) || decide (p.arg > 64)) || decide (p.wid < 0)) || decide (p.wid > 10000)) || !slong ((sclass p.conv : Nat) : Int) p.len) = false := by
    rw [← u]; simp only [Bool.or_assoc, Bool.or_comm, Bool.or_left_comm]
  rw [hu, cond_false] at hR
  clear u hu
  refine ARun.seq (ARun.region ?_); refine zzm ?_
  refine y_op rfl (OpQ.cast (d' := .bool (decide (p.conv = 110))) (q_int rfl rfl rfl) (congrArg D.bool (by rw [← sclass_n hc]; exact decide_eq_decide.2 (by omega)))) ?_
  refine zzm ?_
  apply AOps.andJ 70 (fun sj8 => [(70, .any), (71, .any), (72, .any), (73, .any), (74, .any), (75, .any), (76, .any), (77, .any), (78, .any), (79, .bool sj8)]) rfl
  · intro hj8 run8
    try replace hj8 := of_decide_eq_true hj8
    refine zzf ?_; refine zzl ?_
    refine y_op rfl (OpQ.cast (d' := .bool (decide (p.arg = 0))) (q_int rfl rfl rfl) rfl) ?_
    refine zzm ?_
    apply AOps.orJ 74 (fun sj9 => [(74, .any), (75, .any), (76, .any), (77, .any), (78, .bool sj9)]) rfl
    · intro hj9 run9
      try replace hj9 := of_decide_eq_true hj9
      refine zzk ?_; refine zzk ?_; refine zzk ?_; refine zzp ?_
      exact AOps.ag run9
    · intro hj9 run9
      try replace hj9 := of_decide_eq_false hj9
      refine zzf ?_; refine zzl ?_; refine zzi ?_; refine zzp ?_
      exact AOps.ag run9
    refine zzp ?_
    exact AOps.ag run8
  · intro hj8 run8
    try replace hj8 := of_decide_eq_false hj8
    refine zzk ?_; refine zzk ?_; refine zzk ?_; refine zzk ?_; refine zzk ?_; refine zzk ?_; refine zzk ?_; refine zzk ?_; refine zzp ?_
    exact AOps.ag run8
  refine zza ?_; refine AOps.nil ?_
  refine ARun.cond rfl (fun e => ?_) (fun e => ?_)
  · skip
    rw [e, cond_true] at hR
    subst hR
    refine ARun.seq (ARun.region ?_); refine zza ?_; refine AOps.nil ?_
    refine ARun.ret ?_
    refine ⟨_, _, _, .tmp rfl .nil, .cons (.same _) .nil, rfl, ?_⟩
    rfl
  rw [e, cond_false] at hR
  clear e
  refine ARun.seq (ARun.region ?_); refine zzf ?_; refine zzl ?_
  refine y_op rfl (OpQ.cast (q_int rfl rfl rfl) (congrArg D.bool (int_dec (m := 91) rfl))) ?_
  refine zza ?_; refine AOps.nil ?_
  refine ARun.ite rfl (fun f => ?_) (fun f => ?_)
  · skip
    rw [decide_eq_true f, cond_true] at hR
    subst hR
    refine ARun.seq (ARun.region ?_); refine zzf ?_; refine zzL ?_
    refine zzc rfl rfl (PC.g (ZaL p.set 0 (by decide))) ?_
    refine zzn ?_; refine zza ?_; refine AOps.nil ?_
    refine ARun.ret ?_
    refine ⟨_, _, _, .tmp rfl .nil, .cons (.same _) .nil, rfl, ?_⟩
    rfl
  rw [decide_eq_false f, cond_false] at hR
  subst hR
  refine ARun.skip (ARun.inBlock (ARun.seq (ARun.region ?_))); refine zzf ?_; refine zzL ?_; refine zzL ?_
  refine y_op rfl (ZiT rfl rfl) ?_
  refine zza ?_; refine AOps.nil ?_
  refine ARun.ret ?_
  refine ⟨_, _, _, .tmp rfl .nil, .cons (.same _) .nil, rfl, ?_⟩
  rfl
end Go.V
