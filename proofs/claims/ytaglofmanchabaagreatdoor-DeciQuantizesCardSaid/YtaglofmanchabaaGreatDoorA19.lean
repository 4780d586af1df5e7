/- Rules for steps and contracts of functions, each proved; no condition. -/
import Derived.Test.YtaglofmanchabaaGreatDoorA18
set_option linter.unusedVariables false
set_option linter.unusedSimpArgs false
set_option linter.unnecessarySimpa false
set_option maxHeartbeats 2000000
set_option synthInstance.maxHeartbeats 2000000
set_option synthInstance.maxSize 100000
namespace Go.V
open Go.RowKit Go.Proofs
theorem Zjb (a b : Dt) (dir : Int) (ha : U32 a.coef) (hb : U32 b.coef) : PC C 35 [dtD a, dtD b, .int .i64 dir] (fun o => o = .ret (ZfZ (ZR a [a, b] dir (Zcb a.fmt dir a b)).1 (ZR a [a, b] dir (Zcb a.fmt dir a b)).2)) := by
  have hu : ∀ d ∈ [a, b], U32 d.coef := fun d hd => by
    simp only [List.mem_cons, List.not_mem_nil, or_false] at hd
    rcases hd with rfl | rfl <;> assumption
  have hC := Zbs a [b] 2 dir rfl hu;have hN := Zc9 [a, b] 2 rfl;obtain ⟨R, hR⟩ : ∃ R, R = ZR a [a, b] dir (Zcb a.fmt dir a b) := ⟨_, rfl⟩;rw [← hR];refine Znr Tryz.func35 Tryz.ntmps35 Tryz.results35 ?_;refine go ?_;refine zzb ?_; refine zzb ?_;refine go ?_;refine Za rfl (Zd rfl rfl rfl rfl rfl rfl rfl rfl rfl rfl rfl (by decide) (by decide) rfl) ?_;refine go ?_;refine Zc rfl rfl (hC) ?_;refine go ?_;refine ARun.cond rfl (fun h0 => ?_) (fun h0 => ?_)
  · skip
    have h0 : ¬ chkL a [a, b] dir = 0 := by simpa using h0
    refine go ?_;refine ARun.ret ?_;refine ⟨_, _, _, Znt rfl rfl rfl rfl rfl rfl .nil, .cons (Zgi _) .nil, rfl, ?_⟩;rw [hR, Zf5 h0]; rfl
  have h0 : chkL a [a, b] dir = 0 := by simpa using h0
  obtain ⟨hdr, hall, hfm⟩ := Zbn h0;simp only [List.all_cons, List.all_nil, Bool.and_true, Bool.and_eq_true, decide_eq_true_eq] at hall hfm;obtain ⟨m, hm⟩ := ZbW ha hall.1;have hp := ZW a.fmt;have hea := ZdT hall.1;have heb := ZdT hall.2;refine go ?_;refine Zc rfl rfl (hN) ?_;refine ga ?_;refine ZI rfl rfl rfl rfl rfl rfl rfl rfl rfl rfl rfl ?_;refine go ?_;refine ARun.cond rfl (fun h1 => ?_) (fun h1 => ?_)
  · skip
    obtain ⟨r, hr⟩ := Option.isSome_iff_exists.1 h1;rw [hr];refine go ?_;refine Zc rfl rfl (Zv r) ?_;refine go ?_;refine Zns ?_;rw [hR, Zf6 h0 hr]; try rfl
  have h1 : nanO [a, b] = none := by simpa using h1
  rw [h1];refine zzs ?_; refine zzf ?_; refine zzl ?_; refine zzi ?_; refine Zr ?_;apply Znu 37 (fun sj1 => [(37, .any), (38, .any), (39, .any), (40, .any), (41, .bool sj1)]) rfl
  · intro hj1 run1
    try replace hj1 := Zh hj1
    refine zzf ?_; refine zzl ?_; refine zzi ?_; refine ZK ?_;exact AOps.ag run1
  · intro hj1 run1
    try replace hj1 := Zj hj1
    refine Zg ?_; refine Zg ?_; refine Zg ?_; refine ZK ?_;exact AOps.ag run1
  refine go ?_;refine ARun.cond rfl (fun h2 => ?_) (fun h2 => ?_)
  · skip
    have h2 : a.cls = 2 ∧ b.cls = 2 := by simpa using h2
    refine go ?_;refine Zc rfl rfl (Zv ⟨a, 0⟩) ?_;refine go ?_;refine Zns ?_;rw [hR, Zdk h0 h1 (by unfold Zcb; rw [h2.1, h2.2, if_neg (by simp), if_pos rfl])]; try rfl
  have h2 : ¬ (a.cls = 2 ∧ b.cls = 2) := by simpa using h2
  refine zzs ?_; refine zzf ?_; refine zzl ?_; refine zzi ?_; refine Zr ?_;apply ZnB 49 (fun sj2 => [(49, .any), (50, .any), (51, .any), (52, .any), (53, .bool sj2)]) rfl
  · intro hj2 run2
    try replace hj2 := Zh hj2
    refine Zg ?_; refine Zg ?_; refine Zg ?_; refine ZK ?_;exact AOps.ag run2
  · intro hj2 run2
    try replace hj2 := Zj hj2
    refine zzf ?_; refine zzl ?_; refine zzi ?_; refine ZK ?_;exact AOps.ag run2
  refine go ?_;refine ARun.cond rfl (fun h3 => ?_) (fun h3 => ?_)
  · skip
    have h3 : a.cls = 2 ∨ b.cls = 2 := by simpa using h3
    have hne : ¬ ((a.cls == 2) = (b.cls == 2)) := by
      intro h9
      have h9 : a.cls = 2 ↔ b.cls = 2 := by
        rw [Bool.eq_iff_iff, beq_iff_eq, beq_iff_eq] at h9; exact h9
      rcases h3 with h3 | h3
      · exact h2 ⟨h3, h9.1 h3⟩
      exact h2 ⟨h9.2 h3, h3⟩
    refine go ?_;refine Zc rfl rfl (ZaY a.fmt) ?_;refine Zc rfl rfl (Zv ⟨⟨a.fmt, 3, false, [], 0⟩, 1⟩) ?_;refine go ?_;refine Zns ?_;rw [hR, Zep h0 h1 (by unfold Zcb; rw [if_pos hne])]; try rfl
  have h3 : ¬ (a.cls = 2 ∨ b.cls = 2) := by simpa using h3
  have ha2 : ¬ a.cls = 2 := fun h => h3 (.inl h)
  have hb2 : ¬ b.cls = 2 := fun h => h3 (.inr h)
  have heq : ¬ ¬ ((a.cls == 2) = (b.cls == 2)) := by
    rw [beq_eq_false_iff_ne.2 ha2, beq_eq_false_iff_ne.2 hb2]; exact fun h => h rfl
  have hc1 := Zc4 hall.1 (Zgj h0 h1).2.2.2.1 ha2;have hmc := hm.co;have hlt := hm.lt
  have hZ : isZD a = decide (m = 0) := by unfold isZD; rw [hc1, hmc, lenz]; rfl
  have hL : decide (((a.coef.length : Nat) : Int) > 0) = decide (m ≠ 0) := by rw [hmc]; exact lenpos
  have hL0 : (((a.coef.length : Nat) : Int) == 0) = decide (m = 0) := by rw [hmc]; exact lenz
  refine gn ?_;refine Za rfl (Zb9 (b := decide (m ≠ 0)) rfl rfl rfl hL) ?_;refine Zr ?_;apply Znu 63 (fun sj3 => [(63, .any), (64, .any), (65, .any), (66, .any), (67, .any), (68, .any), (69, .any), (70, .bool sj3)]) rfl
  · intro hj3 run3
    try replace hj3 := Zh hj3
    refine gn ?_;refine Za rfl (Zk rfl rfl (IntWalk.i64_in _ (by omega))) ?_;refine zzi ?_; refine ZK ?_;exact AOps.ag run3
  · intro hj3 run3
    try replace hj3 := Zj hj3
    refine Zg ?_; refine Zg ?_; refine Zg ?_; refine Zg ?_; refine Zg ?_; refine Zg ?_; refine ZK ?_;exact AOps.ag run3
  refine go ?_;refine ARun.cond rfl (fun h4 => ?_) (fun h4 => ?_)
  · skip
    have h4 : m ≠ 0 ∧ 40 < a.exp - b.exp := by simpa using h4
    refine go ?_;refine Zc rfl rfl (ZaY a.fmt) ?_;refine Zc rfl rfl (Zv ⟨⟨a.fmt, 3, false, [], 0⟩, 1⟩) ?_;refine go ?_;refine Zns ?_;rw [hR, Zep h0 h1 (by unfold Zcb; rw [if_neg heq, if_neg ha2, hZ, if_neg (by simp [h4.1]), if_pos (by omega)])]; try rfl
  have h4 : ¬ (m ≠ 0 ∧ 40 < a.exp - b.exp) := by
    intro h9;rw [decide_eq_true h9.1, decide_eq_true (show a.exp - b.exp > 40 from h9.2)] at h4;cases h4
  refine gn ?_;refine Za rfl (Zb9 (b := decide (m = 0)) rfl rfl rfl hL0) ?_;refine go ?_;refine ARun.cond rfl (fun h5 => ?_) (fun h5 => ?_)
  · skip
    have h5 : m = 0 := Zh h5;refine go ?_;refine Zc rfl rfl (Zes a.fmt a.neg b.exp) ?_;refine zzB ?_;refine Zc rfl rfl (Zv ⟨⟨a.fmt, 1, a.neg, [], b.exp⟩, 0⟩) ?_;refine go ?_;refine Zns ?_;rw [hR, Zdk h0 h1 (by unfold Zcb; rw [if_neg heq, if_neg ha2, hZ, if_pos (decide_eq_true h5)])]; try rfl
  have h5 : m ≠ 0 := Zj h5
  have hm0 : 0 < m := by omega
  have hup : a.exp - b.exp ≤ 40 := by
    rcases Int.lt_or_le 40 (a.exp - b.exp) with h | h
    · exact absurd ⟨h5, h⟩ h4
    exact h
  have hq : Zcb a.fmt dir a b = (if ¬ a.exp - b.exp ≤ fP a.fmt then none
      else if 10 ^ fP a.fmt ≤ rnd dir a.neg ((nmOf m a.exp false).at b.exp) then none
      else some (.sp ⟨⟨a.fmt, 1, a.neg, lim (rnd dir a.neg ((nmOf m a.exp false).at b.exp)), b.exp⟩, if ((nmOf m a.exp false).at b.exp).2.1 then 16 else 0⟩)) := by
    unfold Zcb;rw [if_neg heq, if_neg ha2, hZ, if_neg (by simp [h5]), hmc, Zl, quan_at hm0 hlt]
  have hbig := quan_big (f := a.fmt) (dir := dir) (s := a.neg) (m := m) (ea := a.exp) (eb := b.exp) hm0;have hcf := nm_cf (C := m) (e := a.exp) (q := b.exp) (more := false) (fun h => by cases h)
  have hA1 : ((nmOf m a.exp false).at b.exp).1 < 10 ^ 80 := by
    rw [hcf];exact Nat.lt_of_le_of_lt (Nat.div_le_self _ _) (Zak hlt (by omega))
  have hrl := rnd_le dir a.neg ((nmOf m a.exp false).at b.exp);have hCut := ZhH ⟨a.neg, m, a.exp, false⟩ b.exp dir (fun h => by cases h) (@ZG _ _ 3000 hlt (by omega)) (by dsimp only; omega) (by omega) (by dsimp only; omega);replace hCut : PC C 119 [nuD ⟨a.neg, m, a.exp, false⟩, .int .i64 b.exp, .int .i64 dir] (fun o => o = .ret (.tup [numD (rnd dir a.neg ((nmOf m a.exp false).at b.exp)), .bool ((nmOf m a.exp false).at b.exp).2.1])) := hCut;generalize (nmOf m a.exp false).at b.exp = A at *
  have hr81 : rnd dir a.neg A < 10 ^ 81 := by
    have : (10 : Nat) ^ 81 = 10 ^ 80 * 10 := Nat.pow_succ ..;omega
  have lrr := fitW hr81 (by omega);generalize rnd dir a.neg A = c at *;generalize A.2.1 = ix at *;refine go ?_;refine zdr 10 mixC ?_;refine .op rfl (Ze rfl rfl rfl rfl rfl) ?_;refine .op rfl (Zb rfl rfl (ZdO a m hmc)) ?_;refine gd ?_;refine .op rfl (Zb rfl rfl (hCut)) ?_;refine zdm ?_;refine .op rfl (ZD rfl rfl) ?_;refine .op rfl (ZD rfl rfl) ?_;refine .op rfl (Za4 rfl) ?_;refine .nil (fun hG => ?_);refine go ?_;refine Zc rfl rfl (ZfB a.fmt) ?_;refine Za rfl (Zlk Tryz.underlying114 rfl rfl rfl rfl rfl) ?_;refine Zc rfl rfl (ZfC c (fP a.fmt) lrr) ?_;refine go ?_;refine ARun.cond rfl (fun h6 => ?_) (fun h6 => ?_)
  · skip
    have h6 : 10 ^ fP a.fmt ≤ c := by simpa using h6
    refine go ?_;refine Zc rfl rfl (ZaY a.fmt) ?_;refine Zc rfl rfl (Zv ⟨⟨a.fmt, 3, false, [], 0⟩, 1⟩) ?_;refine go ?_;refine Zns ?_;rw [hR, Zep h0 h1 (by rw [hq]; by_cases h7 : a.exp - b.exp ≤ fP a.fmt; (rw [if_neg (fun h => h h7), if_pos h6]); rw [if_pos h7])]; try rfl
  have h6 : ¬ 10 ^ fP a.fmt ≤ c := by simpa using h6
  have h7 : a.exp - b.exp ≤ fP a.fmt := by
    rcases Int.lt_or_le (fP a.fmt : Int) (a.exp - b.exp) with h | h
    · exact absurd (hbig h) h6
    exact h
  have hval : ZR a [a, b] dir (Zcb a.fmt dir a b) = (⟨⟨a.fmt, 1, a.neg, lim c, b.exp⟩, if ix then 16 else 0⟩, 0) := Zdk h0 h1 (by rw [hq, if_neg (fun h => h h7), if_neg h6]);rw [hval] at hR;refine go ?_;refine Zc rfl rfl (ZdN a.fmt a.neg (lim c) b.exp) ?_;refine go ?_;refine ARun.cond rfl (fun h8 => ?_) (fun h8 => ?_)
  · skip
    refine go ?_;refine Zc rfl rfl (Zv ⟨⟨a.fmt, 1, a.neg, lim c, b.exp⟩, 16⟩) ?_;refine go ?_;refine Zns ?_;rw [hR, if_pos h8]; try rfl
  refine go ?_;refine Zc rfl rfl (Zv ⟨⟨a.fmt, 1, a.neg, lim c, b.exp⟩, 0⟩) ?_;refine go ?_;refine Zns ?_;rw [hR, if_neg (by rw [h8]; decide)]; try rfl
def sameQ (a b : Dt) : Bool := if isN a || isN b then isN a && isN b else a.cls == b.cls && a.exp == b.exp
theorem ZgX (a b : Dt) : PC C 37 [dtD a, dtD b] (fun o => o = .ret (.bool (sameQ a b))) := by
  refine Znr Tryz.func37 Tryz.ntmps37 Tryz.results37 ?_;refine go ?_;refine zzb ?_; refine zzb ?_;refine go ?_;refine Zc rfl rfl (ZcS a) ?_;refine Zr ?_;apply ZnB 7 (fun sj1 => [(7, .any), (8, .any), (9, .any), (10, .bool sj1)]) rfl
  · intro hj1 run1
    try replace hj1 := Zh hj1
    refine Zg ?_; refine Zg ?_; refine ZK ?_;exact AOps.ag run1
  · intro hj1 run1
    try replace hj1 := Zj hj1
    refine zzL ?_;refine Zc rfl rfl (ZcS b) ?_;refine ZK ?_;exact AOps.ag run1
  refine AOps.nil ?_;refine ARun.cond rfl (fun h => ?_) (fun h => ?_)
  · skip
    refine go ?_;refine Zc rfl rfl (ZcS a) ?_;refine Zr ?_;apply Znu 13 (fun sj2 => [(13, .any), (14, .any), (15, .any), (16, .bool sj2)]) rfl
    · intro hj2 run2
      try replace hj2 := Zh hj2
      refine zzL ?_;refine Zc rfl rfl (ZcS b) ?_;refine ZK ?_;exact AOps.ag run2
    · intro hj2 run2
      try replace hj2 := Zj hj2
      refine Zg ?_; refine Zg ?_; refine ZK ?_;exact AOps.ag run2
    refine go ?_;refine Zno ?_;unfold sameQ; rw [if_pos h]; try rfl
  refine ARun.skip (zzs ?_); refine zzf ?_; refine zzl ?_; refine zzf ?_; refine zzl ?_; refine zzi ?_; refine Zr ?_;apply Znu 22 (fun sj3 => [(22, .any), (23, .any), (24, .any), (25, .any), (26, .any), (27, .any), (28, .bool sj3)]) rfl
  · intro hj3 run3
    try replace hj3 := Zh hj3
    refine zzf ?_; refine zzl ?_; refine zzf ?_; refine zzl ?_; refine zzi ?_; refine ZK ?_;exact AOps.ag run3
  · intro hj3 run3
    try replace hj3 := Zj hj3
    refine Zg ?_; refine Zg ?_; refine Zg ?_; refine Zg ?_; refine Zg ?_; refine ZK ?_;exact AOps.ag run3
  refine go ?_;refine Zno ?_;unfold sameQ; rw [if_neg (by rw [h]; decide)]; try rfl
def Zhv (a b : Dt) : Bool := if isN a || isN b then isN a && isN b else if a.cls == 2 || b.cls == 2 then a.cls == 2 && b.cls == 2 else a.exp == b.exp
def sqR (a b : Dt) : Bool × Int := if chkL a [a, b] 1 = 0 then (Zhv a b, 0) else (false, chkL a [a, b] 1)
theorem ZjJ (H : Heap) : DC Cd 116 H [.ptr 0 0] .returning (fun m' H' => m' = .returning ∧ H' = H) := by
  refine DC.of_run ZbX ZcW rfl ZcX (by rw [ZcY]) (fun _ h => by cases h) (by simp only [List.length_cons, List.length_nil, Nat.reduceAdd, Nat.reduceSub, List.replicate_succ, List.replicate_zero, List.cons_append, List.nil_append, recD, Zu, List.set_cons_succ, List.set_cons_zero]; exact rfl) rfl (by simp only [recD, Zu, List.set_cons_succ, List.set_cons_zero]; exact rfl) ?_;refine gn ?_;refine Za rfl (Zf8 (by kernel_rfl) rfl) ?_;refine AOps.nil ?_;refine Znx rfl ?_;refine ARun.skip ?_;refine ARun.nil ?_;exact ⟨rfl, rfl, rfl⟩
theorem dcs_fail1 (e : Int) : DC Cd 116 [erO 0] [.ptr 0 0] (.panicking (ZdI e)) (fun m' H' => m' = .recovered (ZdI e) ∧ H' = [erO e]) := by
  refine DC.of_run ZbX ZcW rfl ZcX (by rw [ZcY]) (fun _ h => by cases h) (by simp only [List.length_cons, List.length_nil, Nat.reduceAdd, Nat.reduceSub, List.replicate_succ, List.replicate_zero, List.cons_append, List.nil_append, recD, Zu, List.set_cons_succ, List.set_cons_zero]; exact rfl) rfl (by simp only [recD, Zu, List.set_cons_succ, List.set_cons_zero]; exact rfl) ?_;refine gn ?_;refine Za rfl (q_ifNe (by kernel_rfl) rfl) ?_;refine AOps.nil ?_;refine Znz rfl ?_;refine gn ?_;refine Za rfl (ZcG rfl rfl rfl) ?_;refine ga ?_;refine ZI rfl rfl rfl rfl rfl rfl rfl rfl rfl rfl rfl ?_;refine go ?_;refine Znx rfl ?_;refine gn ?_;refine Za rfl (q_nil rfl rfl) ?_;refine zzT ?_; refine AOps.nil ?_;refine ARun.nil ?_;exact ⟨rfl, rfl, rfl⟩
theorem ZgY (a b : Dt) (ha : U32 a.coef) (hb : U32 b.coef) : PC Cd 34 [dtD a, dtD b] (fun o => o = .ret (.tup [.bool (sqR a b).1, .int .i64 (sqR a b).2])) := by
  have hu : ∀ d ∈ [a, b], U32 d.coef := fun d hd => by
    simp only [List.mem_cons, List.not_mem_nil, or_false] at hd
    rcases hd with rfl | rfl <;> assumption
  obtain ⟨R, hR⟩ : ∃ R, R = sqR a b := ⟨_, rfl⟩;rw [← hR]
  have pan : ∀ (e : Int) (env : List D), env[4]? = some (.bool false) → env[5]? = some (.ptr 0 0) → R = (false, e) → (QFin Cd [.tmp 4, .cell 5 ZL] fun o x => o.pure = true ∧ o = .ret (.tup [.bool R.1, .int .i64 R.2])) (.pan (ZdI e)) env [erO 0] [.fn 116 [.ptr 0 0]] := by
    intro e env h6 h7 hr;refine DC.mono (dcs_fail1 e) ?_;rintro _ _ ⟨rfl, rfl⟩;exact ⟨_, _, _, .tmp h6 (Znv h7 rfl rfl rfl rfl .nil), .cons (.same _) (.cons (.same _) .nil), rfl, by rw [hr]; rfl⟩
  refine Znr Tryz.func34 Tryz.ntmps34 Tryz.results34 ?_;refine go ?_;refine zzb ?_; refine zzb ?_; refine zza ?_; refine zzA ?_; refine zzt ?_;refine Zc0 rfl rfl rfl ?_;refine go ?_;refine Za rfl (Zd rfl rfl rfl rfl rfl rfl rfl rfl rfl rfl rfl (by decide) (by decide) rfl) ?_;refine Zan rfl (ZQ rfl rfl (ZnI (Zd4 a [b] 2 1 rfl hu))) (fun hg => ?_) (fun q hq => by obtain ⟨hq, rfl⟩ := hq; exact pan _ _ rfl rfl (by rw [hR]; unfold sqR; rw [if_neg hq]));refine go ?_;refine Zc rfl rfl (PC.gl (Zdo a)) ?_;refine Zr ?_;apply ZnB 13 (fun sj1 => [(13, .any), (14, .any), (15, .any), (16, .bool sj1)]) rfl
  · intro hj1 run1
    try replace hj1 := Zh hj1
    refine Zg ?_; refine Zg ?_; refine ZK ?_;exact AOps.ag run1
  · intro hj1 run1
    try replace hj1 := Zj hj1
    refine zzL ?_;refine Zc rfl rfl (PC.gl (Zdo b)) ?_;refine ZK ?_;exact AOps.ag run1
  refine zza ?_; refine AOps.nil ?_;unfold sqR at hR;rw [if_pos hg] at hR;refine ARun.cond rfl (fun h => ?_) (fun h => ?_)
  · skip
    have h : (isN a || isN b) = true := h
    have hv : Zhv a b = (isN a && isN b) := by unfold Zhv; rw [if_pos h]
    refine go ?_;refine Zc rfl rfl (PC.gl (Zdo a)) ?_;refine Zr ?_;apply Znu 19 (fun sj2 => [(19, .any), (20, .any), (21, .any), (22, .bool sj2)]) rfl
    · intro hj2 run2
      try replace hj2 := Zh hj2
      refine zzL ?_;refine Zc rfl rfl (PC.gl (Zdo b)) ?_;refine ZK ?_;exact AOps.ag run2
    · intro hj2 run2
      try replace hj2 := Zj hj2
      refine Zg ?_; refine Zg ?_; refine ZK ?_;exact AOps.ag run2
    refine go ?_;refine ARun.ret ?_;refine DC.mono (ZjJ _) ?_;rintro _ _ ⟨rfl, rfl⟩;exact ⟨_, _, _, .tmp rfl (Znv rfl rfl rfl rfl rfl .nil), .cons (.same _) (.cons (.same _) .nil), rfl, by rw [hR, hv]; rfl⟩
  have h : (isN a || isN b) = false := h
  have hn : ¬ (isN a || isN b) = true := by rw [h]; decide
  refine go ?_;refine Zc rfl rfl (PC.gl (Z3 a)) ?_;refine Zr ?_;apply ZnB 26 (fun sj3 => [(26, .any), (27, .any), (28, .any), (29, .bool sj3)]) rfl
  · intro hj3 run3
    try replace hj3 := Zh hj3
    refine Zg ?_; refine Zg ?_; refine ZK ?_;exact AOps.ag run3
  · intro hj3 run3
    try replace hj3 := Zj hj3
    refine zzL ?_;refine Zc rfl rfl (PC.gl (Z3 b)) ?_;refine ZK ?_;exact AOps.ag run3
  refine go ?_;refine ARun.cond rfl (fun h2 => ?_) (fun h2 => ?_)
  · skip
    have hv : Zhv a b = (a.cls == 2 && b.cls == 2) := by unfold Zhv; rw [if_neg hn, if_pos h2]
    refine go ?_;refine Zc rfl rfl (PC.gl (Z3 a)) ?_;refine Zr ?_;apply Znu 32 (fun sj4 => [(32, .any), (33, .any), (34, .any), (35, .bool sj4)]) rfl
    · intro hj4 run4
      try replace hj4 := Zh hj4
      refine zzL ?_;refine Zc rfl rfl (PC.gl (Z3 b)) ?_;refine ZK ?_;exact AOps.ag run4
    · intro hj4 run4
      try replace hj4 := Zj hj4
      refine Zg ?_; refine Zg ?_; refine ZK ?_;exact AOps.ag run4
    refine go ?_;refine ARun.ret ?_;refine DC.mono (ZjJ _) ?_;rintro _ _ ⟨rfl, rfl⟩;exact ⟨_, _, _, .tmp rfl (Znv rfl rfl rfl rfl rfl .nil), .cons (.same _) (.cons (.same _) .nil), rfl, by rw [hR, hv]; rfl⟩
  have hv : Zhv a b = (a.exp == b.exp) := by unfold Zhv; rw [if_neg hn, if_neg (by rw [h2]; decide)]
  refine go ?_;refine ARun.ret ?_;refine DC.mono (ZjJ _) ?_;rintro _ _ ⟨rfl, rfl⟩;exact ⟨_, _, _, .tmp rfl (Znv rfl rfl rfl rfl rfl .nil), .cons (.same _) (.cons (.same _) .nil), rfl, by rw [hR, hv]; rfl⟩
theorem okD_inf {d : Dt} (h : okD d = true) (h2 : d.cls = 2) : d.exp = 0 := by
  unfold okD okV at h;simp only [Bool.and_eq_true] at h;have := h.2;rw [if_neg (by omega), if_pos h2] at this;simp at this; exact this.2
theorem sameQ_P {a b : Dt} (ha : okD a = true) (hb : okD b = true) : Zhv a b = sameQ a b := by
  unfold Zhv sameQ
  by_cases h : (isN a || isN b) = true
  · rw [if_pos h, if_pos h]
  rw [if_neg h, if_neg h]
  have hna : isN a = false := by cases h1 : isN a <;> simp_all
  have hnb : isN b = false := by cases h1 : isN b <;> simp_all
  by_cases h1 : a.cls = 2
  · by_cases h2 : b.cls = 2
    · rw [okD_inf ha h1, okD_inf hb h2, h1, h2]; rfl
    rw [Zc4 hb hnb h2, h1]; rfl
  by_cases h2 : b.cls = 2
  · rw [Zc4 ha hna h1, h2]; rfl
  rw [Zc4 ha hna h1, Zc4 hb hnb h2]; rfl
theorem Zgo (a b : Dt) (dir : Int) (ha : U32 a.coef) (hb : U32 b.coef) : PC Cd 7 [dtD a, dtD b, .int .i64 dir] (fun o => o = .ret (.bool true)) := by
  have hu : ∀ d ∈ [a, b], U32 d.coef := fun d hd => by
    simp only [List.mem_cons, List.not_mem_nil, or_false] at hd
    rcases hd with rfl | rfl <;> assumption
  have hC := Zbs a [b] 2 1 rfl hu;refine Znr Tryz.func7 Tryz.ntmps7 Tryz.results7 ?_;refine go ?_;refine zzb ?_; refine zzb ?_;refine go ?_;refine Za rfl (Zd rfl rfl rfl rfl rfl rfl rfl rfl rfl rfl rfl (by decide) (by decide) rfl) ?_;refine Zc rfl rfl (PC.gl (Zdp [a, b] 2 rfl)) ?_;refine go ?_;refine ARun.cond rfl (fun h => ?_) (fun h => ?_)
  · skip
    refine go ?_;refine Zc rfl rfl (ZaA) ?_;refine go ?_;refine Zno ?_;rfl
  have h : ZcM [a, b] = true := by simpa using h
  obtain ⟨h1, h2⟩ := light2 h;refine go ?_;refine Zc rfl rfl (Zd5 a b dir ⟨ha, h1⟩ ⟨hb, h2⟩) ?_;refine go ?_;refine Zc rfl rfl (ZgY a b ha hb) ?_;refine go ?_;refine zdr 8 mixC ?_;refine .op rfl (Zp rfl rfl rfl rfl rfl rfl) ?_;refine zdm ?_;refine .op rfl (Ze rfl rfl rfl rfl rfl) ?_;refine .op rfl (Ze rfl rfl rfl rfl rfl) ?_;refine zdm ?_;refine .op rfl (Zb rfl rfl (PC.gl (Zjb a b dir ha hb))) ?_;refine .op rfl (Zb rfl rfl (is_ok (ZR a [a, b] dir (Zcb a.fmt dir a b)).1 (ZR a [a, b] dir (Zcb a.fmt dir a b)).2)) ?_;refine .op rfl (Zie rfl) ?_;refine .nil (fun hG => ?_);refine AOps.nil ?_;refine Znx rfl ?_;refine go ?_;refine Za rfl (Zd rfl rfl rfl rfl rfl rfl rfl rfl rfl rfl rfl (by decide) (by decide) rfl) ?_;refine Zc rfl rfl (PC.gl hC) ?_;refine zza ?_; refine AOps.nil (ARun.seq (zzs ?_)); refine Zr ?_; refine zzi ?_; refine AOps.nil ?_;unfold sqR;refine ARun.cond rfl (fun h3 => ?_) (fun h3 => ?_)
  · skip
    have h3 : ¬ chkL a [a, b] 1 = 0 := by simpa using h3
    simp only [if_neg h3];refine go ?_;refine Zc rfl rfl (ZaA) ?_;refine Zr ?_;apply Znu 46 (fun sj1 => [(46, .any), (47, .any), (48, .any), (49, .any), (50, .bool sj1)]) rfl
    · intro hj1 run1
      try replace hj1 := Zh hj1
      refine gn ?_;refine Za rfl (Znq (d' := .bool true) (Zaa rfl rfl rfl) (congrArg D.bool (beq_self_eq_true _))) ?_;refine ZK ?_;exact AOps.ag run1
    · intro hj1 run1
      try replace hj1 := Zj hj1
      refine Zg ?_; refine Zg ?_; refine Zg ?_; refine ZK ?_;exact AOps.ag run1
    refine Zr ?_;apply Znu 51 (fun sj2 => [(51, .any), (52, .any), (53, .any), (54, .bool sj2)]) rfl
    · intro hj2 run2
      try replace hj2 := Zh hj2
      refine Zr ?_; refine zzn ?_; refine ZK ?_;exact AOps.ag run2
    · intro hj2 run2
      try replace hj2 := Zj hj2
      refine Zg ?_; refine Zg ?_; refine ZK ?_;exact AOps.ag run2
    refine go ?_;refine Zno ?_;rfl
  have h3 : chkL a [a, b] 1 = 0 := by simpa using h3
  obtain ⟨hdr, hall, hfm⟩ := Zbn h3;simp only [List.all_cons, List.all_nil, Bool.and_true, Bool.and_eq_true] at hall;simp only [if_pos h3];rw [sameQ_P hall.1 hall.2];refine go ?_;refine Zc rfl rfl (ZaA) ?_;refine Zr ?_;apply Znu 56 (fun sj3 => [(56, .any), (57, .any), (58, .any), (59, .bool sj3)]) rfl
  · intro hj3 run3
    try replace hj3 := Zh hj3
    refine Zr ?_; refine zzi ?_; refine ZK ?_;exact AOps.ag run3
  · intro hj3 run3
    try replace hj3 := Zj hj3
    refine Zg ?_; refine Zg ?_; refine ZK ?_;exact AOps.ag run3
  refine Zr ?_;apply Znu 60 (fun sj4 => [(60, .any), (61, .any), (62, .any), (63, .any), (64, .any), (65, .any), (66, .bool sj4)]) rfl
  · intro hj4 run4
    try replace hj4 := Zh hj4
    refine go ?_;refine Zc rfl rfl (PC.gl (ZgX a b)) ?_;refine Za rfl (Zdm rfl rfl rfl) ?_;refine ZK ?_;exact AOps.ag run4
  · intro hj4 run4
    try replace hj4 := Zj hj4
    refine Zg ?_; refine Zg ?_; refine Zg ?_; refine Zg ?_; refine Zg ?_; refine ZK ?_;exact AOps.ag run4
  refine go ?_;refine Zno ?_;simp
  try rfl
end Go.V
