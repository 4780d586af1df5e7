/- Rules for steps and contracts of functions, each proved; no condition. -/
import Derived.Test.YtaglofmanchabaaGreatDoorA12
set_option linter.unusedVariables false
set_option linter.unusedSimpArgs false
set_option linter.unnecessarySimpa false
set_option maxHeartbeats 2000000
set_option synthInstance.maxHeartbeats 2000000
set_option synthInstance.maxSize 100000
namespace Go.V
open Go.RowKit Go.Proofs
abbrev ZjA (t : Nat × Bool × Int) : D := .agg [numD t.1, .bool t.2.1, .int .i64 t.2.2]
abbrev numbD (f : Int) (neg : Bool) (n d : Nat) : D := .agg (fmtC f ++ [.bool neg, numD n, numD d])
theorem nm0 {n d : Nat} {q : Int} (h : 0 ≤ q) : (Nm.mk n d 0).at q = pc n (d * 10 ^ q.toNat) := by
  show pc (n * tt (0 - q)) (d * tt (q - 0)) = _
  have : tt (0 - q) = 1 := by unfold tt; rw [show (0 - q).toNat = 0 by omega]
  rw [this, Nat.mul_one]; unfold tt; rw [Int.sub_zero]
theorem nm0' {n d : Nat} {q : Int} (h : q ≤ 0) : (Nm.mk n d 0).at q = pc (n * 10 ^ (-q).toNat) d := by
  show pc (n * tt (0 - q)) (d * tt (q - 0)) = _
  have : tt (q - 0) = 1 := by unfold tt; rw [show (q - 0).toNat = 0 by omega]
  rw [this, Nat.mul_one]; unfold tt; rw [Int.zero_sub]
theorem cut_far {n d k : Nat} (hn : 0 < n) (hd : 0 < d) (h : dl (n / d) < k) : pc n (d * 10 ^ k) = (0, true, -1) := by
  refine Ziz hn ?_;have h1 := lt_dl (n / d);rw [Nat.div_lt_iff_lt_mul hd] at h1;have h2 : 10 ^ (dl (n / d) + 1) ≤ 10 ^ k := Nat.pow_le_pow_right (by omega) h;rw [Nat.pow_succ] at h2;have h3 := Nat.mul_le_mul_left d h2;rw [← Nat.mul_assoc, Nat.mul_comm d] at h3;omega
theorem cut_two {n d k : Nat} (hd : 0 < d) (hk : 0 < k) : pc n (d * 10 ^ k) = (n / d / 10 ^ k, decide (0 < (lim (n / d % 10 ^ k)).length + (lim (n % d)).length), if cmpI (2 * (n / d % 10 ^ k)) (10 ^ k) = 0 ∧ 0 < n % d then 1 else cmpI (2 * (n / d % 10 ^ k)) (10 ^ k)) := by
  have hr : n % d < d := Nat.mod_lt _ hd;unfold pc;rw [← Nat.div_div_eq_div_mul, Nat.mod_mul];obtain ⟨j, rfl⟩ : ∃ j, k = j + 1 := ⟨k - 1, by omega⟩
  have hE : 10 ^ (j + 1) = 2 * (5 * 10 ^ j) := by rw [Nat.pow_succ]; omega
  rw [hE];generalize 5 * 10 ^ j = z;generalize n / d % (2 * z) = m;generalize n % d = s at hr;have l1 : 0 < (lim m).length ↔ m ≠ 0 := ZB;have l2 : 0 < (lim s).length ↔ s ≠ 0 := ZB
  have e1 : decide (s + d * m ≠ 0) = decide (0 < (lim m).length + (lim s).length) := by
    apply decide_eq_decide.2
    constructor
    · intro h
      rcases Nat.eq_zero_or_pos s with h1 | h1
      · have : m ≠ 0 := by rintro rfl; apply h; rw [h1, Nat.mul_zero]
        have := l1.2 this; omega
      have := l2.2 (by omega); omega
    intro h
    rcases Nat.eq_zero_or_pos s with h1 | h1
    · have h2 : ¬ 0 < (lim s).length := fun h3 => l2.1 h3 h1
      have h3 := l1.1 (by omega);have := Nat.mul_pos hd (Nat.pos_of_ne_zero h3);omega
    omega
  rw [e1]
  congr 2
  unfold cmpI
  have h6 : d * (2 * z) = 2 * (d * z) := by rw [Nat.mul_left_comm]
  rw [h6]
  rcases Nat.lt_trichotomy m z with c | c | c
  · have h5 : d * m + d ≤ d * z := by rw [← Nat.mul_succ]; exact Nat.mul_le_mul_left _ c
    (repeat' split) <;> omega
  · subst c
    (repeat' split) <;> omega
  have h5 : d * z + d ≤ d * m := by rw [← Nat.mul_succ]; exact Nat.mul_le_mul_left _ c
  (repeat' split) <;> omega
theorem ten_le : (10 : Nat) ^ 1000 ≤ 2 ^ 3340 := by
  exact @ten_two 1000 334 3340 (by omega) (by omega)
theorem bl_1000 {n : Nat} (h : n < 10 ^ 1000) : bl n ≤ 3340 := Zby.2 (Nat.lt_of_lt_of_le h ten_le)
theorem ZG {n a b : Nat} (h : n < 10 ^ a) (hab : a ≤ b) : n < 10 ^ b := Nat.lt_of_lt_of_le h (Nat.pow_le_pow_right (Nat.succ_pos 9) hab)
theorem suc_tens {c k b : Nat} (h : c < 10 ^ k) (hb : k + 1 ≤ b) : c + 1 < 10 ^ b := by
  refine ZG (a := k + 1) ?_ hb;rw [Nat.pow_succ]; omega
theorem Zak {n a k b : Nat} (h : n < 10 ^ a) (hab : a + k ≤ b) : n * 10 ^ k < 10 ^ b := by
  refine Nat.lt_of_lt_of_le ?_ (Nat.pow_le_pow_right (Nat.succ_pos 9) hab);rw [Nat.pow_add]; exact Nat.mul_lt_mul_of_pos_right h (Nat.pow_pos (Nat.succ_pos 9))
theorem fitW {n a : Nat} (h : n < 10 ^ a) (ha : a ≤ 9800) : (lim n).length ≤ 1024 := fit10 (@ZG _ _ 9800 h ha)
theorem fz_piece {H : Heap} (b : Bool) (x : Int) : Fz H (.agg [.nilsl, .bool b, .int .i64 x]) (ZjA (0, b, x)) [] := .agg (.cons ZfT (.cons (.same _) (.cons (.same _) .nil)))
theorem Zmt (f : Int) (neg : Bool) (n d : Nat) (q : Int) (hn0 : 0 < n) (hn : n < 10 ^ 9700) (hd0 : 0 < d) (hd : d < 10 ^ 9700) (hq : q ≤ 1000000) (hq2 : q < 0 → n < 10 ^ 1000 ∧ -6200 ≤ q) : PC C 302 [numbD f neg n d, .int .i64 q] (fun o => o = .ret (ZjA ((Nm.mk n d 0).at q))) := by
  have ln := fitW hn (by omega);have ld := fitW hd (by omega);have hw : n / d < 10 ^ 9700 := Nat.lt_of_le_of_lt (Nat.div_le_self _ _) hn;have lw := fitW hw (by omega);have hdl := dl_fit hw;have hr : n % d < d := Nat.mod_lt _ hd0;refine Znr Tryz.func302 Tryz.ntmps302 Tryz.results302 ?_;refine go ?_;refine zzb ?_;refine go ?_;refine Zc rfl rfl (Zdi n d ln ld hd0) ?_;refine gn ?_;refine Za rfl (ZbJ rfl rfl Zjw (Ze6 (n / d) (@ZG _ _ 9799 hw (by omega)))) ?_;refine go ?_;refine Znp rfl (fun h => ?_) (fun h => ?_)
  · skip
    refine go ?_;refine ARun.ret ?_;refine ⟨_, _, _, Znt rfl rfl rfl rfl rfl rfl .nil, .cons (fz_piece _ _) .nil, rfl, ?_⟩
    have hk : dl (n / d) < q.toNat := by omega
    rw [nm0 (by omega), cut_far hn0 hd0 hk];have : decide (((lim n).length : Int) > 0) = true := decide_eq_true (by have := ZB.2 (show n ≠ 0 by omega); omega);rw [this]; rfl
  refine go ?_;refine Znp rfl (fun h1 => ?_) (fun h1 => ?_)
  · skip
    obtain ⟨k, rfl⟩ : ∃ k : Nat, q = (k : Int) := ⟨q.toNat, by omega⟩
    have hk : k ≤ 9700 := by omega
    have hT : 0 < 10 ^ k := Nat.pow_pos (by omega);have hm : n / d % 10 ^ k < 10 ^ k := Nat.mod_lt _ hT;refine gn ?_;refine Za rfl (ZbJ rfl rfl ZiI (Zei k (by omega))) ?_;refine go ?_;refine Zc rfl rfl (Zdi (n / d) (10 ^ k) lw (fitT (by omega)) hT) ?_;refine go ?_;refine Zc rfl rfl (Ze5 (n / d % 10 ^ k) (10 ^ k) (fitT (by omega)) (Nat.le_of_lt hm)) ?_;refine zza ?_; refine AOps.nil (ARun.seq (zzs ?_)); refine Zr ?_; refine zzi ?_; refine Zr ?_;apply Znu 53 (fun sj1 => [(53, .any), (54, .any), (55, .any), (56, .any), (57, .bool sj1)]) rfl
    · intro hj1 run1
      try replace hj1 := Zh hj1
      refine Zr ?_; refine zzN ?_; refine zzi ?_; refine ZK ?_;exact AOps.ag run1
    · intro hj1 run1
      try replace hj1 := Zj hj1
      refine Zg ?_; refine Zg ?_; refine Zg ?_; refine ZK ?_;exact AOps.ag run1
    refine AOps.nil ?_;have l1 : (lim (n / d % 10 ^ k)).length ≤ 1024 := Nat.le_trans (Zn (Nat.mod_le _ _)) lw;have l2 : (lim (n % d)).length ≤ 1024 := Nat.le_trans (Zn (Nat.mod_le _ _)) ln;have e : decide (IntKind.i64.wrap (((lim (n / d % 10 ^ k)).length : Int) + ((lim (n % d)).length : Int)) > 0) = decide (0 < (lim (n / d % 10 ^ k)).length + (lim (n % d)).length) := decide_eq_decide.2 (by rw [IntWalk.i64_in _ (by omega)]; omega)
    have e2 : (0 < n % d) ↔ (((lim (n % d)).length : Int) > 0) := by
      have := ZB (n := n % d);omega
    refine ARun.cond rfl (fun h2 => ?_) (fun h2 => ?_)
    · skip
      refine gn ?_;refine Za rfl (Zf rfl rfl rfl) ?_;refine go ?_;refine Zns ?_;simp only [Bool.and_eq_true, beq_iff_eq, decide_eq_true_eq] at h2;rw [e, nm0 (by omega), Int.toNat_natCast, cut_two hd0 (by omega), if_pos ⟨h2.1, e2.2 h2.2⟩]; try rfl
    refine gn ?_;refine Za rfl (Zf rfl rfl rfl) ?_;refine go ?_;refine Zns ?_;simp only [Bool.and_eq_false_iff, beq_eq_false_iff_ne, decide_eq_false_iff_not] at h2;rw [e, nm0 (by omega), Int.toNat_natCast, cut_two hd0 (by omega), if_neg (fun h3 => h2.elim (fun h4 => h4 h3.1) (fun h4 => h4 (e2.1 h3.2)))]; try rfl
  rcases Int.lt_or_le q 0 with h2 | h2
  · have hq3 := hq2 h2
    obtain ⟨k, rfl⟩ : ∃ k : Nat, q = -(k : Int) := ⟨(-q).toNat, by omega⟩
    have hk : k ≤ 6200 := by omega
    have hb := bl_1000 hq3.1
    have hl : 10 * k / 3 + 1 ≤ 20667 := by omega
    have hnk : n * 10 ^ k < 10 ^ 7200 := @Zak _ _ _ 7200 hq3.1 (by omega);have lnk := fitW hnk (by omega);have hr2 : n * 10 ^ k % d < d := Nat.mod_lt _ hd0;have e : decide ((((lim (n * 10 ^ k % d)).length : Nat) : Int) > 0) = decide (n * 10 ^ k % d ≠ 0) := decide_eq_decide.2 (by have := ZB (n := n * 10 ^ k % d); omega);refine ARun.seq ?_;refine zdr 16 mixC ?_;refine zdm ?_;refine .op rfl (Znq (d' := .bool true) (Zaa rfl rfl rfl) (congrArg D.bool (decide_eq_true (by omega)))) ?_;refine gd ?_;refine .op rfl (Zb rfl rfl (Ze4 n ln)) ?_;refine zdf ?_;refine zdf ?_;refine zdl ?_;refine zdm ?_;refine .op rfl (Znq (d' := .int .i64 (k : Int)) (Zg4 rfl (IntWalk.i64_in _ (by omega))) (congrArg (D.int .i64) (by omega))) ?_;refine .op rfl (ZbJ rfl rfl m_long (ZlT k (by omega))) ?_;refine .op rfl (Zf rfl rfl (Z1 (by omega))) ?_;refine .op rfl (Znq (d' := .bool true) (Zaa rfl rfl rfl) (congrArg D.bool (decide_eq_true (by omega)))) ?_;refine .op rfl (Zaw rfl rfl rfl rfl) ?_;refine .op rfl (Za4 rfl) ?_;refine .nil (fun hG => ?_);refine AOps.nil ?_;refine Znz rfl ?_;refine zdr 16 mixC ?_;refine zdf ?_;refine zdl ?_;refine zdf ?_;refine zdf ?_;refine zdl ?_;refine zdm ?_;refine .op rfl (Znq (d' := .int .i64 (k : Int)) (Zg4 rfl (IntWalk.i64_in _ (by omega))) (congrArg (D.int .i64) (by omega))) ?_;refine .op rfl (ZbJ rfl rfl ZiI (Zei k (by omega))) ?_;refine .op rfl (Zb rfl rfl (Zln n (10 ^ k) ln (fitT (by omega)) lnk)) ?_;refine gd ?_;refine .op rfl (Zb rfl rfl (Zdi (n * 10 ^ k) d lnk ld hd0)) ?_;refine zdm ?_;refine .op rfl (ZD rfl rfl) ?_;refine .op rfl (ZD rfl rfl) ?_;refine .op rfl (Za4 rfl) ?_;refine .nil (fun hG => ?_);refine go ?_;refine Zc rfl rfl (Ze5 (n * 10 ^ k % d) d ld (Nat.le_of_lt hr2)) ?_;refine go ?_;refine Zns ?_;rw [e, nm0' (by omega), Int.neg_neg, Int.toNat_natCast]; try rfl
  obtain rfl : q = 0 := by omega
  have e : decide ((((lim (n % d)).length : Nat) : Int) > 0) = decide (n % d ≠ 0) := decide_eq_decide.2 (by have := ZB (n := n % d); omega);refine ARun.seq ?_;refine zdr 16 mixC ?_;refine zdm ?_;refine .op rfl (Zaa rfl rfl rfl) ?_;refine zdm ?_;refine .skip rfl ?_;refine .skip rfl ?_;refine .skip rfl ?_;refine .skip rfl ?_;refine .skip rfl ?_;refine .skip rfl ?_;refine .skip rfl ?_;refine .skip rfl ?_;refine .skip rfl ?_;refine .skip rfl ?_;refine .skip rfl ?_;refine .op rfl (Zaw rfl rfl rfl rfl) ?_;refine .op rfl (Za4 rfl) ?_;refine .nil (fun hG => ?_);refine AOps.nil ?_;refine Znx rfl ?_;refine go ?_;refine Znx rfl ?_;refine go ?_;refine Zc rfl rfl (Ze5 (n % d) d ld (Nat.le_of_lt hr)) ?_;refine go ?_;refine Zns ?_;rw [e, nm0 (by omega)];show _ = Out.ret (ZjA (pc n (d * 10 ^ 0)));rw [Nat.pow_zero, Nat.mul_one]; try rfl
theorem abt_le {m : Int} (h1 : -32768 ≤ m) (h2 : m ≤ 32768) : -9865 ≤ abt m ∧ abt m ≤ 9865 := by
  unfold abt; split <;> omega
theorem abt_neg {m : Int} (h : abt m < 34) : m ≤ 113 := by
  unfold abt at h; split at h <;> omega
theorem cf_small {n d : Nat} {q : Int} (hn : n < 10 ^ 9000) (hd : 0 < d) (hq2 : q < 0 → n < 10 ^ 1000 ∧ -6200 ≤ q) : ((Nm.mk n d 0).at q).1 < 10 ^ 9700 := by
  rcases Int.lt_or_le q 0 with h | h
  · rw [nm0' (by omega)]
    have := hq2 h;exact Nat.lt_of_le_of_lt (Nat.div_le_self _ _) (@Zak _ _ _ 9700 this.1 (by omega))
  rw [nm0 h];exact Nat.lt_of_le_of_lt (Nat.div_le_self _ _) (@ZG _ _ 9700 hn (by omega))
theorem cf_pos {n d : Nat} {q : Int} (hn : n < 10 ^ 9000) (hd : 0 < d) (h : 0 < ((Nm.mk n d 0).at q).1) : q < 9000 := by
  rcases Int.lt_or_le q 9000 with h1 | h1
  · exact h1
  exfalso
  rw [nm0 (by omega)] at h;have h2 : n / (d * 10 ^ q.toNat) = 0 := Nat.div_eq_of_lt (Nat.lt_of_lt_of_le (ZG hn (show 9000 ≤ q.toNat by omega)) (Nat.le_mul_of_pos_left _ hd));have h3 : 0 < n / (d * 10 ^ q.toNat) := h;omega
theorem cf_low {n d p : Nat} {q : Int} (hd : 0 < d) (hH : n < 10 ^ 900 ∨ d < 10 ^ 850) (hp : p ≤ 34) (hq : q ≤ 0) (h : ((Nm.mk n d 0).at q).1 < 10 ^ p) : n < 10 ^ 1000 := by
  rcases hH with h1 | h1
  · exact @ZG _ _ 1000 h1 (by omega)
  rw [nm0' hq] at h;have h2 : n * 10 ^ (-q).toNat / d < 10 ^ p := h;rw [Nat.div_lt_iff_lt_mul hd] at h2;have h3 : n ≤ n * 10 ^ (-q).toNat := Nat.le_mul_of_pos_right _ (Nat.pow_pos (Nat.succ_pos 9));exact Nat.lt_trans (Nat.lt_of_le_of_lt h3 h2) (by rw [Nat.mul_comm]; exact @Zak _ _ _ 1000 h1 (by omega))
theorem bits_low {n d : Nat} (hH : n < 10 ^ 900 ∨ d < 10 ^ 850) (h : bl n ≤ bl d + 113) : n < 10 ^ 1000 := by
  rcases hH with h1 | h1
  · exact @ZG _ _ 1000 h1 (by omega)
  rcases Nat.eq_zero_or_pos d with h0 | h0
  · subst h0
    have h2 := Zby.1 h
    have h3 : bl 0 = 0 := by have := (Zby (n := 0) (k := 0)).2 (by omega); omega
    rw [h3] at h2;exact Nat.lt_of_lt_of_le h2 (Nat.le_trans (Nat.pow_le_pow_left (show 2 ≤ 10 by omega) _) (@Nat.pow_le_pow_right 10 (Nat.succ_pos 9) _ 1000 (by omega)))
  have h1' : 1 ≤ bl d := by
    rcases Nat.eq_zero_or_pos (bl d) with h2 | h2
    · have := Zby.1 (show bl d ≤ 0 by omega); omega
    exact h2
  have h2 : 2 ^ (bl d - 1) ≤ d := by
    rcases Nat.lt_or_ge d (2 ^ (bl d - 1)) with h2 | h2
    · have := Zby.2 h2; omega
    exact h2
  have h3 := Zby.1 h;rw [show bl d + 113 = bl d - 1 + 114 by omega, Nat.pow_add] at h3;have h4 : (2 : Nat) ^ 114 ≤ 10 ^ 114 := Nat.pow_le_pow_left (by omega) _;have h5 : 2 ^ (bl d - 1) * 2 ^ 114 ≤ d * 10 ^ 114 := Nat.mul_le_mul h2 h4;have h6 : d * 10 ^ 114 < 10 ^ 1000 := @Zak _ _ _ 1000 h1 (by omega);exact Nat.lt_trans (Nat.lt_of_lt_of_le h3 h5) h6
theorem cf_up {n d : Nat} {q : Int} (hd : 0 < d) : ((Nm.mk n d 0).at (q + 1)).1 = ((Nm.mk n d 0).at q).1 / 10 := by
  have := at_div (x := Nm.mk n d 0) hd q 1;rw [Nat.pow_one] at this; exact this
theorem Zlp (f : Int) (neg : Bool) (n d : Nat) (hf : isF f) (hn0 : 0 < n) (hn : n < 10 ^ 9000) (hd0 : 0 < d) (hd : d < 10 ^ 9000) (hH : n < 10 ^ 900 ∨ d < 10 ^ 850) (qq : Int) (hqq : IsQ (fP f) (fLo f) ⟨n, d, 0⟩ qq) : PC C 278 [numbD f neg n d] (fun o => o = .ret (.tup [.int .i64 qq, ZjA ((Nm.mk n d 0).at qq)])) := by
  have ln := fitW hn (by omega);have ld := fitW hd (by omega);have hp := ZW f;have hb := f_le f;have b1 := Zbk n;have b2 := Zbk d;have ha := abt_le (m := (bl n : Int) - (bl d : Int)) (by omega) (by omega);obtain ⟨A, hA⟩ : ∃ A : Int → Nat × Bool × Int, ∀ q, (Nm.mk n d 0).at q = A q := ⟨_, fun _ => rfl⟩;rw [hA qq]
  have cutR : ∀ q : Int, fLo f ≤ q → q ≤ 20000 → (q < 0 → n < 10 ^ 1000) → PC C 302 [numbD f neg n d, .int .i64 q] (fun o => o = .ret (ZjA (A q))) := fun q h1 h2 h3 => hA q ▸ Zmt f neg n d q hn0 (@ZG _ _ 9700 hn (by omega)) hd0 (@ZG _ _ 9700 hd (by omega)) (by omega) (fun h => ⟨h3 h, by omega⟩)
  have sizR : ∀ q : Int, fLo f ≤ q → (q < 0 → n < 10 ^ 1000) → PC C 386 [.agg [], numD (A q).1] (fun o => o = .ret (.int .i64 ((dl (A q).1 : Nat) : Int))) := fun q h1 h3 => Ze6 _ (@ZG _ _ 9799 (by rw [← hA]; exact cf_small hn hd0 (fun h => ⟨h3 h, by omega⟩)) (by omega))
  have hq0 : max (fLo f) (abt ((bl n : Int) - (bl d : Int)) - (fP f : Int)) < 0 → n < 10 ^ 1000 := by
    intro h
    have : abt ((bl n : Int) - (bl d : Int)) < 34 := by omega
    have := abt_neg this;exact bits_low hH (by omega)
  refine Znr Tryz.func278 Tryz.ntmps278 Tryz.results278 ?_;refine go ?_;refine zzb ?_;refine go ?_;refine zdr 21 mixC ?_;refine gd ?_;refine .op rfl (Zb rfl rfl (Ze4 n ln)) ?_;refine gd ?_;refine .op rfl (Zb rfl rfl (Ze4 d ld)) ?_;refine .op rfl (Zk rfl rfl (IntWalk.i64_in _ (by omega))) ?_;refine .op rfl (q_nilI rfl) ?_;refine zdm ?_;refine .op rfl (ZbJ rfl rfl m_about (Zlo ((bl n : Int) - (bl d : Int)) (by omega) (by omega))) ?_;refine gd ?_;refine .op rfl (Zk rfl rfl (IntWalk.i64_in _ (by omega))) ?_;refine .op rfl (Zif rfl rfl) ?_;refine .nil (fun hG => ?_);refine go ?_;refine Zc rfl rfl (cutR _ (by omega) (by omega) hq0) ?_;refine go ?_;refine Znw (S := Int) (fun q : Int => [(30, .any), (31, .any), (32, .any), (33, .any), (34, .any), (35, .any), (36, .any), (37, .any), (38, .any), (39, .any), (40, .any), (41, .any), (42, .any), (43, .any), (44, .any), (4, .int .i64 q)]) (fun q : Int => [some ⟨[.nilsl, .bool false, .int .i64 0], Zcp, 1, true, none⟩, some ⟨[numD (A q).1, .bool (A q).2.1, .int .i64 (A q).2.2], Zcp, 1, true, none⟩]) (fun q : Int => fLo f ≤ q ∧ q ≤ 20000 ∧ (q < 0 → n < 10 ^ 1000)) (fun q : Int => (A q).1) (max (fLo f) (abt ((bl n : Int) - (bl d : Int)) - (fP f : Int))) ?_ ?_
  · exact ⟨by omega, by omega, hq0⟩
  rintro q hinv ih;obtain ⟨i1, i2, i3⟩ := hinv;refine go ?_;refine zdr 10 mixC ?_;refine zdf ?_;refine zdf ?_;refine zdl ?_;refine .op rfl (ZZ rfl rfl rfl (by decide)) ?_;refine .op rfl (ZC rfl rfl rfl rfl rfl) ?_;refine .op rfl (ZbJ rfl rfl Zjw (sizR q i1 i3)) ?_;refine zdf ?_;refine zdf ?_;refine zdl ?_;refine .op rfl (Zaa rfl rfl rfl) ?_;refine .nil (fun hG => ?_);refine AOps.nil ?_;refine Znp rfl (fun h => ?_) (fun h => ?_)
  · skip
    have hc : 0 < (A q).1 := by
      rcases Nat.eq_zero_or_pos (A q).1 with h0 | h0
      · rw [h0, Zem] at h; omega
      exact h0
    have hc2 := cf_pos hn hd0 (q := q) (by rw [hA]; exact hc);refine gn ?_;refine Za rfl (Zf rfl rfl (IntWalk.i64_in _ (by omega))) ?_;refine go ?_;refine Zc rfl rfl (cutR (q + 1) (by omega) (by omega) (fun h => i3 (by omega))) ?_;refine go ?_;refine ARun.ag (ih ((q + 1)) ?_ ?_)
    · exact ⟨by omega, by omega, fun h => i3 (by omega)⟩
    rw [← hA (q + 1), cf_up hd0, hA]; omega
  have hc : (A q).1 < 10 ^ fP f := Zgw.1 (by omega);refine ARun.exit rfl ?_;refine go ?_;refine Znw (S := Int) (fun r : Int => [(45, .any), (46, .any), (47, .any), (48, .any), (49, .any), (50, .any), (51, .any), (52, .any), (53, .any), (54, .any), (55, .any), (56, .any), (57, .any), (58, .any), (59, .any), (60, .any), (61, .any), (62, .any), (63, .any), (64, .any), (65, .any), (66, .any), (4, .int .i64 r)]) (fun r : Int => [some ⟨[.nilsl, .bool false, .int .i64 0], Zcp, 1, true, none⟩, some ⟨[numD (A r).1, .bool (A r).2.1, .int .i64 (A r).2.2], Zcp, 1, true, none⟩]) (fun r : Int => fLo f ≤ r ∧ r ≤ 20000 ∧ (r < 0 → n < 10 ^ 1000) ∧ (A r).1 < 10 ^ fP f) (fun r : Int => (r - fLo f).toNat) (q) ?_ ?_
  · exact ⟨i1, i2, i3, hc⟩
  rintro r hinv ih;obtain ⟨j1, j2, j3, j4⟩ := hinv
  rcases Int.lt_or_le (fLo f) r with g | g
  · skip
    refine go ?_;refine zdr 17 mixC ?_;refine zdm ?_;refine zdf ?_;refine zdf ?_;refine zdl ?_;refine .op rfl (Znq (d' := .bool true) (Zaa rfl rfl rfl) (congrArg D.bool (decide_eq_true (by omega)))) ?_;refine zdm ?_;refine zdf ?_;refine zdf ?_;refine zdl ?_;refine .op rfl (ZZ rfl rfl rfl (by decide)) ?_;refine .op rfl (ZC rfl rfl rfl rfl rfl) ?_;refine .op rfl (ZbJ rfl rfl Zjw (sizR r j1 j3)) ?_;refine zdf ?_;refine zdf ?_;refine zdl ?_;refine .op rfl (Zaa rfl rfl rfl) ?_;refine .op rfl (Zaw rfl rfl rfl rfl) ?_;refine .nil (fun hG => ?_);refine AOps.nil ?_;refine Znp rfl (fun h2 => ?_) (fun h2 => ?_)
    · skip
      have hc2 : (A r).1 < 10 ^ (fP f - 1) := Zgw.1 (by omega)
      have hlow : r - 1 < 0 → n < 10 ^ 1000 := fun h3 => cf_low hd0 hH (p := fP f - 1) (by omega) (q := r) (by omega) (by rw [hA]; exact hc2)
      have hup := cf_up (n := n) (q := r - 1) hd0;rw [show r - 1 + 1 = r by omega, hA, hA] at hup
      have hT : 10 ^ fP f = 10 ^ (fP f - 1) * 10 := by rw [← Nat.pow_succ]; congr 1; omega
      refine gn ?_;refine Za rfl (Zk rfl rfl (IntWalk.i64_in _ (by omega))) ?_;refine go ?_;refine Zc rfl rfl (cutR (r - 1) (by omega) (by omega) hlow) ?_;refine go ?_;refine ARun.ag (ih ((r - 1)) ?_ ?_)
      · exact ⟨by omega, by omega, hlow, by omega⟩
      omega
    have e : qq = r := hqq.uniq hd0 (by omega) ⟨j1, by rw [hA]; exact j4, .inr (by rw [hA]; exact Zgx.1 (by omega))⟩;subst e;refine ARun.exit rfl ?_;refine ARun.seq ?_;refine zdr 3 mixC ?_;refine zdm ?_;refine .op rfl (Zp rfl rfl rfl rfl rfl rfl) ?_;refine .op rfl (Za4 rfl) ?_;refine .nil (fun hG => ?_);refine go ?_;refine ARun.ret ?_;refine ⟨_, _, _, .tmp rfl (Znt rfl rfl rfl rfl rfl rfl .nil), .cons (.same _) (.cons (.same _) .nil), rfl, ?_⟩;rfl
  have e : qq = r := hqq.uniq hd0 (by omega) ⟨j1, by rw [hA]; exact j4, .inl (by omega)⟩;subst e;refine go ?_;refine zdr 17 mixC ?_;refine zdm ?_;refine zdf ?_;refine zdf ?_;refine zdl ?_;refine .op rfl (Znq (d' := .bool false) (Zaa rfl rfl rfl) (congrArg D.bool (decide_eq_false (by omega)))) ?_;refine zdm ?_;refine .skip rfl ?_;refine .skip rfl ?_;refine .skip rfl ?_;refine .skip rfl ?_;refine .skip rfl ?_;refine .skip rfl ?_;refine .skip rfl ?_;refine .skip rfl ?_;refine .skip rfl ?_;refine .skip rfl ?_;refine .op rfl (Zaw rfl rfl rfl rfl) ?_;refine .nil (fun hG => ?_);refine AOps.nil ?_;refine Znx rfl ?_;refine ARun.exit rfl ?_;refine ARun.seq ?_;refine zdr 3 mixC ?_;refine zdm ?_;refine .op rfl (Zp rfl rfl rfl rfl rfl rfl) ?_;refine .op rfl (Za4 rfl) ?_;refine .nil (fun hG => ?_);refine go ?_;refine ARun.ret ?_;refine ⟨_, _, _, .tmp rfl (Znt rfl rfl rfl rfl rfl rfl .nil), .cons (.same _) (.cons (.same _) .nil), rfl, ?_⟩;rfl
theorem ZeU {c : Nat} (h : 0 < c) : ∃ r, lim c = (c % B) :: r := ⟨lim (c / B), by rw [Za8 (by omega)]⟩
theorem ZjB (c : Nat) : c % B % 2 = c % 2 := by unfold B; omega
theorem ZjR (f : Int) (neg : Bool) (n d : Nat) (q : Int) (c : Nat) (b : Bool) (h dir : Int) (hd : isDir dir) (hc : c < 10 ^ 9600) (hq : -1000000 ≤ q ∧ q ≤ 1000000) : PC C 280 [numbD f neg n d, .int .i64 q, .agg [numD c, .bool b, .int .i64 h], .clos (dirF dir) []]
    (fun o => o = .ret (.tup [numD (if 10 ^ fP f ≤ rnd dir neg (c, b, h) then 10 ^ (fP f - 1) else rnd dir neg (c, b, h)), .int .i64 (if 10 ^ fP f ≤ rnd dir neg (c, b, h) then q + 1 else q)])) := by
  have hp := ZW f;have lc := fitW hc (by omega)
  have hc1 : c + 1 < 10 ^ 9601 := by
    exact @suc_tens _ _ 9601 hc (by omega)
  refine Znr Tryz.func280 Tryz.ntmps280 Tryz.results280 ?_;refine go ?_;refine zzb ?_; refine zzb ?_; refine zza ?_; refine zza ?_; refine zzt ?_; refine zzf ?_; refine zzl ?_; refine zza ?_; refine AOps.nil (ARun.seq (ARun.seq ?_));refine Zny (S := Bool) (fun u : Bool => [(13, .any), (14, .any), (15, .any), (16, .any), (17, .any), (18, .any), (19, .any), (20, .any), (21, .any), (22, .any), (23, .any), (24, .any), (25, .any), (26, .any), (27, .any), (28, .any), (29, .any), (30, .any), (31, .any), (32, .bool u)]) (fun u : Bool => u = (b && dirB dir neg (decide (c % 2 = 1)) h)) (fun run => ?_) ?_
  · cases b with
    | false =>
      skip
      refine zdr 20 mixC ?_;refine gd ?_;refine .skip rfl ?_;refine .skip rfl ?_;refine .skip rfl ?_;refine .skip rfl ?_;refine .skip rfl ?_;refine .skip rfl ?_;refine .skip rfl ?_;refine .skip rfl ?_;refine .skip rfl ?_;refine .skip rfl ?_;refine .skip rfl ?_;refine .skip rfl ?_;refine .skip rfl ?_;refine .skip rfl ?_;refine .skip rfl ?_;refine .skip rfl ?_;refine .op rfl (Zaw rfl rfl rfl rfl) ?_;refine .nil (fun hG => ?_);refine AOps.nil ?_;exact ARun.ag (run (false) (rfl))
    | true =>
      rcases Nat.eq_zero_or_pos c with h0 | h0
      · subst h0
        refine zdr 20 mixC ?_;refine gd ?_;refine .op rfl (ZdJ rfl rfl) ?_;refine .op rfl (Znq (d' := .bool false) (Zaa rfl rfl rfl) (congrArg D.bool (decide_eq_false (by rw [Za9]; decide)))) ?_;refine zdm ?_;refine .skip rfl ?_;refine .skip rfl ?_;refine .skip rfl ?_;refine .skip rfl ?_;refine .skip rfl ?_;refine .op rfl (Zaw rfl rfl rfl rfl) ?_;refine gd ?_;refine .op rfl (Zb rfl rfl (ZhE hd neg false h)) ?_;refine .op rfl (Zaw rfl rfl rfl rfl) ?_;refine .nil (fun hG => ?_);refine AOps.nil ?_;exact ARun.ag (run (dirB dir neg false h) (rfl))
      obtain ⟨r, hr⟩ := ZeU h0;have hl : 0 < (lim c).length := ZB.2 (by omega);have hm := ZjB c;have e2 : decide (c % 2 = 1) = decide (((c % B % 2 : Nat) : Int) = 1) := decide_eq_decide.2 (by omega);refine zdr 20 mixC ?_;refine gd ?_;refine .op rfl (ZdJ rfl rfl) ?_;refine .op rfl (Znq (d' := .bool true) (Zaa rfl rfl rfl) (congrArg D.bool (decide_eq_true (by omega)))) ?_;refine gd ?_;refine .op rfl (Zm rfl rfl rfl rfl (by omega) (by omega) (by rw [hr]; simp) (by rw [hr])) ?_;refine zdl ?_;refine .op rfl (Zdt rfl rfl (by omega) (nrem (n := 2) rfl)) ?_;refine .op rfl (Zaa rfl rfl rfl) ?_;refine .op rfl (Zaw rfl rfl rfl rfl) ?_;refine gd ?_;refine .op rfl (Zb rfl rfl (ZhE hd neg (decide (((c % B % 2 : Nat) : Int) = 1)) h)) ?_;refine .op rfl (Zaw rfl rfl rfl rfl) ?_;refine .nil (fun hG => ?_);refine AOps.nil ?_;exact ARun.ag (run (dirB dir neg (decide (((c % B % 2 : Nat) : Int) = 1)) h) (by rw [e2]; rfl))
  rintro u hj
  try dsimp only at hj ⊢
  refine Zny (S := Nat) (fun c1 : Nat => [(33, .any), (34, .any), (35, .any), (10, numD c1)]) (fun c1 : Nat => c1 = rnd dir neg (c, b, h)) (fun run => ?_) ?_
  · skip
    refine ARun.cond rfl (fun hu => ?_) (fun hu => ?_)
    · skip
      refine gn ?_;refine Za rfl (Znq (Zd rfl rfl rfl rfl rfl rfl rfl rfl rfl rfl rfl (by decide) (by decide) rfl) ZO) ?_;refine Zc rfl rfl (ZlS c 1 lc fit_1 (fitW hc1 (by omega))) ?_;refine zza ?_; refine AOps.nil ?_;exact ARun.ag (run (c + 1) (by unfold rnd; rw [if_pos (by rw [← hj]; exact hu)]))
    refine ARun.skip ?_;exact ARun.ag (run (c) (by unfold rnd; rw [if_neg (by rw [← hj, hu]; decide)]))
  rintro c1 hj
  try dsimp only at hj ⊢
  have hcc : c1 < 10 ^ 9799 := by
    have : c1 ≤ c + 1 := by rw [hj]; unfold rnd; split <;> omega
    exact Nat.lt_of_le_of_lt this (@ZG _ _ 9799 hc1 (by omega))
  rw [← hj];refine go ?_;refine zdr 9 mixC ?_;refine gd ?_;refine .op rfl (ZbJ rfl rfl Zjw (Ze6 c1 hcc)) ?_;refine zdf ?_;refine zdf ?_;refine zdl ?_;refine .op rfl (Zaa rfl rfl rfl) ?_;refine .nil (fun hG => ?_);refine AOps.nil ?_;refine Znp rfl (fun h2 => ?_) (fun h2 => ?_)
  · skip
    have h3 : 10 ^ fP f ≤ c1 := Zgx.1 (by omega);refine gn ?_;refine Za rfl (Zk rfl rfl (ZY (by omega) (by omega))) ?_;refine Za rfl (ZbJ rfl rfl ZiI (Zei (fP f - 1) (by omega))) ?_;refine Zr ?_;refine Za rfl (Zf rfl rfl (IntWalk.i64_in _ (by omega))) ?_;refine go ?_;refine ZnA ?_;rw [if_pos h3, if_pos h3]; try rfl
  have h3 : ¬ 10 ^ fP f ≤ c1 := fun h3 => h2 (by have := Zgx.2 h3; omega)
  refine go ?_;refine ZnA ?_;rw [if_neg h3, if_neg h3]; try rfl
theorem ten_step {c c' : Nat} {q r : Int} (hq : q ≤ r) (h : c = c' * 10 ^ (r - q).toNat) (h10 : c' % 10 = 0) : c = c' / 10 * 10 ^ (r + 1 - q).toNat := by
  rw [show (r + 1 - q).toNat = (r - q).toNat + 1 by omega, Nat.pow_succ, Nat.mul_comm _ 10, ← Nat.mul_assoc, show c' / 10 * 10 = c' by omega];exact h
theorem ZkN (f : Int) (neg : Bool) (n d : Nat) (dir prefer : Int) (hf : isF f) (hdr : isDir dir) (hn0 : 0 < n) (hn : n < 10 ^ 9000) (hd0 : 0 < d) (hd : d < 10 ^ 9000) (hH : n < 10 ^ 900 ∨ d < 10 ^ 850) :
    PC C 215 [numbD f neg n d, .int .i64 f, .int .i64 prefer, .clos (dirF dir) []] (fun o => o = .ret (rsD (RS f neg dir prefer ⟨n, d, 0⟩))) := by
  have hp := ZW f;have hb := f_le f;obtain ⟨qq, hqq⟩ := IsQ.ex (p := fP f) (by omega) (fLo f) (x := ⟨n, d, 0⟩) hd0;have hL := Zlp f neg n d hf hn0 hn hd0 hd hH qq hqq
  have hqb : fLo f ≤ qq ∧ qq ≤ 20000 := by
    refine ⟨hqq.1, ?_⟩
    rcases hqq.2.2 with h | h
    · omega
    have := cf_pos hn hd0 (Nat.lt_of_lt_of_le (Nat.pow_pos (Nat.succ_pos 9)) h);omega
  have hcP := hqq.2.1;obtain ⟨⟨c, b, h⟩, hA⟩ : ∃ t, (Nm.mk n d 0).at qq = t := ⟨_, rfl⟩;rw [hA] at hL hcP;have hcP : c < 10 ^ fP f := hcP
  have hRex : b = false → qq ≤ fHi f → ∀ c' q', IsE c qq prefer (fHi f) c' q' → RS f neg dir prefer ⟨n, d, 0⟩ = ⟨finD f neg c' q', 0⟩ := fun h1 h2 c' q' h3 => Zig hn0 hd0 ⟨qq, hqq, .inl ⟨by rw [hA]; exact h1, h2, c', q', by rw [hA]; exact h3, rfl⟩⟩
  have hRin : (b = true ∨ fHi f < qq) → RS f neg dir prefer ⟨n, d, 0⟩ = inx f neg dir qq (c, b, h) := fun h1 => Zig hn0 hd0 ⟨qq, hqq, .inr ⟨by rw [hA]; exact h1, by rw [hA]⟩⟩
  have lc := fitW hcP (by omega);generalize RS f neg dir prefer ⟨n, d, 0⟩ = R at hRex hRin ⊢;refine Znr Tryz.func215 Tryz.ntmps215 Tryz.results215 ?_;refine go ?_;refine zzb ?_;refine go ?_;refine Zc rfl rfl (hL) ?_;refine gn ?_;refine Za rfl (ZbJ rfl rfl m_digit (Zh6)) ?_;refine zzi ?_; refine Zr ?_;apply Znu 25 (fun sj1 => [(25, .any), (26, .any), (27, .any), (28, .any), (29, .bool sj1)]) rfl
  · intro hj1 run1
    try replace hj1 := Zh hj1
    refine zzF ?_; refine zzG ?_; refine zzn ?_; refine ZK ?_;exact AOps.ag run1
  · intro hj1 run1
    try replace hj1 := Zj hj1
    refine Zg ?_; refine Zg ?_; refine Zg ?_; refine ZK ?_;exact AOps.ag run1
  refine Zr ?_;apply Znu 30 (fun sj2 => [(30, .any), (31, .any), (32, .any), (33, .any), (34, .any), (35, .any), (36, .bool sj2)]) rfl
  · intro hj2 run2
    try replace hj2 := Zh hj2
    refine Zr ?_; refine zzf ?_; refine zzf ?_; refine zzl ?_; refine zzi ?_; refine ZK ?_;exact AOps.ag run2
  · intro hj2 run2
    try replace hj2 := Zj hj2
    refine Zg ?_; refine Zg ?_; refine Zg ?_; refine Zg ?_; refine Zg ?_; refine ZK ?_;exact AOps.ag run2
  refine AOps.nil ?_;refine ARun.cond rfl (fun hx => ?_) (fun hx => ?_)
  · skip
    simp only [Bool.and_eq_true, decide_eq_true_eq, Bool.not_eq_true'] at hx;have hx1 := hx.1.2;have hx2 := hx.2;refine go ?_;refine Znw (S := Int × Nat) (fun σ : Int × Nat => [(11, .any), (12, .any), (37, .any), (38, .any), (39, .any), (40, .any), (41, .any), (42, .any), (43, .any), (44, .any), (45, .any), (46, .any), (47, .any), (48, .any), (49, .any), (50, .any), (51, .any), (52, .any), (53, .any), (54, .any), (55, .any), (56, .any), (57, .any), (58, .any), (59, .any), (60, .any), (9, .int .i64 σ.1)]) (fun σ : Int × Nat => [some ⟨[.int .i64 0, .int .i64 0, .bool false, .nilsl, .int .i64 0, .int .i64 0], Zbd, 1, true, none⟩, some ⟨[numD σ.2, .bool b, .int .i64 h], Zcp, 1, true, none⟩]) (fun σ : Int × Nat => qq ≤ σ.1 ∧ σ.1 ≤ 20000 ∧ σ.2 ≤ c ∧ c = σ.2 * 10 ^ (σ.1 - qq).toNat ∧ (σ.1 = qq ∨ σ.1 ≤ prefer ∧ σ.1 ≤ fHi f)) (fun σ : Int × Nat => (fHi f - σ.1).toNat) ((qq, c)) ?_ ?_
    · exact ⟨Int.le_refl _, hqb.2, Nat.le_refl _, by simp, .inl rfl⟩
    rintro ⟨r, c'⟩ hinv ih;dsimp only at hinv ih ⊢;obtain ⟨i1, i2, i3, i4, i5⟩ := hinv;have lc' := Nat.le_trans (Zn i3) lc;refine ARun.seq (zzs ?_); refine Zr ?_; refine Zr ?_; refine zzi ?_; refine Zr ?_;apply Znu 40 (fun sj3 => [(40, .any), (41, .any), (42, .any), (43, .any), (44, .any), (45, .any), (46, .bool sj3)]) rfl
    · intro hj3 run3
      try replace hj3 := Zh hj3
      refine Zr ?_; refine zzf ?_; refine zzf ?_; refine zzl ?_; refine zzi ?_; refine ZK ?_;exact AOps.ag run3
    · intro hj3 run3
      try replace hj3 := Zj hj3
      refine Zg ?_; refine Zg ?_; refine Zg ?_; refine Zg ?_; refine Zg ?_; refine ZK ?_;exact AOps.ag run3
    refine AOps.nil ?_;refine ARun.cond rfl (fun hy => ?_) (fun hy => ?_)
    · skip
      simp only [Bool.and_eq_true, decide_eq_true_eq] at hy;refine gn ?_;refine Za rfl (Znq (Zd rfl rfl rfl rfl rfl rfl rfl rfl rfl rfl rfl (by decide) (by decide) rfl) ZeT) ?_;refine Zc rfl rfl (Zdi c' 10 lc' fit_10 (by omega)) ?_;refine go ?_;refine Znp rfl (fun hz => ?_) (fun hz => ?_)
      · skip
        have h10 : c' % 10 ≠ 0 := ZB.1 (by omega);refine ARun.exit rfl ?_;refine go ?_;refine Zc rfl rfl (ZdL f neg (lim c') r) ?_;refine go ?_;refine Zns ?_;rw [hRex hx1 hx2 c' r ⟨i1, i4, i5, .inr (.inr h10)⟩]; try rfl
      have h10 : c' % 10 = 0 := by
        rcases Nat.eq_zero_or_pos (c' % 10) with h0 | h0
        · exact h0
        have := ZB.2 (show c' % 10 ≠ 0 by omega); omega
      refine gn ?_;refine Za rfl (Zf rfl rfl (IntWalk.i64_in _ (by omega))) ?_;refine go ?_;refine ARun.ag (ih ((r + 1, c' / 10)) ?_ ?_)
      · exact ⟨by omega, by omega, by omega, ten_step i1 i4 h10, .inr (by omega)⟩
      omega
    simp only [Bool.and_eq_false_iff, decide_eq_false_iff_not] at hy;refine ARun.exit rfl ?_;refine go ?_;refine Zc rfl rfl (ZdL f neg (lim c') r) ?_;refine go ?_;refine Zns ?_;rw [hRex hx1 hx2 c' r ⟨i1, i4, i5, by omega⟩]; try rfl
  have hR := hRin (by
    simp only [Bool.and_eq_false_iff, decide_eq_false_iff_not, Bool.not_eq_false'] at hx
    rcases hx with (hx | hx) | hx
    · exact absurd hx (by decide)
    · exact .inl hx
    exact .inr (by omega))
  refine ARun.skip (zzs ?_); refine zza ?_; refine AOps.nil (ARun.seq (zzs ?_)); refine zzF ?_; refine zzG ?_; refine AOps.nil ?_;refine Zny (S := Int) (fun fl : Int => [(71, .any), (72, .any), (73, .any), (74, .any), (75, .any), (76, .any), (77, .any), (78, .any), (79, .any), (80, .any), (81, .any), (82, .any), (13, .int .i64 fl)]) (fun fl : Int => fl = (if b then (if c < 10 ^ (fP f - 1) then 24 else 16) else 0)) (fun run => ?_) ?_
  · skip
    refine ARun.cond rfl (fun hbb => ?_) (fun hbb => ?_)
    · skip
      refine go ?_;refine zdr 10 mixC ?_;refine zdf ?_;refine zdf ?_;refine zdl ?_;refine .op rfl (ZZ rfl rfl rfl (by decide)) ?_;refine .op rfl (ZC rfl rfl rfl rfl rfl) ?_;refine .op rfl (ZbJ rfl rfl Zjw (Ze6 c (@ZG _ _ 9799 hcP (by omega)))) ?_;refine zdf ?_;refine zdf ?_;refine zdl ?_;refine .op rfl (Zaa rfl rfl rfl) ?_;refine .nil (fun hG => ?_);refine AOps.nil ?_;refine Znp rfl (fun hs => ?_) (fun hs => ?_)
      · skip
        have hs2 : c < 10 ^ (fP f - 1) := Zgw.1 (by omega);refine ARun.region ?_; refine Zr ?_; refine zzi ?_; refine zza ?_; refine AOps.nil ?_;exact ARun.ag (run (24) (by rw [if_pos hbb, if_pos hs2]))
      have hs2 : ¬ c < 10 ^ (fP f - 1) := fun h4 => hs (by have := Zgw.2 h4; omega)
      refine ARun.skip ?_;exact ARun.ag (run (16) (by rw [if_pos hbb, if_neg hs2]))
    refine ARun.skip ?_;exact ARun.ag (run (0) (by have hbb : b = false := hbb; rw [if_neg (by rw [hbb]; decide)]))
  rintro fl hj
  try dsimp only at hj ⊢
  refine go ?_;refine Zc rfl rfl (ZjR f neg n d qq c b h dir hdr (@ZG _ _ 9600 hcP (by omega)) (by omega)) ?_;refine Zr ?_; refine zze ?_; refine zze ?_; refine zza ?_; refine zza ?_; refine AOps.nil (ARun.seq (zzs ?_)); refine Zr ?_; refine zzf ?_; refine zzf ?_; refine zzl ?_; refine zzi ?_; refine AOps.nil ?_;rw [hR];unfold inx;refine Znp rfl (fun ho => ?_) (fun ho => ?_)
  · skip
    refine go ?_;refine Zc rfl rfl (Zi4 neg f dir hf hdr) ?_;refine go ?_;refine Zns ?_;rw [if_pos ho]; try rfl
  refine go ?_;refine Zc rfl rfl (ZdL f neg (lim (if 10 ^ fP f ≤ rnd dir neg (c, b, h) then 10 ^ (fP f - 1) else rnd dir neg (c, b, h))) (if 10 ^ fP f ≤ rnd dir neg (c, b, h) then qq + 1 else qq)) ?_;refine go ?_;refine Zns ?_;rw [if_neg ho, hj]; try rfl
theorem ZkO (a b : Nat) (ha : (lim a).length ≤ 1024) (hb : (lim b).length ≤ 1024) : PC C 267 [numD a, numD b] (fun o => o = .ret (numD (Nat.gcd a b))) := by
  refine Znr Tryz.func267 Tryz.ntmps267 Tryz.results267 ?_;refine go ?_;refine Znw (S := Nat × Nat) (fun σ : Nat × Nat => [(5, .any), (6, .any), (7, .any), (8, .any), (9, .any), (10, .any), (11, .any), (12, .any), (13, .any), (14, .any), (15, .any), (16, .any), (17, .any), (0, numD σ.1), (1, numD σ.2)]) (fun σ : Nat × Nat => []) (fun σ : Nat × Nat => Nat.gcd σ.1 σ.2 = Nat.gcd a b ∧ (lim σ.1).length ≤ 1024 ∧ (lim σ.2).length ≤ 1024) (fun σ : Nat × Nat => σ.2) ((a, b)) ?_ ?_
  · exact ⟨rfl, ha, hb⟩
  rintro ⟨x, y⟩ hinv ih;dsimp only at hinv ih ⊢;obtain ⟨i1, i2, i3⟩ := hinv;refine go ?_;refine Znp rfl (fun h => ?_) (fun h => ?_)
  · skip
    have h0 : 0 < y := Nat.pos_of_ne_zero (ZB.1 (by omega));refine go ?_;refine Zc rfl rfl (ZcR ZbI x y (by omega) (by omega) h0) ?_;refine go ?_;refine ARun.ag (ih ((y, x % y)) ?_ ?_)
    · exact ⟨by rw [← i1, Nat.gcd_comm x y, Nat.gcd_comm y (x % y), ← Nat.gcd_rec], i3, Nat.le_trans (Zn (Nat.mod_le _ _)) i2⟩
    exact Nat.mod_lt _ h0
  have h0 : y = 0 := by
    rcases Nat.eq_zero_or_pos y with h0 | h0
    · exact h0
    have := ZB.2 (show y ≠ 0 by omega); omega
  subst h0;rw [Nat.gcd_zero_right] at i1;refine ARun.exit rfl ?_;refine go ?_;refine Zno ?_;rw [i1]; try rfl
theorem nGcd (a b : Nat) (ha : (lim a).length ≤ 1024) (hb : (lim b).length ≤ 1024) (hb0 : 0 < b) : PC C 204 [numD a, numD b] (fun o => o = .ret (.tup [numD (Nat.gcd a b), .int .i64 0])) := by
  have hg : (lim (Nat.gcd a b)).length ≤ 1024 := Nat.le_trans (Zn (Nat.gcd_le_right _ hb0)) hb
  have hm := ZbT (lim a) (lim b) (Zz a) (Zz b) 267 (.inl (Nat.gcd a b)) (fun x y h1 h2 _ _ => by
    have e1 : a = x := by rw [← Zl a, h1, Zl]
    have e2 : b = y := by rw [← Zl b, h2, Zl]
    subst e1 e2
    exact ZkO _ _ ha hb)
  rw [Zhl (ZaE ha) (ZaE hb) hg] at hm;refine Znr Tryz.func204 Tryz.ntmps204 Tryz.results204 ?_;refine go ?_;refine Zc rfl rfl (hm) ?_;refine go ?_;refine ZnA ?_;rfl
theorem Ze7 (e : Int) : PC C 135 [.bool true, .int .i64 e] (fun o => o = .ret (.tup [])) := by
  refine Znr Tryz.func135 Tryz.ntmps135 Tryz.results135 ?_;refine go ?_;refine Znx rfl ?_;refine ARun.skip ?_;refine ARun.nil ?_;refine ⟨_, _, _, .nil, .nil, rfl, ?_⟩;rfl
theorem Zd3 : PC C 205 [.int .i64 0] (fun o => o = .ret (.tup [])) := by
  refine Znr Tryz.func205 Tryz.ntmps205 Tryz.results205 ?_;refine go ?_;refine Znx rfl ?_;refine ARun.skip ?_;refine ARun.nil ?_;refine ⟨_, _, _, .nil, .nil, rfl, ?_⟩;rfl
theorem Zer (a b : Nat) (ha : (lim a).length ≤ 1024) (hb : (lim b).length ≤ 1024) (h : 0 < b) : PC C 206 [numD a, numD b] (fun o => o = .ret (.tup [numD (a / b), numD (a % b)])) := by
  refine Znr Tryz.func206 Tryz.ntmps206 Tryz.results206 ?_;refine go ?_;refine Zc rfl rfl (nDiv a b ha hb h) ?_;refine go ?_;refine Zc rfl rfl (Zd3) ?_;refine go ?_;refine ZnA ?_;rfl
theorem Ze8 (b : Bool) (n : Nat) : PC C 195 [.bool b, numD n] (fun o => o = .ret (intD (sgnd b n))) := by
  have fin : ∀ c : Bool, c = (b && decide (0 < n)) → D.agg [.bool c, numD n] = intD (sgnd b n) := fun c hc => by rw [intD, Zw, ZaO, hc]
  refine Znr Tryz.func195 Tryz.ntmps195 Tryz.results195 ?_;refine zzs ?_; refine zzA ?_; refine zzt ?_; refine Zr ?_; refine Zr ?_;refine AOps.bool 6 rfl (fun h => ?_) (fun h => ?_)
  · skip
    refine go ?_;refine Zns ?_;rw [← fin (decide (((lim n).length : Int) > 0)) (by rw [h, Bool.true_and]; exact decide_eq_decide.2 ⟨fun h => by have := ZB.1 (show 0 < (lim n).length by omega); omega, fun h => by have := ZB.2 (show n ≠ 0 by omega); omega⟩)]
    try rfl
  refine go ?_;refine Zns ?_;rw [← fin false (by rw [h]; rfl)]
  try rfl
abbrev ratD (z : Int) (d : Nat) : D := .agg [.bool (decide (z < 0)), numD z.natAbs, numD d]
theorem wValid (z : Int) (h : fitZ z) : PC C 193 [intD z] (fun o => o = .ret (.bool true)) :=
  (ZiZ (decide (z < 0), lim z.natAbs)).mono fun o ho => by rw [ho, ZfW h]
theorem ZkP (z : Int) (d : Nat) (hz : fitZ z) (hd : (lim d).length ≤ 1024) (hd0 : 0 < d) : PC C 194 [intD z, numD d] (fun o => o = .ret (ratD (sgnd (decide (z < 0)) (z.natAbs / Nat.gcd z.natAbs d)) (d / Nat.gcd z.natAbs d))) := by
  have hg : (lim (Nat.gcd z.natAbs d)).length ≤ 1024 := Nat.le_trans (Zn (Nat.gcd_le_right _ hd0)) hd;have hg0 : 0 < Nat.gcd z.natAbs d := Nat.gcd_pos_of_pos_right _ hd0;refine Znr Tryz.func194 Tryz.ntmps194 Tryz.results194 ?_;refine go ?_;refine zzb ?_;refine go ?_;refine Zc rfl rfl (nGcd z.natAbs d hz hd hd0) ?_;refine go ?_;refine Zc rfl rfl (Zd3) ?_;refine go ?_;refine Zc rfl rfl (Zer z.natAbs (Nat.gcd z.natAbs d) hz hg hg0) ?_;refine go ?_;refine Zc rfl rfl (Zer d (Nat.gcd z.natAbs d) hd hg hg0) ?_;refine go ?_;refine Zc rfl rfl (Ze8 (decide (z < 0)) (z.natAbs / Nat.gcd z.natAbs d)) ?_;refine go ?_;refine Zns ?_;rfl
theorem Zmu (H : Heap) : DC C 129 H [.ptr 0 0, .ptr 1 0] .returning (fun m' H' => m' = .returning ∧ H' = H) := by
  refine DC.of_run ZcN Zez rfl ZeA (by rw [ZeB]) (fun _ h => by cases h) (by simp only [List.length_cons, List.length_nil, Nat.reduceAdd, Nat.reduceSub, List.replicate_succ, List.replicate_zero, List.cons_append, List.nil_append, recD, Zu, List.set_cons_succ, List.set_cons_zero]; exact rfl) rfl (by simp only [recD, Zu, List.set_cons_succ, List.set_cons_zero]; exact rfl) ?_;refine gn ?_;refine Za rfl (ZeJ (by kernel_rfl) rfl) ?_;refine AOps.nil ?_;refine Znz rfl ?_;refine ARun.ret ?_;exact ⟨rfl, rfl, rfl⟩
theorem sgn_self (z : Int) (b : Bool) (h : b = decide (z < 0)) : sgnd b z.natAbs = z := by
  subst h; unfold sgnd
  by_cases h : z < 0
  · rw [decide_eq_true h]; simp only [cond_true]; omega
  rw [decide_eq_false h]; simp only [cond_false]; omega
theorem ZhF (z : Int) (d : Nat) (hz : fitZ z) (hd : (lim d).length ≤ 1024) (hd0 : 0 < d) : PC C 114 [intD z, .agg [.bool false, numD d]] (fun o => o = .ret (.tup [ratD (sgnd (decide (z < 0)) (z.natAbs / Nat.gcd z.natAbs d)) (d / Nat.gcd z.natAbs d), .int .i64 0])) := by
  have hdz : PC C 193 [.agg [.bool false, numD d]] (fun o => o = .ret (.bool true)) := by
    have := wValid (d : Int) hd;exact this
  have hl : 0 < (lim d).length := ZB.2 (by omega)
  have hs : PC C 195 [.bool (decide (z < 0)), numD z.natAbs] (fun o => o = .ret (intD z)) := (Ze8 (decide (z < 0)) z.natAbs).mono fun o ho => by rw [ho, sgn_self z _ rfl]
  refine Znr Tryz.func114 Tryz.ntmps114 Tryz.results114 ?_;refine go ?_;refine zzb ?_; refine zzb ?_; refine zzA ?_; refine zzA ?_; refine zzt ?_;refine Zc0 rfl rfl rfl ?_;refine go ?_;refine Zc rfl rfl (wValid z hz) ?_;refine go ?_;refine Zc rfl rfl (hdz) ?_;refine ZK ?_;refine Zc rfl rfl (Ze7 1) ?_;refine gn ?_;refine Za rfl (Znq (d' := .bool true) (Zaa rfl rfl rfl) (congrArg D.bool (decide_eq_true (by omega)))) ?_;refine Zc rfl rfl (Ze7 8) ?_;refine go ?_;refine zdr 11 mixC ?_;refine zdf ?_;refine zdl ?_;refine zdf ?_;refine zdl ?_;refine .op rfl (Znq (d' := .bool (decide (z < 0))) (Zbu rfl rfl rfl) (congrArg D.bool (by cases decide (z < 0) <;> rfl))) ?_;refine gd ?_;refine .op rfl (Zb rfl rfl (hs)) ?_;refine gd ?_;refine .op rfl (Zb rfl rfl (ZkP z d hz hd hd0)) ?_;refine .nil (fun hG => ?_);refine go ?_;refine ARun.ret ?_;refine DC.mono (Zmu _) ?_;rintro _ _ ⟨rfl, rfl⟩;exact ⟨_, _, _, Znt rfl rfl rfl rfl rfl rfl (Znv rfl rfl rfl rfl rfl .nil), .cons (.same _) (.cons (.same _) .nil), rfl, rfl⟩
theorem Zh7 (z : Int) (d : Nat) (hz : fitZ z) (hd : (lim d).length ≤ 1024) (hd0 : 0 < d) (hg : Nat.gcd z.natAbs d = 1) : PC C 203 [ratD z d] (fun o => o = .ret (.bool true)) := by
  have hG := nGcd z.natAbs d hz hd hd0;rw [hg, ← ZO] at hG
  have hl : (lim d).length ≠ 0 := by have := ZB.2 (show d ≠ 0 by omega); omega
  refine Znr Tryz.func203 Tryz.ntmps203 Tryz.results203 ?_;refine go ?_;refine zzb ?_;refine go ?_;refine Zc rfl rfl (wValid z hz) ?_;refine go ?_;refine Zc rfl rfl (Zkv hd) ?_;refine gn ?_;refine Za rfl (Znq (d' := .bool false) (Zaa rfl rfl rfl) (congrArg D.bool (beq_eq_false_iff_ne.2 (by omega)))) ?_;refine go ?_;refine Znx rfl ?_;refine go ?_;refine Zc rfl rfl (hG) ?_;refine go ?_;refine Za rfl (Zm rfl rfl rfl rfl (by decide) (by decide) (by simp) rfl) ?_;refine go ?_;refine Zno ?_;rfl
theorem Zj8 (H : Heap) : DC C 210 H [.ptr 0 0, .ptr 1 0] .returning (fun m' H' => m' = .returning ∧ H' = H) := by
  refine DC.of_run ZbY ZdY rfl ZdZ (by rw [Zd0]) (fun _ h => by cases h) (by simp only [List.length_cons, List.length_nil, Nat.reduceAdd, Nat.reduceSub, List.replicate_succ, List.replicate_zero, List.cons_append, List.nil_append, recD, Zu, List.set_cons_succ, List.set_cons_zero]; exact rfl) rfl (by simp only [recD, Zu, List.set_cons_succ, List.set_cons_zero]; exact rfl) ?_;refine gn ?_;refine Za rfl (ZeJ (by kernel_rfl) rfl) ?_;refine AOps.nil ?_;refine Znz rfl ?_;refine ARun.ret ?_;exact ⟨rfl, rfl, rfl⟩
theorem Zj9 (z : Int) (d : Nat) (neg : Bool) (f dir prefer : Int) (hf : isF f) (hdr : isDir dir) (hz : z.natAbs < 10 ^ 9000) (hd0 : 0 < d) (hd : d < 10 ^ 9000) (hH : z.natAbs < 10 ^ 900 ∨ d < 10 ^ 850) (hg : Nat.gcd z.natAbs d = 1) :
    PC C 132 [ratD z d, .bool neg, .int .i64 f, .int .i64 dir, .int .i64 prefer] (fun o => o = .ret (.tup [rsD (RS f (if z = 0 then neg else decide (z < 0)) dir prefer ⟨z.natAbs, d, 0⟩), .int .i64 0])) := by
  have lz := fitW hz (by omega);have ld := fitW hd (by omega);refine Znr Tryz.func132 Tryz.ntmps132 Tryz.results132 ?_;refine go ?_;refine zzb ?_; refine zzA ?_; refine zzA ?_; refine zzt ?_;refine Zc0 rfl rfl rfl ?_;refine go ?_;refine Zc rfl rfl (Zh7 z d lz ld hd0 hg) ?_;refine Zc rfl rfl (ZgG) ?_;refine go ?_;refine Zc rfl rfl (ZfA f hf) ?_;refine Zr ?_;refine Zc rfl rfl (Ziq dir hdr) ?_;refine ZI rfl rfl rfl rfl rfl rfl rfl rfl rfl rfl rfl ?_;refine go ?_;refine Znp rfl (fun h => ?_) (fun h => ?_)
  · skip
    have h0 : z = 0 := by
      rcases Nat.eq_zero_or_pos z.natAbs with h0 | h0
      · omega
      have := ZB.2 (show z.natAbs ≠ 0 by omega); omega
    refine go ?_;refine Zc rfl rfl (ZlU neg f prefer hf) ?_;refine go ?_;refine ARun.ret ?_;refine DC.mono (Zj8 _) ?_;rintro _ _ ⟨rfl, rfl⟩;exact ⟨_, _, _, Znt rfl rfl rfl rfl rfl rfl (Znv rfl rfl rfl rfl rfl .nil), .cons (.same _) (.cons (.same _) .nil), rfl, by rw [if_pos h0, ZcF (show Nm.n ⟨z.natAbs, d, 0⟩ = 0 by rw [h0]; rfl)]; rfl⟩
  have h0 : 0 < z.natAbs := by
    rcases Nat.eq_zero_or_pos z.natAbs with h0 | h0
    · rw [h0, Za9] at h; omega
    exact h0
  have h1 : z ≠ 0 := by omega
  refine go ?_;refine Zc rfl rfl (ZkN f (decide (z < 0)) z.natAbs d dir prefer hf hdr h0 hz hd0 hd hH) ?_;refine go ?_;refine ARun.ret ?_;refine DC.mono (Zj8 _) ?_;rintro _ _ ⟨rfl, rfl⟩;exact ⟨_, _, _, Znt rfl rfl rfl rfl rfl rfl (Znv rfl rfl rfl rfl rfl .nil), .cons (.same _) (.cons (.same _) .nil), rfl, by rw [if_neg h1]; rfl⟩
abbrev ZdI (e : Int) : D := .iface ZiL (.agg [.int .i64 e])
abbrev invD : D := .iface ZiM (.agg [])
theorem Ze9 (ok : Bool) (e : Int) : PC C 145 [.bool ok, .int .i64 e] (fun o => (ok = true ∧ o = .ret (.tup [])) ∨ (ok = false ∧ o = .pan (ZdI e))) := by
  refine Znr Tryz.func145 Tryz.ntmps145 Tryz.results145 ?_;refine go ?_;refine ARun.cond rfl (fun h => ?_) (fun h => ?_)
  · skip
    refine gn ?_;refine Za rfl (ZH rfl rfl rfl) ?_;exact Zix rfl rfl ⟨_, _, .same _, rfl, .inr ⟨by simpa using h, rfl⟩⟩
  refine ARun.skip ?_;refine ARun.nil ?_;refine ⟨_, _, _, .nil, .nil, rfl, ?_⟩;exact .inl ⟨by simpa using h, rfl⟩
theorem ZbE (ok : Bool) : PC C 79 [.bool ok] (fun o => (ok = true ∧ o = .ret (.tup [])) ∨ (ok = false ∧ o = .pan invD)) := by
  refine Znr Tryz.func79 Tryz.ntmps79 Tryz.results79 ?_;refine go ?_;refine ARun.cond rfl (fun h => ?_) (fun h => ?_)
  · skip
    refine gn ?_;refine Za rfl (ZH rfl rfl rfl) ?_;exact Zix rfl rfl ⟨_, _, .same _, rfl, .inr ⟨by simpa using h, rfl⟩⟩
  refine ARun.skip ?_;refine ARun.nil ?_;refine ⟨_, _, _, .nil, .nil, rfl, ?_⟩;exact .inl ⟨by simpa using h, rfl⟩
theorem ZaS (n : Nat) (h : n ≤ 9799) : PC C 96 [.int .i64 (n : Int)] (fun o => o = .ret (numD (10 ^ n))) := by
  refine Znr Tryz.func96 Tryz.ntmps96 Tryz.results96 ?_;refine gn ?_;refine Za rfl (Znq (Zd rfl rfl rfl rfl rfl rfl rfl rfl rfl rfl rfl (by decide) (by decide) rfl) ZeT) ?_;refine Zr ?_;refine Zc rfl rfl (nTen n h) ?_;refine go ?_;refine Zno ?_;rfl
theorem wMul (x y : Int) (hx : fitZ x) (hy : fitZ y) (h : fitZ (x * y)) : PC C 160 [intD x, intD y] (fun o => o = .ret (.tup [intD (x * y), .int .i64 0])) := by
  have := ZmS (decide (x < 0), lim x.natAbs) (decide (y < 0), lim y.natAbs) (Zz _) (Zz _);rw [Zbm, Zbm] at this
  refine this.mono fun o ho => ?_
  rw [ho, show [(decide (x < 0), lim x.natAbs), (decide (y < 0), lim y.natAbs)].all okI = true by simp only [List.all_cons, List.all_nil, ZfW hx, ZfW hy, Bool.and_self]];unfold fitO; rw [if_pos h]; rfl
theorem wAdd (x y : Int) (hx : fitZ x) (hy : fitZ y) (h : fitZ (x + y)) : PC C 98 [intD x, intD y] (fun o => o = .ret (.tup [intD (x + y), .int .i64 0])) := by
  have := ZmR (decide (x < 0), lim x.natAbs) (decide (y < 0), lim y.natAbs) (Zz _) (Zz _);rw [Zbm, Zbm] at this
  refine this.mono fun o ho => ?_
  rw [ho, show [(decide (x < 0), lim x.natAbs), (decide (y < 0), lim y.natAbs)].all okI = true by simp only [List.all_cons, List.all_nil, ZfW hx, ZfW hy, Bool.and_self]];unfold fitO; rw [if_pos h]; rfl
theorem Zej (x : Int) (b : Nat) (hx : fitZ x) (hb : (lim b).length ≤ 1024) (h : fitZ (x * b)) : PC C 99 [intD x, numD b] (fun o => o = .ret (intD (x * b))) := by
  have hm : PC C 160 [intD x, .agg [.bool false, numD b]] (fun o => o = .ret (.tup [intD (x * b), .int .i64 0])) := wMul x (b : Int) hx hb h;refine Znr Tryz.func99 Tryz.ntmps99 Tryz.results99 ?_;refine zzs ?_;refine Zq rfl (Zdu rfl rfl rfl) ?_;refine go ?_;refine Zc rfl rfl (hm) ?_;refine ga ?_;refine ZI rfl rfl rfl rfl rfl rfl rfl rfl rfl rfl rfl ?_;refine go ?_;refine Zns ?_;rfl
abbrev fmtD (f dir : Int) : D := .agg [.int .i64 f, .int .i64 (fP f : Nat), .int .i64 (fLo f), .int .i64 (fHi f), .int .i64 dir]
theorem ZjS (r : Rs) (f dir : Int) : PC C 369 [rsD r, fmtD f dir] (fun o => o = .ret (rsD r)) := by
  refine Znr Tryz.func369 Tryz.ntmps369 Tryz.results369 ?_;refine go ?_;refine zzb ?_; refine zzb ?_;refine go ?_;refine Zns ?_;rfl
theorem Zdo (d : Dt) : PC C 118 [dtD d] (fun o => o = .ret (.bool (d.cls == 3 || d.cls == 4))) := by
  refine Znr Tryz.func118 Tryz.ntmps118 Tryz.results118 ?_;refine go ?_;refine zzb ?_; refine zza ?_; refine zzt ?_; refine zzf ?_; refine zzl ?_; refine zzi ?_; refine Zr ?_;apply ZnB 6 (fun sj1 => [(6, .any), (7, .any), (8, .any), (9, .any), (10, .bool sj1)]) rfl
  · intro hj1 run1
    try replace hj1 := Zh hj1
    refine Zg ?_; refine Zg ?_; refine Zg ?_; refine ZK ?_;exact AOps.ag run1
  · intro hj1 run1
    try replace hj1 := Zj hj1
    refine zzf ?_; refine zzl ?_; refine zzi ?_; refine ZK ?_;exact AOps.ag run1
  refine go ?_;refine Zno ?_;rfl
theorem ZlV (d : Dt) : PC C 224 [dtD d] (fun o => o = .ret (.bool (d.cls == 4))) := by
  refine Znr Tryz.func224 Tryz.ntmps224 Tryz.results224 ?_;refine go ?_;refine zzb ?_;refine go ?_;refine Zno ?_;rfl
theorem Z3 (d : Dt) : PC C 81 [dtD d] (fun o => o = .ret (.bool (d.cls == 2))) := by
  refine Znr Tryz.func81 Tryz.ntmps81 Tryz.results81 ?_;refine go ?_;refine zzb ?_;refine go ?_;refine Zno ?_;rfl
theorem Zcg (d : Dt) : PC C 85 [dtD d] (fun o => o = .ret (.bool (d.cls == 1 && ((d.coef.length : Nat) : Int) == 0))) := by
  refine Znr Tryz.func85 Tryz.ntmps85 Tryz.results85 ?_;refine go ?_;refine zzb ?_; refine zza ?_; refine zzt ?_; refine zzf ?_; refine zzl ?_; refine zzi ?_; refine Zr ?_;apply Znu 6 (fun sj1 => [(6, .any), (7, .any), (8, .any), (9, .any), (10, .any), (11, .bool sj1)]) rfl
  · intro hj1 run1
    try replace hj1 := Zh hj1
    refine zzf ?_; refine zzl ?_; refine zzN ?_; refine zzi ?_; refine ZK ?_;exact AOps.ag run1
  · intro hj1 run1
    try replace hj1 := Zj hj1
    refine Zg ?_; refine Zg ?_; refine Zg ?_; refine Zg ?_; refine ZK ?_;exact AOps.ag run1
  refine go ?_;refine Zno ?_;rfl
theorem Zbg (d : Dt) (h : d.coef.length ≤ 35184372088832) : PC C 103 [dtD d] (fun o => o = .ret (dtD d)) := by
  refine Znr Tryz.func103 Tryz.ntmps103 Tryz.results103 ?_;refine zzs ?_;refine Zq rfl (Zdu rfl rfl rfl) ?_;refine go ?_;refine Zc rfl rfl (Zj3 d.coef h) ?_;refine go ?_;refine Zns ?_;rfl
theorem Zbw (f dir : Int) (neg : Bool) (fl : Int) : PC C 82 [fmtD f dir, .bool neg, .int .i64 fl] (fun o => o = .ret (rsD ⟨infD f neg, fl⟩)) := by
  refine Znr Tryz.func82 Tryz.ntmps82 Tryz.results82 ?_;refine go ?_;refine zzb ?_;refine go ?_;refine ARun.ret ?_;refine ⟨_, _, _, Znt rfl rfl rfl rfl rfl rfl .nil, .cons (ZfY f 2 neg 0 fl) .nil, rfl, ?_⟩;rfl
abbrev exD (z : Int) (d : Nat) (e : Int) (neg : Bool) (prefer : Int) : D := .agg [.bool (decide (z < 0)), numD z.natAbs, numD d, .int .i64 e, .bool neg, .int .i64 prefer]
def dtZ (d : Dt) : Int := sgnd d.neg (val d.coef)
theorem Zc8 (d : Dt) (n : Nat) (hn : d.coef = lim n) : PC C 108 [dtD d] (fun o => o = .ret (exD (sgnd d.neg n) 1 d.exp d.neg d.exp)) := by
  obtain ⟨f, c, neg, xs, e⟩ := d;obtain rfl : xs = lim n := hn
  have fin : ∀ c : Bool, c = (neg && decide (0 < n)) → D.agg [.bool c, numD n, numD 1, .int .i64 e, .bool neg, .int .i64 e] = exD (sgnd neg n) 1 e neg e := fun c hc => by rw [exD, Zw, ZaO, hc]
  refine Znr Tryz.func108 Tryz.ntmps108 Tryz.results108 ?_;refine go ?_;refine zzb ?_; refine zzA ?_; refine zzt ?_; refine zzf ?_; refine zzl ?_; refine Zr ?_;refine AOps.bool 5 rfl (fun h => ?_) (fun h => ?_)
  · skip
    refine zzf ?_; refine zzl ?_; refine zzN ?_; refine zzi ?_; refine ZK ?_; refine zzf ?_; refine zzl ?_; refine zzB ?_;refine Za rfl (Znq (Zd rfl rfl rfl rfl rfl rfl rfl rfl rfl rfl rfl (by decide) (by decide) rfl) ZO) ?_;refine go ?_;refine Zns ?_;rw [← fin (decide (((lim n).length : Int) > 0)) (by rw [show neg = true from h, Bool.true_and]; exact decide_eq_decide.2 ⟨fun h => by have := ZB.1 (show 0 < (lim n).length by omega); omega, fun h => by have := ZB.2 (show n ≠ 0 by omega); omega⟩)]
    try rfl
  refine gn ?_;refine Za rfl (Znq (Zd rfl rfl rfl rfl rfl rfl rfl rfl rfl rfl rfl (by decide) (by decide) rfl) ZO) ?_;refine go ?_;refine Zns ?_;rw [← fin false (by rw [show neg = false from h]; rfl)]
  try rfl
abbrev rs0 : Option AObj := some ⟨[.int .i64 0, .int .i64 0, .bool false, .nilsl, .int .i64 0, .int .i64 0], Zbd, 1, true, none⟩
abbrev exO (b : Bool) (n d : Nat) (e : Int) (neg : Bool) (prefer : Int) : Option AObj := some ⟨[.bool b, numD n, numD d, .int .i64 e, .bool neg, .int .i64 prefer], ZE, 1, true, none⟩
theorem lowest_eq {n d : Nat} (hd : 0 < d) : (Nm.mk (n / Nat.gcd n d) (d / Nat.gcd n d) 0).eq ⟨n, d, 0⟩ := by
  unfold Nm.eq;have hg : 0 < Nat.gcd n d := Nat.gcd_pos_of_pos_right _ hd;have h1 : n / Nat.gcd n d * Nat.gcd n d = n := Nat.div_mul_cancel (Nat.gcd_dvd_left ..);have h2 : d / Nat.gcd n d * Nat.gcd n d = d := Nat.div_mul_cancel (Nat.gcd_dvd_right ..);show n / Nat.gcd n d * tt (0 - 0) * d = n * tt (0 - 0) * (d / Nat.gcd n d);have : tt (0 - 0) = 1 := rfl;rw [this, Nat.mul_one, Nat.mul_one];generalize n / Nat.gcd n d = x at h1 ⊢;generalize d / Nat.gcd n d = y at h2 ⊢;rw [← h1]
  conv => lhs; rw [← h2]
  ac_rfl
theorem Z0 (b : Bool) (n : Nat) : sgnd b n = 0 ↔ n = 0 := by unfold sgnd; cases b <;> simp
theorem RS_low {f : Int} {dir prefer : Int} {neg : Bool} {z : Int} {d : Nat} (hd : 0 < d) :
    RS f (if sgnd (decide (z < 0)) (z.natAbs / Nat.gcd z.natAbs d) = 0 then neg else decide (sgnd (decide (z < 0)) (z.natAbs / Nat.gcd z.natAbs d) < 0)) dir prefer ⟨(sgnd (decide (z < 0)) (z.natAbs / Nat.gcd z.natAbs d)).natAbs, d / Nat.gcd z.natAbs d, 0⟩ = RS f (if z = 0 then neg else decide (z < 0)) dir prefer ⟨z.natAbs, d, 0⟩ := by
  have hg : 0 < Nat.gcd z.natAbs d := Nat.gcd_pos_of_pos_right _ hd;have hd2 : 0 < d / Nat.gcd z.natAbs d := Nat.div_pos (Nat.gcd_le_right _ hd) hg;rw [Zw];have e1 : RS f (if z = 0 then neg else decide (z < 0)) dir prefer ⟨z.natAbs / Nat.gcd z.natAbs d, d / Nat.gcd z.natAbs d, 0⟩ = RS f (if z = 0 then neg else decide (z < 0)) dir prefer ⟨z.natAbs, d, 0⟩ := Zhb hd2 hd (lowest_eq hd);rw [← e1]
  congr 1
  by_cases h0 : z = 0
  · subst h0; rw [if_pos rfl, if_pos (by rw [Z0]; show 0 / _ = 0; exact Nat.zero_div _)]
  have h1 : 0 < z.natAbs / Nat.gcd z.natAbs d := Nat.div_pos (Nat.gcd_le_left _ (by omega)) hg;rw [if_neg h0, if_neg (by rw [Z0]; omega), ZaO];rw [decide_eq_true h1, Bool.and_true]
theorem gcd_low {z : Int} {d : Nat} (hd : 0 < d) : Nat.gcd (sgnd (decide (z < 0)) (z.natAbs / Nat.gcd z.natAbs d)).natAbs (d / Nat.gcd z.natAbs d) = 1 := by
  rw [Zw];exact Nat.gcd_div_gcd_div_gcd_of_pos_right hd
theorem RS_up {f : Int} {neg : Bool} {dir prefer : Int} {n d : Nat} {e : Int} (hd : 0 < d) (he : 0 ≤ e) : RS f neg dir prefer ⟨n * 10 ^ e.toNat, d, 0⟩ = RS f neg dir prefer ⟨n, d, e⟩ := by
  refine Zhb hd hd ?_;show n * 10 ^ e.toNat * tt (0 - e) * d = n * tt (e - 0) * d
  have h1 : tt (0 - e) = 1 := by unfold tt; rw [show (0 - e).toNat = 0 by omega]
  rw [h1, Nat.mul_one]; unfold tt; rw [Int.sub_zero]
theorem RS_down {f : Int} {neg : Bool} {dir prefer : Int} {n d : Nat} {e : Int} (hd : 0 < d) (he : e ≤ 0) : RS f neg dir prefer ⟨n, d * 10 ^ (-e).toNat, 0⟩ = RS f neg dir prefer ⟨n, d, e⟩ := by
  refine Zhb (Nat.mul_pos hd (Nat.pow_pos (Nat.succ_pos 9))) hd ?_;show n * tt (0 - e) * d = n * tt (e - 0) * (d * 10 ^ (-e).toNat)
  have h1 : tt (e - 0) = 1 := by unfold tt; rw [show (e - 0).toNat = 0 by omega]
  rw [h1, Nat.mul_one]; unfold tt; rw [Int.zero_sub]; ac_rfl
theorem Zdz (z : Int) (n : Nat) : (z * (n : Int)).natAbs = z.natAbs * n := by rw [Int.natAbs_mul, Int.natAbs_natCast]
theorem neg_mulN {z : Int} {n : Nat} (h : 0 < n) : decide (z * (n : Int) < 0) = decide (z < 0) := by
  apply decide_eq_decide.2
  constructor
  · intro h1
    rcases Int.lt_or_le z 0 with h2 | h2
    · exact h2
    have := Int.mul_nonneg h2 (Int.natCast_nonneg n); omega
  intro h1; exact Int.mul_neg_of_neg_of_pos h1 (by omega)
theorem Zkw {z : Int} {n : Nat} (h : 0 < n) : (z * (n : Int) = 0) ↔ z = 0 := by
  rw [Int.mul_eq_zero]; omega
theorem ZkQ (f dir : Int) (z : Int) (d : Nat) (e : Int) (neg : Bool) (prefer : Int) (hf : isF f) (hdr : isDir dir) (hz : z.natAbs < 10 ^ (8 * fP f)) (hd0 : 0 < d) (hd : d < 10 ^ (fP f)) (he : -1000000 ≤ e ∧ e ≤ 1000000) :
    PC C 370 [exD z d e neg prefer, fmtD f dir] (fun o => o = .ret (rsD (RS f (if z = 0 then neg else decide (z < 0)) dir prefer ⟨z.natAbs, d, e⟩))) := by
  have hp := ZW f;have hb := f_le f;have ld := fitW hd (by omega);refine Znr Tryz.func370 Tryz.ntmps370 Tryz.results370 ?_;refine zzs ?_;refine Zq rfl (Zdu rfl rfl rfl) ?_;refine zzb ?_; refine zzA ?_; refine AOps.nil (ARun.seq ?_);refine ZnQ (S := Int × Nat × Int) (fun σ : Int × Nat × Int => [(11, .any), (12, .any), (13, .any), (14, .any), (15, .any), (16, .any), (17, .any), (18, .any), (19, .any), (20, .any), (21, .any), (22, .any), (23, .any), (24, .any), (25, .any), (26, .any), (27, .any), (28, .any), (29, .any), (30, .any), (31, .any), (32, .any), (33, .any), (34, .any), (35, .any), (36, .any), (37, .any), (38, .any), (39, .any), (40, .any), (41, .any), (42, .any), (43, .any), (44, .any), (45, .any), (46, .any), (47, .any), (48, .any), (49, .any), (50, .any), (51, .any), (52, .any), (53, .any), (54, .any), (55, .any), (56, .any), (57, .any), (58, .any), (59, .any)]) (fun σ : Int × Nat × Int => [exO (decide (σ.1 < 0)) σ.1.natAbs σ.2.1 σ.2.2 neg prefer, rs0]) (fun σ : Int × Nat × Int => RS f (if σ.1 = 0 then neg else decide (σ.1 < 0)) dir prefer ⟨σ.1.natAbs, σ.2.1, σ.2.2⟩ = RS f (if z = 0 then neg else decide (z < 0)) dir prefer ⟨z.natAbs, d, e⟩ ∧ σ.1.natAbs < 10 ^ (8 * fP f) ∧ 0 < σ.2.1 ∧ σ.2.1 < 10 ^ (fP f) ∧ (σ.1 = 0 ∨ fLo f - 10 * fP f ≤ σ.2.2) ∧ σ.2.2 ≤ fHi f + 3 * fP f ∧ (σ.1 = 0 → σ.2.2 = 0)) (fun run => ?_) ?_
  · skip
    refine go ?_;refine ARun.cond rfl (fun h => ?_) (fun h => ?_)
    · skip
      have h0 : z = 0 := by
        have h : (((lim z.natAbs).length : Nat) : Int) = 0 := by simpa using h
        rcases Nat.eq_zero_or_pos z.natAbs with h0 | h0
        · omega
        have := ZB.2 (show z.natAbs ≠ 0 by omega); omega
      refine ARun.region ?_; refine zzF ?_; refine zzT ?_; refine AOps.nil (ARun.inBlock ?_);exact ARun.ag (run ((z, d, 0)) (⟨by subst h0; rw [ZcF rfl, ZcF rfl], hz, hd0, hd, .inl h0, by dsimp only; omega, fun _ => rfl⟩))
    have h0 : 0 < z.natAbs := by
      have h : ¬ (((lim z.natAbs).length : Nat) : Int) = 0 := by simpa using h
      rcases Nat.eq_zero_or_pos z.natAbs with h0 | h0
      · rw [h0, Za9] at h; omega
      exact h0
    have hzn : z ≠ 0 := by omega
    have hnear := fin_near (f := f) (neg := if z = 0 then neg else decide (z < 0)) (dir := dir) (prefer := prefer) (e := e) h0 hd0 hz (ZG hd (by omega));refine gn ?_;refine Za rfl (ZaC rfl rfl (IntWalk.i64_in _ (by omega))) ?_;refine Za rfl (Znq (d' := .int .i64 (fHi f + 3 * (fP f : Int))) (Zf rfl rfl (IntWalk.i64_in _ (by omega))) (congrArg (D.int .i64) (by omega))) ?_;refine go ?_;refine ARun.cond rfl (fun h1 => ?_) (fun h1 => ?_)
    · skip
      have h1 : fHi f + 3 * (fP f : Int) < e := Zh h1;refine gn ?_;refine Za rfl (ZaC rfl rfl (IntWalk.i64_in _ (by omega))) ?_;refine Za rfl (Znq (d' := .int .i64 (fHi f + 3 * (fP f : Int))) (Zf rfl rfl (IntWalk.i64_in _ (by omega))) (congrArg (D.int .i64) (by omega))) ?_;refine zzF ?_; refine zzT ?_; refine AOps.nil (ARun.inBlock ?_);exact ARun.ag (run ((z, d, fHi f + 3 * (fP f : Int))) (⟨by rw [hnear, if_pos h1], hz, hd0, hd, .inr (by dsimp only; omega), by dsimp only; omega, fun h => absurd h hzn⟩))
    have h1 : ¬ fHi f + 3 * (fP f : Int) < e := Zj h1;refine gn ?_;refine Za rfl (ZaC rfl rfl (IntWalk.i64_in _ (by omega))) ?_;refine Za rfl (Znq (d' := .int .i64 (fLo f - 10 * (fP f : Int))) (Zk rfl rfl (IntWalk.i64_in _ (by omega))) (congrArg (D.int .i64) (by omega))) ?_;refine go ?_;refine ARun.cond rfl (fun h2 => ?_) (fun h2 => ?_)
    · skip
      have h2 : e < fLo f - 10 * (fP f : Int) := Zh h2;refine ZnD (n := 16) (fun S : Nat → Bool => [some ⟨[.bool (decide (z < 0)), bif S 13 then numD 1 else numD z.natAbs, bif S 15 then numD 1 else numD d, .int .i64 e, .bool neg, .int .i64 prefer], ZE, 1, true, none⟩, rs0]) [] (fun _ => False) (sk := []) mixC rfl rfl (by kernel_rfl) rfl (by kernel_rfl) rfl (fun _ _ _ h => h.elim) ?_;refine DChG.op rfl (fun _ => ZZ rfl rfl rfl (by decide)) (fun _ => rfl) rfl rfl ?_;refine DChG.op rfl (fun _ => ZZ rfl rfl rfl (by decide)) (fun _ => rfl) rfl rfl ?_;refine ZnL rfl (fun S hn hd hc => OpQ.pre (H1 := [some ⟨[.bool (decide (z < 0)), bif false then numD 1 else numD z.natAbs, bif false then numD 1 else numD d, .int .i64 e, .bool neg, .int .i64 prefer], ZE, 1, true, none⟩, rs0]) (by simp only [(clF hc hn (by kernel_rfl) : S 13 = false), (clF hc hn (by kernel_rfl) : S 15 = false)]) (ZC rfl rfl rfl rfl rfl)) (fun _ => rfl) rfl rfl ?_;refine DChG.op rfl (fun _ => Znq (Zd rfl rfl rfl rfl rfl rfl rfl rfl rfl rfl rfl (by decide) (by decide) rfl) ZO) (fun _ => rfl) rfl rfl ?_;refine DChG.op rfl (fun _ => Zal rfl rfl rfl rfl rfl) (fun _ => rfl) rfl rfl ?_;refine DChG.op rfl (fun _ => Znq (Zd rfl rfl rfl rfl rfl rfl rfl rfl rfl rfl rfl (by decide) (by decide) rfl) ZO) (fun _ => rfl) rfl rfl ?_;refine DChG.op rfl (fun _ => Zb7 rfl rfl rfl (by decide)) (fun _ => rfl) rfl rfl ?_;refine DChG.op rfl (fun _ => ZP rfl rfl rfl rfl) (fun _ => rfl) rfl rfl ?_;refine DChG.op rfl (fun _ => Zb7 rfl rfl rfl (by decide)) (fun _ => rfl) rfl rfl ?_;refine DChG.op rfl (fun _ => ZP rfl rfl rfl rfl) (fun _ => rfl) rfl rfl ?_;refine DChG.op rfl (fun _ => ZaC rfl rfl (IntWalk.i64_in _ (by omega))) (fun _ => rfl) rfl rfl ?_;refine DChG.op rfl (fun _ => Znq (d' := .int .i64 (fLo f - 2 * (fP f : Int))) (Zk rfl rfl (IntWalk.i64_in _ (by omega))) (congrArg (D.int .i64) (by omega))) (fun _ => rfl) rfl rfl ?_;refine DChG.op rfl (fun _ => ZZ rfl rfl rfl (by decide)) (fun _ => rfl) rfl rfl ?_;refine ZnM rfl (fun S hn hd hc => ZnN (H1 := [some ⟨[.bool (decide (z < 0)), bif false then numD 1 else numD z.natAbs, bif false then numD 1 else numD d, .int .i64 e, .bool neg, .int .i64 prefer], ZE, 1, true, none⟩, rs0]) (H3 := [some ⟨[.bool (decide (z < 0)), bif true then numD 1 else numD z.natAbs, bif false then numD 1 else numD d, .int .i64 e, .bool neg, .int .i64 prefer], ZE, 1, true, none⟩, rs0]) (by simp only [hn, (clF hc hn (by kernel_rfl) : S 15 = false)]) (by show [some ⟨[.bool (decide (z < 0)), bif true then numD 1 else numD z.natAbs, bif S 15 then numD 1 else numD d, .int .i64 e, .bool neg, .int .i64 prefer], ZE, 1, true, none⟩, rs0] = _; simp only [(clF hc hn (by kernel_rfl) : S 15 = false)]) (Zb2 rfl rfl rfl rfl rfl rfl rfl rfl (Nat.le_of_ble_eq_true rfl) rfl)) rfl rfl ?_;refine DChG.op rfl (fun _ => ZZ rfl rfl rfl (by decide)) (fun _ => rfl) rfl rfl ?_;refine ZnM rfl (fun S hn hd hc => ZnN (H1 := [some ⟨[.bool (decide (z < 0)), bif true then numD 1 else numD z.natAbs, bif false then numD 1 else numD d, .int .i64 e, .bool neg, .int .i64 prefer], ZE, 1, true, none⟩, rs0]) (H3 := [some ⟨[.bool (decide (z < 0)), bif true then numD 1 else numD z.natAbs, bif true then numD 1 else numD d, .int .i64 e, .bool neg, .int .i64 prefer], ZE, 1, true, none⟩, rs0]) (by simp only [hn, (hd 13 (by kernel_rfl) : S 13 = true)]) (by show [some ⟨[.bool (decide (z < 0)), bif S 13 then numD 1 else numD z.natAbs, bif true then numD 1 else numD d, .int .i64 e, .bool neg, .int .i64 prefer], ZE, 1, true, none⟩, rs0] = _; simp only [(hd 13 (by kernel_rfl) : S 13 = true)]) (Zad rfl rfl rfl rfl rfl rfl (Nat.le_of_ble_eq_true rfl) rfl)) rfl rfl ?_;refine .nil (fun hG => AOps.fin (n := 2) (as' := []) (H' := [exO (decide (z < 0)) 1 1 e neg prefer, rs0]) rfl rfl rfl ?_);refine zzF ?_; refine zzT ?_; refine AOps.nil (ARun.inBlock ?_);exact ZnC (run ((sgnd (decide (z < 0)) 1, 1, fLo f - 2 * (fP f : Int))) (⟨by rw [hnear, if_neg h1, if_pos h2, Zw, if_neg (by rw [Z0]; omega), if_neg hzn, ZaO]; rw [show decide (0 < 1) = true from rfl, Bool.and_true], by dsimp only; rw [Zw]; exact Nat.one_lt_pow (by omega) (by omega), Nat.one_pos, Nat.one_lt_pow (by omega) (by omega), .inr (by dsimp only; omega), by dsimp only; omega, fun h => absurd ((Z0 _ _).1 h) (by omega)⟩)) (by (repeat' first | exact Zag | apply Zah | apply Z4)) (by rw [Zw, ZaO, show decide (0 < 1) = true from rfl, Bool.and_true]; rfl)
    have h2 : ¬ e < fLo f - 10 * (fP f : Int) := Zj h2;refine ARun.skip (ARun.inBlock ?_);exact ARun.ag (run ((z, d, e)) (⟨rfl, hz, hd0, hd, .inr (by dsimp only; omega), by dsimp only; omega, fun h => absurd h hzn⟩))
  rintro ⟨z1, d1, e1⟩ hj
  try dsimp only at hj ⊢
  obtain ⟨j1, j2, j3, j4, j5, j6, j7⟩ := hj;rw [← j1];have lz1 := fitW j2 (by omega);have ld1 := fitW j4 (by omega);refine ARun.seq ?_;refine ZnD (n := 6) (fun S : Nat → Bool => [exO (decide (z1 < 0)) z1.natAbs d1 e1 neg prefer, rs0]) [(4, 5, 60, [.bool false, .nilsl], some (5, [.bool (decide (z1 < 0)), numD z1.natAbs]))] (fun _ => False) (sk := [(4, some 5)]) mixC rfl rfl (by kernel_rfl) rfl (by kernel_rfl) rfl (fun _ _ _ h => h.elim) ?_;refine DChG.op rfl (fun _ => ZZ rfl rfl rfl (by decide)) (fun _ => rfl) rfl rfl ?_;refine DChG.op rfl (fun _ => Zp rfl rfl rfl rfl rfl rfl) (fun _ => rfl) rfl rfl ?_;refine DChG.op rfl (fun _ => ZZ rfl rfl rfl (by decide)) (fun _ => rfl) rfl rfl ?_;refine DChG.op rfl (fun _ => ZC rfl rfl rfl rfl rfl) (fun _ => rfl) rfl rfl ?_;refine .al rfl rfl rfl rfl (fun _ => rfl) rfl rfl rfl ?_;refine .sp (j := 4) rfl rfl rfl rfl rfl rfl rfl (fun _ => rfl) rfl rfl rfl (by kernel_rfl) ?_;refine .nil (fun hG => AOps.fin (n := 2) (as' := [(4, 5, 60, [.bool (decide (z1 < 0)), numD z1.natAbs])]) (H' := [exO (decide (z1 < 0)) z1.natAbs d1 e1 neg prefer, rs0, some ⟨[.bool (decide (z1 < 0)), numD z1.natAbs], Zey, 1, true, none⟩]) rfl rfl rfl ?_);refine go ?_;refine Znp rfl (fun h => ?_) (fun h => ?_)
  · skip
    obtain ⟨k, rfl⟩ : ∃ k : Nat, e1 = (k : Int) := ⟨e1.toNat, by omega⟩;have hT : 0 < 10 ^ k := Nat.pow_pos (Nat.succ_pos 9);have hzk : z1.natAbs * 10 ^ k < 10 ^ 9000 := @Zak _ _ _ 9000 j2 (by omega)
    have hzk' : (z1 * ((10 ^ k : Nat) : Int)).natAbs < 10 ^ 9000 := by rw [Zdz]; exact hzk
    have lzk : fitZ (z1 * ((10 ^ k : Nat) : Int)) := fitW hzk' (by omega);have hg : 0 < Nat.gcd (z1 * ((10 ^ k : Nat) : Int)).natAbs d1 := Nat.gcd_pos_of_pos_right _ j3;refine zdr 5 mixC ?_;refine .op rfl (Zp rfl rfl rfl rfl rfl rfl) ?_;refine .op rfl (ZZ rfl rfl rfl (by decide)) ?_;refine .op rfl (ZC rfl rfl rfl rfl rfl) ?_;refine .op rfl (Zb rfl rfl (ZaS k (by omega))) ?_;refine .op rfl (Zb rfl rfl (Zej z1 (10 ^ k) lz1 (fitT (by omega)) lzk)) ?_;refine .nil (fun hG => ?_);refine go ?_;refine Zc rfl rfl (ZhF (z1 * ((10 ^ k : Nat) : Int)) d1 lzk ld1 j3) ?_;refine ga ?_;refine ZI rfl rfl rfl rfl rfl rfl rfl rfl rfl rfl rfl ?_;refine go ?_;refine Zc rfl rfl (Zj9 _ _ neg f dir prefer hf hdr (by rw [Zw]; exact Nat.lt_of_le_of_lt (Nat.div_le_self _ _) hzk') (Nat.div_pos (Nat.gcd_le_right _ j3) hg) (Nat.lt_of_le_of_lt (Nat.div_le_self _ _) (@ZG _ _ 9000 j4 (by omega))) (.inr (Nat.lt_of_le_of_lt (Nat.div_le_self _ _) (@ZG _ _ 850 j4 (by omega)))) (gcd_low j3)) ?_;refine go ?_;refine Zns ?_;rw [RS_low j3]
    have e1 : (if z1 * ((10 ^ k : Nat) : Int) = 0 then neg else decide (z1 * ((10 ^ k : Nat) : Int) < 0)) = (if z1 = 0 then neg else decide (z1 < 0)) := by
      rw [neg_mulN hT]
      by_cases h0 : z1 = 0
      · rw [if_pos h0, if_pos ((Zkw hT).2 h0)]
      rw [if_neg h0, if_neg (fun h3 => h0 ((Zkw hT).1 h3))]
    have e2 := RS_up (f := f) (neg := if z1 = 0 then neg else decide (z1 < 0)) (dir := dir) (prefer := prefer) (n := z1.natAbs) (e := (k : Int)) j3 (by omega);rw [Int.toNat_natCast] at e2;rw [e1, Zdz, e2]; try rfl
  have hzn : z1 ≠ 0 := fun h3 => h (by rw [j7 h3]; decide)
  obtain ⟨k, rfl⟩ : ∃ k : Nat, e1 = -(k : Int) := ⟨(-e1).toNat, by omega⟩
  have hk : k ≤ 6600 := by omega
  have hT : 0 < 10 ^ k := Nat.pow_pos (Nat.succ_pos 9);have hdk : d1 * 10 ^ k < 10 ^ 8000 := @Zak _ _ _ 8000 j4 (by omega);have ldk := fitW hdk (by omega);have hdk0 : 0 < d1 * 10 ^ k := Nat.mul_pos j3 hT;have hg : 0 < Nat.gcd z1.natAbs (d1 * 10 ^ k) := Nat.gcd_pos_of_pos_right _ hdk0;refine gn ?_;refine Za rfl (Znq (d' := .int .i64 (k : Int)) (Zg4 rfl (IntWalk.i64_in _ (by omega))) (congrArg (D.int .i64) (by omega))) ?_;refine Zc rfl rfl (ZaS k (by omega)) ?_;refine Zc rfl rfl (nMul d1 (10 ^ k) ld1 (fitT (by omega)) ldk) ?_;refine go ?_;refine Zc rfl rfl (ZhF z1 (d1 * 10 ^ k) lz1 ldk hdk0) ?_;refine ga ?_;refine ZI rfl rfl rfl rfl rfl rfl rfl rfl rfl rfl rfl ?_;refine go ?_;refine Zc rfl rfl (Zj9 _ _ neg f dir prefer hf hdr (by rw [Zw]; exact Nat.lt_of_le_of_lt (Nat.div_le_self _ _) (@ZG _ _ 9000 j2 (by omega))) (Nat.div_pos (Nat.gcd_le_right _ hdk0) hg) (Nat.lt_of_le_of_lt (Nat.div_le_self _ _) (@ZG _ _ 9000 hdk (by omega))) (.inl (by rw [Zw]; exact Nat.lt_of_le_of_lt (Nat.div_le_self _ _) (@ZG _ _ 900 j2 (by omega)))) (gcd_low hdk0)) ?_;refine go ?_;refine Zns ?_;have e2 := RS_down (f := f) (neg := if z1 = 0 then neg else decide (z1 < 0)) (dir := dir) (prefer := prefer) (n := z1.natAbs) (e := -(k : Int)) j3 (by omega);rw [Int.neg_neg, Int.toNat_natCast] at e2;rw [RS_low hdk0, e2]; try rfl
end Go.V
